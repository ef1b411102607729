import PyProof.Rows.All
import KE.KeyNested
import HandS.Dict
import HandS.ForMost
import HandS.Exc
import HandS.TryOnly
import HandS.TryMany
import HandS.ExcOwn
import HandS.WordsExc
import HandS.Style
import HandS.Wide
import HandS.WideBits
import HandS.More
import HandS.Conv
import HandS.Zip
import HandS.SortInts
import HandS.IsInst
import HandS.TupAny
import HandS.ExcIs
import PySem.Challenge.RW_sandreckoner_k17_digits_of_plain_numbers
set_option Elab.async false
set_option linter.all false
set_option maxRecDepth 100000
set_option maxHeartbeats 1000000
/-! Rn, part A: a dict's look-up where the keys are tuples nested to any depth, no two of them with one hash. -/
namespace Rf
open PySem
section
variable {prog : Program} {w : World} {A : Around} {E : Value → Shared → Prop} {s : Shared}
/-- the question whether == is quiet has some answer, and changes nothing -/
def AnyQuiet (prog : Program) (w : World) (n : Nat) (s : Shared) (v : Value) : Prop :=
  ∀ (A : Around) (E : Value → Shared → Prop) (Q : Bool → Shared → Prop), (∀ b, Q b s) → wpAny (model prog w) A (eqIsQuiet n v) Q E s
theorem anyq_tup {n : Nat} {a : Addr} {o : Obj} {vs : Array Value} {m : Nat} (go : s.heap.get? a = some o) (gc : o.cls = .type "tuple") (gd : o.data = .seq vs m)
    (hall : ∀ k, n = k + 1 → ∀ v ∈ vs.toList, AnyQuiet prog w k s v) : AnyQuiet prog w n s (.ref a) := fun A E Q q => by
  have T : s.TypeIs (.ref a) "tuple" := ⟨o, go, gc⟩
  unfold eqIsQuiet
  refine wpAny_bind (wpAny_specialOf T F.slot_tuple_eq.lookup ?_)
  change wpAny _ _ (isInstance (.ref a) (.type "tuple") >>= _) _ _ s
  refine wpAny_bind (wpAny_isInstance T isSubtype_tuple_tuple ?_)
  simp only [Bool.not_true, Bool.false_eq_true, if_false]
  cases n with
  | zero => exact wpAny_pure (q false)
  | succ k =>
    refine wpAny_bind (wpAny_seqItems go gd ?_)
    refine wpAny_bind ?_
    change wpAny _ _ (forIn vs _ _) _ _ s
    rw [← Array.forIn_toList]
    refine wpAny_forIn_list _ (fun rest r t => (r.1 = none ∧ t = s) ∧ ∀ v ∈ rest, AnyQuiet prog w k s v) _ ?_ ?_ _ _ ⟨⟨rfl, rfl⟩, hall k rfl⟩
    · rintro v rest r t ⟨⟨hr, rfl⟩, al⟩
      refine wpAny_bind (al v List.mem_cons_self _ _ _ fun b => ?_)
      cases b with
      | true =>
        simp only [Bool.not_true, Bool.false_eq_true, if_false]
        exact wpAny_pure ⟨⟨rfl, rfl⟩, fun u hu => al u (List.mem_cons_of_mem _ hu)⟩
      | false =>
        simp only [Bool.not_false, if_true]
        exact wpAny_pure (wpAny_pure (q false))
    · rintro ⟨r1, r2⟩ t ⟨⟨hr, rfl⟩, _⟩
      simp only at hr
      subst hr
      exact wpAny_pure (q true)
mutual
theorem anyq_key : ∀ (k : NestedKey) (v : Value) (n : Nat), NestedIs s.heap k v → AnyQuiet prog w n s v
  | .none, _, n, x => by cases x; exact fun A E Q q => by rw [eqIsQuiet_byValue n rfl]; exact wpAny_pure (q true)
  | .num i, _, n, x => by cases x <;> exact fun A E Q q => by rw [eqIsQuiet_byValue n rfl]; exact wpAny_pure (q true)
  | .text y, _, n, x => by cases x; exact fun A E Q q => by rw [eqIsQuiet_byValue n rfl]; exact wpAny_pure (q true)
  | .tup ks, _, n, x => by
    cases x with
    | tup g1 g2 g3 g4 => exact anyq_tup g1 g2 g3 fun k _ => anyq_keys ks _ k g4
theorem anyq_keys : ∀ (ks : List NestedKey) (vs : List Value) (n : Nat), NestedAll s.heap ks vs → ∀ v ∈ vs, AnyQuiet prog w n s v
  | [], _, n, x, v, hv => by cases x; cases hv
  | k :: ks, _, n, x, v, hv => by
    cases x with
    | cons x1 x2 =>
      rcases List.mem_cons.mp hv with e | hv
      · rw [e]; exact anyq_key k _ n x1
      · exact anyq_keys ks _ n x2 v hv
end
theorem tells_any {a : Addr} {k : NestedKey} {stored : List Value} {Q : Bool → Shared → Prop} (hk : NestedIs s.heap k (.ref a)) (hs : ∀ v ∈ stored, ∃ k', NestedIs s.heap k' v) (q : ∀ b, Q b s) :
    wpAny (model prog w) A (tableMayTell (.ref a) stored) Q E s := by
  unfold tableMayTell
  split
  · exact wpAny_pure (q false)
  · refine wpAny_bind (anyq_key k _ 8 hk _ _ _ fun b => ?_)
    cases b with
    | false =>
      simp only [Bool.not_false, if_true]
      exact wpAny_pure (q true)
    | true =>
      simp only [Bool.not_true, Bool.false_eq_true, if_false]
      refine wpAny_bind ?_
      refine wpAny_forIn_list _ (fun rest r t => (t = s ∧ r = (none, ())) ∧ ∀ v ∈ rest, ∃ k', NestedIs s.heap k' v) _ ?_ ?_ _ _ ⟨⟨rfl, rfl⟩, hs⟩
      · rintro x rest r t ⟨⟨rfl, rfl⟩, al⟩
        obtain ⟨k', hk'⟩ := al x List.mem_cons_self
        refine wpAny_bind (anyq_key k' _ 8 hk' _ _ _ fun b => ?_)
        cases b with
        | false =>
          simp only [Bool.not_false, if_true]
          exact wpAny_pure (wpAny_pure (q true))
        | true =>
          simp only [Bool.not_true, Bool.false_eq_true, if_false]
          exact wpAny_pure ⟨⟨rfl, rfl⟩, fun v hv => al v (List.mem_cons_of_mem _ hv)⟩
      · rintro r t ⟨⟨rfl, rfl⟩, _⟩
        exact wpAny_pure (q false)
/-- an entry's key stands in the heap as a key with its hash -/
def EntOk (w : World) (h : Heap) (e : DictEntry) : Prop := ∃ (k : NestedKey) (b : Addr), e.key = .ref b ∧ NestedIs h k (.ref b) ∧ e.hash = k.hash w
/-- the places of a hash -/
abbrev spots (es : Array DictEntry) (h : Int) : List Nat := (List.range es.size).filter fun i => (es[i]?.map (·.hash)) == some h
theorem find_n {d a : Addr} {o : Obj} {es : Array DictEntry} {ep : Nat} {k0 : NestedKey} {Q : Option Nat → Shared → Prop} (ho : s.heap.get? d = some o) (hd : o.data = .dict es ep)
    (hes : ∀ e ∈ es, EntOk w s.heap e) (hk : NestedIs s.heap k0 (.ref a)) (hu : A.units + k0.depth < cLine)
    (hn : spots es (k0.hash w) = [] → Q none s)
    (h1 : ∀ j, spots es (k0.hash w) = [j] → ∃ e k b, es[j]? = some e ∧ e.key = .ref b ∧ NestedIs s.heap k (.ref b) ∧ e.hash = k0.hash w ∧ k = k0 ∧ Q (some j) s)
    (hfew : spots es (k0.hash w) = [] ∨ ∃ j, spots es (k0.hash w) = [j]) :
    wpAny (model prog w) A (dictFind d (.ref a) (k0.hash w)) Q E s := by
  have hany : ¬ (es.any fun e => e.key == Value.ref a && e.hash != k0.hash w) = true := by
    rw [← Array.any_toList, List.any_eq_true]
    rintro ⟨e, he, hc⟩
    obtain ⟨k, b, e1, e2, e3⟩ := hes e (Array.mem_toList_iff.mp he)
    rw [Bool.and_eq_true, e1, beq_iff_eq, bne_iff_ne] at hc
    obtain ⟨hba, hne⟩ := hc
    cases hba
    exact hne (by rw [e3, NestedIs.inj _ _ _ e2 hk])
  have hpl : placesWithHash es.size (fun i => es[i]?.map (·.hash)) (k0.hash w) = spots es (k0.hash w) := rfl
  unfold dictFind
  try with_reducible refine wpAny_holding ?_
  refine wpAny_bind (wpAny_dictEntries ho hd ?_)
  dsimp only
  rw [hpl]
  rw [if_neg (show ¬ ((Value.ref a :: (spots es (k0.hash w)).filterMap fun i => es[i]?.map (·.key)).all carriedByValue) = true by simp [carriedByValue])]
  rw [if_neg hany]
  generalize hst : (spots es (k0.hash w)).filterMap (fun i => es[i]?.map (·.key)) = stored
  generalize hsp : spots es (k0.hash w) = places at *
  rcases hfew with q0 | ⟨j, qj⟩
  · subst q0
    obtain rfl : stored = [] := hst.symm
    by_cases hone : (([] : List Value) == [Value.ref a]) = true
    · exact absurd hone (by simp)
    · rw [if_neg hone]
      refine wpAny_bind ?_
      unfold tableMayTell
      rw [if_pos (show ([] : List Value).isEmpty = true from rfl)]
      refine wpAny_pure ?_
      rw [if_neg (by simp)]
      refine wpAny_bind ?_
      simp only [List.forIn_nil]
      exact wpAny_pure (wpAny_pure (hn rfl))
  · obtain ⟨e, k, b, g1, g2, g3, g4, rfl, q⟩ := h1 j qj
    subst qj
    obtain rfl : stored = [Value.ref b] := by rw [← hst]; simp [g1, g2]
    have hs1 : ∀ v ∈ [Value.ref b], ∃ k', NestedIs s.heap k' v := fun v hv => by rw [List.mem_singleton] at hv; subst hv; exact ⟨_, g3⟩
    by_cases hone : ([Value.ref b] == [Value.ref a]) = true <;>
    (first | rw [if_pos hone] | rw [if_neg hone]) <;> (first | refine wpAny_bind (wpAny_pure ?_) | refine wpAny_bind (tells_any hk hs1 fun tells => ?_)) <;> (
      rw [if_neg (by simp)]
      refine wpAny_bind ?_
      simp only [List.forIn_cons, List.forIn_nil, g1]
      refine wpAny_bind ?_
      rw [if_pos (by rw [g4]; exact beq_self_eq_true _)]
      refine wpAny_bind (wpAny_dictEpoch ho hd (wpAny_bind ?_))
      rw [g2]
      refine eqAt_key k k A s _ _ g3 hk (by omega) _ _ _ _ ?_
      rw [NestedKey.beq_self]
      refine wpAny_bind (wpAny_dictEpoch ho hd ?_)
      rw [if_neg (by simp)]
      simp only [if_true, Option.isSome_none, Bool.false_eq_true, if_false]
      first | refine wpAny_bind (wpAny_pure ?_) | skip
      refine wpAny_bind (wpAny_rule ?_)
      split
      · exact wpAny_pure (wpAny_pure (wpAny_pure q))
      · rename_i hc; exact absurd (by simp) hc)
end
end Rf

set_option Elab.async false
set_option linter.all false
set_option maxRecDepth 100000
set_option maxHeartbeats 1000000
/-! Rn, part B: get and set at such a key. -/
namespace Rf
open PySem
section
variable {α : Type} (f : α → Int) (h : Int)
def spotL (l : List α) : List Nat := (List.range l.length).filter fun i => (l[i]?.map f) == some h
theorem spotL_snoc (l : List α) (x : α) : spotL f h (l ++ [x]) = spotL f h l ++ if f x == h then [l.length] else [] := by
  unfold spotL
  rw [List.length_append, List.length_singleton, List.range_succ, List.filter_append]
  congr 1
  · refine List.filter_congr fun i hi => ?_
    rw [List.getElem?_append_left (List.mem_range.mp hi)]
  · rw [List.filter_cons, List.filter_nil, List.getElem?_append_right (Nat.le_refl _), Nat.sub_self]
    simp
theorem spotL_rev : ∀ r : List α, (spotL f h r.reverse).map (fun i => r.reverse[i]?) = (r.reverse.filter fun x => f x == h).map some
  | [] => rfl
  | x :: r => by
    have ih := spotL_rev r
    rw [List.reverse_cons]
    generalize r.reverse = l at *
    rw [spotL_snoc, List.map_append, List.filter_append, List.map_append, ← ih]
    congr 1
    · refine List.map_congr_left fun i hi => ?_
      have : i < l.length := List.mem_range.mp (List.mem_filter.mp hi).1
      rw [List.getElem?_append_left this]
    · by_cases e : (f x == h) = true
      · rw [if_pos e, List.filter_cons, if_pos e]; simp
      · rw [if_neg e, List.filter_cons, if_neg e]; simp
theorem spotL_map (l : List α) : (spotL f h l).map (fun i => l[i]?) = (l.filter fun x => f x == h).map some := by
  have := spotL_rev f h l.reverse
  rw [List.reverse_reverse] at this
  exact this
theorem spotL_nil {l : List α} (e : l.filter (fun x => f x == h) = []) : spotL f h l = [] := by
  have := spotL_map f h l
  rw [e, List.map_nil, List.map_eq_nil_iff] at this
  exact this
theorem spotL_one {l : List α} {x : α} (e : l.filter (fun x => f x == h) = [x]) : ∃ j, spotL f h l = [j] ∧ l[j]? = some x := by
  have q := spotL_map f h l
  rw [e] at q
  cases hs : spotL f h l with
  | nil => rw [hs] at q; cases q
  | cons j r =>
    rw [hs] at q
    cases r with
    | nil => exact ⟨j, rfl, by simpa using q⟩
    | cons _ _ => simp at q
theorem modify_one {g : α → α} : ∀ {l : List α} {x : α} {j : Nat}, l.filter (fun x => f x == h) = [x] → l[j]? = some x → l.modify j g = l.map fun y => if f y == h then g y else y
  | [], _, _, e, _ => by simp at e
  | y :: l, x, j, e, hj => by
    have hx : (f x == h) = true := by
      have : x ∈ (y :: l).filter (fun x => f x == h) := by rw [e]; exact List.mem_singleton.mpr rfl
      exact (List.mem_filter.mp this).2
    by_cases hy : (f y == h) = true
    · rw [List.filter_cons, if_pos hy] at e
      injection e with e1 e2
      have none : ∀ z ∈ l, ¬ (f z == h) = true := fun z hz => by
        have := List.filter_eq_nil_iff.mp e2 z hz
        exact this
      have j0 : j = 0 := by
        cases j with
        | zero => rfl
        | succ k =>
          rw [List.getElem?_cons_succ] at hj
          exact absurd hx (none x (List.mem_of_getElem? hj))
      subst j0
      rw [List.modify_zero_cons, List.map_cons, if_pos hy]
      congr 1
      have : l.map (fun y => if f y == h then g y else y) = l.map id := List.map_congr_left fun z hz => by rw [if_neg (none z hz)]; rfl
      rw [this, List.map_id]
    · rw [List.filter_cons, if_neg hy] at e
      cases j with
      | zero =>
        rw [List.getElem?_cons_zero] at hj
        cases hj
        exact absurd hx hy
      | succ k =>
        rw [List.getElem?_cons_succ] at hj
        rw [List.modify_succ_cons, List.map_cons, if_neg hy, modify_one e hj]
end
section
variable {prog : Program} {w : World} {A : Around} {E : Value → Shared → Prop} {s : Shared}
theorem spots_list (es : Array DictEntry) (h : Int) : spots es h = spotL (·.hash) h es.toList := by
  unfold spots spotL
  rw [Array.length_toList]
  refine List.filter_congr fun i _ => ?_
  rw [Array.getElem?_toList]
/-- what the entries are at the key k0: none has its hash, or one, whose key it is -/
def FewAt (w : World) (h : Heap) (es : Array DictEntry) (k0 : NestedKey) : Prop :=
  es.toList.filter (fun e => e.hash == k0.hash w) = [] ∨ ∃ (e : DictEntry) (b : Addr), es.toList.filter (fun e => e.hash == k0.hash w) = [e] ∧ e.key = .ref b ∧ NestedIs h k0 (.ref b)
theorem find_few {d a : Addr} {o : Obj} {es : Array DictEntry} {ep : Nat} {k0 : NestedKey} {Q : Option Nat → Shared → Prop} (ho : s.heap.get? d = some o) (hd : o.data = .dict es ep)
    (hes : ∀ e ∈ es, EntOk w s.heap e) (hk : NestedIs s.heap k0 (.ref a)) (hu : A.units + k0.depth < cLine) (hf : FewAt w s.heap es k0)
    (q0 : es.toList.filter (fun e => e.hash == k0.hash w) = [] → Q none s) (q1 : ∀ j e, es.toList.filter (fun e => e.hash == k0.hash w) = [e] → es.toList[j]? = some e → Q (some j) s) :
    wpAny (model prog w) A (dictFind d (.ref a) (k0.hash w)) Q E s := by
  refine find_n ho hd hes hk hu (fun z => ?_) (fun j z => ?_) ?_
  · rcases hf with hf | ⟨e, b, hf, _⟩
    · exact q0 hf
    · obtain ⟨j, hj, _⟩ := spotL_one _ _ hf
      rw [spots_list, hj] at z; cases z
  · rcases hf with hf | ⟨e, b, hf, g1, g2⟩
    · rw [spots_list, spotL_nil _ _ hf] at z; cases z
    · obtain ⟨j', hj, gj⟩ := spotL_one _ _ hf
      rw [spots_list, hj] at z
      cases z
      have he : (e.hash == k0.hash w) = true := by
        have : e ∈ es.toList.filter (fun e => e.hash == k0.hash w) := by rw [hf]; exact List.mem_singleton.mpr rfl
        exact (List.mem_filter.mp this).2
      exact ⟨e, k0, b, by rw [← Array.getElem?_toList]; exact gj, g1, g2, by simpa using he, rfl, q1 _ e hf gj⟩
  · rcases hf with hf | ⟨e, b, hf, _⟩
    · exact .inl (by rw [spots_list, spotL_nil _ _ hf])
    · obtain ⟨j, hj, _⟩ := spotL_one _ _ hf
      exact .inr ⟨j, by rw [spots_list, hj]⟩
/-- d's value at the key -/
def valN (es : Array DictEntry) (h : Int) : Option Value := ((es.toList.filter fun e => e.hash == h).head?).map (·.val)
theorem dictGet_few {d a : Addr} {o : Obj} {es : Array DictEntry} {ep : Nat} {k0 : NestedKey} {Q : Option Value → Shared → Prop} (ho : s.heap.get? d = some o) (hd : o.data = .dict es ep)
    (hes : ∀ e ∈ es, EntOk w s.heap e) (hk : NestedIs s.heap k0 (.ref a)) (hu : A.units + k0.depth < cLine) (hf : FewAt w s.heap es k0)
    (q : Q (valN es (k0.hash w)) { s with toks := s.toks + k0.draws }) : wpAny (model prog w) A (dictGet d (.ref a)) Q E s := by
  unfold dictGet
  try with_reducible refine wpAny_holding ?_
  refine wpAny_bind (pyHash_key k0 _ A s _ hk hu (wpAny_bind (find_few (s := { s with toks := s.toks + k0.draws }) ho hd hes hk hu hf (fun z => ?_) fun j e z hj => ?_)))
  · unfold valN at q
    rw [z] at q
    exact wpAny_pure q
  · unfold valN at q
    rw [z] at q
    refine wpAny_bind (wpAny_dictEntries (s := { s with toks := s.toks + k0.draws }) ho hd ?_)
    rw [← Array.getElem?_toList, hj]
    exact wpAny_pure q
/-- the entries behind d[k] = v -/
def setN (l : List DictEntry) (h : Int) (a : Addr) (v : Value) : List DictEntry :=
  if (l.filter fun e => e.hash == h) = [] then l ++ [⟨h, .ref a, v⟩] else l.map fun e => if e.hash == h then { e with val := v } else e
theorem dictSet_few {d a : Addr} {o : Obj} {es : Array DictEntry} {ep : Nat} {k0 : NestedKey} {v : Value} {Q : Unit → Shared → Prop} (ho : s.heap.get? d = some o) (hx : o.ExactDict) (hd : o.data = .dict es ep)
    (hes : ∀ e ∈ es, EntOk w s.heap e) (hk : NestedIs s.heap k0 (.ref a)) (hu : A.units + k0.depth < cLine) (hf : FewAt w s.heap es k0) (hz : es.size ≤ sizeLine)
    (q : ∀ h' o' es' ep', h'.get? d = some o' → o'.ExactDict → o'.data = .dict es' ep' → es'.toList = setN es.toList (k0.hash w) a v → Heap.SameBut d s.heap h' → Q () { s with heap := h', toks := s.toks + k0.draws }) :
    wpAny (model prog w) A (dictSet d (.ref a) v) Q E s := by
  unfold dictSet
  try with_reducible refine wpAny_holding ?_
  refine wpAny_bind (pyHash_key k0 _ A s _ hk hu ?_)
  unfold dictSetHashed
  try with_reducible refine wpAny_holding ?_
  refine wpAny_bind (find_few (s := { s with toks := s.toks + k0.draws }) ho hd hes hk hu hf (fun z => ?_) fun j e z hj => ?_)
  · refine wpAny_bind (wpAny_rule (wpAny_updateDictKeys (hz := hz) (s := { s with toks := s.toks + k0.draws }) ho hd ?_))
    refine q _ _ _ _ (Heap.get?_update_self _ ho (Obj.isFreed_of_dict (Obj.data_mapDictKeys hd _))) (hx.mapDictKeys _) (Obj.data_mapDictKeys hd _) ?_ (Heap.SameBut.update ..)
    unfold setN
    rw [if_pos z]
    simp
  · refine wpAny_bind (wpAny_rule (wpAny_bind (wpAny_updateDict (s := { s with toks := s.toks + k0.draws }) ho hd (wpAny_point ?_))))
    refine q _ _ _ _ (Heap.get?_update_self _ ho (Obj.isFreed_of_dict (Obj.data_mapDict hd _))) (hx.mapDict _) (Obj.data_mapDict hd _) ?_ (Heap.SameBut.update ..)
    unfold setN
    rw [if_neg (by rw [z]; exact fun z => nomatch z), ← modify_one (·.hash) (k0.hash w) (g := fun e => { e with val := v }) z hj]
    obtain ⟨l⟩ := es
    simp
end
end Rf

set_option Elab.async false
set_option linter.all false
/-! Rf, part A: a small language over plain data (PyData), its evaluator. -/
namespace Rf
noncomputable section
open PySem

abbrev D := PyData

/-- what a slot of a def holds: nothing, a value, an own list or dict (that may be changed) -/
inductive Slot where
  | un
  | d (x : D)
  | ol (xs : List D)
  | od (kvs : List (D × D))
  | on (kvs : List (D × D))
  | rn (kvs : List (D × D))
  | ob (p : Nat)
abbrev Sl := List Slot

inductive Res (α : Type) where
  | ok (a : α)
  | ex (c : Nat)
  | stuck

def Res.bind {α β : Type} (r : Res α) (f : α → Res β) : Res β := match r with
  | .ok a => f a
  | .ex c => .ex c
  | .stuck => .stuck
@[simp] theorem Res.bind_ok {α β : Type} (a : α) (f : α → Res β) : (Res.ok a).bind f = f a := id rfl
@[simp] theorem Res.bind_ex {α β : Type} (c : Nat) (f : α → Res β) : (Res.ex c : Res α).bind f = .ex c := id rfl
@[simp] theorem Res.bind_stuck {α β : Type} (f : α → Res β) : (Res.stuck : Res α).bind f = .stuck := id rfl
def Res.of {α : Type} : Option α → Res α
  | some a => .ok a
  | none => .stuck
@[simp] theorem Res.of_some {α : Type} (a : α) : Res.of (some a) = .ok a := id rfl
@[simp] theorem Res.of_none {α : Type} : Res.of (none : Option α) = .stuck := id rfl

inductive BOp where
  | add | sub | mul | fdiv | mod | pow | rep | shl | shr | band
inductive COp where
  | eq | ne | lt | le | gt | ge | isin | notin | is | isnot
inductive Blt where
  | len | int | abs | sum | max | min | all | any | tuple | list | sorted | str | dict | isi (T : Nat)
inductive Mth where
  | get | bits | isalpha | islower | lower | upper | swapcase | join
inductive Tgt where
  | nm (i : Nat)
  | tp (ts : List Tgt)
inductive SrcK where
  | lst | tup | str | rng | zip

inductive Exp where
  | nop
  | var (i : Nat)
  | vw (i : Nat)
  | con (x : D)
  | bin (op : BOp) (a b : Exp)
  | cmp (op : COp) (a b : Exp)
  | chain (o1 o2 : COp) (a b c : Exp)
  | and (a b : Exp)
  | or (a b : Exp)
  | not (a : Exp)
  | neg (a : Exp)
  | ite (c a b : Exp)
  | tup (es : List Exp)
  | lst (es : List Exp)
  | emp
  | idx (a i : Exp)
  | sl (a lo hi : Exp)
  | rev (a : Exp)
  | revs (a : Exp)
  | call (f : Nat) (es : List Exp)
  | callv (f : Nat) (es : List Exp)
  | blt (b : Blt) (es : List Exp)
  | mth (m : Mth) (o : Exp) (es : List Exp)
  | dget (o k d : Exp)
  | nget (i : Nat) (k : Exp)
  | ngetd (i : Nat) (k z : Exp)
  | nkeys (i : Nat)
  | calln (f : Nat) (pre : List Exp) (i : Nat) (post : List Exp)
  | slf (i : Nat)
  | onew (f : Nat) (es : List Exp)
  | comp (elt : Exp) (t : Tgt) (k : SrcK) (srcs : List Exp) (ifs : List Exp)

def Exp.isNop : Exp → Bool
  | .nop => true
  | _ => false
/-! ### operations on data -/
def line : Nat := 1000000
abbrev S (l : List Nat) : Str := ⟨l.toArray⟩

def binD : BOp → D → D → Option D
  | .add, .int i, .int j => some (.int (i + j))
  | .add, .str x, .str y => if x.length + y.length ≤ line then some (.str (x ++ y)) else none
  | .add, .list xs, .list ys => if xs.length + ys.length ≤ line then some (.list (xs ++ ys)) else none
  | .add, .tuple (x :: xs), .tuple ys => if (x :: xs).length + ys.length ≤ line then some (.tuple (x :: xs ++ ys)) else none
  | .sub, .int i, .int j => some (.int (i - j))
  | .mul, .int i, .int j => if i.natAbs < 2 ^ 64 ∨ j.natAbs < 2 ^ 64 then some (.int (i * j)) else none
  | .fdiv, .int i, .int j => if 0 < j ∧ j < 1073741824 then some (.int (i / j)) else none
  | .mod, .int i, .int j => if 0 < j then some (.int (i % j)) else none
  | .pow, .int i, .int j => if 0 ≤ j ∧ j ≤ 1000000 ∧ i.natAbs < 2 ^ 64 then some (.int (i ^ j.toNat)) else none
  | .shl, .int i, .int j => if 0 ≤ j ∧ j ≤ 1000000 ∧ i.natAbs < 2 ^ 10000 then some (.int (i * 2 ^ j.toNat)) else none
  | .shr, .int i, .int j => if 0 ≤ j then some (.int (i / 2 ^ j.toNat)) else none
  | .band, .int i, .int j => some (.int (Builtin.bitAnd i j))
  | .rep, .str z, .int j => if z.length = 1 ∧ j ≤ 1000000 ∧ -1000000 ≤ j then some (.str (S (List.replicate j.toNat (z.cps.toList.headD 0)))) else none
  | _, _, _ => none

/-- a op= b of a name -/
def augD (op : BOp) (x y : D) : Option D := match op, x with
  | .rep, _ => none
  | .shl, _ => none
  | .shr, _ => none
  | .band, _ => none
  | _, .int _ => binD op x y
  | _, .str _ => binD op x y
  | _, _ => none
/-- may be compared by == -/
def eqOk (x y : D) : Bool := x.canLay0 && y.canLay0 && decide (min x.depth y.depth ≤ 190)
def flatD : D → Bool
  | .none => true
  | .bool _ => true
  | .int _ => true
  | .str _ => true
  | _ => false
/-- a dict's look-up (keys ints and texts) -/
def keyD : D → Option (Sum Int Str)
  | .int i => some (.inl i)
  | .str x => some (.inr x)
  | _ => none
def keysOk : List (D × D) → Bool
  | [] => true
  | (k, _) :: r => (keyD k).isSome && keysOk r
def lookD (kvs : List (D × D)) (k : D) : Option D := (kvs.find? fun p => PyData.eqv p.1 k).map (·.2)
def putD (kvs : List (D × D)) (k v : D) : List (D × D) :=
  if (lookD kvs k).isSome then kvs.map fun p => if PyData.eqv p.1 k then (p.1, v) else p else kvs ++ [(k, v)]

/-! dicts whose keys are tuples nested to any depth: ints and tuples -/
mutual
def hashN : D → Int
  | .int i => hashInt i
  | .tuple xs => reduceHash (Builtin.Tuple.tupleHashOf (hashNs xs))
  | _ => 0
def hashNs : List D → List Int
  | [] => []
  | x :: r => hashN x :: hashNs r
end
mutual
def nkeyI : D → Bool
  | .int _ => true
  | .tuple xs => nkeyIs xs
  | _ => false
def nkeyIs : List D → Bool
  | [] => true
  | x :: r => nkeyI x && nkeyIs r
end
def nkey : D → Bool
  | .tuple xs => nkeyIs xs && decide ((PyData.tuple xs).depth ≤ 180)
  | _ => false
/-- the entries with the hash of y -/
def withH (kvs : List (D × D)) (y : D) : List (D × D) := kvs.filter fun p => hashN p.1 == hashN y
/-- what a dict holds at y, if no other key has its hash -/
def nlook (kvs : List (D × D)) (y : D) : Option (Option D) := if nkey y then match withH kvs y with
    | [] => some none
    | [p] => if PyData.eqv p.1 y then some (some p.2) else none
    | _ => none
  else none
def nput (kvs : List (D × D)) (y v : D) : List (D × D) := if withH kvs y = [] then kvs ++ [(y, v)] else kvs.map fun p => if hashN p.1 == hashN y then (p.1, v) else p
def isIntD : D → Bool
  | .int _ => true
  | _ => false
def pairsN (kvs : List (D × D)) : D := .list (kvs.map fun p => .tuple [p.1, p.2])
def unpairs : List D → Option (List (D × D))
  | [] => some []
  | .tuple [a, b] :: r => (unpairs r).map ((a, b) :: ·)
  | _ => none
def inD (x y : D) : Option Bool := match y with
  | .list ys => if flatD x && ys.all flatD then some (ys.any fun y => PyData.eqv y x) else none
  | .tuple ys => if flatD x && ys.all flatD then some (ys.any fun y => PyData.eqv y x) else none
  | .str z => match x with
    | .str w => some (!(Builtin.Str.occurrences z w 0 z.length 1).isEmpty)
    | _ => none
  | .dict kvs => if (keyD x).isSome then some (lookD kvs x).isSome else none
  | _ => none

def cmpD : COp → D → D → Option Bool
  | .eq, x, y => if eqOk x y then some (PyData.eqv x y) else none
  | .ne, x, y => if eqOk x y then some (!PyData.eqv x y) else none
  | .lt, .int i, .int j => some (decide (i < j))
  | .le, .int i, .int j => some (decide (i ≤ j))
  | .gt, .int i, .int j => some (decide (j < i))
  | .ge, .int i, .int j => some (decide (j ≤ i))
  | .isin, x, y => inD x y
  | .notin, x, y => (inD x y).map not
  | .is, .bool a, .bool b => some (decide (a = b))
  | .is, .none, .none => some true
  | .is, .int _, .none => some false
  | .is, .bool _, .none => some false
  | .is, .str _, .none => some false
  | .is, .tuple _, .none => some false
  | .is, .list _, .none => some false
  | .isnot, .bool a, .bool b => some (!decide (a = b))
  | .isnot, .none, .none => some false
  | .isnot, .int _, .none => some true
  | .isnot, .bool _, .none => some true
  | .isnot, .str _, .none => some true
  | .isnot, .tuple _, .none => some true
  | .isnot, .list _, .none => some true
  | _, _, _ => none

def idxD : D → D → Option D
  | .list xs, .int i => L2.atI xs i
  | .tuple xs, .int i => L2.atI xs i
  | .str z, .int i => if z.length ≤ line then (L2.atI z.cps.toList i).map fun c => .str (S [c]) else none
  | .dict kvs, k => if (keyD k).isSome then lookD kvs k else none
  | _, _ => none

def cutD {α : Type} (xs : List α) (lo hi : Option Int) : List α := (xs.drop (HT.sIx xs.length 0 lo)).take (HT.sIx xs.length xs.length hi - HT.sIx xs.length 0 lo)
def partD : D → Res (Option Int)
  | .int i => .ok (some i)
  | _ => .stuck
def sliceD (x : D) (lo hi : Option Int) : Option D := match x with
  | .list xs => some (.list (cutD xs lo hi))
  | .tuple xs => some (.tuple (cutD xs lo hi))
  | .str z => if z.length ≤ line then some (.str (S (cutD z.cps.toList lo hi))) else none
  | _ => none
def revD : D → Option D
  | .list xs => some (.list xs.reverse)
  | _ => none
def revsD : D → Option D
  | .str z => if z.length ≤ line then some (.str (S z.cps.toList.reverse)) else none
  | _ => none

def allInts : List D → Option (List Int)
  | [] => some []
  | .int i :: r => (allInts r).map (i :: ·)
  | _ :: _ => none
def allBools : List D → Option (List Bool)
  | [] => some []
  | .bool i :: r => (allBools r).map (i :: ·)
  | _ :: _ => none
def allStrs : List D → Option (List Str)
  | [] => some []
  | .str i :: r => (allStrs r).map (i :: ·)
  | _ :: _ => none
def maxI : List Int → Int
  | [] => 0
  | [x] => x
  | x :: y :: r => max x (maxI (y :: r))
def minI : List Int → Int
  | [] => 0
  | [x] => x
  | x :: y :: r => min x (minI (y :: r))
/-- insertion sort -/
def insI (x : Int) : List Int → List Int
  | [] => [x]
  | y :: r => if x ≤ y then x :: y :: r else y :: insI x r
def sortI : List Int → List Int
  | [] => []
  | x :: r => insI x (sortI r)

def isiD (T : Nat) : D → Option Bool
  | .int _ => some (T == 0)
  | .bool _ => some (T == 0 || T == 1)
  | .str _ => some (T == 2)
  | .tuple _ => some (T == 3)
  | .list _ => some (T == 4)
  | .none => some false
  | _ => none

def bltD : Blt → List D → Option D
  | .len, [.list xs] => some (.int xs.length)
  | .len, [.tuple xs] => some (.int xs.length)
  | .len, [.str z] => if z.length ≤ line then some (.int z.length) else none
  | .len, [.dict kvs] => some (.int kvs.length)
  | .int, [.int i] => some (.int i)
  | .int, [.bool b] => some (.int (if b then 1 else 0))
  | .abs, [.int i] => some (.int (if i < 0 then -i else i))
  | .sum, [.list xs] => (allInts xs).map fun l => .int l.sum
  | .max, [.int i, .int j] => some (.int (if j > i then j else i))
  | .min, [.int i, .int j] => some (.int (if j < i then j else i))
  | .max, [.list xs] => if xs = [] then none else (allInts xs).map fun l => .int (maxI l)
  | .min, [.list xs] => if xs = [] then none else (allInts xs).map fun l => .int (minI l)
  | .all, [.list xs] => (allBools xs).map fun l => .bool (l.all id)
  | .any, [.list xs] => (allBools xs).map fun l => .bool (l.any id)
  | .tuple, [.list xs] => some (.tuple xs)
  | .tuple, [.tuple xs] => some (.tuple xs)
  | .list, [.list xs] => some (.list xs)
  | .list, [.tuple xs] => some (.list xs)
  | .sorted, [.list xs] => (allInts xs).map fun l => .list ((sortI l).map .int)
  | .sorted, [.dict kvs] => if kvs.length < 64 then (allInts (kvs.map (·.1))).map fun l => .list ((sortI l).map .int) else none
  | .dict, [.dict kvs] => some (.dict kvs)
  | .str, [.int i] => if i.natAbs.log2 < 1920 then some (.str (toString i)) else none
  | .isi T, [x] => (isiD T x).map .bool
  | _, _ => none

def strM (m : Mth) (z : Str) : Option D := match m with
  | .isalpha => some (.bool (Txt.isalpha z))
  | .islower => some (.bool (Txt.islower z))
  | .lower => if z.length ≤ line then some (.str (Txt.lower z)) else none
  | .upper => if z.length ≤ line then some (.str (Txt.upper z)) else none
  | .swapcase => if z.length ≤ line then some (.str (Txt.swapcase z)) else none
  | _ => none
def mthD : Mth → D → List D → Option D
  | .get, .dict kvs, [k, x] => if (keyD k).isSome then some ((lookD kvs k).getD x) else none
  | .bits, .int i, [] => some (.int ((Builtin.Int.intBits i : Nat) : Int))
  | .join, .str z, [.list xs] => (allStrs xs).bind fun ys => if (ys.map (·.length)).sum + ys.length * z.length ≤ line then some (.str (Txt.join z ys)) else none
  | m, .str z, [] => strM m z
  | _, _, _ => none

def zipD : List D → List D → List D
  | x :: xs, y :: ys => .tuple [x, y] :: zipD xs ys
  | _, _ => []
def rngD (lo : Int) (n : Nat) : List D := (List.range n).map fun (i : Nat) => .int (lo + (i : Int))
def srcD : SrcK → List D → Option (List D)
  | .lst, [.list xs] => some xs
  | .tup, [.tuple xs] => some xs
  | .str, [.str z] => some (z.cps.toList.map fun c => .str (S [c]))
  | .rng, [.int n] => if -(2 ^ 62) ≤ n ∧ n < 2 ^ 62 then some (rngD 0 n.toNat) else none
  | .rng, [.int a, .int b] => if -(2 ^ 62) ≤ a ∧ a < 2 ^ 62 ∧ -(2 ^ 62) ≤ b ∧ b < 2 ^ 62 then some (rngD a (b - a).toNat) else none
  | .zip, [.list xs, .list ys] => some (zipD xs ys)
  | .zip, [.tuple xs, .tuple ys] => some (zipD xs ys)
  | _, _ => none

mutual
/-- holds no list, no dict -/
def noLst : D → Bool
  | .list _ => false
  | .dict _ => false
  | .tuple xs => noLsts xs
  | .none => true
  | .bool _ => true
  | .int _ => true
  | .str _ => true
def noLsts : List D → Bool
  | [] => true
  | x :: r => noLst x && noLsts r
end

mutual
/-- holds no dict -/
def noDct : D → Bool
  | .dict _ => false
  | .list xs => noDcts xs
  | .tuple xs => noDcts xs
  | .none => true
  | .bool _ => true
  | .int _ => true
  | .str _ => true
def noDcts : List D → Bool
  | [] => true
  | x :: r => noDct x && noDcts r
end
/-- plain slots: no own ones, no dicts -/
def okS (e : Sl) : Bool := e.all fun s => match s with
  | .un => true
  | .ob _ => true
  | .d x => noDct x
  | _ => false

/-! ### binding -/
mutual
def bindT : Tgt → D → Sl → Option Sl
  | .nm i, x, e => if i < e.length then some (e.set i (.d x)) else none
  | .tp ts, x, e => match x with
    | .tuple xs => bindTs ts xs e
    | _ => none
def bindTs : List Tgt → List D → Sl → Option Sl
  | [], [], e => some e
  | t :: ts, x :: xs, e => (bindT t x e).bind fun e' => bindTs ts xs e'
  | _, _, _ => none
end

/-! the places of a target -/
mutual
def Tgt.ix : Tgt → List Nat
  | .nm i => [i]
  | .tp ts => Tgt.ixs ts
def Tgt.ixs : List Tgt → List Nat
  | [] => []
  | t :: r => t.ix ++ Tgt.ixs r
end
def wipeS (e : Sl) : List Nat → Sl
  | [] => e
  | v :: vs => (wipeS e vs).set v .un
def isOwn : Slot → Bool
  | .ol _ => true
  | .od _ => true
  | .on _ => true
  | _ => false
def freeOf (e : Sl) (vs : List Nat) : Bool := vs.all fun i => match e[i]? with
  | some s => !isOwn s
  | none => false

/-! ### expressions -/
/-- the turns of a comprehension -/
def compL (f : Sl → Res D) (g : Sl → Res Bool) (t : Tgt) : List D → Sl → Res (List D)
  | [], _ => .ok []
  | x :: xs, e => match bindT t x e with
    | none => .stuck
    | some e1 => (g e1).bind fun b =>
      if b then (f e1).bind fun y => (compL f g t xs e).bind fun ys => .ok (y :: ys) else compL f g t xs e
def noEx {α : Type} : Res α → Res α
  | .ok a => .ok a
  | _ => .stuck
abbrev FT := Nat → List D → Res D

open Classical in
/-- a method of a new object: alike at every place -/
def newK (Φ : FT) (f : Nat) (xs : List D) : Res D := if h : ∃ r, noDcts xs = true ∧ noLst r = true ∧ ∀ p : Nat, Φ f (.int (p : Nat) :: xs) = .ok r then .ok h.choose else .stuck
mutual
def ev (Φ : FT) : Exp → Sl → Res D
  | .nop, _ => .ok .none
  | .var i, e => match e[i]? with
    | some (.d x) => .ok x
    | _ => .stuck
  | .vw i, e => match e[i]? with
    | some (.d x) => .ok x
    | some (.ol xs) => .ok (.list xs)
    | some (.od kvs) => .ok (.dict kvs)
    | _ => .stuck
  | .con x, _ => .ok x
  | .bin op a b, e => (ev Φ a e).bind fun x => (ev Φ b e).bind fun y => .of (binD op x y)
  | .cmp op a b, e => (ev Φ a e).bind fun x => (ev Φ b e).bind fun y => .of ((cmpD op x y).map .bool)
  | .chain o1 o2 a b c, e => (ev Φ a e).bind fun x => (ev Φ b e).bind fun y => (Res.of (cmpD o1 x y)).bind fun k =>
      if k then (ev Φ c e).bind fun z => .of ((cmpD o2 y z).map .bool) else .ok (.bool false)
  | .and a b, e => (ev Φ a e).bind fun x => match x with
    | .bool true => ev Φ b e
    | .bool false => .ok (.bool false)
    | _ => .stuck
  | .or a b, e => (ev Φ a e).bind fun x => match x with
    | .bool true => .ok (.bool true)
    | .bool false => ev Φ b e
    | _ => .stuck
  | .not a, e => (ev Φ a e).bind fun x => match x with
    | .bool k => .ok (.bool (!k))
    | _ => .stuck
  | .neg a, e => (ev Φ a e).bind fun x => match x with
    | .int i => .ok (.int (-i))
    | _ => .stuck
  | .ite c a b, e => (ev Φ c e).bind fun x => match x with
    | .bool true => ev Φ a e
    | .bool false => ev Φ b e
    | _ => .stuck
  | .tup es, e => (evs Φ es e).bind fun xs => .ok (.tuple xs)
  | .lst es, e => (evs Φ es e).bind fun xs => .ok (.list xs)
  | .emp, _ => .ok (.dict [])
  | .idx a i, e => (ev Φ a e).bind fun x => (ev Φ i e).bind fun y => .of (idxD x y)
  | .sl a lo hi, e => (ev Φ a e).bind fun x => (if lo.isNop then .ok none else (ev Φ lo e).bind partD).bind fun l => (if hi.isNop then .ok none else (ev Φ hi e).bind partD).bind fun h => .of (sliceD x l h)
  | .rev a, e => (ev Φ a e).bind fun x => .of (revD x)
  | .revs a, e => (ev Φ a e).bind fun x => .of (revsD x)
  | .call f es, e => (evs Φ es e).bind fun xs => Φ f xs
  | .callv f es, e => (evs Φ es e).bind fun xs => (Φ f xs).bind fun y => if noLst y then .ok y else .stuck
  | .blt b es, e => (evs Φ es e).bind fun xs => .of (bltD b xs)
  | .mth m o es, e => (ev Φ o e).bind fun x => (evs Φ es e).bind fun xs => .of (mthD m x xs)
  | .slf i, e => match e[i]? with
    | some (.ob p) => .ok (.int (p : Nat))
    | _ => .stuck
  | .onew f es, e => (evs Φ es e).bind fun xs => newK Φ f xs
  | .nget i k, e => match e[i]? with
    | some (.on kvs) => (ev Φ k e).bind fun y => (Res.of (nlook kvs y)).bind .of
    | some (.rn kvs) => (ev Φ k e).bind fun y => (Res.of (nlook kvs y)).bind .of
    | _ => .stuck
  | .ngetd i k z, e => match e[i]? with
    | some (.on kvs) => (ev Φ k e).bind fun y => (ev Φ z e).bind fun x => if isIntD x then (Res.of (nlook kvs y)).bind fun o => .ok (o.getD x) else .stuck
    | some (.rn kvs) => (ev Φ k e).bind fun y => (ev Φ z e).bind fun x => if isIntD x then (Res.of (nlook kvs y)).bind fun o => .ok (o.getD x) else .stuck
    | _ => .stuck
  | .nkeys i, e => match e[i]? with
    | some (.on kvs) => .ok (.list (kvs.map (·.1)))
    | some (.rn kvs) => .ok (.list (kvs.map (·.1)))
    | _ => .stuck
  | .calln f pre i post, e => match e[i]? with
    | some (.on kvs) => (evs Φ pre e).bind fun xs => (evs Φ post e).bind fun ys => (Φ f (xs ++ pairsN kvs :: ys)).bind fun y => if noLst y then .ok y else .stuck
    | _ => .stuck
  | .dget o k d, e => (ev Φ o e).bind fun x => match x with
    | .dict kvs => (ev Φ k e).bind fun y => (ev Φ d e).bind fun z => .of (mthD .get (.dict kvs) [y, z])
    | _ => .stuck
  | .comp elt t k srcs ifs, e => (evs Φ srcs e).bind fun xs => (Res.of (srcD k xs)).bind fun its =>
      if freeOf e t.ix && decide (its.length ≤ line) then (noEx (compL (fun e' => ev Φ elt e') (fun e' => evt Φ ifs e') t its (wipeS e t.ix))).bind fun ys => .ok (.list ys) else .stuck
def evs (Φ : FT) : List Exp → Sl → Res (List D)
  | [], _ => .ok []
  | a :: r, e => (ev Φ a e).bind fun x => (evs Φ r e).bind fun xs => .ok (x :: xs)
def evt (Φ : FT) : List Exp → Sl → Res Bool
  | [], _ => .ok true
  | a :: r, e => (ev Φ a e).bind fun x => match x with
    | .bool true => evt Φ r e
    | .bool false => .ok false
    | _ => .stuck
end

/-! ### statements -/
inductive Stm where
  | asg (t : Tgt) (e : Exp)
  | par (i j : Nat) (a b : Exp)
  | aug (i : Nat) (op : BOp) (e : Exp)
  | own (i : Nat) (e : Exp)
  | app (i : Nat) (e : Exp)
  | ins (i : Nat) (j e : Exp)
  | pop (i : Nat)
  | popto (t i : Nat)
  | setl (i : Nat) (k e : Exp)
  | setd (i : Nat) (k e : Exp)
  | nowe (i : Nat)
  | nset (i : Nat) (k e : Exp)
  | objn (i : Nat)
  | give (i : Nat)
  | obj (i : Nat)
  | chk
  | stop
  | expr (e : Exp)
  | ret (e : Exp)
  | retn
  | ifs (c : Exp) (a b : List Stm)
  | for (t : Tgt) (k : SrcK) (srcs : List Exp) (body : List Stm)
  | ford (t : Tgt) (i : Nat) (body : List Stm)
  | whl (c : Exp) (body : List Stm)
  | brk
  | cnt
  | pas
  | rse (c : Nat)
  | tri (i : Nat) (body : List Stm) (ok : List Nat) (r : List (Nat × D))
  | trx (i : Nat) (body : List Stm) (ok : List Nat) (r : List (Nat × Exp))

inductive Out where
  | nx (e : Sl)
  | ret (x : D)
  | bk (e : Sl)
  | ct (e : Sl)
  | ex (c : Nat) (e : Sl)
  | stuck

def Out.ofR {α : Type} (r : Res α) (e : Sl) (f : α → Out) : Out := match r with
  | .ok a => f a
  | .ex c => .ex c e
  | .stuck => .stuck
@[simp] theorem Out.ofR_ok {α : Type} (a : α) (e : Sl) (f : α → Out) : Out.ofR (.ok a) e f = f a := id rfl
@[simp] theorem Out.ofR_ex {α : Type} (c : Nat) (e : Sl) (f : α → Out) : Out.ofR (.ex c : Res α) e f = .ex c e := id rfl
@[simp] theorem Out.ofR_stuck {α : Type} (e : Sl) (f : α → Out) : Out.ofR (.stuck : Res α) e f = .stuck := id rfl
def Out.seq (o : Out) (f : Sl → Out) : Out := match o with
  | .nx e => f e
  | o => o
@[simp] theorem Out.seq_nx (e : Sl) (f : Sl → Out) : (Out.nx e).seq f = f e := id rfl
@[simp] theorem Out.seq_ret (x : D) (f : Sl → Out) : (Out.ret x).seq f = .ret x := id rfl
@[simp] theorem Out.seq_bk (e : Sl) (f : Sl → Out) : (Out.bk e).seq f = .bk e := id rfl
@[simp] theorem Out.seq_ct (e : Sl) (f : Sl → Out) : (Out.ct e).seq f = .ct e := id rfl
@[simp] theorem Out.seq_ex (c : Nat) (e : Sl) (f : Sl → Out) : (Out.ex c e).seq f = .ex c e := id rfl
@[simp] theorem Out.seq_stuck (f : Sl → Out) : Out.stuck.seq f = .stuck := id rfl
/-- what a loop's turn hands on -/
def Out.turn (o : Out) (f : Sl → Out) : Out := match o with
  | .nx e => f e
  | .ct e => f e
  | .bk e => .nx e
  | o => o
@[simp] theorem Out.turn_nx (e : Sl) (f : Sl → Out) : (Out.nx e).turn f = f e := id rfl
@[simp] theorem Out.turn_ret (x : D) (f : Sl → Out) : (Out.ret x).turn f = .ret x := id rfl
@[simp] theorem Out.turn_bk (e : Sl) (f : Sl → Out) : (Out.bk e).turn f = .nx e := id rfl
@[simp] theorem Out.turn_ct (e : Sl) (f : Sl → Out) : (Out.ct e).turn f = f e := id rfl
@[simp] theorem Out.turn_ex (c : Nat) (e : Sl) (f : Sl → Out) : (Out.ex c e).turn f = .ex c e := id rfl
@[simp] theorem Out.turn_stuck (f : Sl → Out) : Out.stuck.turn f = .stuck := id rfl

def forL (b : Sl → Out) (t : Tgt) : List D → Sl → Out
  | [], e => .nx e
  | x :: xs, e => match bindT t x e with
    | none => .stuck
    | some e1 => (b e1).turn fun e2 => forL b t xs e2
def whileF (c : Sl → Res D) (b : Sl → Out) : Nat → Sl → Out
  | 0, _ => .stuck
  | n + 1, e => Out.ofR (c e) e fun x => match x with
    | .bool true => (b e).turn fun e2 => whileF c b n e2
    | .bool false => .nx e
    | _ => .stuck
/-- no exception -/
def Out.calm : Out → Out
  | .ex _ _ => .stuck
  | o => o
@[simp] theorem Out.calm_nx (e : Sl) : (Out.nx e).calm = .nx e := id rfl
@[simp] theorem Out.calm_ret (x : D) : (Out.ret x).calm = .ret x := id rfl
def ownS : D → Option Slot
  | .list xs => some (.ol xs)
  | .dict kvs => if keysOk kvs then some (.od kvs) else none
  | _ => none

mutual
def exec (Φ : FT) (F : Nat) : Stm → Sl → Out
  | .asg t a, e => Out.ofR (ev Φ a e) e fun x => match bindT t x e with
    | some e' => .nx e'
    | none => .stuck
  | .par i j a b, e => Out.ofR (ev Φ a e) e fun x => Out.ofR (ev Φ b e) e fun y => if i < e.length ∧ j < e.length then .nx ((e.set i (.d x)).set j (.d y)) else .stuck
  | .aug i op a, e => match e[i]? with
    | some (.d x) => Out.ofR (ev Φ a e) e fun y => match augD op x y with
      | some z => .nx (e.set i (.d z))
      | none => .stuck
    | _ => .stuck
  | .own i a, e => Out.ofR (ev Φ a e) e fun x => match ownS x with
    | some s => if i < e.length then .nx (e.set i s) else .stuck
    | none => .stuck
  | .app i a, e => match e[i]? with
    | some (.ol xs) => Out.ofR (ev Φ a e) e fun x => if xs.length < line then .nx (e.set i (.ol (xs ++ [x]))) else .stuck
    | _ => .stuck
  | .ins i j a, e => match e[i]? with
    | some (.ol xs) => Out.ofR (ev Φ j e) e fun k => Out.ofR (ev Φ a e) e fun x => match k with
      | .int k => if 0 ≤ k ∧ k < 2 ^ 63 ∧ xs.length < line then .nx (e.set i (.ol (xs.take k.toNat ++ [x] ++ xs.drop k.toNat))) else .stuck
      | _ => .stuck
    | _ => .stuck
  | .pop i, e => match e[i]? with
    | some (.ol xs) => if xs = [] then .stuck else .nx (e.set i (.ol xs.dropLast))
    | _ => .stuck
  | .popto t i, e => match e[i]? with
    | some (.ol xs) => match xs[xs.length - 1]? with
      | some x => if t < e.length ∧ t ≠ i then .nx ((e.set i (.ol xs.dropLast)).set t (.d x)) else .stuck
      | none => .stuck
    | _ => .stuck
  | .setl i k a, e => match e[i]? with
    | some (.ol xs) => Out.ofR (ev Φ a e) e fun x => Out.ofR (ev Φ k e) e fun k => match k with
      | .int k => match L2.ixN xs.length k with
        | some j => .nx (e.set i (.ol (xs.set j x)))
        | none => .stuck
      | _ => .stuck
    | _ => .stuck
  | .setd i k a, e => match e[i]? with
    | some (.od kvs) => Out.ofR (ev Φ a e) e fun x => Out.ofR (ev Φ k e) e fun k => if (keyD k).isSome ∧ kvs.length < line then .nx (e.set i (.od (putD kvs k x))) else .stuck
    | _ => .stuck
  | .nowe i, e => if i < e.length then .nx (e.set i (.on [])) else .stuck
  | .nset i k a, e => match e[i]? with
    | some (.on kvs) => Out.ofR (ev Φ a e) e fun x => Out.ofR (ev Φ k e) e fun y => if isIntD x && (nlook kvs y).isSome && decide (kvs.length < line) then .nx (e.set i (.on (nput kvs y x))) else .stuck
    | _ => .stuck
  | .objn i, e => match e[i]? with
    | some (.d (.list xs)) => match unpairs xs with
      | some kvs => .nx (e.set i (.rn kvs))
      | none => .stuck
    | _ => .stuck
  | .give i, e => match e[i]? with
    | some (.ol xs) => .nx (e.set i (.d (.list xs)))
    | _ => .stuck
  | .obj i, e => match e[i]? with
    | some (.d (.int p)) => if 0 ≤ p then .nx (e.set i (.ob p.toNat)) else .stuck
    | _ => .stuck
  | .chk, e => if okS e then .nx e else .stuck
  | .stop, _ => .stuck
  | .expr a, e => Out.ofR (ev Φ a e) e fun _ => .nx e
  | .ret a, e => Out.ofR (ev Φ a e) e fun x => .ret x
  | .retn, _ => .ret .none
  | .ifs c a b, e => Out.ofR (ev Φ c e) e fun x => match x with
    | .bool true => execs Φ F a e
    | .bool false => execs Φ F b e
    | _ => .stuck
  | .for t k srcs body, e => Out.ofR (evs Φ srcs e) e fun xs => match srcD k xs with
    | some its => forL (fun e' => execs Φ F body e') t its e
    | none => .stuck
  | .ford t i body, e => match e[i]? with
    | some (.d (.dict kvs)) => (forL (fun e' => execs Φ F body e') t (kvs.map (·.1)) e).calm
    | _ => .stuck
  | .whl c body, e => whileF (fun e' => ev Φ c e') (fun e' => execs Φ F body e') F e
  | .brk, e => .bk e
  | .cnt, e => .ct e
  | .pas, e => .nx e
  | .rse c, e => .ex c e
  | .tri i body ok r, e => match execs Φ F body e with
    | .ex c e' => match r.lookup c with
      | some x => if i < e'.length then .ret x else .stuck
      | none => if ok.contains c then .ex c e' else .stuck
    | o => o
  | .trx i body ok r, e => match execs Φ F body e with
    | .ex c e' => match r.lookup c with
      | some A => if i < e'.length then (match ev Φ A (e'.set i .un) with
        | .ok x => .ret x
        | _ => .stuck) else .stuck
      | none => if ok.contains c then .ex c e' else .stuck
    | o => o
def execs (Φ : FT) (F : Nat) : List Stm → Sl → Out
  | [], e => .nx e
  | s :: r, e => (exec Φ F s e).seq fun e' => execs Φ F r e'
end

/-- a def: its parameters' number, its slots, its body -/
structure Fdef where
  np : Nat
  ns : Nat
  body : List Stm
def Fdef.run (f : Fdef) (Φ : FT) (F : Nat) (args : List D) : Res D :=
  if args.length = f.np then
    match execs Φ F f.body (args.map .d ++ List.replicate (f.ns - f.np) .un) with
    | .ret x => .ok x
    | .nx _ => .ok .none
    | .ex c _ => .ex c
    | _ => .stuck
  else .stuck
/-- the program's defs, called n deep -/
def phi (T : List Fdef) (F : Nat) : Nat → FT
  | 0 => fun _ _ => .stuck
  | n + 1 => fun f args => match T[f]? with
    | some fn => fn.run (phi T F n) F args
    | none => .stuck
end
end Rf

set_option Elab.async false
set_option linter.all false
/-! Rf, part B: data in the abstract heap; what a reading is by the evaluator. -/
namespace Rf
noncomputable section
open PySem PySem.Spec PyProof.Rows L2

def keyOf : Key → D
  | .inl i => .int i
  | .inr x => .str x

/-- a list of the written part -/
def KLst (K : PySem.W.Frag) (a : Addr) (xs : List V) : Prop := ∃ (o : Obj) (its : Array Value) (n : Nat), K.lookup a = some o ∧ o.cls = .type "list" ∧ o.dict = none ∧ o.data = .seq its n ∧ its.size ≤ sizeLine ∧ Vals xs its.toList
mutual
/-- the value v is the data d; lists and dicts within are none that av tells of -/
inductive Den (K : PySem.W.Frag) (av : Addr → Prop) (H : Hp) : V → D → Prop
  | none : Den K av H .non .none
  | bool (b : Bool) : Den K av H (.bl b) (.bool b)
  | int (i : Int) : Den K av H (.int i) (.int i)
  | str (x : Str) : Den K av H (.str x) (.str x)
  | list {a : Addr} {xs : List V} {ds : List D} : SqL K H a xs → (¬ av a ∨ KLst K a xs) → Dens K av H xs ds → Den K av H (.ref a) (.list ds)
  | tuple {a : Addr} {xs : List V} {ds : List D} : SqT K H a xs → Dens K av H xs ds → Den K av H (.ref a) (.tuple ds)
  | dict {a : Addr} {ks : List (Key × V)} {ds : List (D × D)} : Rd H a (.dK ks) → ¬ av a → DenKs K av H ks ds → Den K av H (.ref a) (.dict ds)
inductive Dens (K : PySem.W.Frag) (av : Addr → Prop) (H : Hp) : List V → List D → Prop
  | nil : Dens K av H [] []
  | cons {v : V} {d : D} {vs : List V} {ds : List D} : Den K av H v d → Dens K av H vs ds → Dens K av H (v :: vs) (d :: ds)
inductive DenKs (K : PySem.W.Frag) (av : Addr → Prop) (H : Hp) : List (Key × V) → List (D × D) → Prop
  | nil : DenKs K av H [] []
  | cons {k : Key} {v : V} {d : D} {ks : List (Key × V)} {ds : List (D × D)} : Den K av H v d → DenKs K av H ks ds → DenKs K av H ((k, v) :: ks) ((keyOf k, d) :: ds)
end

section
variable {K : PySem.W.Frag} {av av' : Addr → Prop} {H H' : Hp}
theorem same_rd (s : Same H H') {a : Addr} {u : HO} (h : Rd H a u) : Rd H' a u := by
  rcases h with h | ⟨o, h⟩
  · exact .inl (s _ _ h)
  · exact .inr ⟨o, s _ _ h⟩
theorem same_sqT (s : Same H H') {a : Addr} {xs : List V} (h : SqT K H a xs) : SqT K H' a xs := by
  rcases h with h | h
  · exact .inl (same_rd s h)
  · exact .inr h
theorem rd_ne {a : Addr} {u : HO} (h : Rd H a u) : H a ≠ none := by
  rcases h with h | ⟨o, h⟩ <;> (rw [h]; exact fun z => nomatch z)
theorem nav_imp {H : Hp} {b b' : Addr → Prop} {a : Addr} {xs : List V} (h : SqL K H a xs) (n : ¬ b a ∨ KLst K a xs) (g : H a ≠ none → b' a → b a) : ¬ b' a ∨ KLst K a xs := n.elim (fun n => h.elim (fun r => .inl fun z => n (g (rd_ne r) z)) .inr) .inr
mutual
theorem Den.imp (f : ∀ a u, Rd H a u → Rd H' a u) (g : ∀ a, H a ≠ none → av' a → av a) : ∀ {v : V} {d : D}, Den K av H v d → Den K av' H' v d
  | _, _, .none => .none
  | _, _, .bool b => .bool b
  | _, _, .int i => .int i
  | _, _, .str x => .str x
  | _, _, .list h n t => .list (h.imp (f _ _) id) (nav_imp h n fun r z => g _ r z) (Dens.imp f g t)
  | _, _, .tuple h t => .tuple (h.imp (f _ _) id) (Dens.imp f g t)
  | _, _, .dict h n t => .dict (f _ _ h) (fun z => n (g _ (rd_ne h) z)) (DenKs.imp f g t)
theorem Dens.imp (f : ∀ a u, Rd H a u → Rd H' a u) (g : ∀ a, H a ≠ none → av' a → av a) : ∀ {v : List V} {d : List D}, Dens K av H v d → Dens K av' H' v d
  | _, _, .nil => .nil
  | _, _, .cons a b => .cons (Den.imp f g a) (Dens.imp f g b)
theorem DenKs.imp (f : ∀ a u, Rd H a u → Rd H' a u) (g : ∀ a, H a ≠ none → av' a → av a) : ∀ {v : List (Key × V)} {d : List (D × D)}, DenKs K av H v d → DenKs K av' H' v d
  | _, _, .nil => .nil
  | _, _, .cons a b => .cons (Den.imp f g a) (DenKs.imp f g b)
end
theorem Den.same (s : Same H H') {v : V} {d : D} (h : Den K av H v d) : Den K av H' v d := h.imp (fun _ _ => same_rd s) fun _ _ z => z
theorem Dens.same (s : Same H H') {v : List V} {d : List D} (h : Dens K av H v d) : Dens K av H' v d := h.imp (fun _ _ => same_rd s) fun _ _ z => z
theorem DenKs.same (s : Same H H') {v : List (Key × V)} {d : List (D × D)} (h : DenKs K av H v d) : DenKs K av H' v d := h.imp (fun _ _ => same_rd s) fun _ _ z => z
theorem Dens.length : ∀ {v : List V} {d : List D}, Dens K av H v d → v.length = d.length
  | _, _, .nil => rfl
  | _, _, .cons _ b => congrArg (· + 1) b.length
theorem Dens.get : ∀ {v : List V} {d : List D} {i : Nat} {x : V}, Dens K av H v d → v[i]? = some x → ∃ y, d[i]? = some y ∧ Den K av H x y
  | _, _, _, _, .nil, h => by simp at h
  | _, _, 0, _, .cons a _, h => by simp at h; subst h; exact ⟨_, rfl, a⟩
  | _, _, i + 1, x, .cons _ b, h => by
    obtain ⟨y, h1, h2⟩ := b.get (i := i) (x := x) (by simpa using h)
    exact ⟨y, by simpa using h1, h2⟩
theorem Dens.getD : ∀ {v : List V} {d : List D} {i : Nat} {y : D}, Dens K av H v d → d[i]? = some y → ∃ x, v[i]? = some x ∧ Den K av H x y
  | _, _, _, _, .nil, h => by simp at h
  | _, _, 0, _, .cons a _, h => by simp at h; subst h; exact ⟨_, rfl, a⟩
  | _, _, i + 1, x, .cons _ b, h => by
    obtain ⟨y, h1, h2⟩ := b.getD (i := i) (y := x) (by simpa using h)
    exact ⟨y, by simpa using h1, h2⟩
theorem Dens.append : ∀ {v w : List V} {d e : List D}, Dens K av H v d → Dens K av H w e → Dens K av H (v ++ w) (d ++ e)
  | _, _, _, _, .nil, h => h
  | _, _, _, _, .cons a b, h => .cons a (b.append h)
theorem Dens.take : ∀ {v : List V} {d : List D} (n : Nat), Dens K av H v d → Dens K av H (v.take n) (d.take n)
  | _, _, 0, _ => .nil
  | _, _, _ + 1, .nil => .nil
  | _, _, n + 1, .cons a b => .cons a (b.take n)
theorem Dens.drop : ∀ {v : List V} {d : List D} (n : Nat), Dens K av H v d → Dens K av H (v.drop n) (d.drop n)
  | _, _, 0, h => h
  | _, _, _ + 1, .nil => .nil
  | _, _, n + 1, .cons _ b => b.drop n
theorem Dens.reverse {v : List V} {d : List D} (h : Dens K av H v d) : Dens K av H v.reverse d.reverse := by
  induction d generalizing v with
  | nil => cases h; exact .nil
  | cons x d ih =>
    cases h with
    | cons a b =>
      rw [List.reverse_cons, List.reverse_cons]
      exact (ih b).append (.cons a .nil)
theorem Dens.set : ∀ {v : List V} {d : List D} (i : Nat) {x : V} {y : D}, Dens K av H v d → Den K av H x y → Dens K av H (v.set i x) (d.set i y)
  | _, _, _, _, _, .nil, _ => .nil
  | _, _, 0, _, _, .cons _ b, h => .cons h b
  | _, _, i + 1, _, _, .cons a b, h => .cons a (b.set i h)
theorem Dens.dropLast {v : List V} {d : List D} (h : Dens K av H v d) : Dens K av H v.dropLast d.dropLast := by
  rw [List.dropLast_eq_take, List.dropLast_eq_take, h.length]
  exact h.take _
theorem DenKs.length : ∀ {v : List (Key × V)} {d : List (D × D)}, DenKs K av H v d → v.length = d.length
  | _, _, .nil => rfl
  | _, _, .cons _ b => congrArg (· + 1) b.length

/-- the top avoids a0, what is within avoids a1 -/
def Den2 (K : PySem.W.Frag) (a0 a1 : Addr → Prop) (H : Hp) (v : V) : D → Prop
  | .list ds => ∃ a xs, v = .ref a ∧ SqL K H a xs ∧ (¬ a0 a ∨ KLst K a xs) ∧ Dens K a1 H xs ds
  | .dict ds => ∃ a ks, v = .ref a ∧ Rd H a (.dK ks) ∧ ¬ a0 a ∧ DenKs K a1 H ks ds
  | d => Den K a1 H v d
theorem Den.two {v : V} {d : D} (h : Den K av H v d) : Den2 K av av H v d := by
  cases h with
  | list h n t => exact ⟨_, _, rfl, h, n, t⟩
  | dict h n t => exact ⟨_, _, rfl, h, n, t⟩
  | none => exact .none
  | bool b => exact .bool b
  | int i => exact .int i
  | str x => exact .str x
  | tuple h t => exact .tuple h t
theorem Den2.one {v : V} {d : D} (h : Den2 K av av H v d) : Den K av H v d := by
  cases d with
  | list ds => obtain ⟨a, xs, rfl, h, n, t⟩ := h; exact .list h n t
  | dict ds => obtain ⟨a, xs, rfl, h, n, t⟩ := h; exact .dict h n t
  | _ => exact h
theorem Den2.same {a0 a1 : Addr → Prop} (s : Same H H') {v : V} {d : D} (h : Den2 K a0 a1 H v d) : Den2 K a0 a1 H' v d := by
  cases d with
  | list ds => obtain ⟨a, xs, rfl, h, n, t⟩ := h; exact ⟨a, xs, rfl, h.imp (same_rd s) id, n, t.same s⟩
  | dict ds => obtain ⟨a, xs, rfl, h, n, t⟩ := h; exact ⟨a, xs, rfl, same_rd s h, n, t.same s⟩
  | none => exact Den.same s h
  | bool _ => exact Den.same s h
  | int _ => exact Den.same s h
  | str _ => exact Den.same s h
  | tuple _ => exact Den.same s h
theorem Den2.mono {a0 a1 b0 b1 : Addr → Prop} (h0 : ∀ a, b0 a → a0 a) (h1 : ∀ a, b1 a → a1 a) {v : V} {d : D} (h : Den2 K a0 a1 H v d) : Den2 K b0 b1 H v d := by
  have f : ∀ a u, Rd H a u → Rd H a u := fun _ _ z => z
  cases d with
  | list ds => obtain ⟨a, xs, rfl, h, n, t⟩ := h; exact ⟨a, xs, rfl, h, n.imp (fun n z => n (h0 _ z)) id, t.imp f fun a _ => h1 a⟩
  | dict ds => obtain ⟨a, xs, rfl, h, n, t⟩ := h; exact ⟨a, xs, rfl, h, fun z => n (h0 _ z), t.imp f fun a _ => h1 a⟩
  | none => exact Den.imp f (fun a _ => h1 a) h
  | bool _ => exact Den.imp f (fun a _ => h1 a) h
  | int _ => exact Den.imp f (fun a _ => h1 a) h
  | str _ => exact Den.imp f (fun a _ => h1 a) h
  | tuple _ => exact Den.imp f (fun a _ => h1 a) h
mutual
theorem Den.noLst {H : Hp} : ∀ {d : D} {v : V}, Den K av H v d → noLst d = true → Den K av' H v d
  | _, _, .none, _ => .none
  | _, _, .bool b, _ => .bool b
  | _, _, .int i, _ => .int i
  | _, _, .str x, _ => .str x
  | _, _, .list _ _ _, h => by simp [Rf.noLst] at h
  | _, _, .dict _ _ _, h => by simp [Rf.noLst] at h
  | _, _, .tuple h t, n => .tuple h (Dens.noLst t (by simpa [Rf.noLst] using n))
theorem Dens.noLst {H : Hp} : ∀ {d : List D} {v : List V}, Dens K av H v d → noLsts d = true → Dens K av' H v d
  | _, _, .nil, _ => .nil
  | _, _, .cons a b, h => by
    simp only [noLsts, Bool.and_eq_true] at h
    exact .cons (Den.noLst a h.1) (Dens.noLst b h.2)
end
mutual
theorem Den.dp : ∀ {d : D} {v : V}, Den K av H v d → d.canLay0 = true → Dp K H v d
  | _, _, .none, _ => .non
  | _, _, .bool b, _ => .bl b
  | _, _, .int i, _ => .int i
  | _, _, .str x, _ => .str x
  | _, _, .list h _ t, c => .lst h (Dens.dp t (by simpa [PyData.canLay0] using c))
  | _, _, .tuple h t, c => .tup h (Dens.dp t (by simpa [PyData.canLay0] using c))
  | _, _, .dict _ _ _, c => by simp [PyData.canLay0] at c
theorem Dens.dp : ∀ {d : List D} {v : List V}, Dens K av H v d → PyData.canLayAll0 d = true → DpAll K H v d
  | _, _, .nil, _ => .nil
  | _, _, .cons a b, h => by
    simp only [PyData.canLayAll0, Bool.and_eq_true] at h
    exact .cons (Den.dp a h.1) (Dens.dp b h.2)
end
end

/-! ### dicts with nested keys -/
/-- an entry of the abstract dict: its hash, its key's address, its value -/
abbrev NE := Int × Addr × Int
/-- the dict at d has these entries -/
def DNP (d : Addr) (es : List NE) (h : Heap) : Prop := (d == sysModules) = false ∧ ∃ o arr ep, h.get? d = some o ∧ o.ExactDict ∧ o.data = .dict arr ep ∧
  Paired (fun (p : NE) (e : DictEntry) => e.hash = p.1 ∧ e.key = .ref p.2.1 ∧ ∃ t, e.val = .int p.2.2 t) es arr.toList
def DN (d : Addr) (es : List NE) : HO := .ext (DNP d es)
inductive DenNs (K : PySem.W.Frag) (av : Addr → Prop) (H : Hp) : List NE → List (D × D) → Prop
  | nil : DenNs K av H [] []
  | cons {a : Addr} {k : D} {i : Int} {es : List NE} {ds : List (D × D)} : Den K av H (.ref a) k → nkey k = true → DenNs K av H es ds → DenNs K av H ((hashN k, a, i) :: es) ((k, .int i) :: ds)
theorem DenNs.mp {K : PySem.W.Frag} {av av' : Addr → Prop} {H H' : Hp} (f : ∀ v d, Den K av H v d → Den K av' H' v d) : ∀ {v : List NE} {d : List (D × D)}, DenNs K av H v d → DenNs K av' H' v d
  | _, _, .nil => .nil
  | _, _, .cons a n b => .cons (f _ _ a) n (DenNs.mp f b)
theorem DenNs.same {K : PySem.W.Frag} {av : Addr → Prop} {H H' : Hp} (s : Same H H') {v : List NE} {d : List (D × D)} (h : DenNs K av H v d) : DenNs K av H' v d := h.mp fun _ _ q => q.same s
theorem DenNs.length {K : PySem.W.Frag} {av : Addr → Prop} {H : Hp} : ∀ {v : List NE} {d : List (D × D)}, DenNs K av H v d → v.length = d.length
  | _, _, .nil => rfl
  | _, _, .cons _ _ b => congrArg (· + 1) b.length

/-! ### slots -/
def SlotOk (K : PySem.W.Frag) (av : Addr → Prop) (H : Hp) : Slot → Option V → Prop
  | .un, _ => True
  | .d x, o => ∃ v, o = some v ∧ Den K av H v x
  | .ol xs, o => ∃ (a : Addr) (ys : List V), o = some (V.ref a) ∧ H a = some (.lst ys) ∧ Dens K av H ys xs
  | .od kvs, o => ∃ (a : Addr) (ks : List (Key × V)), o = some (V.ref a) ∧ H a = some (.dK ks) ∧ DenKs K av H ks kvs
  | .on kvs, o => ∃ (a : Addr) (es : List NE), o = some (V.ref a) ∧ H a = some (DN a es) ∧ es.length ≤ sizeLine ∧ DenNs K av H es kvs
  | .rn kvs, o => ∃ (a : Addr) (es : List NE), o = some (V.ref a) ∧ Rd H a (DN a es) ∧ es.length ≤ sizeLine ∧ ¬ av a ∧ DenNs K av H es kvs
  | .ob p, o => o = some (V.ref p)
/-- the address a is an own list or dict of a slot -/
def Owns (e : Sl) (σ : L2.St) (a : Addr) : Prop := ∃ (i : Nat) (s : Slot), e[i]? = some s ∧ isOwn s = true ∧ σ[i]? = some (some (V.ref a))
/-- what a body's proof carries: the written part, the heap at the entry, what results may not be, the wish about exceptions, the classes of exceptions -/
structure Pk where
  K : PySem.W.Frag
  H0 : Hp
  Av : Addr → Prop
  avok : ∀ a, Av a → H0 a ≠ none
  W : WX
  ca : Nat → Addr
def avo (P : Pk) (e : Sl) (σ : L2.St) : Addr → Prop := fun a => P.Av a ∨ Owns e σ a
structure Rel (P : Pk) (e : Sl) (σ : L2.St) (H : Hp) : Prop where
  len : σ.length = e.length
  slot : ∀ (i : Nat) (s : Slot) (o : Option V), e[i]? = some s → σ[i]? = some o → SlotOk P.K (avo P e σ) H s o
  inj : ∀ (i j : Nat) (s t : Slot) (a : Addr), e[i]? = some s → isOwn s = true → e[j]? = some t → isOwn t = true → σ[i]? = some (some (V.ref a)) → σ[j]? = some (some (V.ref a)) → i = j
  fr : Same P.H0 H
  new : ∀ a, Owns e σ a → P.H0 a = none
section
variable {P : Pk} {e : Sl} {σ : L2.St} {H H' : Hp}
theorem SlotOk.same {K : PySem.W.Frag} {av : Addr → Prop} (s : Same H H') : ∀ {x : Slot} {o : Option V}, SlotOk K av H x o → SlotOk K av H' x o
  | .un, _, _ => trivial
  | .d _, _, ⟨v, h, d⟩ => ⟨v, h, d.same s⟩
  | .ol _, _, ⟨a, ys, h, q, d⟩ => ⟨a, ys, h, s _ _ q, d.same s⟩
  | .od _, _, ⟨a, ys, h, q, d⟩ => ⟨a, ys, h, s _ _ q, d.same s⟩
  | .on _, _, ⟨a, ys, h, q, z, d⟩ => ⟨a, ys, h, s _ _ q, z, d.same s⟩
  | .rn _, _, ⟨a, ys, h, q, z, n, d⟩ => ⟨a, ys, h, same_rd s q, z, n, d.same s⟩
  | .ob _, _, h => h
theorem Rel.same (r : Rel P e σ H) (s : Same H H') : Rel P e σ H' := ⟨r.len, fun i x o h1 h2 => (r.slot i x o h1 h2).same s, r.inj, r.fr.trans s, r.new⟩
theorem Rel.at (r : Rel P e σ H) {i : Nat} {s : Slot} (h : e[i]? = some s) : ∃ o, σ[i]? = some o ∧ SlotOk P.K (avo P e σ) H s o := by
  have hl : i < σ.length := by rw [r.len]; exact (List.getElem?_eq_some_iff.mp h).1
  exact ⟨σ[i], List.getElem?_eq_getElem hl, r.slot i s _ h (List.getElem?_eq_getElem hl)⟩
theorem Rel.own_ne (r : Rel P e σ H) {a : Addr} (h : Owns e σ a) : H a ≠ none := by
  obtain ⟨i, s, h1, h2, h3⟩ := h
  have q := r.slot i s _ h1 h3
  cases s with
  | un => cases h2
  | ob _ => cases h2
  | d _ => cases h2
  | ol xs => obtain ⟨b, ys, e1, e2, _⟩ := q; cases e1; rw [e2]; exact fun z => nomatch z
  | od xs => obtain ⟨b, ys, e1, e2, _⟩ := q; cases e1; rw [e2]; exact fun z => nomatch z
  | on xs => obtain ⟨b, ys, e1, e2, _⟩ := q; cases e1; rw [e2]; exact fun z => nomatch z
  | rn _ => cases h2
theorem Rel.av_ne (r : Rel P e σ H) {a : Addr} (h : avo P e σ a) : H a ≠ none := by
  rcases h with h | h
  · intro z
    cases q : P.H0 a with
    | none => exact P.avok a h q
    | some o => rw [r.fr _ _ q] at z; cases z
  · exact r.own_ne h
theorem Rel.own_av (r : Rel P e σ H) {a : Addr} (h : Owns e σ a) : ¬ P.Av a := fun z => P.avok a z (r.new a h)
end

/-! ### readings -/
/-- the modes: 0 nothing but what results may not be is avoided, 1 the top may be an own list, 2 strong -/
def av0 (P : Pk) (e : Sl) (σ : L2.St) : Nat → Addr → Prop
  | 0 => P.Av
  | 1 => P.Av
  | _ => avo P e σ
def av1 (P : Pk) (e : Sl) (σ : L2.St) : Nat → Addr → Prop
  | 0 => P.Av
  | _ => avo P e σ
def DenM (P : Pk) (e : Sl) (σ : L2.St) (m : Nat) (H : Hp) (v : V) (d : D) : Prop := Den2 P.K (av0 P e σ m) (av1 P e σ m) H v d
def DenMs (P : Pk) (e : Sl) (σ : L2.St) (m : Nat) (H : Hp) : List V → List D → Prop
  | [], [] => True
  | v :: vs, d :: ds => DenM P e σ m H v d ∧ DenMs P e σ m H vs ds
  | _, _ => False
section
variable {P : Pk} {e : Sl} {σ : L2.St} {H H' : Hp} {v : V} {d : D} {m : Nat}
theorem DenM.same (s : Same H H') (h : DenM P e σ m H v d) : DenM P e σ m H' v d := Den2.same s h
theorem DenMs.same (s : Same H H') : ∀ {vs : List V} {ds : List D}, DenMs P e σ m H vs ds → DenMs P e σ m H' vs ds
  | [], [], _ => trivial
  | _ :: _, _ :: _, h => ⟨h.1.same s, DenMs.same s h.2⟩
  | [], _ :: _, h => h.elim
  | _ :: _, [], h => h.elim
theorem Den.m2 (h : Den P.K (avo P e σ) H v d) : DenM P e σ 2 H v d := h.two
theorem DenM.d2 (h : DenM P e σ 2 H v d) : Den P.K (avo P e σ) H v d := Den2.one h
theorem DenM.weak (h : DenM P e σ m H v d) : Den P.K P.Av H v d := by
  refine Den2.one (Den2.mono (fun a z => ?_) (fun a z => ?_) h)
  · match m with
    | 0 => exact z
    | 1 => exact z
    | _ + 2 => exact .inl z
  · match m with
    | 0 => exact z
    | _ + 1 => exact .inl z
theorem Den.mm (h : Den P.K (avo P e σ) H v d) : DenM P e σ m H v d := by
  refine Den2.mono (fun a z => ?_) (fun a z => ?_) h.two
  · match m with
    | 0 => exact .inl z
    | 1 => exact .inl z
    | _ + 2 => exact z
  · match m with
    | 0 => exact .inl z
    | _ + 1 => exact z
theorem DenM.flat (h : DenM P e σ m H v d) (f : noLst d = true) : Den P.K (avo P e σ) H v d := h.weak.noLst f
theorem DenMs.weak : ∀ {vs : List V} {ds : List D}, DenMs P e σ m H vs ds → Dens P.K P.Av H vs ds
  | [], [], _ => .nil
  | _ :: _, _ :: _, h => .cons h.1.weak (DenMs.weak h.2)
  | [], _ :: _, h => h.elim
  | _ :: _, [], h => h.elim
theorem DenMs.d2 : ∀ {vs : List V} {ds : List D}, DenMs P e σ 2 H vs ds → Dens P.K (avo P e σ) H vs ds
  | [], [], _ => .nil
  | _ :: _, _ :: _, h => .cons h.1.d2 (DenMs.d2 h.2)
  | [], _ :: _, h => h.elim
  | _ :: _, [], h => h.elim
end

/-- what is asked behind an evaluation -/
def Post (P : Pk) (e : Sl) (σ : L2.St) (m : Nat) (H : Hp) (Q : VK) : Res D → Prop
  | .ok d => ∀ v H', Same H H' → DenM P e σ m H' v d → Q v H'
  | .ex c => ∀ H', Same H H' → P.W (.ref (P.ca c)) none σ H'
  | .stuck => False
def PostT (P : Pk) (σ : L2.St) (H : Hp) (Q : Bool → Hp → Prop) : Res D → Prop
  | .ok (.bool b) => ∀ H', Same H H' → Q b H'
  | .ok _ => False
  | .ex c => ∀ H', Same H H' → P.W (.ref (P.ca c)) none σ H'
  | .stuck => False
def Posts (P : Pk) (e : Sl) (σ : L2.St) (m : Nat) (H : Hp) (Q : List V → Hp → Prop) : Res (List D) → Prop
  | .ok ds => ∀ vs H', Same H H' → DenMs P e σ m H' vs ds → Q vs H'
  | .ex c => ∀ H', Same H H' → P.W (.ref (P.ca c)) none σ H'
  | .stuck => False
def PostL (P : Pk) (e : Sl) (σ : L2.St) (H : Hp) (Q : VK) : Res D → Prop
  | .ok (.list ds) => ∀ p H' xs, Same H H' → H p = none → H' p = some (.lst xs) → Dens P.K (fun a => avo P e σ a ∨ a = p) H' xs ds → Q (.ref p) H'
  | .ok (.dict ds) => ∀ p H' ks, Same H H' → H p = none → H' p = some (.dK ks) → DenKs P.K (fun a => avo P e σ a ∨ a = p) H' ks ds → Q (.ref p) H'
  | .ok _ => False
  | .ex c => ∀ H', Same H H' → P.W (.ref (P.ca c)) none σ H'
  | .stuck => False
def lift (P : Pk) (m : Nat) (f : Sl → Res D) : L2.TE := fun σ H Q => ∃ e, Rel P e σ H ∧ Post P e σ m H Q (f e)
def liftT (P : Pk) (f : Sl → Res D) : L2.TT := fun σ H Q => ∃ e, Rel P e σ H ∧ PostT P σ H Q (f e)
def lifts (P : Pk) (m : Nat) (f : Sl → Res (List D)) : L2.TA := fun σ H Q => ∃ e, Rel P e σ H ∧ Posts P e σ m H Q (f e)
/-- a new list or dict -/
def liftL (P : Pk) (f : Sl → Res D) : L2.TE := fun σ H Q => ∃ e, Rel P e σ H ∧ PostL P e σ H Q (f e)

theorem PE.imp {X : Cx} {ex : Expr} {t t' : L2.TE} (h : PE X ex t) (i : ∀ σ H Q, t' σ H Q → t σ H Q) : PE X ex t' := ⟨fun pins s σ H Q I q => h.run pins s σ H Q I (i _ _ _ q)⟩
theorem PT.imp {X : Cx} {ex : Expr} {t t' : L2.TT} (h : PT X ex t) (i : ∀ σ H Q, t' σ H Q → t σ H Q) : PT X ex t' := ⟨fun pins s σ H Q I q => h.run pins s σ H Q I (i _ _ _ q)⟩
theorem PW.imp {X : Cx} {ex : Expr} {t t' : L2.TT} (h : PW X ex t) (i : ∀ σ H Q, t' σ H Q → t σ H Q) : PW X ex t' := ⟨fun wh pins s σ H Q I q => h.run wh pins s σ H Q I (i _ _ _ q)⟩
theorem PA.imp {X : Cx} {ex : List Expr} {t t' : L2.TA} (h : PA X ex t) (i : ∀ σ H Q, t' σ H Q → t σ H Q) : PA X ex t' := ⟨fun pos pins s σ H Q I q => h.run pos pins s σ H Q I (i _ _ _ q)⟩
theorem PS.imp {X : Cx} {st : Stmt} {t t' : L2.TS} (h : PS X st t) (i : ∀ D σ H, t' D σ H → t D σ H) : PS X st t' := ⟨fun pins s σ H D I q => h.run pins s σ H D I (i _ _ _ q)⟩
theorem PSs.imp {X : Cx} {st : List Stmt} {t t' : L2.TS} (h : PSs X st t) (i : ∀ D σ H, t' D σ H → t D σ H) : PSs X st t' := ⟨fun pins s σ H D I q => h.run pins s σ H D I (i _ _ _ q)⟩

section
variable {P : Pk} {e : Sl} {σ : L2.St} {H H' : Hp} {m n k : Nat} {Q : VK}
theorem Post.back (s : Same H H') : ∀ {r : Res D}, Post P e σ m H Q r → Post P e σ m H' Q r
  | .ok _, h => fun v H2 s2 d => h v H2 (s.trans s2) d
  | .ex _, h => fun H2 s2 => h H2 (s.trans s2)
  | .stuck, h => h
theorem Post.weaken {Q' : VK} : ∀ {r : Res D}, Post P e σ m H Q r → (∀ v H', Q v H' → Q' v H') → Post P e σ m H Q' r
  | .ok _, h, f => fun v H2 s2 d => f _ _ (h v H2 s2 d)
  | .ex _, h, _ => h
  | .stuck, h, _ => h
theorem Posts.weaken {Q Q' : List V → Hp → Prop} : ∀ {r : Res (List D)}, Posts P e σ m H Q r → (∀ v H', Q v H' → Q' v H') → Posts P e σ m H Q' r
  | .ok _, h, f => fun v H2 s2 d => f _ _ (h v H2 s2 d)
  | .ex _, h, _ => h
  | .stuck, h, _ => h
theorem Post.bind {F : D → Res D} : ∀ {r : Res D}, Post P e σ k H Q (r.bind F) → Post P e σ m H (fun v H1 => ∃ x, Same H H1 ∧ DenM P e σ m H1 v x ∧ Post P e σ k H1 Q (F x)) r
  | .ok x, h => fun v H1 s1 d1 => ⟨x, s1, d1, Post.back s1 h⟩
  | .ex _, h => h
  | .stuck, h => h
theorem Post.binds {F : List D → Res D} : ∀ {r : Res (List D)}, Post P e σ k H Q (r.bind F) → Posts P e σ m H (fun vs H1 => ∃ xs, Same H H1 ∧ DenMs P e σ m H1 vs xs ∧ Post P e σ k H1 Q (F xs)) r
  | .ok x, h => fun v H1 s1 d1 => ⟨x, s1, d1, Post.back s1 h⟩
  | .ex _, h => h
  | .stuck, h => h
theorem Post.ok {d : D} {v : V} (h : Post P e σ m H Q (.ok d)) (hd : DenM P e σ m H v d) : Q v H := h v H (Same.refl H) hd
theorem Post.ok' {d : D} {v : V} (h : Post P e σ m H Q (.ok d)) (s : Same H H') (hd : DenM P e σ m H' v d) : Q v H' := h v H' s hd
theorem Post.some {o : Option D} (h : Post P e σ m H Q (Res.of o)) : ∃ d, o = some d ∧ Post P e σ m H Q (.ok d) := by
  cases o with
  | none => exact h.elim
  | some d => exact ⟨d, rfl, h⟩
/-- a mode's weakening -/
theorem Post.mode (hm : ∀ H v d, DenM P e σ n H v d → DenM P e σ m H v d) : ∀ {r : Res D}, Post P e σ m H Q r → Post P e σ n H Q r
  | .ok _, h => fun v H2 s2 d => h v H2 s2 (hm _ _ _ d)
  | .ex _, h => h
  | .stuck, h => h
theorem lift_bind {f : Sl → Res D} {F : Sl → D → Res D} (h : lift P k (fun e => (f e).bind (F e)) σ H Q) :
    lift P m f σ H fun v H1 => ∃ e x, Rel P e σ H1 ∧ DenM P e σ m H1 v x ∧ Post P e σ k H1 Q (F e x) := by
  obtain ⟨e, R, h⟩ := h
  refine ⟨e, R, ?_⟩
  have q := Post.bind (m := m) (r := f e) h
  cases q2 : f e with
  | ok x =>
    rw [q2] at q
    intro v H1 s1 d1
    obtain ⟨y, s, d, p⟩ := q v H1 s1 d1
    exact ⟨e, y, R.same s, d, p⟩
  | ex c => rw [q2] at q; exact q
  | stuck => rw [q2] at q; exact q
theorem lift_binds {f : Sl → Res (List D)} {F : Sl → List D → Res D} (h : lift P k (fun e => (f e).bind (F e)) σ H Q) :
    lifts P m f σ H fun vs H1 => ∃ e xs, Rel P e σ H1 ∧ DenMs P e σ m H1 vs xs ∧ Post P e σ k H1 Q (F e xs) := by
  obtain ⟨e, R, h⟩ := h
  refine ⟨e, R, ?_⟩
  have q := Post.binds (m := m) (r := f e) h
  cases q2 : f e with
  | ok x =>
    rw [q2] at q
    intro v H1 s1 d1
    obtain ⟨y, s, d, p⟩ := q v H1 s1 d1
    exact ⟨e, y, R.same s, d, p⟩
  | ex c => rw [q2] at q; exact q
  | stuck => rw [q2] at q; exact q
/-- a further operand: e is known -/
theorem Post.then {g : Res D} {G : D → Res D} (R : Rel P e σ H) (h : Post P e σ k H Q (g.bind G)) : Post P e σ m H (fun v H1 => ∃ x, Rel P e σ H1 ∧ Same H H1 ∧ DenM P e σ m H1 v x ∧ Post P e σ k H1 Q (G x)) g := by
  have q := Post.bind (m := m) (r := g) h
  cases g with
  | ok x => exact fun v H1 s1 d1 => let ⟨y, s, d, p⟩ := q v H1 s1 d1; ⟨y, R.same s, s, d, p⟩
  | ex c => exact q
  | stuck => exact q
theorem Post.thens {g : Res (List D)} {G : List D → Res D} (R : Rel P e σ H) (h : Post P e σ k H Q (g.bind G)) : Posts P e σ m H (fun v H1 => ∃ x, Rel P e σ H1 ∧ Same H H1 ∧ DenMs P e σ m H1 v x ∧ Post P e σ k H1 Q (G x)) g := by
  have q := Post.binds (m := m) (r := g) h
  cases g with
  | ok x => exact fun v H1 s1 d1 => let ⟨y, s, d, p⟩ := q v H1 s1 d1; ⟨y, R.same s, s, d, p⟩
  | ex c => exact q
  | stuck => exact q
end
end
end Rf

set_option Elab.async false
set_option linter.all false
set_option maxRecDepth 100000
set_option maxHeartbeats 1000000
/-! Rf, part C: operations by values. -/
namespace Rf
noncomputable section
open PySem PySem.Spec PyProof.Rows L2

theorem line_le {n : Nat} (h : n ≤ line) : n ≤ sizeLine := Nat.le_trans h (by decide)
theorem line_lt {n : Nat} (h : n < line) : n < sizeLine := Nat.lt_of_lt_of_le h (by decide)

/-- z is the data d, a list or dict is a new one -/
def Fr2 (K : PySem.W.Frag) (a1 : Addr → Prop) (H : Hp) (z : V) (H' : Hp) : D → Prop
  | .list ds => ∃ p xs, z = .ref p ∧ H p = none ∧ H' p = some (.lst xs) ∧ Dens K (fun a => a1 a ∨ a = p) H' xs ds
  | .dict ds => ∃ p ks, z = .ref p ∧ H p = none ∧ H' p = some (.dK ks) ∧ DenKs K (fun a => a1 a ∨ a = p) H' ks ds
  | d => Den K a1 H' z d
theorem Fr2.two {K : PySem.W.Frag} {a1 c0 : Addr → Prop} {H H' : Hp} {z : V} {d : D} (h : Fr2 K a1 H z H' d) (hc : ∀ a, c0 a → H a ≠ none) : Den2 K c0 a1 H' z d := by
  cases d with
  | list ds => obtain ⟨p, xs, rfl, n, e, t⟩ := h; exact ⟨p, xs, rfl, .inl (.inl e), .inl fun z => hc p z n, t.imp (fun _ _ z => z) fun _ _ z => .inl z⟩
  | dict ds => obtain ⟨p, xs, rfl, n, e, t⟩ := h; exact ⟨p, xs, rfl, .inl e, fun z => hc p z n, t.imp (fun _ _ z => z) fun _ _ z => .inl z⟩
  | _ => exact h
theorem Fr2.back {K : PySem.W.Frag} {a1 : Addr → Prop} {H0 H H' : Hp} {z : V} {d : D} (s : Same H0 H) (h : Fr2 K a1 H z H' d) : Fr2 K a1 H0 z H' d := by
  have bk : ∀ p, H p = none → H0 p = none := fun p n => by
    cases q : H0 p with
    | none => rfl
    | some o => rw [s _ _ q] at n; cases n
  cases d with
  | list ds => obtain ⟨p, xs, e1, n, e, t⟩ := h; exact ⟨p, xs, e1, bk p n, e, t⟩
  | dict ds => obtain ⟨p, xs, e1, n, e, t⟩ := h; exact ⟨p, xs, e1, bk p n, e, t⟩
  | _ => exact h
/-- two values in, a value out -/
def RB (K : PySem.W.Frag) (r : D → D → Option D) : R2 := fun v w H Q => ∃ a0 b0 a1 x y d, Den2 K a0 a1 H v x ∧ Den2 K b0 a1 H w y ∧ r x y = some d ∧
  ∀ z H', Same H H' → Fr2 K a1 H z H' d → Q z H'
theorem same_upd {H : Hp} {p : Addr} {o : HO} (h : H p = none) : Same H (upd H p o) := fun b x e => by
  rw [upd_ne (ne_of_none e h)]
  exact e
section
variable {K : PySem.W.Frag} {a0 a1 : Addr → Prop} {H : Hp} {v : V}
theorem d2_none (h : Den2 K a0 a1 H v .none) : v = .non := by cases h; rfl
theorem d2_bool {b : Bool} (h : Den2 K a0 a1 H v (.bool b)) : v = .bl b := by cases h; rfl
theorem d2_int {i : Int} (h : Den2 K a0 a1 H v (.int i)) : v = .int i := by cases h; rfl
theorem d2_str {x : Str} (h : Den2 K a0 a1 H v (.str x)) : v = .str x := by cases h; rfl
theorem d2_tup {ds : List D} (h : Den2 K a0 a1 H v (.tuple ds)) : ∃ a xs, v = .ref a ∧ SqT K H a xs ∧ Dens K a1 H xs ds := by
  cases h with
  | tuple h t => exact ⟨_, _, rfl, h, t⟩
theorem d2_lst {ds : List D} (h : Den2 K a0 a1 H v (.list ds)) : ∃ a xs, v = .ref a ∧ SqL K H a xs ∧ Dens K a1 H xs ds := by
  obtain ⟨a, xs, e, r, _, t⟩ := h
  exact ⟨a, xs, e, r, t⟩
theorem d2_dct {ds : List (D × D)} (h : Den2 K a0 a1 H v (.dict ds)) : ∃ a xs, v = .ref a ∧ Rd H a (.dK xs) ∧ DenKs K a1 H xs ds := by
  obtain ⟨a, xs, e, r, _, t⟩ := h
  exact ⟨a, xs, e, r, t⟩
end
theorem den_int {K : PySem.W.Frag} {a0 a1 : Addr → Prop} {H : Hp} {i : Int} : Den2 K a0 a1 H (.int i) (.int i) := Den.int i
theorem den_bool {K : PySem.W.Frag} {a0 a1 : Addr → Prop} {H : Hp} {i : Bool} : Den2 K a0 a1 H (.bl i) (.bool i) := Den.bool i
theorem den_str {K : PySem.W.Frag} {a0 a1 : Addr → Prop} {H : Hp} {i : Str} : Den2 K a0 a1 H (.str i) (.str i) := Den.str i
theorem den_none {K : PySem.W.Frag} {a0 a1 : Addr → Prop} {H : Hp} : Den2 K a0 a1 H .non .none := Den.none
/-- a new list -/
theorem new_lst {K : PySem.W.Frag} {a1 : Addr → Prop} {H : Hp} {p : Addr} {xs : List V} {ds : List D} (hp : H p = none) (h : Dens K a1 H xs ds) :
    Fr2 K a1 H (.ref p) (upd H p (.lst xs)) (.list ds) := ⟨p, xs, rfl, hp, upd_same, h.imp (fun _ _ => same_rd (same_upd hp)) fun a ha z => z.elim id fun e => absurd (e ▸ hp) ha⟩
theorem new_dct {K : PySem.W.Frag} {a1 : Addr → Prop} {H : Hp} {p : Addr} {xs : List (Key × V)} {ds : List (D × D)} (hp : H p = none) (h : DenKs K a1 H xs ds) :
    Fr2 K a1 H (.ref p) (upd H p (.dK xs)) (.dict ds) := ⟨p, xs, rfl, hp, upd_same, h.imp (fun _ _ => same_rd (same_upd hp)) fun a ha z => z.elim id fun e => absurd (e ▸ hp) ha⟩
theorem new_tup {K : PySem.W.Frag} {a1 : Addr → Prop} {H : Hp} {p : Addr} {xs : List V} {ds : List D} (hp : H p = none) (h : Dens K a1 H xs ds) :
    Fr2 K a1 H (.ref p) (upd H p (.tup xs)) (.tuple ds) := Den.tuple (.inl (.inl upd_same)) (h.same (same_upd hp))
theorem fr_int {K : PySem.W.Frag} {a1 : Addr → Prop} {H H' : Hp} {i : Int} : Fr2 K a1 H (.int i) H' (.int i) := Den.int i
theorem fr_bool {K : PySem.W.Frag} {a1 : Addr → Prop} {H H' : Hp} {i : Bool} : Fr2 K a1 H (.bl i) H' (.bool i) := Den.bool i
theorem fr_str {K : PySem.W.Frag} {a1 : Addr → Prop} {H H' : Hp} {i : Str} : Fr2 K a1 H (.str i) H' (.str i) := Den.str i

section
variable {X : Cx}
theorem op_catR : OpR X (binaryOp .Add) (fun x y H Q => ∃ l b xs zs, x = .ref l ∧ y = .ref b ∧ SqL X.K H l xs ∧ SqL X.K H b zs ∧ xs.length + zs.length ≤ sizeLine ∧ ∀ p, H p = none → Q (.ref p) (upd H p (.lst (xs ++ zs)))) := by
  intro pins s σ H x y v u Q I rx ry h
  obtain ⟨l, b, xs, zs, rfl, rfl, hH, hB, hz, q⟩ := h
  cases rx
  cases ry
  obtain ⟨its, r, p, hz1⟩ := I.list hH
  obtain ⟨its2, r2, p2, hz2⟩ := I.list hB
  have hl := r.length
  have hl2 := r2.length
  obtain ⟨⟨c1, d1, da1, sl1⟩, g1, t1, n1, q1⟩ := id p.isList
  obtain ⟨⟨c2, d2, da2, sl2⟩, g2, t2, n2, q2⟩ := id p2.isList
  simp only at t1 q1 t2 q2
  subst t1 q1 t2 q2
  have ea : its.toArray ++ its2.toArray = (its ++ its2).toArray := by simp
  refine PySem.concat_meets ⟨_, g1, rfl⟩ ⟨_, g2, rfl⟩ PySem.noFill_list_add PySem.seq_list_add PySem.F.slot_list_add PySem.F.entry_list_add (PySem.F.args_list_add_2 _ _) (list_addW l b its.toArray its2.toArray n1 n2 d1 d2 sl1 sl2 (by rw [List.size_toArray, List.size_toArray]; omega)) ⟨g1, g2, ?_⟩
  rw [ea]
  exact ⟨.ref _, _, I.lnew (t' := s.toks) (r.append r2) (by rw [List.length_append]; omega), rfl, q _ I.fresh⟩

theorem op_addD : OpR X (binaryOp .Add) (RB X.K (binD .add)) := by
  intro pins s σ H v w v' w' Q I rv rw h
  obtain ⟨a0, b0, a1, x, y, d, hx, hy, hd, q⟩ := h
  cases x with
  | int i =>
    cases y <;> simp only [binD, reduceCtorEq] at hd
    rename_i j
    cases hd
    obtain rfl := d2_int hx
    obtain rfl := d2_int hy
    exact op_add pins s σ H _ _ _ _ Q I rv rw ⟨i, j, rfl, rfl, q _ _ (Same.refl H) fr_int⟩
  | str i =>
    cases y <;> simp only [binD, reduceCtorEq] at hd
    rename_i j
    split at hd
    · rename_i hl
      cases hd
      obtain rfl := d2_str hx
      obtain rfl := d2_str hy
      exact op_add_str pins s σ H _ _ _ _ Q I rv rw ⟨i, j, rfl, rfl, line_le hl, q _ _ (Same.refl H) fr_str⟩
    · cases hd
  | list xs =>
    cases y <;> simp only [binD, reduceCtorEq] at hd
    rename_i ys
    split at hd
    · rename_i hl
      cases hd
      obtain ⟨a, us, rfl, ra, da⟩ := d2_lst hx
      obtain ⟨b, ws, rfl, rb, db⟩ := d2_lst hy
      exact op_catR pins s σ H _ _ _ _ Q I rv rw ⟨a, b, us, ws, rfl, rfl, ra, rb, by rw [da.length, db.length]; exact line_le hl, fun p hp => q _ _ (same_upd hp) (new_lst hp (da.append db))⟩
    · cases hd
  | tuple xs =>
    cases y with
    | tuple ys =>
      cases xs with
      | nil => simp only [binD, reduceCtorEq] at hd
      | cons x xs =>
        simp only [binD] at hd
        split at hd
        · rename_i hl
          cases hd
          obtain ⟨a, us, rfl, ra, da⟩ := d2_tup hx
          obtain ⟨b, ws, rfl, rb, db⟩ := d2_tup hy
          have hu : us ≠ [] := fun z => by subst z; cases da
          refine op_catT pins s σ H _ _ _ _ Q I rv rw ⟨a, b, us, ws, rfl, rfl, ra, rb, hu, by rw [da.length, db.length]; exact line_le hl, fun z => ?_, fun z p hp => q _ _ (same_upd hp) (new_tup hp (da.append db))⟩
          subst z
          cases db
          refine q _ _ (Same.refl H) (Den.tuple ra ?_)
          rw [List.append_nil]
          exact da
        · cases hd
    | _ => cases xs <;> simp only [binD, reduceCtorEq] at hd
  | none => cases y <;> simp only [binD, reduceCtorEq] at hd
  | bool _ => cases y <;> simp only [binD, reduceCtorEq] at hd
  | dict _ => cases y <;> simp only [binD, reduceCtorEq] at hd
theorem mulOk {i j : Int} (h : i.natAbs < 2 ^ 64 ∨ j.natAbs < 2 ^ 64) : CMul i j := by
  rcases h with h | h
  · exact .inl (by omega)
  · exact .inr (by omega)
/-- an operation of ints by its rule -/
theorem op_intD {f : Value → Value → Sem Value} {C : Int → Int → Prop} {g : Int → Int → Int} {r : D → D → Option D} (h : OpR X f (rI C fun i j => .int (g i j)))
    (hr : ∀ x y d, r x y = some d → ∃ i j, x = .int i ∧ y = .int j ∧ C i j ∧ d = .int (g i j)) : OpR X f (RB X.K r) := by
  intro pins s σ H v w v' w' Q I rv rw hh
  obtain ⟨a0, b0, a1, x, y, d, hx, hy, hd, q⟩ := hh
  obtain ⟨i, j, rfl, rfl, c, rfl⟩ := hr x y d hd
  obtain rfl := d2_int hx
  obtain rfl := d2_int hy
  exact h pins s σ H _ _ _ _ Q I rv rw ⟨i, j, rfl, rfl, c, q _ _ (Same.refl H) fr_int⟩
theorem binI_sub {x y d : D} (h : binD .sub x y = some d) : ∃ i j, x = .int i ∧ y = .int j ∧ True ∧ d = .int (i - j) := by
  cases x <;> cases y <;> simp only [binD, reduceCtorEq, Option.some.injEq] at h
  exact ⟨_, _, rfl, rfl, trivial, h.symm⟩
theorem binI_mul {x y d : D} (h : binD .mul x y = some d) : ∃ i j, x = .int i ∧ y = .int j ∧ CMul i j ∧ d = .int (i * j) := by
  cases x <;> cases y <;> simp only [binD, reduceCtorEq] at h
  split at h
  · rename_i c
    cases h
    exact ⟨_, _, rfl, rfl, mulOk c, rfl⟩
  · cases h
theorem binI_fdiv {x y d : D} (h : binD .fdiv x y = some d) : ∃ i j, x = .int i ∧ y = .int j ∧ CDiv i j ∧ d = .int (i / j) := by
  cases x <;> cases y <;> simp only [binD, reduceCtorEq] at h
  split at h
  · rename_i c
    cases h
    exact ⟨_, _, rfl, rfl, c, rfl⟩
  · cases h
theorem binI_mod {x y d : D} (h : binD .mod x y = some d) : ∃ i j, x = .int i ∧ y = .int j ∧ 0 < j ∧ d = .int (i % j) := by
  cases x <;> cases y <;> simp only [binD, reduceCtorEq] at h
  split at h
  · rename_i c
    cases h
    exact ⟨_, _, rfl, rfl, c, rfl⟩
  · cases h
theorem binI_pow {x y d : D} (h : binD .pow x y = some d) : ∃ i j, x = .int i ∧ y = .int j ∧ CPow i j ∧ d = .int (i ^ j.toNat) := by
  cases x <;> cases y <;> simp only [binD, reduceCtorEq] at h
  split at h
  · rename_i c
    cases h
    exact ⟨_, _, rfl, rfl, c, rfl⟩
  · cases h
theorem rI_of {f : Value → Value → Sem Value} {g : Int → Int → Int} (h : OpR X f (rI0 fun i j => .int (g i j))) : OpR X f (rI (fun _ _ => True) fun i j => .int (g i j)) :=
  fun pins s σ H x y v u Q I rx ry ⟨i, j, e1, e2, _, q⟩ => h pins s σ H x y v u Q I rx ry ⟨i, j, e1, e2, q⟩
def bOp : BOp → Operator
  | .add => .Add
  | .sub => .Sub
  | .mul => .Mult
  | .fdiv => .FloorDiv
  | .mod => .Mod
  | .pow => .Pow
  | .rep => .Mult
  | .shl => .LShift
  | .shr => .RShift
  | .band => .BitAnd
theorem binI_shl {x y d : D} (h : binD .shl x y = some d) : ∃ i j, x = .int i ∧ y = .int j ∧ CShl i j ∧ d = .int (i * 2 ^ j.toNat) := by
  cases x <;> cases y <;> simp only [binD, reduceCtorEq] at h
  split at h
  · rename_i i j c
    cases h
    refine ⟨_, _, rfl, rfl, ?_, rfl⟩
    obtain ⟨h1, h2, h3⟩ := c
    obtain ⟨k, rfl⟩ := Int.eq_ofNat_of_zero_le h1
    exact L2.shl_ok h3 (by clear h3; omega)
  · cases h
theorem binI_shr {x y d : D} (h : binD .shr x y = some d) : ∃ i j, x = .int i ∧ y = .int j ∧ 0 ≤ j ∧ d = .int (i / 2 ^ j.toNat) := by
  cases x <;> cases y <;> simp only [binD, reduceCtorEq] at h
  split at h
  · rename_i c
    cases h
    exact ⟨_, _, rfl, rfl, c, rfl⟩
  · cases h
theorem binI_band {x y d : D} (h : binD .band x y = some d) : ∃ i j, x = .int i ∧ y = .int j ∧ True ∧ d = .int (Builtin.bitAnd i j) := by
  cases x <;> cases y <;> simp only [binD, reduceCtorEq] at h
  cases h
  exact ⟨_, _, rfl, rfl, trivial, rfl⟩
theorem flat_rep (c : Nat) : ∀ (n : Nat) (acc : Array Nat), (List.replicate n (#[c] : Array Nat)).foldl (· ++ ·) acc = acc ++ (List.replicate n c).toArray
  | 0, acc => by simp
  | n + 1, acc => by
    rw [List.replicate_succ, List.foldl_cons, flat_rep c n, List.replicate_succ]
    apply Array.ext'
    simp
theorem op_repD : OpR X (binaryOp .Mult) (RB X.K (binD .rep)) := by
  intro pins s σ H v w v' w' Q I rv rw' h
  obtain ⟨a0, b0, a1, x, y, d, hx, hy, hd, q⟩ := h
  cases x with
  | str z =>
    cases y with
    | int j =>
      simp only [binD] at hd
      by_cases hc : z.length = 1 ∧ j ≤ 1000000 ∧ -1000000 ≤ j
      · rw [if_pos hc] at hd
        cases hd
        obtain rfl := d2_str hx
        obtain rfl := d2_int hy
        obtain ⟨t, rfl⟩ := rv
        obtain ⟨u, rfl⟩ := rw'
        obtain ⟨h1, h2, h3⟩ := hc
        obtain ⟨c, rfl⟩ : ∃ c, z = S [c] := by
          obtain ⟨arr⟩ := z
          obtain ⟨l⟩ := arr
          match l, h1 with
          | [c], _ => exact ⟨c, rfl⟩
        have fin : ∀ tk, Q (.str (S (List.replicate j.toNat c))) H → EP X pins σ Q (.str (S (List.replicate j.toNat c)) tk) { s with toks := s.toks + 1 } := fun tk q => ⟨.str _, H, I.tok _, ⟨_, rfl⟩, q⟩
        have qq : Q (.str (S (List.replicate j.toNat c))) H := q _ _ (Same.refl H) fr_str
        refine PySem.P.mul_str ?_ (fun h4 h5 => ?_) (fun h4 h5 => ?_) ?_
        · rw [decide_eq_false (by omega), decide_eq_false (by omega)]; rfl
        · have : (1 : Int) ≤ (2 ^ 63 - 1) / j := by
            rw [Int.le_ediv_iff_mul_le (by omega)]
            omega
          show ¬ (((1 : Nat) : Int) > _)
          omega
        · show decide (1 * j.toNat > _) = false
          have : (1000000 : Nat) ≤ sizeLine := by decide
          rw [decide_eq_false]
          omega
        · by_cases h4 : j < 1
          · rw [if_pos h4]
            have e : j.toNat = 0 := by omega
            rw [e] at qq
            exact ⟨by decide, .str _, H, I.tok _, ⟨_, rfl⟩, qq⟩
          · rw [if_neg h4]
            by_cases h5 : j = 1
            · subst h5
              rw [if_pos (by rfl)]
              exact ⟨.str _, H, I, ⟨_, rfl⟩, qq⟩
            · rw [if_neg (by simp [h5, Str.length])]
              have e := flat_rep c j.toNat #[]
              rw [Array.empty_append] at e
              show Made.post (Made.str ⟨(List.replicate j.toNat (#[c] : Array Nat)).foldl (· ++ ·) #[]⟩) _ _
              rw [e]
              refine ⟨?_, .str _, H, I.tok _, ⟨_, rfl⟩, qq⟩
              show (List.replicate j.toNat c).toArray.size ≤ sizeLine
              simp
              have : (1000000 : Nat) ≤ sizeLine := by decide
              omega
      · rw [if_neg hc] at hd; cases hd
    | _ => simp only [binD, reduceCtorEq] at hd
  | _ => cases y <;> simp only [binD, reduceCtorEq] at hd
theorem op_binD : ∀ op : BOp, OpR X (binaryOp (bOp op)) (RB X.K (binD op))
  | .add => op_addD
  | .sub => op_intD (rI_of op_sub) fun _ _ _ h => binI_sub h
  | .mul => op_intD op_mul fun _ _ _ h => binI_mul h
  | .fdiv => op_intD op_fdiv fun _ _ _ h => binI_fdiv h
  | .mod => op_intD op_mod fun _ _ _ h => binI_mod h
  | .pow => op_intD op_pow fun _ _ _ h => binI_pow h
  | .rep => op_repD
  | .shl => op_intD op_shlW fun _ _ _ h => binI_shl h
  | .shr => op_intD op_shr fun _ _ _ h => binI_shr h
  | .band => op_intD (rI_of op_and) fun _ _ _ h => binI_band h
theorem aug_int {op : BOp} (ho : op ≠ .add) {x y d : D} (h : augD op x y = some d) : binD op x y = some d := by
  cases op <;> cases x <;> simp only [augD, reduceCtorEq] at h <;> exact h
theorem op_augD : ∀ op : BOp, op ≠ .pow → OpR X (inplaceOp (bOp op)) (RB X.K (augD op))
  | .add, _ => by
    intro pins s σ H v w v' w' Q I rv rw h
    obtain ⟨a0, b0, a1, x, y, d, hx, hy, hd, q⟩ := h
    cases x with
    | int i =>
      cases y <;> simp only [augD, binD, reduceCtorEq] at hd
      rename_i j
      cases hd
      obtain rfl := d2_int hx
      obtain rfl := d2_int hy
      exact iop_add pins s σ H _ _ _ _ Q I rv rw ⟨i, j, rfl, rfl, q _ _ (Same.refl H) fr_int⟩
    | str i =>
      cases y <;> simp only [augD, binD, reduceCtorEq] at hd
      rename_i j
      split at hd
      · rename_i hl
        cases hd
        obtain rfl := d2_str hx
        obtain rfl := d2_str hy
        exact iop_add_str pins s σ H _ _ _ _ Q I rv rw ⟨i, j, rfl, rfl, line_le hl, q _ _ (Same.refl H) fr_str⟩
      · cases hd
    | _ => simp only [augD, reduceCtorEq] at hd
  | .sub, _ => op_intD (rI_of iop_sub) fun _ _ _ h => binI_sub (aug_int (op := .sub) nofun h)
  | .mul, _ => op_intD iop_mul fun _ _ _ h => binI_mul (aug_int (op := .mul) nofun h)
  | .fdiv, _ => op_intD iop_fdiv fun _ _ _ h => binI_fdiv (aug_int (op := .fdiv) nofun h)
  | .mod, _ => op_intD iop_mod fun _ _ _ h => binI_mod (aug_int (op := .mod) nofun h)
  | .pow, h => absurd rfl h
  | .rep, _ => by
    intro pins s σ H v w v' w' Q I rv rw' h
    obtain ⟨a0, b0, a1, x, y, d, hx, hy, hd, q⟩ := h
    cases x <;> simp only [augD, reduceCtorEq] at hd
  | .shl, _ => by
    intro pins s σ H v w v' w' Q I rv rw' h
    obtain ⟨a0, b0, a1, x, y, d, hx, hy, hd, q⟩ := h
    cases x <;> simp only [augD, reduceCtorEq] at hd
  | .shr, _ => by
    intro pins s σ H v w v' w' Q I rv rw' h
    obtain ⟨a0, b0, a1, x, y, d, hx, hy, hd, q⟩ := h
    cases x <;> simp only [augD, reduceCtorEq] at hd
  | .band, _ => by
    intro pins s σ H v w v' w' Q I rv rw' h
    obtain ⟨a0, b0, a1, x, y, d, hx, hy, hd, q⟩ := h
    cases x <;> simp only [augD, reduceCtorEq] at hd

/-! ### comparisons -/
/-- two values in, a truth out -/
def RC (K : PySem.W.Frag) (r : D → D → Option Bool) : R2 := fun v w H Q => ∃ a0 b0 a1 x y d, Den2 K a0 a1 H v x ∧ Den2 K b0 a1 H w y ∧ r x y = some d ∧ Q (.bl d) H
theorem Den2.den {K : PySem.W.Frag} {a0 a1 : Addr → Prop} {H : Hp} {v : V} {d : D} (h : Den2 K a0 a1 H v d) : Den K (fun _ => False) H v d := (Den2.mono (fun _ z => z.elim) (fun _ z => z.elim) h).one
theorem op_eqD' (hu : X.A.units + 190 < cLine) : OpR X (compareOp .Eq) (RC X.K (cmpD .eq)) := by
  intro pins s σ H v w v' w' Q I rv rw h
  obtain ⟨a0, b0, a1, x, y, d, hx, hy, hd, q⟩ := h
  simp only [cmpD] at hd
  split at hd
  · rename_i c
    cases hd
    simp only [eqOk, Bool.and_eq_true, decide_eq_true_eq] at c
    obtain ⟨⟨c1, c2⟩, c3⟩ := c
    obtain ⟨as, r1⟩ := Dp.reads I x v v' (hx.den.dp c1) rv
    obtain ⟨bs, r2⟩ := Dp.reads I y w w' (hy.den.dp c2) rw
    exact SeqAt.compareEq_reads r1 r2 c1 c2 (by omega) ⟨.bl _, H, I, rfl, q⟩
  · cases hd
theorem op_neD' (hu : X.A.units + 190 < cLine) : OpR X (compareOp .NotEq) (RC X.K (cmpD .ne)) := by
  intro pins s σ H v w v' w' Q I rv rw h
  obtain ⟨a0, b0, a1, x, y, d, hx, hy, hd, q⟩ := h
  simp only [cmpD] at hd
  split at hd
  · rename_i c
    cases hd
    simp only [eqOk, Bool.and_eq_true, decide_eq_true_eq] at c
    obtain ⟨⟨c1, c2⟩, c3⟩ := c
    obtain ⟨as, r1⟩ := Dp.reads I x v v' (hx.den.dp c1) rv
    obtain ⟨bs, r2⟩ := Dp.reads I y w w' (hy.den.dp c2) rw
    exact SeqAt.compareNe_reads r1 r2 c1 c2 (by omega) ⟨.bl _, H, I, rfl, q⟩
  · cases hd
theorem op_ordD {f : Value → Value → Sem Value} {g : Int → Int → Bool} {r : D → D → Option Bool} (h : OpR X f (rI0 fun i j => .bl (g i j)))
    (hr : ∀ x y d, r x y = some d → ∃ i j, x = .int i ∧ y = .int j ∧ d = g i j) : OpR X f (RC X.K r) := by
  intro pins s σ H v w v' w' Q I rv rw hh
  obtain ⟨a0, b0, a1, x, y, d, hx, hy, hd, q⟩ := hh
  obtain ⟨i, j, rfl, rfl, rfl⟩ := hr x y d hd
  obtain rfl := d2_int hx
  obtain rfl := d2_int hy
  exact h pins s σ H _ _ _ _ Q I rv rw ⟨i, j, rfl, rfl, q⟩

/-! membership -/
theorem eqv_eqV {K : PySem.W.Frag} {av : Addr → Prop} {H : Hp} {v w : V} {x y : D} (hx : Den K av H v x) (hy : Den K av H w y) (fx : flatD x = true) (fy : flatD y = true) : flatV v = true ∧ flatV w = true ∧ eqV w v = PyData.eqv y x := by
  cases hx with
  | none => cases hy with
    | none => exact ⟨rfl, rfl, rfl⟩
    | bool b => exact ⟨rfl, rfl, rfl⟩
    | int i => exact ⟨rfl, rfl, rfl⟩
    | str z => exact ⟨rfl, rfl, rfl⟩
    | _ => cases fy
  | bool c => cases hy with
    | none => exact ⟨rfl, rfl, rfl⟩
    | bool b => exact ⟨rfl, rfl, rfl⟩
    | int i => exact ⟨rfl, rfl, rfl⟩
    | str z => exact ⟨rfl, rfl, rfl⟩
    | _ => cases fy
  | int c => cases hy with
    | none => exact ⟨rfl, rfl, rfl⟩
    | bool b => exact ⟨rfl, rfl, rfl⟩
    | int i => exact ⟨rfl, rfl, rfl⟩
    | str z => exact ⟨rfl, rfl, rfl⟩
    | _ => cases fy
  | str c => cases hy with
    | none => exact ⟨rfl, rfl, rfl⟩
    | bool b => exact ⟨rfl, rfl, rfl⟩
    | int i => exact ⟨rfl, rfl, rfl⟩
    | str z => exact ⟨rfl, rfl, rfl⟩
    | _ => cases fy
  | _ => cases fx
theorem in_of {K : PySem.W.Frag} {av : Addr → Prop} {H : Hp} {v : V} {x : D} (hx : Den K av H v x) (fx : flatD x = true) : ∀ {ws : List V} {ys : List D}, Dens K av H ws ys → ys.all flatD = true →
    ws.all flatV = true ∧ inV v ws = ys.any fun y => PyData.eqv y x
  | _, _, .nil, _ => ⟨rfl, rfl⟩
  | _, _, .cons a b, h => by
    rw [List.all_cons, Bool.and_eq_true] at h
    obtain ⟨h1, h2, h3⟩ := eqv_eqV hx a fx h.1
    obtain ⟨h4, h5⟩ := in_of hx fx b h.2
    refine ⟨by rw [List.all_cons, h2, h4]; rfl, ?_⟩
    show (eqV _ _ || inV v _) = _
    rw [List.any_cons, h3, h5]

/-! dicts -/
theorem keyD_of {k : D} {c : Key} (h : keyD k = some c) : k = keyOf c := by
  cases k <;> simp only [keyD, reduceCtorEq, Option.some.injEq] at h <;> subst h <;> rfl
theorem eqv_key {a b : Key} : PyData.eqv (keyOf a) (keyOf b) = decide (a = b) := by
  cases a with
  | inl i => cases b with
    | inl j => show (i == j) = _; rw [key_ll]
    | inr y => show false = _; rw [key_lr]
  | inr x => cases b with
    | inl j => show false = _; rw [key_rl]
    | inr y =>
      show (x == y) = _
      rw [key_rr, Bool.eq_iff_iff]
      simp
theorem keyV {K : PySem.W.Frag} {a0 a1 : Addr → Prop} {H : Hp} {v : V} {k : Key} (h : Den2 K a0 a1 H v (keyOf k)) : v = kV k := by
  cases k with
  | inl i => exact d2_int h
  | inr x => exact d2_str h
theorem look_of {K : PySem.W.Frag} {av : Addr → Prop} {H : Hp} (k : Key) : ∀ {ks : List (Key × V)} {ds : List (D × D)}, DenKs K av H ks ds →
    (lookD ds (keyOf k) = none ∧ valV ks k = none) ∨ ∃ x v, lookD ds (keyOf k) = some x ∧ valV ks k = some v ∧ Den K av H v x
  | _, _, .nil => .inl ⟨rfl, rfl⟩
  | _, _, .cons (k := c) (v := v) (d := d) (ks := ks) (ds := ds) a b => by
    by_cases e : c = k
    · subst e
      refine .inr ⟨d, v, ?_, valV_pos rfl, a⟩
      simp only [lookD, List.find?_cons, eqv_key, decide_true, Option.map_some]
    · rw [valV_neg e]
      have h1 : lookD ((keyOf c, d) :: ds) (keyOf k) = lookD ds (keyOf k) := by
        unfold lookD
        rw [List.find?_cons, eqv_key, decide_eq_false e]
      rw [h1]
      exact look_of k b
theorem DenKs.any {K : PySem.W.Frag} {av : Addr → Prop} {H : Hp} (k : Key) {ks : List (Key × V)} {ds : List (D × D)} (h : DenKs K av H ks ds) : (lookD ds (keyOf k)).isSome = (valV ks k).isSome := by
  rcases look_of k h with ⟨h1, h2⟩ | ⟨x, v, h1, h2, _⟩
  · rw [h1, h2]; rfl
  · rw [h1, h2]; rfl
theorem repl_of {K : PySem.W.Frag} {av : Addr → Prop} {H : Hp} (k : Key) {w : V} {y : D} (hw : Den K av H w y) : ∀ {ks : List (Key × V)} {ds : List (D × D)}, DenKs K av H ks ds →
    DenKs K av H (ks.map fun kv => if kv.1 = k then (kv.1, w) else kv) (ds.map fun p => if PyData.eqv p.1 (keyOf k) then (p.1, y) else p)
  | _, _, .nil => .nil
  | _, _, .cons (k := c) a b => by
    rw [List.map_cons, List.map_cons]
    by_cases e : c = k
    · subst e
      rw [if_pos rfl]
      simp only [eqv_key, decide_true, if_true]
      exact .cons hw (repl_of c hw b)
    · rw [if_neg e]
      simp only [eqv_key, decide_eq_false e, Bool.false_eq_true, if_false]
      exact .cons a (repl_of k hw b)
theorem DenKs.append {K : PySem.W.Frag} {av : Addr → Prop} {H : Hp} : ∀ {ks : List (Key × V)} {ds : List (D × D)} {ks' : List (Key × V)} {ds' : List (D × D)}, DenKs K av H ks ds → DenKs K av H ks' ds' → DenKs K av H (ks ++ ks') (ds ++ ds')
  | _, _, _, _, .nil, h => h
  | _, _, _, _, .cons a b, h => .cons a (b.append h)
theorem put_of {K : PySem.W.Frag} {av : Addr → Prop} {H : Hp} (k : Key) {w : V} {y : D} (hw : Den K av H w y) {ks : List (Key × V)} {ds : List (D × D)} (h : DenKs K av H ks ds) : DenKs K av H (putK ks k w) (putD ds (keyOf k) y) := by
  unfold putD
  rcases look_of k h with ⟨h1, h2⟩ | ⟨x, v, h1, h2, _⟩
  · rw [putK_new w h2, h1]
    exact h.append (.cons hw .nil)
  · have e : putK ks k w = ks.map fun kv => if kv.1 = k then (kv.1, w) else kv := by
      unfold putK
      rw [if_pos (by rw [valV_any, h2]; rfl)]
    rw [e, h1]
    exact repl_of k hw h
theorem op_inD' (hu : X.A.units + 1 < cLine) : OpR X (compareOp .In) (RC X.K (cmpD .isin)) := by
  intro pins s σ H v w v' w' Q I rv rw h
  obtain ⟨a0, b0, a1, x, y, d, hx, hy, hd, q⟩ := h
  have hd : inD x y = some d := hd
  cases y with
  | list ys =>
    simp only [inD] at hd
    split at hd
    · rename_i c
      cases hd
      rw [Bool.and_eq_true] at c
      obtain ⟨a, us, rfl, ra, da⟩ := d2_lst hy
      obtain ⟨fx, fs, ee⟩ := And.intro c.1 (in_of hx.den c.1 (da.imp (fun _ _ z => z) fun _ _ z => z.elim) c.2)
      obtain ⟨h1, -, -⟩ := eqv_eqV hx.den hx.den c.1 c.1
      exact op_in_seq pins s σ H _ _ _ _ Q I rv rw ⟨a, us, rfl, .inl ra, h1, fs, by rw [if_neg Bool.false_ne_true, ee]; exact q⟩
    · cases hd
  | tuple ys =>
    simp only [inD] at hd
    split at hd
    · rename_i c
      cases hd
      rw [Bool.and_eq_true] at c
      obtain ⟨a, us, rfl, ra, da⟩ := d2_tup hy
      obtain ⟨fx, fs, ee⟩ := And.intro c.1 (in_of hx.den c.1 (da.imp (fun _ _ z => z) fun _ _ z => z.elim) c.2)
      obtain ⟨h1, -, -⟩ := eqv_eqV hx.den hx.den c.1 c.1
      exact op_in_seq pins s σ H _ _ _ _ Q I rv rw ⟨a, us, rfl, .inr ra, h1, fs, by rw [if_neg Bool.false_ne_true, ee]; exact q⟩
    · cases hd
  | str z =>
    cases x <;> simp only [inD, reduceCtorEq, Option.some.injEq] at hd
    subst hd
    obtain rfl := d2_str hx
    obtain rfl := d2_str hy
    exact op_in_str pins s σ H _ _ _ _ Q I rv rw ⟨_, _, rfl, rfl, q⟩
  | dict kvs =>
    simp only [inD] at hd
    split at hd
    · rename_i c
      cases hd
      obtain ⟨k, hk⟩ := Option.isSome_iff_exists.mp c
      obtain rfl := keyD_of hk
      obtain rfl := keyV hx
      obtain ⟨a, us, rfl, ra, da⟩ := d2_dct hy
      rw [da.any] at q
      cases rw
      exact d_in hu I (.inl ⟨us, k, ra, rfl, rfl⟩) rv fun s' I' => ⟨.bl _, H, I', rfl, q⟩
    · cases hd
  | _ => simp only [inD, reduceCtorEq] at hd
theorem op_notinD' (hu : X.A.units + 1 < cLine) : OpR X (compareOp .NotIn) (RC X.K (cmpD .notin)) := by
  intro pins s σ H v w v' w' Q I rv rw h
  obtain ⟨a0, b0, a1, x, y, d, hx, hy, hd, q⟩ := h
  have h5 : (inD x y).map not = some d := hd
  clear hd
  obtain ⟨d, hd, rfl⟩ := Option.map_eq_some_iff.mp h5
  clear h5
  cases y with
  | list ys =>
    simp only [inD] at hd
    split at hd
    · rename_i c
      cases hd
      rw [Bool.and_eq_true] at c
      obtain ⟨a, us, rfl, ra, da⟩ := d2_lst hy
      obtain ⟨fx, fs, ee⟩ := And.intro c.1 (in_of hx.den c.1 (da.imp (fun _ _ z => z) fun _ _ z => z.elim) c.2)
      obtain ⟨h1, -, -⟩ := eqv_eqV hx.den hx.den c.1 c.1
      exact op_notIn_seq pins s σ H _ _ _ _ Q I rv rw ⟨a, us, rfl, .inl ra, h1, fs, by rw [if_pos rfl, ee]; exact q⟩
    · cases hd
  | tuple ys =>
    simp only [inD] at hd
    split at hd
    · rename_i c
      cases hd
      rw [Bool.and_eq_true] at c
      obtain ⟨a, us, rfl, ra, da⟩ := d2_tup hy
      obtain ⟨fx, fs, ee⟩ := And.intro c.1 (in_of hx.den c.1 (da.imp (fun _ _ z => z) fun _ _ z => z.elim) c.2)
      obtain ⟨h1, -, -⟩ := eqv_eqV hx.den hx.den c.1 c.1
      exact op_notIn_seq pins s σ H _ _ _ _ Q I rv rw ⟨a, us, rfl, .inr ra, h1, fs, by rw [if_pos rfl, ee]; exact q⟩
    · cases hd
  | str z =>
    cases x <;> simp only [inD, reduceCtorEq, Option.some.injEq] at hd
    subst hd
    obtain rfl := d2_str hx
    obtain rfl := d2_str hy
    exact op_notin_str pins s σ H _ _ _ _ Q I rv rw ⟨_, _, rfl, rfl, q⟩
  | dict kvs =>
    simp only [inD] at hd
    split at hd
    · rename_i c
      cases hd
      obtain ⟨k, hk⟩ := Option.isSome_iff_exists.mp c
      obtain rfl := keyD_of hk
      obtain rfl := keyV hx
      obtain ⟨a, us, rfl, ra, da⟩ := d2_dct hy
      rw [da.any] at q
      cases rw
      exact d_notIn hu I (.inl ⟨us, k, ra, rfl, rfl⟩) rv fun s' I' => ⟨.bl _, H, I', rfl, q⟩
    · cases hd
  | _ => simp only [inD, reduceCtorEq] at hd
theorem op_isD' : OpR X (compareOp .Is) (RC X.K (cmpD .is)) := by
  intro pins s σ H v w v' w' Q I rv rw h
  obtain ⟨a0, b0, a1, x, y, d, hx, hy, hd, q⟩ := h
  cases y with
  | none =>
    obtain rfl := d2_none hy
    have e : decide (v = .non) = d := by
      cases x <;> simp only [cmpD, reduceCtorEq, Option.some.injEq] at hd
      · subst hd; obtain rfl := d2_none hx; rfl
      · subst hd; obtain rfl := d2_bool hx; rfl
      · subst hd; obtain rfl := d2_int hx; rfl
      · subst hd; obtain rfl := d2_str hx; rfl
      · subst hd; obtain ⟨a, us, rfl, _⟩ := d2_lst hx; rfl
      · subst hd; obtain ⟨a, us, rfl, _⟩ := d2_tup hx; rfl
    exact op_isN pins s σ H _ _ _ _ Q I rv rw ⟨rfl, by rw [e]; exact q⟩
  | bool b =>
    cases x <;> simp only [cmpD, reduceCtorEq, Option.some.injEq] at hd
    subst hd
    obtain rfl := d2_bool hx
    obtain rfl := d2_bool hy
    exact op_isBl pins s σ H _ _ _ _ Q I rv rw ⟨_, _, rfl, rfl, q⟩
  | _ => cases x <;> simp only [cmpD, reduceCtorEq] at hd
theorem op_isnotD' : OpR X (compareOp .IsNot) (RC X.K (cmpD .isnot)) := by
  intro pins s σ H v w v' w' Q I rv rw h
  obtain ⟨a0, b0, a1, x, y, d, hx, hy, hd, q⟩ := h
  cases y with
  | none =>
    obtain rfl := d2_none hy
    have e : (!decide (v = .non)) = d := by
      cases x <;> simp only [cmpD, reduceCtorEq, Option.some.injEq] at hd
      · subst hd; obtain rfl := d2_none hx; rfl
      · subst hd; obtain rfl := d2_bool hx; rfl
      · subst hd; obtain rfl := d2_int hx; rfl
      · subst hd; obtain rfl := d2_str hx; rfl
      · subst hd; obtain ⟨a, us, rfl, _⟩ := d2_lst hx; rfl
      · subst hd; obtain ⟨a, us, rfl, _⟩ := d2_tup hx; rfl
    exact op_notN pins s σ H _ _ _ _ Q I rv rw ⟨rfl, by rw [e]; exact q⟩
  | bool b =>
    cases x <;> simp only [cmpD, reduceCtorEq, Option.some.injEq] at hd
    subst hd
    obtain rfl := d2_bool hx
    obtain rfl := d2_bool hy
    exact op_notBl pins s σ H _ _ _ _ Q I rv rw ⟨_, _, rfl, rfl, q⟩
  | _ => cases x <;> simp only [cmpD, reduceCtorEq] at hd
def cOp : COp → CmpOp
  | .eq => .Eq
  | .ne => .NotEq
  | .lt => .Lt
  | .le => .LtE
  | .gt => .Gt
  | .ge => .GtE
  | .isin => .In
  | .notin => .NotIn
  | .is => .Is
  | .isnot => .IsNot
theorem op_cmpD (hu : X.A.units + 190 < cLine) : ∀ op : COp, OpR X (compareOp (cOp op)) (RC X.K (cmpD op))
  | .eq => op_eqD' hu
  | .ne => op_neD' hu
  | .lt => op_ordD op_lt fun x y d h => by
    cases x <;> cases y <;> simp only [cmpD, reduceCtorEq, Option.some.injEq] at h
    exact ⟨_, _, rfl, rfl, h.symm⟩
  | .le => op_ordD op_le fun x y d h => by
    cases x <;> cases y <;> simp only [cmpD, reduceCtorEq, Option.some.injEq] at h
    exact ⟨_, _, rfl, rfl, h.symm⟩
  | .gt => op_ordD op_gt fun x y d h => by
    cases x <;> cases y <;> simp only [cmpD, reduceCtorEq, Option.some.injEq] at h
    exact ⟨_, _, rfl, rfl, h.symm⟩
  | .ge => op_ordD op_ge fun x y d h => by
    cases x <;> cases y <;> simp only [cmpD, reduceCtorEq, Option.some.injEq] at h
    exact ⟨_, _, rfl, rfl, h.symm⟩
  | .isin => op_inD' (by omega)
  | .notin => op_notinD' (by omega)
  | .is => op_isD'
  | .isnot => op_isnotD'
end
end
end Rf

set_option Elab.async false
set_option linter.all false
set_option maxRecDepth 100000
set_option maxHeartbeats 1000000
/-! Rf, part D: subscripts, slices, built-in functions and methods by values. -/
namespace Rf
noncomputable section
open PySem PySem.Spec PyProof.Rows L2

section
variable {X : Cx}
/-- a subscript -/
def RIx (K : PySem.W.Frag) : R2 := fun v w H Q => ∃ a0 b0 a1 b1 x y d, Den2 K a0 a1 H v x ∧ Den2 K b0 b1 H w y ∧ idxD x y = some d ∧ ∀ z, Den K a1 H z d → Q z H
theorem atI_len {α β : Type} {xs : List α} {ys : List β} (h : xs.length = ys.length) {i : Int} {y : β} (e : atI ys i = some y) : ∃ j : Nat, ys[j]? = some y ∧ ∀ x : α, xs[j]? = some x → atI xs i = some x := by
  unfold atI at e ⊢
  rw [h]
  cases q : ixN ys.length i with
  | none => rw [q] at e; cases e
  | some j => rw [q] at e; exact ⟨j, e, fun x hx => hx⟩
theorem ixD (hu : X.A.units + 1 < cLine) : IxR X (RIx X.K) := by
  intro value slice pins s σ H v w v' w' Q I rv rw h hs
  obtain ⟨a0, b0, a1, b1, x, y, d, hx, hy, hd, q⟩ := h
  cases x with
  | list xs =>
    cases y <;> simp only [idxD, reduceCtorEq] at hd
    obtain rfl := d2_int hy
    obtain ⟨a, us, rfl, ra, da⟩ := d2_lst hx
    obtain ⟨j, h1, h2⟩ := atI_len da.length hd
    obtain ⟨z, h3, h4⟩ := da.getD h1
    exact ix_list value slice pins s σ H _ _ _ _ Q I rv rw ⟨a, us, _, z, rfl, rfl, ra, h2 z h3, q z h4⟩ hs
  | tuple xs =>
    cases y <;> simp only [idxD, reduceCtorEq] at hd
    obtain rfl := d2_int hy
    obtain ⟨a, us, rfl, ra, da⟩ := d2_tup hx
    obtain ⟨j, h1, h2⟩ := atI_len da.length hd
    obtain ⟨z, h3, h4⟩ := da.getD h1
    exact ix_tup value slice pins s σ H _ _ _ _ Q I rv rw ⟨a, us, _, z, rfl, rfl, ra, h2 z h3, q z h4⟩ hs
  | str z =>
    cases y <;> simp only [idxD, reduceCtorEq] at hd
    split at hd
    · rename_i hl
      obtain rfl := d2_int hy
      obtain rfl := d2_str hx
      obtain ⟨c, hc, rfl⟩ := Option.map_eq_some_iff.mp hd
      exact ix_str value slice pins s σ H _ _ _ _ Q I rv rw ⟨z, _, c, rfl, rfl, line_le hl, hc, q _ (.str _)⟩ hs
    · cases hd
  | dict kvs =>
    simp only [idxD] at hd
    split at hd
    · rename_i c
      obtain ⟨k, hk⟩ := Option.isSome_iff_exists.mp c
      obtain rfl := keyD_of hk
      obtain rfl := keyV hy
      obtain ⟨a, us, rfl, ra, da⟩ := d2_dct hx
      rcases look_of k da with ⟨h1, h2⟩ | ⟨x, z, h1, h2, h3⟩
      · rw [h1] at hd; cases hd
      · rw [h1] at hd; cases hd
        cases rv
        have g : DGet H a (kV k) (some z) := .inl ⟨us, k, ra, rfl, h2.symm⟩
        exact tail_any (dict_typeIs I g) PySem.F.slot_dict_getitem.lookup (d_getItem hu I g rw fun w' s3 I3 rw' => ⟨z, H, I3, rw', q z h3⟩) hs
    · cases hd
  | _ => simp only [idxD, reduceCtorEq] at hd

/-! ### slices -/
def RSl (K : PySem.W.Frag) : V → Option Int → Option Int → Hp → VK → Prop := fun v lo hi H Q => ∃ a0 a1 x d, Den2 K a0 a1 H v x ∧ sliceD x lo hi = some d ∧ ∀ z H', Same H H' → Fr2 K a1 H z H' d → Q z H'
theorem Dens.cut {K : PySem.W.Frag} {av : Addr → Prop} {H : Hp} {us : List V} {xs : List D} (h : Dens K av H us xs) (lo hi : Option Int) : Dens K av H (cutV us lo hi) (cutD xs lo hi) := by
  unfold cutV cutD
  rw [h.length]
  exact (h.drop _).take _
theorem slD : SlR X (RSl X.K) := by
  intro pins s σ H v v' vl vu lo hi sl Q I rv hs pl pu h
  obtain ⟨a0, a1, x, d, hx, hd, q⟩ := h
  cases x with
  | list xs =>
    simp only [sliceD, Option.some.injEq] at hd
    subst hd
    obtain ⟨a, us, rfl, ra, da⟩ := d2_lst hx
    exact sl_list pins s σ H _ _ vl vu lo hi sl Q I rv hs pl pu ⟨a, us, rfl, ra, fun p hp => q _ _ (same_upd hp) (new_lst hp (da.cut lo hi))⟩
  | tuple xs =>
    simp only [sliceD, Option.some.injEq] at hd
    subst hd
    obtain ⟨a, us, rfl, ra, da⟩ := d2_tup hx
    refine sl_tupA pins s σ H _ _ vl vu lo hi sl Q I rv hs pl pu ⟨a, us, rfl, ra, fun c => ?_, fun _ p hp => q _ _ (same_upd hp) (new_tup hp (da.cut lo hi))⟩
    refine q _ _ (Same.refl H) (Den.tuple ra ?_)
    have e : cutD xs lo hi = xs := by
      unfold cutD
      rw [← da.length, c.1, c.2, List.drop_zero, Nat.sub_zero, da.length, List.take_length]
    rw [e]
    exact da
  | str z =>
    simp only [sliceD] at hd
    split at hd
    · rename_i hl
      cases hd
      obtain rfl := d2_str hx
      exact sl_str pins s σ H _ _ vl vu lo hi sl Q I rv hs pl pu ⟨z, rfl, line_le hl, q _ _ (Same.refl H) (by
        have e : cutS z lo hi = S (cutD z.cps.toList lo hi) := by
          unfold cutS cutD
          rw [show z.cps.toList.length = z.length by simp [Str.length]]
        rw [e]
        exact fr_str)⟩
    · cases hd
  | _ => simp only [sliceD, reduceCtorEq] at hd

/-! ### built-in functions -/
def DenA (K : PySem.W.Frag) (a1 : Addr → Prop) (H : Hp) : List V → List D → Prop
  | [], [] => True
  | v :: vs, d :: ds => (∃ a0, Den2 K a0 a1 H v d) ∧ DenA K a1 H vs ds
  | _, _ => False
def RCl (K : PySem.W.Frag) (f : List D → Option D) : List V → Hp → VK → Prop := fun vs H Q => ∃ a1 ds d, DenA K a1 H vs ds ∧ f ds = some d ∧ ∀ z H', Same H H' → Fr2 K a1 H z H' d → Q z H'
theorem denA1 {K : PySem.W.Frag} {a1 : Addr → Prop} {H : Hp} {vs : List V} {d : D} (h : DenA K a1 H vs [d]) : ∃ v a0, vs = [v] ∧ Den2 K a0 a1 H v d := by
  match vs, h with
  | [v], ⟨⟨a0, h⟩, _⟩ => exact ⟨v, a0, rfl, h⟩
theorem denA2 {K : PySem.W.Frag} {a1 : Addr → Prop} {H : Hp} {vs : List V} {d e : D} (h : DenA K a1 H vs [d, e]) : ∃ v w a0 b0, vs = [v, w] ∧ Den2 K a0 a1 H v d ∧ Den2 K b0 a1 H w e := by
  match vs, h with
  | [v, w], ⟨⟨a0, h⟩, ⟨b0, h2⟩, _⟩ => exact ⟨v, w, a0, b0, rfl, h, h2⟩
theorem allInts_of {K : PySem.W.Frag} {av : Addr → Prop} {H : Hp} : ∀ {us : List V} {xs : List D} {l : List Int}, Dens K av H us xs → allInts xs = some l → us = l.map V.int ∧ xs = l.map .int
  | _, _, l, .nil, h => by cases h; exact ⟨rfl, rfl⟩
  | _, _, l, .cons a b, h => by
    cases a <;> simp only [allInts, reduceCtorEq] at h
    obtain ⟨r, h1, rfl⟩ := Option.map_eq_some_iff.mp h
    obtain ⟨e1, e2⟩ := allInts_of b h1
    exact ⟨by rw [e1]; rfl, by rw [e2]; rfl⟩
theorem allBools_of {K : PySem.W.Frag} {av : Addr → Prop} {H : Hp} : ∀ {us : List V} {xs : List D} {l : List Bool}, Dens K av H us xs → allBools xs = some l → us = l.map V.bl
  | _, _, l, .nil, h => by cases h; exact rfl
  | _, _, l, .cons a b, h => by
    cases a <;> simp only [allBools, reduceCtorEq] at h
    obtain ⟨r, h1, rfl⟩ := Option.map_eq_some_iff.mp h
    rw [allBools_of b h1]; rfl
theorem allStrs_of {K : PySem.W.Frag} {av : Addr → Prop} {H : Hp} : ∀ {us : List V} {xs : List D} {l : List Str}, Dens K av H us xs → allStrs xs = some l → us = l.map V.str
  | _, _, l, .nil, h => by cases h; exact rfl
  | _, _, l, .cons a b, h => by
    cases a <;> simp only [allStrs, reduceCtorEq] at h
    obtain ⟨r, h1, rfl⟩ := Option.map_eq_some_iff.mp h
    rw [allStrs_of b h1]; rfl
theorem dens_ints {K : PySem.W.Frag} {av : Addr → Prop} {H : Hp} : ∀ l : List Int, Dens K av H (l.map V.int) (l.map .int)
  | [] => .nil
  | i :: l => .cons (.int i) (dens_ints l)
theorem maxI_mem : ∀ {l : List Int}, l ≠ [] → maxI l ∈ l ∧ ∀ y ∈ l, y ≤ maxI l
  | [], h => absurd rfl h
  | [x], _ => ⟨by simp [maxI], by simp [maxI]⟩
  | x :: y :: r, _ => by
    obtain ⟨h1, h2⟩ := maxI_mem (l := y :: r) (by simp)
    have e : maxI (x :: y :: r) = max x (maxI (y :: r)) := rfl
    rw [e]
    refine ⟨?_, fun z hz => ?_⟩
    · rcases Int.le_total x (maxI (y :: r)) with h | h
      · rw [Int.max_eq_right h]; exact List.mem_cons_of_mem _ h1
      · rw [Int.max_eq_left h]; exact List.mem_cons_self
    · rcases List.mem_cons.mp hz with rfl | hz
      · exact Int.le_max_left _ _
      · exact Int.le_trans (h2 z hz) (Int.le_max_right _ _)
theorem minI_mem : ∀ {l : List Int}, l ≠ [] → minI l ∈ l ∧ ∀ y ∈ l, minI l ≤ y
  | [], h => absurd rfl h
  | [x], _ => ⟨by simp [minI], by simp [minI]⟩
  | x :: y :: r, _ => by
    obtain ⟨h1, h2⟩ := minI_mem (l := y :: r) (by simp)
    have e : minI (x :: y :: r) = min x (minI (y :: r)) := rfl
    rw [e]
    refine ⟨?_, fun z hz => ?_⟩
    · rcases Int.le_total x (minI (y :: r)) with h | h
      · rw [Int.min_eq_left h]; exact List.mem_cons_self
      · rw [Int.min_eq_right h]; exact List.mem_cons_of_mem _ h1
    · rcases List.mem_cons.mp hz with rfl | hz
      · exact Int.min_le_left _ _
      · exact Int.le_trans (Int.min_le_right _ _) (h2 z hz)
theorem insI_perm (x : Int) : ∀ l : List Int, (insI x l).Perm (x :: l)
  | [] => .refl _
  | y :: r => by
    unfold insI
    split
    · exact .refl _
    · exact ((insI_perm x r).cons y).trans (List.Perm.swap x y r)
theorem sortI_perm : ∀ l : List Int, (sortI l).Perm l
  | [] => .refl _
  | x :: r => (insI_perm x (sortI r)).trans ((sortI_perm r).cons x)
theorem insI_sorted (x : Int) : ∀ {l : List Int}, l.Pairwise (· ≤ ·) → (insI x l).Pairwise (· ≤ ·)
  | [], _ => by simp [insI]
  | y :: r, h => by
    rw [List.pairwise_cons] at h
    unfold insI
    split
    · rename_i c
      rw [List.pairwise_cons]
      refine ⟨fun z hz => ?_, List.pairwise_cons.mpr h⟩
      rcases List.mem_cons.mp hz with rfl | hz
      · exact c
      · exact Int.le_trans c (h.1 z hz)
    · rename_i c
      rw [List.pairwise_cons]
      refine ⟨fun z hz => ?_, insI_sorted x h.2⟩
      rcases List.mem_cons.mp ((insI_perm x r).mem_iff.mp hz) with rfl | hz
      · omega
      · exact h.1 z hz
theorem sortI_sorted : ∀ l : List Int, (sortI l).Pairwise (· ≤ ·)
  | [] => .nil
  | x :: r => insI_sorted x (sortI_sorted r)
theorem sorted_uniq : ∀ {a b : List Int}, a.Perm b → a.Pairwise (· ≤ ·) → b.Pairwise (· ≤ ·) → a = b
  | [], b, p, _, _ => (List.nil_perm.mp p).symm
  | x :: a, [], p, _, _ => absurd p.symm (by simp)
  | x :: a, y :: b, p, h1, h2 => by
    rw [List.pairwise_cons] at h1 h2
    have hx : x ∈ y :: b := p.mem_iff.mp List.mem_cons_self
    have hy : y ∈ x :: a := p.mem_iff.mpr List.mem_cons_self
    have e : x = y := by
      rcases List.mem_cons.mp hx with h | h
      · exact h
      · rcases List.mem_cons.mp hy with h' | h'
        · exact h'.symm
        · have := h1.1 y h'
          have := h2.1 x h
          omega
    subst e
    rw [sorted_uniq (List.perm_cons x |>.mp p) h1.2 h2.2]
theorem keys_of {K : PySem.W.Frag} {av : Addr → Prop} {H : Hp} : ∀ {ks : List (Key × V)} {kvs : List (D × D)}, DenKs K av H ks kvs → Dens K av H (ks.map fun kv => kV kv.1) (kvs.map (·.1))
  | _, _, .nil => .nil
  | _, _, .cons (k := k) a b => by
    refine .cons ?_ (keys_of b)
    cases k
    · exact .int _
    · exact .str _
theorem keys_ints {K : PySem.W.Frag} {av : Addr → Prop} {H : Hp} : ∀ {ks : List (Key × V)} {kvs : List (D × D)} {l : List Int}, DenKs K av H ks kvs → allInts (kvs.map (·.1)) = some l → ks.map (·.1) = l.map Sum.inl
  | _, _, l, .nil, h => by cases h; rfl
  | _, _, l, .cons (k := k) a b, h => by
    cases k with
    | inl i =>
      rw [List.map_cons] at h
      simp only [keyOf, allInts] at h
      obtain ⟨r, h1, rfl⟩ := Option.map_eq_some_iff.mp h
      rw [List.map_cons, keys_ints b h1]; rfl
    | inr x => rw [List.map_cons] at h; simp only [keyOf, allInts, reduceCtorEq] at h

def bltV : Blt → Value
  | .len => .builtin "len"
  | .int => .type "int"
  | .abs => .builtin "abs"
  | .sum => .builtin "sum"
  | .max => .builtin "max"
  | .min => .builtin "min"
  | .all => .builtin "all"
  | .any => .builtin "any"
  | .tuple => .type "tuple"
  | .list => .type "list"
  | .sorted => .builtin "sorted"
  | .str => .type "str"
  | .dict => .type "dict"
  | .isi _ => .builtin "isinstance"
theorem cl_len (hc : X.calm = true) : CallR X (.builtin "len") (RCl X.K (bltD .len)) := by
  intro pins s σ H vs us Q I r h
  obtain ⟨a1, ds, d, hd, hf, q⟩ := h
  match ds, hf with
  | [.list xs], hf =>
    cases hf
    obtain ⟨v, a0, rfl, hv⟩ := denA1 hd
    obtain ⟨a, us', rfl, ra, da⟩ := d2_lst hv
    refine call_len pins s σ H _ _ Q I r ⟨_, us'.length, rfl, .inl ⟨us', ra, rfl⟩, ?_⟩
    rw [da.length]; exact q _ _ (Same.refl H) fr_int
  | [.tuple xs], hf =>
    cases hf
    obtain ⟨v, a0, rfl, hv⟩ := denA1 hd
    obtain ⟨a, us', rfl, ra, da⟩ := d2_tup hv
    refine call_len pins s σ H _ _ Q I r ⟨_, us'.length, rfl, .inr ⟨us', ra, rfl⟩, ?_⟩
    rw [da.length]; exact q _ _ (Same.refl H) fr_int
  | [.str z], hf =>
    simp only [bltD] at hf
    split at hf
    · rename_i hl
      cases hf
      obtain ⟨v, a0, rfl, hv⟩ := denA1 hd
      obtain rfl := d2_str hv
      exact call_len pins s σ H _ _ Q I r ⟨_, z.length, rfl, ⟨line_le hl, rfl⟩, q _ _ (Same.refl H) fr_int⟩
    · cases hf
  | [.dict kvs], hf =>
    cases hf
    obtain ⟨v, a0, rfl, hv⟩ := denA1 hd
    obtain ⟨a, us', rfl, ra, da⟩ := d2_dct hv
    rw [Vals.ref1 r]
    refine d_len I ra fun t s' I' => ⟨.int _, H, I', ⟨_, rfl⟩, ?_⟩
    rw [da.length]; exact q _ _ (Same.refl H) fr_int
theorem cl_int : CallR X (.type "int") (RCl X.K (bltD .int)) := by
  intro pins s σ H vs us Q I r h
  obtain ⟨a1, ds, d, hd, hf, q⟩ := h
  match ds, hf with
  | [.int i], hf =>
    cases hf
    obtain ⟨v, a0, rfl, hv⟩ := denA1 hd
    obtain rfl := d2_int hv
    exact call_int1 pins s σ H _ _ Q I r (.inl ⟨i, rfl, q _ _ (Same.refl H) fr_int⟩)
  | [.bool b], hf =>
    cases hf
    obtain ⟨v, a0, rfl, hv⟩ := denA1 hd
    obtain rfl := d2_bool hv
    exact call_int1 pins s σ H _ _ Q I r (.inr ⟨b, rfl, q _ _ (Same.refl H) fr_int⟩)
theorem cl_abs : CallR X (.builtin "abs") (RCl X.K (bltD .abs)) := by
  intro pins s σ H vs us Q I r h
  obtain ⟨a1, ds, d, hd, hf, q⟩ := h
  match ds, hf with
  | [.int i], hf =>
    cases hf
    obtain ⟨v, a0, rfl, hv⟩ := denA1 hd
    obtain rfl := d2_int hv
    exact call_abs pins s σ H _ _ Q I r ⟨i, rfl, q _ _ (Same.refl H) fr_int⟩
theorem cl_sum (hc : X.calm = true) : CallR X (.builtin "sum") (RCl X.K (bltD .sum)) := by
  intro pins s σ H vs us Q I r h
  obtain ⟨a1, ds, d, hd, hf, q⟩ := h
  match ds, hf with
  | [.list xs], hf =>
    obtain ⟨l, h1, rfl⟩ := Option.map_eq_some_iff.mp hf
    obtain ⟨v, a0, rfl, hv⟩ := denA1 hd
    obtain ⟨a, us', rfl, ra, da⟩ := d2_lst hv
    obtain ⟨rfl, _⟩ := allInts_of da h1
    exact cr_sum hc pins s σ H _ _ Q I r ⟨a, l, rfl, ra, q _ _ (Same.refl H) fr_int⟩
theorem ints_ne {xs : List D} {l : List Int} (h : xs = l.map PyData.int) (n : ¬ xs = []) : l ≠ [] := fun z => n (by rw [h, z]; rfl)
theorem cl_max (hc : X.calm = true) : CallR X (.builtin "max") (RCl X.K (bltD .max)) := by
  intro pins s σ H vs us Q I r h
  obtain ⟨a1, ds, d, hd, hf, q⟩ := h
  match ds, hf with
  | [.int i, .int j], hf =>
    cases hf
    obtain ⟨v, w, a0, b0, rfl, hv, hw⟩ := denA2 hd
    obtain rfl := d2_int hv
    obtain rfl := d2_int hw
    exact call_max2 hc pins s σ H _ _ Q I r ⟨i, j, rfl, q _ _ (Same.refl H) fr_int⟩
  | [.list xs], hf =>
    simp only [bltD] at hf
    split at hf
    · cases hf
    · rename_i hne
      obtain ⟨l, h1, rfl⟩ := Option.map_eq_some_iff.mp hf
      obtain ⟨v, a0, rfl, hv⟩ := denA1 hd
      obtain ⟨a, us', rfl, ra, da⟩ := d2_lst hv
      obtain ⟨rfl, e2⟩ := allInts_of da h1
      have hl := ints_ne e2 hne
      obtain ⟨m1, m2⟩ := maxI_mem hl
      refine cr_max hc pins s σ H _ _ Q I r ⟨a, l, rfl, ra, List.length_pos_iff.mpr hl, fun m k1 k2 => ?_⟩
      have e : m = maxI l := Int.le_antisymm (m2 m k1) (k2 _ m1)
      rw [e]; exact q _ _ (Same.refl H) fr_int
theorem cl_min (hc : X.calm = true) : CallR X (.builtin "min") (RCl X.K (bltD .min)) := by
  intro pins s σ H vs us Q I r h
  obtain ⟨a1, ds, d, hd, hf, q⟩ := h
  match ds, hf with
  | [.int i, .int j], hf =>
    cases hf
    obtain ⟨v, w, a0, b0, rfl, hv, hw⟩ := denA2 hd
    obtain rfl := d2_int hv
    obtain rfl := d2_int hw
    exact call_min2 hc pins s σ H _ _ Q I r ⟨i, j, rfl, q _ _ (Same.refl H) fr_int⟩
  | [.list xs], hf =>
    simp only [bltD] at hf
    split at hf
    · cases hf
    · rename_i hne
      obtain ⟨l, h1, rfl⟩ := Option.map_eq_some_iff.mp hf
      obtain ⟨v, a0, rfl, hv⟩ := denA1 hd
      obtain ⟨a, us', rfl, ra, da⟩ := d2_lst hv
      obtain ⟨rfl, e2⟩ := allInts_of da h1
      have hl := ints_ne e2 hne
      obtain ⟨m1, m2⟩ := minI_mem hl
      refine cr_min hc pins s σ H _ _ Q I r ⟨a, l, rfl, ra, List.length_pos_iff.mpr hl, fun m k1 k2 => ?_⟩
      have e : m = minI l := Int.le_antisymm (k2 _ m1) (m2 m k1)
      rw [e]; exact q _ _ (Same.refl H) fr_int
theorem cl_all (hc : X.calm = true) : CallR X (.builtin "all") (RCl X.K (bltD .all)) := by
  intro pins s σ H vs us Q I r h
  obtain ⟨a1, ds, d, hd, hf, q⟩ := h
  match ds, hf with
  | [.list xs], hf =>
    obtain ⟨l, h1, rfl⟩ := Option.map_eq_some_iff.mp hf
    obtain ⟨v, a0, rfl, hv⟩ := denA1 hd
    obtain ⟨a, us', rfl, ra, da⟩ := d2_lst hv
    obtain rfl := allBools_of da h1
    exact cr_all hc pins s σ H _ _ Q I r ⟨a, l, rfl, ra, q _ _ (Same.refl H) fr_bool⟩
theorem cl_any (hc : X.calm = true) : CallR X (.builtin "any") (RCl X.K (bltD .any)) := by
  intro pins s σ H vs us Q I r h
  obtain ⟨a1, ds, d, hd, hf, q⟩ := h
  match ds, hf with
  | [.list xs], hf =>
    obtain ⟨l, h1, rfl⟩ := Option.map_eq_some_iff.mp hf
    obtain ⟨v, a0, rfl, hv⟩ := denA1 hd
    obtain ⟨a, us', rfl, ra, da⟩ := d2_lst hv
    obtain rfl := allBools_of da h1
    exact cr_any hc pins s σ H _ _ Q I r ⟨a, l, rfl, ra, q _ _ (Same.refl H) fr_bool⟩
theorem cl_tuple : CallR X (.type "tuple") (RCl X.K (bltD .tuple)) := by
  intro pins s σ H vs us Q I r h
  obtain ⟨a1, ds, d, hd, hf, q⟩ := h
  match ds, hf with
  | [.list xs], hf =>
    cases hf
    obtain ⟨v, a0, rfl, hv⟩ := denA1 hd
    obtain ⟨a, us', rfl, ra, da⟩ := d2_lst hv
    exact call_tuple_of pins s σ H _ _ Q I r ⟨a, us', rfl, .inl ⟨ra, fun p hp => q _ _ (same_upd hp) (new_tup hp da)⟩⟩
  | [.tuple xs], hf =>
    cases hf
    obtain ⟨v, a0, rfl, hv⟩ := denA1 hd
    obtain ⟨a, us', rfl, ra, da⟩ := d2_tup hv
    exact call_tuple_of pins s σ H _ _ Q I r ⟨a, us', rfl, .inr ⟨ra, q _ _ (Same.refl H) (Den.tuple ra da)⟩⟩
theorem cl_list (hc : X.calm = true) : CallR X (.type "list") (RCl X.K (bltD .list)) := by
  intro pins s σ H vs us Q I r h
  obtain ⟨a1, ds, d, hd, hf, q⟩ := h
  match ds, hf with
  | [.list xs], hf =>
    cases hf
    obtain ⟨v, a0, rfl, hv⟩ := denA1 hd
    obtain ⟨a, us', rfl, ra, da⟩ := d2_lst hv
    exact call_list_of pins s σ H _ _ Q I r ⟨a, us', rfl, .inl ra, fun p hp => q _ _ (same_upd hp) (new_lst hp da)⟩
  | [.tuple xs], hf =>
    cases hf
    obtain ⟨v, a0, rfl, hv⟩ := denA1 hd
    obtain ⟨a, us', rfl, ra, da⟩ := d2_tup hv
    exact call_list_of pins s σ H _ _ Q I r ⟨a, us', rfl, .inr ra, fun p hp => q _ _ (same_upd hp) (new_lst hp da)⟩
theorem cl_sorted (hc : X.calm = true) : CallR X (.builtin "sorted") (RCl X.K (bltD .sorted)) := by
  intro pins s σ H vs us Q I r h
  obtain ⟨a1, ds, d, hd, hf, q⟩ := h
  match ds, hf with
  | [.list xs], hf =>
    obtain ⟨l, h1, rfl⟩ := Option.map_eq_some_iff.mp hf
    obtain ⟨v, a0, rfl, hv⟩ := denA1 hd
    obtain ⟨a, us', rfl, ra, da⟩ := d2_lst hv
    obtain ⟨rfl, _⟩ := allInts_of da h1
    refine cr_sortedI pins s σ H _ _ Q I r ⟨a, l, rfl, ra, fun ns' p k1 k2 hp => ?_⟩
    rw [sorted_uniq (k1.trans (sortI_perm l).symm) k2 (sortI_sorted l)]
    exact q _ _ (same_upd hp) (new_lst hp (dens_ints _))
  | [.dict kvs], hf =>
    simp only [bltD] at hf
    split at hf
    · rename_i h64
      obtain ⟨l, h1, rfl⟩ := Option.map_eq_some_iff.mp hf
      obtain ⟨v, a0, rfl, hv⟩ := denA1 hd
      obtain ⟨a, us', rfl, ra, da⟩ := d2_dct hv
      have e := keys_ints da h1
      refine call_sortedDI hc pins s σ H _ _ Q I r ⟨a, us', l, rfl, ra, e, ?_, fun ns' p k1 k2 hp => ?_⟩
      · have := congrArg List.length e
        rw [List.length_map, List.length_map, da.length] at this
        omega
      · rw [sorted_uniq (k1.trans (sortI_perm l).symm) k2 (sortI_sorted l)]
        exact q _ _ (same_upd hp) (new_lst hp (dens_ints _))
    · cases hf
theorem cl_str : CallR X (.type "str") (RCl X.K (bltD .str)) := by
  intro pins s σ H vs us Q I r h
  obtain ⟨a1, ds, d, hd, hf, q⟩ := h
  match ds, hf with
  | [.int i], hf =>
    simp only [bltD] at hf
    split at hf
    · rename_i hl
      cases hf
      obtain ⟨v, a0, rfl, hv⟩ := denA1 hd
      obtain rfl := d2_int hv
      exact call_str_int pins s σ H _ _ Q I r ⟨i, rfl, hl, q _ _ (Same.refl H) fr_str⟩
    · cases hf
theorem cl_dict : CallR X (.type "dict") (RCl X.K (bltD .dict)) := by
  intro pins s σ H vs us Q I r h
  obtain ⟨a1, ds, d, hd, hf, q⟩ := h
  match ds, hf with
  | [.dict kvs], hf =>
    cases hf
    obtain ⟨v, a0, rfl, hv⟩ := denA1 hd
    obtain ⟨a, us', rfl, ra, da⟩ := d2_dct hv
    rw [Vals.ref1 r]
    exact d_copyOf I ra fun p s' hp I' => ⟨.ref p, _, I', rfl, q _ _ (same_upd hp) (new_dct hp da)⟩

/-! isinstance -/
def tyN : Nat → String
  | 0 => "int"
  | 1 => "bool"
  | 2 => "str"
  | 3 => "tuple"
  | _ => "list"
def RIsi (K : PySem.W.Frag) (T : Nat) : List V → Hp → VK → Prop := fun vs H Q => ∃ v a0 a1 x b, vs = [v, .ty (tyN T)] ∧ Den2 K a0 a1 H v x ∧ isiD T x = some b ∧ Q (.bl b) H
theorem kitInt (K : PySem.W.Frag) : ∀ T : Nat, T < 5 → PySem.W.kitOne K (.type "int") (.type (tyN T)) = some (T == 0)
  | 0, _ => kit_ty (by decide +kernel)
  | 1, _ => kit_ty (by decide +kernel)
  | 2, _ => kit_ty (by decide +kernel)
  | 3, _ => kit_ty (by decide +kernel)
  | 4, _ => kit_ty (by decide +kernel)
theorem kitBool (K : PySem.W.Frag) : ∀ T : Nat, T < 5 → PySem.W.kitOne K (.type "bool") (.type (tyN T)) = some (T == 0 || T == 1)
  | 0, _ => kit_ty (by decide +kernel)
  | 1, _ => kit_ty (by decide +kernel)
  | 2, _ => kit_ty (by decide +kernel)
  | 3, _ => kit_ty (by decide +kernel)
  | 4, _ => kit_ty (by decide +kernel)
theorem kitStr (K : PySem.W.Frag) : ∀ T : Nat, T < 5 → PySem.W.kitOne K (.type "str") (.type (tyN T)) = some (T == 2)
  | 0, _ => kit_ty (by decide +kernel)
  | 1, _ => kit_ty (by decide +kernel)
  | 2, _ => kit_ty (by decide +kernel)
  | 3, _ => kit_ty (by decide +kernel)
  | 4, _ => kit_ty (by decide +kernel)
theorem kitTup (K : PySem.W.Frag) : ∀ T : Nat, T < 5 → PySem.W.kitOne K (.type "tuple") (.type (tyN T)) = some (T == 3)
  | 0, _ => kit_ty (by decide +kernel)
  | 1, _ => kit_ty (by decide +kernel)
  | 2, _ => kit_ty (by decide +kernel)
  | 3, _ => kit_ty (by decide +kernel)
  | 4, _ => kit_ty (by decide +kernel)
theorem kitLst (K : PySem.W.Frag) : ∀ T : Nat, T < 5 → PySem.W.kitOne K (.type "list") (.type (tyN T)) = some (T == 4)
  | 0, _ => kit_ty (by decide +kernel)
  | 1, _ => kit_ty (by decide +kernel)
  | 2, _ => kit_ty (by decide +kernel)
  | 3, _ => kit_ty (by decide +kernel)
  | 4, _ => kit_ty (by decide +kernel)
theorem kitNon (K : PySem.W.Frag) : ∀ T : Nat, T < 5 → PySem.W.kitOne K (.type "NoneType") (.type (tyN T)) = some false
  | 0, _ => kit_ty (by decide +kernel)
  | 1, _ => kit_ty (by decide +kernel)
  | 2, _ => kit_ty (by decide +kernel)
  | 3, _ => kit_ty (by decide +kernel)
  | 4, _ => kit_ty (by decide +kernel)
theorem cl_isi {T : Nat} (hT : T < 5) : CallR X (.builtin "isinstance") (RIsi X.K T) := by
  intro pins s σ H vs us Q I r h
  obtain ⟨v, a0, a1, x, b, rfl, hx, hb, q⟩ := h
  have go : ∀ {t : Value}, TyX X.K H v t → PySem.W.kitOne X.K t (.type (tyN T)) = some b → wpAny (model X.prog X.w) X.A (call (.builtin "isinstance") us) (EP X pins σ Q) X.xe s := fun {t} ty k =>
    call_isi pins s σ H _ _ Q I r ⟨v, .ty (tyN T), t, .type (tyN T), b, rfl, .ty _, ty, k, q⟩
  cases x <;> simp only [isiD, Option.some.injEq, reduceCtorEq] at hb
  · subst hb; obtain rfl := d2_none hx; exact go (.base .non) (kitNon _ T hT)
  · subst hb; obtain rfl := d2_bool hx; exact go (.base (.bl _)) (kitBool _ T hT)
  · subst hb; obtain rfl := d2_int hx; exact go (.base (.int _)) (kitInt _ T hT)
  · subst hb; obtain rfl := d2_str hx; exact go (.base (.str _)) (kitStr _ T hT)
  · subst hb
    obtain ⟨a, xs, rfl, h, _⟩ := d2_lst hx
    rcases h with (h | ⟨o, h⟩) | ⟨o, its, n, h, c, _⟩
    · exact go (.base (.lst h)) (kitLst _ T hT)
    · exact go (.base (.frz h)) (kitLst _ T hT)
    · exact go (.kList h c) (kitLst _ T hT)
  · subst hb
    obtain ⟨a, xs, rfl, h, _⟩ := d2_tup hx
    rcases h with (h | ⟨o, h⟩) | ⟨o, its, n, h, c, _⟩
    · exact go (.base (.tup h)) (kitTup _ T hT)
    · exact go (.fTuple h) (kitTup _ T hT)
    · exact go (.kTuple h c) (kitTup _ T hT)

/-! ### methods -/
def RMt (K : PySem.W.Frag) (m : Mth) : V → List V → Hp → VK → Prop := fun v vs H Q => ∃ z, v = .str z ∧ ∃ d, vs = [] ∧ strM m z = some d ∧ ∀ w, Den K (fun _ => False) H w d → Q w H
theorem Den.flat2 {K : PySem.W.Frag} {av av' : Addr → Prop} {H H' : Hp} {v : V} {d : D} (h : Den K av H v d) (f : flatD d = true) : Den K av' H' v d := by
  cases h with
  | none => exact .none
  | bool b => exact .bool b
  | int b => exact .int b
  | str b => exact .str b
  | _ => cases f
theorem strM_flat {m : Mth} {z : Str} {d : D} (h : strM m z = some d) : flatD d = true := by
  cases m <;> simp only [strM, reduceCtorEq, Option.some.injEq] at h
  · subst h; rfl
  · subst h; rfl
  · split at h
    · cases h; rfl
    · cases h
  · split at h
    · cases h; rfl
    · cases h
  · split at h
    · cases h; rfl
    · cases h
def mthN : Mth → Str
  | .get => "get"
  | .bits => "bit_length"
  | .isalpha => "isalpha"
  | .islower => "islower"
  | .lower => "lower"
  | .upper => "upper"
  | .swapcase => "swapcase"
  | .join => "join"
theorem mt_isalphaD : MtR X "str.isalpha" (RMt X.K .isalpha) := by
  intro pins s σ H x xs v us Q I rx rs h
  obtain ⟨z, rfl, d, rfl, hd, q⟩ := h
  cases hd
  exact mt_isalpha pins s σ H _ _ _ _ Q I rx rs ⟨z, rfl, rfl, trivial, q _ (.bool _)⟩
theorem mt_islowerD : MtR X "str.islower" (RMt X.K .islower) := by
  intro pins s σ H x xs v us Q I rx rs h
  obtain ⟨z, rfl, d, rfl, hd, q⟩ := h
  cases hd
  obtain ⟨t, rfl⟩ := rx
  cases rs
  exact PySem.SC.islower ⟨.bl _, H, I, rfl, q _ (.bool _)⟩
theorem mt_lowerD : MtR X "str.lower" (RMt X.K .lower) := by
  intro pins s σ H x xs v us Q I rx rs h
  obtain ⟨z, rfl, d, rfl, hd, q⟩ := h
  simp only [strM] at hd
  split at hd
  · rename_i hl
    cases hd
    exact mt_lower pins s σ H _ _ _ _ Q I rx rs ⟨z, rfl, rfl, Nat.le_trans hl (by decide), q _ (.str _)⟩
  · cases hd
theorem mt_upperD : MtR X "str.upper" (RMt X.K .upper) := by
  intro pins s σ H x xs v us Q I rx rs h
  obtain ⟨z, rfl, d, rfl, hd, q⟩ := h
  simp only [strM] at hd
  split at hd
  · rename_i hl
    cases hd
    exact mt_upper pins s σ H _ _ _ _ Q I rx rs ⟨z, rfl, rfl, Nat.le_trans hl (by decide), q _ (.str _)⟩
  · cases hd
theorem mt_swapcaseD : MtR X "str.swapcase" (RMt X.K .swapcase) := by
  intro pins s σ H x xs v us Q I rx rs h
  obtain ⟨z, rfl, d, rfl, hd, q⟩ := h
  simp only [strM] at hd
  split at hd
  · rename_i hl
    cases hd
    obtain ⟨t, rfl⟩ := rx
    cases rs
    exact PyProof.Rows.SCL.swapcase (Nat.le_trans hl (by decide)) fun _ => ⟨.str _, H, I.tok _, ⟨_, rfl⟩, q _ (.str _)⟩
  · cases hd
/-- o.m() of a text -/
theorem pe_str0 {o : Expr} {to : L2.TE} {apos pos : Pos} (m : Mth) (hm : m ≠ .get ∧ m ≠ .bits ∧ m ≠ .join) (ho : PE X o to) (hbase : attributeBase o (mthN m) X.env (eval o X.env) = eval o X.env) (hline : (apos.endLine == pos.line) = true) :
    PE X (.Call (.Attribute o (mthN m) apos) [] [] pos) (tM0 (RMt X.K m) to) := by
  cases m with
  | get => exact absurd rfl hm.1
  | bits => exact absurd rfl hm.2.1
  | join => exact absurd rfl hm.2.2
  | isalpha => exact pe_m0 PySem.F.slot_str_isalpha PySem.F.type_str_isalpha mt_isalphaD ho hbase hline
  | islower => exact pe_m0 PySem.F.slot_str_islower PySem.F.type_str_islower mt_islowerD ho hbase hline
  | lower => exact pe_m0 PySem.F.slot_str_lower PySem.F.type_str_lower mt_lowerD ho hbase hline
  | upper => exact pe_m0 PySem.F.slot_str_upper PySem.F.type_str_upper mt_upperD ho hbase hline
  | swapcase => exact pe_m0 PySem.F.slot_str_swapcase PySem.F.type_str_swapcase mt_swapcaseD ho hbase hline
end
end
end Rf

set_option Elab.async false
set_option linter.all false
set_option maxRecDepth 100000
set_option maxHeartbeats 1000000
/-! Rf, part E: expressions. -/
namespace Rf
noncomputable section
open PySem PySem.Spec PyProof.Rows L2

def sub : Nat → Nat
  | 0 => 0
  | _ => 1
theorem av1_sub {P : Pk} {e : Sl} {σ : L2.St} (m : Nat) : av1 P e σ (sub m) = av1 P e σ m := by cases m <;> rfl
def PostN (P : Pk) (e : Sl) (σ : L2.St) (m : Nat) (H : Hp) (Q : VK) : Res D → Prop
  | .ok d => ∀ v H', Same H H' → Fr2 P.K (av1 P e σ m) H v H' d → Q v H'
  | .ex c => ∀ H', Same H H' → P.W (.ref (P.ca c)) none σ H'
  | .stuck => False
/-- a value whose list or dict is new -/
def liftN (P : Pk) (m : Nat) (f : Sl → Res D) : L2.TE := fun σ H Q => ∃ e, Rel P e σ H ∧ PostN P e σ m H Q (f e)

structure Gd {β : Type} (P : Pk) (σ : L2.St) (Z : Hp → Res β → Prop) : Prop where
  back : ∀ {H H' : Hp} {r : Res β}, Same H H' → Z H r → Z H' r
  ex : ∀ {H : Hp} {c : Nat}, Z H (.ex c) → ∀ H', Same H H' → P.W (.ref (P.ca c)) none σ H'
  no : ∀ {H : Hp}, Z H .stuck → False
section
variable {P : Pk} {e : Sl} {σ : L2.St} {H H' : Hp} {m n k : Nat} {Q : VK}
theorem gdPost : Gd P σ (fun H r => Post P e σ m H Q r) := ⟨fun s h => Post.back s h, fun h => h, fun h => h⟩
theorem gdPostN : Gd P σ (fun H r => PostN P e σ m H Q r) := ⟨fun {H H' r} s h => match r, h with
  | .ok _, h => fun v H2 s2 d => h v H2 (s.trans s2) (d.back s)
  | .ex _, h => fun H2 s2 => h H2 (s.trans s2)
  | .stuck, h => h, fun h => h, fun h => h⟩
theorem gdPostT {Q : Bool → Hp → Prop} : Gd P σ (fun H r => PostT P σ H Q r) := ⟨fun {H H' r} s h => match r, h with
  | .ok (.bool _), h => fun H2 s2 => h H2 (s.trans s2)
  | .ok .none, h => h
  | .ok (.int _), h => h
  | .ok (.str _), h => h
  | .ok (.list _), h => h
  | .ok (.tuple _), h => h
  | .ok (.dict _), h => h
  | .ex _, h => fun H2 s2 => h H2 (s.trans s2)
  | .stuck, h => h, fun h => h, fun h => h⟩
theorem gdPosts {Q : List V → Hp → Prop} : Gd P σ (fun H r => Posts P e σ m H Q r) := ⟨fun {H H' r} s h => match r, h with
  | .ok _, h => fun v H2 s2 d => h v H2 (s.trans s2) d
  | .ex _, h => fun H2 s2 => h H2 (s.trans s2)
  | .stuck, h => h, fun h => h, fun h => h⟩
theorem PostN.post (R : Rel P e σ H) : ∀ {r : Res D}, Post P e σ m H Q r → PostN P e σ m H Q r
  | .ok _, h => fun v H' s d => h v H' s (d.two fun a z => by
    match m with
    | 0 => exact R.av_ne (.inl z)
    | 1 => exact R.av_ne (.inl z)
    | _ + 2 => exact R.av_ne z)
  | .ex _, h => h
  | .stuck, h => h
theorem PE.new {X : Cx} {ex : Expr} {f : Sl → Res D} (h : PE X ex (liftN P m f)) : PE X ex (lift P m f) := PE.imp h fun σ H Q ⟨e, R, p⟩ => ⟨e, R, PostN.post R p⟩
theorem PE.own {X : Cx} {ex : Expr} {f : Sl → Res D} (h : PE X ex (liftN P 2 f)) : PE X ex (liftL P f) := PE.imp h fun σ H Q ⟨e, R, p⟩ => ⟨e, R, by
  cases q : f e with
  | ok d =>
    rw [q] at p
    cases d with
    | list ds => intro v H' s ⟨a, xs, h1, h2, h3, h4⟩; subst h1; exact p a H' xs s h2 h3 h4
    | dict ds => intro v H' s ⟨a, xs, h1, h2, h3, h4⟩; subst h1; exact p a H' xs s h2 h3 h4
    | _ => exact p.elim
  | ex c => rw [q] at p; exact p
  | stuck => rw [q] at p; exact p⟩
theorem PE.mode {X : Cx} {ex : Expr} {f : Sl → Res D} (h : PE X ex (lift P 2 f)) : PE X ex (lift P m f) := PE.imp h fun σ H Q ⟨e, R, p⟩ => ⟨e, R, Post.mode (fun H v d hd => hd.d2.mm) p⟩
/-- an operand is evaluated -/
theorem bindZ {α : Type} {β : Type} {Z : Hp → Res β → Prop} (gd : Gd P σ Z) (R : Rel P e σ H) {F : D → Res β} {r : Res D} (h : Z H (r.bind F)) :
    Post P e σ m H (fun v H1 => ∃ x, r = .ok x ∧ Same H H1 ∧ Rel P e σ H1 ∧ DenM P e σ m H1 v x ∧ Z H1 (F x)) r := by
  cases r with
  | ok x => exact fun v H1 s d => ⟨x, rfl, s, R.same s, d, gd.back s h⟩
  | ex c => exact gd.ex h
  | stuck => exact gd.no h
theorem bindZs {β : Type} {Z : Hp → Res β → Prop} (gd : Gd P σ Z) (R : Rel P e σ H) {F : List D → Res β} {r : Res (List D)} (h : Z H (r.bind F)) :
    Posts P e σ m H (fun v H1 => ∃ x, r = .ok x ∧ Same H H1 ∧ Rel P e σ H1 ∧ DenMs P e σ m H1 v x ∧ Z H1 (F x)) r := by
  cases r with
  | ok x => exact fun v H1 s d => ⟨x, rfl, s, R.same s, d, gd.back s h⟩
  | ex c => exact gd.ex h
  | stuck => exact gd.no h
end

/-- the facts of a body's context -/
structure Ctx (X : Cx) (P : Pk) (N : List Str) (sc : Scope) : Prop where
  hK : X.K = P.K
  hN : X.N = N
  nd : N.Nodup
  hs : X.env.scope = sc
  calm : X.calm = true
  un : X.A.units + 190 < cLine
  tk : Takes X P.W
  po : PassesOwn (model X.prog X.w) X.A X.env X.xe
theorem evs_len {Φ : FT} {e : Sl} : ∀ {ES : List Exp} {xs : List D}, evs Φ ES e = .ok xs → xs.length = ES.length
  | [], xs, h => by simp only [evs, Res.ok.injEq] at h; subst h; rfl
  | A :: ES, xs, h => by
    simp only [evs] at h
    cases q : ev Φ A e with
    | ok d =>
      rw [q] at h
      cases q2 : evs Φ ES e with
      | ok ys =>
        simp only [Res.bind_ok, q2, Res.ok.injEq] at h
        subst h
        rw [List.length_cons, List.length_cons, evs_len q2]
      | ex c => simp [q2] at h
      | stuck => simp [q2] at h
    | ex c => rw [q] at h; simp at h
    | stuck => rw [q] at h; simp at h
theorem noLsts_append : ∀ {xs ys : List D}, noLsts xs = true → noLsts ys = true → noLsts (xs ++ ys) = true
  | [], _, _, h => h
  | x :: xs, ys, h, h2 => by
    simp only [noLsts, Bool.and_eq_true] at h
    simp only [List.cons_append, noLsts, Bool.and_eq_true]
    exact ⟨h.1, noLsts_append h.2 h2⟩
/-- what a def promises -/
def spP (K : PySem.W.Frag) (ca : Nat → Addr) (φ : FT) (f : Nat) : L2.Sp := fun vs H Q E => ∃ (av : Addr → Prop) (ds : List D), (∀ a, av a → H a ≠ none) ∧ Dens K av H vs ds ∧ match φ f ds with
  | .ok d => ∀ v H', Same H H' → Den K av H' v d → Q v H'
  | .ex c => ∀ H', Same H H' → E (.ref (ca c)) none H'
  | .stuck => False
/-- a def that may be called -/
structure Fn1 (pr : Program) (w : World) (K : PySem.W.Frag) (mg : Str → Option Value) (base : Heap) (A : Around) (ca : Nat → Addr) (Φ : FT) (x : Str) (f : Nat) : Prop where
  ex : ∃ (k : Nat) (fA : Addr) (fd : FuncData) (ps : List Str), FnOk pr w K mg base (L2.CX pr w) k fA fd ps (spP K ca Φ f) ∧ Room k A ∧ mg x = some (.ref fA) ∧ PySem.W.keepIn K (.ref fA) = true ∧ Binds K fd ps []

section
variable {X : Cx} {P : Pk} {N : List Str} {sc : Scope} {m : Nat} {Φ : FT} {f g : Sl → Res D} {A B E : Exp} {ES : List Exp} {a b c : Expr} {es : List Expr} {pos : Pos}
theorem Ctx.u1 (C : Ctx X P N sc) : X.A.units + 1 < cLine := by have := C.un; omega
theorem DenM.up {e : Sl} {σ : L2.St} {H : Hp} {v : V} {d : D} (h : Den P.K (av1 P e σ m) H v d) : DenM P e σ m H v d := by
  refine Den2.mono (fun a z => ?_) (fun a z => z) h.two
  match m with
  | 0 => exact z
  | 1 => exact .inl z
  | _ + 2 => exact z
/-! names, constants -/
theorem se_var (C : Ctx X P N sc) {i : Nat} {x : Str} (hN : N[i]? = some x) (hv : Vis sc x) (hd : (x == ("__debug__" : Str)) = false := by decide) (hcd : (x == ("__classdict__" : Str)) = false := by decide) : PE X (.Name x pos) (lift P m (ev Φ (.var i))) := by
  refine PE.imp (pe_var (i := i) (by rw [C.hN]; exact hN) (by rw [C.hs]; exact hv) hd hcd) fun σ H Q ⟨e, R, p⟩ => ?_
  simp only [ev] at p
  cases q : e[i]? with
  | none => rw [q] at p; exact p.elim
  | some s =>
    rw [q] at p
    obtain ⟨o, h1, h2⟩ := R.at q
    cases s with
    | d x =>
      obtain ⟨v, rfl, dd⟩ := h2
      exact ⟨v, h1, p v H (Same.refl H) dd.mm⟩
    | _ => exact p.elim
theorem se_vw (C : Ctx X P N sc) {i : Nat} {x : Str} (hN : N[i]? = some x) (hv : Vis sc x) (hm : m ≤ 1) (hd : (x == ("__debug__" : Str)) = false := by decide) (hcd : (x == ("__classdict__" : Str)) = false := by decide) : PE X (.Name x pos) (lift P m (ev Φ (.vw i))) := by
  refine PE.imp (pe_var (i := i) (by rw [C.hN]; exact hN) (by rw [C.hs]; exact hv) hd hcd) fun σ H Q ⟨e, R, p⟩ => ?_
  simp only [ev] at p
  have top : ∀ {a : Addr}, Owns e σ a → ¬ av0 P e σ m a := fun {a} ow z => by
    match m, hm with
    | 0, _ => exact R.own_av ow z
    | 1, _ => exact R.own_av ow z
  have in1 : ∀ a, av1 P e σ m a → avo P e σ a := fun a z => by
    match m with
    | 0 => exact .inl z
    | _ + 1 => exact z
  cases q : e[i]? with
  | none => rw [q] at p; exact p.elim
  | some s =>
    rw [q] at p
    obtain ⟨o, h1, h2⟩ := R.at q
    cases s with
    | d x =>
      obtain ⟨v, rfl, dd⟩ := h2
      exact ⟨v, h1, p v H (Same.refl H) dd.mm⟩
    | ol xs =>
      obtain ⟨a, ys, rfl, ha, dd⟩ := h2
      exact ⟨.ref a, h1, p _ H (Same.refl H) ⟨a, ys, rfl, .inl (.inl ha), .inl (top ⟨i, _, q, rfl, h1⟩), dd.imp (fun _ _ z => z) fun a _ => in1 a⟩⟩
    | od xs =>
      obtain ⟨a, ys, rfl, ha, dd⟩ := h2
      exact ⟨.ref a, h1, p _ H (Same.refl H) ⟨a, ys, rfl, .inl ha, top ⟨i, _, q, rfl, h1⟩, dd.imp (fun _ _ z => z) fun a _ => in1 a⟩⟩
    | un => exact p.elim
    | ob _ => exact p.elim
    | on _ => exact p.elim
    | rn _ => exact p.elim
theorem se_c {v : V} {d : D} (h : PE X a (tC v)) (hd : ∀ (av : Addr → Prop) (H : Hp), Den P.K av H v d) : PE X a (lift P m (ev Φ (.con d))) :=
  PE.imp h fun σ H Q ⟨e, R, p⟩ => by
    simp only [ev] at p
    exact p v H (Same.refl H) (DenM.up (hd _ _))
theorem se_int {i : Int} {j : Nat} : PE X (.Constant (.int i) j pos) (lift P m (ev Φ (.con (.int i)))) := se_c pe_int fun _ _ => .int i
theorem se_bl {i : Bool} {j : Nat} : PE X (.Constant (.bool i) j pos) (lift P m (ev Φ (.con (.bool i)))) := se_c pe_bl fun _ _ => .bool i
theorem se_non {j : Nat} : PE X (.Constant .none j pos) (lift P m (ev Φ (.con .none))) := se_c pe_non fun _ _ => .none
theorem se_str {i : Str} {j : Nat} : PE X (.Constant (.str i) j pos) (lift P m (ev Φ (.con (.str i)))) := se_c pe_str fun _ _ => .str i
theorem se_glob {v : V} {d : D} {u : Value} {x : Str} (hg : X.env.kindOf x = some .globalImplicit) (hm : X.mg x = some u) (r : L2.RelV v u) (hd : ∀ (av : Addr → Prop) (H : Hp), Den P.K av H v d) (hdb : (x == ("__debug__" : Str)) = false := by decide) : PE X (.Name x pos) (lift P m (ev Φ (.con d))) := se_c (pe_glob hg hm r hdb) hd

/-! operations -/
theorem se_bin (C : Ctx X P N sc) (op : BOp) (ha : PE X a (lift P (sub m) (ev Φ A))) (hb : PE X b (lift P (sub m) (ev Φ B))) :
    PE X (.BinOp a (bOp op) b pos) (liftN P m (ev Φ (.bin op A B))) := by
  have o := op_binD (X := X) op
  rw [C.hK] at o
  refine PE.imp (pe_op o ha hb) fun σ H Q ⟨e, R, p⟩ => ⟨e, R, ?_⟩
  simp only [ev] at p
  refine Post.weaken (bindZ (α := D) (m := sub m) gdPostN R p) fun v H1 ⟨x, _, s1, R1, d1, p1⟩ => ⟨e, R1, ?_⟩
  refine Post.weaken (bindZ (α := D) (m := sub m) gdPostN R1 p1) fun w H2 ⟨y, _, s2, R2, d2, p2⟩ => ?_
  cases q : binD op x y with
  | none => rw [q] at p2; exact p2.elim
  | some d =>
    rw [q] at p2
    have d1' := d1.same s2
    unfold DenM at d1' d2
    rw [av1_sub] at d1' d2
    exact ⟨_, _, _, x, y, d, d1', d2, q, fun z H' s hz => p2 z H' s hz⟩
theorem bl_m {e : Sl} {σ : L2.St} {H : Hp} {i : Bool} : DenM P e σ m H (.bl i) (.bool i) := DenM.up (.bool i)
theorem int_m {e : Sl} {σ : L2.St} {H : Hp} {i : Int} : DenM P e σ m H (.int i) (.int i) := DenM.up (.int i)
theorem se_cmp (C : Ctx X P N sc) (op : COp) (ha : PE X a (lift P 0 (ev Φ A))) (hb : PE X b (lift P 0 (ev Φ B))) (hm : behindInMarks (cOp op) b = false) :
    PE X (.Compare a [cOp op] [b] pos) (lift P m (ev Φ (.cmp op A B))) := by
  have o := op_cmpD (X := X) C.un op
  rw [C.hK] at o
  refine PE.imp (pe_cmpR o ha hb hm) fun σ H Q ⟨e, R, p⟩ => ⟨e, R, ?_⟩
  simp only [ev] at p
  refine Post.weaken (bindZ (α := D) (m := 0) gdPost R p) fun v H1 ⟨x, _, s1, R1, d1, p1⟩ => ⟨e, R1, ?_⟩
  refine Post.weaken (bindZ (α := D) (m := 0) gdPost R1 p1) fun w H2 ⟨y, _, s2, R2, d2, p2⟩ => ?_
  cases q : cmpD op x y with
  | none => rw [q] at p2; exact p2.elim
  | some d =>
    rw [q] at p2
    exact ⟨_, _, _, x, y, d, d1.same s2, d2, q, p2 _ H2 (Same.refl _) bl_m⟩
theorem st_cmp (C : Ctx X P N sc) (op : COp) (ha : PE X a (lift P 0 (ev Φ A))) (hb : PE X b (lift P 0 (ev Φ B))) (hm : behindInMarks (cOp op) b = false) :
    PT X (.Compare a [cOp op] [b] pos) (liftT P (ev Φ (.cmp op A B))) := by
  have o := op_cmpD (X := X) C.un op
  rw [C.hK] at o
  refine PT.imp (pt_cmpR o ha hb hm) fun σ H Q ⟨e, R, p⟩ => ⟨e, R, ?_⟩
  simp only [ev] at p
  refine Post.weaken (bindZ (α := D) (m := 0) gdPostT R p) fun v H1 ⟨x, _, s1, R1, d1, p1⟩ => ⟨e, R1, ?_⟩
  refine Post.weaken (bindZ (α := D) (m := 0) gdPostT R1 p1) fun w H2 ⟨y, _, s2, R2, d2, p2⟩ => ?_
  cases q : cmpD op x y with
  | none => rw [q] at p2; exact p2.elim
  | some d =>
    rw [q] at p2
    exact ⟨_, _, _, x, y, d, d1.same s2, d2, q, d, rfl, p2 H2 (Same.refl _)⟩
theorem se_chain (C : Ctx X P N sc) (o1 o2 : COp) (ha : PE X a (lift P 0 (ev Φ A))) (hb : PE X b (lift P 0 (ev Φ B))) (hc : PE X c (lift P 0 (ev Φ E))) (hm : lastMarks [cOp o1, cOp o2] [b, c] = false) :
    PE X (.Compare a [cOp o1, cOp o2] [b, c] pos) (lift P m (ev Φ (.chain o1 o2 A B E))) := by
  have w1 := op_cmpD (X := X) C.un o1
  have w2 := op_cmpD (X := X) C.un o2
  rw [C.hK] at w1 w2
  refine PE.imp (pe_chain w1 w2 ha hb hc hm) fun σ H Q ⟨e, R, p⟩ => ⟨e, R, ?_⟩
  simp only [ev] at p
  refine Post.weaken (bindZ (α := D) (m := 0) gdPost R p) fun v H1 ⟨x, _, s1, R1, d1, p1⟩ => ⟨e, R1, ?_⟩
  refine Post.weaken (bindZ (α := D) (m := 0) gdPost R1 p1) fun w H2 ⟨y, _, s2, R2, d2, p2⟩ => ?_
  cases q : cmpD o1 x y with
  | none => rw [q] at p2; exact p2.elim
  | some k =>
    rw [q] at p2
    refine ⟨_, _, _, x, y, k, d1.same s2, d2, q, k, rfl, ?_⟩
    cases k with
    | false => exact p2 _ H2 (Same.refl _) bl_m
    | true =>
      refine ⟨e, R2, ?_⟩
      refine Post.weaken (bindZ (α := D) (m := 0) gdPost R2 p2) fun u H3 ⟨z, _, s3, R3, d3, p3⟩ => ?_
      cases q3 : cmpD o2 y z with
      | none => rw [q3] at p3; exact p3.elim
      | some d =>
        rw [q3] at p3
        exact ⟨_, _, _, y, z, d, d2.same s3, d3, q3, p3 _ H3 (Same.refl _) bl_m⟩
/-- a bool's value as a test -/
theorem st_val {f : Sl → Res D} (h : PE X a (lift P 2 f)) (he : ∀ whole, PySem.isTrue a X.env whole = (do let v ← whole; standAt a.pos; holding [v] (truthy v)) := by intro _; rfl) : PT X a (liftT P f) :=
  PT.imp (pt_val h he) fun σ H Q ⟨e, R, p⟩ => ⟨e, R, by
    cases q : f e with
    | ok d =>
      rw [q] at p
      cases d with
      | bool k => exact fun v H' s hd => ⟨k, d2_bool hd, p H' s⟩
      | _ => exact p.elim
    | ex c => rw [q] at p; exact p
    | stuck => rw [q] at p; exact p⟩
theorem PostT.weaken {σ : L2.St} {H : Hp} {Q Q' : Bool → Hp → Prop} {r : Res D} (h : PostT P σ H Q r) (w : ∀ k H', Q k H' → Q' k H') : PostT P σ H Q' r := by
  cases r with
  | ok d => cases d with
    | bool k => exact fun H' s => w _ _ (h H' s)
    | _ => exact h.elim
  | ex c => exact h
  | stuck => exact h
/-- a test evaluated -/
theorem bindT' {β : Type} {Z : Hp → Res β → Prop} {e : Sl} {σ : L2.St} {H : Hp} (gd : Gd P σ Z) (R : Rel P e σ H) {F : D → Res β} {r : Res D} (hF : ∀ d, (∀ k, d ≠ .bool k) → F d = .stuck) (h : Z H (r.bind F)) :
    PostT P σ H (fun k H1 => r = .ok (.bool k) ∧ Same H H1 ∧ Rel P e σ H1 ∧ Z H1 (F (.bool k))) r := by
  cases r with
  | ok d =>
    cases d with
    | bool k => exact fun H1 s => ⟨rfl, s, R.same s, gd.back s h⟩
    | none => exact gd.no (by have := hF .none (fun _ z => nomatch z); rw [← this]; exact h)
    | int i => exact gd.no (by have := hF (.int i) (fun _ z => nomatch z); rw [← this]; exact h)
    | str i => exact gd.no (by have := hF (.str i) (fun _ z => nomatch z); rw [← this]; exact h)
    | list i => exact gd.no (by have := hF (.list i) (fun _ z => nomatch z); rw [← this]; exact h)
    | tuple i => exact gd.no (by have := hF (.tuple i) (fun _ z => nomatch z); rw [← this]; exact h)
    | dict i => exact gd.no (by have := hF (.dict i) (fun _ z => nomatch z); rw [← this]; exact h)
  | ex c => exact gd.ex h
  | stuck => exact gd.no h
theorem se_ite (hc : PT X c (liftT P (ev Φ E))) (ha : PE X a (lift P m (ev Φ A))) (hb : PE X b (lift P m (ev Φ B))) : PE X (.IfExp c a b pos) (lift P m (ev Φ (.ite E A B))) := by
  refine PE.imp (pe_ifExp hc ha hb) fun σ H Q ⟨e, R, p⟩ => ⟨e, R, ?_⟩
  simp only [ev] at p
  refine PostT.weaken (bindT' (gdPost (m := m)) R (fun d hd => ?_) p) fun k H1 ⟨_, s, R1, z⟩ => ?_
  · cases d with
    | bool k => exact absurd rfl (hd k)
    | _ => rfl
  · cases k with
    | true => exact ⟨e, R1, z⟩
    | false => exact ⟨e, R1, z⟩
theorem st_and {rest : List Expr} (ha : PT X a (liftT P (ev Φ A))) (hb : PW X (.BoolOp .And (b :: rest) pos) (liftT P (ev Φ B))) : PW X (.BoolOp .And (a :: b :: rest) pos) (liftT P (ev Φ (.and A B))) := by
  refine PW.imp (pw_and ha hb) fun σ H Q ⟨e, R, p⟩ => ⟨e, R, ?_⟩
  simp only [ev] at p
  refine PostT.weaken (bindT' (gdPostT) R (fun d hd => ?_) p) fun k H1 ⟨_, s, R1, z⟩ => ?_
  · cases d with
    | bool k => exact absurd rfl (hd k)
    | _ => rfl
  · cases k with
    | true => exact ⟨e, R1, z⟩
    | false => exact z H1 (Same.refl _)
theorem st_or {rest : List Expr} (ha : PT X a (liftT P (ev Φ A))) (hb : PW X (.BoolOp .Or (b :: rest) pos) (liftT P (ev Φ B))) : PW X (.BoolOp .Or (a :: b :: rest) pos) (liftT P (ev Φ (.or A B))) := by
  refine PW.imp (pw_or ha hb) fun σ H Q ⟨e, R, p⟩ => ⟨e, R, ?_⟩
  simp only [ev] at p
  refine PostT.weaken (bindT' (gdPostT) R (fun d hd => ?_) p) fun k H1 ⟨_, s, R1, z⟩ => ?_
  · cases d with
    | bool k => exact absurd rfl (hd k)
    | _ => rfl
  · cases k with
    | true => exact z H1 (Same.refl _)
    | false => exact ⟨e, R1, z⟩
theorem st_and1 {f : Sl → Res D} (ha : PT X a (liftT P f)) : PW X (.BoolOp .And [a] pos) (liftT P f) := pw_and1 ha
theorem st_or1 {f : Sl → Res D} (ha : PT X a (liftT P f)) : PW X (.BoolOp .Or [a] pos) (liftT P f) := pw_or1 ha
theorem se_one {op : BoolOp} {f : Sl → Res D} (ha : PE X a (lift P m f)) : PE X (.BoolOp op [a] pos) (lift P m f) := pe_one ha
theorem st_chain (C : Ctx X P N sc) (o1 o2 : COp) (ha : PE X a (lift P 0 (ev Φ A))) (hb : PE X b (lift P 0 (ev Φ B))) (hc : PE X c (lift P 0 (ev Φ E))) (hm : lastMarks [cOp o1, cOp o2] [b, c] = false) :
    PT X (.Compare a [cOp o1, cOp o2] [b, c] pos) (liftT P (ev Φ (.chain o1 o2 A B E))) := by
  have w1 := op_cmpD (X := X) C.un o1
  have w2 := op_cmpD (X := X) C.un o2
  rw [C.hK] at w1 w2
  refine PT.imp (pt_chain w1 w2 ha hb hc hm) fun σ H Q ⟨e, R, p⟩ => ⟨e, R, ?_⟩
  simp only [ev] at p
  refine Post.weaken (bindZ (α := D) (m := 0) gdPostT R p) fun v H1 ⟨x, _, s1, R1, d1, p1⟩ => ⟨e, R1, ?_⟩
  refine Post.weaken (bindZ (α := D) (m := 0) gdPostT R1 p1) fun w H2 ⟨y, _, s2, R2, d2, p2⟩ => ?_
  cases q : cmpD o1 x y with
  | none => rw [q] at p2; exact p2.elim
  | some k =>
    rw [q] at p2
    refine ⟨_, _, _, x, y, k, d1.same s2, d2, q, k, rfl, ?_⟩
    cases k with
    | false => exact ⟨false, rfl, p2 _ (Same.refl _)⟩
    | true =>
      refine ⟨e, R2, ?_⟩
      refine Post.weaken (bindZ (α := D) (m := 0) gdPostT R2 p2) fun u H3 ⟨z, _, s3, R3, d3, p3⟩ => ?_
      cases q3 : cmpD o2 y z with
      | none => rw [q3] at p3; exact p3.elim
      | some d =>
        rw [q3] at p3
        exact ⟨_, _, _, y, z, d, d2.same s3, d3, q3, d, rfl, p3 _ (Same.refl _)⟩
theorem st_not (ha : PT X a (liftT P (ev Φ A))) : PT X (.UnaryOp .Not a pos) (liftT P (ev Φ (.not A))) := by
  refine PT.imp (pt_not ha) fun σ H Q ⟨e, R, p⟩ => ⟨e, R, ?_⟩
  simp only [ev] at p
  refine PostT.weaken (bindT' (gdPostT) R (fun d hd => ?_) p) fun k H1 ⟨_, s, R1, z⟩ => ?_
  · cases d with
    | bool k => exact absurd rfl (hd k)
    | _ => rfl
  · exact z H1 (Same.refl _)
/-- a bool evaluated -/
theorem bindB {β : Type} {Z : Hp → Res β → Prop} {e : Sl} {σ : L2.St} {H : Hp} (gd : Gd P σ Z) (R : Rel P e σ H) {F : D → Res β} {r : Res D} (hF : ∀ d, (∀ k, d ≠ .bool k) → F d = .stuck) (h : Z H (r.bind F)) :
    Post P e σ m H (fun v H1 => ∃ k, v = .bl k ∧ Same H H1 ∧ Rel P e σ H1 ∧ Z H1 (F (.bool k))) r := by
  cases r with
  | ok d =>
    cases d with
    | bool k => exact fun v H1 s hd => ⟨k, d2_bool hd, s, R.same s, gd.back s h⟩
    | none => exact (gd.no (by have := hF .none (fun _ z => nomatch z); rw [← this]; exact h)).elim
    | int i => exact (gd.no (by have := hF (.int i) (fun _ z => nomatch z); rw [← this]; exact h)).elim
    | str i => exact (gd.no (by have := hF (.str i) (fun _ z => nomatch z); rw [← this]; exact h)).elim
    | list i => exact (gd.no (by have := hF (.list i) (fun _ z => nomatch z); rw [← this]; exact h)).elim
    | tuple i => exact (gd.no (by have := hF (.tuple i) (fun _ z => nomatch z); rw [← this]; exact h)).elim
    | dict i => exact (gd.no (by have := hF (.dict i) (fun _ z => nomatch z); rw [← this]; exact h)).elim
  | ex c => exact gd.ex h
  | stuck => exact gd.no h
theorem se_and {rest : List Expr} (ha : PE X a (lift P 0 (ev Φ A))) (hb : PE X (.BoolOp .And (b :: rest) pos) (lift P m (ev Φ B))) : PE X (.BoolOp .And (a :: b :: rest) pos) (lift P m (ev Φ (.and A B))) := by
  refine PE.imp (pe_and ha hb) fun σ H Q ⟨e, R, p⟩ => ⟨e, R, ?_⟩
  simp only [ev] at p
  refine Post.weaken (bindB (m := 0) (gdPost (m := m)) R (fun d hd => ?_) p) fun v H1 ⟨k, hv, s, R1, z⟩ => ⟨k, hv, ?_⟩
  · cases d with
    | bool k => exact absurd rfl (hd k)
    | _ => rfl
  · cases k with
    | true => exact ⟨e, R1, z⟩
    | false => exact z _ H1 (Same.refl _) bl_m
theorem se_or {rest : List Expr} (ha : PE X a (lift P 0 (ev Φ A))) (hb : PE X (.BoolOp .Or (b :: rest) pos) (lift P m (ev Φ B))) : PE X (.BoolOp .Or (a :: b :: rest) pos) (lift P m (ev Φ (.or A B))) := by
  refine PE.imp (pe_or ha hb) fun σ H Q ⟨e, R, p⟩ => ⟨e, R, ?_⟩
  simp only [ev] at p
  refine Post.weaken (bindB (m := 0) (gdPost (m := m)) R (fun d hd => ?_) p) fun v H1 ⟨k, hv, s, R1, z⟩ => ⟨k, hv, ?_⟩
  · cases d with
    | bool k => exact absurd rfl (hd k)
    | _ => rfl
  · cases k with
    | true => exact z _ H1 (Same.refl _) bl_m
    | false => exact ⟨e, R1, z⟩
theorem se_not (ha : PE X a (lift P 0 (ev Φ A))) : PE X (.UnaryOp .Not a pos) (lift P m (ev Φ (.not A))) := by
  refine PE.imp (pe_not ha) fun σ H Q ⟨e, R, p⟩ => ⟨e, R, ?_⟩
  simp only [ev] at p
  refine Post.weaken (bindB (m := 0) (gdPost (m := m)) R (fun d hd => ?_) p) fun v H1 ⟨k, hv, s, R1, z⟩ => ⟨k, hv, ?_⟩
  · cases d with
    | bool k => exact absurd rfl (hd k)
    | _ => rfl
  · exact z _ H1 (Same.refl _) bl_m
theorem se_neg (ha : PE X a (lift P 0 (ev Φ A))) : PE X (.UnaryOp .USub a pos) (lift P m (ev Φ (.neg A))) := by
  refine PE.imp (pe_un un_neg ha) fun σ H Q ⟨e, R, p⟩ => ⟨e, R, ?_⟩
  simp only [ev] at p
  refine Post.weaken (bindZ (α := D) (m := 0) gdPost R p) fun v H1 ⟨x, _, s1, R1, d1, p1⟩ => ?_
  cases x with
  | int i => exact ⟨i, d2_int d1, p1 _ H1 (Same.refl _) int_m⟩
  | _ => exact p1.elim

/-! ### argument lists, displays -/
theorem ses_nil : PA X [] (lifts P m (evs Φ [])) := PA.imp pa_nil fun σ H Q ⟨e, R, p⟩ => by
  simp only [evs] at p
  exact p [] H (Same.refl _) trivial
theorem ses_cons (ha : PE X a (lift P m (ev Φ A))) (hr : PA X es (lifts P m (evs Φ ES))) (hs : starEach (a :: es) X.env = (false, eval a X.env) :: starEach es X.env := by rfl) : PA X (a :: es) (lifts P m (evs Φ (A :: ES))) := by
  refine PA.imp (pa_cons ha hr hs) fun σ H Q ⟨e, R, p⟩ => ⟨e, R, ?_⟩
  simp only [evs] at p
  refine Post.weaken (bindZ (α := D) (m := m) (gdPosts (m := m)) R p) fun v H1 ⟨x, _, s1, R1, d1, p1⟩ => ⟨e, R1, ?_⟩
  refine Posts.weaken (bindZs (m := m) (gdPosts (m := m)) R1 p1) fun vs H2 ⟨xs, _, s2, R2, d2, p2⟩ => ?_
  exact p2 (v :: vs) H2 (Same.refl _) ⟨d1.same s2, d2⟩
theorem DenMs.len {e : Sl} {σ : L2.St} {H : Hp} : ∀ {vs : List V} {ds : List D}, DenMs P e σ m H vs ds → vs.length = ds.length
  | [], [], _ => rfl
  | _ :: _, _ :: _, h => congrArg (· + 1) (DenMs.len h.2)
  | [], _ :: _, h => h.elim
  | _ :: _, [], h => h.elim
/-- the items' mode of a display -/
def cm : Nat → Nat
  | 0 => 0
  | _ => 2
theorem cm_av1 {e : Sl} {σ : L2.St} : av1 P e σ (cm m) = av1 P e σ m := by cases m <;> rfl
theorem DenMs.dens {e : Sl} {σ : L2.St} {H : Hp} {vs : List V} {ds : List D} (h : DenMs P e σ (cm m) H vs ds) : Dens P.K (av1 P e σ m) H vs ds := by
  cases m with
  | zero => exact h.weak
  | succ n => exact h.d2
theorem DenMs.dena {e : Sl} {σ : L2.St} {H : Hp} : ∀ {vs : List V} {ds : List D}, DenMs P e σ m H vs ds → DenA P.K (av1 P e σ m) H vs ds
  | [], [], _ => trivial
  | _ :: _, _ :: _, h => ⟨⟨_, h.1⟩, DenMs.dena h.2⟩
  | [], _ :: _, h => h.elim
  | _ :: _, [], h => h.elim
theorem se_tup {k : Nat} (hn : ES.length ≤ 1000) (ha : PA X es (lifts P (cm m) (evs Φ ES))) : PE X (.Tuple es k pos) (lift P m (ev Φ (.tup ES))) := by
  refine PE.imp (pe_tup ha) fun σ H Q ⟨e, R, p⟩ => ⟨e, R, ?_⟩
  simp only [ev] at p
  refine Posts.weaken (bindZs (m := cm m) (gdPost (m := m)) R p) fun vs H1 ⟨xs, hx, s1, R1, d1, p1⟩ => ⟨?_, fun q no => ?_⟩
  · rw [d1.len, evs_len hx]
    exact Nat.le_trans hn (by decide)
  · exact p1 _ _ (same_upd no) (DenM.up (new_tup no d1.dens))
theorem se_lst (hn : ES.length ≤ 1000) (ha : PA X es (lifts P (cm m) (evs Φ ES))) : PE X (.List es pos) (liftN P m (ev Φ (.lst ES))) := by
  refine PE.imp (pe_lst ha) fun σ H Q ⟨e, R, p⟩ => ⟨e, R, ?_⟩
  simp only [ev] at p
  refine Posts.weaken (bindZs (m := cm m) (gdPostN (m := m)) R p) fun vs H1 ⟨xs, hx, s1, R1, d1, p1⟩ => ⟨?_, fun q no => ?_⟩
  · rw [d1.len, evs_len hx]
    exact Nat.le_trans hn (by decide)
  · exact p1 _ _ (same_upd no) (new_lst no d1.dens)
theorem se_emp : PE X (.Dict [] [] pos) (liftN P m (ev Φ .emp)) := by
  refine PE.imp pe_dnewK fun σ H Q ⟨e, R, p⟩ q no => ?_
  simp only [ev] at p
  exact p _ _ (same_upd no) (new_dct no .nil)
theorem se_idx (C : Ctx X P N sc) (ha : PE X a (lift P (sub m) (ev Φ A))) (hb : PE X b (lift P 0 (ev Φ B))) (hp : PlainIx b) : PE X (.Subscript a b pos) (lift P m (ev Φ (.idx A B))) := by
  have o := ixD (X := X) C.u1
  rw [C.hK] at o
  refine PE.imp (pe_ix o ha hb hp) fun σ H Q ⟨e, R, p⟩ => ⟨e, R, ?_⟩
  simp only [ev] at p
  refine Post.weaken (bindZ (α := D) (m := sub m) gdPost R p) fun v H1 ⟨x, _, s1, R1, d1, p1⟩ => ⟨e, R1, ?_⟩
  refine Post.weaken (bindZ (α := D) (m := 0) gdPost R1 p1) fun w H2 ⟨y, _, s2, R2, d2, p2⟩ => ?_
  cases q : idxD x y with
  | none => rw [q] at p2; exact p2.elim
  | some d =>
    rw [q] at p2
    have d1' := d1.same s2
    unfold DenM at d1'
    rw [av1_sub] at d1'
    exact ⟨_, _, _, _, x, y, d, d1', d2, q, fun z hz => p2 z H2 (Same.refl _) (DenM.up hz)⟩
/-- a slice's bound -/
def evo (Φ : FT) (A : Exp) (e : Sl) : Res (Option Int) := if A.isNop then .ok none else (ev Φ A e).bind partD
def PostO (P : Pk) (σ : L2.St) (H : Hp) (Q : Option Int → Hp → Prop) : Res (Option Int) → Prop
  | .ok o => ∀ H', Same H H' → Q o H'
  | .ex c => ∀ H', Same H H' → P.W (.ref (P.ca c)) none σ H'
  | .stuck => False
def liftO (P : Pk) (f : Sl → Res (Option Int)) : L2.TO := fun σ H Q => ∃ e, Rel P e σ H ∧ PostO P σ H Q (f e)
theorem so_none : PO X none (liftO P (evo Φ .nop)) := ⟨fun pins s σ H Q I ⟨e, R, p⟩ => (po_none (X := X)).run pins s σ H Q I (p H (Same.refl _))⟩
theorem so_some (ha : PE X a (lift P 0 (ev Φ A))) (hA : A.isNop = false := by rfl) : PO X (some a) (liftO P (evo Φ A)) := ⟨fun pins s σ H Q I ⟨e, R, p⟩ => by
  refine (po_some ha).run pins s σ H Q I ⟨e, R, ?_⟩
  unfold evo at p
  rw [hA, if_neg (by decide)] at p
  cases q : ev Φ A e with
  | ok d =>
    rw [q] at p
    cases d with
    | int i => exact fun v H' s hd => ⟨i, d2_int hd, p H' s⟩
    | _ => exact p.elim
  | ex c => rw [q] at p; exact p
  | stuck => rw [q] at p; exact p⟩
theorem bindO {β : Type} {Z : Hp → Res β → Prop} {e : Sl} {σ : L2.St} {H : Hp} (gd : Gd P σ Z) (R : Rel P e σ H) {F : Option Int → Res β} {r : Res (Option Int)} (h : Z H (r.bind F)) :
    PostO P σ H (fun o H1 => Same H H1 ∧ Rel P e σ H1 ∧ Z H1 (F o)) r := by
  cases r with
  | ok d => exact fun H1 s => ⟨s, R.same s, gd.back s h⟩
  | ex c => exact gd.ex h
  | stuck => exact gd.no h
theorem PostO.weaken {σ : L2.St} {H : Hp} {Q Q' : Option Int → Hp → Prop} {r : Res (Option Int)} (h : PostO P σ H Q r) (w : ∀ k H', Q k H' → Q' k H') : PostO P σ H Q' r := by
  cases r with
  | ok d => exact fun H' s => w _ _ (h H' s)
  | ex c => exact h
  | stuck => exact h
theorem se_sl (C : Ctx X P N sc) {lo hi : Option Expr} {p2 : Pos} {L U : Exp} (ha : PE X a (lift P (sub m) (ev Φ A))) (hl : PO X lo (liftO P (evo Φ L))) (hh : PO X hi (liftO P (evo Φ U))) :
    PE X (.Subscript a (.Slice lo hi none p2) pos) (liftN P m (ev Φ (.sl A L U))) := by
  have o := slD (X := X)
  rw [C.hK] at o
  refine PE.imp (pe_slice o ha hl hh) fun σ H Q ⟨e, R, p⟩ => ⟨e, R, ?_⟩
  simp only [ev] at p
  refine Post.weaken (bindZ (α := D) (m := sub m) gdPostN R p) fun v H1 ⟨x, _, s1, R1, d1, p1⟩ => ⟨e, R1, ?_⟩
  refine PostO.weaken (bindO (r := evo Φ L e) gdPostN R1 p1) fun l H2 ⟨s2, R2, p2⟩ => ⟨e, R2, ?_⟩
  refine PostO.weaken (bindO (r := evo Φ U e) gdPostN R2 p2) fun u H3 ⟨s3, R3, p3⟩ => ?_
  cases q : sliceD x l u with
  | none => rw [q] at p3; exact p3.elim
  | some d =>
    rw [q] at p3
    have d1' := (d1.same s2).same s3
    unfold DenM at d1'
    rw [av1_sub] at d1'
    exact ⟨_, _, x, d, d1', q, fun z H' s hz => p3 z H' s hz⟩
/-! ### calls -/
theorem se_call (C : Ctx X P N sc) {x : Str} {F : Nat} {p : Pos} (fn : Fn1 X.prog X.w X.K X.mg X.base X.A P.ca Φ x F) (hg : X.env.kindOf x = some .globalImplicit) (ha : PA X (a :: es) (lifts P (cm m) (evs Φ ES))) (hdb : (x == ("__debug__" : Str)) = false := by decide)
    (he : starEach (a :: es) X.env = (false, eval a X.env) :: starEach es X.env := by rfl) (hpl : (backTo pos (starEach es X.env)).any (·.1) = false := by rfl) :
    PE X (.Call (.Name x p) (a :: es) [] pos) (lift P m (ev Φ (.call F ES))) := by
  obtain ⟨k, fA, fd, ps, ok, hr, hm, hk, hb⟩ := fn.ex
  refine PE.imp (pe_callS ok hr hg hm hk hb (fun σ => passAt C.tk σ) ha hdb he hpl) fun σ H Q ⟨e, R, p⟩ => ⟨e, R, ?_⟩
  simp only [ev] at p
  refine Posts.weaken (bindZs (m := cm m) (gdPost (m := m)) R p) fun vs H1 ⟨xs, hx, s1, R1, d1, p1⟩ => ?_
  refine ⟨av1 P e σ m, xs, fun a z => ?_, by rw [C.hK]; exact d1.dens, ?_⟩
  · match m with
    | 0 => exact R1.av_ne (.inl z)
    | _ + 1 => exact R1.av_ne z
  · cases q : Φ F xs with
    | ok d => rw [q] at p1; exact fun v H' s hd => p1 v H' s (DenM.up (by rw [C.hK] at hd; exact hd))
    | ex c => rw [q] at p1; exact p1
    | stuck => rw [q] at p1; exact p1.elim
theorem se_callv (C : Ctx X P N sc) {x : Str} {F : Nat} {p : Pos} (fn : Fn1 X.prog X.w X.K X.mg X.base X.A P.ca Φ x F) (hg : X.env.kindOf x = some .globalImplicit) (ha : PA X (a :: es) (lifts P 0 (evs Φ ES))) (hdb : (x == ("__debug__" : Str)) = false := by decide)
    (he : starEach (a :: es) X.env = (false, eval a X.env) :: starEach es X.env := by rfl) (hpl : (backTo pos (starEach es X.env)).any (·.1) = false := by rfl) :
    PE X (.Call (.Name x p) (a :: es) [] pos) (lift P m (ev Φ (.callv F ES))) := by
  refine PE.imp (se_call (m := 0) C fn hg ha hdb he hpl) fun σ H Q ⟨e, R, p⟩ => ⟨e, R, ?_⟩
  simp only [ev] at p ⊢
  cases q : evs Φ ES e with
  | ok xs =>
    simp only [q, Res.bind_ok] at p ⊢
    cases q2 : Φ F xs with
    | ok y =>
      simp only [q2, Res.bind_ok] at p ⊢
      cases q3 : noLst y with
      | true =>
        rw [q3, if_pos rfl] at p
        exact fun v H' s hd => p v H' s (hd.flat q3).mm
      | false => rw [q3, if_neg (by decide)] at p; exact p.elim
    | ex c => rw [q2] at p; exact p
    | stuck => rw [q2] at p; exact p.elim
  | ex c => rw [q] at p; exact p
  | stuck => rw [q] at p; exact p.elim
/-! ### built-ins -/
theorem tCB_of {σ : L2.St} {H : Hp} {Q : VK} {Bl : Blt} (h : liftN P m (ev Φ (.blt Bl ES)) σ H Q) : tCB (RCl P.K (bltD Bl)) (lifts P (sub m) (evs Φ ES)) σ H Q := by
  obtain ⟨e, R, p⟩ := h
  refine ⟨e, R, ?_⟩
  simp only [ev] at p
  refine Posts.weaken (bindZs (m := sub m) (gdPostN (m := m)) R p) fun vs H1 ⟨xs, hx, s1, R1, d1, p1⟩ => ?_
  cases q : bltD Bl xs with
  | none => rw [q] at p1; exact p1.elim
  | some d =>
    rw [q] at p1
    have da := d1.dena
    rw [av1_sub] at da
    exact ⟨_, xs, d, da, q, fun z H' s hz => p1 z H' s hz⟩
/-- a built-in function -/
theorem se_bltB (C : Ctx X P N sc) {x : Str} {p : Pos} {id : String} {Bl : Blt} (hc : CallR X (.builtin id) (RCl X.K (bltD Bl))) (hg : X.env.kindOf x = some .globalImplicit) (hm : X.mg x = none) (hv : bootBuiltins x = some (.builtin id))
    (ha : PA X (a :: es) (lifts P (sub m) (evs Φ ES))) (hn : x ≠ ("__name__" : Str) := by decide) (hdb : (x == ("__debug__" : Str)) = false := by decide)
    (he : starEach (a :: es) X.env = (false, eval a X.env) :: starEach es X.env := by rfl) (hpl : (backTo pos (starEach es X.env)).any (·.1) = false := by rfl) :
    PE X (.Call (.Name x p) (a :: es) [] pos) (liftN P m (ev Φ (.blt Bl ES))) := by
  rw [C.hK] at hc
  exact PE.imp (pe_callB hc hg hm hv ha hn hdb he hpl) fun σ H Q h => tCB_of h
/-- a built-in type -/
theorem se_bltT (C : Ctx X P N sc) {x : Str} {p : Pos} {T : String} {Bl : Blt} (hc : CallR X (.type T) (RCl X.K (bltD Bl))) (hg : X.env.kindOf x = some .globalImplicit) (hm : X.mg x = none) (hv : bootBuiltins x = some (.type T))
    (ha : PA X (a :: es) (lifts P (sub m) (evs Φ ES))) (hn : x ≠ ("__name__" : Str) := by decide) (hdb : (x == ("__debug__" : Str)) = false := by decide)
    (he : starEach (a :: es) X.env = (false, eval a X.env) :: starEach es X.env := by rfl) (hpl : (backTo pos (starEach es X.env)).any (·.1) = false := by rfl) :
    PE X (.Call (.Name x p) (a :: es) [] pos) (liftN P m (ev Φ (.blt Bl ES))) := by
  rw [C.hK] at hc
  exact PE.imp (pe_callTy hc hg hm hv ha hn hdb he hpl) fun σ H Q h => tCB_of h
/-- a result that holds no list is strong -/
theorem PE.flat {f : Sl → Res D} (hf : ∀ e d, f e = .ok d → noLst d = true) (h : PE X a (liftN P 0 f)) : PE X a (lift P m f) := Rf.PE.imp (Rf.PE.new h) fun σ H Q ⟨e, R, p⟩ => ⟨e, R, by
  cases q : f e with
  | ok d => rw [q] at p; exact fun v H' s hd => p v H' s (hd.flat (hf e d q)).mm
  | ex c => rw [q] at p; exact p
  | stuck => rw [q] at p; exact p⟩
def Blt.flat : Blt → Bool
  | .tuple => false
  | .list => false
  | .sorted => false
  | .dict => false
  | _ => true
theorem bltD_flat {Bl : Blt} (hB : Bl.flat = true) {ds : List D} {d : D} (h : bltD Bl ds = some d) : noLst d = true := by
  unfold bltD at h
  split at h <;> first
    | (exact absurd hB (by decide))
    | (simp only [Option.some.injEq] at h; subst h; rfl)
    | (split at h <;> first | (simp only [Option.some.injEq] at h; subst h; rfl) | (simp only [Option.map_eq_some_iff] at h; obtain ⟨_, _, rfl⟩ := h; rfl) | (exact absurd h (by simp)))
    | (simp only [Option.map_eq_some_iff] at h; obtain ⟨_, _, rfl⟩ := h; rfl)
    | (exact absurd h (by simp))
theorem se_flat {Bl : Blt} (hB : Bl.flat = true) (h : PE X a (liftN P 0 (ev Φ (.blt Bl ES)))) : PE X a (lift P m (ev Φ (.blt Bl ES))) := PE.flat (fun e d q => by
  simp only [ev] at q
  cases q1 : evs Φ ES e with
  | ok xs =>
    rw [q1] at q
    cases q2 : bltD Bl xs with
    | none => simp [q2] at q
    | some y =>
      simp only [Res.bind_ok, q2, Res.of_some, Res.ok.injEq] at q
      subst q
      exact bltD_flat hB q2
  | ex c => rw [q1] at q; simp at q
  | stuck => rw [q1] at q; simp at q) h
theorem binD_flat {op : BOp} {x y : D} (fx : noLst x = true) (fy : noLst y = true) {d : D} (h : binD op x y = some d) : noLst d = true := by
  unfold binD at h
  split at h <;> first
    | (simp only [Option.some.injEq] at h; subst h; rfl)
    | (simp [noLst] at fx; done)
    | (split at h <;> first
        | (simp only [Option.some.injEq] at h; subst h; rfl)
        | (simp only [Option.some.injEq] at h; subst h; simp only [noLst, noLsts, Bool.and_eq_true, List.cons_append] at fx fy ⊢; refine ⟨fx.1, ?_⟩; exact noLsts_append fx.2 fy)
        | (exact absurd h (by simp)))
    | (exact absurd h (by simp))
theorem se_isi (C : Ctx X P N sc) {x y : Str} {p py : Pos} {T : Nat} (hT : T < 5) (hx : x = "isinstance") (hg : X.env.kindOf x = some .globalImplicit) (hm : X.mg x = none)
    (hy : X.env.kindOf y = some .globalImplicit) (hmy : X.mg y = none) (hvy : bootBuiltins y = some (.type (tyN T))) (ha : PE X a (lift P 0 (ev Φ A)))
    (he : starEach [a, .Name y py] X.env = (false, eval a X.env) :: starEach [.Name y py] X.env := by rfl) (hpl : (backTo pos (starEach [.Name y py] X.env)).any (·.1) = false := by rfl)
    (he2 : starEach [.Name y py] X.env = (false, eval (.Name y py) X.env) :: starEach [] X.env := by rfl) (hn : y ≠ ("__name__" : Str) := by decide) (hdb : (y == ("__debug__" : Str)) = false := by decide) :
    PE X (.Call (.Name x p) [a, .Name y py] [] pos) (lift P m (ev Φ (.blt (.isi T) [A]))) := by
  subst hx
  have o := cl_isi (X := X) hT
  rw [C.hK] at o
  refine PE.imp (pe_callB o hg hm (by decide +kernel) (pa_cons ha (pa_cons (pe_bltn hy hmy hvy (v := .ty (tyN T)) rfl hn hdb) pa_nil he2) he) (by decide) (by decide) he hpl) fun σ H Q ⟨e, R, p⟩ => ⟨e, R, ?_⟩
  simp only [ev, evs] at p
  cases q : ev Φ A e with
  | ok d =>
    simp only [q, Res.bind_ok] at p
    refine fun v H1 s hd => ?_
    cases q2 : isiD T d with
    | none => simp only [bltD, q2, Option.map_none, Res.of_none] at p; exact p.elim
    | some b =>
      simp only [bltD, q2, Option.map_some, Res.of_some] at p
      exact ⟨v, _, _, d, b, rfl, hd, q2, p _ H1 s bl_m⟩
  | ex c => simp only [q, Res.bind_ex] at p; exact p
  | stuck => simp only [q, Res.bind_stuck] at p; exact p.elim

/-! ### methods -/
theorem se_m0 (C : Ctx X P N sc) (M : Mth) {o : Expr} {apos : Pos} (hM : M ≠ .get ∧ M ≠ .bits ∧ M ≠ .join) (ho : PE X o (lift P 0 (ev Φ A))) (hb : attributeBase o (mthN M) X.env (eval o X.env) = eval o X.env := by rfl) (hl : (apos.endLine == pos.line) = true := by rfl) :
    PE X (.Call (.Attribute o (mthN M) apos) [] [] pos) (lift P m (ev Φ (.mth M A []))) := by
  have w := pe_str0 (X := X) (pos := pos) M hM ho hb hl
  rw [C.hK] at w
  refine PE.imp w fun σ H Q ⟨e, R, p⟩ => ⟨e, R, ?_⟩
  simp only [ev, evs] at p
  refine Post.weaken (bindZ (α := D) (m := 0) gdPost R p) fun v H1 ⟨x, _, s1, R1, d1, p1⟩ => ?_
  simp only [Res.bind_ok] at p1
  cases x with
  | str z =>
    obtain rfl := d2_str d1
    have e1 : mthD M (.str z) [] = strM M z := by
      cases M with
      | get => exact absurd rfl hM.1
      | bits => exact absurd rfl hM.2.1
      | join => exact absurd rfl hM.2.2
      | _ => rfl
    rw [e1] at p1
    cases q : strM M z with
    | none => rw [q] at p1; exact p1.elim
    | some d => rw [q] at p1; exact ⟨⟨z, rfl⟩, z, rfl, d, rfl, q, fun w hw => p1 w H1 (Same.refl _) (DenM.up (hw.flat2 (strM_flat q)))⟩
  | _ =>
    cases M with
    | get => exact absurd rfl hM.1
    | bits => exact absurd rfl hM.2.1
    | join => exact absurd rfl hM.2.2
    | _ => exact p1.elim
theorem se_bits {o : Expr} {apos : Pos} (ho : PE X o (lift P 0 (ev Φ A))) (hb : attributeBase o "bit_length" X.env (eval o X.env) = eval o X.env := by rfl) (hl : (apos.endLine == pos.line) = true := by rfl) :
    PE X (.Call (.Attribute o "bit_length" apos) [] [] pos) (lift P m (ev Φ (.mth .bits A []))) := by
  refine PE.imp (pe_bits ho hb hl) fun σ H Q ⟨e, R, p⟩ => ⟨e, R, ?_⟩
  simp only [ev, evs] at p
  refine Post.weaken (bindZ (α := D) (m := 0) gdPost R p) fun v H1 ⟨x, _, s1, R1, d1, p1⟩ => ?_
  simp only [Res.bind_ok] at p1
  cases x with
  | int i => exact ⟨i, d2_int d1, p1 _ H1 (Same.refl _) int_m⟩
  | _ => exact p1.elim
theorem se_join (C : Ctx X P N sc) {o : Expr} {apos : Pos} {z : Str} (ho : PE X o (tC (.str z))) (ha : PE X a (lift P 0 (ev Φ B))) (he : starEach [a] X.env = [(false, eval a X.env)] := by rfl) (hb : attributeBase o "join" X.env (eval o X.env) = eval o X.env := by rfl) (hl : (apos.endLine == pos.line) = true := by rfl) :
    PE X (.Call (.Attribute o "join" apos) [a] [] pos) (lift P m (ev Φ (.mth .join (.con (.str z)) [B]))) := by
  refine PE.imp (pe_m1 PySem.F.slot_str_join PySem.F.type_str_join mt_join ho ha he hb hl) fun σ H Q ⟨e, R, p⟩ => ⟨⟨z, rfl⟩, e, R, ?_⟩
  simp only [ev, evs, Res.bind_ok] at p
  cases q : ev Φ B e with
  | ok y =>
    simp only [q, Res.bind_ok] at p
    intro w H2 s2 d2
    cases y with
    | list xs =>
      obtain ⟨b, ys, rfl, hr, dd⟩ := d2_lst d2
      simp only [mthD] at p
      cases q2 : allStrs xs with
      | none => simp only [q2, Option.bind_none, Res.of_none] at p; exact p.elim
      | some l =>
        simp only [q2, Option.bind_some] at p
        by_cases hz : (l.map (·.length)).sum + l.length * z.length ≤ line
        · rw [if_pos hz] at p
          rw [allStrs_of dd q2, ← C.hK] at hr
          exact ⟨z, b, l, rfl, rfl, .inl hr, Nat.le_trans hz (by decide), p _ H2 s2 (DenM.up (.str _))⟩
        · rw [if_neg hz] at p; exact p.elim
    | _ => exact p.elim
  | ex c => simp only [q, Res.bind_ex] at p; exact p
  | stuck => simp only [q, Res.bind_stuck] at p; exact p.elim
end
end
end Rf

set_option Elab.async false
set_option linter.all false
set_option maxRecDepth 100000
set_option maxHeartbeats 1000000
/-! Rf, part F: how the relation changes; targets, sources. -/
namespace Rf
noncomputable section
open PySem PySem.Spec PyProof.Rows L2
section
variable {K : PySem.W.Frag} {av : Addr → Prop} {H : Hp} {a : Addr} {o : HO}
theorem upd_rd (hk : ∀ ys, H a ≠ some (.tup ys)) (hf : ∀ o u, H a ≠ some (.frz o u)) {b : Addr} {ys : List V} (h : Rd H b (.tup ys)) : Rd (upd H a o) b (.tup ys) := by
  have hb : b ≠ a := fun e => by
    subst e
    rcases h with h | ⟨o, h⟩
    · exact hk _ h
    · exact hf _ _ h
  rcases h with h | ⟨o, h⟩
  · exact .inl (by rw [upd_ne hb]; exact h)
  · exact .inr ⟨o, by rw [upd_ne hb]; exact h⟩
theorem upd_rd2 {b : Addr} {u : HO} (hb : b ≠ a) (h : Rd H b u) : Rd (upd H a o) b u := by
  rcases h with h | ⟨o, h⟩
  · exact .inl (by rw [upd_ne hb]; exact h)
  · exact .inr ⟨o, by rw [upd_ne hb]; exact h⟩
mutual
theorem Den.upd (hk : ∀ ys, H a ≠ some (.tup ys)) (hf : ∀ o u, H a ≠ some (.frz o u)) (ha : av a) : ∀ {v : V} {d : D}, Den K av H v d → Den K av (L2.upd H a o) v d
  | _, _, .none => .none
  | _, _, .bool b => .bool b
  | _, _, .int i => .int i
  | _, _, .str x => .str x
  | _, _, .list h n t => .list (n.elim (fun n => h.imp (upd_rd2 fun e => n (e ▸ ha)) id) .inr) n (Dens.upd hk hf ha t)
  | _, _, .tuple h t => .tuple (h.imp (upd_rd hk hf) id) (Dens.upd hk hf ha t)
  | _, _, .dict h n t => .dict (upd_rd2 (fun e => n (e ▸ ha)) h) n (DenKs.upd hk hf ha t)
theorem Dens.upd (hk : ∀ ys, H a ≠ some (.tup ys)) (hf : ∀ o u, H a ≠ some (.frz o u)) (ha : av a) : ∀ {v : List V} {d : List D}, Dens K av H v d → Dens K av (L2.upd H a o) v d
  | _, _, .nil => .nil
  | _, _, .cons x y => .cons (Den.upd hk hf ha x) (Dens.upd hk hf ha y)
theorem DenKs.upd (hk : ∀ ys, H a ≠ some (.tup ys)) (hf : ∀ o u, H a ≠ some (.frz o u)) (ha : av a) : ∀ {v : List (Key × V)} {d : List (D × D)}, DenKs K av H v d → DenKs K av (L2.upd H a o) v d
  | _, _, .nil => .nil
  | _, _, .cons x y => .cons (Den.upd hk hf ha x) (DenKs.upd hk hf ha y)
end
theorem SlotOk.imp {av' : Addr → Prop} (g : ∀ a, H a ≠ none → av' a → av a) : ∀ {s : Slot} {o : Option V}, SlotOk K av H s o → SlotOk K av' H s o
  | .un, _, _ => trivial
  | .d _, _, ⟨v, h, d⟩ => ⟨v, h, d.imp (fun _ _ z => z) g⟩
  | .ol _, _, ⟨a, ys, h, q, d⟩ => ⟨a, ys, h, q, d.imp (fun _ _ z => z) g⟩
  | .od _, _, ⟨a, ys, h, q, d⟩ => ⟨a, ys, h, q, d.imp (fun _ _ z => z) g⟩
  | .on _, _, ⟨a, ys, h, q, z, d⟩ => ⟨a, ys, h, q, z, d.mp fun _ _ z => z.imp (fun _ _ z => z) g⟩
  | .rn _, _, ⟨a, ys, h, q, z, n, d⟩ => ⟨a, ys, h, q, z, fun y => n (g _ (rd_ne q) y), d.mp fun _ _ z => z.imp (fun _ _ z => z) g⟩
  | .ob _, _, h => h
end

section
variable {P : Pk} {e : Sl} {σ : L2.St} {H H' : Hp} {i : Nat}
theorem own_set_d {a : Addr} {s : Slot} {o : Option V} (hs : isOwn s = false) (h : Owns (e.set i s) (σ.set i o) a) : Owns e σ a := by
  obtain ⟨j, t, h1, h2, h3⟩ := h
  by_cases hj : i = j
  · subst hj
    rw [List.getElem?_set_self'] at h1
    cases q : e[i]? with
    | none => rw [q] at h1; simp at h1
    | some x => rw [q] at h1; simp only [Option.map_eq_map, Option.map_some, Function.const_apply, Option.some.injEq] at h1; subst h1; rw [hs] at h2; cases h2
  · rw [List.getElem?_set_ne hj] at h1 h3
    exact ⟨j, t, h1, h2, h3⟩
/-- a slot that takes what is not own -/
theorem Rel.set (R : Rel P e σ H) {s : Slot} {o : Option V} (hs : isOwn s = false) (hd : SlotOk P.K (avo P e σ) H s o) : Rel P (e.set i s) (σ.set i o) H where
  len := by rw [List.length_set, List.length_set, R.len]
  slot := fun j t o' h1 h2 => by
    have mono : ∀ b, avo P (e.set i s) (σ.set i o) b → avo P e σ b := fun b z => z.imp id (own_set_d hs)
    by_cases hj : i = j
    · subst hj
      rw [List.getElem?_set_self'] at h1 h2
      cases q : e[i]? with
      | none => rw [q] at h1; simp at h1
      | some x =>
        cases q2 : σ[i]? with
        | none => rw [q2] at h2; simp at h2
        | some y =>
          rw [q] at h1
          rw [q2] at h2
          simp only [Option.map_eq_map, Option.map_some, Function.const_apply, Option.some.injEq] at h1 h2
          subst h1 h2
          exact hd.imp fun a _ => mono a
    · rw [List.getElem?_set_ne hj] at h1 h2
      exact (R.slot j t o' h1 h2).imp fun a _ => mono a
  inj := fun j k s1 s2 a h1 h2 h3 h4 h5 h6 => by
    have get : ∀ {j : Nat} {t : Slot} {p : Option V}, (e.set i s)[j]? = some t → isOwn t = true → (σ.set i o)[j]? = some p → e[j]? = some t ∧ σ[j]? = some p := fun {j t p} h1 h2 h3 => by
      by_cases hj : i = j
      · subst hj
        rw [List.getElem?_set_self'] at h1
        cases q : e[i]? with
        | none => rw [q] at h1; simp at h1
        | some x => rw [q] at h1; simp only [Option.map_eq_map, Option.map_some, Function.const_apply, Option.some.injEq] at h1; subst h1; rw [hs] at h2; cases h2
      · rw [List.getElem?_set_ne hj] at h1 h3
        exact ⟨h1, h3⟩
    obtain ⟨a1, a2⟩ := get h1 h2 h5
    obtain ⟨b1, b2⟩ := get h3 h4 h6
    exact R.inj j k s1 s2 a a1 h2 b1 h4 a2 b2
  fr := R.fr
  new := fun a h => R.new a (own_set_d hs h)
theorem Rel.setD (R : Rel P e σ H) {x : D} {v : V} (hd : Den P.K (avo P e σ) H v x) : Rel P (e.set i (.d x)) (σ.set i (some v)) H := R.set rfl ⟨v, rfl, hd⟩
theorem own_set_new {a p : Addr} {s : Slot} (h : Owns (e.set i s) (σ.set i (some (.ref p))) a) : Owns e σ a ∨ a = p := by
  obtain ⟨j, t, h1, h2, h3⟩ := h
  by_cases hj : i = j
  · subst hj
    rw [List.getElem?_set_self'] at h3
    cases q : σ[i]? with
    | none => rw [q] at h3; simp at h3
    | some x =>
      rw [q] at h3
      simp only [Option.map_eq_map, Option.map_some, Function.const_apply, Option.some.injEq, V.ref.injEq] at h3
      exact .inr h3.symm
  · rw [List.getElem?_set_ne hj] at h1 h3
    exact .inl ⟨j, t, h1, h2, h3⟩
/-- a slot that takes a new list or dict as its own -/
theorem Rel.setNew (R : Rel P e σ H) {s : Slot} {p : Addr} (hp : H p = none) (sm : Same H H') (hs : SlotOk P.K (fun a => avo P e σ a ∨ a = p) H' s (some (.ref p))) : Rel P (e.set i s) (σ.set i (some (.ref p))) H' where
  len := by rw [List.length_set, List.length_set, R.len]
  slot := fun j t o' h1 h2 => by
    have mono : ∀ b, avo P (e.set i s) (σ.set i (some (.ref p))) b → avo P e σ b ∨ b = p := fun b z => z.elim (fun z => .inl (.inl z)) fun z => (own_set_new z).imp .inr id
    by_cases hj : i = j
    · subst hj
      rw [List.getElem?_set_self'] at h1 h2
      cases q : e[i]? with
      | none => rw [q] at h1; simp at h1
      | some x =>
        cases q2 : σ[i]? with
        | none => rw [q2] at h2; simp at h2
        | some y =>
          rw [q] at h1
          rw [q2] at h2
          simp only [Option.map_eq_map, Option.map_some, Function.const_apply, Option.some.injEq] at h1 h2
          subst h1 h2
          exact hs.imp fun a _ => mono a
    · rw [List.getElem?_set_ne hj] at h1 h2
      refine ((R.slot j t o' h1 h2).imp fun a ha z => ?_).same sm
      exact (mono a z).elim id fun z => absurd (z ▸ hp) ha
  inj := fun j k s1 s2 a h1 h2 h3 h4 h5 h6 => by
    have get : ∀ {j : Nat} {t : Slot} {a : Addr}, (e.set i s)[j]? = some t → isOwn t = true → (σ.set i (some (.ref p)))[j]? = some (some (V.ref a)) → (i = j ∧ a = p) ∨ (i ≠ j ∧ e[j]? = some t ∧ σ[j]? = some (some (V.ref a)) ∧ a ≠ p) := fun {j t a} h1 h2 h3 => by
      by_cases hj : i = j
      · subst hj
        rw [List.getElem?_set_self'] at h3
        cases q : σ[i]? with
        | none => rw [q] at h3; simp at h3
        | some x => rw [q] at h3; simp only [Option.map_eq_map, Option.map_some, Function.const_apply, Option.some.injEq, V.ref.injEq] at h3; exact .inl ⟨rfl, h3.symm⟩
      · rw [List.getElem?_set_ne hj] at h1 h3
        exact .inr ⟨hj, h1, h3, fun z => R.own_ne ⟨j, t, h1, h2, h3⟩ (z ▸ hp)⟩
    rcases get h1 h2 h5 with ⟨r1, r2⟩ | ⟨r1, r2, r3, r4⟩ <;> rcases get h3 h4 h6 with ⟨q1, q2⟩ | ⟨q1, q2, q3, q4⟩
    · exact r1.symm.trans q1
    · exact absurd r2 q4
    · exact absurd q2 r4
    · exact R.inj j k s1 s2 a r2 h2 q2 h4 r3 q3
  fr := R.fr.trans sm
  new := fun a h => by
    rcases own_set_new h with h | rfl
    · exact R.new a h
    · cases q : P.H0 a with
      | none => rfl
      | some o => rw [R.fr _ _ q] at hp; cases hp
/-- an own list or dict is changed -/
theorem Rel.updOwn (R : Rel P e σ H) {s s' : Slot} {a : Addr} {o : HO} (h1 : e[i]? = some s) (hs : isOwn s = true) (hs' : isOwn s' = true) (h2 : σ[i]? = some (some (.ref a))) (hd : SlotOk P.K (avo P e σ) (upd H a o) s' (some (.ref a))) : Rel P (e.set i s') σ (upd H a o) := by
  have oa : Owns e σ a := ⟨i, s, h1, hs, h2⟩
  have hkk : (∃ ys, H a = some (.lst ys)) ∨ (∃ ks, H a = some (.dK ks)) ∨ ∃ es, H a = some (DN a es) := by
    have q := R.slot i s _ h1 h2
    cases s with
    | un => cases hs
    | ob _ => cases hs
    | d _ => cases hs
    | ol xs => obtain ⟨b, ys, e1, e2, _⟩ := q; cases e1; exact .inl ⟨_, e2⟩
    | od xs => obtain ⟨b, ys, e1, e2, _⟩ := q; cases e1; exact .inr (.inl ⟨_, e2⟩)
    | on xs => obtain ⟨b, ys, e1, e2, _⟩ := q; cases e1; exact .inr (.inr ⟨_, e2⟩)
    | rn _ => cases hs
  have hk : ∀ ys, H a ≠ some (.tup ys) := fun ys z => by rcases hkk with ⟨_, q⟩ | ⟨_, q⟩ | ⟨_, q⟩ <;> rw [q] at z <;> cases z
  have hf : ∀ o u, H a ≠ some (.frz o u) := fun o u z => by rcases hkk with ⟨_, q⟩ | ⟨_, q⟩ | ⟨_, q⟩ <;> rw [q] at z <;> cases z
  have own : ∀ b, Owns (e.set i s') σ b → Owns e σ b := fun b ⟨j, t, q1, q2, q3⟩ => by
    by_cases hj : i = j
    · subst hj; exact ⟨i, s, h1, hs, q3⟩
    · rw [List.getElem?_set_ne hj] at q1; exact ⟨j, t, q1, q2, q3⟩
  have mono : ∀ b, avo P (e.set i s') σ b → avo P e σ b := fun b z => z.imp id (own b)
  refine ⟨by rw [List.length_set]; exact R.len, fun j t o' q1 q2 => ?_, fun j k t1 t2 b q1 q2 q3 q4 q5 q6 => ?_, fun b x q => ?_, fun b z => R.new b (own b z)⟩
  · by_cases hj : i = j
    · subst hj
      rw [List.getElem?_set_self (by rw [← R.len]; exact (List.getElem?_eq_some_iff.mp h2).1)] at q1
      cases q1
      rw [h2] at q2
      cases q2
      exact hd.imp fun b _ => mono b
    · rw [List.getElem?_set_ne hj] at q1
      have q := R.slot j t o' q1 q2
      cases t with
      | un => trivial
      | ob _ => exact q
      | d x => obtain ⟨v, e1, dd⟩ := q; exact ⟨v, e1, (dd.upd hk hf (.inr oa)).imp (fun _ _ z => z) fun b _ => mono b⟩
      | ol x =>
        obtain ⟨b, ys, e1, e2, dd⟩ := q
        have nb : b ≠ a := fun z => hj (R.inj i j s _ a h1 hs q1 rfl h2 (by rw [q2, e1, z]))
        exact ⟨b, ys, e1, by rw [upd_ne nb]; exact e2, (dd.upd hk hf (.inr oa)).imp (fun _ _ z => z) fun b _ => mono b⟩
      | od x =>
        obtain ⟨b, ys, e1, e2, dd⟩ := q
        have nb : b ≠ a := fun z => hj (R.inj i j s _ a h1 hs q1 rfl h2 (by rw [q2, e1, z]))
        exact ⟨b, ys, e1, by rw [upd_ne nb]; exact e2, (dd.upd hk hf (.inr oa)).imp (fun _ _ z => z) fun b _ => mono b⟩
      | on x =>
        obtain ⟨b, ys, e1, e2, ez, dd⟩ := q
        have nb : b ≠ a := fun z => hj (R.inj i j s _ a h1 hs q1 rfl h2 (by rw [q2, e1, z]))
        exact ⟨b, ys, e1, by rw [upd_ne nb]; exact e2, ez, dd.mp fun _ _ z => (z.upd hk hf (.inr oa)).imp (fun _ _ z => z) fun b _ => mono b⟩
      | rn x =>
        obtain ⟨b, ys, e1, e2, ez, nv, dd⟩ := q
        have nb : b ≠ a := fun z => nv (z ▸ .inr oa)
        exact ⟨b, ys, e1, upd_rd2 nb e2, ez, fun z => nv (mono _ z), dd.mp fun _ _ z => (z.upd hk hf (.inr oa)).imp (fun _ _ z => z) fun b _ => mono b⟩
  · have get : ∀ {j : Nat} {t : Slot}, (e.set i s')[j]? = some t → isOwn t = true → ∃ t', e[j]? = some t' ∧ isOwn t' = true := fun {j t} q1 q2 => by
      by_cases hj : i = j
      · subst hj; exact ⟨s, h1, hs⟩
      · rw [List.getElem?_set_ne hj] at q1; exact ⟨t, q1, q2⟩
    obtain ⟨u1, a1, a2⟩ := get q1 q2
    obtain ⟨u2, b1, b2⟩ := get q3 q4
    exact R.inj j k u1 u2 b a1 a2 b1 b2 q5 q6
  · have nb : b ≠ a := fun z => by rw [z, R.new a oa] at q; cases q
    rw [upd_ne nb]
    exact R.fr _ _ q
/-- own no more -/
theorem Rel.give (R : Rel P e σ H) {xs : List D} (h1 : e[i]? = some (.ol xs)) : Rel P (e.set i (.d (.list xs))) σ H := by
  obtain ⟨o, h2, a, ys, rfl, ha, dd⟩ := R.at h1
  have own : ∀ b, Owns (e.set i (.d (.list xs))) σ b → Owns e σ b ∧ b ≠ a := fun b ⟨j, t, q1, q2, q3⟩ => by
    by_cases hj : i = j
    · subst hj
      rw [List.getElem?_set_self (List.getElem?_eq_some_iff.mp h1).1] at q1
      cases q1; cases q2
    · rw [List.getElem?_set_ne hj] at q1
      exact ⟨⟨j, t, q1, q2, q3⟩, fun z => hj (R.inj i j _ t a h1 rfl q1 q2 h2 (by rw [q3, z]))⟩
  have mono : ∀ b, avo P (e.set i (.d (.list xs))) σ b → avo P e σ b := fun b z => z.imp id fun z => (own b z).1
  refine ⟨by rw [List.length_set]; exact R.len, fun j t o' q1 q2 => ?_, fun j k t1 t2 b q1 q2 q3 q4 q5 q6 => ?_, R.fr, fun b z => R.new b (own b z).1⟩
  · by_cases hj : i = j
    · subst hj
      rw [List.getElem?_set_self (List.getElem?_eq_some_iff.mp h1).1] at q1
      cases q1
      rw [h2] at q2
      cases q2
      refine ⟨_, rfl, .list (.inl (.inl ha)) (.inl fun z => ?_) (dd.imp (fun _ _ z => z) fun b _ => mono b)⟩
      rcases z with z | z
      · exact R.own_av ⟨i, _, h1, rfl, h2⟩ z
      · exact (own _ z).2 rfl
    · rw [List.getElem?_set_ne hj] at q1
      exact (R.slot j t o' q1 q2).imp fun b _ => mono b
  · have get : ∀ {j : Nat} {t : Slot}, (e.set i (.d (.list xs)))[j]? = some t → isOwn t = true → e[j]? = some t := fun {j t} q1 q2 => by
      by_cases hj : i = j
      · subst hj
        rw [List.getElem?_set_self (List.getElem?_eq_some_iff.mp h1).1] at q1
        cases q1; cases q2
      · rw [List.getElem?_set_ne hj] at q1; exact q1
    exact R.inj j k t1 t2 b (get q1 q2) q2 (get q3 q4) q4 q5 q6
theorem wipeS_length : ∀ vs : List Nat, (wipeS e vs).length = e.length
  | [] => rfl
  | v :: vs => by unfold wipeS; rw [List.length_set, wipeS_length vs]
theorem Rel.wipe (R : Rel P e σ H) : ∀ vs : List Nat, Rel P (wipeS e vs) (L2.wipe σ vs) H
  | [] => R
  | v :: vs => (R.wipe vs).set rfl trivial
theorem wipeS_own : ∀ {vs : List Nat} {j : Nat} {t : Slot}, e[j]? = some t → isOwn t = true → freeOf e vs = true → (wipeS e vs)[j]? = some t ∧ (L2.wipe σ vs)[j]? = σ[j]?
  | [], _, _, h, _, _ => ⟨h, rfl⟩
  | v :: vs, j, t, h, ht, hf => by
    unfold freeOf at hf
    simp only [List.all_cons, Bool.and_eq_true] at hf
    obtain ⟨h1, h2⟩ := wipeS_own (vs := vs) h ht hf.2
    have hj : v ≠ j := fun z => by
      subst z
      rw [h] at hf
      simp only [ht] at hf
      exact absurd hf.1 (by decide)
    unfold wipeS L2.wipe
    rw [List.getElem?_set_ne hj, List.getElem?_set_ne hj]
    exact ⟨h1, h2⟩
theorem avo_wipe {vs : List Nat} (hf : freeOf e vs = true) {a : Addr} (h : avo P e σ a) : avo P (wipeS e vs) (L2.wipe σ vs) a := by
  refine h.imp id fun ⟨j, t, h1, h2, h3⟩ => ?_
  obtain ⟨q1, q2⟩ := wipeS_own (σ := σ) h1 h2 hf
  exact ⟨j, t, q1, h2, by rw [q2]; exact h3⟩

/-! ### a later base -/
@[reducible] def Pk.at (P : Pk) (h0 : Hp) (hav : ∀ a, P.Av a → h0 a ≠ none) : Pk := { P with H0 := h0, avok := hav }
open Classical in
/-- the heap without the own ones -/
def lessOwn (e : Sl) (σ : L2.St) (H : Hp) : Hp := fun a => if Owns e σ a then none else H a
theorem lessOwn_av (R : Rel P e σ H) : ∀ a, P.Av a → lessOwn e σ H a ≠ none := fun a h => by
  unfold lessOwn
  rw [if_neg fun z => R.own_av z h]
  exact R.av_ne (.inl h)
theorem Rel.into (R : Rel P e σ H) : Rel (P.at (lessOwn e σ H) (lessOwn_av R)) e σ H where
  len := R.len
  slot := R.slot
  inj := R.inj
  fr := fun b o h => by
    have h : lessOwn e σ H b = some o := h
    unfold lessOwn at h
    split at h
    · cases h
    · exact h
  new := fun a h => by
    show lessOwn e σ H a = none
    unfold lessOwn
    rw [if_pos h]
theorem base_same (R : Rel P e σ H) : Same P.H0 (lessOwn e σ H) := fun b o h => by
  unfold lessOwn
  rw [if_neg fun z => by rw [R.new b z] at h; cases h]
  exact R.fr _ _ h
theorem Rel.out (R : Rel P e σ H) {e' : Sl} {σ' : L2.St} (R' : Rel (P.at (lessOwn e σ H) (lessOwn_av R)) e' σ' H') : Rel P e' σ' H' where
  len := R'.len
  slot := R'.slot
  inj := R'.inj
  fr := (base_same R).trans R'.fr
  new := fun a h => by
    have q := R'.new a h
    cases q2 : P.H0 a with
    | none => rfl
    | some o => have := base_same R _ _ q2; rw [show lessOwn e σ H a = none from q] at this; cases this
end

/-! ### statements' ends -/
def PostS (P : Pk) (D : Ends) : Out → Prop
  | .nx e' => ∀ σ' H', Rel P e' σ' H' → D.nx σ' H'
  | .ret x => ∀ v H', Same P.H0 H' → Den P.K P.Av H' v x → D.rt v H'
  | .bk e' => ∀ σ' H', Rel P e' σ' H' → D.bk σ' H'
  | .ct e' => ∀ σ' H', Rel P e' σ' H' → D.ct σ' H'
  | .ex c e' => ∀ σ' H', Rel P e' σ' H' → P.W (.ref (P.ca c)) none σ' H'
  | .stuck => False
def liftS (P : Pk) (f : Sl → Out) : L2.TS := fun D σ H => ∃ e, Rel P e σ H ∧ PostS P D (f e)
theorem PostS.into {P : Pk} {e : Sl} {σ : L2.St} {H : Hp} (R : Rel P e σ H) {D : Ends} : ∀ {o : Out}, PostS P D o → PostS (P.at (lessOwn e σ H) (lessOwn_av R)) D o
  | .nx _, h => fun σ' H' r => h σ' H' (R.out r)
  | .ret _, h => fun v H' s d => h v H' ((base_same R).trans s) d
  | .bk _, h => fun σ' H' r => h σ' H' (R.out r)
  | .ct _, h => fun σ' H' r => h σ' H' (R.out r)
  | .ex _ _, h => fun σ' H' r => h σ' H' (R.out r)
  | .stuck, h => h
theorem gdS {P : Pk} {e : Sl} {σ : L2.St} {D : Ends} : Gd P σ (fun (H : Hp) (r : Res Out) => Rel P e σ H ∧ PostS P D (match r with | .ok o => o | .ex c => .ex c e | .stuck => .stuck)) where
  back := fun s h => ⟨h.1.same s, h.2⟩
  ex := fun h H' s => h.2 σ H' (h.1.same s)
  no := fun h => h.2
theorem PSs.ofAll {ι : Type} {X : Cx} {st : List Stmt} {t : ι → L2.TS} (h : ∀ i, PSs X st (t i)) : PSs X st (fun D σ H => ∃ i, t i D σ H) := ⟨fun pins s σ H D I ⟨i, q⟩ => (h i).run pins s σ H D I q⟩
theorem PE.ofAll {ι : Sort _} {X : Cx} {ex : Expr} {t : ι → L2.TE} (h : ∀ i, PE X ex (t i)) : PE X ex (fun σ H Q => ∃ i, t i σ H Q) := ⟨fun pins s σ H Q I ⟨i, q⟩ => (h i).run pins s σ H Q I q⟩
theorem PTs.ofAll {ι : Sort _} {X : Cx} {ex : List Expr} {t : ι → L2.TT} (h : ∀ i, PTs X ex (t i)) : PTs X ex (fun σ H Q => ∃ i, t i σ H Q) := ⟨fun pins s σ H Q I ⟨i, q⟩ => (h i).run pins s σ H Q I q⟩

/-! ### targets -/
/-- the same but for the places vs -/
def Agr (σ σ1 : L2.St) (vs : List Nat) : Prop := σ1.length = σ.length ∧ ∀ j, j ∉ vs → σ1[j]? = σ[j]?
theorem wipe_in {σ : L2.St} {j : Nat} : ∀ {vs : List Nat}, j ∈ vs → (L2.wipe σ vs)[j]? = if j < σ.length then some none else none
  | v :: vs, h => by
    unfold L2.wipe
    by_cases e : v = j
    · subst e
      rw [List.getElem?_set_self']
      by_cases hl : v < σ.length
      · rw [if_pos hl, List.getElem?_eq_getElem (by rw [L2.wipe_length]; exact hl)]
        rfl
      · rw [if_neg hl, List.getElem?_eq_none (by rw [L2.wipe_length]; omega)]
        rfl
    · rw [List.getElem?_set_ne e]
      exact wipe_in ((List.mem_cons.mp h).resolve_left fun z => e z.symm)
theorem Agr.wipe {σ σ1 : L2.St} {vs : List Nat} (h : Agr σ σ1 vs) : L2.wipe σ1 vs = L2.wipe σ vs := by
  apply List.ext_getElem?
  intro j
  by_cases hj : j ∈ vs
  · rw [wipe_in hj, wipe_in hj, h.1]
  · rw [wipe_out hj, wipe_out hj]
    exact h.2 j hj
mutual
theorem bindT_out : ∀ {t : Tgt} {d : D} {e e1 : Sl}, bindT t d e = some e1 → ∀ j, (j ∉ t.ix → e1[j]? = e[j]?) ∧ (j ∈ t.ix → ∃ x, e1[j]? = some (.d x))
  | .nm i, d, e, e1, h, j => by
    simp only [bindT] at h
    split at h
    · rename_i hl
      simp only [Option.some.injEq] at h
      subst h
      refine ⟨fun hj => ?_, fun hj => ?_⟩
      · rw [List.getElem?_set_ne]
        intro z; exact hj (by rw [z]; exact List.mem_cons_self ..)
      · have : j = i := by simpa [Tgt.ix] using hj
        subst this
        exact ⟨d, List.getElem?_set_self hl⟩
    · cases h
  | .tp ts, d, e, e1, h, j => by
    cases d with
    | tuple xs => exact bindTs_out (by simpa only [bindT] using h) j
    | _ => simp [bindT] at h
theorem bindTs_out : ∀ {ts : List Tgt} {ds : List D} {e e1 : Sl}, bindTs ts ds e = some e1 → ∀ j, (j ∉ Tgt.ixs ts → e1[j]? = e[j]?) ∧ (j ∈ Tgt.ixs ts → ∃ x, e1[j]? = some (.d x))
  | [], [], e, e1, h, j => by
    simp only [bindTs, Option.some.injEq] at h
    subst h
    exact ⟨fun _ => rfl, fun z => by simp [Tgt.ixs] at z⟩
  | t :: ts, x :: xs, e, e1, h, j => by
    simp only [bindTs] at h
    cases q : bindT t x e with
    | none => rw [q] at h; simp at h
    | some e' =>
      rw [q] at h
      have h : bindTs ts xs e' = some e1 := h
      have a := bindT_out q j
      have b := bindTs_out h j
      simp only [Tgt.ixs, List.mem_append, not_or]
      refine ⟨fun z => (b.1 z.2).trans (a.1 z.1), fun z => ?_⟩
      by_cases hj : j ∈ Tgt.ixs ts
      · exact b.2 hj
      · rw [b.1 hj]
        exact a.2 (z.resolve_right hj)
  | [], _ :: _, _, _, h, _ => by simp [bindTs] at h
  | _ :: _, [], _, _, h, _ => by simp [bindTs] at h
end
theorem avo_out {P : Pk} {e e1 : Sl} {σ σ1 : L2.St} {vs : List Nat} (g : Agr σ σ1 vs) (h1 : ∀ j, j ∉ vs → e1[j]? = e[j]?) (h2 : ∀ j, j ∈ vs → ∃ x, e1[j]? = some (.d x)) {a : Addr} (h : avo P e1 σ1 a) : avo P e σ a := by
  refine h.imp id fun ⟨j, t, q1, q2, q3⟩ => ?_
  by_cases hj : j ∈ vs
  · obtain ⟨x, z⟩ := h2 j hj
    rw [q1] at z
    cases z
    cases q2
  · exact ⟨j, t, by rw [← h1 j hj]; exact q1, q2, by rw [← g.2 j hj]; exact q3⟩
def liftG (K : PySem.W.Frag) (t : Tgt) : L2.TG := fun v σ H Q => ∃ (P : Pk) (e : Sl) (d : D) (e1 : Sl), P.K = K ∧ Rel P e σ H ∧ Den P.K (avo P e σ) H v d ∧ bindT t d e = some e1 ∧ ∀ σ1, Rel P e1 σ1 H → Agr σ σ1 t.ix → Q σ1 H
def liftGs (K : PySem.W.Frag) (ts : List Tgt) : L2.TGs := fun vs σ H Q => ∃ (P : Pk) (e : Sl) (ds : List D) (e1 : Sl), P.K = K ∧ Rel P e σ H ∧ Dens P.K (avo P e σ) H vs ds ∧ bindTs ts ds e = some e1 ∧ ∀ σ1, Rel P e1 σ1 H → Agr σ σ1 (Tgt.ixs ts) → Q σ1 H
theorem PG.imp {X : Cx} {ex : Expr} {t t' : L2.TG} (h : PG X ex t) (i : ∀ v σ H Q, t' v σ H Q → t v σ H Q) : PG X ex t' := ⟨fun pins s σ H v u Q I r q => h.run pins s σ H v u Q I r (i _ _ _ _ q)⟩
theorem PGs.imp {X : Cx} {ex : List Expr} {t t' : L2.TGs} (h : PGs X ex t) (i : ∀ v σ H Q, t' v σ H Q → t v σ H Q) : PGs X ex t' := ⟨fun pins s σ H v u Q I r q => h.run pins s σ H v u Q I r (i _ _ _ _ q)⟩
section
variable {X : Cx} {K : PySem.W.Frag} {N : List Str} {pos : Pos}
theorem sg_nm (hN : X.N = N) (nd : N.Nodup) {i : Nat} {x : Str} (hi : N[i]? = some x) (hx : Loc X.env.scope x) (hf : X.fn x = true ∨ X.env.scope.names.lookup x = some .local) : PG X (.Name x pos) (liftG K (.nm i)) := by
  refine PG.imp (pg_name (i := i) (by rw [hN]; exact nd) (by rw [hN]; exact hi) hx hf) fun v σ H Q ⟨P, e, d, e1, hK, R, hd, hb, q⟩ => ?_
  simp only [bindT] at hb
  split at hb
  · simp only [Option.some.injEq] at hb
    subst hb
    exact q _ (R.setD hd) ⟨List.length_set .., fun j hj => List.getElem?_set_ne fun z => hj (by rw [z]; exact List.mem_cons_self ..)⟩
  · cases hb
theorem sgs_nil : PGs X [] (liftGs K []) := PGs.imp pgs_nil fun vs σ H Q ⟨P, e, d, e1, hK, R, hd, hb, q⟩ => by
  cases d with
  | nil =>
    cases hd
    simp only [bindTs, Option.some.injEq] at hb
    subst hb
    exact ⟨rfl, q _ R ⟨rfl, fun _ _ => rfl⟩⟩
  | cons x d => simp [bindTs] at hb
theorem sgs_cons {a : Expr} {es : List Expr} {t : Tgt} {ts : List Tgt} (h1 : PG X a (liftG K t)) (h2 : PGs X es (liftGs K ts)) (hs : (assignEach (a :: es) X.env).map (·.2) = assign a X.env :: (assignEach es X.env).map (·.2) := by rfl) : PGs X (a :: es) (liftGs K (t :: ts)) := by
  refine PGs.imp (pgs_cons h1 h2 hs) fun vs σ H Q ⟨P, e, d, e1, hK, R, hd, hb, q⟩ => ?_
  cases hd with
  | nil => simp [bindTs] at hb
  | @cons v x vs xs hd hr =>
    simp only [bindTs] at hb
    cases q1 : bindT t x e with
    | none => rw [q1] at hb; simp at hb
    | some e' =>
      rw [q1] at hb
      have hb : bindTs ts xs e' = some e1 := hb
      refine ⟨_, _, rfl, P, e, x, e', hK, R, hd, q1, fun σ1 R1 g1 => ?_⟩
      have sm := bindT_out q1
      refine ⟨P, e', xs, e1, hK, R1, hr.imp (fun _ _ z => z) (fun b _ z => avo_out g1 (fun j => (sm j).1) (fun j => (sm j).2) z), hb, fun σ2 R2 g2 => q σ2 R2 ⟨g2.1.trans g1.1, fun j hj => ?_⟩⟩
      simp only [Tgt.ixs, List.mem_append, not_or] at hj
      exact (g2.2 j hj.2).trans (g1.2 j hj.1)
theorem bindTs_len : ∀ {ts : List Tgt} {ds : List D} {e e1 : Sl}, bindTs ts ds e = some e1 → ds.length = ts.length
  | [], [], _, _, _ => rfl
  | t :: ts, x :: xs, e, e1, h => by
    simp only [bindTs] at h
    cases q : bindT t x e with
    | none => rw [q] at h; simp at h
    | some e' => rw [q] at h; exact congrArg (· + 1) (bindTs_len (show bindTs ts xs e' = some e1 from h))
  | [], _ :: _, _, _, h => by simp [bindTs] at h
  | _ :: _, [], _, _, h => by simp [bindTs] at h
theorem sg_tp (hc : X.calm = true) (hK : X.K = K) {es : List Expr} {k : Nat} {ts : List Tgt} (h : PGs X es (liftGs K ts)) (hn : (assignEach es X.env).length = ts.length := by rfl) (hst : (assignEach es X.env).findIdx? (·.1) = none := by rfl) : PG X (.Tuple es k pos) (liftG K (.tp ts)) := by
  refine PG.imp (pg_tup hc h hn hst) fun v σ H Q ⟨P, e, d, e1, hK', R, hd, hb, q⟩ => ?_
  cases d with
  | tuple xs =>
    simp only [bindT] at hb
    cases hd with
    | tuple hq ht =>
      refine ⟨_, _, rfl, by rw [hK, ← hK']; exact hq, by rw [ht.length]; exact bindTs_len hb, P, e, xs, e1, hK', R, ht, hb, q⟩
  | _ => simp [bindT] at hb
end
end
end Rf

set_option Elab.async false
set_option linter.all false
set_option maxRecDepth 100000
set_option maxHeartbeats 1000000
/-! Rf, part G: what is walked; comprehensions. -/
namespace Rf
noncomputable section
open PySem PySem.Spec PyProof.Rows L2
section
variable {K : PySem.W.Frag} {av ow : Addr → Prop} {H H' : Hp}
mutual
theorem Den.keep (hw : ∀ b, ow b → av b) (ht : ∀ b, ow b → (∀ ys, H b ≠ some (.tup ys)) ∧ ∀ o u, H b ≠ some (.frz o u)) (kp : ∀ b o, H b = some o → ¬ ow b → H' b = some o) : ∀ {v : V} {d : D}, Den K av H v d → Den K (fun a => av a ∨ H a = none) H' v d
  | _, _, .none => .none
  | _, _, .bool b => .bool b
  | _, _, .int i => .int i
  | _, _, .str x => .str x
  | _, _, .list h n t => .list (n.elim (fun n => h.imp (fun h => h.imp (fun q => kp _ _ q fun z => n (hw _ z)) fun ⟨o, q⟩ => ⟨o, kp _ _ q fun z => n (hw _ z)⟩) id) .inr) (n.elim (fun n => h.elim (fun h => .inl fun z => z.elim n (rd_ne h)) .inr) .inr) (Dens.keep hw ht kp t)
  | _, _, .tuple h t => .tuple (h.imp (fun h => h.imp (fun q => kp _ _ q fun z => (ht _ z).1 _ q) fun ⟨o, q⟩ => ⟨o, kp _ _ q fun z => (ht _ z).2 _ _ q⟩) id) (Dens.keep hw ht kp t)
  | _, _, .dict h n t => .dict (h.imp (fun q => kp _ _ q fun z => n (hw _ z)) fun ⟨o, q⟩ => ⟨o, kp _ _ q fun z => n (hw _ z)⟩) (fun z => z.elim n (rd_ne h)) (DenKs.keep hw ht kp t)
theorem Dens.keep (hw : ∀ b, ow b → av b) (ht : ∀ b, ow b → (∀ ys, H b ≠ some (.tup ys)) ∧ ∀ o u, H b ≠ some (.frz o u)) (kp : ∀ b o, H b = some o → ¬ ow b → H' b = some o) : ∀ {v : List V} {d : List D}, Dens K av H v d → Dens K (fun a => av a ∨ H a = none) H' v d
  | _, _, .nil => .nil
  | _, _, .cons x y => .cons (Den.keep hw ht kp x) (Dens.keep hw ht kp y)
theorem DenKs.keep (hw : ∀ b, ow b → av b) (ht : ∀ b, ow b → (∀ ys, H b ≠ some (.tup ys)) ∧ ∀ o u, H b ≠ some (.frz o u)) (kp : ∀ b o, H b = some o → ¬ ow b → H' b = some o) : ∀ {v : List (Key × V)} {d : List (D × D)}, DenKs K av H v d → DenKs K (fun a => av a ∨ H a = none) H' v d
  | _, _, .nil => .nil
  | _, _, .cons x y => .cons (Den.keep hw ht kp x) (DenKs.keep hw ht kp y)
end
/-- an iterator that walks its -/
def ItOk (K : PySem.W.Frag) (av ow : Addr → Prop) (H : Hp) (J : It) (its : List D) : Prop :=
  ∀ i H', (∀ b o, H b = some o → ¬ ow b → H' b = some o) → (i < its.length → J.go i H') ∧ (its.length ≤ i → J.stop i H') ∧ ∀ x H'', J.yld i H' x H'' → ∀ d, its[i]? = some d → Same H' H'' ∧ Den K (fun a => av a ∨ H a = none) H'' x d
end
theorem Rel.kinds {P : Pk} {e : Sl} {σ : L2.St} {H : Hp} (R : Rel P e σ H) : ∀ b, Owns e σ b → (∀ ys, H b ≠ some (.tup ys)) ∧ ∀ o u, H b ≠ some (.frz o u) := fun b ⟨i, s, h1, hs, h2⟩ => by
  have q := R.slot i s _ h1 h2
  cases s with
  | un => cases hs
  | ob _ => cases hs
  | d _ => cases hs
  | ol xs => obtain ⟨c, ys, e1, e2, _⟩ := q; cases e1; exact ⟨fun _ z => by (rw [e2] at z; cases z), fun _ _ z => by (rw [e2] at z; cases z)⟩
  | od xs => obtain ⟨c, ys, e1, e2, _⟩ := q; cases e1; exact ⟨fun _ z => by (rw [e2] at z; cases z), fun _ _ z => by (rw [e2] at z; cases z)⟩
  | on xs => obtain ⟨c, ys, e1, e2, _⟩ := q; cases e1; exact ⟨fun _ z => by (rw [e2] at z; cases z), fun _ _ z => by (rw [e2] at z; cases z)⟩
  | rn _ => cases hs
def PostI (P : Pk) (e : Sl) (σ : L2.St) (H : Hp) (Q : It → Hp → Prop) : Res (List D) → Prop
  | .ok its => ∀ J H', Same H H' → ItOk P.K (avo P e σ) (Owns e σ) H' J its → Q J H'
  | .ex c => ∀ H', Same H H' → P.W (.ref (P.ca c)) none σ H'
  | .stuck => False
def liftI (P : Pk) (f : Sl → Res (List D)) : L2.TI := fun σ H Q => ∃ e, Rel P e σ H ∧ PostI P e σ H Q (f e)
def srcs (Φ : FT) (k : SrcK) (ES : List Exp) (e : Sl) : Res (List D) := (evs Φ ES e).bind fun xs => Res.of (srcD k xs)
theorem PI.imp {X : Cx} {tg ex : Expr} {t t' : L2.TI} (h : PI X tg ex t) (i : ∀ σ H Q, t' σ H Q → t σ H Q) : PI X tg ex t' := ⟨fun pins s σ H Q I q => h.run pins s σ H Q I (i _ _ _ q)⟩
theorem gdI {P : Pk} {e : Sl} {σ : L2.St} {Q : It → Hp → Prop} : Gd P σ (fun H r => PostI P e σ H Q r) := ⟨fun {H H' r} s h => match r, h with
  | .ok _, h => fun v H2 s2 d => h v H2 (s.trans s2) d
  | .ex _, h => fun H2 s2 => h H2 (s.trans s2)
  | .stuck, h => h, fun h => h, fun h => h⟩
section
variable {X : Cx} {P : Pk} {N : List Str} {sc : Scope} {m : Nat} {Φ : FT} {A B E : Exp} {ES : List Exp} {a b c tg : Expr} {es : List Expr} {pos : Pos}
theorem rd_keep {ow : Addr → Prop} {H H' : Hp} {l : Addr} {u : HO} (kp : ∀ b o, H b = some o → ¬ ow b → H' b = some o) (n : ¬ ow l) (h : Rd H l u) : Rd H' l u := h.imp (fun q => kp _ _ q n) fun ⟨o, q⟩ => ⟨o, kp _ _ q n⟩
theorem sqt_keep {K : PySem.W.Frag} {ow : Addr → Prop} {H H' : Hp} {l : Addr} {us : List V} (ht : ∀ b, ow b → (∀ ys, H b ≠ some (.tup ys)) ∧ ∀ o u, H b ≠ some (.frz o u)) (kp : ∀ b o, H b = some o → ¬ ow b → H' b = some o) (h : SqT K H l us) : SqT K H' l us :=
  h.imp (fun h => h.imp (fun q => kp _ _ q fun z => (ht _ z).1 _ q) fun ⟨o, q⟩ => ⟨o, kp _ _ q fun z => (ht _ z).2 _ _ q⟩) id
theorem it_list {K : PySem.W.Frag} {av ow : Addr → Prop} {H : Hp} {l : Addr} {us : List V} {ds : List D} (hw : ∀ b, ow b → av b) (ht : ∀ b, ow b → (∀ ys, H b ≠ some (.tup ys)) ∧ ∀ o u, H b ≠ some (.frz o u)) (n : ¬ av l ∨ KLst K l us) (h : SqL K H l us) (hd : Dens K av H us ds) : ItOk K av ow H (Itl K l) ds := fun i H' kp => by
  have h' : SqL K H' l us := n.elim (fun n => h.imp (rd_keep kp fun z => n (hw _ z)) id) .inr
  have hl := hd.length
  refine ⟨fun hi => ⟨us, us[i], h', List.getElem?_eq_getElem (by omega)⟩, fun hi => ⟨us, h', by omega⟩, fun x H'' y d hdd => ?_⟩
  obtain ⟨rfl, y⟩ := y
  refine ⟨Same.refl _, ?_⟩
  obtain ⟨d', e1, e2⟩ := hd.get (y us h')
  rw [hdd] at e1
  cases e1
  exact e2.keep hw ht kp
theorem it_tup {K : PySem.W.Frag} {av ow : Addr → Prop} {H : Hp} {l : Addr} {us : List V} {ds : List D} (hw : ∀ b, ow b → av b) (ht : ∀ b, ow b → (∀ ys, H b ≠ some (.tup ys)) ∧ ∀ o u, H b ≠ some (.frz o u)) (h : SqT K H l us) (hd : Dens K av H us ds) : ItOk K av ow H (Itt K l) ds := fun i H' kp => by
  have h' := sqt_keep ht kp h
  have hl := hd.length
  refine ⟨fun hi => ⟨us, us[i], h', List.getElem?_eq_getElem (by omega)⟩, fun hi => ⟨us, h', by omega⟩, fun x H'' y d hdd => ?_⟩
  obtain ⟨rfl, y⟩ := y
  refine ⟨Same.refl _, ?_⟩
  obtain ⟨d', e1, e2⟩ := hd.get (y us h')
  rw [hdd] at e1
  cases e1
  exact e2.keep hw ht kp
theorem ow_av {e : Sl} {σ : L2.St} : ∀ b, Owns e σ b → avo P e σ b := fun _ z => .inr z
theorem si_lst (C : Ctx X P N sc) (ha : PE X a (lift P 2 (ev Φ A))) : PI X tg a (liftI P (srcs Φ .lst [A])) := by
  refine PI.imp (pi_list ha) fun σ H Q ⟨e, R, p⟩ => ⟨e, R, ?_⟩
  unfold srcs at p
  cases q : ev Φ A e with
  | ok d =>
    simp only [evs, q, Res.bind_ok] at p
    intro v H1 s hd
    cases d with
    | list ds =>
      obtain ⟨l, us, rfl, h1, h2, h3⟩ := hd
      exact ⟨l, rfl, ⟨us, by rw [C.hK]; exact h1⟩, by rw [C.hK]; exact p _ H1 s (it_list ow_av (R.same s).kinds h2 h1 h3)⟩
    | _ => exact p.elim
  | ex c => simp only [evs, q, Res.bind_ex] at p; exact p
  | stuck => simp only [evs, q, Res.bind_stuck] at p; exact p.elim
theorem si_tup (C : Ctx X P N sc) (ha : PE X a (lift P 2 (ev Φ A))) : PI X tg a (liftI P (srcs Φ .tup [A])) := by
  refine PI.imp (pi_tup ha) fun σ H Q ⟨e, R, p⟩ => ⟨e, R, ?_⟩
  unfold srcs at p
  cases q : ev Φ A e with
  | ok d =>
    simp only [evs, q, Res.bind_ok] at p
    intro v H1 s hd
    cases d with
    | tuple ds =>
      obtain ⟨l, us, rfl, h1, h3⟩ := d2_tup hd
      exact ⟨l, rfl, ⟨us, by rw [C.hK]; exact h1⟩, by rw [C.hK]; exact p _ H1 s (it_tup ow_av (R.same s).kinds h1 h3)⟩
    | _ => exact p.elim
  | ex c => simp only [evs, q, Res.bind_ex] at p; exact p
  | stuck => simp only [evs, q, Res.bind_stuck] at p; exact p.elim
theorem si_str (ha : PE X a (lift P 0 (ev Φ A))) : PI X tg a (liftI P (srcs Φ .str [A])) := by
  refine PI.imp (pi_str ha) fun σ H Q ⟨e, R, p⟩ => ⟨e, R, ?_⟩
  unfold srcs at p
  cases q : ev Φ A e with
  | ok d =>
    simp only [evs, q, Res.bind_ok] at p
    intro v H1 s hd
    cases d with
    | str z =>
      obtain rfl := d2_str hd
      refine ⟨z, rfl, p _ H1 s fun i H' kp => ?_⟩
      have hl : (z.cps.toList.map fun c => PyData.str (S [c])).length = z.cps.size := by simp
      refine ⟨fun hi => by rw [hl] at hi; exact hi, fun hi => by rw [hl] at hi; exact hi, fun x H'' y d hdd => ?_⟩
      obtain ⟨rfl, c, hc, rfl⟩ := y
      refine ⟨Same.refl _, ?_⟩
      rw [List.getElem?_map, Array.getElem?_toList, hc] at hdd
      simp only [Option.map_some, Option.some.injEq] at hdd
      subst hdd
      exact .str _
    | _ => exact p.elim
  | ex c => simp only [evs, q, Res.bind_ex] at p; exact p
  | stuck => simp only [evs, q, Res.bind_stuck] at p; exact p.elim
theorem it_rng {K : PySem.W.Frag} {av ow : Addr → Prop} {H : Hp} (lo : Int) (n : Nat) : ItOk K av ow H (Itr lo n) (rngD lo n) := fun i H' kp => by
  have hl : (rngD lo n).length = n := by simp [rngD]
  refine ⟨fun hi => by rw [hl] at hi; exact hi, fun hi => by rw [hl] at hi; exact hi, fun x H'' y d hdd => ?_⟩
  obtain ⟨rfl, rfl⟩ := y
  refine ⟨Same.refl _, ?_⟩
  unfold rngD at hdd
  rw [List.getElem?_map] at hdd
  cases q : (List.range n)[i]? with
  | none => rw [q] at hdd; cases hdd
  | some j =>
    rw [q] at hdd
    have : j = i := by
      have := List.getElem?_eq_some_iff.mp q
      obtain ⟨h, e⟩ := this
      rw [List.getElem_range] at e
      exact e.symm
    subst this
    simp only [Option.map_some, Option.some.injEq] at hdd
    subst hdd
    exact .int _
theorem si_rng1 {p pos : Pos} (hg : X.env.kindOf "range" = some .globalImplicit) (hm : X.mg "range" = none) (ha : PA X [a] (lifts P 0 (evs Φ [A]))) (hs : starEach [a] X.env = [(false, eval a X.env)] := by rfl) :
    PI X tg (.Call (.Name "range" p) [a] [] pos) (liftI P (srcs Φ .rng [A])) := by
  refine PI.imp (pi_range1 hg hm ha hs) fun σ H Q ⟨e, R, p⟩ => ⟨e, R, ?_⟩
  refine Posts.weaken (bindZs (m := 0) (gdI) R p) fun vs H1 ⟨xs, hx, s1, R1, d1, p1⟩ => ?_
  have hlen := evs_len hx
  match xs, hlen with
  | [x], _ =>
    match vs, d1 with
    | [v], d1 =>
      cases x with
      | int n =>
        simp only [srcD] at p1
        split at p1
        · rename_i hr
          obtain rfl := d2_int d1.1
          exact ⟨n, rfl, hr.1, hr.2, p1 _ H1 (Same.refl _) (it_rng 0 n.toNat)⟩
        · exact p1.elim
      | _ => exact p1.elim
theorem si_rng2 {p pos : Pos} (hg : X.env.kindOf "range" = some .globalImplicit) (hm : X.mg "range" = none) (ha : PA X [a, b] (lifts P 0 (evs Φ [A, B]))) (hs : starEach [a, b] X.env = [(false, eval a X.env), (false, eval b X.env)] := by rfl) (hs2 : starEach [b] X.env = [(false, eval b X.env)] := by rfl) :
    PI X tg (.Call (.Name "range" p) [a, b] [] pos) (liftI P (srcs Φ .rng [A, B])) := by
  refine PI.imp (pi_range2 hg hm ha hs hs2) fun σ H Q ⟨e, R, p⟩ => ⟨e, R, ?_⟩
  refine Posts.weaken (bindZs (m := 0) (gdI) R p) fun vs H1 ⟨xs, hx, s1, R1, d1, p1⟩ => ?_
  have hlen := evs_len hx
  match xs, hlen with
  | [x, y], _ =>
    match vs, d1 with
    | [v, w], d1 =>
      cases x with
      | int i =>
        cases y with
        | int j =>
          simp only [srcD] at p1
          split at p1
          · rename_i hr
            obtain rfl := d2_int d1.1
            obtain rfl := d2_int d1.2.1
            exact ⟨i, j, rfl, hr, p1 _ H1 (Same.refl _) (it_rng i (j - i).toNat)⟩
          · exact p1.elim
        | _ => exact p1.elim
      | _ => exact p1.elim

theorem zip_len : ∀ {xs ys : List D}, (zipD xs ys).length = min xs.length ys.length
  | [], _ => by simp [zipD]
  | _ :: _, [] => by simp [zipD]
  | x :: xs, y :: ys => by simp only [zipD, List.length_cons, zip_len]; omega
theorem zip_get : ∀ {xs ys : List D} {i : Nat} {d : D}, (zipD xs ys)[i]? = some d → ∃ x y, xs[i]? = some x ∧ ys[i]? = some y ∧ d = .tuple [x, y]
  | [], _, _, _, h => by simp [zipD] at h
  | _ :: _, [], _, _, h => by simp [zipD] at h
  | x :: xs, y :: ys, 0, d, h => by simp only [zipD, List.getElem?_cons_zero, Option.some.injEq] at h; exact ⟨x, y, rfl, rfl, h.symm⟩
  | x :: xs, y :: ys, i + 1, d, h => by simp only [zipD, List.getElem?_cons_succ] at h ⊢; exact zip_get h
theorem si_zip (C : Ctx X P N sc) {p tpos : Pos} {elts : List Expr} {kk : Nat} (hg : X.env.kindOf "zip" = some .globalImplicit) (hm : X.mg "zip" = none) (ha : PA X [a, b] (lifts P 2 (evs Φ [A, B]))) (hs : starEach [a, b] X.env = (false, eval a X.env) :: starEach [b] X.env := by rfl) (hpl : (backTo pos (starEach [b] X.env)).any (·.1) = false := by rfl) :
    PI X (.Tuple elts kk tpos) (.Call (.Name "zip" p) [a, b] [] pos) (liftI P (srcs Φ .zip [A, B])) := by
  refine PI.imp (RZ.pi_zipA hg hm ha hs hpl) fun σ H Q ⟨e, R, p⟩ => ⟨e, R, ?_⟩
  refine Posts.weaken (bindZs (m := 2) (gdI) R p) fun vs H1 ⟨xs, hx, s1, R1, d1, p1⟩ => ?_
  have hlen := evs_len hx
  match xs, hlen with
  | [x, y], _ =>
    match vs, d1 with
    | [v, w], d1 =>
      have fin : ∀ {T : Addr} {H' : Hp} {x1 y1 : V} {x2 y2 : D}, H' T = none → Den P.K (fun a => avo P e σ a ∨ H1 a = none) H' x1 x2 → Den P.K (fun a => avo P e σ a ∨ H1 a = none) H' y1 y2 → Same H' (upd H' T (.tup [x1, y1])) ∧ Den P.K (fun a => avo P e σ a ∨ H1 a = none) (upd H' T (.tup [x1, y1])) (.ref T) (.tuple [x2, y2]) := fun {T H' x1 y1 x2 y2} nT hx hy =>
        ⟨same_upd nT, .tuple (.inl (.inl upd_same)) (.cons (hx.same (same_upd nT)) (.cons (hy.same (same_upd nT)) .nil))⟩
      cases x with
      | list xs =>
        cases y with
        | list ys =>
          obtain ⟨l, us, rfl, h1, h2, h3⟩ := d1.1
          obtain ⟨k, ws, rfl, g1, g2, g3⟩ := d1.2.1
          suffices io : ItOk P.K (avo P e σ) (Owns e σ) H1 (Itz P.K l k) (zipD xs ys) from ⟨l, k, us, ws, rfl, .inl ⟨by rw [C.hK]; exact h1, by rw [C.hK]; exact g1, by rw [C.hK]; exact p1 _ H1 (Same.refl _) io⟩⟩
          intro i H' kp
          have h' : SqL P.K H' l us := h2.elim (fun n => h1.imp (rd_keep kp fun z => n (.inr z)) id) .inr
          have g' : SqL P.K H' k ws := g2.elim (fun n => g1.imp (rd_keep kp fun z => n (.inr z)) id) .inr
          have hl := h3.length
          have gl := g3.length
          refine ⟨fun hi => ?_, fun hi => ?_, fun x H'' y d hdd => ?_⟩
          · rw [zip_len] at hi
            exact ⟨us, ws, us[i], ws[i], h', g', List.getElem?_eq_getElem (by omega), List.getElem?_eq_getElem (by omega)⟩
          · rw [zip_len] at hi
            exact ⟨us, ws, h', g', by omega⟩
          · obtain ⟨T, x1, y1, rfl, nT, rfl, f1, f2⟩ := y
            obtain ⟨x2, y2, e1, e2, rfl⟩ := zip_get hdd
            obtain ⟨x2', r1, r2⟩ := h3.get (f1 us h')
            obtain ⟨y2', q1, q2⟩ := g3.get (f2 ws g')
            rw [e1] at r1; cases r1
            rw [e2] at q1; cases q1
            exact fin nT (r2.keep ow_av R1.kinds kp) (q2.keep ow_av R1.kinds kp)
        | _ => exact p1.elim
      | tuple xs =>
        cases y with
        | tuple ys =>
          obtain ⟨l, us, rfl, h1, h3⟩ := d2_tup d1.1
          obtain ⟨k, ws, rfl, g1, g3⟩ := d2_tup d1.2.1
          suffices io : ItOk P.K (avo P e σ) (Owns e σ) H1 (RZ.ItzT P.K l k) (zipD xs ys) from ⟨l, k, us, ws, rfl, .inr ⟨by rw [C.hK]; exact h1, by rw [C.hK]; exact g1, by rw [C.hK]; exact p1 _ H1 (Same.refl _) io⟩⟩
          intro i H' kp
          have h' := sqt_keep R1.kinds kp h1
          have g' := sqt_keep R1.kinds kp g1
          have hl := h3.length
          have gl := g3.length
          refine ⟨fun hi => ?_, fun hi => ?_, fun x H'' y d hdd => ?_⟩
          · rw [zip_len] at hi
            exact ⟨us, ws, us[i], ws[i], h', g', List.getElem?_eq_getElem (by omega), List.getElem?_eq_getElem (by omega)⟩
          · rw [zip_len] at hi
            exact ⟨us, ws, h', g', by omega⟩
          · obtain ⟨T, x1, y1, rfl, nT, rfl, f1, f2⟩ := y
            obtain ⟨x2, y2, e1, e2, rfl⟩ := zip_get hdd
            obtain ⟨x2', r1, r2⟩ := h3.get (f1 us h')
            obtain ⟨y2', q1, q2⟩ := g3.get (f2 ws g')
            rw [e1] at r1; cases r1
            rw [e2] at q1; cases q1
            exact fin nT (r2.keep ow_av R1.kinds kp) (q2.keep ow_av R1.kinds kp)
        | _ => exact p1.elim
      | _ => exact p1.elim

/-! ### comprehensions -/
/-- the pack of a block: Av more, no exception -/
@[reducible] def Pk.blk (P : Pk) (av : Addr → Prop) (h0 : Hp) (hav : ∀ a, av a → h0 a ≠ none) : Pk := { K := P.K, H0 := h0, Av := av, avok := hav, W := fun _ _ _ _ => False, ca := P.ca }
def liftTs (P : Pk) (f : Sl → Res Bool) : L2.TT := fun σ H Q => ∃ e, Rel P e σ H ∧ match f e with
  | .ok b => ∀ H', Same H H' → Q b H'
  | .ex c => ∀ H', Same H H' → P.W (.ref (P.ca c)) none σ H'
  | .stuck => False
theorem sf_nil : PTs X [] (liftTs P (evt Φ [])) := ⟨fun pins s σ H Q I ⟨e, R, p⟩ => by
  simp only [evt] at p
  exact (pts_nil (X := X)).run pins s σ H Q I (p H (Same.refl _))⟩
theorem sf_one (ha : PT X a (liftT P (ev Φ A))) : PTs X [a] (liftTs P (evt Φ [A])) := ⟨fun pins s σ H Q I ⟨e, R, p⟩ => (pts_one ha).run pins s σ H Q I ⟨e, R, by
  simp only [evt] at p
  cases q : ev Φ A e with
  | ok d =>
    simp only [q, Res.bind_ok] at p
    cases d with
    | bool k => cases k <;> exact p
    | _ => exact p.elim
  | ex c => simp only [q, Res.bind_ex] at p; exact p
  | stuck => simp only [q, Res.bind_stuck] at p⟩⟩
theorem compL_len {f : Sl → Res D} {g : Sl → Res Bool} {t : Tgt} {e : Sl} : ∀ {its zs : List D}, compL f g t its e = .ok zs → zs.length ≤ its.length
  | [], zs, h => by simp only [compL, Res.ok.injEq] at h; subst h; exact Nat.le_refl _
  | x :: its, zs, h => by
    simp only [compL] at h
    cases q1 : bindT t x e with
    | none => simp [q1] at h
    | some e1 =>
      simp only [q1] at h
      cases q2 : g e1 with
      | ok b =>
        simp only [q2, Res.bind_ok] at h
        cases b with
        | true =>
          rw [if_pos rfl] at h
          cases q3 : f e1 with
          | ok y =>
            simp only [q3, Res.bind_ok] at h
            cases q4 : compL f g t its e with
            | ok ys => simp only [q4, Res.bind_ok, Res.ok.injEq] at h; subst h; have := compL_len q4; simp only [List.length_cons]; omega
            | ex c => simp [q4] at h
            | stuck => simp [q4] at h
          | ex c => simp [q3] at h
          | stuck => simp [q3] at h
        | false => rw [if_neg (by decide)] at h; have := compL_len h; simp only [List.length_cons]; omega
      | ex c => simp [q2] at h
      | stuck => simp [q2] at h
/-- one turn -/
theorem compL_cons {f : Sl → Res D} {g : Sl → Res Bool} {t : Tgt} {e : Sl} {x : D} {its zs : List D} (h : compL f g t (x :: its) e = .ok zs) :
    ∃ e1 b, bindT t x e = some e1 ∧ g e1 = .ok b ∧ ((b = true ∧ ∃ y ys, f e1 = .ok y ∧ compL f g t its e = .ok ys ∧ zs = y :: ys) ∨ (b = false ∧ compL f g t its e = .ok zs)) := by
  simp only [compL] at h
  cases q1 : bindT t x e with
  | none => simp [q1] at h
  | some e1 =>
    simp only [q1] at h
    cases q2 : g e1 with
    | ok b =>
      simp only [q2, Res.bind_ok] at h
      cases b with
      | true =>
        rw [if_pos rfl] at h
        cases q3 : f e1 with
        | ok y =>
          simp only [q3, Res.bind_ok] at h
          cases q4 : compL f g t its e with
          | ok ys => simp only [q4, Res.bind_ok, Res.ok.injEq] at h; exact ⟨e1, true, rfl, q2, .inl ⟨rfl, y, ys, q3, rfl, h.symm⟩⟩
          | ex c => simp [q4] at h
          | stuck => simp [q4] at h
        | ex c => simp [q3] at h
        | stuck => simp [q3] at h
      | false => rw [if_neg (by decide)] at h; exact ⟨e1, false, rfl, q2, .inr ⟨rfl, h⟩⟩
    | ex c => simp [q2] at h
    | stuck => simp [q2] at h
theorem Dens.mono {K : PySem.W.Frag} {a1 b1 : Addr → Prop} {H : Hp} {vs : List V} {ds : List D} (h : Dens K a1 H vs ds) (f : ∀ a, H a ≠ none → b1 a → a1 a) : Dens K b1 H vs ds := h.imp (fun _ _ z => z) f
theorem tLc_of {own : List Nat} {t : Tgt} {k : SrcK} {IFS : List Exp} (hown : own = t.ix) {σ : L2.St} {H : Hp} {Q : VK} (h : liftN P 2 (ev Φ (.comp E t k ES IFS)) σ H Q) :
    tLc (liftI P (srcs Φ k ES)) (liftG P.K t) (fun σ H Q => ∃ i : ((av : Addr → Prop) ×' (h0 : Hp) ×' (∀ a, av a → h0 a ≠ none)), liftTs (P.blk i.1 i.2.1 i.2.2) (evt Φ IFS) σ H Q) (fun σ H Q => ∃ i : ((av : Addr → Prop) ×' (h0 : Hp) ×' (∀ a, av a → h0 a ≠ none)), lift (P.blk i.1 i.2.1 i.2.2) 2 (ev Φ E) σ H Q) own σ H Q := by
  subst hown
  obtain ⟨e, R, p⟩ := h
  refine ⟨e, R, ?_⟩
  simp only [ev] at p
  have p : PostN P e σ 2 H Q ((srcs Φ k ES e).bind fun its => if (freeOf e t.ix && decide (its.length ≤ line)) = true then (noEx (compL (fun e' => ev Φ E e') (fun e' => evt Φ IFS e') t its (wipeS e t.ix))).bind fun ys => .ok (.list ys) else .stuck) := by
    unfold srcs
    cases q : evs Φ ES e with
    | ok xs => simpa only [q, Res.bind_ok] using p
    | ex c => simpa only [q, Res.bind_ex] using p
    | stuck => simpa only [q, Res.bind_stuck] using p
  cases q : srcs Φ k ES e with
  | ex c => rw [q] at p; exact p
  | stuck => rw [q] at p; exact p
  | ok its =>
    rw [q] at p
    simp only [Res.bind_ok] at p
    intro J H1 s1 io D nD
    have R1 := R.same s1
    cases hf : (freeOf e t.ix && decide (its.length ≤ line)) with
    | false => rw [hf, if_neg (by decide)] at p; exact p.elim
    | true =>
      rw [hf, if_pos rfl] at p
      simp only [Bool.and_eq_true, decide_eq_true_eq] at hf
      cases hz : compL (fun e' => ev Φ E e') (fun e' => evt Φ IFS e') t its (wipeS e t.ix) with
      | ex c => rw [hz] at p; exact p.elim
      | stuck => rw [hz] at p; exact p.elim
      | ok zs =>
        rw [hz] at p
        simp only [noEx, Res.bind_ok] at p
        have zl : zs.length ≤ its.length := compL_len hz
        -- the block's relation, at any later heap
        let avD : Addr → Prop := fun a => P.Av a ∨ a = D
        refine ⟨fun i m H2 => m = its.length - i ∧ i ≤ its.length ∧ Same H1 H2 ∧ ∃ acc ys zs', H2 D = some (.lst acc) ∧ Dens P.K (fun a => avo P e σ a ∨ a = D) H2 acc ys ∧ compL (fun e' => ev Φ E e') (fun e' => evt Φ IFS e') t (its.drop i) (wipeS e t.ix) = .ok zs' ∧ zs = ys ++ zs',
          ⟨its.length, by omega, Nat.zero_le _, same_upd nD, [], [], zs, upd_same, .nil, by simpa using hz, rfl⟩, ?_⟩
        rintro i m H2 ⟨rfl, hi, s2, acc, ys, zs', hD, dn, hc, hzs⟩
        obtain ⟨hgo, hstop, hy⟩ := io i H2 fun b o q _ => s2 _ _ q
        by_cases hlt : i < its.length
        · refine .inr ⟨hgo hlt, fun H' => Same H1 H' ∧ ∃ acc ys zs', H' D = some (.lst acc) ∧ Dens P.K (fun a => avo P e σ a ∨ a = D) H' acc ys ∧ compL (fun e' => ev Φ E e') (fun e' => evt Φ IFS e') t (its.drop (i + 1)) (wipeS e t.ix) = .ok zs' ∧ zs = ys ++ zs', fun H' hN => ⟨its.length - (i + 1), by omega, rfl, by omega, hN⟩, fun x H3 y => ?_⟩
          rw [List.drop_eq_getElem_cons hlt] at hc
          obtain ⟨e1, b, hb, hg, hrest⟩ := compL_cons hc
          obtain ⟨s3, dx⟩ := hy x H3 y _ (List.getElem?_eq_getElem hlt)
          -- the relation in the block
          have noD : ¬ Owns (wipeS e t.ix) (L2.wipe σ t.ix) D := fun z => (R1.wipe t.ix).own_ne z nD
          have s13 : Same H1 H3 := s2.trans s3
          have hD3 : H3 D = some (.lst acc) := s3 _ _ hD
          have hav : ∀ a, avD a → lessOwn (wipeS e t.ix) (L2.wipe σ t.ix) H3 a ≠ none := fun a z => by
            unfold lessOwn
            rcases z with z | rfl
            · rw [if_neg fun w => (R1.wipe t.ix).own_av w z]
              exact ((R1.wipe t.ix).same s13).av_ne (.inl z)
            · rw [if_neg noD, hD3]
              exact fun z => nomatch z
          have RB : Rel (P.blk avD (lessOwn (wipeS e t.ix) (L2.wipe σ t.ix) H3) hav) (wipeS e t.ix) (L2.wipe σ t.ix) H3 := by
            have R3 := (R1.wipe t.ix)
            refine ⟨R3.len, fun j s o q1 q2 => ((R3.slot j s o q1 q2).imp fun a ha z => ?_).same s13, R3.inj, fun b o q => ?_, fun a z => ?_⟩
            · rcases z with (z | rfl) | z
              · exact .inl z
              · exact absurd nD ha
              · exact .inr z
            · have q : lessOwn (wipeS e t.ix) (L2.wipe σ t.ix) H3 b = some o := q
              unfold lessOwn at q
              split at q
              · cases q
              · exact q
            · show lessOwn (wipeS e t.ix) (L2.wipe σ t.ix) H3 a = none
              unfold lessOwn
              rw [if_pos z]
          have ownsub : ∀ b, Owns (wipeS e t.ix) (L2.wipe σ t.ix) b → Owns e σ b := fun b ⟨j, s, q1, q2, q3⟩ => by
            have : ∀ {vs : List Nat} {j : Nat} {s : Slot}, (wipeS e vs)[j]? = some s → isOwn s = true → e[j]? = some s := by
              intro vs
              induction vs with
              | nil => intro j s h _; exact h
              | cons v vs ih =>
                intro j s h hs
                unfold wipeS at h
                by_cases hv : v = j
                · subst hv
                  rw [List.getElem?_set_self'] at h
                  cases q : (wipeS e vs)[v]? with
                  | none => rw [q] at h; simp at h
                  | some w => rw [q] at h; simp only [Option.map_eq_map, Option.map_some, Function.const_apply, Option.some.injEq] at h; subst h; cases hs
                · rw [List.getElem?_set_ne hv] at h
                  exact ih h hs
            exact ⟨j, s, this q1 q2, q2, (wipe_some q3).1⟩
          refine ⟨P.blk avD _ hav, wipeS e t.ix, _, e1, rfl, RB, dx.imp (fun _ _ z => z) (fun b _ z => ?_), hb, fun σ2 R2 g2 => ⟨?_, ⟨avD, _, hav⟩, e1, R2, ?_⟩⟩
          · rcases z with (z | rfl) | z
            · exact .inl (.inl z)
            · exact .inr nD
            · exact .inl (.inr (ownsub b z))
          · rw [g2.wipe]
            apply List.ext_getElem?
            intro j
            by_cases hj : j ∈ t.ix
            · rw [wipe_in hj, wipe_in hj, wipe_length]
            · rw [wipe_out hj]
          · rw [hg]
            intro H4 s4
            rcases hrest with ⟨rfl, y', ys', hfy, hc', rfl⟩ | ⟨rfl, hc'⟩
            · rw [if_pos rfl]
              refine ⟨⟨avD, _, hav⟩, e1, R2.same s4, ?_⟩
              rw [hfy]
              intro v H5 s5 hv
              have s15 : Same H1 H5 := (s13.trans s4).trans s5
              have hD5 : H5 D = some (.lst acc) := s5 _ _ (s4 _ _ hD3)
              have sm := bindT_out hb
              have d5 : Den P.K (fun a => avo P e σ a ∨ a = D) H5 v y' := hv.d2.imp (fun _ _ z => z) fun a _ z => by
                rcases z with (z | z) | rfl
                · exact .inl (.inl z)
                · obtain ⟨j, s, q1, q2, q3⟩ := z
                  obtain ⟨r1, r2⟩ := wipeS_own (σ := σ) q1 q2 hf.1
                  have hj : j ∉ t.ix := fun hj => by
                    obtain ⟨x0, r⟩ := (sm j).2 hj
                    have := hf.1
                    unfold freeOf at this
                    rw [List.all_eq_true] at this
                    have := this j hj
                    rw [q1] at this
                    simp only [q2] at this
                    exact absurd this (by decide)
                  exact .inr ⟨j, s, by rw [(sm j).1 hj]; exact r1, q2, by rw [g2.2 j hj, r2]; exact q3⟩
                · exact .inl (.inr rfl)
              have hk5 : (∀ ys, H5 D ≠ some (.tup ys)) ∧ ∀ o u, H5 D ≠ some (.frz o u) := ⟨fun _ z => by (rw [hD5] at z; cases z), fun _ _ z => by (rw [hD5] at z; cases z)⟩
              have acl : acc.length < sizeLine := by
                have h1 := dn.length
                have h2 : zs.length = ys.length + (ys'.length + 1) := by rw [hzs, List.length_append, List.length_cons]
                exact line_lt (by have := hf.2; omega)
              refine ⟨acc, hD5, acl, fun b o q => ?_, acc ++ [v], ys ++ [y'], ys', upd_same, ?_, hc', by rw [hzs, List.append_assoc]; rfl⟩
              · rw [upd_ne (fun z => by rw [z, nD] at q; cases q)]
                exact s15 _ _ q
              · have d6 := ((dn.same s3).same s4).same s5
                exact (d6.append (.cons d5 .nil)).upd hk5.1 hk5.2 (.inr rfl)
            · rw [if_neg (by decide)]
              exact ⟨s13.trans s4, acc, ys, zs', s4 _ _ hD3, (dn.same s3).same s4, hc', hzs⟩
        · refine .inl ⟨hstop (by omega), ?_⟩
          rw [List.drop_of_length_le (by omega)] at hc
          simp only [compL, Res.ok.injEq] at hc
          subst hc
          rw [List.append_nil] at hzs
          subst hzs
          have nD0 : H D = none := by
            cases q : H D with
            | none => rfl
            | some o => rw [s1 _ _ q] at nD; cases nD
          exact p _ H2 (fun b o q => s2 _ _ (s1 _ _ q)) ⟨D, acc, rfl, nD0, hD, dn⟩
end
end
end Rf

set_option Elab.async false
set_option linter.all false
set_option maxRecDepth 100000
set_option maxHeartbeats 1000000
/-! Rf, part H: statements. -/
namespace Rf
noncomputable section
open PySem PySem.Spec PyProof.Rows L2
section
variable {X : Cx} {P : Pk} {N : List Str} {sc : Scope} {m : Nat} {Φ : FT} {F : Nat} {A B E : Exp} {ES IFS : List Exp} {a b c tg : Expr} {es : List Expr} {pos : Pos}
theorem Ctx.at (C : Ctx X P N sc) (h0 : Hp) (hav : ∀ a, P.Av a → h0 a ≠ none) : Ctx X (P.at h0 hav) N sc := ⟨C.hK, C.hN, C.nd, C.hs, C.calm, C.un, C.tk, C.po⟩
theorem Ctx.blk (C : Ctx X P N sc) {scope : Scope} (av : Addr → Prop) (h0 : Hp) (hav : ∀ a, av a → h0 a ≠ none) (s : Shared) (H : Hp) (Cl : Addr) (cl : List (Str × Addr)) (fp : List Addr) : Ctx (X.blk s H scope (compEnvC scope cl Cl X.env) fp) (P.blk av h0 hav) N (relS scope sc) :=
  ⟨C.hK, C.hN, C.nd, by rw [← C.hs]; rfl, C.calm, C.un, takes0, PassesOwn.never⟩
/-- a comprehension -/
theorem se_comp (C : Ctx X P N sc) {scope : Scope} {own : List (Str × Nat)} {t : Tgt} {k : SrcK} {ifs : List Expr} {iter : Expr} (hi : PI X tg iter (liftI P (srcs Φ k ES))) (hown : own.map (·.2) = t.ix) (ok : BlkOk N sc scope own)
    (hg : ∀ (s : Shared) (H : Hp) (Cl : Addr) (cl : List (Str × Addr)) (fp : List Addr) (Pb : Pk), Ctx (X.blk s H scope (compEnvC scope cl Cl X.env) fp) Pb N (relS scope sc) → PG (X.blk s H scope (compEnvC scope cl Cl X.env) fp) tg (liftG P.K t))
    (ht : ∀ (s : Shared) (H : Hp) (Cl : Addr) (cl : List (Str × Addr)) (fp : List Addr) (av : Addr → Prop) (h0 : Hp) (hav : ∀ a, av a → h0 a ≠ none), Ctx (X.blk s H scope (compEnvC scope cl Cl X.env) fp) (P.blk av h0 hav) N (relS scope sc) → PTs (X.blk s H scope (compEnvC scope cl Cl X.env) fp) ifs (liftTs (P.blk av h0 hav) (evt Φ IFS)))
    (he : ∀ (s : Shared) (H : Hp) (Cl : Addr) (cl : List (Str × Addr)) (fp : List Addr) (av : Addr → Prop) (h0 : Hp) (hav : ∀ a, av a → h0 a ≠ none), Ctx (X.blk s H scope (compEnvC scope cl Cl X.env) fp) (P.blk av h0 hav) N (relS scope sc) → PE (X.blk s H scope (compEnvC scope cl Cl X.env) fp) a (lift (P.blk av h0 hav) 2 (ev Φ E)))
    (hs : ∀ x, foldedSetIterable iter X.env x = pure x := by intro _; rfl) :
    PE X (.ListComp a [⟨tg, iter, ifs, 0⟩] scope pos) (liftN P 2 (ev Φ (.comp E t k ES IFS))) :=
  PE.imp (pe_lc C.calm (by rw [C.hN]; exact C.nd) hi (by rw [C.hN, C.hs]; exact ok)
    (fun s H Cl cl fp => hg s H Cl cl fp (P.blk (fun _ => False) (fun _ => none) (fun _ z => z.elim)) (C.blk _ _ _ s H Cl cl fp))
    (fun s H Cl cl fp => PTs.ofAll fun i => ht s H Cl cl fp i.1 i.2.1 i.2.2 (C.blk _ _ _ s H Cl cl fp))
    (fun s H Cl cl fp => PE.ofAll fun i => he s H Cl cl fp i.1 i.2.1 i.2.2 (C.blk _ _ _ s H Cl cl fp)) hs) fun σ H Q h => tLc_of hown h
/-- name = a comprehension, in one row -/
theorem ss_lc {f : Sl → Out} (C : Ctx X P N sc) {y : Str} {py cpos : Pos} {i : Nat} {scope : Scope} {own : List (Str × Nat)} {t : Tgt} {k : SrcK} {ifs : List Expr} {iter : Expr} (hy : N[i]? = some y) (hyl : sc.names.lookup y = some .local)
    (hsw : swapsWith (.ListComp a [⟨tg, iter, ifs, 0⟩] scope cpos) (some (.Name y py)) pos.line X.env = pure true)
    (hi : PI X tg iter (liftI P (srcs Φ k ES))) (hown : own.map (·.2) = t.ix) (ok : BlkOk N sc scope own)
    (hg : ∀ (s : Shared) (H : Hp) (Cl : Addr) (cl : List (Str × Addr)) (fp : List Addr) (Pb : Pk), Ctx (X.blk s H scope (compEnvC scope cl Cl X.env) fp) Pb N (relS scope sc) → PG (X.blk s H scope (compEnvC scope cl Cl X.env) fp) tg (liftG P.K t))
    (ht : ∀ (s : Shared) (H : Hp) (Cl : Addr) (cl : List (Str × Addr)) (fp : List Addr) (av : Addr → Prop) (h0 : Hp) (hav : ∀ a, av a → h0 a ≠ none), Ctx (X.blk s H scope (compEnvC scope cl Cl X.env) fp) (P.blk av h0 hav) N (relS scope sc) → PTs (X.blk s H scope (compEnvC scope cl Cl X.env) fp) ifs (liftTs (P.blk av h0 hav) (evt Φ IFS)))
    (he : ∀ (s : Shared) (H : Hp) (Cl : Addr) (cl : List (Str × Addr)) (fp : List Addr) (av : Addr → Prop) (h0 : Hp) (hav : ∀ a, av a → h0 a ≠ none), Ctx (X.blk s H scope (compEnvC scope cl Cl X.env) fp) (P.blk av h0 hav) N (relS scope sc) → PE (X.blk s H scope (compEnvC scope cl Cl X.env) fp) a (lift (P.blk av h0 hav) 2 (ev Φ E)))
    (hf : ∀ D σ H, liftS P f D σ H → tAsg (liftN P 2 (ev Φ (.comp E t k ES IFS))) (gName i) D σ H)
    (hs : ∀ x, foldedSetIterable iter X.env x = pure x := by intro _; rfl) :
    PS X (.Assign [.Name y py] (.ListComp a [⟨tg, iter, ifs, 0⟩] scope cpos) pos) (liftS P f) :=
  PS.imp (ps_setLc C.calm (by rw [C.hN]; exact C.nd) (by rw [C.hN]; exact hy) (by rw [C.hs]; exact hyl) hsw hi (by rw [C.hN, C.hs]; exact ok)
    (fun s H Cl cl fp => hg s H Cl cl fp (P.blk (fun _ => False) (fun _ => none) (fun _ z => z.elim)) (C.blk _ _ _ s H Cl cl fp))
    (fun s H Cl cl fp => PTs.ofAll fun i => ht s H Cl cl fp i.1 i.2.1 i.2.2 (C.blk _ _ _ s H Cl cl fp))
    (fun s H Cl cl fp => PE.ofAll fun i => he s H Cl cl fp i.1 i.2.1 i.2.2 (C.blk _ _ _ s H Cl cl fp)) hs) fun D σ H h => tLc_of hown (hf D σ H h)

/-! ### assignments -/
theorem bindS {e : Sl} {σ : L2.St} {H : Hp} (R : Rel P e σ H) {D : Ends} {r : Res Rf.D} {G : Rf.D → Out} (h : PostS P D (Out.ofR r e G)) : Post P e σ m H (fun v H1 => ∃ x, r = .ok x ∧ Same H H1 ∧ Rel P e σ H1 ∧ DenM P e σ m H1 v x ∧ PostS P D (G x)) r := by
  cases r with
  | ok x => exact fun v H1 s d => ⟨x, rfl, s, R.same s, d, h⟩
  | ex c => exact fun H1 s => h σ H1 (R.same s)
  | stuck => exact h.elim
theorem bindSN {e : Sl} {σ : L2.St} {H : Hp} (R : Rel P e σ H) {D : Ends} {r : Res Rf.D} {G : Rf.D → Out} (h : PostS P D (Out.ofR r e G)) : PostN P e σ m H (fun v H1 => ∃ x, r = .ok x ∧ Same H H1 ∧ Rel P e σ H1 ∧ Fr2 P.K (av1 P e σ m) H v H1 x ∧ PostS P D (G x)) r := by
  cases r with
  | ok x => exact fun v H1 s d => ⟨x, rfl, s, R.same s, d, h⟩
  | ex c => exact fun H1 s => h σ H1 (R.same s)
  | stuck => exact h.elim
theorem bindST {e : Sl} {σ : L2.St} {H : Hp} (R : Rel P e σ H) {D : Ends} {r : Res Rf.D} {G : Rf.D → Out} (hG : ∀ d, (∀ k, d ≠ .bool k) → G d = .stuck) (h : PostS P D (Out.ofR r e G)) : PostT P σ H (fun k H1 => Same H H1 ∧ Rel P e σ H1 ∧ PostS P D (G (.bool k))) r := by
  cases r with
  | ok d =>
    cases d with
    | bool k => exact fun H1 s => ⟨s, R.same s, h⟩
    | none => have := hG .none (fun _ z => nomatch z); rw [Out.ofR_ok, this] at h; exact h.elim
    | int i => have := hG (.int i) (fun _ z => nomatch z); rw [Out.ofR_ok, this] at h; exact h.elim
    | str i => have := hG (.str i) (fun _ z => nomatch z); rw [Out.ofR_ok, this] at h; exact h.elim
    | list i => have := hG (.list i) (fun _ z => nomatch z); rw [Out.ofR_ok, this] at h; exact h.elim
    | tuple i => have := hG (.tuple i) (fun _ z => nomatch z); rw [Out.ofR_ok, this] at h; exact h.elim
    | dict i => have := hG (.dict i) (fun _ z => nomatch z); rw [Out.ofR_ok, this] at h; exact h.elim
  | ex c => exact fun H1 s => h σ H1 (R.same s)
  | stuck => exact h.elim
theorem PostN.weaken {e : Sl} {σ : L2.St} {H : Hp} {Q Q' : VK} {r : Res Rf.D} (h : PostN P e σ m H Q r) (w : ∀ v H', Q v H' → Q' v H') : PostN P e σ m H Q' r := by
  cases r with
  | ok d => exact fun v H' s hd => w _ _ (h v H' s hd)
  | ex c => exact h
  | stuck => exact h
theorem asg_of {i : Nat} {D : Ends} {σ : L2.St} {H : Hp} (h : liftS P (exec Φ F (.asg (.nm i) A)) D σ H) : tAsg (lift P 2 (ev Φ A)) (gName i) D σ H := by
  obtain ⟨e, R, p⟩ := h
  refine ⟨e, R, ?_⟩
  simp only [exec] at p
  refine Post.weaken (bindS (m := 2) R p) fun v H1 ⟨x, _, s, R1, hd, q⟩ => ?_
  simp only [bindT] at q
  split at q
  · rename_i e' hb
    split at hb
    · simp only [Option.some.injEq] at hb; subst hb; exact q _ H1 (R1.setD hd.d2)
    · cases hb
  · exact q.elim
theorem own_of {i : Nat} {D : Ends} {σ : L2.St} {H : Hp} (h : liftS P (exec Φ F (.own i A)) D σ H) : tAsg (liftN P 2 (ev Φ A)) (gName i) D σ H := by
  obtain ⟨e, R, p⟩ := h
  refine ⟨e, R, ?_⟩
  simp only [exec] at p
  refine PostN.weaken (bindSN (m := 2) R p) fun v H1 ⟨x, _, s, R1, hd, q⟩ => ?_
  cases x with
  | list xs =>
    obtain ⟨l, us, rfl, nl, hl, hx⟩ := hd
    simp only [ownS] at q
    split at q
    · exact q _ H1 (R.setNew nl s ⟨l, us, rfl, hl, hx⟩)
    · exact q.elim
  | dict kvs =>
    obtain ⟨l, us, rfl, nl, hl, hx⟩ := hd
    simp only [ownS] at q
    by_cases hk : keysOk kvs = true
    · rw [if_pos hk] at q
      simp only [] at q
      split at q
      · exact q _ H1 (R.setNew nl s ⟨l, us, rfl, hl, hx⟩)
      · exact q.elim
    · rw [if_neg hk] at q; exact q.elim
  | _ => exact q.elim
theorem ss_set (C : Ctx X P N sc) {i : Nat} {x : Str} {px : Pos} (hi : N[i]? = some x) (hx : Loc sc x) (he : PE X a (lift P 2 (ev Φ A))) (hs : swapsWith a (some (.Name x px)) pos.line X.env = pure false := by rfl) (hf : X.fn x = true ∨ X.env.scope.names.lookup x = some .local := by first | exact .inl rfl | exact .inr rfl) :
    PS X (.Assign [.Name x px] a pos) (liftS P (exec Φ F (.asg (.nm i) A))) :=
  PS.imp (ps_set (by rw [C.hN]; exact C.nd) (by rw [C.hN]; exact hi) (by rw [C.hs]; exact hx) he hs hf) fun D σ H h => asg_of h
theorem ss_own (C : Ctx X P N sc) {i : Nat} {x : Str} {px : Pos} (hi : N[i]? = some x) (hx : Loc sc x) (he : PE X a (liftN P 2 (ev Φ A))) (hs : swapsWith a (some (.Name x px)) pos.line X.env = pure false := by rfl) (hf : X.fn x = true ∨ X.env.scope.names.lookup x = some .local := by first | exact .inl rfl | exact .inr rfl) :
    PS X (.Assign [.Name x px] a pos) (liftS P (exec Φ F (.own i A))) :=
  PS.imp (ps_set (by rw [C.hN]; exact C.nd) (by rw [C.hN]; exact hi) (by rw [C.hs]; exact hx) he hs hf) fun D σ H h => own_of h
theorem asgN_of {i : Nat} {D : Ends} {σ : L2.St} {H : Hp} (h : liftS P (exec Φ F (.asg (.nm i) A)) D σ H) : tAsg (liftN P 2 (ev Φ A)) (gName i) D σ H := by
  obtain ⟨e, R, p⟩ := asg_of h
  exact ⟨e, R, PostN.post R p⟩
theorem ss_tgt (C : Ctx X P N sc) {t : Tgt} (hg : PG X tg (liftG P.K t)) (he : PE X a (lift P 2 (ev Φ A))) (hs : swapsWithSole [tg] a pos.line X.env = pure false := by rfl) (hw : swappedStores [tg] a X.env = pure none := by rfl) (h1 : (assignEach [tg] X.env).map (·.2) = [assign tg X.env] := by rfl) :
    PS X (.Assign [tg] a pos) (liftS P (exec Φ F (.asg t A))) := by
  refine PS.imp (ps_asg he hg hs hw h1) fun D σ H ⟨e, R, p⟩ => ⟨e, R, ?_⟩
  simp only [exec] at p
  refine Post.weaken (bindS (m := 2) R p) fun v H1 ⟨x, _, s, R1, hd, q⟩ => ?_
  cases hb : bindT t x e with
  | none => rw [hb] at q; exact q.elim
  | some e' => rw [hb] at q; exact ⟨P, e, x, e', rfl, R1, hd.d2, hb, fun σ1 R2 _ => q _ _ R2⟩
theorem ss_par (C : Ctx X P N sc) {i j : Nat} {x y : Str} {px py pt : Pos} {kt k2 : Nat} {pt2 : Pos} (hi : N[i]? = some x) (hj : N[j]? = some y) (hij : i ≠ j) (hx : sc.names.lookup x = some .local) (hy : sc.names.lookup y = some .local) (ha : PA X [a, b] (lifts P 2 (evs Φ [A, B])))
    (hw : swappedStores [.Tuple [.Name x px, .Name y py] kt pt] (.Tuple [a, b] k2 pt2) X.env = pure (some [x, y])) (hs : swapsWithSole [.Tuple [.Name x px, .Name y py] kt pt] (.Tuple [a, b] k2 pt2) pos.line X.env = pure false := by rfl) :
    PS X (.Assign [.Tuple [.Name x px, .Name y py] kt pt] (.Tuple [a, b] k2 pt2) pos) (liftS P (exec Φ F (.par i j A B))) := by
  refine PS.imp (ps_par C.calm (by rw [C.hN]; exact C.nd) (by rw [C.hN]; exact hi) (by rw [C.hN]; exact hj) hij (by rw [C.hs]; exact hx) (by rw [C.hs]; exact hy) ha hw hs) fun D σ H ⟨e, R, p⟩ => ⟨e, R, ?_⟩
  simp only [exec] at p
  cases q1 : ev Φ A e with
  | ex c => simp only [evs, q1, Res.bind_ex, Out.ofR_ex] at p ⊢; exact fun H1 s => p σ H1 (R.same s)
  | stuck => simp only [q1, Out.ofR_stuck] at p; exact p.elim
  | ok x1 =>
    cases q2 : ev Φ B e with
    | ex c => simp only [evs, q1, q2, Res.bind_ex, Res.bind_ok, Out.ofR_ex, Out.ofR_ok] at p ⊢; exact fun H1 s => p σ H1 (R.same s)
    | stuck => simp only [q1, q2, Out.ofR_stuck, Out.ofR_ok] at p; exact p.elim
    | ok y1 =>
      simp only [evs, q1, q2, Res.bind_ok, Out.ofR_ok] at p ⊢
      intro vs H1 s hd
      match vs, hd with
      | [v, w], hd =>
        refine ⟨v, w, rfl, ?_⟩
        split at p
        · have R1 := R.same s
          have r2 := R1.setD (i := i) hd.1.d2
          refine p _ H1 (r2.setD (hd.2.1.d2.imp (fun _ _ z => z) fun b _ z => z.imp id (own_set_d rfl)))
        · exact p.elim
theorem ss_aug (C : Ctx X P N sc) (op : BOp) (hop : op ≠ .pow) {i : Nat} {x : Str} {px : Pos} (hi : N[i]? = some x) (hx : Loc sc x) (he : PE X a (lift P 1 (ev Φ A))) (hf : X.fn x = true ∨ X.env.scope.names.lookup x = some .local := by first | exact .inl rfl | exact .inr rfl) :
    PS X (.AugAssign (.Name x px) (bOp op) a pos) (liftS P (exec Φ F (.aug i op A))) := by
  have o : PIp X (bOp op) (RB X.K (augD op)) := op_augD op hop
  rw [C.hK] at o
  refine PS.imp (ps_aug (by rw [C.hN]; exact C.nd) (by rw [C.hN]; exact hi) (by rw [C.hs]; exact hx) he o hf) fun D σ H ⟨e, R, p⟩ => ?_
  simp only [exec] at p
  cases q : e[i]? with
  | none => rw [q] at p; exact p.elim
  | some s =>
    rw [q] at p
    cases s with
    | d x1 =>
      obtain ⟨o1, h1, v, rfl, hd⟩ := R.at q
      refine ⟨v, h1, e, R, ?_⟩
      refine Post.weaken (bindS (m := 1) R p) fun w H1 ⟨y, _, s, R1, hy, q⟩ => ?_
      cases qz : augD op x1 y with
      | none => rw [qz] at q; exact q.elim
      | some z =>
        rw [qz] at q
        have R1 := R.same s
        refine ⟨_, _, _, x1, y, z, (hd.same s).mm (m := 1), hy, qz, fun u H2 s2 hz => q _ H2 ((R1.same s2).setD ?_)⟩
        exact (hz.two (c0 := avo P e σ) fun a z => R1.av_ne z).one
    | _ => exact p.elim

/-! ### own lists and dicts -/
theorem ss_app (C : Ctx X P N sc) {i : Nat} {x : Str} {px apos cpos : Pos} (hi : N[i]? = some x) (hv : Vis sc x) (he : PE X a (lift P 2 (ev Φ A)))
    (h1 : (((backTo cpos (starEach [a] X.env)).all fun x => !x.1) && (backToKw cpos (keywordEach [] X.env)).all (fun x => x.1.isSome) && decide (([a] : List Expr).length + ([] : List Keyword).length + (if ([] : List Keyword).isEmpty then 0 else 1) < 30)) = true := by rfl)
    (h2 : (apos.endLine == cpos.line) = true := by rfl) (h3 : starEach [a] X.env = (false, eval a X.env) :: starEach [] X.env := by rfl) (h4 : ((backTo cpos (starEach [] X.env)).any fun x => x.1) = false := by rfl) (hd : (x == ("__debug__" : Str)) = false := by decide) (hcd : (x == ("__classdict__" : Str)) = false := by decide)
    (hb : attributeBase (.Name x px) "append" X.env (eval (.Name x px) X.env) = eval (.Name x px) X.env := by rfl) (hs : swapsWith (.Call (.Attribute (.Name x px) "append" apos) [a] [] cpos) none pos.line X.env = pure false := by rfl) :
    PS X (.Expr (.Call (.Attribute (.Name x px) "append" apos) [a] [] cpos) pos) (liftS P (exec Φ F (.app i A))) := by
  refine PS.imp (ps_expr (pe_bm PySem.F.plainAttrs_list PySem.F.slot_list_append PySem.F.type_list_append mt_append (pe_var (i := i) (by rw [C.hN]; exact hi) (by rw [C.hs]; exact hv) hd hcd) (pa_cons he pa_nil h3) hb h1 h2 h3 h4) hs) fun D σ H ⟨e, R, p⟩ => ?_
  simp only [exec] at p
  cases q : e[i]? with
  | none => rw [q] at p; exact p.elim
  | some s =>
    rw [q] at p
    cases s with
    | ol xs =>
      obtain ⟨o1, h1, l, us, rfl, hl, dd⟩ := R.at q
      refine ⟨_, h1, .inl ⟨rfl, us, .inl (.inl hl)⟩, e, R, ?_⟩
      refine Post.weaken (bindS (m := 2) R p) fun w H1 ⟨y, _, s, R1, hy, p⟩ => ?_
      split at p
      · rename_i hz
        refine ⟨l, us, w, rfl, rfl, s _ _ hl, by rw [dd.length]; exact line_lt hz, p σ _ (R1.updOwn q rfl rfl h1 ⟨l, us ++ [w], rfl, upd_same, ?_⟩)⟩
        exact ((dd.same s).append (.cons hy.d2 .nil)).upd (R1.kinds _ ⟨i, _, q, rfl, h1⟩).1 (R1.kinds _ ⟨i, _, q, rfl, h1⟩).2 (.inr ⟨i, _, q, rfl, h1⟩)
      · exact p.elim
    | _ => exact p.elim
theorem ss_setl (C : Ctx X P N sc) {i : Nat} {x : Str} {px tp : Pos} (hi : N[i]? = some x) (hv : Vis sc x) (he : PE X a (lift P 2 (ev Φ A))) (hk : PE X b (lift P 0 (ev Φ B))) (hd : (x == ("__debug__" : Str)) = false := by decide) (hcd : (x == ("__classdict__" : Str)) = false := by decide)
    (ha : ∀ v, assign (.Subscript (.Name x px) b tp) X.env v = (do
      let ov ← holding [v] (eval (.Name x px) X.env)
      let iv ← holding [v, ov] (eval b X.env)
      standAt tp
      holding [v, ov, iv] (setItem ov iv v)
      release [v, ov, iv] []) := by intro _; rfl) (hs : swapsWithSole [.Subscript (.Name x px) b tp] a pos.line X.env = pure false := by rfl) (hw : swappedStores [.Subscript (.Name x px) b tp] a X.env = pure none := by rfl) (h1 : (assignEach [.Subscript (.Name x px) b tp] X.env).map (·.2) = [assign (.Subscript (.Name x px) b tp) X.env] := by rfl) :
    PS X (.Assign [.Subscript (.Name x px) b tp] a pos) (liftS P (exec Φ F (.setl i B A))) := by
  refine PS.imp (ps_asg he (pg_sub (pe_var (i := i) (by rw [C.hN]; exact hi) (by rw [C.hs]; exact hv) hd hcd) hk set_list ha) hs hw h1) fun D σ H ⟨e, R, p⟩ => ⟨e, R, ?_⟩
  simp only [exec] at p
  cases q : e[i]? with
  | none => rw [q] at p; exact p.elim
  | some s =>
    rw [q] at p
    cases s with
    | ol xs =>
      obtain ⟨o1, h1, l, us, rfl, hl, dd⟩ := R.at q
      refine Post.weaken (bindS (m := 2) R p) fun w H1 ⟨y, _, s, R1, hy, p⟩ => ⟨_, h1, e, R1, ?_⟩
      refine Post.weaken (bindS (m := 0) R1 p) fun k H2 ⟨k', _, s2, R2, hk', p⟩ => ?_
      cases k' with
      | int k' =>
        obtain rfl := d2_int hk'
        simp only [] at p
        cases qj : ixN xs.length k' with
        | none => rw [qj] at p; exact p.elim
        | some j =>
          rw [qj] at p
          refine ⟨l, us, k', j, rfl, rfl, s2 _ _ (s _ _ hl), by rw [dd.length]; exact qj, p σ _ (R2.updOwn q rfl rfl h1 ⟨l, us.set j w, rfl, upd_same, ?_⟩)⟩
          exact (((dd.same s).same s2).set j (hy.d2.same s2)).upd (R2.kinds _ ⟨i, _, q, rfl, h1⟩).1 (R2.kinds _ ⟨i, _, q, rfl, h1⟩).2 (.inr ⟨i, _, q, rfl, h1⟩)
      | _ => exact p.elim
    | _ => exact p.elim
theorem ss_setd (C : Ctx X P N sc) {i : Nat} {x : Str} {px tp : Pos} (hi : N[i]? = some x) (hv : Vis sc x) (he : PE X a (lift P 2 (ev Φ A))) (hk : PE X b (lift P 0 (ev Φ B))) (hd : (x == ("__debug__" : Str)) = false := by decide) (hcd : (x == ("__classdict__" : Str)) = false := by decide)
    (hs : swapsWith a (some (.Subscript (.Name x px) b tp)) pos.line X.env = pure false := by rfl) :
    PS X (.Assign [.Subscript (.Name x px) b tp] a pos) (liftS P (exec Φ F (.setd i B A))) := by
  refine PS.imp (ps_dput C.u1 (pe_var (i := i) (by rw [C.hN]; exact hi) (by rw [C.hs]; exact hv) hd hcd) hk he hs) fun D σ H ⟨e, R, p⟩ => ⟨e, R, ?_⟩
  simp only [exec] at p
  cases q : e[i]? with
  | none => rw [q] at p; exact p.elim
  | some s =>
    rw [q] at p
    cases s with
    | od xs =>
      obtain ⟨o1, h1, l, us, rfl, hl, dd⟩ := R.at q
      refine Post.weaken (bindS (m := 2) R p) fun w H1 ⟨y, _, s, R1, hy, p⟩ => ⟨_, h1, e, R1, ?_⟩
      refine Post.weaken (bindS (m := 0) R1 p) fun k H2 ⟨k', _, s2, R2, hk', p⟩ => ?_
      split at p
      · rename_i hz
        obtain ⟨hz1, hz2⟩ := hz
        obtain ⟨c, hc⟩ := Option.isSome_iff_exists.mp hz1
        obtain rfl := keyD_of hc
        obtain rfl := keyV hk'
        refine ⟨l, _, rfl, DPut.k (s2 _ _ (s _ _ hl)) (by rw [dd.length]; exact line_lt hz2), p σ _ (R2.updOwn q rfl rfl h1 ⟨l, _, rfl, upd_same, ?_⟩)⟩
        exact (put_of c (hy.d2.same s2) ((dd.same s).same s2)).upd (R2.kinds _ ⟨i, _, q, rfl, h1⟩).1 (R2.kinds _ ⟨i, _, q, rfl, h1⟩).2 (.inr ⟨i, _, q, rfl, h1⟩)
      · exact p.elim
    | _ => exact p.elim
theorem pop_of {i : Nat} {σ : L2.St} {H : Hp} {e : Sl} {xs : List D} {x : D} {Q : VK} (R : Rel P e σ H) (q : e[i]? = some (.ol xs)) (hx : xs[xs.length - 1]? = some x)
    (h : ∀ v H', Rel P (e.set i (.ol xs.dropLast)) σ H' → Den P.K (avo P (e.set i (.ol xs.dropLast)) σ) H' v x → Q v H') : tBM0 P.K "list" rPop (tVar i) σ H Q := by
  obtain ⟨o1, h1, l, us, rfl, hl, dd⟩ := R.at q
  have hlen := dd.length
  obtain ⟨v, hv, dv⟩ := dd.getD hx
  have ow : Owns e σ l := ⟨i, _, q, rfl, h1⟩
  refine ⟨_, h1, .inl ⟨rfl, us, .inl (.inl hl)⟩, l, us, v, rfl, rfl, hl, by rw [hlen]; exact hv, h _ _ ?_ ?_⟩
  · exact R.updOwn q rfl rfl h1 ⟨l, _, rfl, upd_same, dd.dropLast.upd (R.kinds _ ow).1 (R.kinds _ ow).2 (.inr ow)⟩
  · refine (dv.upd (R.kinds _ ow).1 (R.kinds _ ow).2 (.inr ow)).imp (fun _ _ z => z) fun b _ z => z.imp id fun ⟨j, t, q1, q2, q3⟩ => ?_
    by_cases hj : i = j
    · subst hj; exact ⟨i, _, q, rfl, q3⟩
    · rw [List.getElem?_set_ne hj] at q1; exact ⟨j, t, q1, q2, q3⟩
theorem ss_pop (C : Ctx X P N sc) {i : Nat} {x : Str} {px apos cpos : Pos} (hi : N[i]? = some x) (hv : Vis sc x)
    (h2 : (apos.endLine == cpos.line) = true := by rfl) (hd : (x == ("__debug__" : Str)) = false := by decide) (hcd : (x == ("__classdict__" : Str)) = false := by decide)
    (hb : attributeBase (.Name x px) "pop" X.env (eval (.Name x px) X.env) = eval (.Name x px) X.env := by rfl) (hs : swapsWith (.Call (.Attribute (.Name x px) "pop" apos) [] [] cpos) none pos.line X.env = pure false := by rfl) :
    PS X (.Expr (.Call (.Attribute (.Name x px) "pop" apos) [] [] cpos) pos) (liftS P (exec Φ F (.pop i))) := by
  refine PS.imp (ps_expr (pe_bm0 PySem.F.plainAttrs_list PySem.F.slot_list_pop PySem.F.type_list_pop mt_pop (pe_var (i := i) (by rw [C.hN]; exact hi) (by rw [C.hs]; exact hv) hd hcd) hb h2) hs) fun D σ H ⟨e, R, p⟩ => ?_
  simp only [exec] at p
  cases q : e[i]? with
  | none => rw [q] at p; exact p.elim
  | some s =>
    rw [q] at p
    cases s with
    | ol xs =>
      simp only [] at p
      split at p
      · exact p.elim
      · rename_i hx
        have hx : xs.length - 1 < xs.length := by
          cases xs with
          | nil => exact absurd rfl hx
          | cons _ _ => simp
        unfold tDrop
        rw [C.hK]
        exact pop_of R q (List.getElem?_eq_getElem hx) fun v H' R' _ => p σ H' R'
    | _ => exact p.elim
theorem ss_popto (C : Ctx X P N sc) {i t : Nat} {x y : Str} {px py apos cpos : Pos} (hi : N[i]? = some x) (hv : Vis sc x) (hy : N[t]? = some y) (hyl : Loc sc y)
    (h2 : (apos.endLine == cpos.line) = true := by rfl) (hd : (x == ("__debug__" : Str)) = false := by decide) (hcd : (x == ("__classdict__" : Str)) = false := by decide)
    (hb : attributeBase (.Name x px) "pop" X.env (eval (.Name x px) X.env) = eval (.Name x px) X.env := by rfl) (hs : swapsWith (.Call (.Attribute (.Name x px) "pop" apos) [] [] cpos) (some (.Name y py)) pos.line X.env = pure false := by rfl) (hf : X.fn y = true ∨ X.env.scope.names.lookup y = some .local := by first | exact .inl rfl | exact .inr rfl) :
    PS X (.Assign [.Name y py] (.Call (.Attribute (.Name x px) "pop" apos) [] [] cpos) pos) (liftS P (exec Φ F (.popto t i))) := by
  refine PS.imp (ps_set (i := t) (by rw [C.hN]; exact C.nd) (by rw [C.hN]; exact hy) (by rw [C.hs]; exact hyl) (pe_bm0 PySem.F.plainAttrs_list PySem.F.slot_list_pop PySem.F.type_list_pop mt_pop (pe_var (i := i) (by rw [C.hN]; exact hi) (by rw [C.hs]; exact hv) hd hcd) hb h2) hs hf) fun D σ H ⟨e, R, p⟩ => ?_
  simp only [exec] at p
  cases q : e[i]? with
  | none => rw [q] at p; exact p.elim
  | some s =>
    rw [q] at p
    cases s with
    | ol xs =>
      simp only [] at p
      cases hx : xs[xs.length - 1]? with
      | none => rw [hx] at p; exact p.elim
      | some x1 =>
        rw [hx] at p
        simp only [] at p
        split at p
        · unfold tAsg
          rw [C.hK]
          exact pop_of R q hx fun v H' R' dv => p _ H' (R'.setD dv)
        · exact p.elim
    | _ => exact p.elim

/-! ### flow -/
theorem ss_expr (he : PE X a (lift P 0 (ev Φ A))) (hs : swapsWith a none pos.line X.env = pure false := by rfl) : PS X (.Expr a pos) (liftS P (exec Φ F (.expr A))) := by
  refine PS.imp (ps_expr he hs) fun D σ H ⟨e, R, p⟩ => ⟨e, R, ?_⟩
  simp only [exec] at p
  exact Post.weaken (bindS (m := 0) R p) fun v H1 ⟨x, _, s, R1, hd, q⟩ => q σ H1 R1
theorem ss_ret (he : PE X a (lift P 0 (ev Φ A))) : PS X (.Return (some a) pos) (liftS P (exec Φ F (.ret A))) := by
  refine PS.imp (ps_ret he) fun D σ H ⟨e, R, p⟩ => ⟨e, R, ?_⟩
  simp only [exec] at p
  exact Post.weaken (bindS (m := 0) R p) fun v H1 ⟨x, _, s, R1, hd, q⟩ => q v H1 R1.fr hd.weak
theorem ss_retn : PS X (.Return none pos) (liftS P (exec Φ F .retn)) := PS.imp ps_retN fun D σ H ⟨e, R, p⟩ => by
  simp only [exec] at p
  exact p .non H R.fr .none
theorem ss_if {ba bb : List Stmt} {BA BB : List Stm} (hc : PT X c (liftT P (ev Φ E))) (ha : PSs X ba (liftS P (execs Φ F BA))) (hb : PSs X bb (liftS P (execs Φ F BB))) : PS X (.If c ba bb pos) (liftS P (exec Φ F (.ifs E BA BB))) := by
  refine PS.imp (ps_if hc ha hb) fun D σ H ⟨e, R, p⟩ => ⟨e, R, ?_⟩
  simp only [exec] at p
  refine PostT.weaken (bindST R (fun d hd => ?_) p) fun k H1 ⟨s, R1, q⟩ => ?_
  · cases d with
    | bool k => exact absurd rfl (hd k)
    | _ => rfl
  · cases k with
    | true => exact ⟨e, R1, q⟩
    | false => exact ⟨e, R1, q⟩
theorem ss_pass : PS X (.Pass pos) (liftS P (exec Φ F .pas)) := PS.imp ps_pass fun D σ H ⟨e, R, p⟩ => by
  simp only [exec] at p
  exact p σ H R
theorem ss_brk : PS X (.Break pos) (liftS P (exec Φ F .brk)) := PS.imp ps_break fun D σ H ⟨e, R, p⟩ => by
  simp only [exec] at p
  exact p σ H R
theorem ss_cnt : PS X (.Continue pos) (liftS P (exec Φ F .cnt)) := PS.imp ps_continue fun D σ H ⟨e, R, p⟩ => by
  simp only [exec] at p
  exact p σ H R
theorem sss_nil : PSs X [] (liftS P (execs Φ F [])) := PSs.imp pss_nil fun D σ H ⟨e, R, p⟩ => by
  simp only [execs] at p
  exact p σ H R
theorem sss_cons {st : Stmt} {r : List Stmt} {S1 : Stm} {SR : List Stm} (h1 : PS X st (liftS P (exec Φ F S1))) (h2 : PSs X r (liftS P (execs Φ F SR))) : PSs X (st :: r) (liftS P (execs Φ F (S1 :: SR))) := by
  refine PSs.imp (pss_cons h1 h2) fun D σ H ⟨e, R, p⟩ => ⟨e, R, ?_⟩
  simp only [execs] at p
  cases q : exec Φ F S1 e with
  | nx e' => rw [q] at p; exact fun σ' H' R' => ⟨e', R', p⟩
  | ret x => rw [q] at p; exact p
  | bk e' => rw [q] at p; exact p
  | ct e' => rw [q] at p; exact p
  | ex c e' => rw [q] at p; exact p
  | stuck => rw [q] at p; exact p
theorem sss_give {r : List Stmt} {SR : List Stm} {i : Nat} (h2 : PSs X r (liftS P (execs Φ F SR))) : PSs X r (liftS P (execs Φ F (.give i :: SR))) := PSs.imp h2 fun D σ H ⟨e, R, p⟩ => by
  simp only [execs, exec] at p
  cases q : e[i]? with
  | none => rw [q] at p; exact p.elim
  | some s =>
    rw [q] at p
    cases s with
    | ol xs => exact ⟨_, R.give q, p⟩
    | _ => exact p.elim
/-- a turn's end -/
theorem PostS.turn {D : Ends} {N : L2.St → Hp → Prop} {G : Sl → Out} (hN : ∀ e' σ' H', Rel P e' σ' H' → PostS P D (G e') → N σ' H') : ∀ {o : Out}, PostS P D (o.turn G) → PostS P { D with nx := N, ct := N, bk := D.nx } o
  | .nx e', h => fun σ' H' R => hN e' σ' H' R h
  | .ct e', h => fun σ' H' R => hN e' σ' H' R h
  | .bk _, h => h
  | .ret _, h => h
  | .ex _ _, h => h
  | .stuck, h => h
theorem ss_while {body : List Stmt} {BD : List Stm} (C : Ctx X P N sc) (hc : PT X c (liftT P (ev Φ E))) (hb : PSs X body (liftS P (execs Φ F BD))) : PS X (.While c body [] pos) (liftS P (exec Φ F (.whl E BD))) := by
  refine PS.imp (ps_while C.po hc hb) fun D σ H ⟨e, R, p⟩ => ?_
  simp only [exec] at p
  refine ⟨fun n σ H => ∃ e, Rel P e σ H ∧ PostS P D (whileF (fun e' => ev Φ E e') (fun e' => execs Φ F BD e') n e), ⟨F, e, R, p⟩, ?_⟩
  rintro n σ1 H1 ⟨e1, R1, p1⟩
  cases n with
  | zero => exact p1.elim
  | succ n =>
    refine ⟨e1, R1, ?_⟩
    simp only [whileF] at p1
    refine PostT.weaken (bindST R1 (fun d hd => ?_) p1) fun k H2 ⟨s, R2, q⟩ => ?_
    · cases d with
      | bool k => exact absurd rfl (hd k)
      | _ => rfl
    · cases k with
      | true =>
        rw [if_pos rfl]
        exact ⟨fun σ' H' => ∃ e, Rel P e σ' H' ∧ PostS P D (whileF (fun e' => ev Φ E e') (fun e' => execs Φ F BD e') n e), fun σ' H' z => ⟨n, Nat.lt_succ_self n, z⟩, e1, R2, PostS.turn (fun e' σ' H' R' z => ⟨e', R', z⟩) q⟩
      | false => rw [if_neg (by decide)]; exact q σ1 H2 R2
theorem ss_for {body : List Stmt} {BD : List Stm} {iter : Expr} {t : Tgt} {k : SrcK} (C : Ctx X P N sc) (hi : PI X tg iter (liftI P (srcs Φ k ES))) (hg : PG X tg (liftG P.K t)) (hb : ∀ (h0 : Hp) (hav : ∀ a, P.Av a → h0 a ≠ none), Ctx X (P.at h0 hav) N sc → PSs X body (liftS (P.at h0 hav) (execs Φ F BD)))
    (hs : ∀ x, foldedSetIterable iter X.env x = pure x := by intro _; rfl) : PS X (.For tg iter body [] pos) (liftS P (exec Φ F (.for t k ES BD))) := by
  refine PS.imp (ps_for C.po C.calm hi hg (PSs.ofAll (ι := { h0 : Hp // ∀ a, P.Av a → h0 a ≠ none }) fun i => hb i.1 i.2 (C.at i.1 i.2)) hs) fun D σ H ⟨e, R, p⟩ => ⟨e, R, ?_⟩
  simp only [exec] at p
  unfold srcs
  cases qx : evs Φ ES e with
  | ex c => rw [qx] at p; exact fun H1 s => p σ H1 (R.same s)
  | stuck => rw [qx] at p; exact p.elim
  | ok xs =>
    rw [qx] at p
    simp only [Out.ofR_ok] at p
    simp only [Res.bind_ok]
    cases qs : srcD k xs with
    | none => rw [qs] at p; exact p.elim
    | some its =>
      rw [qs] at p
      simp only [] at p
      intro J H1 s1 io
      have R1 := R.same s1
      refine ⟨fun i m σ2 H2 => m = its.length - i ∧ i ≤ its.length ∧ ∃ e2, Rel (P.at (lessOwn e σ H1) (lessOwn_av R1)) e2 σ2 H2 ∧ PostS (P.at (lessOwn e σ H1) (lessOwn_av R1)) D (forL (fun e' => execs Φ F BD e') t (its.drop i) e2), ⟨its.length, by omega, Nat.zero_le _, e, R1.into, PostS.into R1 (by simpa using p)⟩, ?_⟩
      rintro i m σ2 H2 ⟨rfl, hi, e2, R2, p2⟩
      obtain ⟨hgo, hstop, hy⟩ := io i H2 fun b o q n => R2.fr _ _ (show lessOwn e σ H1 b = some o by unfold lessOwn; rw [if_neg n]; exact q)
      by_cases hlt : i < its.length
      · refine .inr ⟨hgo hlt, fun σ' H' => ∃ e3, Rel (P.at (lessOwn e σ H1) (lessOwn_av R1)) e3 σ' H' ∧ PostS (P.at (lessOwn e σ H1) (lessOwn_av R1)) D (forL (fun e' => execs Φ F BD e') t (its.drop (i + 1)) e3), fun σ' H' z => ⟨its.length - (i + 1), by omega, rfl, by omega, z⟩, fun x H' y => ?_⟩
        rw [List.drop_eq_getElem_cons hlt] at p2
        simp only [forL] at p2
        cases qb : bindT t its[i] e2 with
        | none => rw [qb] at p2; exact p2.elim
        | some e3 =>
          rw [qb] at p2
          obtain ⟨s3, dx⟩ := hy x H' y _ (List.getElem?_eq_getElem hlt)
          have R3 := R2.same s3
          refine ⟨P.at (lessOwn e σ H1) (lessOwn_av R1), e2, _, e3, rfl, R3, dx.imp (fun _ _ z => z) (fun b _ z => ?_), qb, fun σ3 R4 _ => ⟨⟨lessOwn e σ H1, lessOwn_av R1⟩, e3, R4, PostS.turn (fun e' σ' H' R' z => ⟨e', R', z⟩) p2⟩⟩
          rcases z with z | z
          · exact .inl (.inl z)
          · have q := R2.new b z
            have q : lessOwn e σ H1 b = none := q
            unfold lessOwn at q
            split at q
            · rename_i w; exact .inl (.inr w)
            · exact .inr q
      · refine .inl ⟨hstop (by omega), ?_⟩
        rw [List.drop_of_length_le (by omega)] at p2
        simp only [forL] at p2
        exact p2 σ2 H2 R2
end
end
end Rf

set_option Elab.async false
set_option linter.all false
set_option maxRecDepth 100000
set_option maxHeartbeats 1000000
/-! Rf, part I: a def's promise; the program. -/
namespace Rf
noncomputable section
open PySem PySem.Spec PyProof.Rows L2
section
variable {pr : Program} {w : World} {K : PySem.W.Frag} {mg : Str → Option Value} {base : Heap} {ca : Nat → Addr}
/-- what the top has written of a def -/
structure Txt (K : PySem.W.Frag) (mg : Str → Option Value) (x q : Str) (st : Stmt) (ps : List Str) : Prop where
  ex : ∃ f fd, Fun K q q st f fd ∧ mg x = some (.ref f) ∧ Binds K fd ps []
/-- the def i, called n deep -/
structure Good (pr : Program) (w : World) (K : PySem.W.Frag) (mg : Str → Option Value) (base : Heap) (ca : Nat → Addr) (T : List Fdef) (F : Nat) (x : Str) (i n : Nat) : Prop where
  ex : ∃ f fd ps, FnOk pr w K mg base (L2.CX pr w) n f fd ps (spP K ca (phi T F n) i) ∧ mg x = some (.ref f) ∧ PySem.W.keepIn K (.ref f) = true ∧ Binds K fd ps []
theorem Good.fn {T : List Fdef} {F : Nat} {x : Str} {i n : Nat} {A : Around} (g : Good pr w K mg base ca T F x i n) (hr : Room n A) : Fn1 pr w K mg base A ca (phi T F n) x i := by
  obtain ⟨f, fd, ps, ok, h1, h2, h3⟩ := g.ex
  exact ⟨n, f, fd, ps, ok, hr, h1, h2, h3⟩
theorem good_zero {T : List Fdef} {F : Nat} {x q : Str} {i : Nat} {st : Stmt} {ps : List Str} (t : Txt K mg x q st ps) : Good pr w K mg base ca T F x i 0 := by
  obtain ⟨f, fd, fn, h1, h2⟩ := t.ex
  refine ⟨f, fd, ps, ⟨fun vs H Q E h => ?_, fun A outer s H args us vs Q E hr he hb hv h => ?_⟩, h1, fn.kp, h2⟩ <;> (obtain ⟨av, ds, _, _, h⟩ := h; exact h.elim)
theorem start_get {N : List Str} {vs : List V} {i : Nat} {v : V} (h : vs[i]? = some v) : (L2.start N vs)[i]? = some (some v) := by
  unfold L2.start
  rw [List.getElem?_append_left (by rw [List.length_map]; exact (List.getElem?_eq_some_iff.mp h).1), List.getElem?_map, h]
  rfl
theorem rel_start {P : Pk} {N : List Str} {vs : List V} {ds : List D} (hd : Dens P.K P.Av P.H0 vs ds) (hl : ds.length ≤ N.length) : Rel P (ds.map .d ++ List.replicate (N.length - ds.length) .un) (L2.start N vs) P.H0 := by
  have hlen := hd.length
  have noOwn : ∀ (i : Nat) (s : Slot), (ds.map Slot.d ++ List.replicate (N.length - ds.length) Slot.un)[i]? = some s → isOwn s = false := fun i s h => by
    by_cases hi : i < ds.length
    · rw [List.getElem?_append_left (by rw [List.length_map]; exact hi), List.getElem?_map, List.getElem?_eq_getElem hi] at h
      simp only [Option.map_some, Option.some.injEq] at h
      subst h; rfl
    · rw [List.getElem?_append_right (by rw [List.length_map]; omega), List.getElem?_replicate] at h
      split at h
      · simp only [Option.some.injEq] at h; subst h; rfl
      · cases h
  have no : ∀ a, ¬ Owns (ds.map Slot.d ++ List.replicate (N.length - ds.length) Slot.un) (L2.start N vs) a := fun a ⟨i, s, h1, h2, _⟩ => by
    rw [noOwn i s h1] at h2; cases h2
  refine ⟨?_, fun i s o h1 h2 => ?_, fun i j s t a h1 h2 => ?_, Same.refl _, fun a h => absurd h (no a)⟩
  · unfold L2.start
    simp only [List.length_append, List.length_map, List.length_replicate]
    omega
  · by_cases hi : i < ds.length
    · rw [List.getElem?_append_left (by rw [List.length_map]; exact hi), List.getElem?_map, List.getElem?_eq_getElem hi] at h1
      simp only [Option.map_some, Option.some.injEq] at h1
      subst h1
      obtain ⟨v, hv, dv⟩ := hd.getD (List.getElem?_eq_getElem hi)
      rw [start_get hv] at h2
      simp only [Option.some.injEq] at h2
      subst h2
      exact ⟨v, rfl, dv.imp (fun _ _ z => z) fun a _ z => z.elim id fun z => absurd z (no a)⟩
    · rw [List.getElem?_append_right (by rw [List.length_map]; omega), List.getElem?_replicate] at h1
      split at h1
      · simp only [Option.some.injEq] at h1; subst h1; trivial
      · cases h1
  · rw [noOwn i s h1] at h2; cases h2
/-- the reading of a body, at the entry -/
theorem entry {P : Pk} {N : List Str} {vs : List V} {ds : List D} {fn : Fdef} {Φ : FT} {F : Nat} {Q : VK} {E : XK} (hd : Dens P.K P.Av P.H0 vs ds) (hns : fn.ns = N.length) (hnp : fn.np ≤ N.length) (hW : P.W = fun cls d _ H => E cls d H)
    (h : match fn.run Φ F ds with
      | .ok d => ∀ v H', Same P.H0 H' → Den P.K P.Av H' v d → Q v H'
      | .ex c => ∀ H', Same P.H0 H' → E (.ref (P.ca c)) none H'
      | .stuck => False) : liftS P (execs Φ F fn.body) { nx := fun _ H' => Q .non H', rt := Q } (L2.start N vs) P.H0 := by
  unfold Fdef.run at h
  by_cases hl : ds.length = fn.np
  · rw [if_pos hl, hns, ← hl] at h
    refine ⟨_, rel_start hd (by omega), ?_⟩
    cases q : execs Φ F fn.body (ds.map .d ++ List.replicate (N.length - ds.length) .un) with
    | ret x => rw [q] at h; exact h
    | nx e' => rw [q] at h; exact fun σ' H' R => h .non H' R.fr .none
    | ex c e' => rw [q] at h; exact fun σ' H' R => by rw [hW]; exact h H' R.fr
    | bk e' => rw [q] at h; exact h.elim
    | ct e' => rw [q] at h; exact h.elim
    | stuck => rw [q] at h; exact h.elim
  · rw [if_neg hl] at h; exact h.elim
/-- a body's context -/
@[reducible] def cxG (pr : Program) (w : World) (K : PySem.W.Frag) (mg : Str → Option Value) (base : Heap) (N : List Str) (x : Str) (st : Stmt) (A : Around) (s0 : Shared) (H0 : Hp) (a f : Addr) (cdv : Value) (outer : List Env) (xe : Value → Shared → Prop) : Cx :=
  { prog := pr, w := w, K := K, mg := mg, base := base, A := A, N := N, s_0 := s0, H_0 := H0, env := envOfC x (defScope st) a f cdv, outer := outer, stack := envOfC x (defScope st) a f cdv :: outer, ex := [], calm := true, fn := fun _ => true, pn := [], xe := xe }
/-- a body's walk -/
def Walk (pr : Program) (w : World) (K : PySem.W.Frag) (mg : Str → Option Value) (base : Heap) (ca : Nat → Addr) (N : List Str) (x : Str) (st : Stmt) (n : Nat) (f : Sl → Out) : Prop :=
  ∀ (A : Around) (s0 : Shared) (H0 : Hp) (a fA : Addr) (cdv : Value) (outer : List Env) (xe : Value → Shared → Prop) (h0 : Hp) (av : Addr → Prop) (avok : ∀ a, av a → h0 a ≠ none) (W : WX), Room n A →
    Ctx (cxG pr w K mg base N x st A s0 H0 a fA cdv outer xe) ⟨K, h0, av, avok, W, ca⟩ N (defScope st) → PSs (cxG pr w K mg base N x st A s0 H0 a fA cdv outer xe) (defBody st) (liftS ⟨K, h0, av, avok, W, ca⟩ f)
/-- a def keeps its promise -/
theorem good_succ {T : List Fdef} {F : Nat} {x q : Str} {i n : Nat} {st : Stmt} {N ps : List Str} {fn : Fdef} (t : Txt K mg x q st ps) (S : FnScope N ps (defScope st)) (hT : T[i]? = some fn) (hnp : fn.np = ps.length) (hns : fn.ns = N.length) (hle : ps.length ≤ N.length)
    (hb : Walk pr w K mg base ca N q st n (execs (phi T F n) F fn.body)) :
    Good pr w K mg base ca T F x i (n + 1) := by
  obtain ⟨f, fd, F0, h1, h2⟩ := t.ex
  refine ⟨f, fd, ps, F0.okX S (fun vs H Q E h => ?_) (fun cdv A outer s H vs Q E hr h => ?_), h1, F0.kp, h2⟩
  · obtain ⟨av, ds, _, hd, h⟩ := h
    simp only [phi, hT] at h
    unfold Fdef.run at h
    by_cases hl : ds.length = fn.np
    · rw [hd.length, hl, hnp]
    · rw [if_neg hl] at h; exact h.elim
  · obtain ⟨av, ds, hav, hd, h⟩ := h
    simp only [phi, hT] at h
    refine ⟨_, hb (A.deeper (envOfC q (defScope st) s.heap.objs.size f cdv)) s H _ f cdv outer _ H av hav (fun cls d _ H => E cls d H) hr ⟨rfl, rfl, S.nd, rfl, rfl, ?_, takes_of rfl rfl rfl rfl, passes_of rfl⟩, entry hd hns (by rw [hnp]; exact hle) rfl h⟩
    have := hr.un
    show (A.deeper (envOfC q (defScope st) s.heap.objs.size f cdv)).units + 190 < cLine
    omega
/-- a def out of which no exception comes -/
theorem calm_ok {T : List Fdef} {F : Nat} {x : Str} {i n : Nat} {st : Stmt} {N ps : List Str} {fn : Fdef} {f : Addr} {fd : FuncData} {sp : Sp} (F0 : Fun K x x st f fd) (S : FnScope N ps (defScope st)) (hT : T[i]? = some fn) (hnp : fn.np = ps.length) (hns : fn.ns = N.length) (hle : ps.length ≤ N.length)
    (hb : Walk pr w K mg base ca N x st n (execs (phi T F n) F fn.body))
    (hsp : ∀ vs H Q E, sp vs H Q E → ∃ ds d, Dens K (fun _ => False) H vs ds ∧ phi T F (n + 1) i ds = .ok d ∧ ∀ v H', Same H H' → Den K (fun _ => False) H' v d → Q v H') : FnOk pr w K mg base L2.CX0 (n + 1) f fd ps sp := by
  refine F0.ok S (fun vs H Q E h => ?_) (fun cdv A outer s H vs Q E hr h => ?_)
  · obtain ⟨ds, d, hd, h, _⟩ := hsp vs H Q E h
    simp only [phi, hT] at h
    unfold Fdef.run at h
    by_cases hl : ds.length = fn.np
    · rw [hd.length, hl, hnp]
    · rw [if_neg hl] at h; cases h
  · obtain ⟨ds, d, hd, h, q⟩ := hsp vs H Q E h
    simp only [phi, hT] at h
    refine ⟨_, hb (A.deeper (envOfC x (defScope st) s.heap.objs.size f cdv)) s H _ f cdv outer (fun _ _ => False) H (fun _ => False) (fun _ z => z.elim) (fun _ _ _ _ => False) hr ⟨rfl, rfl, S.nd, rfl, rfl, ?_, takes0, PassesOwn.never⟩, entry (E := fun _ _ _ => False) hd hns (by rw [hnp]; exact hle) rfl (by rw [h]; exact q)⟩
    have := hr.un
    show (A.deeper (envOfC x (defScope st) s.heap.objs.size f cdv)).units + 190 < cLine
    omega
/-- the law's own promise: at every script of at most k ints it answers True -/
def spLaw (k : Nat) (K : PySem.W.Frag) : Sp := fun vs H Q _ => ∃ (a : Addr) (ns : List Int), vs = [.ref a] ∧ SqL K H a (ns.map V.int) ∧ ns.length ≤ k ∧ ∀ H', Q (.bl true) H'
theorem law_ok {T : List Fdef} {F k : Nat} {x p : Str} {i n : Nat} {st : Stmt} {N : List Str} {fn : Fdef} {f : Addr} {fd : FuncData} (F0 : Fun K x x st f fd) (S : FnScope N [p] (defScope st)) (hT : T[i]? = some fn) (hnp : fn.np = 1) (hns : fn.ns = N.length) (hle : 1 ≤ N.length)
    (hb : Walk pr w K mg base ca N x st n (execs (phi T F n) F fn.body))
    (hm : ∀ ns : List Int, ns.length ≤ k → phi T F (n + 1) i [.list (ns.map .int)] = .ok (.bool true)) : FnOk pr w K mg base L2.CX0 (n + 1) f fd [p] (spLaw k K) :=
  calm_ok F0 S hT hnp hns hle hb fun vs H Q E ⟨a, ns, hv, hS, hl, q⟩ => ⟨[.list (ns.map .int)], .bool true, by rw [hv]; exact .cons (.list hS (.inl fun z => z) (dens_ints ns)) .nil, hm ns hl, fun v H' _ hd => by cases hd; exact q H'⟩
end
end
end Rf

set_option Elab.async false
set_option linter.all false
set_option maxRecDepth 100000
set_option maxHeartbeats 1000000
/-! Rf, part J: backwards. -/
namespace Rf
noncomputable section
open PySem PySem.Spec PyProof.Rows L2
theorem rev_text (z : Str) (u : Tok) : Txt.sliceBy z none none (-1, u) = S z.cps.toList.reverse := by
  have h := step_rev_list z u
  have e : (Txt.sliceBy z none none (-1, u)).cps.toList = z.cps.toList.reverse := by
    rw [h]
    apply List.ext_getElem
    · simp [Str.length]
    · intro i h1 h2
      simp only [List.length_map, List.length_range] at h1
      simp only [List.getElem_map, List.getElem_range, List.getElem_reverse, Array.getElem_toList, Array.length_toList]
      have : z.length - 1 - i < z.cps.size := by show _ < z.length; omega
      rw [Array.getD_eq_getD_getElem?, Array.getElem?_eq_getElem this]
      rfl
  cases q : Txt.sliceBy z none none (-1, u) with
  | mk c =>
    rw [q] at e
    simp only at e
    rw [← e]
section
variable {X : Cx} {P : Pk} {N : List Str} {sc : Scope} {m : Nat} {Φ : FT} {A : Exp} {a : Expr} {pos : Pos}
theorem pe_revS {e : Expr} {te : L2.TE} {k : Nat} {p1 p2 p3 : Pos} (he : PE X e te) : PE X (.Subscript e (.Slice none none (some (.UnaryOp .USub (.Constant (.int 1) k p1) p2)) p3) pos) (fun σ H Q => te σ H fun x H1 => ∃ z, x = .str z ∧ z.length ≤ sizeLine ∧ Q (.str (S z.cps.toList.reverse)) H1) := by
  refine ⟨fun pins s σ H Q I h => ?_⟩
  refine Subscript_ (thn (he.run pins s σ H _ I h) fun v s1 ⟨x, H1, I1, r1, q1⟩ => ?_)
  obtain ⟨z, rfl, hz, q⟩ := q1
  obtain ⟨t, rfl⟩ := r1
  have third : PO X (some (.UnaryOp .USub (.Constant (.int 1) k p1) p2)) (tPart (tUn (rU fun i => .int (-i)) (tC (.int 1)))) := po_some (pe_un un_neg pe_int)
  refine wpAny_Slice (thn (po_none.run pins s1 σ H1 (fun o H2 => o = none ∧ H2 = H1) I1 ⟨rfl, rfl⟩) fun vl s2 ⟨l, H2, I2, pl, w1, w2⟩ => ?_)
  subst w1 w2
  refine thn (po_none.run pins s2 σ H2 (fun o H3 => o = none ∧ H3 = H2) I2 ⟨rfl, rfl⟩) fun vu s3 ⟨u, H3, I3, pu, w1, w2⟩ => ?_
  subst w1 w2
  refine thn (third.run pins s3 σ H3 (fun o H4 => o = some (-1) ∧ H4 = H3) I3 ⟨1, rfl, -1, rfl, rfl, rfl⟩) fun vs s4 ⟨o, H4, I4, ps, w1, w2⟩ => ?_
  subst w1 w2
  obtain ⟨l, rfl, hl⟩ := IsPart.raw pl
  obtain ⟨u, rfl, hu⟩ := IsPart.raw pu
  obtain ⟨st, rfl, hst⟩ := IsPart.raw ps
  have e1 : l = none := by cases l with | none => rfl | some _ => cases hl
  have e2 : u = none := by cases u with | none => rfl | some _ => cases hu
  subst e1 e2
  obtain ⟨tk, rfl⟩ : ∃ tk, st = some (-1, tk) := by
    cases st with
    | none => cases hst
    | some p => obtain ⟨i, tk⟩ := p; cases hst; exact ⟨tk, rfl⟩
  have I5 : Inv X pins σ H4 { s4 with heap := s4.heap.push { cls := .type "slice", data := .fields #[partValue none, partValue none, partValue (some (-1, tk))] } } := I4.kept (t' := s4.toks) fun b ob q => Heap.get?_push_of_some _ q
  show wpAny (model X.prog X.w) X.A (subscriptTail e (.Slice none none (some (.UnaryOp .USub (.Constant (.int 1) k p1) p2)) p3) (.str z t) (.ref s4.heap.objs.size)) (EP X pins σ Q) X.xe { s4 with heap := s4.heap.push { cls := .type "slice", data := .fields #[partValue none, partValue none, partValue (some (-1, tk))] } }
  refine tail_any (ops := [.ref s4.heap.objs.size, .str z t]) (typeIs_str _ z t) (PySem.F.slot_str_getitem.lookup) ?_ (by with_unfolding_all rfl)
  refine wpAny_getItem_str_slice (l := none) (u := none) (st := some (-1, tk)) ⟨_, Heap.get?_push_size _ rfl, rfl, rfl⟩ rfl ?_
  have c : ¬ (((((some ((-1 : Int), tk)).map (·.1)).getD 1 == 1) && ((slicePicked z none none (some (-1, tk))).length == z.length)) = true) := by
    have : ((((some ((-1 : Int), tk)).map (·.1)).getD 1 == 1)) = false := rfl
    rw [this]; simp
  have hs : sliceMade z t none none (some (-1, tk)) = .str (S z.cps.toList.reverse) := by
    rw [← rev_text z tk]
    unfold sliceMade Txt.sliceBy
    rw [if_neg c, if_neg c]
  rw [hs]
  refine ⟨?_, .str _, _, I5.tok _, ⟨_, rfl⟩, q⟩
  show (S z.cps.toList.reverse).cps.size ≤ sizeLine
  simpa [Str.length] using hz
theorem se_revS {k : Nat} {p1 p2 p3 : Pos} (ha : PE X a (lift P 0 (ev Φ A))) : PE X (.Subscript a (.Slice none none (some (.UnaryOp .USub (.Constant (.int 1) k p1) p2)) p3) pos) (lift P m (ev Φ (.revs A))) := by
  refine PE.imp (pe_revS ha) fun σ H Q ⟨e, R, p⟩ => ⟨e, R, ?_⟩
  simp only [ev] at p
  refine Post.weaken (bindZ (α := D) (m := 0) gdPost R p) fun v H1 ⟨x, _, s1, R1, d1, p1⟩ => ?_
  cases x with
  | str z =>
    obtain rfl := d2_str d1
    simp only [revsD] at p1
    split at p1
    · rename_i hz
      exact ⟨z, rfl, line_le hz, p1 _ H1 (Same.refl _) (DenM.up (.str _))⟩
    · exact p1.elim
  | _ => exact p1.elim
theorem se_revL (C : Ctx X P N sc) {k : Nat} {p1 p2 p3 : Pos} (ha : PE X a (lift P (sub m) (ev Φ A))) : PE X (.Subscript a (.Slice none none (some (.UnaryOp .USub (.Constant (.int 1) k p1) p2)) p3) pos) (liftN P m (ev Φ (.rev A))) := by
  refine PE.imp (pe_revL ha) fun σ H Q ⟨e, R, p⟩ => ⟨e, R, ?_⟩
  simp only [ev] at p
  refine Post.weaken (bindZ (α := D) (m := sub m) gdPostN R p) fun v H1 ⟨x, _, s1, R1, d1, p1⟩ => ?_
  cases x with
  | list xs =>
    unfold DenM at d1
    rw [av1_sub] at d1
    obtain ⟨l, us, rfl, h1, h2⟩ := d2_lst d1
    exact ⟨l, us, rfl, by rw [C.hK]; exact h1, fun p np => p1 _ _ (same_upd np) (new_lst np h2.reverse)⟩
  | _ => exact p1.elim
theorem Fr2.mono {K : PySem.W.Frag} {a1 b1 : Addr → Prop} {H H' : Hp} {z : V} {d : D} (f : ∀ a, b1 a → a1 a) (h : Fr2 K a1 H z H' d) : Fr2 K b1 H z H' d := by
  cases d with
  | list ds => obtain ⟨p, xs, e1, n, e, t⟩ := h; exact ⟨p, xs, e1, n, e, t.imp (fun _ _ z => z) fun a _ z => z.imp (f a) id⟩
  | dict ds => obtain ⟨p, xs, e1, n, e, t⟩ := h; exact ⟨p, xs, e1, n, e, t.imp (fun _ _ z => z) fun a _ z => z.imp (f a) id⟩
  | none => exact Den.imp (fun _ _ z => z) (fun a _ => f a) h
  | bool _ => exact Den.imp (fun _ _ z => z) (fun a _ => f a) h
  | int _ => exact Den.imp (fun _ _ z => z) (fun a _ => f a) h
  | str _ => exact Den.imp (fun _ _ z => z) (fun a _ => f a) h
  | tuple _ => exact Den.imp (fun _ _ z => z) (fun a _ => f a) h
theorem PE.modeN {f : Sl → Res D} (h : PE X a (liftN P 2 f)) : PE X a (liftN P m f) := Rf.PE.imp h fun σ H Q ⟨e, R, p⟩ => ⟨e, R, by
  cases q : f e with
  | ok d => rw [q] at p; exact fun v H' s hd => p v H' s (hd.mono fun a z => by
      match m with
      | 0 => exact .inl z
      | _ + 1 => exact z)
  | ex c => rw [q] at p; exact p
  | stuck => rw [q] at p; exact p⟩
theorem se_globI {x : Str} {i : Int} {t : Tok} (hg : X.env.kindOf x = some .globalImplicit) (hm : X.mg x = some (.int i t)) (hdb : (x == ("__debug__" : Str)) = false := by decide) : PE X (.Name x pos) (lift P m (ev Φ (.con (.int i)))) := se_glob (v := .int i) hg hm ⟨_, rfl⟩ (fun _ _ => .int i) hdb
theorem se_globS {x i : Str} {t : Tok} (hg : X.env.kindOf x = some .globalImplicit) (hm : X.mg x = some (.str i t)) (hdb : (x == ("__debug__" : Str)) = false := by decide) : PE X (.Name x pos) (lift P m (ev Φ (.con (.str i)))) := se_glob (v := .str i) hg hm ⟨_, rfl⟩ (fun _ _ => .str i) hdb
theorem se_globB {x : Str} {i : Bool} (hg : X.env.kindOf x = some .globalImplicit) (hm : X.mg x = some (.bool i)) (hdb : (x == ("__debug__" : Str)) = false := by decide) : PE X (.Name x pos) (lift P m (ev Φ (.con (.bool i)))) := se_glob (v := .bl i) hg hm rfl (fun _ _ => .bool i) hdb
end
end
end Rf

set_option Elab.async false
set_option linter.all false
set_option maxRecDepth 100000
set_option maxHeartbeats 1000000
/-! Rf, part L: raise; try with a clause that returns a constant. -/
namespace Rf
noncomputable section
open PySem PySem.Spec PyProof.Rows L2
section
variable {X : Cx} {P : Pk} {N : List Str} {sc : Scope} {Φ : FT} {F : Nat} {a b : Expr} {pos : Pos}
theorem ss_raise (C : Ctx X P N sc) {c : Nat} (pm : PMk X a (fun _ H Q => Q (.ref (P.ca c)) none H)) : PS X (.Raise (some a) none pos) (liftS P (exec Φ F (.rse c))) :=
  PS.imp (ps_raise C.calm C.tk pm) fun D σ H ⟨e, R, p⟩ => by
    simp only [exec] at p
    exact p σ H R
/-- an own class of exceptions at A -/
structure XCls (K : PySem.W.Frag) (mg : Str → Option Value) (x : Str) (A : Addr) : Prop where
  g : mg x = some (.ref A)
  e : PySem.W.excIn K A [.type "ValueError", .type "Exception", .type "BaseException", .type "object"] "ValueError.__new__" = true
  k : PySem.W.keepIn K (.ref A) = true
  b : PySem.W.subIn K (.ref A) (.type "BaseException") = some true
  t : PySem.W.typeIn K (.ref A) = some (.type "type")
theorem pm_own {x m : Str} {j : Nat} {p p2 : Pos} {A : Addr} (h : XCls X.K X.mg x A) (hg : X.env.kindOf x = some .globalImplicit) (hdb : (x == ("__debug__" : Str)) = false := by decide) :
    PMk X (.Call (.Name x p) [.Constant (.str m) j p2] [] pos) (fun _ H Q => Q (.ref A) none H) :=
  pmk_own PySem.F.excBase_ValueError h.e h.g h.k (raises_own h.b h.t) hg hdb
/-- a value read while the error stands in slot i -/
def tK (i : Nat) (e : Addr) (v : V) : L2.TE := fun σ H Q => σ[i]? = some (some (.ref e)) ∧ ∀ H', Same H H' → Q v H'
theorem xk_c {i : Nat} {e : Addr} {v : V} (h : PE X a (tC v)) : PE X a (tK i e v) := PE.imp h fun σ H Q h => h.2 H (Same.refl H)
theorem xk_and {rest : List Expr} {i : Nat} {e : Addr} {k l : Bool} (ha : PE X a (tK i e (.bl k))) (hb : PE X (.BoolOp .And (b :: rest) pos) (tK i e (.bl l))) : PE X (.BoolOp .And (a :: b :: rest) pos) (tK i e (.bl (k && l))) :=
  PE.imp (pe_and ha hb) fun σ H Q h => ⟨h.1, fun H' s => ⟨k, rfl, by
    cases k with
    | true => exact ⟨h.1, fun H2 s2 => h.2 H2 (s.trans s2)⟩
    | false => exact h.2 H' s⟩⟩
theorem xk_one {op : BoolOp} {i : Nat} {e : Addr} {v : V} (ha : PE X a (tK i e v)) : PE X (.BoolOp op [a] pos) (tK i e v) := pe_one ha
theorem xk_not {i : Nat} {e : Addr} {k : Bool} (ha : PE X a (tK i e (.bl k))) : PE X (.UnaryOp .Not a pos) (tK i e (.bl (!k))) :=
  PE.imp (pe_not ha) fun σ H Q h => ⟨h.1, fun H' s => ⟨k, rfl, h.2 H' s⟩⟩
theorem xk_is {i : Nat} {e D A : Addr} {oe : Obj} {pn : List (Addr × Obj)} {n x : Str} {p pn' px : Pos} {k : Bool} (E : ExcC X.K D) (hz : Zc (.ref D) none oe) (hf : ∃ vs, oe.data = .fields vs) (hN : X.N[i]? = some n) (hv : Vis X.env.scope n)
    (hg : X.env.kindOf "isinstance" = some .globalImplicit) (hm : X.mg "isinstance" = none) (hgx : X.env.kindOf x = some .globalImplicit) (hmx : X.mg x = some (.ref A)) (hk : PySem.W.kitOne X.K (.ref D) (.ref A) = some k)
    (hd : (n == ("__debug__" : Str)) = false := by decide) (hcd : (n == ("__classdict__" : Str)) = false := by decide) (hdx : (x == ("__debug__" : Str)) = false := by decide) :
    PE (X.suite e ((e, oe) :: pn)) (.Call (.Name "isinstance" p) [.Name n pn', .Name x px] [] pos) (tK i e (.bl k)) :=
  PE.imp (pe_callB (call_isE E hz hf) hg hm (by decide +kernel) (pa_cons (pe_var (i := i) hN hv hd hcd) (pa_cons (pe_glob (v := .ref A) hgx hmx rfl hdx) pa_nil)) (by decide) (by decide)) fun σ H Q h =>
    ⟨.ref e, h.1, .ref A, .ref A, k, rfl, fun u hu => hu, hk, h.2 H (Same.refl H)⟩
/-- a clause that only returns -/
def tX (i : Nat) (e : Addr) (v : V) : L2.TS := fun D σ H => σ[i]? = some (some (.ref e)) ∧ ∀ H', Same H H' → D.rt v H'
/-- isinstance(e, (A, B)) -/
theorem call_isET {X : Cx} {a D : Addr} {oe : Obj} {pn : List (Addr × Obj)} (E : ExcC X.K D) (hz : Zc (.ref D) none oe) (hf : ∃ vs, oe.data = .fields vs) : CallR (X.suite a ((a, oe) :: pn)) (.builtin "isinstance") (fun xs H Q => ∃ (tp A B : Addr) (b : Bool), xs = [.ref a, .ref tp] ∧ H tp = some (.tup [.ref A, .ref B]) ∧ PySem.W.kitAny X.K (.ref D) [.ref A, .ref B] = some b ∧ Q (.bl b) H) := by
  intro pins s σ H xs us Q I r hyp
  obtain ⟨tp, A, B, b, rfl, hT, hk, fin⟩ := hyp
  obtain ⟨u1, u2, rfl, r1, r2⟩ := vals2 r
  obtain rfl : u1 = Value.ref a := r1
  obtain rfl : u2 = Value.ref tp := r2
  have there := (I.pin (a, oe) (List.mem_append.mpr (.inl List.mem_cons_self))).1
  have inst : PySem.W.InstAt s.heap a oe D none := by
    rcases oe with ⟨c1, c2, c3, c4⟩
    rcases hz with ⟨z1, z2⟩
    rcases hf with ⟨vs, hv⟩
    simp only at z1 z2 hv
    subst z1; subst z2; subst hv
    exact ⟨there, rfl, rfl, trivial⟩
  have tup : ObjOk X.prog X.w H s.heap tp (.tup [.ref A, .ref B]) := I.hok tp _ hT
  obtain ⟨_, its, rv, o, g1, g2, n, g3⟩ := tup
  have eits : its = [Value.ref A, Value.ref B] := by
    cases rv with
    | cons x1 rest =>
      cases rest with
      | cons x2 rest =>
        cases rest
        obtain rfl := x1
        obtain rfl := x2
        rfl
  subst eits
  rcases o with ⟨c1, c2, c3, c4⟩
  simp only at g2 g3
  subst g2; subst g3
  exact PySem.W.kia_tup (PySem.W.handS_kitx_exc E.hg E.hk E.hs E.hd E.ha E.hn E.ht E.hm) I.kIn inst g1 hk (fun z => nomatch z) fun tk => ⟨.bl b, H, I.kept (t' := tk) fun _ _ z => z, rfl, fin⟩
theorem xk_isT {i : Nat} {e D A B : Addr} {oe : Obj} {pn : List (Addr × Obj)} {n x y : Str} {p pn' px py pt : Pos} {k k2 b : Bool} {kk : Nat} (E : ExcC X.K D) (hz : Zc (.ref D) none oe) (hf : ∃ vs, oe.data = .fields vs) (hN : X.N[i]? = some n) (hv : Vis X.env.scope n)
    (hg : X.env.kindOf "isinstance" = some .globalImplicit) (hm : X.mg "isinstance" = none) (hgx : X.env.kindOf x = some .globalImplicit) (hmx : X.mg x = some (.ref A)) (hgy : X.env.kindOf y = some .globalImplicit) (hmy : X.mg y = some (.ref B)) (hk : PySem.W.kitOne X.K (.ref D) (.ref A) = some k) (hk2 : PySem.W.kitOne X.K (.ref D) (.ref B) = some k2) (hb : b = (k || k2))
    (hd : (n == ("__debug__" : Str)) = false := by decide) (hcd : (n == ("__classdict__" : Str)) = false := by decide) (hdx : (x == ("__debug__" : Str)) = false := by decide) (hdy : (y == ("__debug__" : Str)) = false := by decide) :
    PE (X.suite e ((e, oe) :: pn)) (.Call (.Name "isinstance" p) [.Name n pn', .Tuple [.Name x px, .Name y py] kk pt] [] pos) (tK i e (.bl b)) :=
  PE.imp (pe_callB (call_isET E hz hf) hg hm (by decide +kernel) (pa_cons (pe_var (i := i) hN hv hd hcd) (pa_cons (pe_tup (pa_cons (pe_glob (v := .ref A) hgx hmx rfl hdx) (pa_cons (pe_glob (v := .ref B) hgy hmy rfl hdy) pa_nil))) pa_nil)) (by decide) (by decide)) fun σ H Q h =>
    ⟨.ref e, h.1, (by show 2 ≤ sizeLine; decide), fun q nq => ⟨q, A, B, b, rfl, upd_same, kitAny_cons hk (fun e1 => kitAny_cons hk2 (fun e2 => by rw [kitAny_nil, hb, e1, e2]; rfl) (fun e2 => by rw [hb, e1, e2]; rfl)) (fun e1 => by rw [hb, e1]; rfl), h.2 _ (same_upd nq)⟩⟩
theorem xs_ret {i : Nat} {e : Addr} {v : V} (h : PE X a (tK i e v)) : PSs X [.Return (some a) pos] (tX i e v) := PSs.imp (pss_one (ps_ret h)) fun D σ H h => h
@[reducible] def Pk.wi (P : Pk) (W : WX) : Pk := { P with W := W }
theorem Rel.wi {P : Pk} {W : WX} {e : Sl} {σ : L2.St} {H : Hp} (R : Rel P e σ H) : Rel (P.wi W) e σ H := ⟨R.len, R.slot, R.inj, R.fr, R.new⟩
theorem Rel.iw {P : Pk} {W : WX} {e : Sl} {σ : L2.St} {H : Hp} (R : Rel (P.wi W) e σ H) : Rel P e σ H := ⟨R.len, R.slot, R.inj, R.fr, R.new⟩
/-- a flat value -/
def flV : D → Option V
  | .bool k => some (.bl k)
  | .none => some .non
  | .int i => some (.int i)
  | _ => none
theorem flV_den {K : PySem.W.Frag} {av : Addr → Prop} {H : Hp} {d : D} {v : V} (h : flV d = some v) : Den K av H v d := by
  cases d <;> simp only [flV, Option.some.injEq, reduceCtorEq] at h <;> subst h
  · exact .none
  · exact .bool _
  · exact .int _
theorem mem_lk : ∀ {r : List (Nat × D)} {c : Nat} {d : D}, r.lookup c = some d → (c, d) ∈ r
  | [], _, _, h => by simp at h
  | (k, v) :: r, c, d, h => by
    rw [List.lookup_cons] at h
    by_cases e : (c == k) = true
    · rw [e] at h
      have e2 : c = k := by simpa using e
      cases h
      rw [e2]
      exact List.mem_cons_self ..
    · rw [show (c == k) = false by simpa using e] at h
      exact List.mem_cons_of_mem _ (mem_lk h)
theorem ss_try (C : Ctx X P N sc) {x n : Str} {A : Addr} {i : Nat} {body suite : List Stmt} {b0 : Stmt} {np pos' : Pos} {B : List Stm} {ok : List Nat} {r : List (Nat × D)} (hs : X.stack = X.env :: X.outer) (hf : X.env.frame = some X.env.locals)
    (hi : N[i]? = some n) (hln : X.env.kindOf n = some .local) (hg : X.env.kindOf x = some .globalImplicit) (hm : X.mg x = some (.ref A))
    (hy : ∀ p ∈ r, PySem.W.exmOne P.K (.ref (P.ca p.1)) (.ref A) = some true ∧ ∃ v, flV p.2 = some v ∧ ∀ (a : Addr) (oe : Obj) (pn : List (Addr × Obj)), Zc (.ref (P.ca p.1)) none oe → (∃ vs, oe.data = .fields vs) → PSs (X.suite a ((a, oe) :: pn)) (b0 :: suite) (tX i a v))
    (hno : ∀ c ∈ ok, PySem.W.exmOne P.K (.ref (P.ca c)) (.ref A) = some false)
    (hb : ∀ (W : WX) (pn : List (Addr × Obj)) (xe : Value → Shared → Prop), Ctx (X.tr pn xe) (P.wi W) N sc → PSs (X.tr pn xe) body (liftS (P.wi W) (execs Φ F B))) (hdb : (x == ("__debug__" : Str)) = false := by decide) :
    PS X (.Try body [.ExceptHandler (some (.Name x np)) (some n) (b0 :: suite) pos'] [] [] pos) (liftS P (exec Φ F (.tri i B ok r))) := by
  have hyes : ∀ c d, r.lookup c = some d → PySem.W.exmOne P.K (.ref (P.ca c)) (.ref A) = some true ∧ ∃ v, flV d = some v ∧ ∀ (a : Addr) (oe : Obj) (pn : List (Addr × Obj)), Zc (.ref (P.ca c)) none oe → (∃ vs, oe.data = .fields vs) → PSs (X.suite a ((a, oe) :: pn)) (b0 :: suite) (tX i a v) := fun c d h => hy (c, d) (mem_lk h)
  refine PS.imp (ps_try_as (c := .ref A) (ts := fun a cls d => fun D σ H => ∃ c dd v, cls = .ref (P.ca c) ∧ d = none ∧ r.lookup c = some dd ∧ flV dd = some v ∧ tX i a v D σ H) (Wout := P.W) (tb := fun W => liftS (P.wi W) (execs Φ F B)) hs hf (by rw [C.hN]; exact C.nd) (by rw [C.hN]; exact hi) hln ⟨hg, hdb, .inl hm⟩ C.tk
    (fun W pn xe tk po => hb W pn xe ⟨C.hK, C.hN, C.nd, C.hs, C.calm, C.un, tk, po⟩)
    (fun a oe cls d pn hz hfl => ⟨fun pins s σ H D I h => ?_⟩)) fun D σ H ⟨e, R, p⟩ => ⟨e, R.wi, ?_⟩
  · obtain ⟨c, dd, v, rfl, rfl, hl, hv, h⟩ := h
    obtain ⟨_, v', hv', hp⟩ := hyes c dd hl
    rw [hv] at hv'
    cases hv'
    exact (hp a oe pn hz hfl).run pins s σ H D I h
  · simp only [exec] at p
    cases q : execs Φ F B e with
    | nx e' => rw [q] at p; exact fun σ' H' R' => p σ' H' R'.iw
    | ret x => rw [q] at p; exact p
    | bk e' => rw [q] at p; exact fun σ' H' R' => p σ' H' R'.iw
    | ct e' => rw [q] at p; exact fun σ' H' R' => p σ' H' R'.iw
    | stuck => rw [q] at p; exact p
    | ex c e' =>
      rw [q] at p
      intro σ' H' R'
      cases ql : r.lookup c with
      | some dd =>
        simp only [ql] at p
        obtain ⟨he, v, hv, _⟩ := hyes c dd ql
        split at p
        · rename_i hlt
          refine ⟨true, by rw [C.hK]; exact he, fun _ a na => ⟨c, dd, v, rfl, rfl, ql, hv, ?_, ?_⟩, fun z => Bool.noConfusion z⟩
          · rw [List.getElem?_set_self]
            rw [R'.len]
            exact hlt
          · exact fun H2 s2 => p v H2 (R'.fr.trans s2) (flV_den hv)
        · exact p.elim
      | none =>
        simp only [ql] at p
        by_cases ho : ok.contains c = true
        · rw [if_pos ho] at p
          exact ⟨false, by rw [C.hK]; exact hno c (by simpa using ho), fun z => Bool.noConfusion z, fun _ => p σ' H' R'.iw⟩
        · rw [if_neg ho] at p; exact p.elim
theorem se_globK {x : Str} {A : Addr} {d : D} {m : Nat} (hg : X.env.kindOf x = some .globalImplicit) (hm : X.mg x = some (.ref A)) (hd : ∀ (av : Addr → Prop) (H : Hp), Den P.K av H (.ref A) d) (hdb : (x == ("__debug__" : Str)) = false := by decide) : PE X (.Name x pos) (lift P m (ev Φ (.con d))) := se_glob (v := .ref A) hg hm rfl hd hdb
/-- the facts of a class for the clauses that name it, and for its instances -/
structure XFull (K : PySem.W.Frag) (mg : Str → Option Value) (x : Str) (A : Addr) : Prop extends XCls K mg x A where
  hd : PySem.W.hasDictIn K A = true
  ex : ExcC K A
theorem XFull.exm {K : PySem.W.Frag} {mg : Str → Option Value} {x : Str} {A : Addr} {cls : Value} {k : Bool} (h : XFull K mg x A) (s : PySem.W.subIn K cls (.ref A) = some k) : PySem.W.exmOne K cls (.ref A) = some k := PySem.W.exm_ref h.b h.hd h.t s
theorem kit_c {K : PySem.W.Frag} {D A : Addr} {k : Bool} (hd : PySem.W.hasDictIn K A = true) (ht : PySem.W.typeIn K (.ref A) = some (.type "type")) (hs : PySem.W.subIn K (.ref D) (.ref A) = some k) : PySem.W.kitCls K (.ref D) (.ref A) = some k := by
  obtain ⟨cd, hc, _⟩ := PySem.W.any_some hd
  have e2 : ((PySem.W.clsIn K A).isSome && PySem.W.typeIn K (.ref A) == some (.type "type")) = true := by rw [hc, ht] <;> rfl
  show (if ((PySem.W.clsIn K A).isSome && PySem.W.typeIn K (.ref A) == some (.type "type")) = true then PySem.W.subIn K (.ref D) (.ref A) else none) = some k
  rw [if_pos e2]
  exact hs
theorem kit_t {K : PySem.W.Frag} {D A : Addr} (hd : PySem.W.hasDictIn K A = true) (ht : PySem.W.typeIn K (.ref A) = some (.type "type")) (hs : PySem.W.subIn K (.ref D) (.ref A) = some true) : PySem.W.kitOne K (.ref D) (.ref A) = some true := by
  unfold PySem.W.kitOne
  split
  · rfl
  · exact kit_c hd ht hs
theorem kit_f {K : PySem.W.Frag} {D A : Addr} (hd : PySem.W.hasDictIn K A = true) (ht : PySem.W.typeIn K (.ref A) = some (.type "type")) (hs : PySem.W.subIn K (.ref D) (.ref A) = some false) (hn : (Value.ref D == Value.ref A) = false) : PySem.W.kitOne K (.ref D) (.ref A) = some false := by
  unfold PySem.W.kitOne
  rw [if_neg (by rw [hn]; exact Bool.false_ne_true)]
  exact kit_c hd ht hs
end
end
end Rf

set_option Elab.async false
set_option linter.all false
set_option maxRecDepth 100000
set_option maxHeartbeats 1000000
/-! Rf, part M: d.get(k, x); for k in d. -/
namespace Rf
noncomputable section
open PySem PySem.Spec PyProof.Rows L2
section
variable {X : Cx} {P : Pk} {N : List Str} {sc : Scope} {m F : Nat} {Φ : FT} {A B E : Exp} {ES : List Exp} {a b c tg : Expr} {es : List Expr} {pos : Pos}
theorem se_get (C : Ctx X P N sc) {apos : Pos} (ha : PE X a (lift P (sub m) (ev Φ A))) (hb : PE X b (lift P 0 (ev Φ B))) (hc : PE X c (lift P m (ev Φ E))) (m2 : M2 X a "get" apos b c pos := by exact ⟨rfl, rfl, rfl, rfl⟩) :
    PE X (.Call (.Attribute a "get" apos) [b, c] [] pos) (lift P m (ev Φ (.dget A B E))) := by
  refine PE.imp (pe_dget2 C.u1 ha hb hc m2) fun σ H Q ⟨e, R, p⟩ => ⟨e, R, ?_⟩
  simp only [ev] at p
  refine Post.weaken (bindZ (α := D) (m := sub m) gdPost R p) fun v H1 ⟨x, _, s1, R1, d1, p1⟩ => ?_
  cases x with
  | dict kvs =>
    obtain ⟨l, ks, rfl, h1, h2, h3⟩ := d1
    rw [av1_sub] at h3
    refine ⟨l, rfl, .inl ⟨ks, h1⟩, e, R1, ?_⟩
    simp only [] at p1
    refine Post.weaken (bindZ (α := D) (m := 0) gdPost R1 p1) fun w H2 ⟨y, _, s2, R2, d2, p2⟩ => ⟨e, R2, ?_⟩
    refine Post.weaken (bindZ (α := D) (m := m) gdPost R2 p2) fun u H3 ⟨z, _, s3, R3, d3, p3⟩ => ?_
    simp only [mthD] at p3
    split at p3
    · rename_i hk
      obtain ⟨k, hk⟩ := Option.isSome_iff_exists.mp hk
      obtain rfl := keyD_of hk
      obtain rfl := keyV d2
      have h1' := same_rd (s2.trans s3) h1
      have h3' := h3.same (s2.trans s3)
      rcases look_of k h3' with ⟨g1, g2⟩ | ⟨x', v', g1, g2, g3⟩
      · rw [g1] at p3
        exact ⟨none, .inl ⟨ks, k, h1', rfl, g2.symm⟩, p3 _ H3 (Same.refl _) d3⟩
      · rw [g1] at p3
        exact ⟨some v', .inl ⟨ks, k, h1', rfl, g2.symm⟩, p3 _ H3 (Same.refl _) (DenM.up g3)⟩
    · exact p3.elim
  | _ => exact p1.elim
end

/-! ### a dict walked -/
section
variable {K : PySem.W.Frag} {av : Addr → Prop} {H H' : Hp}
def NotF (u : HO) : Prop := ∀ o u', u ≠ .frz o u'
theorem notF_lst {xs : List V} : NotF (.lst xs) := fun _ _ z => nomatch z
theorem notF_tup {xs : List V} : NotF (.tup xs) := fun _ _ z => nomatch z
theorem notF_dK {xs : List (Key × V)} : NotF (.dK xs) := fun _ _ z => nomatch z
mutual
theorem Den.impR (f : ∀ a u, NotF u → Rd H a u → Rd H' a u) : ∀ {v : V} {d : D}, Den K av H v d → Den K av H' v d
  | _, _, .none => .none
  | _, _, .bool b => .bool b
  | _, _, .int i => .int i
  | _, _, .str x => .str x
  | _, _, .list h n t => .list (h.imp (f _ _ notF_lst) id) n (Dens.impR f t)
  | _, _, .tuple h t => .tuple (h.imp (f _ _ notF_tup) id) (Dens.impR f t)
  | _, _, .dict h n t => .dict (f _ _ notF_dK h) n (DenKs.impR f t)
theorem Dens.impR (f : ∀ a u, NotF u → Rd H a u → Rd H' a u) : ∀ {v : List V} {d : List D}, Dens K av H v d → Dens K av H' v d
  | _, _, .nil => .nil
  | _, _, .cons a b => .cons (Den.impR f a) (Dens.impR f b)
theorem DenKs.impR (f : ∀ a u, NotF u → Rd H a u → Rd H' a u) : ∀ {v : List (Key × V)} {d : List (D × D)}, DenKs K av H v d → DenKs K av H' v d
  | _, _, .nil => .nil
  | _, _, .cons a b => .cons (Den.impR f a) (DenKs.impR f b)
end
theorem rd_lock {d : Addr} {u : HO} {od : Obj} (h : H d = some u) (mu : NotF u) : ∀ a w, NotF w → Rd H a w → Rd (upd H d (.frz od u)) a w := fun a w hw r => by
  by_cases e : a = d
  · subst e
    rcases r with r | ⟨o, r⟩
    · rw [h] at r; cases r; exact .inr ⟨od, upd_same⟩
    · rw [h] at r; cases r; exact absurd rfl (mu o w)
  · exact r.imp (fun r => by rw [upd_ne e]; exact r) fun ⟨o, r⟩ => ⟨o, by rw [upd_ne e]; exact r⟩
theorem rd_unlock {d : Addr} {u : HO} {od : Obj} (h : H d = some (.frz od u)) : ∀ a w, NotF w → Rd H a w → Rd (upd H d u) a w := fun a w hw r => by
  by_cases e : a = d
  · subst e
    rcases r with r | ⟨o, r⟩
    · rw [h] at r; cases r; exact absurd rfl (hw od u)
    · rw [h] at r; cases r; exact .inl upd_same
  · exact r.imp (fun r => by rw [upd_ne e]; exact r) fun ⟨o, r⟩ => ⟨o, by rw [upd_ne e]; exact r⟩
theorem SlotOk.impR (f : ∀ a u, NotF u → Rd H a u → Rd H' a u) : ∀ {s : Slot} {o : Option V}, (∀ b, isOwn s = true → o = some (.ref b) → H' b = H b) → SlotOk K av H s o → SlotOk K av H' s o
  | .un, _, _, _ => trivial
  | .d _, _, _, ⟨v, h, d⟩ => ⟨v, h, d.impR f⟩
  | .ol _, _, g, ⟨b, ys, h, q, d⟩ => ⟨b, ys, h, by rw [g b rfl h]; exact q, d.impR f⟩
  | .od _, _, g, ⟨b, ys, h, q, d⟩ => ⟨b, ys, h, by rw [g b rfl h]; exact q, d.impR f⟩
  | .on _, _, g, ⟨b, ys, h, q, z, d⟩ => ⟨b, ys, h, by rw [g b rfl h]; exact q, z, d.mp fun _ _ y => y.impR f⟩
  | .rn _, _, _, ⟨b, ys, h, q, z, n, d⟩ => ⟨b, ys, h, f _ _ (fun _ _ z => nomatch z) q, z, n, d.mp fun _ _ y => y.impR f⟩
  | .ob _, _, _, h => h
end
section
variable {P : Pk} {e : Sl} {σ : L2.St} {H : Hp}
theorem Rel.lock (R : Rel P e σ H) {d : Addr} {u : HO} {od : Obj} (h : H d = some u) (mu : NotF u) (no : ¬ Owns e σ d) : ∃ hav : ∀ a, P.Av a → lessOwn e σ (upd H d (.frz od u)) a ≠ none, Rel (P.blk P.Av (lessOwn e σ (upd H d (.frz od u))) hav) e σ (upd H d (.frz od u)) := by
  have hav : ∀ a, P.Av a → lessOwn e σ (upd H d (.frz od u)) a ≠ none := fun a z => by
    unfold lessOwn
    rw [if_neg fun w => R.own_av w z]
    by_cases ed : a = d
    · rw [ed, upd_same]; exact fun z => nomatch z
    · rw [upd_ne ed]; exact R.av_ne (.inl z)
  refine ⟨hav, R.len, fun i s o h1 h2 => ?_, R.inj, fun b o q => ?_, fun b z => ?_⟩
  · refine SlotOk.impR (rd_lock h mu) (fun b hs hb => ?_) (R.slot i s o h1 h2)
    subst hb
    exact upd_ne fun z => no ⟨i, s, h1, hs, by rw [← z]; exact h2⟩
  · have q : lessOwn e σ (upd H d (.frz od u)) b = some o := q
    unfold lessOwn at q
    split at q
    · cases q
    · exact q
  · show lessOwn e σ (upd H d (.frz od u)) b = none
    unfold lessOwn
    rw [if_pos z]
theorem base_lock (R : Rel P e σ H) {d : Addr} {u : HO} {od : Obj} {H' : Hp} (h : H d = some u) (s : Same (lessOwn e σ (upd H d (.frz od u))) H') : Same P.H0 (upd H' d u) := fun b o q => by
  have q1 := R.fr _ _ q
  by_cases ed : b = d
  · subst ed
    rw [upd_same]
    rw [h] at q1
    exact q1
  · rw [upd_ne ed]
    refine s _ _ ?_
    unfold lessOwn
    rw [if_neg (fun z => by rw [R.new b z] at q; cases q), upd_ne ed]
    exact q1
theorem base_frz (R : Rel P e σ H) {d : Addr} {u : HO} {od : Obj} {H' : Hp} (no : ¬ Owns e σ d) (s : Same (lessOwn e σ (upd H d (.frz od u))) H') : H' d = some (.frz od u) := by
  refine s _ _ ?_
  unfold lessOwn
  rw [if_neg no, upd_same]
theorem Rel.unlock (R : Rel P e σ H) {d : Addr} {u : HO} {od : Obj} (h : H d = some u) (no : ¬ Owns e σ d) {hav : ∀ a, P.Av a → lessOwn e σ (upd H d (.frz od u)) a ≠ none} {e' : Sl} {σ' : L2.St} {H' : Hp} (R' : Rel (P.blk P.Av (lessOwn e σ (upd H d (.frz od u))) hav) e' σ' H') :
    H' d = some (.frz od u) ∧ Rel P e' σ' (upd H' d u) := by
  have hd := base_frz R no R'.fr
  refine ⟨hd, R'.len, fun i s o h1 h2 => ?_, R'.inj, base_lock R h R'.fr, fun b z => ?_⟩
  · have so := R'.slot i s o h1 h2
    refine SlotOk.impR (rd_unlock hd) (fun b hs hb => ?_) so
    subst hb
    refine upd_ne fun z => ?_
    subst z
    exact (R'.kinds b ⟨i, s, h1, hs, h2⟩).2 _ _ hd
  · have q : lessOwn e σ (upd H d (.frz od u)) b = none := R'.new b z
    cases q2 : P.H0 b with
    | none => rfl
    | some o =>
      exfalso
      unfold lessOwn at q
      split at q
      · rename_i w; rw [R.new b w] at q2; cases q2
      · by_cases ed : b = d
        · rw [ed, upd_same] at q; cases q
        · rw [upd_ne ed, R.fr _ _ q2] at q; cases q
theorem PostS.lock (R : Rel P e σ H) {d : Addr} {u : HO} {od : Obj} (h : H d = some u) (no : ¬ Owns e σ d) {hav : ∀ a, P.Av a → lessOwn e σ (upd H d (.frz od u)) a ≠ none} {D : Ends} : ∀ {o : Out}, PostS P D o.calm →
    PostS (P.blk P.Av (lessOwn e σ (upd H d (.frz od u))) hav) ⟨fun σ' H' => H' d = some (.frz od u) ∧ D.nx σ' (upd H' d u), fun v H' => H' d = some (.frz od u) ∧ D.rt v (upd H' d u), fun σ' H' => H' d = some (.frz od u) ∧ D.bk σ' (upd H' d u), fun σ' H' => H' d = some (.frz od u) ∧ D.ct σ' (upd H' d u)⟩ o
  | .nx _, p => fun σ' H' r => let ⟨q1, q2⟩ := R.unlock h no r; ⟨q1, p _ _ q2⟩
  | .ret _, p => fun v H' s dd => ⟨base_frz R no s, p v _ (base_lock R h s) (Den.impR (rd_unlock (base_frz R no s)) dd)⟩
  | .bk _, p => fun σ' H' r => let ⟨q1, q2⟩ := R.unlock h no r; ⟨q1, p _ _ q2⟩
  | .ct _, p => fun σ' H' r => let ⟨q1, q2⟩ := R.unlock h no r; ⟨q1, p _ _ q2⟩
  | .ex _ _, p => p.elim
  | .stuck, p => p.elim
theorem PostS.intob (R : Rel P e σ H) {hav : ∀ a, P.Av a → lessOwn e σ H a ≠ none} {D : Ends} : ∀ {o : Out}, PostS P D o.calm → PostS (P.blk P.Av (lessOwn e σ H) hav) D o
  | .nx _, h => fun σ' H' r => h σ' H' ⟨r.len, r.slot, r.inj, (base_same R).trans r.fr, (R.out ⟨r.len, r.slot, r.inj, r.fr, r.new⟩).new⟩
  | .ret _, h => fun v H' s d => h v H' ((base_same R).trans s) d
  | .bk _, h => fun σ' H' r => h σ' H' ⟨r.len, r.slot, r.inj, (base_same R).trans r.fr, (R.out ⟨r.len, r.slot, r.inj, r.fr, r.new⟩).new⟩
  | .ct _, h => fun σ' H' r => h σ' H' ⟨r.len, r.slot, r.inj, (base_same R).trans r.fr, (R.out ⟨r.len, r.slot, r.inj, r.fr, r.new⟩).new⟩
  | .ex _ _, h => h.elim
  | .stuck, h => h
end
section
variable {X : Cx} {P : Pk} {N : List Str} {sc : Scope} {m F : Nat} {Φ : FT} {tg : Expr} {pos : Pos}
theorem keys_get {K : PySem.W.Frag} {av : Addr → Prop} {H : Hp} : ∀ {ks : List (Key × V)} {kvs : List (Rf.D × Rf.D)}, DenKs K av H ks kvs → ∀ {i : Nat} {k : Key} {v : V} {d : Rf.D}, ks[i]? = some (k, v) → (kvs.map (·.1))[i]? = some d → d = keyOf k
  | _, _, .nil, i, k, v, d, h, _ => by simp at h
  | _, _, .cons a b, 0, k, v, d, h, g => by
    simp only [List.getElem?_cons_zero, Option.some.injEq, Prod.mk.injEq] at h
    simp only [List.map_cons, List.getElem?_cons_zero, Option.some.injEq] at g
    rw [← g, h.1]
  | _, _, .cons a b, i + 1, k, v, d, h, g => keys_get b (i := i) (by simpa using h) (by simpa using g)
theorem den_key {K : PySem.W.Frag} {av : Addr → Prop} {H : Hp} (k : Key) : Den K av H (kV k) (keyOf k) := by
  cases k with
  | inl i => exact .int i
  | inr x => exact .str x
theorem it_keys {K : PySem.W.Frag} {av ow : Addr → Prop} {H : Hp} {d : Addr} {od : Obj} {ks : List (Key × V)} {kvs : List (Rf.D × Rf.D)} (h : H d = some (.frz od (.dK ks))) (n : ¬ ow d) (hd : DenKs K av H ks kvs) : ItOk K av ow H (Itk d od ks) (kvs.map (·.1)) := fun i H' kp => by
  have hl := hd.length
  have h' := kp _ _ h n
  refine ⟨fun hi => ⟨h', by rw [List.length_map] at hi; omega⟩, fun hi => ⟨h', by rw [List.length_map] at hi; omega⟩, fun x H'' y dd hdd => ?_⟩
  obtain ⟨rfl, k, v, e1, rfl⟩ := y
  refine ⟨Same.refl _, ?_⟩
  rw [keys_get hd e1 hdd]
  exact den_key k
/-- the loop over a dict that stands still -/
def tFd (P : Pk) (Φ : FT) (F : Nat) (t : Tgt) (i : Nat) (BD : List Stm) : L2.TS := fun D σ H => ∃ (h0 : Hp) (hav : ∀ a, P.Av a → h0 a ≠ none) (e : Sl) (d : Addr) (od : Obj) (ks : List (Key × V)) (kvs : List (Rf.D × Rf.D)),
  Rel (P.blk P.Av h0 hav) e σ H ∧ h0 d = some (.frz od (.dK ks)) ∧ σ[i]? = some (some (V.ref d)) ∧ DenKs P.K (avo P e σ) H ks kvs ∧ PostS (P.blk P.Av h0 hav) D (forL (fun e' => execs Φ F BD e') t (kvs.map (·.1)) e)
theorem Ctx.blk0 (C : Ctx X P N sc) (h0 : Hp) (hav : ∀ a, P.Av a → h0 a ≠ none) : Ctx X (P.blk P.Av h0 hav) N sc := ⟨C.hK, C.hN, C.nd, C.hs, C.calm, C.un, takes0, C.po⟩
theorem fd_in {body : List Stmt} {BD : List Stm} {t : Tgt} {i : Nat} {x : Str} {px : Pos} (C : Ctx X P N sc) (hN : N[i]? = some x) (hv : Vis sc x) (hg : PG X tg (liftG P.K t)) (hb : ∀ (h0 : Hp) (hav : ∀ a, P.Av a → h0 a ≠ none), Ctx X (P.blk P.Av h0 hav) N sc → PSs X body (liftS (P.blk P.Av h0 hav) (execs Φ F BD)))
    (hd : (x == ("__debug__" : Str)) = false := by decide) (hcd : (x == ("__classdict__" : Str)) = false := by decide) (hs : ∀ y, foldedSetIterable (.Name x px) X.env y = pure y := by intro _; rfl) : PS X (.For tg (.Name x px) body [] pos) (tFd P Φ F t i BD) := by
  refine PS.imp (ps_for C.po C.calm (pi_keys (pe_var (i := i) (by rw [C.hN]; exact hN) (by rw [C.hs]; exact hv) hd hcd)) hg (PSs.ofAll (ι := { h0 : Hp // ∀ a, P.Av a → h0 a ≠ none }) fun i => hb i.1 i.2 (C.blk0 i.1 i.2)) hs) fun D σ H ⟨h0, hav, e, d, od, ks, kvs, R, h0d, hσ, dn, p⟩ => ?_
  have hd := R.fr _ _ h0d
  refine ⟨_, hσ, d, od, rfl, .inl ⟨ks, hd, ?_⟩⟩
  have no : ∀ {e2 : Sl} {σ2 : L2.St} {H2 : Hp}, Rel (P.blk P.Av h0 hav) e2 σ2 H2 → ¬ Owns e2 σ2 d := fun R2 z => by
    have := R2.new d z
    have this : h0 d = none := this
    rw [h0d] at this; cases this
  let its := kvs.map (·.1)
  have hl : ks.length = its.length := by rw [List.length_map]; exact dn.length
  have key : ∀ {j : Nat} {k : Key} {v : V} {y : Rf.D}, ks[j]? = some (k, v) → its[j]? = some y → y = keyOf k := fun h1 h2 => keys_get dn h1 h2
  refine ⟨fun i m σ2 H2 => m = its.length - i ∧ i ≤ its.length ∧ ∃ e2, Rel (P.blk P.Av h0 hav) e2 σ2 H2 ∧ PostS (P.blk P.Av h0 hav) D (forL (fun e' => execs Φ F BD e') t (its.drop i) e2), ⟨its.length, by omega, Nat.zero_le _, e, R, by simpa using p⟩, ?_⟩
  rintro i m σ2 H2 ⟨rfl, hi, e2, R2, p2⟩
  have hd2 := R2.fr _ _ h0d
  by_cases hlt : i < its.length
  · refine .inr ⟨⟨hd2, by omega⟩, fun σ' H' => ∃ e3, Rel (P.blk P.Av h0 hav) e3 σ' H' ∧ PostS (P.blk P.Av h0 hav) D (forL (fun e' => execs Φ F BD e') t (its.drop (i + 1)) e3), fun σ' H' z => ⟨its.length - (i + 1), by omega, rfl, by omega, z⟩, fun y H' yy => ?_⟩
    rw [List.drop_eq_getElem_cons hlt] at p2
    simp only [forL] at p2
    cases qb : bindT t its[i] e2 with
    | none => rw [qb] at p2; exact p2.elim
    | some e3 =>
      rw [qb] at p2
      obtain ⟨rfl, k, v, e1, rfl⟩ := yy
      have ek := key e1 (List.getElem?_eq_getElem hlt)
      refine ⟨P.blk P.Av h0 hav, e2, _, e3, rfl, R2, by rw [ek]; exact den_key k, qb, fun σ3 R4 _ => ⟨⟨h0, hav⟩, e3, R4, PostS.turn (fun e' σ' H' R' z => ⟨e', R', z⟩) p2⟩⟩
  · refine .inl ⟨⟨hd2, by omega⟩, ?_⟩
    rw [List.drop_of_length_le (by omega)] at p2
    simp only [forL] at p2
    exact p2 σ2 H2 R2
theorem PS.or {st : Stmt} {t t' : L2.TS} (h : PS X st t) (h' : PS X st t') : PS X st (fun D σ H => t D σ H ∨ t' D σ H) := ⟨fun pins s σ H D I q => q.elim (h.run pins s σ H D I) (h'.run pins s σ H D I)⟩
theorem ss_ford {body : List Stmt} {BD : List Stm} {t : Tgt} {i : Nat} {x : Str} {px : Pos} (C : Ctx X P N sc) (hN : N[i]? = some x) (hv : Vis sc x) (hg : PG X tg (liftG P.K t)) (hb : ∀ (h0 : Hp) (hav : ∀ a, P.Av a → h0 a ≠ none), Ctx X (P.blk P.Av h0 hav) N sc → PSs X body (liftS (P.blk P.Av h0 hav) (execs Φ F BD)))
    (hd : (x == ("__debug__" : Str)) = false := by decide) (hcd : (x == ("__classdict__" : Str)) = false := by decide) (hs : ∀ y, foldedSetIterable (.Name x px) X.env y = pure y := by intro _; rfl) : PS X (.For tg (.Name x px) body [] pos) (liftS P (exec Φ F (.ford t i BD))) := by
  have base := fd_in (F := F) (pos := pos) C hN hv hg hb hd hcd hs
  refine PS.imp (PS.or base (ps_lock base)) fun D σ H ⟨e, R, p⟩ => ?_
  simp only [exec] at p
  cases q : e[i]? with
  | none => rw [q] at p; exact p.elim
  | some s =>
    rw [q] at p
    obtain ⟨o, h1, h2⟩ := R.at q
    cases s with
    | d x =>
      cases x with
      | dict kvs =>
        obtain ⟨v, rfl, dd⟩ := h2
        simp only [] at p
        cases dd with
        | dict rd na dn =>
          rename_i l ks
          have no : ¬ Owns e σ l := fun z => na (.inr z)
          rcases rd with hh | ⟨od, hh⟩
          · refine .inr ⟨l, .dK ks, hh, trivial, fun od => ?_⟩
            obtain ⟨hav, R2⟩ := R.lock (od := od) hh (fun _ _ z => nomatch z) no
            refine ⟨_, hav, e, l, od, ks, kvs, R2, ?_, h1, DenKs.impR (rd_lock hh fun _ _ z => nomatch z) dn, PostS.lock R hh no p⟩
            unfold lessOwn
            rw [if_neg no, upd_same]
          · refine .inl ⟨lessOwn e σ H, lessOwn_av R, e, l, od, ks, kvs, ⟨R.into.len, R.into.slot, R.into.inj, R.into.fr, R.into.new⟩, ?_, h1, dn, PostS.intob R p⟩
            unfold lessOwn
            rw [if_neg no]
            exact hh
      | _ => exact p.elim
    | _ => exact p.elim
end
end
end Rf

set_option Elab.async false
set_option linter.all false
set_option maxRecDepth 100000
set_option maxHeartbeats 1000000
/-! Rf, part N: dicts whose keys are tuples nested to any depth. -/
namespace Rf
noncomputable section
open PySem PySem.Spec PyProof.Rows L2
/-! ### data as keys -/
mutual
def nk : D → NestedKey
  | .int i => .num i
  | .tuple xs => .tup (nks xs)
  | _ => .none
def nks : List D → List NestedKey
  | [] => []
  | x :: r => nk x :: nks r
end
mutual
theorem nk_hash {w : World} : ∀ {x : D}, nkeyI x = true → (nk x).hash w = hashN x
  | .int i, _ => by simp only [nk, NestedKey.hash, hashN]
  | .tuple xs, h => by
    simp only [nk, NestedKey.hash, hashN]
    rw [nks_hash (by simpa [nkeyI] using h)]
  | .none, h => by simp [nkeyI] at h
  | .bool _, h => by simp [nkeyI] at h
  | .str _, h => by simp [nkeyI] at h
  | .list _, h => by simp [nkeyI] at h
  | .dict _, h => by simp [nkeyI] at h
theorem nks_hash {w : World} : ∀ {x : List D}, nkeyIs x = true → NestedKey.hashes w (nks x) = hashNs x
  | [], _ => by simp only [nks, NestedKey.hashes, hashNs]
  | x :: r, h => by
    simp only [nkeyIs, Bool.and_eq_true] at h
    simp only [nks, NestedKey.hashes, hashNs]
    rw [nk_hash h.1, nks_hash h.2]
end
mutual
theorem nk_depth : ∀ {x : D}, (nk x).depth ≤ x.depth
  | .int i => by simp [nk, NestedKey.depth]
  | .tuple xs => by
    simp only [nk, NestedKey.depth, PyData.depth]
    have := nks_depth (x := xs)
    omega
  | .none => by simp [nk, NestedKey.depth]
  | .bool _ => by simp [nk, NestedKey.depth]
  | .str _ => by simp [nk, NestedKey.depth]
  | .list _ => by simp [nk, NestedKey.depth]
  | .dict _ => by simp [nk, NestedKey.depth]
theorem nks_depth : ∀ {x : List D}, NestedKey.depthAll (nks x) ≤ PyData.depthAll x
  | [] => by simp [nks, NestedKey.depthAll]
  | x :: r => by
    simp only [nks, NestedKey.depthAll, PyData.depthAll]
    have a := nk_depth (x := x)
    have b := nks_depth (x := r)
    omega
end
mutual
theorem nk_eqv : ∀ {x y : D}, nkeyI x = true → nkeyI y = true → PyData.eqv x y = true → nk x = nk y
  | .int i, .int j, _, _, e => by
    simp only [PyData.eqv, beq_iff_eq] at e
    rw [e]
  | .tuple xs, .tuple ys, h, g, e => by
    simp only [PyData.eqv] at e
    simp only [nk]
    rw [nks_eqv (by simpa [nkeyI] using h) (by simpa [nkeyI] using g) e]
  | .int _, .tuple _, _, _, e => by simp [PyData.eqv] at e
  | .tuple _, .int _, _, _, e => by simp [PyData.eqv] at e
  | .none, _, h, _, _ => by simp [nkeyI] at h
  | .bool _, _, h, _, _ => by simp [nkeyI] at h
  | .str _, _, h, _, _ => by simp [nkeyI] at h
  | .list _, _, h, _, _ => by simp [nkeyI] at h
  | .dict _, _, h, _, _ => by simp [nkeyI] at h
  | _, .none, _, h, _ => by simp [nkeyI] at h
  | _, .bool _, _, h, _ => by simp [nkeyI] at h
  | _, .str _, _, h, _ => by simp [nkeyI] at h
  | _, .list _, _, h, _ => by simp [nkeyI] at h
  | _, .dict _, _, h, _ => by simp [nkeyI] at h
theorem nks_eqv : ∀ {x y : List D}, nkeyIs x = true → nkeyIs y = true → PyData.eqvAll x y = true → nks x = nks y
  | [], [], _, _, _ => rfl
  | [], _ :: _, _, _, e => by simp [PyData.eqvAll] at e
  | _ :: _, [], _, _, e => by simp [PyData.eqvAll] at e
  | x :: xs, y :: ys, h, g, e => by
    simp only [nkeyIs, Bool.and_eq_true] at h g
    simp only [PyData.eqvAll, Bool.and_eq_true] at e
    simp only [nks]
    rw [nk_eqv h.1 g.1 e.1, nks_eqv h.2 g.2 e.2]
end
mutual
theorem nkI_lst : ∀ {x : D}, nkeyI x = true → noLst x = true
  | .int _, _ => rfl
  | .tuple xs, h => by
    simp only [noLst]
    exact nkIs_lst (by simpa [nkeyI] using h)
  | .none, _ => rfl
  | .bool _, _ => rfl
  | .str _, _ => rfl
  | .list _, h => by simp [nkeyI] at h
  | .dict _, h => by simp [nkeyI] at h
theorem nkIs_lst : ∀ {x : List D}, nkeyIs x = true → noLsts x = true
  | [], _ => rfl
  | x :: r, h => by
    simp only [nkeyIs, Bool.and_eq_true] at h
    simp only [noLsts, nkI_lst h.1, nkIs_lst h.2]
    rfl
end
theorem nkey_tup {x : D} (h : nkey x = true) : ∃ xs, x = .tuple xs ∧ nkeyI x = true ∧ x.depth ≤ 180 := by
  cases x <;> simp only [nkey, Bool.and_eq_true, decide_eq_true_eq, Bool.false_eq_true] at h
  exact ⟨_, rfl, by simp only [nkeyI]; exact h.1, h.2⟩
theorem nkey_lst {x : D} (h : nkey x = true) : noLst x = true := let ⟨_, _, a, _⟩ := nkey_tup h; nkI_lst a
section
variable {K : PySem.W.Frag} {av : Addr → Prop} {H : Hp} {h : Heap} {pr : Program} {w : World}
theorem tup_at {a : Addr} {xs : List V} (hok : HOk pr w H h) (hk : K.In h) (q : SqT K H a xs) : ∃ (its : List Value) (o : Obj) (n : Nat), Vals xs its ∧ h.get? a = some o ∧ o.cls = .type "tuple" ∧ o.data = .seq its.toArray n := by
  rcases q with q | ⟨o, its, n, e, c, d, _, r⟩
  · obtain ⟨_, its, r, o, e, c, n, d⟩ := (show ObjOk pr w H h a (.tup xs) from q.ok hok)
    exact ⟨its, o, n, r, e, c, d⟩
  · exact ⟨its.toList, o, n, r, hk _ _ e, c, by simp [d]⟩
mutual
theorem nested_of (hok : HOk pr w H h) (hk : K.In h) : ∀ {d : D} {v : V} {u : Value}, Den K av H v d → nkeyI d = true → RelV v u → NestedIs h (nk d) u
  | .int i, _, _, .int _, _, r => by
    obtain ⟨t, rfl⟩ := (show ∃ t, _ = Value.int i t from r)
    exact .int i t
  | .tuple xs, _, _, .tuple hs t, n, r => by
    obtain rfl := (show _ = Value.ref _ from r)
    obtain ⟨its, o, m, rv, e, ec, ed⟩ := tup_at hok hk hs
    exact .tup e ec ed (by simpa using nesteds_of hok hk t (by simpa [nkeyI] using n) rv)
  | .none, _, _, _, n, _ => by simp [nkeyI] at n
  | .bool _, _, _, _, n, _ => by simp [nkeyI] at n
  | .str _, _, _, _, n, _ => by simp [nkeyI] at n
  | .list _, _, _, _, n, _ => by simp [nkeyI] at n
  | .dict _, _, _, _, n, _ => by simp [nkeyI] at n
theorem nesteds_of (hok : HOk pr w H h) (hk : K.In h) : ∀ {d : List D} {v : List V} {u : List Value}, Dens K av H v d → nkeyIs d = true → Vals v u → NestedAll h (nks d) u
  | [], _, _, .nil, _, r => by cases r; exact .nil
  | x :: xs, _, _, .cons a b, n, r => by
    simp only [nkeyIs, Bool.and_eq_true] at n
    cases r with
    | cons r1 r2 => exact .cons (nested_of hok hk a n.1 r1) (nesteds_of hok hk b n.2 r2)
end
end
/-! ### entries -/
theorem paired_filt {α β : Type} {R : α → β → Prop} {p : α → Bool} {q : β → Bool} (h : ∀ a b, R a b → p a = q b) : ∀ {l : List α} {m : List β}, Paired R l m → Paired R (l.filter p) (m.filter q)
  | _, _, .nil => .nil
  | _, _, .cons (a := a) (b := b) r t => by
    rw [List.filter_cons, List.filter_cons, h a b r]
    split
    · exact .cons r (paired_filt h t)
    · exact paired_filt h t
theorem paired_map {α β : Type} {R : α → β → Prop} {f : α → α} {g : β → β} (h : ∀ a b, R a b → R (f a) (g b)) : ∀ {l : List α} {m : List β}, Paired R l m → Paired R (l.map f) (m.map g)
  | _, _, .nil => .nil
  | _, _, .cons r t => .cons (h _ _ r) (paired_map h t)
abbrev EntR (p : NE) (e : DictEntry) : Prop := e.hash = p.1 ∧ e.key = .ref p.2.1 ∧ ∃ t, e.val = .int p.2.2 t
def valE (es : List NE) (h : Int) : Option Int := ((es.filter fun p => p.1 == h).head?).map (·.2.2)
def putE (es : List NE) (h : Int) (b : Addr) (v : Int) : List NE := if (es.filter fun p => p.1 == h) = [] then es ++ [(h, b, v)] else es.map fun p => if p.1 == h then (p.1, p.2.1, v) else p
theorem putE_len {es : List NE} {h : Int} {b : Addr} {v : Int} : (putE es h b v).length ≤ es.length + 1 := by
  unfold putE
  split
  · simp
  · simp
theorem ent_filt {es : List NE} {l : List DictEntry} (h : Int) (r : Paired EntR es l) : Paired EntR (es.filter fun p => p.1 == h) (l.filter fun e => e.hash == h) :=
  paired_filt (fun a b q => by rw [q.1]) r
theorem ent_val {es : List NE} {arr : Array DictEntry} {h : Int} (r : Paired EntR es arr.toList) : (valE es h = none ∧ valN arr h = none) ∨ ∃ v t, valE es h = some v ∧ valN arr h = some (.int v t) := by
  have q := ent_filt h r
  unfold valE valN
  generalize es.filter (fun p => p.1 == h) = a at *
  generalize arr.toList.filter (fun e => e.hash == h) = b at *
  cases q with
  | nil => exact .inl ⟨rfl, rfl⟩
  | cons r1 _ =>
    obtain ⟨_, _, t, e⟩ := r1
    exact .inr ⟨_, t, rfl, by simp [e]⟩
theorem ent_set {es : List NE} {l : List DictEntry} {h : Int} {b : Addr} {v : Int} {t : Tok} (r : Paired EntR es l) : Paired EntR (putE es h b v) (setN l h b (.int v t)) := by
  have q := ent_filt h r
  unfold putE setN
  by_cases e : (es.filter fun p => p.1 == h) = []
  · have e2 : (l.filter fun e => e.hash == h) = [] := by
      rw [e] at q
      cases hl : l.filter (fun e => e.hash == h) with
      | nil => rfl
      | cons _ _ => rw [hl] at q; cases q
    rw [if_pos e, if_pos e2]
    exact Paired.snoc r ⟨rfl, rfl, t, rfl⟩
  · have e2 : ¬ (l.filter fun e => e.hash == h) = [] := fun z => by
      rw [z] at q
      cases hl : es.filter (fun p => p.1 == h) with
      | nil => exact e hl
      | cons _ _ => rw [hl] at q; cases q
    rw [if_neg e, if_neg e2]
    refine paired_map (fun a b q => ?_) r
    by_cases z : (a.1 == h) = true
    · have z2 : (b.hash == h) = true := by rw [q.1]; exact z
      rw [if_pos z, if_pos z2]
      exact ⟨q.1, q.2.1, t, rfl⟩
    · have z2 : ¬ (b.hash == h) = true := by rw [q.1]; exact z
      rw [if_neg z, if_neg z2]
      exact q
section
variable {K : PySem.W.Frag} {av : Addr → Prop} {H : Hp}
theorem DenNs.filt (h : Int) : ∀ {es : List NE} {ds : List (D × D)}, DenNs K av H es ds → DenNs K av H (es.filter fun p => p.1 == h) (ds.filter fun p => hashN p.1 == h)
  | _, _, .nil => .nil
  | _, _, .cons (a := a) (k := k) (i := i) d n t => by
    rw [List.filter_cons, List.filter_cons]
    by_cases e : (hashN k == h) = true
    · rw [if_pos e, if_pos e]; exact .cons d n (DenNs.filt h t)
    · rw [if_neg e, if_neg e]; exact DenNs.filt h t
theorem DenNs.append : ∀ {a c : List NE} {b d : List (D × D)}, DenNs K av H a b → DenNs K av H c d → DenNs K av H (a ++ c) (b ++ d)
  | _, _, _, _, .nil, h => h
  | _, _, _, _, .cons a n b, h => .cons a n (b.append h)
theorem DenNs.repl (h v : Int) : ∀ {es : List NE} {ds : List (D × D)}, DenNs K av H es ds → DenNs K av H (es.map fun p => if p.1 == h then (p.1, p.2.1, v) else p) (ds.map fun p => if hashN p.1 == h then (p.1, .int v) else p)
  | _, _, .nil => .nil
  | _, _, .cons (a := a) (k := k) (i := i) d n t => by
    rw [List.map_cons, List.map_cons]
    by_cases e : (hashN k == h) = true
    · simp only [e, if_true]; exact .cons d n (DenNs.repl h v t)
    · simp only [e, if_false]; exact .cons d n (DenNs.repl h v t)
theorem DenNs.put {es : List NE} {ds : List (D × D)} {k : D} {b : Addr} {v : Int} (r : DenNs K av H es ds) (hk : Den K av H (.ref b) k) (n : nkey k = true) : DenNs K av H (putE es (hashN k) b v) (nput ds k (.int v)) := by
  have q := r.filt (hashN k)
  unfold putE nput withH
  by_cases e : (es.filter fun p => p.1 == hashN k) = []
  · have e2 : (ds.filter fun p => hashN p.1 == hashN k) = [] := by
      rw [e] at q
      cases hl : ds.filter (fun p => hashN p.1 == hashN k) with
      | nil => rfl
      | cons _ _ => rw [hl] at q; cases q
    rw [if_pos e, if_pos e2]
    exact r.append (.cons hk n .nil)
  · have e2 : ¬ (ds.filter fun p => hashN p.1 == hashN k) = [] := fun z => by
      rw [z] at q
      cases hl : es.filter (fun p => p.1 == hashN k) with
      | nil => exact e hl
      | cons _ _ => rw [hl] at q; cases q
    rw [if_neg e, if_neg e2]
    exact r.repl (hashN k) v
/-- a key and the dict's entries -/
structure NKey (K : PySem.W.Frag) (av : Addr → Prop) (H : Hp) (es : List NE) (y : V) (k : D) (ds : List (D × D)) : Prop where
  den : Den K av H y k
  nk : nkey k = true
  dn : DenNs K av H es ds
  few : withH ds k = [] ∨ ∃ p, withH ds k = [p] ∧ PyData.eqv p.1 k = true
  len : es.length ≤ sizeLine
theorem nlook_few {ds : List (D × D)} {k : D} {o : Option D} (h : nlook ds k = some o) : nkey k = true ∧ ((withH ds k = [] ∧ o = none) ∨ ∃ p, withH ds k = [p] ∧ PyData.eqv p.1 k = true ∧ o = some p.2) := by
  unfold nlook at h
  by_cases n : nkey k = true
  · rw [if_pos n] at h
    refine ⟨n, ?_⟩
    generalize withH ds k = l at *
    match l, h with
    | [], h => exact .inl ⟨rfl, by simpa using h.symm⟩
    | [p], h =>
      simp only [] at h
      split at h
      · rename_i e; exact .inr ⟨p, rfl, e, by simpa using h.symm⟩
      · cases h
    | _ :: _ :: _, h => cases h
  · rw [if_neg n] at h; cases h
/-- what nlook tells, told of the entries -/
theorem nlook_val {es : List NE} {ds : List (D × D)} {k : D} {o : Option D} (r : DenNs K av H es ds) (h : nlook ds k = some o) : (valE es (hashN k) = none ∧ o = none) ∨ ∃ v, valE es (hashN k) = some v ∧ o = some (.int v) := by
  have q := r.filt (hashN k)
  unfold valE
  obtain ⟨_, g⟩ := nlook_few h
  clear h
  rcases g with ⟨g, rfl⟩ | ⟨p, g, _, rfl⟩
  · have g : ds.filter (fun p => hashN p.1 == hashN k) = [] := g
    rw [g] at q
    cases hl : es.filter (fun p => p.1 == hashN k) with
    | nil => exact .inl ⟨rfl, rfl⟩
    | cons _ _ => rw [hl] at q; cases q
  · have g : ds.filter (fun p => hashN p.1 == hashN k) = [p] := g
    rw [g] at q
    cases hl : es.filter (fun p => p.1 == hashN k) with
    | nil => rw [hl] at q; cases q
    | cons x r =>
      rw [hl] at q
      cases q with
      | cons _ _ _ => exact .inr ⟨_, rfl, rfl⟩
theorem NKey.of {es : List NE} {ds : List (D × D)} {k : D} {o : Option D} {y : V} (r : DenNs K av H es ds) (hy : Den K av H y k) (hl : es.length ≤ sizeLine) (h : nlook ds k = some o) : NKey K av H es y k ds := by
  obtain ⟨n, h⟩ := nlook_few h
  exact ⟨hy, n, r, h.imp (·.1) fun ⟨p, a, b, _⟩ => ⟨p, a, b⟩, hl⟩
end
end
end Rf

set_option Elab.async false
set_option linter.all false
set_option maxRecDepth 100000
set_option maxHeartbeats 1000000
/-! Rf, part O: the operations of such dicts. -/
namespace Rf
noncomputable section
open PySem PySem.Spec PyProof.Rows L2
section
variable {X : Cx} {pins : List (Addr × Obj)} {σ : L2.St} {H : Hp} {s : Shared} {a : Addr} {es : List NE} {y : V} {u : Value} {k : D} {ds : List (D × D)} {av : Addr → Prop} {A : Around} {E : Value → Shared → Prop}
theorem ents_ok (I : Inv X pins σ H s) : ∀ {es : List NE} {ds : List (D × D)} {l : List DictEntry}, DenNs X.K av H es ds → Paired EntR es l → ∀ e ∈ l, EntOk X.w s.heap e
  | _, _, _, .nil, r, e, he => by cases r; cases he
  | _, _, _, .cons (a := b) (k := kd) d n t, r, e, he => by
    cases r with
    | cons r1 r2 =>
      rcases List.mem_cons.mp he with rfl | he
      · obtain ⟨_, _, n2, _⟩ := nkey_tup n
        exact ⟨nk kd, b, r1.2.1, nested_of I.hok I.kIn d n2 rfl, by rw [nk_hash n2]; exact r1.1⟩
      · exact ents_ok I t r2 e he
structure KF (X : Cx) (s : Shared) (a : Addr) (es : List NE) (k : D) (b : Addr) (o : Obj) (arr : Array DictEntry) (ep : Nat) : Prop where
  get : s.heap.get? a = some o
  ex : o.ExactDict
  dat : o.data = .dict arr ep
  nos : (a == sysModules) = false
  rel : Paired EntR es arr.toList
  ents : ∀ e ∈ arr, EntOk X.w s.heap e
  key : NestedIs s.heap (nk k) (.ref b)
  hash : (nk k).hash X.w = hashN k
  dep : (nk k).depth ≤ 180
  few : FewAt X.w s.heap arr (nk k)
  size : arr.size ≤ sizeLine
theorem dn_at {P : Program} {w : World} {h : Heap} (hok : HOk P w H h) (hd : Rd H a (DN a es)) : DNP a es h := (show ObjOk P w H h a (DN a es) from hd.ok hok).1
theorem key_facts (I : Inv X pins σ H s) (hd : Rd H a (DN a es)) (g : NKey X.K av H es y k ds) (ry : RelV y u) : ∃ b o arr ep, u = .ref b ∧ y = .ref b ∧ KF X s a es k b o arr ep := by
  obtain ⟨nos, o, arr, ep, e1, e2, e3, r⟩ := dn_at I.hok hd
  obtain ⟨xs, rfl, n2, dp⟩ := nkey_tup g.nk
  have gd := g.den
  obtain ⟨b, rfl⟩ : ∃ b, y = .ref b := by cases gd; exact ⟨_, rfl⟩
  have hh : (nk (.tuple xs)).hash X.w = hashN (.tuple xs) := nk_hash n2
  refine ⟨b, o, arr, ep, ry, rfl, e1, e2, e3, nos, r, fun e he => ents_ok I g.dn r e (Array.mem_toList_iff.mpr he), nested_of I.hok I.kIn g.den n2 rfl, hh, Nat.le_trans nk_depth dp, ?_, ?_⟩
  · unfold FewAt
    rw [hh]
    have q1 := g.dn.filt (hashN (.tuple xs))
    have q2 := ent_filt (hashN (.tuple xs)) r
    rcases g.few with z | ⟨p, z, ev⟩
    · have z : ds.filter (fun p => hashN p.1 == hashN (.tuple xs)) = [] := z
      rw [z] at q1
      generalize es.filter (fun p => p.1 == hashN (.tuple xs)) = l1 at *
      generalize arr.toList.filter (fun e => e.hash == hashN (.tuple xs)) = l2 at *
      cases q1
      cases q2
      exact .inl rfl
    · have z : ds.filter (fun p => hashN p.1 == hashN (.tuple xs)) = [p] := z
      rw [z] at q1
      generalize es.filter (fun p => p.1 == hashN (.tuple xs)) = l1 at *
      generalize arr.toList.filter (fun e => e.hash == hashN (.tuple xs)) = l2 at *
      cases q1 with
      | cons d n t =>
        cases t
        cases q2 with
        | cons r1 r2 =>
          cases r2
          obtain ⟨_, _, n3, _⟩ := nkey_tup n
          refine .inr ⟨_, _, rfl, r1.2.1, ?_⟩
          have := nested_of I.hok I.kIn d n3 rfl
          rw [nk_eqv n3 n2 ev] at this
          exact this
  · have l1 := Paired.length r
    have l2 := g.len
    rw [← Array.length_toList (xs := arr)]
    omega
theorem kf_type {b : Addr} {o : Obj} {arr : Array DictEntry} {ep : Nat} (f : KF X s a es k b o arr ep) : s.TypeIs (.ref a) "dict" := ⟨o, f.get, f.ex.1⟩
/-- d[k], there -/
theorem dn_getItem {v : Int} {Q : Value → Shared → Prop} (hu : A.units + 190 < cLine) (I : Inv X pins σ H s) (hd : Rd H a (DN a es)) (g : NKey X.K av H es y k ds) (ry : RelV y u) (hv : valE es (hashN k) = some v) (q : ∀ t s', Inv X pins σ H s' → Q (.int v t) s') :
    wpAny (model X.prog X.w) A (getItem (.ref a) u) Q E s := by
  obtain ⟨b, o, arr, ep, rfl, rfl, f⟩ := key_facts I hd g ry
  have dp := f.dep
  rcases ent_val (h := hashN k) f.rel with ⟨z, _⟩ | ⟨v', t, z, vn⟩
  · rw [hv] at z; cases z
  rw [hv] at z
  cases z
  unfold getItem
  try with_reducible refine wpAny_holding ?_
  refine wpAny_bind (wpAny_sequenceKey (kf_type f) (by decide) ?_)
  refine wpAny_bind (wpAny_callSpecial?_slot (name := Str.ofString "__getitem__") (kf_type f) slot_dict_getitem (wpAny_call_entry slot_dict_getitem (kf_type f) entry_dict_getitem ?_ (args_dict_getitem _ _)))
  change wpAny _ _ (dictGet a (.ref b) >>= _) _ _ s
  refine wpAny_bind (dictGet_few f.get f.dat f.ents f.key (by simp only [Around.in1_units]; omega) f.few ?_)
  rw [f.hash, vn]
  exact wpAny_pure ⟨_, rfl, wpAny_pure (q t _ (I.tok _))⟩
theorem meets_nget (b : Addr) (dflt : Value) : MeetsIn X.prog X.w (Builtin.«dict.get» ⟨[.ref a, .ref b, dflt], []⟩) (fun A R s => A.units + 190 < cLine ∧ ∃ es k o arr ep, KF X s a es k b o arr ep ∧
      ∀ t, R (.ok (.ret ((valN arr (hashN k)).getD dflt))) { s with toks := t }) :=
  .of_wp fun A R s ⟨hu, es, k, o, arr, ep, f, q⟩ => by
    have dp := f.dep
    change wpAny _ _ (dictGet a (.ref b) >>= _) _ _ s
    refine wpAny_bind (dictGet_few f.get f.dat f.ents f.key (by simp only [Around.in1_units]; omega) f.few ?_)
    rw [f.hash]
    cases z : valN arr (hashN k) with
    | some v =>
      rw [z] at q
      exact wpAny_pure ⟨v, rfl, q _⟩
    | none =>
      rw [z] at q
      change wpAny _ _ (Builtin.Dict.missed a (.ref b) >>= _) _ _ _
      exact wpAny_bind (wpAny_missed_other f.nos (wpAny_pure ⟨dflt, rfl, q _⟩))
/-- d.get(k, i) -/
theorem dn_get2 {i : Int} {r : Value} {Q : Value → Shared → Prop} (hu : A.units + 190 < cLine) (I : Inv X pins σ H s) (hd : Rd H a (DN a es)) (g : NKey X.K av H es y k ds) (ry : RelV y u) (rr : RelV (.int i) r) (q : ∀ t s', Inv X pins σ H s' → Q (.int ((valE es (hashN k)).getD i) t) s') :
    wpAny (model X.prog X.w) A (call (.builtin "dict.get") [.ref a, u, r]) Q E s := by
  obtain ⟨b, o, arr, ep, rfl, rfl, f⟩ := key_facts I hd g ry
  obtain ⟨t0, rfl⟩ := (show ∃ t, r = Value.int i t from rr)
  refine call_meetsIn PySem.F.slot_dict_get (kf_type f) PySem.F.entry_dict_get (PySem.F.args_dict_get_3 _ _ _) (meets_nget (X := X) b (.int i t0)) ⟨hu, es, k, o, arr, ep, f, fun t => ?_⟩
  rcases ent_val (h := hashN k) f.rel with ⟨z1, z2⟩ | ⟨v, t1, z1, z2⟩
  · rw [z2]
    have := q t0 _ (I.tok t)
    rw [z1] at this
    exact this
  · rw [z2]
    have := q t1 _ (I.tok t)
    rw [z1] at this
    exact this
/-- d[k] = i -/
theorem dn_setItem {i : Int} {r : Value} {Q : Unit → Shared → Prop} (hu : A.units + 190 < cLine) (I : Inv X pins σ H s) (hd : H a = some (DN a es)) (g : NKey X.K av H es y k ds) (ry : RelV y u) (rr : RelV (.int i) r)
    (q : ∀ b s', y = .ref b → Inv X pins σ (L2.upd H a (DN a (putE es (hashN k) b i))) s' → Q () s') : wpAny (model X.prog X.w) A (setItem (.ref a) u r) Q E s := by
  obtain ⟨b, o, arr, ep, rfl, rfl, f⟩ := key_facts I (.inl hd) g ry
  have dp := f.dep
  obtain ⟨t0, rfl⟩ := (show ∃ t, r = Value.int i t from rr)
  unfold setItem
  try with_reducible refine wpAny_holding ?_
  refine wpAny_bind (wpAny_sequenceKey (kf_type f) (by decide) ?_)
  refine wpAny_bind (wpAny_callSpecial?_slot (name := Str.ofString "__setitem__") (kf_type f) slot_dict_setitem (wpAny_call_entry slot_dict_setitem (kf_type f) entry_dict_setitem ?_ (args_dict_setitem _ _ _)))
  change wpAny _ _ (Builtin.Dict.notOrdered "__setitem__" ⟨[.ref a, .ref b, .int i t0], []⟩ >>= _) _ _ s
  refine wpAny_bind (wpAny_notOrdered_dict (kf_type f) ?_)
  change wpAny _ _ (dictSet a (.ref b) (.int i t0) >>= _) _ _ s
  refine wpAny_bind (dictSet_few f.get f.ex f.dat f.ents f.key (by simp only [Around.in1_units]; omega) f.few f.size fun h' o' es' ep' g1 g2 g3 g4 g5 => ?_)
  refine wpAny_pure ⟨.none, rfl, wpAny_pure (q b _ rfl (d_write I (by rw [hd]; exact True.intro) g5 ⟨_, g1⟩ ?_))⟩
  refine ⟨⟨f.nos, o', es', ep', g1, g2, g3, ?_⟩, ⟨_, g1⟩, fun h1 h2 z kp => ?_⟩
  · rw [g4, f.hash]
    exact ent_set f.rel
  · obtain ⟨n, o, arr, ep, e, r⟩ := z
    exact ⟨n, o, arr, ep, kp _ e, r⟩
theorem dn_empty (h : Heap) (hb : sysModules < h.objs.size) {P : Program} {w : World} : ObjOk P w H (h.push { cls := .type "dict", data := .dict #[] }) h.objs.size (DN h.objs.size []) := by
  refine ⟨⟨beq_eq_false_iff_ne.mpr (Ne.symm (Nat.ne_of_lt hb)), _, #[], 0, Heap.get?_push_size _ rfl, ⟨rfl, rfl, rfl⟩, rfl, .nil⟩, ⟨_, Heap.get?_push_size _ rfl⟩, fun h1 h2 z kp => ?_⟩
  obtain ⟨n, o, arr, ep, e, r⟩ := z
  exact ⟨n, o, arr, ep, kp _ e, r⟩
end
/-! ### readings -/
def tNNew : L2.TE := fun _ H Q => ∀ p, H p = none → Q (.ref p) (L2.upd H p (DN p []))
theorem pe_nnew {X : Cx} {pos : Pos} : PE X (.Dict [] [] pos) tNNew := ⟨fun pins s σ H Q I h =>
  wpAny_Dict_empty ⟨.ref s.heap.objs.size, _, I.laid (a := s.heap.objs.size) (o := DN s.heap.objs.size []) (t' := s.toks) (fun _ _ q => Heap.get?_push_of_some _ q) (Nat.le_refl _) (dn_empty s.heap I.big), rfl, h _ (I.hok.fresh (Nat.le_refl _))⟩⟩
def tNGet (K : PySem.W.Frag) (td ty : L2.TE) : L2.TE := fun σ H Q => td σ H fun x H1 => ty σ H1 fun y H2 => ∃ a es k ds av v, x = .ref a ∧ Rd H2 a (DN a es) ∧ NKey K av H2 es y k ds ∧ valE es (hashN k) = some v ∧ Q (.int v) H2
def tNGetD (K : PySem.W.Frag) (td ty tz : L2.TE) : L2.TE := fun σ H Q => td σ H fun x H1 => ∃ a es, x = .ref a ∧ Rd H1 a (DN a es) ∧ ty σ H1 fun y H2 => tz σ H2 fun z H3 => ∃ k ds av i, z = .int i ∧ Rd H3 a (DN a es) ∧ NKey K av H3 es y k ds ∧ Q (.int ((valE es (hashN k)).getD i)) H3
def sNPut (K : PySem.W.Frag) (td ty tv : L2.TE) : L2.TS := fun D σ H => tv σ H fun v H1 => td σ H1 fun x H2 => ty σ H2 fun y H3 => ∃ a es k ds av i, x = .ref a ∧ v = .int i ∧ H3 a = some (DN a es) ∧ NKey K av H3 es y k ds ∧
  ∀ b, y = .ref b → D.nx σ (L2.upd H3 a (DN a (putE es (hashN k) b i)))
section
variable {X : Cx} {o i e f value : Expr} {pos pos' apos : Pos} {td ty tz tv : L2.TE}
theorem pe_nget (hu : X.A.units + 190 < cLine) (ho : PE X o td) (hi : PE X i ty) (hs : NoSl i) : PE X (.Subscript o i pos) (tNGet X.K td ty) := by
  refine ⟨fun pins s σ H Q I h => ?_⟩
  refine subD_of PySem.F.slot_dict_getitem.lookup hs (thn (ho.run pins s σ H _ I h) fun u s1 ⟨x, H1, I1, rx, q1⟩ => thn (hi.run pins s1 σ H1 _ I1 q1) fun iv s2 ⟨y, H2, I2, ry, a, es, k, ds, av, v, ex, hd, g, hv, q2⟩ => ?_)
  subst ex
  obtain rfl := (show u = Value.ref a from rx)
  obtain ⟨b, o, arr, ep, _, _, kf⟩ := key_facts I2 hd g ry
  exact ⟨kf_type kf, dn_getItem hu I2 hd g ry hv fun t s3 I3 => ⟨.int v, H2, I3, ⟨t, rfl⟩, q2⟩⟩
theorem pe_ngetd (hu : X.A.units + 190 < cLine) (ho : PE X o td) (he : PE X e ty) (hf : PE X f tz) (m : M2 X o "get" apos e f pos) : PE X (.Call (.Attribute o "get" apos) [e, f] [] pos) (tNGetD X.K td ty tz) := by
  refine ⟨fun pins s σ H Q I h => ?_⟩
  refine wpAny_Call_method m.base m.few m.line PySem.F.plainAttrs_dict PySem.F.slot_dict_get PySem.F.type_dict_get (thn (ho.run pins s σ H _ I h) fun u s1 ⟨x, H1, I1, rx, a, es, ex, hd, q1⟩ => ?_)
  subst ex
  obtain rfl := (show u = Value.ref a from rx)
  obtain ⟨_, ob, arr, ep, e1, e2, e3, _⟩ := dn_at I1.hok hd
  refine ⟨⟨ob, e1, e2.1⟩, fun b z => ?_, ?_⟩
  · cases z
    exact ⟨ob, e1, e2.2.1⟩
  rw [m.trees]
  refine Calls.callWith_builtin rfl (Calls.evalArgs_plain (Calls.spliced_cons (thn (he.run pins s1 σ H1 _ I1 q1) fun ev s2 ⟨y, H2, I2, ry, q2⟩ => Calls.spliced_cons (thn (hf.run pins s2 σ H2 _ I2 q2) fun fv s3 ⟨z, H3, I3, rz, k, ds, av, i, ez, hd3, g, q3⟩ => Calls.spliced_nil ?_))))
  subst ez
  exact dn_get2 hu I3 hd3 g ry rz fun t s4 I4 => ⟨.int _, H3, I4, ⟨t, rfl⟩, q3⟩
theorem ps_nput (hu : X.A.units + 190 < cLine) (ho : PE X o td) (hi : PE X i ty) (hv : PE X value tv) (hs : swapsWith value (some (.Subscript o i pos')) pos.line X.env = pure false) :
    PS X (.Assign [.Subscript o i pos'] value pos) (sNPut X.K td ty tv) := by
  refine ⟨fun pins s σ H D I h => ?_⟩
  refine wpAny_Assign_Subscript (thn (hv.run pins s σ H _ I h) fun r s1 ⟨v, H1, I1, rv, q1⟩ => thn (ho.run pins s1 σ H1 _ I1 q1) fun u s2 ⟨x, H2, I2, rx, q2⟩ => thn (hi.run pins s2 σ H2 _ I2 q2) fun iv s3 ⟨y, H3, I3, ry, a, es, k, ds, av, i, ex, ev, hd, g, q3⟩ => ?_) hs
  subst ex ev
  obtain rfl := (show u = Value.ref a from rx)
  exact dn_setItem hu I3 hd g ry rv fun b s4 eb I4 => ⟨σ, _, I4, q3 b eb⟩
/-- list(d): the keys, in order -/
theorem call_list_dn (hc : X.calm = true) : CallR X (.type "list") (fun xs H Q => ∃ d es, xs = [V.ref d] ∧ Rd H d (DN d es) ∧ es.length ≤ sizeLine ∧ ∀ p, H p = none → Q (.ref p) (L2.upd H p (.lst (es.map fun e => V.ref e.2.1)))) := by
  intro pins s σ H xs us Q I r h
  obtain ⟨d, es, rfl, hd, hl, q⟩ := h
  obtain ⟨u, rfl, rx⟩ := r.one
  cases rx
  obtain ⟨nos, o, arr, ep, e1, e2, e3, rel⟩ := dn_at I.hok hd
  have lz : arr.size = es.length := by rw [← Array.length_toList, Paired.length rel]
  refine PySem.W.kdl_call (kdl_raw nos e2 e3) (I.ok.hd hc) e1 (by omega) fun h' tk acc c kp ep2 it => ?_
  have eq : acc.toList = (es.map fun e => e.2.1).map Value.ref := by
    have hlen : acc.toList.length = es.length := by rw [Array.length_toList, it.1, lz]
    apply List.ext_getElem?
    intro j
    rw [List.getElem?_map, List.getElem?_map]
    by_cases hj : j < es.length
    · rw [List.getElem?_eq_getElem hj]
      obtain ⟨v, hv⟩ : ∃ v, acc.toList[j]? = some v := ⟨_, List.getElem?_eq_getElem (by omega)⟩
      rw [hv]
      obtain ⟨en, hen, rfl⟩ := it.2 j v (by rw [← Array.getElem?_toList]; exact hv)
      have : ∀ {l : List NE} {m : List DictEntry} {j : Nat} {p : NE} {e : DictEntry}, Paired EntR l m → l[j]? = some p → m[j]? = some e → EntR p e := by
        intro l m j p e r
        induction r generalizing j with
        | nil => intro z; simp at z
        | cons r1 _ ih =>
          intro z1 z2
          cases j with
          | zero => simp at z1 z2; subst z1; subst z2; exact r1
          | succ j => exact ih (by simpa using z1) (by simpa using z2)
      have := this rel (List.getElem?_eq_getElem hj) (by rw [Array.getElem?_toList]; exact hen)
      rw [this.2.1]
      rfl
    · rw [List.getElem?_eq_none (by omega), List.getElem?_eq_none (by omega)]
      rfl
  have rv : Vals (es.map fun e => V.ref e.2.1) acc.toList := by
    rw [eq]
    have := vals_refs (es.map fun e => e.2.1)
    rw [List.map_map] at this
    exact this
  refine ⟨.ref s.heap.objs.size, _, I.laid (t' := tk) (o := .lst (es.map fun e => V.ref e.2.1)) kp (Nat.le_refl _) ?_, rfl, q _ (I.hok.fresh (Nat.le_refl _))⟩
  exact ⟨by rw [List.length_map]; exact hl, acc.toList, c, rv, by rw [Array.toArray_toList]; exact ep2⟩
end
end
end Rf

set_option Elab.async false
set_option linter.all false
set_option maxRecDepth 100000
set_option maxHeartbeats 1000000
/-! Rf, part R: statements and expressions over such dicts; insert; a def that takes such a dict; a try whose clause returns an expression. -/
namespace Rf
noncomputable section
open PySem PySem.Spec PyProof.Rows L2
section
variable {X : Cx} {P : Pk} {N : List Str} {sc : Scope} {m F : Nat} {Φ : FT} {A B E : Exp} {ES : List Exp} {a b c tg : Expr} {es : List Expr} {pos : Pos}
theorem Ctx.u190 (C : Ctx X P N sc) : X.A.units + 190 < cLine := C.un
theorem denM_key {e : Sl} {σ : L2.St} {H : Hp} {v : V} {k : D} (h : DenM P e σ m H v k) (n : nkey k = true) : Den P.K (fun _ => False) H v k := h.weak.noLst (nkey_lst n)
theorem DenNs.flat {K : PySem.W.Frag} {av av' : Addr → Prop} {H : Hp} : ∀ {ns : List NE} {kvs : List (D × D)}, DenNs K av H ns kvs → DenNs K av' H ns kvs
  | _, _, .nil => .nil
  | _, _, .cons d n t => .cons (d.noLst (nkey_lst n)) n (DenNs.flat t)
/-- a slot with such a dict -/
theorem slot_n {e : Sl} {σ : L2.St} {H : Hp} {i : Nat} {kvs : List (D × D)} (R : Rel P e σ H) (q : e[i]? = some (.on kvs) ∨ e[i]? = some (.rn kvs)) :
    ∃ l ns, σ[i]? = some (some (.ref l)) ∧ Rd H l (DN l ns) ∧ ns.length ≤ sizeLine ∧ DenNs P.K (fun _ => False) H ns kvs := by
  rcases q with q | q
  · obtain ⟨o, h1, l, ns, rfl, h2, h3, h4⟩ := R.at q
    exact ⟨l, ns, h1, .inl h2, h3, h4.flat⟩
  · obtain ⟨o, h1, l, ns, rfl, h2, h3, _, h4⟩ := R.at q
    exact ⟨l, ns, h1, h2, h3, h4.flat⟩
theorem nget_of {e : Sl} {i : Nat} {kvs : List (D × D)} (q : e[i]? = some (.on kvs) ∨ e[i]? = some (.rn kvs)) : ev Φ (.nget i B) e = (ev Φ B e).bind fun y => (Res.of (nlook kvs y)).bind .of := by
  simp only [ev]
  rcases q with q | q <;> rw [q]
theorem ngetd_of {e : Sl} {i : Nat} {kvs : List (D × D)} (q : e[i]? = some (.on kvs) ∨ e[i]? = some (.rn kvs)) : ev Φ (.ngetd i A B) e = (ev Φ A e).bind fun y => (ev Φ B e).bind fun x => if isIntD x then (Res.of (nlook kvs y)).bind fun o => .ok (o.getD x) else .stuck := by
  simp only [ev]
  rcases q with q | q <;> rw [q]
theorem nkeys_of {e : Sl} {i : Nat} {kvs : List (D × D)} (q : e[i]? = some (.on kvs) ∨ e[i]? = some (.rn kvs)) : ev Φ (.nkeys i) e = .ok (.list (kvs.map (·.1))) := by
  simp only [ev]
  rcases q with q | q <;> rw [q]
theorem slot_case {e : Sl} {i : Nat} {f : List (D × D) → Res D} {r : Res D} (hr : r = match e[i]? with
    | some (.on kvs) => f kvs
    | some (.rn kvs) => f kvs
    | _ => .stuck) : r = .stuck ∨ ∃ kvs, (e[i]? = some (.on kvs) ∨ e[i]? = some (.rn kvs)) := by
  cases q : e[i]? with
  | none => rw [q] at hr; exact .inl hr
  | some s =>
    cases s with
    | on kvs => exact .inr ⟨kvs, .inl rfl⟩
    | rn kvs => exact .inr ⟨kvs, .inr rfl⟩
    | _ => rw [q] at hr; exact .inl hr
theorem nget_case {e : Sl} {i : Nat} : ev Φ (.nget i B) e = .stuck ∨ ∃ kvs, (e[i]? = some (.on kvs) ∨ e[i]? = some (.rn kvs)) := slot_case (f := fun kvs => (ev Φ B e).bind fun y => (Res.of (nlook kvs y)).bind .of) (by simp only [ev] <;> rfl)
theorem ngetd_case {e : Sl} {i : Nat} : ev Φ (.ngetd i A B) e = .stuck ∨ ∃ kvs, (e[i]? = some (.on kvs) ∨ e[i]? = some (.rn kvs)) := slot_case (f := fun kvs => (ev Φ A e).bind fun y => (ev Φ B e).bind fun x => if isIntD x then (Res.of (nlook kvs y)).bind fun o => .ok (o.getD x) else .stuck) (by simp only [ev] <;> rfl)
theorem nkeys_case {e : Sl} {i : Nat} : ev Φ (.nkeys i) e = .stuck ∨ ∃ kvs, (e[i]? = some (.on kvs) ∨ e[i]? = some (.rn kvs)) := slot_case (f := fun kvs => .ok (.list (kvs.map (·.1)))) (by simp only [ev] <;> rfl)
theorem se_nget (C : Ctx X P N sc) {i : Nat} {x : Str} {px : Pos} (hi : N[i]? = some x) (hv : Vis sc x) (hb : PE X b (lift P 0 (ev Φ B))) (hp : NoSl b) (hd : (x == ("__debug__" : Str)) = false := by decide) (hcd : (x == ("__classdict__" : Str)) = false := by decide) :
    PE X (.Subscript (.Name x px) b pos) (lift P m (ev Φ (.nget i B))) := by
  refine PE.imp (pe_nget C.u190 (pe_var (i := i) (by rw [C.hN]; exact hi) (by rw [C.hs]; exact hv) hd hcd) hb hp) fun σ H Q ⟨e, R, p⟩ => ?_
  rcases nget_case (Φ := Φ) (B := B) (e := e) (i := i) with z | ⟨kvs, q⟩
  · rw [z] at p; exact p.elim
  obtain ⟨l, ns, h1, hd, hl, dn⟩ := slot_n R q
  rw [nget_of q] at p
  refine ⟨_, h1, e, R, ?_⟩
  refine Post.weaken (bindZ (α := D) (m := 0) gdPost R p) fun v H1 ⟨y, _, s1, R1, d1, p1⟩ => ?_
  cases z : nlook kvs y with
  | none => rw [z] at p1; exact p1.elim
  | some o =>
    rw [z] at p1
    obtain ⟨n, _⟩ := nlook_few z
    have dn1 := dn.same s1
    have g : NKey P.K _ H1 ns v y kvs := NKey.of dn1 (denM_key d1 n) hl z
    rcases nlook_val dn1 z with ⟨_, rfl⟩ | ⟨i, zv, rfl⟩
    · exact p1.elim
    · exact ⟨l, ns, y, kvs, _, i, rfl, same_rd s1 hd, by rw [C.hK]; exact g, zv, p1 _ H1 (Same.refl _) (DenM.up (.int i))⟩
theorem se_ngetd (C : Ctx X P N sc) {i : Nat} {x : Str} {px apos : Pos} (hi : N[i]? = some x) (hv : Vis sc x) (hb : PE X b (lift P 0 (ev Φ B))) (hc : PE X c (lift P 0 (ev Φ E))) (m2 : M2 X (.Name x px) "get" apos b c pos := by exact ⟨rfl, rfl, rfl, rfl⟩)
    (hd : (x == ("__debug__" : Str)) = false := by decide) (hcd : (x == ("__classdict__" : Str)) = false := by decide) :
    PE X (.Call (.Attribute (.Name x px) "get" apos) [b, c] [] pos) (lift P m (ev Φ (.ngetd i B E))) := by
  refine PE.imp (pe_ngetd C.u190 (pe_var (i := i) (by rw [C.hN]; exact hi) (by rw [C.hs]; exact hv) hd hcd) hb hc m2) fun σ H Q ⟨e, R, p⟩ => ?_
  rcases ngetd_case (Φ := Φ) (A := B) (B := E) (e := e) (i := i) with z | ⟨kvs, q⟩
  · rw [z] at p; exact p.elim
  obtain ⟨l, ns, h1, hd, hl, dn⟩ := slot_n R q
  rw [ngetd_of q] at p
  refine ⟨_, h1, l, ns, rfl, hd, e, R, ?_⟩
  refine Post.weaken (bindZ (α := D) (m := 0) gdPost R p) fun v H1 ⟨y, _, s1, R1, d1, p1⟩ => ⟨e, R1, ?_⟩
  refine Post.weaken (bindZ (α := D) (m := 0) gdPost R1 p1) fun w H2 ⟨z, _, s2, R2, d2, p2⟩ => ?_
  cases z with
  | int k =>
    obtain rfl : w = .int k := by cases d2; rfl
    simp only [isIntD, if_true] at p2
    cases z : nlook kvs y with
    | none => rw [z] at p2; exact p2.elim
    | some o =>
      rw [z] at p2
      obtain ⟨n, _⟩ := nlook_few z
      have dn2 := (dn.same s1).same s2
      have g : NKey P.K _ H2 ns v y kvs := NKey.of dn2 ((denM_key d1 n).same s2) hl z
      refine ⟨y, kvs, _, k, rfl, same_rd s2 (same_rd s1 hd), by rw [C.hK]; exact g, ?_⟩
      rcases nlook_val dn2 z with ⟨zv, rfl⟩ | ⟨i, zv, rfl⟩
      · rw [zv]; exact p2 _ H2 (Same.refl _) (DenM.up (.int _))
      · rw [zv]; exact p2 _ H2 (Same.refl _) (DenM.up (.int _))
  | _ => exact p2.elim
theorem dens_keys {K : PySem.W.Frag} {H : Hp} {av : Addr → Prop} : ∀ {ns : List NE} {kvs : List (D × D)}, DenNs K (fun _ => False) H ns kvs → Dens K av H (ns.map fun e => V.ref e.2.1) (kvs.map (·.1))
  | _, _, .nil => .nil
  | _, _, .cons d n t => .cons (d.noLst (nkey_lst n)) (dens_keys t)
theorem se_nkeys (C : Ctx X P N sc) {i : Nat} {x f : Str} {px pf : Pos} (hi : N[i]? = some x) (hv : Vis sc x) (hg : X.env.kindOf f = some .globalImplicit) (hm : X.mg f = none) (hbf : bootBuiltins f = some (.type "list")) (hn : f ≠ ("__name__" : Str) := by decide)
    (hdb : (f == ("__debug__" : Str)) = false := by decide) (he : starEach [.Name x px] X.env = (false, eval (.Name x px) X.env) :: starEach [] X.env := by rfl) (hpl : (backTo pos (starEach [] X.env)).any (·.1) = false := by rfl)
    (hd : (x == ("__debug__" : Str)) = false := by decide) (hcd : (x == ("__classdict__" : Str)) = false := by decide) :
    PE X (.Call (.Name f pf) [.Name x px] [] pos) (liftN P m (ev Φ (.nkeys i))) := by
  refine PE.imp (pe_callTy (call_list_dn C.calm) hg hm hbf (pa_cons (pe_var (i := i) (by rw [C.hN]; exact hi) (by rw [C.hs]; exact hv) hd hcd) pa_nil he) hn hdb he hpl) fun σ H Q ⟨e, R, p⟩ => ?_
  rcases nkeys_case (Φ := Φ) (e := e) (i := i) with z | ⟨kvs, q⟩
  · rw [z] at p; exact p.elim
  obtain ⟨l, ns, h1, hd, hl, dn⟩ := slot_n R q
  rw [nkeys_of q] at p
  exact ⟨_, h1, l, ns, rfl, hd, hl, fun p' hp => p _ _ (same_upd hp) (new_lst hp (dens_keys dn))⟩
theorem ss_nowe (C : Ctx X P N sc) {i : Nat} {x : Str} {px dp : Pos} (hi : N[i]? = some x) (hx : Loc sc x) (hs : swapsWith (.Dict [] [] dp) (some (.Name x px)) pos.line X.env = pure false := by rfl) (hf : X.fn x = true ∨ X.env.scope.names.lookup x = some .local := by first | exact .inl rfl | exact .inr rfl) :
    PS X (.Assign [.Name x px] (.Dict [] [] dp) pos) (liftS P (exec Φ F (.nowe i))) := by
  refine PS.imp (ps_set (by rw [C.hN]; exact C.nd) (by rw [C.hN]; exact hi) (by rw [C.hs]; exact hx) pe_nnew hs hf) fun D σ H ⟨e, R, p⟩ => ?_
  simp only [exec] at p
  split at p
  · exact fun p' hp => p _ _ (R.setNew hp (same_upd hp) ⟨p', [], rfl, upd_same, Nat.zero_le _, .nil⟩)
  · exact p.elim
theorem ss_nset (C : Ctx X P N sc) {i : Nat} {x : Str} {px tp : Pos} (hi : N[i]? = some x) (hv : Vis sc x) (he : PE X a (lift P 2 (ev Φ A))) (hk : PE X b (lift P 0 (ev Φ B))) (hd : (x == ("__debug__" : Str)) = false := by decide) (hcd : (x == ("__classdict__" : Str)) = false := by decide)
    (hs : swapsWith a (some (.Subscript (.Name x px) b tp)) pos.line X.env = pure false := by rfl) :
    PS X (.Assign [.Subscript (.Name x px) b tp] a pos) (liftS P (exec Φ F (.nset i B A))) := by
  refine PS.imp (ps_nput C.u190 (pe_var (i := i) (by rw [C.hN]; exact hi) (by rw [C.hs]; exact hv) hd hcd) hk he hs) fun D σ H ⟨e, R, p⟩ => ⟨e, R, ?_⟩
  simp only [exec] at p
  cases q : e[i]? with
  | none => rw [q] at p; exact p.elim
  | some s =>
    rw [q] at p
    cases s with
    | on xs =>
      obtain ⟨o1, h1, l, ns, rfl, hl, hz, dd⟩ := R.at q
      refine Post.weaken (bindS (m := 2) R p) fun w H1 ⟨y, _, s, R1, hy, p⟩ => ⟨_, h1, e, R1, ?_⟩
      refine Post.weaken (bindS (m := 0) R1 p) fun k H2 ⟨k', _, s2, R2, hk', p⟩ => ?_
      split at p
      · rename_i hc
        simp only [Bool.and_eq_true, decide_eq_true_eq] at hc
        obtain ⟨⟨c1, c2⟩, c3⟩ := hc
        obtain ⟨o, z⟩ := Option.isSome_iff_exists.mp c2
        obtain ⟨n, _⟩ := nlook_few z
        cases y with
        | int j =>
          obtain rfl : w = .int j := by cases hy; rfl
          have dd2 := (dd.same s).same s2
          have kd := denM_key hk' n
          have ow : Owns e σ l := ⟨i, _, q, rfl, h1⟩
          refine ⟨l, ns, k', xs, (fun _ => False), j, rfl, rfl, s2 _ _ (s _ _ hl), ?_, fun b eb => ?_⟩
          · rw [C.hK]
            exact NKey.of dd2.flat kd hz z
          · subst eb
            refine p σ _ (R2.updOwn q rfl rfl h1 ⟨l, _, rfl, upd_same, ?_, ?_⟩)
            · have := putE_len (es := ns) (h := hashN k') (b := b) (v := j)
              have c4 := dd.length
              have := line_lt c3
              omega
            · exact (dd2.put (kd.noLst (nkey_lst n)) n).mp fun _ _ y => y.upd (R2.kinds _ ow).1 (R2.kinds _ ow).2 (.inr ow)
        | _ => simp [isIntD] at c1
      · exact p.elim
    | _ => exact p.elim
/-- l.insert(i, x) -/
theorem ss_ins (C : Ctx X P N sc) {i : Nat} {x : Str} {px apos cpos : Pos} (hi : N[i]? = some x) (hv : Vis sc x) (hk : PE X b (lift P 2 (ev Φ B))) (he : PE X a (lift P 2 (ev Φ A)))
    (h1 : (((backTo cpos (starEach [b, a] X.env)).all fun x => !x.1) && (backToKw cpos (keywordEach [] X.env)).all (fun x => x.1.isSome) && decide (([b, a] : List Expr).length + ([] : List Keyword).length + (if ([] : List Keyword).isEmpty then 0 else 1) < 30)) = true := by rfl)
    (h2 : (apos.endLine == cpos.line) = true := by rfl) (h3 : starEach [b, a] X.env = (false, eval b X.env) :: starEach [a] X.env := by rfl) (h3b : starEach [a] X.env = (false, eval a X.env) :: starEach [] X.env := by rfl) (h4 : ((backTo cpos (starEach [a] X.env)).any fun x => x.1) = false := by rfl) (hd : (x == ("__debug__" : Str)) = false := by decide) (hcd : (x == ("__classdict__" : Str)) = false := by decide)
    (hb : attributeBase (.Name x px) "insert" X.env (eval (.Name x px) X.env) = eval (.Name x px) X.env := by rfl) (hs : swapsWith (.Call (.Attribute (.Name x px) "insert" apos) [b, a] [] cpos) none pos.line X.env = pure false := by rfl) :
    PS X (.Expr (.Call (.Attribute (.Name x px) "insert" apos) [b, a] [] cpos) pos) (liftS P (exec Φ F (.ins i B A))) := by
  refine PS.imp (ps_expr (pe_bm PySem.F.plainAttrs_list PySem.F.slot_list_insert PySem.F.type_list_insert mt_insert (pe_var (i := i) (by rw [C.hN]; exact hi) (by rw [C.hs]; exact hv) hd hcd) (pa_cons hk (pa_cons he pa_nil h3b) h3) hb h1 h2 h3 h4) hs) fun D σ H ⟨e, R, p⟩ => ?_
  simp only [exec] at p
  cases q : e[i]? with
  | none => rw [q] at p; exact p.elim
  | some s =>
    rw [q] at p
    cases s with
    | ol xs =>
      obtain ⟨o1, h1, l, us, rfl, hl, dd⟩ := R.at q
      refine ⟨_, h1, .inl ⟨rfl, us, .inl (.inl hl)⟩, e, R, ?_⟩
      refine Post.weaken (bindS (m := 2) R p) fun j H1 ⟨k, _, s1, R1, hj, p⟩ => ⟨e, R1, ?_⟩
      refine Post.weaken (bindS (m := 2) R1 p) fun w H2 ⟨y, _, s2, R2, hy, p⟩ => ?_
      cases k with
      | int k =>
        obtain rfl : j = .int k := by cases hj; rfl
        simp only [] at p
        split at p
        · rename_i hz
          have ow : Owns e σ l := ⟨i, _, q, rfl, h1⟩
          have dd2 := (dd.same s1).same s2
          refine ⟨l, us, k, w, rfl, rfl, s2 _ _ (s1 _ _ hl), by rw [dd.length]; exact line_lt hz.2.2, hz.1, hz.2.1, p σ _ (R2.updOwn q rfl rfl h1 ⟨l, _, rfl, upd_same, ?_⟩)⟩
          exact (((dd2.take k.toNat).append (.cons hy.d2 .nil)).append (dd2.drop k.toNat)).upd (R2.kinds _ ow).1 (R2.kinds _ ow).2 (.inr ow)
        · exact p.elim
      | _ => exact p.elim
    | _ => exact p.elim
/-! ### a def that takes such a dict as its third argument -/
/-- its promise -/
def spN (K : PySem.W.Frag) (ca : Nat → Addr) (φ : FT) (f : Nat) : L2.Sp := fun vs H Q E => ∃ (av : Addr → Prop) (v1 v2 v4 : V) (l : Addr) (ns : List NE) (d1 d2 d4 : D) (kvs : List (D × D)), vs = [v1, v2, .ref l, v4] ∧ (∀ a, av a → H a ≠ none) ∧
  Den K av H v1 d1 ∧ Den K av H v2 d2 ∧ Den K av H v4 d4 ∧ H l = some (DN l ns) ∧ ns.length ≤ sizeLine ∧ ¬ av l ∧ DenNs K (fun _ => False) H ns kvs ∧ match φ f [d1, d2, pairsN kvs, d4] with
  | .ok d => ∀ v H', Same H H' → Den K av H' v d → Q v H'
  | .ex c => ∀ H', Same H H' → E (.ref (ca c)) none H'
  | .stuck => False
structure FnN (pr : Program) (w : World) (K : PySem.W.Frag) (mg : Str → Option Value) (base : Heap) (A : Around) (ca : Nat → Addr) (Φ : FT) (x : Str) (f : Nat) : Prop where
  ex : ∃ (k : Nat) (fA : Addr) (fd : FuncData) (ps : List Str), FnOk pr w K mg base (L2.CX pr w) k fA fd ps (spN K ca Φ f) ∧ Room k A ∧ mg x = some (.ref fA) ∧ PySem.W.keepIn K (.ref fA) = true ∧ Binds K fd ps []
structure GoodN (pr : Program) (w : World) (K : PySem.W.Frag) (mg : Str → Option Value) (base : Heap) (ca : Nat → Addr) (T : List Fdef) (F : Nat) (x : Str) (i n : Nat) : Prop where
  ex : ∃ f fd ps, FnOk pr w K mg base (L2.CX pr w) n f fd ps (spN K ca (phi T F n) i) ∧ mg x = some (.ref f) ∧ PySem.W.keepIn K (.ref f) = true ∧ Binds K fd ps []
section
variable {pr : Program} {w : World} {K : PySem.W.Frag} {mg : Str → Option Value} {base : Heap} {ca : Nat → Addr}
theorem GoodN.fn {T : List Fdef} {F : Nat} {x : Str} {i n : Nat} {A : Around} (g : GoodN pr w K mg base ca T F x i n) (hr : Room n A) : FnN pr w K mg base A ca (phi T F n) x i := by
  obtain ⟨f, fd, ps, ok, h1, h2, h3⟩ := g.ex
  exact ⟨n, f, fd, ps, ok, hr, h1, h2, h3⟩
theorem goodN_zero {T : List Fdef} {F : Nat} {x q : Str} {i : Nat} {st : Stmt} {ps : List Str} (t : Txt K mg x q st ps) : GoodN pr w K mg base ca T F x i 0 := by
  obtain ⟨f, fd, fn, h1, h2⟩ := t.ex
  refine ⟨f, fd, ps, ⟨fun vs H Q E h => ?_, fun A outer s H args us vs Q E hr he hb hv h => ?_⟩, h1, fn.kp, h2⟩ <;> (obtain ⟨av, v1, v2, v4, l, ns, d1, d2, d4, kvs, _, _, _, _, _, _, _, _, _, h⟩ := h; exact h.elim)
theorem unpairs_of : ∀ {kvs : List (D × D)}, unpairs (kvs.map fun p => .tuple [p.1, p.2]) = some kvs
  | [] => rfl
  | (a, b) :: r => by
    rw [List.map_cons]
    simp only [unpairs, unpairs_of (kvs := r), Option.map_some]
theorem rel_startN {P : Pk} {N : List Str} {v1 v2 v4 : V} {l : Addr} {ns : List NE} {d1 d2 d4 : D} {kvs : List (D × D)} (h1 : Den P.K P.Av P.H0 v1 d1) (h2 : Den P.K P.Av P.H0 v2 d2) (h4 : Den P.K P.Av P.H0 v4 d4) (h3 : P.H0 l = some (DN l ns)) (hz : ns.length ≤ sizeLine) (nav : ¬ P.Av l) (hd : DenNs P.K (fun _ => False) P.H0 ns kvs) (hl : 4 ≤ N.length) :
    Rel P ([.d d1, .d d2, .rn kvs, .d d4] ++ List.replicate (N.length - 4) .un) (L2.start N [v1, v2, .ref l, v4]) P.H0 := by
  have noOwn : ∀ (i : Nat) (s : Slot), ([Slot.d d1, .d d2, .rn kvs, .d d4] ++ List.replicate (N.length - 4) Slot.un)[i]? = some s → isOwn s = false := fun i s h => by
    match i, h with
    | 0, h => cases h; rfl
    | 1, h => cases h; rfl
    | 2, h => cases h; rfl
    | 3, h => cases h; rfl
    | i + 4, h =>
      rw [List.getElem?_append_right (by simp), List.getElem?_replicate] at h
      split at h
      · simp only [Option.some.injEq] at h; subst h; rfl
      · cases h
  have no : ∀ a, ¬ Owns ([Slot.d d1, .d d2, .rn kvs, .d d4] ++ List.replicate (N.length - 4) Slot.un) (L2.start N [v1, v2, .ref l, v4]) a := fun a ⟨i, s, h1, h2, _⟩ => by
    rw [noOwn i s h1] at h2; cases h2
  have up : ∀ {v : V} {d : D}, Den P.K P.Av P.H0 v d → Den P.K (avo P ([Slot.d d1, .d d2, .rn kvs, .d d4] ++ List.replicate (N.length - 4) Slot.un) (L2.start N [v1, v2, .ref l, v4])) P.H0 v d := fun h => h.imp (fun _ _ z => z) fun a _ z => z.elim id fun z => absurd z (no a)
  refine ⟨?_, fun i s o g1 g2 => ?_, fun i j s t a h1 h2 => ?_, Same.refl _, fun a h => absurd h (no a)⟩
  · unfold L2.start
    simp only [List.length_append, List.length_map, List.length_replicate, List.length_cons, List.length_nil] <;> omega
  · match i, g1, g2 with
    | 0, g1, g2 => cases g1; rw [start_get (v := v1) rfl] at g2; cases g2; exact ⟨v1, rfl, up h1⟩
    | 1, g1, g2 => cases g1; rw [start_get (v := v2) rfl] at g2; cases g2; exact ⟨v2, rfl, up h2⟩
    | 2, g1, g2 =>
      cases g1
      rw [start_get (v := .ref l) rfl] at g2
      cases g2
      exact ⟨l, ns, rfl, .inl h3, hz, fun z => z.elim nav fun z => absurd z (no l), hd.flat⟩
    | 3, g1, g2 => cases g1; rw [start_get (v := v4) rfl] at g2; cases g2; exact ⟨v4, rfl, up h4⟩
    | i + 4, g1, g2 =>
      rw [List.getElem?_append_right (by simp), List.getElem?_replicate] at g1
      split at g1
      · simp only [Option.some.injEq] at g1; subst g1; trivial
      · cases g1
  · rw [noOwn i s h1] at h2; cases h2
theorem entryN {P : Pk} {N : List Str} {v1 v2 v4 : V} {l : Addr} {ns : List NE} {d1 d2 d4 : D} {kvs : List (D × D)} {body : List Stm} {Φ : FT} {F : Nat} {Q : VK} {E : XK} (h1 : Den P.K P.Av P.H0 v1 d1) (h2 : Den P.K P.Av P.H0 v2 d2) (h4 : Den P.K P.Av P.H0 v4 d4) (h3 : P.H0 l = some (DN l ns)) (hz : ns.length ≤ sizeLine) (nav : ¬ P.Av l) (hd : DenNs P.K (fun _ => False) P.H0 ns kvs) (hl : 4 ≤ N.length) (hW : P.W = fun cls d _ H => E cls d H)
    (h : match Fdef.run ⟨4, N.length, .objn 2 :: body⟩ Φ F [d1, d2, pairsN kvs, d4] with
      | .ok d => ∀ v H', Same P.H0 H' → Den P.K P.Av H' v d → Q v H'
      | .ex c => ∀ H', Same P.H0 H' → E (.ref (P.ca c)) none H'
      | .stuck => False) : liftS P (execs Φ F body) { nx := fun _ H' => Q .non H', rt := Q } (L2.start N [v1, v2, .ref l, v4]) P.H0 := by
  unfold Fdef.run at h
  rw [if_pos (show [d1, d2, pairsN kvs, d4].length = 4 from rfl)] at h
  refine ⟨_, rel_startN h1 h2 h4 h3 hz nav hd hl, ?_⟩
  have e0 : execs Φ F (.objn 2 :: body) ([d1, d2, pairsN kvs, d4].map Slot.d ++ List.replicate (N.length - 4) .un) = execs Φ F body ([.d d1, .d d2, .rn kvs, .d d4] ++ List.replicate (N.length - 4) .un) := by
    simp only [execs, exec, List.map_cons, List.map_nil, List.cons_append, List.getElem?_cons_succ, List.getElem?_cons_zero, pairsN, unpairs_of, Out.seq_nx, List.set_cons_succ, List.set_cons_zero, List.nil_append]
  simp only [e0] at h
  cases q : execs Φ F body ([.d d1, .d d2, .rn kvs, .d d4] ++ List.replicate (N.length - 4) .un) with
  | ret x => rw [q] at h; exact h
  | nx e' => rw [q] at h; exact fun σ' H' R => h .non H' R.fr .none
  | ex c e' => rw [q] at h; exact fun σ' H' R => by rw [hW]; exact h H' R.fr
  | bk e' => rw [q] at h; exact h.elim
  | ct e' => rw [q] at h; exact h.elim
  | stuck => rw [q] at h; exact h.elim
theorem goodN_succ {T : List Fdef} {F : Nat} {x q : Str} {i n ns : Nat} {st : Stmt} {N ps : List Str} {body : List Stm} (t : Txt K mg x q st ps) (S : FnScope N ps (defScope st)) (hT : T[i]? = some ⟨4, ns, .objn 2 :: body⟩) (hnp : ps.length = 4) (hns : ns = N.length) (hle : ps.length ≤ N.length)
    (hb : Walk pr w K mg base ca N q st n (execs (phi T F n) F body)) : GoodN pr w K mg base ca T F x i (n + 1) := by
  obtain ⟨f, fd, F0, h1, h2⟩ := t.ex
  subst hns
  refine ⟨f, fd, ps, F0.okX S (fun vs H Q E h => ?_) (fun cdv A outer s H vs Q E hr h => ?_), h1, F0.kp, h2⟩
  · obtain ⟨av, v1, v2, v4, l, es, d1, d2, d4, kvs, rfl, _⟩ := h
    rw [hnp]; rfl
  · obtain ⟨av, v1, v2, v4, l, es, d1, d2, d4, kvs, rfl, hav, g1, g2, g4, g3, gz, gn, gd, h⟩ := h
    simp only [phi, hT] at h
    refine ⟨_, hb (A.deeper (envOfC q (defScope st) s.heap.objs.size f cdv)) s H _ f cdv outer _ H av hav (fun cls d _ H => E cls d H) hr ⟨rfl, rfl, S.nd, rfl, rfl, ?_, takes_of rfl rfl rfl rfl, passes_of rfl⟩, entryN g1 g2 g4 g3 gz gn gd (by omega) rfl h⟩
    have := hr.un
    show (A.deeper (envOfC q (defScope st) s.heap.objs.size f cdv)).units + 190 < cLine
    omega
end
/-- its call -/
theorem se_calln (C : Ctx X P N sc) {x y : Str} {i G : Nat} {p py : Pos} (fn : FnN X.prog X.w X.K X.mg X.base X.A P.ca Φ x G) (hg : X.env.kindOf x = some .globalImplicit) (hi : N[i]? = some y) (hv : Vis sc y) (ha : PE X a (lift P 0 (ev Φ A))) (hb : PE X b (lift P 0 (ev Φ B))) (hc : PE X c (lift P 0 (ev Φ E))) (hdb : (x == ("__debug__" : Str)) = false := by decide)
    (hd : (y == ("__debug__" : Str)) = false := by decide) (hcd : (y == ("__classdict__" : Str)) = false := by decide)
    (he : starEach [a, b, .Name y py, c] X.env = (false, eval a X.env) :: starEach [b, .Name y py, c] X.env := by rfl) (he2 : starEach [b, .Name y py, c] X.env = (false, eval b X.env) :: starEach [.Name y py, c] X.env := by rfl) (he3 : starEach [.Name y py, c] X.env = (false, eval (.Name y py) X.env) :: starEach [c] X.env := by rfl) (he4 : starEach [c] X.env = (false, eval c X.env) :: starEach [] X.env := by rfl)
    (hpl : (backTo pos (starEach [b, .Name y py, c] X.env)).any (·.1) = false := by rfl) :
    PE X (.Call (.Name x p) [a, b, .Name y py, c] [] pos) (lift P m (ev Φ (.calln G [A, B] i [E]))) := by
  obtain ⟨k, fA, fd, ps, ok, hr, hm, hk, hb0⟩ := fn.ex
  refine PE.imp (pe_callS ok hr hg hm hk hb0 (fun σ => passAt C.tk σ) (pa_cons ha (pa_cons hb (pa_cons (pe_var (i := i) (by rw [C.hN]; exact hi) (by rw [C.hs]; exact hv) hd hcd) (pa_cons hc pa_nil he4) he3) he2) he) hdb he hpl) fun σ H Q ⟨e, R, p⟩ => ?_
  simp only [ev] at p
  cases q : e[i]? with
  | none => rw [q] at p; exact p.elim
  | some s =>
    rw [q] at p
    cases s with
    | on kvs =>
      simp only [evs] at p
      obtain ⟨o1, h1, l, ns, rfl, hl, hz, dd⟩ := R.at q
      have ow : Owns e σ l := ⟨i, _, q, rfl, h1⟩
      have bass : ∀ {α β γ : Type} {r : Res α} {f : α → Res β} {g : β → Res γ}, (r.bind f).bind g = r.bind fun x => (f x).bind g := fun {α β γ r f g} => by cases r <;> rfl
      simp only [bass, Res.bind_ok] at p
      refine ⟨e, R, ?_⟩
      refine Post.weaken (bindZ (α := D) (m := 0) gdPost R p) fun v1 H1 ⟨x1, _, s1, R1, k1, p1⟩ => ⟨e, R1, ?_⟩
      refine Post.weaken (bindZ (α := D) (m := 0) gdPost R1 p1) fun v2 H2 ⟨x2, _, s2, R2, k2, p2⟩ => ⟨_, h1, e, R2, ?_⟩
      refine Post.weaken (bindZ (α := D) (m := 0) gdPost R2 p2) fun v4 H3 ⟨x4, _, s3, R3, k4, p3⟩ => ?_
      refine ⟨P.Av, v1, v2, v4, l, ns, x1, x2, x4, kvs, rfl, fun a z => R3.av_ne (.inl z), ?_, ?_, ?_, s3 _ _ (s2 _ _ (s1 _ _ hl)), hz, R.own_av ow, ?_, ?_⟩
      · rw [C.hK]; exact ((k1.same s2).same s3).weak
      · rw [C.hK]; exact (k2.same s3).weak
      · rw [C.hK]; exact k4.weak
      · rw [C.hK]; exact (((dd.same s1).same s2).same s3).flat
      · have ea : [x1, x2] ++ pairsN kvs :: [x4] = [x1, x2, pairsN kvs, x4] := rfl
        simp only [ea] at p3
        cases q2 : Φ G [x1, x2, pairsN kvs, x4] with
        | ok d =>
          rw [q2] at p3
          simp only [Res.bind_ok] at p3
          cases q3 : noLst d with
          | true =>
            rw [q3, if_pos rfl] at p3
            exact fun v H' s hd => p3 v H' s (DenM.up (by rw [C.hK] at hd; exact hd.noLst q3))
          | false => rw [q3, if_neg (by decide)] at p3; exact p3.elim
        | ex c => rw [q2] at p3; exact p3
        | stuck => rw [q2] at p3; exact p3.elim
    | _ => exact p.elim
end
end
end Rf

set_option Elab.async false
set_option linter.all false
set_option maxRecDepth 100000
set_option maxHeartbeats 1000000
/-! Rf, part S: try with a clause `except X as n: return E`, E over slots and isinstance(n, ..). -/
namespace Rf
noncomputable section
open PySem PySem.Spec PyProof.Rows L2
section
variable {X : Cx} {P : Pk} {N : List Str} {sc : Scope} {F : Nat} {Φ : FT} {A B : Exp} {a b : Expr} {pos : Pos} {i : Nat} {w : Addr} {pn : List (Addr × Obj)} {f g : Sl → Res D}
/-- a reading in the clause: the error stands in slot i -/
def tL (P : Pk) (i : Nat) (w : Addr) (f : Sl → Res D) : L2.TE := fun σ H Q => σ[i]? = some (some (.ref w)) ∧ ∃ e, Rel P e σ H ∧ ∃ d, f e = .ok d ∧ ∀ v H', Same H H' → DenM P e σ 0 H' v d → Q v H'
def tXL (P : Pk) (i : Nat) (w : Addr) (f : Sl → Res D) : L2.TS := fun D σ H => σ[i]? = some (some (.ref w)) ∧ ∃ e, Rel P e σ H ∧ ∃ d, f e = .ok d ∧ ∀ v H', Same P.H0 H' → Den P.K P.Av H' v d → D.rt v H'
theorem xl_k {k : Bool} (h : PE X a (tK i w (.bl k))) : PE X a (tL P i w (ev Φ (.con (.bool k)))) := PE.imp h fun σ H Q ⟨h1, e, R, d, q, p⟩ => ⟨h1, fun H' s => by
  simp only [ev, Res.ok.injEq] at q
  subst q
  exact p _ H' s (DenM.up (.bool k))⟩
theorem xl_con {i0 : Bool} {j : Nat} : PE X (.Constant (.bool i0) j pos) (tL P i w (ev Φ (.con (.bool i0)))) := xl_k (xk_c pe_bl)
theorem xl_var (C : Ctx X P N sc) {j : Nat} {x : Str} (hN : N[j]? = some x) (hv : Vis sc x) (hd : (x == ("__debug__" : Str)) = false := by decide) (hcd : (x == ("__classdict__" : Str)) = false := by decide) : PE (X.suite w pn) (.Name x pos) (tL P i w (ev Φ (.var j))) := by
  refine PE.imp (pe_var (X := X.suite w pn) (i := j) (by show X.N[j]? = _; rw [C.hN]; exact hN) (by show Vis X.env.scope x; rw [C.hs]; exact hv) hd hcd) fun σ H Q ⟨h1, e, R, d, q, p⟩ => ?_
  simp only [ev] at q
  cases z : e[j]? with
  | none => rw [z] at q; cases q
  | some s =>
    rw [z] at q
    obtain ⟨o, g1, g2⟩ := R.at z
    cases s with
    | d x =>
      obtain ⟨v, rfl, dd⟩ := g2
      cases q
      exact ⟨v, g1, p v H (Same.refl H) dd.mm⟩
    | _ => cases q
theorem xl_not (ha : PE X a (tL P i w (ev Φ A))) : PE X (.UnaryOp .Not a pos) (tL P i w (ev Φ (.not A))) := by
  refine PE.imp (pe_not ha) fun σ H Q ⟨h1, e, R, d, q, p⟩ => ⟨h1, e, R, ?_⟩
  simp only [ev] at q
  cases z : ev Φ A e with
  | ok x =>
    rw [z] at q
    cases x with
    | bool k =>
      simp only [Res.bind_ok, Res.ok.injEq] at q
      subst q
      refine ⟨_, rfl, fun v H' s dv => ⟨k, ?_, p _ H' s (DenM.up (.bool _))⟩⟩
      cases dv; rfl
    | _ => cases q
  | _ => rw [z] at q; cases q
theorem xl_one {op : BoolOp} (ha : PE X a (tL P i w f)) : PE X (.BoolOp op [a] pos) (tL P i w f) := pe_one ha
theorem xl_and {rest : List Expr} (ha : PE X a (tL P i w (ev Φ A))) (hb : PE X (.BoolOp .And (b :: rest) pos) (tL P i w (ev Φ B))) : PE X (.BoolOp .And (a :: b :: rest) pos) (tL P i w (ev Φ (.and A B))) := by
  refine PE.imp (pe_and ha hb) fun σ H Q ⟨h1, e, R, d, q, p⟩ => ⟨h1, e, R, ?_⟩
  simp only [ev] at q
  cases z : ev Φ A e with
  | ok x =>
    rw [z] at q
    cases x with
    | bool k =>
      refine ⟨_, rfl, fun v H' s dv => ⟨k, ?_, ?_⟩⟩
      · cases dv; rfl
      · cases k with
        | true => exact ⟨h1, e, R.same s, d, q, fun v H2 s2 => p v H2 (s.trans s2)⟩
        | false =>
          simp only [Res.bind_ok, Res.ok.injEq] at q
          subst q
          exact p _ H' s (DenM.up (.bool false))
    | _ => cases q
  | _ => rw [z] at q; cases q
/-- x == c, both ints -/
theorem xl_eqI (C : Ctx X P N sc) {k : Int} {j : Nat} {p2 : Pos} (ha : PE (X.suite w pn) a (tL P i w (ev Φ A))) (hm : behindInMarks .Eq (.Constant (.int k) j p2) = false := by rfl) :
    PE (X.suite w pn) (.Compare a [.Eq] [.Constant (.int k) j p2] pos) (tL P i w (ev Φ (.cmp .eq A (.con (.int k))))) := by
  have o := op_cmpD (X := X.suite w pn) (show (X.suite w pn).A.units + 190 < cLine from C.un) .eq
  rw [show (X.suite w pn).K = P.K from C.hK] at o
  refine PE.imp (pe_cmpR o ha pe_int hm) fun σ H Q ⟨h1, e, R, d, q, p⟩ => ⟨h1, e, R, ?_⟩
  simp only [ev] at q
  cases z : ev Φ A e with
  | ok x =>
    rw [z] at q
    simp only [Res.bind_ok] at q
    cases z2 : cmpD .eq x (.int k) with
    | none => rw [z2] at q; cases q
    | some c =>
      rw [z2] at q
      simp only [Option.map_some, Res.of_some, Res.ok.injEq] at q
      subst q
      exact ⟨x, rfl, fun v H' s dv => ⟨av0 P e σ 0, av0 P e σ 0, _, x, .int k, c, dv, den_int, z2, p _ H' s (DenM.up (.bool c))⟩⟩
  | _ => rw [z] at q; cases q
theorem xls_ret (h : PE X a (tL P i w f)) : PSs X [.Return (some a) pos] (tXL P i w f) := PSs.imp (pss_one (ps_ret h)) fun D σ H ⟨h1, e, R, d, q, p⟩ => ⟨h1, e, R, d, q, fun v H' s dv => p v H' (R.fr.trans s) dv.weak⟩
theorem mem_lkE : ∀ {r : List (Nat × Exp)} {c : Nat} {d : Exp}, r.lookup c = some d → (c, d) ∈ r
  | [], _, _, h => by simp at h
  | (k, v) :: r, c, d, h => by
    rw [List.lookup_cons] at h
    by_cases e : (c == k) = true
    · rw [e] at h
      have e2 : c = k := by simpa using e
      cases h
      rw [e2]
      exact List.mem_cons_self ..
    · rw [show (c == k) = false by simpa using e] at h
      exact List.mem_cons_of_mem _ (mem_lkE h)
theorem ss_trx (C : Ctx X P N sc) {x n : Str} {A : Addr} {body suite : List Stmt} {b0 : Stmt} {np pos' : Pos} {B : List Stm} {ok : List Nat} {r : List (Nat × Exp)} (hs : X.stack = X.env :: X.outer) (hf : X.env.frame = some X.env.locals)
    (hi : N[i]? = some n) (hln : X.env.kindOf n = some .local) (hg : X.env.kindOf x = some .globalImplicit) (hm : X.mg x = some (.ref A))
    (hy : ∀ p ∈ r, PySem.W.exmOne P.K (.ref (P.ca p.1)) (.ref A) = some true ∧ ∀ (w : Addr) (oe : Obj) (pn : List (Addr × Obj)), Zc (.ref (P.ca p.1)) none oe → (∃ vs, oe.data = .fields vs) → PSs (X.suite w ((w, oe) :: pn)) (b0 :: suite) (tXL P i w (ev Φ p.2)))
    (hno : ∀ c ∈ ok, PySem.W.exmOne P.K (.ref (P.ca c)) (.ref A) = some false)
    (hb : ∀ (W : WX) (pn : List (Addr × Obj)) (xe : Value → Shared → Prop), Ctx (X.tr pn xe) (P.wi W) N sc → PSs (X.tr pn xe) body (liftS (P.wi W) (execs Φ F B))) (hdb : (x == ("__debug__" : Str)) = false := by decide) :
    PS X (.Try body [.ExceptHandler (some (.Name x np)) (some n) (b0 :: suite) pos'] [] [] pos) (liftS P (exec Φ F (.trx i B ok r))) := by
  have hyes : ∀ c d, r.lookup c = some d → PySem.W.exmOne P.K (.ref (P.ca c)) (.ref A) = some true ∧ ∀ (w : Addr) (oe : Obj) (pn : List (Addr × Obj)), Zc (.ref (P.ca c)) none oe → (∃ vs, oe.data = .fields vs) → PSs (X.suite w ((w, oe) :: pn)) (b0 :: suite) (tXL P i w (ev Φ d)) := fun c d h => hy (c, d) (mem_lkE h)
  refine PS.imp (ps_try_as (c := .ref A) (ts := fun a cls d => fun D σ H => ∃ c dd, cls = .ref (P.ca c) ∧ d = none ∧ r.lookup c = some dd ∧ tXL P i a (ev Φ dd) D σ H) (Wout := P.W) (tb := fun W => liftS (P.wi W) (execs Φ F B)) hs hf (by rw [C.hN]; exact C.nd) (by rw [C.hN]; exact hi) hln ⟨hg, hdb, .inl hm⟩ C.tk
    (fun W pn xe tk po => hb W pn xe ⟨C.hK, C.hN, C.nd, C.hs, C.calm, C.un, tk, po⟩)
    (fun a oe cls d pn hz hfl => ⟨fun pins s σ H D I h => ?_⟩)) fun D σ H ⟨e, R, p⟩ => ⟨e, R.wi, ?_⟩
  · obtain ⟨c, dd, rfl, rfl, hl, h⟩ := h
    obtain ⟨_, hp⟩ := hyes c dd hl
    exact (hp a oe pn hz hfl).run pins s σ H D I h
  · simp only [exec] at p
    cases q : execs Φ F B e with
    | nx e' => rw [q] at p; exact fun σ' H' R' => p σ' H' R'.iw
    | ret x => rw [q] at p; exact p
    | bk e' => rw [q] at p; exact fun σ' H' R' => p σ' H' R'.iw
    | ct e' => rw [q] at p; exact fun σ' H' R' => p σ' H' R'.iw
    | stuck => rw [q] at p; exact p
    | ex c e' =>
      rw [q] at p
      intro σ' H' R'
      cases ql : r.lookup c with
      | some dd =>
        simp only [ql] at p
        obtain ⟨he, _⟩ := hyes c dd ql
        split at p
        · rename_i hlt
          cases qe : ev Φ dd (e'.set i .un) with
          | ok x =>
            rw [qe] at p
            refine ⟨true, by rw [C.hK]; exact he, fun _ a na => ⟨c, dd, rfl, rfl, ql, ?_, e'.set i .un, R'.iw.set rfl trivial, x, qe, p⟩, fun z => Bool.noConfusion z⟩
            rw [List.getElem?_set_self]
            rw [R'.len]
            exact hlt
          | ex _ => rw [qe] at p; exact p.elim
          | stuck => rw [qe] at p; exact p.elim
        · exact p.elim
      | none =>
        simp only [ql] at p
        by_cases ho : ok.contains c = true
        · rw [if_pos ho] at p
          exact ⟨false, by rw [C.hK]; exact hno c (by simpa using ho), fun z => Bool.noConfusion z, fun _ => p σ' H' R'.iw⟩
        · rw [if_neg ho] at p; exact p.elim
end
end
end Rf

set_option Elab.async false
set_option linter.all false
set_option maxRecDepth 100000
set_option maxHeartbeats 1000000
/-! Rf, part P: an object that remembers rows (the class Powers): its methods' promises, the walks of their bodies. -/
namespace Rf
noncomputable section
open PySem PySem.Spec PyProof.Rows L2
/-- the heap grows; the dict at d may change -/
def SB (d : Addr) (H H' : Hp) : Prop := ∀ b o, b ≠ d → H b = some o → H' b = some o
theorem SB.of {d : Addr} {H H' : Hp} (s : Same H H') : SB d H H' := fun b o _ q => s b o q
theorem SB.trans {d : Addr} {H H' H2 : Hp} (s : SB d H H') (t : SB d H' H2) : SB d H H2 := fun b o n q => t b o n (s b o n q)
section
variable {K : PySem.W.Frag} {av : Addr → Prop} {H H' : Hp} {d0 : Addr} {ks0 : List (Key × V)}
theorem rd_sb {a : Addr} {u : HO} (h0 : H d0 = some (.dK ks0)) (hn : ∀ z, u ≠ .dK z) (s : SB d0 H H') (h : Rd H a u) : Rd H' a u := by
  have ne : a ≠ d0 := fun e => by
    subst e
    rcases h with h | ⟨o, h⟩
    · rw [h] at h0; cases h0; exact hn _ rfl
    · rw [h] at h0; cases h0
  exact h.imp (fun q => s _ _ ne q) fun ⟨o, q⟩ => ⟨o, s _ _ ne q⟩
theorem nk_lst {xs : List V} : ∀ z, HO.lst xs ≠ .dK z := fun _ z => nomatch z
theorem nk_tup {xs : List V} : ∀ z, HO.tup xs ≠ .dK z := fun _ z => nomatch z
mutual
theorem Den.sb (h0 : H d0 = some (.dK ks0)) (s : SB d0 H H') : ∀ {x : D} {v : V}, noDct x = true → Den K av H v x → Den K av H' v x
  | _, _, _, .none => .none
  | _, _, _, .bool b => .bool b
  | _, _, _, .int i => .int i
  | _, _, _, .str x => .str x
  | .list _, _, n, .list h m t => .list (h.imp (rd_sb h0 nk_lst s) id) m (Dens.sb h0 s (by simpa [noDct] using n) t)
  | .tuple _, _, n, .tuple h t => .tuple (h.imp (rd_sb h0 nk_tup s) id) (Dens.sb h0 s (by simpa [noDct] using n) t)
  | .dict _, _, n, .dict _ _ _ => by simp [noDct] at n
theorem Dens.sb (h0 : H d0 = some (.dK ks0)) (s : SB d0 H H') : ∀ {x : List D} {v : List V}, noDcts x = true → Dens K av H v x → Dens K av H' v x
  | _, _, _, .nil => .nil
  | _ :: _, _, n, .cons a b => by
    simp only [noDcts, Bool.and_eq_true] at n
    exact .cons (Den.sb h0 s n.1 a) (Dens.sb h0 s n.2 b)
end
end
theorem noDcts_mem : ∀ {xs : List D}, (∀ x ∈ xs, noDct x = true) → noDcts xs = true
  | [], _ => rfl
  | x :: r, h => by simp only [noDcts, h x (List.mem_cons_self ..), noDcts_mem fun y hy => h y (List.mem_cons_of_mem _ hy), Bool.and_self]
abbrev noAv : Addr → Prop := fun _ => False
/-- the object at p, its dict of rows at d -/
structure PwAt (K : PySem.W.Frag) (C : Addr) (rv : Int → D) (H : Hp) (p d : Addr) (kvs : List (Key × V)) : Prop where
  ob : ∃ dx, H p = some (.ins C dx [("rows", .ref d)])
  dc : H d = some (.dK kvs)
  nd : (kvs.map (·.1)).Nodup
  ok : ∀ kv ∈ kvs, ∃ m : Int, kv.1 = .inl m ∧ 1 ≤ m ∧ m ≤ 10000 ∧ Den K noAv H kv.2 (rv m)
section
variable {K : PySem.W.Frag} {C : Addr} {rv : Int → D} {H H' : Hp} {p d : Addr} {kvs : List (Key × V)}
theorem PwAt.same (h : PwAt K C rv H p d kvs) (s : Same H H') : PwAt K C rv H' p d kvs := by
  obtain ⟨dx, e⟩ := h.ob
  exact ⟨⟨dx, s _ _ e⟩, s _ _ h.dc, h.nd, fun kv hk => let ⟨m, a, b, c, q⟩ := h.ok kv hk; ⟨m, a, b, c, q.same s⟩⟩
theorem PwAt.ne (h : PwAt K C rv H p d kvs) : p ≠ d := by
  obtain ⟨dx, e⟩ := h.ob
  exact ne_of e h.dc (fun z => nomatch z)
theorem nodup_len : ∀ (N : Nat) {l : List Int}, l.Nodup → (∀ x ∈ l, 1 ≤ x ∧ x ≤ (N : Nat)) → l.length ≤ N
  | 0, l, _, h => by
    cases l with
    | nil => exact Nat.le_refl _
    | cons a r => have := h a (List.mem_cons_self ..); omega
  | N + 1, l, nd, h => by
    have h1 := nodup_len N (l := l.filter (· ≠ ((N + 1 : Nat) : Int))) (nd.sublist (List.filter_sublist ..)) fun x hx => by
      rw [List.mem_filter] at hx
      have := h x hx.1
      have h2 : x ≠ ((N + 1 : Nat) : Int) := by simpa using hx.2
      omega
    have h2 : ∀ {l : List Int}, l.Nodup → l.length ≤ (l.filter (· ≠ ((N + 1 : Nat) : Int))).length + 1 := by
      intro l
      induction l with
      | nil => intro _; simp
      | cons a r ih =>
        intro nd
        rw [List.nodup_cons] at nd
        by_cases e : a = ((N + 1 : Nat) : Int)
        · subst e
          have : r.filter (· ≠ ((N + 1 : Nat) : Int)) = r := by
            rw [List.filter_eq_self]
            intro x hx
            have : x ≠ ((N + 1 : Nat) : Int) := fun z => nd.1 (z ▸ hx)
            simpa using this
          rw [List.filter_cons_of_neg (by simp), this]
          simp
        · rw [List.filter_cons_of_pos (by simpa using e)]
          have := ih nd.2
          simp only [List.length_cons]; omega
    have := h2 nd
    omega
def keyI : Key → Int
  | .inl m => m
  | .inr _ => 0
theorem PwAt.len (h : PwAt K C rv H p d kvs) : kvs.length ≤ 10000 := by
  have h1 : ((kvs.map (·.1)).map keyI).length ≤ 10000 := by
    refine nodup_len 10000 ?_ fun x hx => ?_
    · have nd := h.nd
      have al : ∀ k ∈ kvs.map (·.1), ∃ m : Int, k = .inl m := fun k hk => by
        obtain ⟨kv, h1, rfl⟩ := List.mem_map.mp hk
        obtain ⟨m, e, _⟩ := h.ok kv h1
        exact ⟨m, e⟩
      revert nd al
      generalize kvs.map (·.1) = l
      intro nd al
      induction l with
      | nil => simp
      | cons a r ih =>
        rw [List.nodup_cons] at nd
        rw [List.map_cons, List.nodup_cons]
        refine ⟨fun hx => ?_, ih nd.2 fun k hk => al k (List.mem_cons_of_mem _ hk)⟩
        obtain ⟨k, h1, h2⟩ := List.mem_map.mp hx
        obtain ⟨m, rfl⟩ := al a (List.mem_cons_self ..)
        obtain ⟨m', rfl⟩ := al k (List.mem_cons_of_mem _ h1)
        have : m' = m := h2
        subst this
        exact nd.1 h1
    · obtain ⟨k, h1, rfl⟩ := List.mem_map.mp hx
      obtain ⟨kv, h3, rfl⟩ := List.mem_map.mp h1
      obtain ⟨m, e, a, b, _⟩ := h.ok kv h3
      rw [e]
      exact ⟨a, b⟩
  simpa using h1
/-- the dict with a row more -/
theorem PwAt.put (h : PwAt K C rv H p d kvs) (s : Same H H') {m : Int} {v : V} (m1 : 1 ≤ m) (m2 : m ≤ 10000) (hn : valV kvs (.inl m) = none) (hrv : ∀ m, noDct (rv m) = true) (hv : Den K noAv H' v (rv m)) :
    PwAt K C rv (upd H' d (.dK (putK kvs (.inl m) v))) p d (putK kvs (.inl m) v) ∧ SB d H (upd H' d (.dK (putK kvs (.inl m) v))) := by
  have h' := h.same s
  have sb : SB d H' (upd H' d (.dK (putK kvs (.inl m) v))) := fun b o n q => by rw [upd_ne n]; exact q
  have e : putK kvs (.inl m) v = kvs ++ [(.inl m, v)] := putK_new _ hn
  refine ⟨⟨?_, upd_same, ?_, fun kv hk => ?_⟩, (SB.of s).trans sb⟩
  · obtain ⟨dx, q⟩ := h'.ob
    exact ⟨dx, by rw [upd_ne h.ne]; exact q⟩
  · rw [e]
    rw [List.map_append, List.nodup_append]
    refine ⟨h.nd, by simp, fun a ha b hb => ?_⟩
    simp at hb
    subst hb
    intro z
    subst z
    obtain ⟨kv, h1, h2⟩ := List.mem_map.mp ha
    have : ∀ {l : List (Key × V)}, valV l (.inl m) = none → ∀ kv ∈ l, kv.1 ≠ .inl m := by
      intro l
      induction l with
      | nil => intro _ kv h; simp at h
      | cons x r ih =>
        intro hn kv hk
        by_cases e : x.1 = .inl m
        · rw [show x = (x.1, x.2) from rfl, valV_pos e] at hn; cases hn
        · rw [show x = (x.1, x.2) from rfl, valV_neg e] at hn
          rcases List.mem_cons.mp hk with rfl | hk
          · exact e
          · exact ih hn kv hk
    exact this hn kv h1 h2
  · rw [e] at hk
    rcases List.mem_append.mp hk with hk | hk
    · obtain ⟨m', a, b, c, q⟩ := h'.ok kv hk
      exact ⟨m', a, b, c, q.sb h'.dc sb (hrv m')⟩
    · simp at hk
      subst hk
      exact ⟨m, rfl, m1, m2, hv.sb h'.dc sb (hrv m)⟩
end
/-! ### the methods' promise -/
def spM (K : PySem.W.Frag) (C : Addr) (rv : Int → D) (Φ : FT) (i : Nat) : L2.Sp := fun vs H Q _ => ∃ (p d : Addr) (kvs : List (Key × V)) (vs' : List V) (ds : List D) (x : D), vs = .ref p :: vs' ∧ PwAt K C rv H p d kvs ∧ Dens K noAv H vs' ds ∧ noDcts ds = true ∧ Φ i (.int (p : Nat) :: ds) = .ok x ∧
  ∀ v H' kvs', SB d H H' → PwAt K C rv H' p d kvs' → Den K noAv H' v x → Q v H'
@[reducible] def PO (K : PySem.W.Frag) (ca : Nat → Addr) (h0 : Hp) : Pk := { K := K, H0 := h0, Av := noAv, avok := fun _ z => z.elim, W := fun _ _ _ _ => False, ca := ca }
structure RO (K : PySem.W.Frag) (ca : Nat → Addr) (C : Addr) (rv : Int → D) (e : Sl) (σ : L2.St) (H : Hp) (p d : Addr) (kvs : List (Key × V)) : Prop where
  rel : ∃ h0, Rel (PO K ca h0) e σ H
  pw : PwAt K C rv H p d kvs
  slf : e[0]? = some (.ob p)
section
variable {K : PySem.W.Frag} {ca : Nat → Addr} {C : Addr} {rv : Int → D} {e : Sl} {σ : L2.St} {H H' : Hp} {p d : Addr} {kvs kvs' : List (Key × V)}
theorem okS_get (h : okS e = true) {i : Nat} {s : Slot} (hi : e[i]? = some s) : s = .un ∨ (∃ q, s = .ob q) ∨ ∃ x, s = .d x ∧ noDct x = true := by
  have := List.all_eq_true.mp h s (List.mem_of_getElem? hi)
  cases s with
  | un => exact .inl rfl
  | ob q => exact .inr (.inl ⟨q, rfl⟩)
  | d x => exact .inr (.inr ⟨x, rfl, this⟩)
  | ol _ => cases this
  | od _ => cases this
  | on _ => cases this
  | rn _ => cases this
theorem okS_own (h : okS e = true) {a : Addr} : ¬ Owns e σ a := fun ⟨i, s, h1, h2, _⟩ => by
  rcases okS_get h h1 with rfl | ⟨q, rfl⟩ | ⟨x, rfl, _⟩ <;> cases h2
/-- the relation at a later heap -/
theorem rel_to {h0 : Hp} (R : Rel (PO K ca h0) e σ H) (ok : okS e = true) {dc : List (Key × V)} (h0d : H d = some (.dK dc)) (s : SB d H H') : Rel (PO K ca H') e σ H' := by
  refine ⟨R.len, fun i t o h1 h2 => ?_, R.inj, Same.refl _, fun a z => absurd z (okS_own ok)⟩
  have q := R.slot i t o h1 h2
  rcases okS_get ok h1 with rfl | ⟨q, rfl⟩ | ⟨x, rfl, n⟩
  · trivial
  · exact q
  · obtain ⟨v, rfl, dn⟩ := q
    exact ⟨v, rfl, dn.sb h0d s n⟩
theorem RO.move (R : RO K ca C rv e σ H p d kvs) (ok : okS e = true) (s : SB d H H') (w : PwAt K C rv H' p d kvs') : RO K ca C rv e σ H' p d kvs' := ⟨let ⟨_, r⟩ := R.rel; ⟨_, rel_to r ok R.pw.dc s⟩, w, R.slf⟩
theorem rel_base {h0 : Hp} (R : Rel (PO K ca h0) e σ H) (no : ∀ a, ¬ Owns e σ a) : Rel (PO K ca H) e σ H := ⟨R.len, R.slot, R.inj, Same.refl _, fun a z => absurd z (no a)⟩
theorem avo_no {h0 : Hp} (no : ∀ a, ¬ Owns e σ a) {v : V} {x : D} (h : Den K noAv H v x) : Den K (avo (PO K ca h0) e σ) H v x := h.imp (fun _ _ z => z) fun a _ z => z.elim id (no a)
def PostW (K : PySem.W.Frag) (ca : Nat → Addr) (C : Addr) (rv : Int → D) (D : Ends) (H : Hp) (p d : Addr) : Out → Prop
  | .nx e' => ∀ σ' H' kvs', SB d H H' → RO K ca C rv e' σ' H' p d kvs' → D.nx σ' H'
  | .ret x => ∀ v H' kvs', SB d H H' → PwAt K C rv H' p d kvs' → Den K noAv H' v x → D.rt v H'
  | .bk e' => ∀ σ' H' kvs', SB d H H' → RO K ca C rv e' σ' H' p d kvs' → D.bk σ' H'
  | .ct e' => ∀ σ' H' kvs', SB d H H' → RO K ca C rv e' σ' H' p d kvs' → D.ct σ' H'
  | _ => False
def liftW (K : PySem.W.Frag) (ca : Nat → Addr) (C : Addr) (rv : Int → D) (f : Sl → Out) : L2.TS := fun D σ H => ∃ e p d kvs, RO K ca C rv e σ H p d kvs ∧ PostW K ca C rv D H p d (f e)
theorem PostW.back {D : Ends} (s : SB d H H') : ∀ {o : Out}, PostW K ca C rv D H p d o → PostW K ca C rv D H' p d o
  | .nx _, h => fun σ' H2 k t => h σ' H2 k (s.trans t)
  | .ret _, h => fun σ' H2 k t => h σ' H2 k (s.trans t)
  | .bk _, h => fun σ' H2 k t => h σ' H2 k (s.trans t)
  | .ct _, h => fun σ' H2 k t => h σ' H2 k (s.trans t)
  | .ex _ _, h => h
  | .stuck, h => h
theorem PostW.seq {D : Ends} {g : Sl → Out} : ∀ {o : Out}, PostW K ca C rv D H p d (o.seq g) → PostW K ca C rv { D with nx := liftW K ca C rv g D } H p d o
  | .nx e', h => fun σ' H2 k t R => ⟨e', p, d, k, R, PostW.back t h⟩
  | .ret _, h => h
  | .bk _, h => h
  | .ct _, h => h
  | .ex _ _, h => h
  | .stuck, h => h
end
section
variable {X : Cx} {K : PySem.W.Frag} {ca : Nat → Addr} {C : Addr} {rv : Int → D} {N : List Str} {sc : Scope} {Φ : FT} {F : Nat}
theorem PE.any {ι : Type} {ex : Expr} {t : ι → L2.TE} (h : ∀ i, PE X ex (t i)) : PE X ex (fun σ H Q => ∃ i, t i σ H Q) := ⟨fun pins s σ H Q I ⟨i, q⟩ => (h i).run pins s σ H Q I q⟩
theorem PS.any {ι : Type} {st : Stmt} {t : ι → L2.TS} (h : ∀ i, PS X st (t i)) : PS X st (fun D σ H => ∃ i, t i D σ H) := ⟨fun pins s σ H D I ⟨i, q⟩ => (h i).run pins s σ H D I q⟩
theorem so_nil : PSs X [] (liftW K ca C rv (execs Φ F [])) := PSs.imp pss_nil fun D σ H ⟨e, p, d, kvs, R, h⟩ => by
  simp only [execs] at h
  exact h σ H kvs (fun _ _ _ q => q) R
/-- with plain slots -/
def liftC (K : PySem.W.Frag) (ca : Nat → Addr) (C : Addr) (rv : Int → D) (f : Sl → Out) : L2.TS := fun D σ H => ∃ e p d kvs, RO K ca C rv e σ H p d kvs ∧ okS e = true ∧ PostW K ca C rv D H p d (f e)
theorem so_cons {st : Stmt} {rest : List Stmt} {S : Stm} {r : List Stm} (h : PS X st (liftC K ca C rv (exec Φ F S))) (g : PSs X rest (liftW K ca C rv (execs Φ F r))) : PSs X (st :: rest) (liftW K ca C rv (execs Φ F (.chk :: S :: r))) :=
  PSs.imp (pss_cons h g) fun D σ H ⟨e, p, d, kvs, R, q⟩ => by
    simp only [execs, exec] at q
    by_cases ok : okS e = true
    · rw [if_pos ok] at q
      exact ⟨e, p, d, kvs, R, ok, PostW.seq q⟩
    · rw [if_neg ok] at q; exact q.elim
/-- a statement that does not touch the object -/
theorem so_pure {st : Stmt} {S : Stm} (hS : ∀ h0 : Hp, PS X st (liftS (PO K ca h0) (exec Φ F S))) (h0 : ∀ e e', exec Φ F S e = .nx e' → e'[0]? = e[0]?) (hbc : ∀ e e', exec Φ F S e ≠ .bk e' ∧ exec Φ F S e ≠ .ct e') : PS X st (liftC K ca C rv (exec Φ F S)) :=
  PS.imp (PS.any hS) fun D σ H ⟨e, p, d, kvs, R, ok, q⟩ => ⟨H, e, let ⟨_, r⟩ := R.rel; rel_base r fun a => okS_own ok, by
    cases q2 : exec Φ F S e with
    | nx e' =>
      rw [q2] at q
      exact fun σ' H' R' => q σ' H' kvs (.of R'.fr) ⟨⟨_, R'⟩, R.pw.same R'.fr, by rw [h0 e e' q2]; exact R.slf⟩
    | ret x =>
      rw [q2] at q
      exact fun v H' s dn => q v H' kvs (.of s) (R.pw.same s) dn
    | bk e' => exact absurd q2 (hbc e e').1
    | ct e' => exact absurd q2 (hbc e e').2
    | ex c e' => rw [q2] at q; exact q.elim
    | stuck => rw [q2] at q; exact q.elim⟩
/-- a method that may be called -/
structure MetX (X : Cx) (K : PySem.W.Frag) (C : Addr) (rv : Int → D) (Φ : FT) (i : Nat) (m : Str) : Prop where
  ex : ∃ (k : Nat) (f : Addr) (fd : FuncData) (ps : List Str), FnOk X.prog X.w X.K X.mg X.base L2.CX0 k f fd ps (spM K C rv Φ i) ∧ Room k X.A ∧ Binds X.K fd ps [] ∧ Meth X.K C m f ∧ Cls X.K C
theorem pe_mx {i : Nat} {m : Str} {o a : Expr} {es : List Expr} {ta : L2.TE} {t : L2.TA} {apos pos : Pos} {pl : Sem Bool} (M : MetX X K C rv Φ i m) (h0 : PE X o ta) (ha : PA X (a :: es) t)
    (hst : starEach (a :: es) X.env = (false, eval a X.env) :: starEach es X.env := by rfl) (hpl : (backTo pos (starEach es X.env)).any (·.1) = false := by rfl)
    (ht : eval (.Call (.Attribute o m apos) (a :: es) [] pos) X.env = (do
      let ov ← eval o X.env
      standAt apos.atName
      let (f, first) ← holding [ov] (getMethod ov m pl)
      callWith pos f first (backTo pos (starEach (a :: es) X.env)) (backToKw pos (keywordEach [] X.env))) := by rfl) :
    PE X (.Call (.Attribute o m apos) (a :: es) [] pos) (tMeth C m (spM K C rv Φ i) [] E0 ta t) := by
  obtain ⟨k, f, fd, ps, ok, hr, hb, hm, hc⟩ := M.ex
  exact pe_meth h0 hc hm ok hr hb .nil pass0 ha hst hpl ht
theorem bind_ok {α β : Type} {r : Res α} {f : α → Res β} {x : β} (h : r.bind f = .ok x) : ∃ a, r = .ok a ∧ f a = .ok x := by
  cases r with
  | ok a => exact ⟨a, rfl, h⟩
  | ex c => cases h
  | stuck => cases h
theorem of_ok' {α : Type} {o : Option α} {x : α} (h : Res.of o = .ok x) : o = some x := by
  cases o with
  | none => cases h
  | some a => cases h; rfl
theorem var_ok {i : Nat} {e : Sl} {x : D} (h : ev Φ (.var i) e = .ok x) : e[i]? = some (.d x) := by
  simp only [ev] at h
  cases q : e[i]? with
  | none => rw [q] at h; cases h
  | some s =>
    rw [q] at h
    cases s with
    | d y => cases h; rfl
    | _ => cases h
theorem slf_ok {e : Sl} {p : Nat} {x : D} (h0 : e[0]? = some (.ob p)) (h : ev Φ (.slf 0) e = .ok x) : x = .int (p : Nat) := by
  simp only [ev, h0] at h
  cases h; rfl
theorem evs1 {A : Exp} {e : Sl} {xs : List D} (h : evs Φ [A] e = .ok xs) : ∃ x, ev Φ A e = .ok x ∧ xs = [x] := by
  simp only [evs] at h
  obtain ⟨x, h1, h2⟩ := bind_ok h
  simp only [Res.bind_ok, Res.ok.injEq] at h2
  exact ⟨x, h1, h2.symm⟩
theorem evs2 {A B : Exp} {e : Sl} {xs : List D} (h : evs Φ [A, B] e = .ok xs) : ∃ x y, ev Φ A e = .ok x ∧ ev Φ B e = .ok y ∧ xs = [x, y] := by
  rw [evs] at h
  obtain ⟨x, h1, h2⟩ := bind_ok h
  obtain ⟨ys, h3, h4⟩ := bind_ok h2
  obtain ⟨y, h5, rfl⟩ := evs1 h3
  cases h4
  exact ⟨x, y, h1, h5, rfl⟩
theorem evs3 {A B E : Exp} {e : Sl} {xs : List D} (h : evs Φ [A, B, E] e = .ok xs) : ∃ x y z, ev Φ A e = .ok x ∧ ev Φ B e = .ok y ∧ ev Φ E e = .ok z ∧ xs = [x, y, z] := by
  rw [evs] at h
  obtain ⟨x, h1, h2⟩ := bind_ok h
  obtain ⟨ys, h3, h4⟩ := bind_ok h2
  obtain ⟨y, z, h5, h6, rfl⟩ := evs2 h3
  cases h4
  exact ⟨x, y, z, h1, h5, h6, rfl⟩
section
variable {e : Sl} {σ : L2.St} {H : Hp} {p d : Addr} {kvs : List (Key × V)}
theorem RO.s0 (R : RO K ca C rv e σ H p d kvs) : σ[0]? = some (some (V.ref p)) := by
  obtain ⟨h0, r⟩ := R.rel
  obtain ⟨o, h1, h2⟩ := r.at R.slf
  have h2 : o = some (V.ref p) := h2
  rw [h1, h2]
theorem RO.val (R : RO K ca C rv e σ H p d kvs) {i : Nat} {x : D} (h : e[i]? = some (.d x)) : ∃ v, σ[i]? = some (some v) ∧ Den K noAv H v x := by
  obtain ⟨h0, r⟩ := R.rel
  obtain ⟨o, h1, v, rfl, dn⟩ := r.at h
  exact ⟨v, h1, dn.imp (fun _ _ z => z) fun a _ z => z.elim⟩
theorem ok_d (h : okS e = true) {i : Nat} {x : D} (hi : e[i]? = some (.d x)) : noDct x = true := by
  rcases okS_get h hi with z | ⟨q, z⟩ | ⟨y, z, n⟩
  · cases z
  · cases z
  · cases z; exact n
theorem read_m (R : RO K ca C rv e σ H p d kvs) (ok : okS e = true) {i : Nat} {m : Str} (hm : ¬ ("rows" : Str) = m) {vs' : List V} {ds : List D} {x : D} (hd : Dens K noAv H vs' ds) (hn : noDcts ds = true) (hx : Φ i (.int (p : Nat) :: ds) = .ok x) {E : XK} {Q : VK}
    {t : L2.TA} (ht : ∀ Q', Q' vs' H → t σ H Q') (q : ∀ v H' kvs', SB d H H' → RO K ca C rv e σ H' p d kvs' → Den K noAv H' v x → Q v H') : tMeth C m (spM K C rv Φ i) [] E (tVar 0) t σ H Q := by
  obtain ⟨dx, h1⟩ := R.pw.ob
  refine ⟨_, R.s0, p, dx, _, rfl, h1, ?_, ht _ ?_⟩
  · rw [List.lookup_cons]
    rw [show (m == ("rows" : Str)) = false from by
      cases q : (m == ("rows" : Str)) with
      | false => rfl
      | true => exact absurd (by simpa using q : m = "rows").symm hm]
    rfl
  · rw [List.append_nil]
    exact ⟨p, d, kvs, vs', ds, x, rfl, R.pw, hd, hn, hx, fun v H' kvs' s w dn => q v H' kvs' s (R.move ok s w) dn⟩
end
/-- row, lead = self.row(m) -/
theorem so_asgm {tg : Expr} {T : Tgt} {i j : Nat} {m x0 xm : Str} {p0 pm apos cpos pos : Pos} {pl : Sem Bool} (M : MetX X K C rv Φ i m) (hm : ¬ ("rows" : Str) = m) (he0 : PE X (.Name x0 p0) (tVar 0)) (he1 : PE X (.Name xm pm) (tVar j)) (hg : PG X tg (liftG K T)) (hT : 0 ∉ T.ix)
    (hs : swapsWithSole [tg] (.Call (.Attribute (.Name x0 p0) m apos) [.Name xm pm] [] cpos) pos.line X.env = pure false := by rfl) (hw : swappedStores [tg] (.Call (.Attribute (.Name x0 p0) m apos) [.Name xm pm] [] cpos) X.env = pure none := by rfl) (h1 : (assignEach [tg] X.env).map (·.2) = [assign tg X.env] := by rfl)
    (hst : starEach [.Name xm pm] X.env = [(false, eval (.Name xm pm) X.env)] := by rfl)
    (ht : eval (.Call (.Attribute (.Name x0 p0) m apos) [.Name xm pm] [] cpos) X.env = (do
      let ov ← eval (.Name x0 p0) X.env
      standAt apos.atName
      let (f, first) ← holding [ov] (getMethod ov m pl)
      callWith cpos f first (backTo cpos (starEach [.Name xm pm] X.env)) (backToKw cpos (keywordEach [] X.env))) := by rfl) :
    PS X (.Assign [tg] (.Call (.Attribute (.Name x0 p0) m apos) [.Name xm pm] [] cpos) pos) (liftC K ca C rv (exec Φ F (.asg T (.call i [.slf 0, .var j])))) := by
  refine PS.imp (ps_asg (pe_mx (pl := pl) M he0 (pa_cons he1 pa_nil hst) hst rfl ht) hg hs hw h1) fun D σ H ⟨e, p, d, kvs, R, ok, q⟩ => ?_
  simp only [exec, ev] at q
  cases q1 : evs Φ [.slf 0, .var j] e with
  | ex c => rw [q1] at q; exact q.elim
  | stuck => rw [q1] at q; exact q.elim
  | ok xs =>
    obtain ⟨a, b, ha, hb, rfl⟩ := evs2 q1
    rw [q1] at q
    obtain rfl := slf_ok R.slf ha
    have hj := var_ok hb
    simp only [Res.bind_ok] at q
    cases q2 : Φ i [.int (p : Nat), b] with
    | ex c => rw [q2] at q; exact q.elim
    | stuck => rw [q2] at q; exact q.elim
    | ok x =>
      rw [q2] at q
      simp only [Out.ofR_ok] at q
      cases q3 : bindT T x e with
      | none => rw [q3] at q; exact q.elim
      | some e1 =>
        rw [q3] at q
        obtain ⟨v, hv, dv⟩ := R.val hj
        refine read_m R ok hm (vs' := [v]) (ds := [b]) (.cons dv .nil) (by simp only [noDcts, ok_d ok hj, Bool.and_self]) q2 (fun Q' h => ⟨v, hv, h⟩) fun u H' kvs' s R' du => ?_
        obtain ⟨h0, r⟩ := R'.rel
        refine ⟨PO K ca h0, e, x, e1, rfl, r, avo_no (fun a => okS_own ok) du, q3, fun σ1 r1 _ => q σ1 H' kvs' s ⟨⟨_, r1⟩, R'.pw, ?_⟩⟩
        rw [(bindT_out q3 0).1 hT]
        exact R'.slf
/-- a read of a row: return row[lead + (self.number(exponent, period) - lead) % period] -/
theorem so_retm {i jr jl je jp : Nat} {m x0 xr xl xe xp : Str} {p0 pr pl1 pl2 pe1 pp1 pp2 apos cpos bp1 bp2 bp3 sp pos : Pos} {pl : Sem Bool} (hu : X.A.units + 1 < cLine) (hK : X.K = K) (M : MetX X K C rv Φ i m) (hm : ¬ ("rows" : Str) = m) (he0 : PE X (.Name x0 p0) (tVar 0)) (her : PE X (.Name xr pr) (tVar jr)) (hel : PE X (.Name xl pl1) (tVar jl)) (hel2 : PE X (.Name xl pl2) (tVar jl)) (hee : PE X (.Name xe pe1) (tVar je)) (hep : PE X (.Name xp pp1) (tVar jp)) (hep2 : PE X (.Name xp pp2) (tVar jp))
    (hst : starEach [.Name xe pe1, .Name xp pp1] X.env = (false, eval (.Name xe pe1) X.env) :: starEach [.Name xp pp1] X.env := by rfl) (hst2 : starEach [.Name xp pp1] X.env = [(false, eval (.Name xp pp1) X.env)] := by rfl) (hpl : (backTo cpos (starEach [.Name xp pp1] X.env)).any (·.1) = false := by rfl)
    (ht : eval (.Call (.Attribute (.Name x0 p0) m apos) [.Name xe pe1, .Name xp pp1] [] cpos) X.env = (do
      let ov ← eval (.Name x0 p0) X.env
      standAt apos.atName
      let (f, first) ← holding [ov] (getMethod ov m pl)
      callWith cpos f first (backTo cpos (starEach [.Name xe pe1, .Name xp pp1] X.env)) (backToKw cpos (keywordEach [] X.env))) := by rfl)
    (hp : PlainIx (.BinOp (.Name xl pl1) .Add (.BinOp (.BinOp (.Call (.Attribute (.Name x0 p0) m apos) [.Name xe pe1, .Name xp pp1] [] cpos) .Sub (.Name xl pl2) bp1) .Mod (.Name xp pp2) bp2) bp3) := by exact fun _ _ => rfl) :
    PS X (.Return (some (.Subscript (.Name xr pr) (.BinOp (.Name xl pl1) .Add (.BinOp (.BinOp (.Call (.Attribute (.Name x0 p0) m apos) [.Name xe pe1, .Name xp pp1] [] cpos) .Sub (.Name xl pl2) bp1) .Mod (.Name xp pp2) bp2) bp3) sp)) pos)
      (liftC K ca C rv (exec Φ F (.ret (.idx (.var jr) (.bin .add (.var jl) (.bin .mod (.bin .sub (.call i [.slf 0, .var je, .var jp]) (.var jl)) (.var jp))))))) := by
  have o := ixD (X := X) hu
  have os := op_binD (X := X) .sub
  have om := op_binD (X := X) .mod
  have oa := op_binD (X := X) .add
  rw [hK] at o os om oa
  refine PS.imp (ps_ret (pe_ix o her (pe_op oa hel (pe_op om (pe_op os (pe_mx (pl := pl) M he0 (pa_cons hee (pa_cons hep pa_nil hst2) hst) hst hpl ht) hel2) hep2)) hp)) fun D σ H ⟨e, p, d, kvs, R, ok, q⟩ => ?_
  simp only [exec] at q
  cases q1 : ev Φ (.idx (.var jr) (.bin .add (.var jl) (.bin .mod (.bin .sub (.call i [.slf 0, .var je, .var jp]) (.var jl)) (.var jp)))) e with
  | ex c => rw [q1] at q; exact q.elim
  | stuck => rw [q1] at q; exact q.elim
  | ok r =>
    rw [q1] at q
    simp only [Out.ofR_ok] at q
    rw [ev] at q1
    obtain ⟨dr, r1, q1⟩ := bind_ok q1
    obtain ⟨di, r2, r3⟩ := bind_ok q1
    rw [ev] at r2
    obtain ⟨dl, l1, r2⟩ := bind_ok r2
    obtain ⟨dm, m1, m2⟩ := bind_ok r2
    rw [ev] at m1
    obtain ⟨dsb, s1, m1⟩ := bind_ok m1
    obtain ⟨dp, p1, m3⟩ := bind_ok m1
    rw [ev] at s1
    obtain ⟨dc, c1, s1⟩ := bind_ok s1
    obtain ⟨dl2, l2, s2⟩ := bind_ok s1
    rw [l1] at l2
    cases l2
    rw [ev] at c1
    obtain ⟨xs, c2, c3⟩ := bind_ok c1
    obtain ⟨a, b, b2, ha, hb, hb2, rfl⟩ := evs3 c2
    obtain rfl := slf_ok R.slf ha
    rw [p1] at hb2
    cases hb2
    have jr1 := var_ok r1
    have jl1 := var_ok l1
    have je1 := var_ok hb
    have jp1 := var_ok p1
    obtain ⟨vr, hr1, hr2⟩ := R.val jr1
    obtain ⟨vl, hl1, hl2⟩ := R.val jl1
    obtain ⟨ve, hv1, hv2⟩ := R.val je1
    obtain ⟨vp, hp1, hp2⟩ := R.val jp1
    refine ⟨vr, hr1, vl, hl1, ?_⟩
    refine read_m R ok hm (vs' := [ve, vp]) (ds := [b, dp]) (.cons hv2 (.cons hp2 .nil)) (by simp only [noDcts, ok_d ok je1, ok_d ok jp1, Bool.and_self]) c3 (fun Q' h => ⟨ve, hv1, vp, hp1, h⟩) fun u H' kvs' s R' du => ?_
    obtain ⟨vl', hl1', hl2'⟩ := R'.val jl1
    obtain ⟨vp', hp1', hp2'⟩ := R'.val jp1
    refine ⟨vl', hl1', noAv, noAv, noAv, dc, dl, dsb, du.two, hl2'.two, of_ok' s2, fun z1 H1 sm1 f1 => ?_⟩
    refine ⟨vp', hp1', noAv, noAv, noAv, dsb, dp, dm, (f1.two fun a z => z.elim), (hp2'.same sm1).two, of_ok' m3, fun z2 H2 sm2 f2 => ?_⟩
    have hlH : Den K noAv H' vl dl := hl2.sb R.pw.dc s (ok_d ok jl1)
    refine ⟨noAv, noAv, noAv, dl, dm, di, (hlH.same (sm1.trans sm2)).two, (f2.two fun a z => z.elim), of_ok' m2, fun z3 H3 sm3 f3 => ?_⟩
    have hrH : Den K noAv H' vr dr := hr2.sb R.pw.dc s (ok_d ok jr1)
    refine ⟨noAv, noAv, noAv, noAv, dr, di, r, (hrH.same ((sm1.trans sm2).trans sm3)).two, (f3.two fun a z => z.elim), of_ok' r3, fun z4 d4 => ?_⟩
    have sm := (sm1.trans sm2).trans sm3
    exact q z4 H3 kvs' (s.trans (.of sm)) (R'.pw.same sm) d4
/-- total += sign * self.power(exponent, m) -/
theorem so_augm {i jt js je jm : Nat} {m x0 xt xs xe xm : Str} {p0 pt ps1 pe1 pm1 apos cpos bp pos : Pos} {pl : Sem Bool} (hK : X.K = K) (hNd : X.N.Nodup) (hi : X.N[jt]? = some xt) (hx : Loc X.env.scope xt) (M : MetX X K C rv Φ i m) (hm : ¬ ("rows" : Str) = m) (hj : jt ≠ 0) (he0 : PE X (.Name x0 p0) (tVar 0)) (hes : PE X (.Name xs ps1) (tVar js)) (hee : PE X (.Name xe pe1) (tVar je)) (hem : PE X (.Name xm pm1) (tVar jm))
    (hst : starEach [.Name xe pe1, .Name xm pm1] X.env = (false, eval (.Name xe pe1) X.env) :: starEach [.Name xm pm1] X.env := by rfl) (hst2 : starEach [.Name xm pm1] X.env = [(false, eval (.Name xm pm1) X.env)] := by rfl) (hpl : (backTo cpos (starEach [.Name xm pm1] X.env)).any (·.1) = false := by rfl)
    (ht : eval (.Call (.Attribute (.Name x0 p0) m apos) [.Name xe pe1, .Name xm pm1] [] cpos) X.env = (do
      let ov ← eval (.Name x0 p0) X.env
      standAt apos.atName
      let (f, first) ← holding [ov] (getMethod ov m pl)
      callWith cpos f first (backTo cpos (starEach [.Name xe pe1, .Name xm pm1] X.env)) (backToKw cpos (keywordEach [] X.env))) := by rfl)
    (hf : X.fn xt = true ∨ X.env.scope.names.lookup xt = some .local := by first | exact .inl rfl | exact .inr rfl) :
    PS X (.AugAssign (.Name xt pt) .Add (.BinOp (.Name xs ps1) .Mult (.Call (.Attribute (.Name x0 p0) m apos) [.Name xe pe1, .Name xm pm1] [] cpos) bp) pos)
      (liftC K ca C rv (exec Φ F (.aug jt .add (.bin .mul (.var js) (.call i [.slf 0, .var je, .var jm]))))) := by
  have om := op_binD (X := X) .mul
  have oa : PIp X .Add (RB X.K (augD .add)) := op_augD .add nofun
  rw [hK] at om oa
  refine PS.imp (ps_aug hNd hi hx (pe_op om hes (pe_mx (pl := pl) M he0 (pa_cons hee (pa_cons hem pa_nil hst2) hst) hst hpl ht)) oa hf) fun D σ H ⟨e, p, d, kvs, R, ok, q⟩ => ?_
  simp only [exec] at q
  cases qt : e[jt]? with
  | none => rw [qt] at q; exact q.elim
  | some st =>
    rw [qt] at q
    cases st with
    | d dt =>
      simp only [] at q
      cases q1 : ev Φ (.bin .mul (.var js) (.call i [.slf 0, .var je, .var jm])) e with
      | ex c => rw [q1] at q; exact q.elim
      | stuck => rw [q1] at q; exact q.elim
      | ok y =>
        rw [q1] at q
        simp only [Out.ofR_ok] at q
        cases q2 : augD .add dt y with
        | none => rw [q2] at q; exact q.elim
        | some z =>
          rw [q2] at q
          rw [ev] at q1
          obtain ⟨dsg, s1, q1⟩ := bind_ok q1
          obtain ⟨dc, c1, m3⟩ := bind_ok q1
          rw [ev] at c1
          obtain ⟨xs, c2, c3⟩ := bind_ok c1
          obtain ⟨a, b, b2, ha, hb, hb2, rfl⟩ := evs3 c2
          obtain rfl := slf_ok R.slf ha
          have js1 := var_ok s1
          have je1 := var_ok hb
          have jm1 := var_ok hb2
          obtain ⟨vt, ht1, ht2⟩ := R.val qt
          obtain ⟨vs, hs1, hs2⟩ := R.val js1
          obtain ⟨ve, hv1, hv2⟩ := R.val je1
          obtain ⟨vm, hm1, hm2⟩ := R.val jm1
          refine ⟨vt, ht1, vs, hs1, ?_⟩
          refine read_m R ok hm (vs' := [ve, vm]) (ds := [b, b2]) (.cons hv2 (.cons hm2 .nil)) (by simp only [noDcts, ok_d ok je1, ok_d ok jm1, Bool.and_self]) c3 (fun Q' h => ⟨ve, hv1, vm, hm1, h⟩) fun u H' kvs' s R' du => ?_
          have hsH : Den K noAv H' vs dsg := hs2.sb R.pw.dc s (ok_d ok js1)
          have htH : Den K noAv H' vt dt := ht2.sb R.pw.dc s (ok_d ok qt)
          refine ⟨noAv, noAv, noAv, dsg, dc, y, hsH.two, du.two, of_ok' m3, fun z1 H1 sm1 f1 => ?_⟩
          refine ⟨noAv, noAv, noAv, dt, y, z, (htH.same sm1).two, (f1.two fun a z => z.elim), q2, fun z2 H2 sm2 f2 => ?_⟩
          have sm := sm1.trans sm2
          have R2 : RO K ca C rv e σ H2 p d kvs' := ⟨let ⟨h0, r⟩ := R'.rel; ⟨h0, r.same sm⟩, R'.pw.same sm, R'.slf⟩
          obtain ⟨h0, r2⟩ := R2.rel
          have dz : Den K noAv H2 z2 z := (f2.two (c0 := noAv) fun a z => z.elim).one
          exact q _ H2 kvs' (s.trans (.of sm)) ⟨⟨h0, r2.setD (avo_no (fun a => okS_own ok) dz)⟩, R2.pw, by rw [List.getElem?_set_ne hj]; exact R2.slf⟩
    | _ => exact q.elim
/-! loops -/
theorem so_end : PSs X [] (liftW K ca C rv (execs Φ F [.chk])) := PSs.imp pss_nil fun D σ H ⟨e, p, d, kvs, R, h⟩ => by
  simp only [execs, exec] at h
  by_cases ok : okS e = true
  · rw [if_pos ok] at h; exact h σ H kvs (fun _ _ _ q => q) R
  · rw [if_neg ok] at h; exact h.elim
theorem PostW.turn {D : Ends} {M : L2.St → Hp → Prop} {G : Sl → Out} {H : Hp} {p d : Addr} {o : Out} (hN : ∀ e' σ' H' kvs', (o = .nx e' ∨ o = .ct e') → SB d H H' → RO K ca C rv e' σ' H' p d kvs' → PostW K ca C rv D H p d (G e') → M σ' H') (h : PostW K ca C rv D H p d (o.turn G)) : PostW K ca C rv { D with nx := M, ct := M, bk := D.nx } H p d o := by
  cases o with
  | nx e' => exact fun σ' H' k s R => hN e' σ' H' k (.inl rfl) s R h
  | ct e' => exact fun σ' H' k s R => hN e' σ' H' k (.inr rfl) s R h
  | bk _ => exact h
  | ret _ => exact h
  | ex _ _ => exact h
  | stuck => exact h
theorem chk_end {S : Stm} (hS : ∀ e e', exec Φ F S e ≠ .ct e') {e e' : Sl} (h : execs Φ F [.chk, S, .chk] e = .nx e' ∨ execs Φ F [.chk, S, .chk] e = .ct e') : okS e' = true := by
  simp only [execs, exec] at h
  by_cases ok : okS e = true
  · rw [if_pos ok] at h
    simp only [Out.seq_nx] at h
    cases q : exec Φ F S e with
    | nx e2 =>
      rw [q] at h
      simp only [Out.seq_nx] at h
      by_cases ok2 : okS e2 = true
      · rw [if_pos ok2] at h
        simp only [Out.seq_nx] at h
        rcases h with h | h
        · cases h; exact ok2
        · cases h
      · rw [if_neg ok2] at h
        rcases h with h | h <;> cases h
    | ct e2 => exact absurd q (hS e e2)
    | _ => rw [q] at h; rcases h with h | h <;> cases h
  · rw [if_neg ok] at h
    rcases h with h | h <;> cases h
theorem so_for {tg : Expr} {T : Tgt} {j : Nat} {xn : Str} {pn pos : Pos} {body : List Stmt} {BD : List Stm} (hp : PassesOwn (model X.prog X.w) X.A X.env X.xe) (hc : X.calm = true) (hK : X.K = K) (he : PE X (.Name xn pn) (tVar j)) (hg : PG X tg (liftG K T)) (hT : 0 ∉ T.ix) (hb : PSs X body (liftW K ca C rv (execs Φ F BD)))
    (hok : ∀ e e', (execs Φ F BD e = .nx e' ∨ execs Φ F BD e = .ct e') → okS e' = true) (hs : ∀ x, foldedSetIterable (.Name xn pn) X.env x = pure x := by intro _; rfl) :
    PS X (.For tg (.Name xn pn) body [] pos) (liftC K ca C rv (exec Φ F (.for T .tup [.var j] BD))) := by
  refine PS.imp (ps_for hp hc (pi_tup he) hg hb hs) fun D σ H ⟨e, p, d, kvs, R, ok, q⟩ => ?_
  simp only [exec] at q
  cases q1 : evs Φ [.var j] e with
  | ex c => rw [q1] at q; exact q.elim
  | stuck => rw [q1] at q; exact q.elim
  | ok xs =>
    obtain ⟨x, hx, rfl⟩ := evs1 q1
    rw [q1] at q
    simp only [Out.ofR_ok] at q
    have hj := var_ok hx
    cases x with
    | tuple its =>
      simp only [srcD] at q
      obtain ⟨v, hv, dv⟩ := R.val hj
      cases dv with
      | tuple sq dn =>
        rename_i a us
        have hnd : noDcts its = true := by have := ok_d ok hj; simpa [noDct] using this
        have hlen := dn.length
        refine ⟨_, hv, a, rfl, ⟨us, by rw [hK]; exact sq⟩, fun i m σ2 H2 => m = its.length - i ∧ i ≤ its.length ∧ ∃ e2 k2, RO K ca C rv e2 σ2 H2 p d k2 ∧ okS e2 = true ∧ SqT K H2 a us ∧ Dens K noAv H2 us its ∧ PostW K ca C rv D H2 p d (forL (fun e' => execs Φ F BD e') T (its.drop i) e2), ⟨its.length, by omega, Nat.zero_le _, e, kvs, R, ok, sq, dn, by simpa using q⟩, ?_⟩
        rintro i m σ2 H2 ⟨rfl, hi, e2, k2, R2, ok2, sq2, dn2, p2⟩
        by_cases hlt : i < its.length
        · refine .inr ⟨⟨us, us[i], by rw [hK]; exact sq2, List.getElem?_eq_getElem (by omega)⟩, fun σ' H' => ∃ e3 k3, RO K ca C rv e3 σ' H' p d k3 ∧ okS e3 = true ∧ SqT K H' a us ∧ Dens K noAv H' us its ∧ PostW K ca C rv D H' p d (forL (fun e' => execs Φ F BD e') T (its.drop (i + 1)) e3), fun σ' H' z => ⟨its.length - (i + 1), by omega, rfl, by omega, z⟩, fun y H' yy => ?_⟩
          rw [List.drop_eq_getElem_cons hlt] at p2
          simp only [forL] at p2
          obtain ⟨rfl, yy⟩ := yy
          have hy := yy us (by rw [hK]; exact sq2)
          cases qb : bindT T its[i] e2 with
          | none => rw [qb] at p2; exact p2.elim
          | some e3 =>
            rw [qb] at p2
            obtain ⟨d', h1, h2⟩ := dn2.get hy
            rw [List.getElem?_eq_getElem hlt] at h1
            cases h1
            obtain ⟨h0, r2⟩ := R2.rel
            refine ⟨PO K ca h0, e2, its[i], e3, rfl, r2, avo_no (fun a => okS_own ok2) h2, qb, fun σ3 r3 _ => ⟨e3, p, d, k2, ⟨⟨_, r3⟩, R2.pw, by rw [(bindT_out qb 0).1 hT]; exact R2.slf⟩, PostW.turn (fun e' σ' H3 k3 ho s3 R3 z => ⟨e', k3, R3, hok _ _ ho, ?_, dn2.sb R2.pw.dc s3 hnd, PostW.back s3 z⟩) p2⟩⟩
            exact sq2.imp (rd_sb R2.pw.dc nk_tup s3) id
        · refine .inl ⟨⟨us, by rw [hK]; exact sq2, by omega⟩, ?_⟩
          rw [List.drop_of_length_le (by omega)] at p2
          simp only [forL] at p2
          exact p2 σ2 H2 k2 (fun _ _ _ q => q) R2
    | _ => exact q.elim
end
/-! ### the methods as defs -/
section
variable {pr : Program} {w : World} {K : PySem.W.Frag} {mg : Str → Option Value} {base : Heap} {ca : Nat → Addr} {C : Addr} {rv : Int → D}
structure GoodM (pr : Program) (w : World) (K : PySem.W.Frag) (mg : Str → Option Value) (base : Heap) (C : Addr) (rv : Int → D) (T : List Fdef) (F : Nat) (m : Str) (i n : Nat) : Prop where
  ex : ∃ f fd ps, FnOk pr w K mg base L2.CX0 n f fd ps (spM K C rv (phi T F n) i) ∧ Binds K fd ps [] ∧ Meth K C m f
theorem GoodM.met {T : List Fdef} {F : Nat} {m : Str} {i n : Nat} {X : Cx} (g : GoodM X.prog X.w X.K X.mg X.base C rv T F m i n) (hc : Cls X.K C) (hr : Room n X.A) : MetX X X.K C rv (phi T F n) i m := by
  obtain ⟨f, fd, ps, ok, h1, h2⟩ := g.ex
  exact ⟨n, f, fd, ps, ok, hr, h1, h2, hc⟩
/-- what the top has written of a method -/
structure TxtM (K : PySem.W.Frag) (C : Addr) (m q : Str) (st : Stmt) (ps : List Str) : Prop where
  ex : ∃ f fd, Fun K m q st f fd ∧ Binds K fd ps [] ∧ Meth K C m f
theorem goodM_zero {T : List Fdef} {F : Nat} {m q : Str} {i : Nat} {st : Stmt} {ps : List Str} (t : TxtM K C m q st ps) : GoodM pr w K mg base C rv T F m i 0 := by
  obtain ⟨f, fd, fn, h1, h2⟩ := t.ex
  refine ⟨f, fd, ps, ⟨fun vs H Q E h => ?_, fun A outer s H args us vs Q E hr he hb hv h => ?_⟩, h1, h2⟩ <;> (obtain ⟨p, d, kvs, vs', ds, x, _, _, _, _, h, _⟩ := h; cases h)
theorem rel_startO {N : List Str} {p : Addr} {vs : List V} {ds : List D} {H : Hp} (hd : Dens K noAv H vs ds) (hl : ds.length + 1 ≤ N.length) : Rel (PO K ca H) (.ob p :: (ds.map .d ++ List.replicate (N.length - (ds.length + 1)) .un)) (L2.start N (.ref p :: vs)) H := by
  have hlen := hd.length
  have get0 : (L2.start N (V.ref p :: vs))[0]? = some (some (V.ref p)) := start_get rfl
  have noOwn : ∀ (i : Nat) (s : Slot), (Slot.ob p :: (ds.map Slot.d ++ List.replicate (N.length - (ds.length + 1)) Slot.un))[i]? = some s → isOwn s = false := fun i s h => by
    cases i with
    | zero => simp only [List.getElem?_cons_zero, Option.some.injEq] at h; subst h; rfl
    | succ i =>
      rw [List.getElem?_cons_succ] at h
      by_cases hi : i < ds.length
      · rw [List.getElem?_append_left (by rw [List.length_map]; exact hi), List.getElem?_map, List.getElem?_eq_getElem hi] at h
        simp only [Option.map_some, Option.some.injEq] at h
        subst h; rfl
      · rw [List.getElem?_append_right (by rw [List.length_map]; omega), List.getElem?_replicate] at h
        split at h
        · simp only [Option.some.injEq] at h; subst h; rfl
        · cases h
  have no : ∀ a, ¬ Owns (Slot.ob p :: (ds.map Slot.d ++ List.replicate (N.length - (ds.length + 1)) Slot.un)) (L2.start N (V.ref p :: vs)) a := fun a ⟨i, s, h1, h2, _⟩ => by
    rw [noOwn i s h1] at h2; cases h2
  refine ⟨?_, fun i s o h1 h2 => ?_, fun i j s t a h1 h2 => ?_, Same.refl _, fun a h => absurd h (no a)⟩
  · unfold L2.start
    simp only [List.length_append, List.length_map, List.length_replicate, List.length_cons]
    omega
  · cases i with
    | zero =>
      simp only [List.getElem?_cons_zero, Option.some.injEq] at h1
      subst h1
      rw [get0] at h2
      cases h2
      rfl
    | succ i =>
      rw [List.getElem?_cons_succ] at h1
      by_cases hi : i < ds.length
      · rw [List.getElem?_append_left (by rw [List.length_map]; exact hi), List.getElem?_map, List.getElem?_eq_getElem hi] at h1
        simp only [Option.map_some, Option.some.injEq] at h1
        subst h1
        obtain ⟨v, hv, dv⟩ := hd.getD (List.getElem?_eq_getElem hi)
        rw [start_get (show (V.ref p :: vs)[i + 1]? = some v by rw [List.getElem?_cons_succ]; exact hv)] at h2
        simp only [Option.some.injEq] at h2
        subst h2
        exact ⟨v, rfl, dv.imp (fun _ _ z => z) fun a _ z => z.elim id fun z => absurd z (no a)⟩
      · rw [List.getElem?_append_right (by rw [List.length_map]; omega), List.getElem?_replicate] at h1
        split at h1
        · simp only [Option.some.injEq] at h1; subst h1; trivial
        · cases h1
  · rw [noOwn i s h1] at h2; cases h2
/-- a method's walk -/
def WalkO (pr : Program) (w : World) (K : PySem.W.Frag) (mg : Str → Option Value) (base : Heap) (ca : Nat → Addr) (C : Addr) (rv : Int → D) (N : List Str) (q : Str) (st : Stmt) (n : Nat) (f : Sl → Out) : Prop :=
  ∀ (A : Around) (s0 : Shared) (H0 : Hp) (a fA : Addr) (cdv : Value) (outer : List Env) (xe : Value → Shared → Prop), Room n A → (∀ h0, Ctx (cxG pr w K mg base N q st A s0 H0 a fA cdv outer xe) (PO K ca h0) N (defScope st)) → PSs (cxG pr w K mg base N q st A s0 H0 a fA cdv outer xe) (defBody st) (liftW K ca C rv f)
theorem goodM_succ {T : List Fdef} {F : Nat} {m q : Str} {i n : Nat} {st : Stmt} {N ps : List Str} {np ns : Nat} {body : List Stm} (t : TxtM K C m q st ps) (S : FnScope N ps (defScope st)) (hT : T[i]? = some ⟨np, ns, .obj 0 :: body⟩) (hnp : np = ps.length) (hns : ns = N.length) (hle : ps.length ≤ N.length)
    (hb : WalkO pr w K mg base ca C rv N q st n (execs (phi T F n) F body)) : GoodM pr w K mg base C rv T F m i (n + 1) := by
  obtain ⟨f, fd, F0, h1, h2⟩ := t.ex
  refine ⟨f, fd, ps, F0.ok S (fun vs H Q E h => ?_) (fun cdv A outer s H vs Q E hr h => ?_), h1, h2⟩
  · obtain ⟨p, d, kvs, vs', ds, x, rfl, _, hd, _, h, _⟩ := h
    simp only [phi, hT] at h
    unfold Fdef.run at h
    by_cases hl : (PyData.int (p : Nat) :: ds).length = np
    · rw [List.length_cons, hd.length, ← hnp, ← hl]; rfl
    · rw [if_neg hl] at h; cases h
  · obtain ⟨p, d, kvs, vs', ds, x, rfl, pw, hd, hn, h, qq⟩ := h
    refine ⟨_, hb (A.deeper (envOfC q (defScope st) s.heap.objs.size f cdv)) s H _ f cdv outer (fun _ _ => False) hr (fun h0 => ⟨rfl, rfl, S.nd, rfl, rfl, ?_, takes0, PassesOwn.never⟩), ?_⟩
    · have := hr.un
      show (A.deeper (envOfC q (defScope st) s.heap.objs.size f cdv)).units + 190 < cLine
      omega
    · simp only [phi, hT] at h
      unfold Fdef.run at h
      by_cases hl : (PyData.int (p : Nat) :: ds).length = np
      · rw [if_pos hl] at h
        have hl2 : ds.length + 1 ≤ N.length := by rw [← hl] at hnp; rw [List.length_cons] at hnp; omega
        have es : ((PyData.int (p : Nat) :: ds).map Slot.d ++ List.replicate (ns - np) Slot.un) = .d (.int (p : Nat)) :: (ds.map .d ++ List.replicate (N.length - (ds.length + 1)) .un) := by
          rw [hns, ← hl]; rfl
        have eo : exec (phi T F n) F (.obj 0) (.d (.int (p : Nat)) :: (ds.map .d ++ List.replicate (N.length - (ds.length + 1)) .un)) = .nx (.ob p :: (ds.map .d ++ List.replicate (N.length - (ds.length + 1)) .un)) := by
          simp only [exec, List.getElem?_cons_zero]
          rw [if_pos (Int.natCast_nonneg p)]
          rfl
        simp only [es, execs, eo, Out.seq_nx] at h
        refine ⟨_, p, d, kvs, ⟨⟨_, rel_startO hd hl2⟩, pw, rfl⟩, ?_⟩
        cases q2 : execs (phi T F n) F body (.ob p :: (ds.map .d ++ List.replicate (N.length - (ds.length + 1)) .un)) with
        | ret y => rw [q2] at h; cases h; exact fun v H' k s w dn => qq v H' k s w dn
        | nx e' => rw [q2] at h; cases h; exact fun σ' H' k s R => qq .non H' k s R.pw .none
        | ex c e' => rw [q2] at h; cases h
        | bk e' => rw [q2] at h; cases h
        | ct e' => rw [q2] at h; cases h
        | stuck => rw [q2] at h; cases h
      · rw [if_neg hl] at h; cases h
/-- __init__'s promise -/
def spInit (C : Addr) : L2.Sp := fun vs H Q _ => ∃ (p dx : Addr), vs = [.ref p] ∧ H p = some (.ins C dx []) ∧ ∀ (d : Addr) (H' : Hp), H d = none → H' p = some (.ins C dx [("rows", .ref d)]) → H' d = some (.dK []) → (∀ b o, H b = some o → b ≠ p → H' b = some o) → Q .non H'
/-- a new object's method that may be called -/
structure NewI (X : Cx) (K : PySem.W.Frag) (C : Addr) (rv : Int → D) (c m : Str) where
  k : Nat
  f : Addr
  fI : Addr
  fd : FuncData
  fdI : FuncData
  ps : List Str
  Φ' : FT
  i' : Nat
  ok : FnOk X.prog X.w X.K X.mg X.base L2.CX0 k f fd ps (spM K C rv Φ' i')
  hr : Room k X.A
  hb : Binds X.K fd ps []
  hm : Meth X.K C m f
  cl : Cls X.K C
  okI : FnOk X.prog X.w X.K X.mg X.base L2.CX0 1 fI fdI ["self"] (spInit C)
  hr2 : Room 2 X.A
  hbI : Binds X.K fdI ["self"] []
  mkr : Mk X.K C fI
  mgC : X.mg c = some (.ref C)
structure NewX (X : Cx) (K : PySem.W.Frag) (C : Addr) (rv : Int → D) (Φ : FT) (i : Nat) (c m : Str) : Prop where
  ex : ∀ xs r, (∀ p : Nat, Φ i (.int (p : Nat) :: xs) = .ok r) → ∃ j : NewI X K C rv c m, ∀ p : Nat, j.Φ' j.i' (.int (p : Nat) :: xs) = .ok r
end
section
variable {X : Cx} {P : Pk} {N : List Str} {sc : Scope} {Φ : FT} {F mo : Nat} {Cl : Addr} {rv : Int → D}
theorem se_new (C0 : Ctx X P N sc) {i j1 j2 : Nat} {c m x1 x2 : Str} {pc p0 p1 p2 apos pos : Pos} {pl : Sem Bool} (Nw : NewX X P.K Cl rv Φ i c m) (hm : ¬ ("rows" : Str) = m) (hg : X.env.kindOf c = some .globalImplicit) (he1 : PE X (.Name x1 p1) (tVar j1)) (he2 : PE X (.Name x2 p2) (tVar j2)) (hdb : (c == ("__debug__" : Str)) = false := by decide)
    (hst : starEach [.Name x1 p1, .Name x2 p2] X.env = (false, eval (.Name x1 p1) X.env) :: starEach [.Name x2 p2] X.env := by rfl) (hst2 : starEach [.Name x2 p2] X.env = [(false, eval (.Name x2 p2) X.env)] := by rfl) (hpl : (backTo pos (starEach [.Name x2 p2] X.env)).any (·.1) = false := by rfl)
    (ht : eval (.Call (.Attribute (.Call (.Name c pc) [] [] p0) m apos) [.Name x1 p1, .Name x2 p2] [] pos) X.env = (do
      let ov ← eval (.Call (.Name c pc) [] [] p0) X.env
      standAt apos.atName
      let (f, first) ← holding [ov] (getMethod ov m pl)
      callWith pos f first (backTo pos (starEach [.Name x1 p1, .Name x2 p2] X.env)) (backToKw pos (keywordEach [] X.env))) := by rfl) :
    PE X (.Call (.Attribute (.Call (.Name c pc) [] [] p0) m apos) [.Name x1 p1, .Name x2 p2] [] pos) (lift P mo (ev Φ (.onew i [.var j1, .var j2]))) := by
  refine PE.imp (PE.any fun j : NewI X P.K Cl rv c m => pe_meth (pl := pl) (pe_make0 j.mkr j.okI j.hr2 hg j.mgC j.hbI .nil pass0 hdb) j.cl j.hm j.ok j.hr j.hb .nil pass0 (pa_cons he1 (pa_cons he2 pa_nil hst2) hst) hst hpl ht) fun σ H Q ⟨e, R, p⟩ => ?_
  simp only [ev] at p
  cases q1 : evs Φ [.var j1, .var j2] e with
  | stuck => rw [q1] at p; exact p.elim
  | ex cc =>
    exfalso
    have vx : ∀ k, (∃ x, ev Φ (.var k) e = .ok x) ∨ ev Φ (.var k) e = .stuck := fun k => by
      simp only [ev]
      cases e[k]? with
      | none => exact .inr rfl
      | some s => cases s <;> first | exact .inl ⟨_, rfl⟩ | exact .inr rfl
    simp only [evs] at q1
    rcases vx j1 with ⟨x, h1⟩ | h1
    · rcases vx j2 with ⟨y, h2⟩ | h2
      · rw [h1, h2] at q1; cases q1
      · rw [h1, h2] at q1; cases q1
    · rw [h1] at q1; cases q1
  | ok xs =>
    rw [q1] at p
    simp only [Res.bind_ok] at p
    obtain ⟨x, y, hx, hy, rfl⟩ := evs2 q1
    unfold newK at p
    split at p
    · rename_i h
      obtain ⟨hn, hf, hall⟩ := h.choose_spec
      revert p hf hall
      generalize h.choose = r
      intro p hf hall
      obtain ⟨j, hj⟩ := Nw.ex [x, y] r hall
      obtain ⟨o1, s1, v1, rfl, d1⟩ := R.at (var_ok hx)
      obtain ⟨o2, s2, v2, rfl, d2⟩ := R.at (var_ok hy)
      refine ⟨j, fun a dx na ndx nex => ⟨a, dx, rfl, upd_same, fun d H' nd h1 h2 h3 => ⟨rfl, a, dx, _, rfl, h1, ?_, v1, s1, v2, s2, ?_⟩⟩⟩
      · rw [List.lookup_cons]
        rw [show (m == ("rows" : Str)) = false from by
          cases q : (m == ("rows" : Str)) with
          | false => rfl
          | true => exact absurd (by simpa using q : m = "rows").symm hm]
        rfl
      · have sm : Same H H' := fun b o q => by
          have n1 : b ≠ a := fun z => by rw [z, na] at q; cases q
          have n2 : b ≠ dx := fun z => by rw [z, ndx] at q; cases q
          exact h3 b o (by rw [upd_ne n1, upd_ne n2]; exact q) n1
        have hd0 : H d = none := by
          cases q : H d with
          | none => rfl
          | some o =>
            exfalso
            have n1 : d ≠ a := fun z => by rw [z, na] at q; cases q
            have n2 : d ≠ dx := fun z => by rw [z, ndx] at q; cases q
            rw [upd_ne n1, upd_ne n2, q] at nd
            cases nd
        refine ⟨a, d, [], [v1, v2], [x, y], r, rfl, ⟨⟨dx, h1⟩, h2, List.nodup_nil, fun kv hk => by simp at hk⟩, .cons (((d1.imp (fun _ _ z => z) fun a _ z => z.elim)).same sm) (.cons (((d2.imp (fun _ _ z => z) fun a _ z => z.elim)).same sm) .nil), hn, hj a, fun v H2 kvs' s w dn => ?_⟩
        exact p v H2 (fun b o q => s b o (fun z => by rw [z, hd0] at q; cases q) (sm _ _ q)) (Den.mm (dn.noLst hf))
    · exact p.elim
end
/-! statements that do not touch the object -/
structure PureS (Φ : FT) (F : Nat) (S : Stm) : Prop where
  h0 : ∀ e e', exec Φ F S e = .nx e' → e'[0]? = e[0]?
  bc : ∀ e e', exec Φ F S e ≠ .bk e' ∧ exec Φ F S e ≠ .ct e'
section
variable {Φ : FT} {F : Nat}
theorem ofR_cases {α : Type} {r : Res α} {e : Sl} {f : α → Out} {o : Out} (h : Out.ofR r e f = o) : (∃ a, r = .ok a ∧ f a = o) ∨ (∃ c, o = .ex c e) ∨ o = .stuck := by
  cases r with
  | ok a => exact .inl ⟨a, rfl, h⟩
  | ex c => exact .inr (.inl ⟨c, h.symm⟩)
  | stuck => exact .inr (.inr h.symm)
theorem PureS.ret {A : Exp} : PureS Φ F (.ret A) := by
  refine ⟨fun e e' h => ?_, fun e e' => ⟨fun h => ?_, fun h => ?_⟩⟩ <;> (simp only [exec] at h; rcases ofR_cases h with ⟨a, _, h⟩ | ⟨c, h⟩ | h <;> cases h)
theorem PureS.asg {A : Exp} {j : Nat} (hj : j ≠ 0) : PureS Φ F (.asg (.nm j) A) := by
  have key : ∀ e o, exec Φ F (.asg (.nm j) A) e = o → (∃ x, o = .nx (e.set j (.d x))) ∨ (∃ c, o = .ex c e) ∨ o = .stuck := fun e o h => by
    simp only [exec] at h
    rcases ofR_cases h with ⟨a, _, h⟩ | h | h
    · simp only [bindT] at h
      split at h
      · rename_i e1 q
        split at q
        · cases q; exact .inl ⟨a, h.symm⟩
        · cases q
      · exact .inr (.inr h.symm)
    · exact .inr (.inl h)
    · exact .inr (.inr h)
  refine ⟨fun e e' h => ?_, fun e e' => ⟨fun h => ?_, fun h => ?_⟩⟩
  · rcases key e _ h with ⟨x, q⟩ | ⟨c, q⟩ | q
    · cases q; exact List.getElem?_set_ne hj
    · cases q
    · cases q
  · rcases key e _ h with ⟨x, q⟩ | ⟨c, q⟩ | q <;> cases q
  · rcases key e _ h with ⟨x, q⟩ | ⟨c, q⟩ | q <;> cases q
theorem PureS.ifret {A B : Exp} : PureS Φ F (.ifs A [.ret B] []) := by
  have key : ∀ e o, exec Φ F (.ifs A [.ret B] []) e = o → o = .nx e ∨ (∃ x, o = .ret x) ∨ (∃ c, o = .ex c e) ∨ o = .stuck := fun e o h => by
    simp only [exec] at h
    rcases ofR_cases h with ⟨a, _, h⟩ | h | h
    · split at h
      · simp only [execs, exec] at h
        cases q : ev Φ B e with
        | ok x => rw [q] at h; exact .inr (.inl ⟨x, h.symm⟩)
        | ex c => rw [q] at h; exact .inr (.inr (.inl ⟨c, h.symm⟩))
        | stuck => rw [q] at h; exact .inr (.inr (.inr h.symm))
      · simp only [execs] at h; exact .inl h.symm
      · exact .inr (.inr (.inr h.symm))
    · exact .inr (.inr (.inl h))
    · exact .inr (.inr (.inr h))
  refine ⟨fun e e' h => ?_, fun e e' => ⟨fun h => ?_, fun h => ?_⟩⟩
  · rcases key e _ h with q | ⟨x, q⟩ | ⟨c, q⟩ | q <;> cases q
    rfl
  · rcases key e _ h with q | ⟨x, q⟩ | ⟨c, q⟩ | q <;> cases q
  · rcases key e _ h with q | ⟨x, q⟩ | ⟨c, q⟩ | q <;> cases q
theorem aug_ct {i : Nat} {op : BOp} {A : Exp} (e e' : Sl) : exec Φ F (.aug i op A) e ≠ .ct e' := fun h => by
  simp only [exec] at h
  cases q : e[i]? with
  | none => rw [q] at h; cases h
  | some s =>
    rw [q] at h
    cases s with
    | d x =>
      rcases ofR_cases h with ⟨a, _, h⟩ | ⟨c, h⟩ | h
      · split at h <;> cases h
      · cases h
      · cases h
    | _ => cases h
end
/-! a method of a new object, by levels -/
section
variable {pr : Program} {w : World} {K : PySem.W.Frag} {mg : Str → Option Value} {base : Heap} {C : Addr} {rv : Int → D}
structure NewG (pr : Program) (w : World) (K : PySem.W.Frag) (mg : Str → Option Value) (base : Heap) (C : Addr) (rv : Int → D) (T : List Fdef) (F : Nat) (c m : Str) (i n : Nat) : Prop where
  at_ : ∀ X : Cx, X.prog = pr → X.w = w → X.K = K → X.mg = mg → X.base = base → Room n X.A → NewX X K C rv (phi T F n) i c m
/-- what the top has written of the class -/
structure TxtC (pr : Program) (w : World) (K : PySem.W.Frag) (mg : Str → Option Value) (base : Heap) (C : Addr) (c : Str) : Prop where
  cl : Cls K C
  ex : ∃ fI fdI, FnOk pr w K mg base L2.CX0 1 fI fdI ["self"] (spInit C) ∧ Binds K fdI ["self"] [] ∧ Mk K C fI
  mgC : mg c = some (.ref C)
theorem phi_s {T : List Fdef} {F n i : Nat} {fn : Fdef} {args : List Rf.D} (h : T[i]? = some fn) : phi T F (n + 1) i args = fn.run (phi T F n) F args := by simp only [phi, h]
theorem newG_of {T : List Fdef} {F : Nat} {c m : Str} {i iw n : Nat} (tc : TxtC pr w K mg base C c) (hT : T[iw]? = some ⟨3, 3, [.ret (.call i [.var 0, .var 1, .var 2])]⟩) (g : ∀ j, j ≤ n → GoodM pr w K mg base C rv T F m i j) : NewG pr w K mg base C rv T F c m iw n := ⟨fun X e1 e2 e3 e4 e5 hr => ⟨fun xs r h => by
  subst e1; subst e2; subst e3; subst e4; subst e5
  match n, g, hr, h with
  | 0, _, _, h => have := h 0; cases this
  | 1, _, _, h =>
    exfalso
    have := h 0
    rw [phi_s hT] at this
    unfold Fdef.run at this
    split at this
    · rename_i hl
      obtain ⟨a, b, rfl⟩ : ∃ a b, xs = [a, b] := by
        match xs, hl with
        | [a, b], _ => exact ⟨a, b, rfl⟩
      simp [execs, exec, ev, evs, phi] at this
    · cases this
  | k + 2, g, hr, h =>
    obtain ⟨f, fd, ps, ok, hb, hm⟩ := (g (k + 1) (by omega)).ex
    obtain ⟨fI, fdI, okI, hbI, mk⟩ := tc.ex
    refine ⟨⟨k + 1, f, fI, fd, fdI, ps, phi T F (k + 1), i, ok, hr.mono (by omega), hb, hm, tc.cl, okI, hr.mono (by omega), hbI, mk, tc.mgC⟩, fun p => ?_⟩
    have := h p
    rw [phi_s hT] at this
    unfold Fdef.run at this
    split at this
    · rename_i hl
      obtain ⟨a, b, rfl⟩ : ∃ a b, xs = [a, b] := by
        match xs, hl with
        | [a, b], _ => exact ⟨a, b, rfl⟩
      have e3 : execs (phi T F (k + 1)) F [.ret (.call i [.var 0, .var 1, .var 2])] [.d (.int (p : Nat)), .d a, .d b] = Out.ofR (phi T F (k + 1) i [.int (p : Nat), a, b]) [.d (.int (p : Nat)), .d a, .d b] .ret := by
        simp only [execs, exec, ev, evs, List.getElem?_cons_zero, List.getElem?_cons_succ, Res.bind_ok]
        cases phi T F (k + 1) i [.int (p : Nat), a, b] <;> rfl
      rw [show ([PyData.int (p : Nat), a, b].map Slot.d ++ List.replicate (3 - 3) Slot.un) = [.d (.int (p : Nat)), .d a, .d b] from rfl, e3] at this
      show phi T F (k + 1) i [.int (p : Nat), a, b] = .ok r
      cases q : phi T F (k + 1) i [.int (p : Nat), a, b] with
      | ok x => rw [q] at this; exact this
      | ex c => rw [q] at this; cases this
      | stuck => rw [q] at this; cases this
    · cases this⟩⟩
end
/-! row, without the object -/
def bodyR (i2 : Nat) : List Stm := [.obj 0, .ifs (.chain .le .le (.con (.int 1)) (.var 1) (.con (.int 10000))) [.ret (.call i2 [.var 1])] [.brk]]
theorem row_inv {T : List Fdef} {F n iR i2 : Nat} {p : Nat} {ds : List D} {x : D} (hT : T[iR]? = some ⟨2, 2, bodyR i2⟩) (h : phi T F (n + 1) iR (.int (p : Nat) :: ds) = .ok x) : ∃ m : Int, ds = [.int m] ∧ 1 ≤ m ∧ m ≤ 10000 ∧ phi T F n i2 [.int m] = .ok x := by
  rw [phi_s hT] at h
  unfold Fdef.run at h
  split at h
  · rename_i hl
    obtain ⟨y, rfl⟩ : ∃ y, ds = [y] := by
      match ds, hl with
      | [y], _ => exact ⟨y, rfl⟩
    have e0 : ([PyData.int (p : Nat), y].map Slot.d ++ List.replicate (2 - 2) Slot.un) = [.d (.int (p : Nat)), .d y] := rfl
    have eo : exec (phi T F n) F (.obj 0) [.d (.int (p : Nat)), .d y] = .nx [.ob p, .d y] := by
      simp only [exec, List.getElem?_cons_zero]
      rw [if_pos (Int.natCast_nonneg p)]
      rfl
    simp only [e0] at h
    unfold bodyR at h
    rw [execs, eo, Out.seq_nx, execs] at h
    cases y with
    | int m =>
      by_cases h1 : 1 ≤ m
      · by_cases h2 : m ≤ 10000
        · refine ⟨m, rfl, h1, h2, ?_⟩
          have c1 : cmpD .le (.int 1) (.int m) = some true := by show some (decide _) = _; rw [decide_eq_true h1]
          have c2 : cmpD .le (.int m) (.int 10000) = some true := by show some (decide _) = _; rw [decide_eq_true h2]
          have e3 : exec (phi T F n) F (.ifs (.chain .le .le (.con (.int 1)) (.var 1) (.con (.int 10000))) [.ret (.call i2 [.var 1])] [.brk]) [.ob p, .d (.int m)] = Out.ofR (phi T F n i2 [.int m]) [.ob p, .d (.int m)] .ret := by
            simp only [exec, execs, ev, evs, List.getElem?_cons_zero, List.getElem?_cons_succ, Res.bind_ok, c1, c2, Res.of_some, if_true, Option.map_some, Out.ofR_ok]
            cases phi T F n i2 [.int m] <;> rfl
          rw [e3] at h
          cases q : phi T F n i2 [.int m] with
          | ok z => rw [q] at h; exact h
          | ex c => rw [q] at h; cases h
          | stuck => rw [q] at h; cases h
        · exfalso
          have c1 : cmpD .le (.int 1) (.int m) = some true := by show some (decide _) = _; rw [decide_eq_true h1]
          have c2 : cmpD .le (.int m) (.int 10000) = some false := by show some (decide _) = _; rw [decide_eq_false h2]
          simp [exec, execs, ev, c1, c2] at h
      · exfalso
        have c1 : cmpD .le (.int 1) (.int m) = some false := by show some (decide _) = _; rw [decide_eq_false h1]
        simp [exec, execs, ev, c1] at h
    | _ => exfalso; simp [exec, execs, ev, cmpD] at h
  · cases h
/-- what row answers -/
theorem row_len {K : PySem.W.Frag} {H : Hp} {vs : List V} {m : Int} (h : Dens K noAv H vs [.int m]) : vs = [.int m] := by
  cases h with
  | cons a b => cases b; cases a; rfl
theorem rows_look : ([(("rows" : Str), v)] : List (Str × V)).lookup ("rows" : Str) = some v := by
  rw [List.lookup_cons]
  simp
theorem valV_mem {k : Key} {v : V} : ∀ {kvs : List (Key × V)}, valV kvs k = some v → ∃ kv ∈ kvs, kv.1 = k ∧ kv.2 = v
  | [], h => by simp [valV] at h
  | x :: r, h => by
    by_cases e : x.1 = k
    · rw [show x = (x.1, x.2) from rfl, valV_pos e] at h
      exact ⟨x, List.mem_cons_self .., e, Option.some.inj h⟩
    · rw [show x = (x.1, x.2) from rfl, valV_neg e] at h
      obtain ⟨kv, h1, h2⟩ := valV_mem h
      exact ⟨kv, List.mem_cons_of_mem _ h1, h2⟩
theorem valV_new {k : Key} {v : V} : ∀ {kvs : List (Key × V)}, valV kvs k = none → valV (putK kvs k v) k = some v := fun {kvs} h => by
  rw [putK_new _ h]
  induction kvs with
  | nil => exact valV_pos rfl
  | cons x r ih =>
    by_cases e : x.1 = k
    · rw [show x = (x.1, x.2) from rfl, valV_pos e] at h; cases h
    · rw [show x = (x.1, x.2) from rfl, valV_neg e] at h
      rw [List.cons_append, show x = (x.1, x.2) from rfl, valV_neg e]
      exact ih h
theorem rowR {K : PySem.W.Frag} {ca : Nat → Addr} {H : Hp} {p : Addr} {m : Int} : Rel (PO K ca H) [.un, .d (.int m)] (L2.start ["self", "m"] [.ref p, .int m]) H := by
  have no : ∀ a, ¬ Owns [.un, .d (.int m)] (L2.start ["self", "m"] [.ref p, .int m]) a := fun a ⟨i, s, h1, h2, _⟩ => by
    match i with
    | 0 => simp at h1; subst h1; cases h2
    | 1 => simp at h1; subst h1; cases h2
    | i + 2 => simp at h1
  refine ⟨rfl, fun i s o h1 h2 => ?_, fun i j s t a h1 h2 => ?_, Same.refl _, fun a z => absurd z (no a)⟩
  · match i with
    | 0 => simp at h1; subst h1; trivial
    | 1 =>
      simp at h1; subst h1
      rw [start_get (show [V.ref p, V.int m][1]? = some (.int m) from rfl)] at h2
      cases h2
      exact ⟨_, rfl, .int m⟩
    | i + 2 => simp at h1
  · match i with
    | 0 => simp at h1; subst h1; cases h2
    | 1 => simp at h1; subst h1; cases h2
    | i + 2 => simp at h1
end
end Rf

set_option Elab.async false
set_option linter.all false
set_option maxRecDepth 100000
set_option maxHeartbeats 1000000
/-! Rf, part K: tools for the evaluator. -/
namespace Rf
noncomputable section
open PySem
section
variable {Φ : FT} {F : Nat} {e : Sl}
@[simp] theorem e_nop : ev Φ .nop e = .ok .none := by simp only [ev]
@[simp] theorem e_con {x : D} : ev Φ (.con x) e = .ok x := by simp only [ev]
def varK : Option Slot → Res D
  | some (.d x) => .ok x
  | _ => .stuck
def vwK : Option Slot → Res D
  | some (.d x) => .ok x
  | some (.ol xs) => .ok (.list xs)
  | some (.od kvs) => .ok (.dict kvs)
  | _ => .stuck
@[simp] theorem varK_d {x : D} : varK (some (.d x)) = .ok x := id rfl
@[simp] theorem vwK_d {x : D} : vwK (some (.d x)) = .ok x := id rfl
@[simp] theorem vwK_l {x : List D} : vwK (some (.ol x)) = .ok (.list x) := id rfl
@[simp] theorem vwK_k {x : List (D × D)} : vwK (some (.od x)) = .ok (.dict x) := id rfl
@[simp] theorem e_var {i : Nat} : ev Φ (.var i) e = varK e[i]? := by simp only [ev]; cases e[i]? with
  | none => rfl
  | some s => cases s <;> rfl
@[simp] theorem e_vw {i : Nat} : ev Φ (.vw i) e = vwK e[i]? := by simp only [ev]; cases e[i]? with
  | none => rfl
  | some s => cases s <;> rfl
def binK (op : BOp) (x y : D) : Res D := .of (binD op x y)
def cmpK (op : COp) (x y : D) : Res D := .of ((cmpD op x y).map .bool)
def andK (Φ : FT) (b : Exp) (e : Sl) : D → Res D
  | .bool true => ev Φ b e
  | .bool false => .ok (.bool false)
  | _ => .stuck
def orK (Φ : FT) (b : Exp) (e : Sl) : D → Res D
  | .bool true => .ok (.bool true)
  | .bool false => ev Φ b e
  | _ => .stuck
def notK : D → Res D
  | .bool k => .ok (.bool (!k))
  | _ => .stuck
def negK : D → Res D
  | .int k => .ok (.int (-k))
  | _ => .stuck
def iteK (Φ : FT) (a b : Exp) (e : Sl) : D → Res D
  | .bool true => ev Φ a e
  | .bool false => ev Φ b e
  | _ => .stuck
def chK2 (o2 : COp) (y z : D) : Res D := .of ((cmpD o2 y z).map .bool)
def chK (Φ : FT) (o2 : COp) (c : Exp) (e : Sl) (y : D) : Bool → Res D
  | true => (ev Φ c e).bind (chK2 o2 y)
  | false => .ok (.bool false)
@[simp] theorem andK_t {b : Exp} : andK Φ b e (.bool true) = ev Φ b e := id rfl
@[simp] theorem andK_f {b : Exp} : andK Φ b e (.bool false) = .ok (.bool false) := id rfl
@[simp] theorem orK_t {b : Exp} : orK Φ b e (.bool true) = .ok (.bool true) := id rfl
@[simp] theorem orK_f {b : Exp} : orK Φ b e (.bool false) = ev Φ b e := id rfl
@[simp] theorem notK_b {b : Bool} : notK (.bool b) = .ok (.bool (!b)) := id rfl
@[simp] theorem negK_i {b : Int} : negK (.int b) = .ok (.int (-b)) := id rfl
@[simp] theorem iteK_t {a b : Exp} : iteK Φ a b e (.bool true) = ev Φ a e := id rfl
@[simp] theorem iteK_f {a b : Exp} : iteK Φ a b e (.bool false) = ev Φ b e := id rfl
@[simp] theorem chK_t {o2 : COp} {c : Exp} {y : D} : chK Φ o2 c e y true = (ev Φ c e).bind (chK2 o2 y) := id rfl
@[simp] theorem chK_f {o2 : COp} {c : Exp} {y : D} : chK Φ o2 c e y false = .ok (.bool false) := id rfl
@[simp] theorem e_bin {op : BOp} {a b : Exp} : ev Φ (.bin op a b) e = (ev Φ a e).bind fun x => (ev Φ b e).bind (binK op x) := by simp only [ev]; rfl
@[simp] theorem e_cmp {op : COp} {a b : Exp} : ev Φ (.cmp op a b) e = (ev Φ a e).bind fun x => (ev Φ b e).bind (cmpK op x) := by simp only [ev]; rfl
@[simp] theorem e_chain {o1 o2 : COp} {a b c : Exp} : ev Φ (.chain o1 o2 a b c) e = (ev Φ a e).bind fun x => (ev Φ b e).bind fun y => (Res.of (cmpD o1 x y)).bind (chK Φ o2 c e y) := by
  simp only [ev]
  congr 1; funext x; congr 1; funext y; congr 1; funext k
  cases k <;> rfl
@[simp] theorem e_and {a b : Exp} : ev Φ (.and a b) e = (ev Φ a e).bind (andK Φ b e) := by simp only [ev]; rfl
@[simp] theorem e_or {a b : Exp} : ev Φ (.or a b) e = (ev Φ a e).bind (orK Φ b e) := by simp only [ev]; rfl
@[simp] theorem e_not {a : Exp} : ev Φ (.not a) e = (ev Φ a e).bind notK := by simp only [ev]; rfl
@[simp] theorem e_neg {a : Exp} : ev Φ (.neg a) e = (ev Φ a e).bind negK := by simp only [ev]; rfl
@[simp] theorem e_ite {c a b : Exp} : ev Φ (.ite c a b) e = (ev Φ c e).bind (iteK Φ a b e) := by simp only [ev]; rfl
@[simp] theorem e_tup {es : List Exp} : ev Φ (.tup es) e = (evs Φ es e).bind fun xs => .ok (.tuple xs) := by simp only [ev]
@[simp] theorem e_lst {es : List Exp} : ev Φ (.lst es) e = (evs Φ es e).bind fun xs => .ok (.list xs) := by simp only [ev]
@[simp] theorem e_emp : ev Φ .emp e = .ok (.dict []) := by simp only [ev]
def idxK (x y : D) : Res D := .of (idxD x y)
@[simp] theorem e_idx {a b : Exp} : ev Φ (.idx a b) e = (ev Φ a e).bind fun x => (ev Φ b e).bind (idxK x) := by simp only [ev]; rfl
def slK (x : D) (l h : Option Int) : Res D := .of (sliceD x l h)
@[simp] theorem e_sl {a l h : Exp} : ev Φ (.sl a l h) e = (ev Φ a e).bind fun x => (evo Φ l e).bind fun l => (evo Φ h e).bind (slK x l) := by simp only [ev]; rfl
@[simp] theorem evo_nop : evo Φ .nop e = .ok none := id rfl
theorem evo_of {a : Exp} {i : Int} (h : a.isNop = false) (h2 : ev Φ a e = .ok (.int i)) : evo Φ a e = .ok (some i) := by unfold evo; rw [h, if_neg (by decide), h2]; rfl
def partK : D → Res (Option Int) := partD
@[simp] theorem partK_i {i : Int} : partK (.int i) = .ok (some i) := id rfl
@[simp] theorem evo_con {x : D} : evo Φ (.con x) e = partK x := id rfl
@[simp] theorem evo_var {i : Nat} : evo Φ (.var i) e = (varK e[i]?).bind partK := by rw [← e_var (Φ := Φ)]; rfl
@[simp] theorem evo_bin {op : BOp} {a b : Exp} : evo Φ (.bin op a b) e = (ev Φ (.bin op a b) e).bind partK := id rfl
@[simp] theorem evo_idx {a b : Exp} : evo Φ (.idx a b) e = (ev Φ (.idx a b) e).bind partK := id rfl
@[simp] theorem evo_neg {a : Exp} : evo Φ (.neg a) e = (ev Φ (.neg a) e).bind partK := id rfl
@[simp] theorem evo_call {f : Nat} {a : List Exp} : evo Φ (.call f a) e = (ev Φ (.call f a) e).bind partK := id rfl
@[simp] theorem evo_blt {f : Blt} {a : List Exp} : evo Φ (.blt f a) e = (ev Φ (.blt f a) e).bind partK := id rfl
@[simp] theorem e_rev {a : Exp} : ev Φ (.rev a) e = (ev Φ a e).bind fun x => .of (revD x) := by simp only [ev]
@[simp] theorem e_revs {a : Exp} : ev Φ (.revs a) e = (ev Φ a e).bind fun x => .of (revsD x) := by simp only [ev]
@[simp] theorem e_call {f : Nat} {es : List Exp} : ev Φ (.call f es) e = (evs Φ es e).bind (Φ f) := by simp only [ev]
def flK (y : D) : Res D := if noLst y then .ok y else .stuck
@[simp] theorem e_callv {f : Nat} {es : List Exp} : ev Φ (.callv f es) e = (evs Φ es e).bind fun xs => (Φ f xs).bind flK := by simp only [ev]; rfl
@[simp] theorem flK_i {i : Int} : flK (.int i) = .ok (.int i) := id rfl
@[simp] theorem flK_b {i : Bool} : flK (.bool i) = .ok (.bool i) := id rfl
@[simp] theorem flK_s {i : Str} : flK (.str i) = .ok (.str i) := id rfl
@[simp] theorem flK_n : flK .none = .ok .none := id rfl
def bltK (b : Blt) (xs : List D) : Res D := .of (bltD b xs)
@[simp] theorem e_blt {b : Blt} {es : List Exp} : ev Φ (.blt b es) e = (evs Φ es e).bind (bltK b) := by simp only [ev]; rfl
def mthK (m : Mth) (x : D) (xs : List D) : Res D := .of (mthD m x xs)
@[simp] theorem e_mth {m : Mth} {o : Exp} {es : List Exp} : ev Φ (.mth m o es) e = (ev Φ o e).bind fun x => (evs Φ es e).bind (mthK m x) := by simp only [ev]; rfl
def compK (Φ : FT) (elt : Exp) (t : Tgt) (ifs : List Exp) (e : Sl) (its : List D) : Res D :=
  if freeOf e t.ix && decide (its.length ≤ line) then (noEx (compL (ev Φ elt) (evt Φ ifs) t its (wipeS e t.ix))).bind fun ys => .ok (.list ys) else .stuck
def srcK (k : SrcK) (xs : List D) : Res (List D) := .of (srcD k xs)
def dgetV (kvs : List (D × D)) (y z : D) : Res D := .of (mthD .get (.dict kvs) [y, z])
def dgetK (Φ : FT) (k d : Exp) (e : Sl) : D → Res D
  | .dict kvs => (ev Φ k e).bind fun y => (ev Φ d e).bind (dgetV kvs y)
  | _ => .stuck
@[simp] theorem dgetK_d {k d : Exp} {kvs : List (D × D)} : dgetK Φ k d e (.dict kvs) = (ev Φ k e).bind fun y => (ev Φ d e).bind (dgetV kvs y) := id rfl
@[simp] theorem dgetV_i {kvs : List (D × D)} {i : Int} {z : D} : dgetV kvs (.int i) z = .ok ((lookD kvs (.int i)).getD z) := id rfl
@[simp] theorem e_dget {o k d : Exp} : ev Φ (.dget o k d) e = (ev Φ o e).bind (dgetK Φ k d e) := by
  simp only [ev]
  cases ev Φ o e with
  | ok x => cases x <;> rfl
  | ex c => rfl
  | stuck => rfl
@[simp] theorem e_comp {elt : Exp} {t : Tgt} {k : SrcK} {es ifs : List Exp} : ev Φ (.comp elt t k es ifs) e = (evs Φ es e).bind fun xs => (srcK k xs).bind (compK Φ elt t ifs e) := by simp only [ev]; rfl
@[simp] theorem srcK_l {xs : List D} : srcK .lst [.list xs] = .ok xs := id rfl
@[simp] theorem srcK_t {xs : List D} : srcK .tup [.tuple xs] = .ok xs := id rfl
@[simp] theorem srcK_s {z : Str} : srcK .str [.str z] = .ok (z.cps.toList.map fun c => .str (S [c])) := id rfl
theorem srcK_r1 {n : Int} (h : n ≤ 4611686018427387903) (h0 : 0 ≤ n) : srcK .rng [.int n] = .ok (rngD 0 n.toNat) := by
  have h1 : -(2 ^ 62) ≤ n ∧ n < 2 ^ 62 := ⟨by omega, by omega⟩
  simp only [srcK, srcD, if_pos h1, Res.of_some]
theorem srcK_rn {n : Nat} (h : n ≤ 1000000) : srcK .rng [.int (n : Int)] = .ok (rngD 0 n) := srcK_r1 (by omega) (by omega)
@[simp] theorem srcK_z {xs ys : List D} : srcK .zip [.list xs, .list ys] = .ok (zipD xs ys) := id rfl
@[simp] theorem srcK_zt {xs ys : List D} : srcK .zip [.tuple xs, .tuple ys] = .ok (zipD xs ys) := id rfl
@[simp] theorem es_nil : evs Φ [] e = .ok [] := by simp only [evs]
@[simp] theorem es_cons {a : Exp} {r : List Exp} : evs Φ (a :: r) e = (ev Φ a e).bind fun x => (evs Φ r e).bind fun xs => .ok (x :: xs) := by simp only [evs]
@[simp] theorem et_nil : evt Φ [] e = .ok true := by simp only [evt]
/-! what the operations give -/
@[simp] theorem binK_add {i j : Int} : binK .add (.int i) (.int j) = .ok (.int (i + j)) := id rfl
@[simp] theorem binK_sub {i j : Int} : binK .sub (.int i) (.int j) = .ok (.int (i - j)) := id rfl
theorem binK_mul {i j : Int} (h : i.natAbs < 18446744073709551616 ∨ j.natAbs < 18446744073709551616) : binK .mul (.int i) (.int j) = .ok (.int (i * j)) := by
  have h1 : i.natAbs < 2 ^ 64 ∨ j.natAbs < 2 ^ 64 := h
  simp only [binK, binD, if_pos h1, Res.of_some]
@[simp] theorem binK_mulr {i j : Int} (h : j.natAbs < 18446744073709551616) : binK .mul (.int i) (.int j) = .ok (.int (i * j)) := binK_mul (.inr h)
@[simp] theorem binK_mull {i j : Int} (h : i.natAbs < 18446744073709551616) : binK .mul (.int i) (.int j) = .ok (.int (i * j)) := binK_mul (.inl h)
@[simp] theorem binK_div {i j : Int} (h : 0 < j) (h2 : j < 1073741824) : binK .fdiv (.int i) (.int j) = .ok (.int (i / j)) := by simp only [binK, binD, if_pos (And.intro h h2), Res.of_some]
@[simp] theorem binK_mod {i j : Int} (h : 0 < j) : binK .mod (.int i) (.int j) = .ok (.int (i % j)) := by simp only [binK, binD, if_pos h, Res.of_some]
theorem binK_shlW {i : Int} {j : Nat} (h : j ≤ 1000000) (h2 : i.natAbs < 2 ^ 10000) : binK .shl (.int i) (.int (j : Nat)) = .ok (.int (i * 2 ^ j)) := by
  have h1 : 0 ≤ ((j : Nat) : Int) ∧ ((j : Nat) : Int) ≤ 1000000 ∧ i.natAbs < 2 ^ 10000 := ⟨Int.natCast_nonneg _, by clear h2; omega, h2⟩
  simp only [binK, binD, if_pos h1, Res.of_some, Int.toNat_natCast]
theorem binK_shr {i : Int} {j : Nat} : binK .shr (.int i) (.int (j : Nat)) = .ok (.int (i / 2 ^ j)) := by
  simp only [binK, binD, if_pos (Int.natCast_nonneg j), Res.of_some, Int.toNat_natCast]
@[simp] theorem binK_band {i j : Int} : binK .band (.int i) (.int j) = .ok (.int (Builtin.bitAnd i j)) := id rfl
@[simp] theorem binK_pow {i j : Int} (h : 0 ≤ j) (h2 : j ≤ 1000000) (h3 : i.natAbs < 18446744073709551616) : binK .pow (.int i) (.int j) = .ok (.int (i ^ j.toNat)) := by
  have h1 : 0 ≤ j ∧ j ≤ 1000000 ∧ i.natAbs < 2 ^ 64 := ⟨h, h2, h3⟩
  simp only [binK, binD, if_pos h1, Res.of_some]
theorem binK_str {x y : Str} (h : x.length + y.length ≤ 1000000) : binK .add (.str x) (.str y) = .ok (.str (x ++ y)) := by
  simp only [binK, binD]
  rw [if_pos (show _ ≤ line from h)]
  rfl
theorem binK_lst {x y : List D} (h : x.length + y.length ≤ 1000000) : binK .add (.list x) (.list y) = .ok (.list (x ++ y)) := by
  simp only [binK, binD]
  rw [if_pos (show _ ≤ line from h)]
  rfl
@[simp] theorem cmpK_lt {i j : Int} : cmpK .lt (.int i) (.int j) = .ok (.bool (decide (i < j))) := id rfl
@[simp] theorem cmpK_le {i j : Int} : cmpK .le (.int i) (.int j) = .ok (.bool (decide (i ≤ j))) := id rfl
@[simp] theorem cmpK_gt {i j : Int} : cmpK .gt (.int i) (.int j) = .ok (.bool (decide (j < i))) := id rfl
@[simp] theorem cmpK_ge {i j : Int} : cmpK .ge (.int i) (.int j) = .ok (.bool (decide (j ≤ i))) := id rfl
@[simp] theorem cmpK_eqI {i j : Int} : cmpK .eq (.int i) (.int j) = .ok (.bool (decide (i = j))) := by
  simp [cmpK, cmpD, eqOk, PyData.canLay0, PyData.depth, PyData.eqv, Bool.beq_eq_decide_eq]
@[simp] theorem cmpK_neI {i j : Int} : cmpK .ne (.int i) (.int j) = .ok (.bool (!decide (i = j))) := by
  simp [cmpK, cmpD, eqOk, PyData.canLay0, PyData.depth, PyData.eqv, Bool.beq_eq_decide_eq]
@[simp] theorem cmpK_eqS {i j : Str} (h : PyData.strOk i = true) (h2 : PyData.strOk j = true) : cmpK .eq (.str i) (.str j) = .ok (.bool (i == j)) := by
  simp [cmpK, cmpD, eqOk, PyData.canLay0, PyData.depth, PyData.eqv, h, h2]
@[simp] theorem cmpK_neS {i j : Str} (h : PyData.strOk i = true) (h2 : PyData.strOk j = true) : cmpK .ne (.str i) (.str j) = .ok (.bool (!(i == j))) := by
  simp [cmpK, cmpD, eqOk, PyData.canLay0, PyData.depth, PyData.eqv, h, h2]
@[simp] theorem cmpK_eqB {i j : Bool} : cmpK .eq (.bool i) (.bool j) = .ok (.bool (decide (i = j))) := by
  cases i <;> cases j <;> rfl
@[simp] theorem cmpK_neB {i j : Bool} : cmpK .ne (.bool i) (.bool j) = .ok (.bool (!decide (i = j))) := by
  cases i <;> cases j <;> rfl
@[simp] theorem cmpK_isnotB {i j : Bool} : cmpK .isnot (.bool i) (.bool j) = .ok (.bool (!decide (i = j))) := id rfl
@[simp] theorem cmpK_isB {i j : Bool} : cmpK .is (.bool i) (.bool j) = .ok (.bool (decide (i = j))) := id rfl
@[simp] theorem bltK_lenL {xs : List D} : bltK .len [.list xs] = .ok (.int xs.length) := id rfl
@[simp] theorem bltK_lenT {xs : List D} : bltK .len [.tuple xs] = .ok (.int xs.length) := id rfl
@[simp] theorem bltK_lenD {xs : List (D × D)} : bltK .len [.dict xs] = .ok (.int xs.length) := id rfl
theorem bltK_lenS {z : Str} (h : z.length ≤ 1000000) : bltK .len [.str z] = .ok (.int z.length) := by
  simp only [bltK, bltD]
  rw [if_pos (show _ ≤ line from h)]
  rfl
@[simp] theorem bltK_int {i : Int} : bltK .int [.int i] = .ok (.int i) := id rfl
@[simp] theorem bltK_intB {b : Bool} : bltK .int [.bool b] = .ok (.int (if b then 1 else 0)) := id rfl
@[simp] theorem bltK_abs {i : Int} : bltK .abs [.int i] = .ok (.int (if i < 0 then -i else i)) := id rfl
@[simp] theorem bltK_max {i j : Int} : bltK .max [.int i, .int j] = .ok (.int (if j > i then j else i)) := id rfl
@[simp] theorem bltK_min {i j : Int} : bltK .min [.int i, .int j] = .ok (.int (if j < i then j else i)) := id rfl
@[simp] theorem bltK_tupL {xs : List D} : bltK .tuple [.list xs] = .ok (.tuple xs) := id rfl
@[simp] theorem bltK_tupT {xs : List D} : bltK .tuple [.tuple xs] = .ok (.tuple xs) := id rfl
@[simp] theorem bltK_lstL {xs : List D} : bltK .list [.list xs] = .ok (.list xs) := id rfl
@[simp] theorem bltK_isi {T : Nat} {x : D} : bltK (.isi T) [x] = .of ((isiD T x).map .bool) := by unfold bltK bltD; cases x <;> rfl
@[simp] theorem isi_i {T : Nat} {i : Int} : isiD T (.int i) = some (T == 0) := id rfl
@[simp] theorem isi_b {T : Nat} {i : Bool} : isiD T (.bool i) = some (T == 0 || T == 1) := id rfl
@[simp] theorem isi_s {T : Nat} {i : Str} : isiD T (.str i) = some (T == 2) := id rfl
@[simp] theorem isi_t {T : Nat} {i : List D} : isiD T (.tuple i) = some (T == 3) := id rfl
@[simp] theorem isi_l {T : Nat} {i : List D} : isiD T (.list i) = some (T == 4) := id rfl
/-! statements -/
def asgK (t : Tgt) (e : Sl) (x : D) : Out := match bindT t x e with
  | some e' => .nx e'
  | none => .stuck
def ifK (Φ : FT) (F : Nat) (a b : List Stm) (e : Sl) : D → Out
  | .bool true => execs Φ F a e
  | .bool false => execs Φ F b e
  | _ => .stuck
@[simp] theorem ifK_t {a b : List Stm} : ifK Φ F a b e (.bool true) = execs Φ F a e := id rfl
@[simp] theorem ifK_f {a b : List Stm} : ifK Φ F a b e (.bool false) = execs Φ F b e := id rfl
@[simp] theorem asgK_nm {i : Nat} {x : D} (h : i < e.length) : asgK (.nm i) e x = .nx (e.set i (.d x)) := by unfold asgK bindT; rw [if_pos h]
@[simp] theorem x_nil : execs Φ F [] e = .nx e := by simp only [execs]
@[simp] theorem x_cons {s : Stm} {r : List Stm} : execs Φ F (s :: r) e = (exec Φ F s e).seq (execs Φ F r) := by simp only [execs]
@[simp] theorem seq_nil {o : Out} : o.seq (execs Φ F []) = o := by cases o <;> first | rfl | exact x_nil
@[simp] theorem slK_l {xs : List D} {lo hi : Option Int} : slK (.list xs) lo hi = .ok (.list (cutD xs lo hi)) := id rfl
@[simp] theorem slK_t {xs : List D} {lo hi : Option Int} : slK (.tuple xs) lo hi = .ok (.tuple (cutD xs lo hi)) := id rfl
theorem slK_s {z : Str} {lo hi : Option Int} (h : z.length ≤ line) : slK (.str z) lo hi = .ok (.str (S (cutD z.cps.toList lo hi))) := by
  simp only [slK, sliceD]
  rw [if_pos h]
  rfl
theorem cut_to {α : Type} {xs : List α} {n : Nat} : cutD xs none (some (n : Int)) = xs.take n := by
  unfold cutD
  rw [HT.sIx_none, HT.sIx_nat, Nat.sub_zero, List.drop_zero]
  by_cases h : n ≤ xs.length
  · rw [Nat.min_eq_left h]
  · rw [Nat.min_eq_right (by omega), List.take_length, List.take_of_length_le (by omega)]
theorem cut_from {α : Type} {xs : List α} {n : Nat} : cutD xs (some (n : Int)) none = xs.drop n := by
  unfold cutD
  rw [HT.sIx_none, HT.sIx_nat]
  by_cases h : n ≤ xs.length
  · rw [Nat.min_eq_left h, List.take_of_length_le (by rw [List.length_drop]; omega)]
  · rw [Nat.min_eq_right (by omega), Nat.sub_self, List.take_zero, List.drop_of_length_le (by omega)]
theorem cut_mid {α : Type} {xs : List α} {n m : Nat} (h : n ≤ m) (h2 : m ≤ xs.length) : cutD xs (some (n : Int)) (some (m : Int)) = (xs.drop n).take (m - n) := by
  unfold cutD
  rw [HT.sIx_nat, HT.sIx_nat, Nat.min_eq_left h2, Nat.min_eq_left (by omega)]
@[simp] theorem x_asg {t : Tgt} {a : Exp} : exec Φ F (.asg t a) e = Out.ofR (ev Φ a e) e (asgK t e) := by simp only [exec]; rfl
@[simp] theorem x_ifs {c : Exp} {a b : List Stm} : exec Φ F (.ifs c a b) e = Out.ofR (ev Φ c e) e (ifK Φ F a b e) := by simp only [exec]; rfl
@[simp] theorem x_ret {a : Exp} : exec Φ F (.ret a) e = Out.ofR (ev Φ a e) e .ret := by simp only [exec]
@[simp] theorem x_retn : exec Φ F .retn e = .ret .none := by simp only [exec]
@[simp] theorem x_brk : exec Φ F .brk e = .bk e := by simp only [exec]
@[simp] theorem x_cnt : exec Φ F .cnt e = .ct e := by simp only [exec]
@[simp] theorem x_pas : exec Φ F .pas e = .nx e := by simp only [exec]
def ownK (i : Nat) (e : Sl) (x : D) : Out := match ownS x with
  | some s => if i < e.length then .nx (e.set i s) else .stuck
  | none => .stuck
@[simp] theorem ownK_l {i : Nat} {xs : List D} (h : i < e.length) : ownK i e (.list xs) = .nx (e.set i (.ol xs)) := by simp only [ownK, ownS, if_pos h]
@[simp] theorem ownK_e {i : Nat} (h : i < e.length) : ownK i e (.dict []) = .nx (e.set i (.od [])) := by simp only [ownK, ownS, keysOk, if_pos h, if_true]
@[simp] theorem x_own {i : Nat} {a : Exp} : exec Φ F (.own i a) e = Out.ofR (ev Φ a e) e (ownK i e) := by simp only [exec]; rfl
def appK (Φ : FT) (i : Nat) (a : Exp) (e : Sl) : Option Slot → Out
  | some (.ol xs) => Out.ofR (ev Φ a e) e fun x => if xs.length < line then .nx (e.set i (.ol (xs ++ [x]))) else .stuck
  | _ => .stuck
theorem appK_l {i : Nat} {a : Exp} {xs : List D} : appK Φ i a e (some (.ol xs)) = Out.ofR (ev Φ a e) e fun x => if xs.length < line then .nx (e.set i (.ol (xs ++ [x]))) else .stuck := rfl
@[simp] theorem appK_ok {i : Nat} {a : Exp} {xs : List D} (h : xs.length < line) : appK Φ i a e (some (.ol xs)) = Out.ofR (ev Φ a e) e fun x => .nx (e.set i (.ol (xs ++ [x]))) := by
  rw [appK_l]; congr 1; funext x; rw [if_pos h]
@[simp] theorem x_app {i : Nat} {a : Exp} : exec Φ F (.app i a) e = appK Φ i a e e[i]? := by simp only [exec]; cases e[i]? with
  | none => rfl
  | some s => cases s <;> rfl
@[simp] theorem x_for {t : Tgt} {k : SrcK} {es : List Exp} {b : List Stm} : exec Φ F (.for t k es b) e = Out.ofR ((evs Φ es e).bind (srcK k)) e fun its => forL (execs Φ F b) t its e := by
  simp only [exec]
  cases evs Φ es e with
  | ok xs =>
    simp only [Out.ofR_ok, Res.bind_ok]
    unfold srcK
    cases srcD k xs <;> rfl
  | ex c => rfl
  | stuck => rfl
def setdK (i : Nat) (e : Sl) (kvs : List (D × D)) (x : D) (k : D) : Out := if (keyD k).isSome ∧ kvs.length < line then .nx (e.set i (.od (putD kvs k x))) else .stuck
def setdS (Φ : FT) (i : Nat) (k a : Exp) (e : Sl) : Option Slot → Out
  | some (.od kvs) => Out.ofR (ev Φ a e) e fun x => Out.ofR (ev Φ k e) e (setdK i e kvs x)
  | _ => .stuck
@[simp] theorem setdS_d {i : Nat} {k a : Exp} {kvs : List (D × D)} : setdS Φ i k a e (some (.od kvs)) = Out.ofR (ev Φ a e) e fun x => Out.ofR (ev Φ k e) e (setdK i e kvs x) := id rfl
theorem setdK_i {i : Nat} {kvs : List (D × D)} {x : D} {k : Int} (h : kvs.length < line) : setdK i e kvs x (.int k) = .nx (e.set i (.od (putD kvs (.int k) x))) := by
  unfold setdK
  rw [if_pos ⟨rfl, h⟩]
@[simp] theorem x_setd {i : Nat} {k a : Exp} : exec Φ F (.setd i k a) e = setdS Φ i k a e e[i]? := by
  simp only [exec]
  cases e[i]? with
  | none => rfl
  | some s => cases s <;> rfl
@[simp] theorem bltK_dict {kvs : List (D × D)} : bltK .dict [.dict kvs] = .ok (.dict kvs) := id rfl
def fordK (Φ : FT) (F : Nat) (t : Tgt) (b : List Stm) (e : Sl) : Option Slot → Out
  | some (.d (.dict kvs)) => (forL (execs Φ F b) t (kvs.map (·.1)) e).calm
  | _ => .stuck
@[simp] theorem fordK_d {t : Tgt} {b : List Stm} {kvs : List (D × D)} : fordK Φ F t b e (some (.d (.dict kvs))) = (forL (execs Φ F b) t (kvs.map (·.1)) e).calm := id rfl
@[simp] theorem x_ford {t : Tgt} {i : Nat} {b : List Stm} : exec Φ F (.ford t i b) e = fordK Φ F t b e e[i]? := by
  simp only [exec]
  cases e[i]? with
  | none => rfl
  | some s => cases s with
    | d x => cases x <;> rfl
    | _ => rfl
def giveK (i : Nat) (e : Sl) : Option Slot → Out
  | some (.ol xs) => .nx (e.set i (.d (.list xs)))
  | _ => .stuck
@[simp] theorem giveK_l {i : Nat} {xs : List D} : giveK i e (some (.ol xs)) = .nx (e.set i (.d (.list xs))) := id rfl
@[simp] theorem x_give {i : Nat} : exec Φ F (.give i) e = giveK i e e[i]? := by simp only [exec]; cases e[i]? with
  | none => rfl
  | some s => cases s <;> rfl
@[simp] theorem x_par {i j : Nat} {a b : Exp} : exec Φ F (.par i j a b) e = Out.ofR (ev Φ a e) e fun x => Out.ofR (ev Φ b e) e fun y => if i < e.length ∧ j < e.length then .nx ((e.set i (.d x)).set j (.d y)) else .stuck := by simp only [exec]
theorem forL_nil {b : Sl → Out} {t : Tgt} : forL b t [] e = .nx e := by simp only [forL]
theorem forL_cons {b : Sl → Out} {t : Tgt} {x : D} {xs : List D} {e1 : Sl} (h : bindT t x e = some e1) : forL b t (x :: xs) e = (b e1).turn fun e2 => forL b t xs e2 := by simp only [forL, h]
/-- a loop that only goes on -/
theorem forL_inv {b : Sl → Out} {t : Tgt} (I : Nat → Sl → Prop) : ∀ (its : List D) (e : Sl) (k : Nat), I k e → (∀ i x e, its[i]? = some x → I (k + i) e → ∃ e1 e2, bindT t x e = some e1 ∧ (b e1 = .nx e2 ∨ b e1 = .ct e2) ∧ I (k + i + 1) e2) → ∃ e', forL b t its e = .nx e' ∧ I (k + its.length) e'
  | [], e, k, h0, _ => ⟨e, forL_nil, h0⟩
  | x :: xs, e, k, h0, hs => by
    obtain ⟨e1, e2, h1, h2, h3⟩ := hs 0 x e rfl h0
    obtain ⟨e', q1, q2⟩ := forL_inv I xs e2 (k + 1) h3 fun i x e hi h => by
      have := hs (i + 1) x e (by simpa using hi) (by rw [show k + (i + 1) = k + 1 + i by omega]; exact h)
      rw [show k + (i + 1) + 1 = k + 1 + i + 1 by omega] at this
      exact this
    refine ⟨e', ?_, by rw [show k + (x :: xs).length = k + 1 + xs.length by simp only [List.length_cons]; omega]; exact q2⟩
    rw [forL_cons h1]
    rcases h2 with h2 | h2 <;> rw [h2] <;> exact q1
/-- a loop whose turns may also break or return; what is asked of the end -/
theorem forL_post {b : Sl → Out} {t : Tgt} (I : Nat → Sl → Prop) (Q : Out → Prop) : ∀ (its : List D) (e : Sl) (k : Nat), I k e → (∀ i x e, its[i]? = some x → I (k + i) e → ∃ e1, bindT t x e = some e1 ∧ ((∃ e2, (b e1 = .nx e2 ∨ b e1 = .ct e2) ∧ I (k + i + 1) e2) ∨ (∃ e2, b e1 = .bk e2 ∧ Q (.nx e2)) ∨ (∃ x, b e1 = .ret x ∧ Q (.ret x)))) → (∀ e, I (k + its.length) e → Q (.nx e)) → Q (forL b t its e)
  | [], e, k, h0, _, hd => by rw [forL_nil]; exact hd e h0
  | x :: xs, e, k, h0, hs, hd => by
    obtain ⟨e1, h1, h2⟩ := hs 0 x e rfl h0
    rw [forL_cons h1]
    rcases h2 with ⟨e2, h2, h3⟩ | ⟨e2, h2, h3⟩ | ⟨r, h2, h3⟩
    · have := forL_post I Q xs e2 (k + 1) h3 (fun i x e hi h => by
        have := hs (i + 1) x e (by simpa using hi) (by rw [show k + (i + 1) = k + 1 + i by omega]; exact h)
        rw [show k + (i + 1) + 1 = k + 1 + i + 1 by omega] at this
        exact this) (fun e h => hd e (by rw [show k + (x :: xs).length = k + 1 + xs.length by simp only [List.length_cons]; omega]; exact h))
      rcases h2 with h2 | h2 <;> rw [h2] <;> exact this
    · rw [h2]; exact h3
    · rw [h2]; exact h3
theorem compL_all {f : Sl → Res D} {g : Sl → Res Bool} {t : Tgt} {h : D → D} (hg : ∀ e, g e = .ok true) : ∀ (its : List D), (∀ x ∈ its, ∃ e1, bindT t x e = some e1 ∧ f e1 = .ok (h x)) → compL f g t its e = .ok (its.map h)
  | [], _ => by simp only [compL, List.map_nil]
  | x :: xs, hs => by
    obtain ⟨e1, h1, h2⟩ := hs x (List.mem_cons_self ..)
    have ih := compL_all hg xs fun y hy => hs y (List.mem_cons_of_mem _ hy)
    simp only [compL, h1, hg, Res.bind_ok, if_pos, h2, ih, List.map_cons]
theorem rng_get {lo : Int} {n i : Nat} {x : D} (h : (rngD lo n)[i]? = some x) : i < n ∧ x = .int (lo + i) := by
  unfold rngD at h
  rw [List.getElem?_map] at h
  cases q : (List.range n)[i]? with
  | none => rw [q] at h; cases h
  | some j =>
    rw [q] at h
    obtain ⟨hi, e⟩ := List.getElem?_eq_some_iff.mp q
    rw [List.getElem_range] at e
    subst e
    simp only [Option.map_some, Option.some.injEq] at h
    exact ⟨by simpa using hi, h.symm⟩
@[simp] theorem rng_len {lo : Int} {n : Nat} : (rngD lo n).length = n := by simp [rngD]
/-- a list's item at a nat -/
theorem atI_at {α : Type} {xs : List α} {i : Int} {x : α} (h0 : 0 ≤ i) (h : xs[i.toNat]? = some x) : L2.atI xs i = some x := by
  obtain ⟨n, rfl⟩ := Int.eq_ofNat_of_zero_le h0
  exact L2.atI_nat (by simpa using h)
theorem get_ints {l : List Int} {i : Nat} (h : i < l.length) : (l.map PyData.int)[i]? = some (.int l[i]) := by rw [List.getElem?_map, List.getElem?_eq_getElem h]; rfl
end
/-! ### what is asked of an end -/
structure Is (Q : Out → Prop) (o : Out) : Prop where
  mk :: (out : Q o)
theorem is_eq {Q : Out → Prop} {o : Out} : Is Q o = Q o := propext ⟨fun h => h.out, fun h => ⟨h⟩⟩
/-- a loop's turn -/
def turnB (b : Sl → Out) (t : Tgt) (x : D) (e : Sl) : Out := match bindT t x e with
  | some e1 => b e1
  | none => .stuck
/-- what a turn is to reach -/
def Turn (Q : Out → Prop) (I : Sl → Prop) (f : Sl → Out) : Out → Prop
  | .nx e => I e
  | .ct e => I e
  | .bk e => Is Q (f e)
  | .ret x => Q (.ret x)
  | _ => False
@[simp] theorem Turn_nx {Q : Out → Prop} {I : Sl → Prop} {f : Sl → Out} {e : Sl} : Is (Turn Q I f) (.nx e) = I e := is_eq
@[simp] theorem Turn_ct {Q : Out → Prop} {I : Sl → Prop} {f : Sl → Out} {e : Sl} : Is (Turn Q I f) (.ct e) = I e := is_eq
@[simp] theorem Turn_bk {Q : Out → Prop} {I : Sl → Prop} {f : Sl → Out} {e : Sl} : Is (Turn Q I f) (.bk e) = Is Q (f e) := is_eq
@[simp] theorem Turn_ret {Q : Out → Prop} {I : Sl → Prop} {f : Sl → Out} {x : D} : Is (Turn Q I f) (.ret x) = Q (.ret x) := is_eq
theorem Is.for {Q : Out → Prop} {b : Sl → Out} {t : Tgt} {its : List D} {e : Sl} {f : Sl → Out} (I : Nat → Sl → Prop) (h0 : I 0 e) (hs : ∀ i x e, its[i]? = some x → I i e → Is (Turn Q (I (i + 1)) f) (turnB b t x e)) (hd : ∀ e, I its.length e → Is Q (f e)) : Is Q ((forL b t its e).seq f) := by
  refine forL_post (fun i e => I i e) (fun o => Is Q (o.seq f)) its e 0 h0 (fun i x e hx hi => ?_) (fun e h => hd e (by rw [Nat.zero_add] at h; exact h))
  rw [Nat.zero_add] at hi ⊢
  have h := (hs i x e hx hi).out
  unfold turnB at h
  cases q : bindT t x e with
  | none => rw [q] at h; exact h.elim
  | some e1 =>
    rw [q] at h
    refine ⟨e1, rfl, ?_⟩
    simp only [] at h
    cases q2 : b e1 with
    | nx e2 => rw [q2] at h; exact .inl ⟨e2, .inl rfl, h⟩
    | ct e2 => rw [q2] at h; exact .inl ⟨e2, .inr rfl, h⟩
    | bk e2 => rw [q2] at h; exact .inr (.inl ⟨e2, rfl, h⟩)
    | ret x => rw [q2] at h; exact .inr (.inr ⟨x, rfl, ⟨h⟩⟩)
    | ex c e2 => rw [q2] at h; exact h.elim
    | stuck => rw [q2] at h; exact h.elim
theorem Is.ford {Q : Out → Prop} {b : Sl → Out} {t : Tgt} {its : List D} {e : Sl} {f : Sl → Out} (I : Nat → Sl → Prop) (h0 : I 0 e) (hs : ∀ i x e, its[i]? = some x → I i e → Is (Turn Q (I (i + 1)) f) (turnB b t x e)) (hd : ∀ e, I its.length e → Is Q (f e)) : Is Q ((forL b t its e).calm.seq f) := by
  refine forL_post (fun i e => I i e) (fun o => Is Q (o.calm.seq f)) its e 0 h0 (fun i x e hx hi => ?_) (fun e h => hd e (by rw [Nat.zero_add] at h; exact h))
  rw [Nat.zero_add] at hi ⊢
  have h := (hs i x e hx hi).out
  unfold turnB at h
  cases q : bindT t x e with
  | none => rw [q] at h; exact h.elim
  | some e1 =>
    rw [q] at h
    refine ⟨e1, rfl, ?_⟩
    simp only [] at h
    cases q2 : b e1 with
    | nx e2 => rw [q2] at h; exact .inl ⟨e2, .inl rfl, h⟩
    | ct e2 => rw [q2] at h; exact .inl ⟨e2, .inr rfl, h⟩
    | bk e2 => rw [q2] at h; exact .inr (.inl ⟨e2, rfl, h⟩)
    | ret x => rw [q2] at h; exact .inr (.inr ⟨x, rfl, ⟨h⟩⟩)
    | ex c e2 => rw [q2] at h; exact h.elim
    | stuck => rw [q2] at h; exact h.elim
/-- a loop that stands last -/
theorem Is.forE {Q : Out → Prop} {b : Sl → Out} {t : Tgt} {its : List D} {e : Sl} (I : Nat → Sl → Prop) (h0 : I 0 e) (hs : ∀ i x e, its[i]? = some x → I i e → Is (Turn Q (I (i + 1)) .nx) (turnB b t x e)) (hd : ∀ e, I its.length e → Is Q (.nx e)) : Is Q (forL b t its e) := by
  have := Is.for (f := .nx) I h0 hs hd
  have e2 : ∀ o : Out, o.seq .nx = o := fun o => by cases o <;> rfl
  rw [e2] at this
  exact this
/-- a while loop, by a measure -/
theorem Is.whl {Q : Out → Prop} {c : Sl → Res D} {b : Sl → Out} {f : Sl → Out} (I : Nat → Sl → Prop) (hs : ∀ n e, I n e → (c e = .ok (.bool false) ∧ Is Q (f e)) ∨ (c e = .ok (.bool true) ∧ Is (Turn Q (fun e' => ∃ m, m < n ∧ I m e') f) (b e))) : ∀ (F : Nat) (e : Sl) (n : Nat), I n e → n < F → Is Q ((whileF c b F e).seq f)
  | 0, _, _, _, h => absurd h (Nat.not_lt_zero _)
  | F + 1, e, n, h0, hn => by
    rcases hs n e h0 with ⟨h1, h2⟩ | ⟨h1, h2⟩
    · have : whileF c b (F + 1) e = .nx e := by simp only [whileF, h1, Out.ofR_ok]
      rw [this]; exact h2
    · have : whileF c b (F + 1) e = (b e).turn fun e2 => whileF c b F e2 := by simp only [whileF, h1, Out.ofR_ok]
      rw [this]
      replace h2 := h2.out
      cases q : b e with
      | nx e2 => rw [q] at h2; obtain ⟨m, hm, hi⟩ := h2; exact Is.whl I hs F e2 m hi (by omega)
      | ct e2 => rw [q] at h2; obtain ⟨m, hm, hi⟩ := h2; exact Is.whl I hs F e2 m hi (by omega)
      | bk e2 => rw [q] at h2; exact h2
      | ret x => rw [q] at h2; exact ⟨h2⟩
      | ex c e2 => rw [q] at h2; exact h2.elim
      | stuck => rw [q] at h2; exact h2.elim
@[simp] theorem x_whl {c : Exp} {b : List Stm} {Φ : FT} {F : Nat} {e : Sl} : exec Φ F (.whl c b) e = whileF (ev Φ c) (execs Φ F b) F e := by simp only [exec]
def augK (i : Nat) (op : BOp) (e : Sl) (x y : D) : Out := match augD op x y with
  | some z => .nx (e.set i (.d z))
  | none => .stuck
def augS (Φ : FT) (i : Nat) (op : BOp) (a : Exp) (e : Sl) : Option Slot → Out
  | some (.d x) => Out.ofR (ev Φ a e) e (augK i op e x)
  | _ => .stuck
@[simp] theorem augS_d {Φ : FT} {i : Nat} {op : BOp} {a : Exp} {e : Sl} {x : D} : augS Φ i op a e (some (.d x)) = Out.ofR (ev Φ a e) e (augK i op e x) := id rfl
@[simp] theorem x_aug {Φ : FT} {F i : Nat} {op : BOp} {a : Exp} {e : Sl} : exec Φ F (.aug i op a) e = augS Φ i op a e e[i]? := by
  simp only [exec]
  cases e[i]? with
  | none => rfl
  | some s => cases s <;> rfl
@[simp] theorem augK_add {i : Nat} {e : Sl} {x y : Int} : augK i .add e (.int x) (.int y) = .nx (e.set i (.d (.int (x + y)))) := id rfl
@[simp] theorem augK_sub {i : Nat} {e : Sl} {x y : Int} : augK i .sub e (.int x) (.int y) = .nx (e.set i (.d (.int (x - y)))) := id rfl
@[simp] theorem augK_div {i : Nat} {e : Sl} {x y : Int} (h : 0 < y) (h2 : y < 1073741824) : augK i .fdiv e (.int x) (.int y) = .nx (e.set i (.d (.int (x / y)))) := by
  simp only [augK, augD, binD, if_pos (And.intro h h2)]
@[simp] theorem x_rse {Φ : FT} {F c : Nat} {e : Sl} : exec Φ F (.rse c) e = .ex c e := by simp only [exec]
/-- what is asked of the run of a def that may raise -/
def RetX (Q : D → Prop) (X : Nat → Prop) : Out → Prop
  | .ret x => Q x
  | .ex c _ => X c
  | _ => False
@[simp] theorem RetX_ret {Q : D → Prop} {X : Nat → Prop} {x : D} : Is (RetX Q X) (.ret x) = Q x := is_eq
@[simp] theorem RetX_ex {Q : D → Prop} {X : Nat → Prop} {c : Nat} {e : Sl} : Is (RetX Q X) (.ex c e) = X c := is_eq
theorem Is.run {fn : Fdef} {Φ : FT} {F : Nat} {args : List D} {Q : Res D → Prop} (hl : args.length = fn.np) (h : Is (fun o => match o with | .ret x => Q (.ok x) | .nx _ => Q (.ok .none) | .ex c _ => Q (.ex c) | _ => False) (execs Φ F fn.body (args.map .d ++ List.replicate (fn.ns - fn.np) .un))) : Q (fn.run Φ F args) := by
  unfold Fdef.run
  rw [if_pos hl]
  replace h := h.out
  cases q : execs Φ F fn.body (args.map .d ++ List.replicate (fn.ns - fn.np) .un) <;> rw [q] at h <;> first | exact h | exact h.elim
def Ret (Q : D → Prop) : Out → Prop
  | .ret x => Q x
  | _ => False
@[simp] theorem Ret_ret {Q : D → Prop} {x : D} : Is (Ret Q) (.ret x) = Q x := is_eq
/-- a def that ends with return -/
theorem run_of {fn : Fdef} {Φ : FT} {F : Nat} {args : List D} {Q : D → Prop} (hl : args.length = fn.np) (h : Is (Ret Q) (execs Φ F fn.body (args.map .d ++ List.replicate (fn.ns - fn.np) .un))) : ∃ x, fn.run Φ F args = .ok x ∧ Q x := by
  unfold Fdef.run
  rw [if_pos hl]
  replace h := h.out
  cases q : execs Φ F fn.body (args.map .d ++ List.replicate (fn.ns - fn.np) .un) with
  | ret x => rw [q] at h; exact ⟨x, rfl, h⟩
  | _ => rw [q] at h; exact h.elim
/-- the run of a def -/
theorem phi_succ {T : List Fdef} {F n i : Nat} {fn : Fdef} {args : List D} (h : T[i]? = some fn) : phi T F (n + 1) i args = fn.run (phi T F n) F args := by simp only [phi, h]
theorem run_ret {fn : Fdef} {Φ : FT} {F : Nat} {args : List D} {x : D} (hl : args.length = fn.np) (h : execs Φ F fn.body (args.map .d ++ List.replicate (fn.ns - fn.np) .un) = .ret x) : fn.run Φ F args = .ok x := by
  unfold Fdef.run
  rw [if_pos hl, h]
end
/-! dicts with nested keys, insert, try -/
noncomputable section
variable {Φ : FT} {F : Nat} {e : Sl}
def nlK (kvs : List (D × D)) (y : D) : Res D := (Res.of (nlook kvs y)).bind .of
def nldK (kvs : List (D × D)) (y x : D) : Res D := if isIntD x then (Res.of (nlook kvs y)).bind fun o => .ok (o.getD x) else .stuck
def ngetK (Φ : FT) (k : Exp) (e : Sl) : Option Slot → Res D
  | some (.on kvs) => (ev Φ k e).bind (nlK kvs)
  | some (.rn kvs) => (ev Φ k e).bind (nlK kvs)
  | _ => .stuck
def ngetdK (Φ : FT) (k z : Exp) (e : Sl) : Option Slot → Res D
  | some (.on kvs) => (ev Φ k e).bind fun y => (ev Φ z e).bind (nldK kvs y)
  | some (.rn kvs) => (ev Φ k e).bind fun y => (ev Φ z e).bind (nldK kvs y)
  | _ => .stuck
def nkeysK : Option Slot → Res D
  | some (.on kvs) => .ok (.list (kvs.map (·.1)))
  | some (.rn kvs) => .ok (.list (kvs.map (·.1)))
  | _ => .stuck
@[simp] theorem ngetK_on {k : Exp} {kvs : List (D × D)} : ngetK Φ k e (some (.on kvs)) = (ev Φ k e).bind (nlK kvs) := id rfl
@[simp] theorem ngetK_rn {k : Exp} {kvs : List (D × D)} : ngetK Φ k e (some (.rn kvs)) = (ev Φ k e).bind (nlK kvs) := id rfl
@[simp] theorem ngetdK_on {k z : Exp} {kvs : List (D × D)} : ngetdK Φ k z e (some (.on kvs)) = (ev Φ k e).bind fun y => (ev Φ z e).bind (nldK kvs y) := id rfl
@[simp] theorem ngetdK_rn {k z : Exp} {kvs : List (D × D)} : ngetdK Φ k z e (some (.rn kvs)) = (ev Φ k e).bind fun y => (ev Φ z e).bind (nldK kvs y) := id rfl
@[simp] theorem nkeysK_on {kvs : List (D × D)} : nkeysK (some (.on kvs)) = .ok (.list (kvs.map (·.1))) := id rfl
@[simp] theorem nkeysK_rn {kvs : List (D × D)} : nkeysK (some (.rn kvs)) = .ok (.list (kvs.map (·.1))) := id rfl
@[simp] theorem e_nget {i : Nat} {k : Exp} : ev Φ (.nget i k) e = ngetK Φ k e e[i]? := by
  simp only [ev]
  cases e[i]? with
  | none => rfl
  | some s => cases s <;> rfl
@[simp] theorem e_ngetd {i : Nat} {k z : Exp} : ev Φ (.ngetd i k z) e = ngetdK Φ k z e e[i]? := by
  simp only [ev]
  cases e[i]? with
  | none => rfl
  | some s => cases s <;> rfl
@[simp] theorem e_nkeys {i : Nat} : ev Φ (.nkeys i) e = nkeysK e[i]? := by
  simp only [ev]
  cases e[i]? with
  | none => rfl
  | some s => cases s <;> rfl
def callnK (Φ : FT) (f : Nat) (pre post : List Exp) (e : Sl) : Option Slot → Res D
  | some (.on kvs) => (evs Φ pre e).bind fun xs => (evs Φ post e).bind fun ys => (Φ f (xs ++ pairsN kvs :: ys)).bind flK
  | _ => .stuck
@[simp] theorem callnK_on {f : Nat} {pre post : List Exp} {kvs : List (D × D)} : callnK Φ f pre post e (some (.on kvs)) = (evs Φ pre e).bind fun xs => (evs Φ post e).bind fun ys => (Φ f (xs ++ pairsN kvs :: ys)).bind flK := id rfl
@[simp] theorem e_calln {f i : Nat} {pre post : List Exp} : ev Φ (.calln f pre i post) e = callnK Φ f pre post e e[i]? := by
  simp only [ev]
  cases e[i]? with
  | none => rfl
  | some s => cases s <;> rfl
@[simp] theorem x_nowe {i : Nat} (h : i < e.length) : exec Φ F (.nowe i) e = .nx (e.set i (.on [])) := by simp only [exec, if_pos h]
def nsetK (i : Nat) (e : Sl) (kvs : List (D × D)) (x y : D) : Out := if isIntD x && (nlook kvs y).isSome && decide (kvs.length < line) then .nx (e.set i (.on (nput kvs y x))) else .stuck
def nsetS (Φ : FT) (i : Nat) (k a : Exp) (e : Sl) : Option Slot → Out
  | some (.on kvs) => Out.ofR (ev Φ a e) e fun x => Out.ofR (ev Φ k e) e (nsetK i e kvs x)
  | _ => .stuck
@[simp] theorem nsetS_on {i : Nat} {k a : Exp} {kvs : List (D × D)} : nsetS Φ i k a e (some (.on kvs)) = Out.ofR (ev Φ a e) e fun x => Out.ofR (ev Φ k e) e (nsetK i e kvs x) := id rfl
theorem nsetK_ok {i : Nat} {kvs : List (D × D)} {y : D} {x : Int} (h : (nlook kvs y).isSome = true) (hl : kvs.length < line) : nsetK i e kvs (.int x) y = .nx (e.set i (.on (nput kvs y (.int x)))) := by
  unfold nsetK
  rw [h, decide_eq_true hl]
  rfl
@[simp] theorem x_nset {i : Nat} {k a : Exp} : exec Φ F (.nset i k a) e = nsetS Φ i k a e e[i]? := by
  simp only [exec]
  cases e[i]? with
  | none => rfl
  | some s => cases s <;> rfl
theorem unpairs_eq : ∀ {kvs : List (D × D)}, unpairs (kvs.map fun p => .tuple [p.1, p.2]) = some kvs
  | [] => rfl
  | (a, b) :: r => by
    rw [List.map_cons]
    simp only [unpairs, unpairs_eq (kvs := r), Option.map_some]
theorem x_objn {i : Nat} {kvs : List (D × D)} (h : e[i]? = some (.d (pairsN kvs))) : exec Φ F (.objn i) e = .nx (e.set i (.rn kvs)) := by
  simp only [exec, h, pairsN, unpairs_eq]
def insK (i : Nat) (e : Sl) (xs : List D) (k x : D) : Out := match k with
  | .int k => if 0 ≤ k ∧ k < 2 ^ 63 ∧ xs.length < line then .nx (e.set i (.ol (xs.take k.toNat ++ [x] ++ xs.drop k.toNat))) else .stuck
  | _ => .stuck
def insS (Φ : FT) (i : Nat) (j a : Exp) (e : Sl) : Option Slot → Out
  | some (.ol xs) => Out.ofR (ev Φ j e) e fun k => Out.ofR (ev Φ a e) e (insK i e xs k)
  | _ => .stuck
@[simp] theorem insS_ol {i : Nat} {j a : Exp} {xs : List D} : insS Φ i j a e (some (.ol xs)) = Out.ofR (ev Φ j e) e fun k => Out.ofR (ev Φ a e) e (insK i e xs k) := id rfl
theorem insK_ok {i n : Nat} {xs : List D} {x : D} (h : n ≤ 1000000) (hl : xs.length < line) : insK i e xs (.int (n : Nat)) x = .nx (e.set i (.ol (xs.take n ++ [x] ++ xs.drop n))) := by
  unfold insK
  simp only []
  rw [if_pos ⟨by omega, by omega, hl⟩, Int.toNat_natCast]
@[simp] theorem x_ins {i : Nat} {j a : Exp} : exec Φ F (.ins i j a) e = insS Φ i j a e e[i]? := by
  simp only [exec]
  cases e[i]? with
  | none => rfl
  | some s => cases s <;> rfl
theorem x_trx {i : Nat} {body : List Stm} {ok : List Nat} {r : List (Nat × Exp)} {e2 : Sl} {c : Nat} {A : Exp} {x : D} (h : execs Φ F body e = .ex c e2) (hr : r.lookup c = some A) (hl : i < e2.length) (hx : ev Φ A (e2.set i .un) = .ok x) : exec Φ F (.trx i body ok r) e = .ret x := by
  simp only [exec, h, hr, if_pos hl, hx]
theorem x_trxN {i : Nat} {body : List Stm} {ok : List Nat} {r : List (Nat × Exp)} {e2 : Sl} (h : execs Φ F body e = .nx e2) : exec Φ F (.trx i body ok r) e = .nx e2 := by
  simp only [exec, h]
end
end Rf

set_option maxRecDepth 100000
set_option maxHeartbeats 2000000
namespace My
open PySem PySem.Spec PyProof.Rows L2 Rf
/-! ### the text of the law -/
def topS (i : Nat) : Stmt := PySem.Challenge.pw_sandreckoner_k17_digits_of_plain_numbers.main.body.getD i (.Pass ⟨0, 0, 0, 0⟩)
abbrev s0 : Stmt := topS 10
abbrev N0 : List Str := ["number", "_", "exponent"]
abbrev p0 : List Str := ["number"]
def x0_1 : Exp := (.call 0 [(.var 2)])
/-- size_of -/
def b0 : List Stm := [(.ret (.bin .add (.con (.int 1)) (.blt .sum [(.comp x0_1 (.tp [(.nm 1), (.nm 2)]) .tup [(.var 0)] [])])))]
abbrev s1 : Stmt := topS 11
abbrev N1 : List Str := ["number", "_", "exponent"]
abbrev p1 : List Str := ["number"]
def x1_1 : Exp := (.call 1 [(.var 2)])
/-- height_of -/
def b1 : List Stm := [(.ifs (.cmp .eq (.blt .len [(.var 0)]) (.con (.int 0))) [(.ret (.con (.int 0)))] []), (.ret (.bin .add (.con (.int 1)) (.blt .max [(.comp x1_1 (.tp [(.nm 1), (.nm 2)]) .tup [(.var 0)] [])])))]
abbrev s2 : Stmt := topS 12
abbrev N2 : List Str := ["first", "second", "sign", "exponent", "other_sign", "other", "order"]
abbrev p2 : List Str := ["first", "second"]
def b2_1 : List Stm := [(.ifs (.cmp .ne (.var 2) (.var 4)) [(.ret (.var 2))] []), (.asg (.nm 6) (.call 2 [(.var 3), (.var 5)])), (.ifs (.cmp .ne (.var 6) (.con (.int 0))) [(.ret (.bin .mul (.var 6) (.var 2)))] [])]
/-- compare -/
def b2 : List Stm := [(.ifs (.cmp .eq (.var 0) (.var 1)) [(.ret (.con (.int 0)))] []), (.for (.tp [(.tp [(.nm 2), (.nm 3)]), (.tp [(.nm 4), (.nm 5)])]) .zip [(.var 0), (.var 1)] b2_1), (.ifs (.cmp .gt (.blt .len [(.var 0)]) (.blt .len [(.var 1)])) [(.ret (.idx (.idx (.var 0) (.blt .len [(.var 1)])) (.con (.int 0))))] []), (.ret (.neg (.idx (.idx (.var 1) (.blt .len [(.var 0)])) (.con (.int 0)))))]
abbrev s3 : Stmt := topS 13
abbrev N3 : List Str := ["number"]
abbrev p3 : List Str := ["number"]
/-- sign_of -/
def b3 : List Stm := [(.ifs (.cmp .eq (.blt .len [(.var 0)]) (.con (.int 0))) [(.ret (.con (.int 0)))] []), (.ret (.idx (.idx (.var 0) (.con (.int 0))) (.con (.int 0))))]
abbrev s4 : Stmt := topS 14
abbrev N4 : List Str := ["numbers", "found", "number", "low", "high", "middle"]
abbrev p4 : List Str := ["numbers"]
def b4_1 : List Stm := [(.asg (.nm 5) (.bin .fdiv (.bin .add (.var 3) (.var 4)) (.con (.int 2)))), (.ifs (.cmp .lt (.call 2 [(.idx (.vw 1) (.var 5)), (.var 2)]) (.con (.int 0))) [(.asg (.nm 3) (.bin .add (.var 5) (.con (.int 1))))] [(.asg (.nm 4) (.var 5))])]
def x4_2 : Exp := (.cmp .lt (.var 3) (.var 4))
def b4_3 : List Stm := [(.asg (.nm 3) (.con (.int 0))), (.asg (.nm 4) (.blt .len [(.vw 1)])), (.whl x4_2 b4_1), (.ins 1 (.var 3) (.var 2))]
/-- in_order -/
def b4 : List Stm := [(.own 1 (.lst [])), (.for (.nm 2) .lst [(.var 0)] b4_3), (.ret (.vw 1))]
abbrev s5 : Stmt := topS 15
abbrev N5 : List Str := ["pairs", "counts", "count", "exponent", "waiting", "terms", "sign"]
abbrev p5 : List Str := ["pairs"]
def b5_1 : List Stm := [(.nset 1 (.var 3) (.bin .add (.ngetd 1 (.var 3) (.con (.int 0))) (.var 2)))]
def b5_2 : List Stm := [(.ifs (.and (.cmp .gt (.blt .len [(.vw 4)]) (.con (.int 0))) (.or (.cmp .eq (.var 2) (.con (.int 0))) (.cmp .eq (.idx (.vw 4) (.neg (.con (.int 1)))) (.var 3)))) [(.popto 3 4), (.aug 2 .add (.nget 1 (.var 3)))] []), (.ifs (.cmp .eq (.bin .mod (.var 2) (.con (.int 2))) (.con (.int 1))) [(.asg (.nm 6) (.calln 6 [(.var 2), (.var 3)] 1 [(.vw 4)])), (.app 5 (.tup [(.var 6), (.var 3)])), (.aug 2 .sub (.var 6))] []), (.ifs (.cmp .ne (.var 2) (.con (.int 0))) [(.aug 2 .fdiv (.con (.int 2))), (.asg (.nm 3) (.call 7 [(.var 3)]))] [])]
def x5_3 : Exp := (.or (.cmp .gt (.blt .len [(.vw 4)]) (.con (.int 0))) (.cmp .ne (.var 2) (.con (.int 0))))
/-- gathered -/
def b5 : List Stm := [(.nowe 1), (.for (.tp [(.nm 2), (.nm 3)]) .lst [(.var 0)] b5_1), (.own 4 (.rev (.call 4 [(.nkeys 1)]))), (.own 5 (.lst [])), (.asg (.nm 2) (.con (.int 0))), (.asg (.nm 3) (.tup [])), (.whl x5_3 b5_2), (.ret (.blt .tuple [(.rev (.vw 5))]))]
abbrev s6 : Stmt := topS 16
abbrev N6 : List Str := ["count", "exponent", "counts", "waiting"]
abbrev p6 : List Str := ["count", "exponent", "counts", "waiting"]
def bw6 : List Stm := [(.ifs (.and (.cmp .gt (.blt .len [(.var 3)]) (.con (.int 0))) (.cmp .eq (.idx (.var 3) (.neg (.con (.int 1)))) (.call 7 [(.var 1)]))) [(.aug 0 .add (.bin .mul (.con (.int 2)) (.nget 2 (.idx (.var 3) (.neg (.con (.int 1)))))))] []), (.ifs (.cmp .eq (.bin .mod (.var 0) (.con (.int 4))) (.con (.int 1))) [(.ret (.con (.int 1)))] []), (.ret (.neg (.con (.int 1))))]
/-- sign_at -/
def b6 : List Stm := .objn 2 :: bw6
abbrev s7 : Stmt := topS 17
abbrev N7 : List Str := ["number"]
abbrev p7 : List Str := ["number"]
/-- next_of -/
def b7 : List Stm := [(.ret (.call 5 [(.bin .add (.blt .list [(.var 0)]) (.lst [(.tup [(.con (.int 1)), (.tup [])])]))]))]
abbrev s8 : Stmt := topS 18
abbrev N8 : List Str := ["value", "terms", "place", "sign"]
abbrev p8 : List Str := ["value"]
def b8_1 : List Stm := [(.ifs (.cmp .eq (.bin .mod (.var 0) (.con (.int 2))) (.con (.int 1))) [(.asg (.nm 3) (.ite (.cmp .eq (.bin .mod (.var 0) (.con (.int 4))) (.con (.int 1))) (.con (.int 1)) (.neg (.con (.int 1))))), (.app 1 (.tup [(.var 3), (.call 8 [(.var 2)])])), (.aug 0 .sub (.var 3))] []), (.aug 0 .fdiv (.con (.int 2))), (.aug 2 .add (.con (.int 1)))]
def x8_2 : Exp := (.cmp .ne (.var 0) (.con (.int 0)))
/-- from_int -/
def b8 : List Stm := [(.own 1 (.lst [])), (.asg (.nm 2) (.con (.int 0))), (.whl x8_2 b8_1), (.ret (.blt .tuple [(.rev (.vw 1))]))]
abbrev s9 : Stmt := topS 19
abbrev N9 : List Str := ["number"]
abbrev p9 : List Str := ["number"]
/-- is_allowed -/
def b9 : List Stm := [(.ret (.and (.cmp .le (.call 0 [(.var 0)]) (.con (.int 300))) (.cmp .le (.call 1 [(.var 0)]) (.con (.int 40)))))]
abbrev s10 : Stmt := topS 20
abbrev N10 : List Str := ["number"]
abbrev p10 : List Str := ["number"]
/-- allowed -/
def b10 : List Stm := [(.ifs (.not (.call 9 [(.var 0)])) [(.rse 2)] []), (.ret (.var 0))]
abbrev s11 : Stmt := topS 21
abbrev N11 : List Str := ["value"]
abbrev p11 : List Str := ["value"]
/-- of_int -/
def b11 : List Stm := [(.ifs (.cmp .gt (.mth .bits (.var 0) []) (.con (.int 2900))) [(.rse 1)] []), (.ret (.call 10 [(.call 8 [(.var 0)])]))]
abbrev s12 : Stmt := topS 22
abbrev N12 : List Str := ["count", "value", "_"]
abbrev p12 : List Str := ["count"]
def b12_1 : List Stm := [(.aug 1 .mul (.con (.int 2)))]
/-- power_of_two -/
def b12 : List Stm := [(.asg (.nm 1) (.con (.int 1))), (.for (.nm 2) .rng [(.var 0)] b12_1), (.ret (.var 1))]
abbrev s13 : Stmt := topS 23
abbrev N13 : List Str := ["number", "most", "value", "sign", "exponent"]
abbrev p13 : List Str := ["number"]
def b13_1 : List Stm := [(.ifs (.cmp .gt (.call 2 [(.var 4), (.var 1)]) (.con (.int 0))) [(.rse 1)] []), (.aug 2 .add (.bin .mul (.var 3) (.call 12 [(.call 13 [(.var 4)])])))]
/-- to_int -/
def b13 : List Stm := [(.asg (.nm 1) (.call 8 [(.con (.int 64))])), (.asg (.nm 2) (.con (.int 0))), (.for (.tp [(.nm 3), (.nm 4)]) .tup [(.var 0)] b13_1), (.ifs (.cmp .ge (.blt .abs [(.var 2)]) (.call 12 [(.con (.int 64))])) [(.rse 1)] []), (.ret (.var 2))]
abbrev s14 : Stmt := topS 25
abbrev N14 : List Str := ["number", "sign", "exponent"]
abbrev p14 : List Str := ["number"]
def x14_1 : Exp := (.tup [(.neg (.var 1)), (.var 2)])
/-- negate -/
def b14 : List Stm := [(.ret (.blt .tuple [(.comp x14_1 (.tp [(.nm 1), (.nm 2)]) .tup [(.var 0)] [])]))]
abbrev s15 : Stmt := topS 26
abbrev N15 : List Str := ["first", "second"]
abbrev p15 : List Str := ["first", "second"]
/-- plus -/
def b15 : List Stm := [(.ret (.call 5 [(.bin .add (.blt .list [(.var 0)]) (.blt .list [(.var 1)]))]))]
abbrev s16 : Stmt := topS 27
abbrev N16 : List Str := ["first", "second"]
abbrev p16 : List Str := ["first", "second"]
/-- minus -/
def b16 : List Stm := [(.ret (.call 15 [(.var 0), (.call 14 [(.var 1)])]))]
abbrev s17 : Stmt := topS 30
abbrev N17 : List Str := ["place"]
abbrev p17 : List Str := ["place"]
/-- check_place -/
def b17 : List Stm := [(.ifs (.cmp .lt (.call 3 [(.var 0)]) (.con (.int 0))) [(.rse 1)] [])]
abbrev s18 : Stmt := topS 31
abbrev N18 : List Str := ["x", "place", "sign", "exponent"]
abbrev p18 : List Str := ["x", "place"]
def b18_1 : List Stm := [(.ifs (.cmp .lt (.call 2 [(.var 3), (.var 1)]) (.con (.int 0))) [(.ret (.cmp .lt (.var 2) (.con (.int 0))))] [])]
/-- is_borrowed -/
def b18 : List Stm := [(.for (.tp [(.nm 2), (.nm 3)]) .tup [(.var 0)] b18_1), (.ret (.con (.bool false)))]
abbrev s19 : Stmt := topS 32
abbrev N19 : List Str := ["x", "y", "terms", "sign", "exponent"]
abbrev p19 : List Str := ["x", "y"]
def x19_1 : Exp := (.tup [(.var 3), (.call 16 [(.var 4), (.var 1)])])
def y19_2 : List Exp := [(.cmp .ge (.call 2 [(.var 4), (.var 1)]) (.con (.int 0)))]
/-- floored -/
def b19 : List Stm := [(.asg (.nm 2) (.comp x19_1 (.tp [(.nm 3), (.nm 4)]) .tup [(.var 0)] y19_2)), (.ifs (.call 18 [(.var 0), (.var 1)]) [(.ret (.call 15 [(.blt .tuple [(.var 2)]), (.call 8 [(.neg (.con (.int 1)))])]))] []), (.ret (.blt .tuple [(.var 2)]))]
abbrev s20 : Stmt := topS 33
abbrev N20 : List Str := ["x", "y"]
abbrev p20 : List Str := ["x", "y"]
/-- floor_shift -/
def b20 : List Stm := [(.expr (.call 17 [(.var 1)])), (.ret (.call 10 [(.call 19 [(.var 0), (.var 1)])]))]
abbrev s21 : Stmt := topS 34
abbrev N21 : List Str := ["x", "place", "found", "_", "exponent"]
abbrev p21 : List Str := ["x", "place"]
def x21_1 : Exp := (.var 4)
def y21_2 : List Exp := [(.cmp .eq (.var 4) (.var 1))]
/-- digit -/
def b21 : List Stm := [(.asg (.nm 2) (.comp x21_1 (.tp [(.nm 3), (.nm 4)]) .tup [(.var 0)] y21_2)), (.ret (.bin .mod (.bin .add (.blt .len [(.var 2)]) (.blt .int [(.call 18 [(.var 0), (.var 1)])])) (.con (.int 2))))]
abbrev s22 : Stmt := topS 35
abbrev N22 : List Str := ["x", "place"]
abbrev p22 : List Str := ["x", "place"]
/-- digit_at -/
def b22 : List Stm := [(.expr (.call 17 [(.var 1)])), (.ret (.call 21 [(.var 0), (.var 1)]))]
abbrev s23 : Stmt := topS 36
abbrev N23 : List Str := ["x"]
abbrev p23 : List Str := ["x"]
/-- length_of -/
def b23 : List Stm := [(.ifs (.cmp .eq (.blt .len [(.var 0)]) (.con (.int 0))) [(.ret (.tup []))] []), (.ifs (.and (.cmp .gt (.blt .len [(.var 0)]) (.con (.int 1))) (.cmp .ne (.idx (.idx (.var 0) (.con (.int 1))) (.con (.int 0))) (.idx (.idx (.var 0) (.con (.int 0))) (.con (.int 0))))) [(.ret (.idx (.idx (.var 0) (.con (.int 0))) (.con (.int 1))))] []), (.ret (.call 7 [(.idx (.idx (.var 0) (.con (.int 0))) (.con (.int 1)))]))]
abbrev s24 : Stmt := topS 37
abbrev N24 : List Str := ["x"]
abbrev p24 : List Str := ["x"]
/-- length -/
def b24 : List Stm := [(.ret (.call 10 [(.call 23 [(.var 0)])]))]
abbrev s25 : Stmt := topS 38
abbrev N25 : List Str := ["x"]
abbrev p25 : List Str := ["x"]
/-- low -/
def b25 : List Stm := [(.ifs (.cmp .eq (.blt .len [(.var 0)]) (.con (.int 0))) [(.rse 3)] []), (.ret (.idx (.idx (.var 0) (.neg (.con (.int 1)))) (.con (.int 1))))]
abbrev s26 : Stmt := topS 39
abbrev N26 : List Str := ["x", "place", "count", "step"]
abbrev p26 : List Str := ["x", "place", "count"]
def x26_1 : Exp := (.call 21 [(.var 0), (.call 15 [(.var 1), (.call 8 [(.var 3)])])])
/-- digits_from -/
def b26 : List Stm := [(.expr (.call 17 [(.var 1)])), (.ifs (.or (.cmp .lt (.var 2) (.con (.int 0))) (.cmp .gt (.var 2) (.con (.int 64)))) [(.rse 1)] []), (.ret (.comp x26_1 (.nm 3) .rng [(.var 2)] []))]
abbrev s27 : Stmt := topS 42
abbrev N27 : List Str := ["m"]
abbrev p27 : List Str := ["m"]
/-- check_modulus -/
def b27 : List Stm := [(.ifs (.or (.cmp .lt (.var 0) (.con (.int 1))) (.cmp .gt (.var 0) (.con (.int 10000)))) [(.rse 1)] [])]
abbrev s28 : Stmt := topS 43
abbrev N28 : List Str := ["m", "row", "seen", "power"]
abbrev p28 : List Str := ["m"]
def b28_1 : List Stm := [(.setd 2 (.var 3) (.blt .len [(.vw 1)])), (.app 1 (.var 3)), (.asg (.nm 3) (.bin .mod (.bin .mul (.var 3) (.con (.int 2))) (.var 0)))]
def x28_2 : Exp := (.cmp .notin (.var 3) (.vw 2))
/-- row_of_two -/
def b28 : List Stm := [(.own 1 (.lst [])), (.own 2 .emp), (.asg (.nm 3) (.bin .mod (.con (.int 1)) (.var 0))), (.whl x28_2 b28_1), (.ret (.tup [(.vw 1), (.idx (.vw 2) (.var 3))]))]
abbrev s29 : Stmt := topS 45
abbrev N29 : List Str := ["x", "m"]
abbrev p29 : List Str := ["x", "m"]
/-- remainder -/
def b29 : List Stm := [(.expr (.call 27 [(.var 1)])), (.ret (.onew 45 [(.var 0), (.var 1)]))]
abbrev s30 : Stmt := topS 50
abbrev N30 : List Str := ["x"]
abbrev p30 : List Str := ["x"]
/-- magnitude -/
def b30 : List Stm := [(.ifs (.cmp .lt (.call 3 [(.var 0)]) (.con (.int 0))) [(.ret (.call 14 [(.var 0)]))] []), (.ret (.var 0))]
abbrev s31 : Stmt := topS 51
abbrev N31 : List Str := ["x", "k", "places"]
abbrev p31 : List Str := ["x", "k"]
/-- lead -/
def b31 : List Stm := [(.ifs (.or (.cmp .lt (.var 1) (.con (.int 1))) (.cmp .gt (.var 1) (.con (.int 60)))) [(.rse 1)] []), (.asg (.nm 2) (.call 23 [(.var 0)])), (.ifs (.cmp .le (.call 2 [(.var 2), (.call 8 [(.var 1)])]) (.con (.int 0))) [(.ret (.call 13 [(.call 30 [(.var 0)])]))] []), (.ret (.call 13 [(.call 19 [(.call 30 [(.var 0)]), (.call 16 [(.var 2), (.call 8 [(.var 1)])])])]))]
abbrev s32 : Stmt := topS 52
abbrev N32 : List Str := ["x", "k"]
abbrev p32 : List Str := ["x", "k"]
/-- last_digits -/
def b32 : List Stm := [(.ifs (.or (.cmp .lt (.var 1) (.con (.int 1))) (.cmp .gt (.var 1) (.con (.int 4)))) [(.rse 1)] []), (.ret (.call 29 [(.call 30 [(.var 0)]), (.idx (.con (.tuple [(.int 1), (.int 10), (.int 100), (.int 1000), (.int 10000)])) (.var 1))]))]
abbrev s33 : Stmt := topS 54
abbrev N33 : List Str := ["_law_script", "_law_k"]
abbrev p33 : List Str := ["_law_script", "_law_k"]
/-- cell -/
def b33 : List Stm := [(.ifs (.cmp .lt (.var 1) (.blt .len [(.var 0)])) [(.ret (.idx (.var 0) (.var 1)))] []), (.ret (.con (.int 0)))]
abbrev s34 : Stmt := topS 55
abbrev N34 : List Str := ["_law_cell_here", "_law_k", "_law_many", "_law_numbers_here", "_law_rest", "_law_j", "_law_mixed", "_law_twice"]
abbrev p34 : List Str := ["_law_cell_here", "_law_k", "_law_many"]
def b34_1 : List Stm := [(.app 3 (.bin .mod (.blt .int [(.var 4)]) (.con (.int 1000)))), (.asg (.nm 4) (.bin .fdiv (.var 4) (.con (.int 1000))))]
def b34_2 : List Stm := [(.asg (.nm 6) (.bin .mod (.blt .int [(.bin .add (.bin .add (.bin .mul (.var 6) (.con (.int 16807))) (.bin .mul (.var 5) (.con (.int 7919)))) (.con (.int 13)))]) (.con (.int 2147483647)))), (.asg (.nm 7) (.bin .mod (.blt .int [(.bin .add (.bin .add (.bin .mul (.var 6) (.var 6)) (.bin .mul (.var 1) (.con (.int 31)))) (.var 5))]) (.con (.int 1000000007)))), (.app 3 (.bin .mod (.blt .int [(.bin .fdiv (.var 7) (.con (.int 101)))]) (.con (.int 1000))))]
/-- numbers -/
def b34 : List Stm := [(.own 3 (.lst [])), (.ifs (.cmp .ge (.var 0) (.bin .pow (.con (.int 10)) (.con (.int 18)))) [(.asg (.nm 4) (.var 0)), (.for (.nm 5) .rng [(.var 2)] b34_1), (.ret (.vw 3))] []), (.asg (.nm 6) (.bin .mod (.blt .int [(.bin .add (.bin .add (.bin .mul (.var 0) (.con (.int 48271))) (.bin .mul (.var 1) (.con (.int 69621)))) (.con (.int 11)))]) (.con (.int 2147483647)))), (.for (.nm 5) .rng [(.var 2)] b34_2), (.ret (.vw 3))]
abbrev s35 : Stmt := topS 56
abbrev N35 : List Str := ["_law_numbers_here", "_law_at", "_law_most", "_law_value", "_law_k", "_law_place"]
abbrev p35 : List Str := ["_law_numbers_here", "_law_at", "_law_most"]
def b35_1 : List Stm := [(.asg (.nm 5) (.idx (.lst [(.bin .mod (.blt .int [(.idx (.var 0) (.bin .add (.bin .add (.var 1) (.con (.int 1))) (.var 4)))]) (.con (.int 70))), (.bin .mod (.bin .mul (.blt .int [(.idx (.var 0) (.bin .add (.bin .add (.var 1) (.con (.int 1))) (.var 4)))]) (.con (.int 7))) (.var 2))]) (.bin .mod (.bin .fdiv (.blt .int [(.idx (.var 0) (.bin .add (.var 1) (.con (.int 7))))]) (.bin .add (.con (.int 1)) (.var 4))) (.con (.int 2))))), (.asg (.nm 3) (.bin .add (.var 3) (.bin .mul (.bin .sub (.con (.int 1)) (.bin .mul (.con (.int 2)) (.bin .mod (.bin .fdiv (.blt .int [(.idx (.var 0) (.bin .add (.var 1) (.con (.int 8))))]) (.bin .add (.con (.int 3)) (.var 4))) (.con (.int 2))))) (.bin .shl (.con (.int 1)) (.var 5)))))]
/-- plain -/
def b35 : List Stm := [(.asg (.nm 3) (.con (.int 0))), (.for (.nm 4) .rng [(.bin .mod (.blt .int [(.idx (.var 0) (.var 1))]) (.con (.int 6)))] b35_1), (.ret (.bin .sub (.bin .add (.var 3) (.bin .mod (.blt .int [(.idx (.var 0) (.bin .add (.var 1) (.con (.int 9))))]) (.con (.int 41)))) (.con (.int 20))))]
abbrev s36 : Stmt := topS 57
abbrev N36 : List Str := ["_law_value"]
abbrev p36 : List Str := ["_law_value"]
/-- low -/
def b36 : List Stm := [(.ret (.bin .sub (.mth .bits (.bin .band (.blt .abs [(.var 0)]) (.neg (.blt .abs [(.var 0)]))) []) (.con (.int 1))))]
abbrev s37 : Stmt := topS 58
abbrev N37 : List Str := ["_law_value", "_law_k", "_law_size"]
abbrev p37 : List Str := ["_law_value", "_law_k"]
/-- lead -/
def b37 : List Stm := [(.asg (.nm 2) (.mth .bits (.blt .abs [(.var 0)]) [])), (.ifs (.cmp .le (.var 2) (.var 1)) [(.ret (.blt .abs [(.var 0)]))] []), (.ret (.bin .shr (.blt .abs [(.var 0)]) (.bin .sub (.var 2) (.var 1))))]
abbrev s38 : Stmt := topS 59
abbrev N38 : List Str := ["_law_door", "_law_x", "e"]
abbrev p38 : List Str := ["_law_door", "_law_x"]
/-- refused -/
def b38 : List Stm := [(.tri 2 [(.ifs (.cmp .eq (.var 0) (.con (.int 0))) [(.expr (.call 20 [(.call 11 [(.var 1)]), (.call 11 [(.bin .sub (.neg (.con (.int 1))) (.bin .mod (.blt .int [(.var 1)]) (.con (.int 5))))])]))] [(.ifs (.cmp .eq (.var 0) (.con (.int 1))) [(.expr (.call 22 [(.call 11 [(.var 1)]), (.call 11 [(.neg (.con (.int 1)))])]))] [(.ifs (.cmp .eq (.var 0) (.con (.int 2))) [(.expr (.call 26 [(.call 11 [(.var 1)]), (.call 11 [(.neg (.con (.int 7)))]), (.con (.int 0))]))] [(.ifs (.cmp .eq (.var 0) (.con (.int 3))) [(.expr (.call 26 [(.call 11 [(.var 1)]), (.call 11 [(.con (.int 0))]), (.idx (.lst [(.neg (.con (.int 1))), (.con (.int 65))]) (.bin .mod (.blt .int [(.var 1)]) (.con (.int 2))))]))] [(.ifs (.cmp .eq (.var 0) (.con (.int 4))) [(.expr (.call 31 [(.call 11 [(.var 1)]), (.idx (.lst [(.con (.int 0)), (.con (.int 61)), (.neg (.con (.int 2)))]) (.bin .mod (.blt .int [(.var 1)]) (.con (.int 3))))]))] [(.ifs (.cmp .eq (.var 0) (.con (.int 5))) [(.expr (.call 32 [(.call 11 [(.var 1)]), (.idx (.lst [(.con (.int 0)), (.con (.int 5)), (.neg (.con (.int 1)))]) (.bin .mod (.blt .int [(.var 1)]) (.con (.int 3))))]))] [])])])])])])] [2, 3] [(1, .bool true)]), (.ret (.con (.bool false)))]
abbrev s39 : Stmt := topS 60
abbrev N39 : List Str := ["_law_value", "_law_numbers_here", "_law_number", "_law_place", "_law_count", "_law_k"]
abbrev p39 : List Str := ["_law_value", "_law_numbers_here"]
def x39_1 : Exp := (.bin .band (.bin .shr (.var 0) (.bin .add (.var 3) (.var 5))) (.con (.int 1)))
/-- agrees -/
def b39 : List Stm := [(.asg (.nm 2) (.call 11 [(.var 0)])), (.asg (.nm 3) (.idx (.lst [(.bin .mod (.blt .int [(.idx (.var 1) (.con (.int 0)))]) (.con (.int 80))), (.bin .mul (.blt .int [(.idx (.var 1) (.con (.int 0)))]) (.con (.int 4)))]) (.bin .mod (.blt .int [(.idx (.var 1) (.con (.int 1)))]) (.con (.int 2))))), (.ifs (.cmp .ne (.call 20 [(.var 2), (.call 11 [(.var 3)])]) (.call 11 [(.bin .shr (.var 0) (.var 3))])) [(.ret (.con (.bool false)))] []), (.ifs (.cmp .ne (.call 22 [(.var 2), (.call 11 [(.var 3)])]) (.bin .band (.bin .shr (.var 0) (.var 3)) (.con (.int 1)))) [(.ret (.con (.bool false)))] []), (.asg (.nm 4) (.bin .mod (.blt .int [(.idx (.var 1) (.con (.int 2)))]) (.con (.int 65)))), (.ifs (.cmp .ne (.call 26 [(.var 2), (.call 11 [(.var 3)]), (.var 4)]) (.comp x39_1 (.nm 5) .rng [(.var 4)] [])) [(.ret (.con (.bool false)))] []), (.ifs (.cmp .ne (.call 24 [(.var 2)]) (.call 11 [(.mth .bits (.blt .abs [(.var 0)]) [])])) [(.ret (.con (.bool false)))] []), (.asg (.nm 5) (.bin .add (.con (.int 1)) (.bin .mod (.blt .int [(.idx (.var 1) (.con (.int 3)))]) (.con (.int 60))))), (.ifs (.cmp .ne (.call 31 [(.var 2), (.var 5)]) (.call 37 [(.var 0), (.var 5)])) [(.ret (.con (.bool false)))] []), (.asg (.nm 5) (.bin .add (.con (.int 1)) (.bin .mod (.blt .int [(.idx (.var 1) (.con (.int 3)))]) (.con (.int 4))))), (.ret (.cmp .eq (.call 32 [(.var 2), (.var 5)]) (.bin .mod (.blt .abs [(.var 0)]) (.idx (.lst [(.con (.int 1)), (.con (.int 10)), (.con (.int 100)), (.con (.int 1000)), (.con (.int 10000))]) (.var 5)))))]
abbrev s40 : Stmt := topS 61
abbrev N40 : List Str := ["_law_value", "_law_told", "e"]
abbrev p40 : List Str := ["_law_value"]
/-- lowest -/
def b40 : List Stm := [(.trx 2 [(.asg (.nm 1) (.call 25 [(.call 11 [(.var 0)])]))] [1, 2] [(3, (.and (.cmp .eq (.var 0) (.con (.int 0))) (.and (.con (.bool true)) (.not (.con (.bool false))))))]), (.ret (.and (.cmp .ne (.var 0) (.con (.int 0))) (.cmp .eq (.var 1) (.call 11 [(.call 36 [(.var 0)])]))))]
abbrev s41 : Stmt := topS 62
abbrev N41 : List Str := ["_law_script", "_law_k", "_law_numbers_here", "_law_value", "_law_x", "_law_door"]
abbrev p41 : List Str := ["_law_script"]
def b41_1 : List Stm := [(.asg (.nm 2) (.call 34 [(.call 33 [(.var 0), (.var 1)]), (.var 1), (.con (.int 16))])), (.asg (.nm 3) (.call 35 [(.var 2), (.con (.int 0)), (.con (.int 2800))])), (.ifs (.or (.not (.call 39 [(.var 3), (.sl (.var 2) (.con (.int 10)) (.con (.int 14)))])) (.not (.call 39 [(.neg (.var 3)), (.sl (.var 2) (.con (.int 11)) (.con (.int 15)))]))) [(.ret (.con (.bool false)))] []), (.ifs (.and (.cmp .lt (.var 1) (.con (.int 3))) (.not (.call 40 [(.bin .shl (.var 3) (.bin .mod (.blt .int [(.idx (.var 2) (.con (.int 14)))]) (.con (.int 40))))]))) [(.ret (.con (.bool false)))] [])]
def b41_2 : List Stm := [(.ifs (.not (.call 38 [(.var 5), (.var 4)])) [(.ret (.con (.bool false)))] [])]
/-- law -/
def b41 : List Stm := [(.for (.nm 1) .rng [(.blt .max [(.con (.int 1)), (.blt .min [(.blt .len [(.var 0)]), (.con (.int 10))])])] b41_1), (.asg (.nm 4) (.blt .int [(.idx (.call 34 [(.call 33 [(.var 0), (.con (.int 0))]), (.con (.int 5)), (.con (.int 1))]) (.con (.int 0)))])), (.for (.nm 5) .rng [(.con (.int 6))] b41_2), (.ret (.and (.call 40 [(.con (.int 0))]) (.cmp .eq (.tup [(.con (.int 64)), (.con (.int 60)), (.con (.int 4))]) (.tup [(.con (.int 64)), (.con (.int 60)), (.con (.int 4))]))))]
abbrev s42 : Stmt := inClass (topS 44) 1
abbrev N42 : List Str := ["self", "m"]
abbrev p42 : List Str := ["self", "m"]
/-- Powers.row -/
def b42 : List Stm := bodyR 28
abbrev s43 : Stmt := inClass (topS 44) 2
abbrev N43 : List Str := ["self", "exponent", "m", "row", "lead", "period"]
abbrev p43 : List Str := ["self", "exponent", "m"]
/-- Powers.power -/
def b43 : List Stm := [.obj 0, .chk, (.asg (.tp [(.nm 3), (.nm 4)]) (.call 42 [(.slf 0), (.var 2)])), .chk, (.ifs (.cmp .lt (.call 2 [(.var 1), (.call 8 [(.blt .len [(.var 3)])])]) (.con (.int 0))) [(.ret (.idx (.var 3) (.call 13 [(.var 1)])))] []), .chk, (.asg (.nm 5) (.bin .sub (.blt .len [(.var 3)]) (.var 4))), .chk, (.ret (.idx (.var 3) (.bin .add (.var 4) (.bin .mod (.bin .sub (.call 44 [(.slf 0), (.var 1), (.var 5)]) (.var 4)) (.var 5)))))]
abbrev s44 : Stmt := inClass (topS 44) 3
abbrev N44 : List Str := ["self", "number", "m", "total", "sign", "exponent"]
abbrev p44 : List Str := ["self", "number", "m"]
def b44_1 : List Stm := [.chk, (.aug 3 .add (.bin .mul (.var 4) (.call 43 [(.slf 0), (.var 5), (.var 2)]))), .chk]
/-- Powers.number -/
def b44 : List Stm := [.obj 0, .chk, (.asg (.nm 3) (.con (.int 0))), .chk, (.for (.tp [(.nm 4), (.nm 5)]) .tup [(.var 1)] b44_1), .chk, (.ret (.bin .mod (.var 3) (.var 2)))]
abbrev sI : Stmt := inClass (topS 44) 0
def b45 : List Stm := [.ret (.call 44 [.var 0, .var 1, .var 2])]
def b46 : List Stm := [.ret (.call 43 [.var 0, .var 1, .var 2])]
def TB : List Fdef := [⟨1, 3, b0⟩, ⟨1, 3, b1⟩, ⟨2, 7, b2⟩, ⟨1, 1, b3⟩, ⟨1, 6, b4⟩, ⟨1, 7, b5⟩, ⟨4, 4, b6⟩, ⟨1, 1, b7⟩, ⟨1, 4, b8⟩, ⟨1, 1, b9⟩, ⟨1, 1, b10⟩, ⟨1, 1, b11⟩, ⟨1, 3, b12⟩, ⟨1, 5, b13⟩, ⟨1, 3, b14⟩, ⟨2, 2, b15⟩, ⟨2, 2, b16⟩, ⟨1, 1, b17⟩, ⟨2, 4, b18⟩, ⟨2, 5, b19⟩, ⟨2, 2, b20⟩, ⟨2, 5, b21⟩, ⟨2, 2, b22⟩, ⟨1, 1, b23⟩, ⟨1, 1, b24⟩, ⟨1, 1, b25⟩, ⟨3, 4, b26⟩, ⟨1, 1, b27⟩, ⟨1, 4, b28⟩, ⟨2, 2, b29⟩, ⟨1, 1, b30⟩, ⟨2, 3, b31⟩, ⟨2, 2, b32⟩, ⟨2, 2, b33⟩, ⟨3, 8, b34⟩, ⟨3, 6, b35⟩, ⟨1, 1, b36⟩, ⟨2, 3, b37⟩, ⟨2, 3, b38⟩, ⟨2, 6, b39⟩, ⟨1, 3, b40⟩, ⟨1, 6, b41⟩, ⟨2, 2, b42⟩, ⟨3, 6, b43⟩, ⟨3, 6, b44⟩, ⟨3, 3, b45⟩, ⟨3, 3, b46⟩]
end My

set_option maxRecDepth 100000
set_option maxHeartbeats 2000000
namespace My
open PySem PySem.Spec PyProof.Rows L2 Rf
theorem n0_0 : N0[0]? = some ("number" : Str) := by decide +kernel
theorem l0_0 : (defScope s0).names.lookup ("number" : Str) = some .local := by decide +kernel
theorem n0_1 : N0[1]? = some ("_" : Str) := by decide +kernel
theorem n0_2 : N0[2]? = some ("exponent" : Str) := by decide +kernel
theorem g0_sum : (defScope s0).names.lookup ("sum" : Str) = some .globalImplicit := by decide +kernel
theorem sc0 : FnScope N0 p0 (defScope s0) := ⟨rfl, rfl, rfl, by decide +kernel, rfl, by decide +kernel, by decide +kernel⟩
theorem n1_0 : N1[0]? = some ("number" : Str) := by decide +kernel
theorem l1_0 : (defScope s1).names.lookup ("number" : Str) = some .local := by decide +kernel
theorem g1_len : (defScope s1).names.lookup ("len" : Str) = some .globalImplicit := by decide +kernel
theorem n1_1 : N1[1]? = some ("_" : Str) := by decide +kernel
theorem n1_2 : N1[2]? = some ("exponent" : Str) := by decide +kernel
theorem g1_max : (defScope s1).names.lookup ("max" : Str) = some .globalImplicit := by decide +kernel
theorem sc1 : FnScope N1 p1 (defScope s1) := ⟨rfl, rfl, rfl, by decide +kernel, rfl, by decide +kernel, by decide +kernel⟩
theorem n2_0 : N2[0]? = some ("first" : Str) := by decide +kernel
theorem l2_0 : (defScope s2).names.lookup ("first" : Str) = some .local := by decide +kernel
theorem n2_1 : N2[1]? = some ("second" : Str) := by decide +kernel
theorem l2_1 : (defScope s2).names.lookup ("second" : Str) = some .local := by decide +kernel
theorem g2_zip : (defScope s2).names.lookup ("zip" : Str) = some .globalImplicit := by decide +kernel
theorem n2_2 : N2[2]? = some ("sign" : Str) := by decide +kernel
theorem l2_2 : (defScope s2).names.lookup ("sign" : Str) = some .local := by decide +kernel
theorem n2_3 : N2[3]? = some ("exponent" : Str) := by decide +kernel
theorem l2_3 : (defScope s2).names.lookup ("exponent" : Str) = some .local := by decide +kernel
theorem n2_4 : N2[4]? = some ("other_sign" : Str) := by decide +kernel
theorem l2_4 : (defScope s2).names.lookup ("other_sign" : Str) = some .local := by decide +kernel
theorem n2_5 : N2[5]? = some ("other" : Str) := by decide +kernel
theorem l2_5 : (defScope s2).names.lookup ("other" : Str) = some .local := by decide +kernel
theorem g2_compare : (defScope s2).names.lookup ("compare" : Str) = some .globalImplicit := by decide +kernel
theorem n2_6 : N2[6]? = some ("order" : Str) := by decide +kernel
theorem l2_6 : (defScope s2).names.lookup ("order" : Str) = some .local := by decide +kernel
theorem g2_len : (defScope s2).names.lookup ("len" : Str) = some .globalImplicit := by decide +kernel
theorem sc2 : FnScope N2 p2 (defScope s2) := ⟨rfl, rfl, rfl, by decide +kernel, rfl, by decide +kernel, by decide +kernel⟩
theorem n3_0 : N3[0]? = some ("number" : Str) := by decide +kernel
theorem l3_0 : (defScope s3).names.lookup ("number" : Str) = some .local := by decide +kernel
theorem g3_len : (defScope s3).names.lookup ("len" : Str) = some .globalImplicit := by decide +kernel
theorem sc3 : FnScope N3 p3 (defScope s3) := ⟨rfl, rfl, rfl, by decide +kernel, rfl, by decide +kernel, by decide +kernel⟩
theorem n4_1 : N4[1]? = some ("found" : Str) := by decide +kernel
theorem l4_1 : (defScope s4).names.lookup ("found" : Str) = some .local := by decide +kernel
theorem n4_0 : N4[0]? = some ("numbers" : Str) := by decide +kernel
theorem l4_0 : (defScope s4).names.lookup ("numbers" : Str) = some .local := by decide +kernel
theorem n4_2 : N4[2]? = some ("number" : Str) := by decide +kernel
theorem l4_2 : (defScope s4).names.lookup ("number" : Str) = some .local := by decide +kernel
theorem n4_3 : N4[3]? = some ("low" : Str) := by decide +kernel
theorem l4_3 : (defScope s4).names.lookup ("low" : Str) = some .local := by decide +kernel
theorem g4_len : (defScope s4).names.lookup ("len" : Str) = some .globalImplicit := by decide +kernel
theorem n4_4 : N4[4]? = some ("high" : Str) := by decide +kernel
theorem l4_4 : (defScope s4).names.lookup ("high" : Str) = some .local := by decide +kernel
theorem n4_5 : N4[5]? = some ("middle" : Str) := by decide +kernel
theorem l4_5 : (defScope s4).names.lookup ("middle" : Str) = some .local := by decide +kernel
theorem g4_compare : (defScope s4).names.lookup ("compare" : Str) = some .globalImplicit := by decide +kernel
theorem sc4 : FnScope N4 p4 (defScope s4) := ⟨rfl, rfl, rfl, by decide +kernel, rfl, by decide +kernel, by decide +kernel⟩
theorem n5_1 : N5[1]? = some ("counts" : Str) := by decide +kernel
theorem l5_1 : (defScope s5).names.lookup ("counts" : Str) = some .local := by decide +kernel
theorem n5_0 : N5[0]? = some ("pairs" : Str) := by decide +kernel
theorem l5_0 : (defScope s5).names.lookup ("pairs" : Str) = some .local := by decide +kernel
theorem n5_2 : N5[2]? = some ("count" : Str) := by decide +kernel
theorem l5_2 : (defScope s5).names.lookup ("count" : Str) = some .local := by decide +kernel
theorem n5_3 : N5[3]? = some ("exponent" : Str) := by decide +kernel
theorem l5_3 : (defScope s5).names.lookup ("exponent" : Str) = some .local := by decide +kernel
theorem g5_list : (defScope s5).names.lookup ("list" : Str) = some .globalImplicit := by decide +kernel
theorem g5_in_order : (defScope s5).names.lookup ("in_order" : Str) = some .globalImplicit := by decide +kernel
theorem n5_4 : N5[4]? = some ("waiting" : Str) := by decide +kernel
theorem l5_4 : (defScope s5).names.lookup ("waiting" : Str) = some .local := by decide +kernel
theorem n5_5 : N5[5]? = some ("terms" : Str) := by decide +kernel
theorem l5_5 : (defScope s5).names.lookup ("terms" : Str) = some .local := by decide +kernel
theorem g5_len : (defScope s5).names.lookup ("len" : Str) = some .globalImplicit := by decide +kernel
theorem g5_sign_at : (defScope s5).names.lookup ("sign_at" : Str) = some .globalImplicit := by decide +kernel
theorem n5_6 : N5[6]? = some ("sign" : Str) := by decide +kernel
theorem l5_6 : (defScope s5).names.lookup ("sign" : Str) = some .local := by decide +kernel
theorem g5_next_of : (defScope s5).names.lookup ("next_of" : Str) = some .globalImplicit := by decide +kernel
theorem g5_tuple : (defScope s5).names.lookup ("tuple" : Str) = some .globalImplicit := by decide +kernel
theorem sc5 : FnScope N5 p5 (defScope s5) := ⟨rfl, rfl, rfl, by decide +kernel, rfl, by decide +kernel, by decide +kernel⟩
theorem n6_3 : N6[3]? = some ("waiting" : Str) := by decide +kernel
theorem l6_3 : (defScope s6).names.lookup ("waiting" : Str) = some .local := by decide +kernel
theorem g6_len : (defScope s6).names.lookup ("len" : Str) = some .globalImplicit := by decide +kernel
theorem n6_1 : N6[1]? = some ("exponent" : Str) := by decide +kernel
theorem l6_1 : (defScope s6).names.lookup ("exponent" : Str) = some .local := by decide +kernel
theorem g6_next_of : (defScope s6).names.lookup ("next_of" : Str) = some .globalImplicit := by decide +kernel
theorem n6_2 : N6[2]? = some ("counts" : Str) := by decide +kernel
theorem l6_2 : (defScope s6).names.lookup ("counts" : Str) = some .local := by decide +kernel
theorem n6_0 : N6[0]? = some ("count" : Str) := by decide +kernel
theorem l6_0 : (defScope s6).names.lookup ("count" : Str) = some .local := by decide +kernel
theorem sc6 : FnScope N6 p6 (defScope s6) := ⟨rfl, rfl, rfl, by decide +kernel, rfl, by decide +kernel, by decide +kernel⟩
theorem n7_0 : N7[0]? = some ("number" : Str) := by decide +kernel
theorem l7_0 : (defScope s7).names.lookup ("number" : Str) = some .local := by decide +kernel
theorem g7_list : (defScope s7).names.lookup ("list" : Str) = some .globalImplicit := by decide +kernel
theorem g7_gathered : (defScope s7).names.lookup ("gathered" : Str) = some .globalImplicit := by decide +kernel
theorem sc7 : FnScope N7 p7 (defScope s7) := ⟨rfl, rfl, rfl, by decide +kernel, rfl, by decide +kernel, by decide +kernel⟩
theorem n8_1 : N8[1]? = some ("terms" : Str) := by decide +kernel
theorem l8_1 : (defScope s8).names.lookup ("terms" : Str) = some .local := by decide +kernel
theorem n8_2 : N8[2]? = some ("place" : Str) := by decide +kernel
theorem l8_2 : (defScope s8).names.lookup ("place" : Str) = some .local := by decide +kernel
theorem n8_0 : N8[0]? = some ("value" : Str) := by decide +kernel
theorem l8_0 : (defScope s8).names.lookup ("value" : Str) = some .local := by decide +kernel
theorem n8_3 : N8[3]? = some ("sign" : Str) := by decide +kernel
theorem l8_3 : (defScope s8).names.lookup ("sign" : Str) = some .local := by decide +kernel
theorem g8_from_int : (defScope s8).names.lookup ("from_int" : Str) = some .globalImplicit := by decide +kernel
theorem g8_tuple : (defScope s8).names.lookup ("tuple" : Str) = some .globalImplicit := by decide +kernel
theorem sc8 : FnScope N8 p8 (defScope s8) := ⟨rfl, rfl, rfl, by decide +kernel, rfl, by decide +kernel, by decide +kernel⟩
theorem n9_0 : N9[0]? = some ("number" : Str) := by decide +kernel
theorem l9_0 : (defScope s9).names.lookup ("number" : Str) = some .local := by decide +kernel
theorem g9_size_of : (defScope s9).names.lookup ("size_of" : Str) = some .globalImplicit := by decide +kernel
theorem g9_MAX_SIZE : (defScope s9).names.lookup ("MAX_SIZE" : Str) = some .globalImplicit := by decide +kernel
theorem g9_height_of : (defScope s9).names.lookup ("height_of" : Str) = some .globalImplicit := by decide +kernel
theorem g9_MAX_HEIGHT : (defScope s9).names.lookup ("MAX_HEIGHT" : Str) = some .globalImplicit := by decide +kernel
theorem sc9 : FnScope N9 p9 (defScope s9) := ⟨rfl, rfl, rfl, by decide +kernel, rfl, by decide +kernel, by decide +kernel⟩
theorem n10_0 : N10[0]? = some ("number" : Str) := by decide +kernel
theorem l10_0 : (defScope s10).names.lookup ("number" : Str) = some .local := by decide +kernel
theorem g10_is_allowed : (defScope s10).names.lookup ("is_allowed" : Str) = some .globalImplicit := by decide +kernel
theorem g10_TooLarge : (defScope s10).names.lookup ("TooLarge" : Str) = some .globalImplicit := by decide +kernel
theorem sc10 : FnScope N10 p10 (defScope s10) := ⟨rfl, rfl, rfl, by decide +kernel, rfl, by decide +kernel, by decide +kernel⟩
theorem n11_0 : N11[0]? = some ("value" : Str) := by decide +kernel
theorem l11_0 : (defScope s11).names.lookup ("value" : Str) = some .local := by decide +kernel
theorem g11_MAX_DIGITS : (defScope s11).names.lookup ("MAX_DIGITS" : Str) = some .globalImplicit := by decide +kernel
theorem g11_NotAllowed : (defScope s11).names.lookup ("NotAllowed" : Str) = some .globalImplicit := by decide +kernel
theorem g11_from_int : (defScope s11).names.lookup ("from_int" : Str) = some .globalImplicit := by decide +kernel
theorem g11_allowed : (defScope s11).names.lookup ("allowed" : Str) = some .globalImplicit := by decide +kernel
theorem sc11 : FnScope N11 p11 (defScope s11) := ⟨rfl, rfl, rfl, by decide +kernel, rfl, by decide +kernel, by decide +kernel⟩
theorem n12_1 : N12[1]? = some ("value" : Str) := by decide +kernel
theorem l12_1 : (defScope s12).names.lookup ("value" : Str) = some .local := by decide +kernel
theorem n12_0 : N12[0]? = some ("count" : Str) := by decide +kernel
theorem l12_0 : (defScope s12).names.lookup ("count" : Str) = some .local := by decide +kernel
theorem g12_range : (defScope s12).names.lookup ("range" : Str) = some .globalImplicit := by decide +kernel
theorem n12_2 : N12[2]? = some ("_" : Str) := by decide +kernel
theorem l12_2 : (defScope s12).names.lookup ("_" : Str) = some .local := by decide +kernel
theorem sc12 : FnScope N12 p12 (defScope s12) := ⟨rfl, rfl, rfl, by decide +kernel, rfl, by decide +kernel, by decide +kernel⟩
theorem g13_MAX_BINARY : (defScope s13).names.lookup ("MAX_BINARY" : Str) = some .globalImplicit := by decide +kernel
theorem g13_from_int : (defScope s13).names.lookup ("from_int" : Str) = some .globalImplicit := by decide +kernel
theorem n13_1 : N13[1]? = some ("most" : Str) := by decide +kernel
theorem l13_1 : (defScope s13).names.lookup ("most" : Str) = some .local := by decide +kernel
theorem n13_2 : N13[2]? = some ("value" : Str) := by decide +kernel
theorem l13_2 : (defScope s13).names.lookup ("value" : Str) = some .local := by decide +kernel
theorem n13_0 : N13[0]? = some ("number" : Str) := by decide +kernel
theorem l13_0 : (defScope s13).names.lookup ("number" : Str) = some .local := by decide +kernel
theorem n13_3 : N13[3]? = some ("sign" : Str) := by decide +kernel
theorem l13_3 : (defScope s13).names.lookup ("sign" : Str) = some .local := by decide +kernel
theorem n13_4 : N13[4]? = some ("exponent" : Str) := by decide +kernel
theorem l13_4 : (defScope s13).names.lookup ("exponent" : Str) = some .local := by decide +kernel
theorem g13_compare : (defScope s13).names.lookup ("compare" : Str) = some .globalImplicit := by decide +kernel
theorem g13_NotAllowed : (defScope s13).names.lookup ("NotAllowed" : Str) = some .globalImplicit := by decide +kernel
theorem g13_to_int : (defScope s13).names.lookup ("to_int" : Str) = some .globalImplicit := by decide +kernel
theorem g13_power_of_two : (defScope s13).names.lookup ("power_of_two" : Str) = some .globalImplicit := by decide +kernel
theorem g13_abs : (defScope s13).names.lookup ("abs" : Str) = some .globalImplicit := by decide +kernel
theorem sc13 : FnScope N13 p13 (defScope s13) := ⟨rfl, rfl, rfl, by decide +kernel, rfl, by decide +kernel, by decide +kernel⟩
theorem n14_0 : N14[0]? = some ("number" : Str) := by decide +kernel
theorem l14_0 : (defScope s14).names.lookup ("number" : Str) = some .local := by decide +kernel
theorem n14_1 : N14[1]? = some ("sign" : Str) := by decide +kernel
theorem n14_2 : N14[2]? = some ("exponent" : Str) := by decide +kernel
theorem g14_tuple : (defScope s14).names.lookup ("tuple" : Str) = some .globalImplicit := by decide +kernel
theorem sc14 : FnScope N14 p14 (defScope s14) := ⟨rfl, rfl, rfl, by decide +kernel, rfl, by decide +kernel, by decide +kernel⟩
theorem n15_0 : N15[0]? = some ("first" : Str) := by decide +kernel
theorem l15_0 : (defScope s15).names.lookup ("first" : Str) = some .local := by decide +kernel
theorem g15_list : (defScope s15).names.lookup ("list" : Str) = some .globalImplicit := by decide +kernel
theorem n15_1 : N15[1]? = some ("second" : Str) := by decide +kernel
theorem l15_1 : (defScope s15).names.lookup ("second" : Str) = some .local := by decide +kernel
theorem g15_gathered : (defScope s15).names.lookup ("gathered" : Str) = some .globalImplicit := by decide +kernel
theorem sc15 : FnScope N15 p15 (defScope s15) := ⟨rfl, rfl, rfl, by decide +kernel, rfl, by decide +kernel, by decide +kernel⟩
theorem n16_0 : N16[0]? = some ("first" : Str) := by decide +kernel
theorem l16_0 : (defScope s16).names.lookup ("first" : Str) = some .local := by decide +kernel
theorem n16_1 : N16[1]? = some ("second" : Str) := by decide +kernel
theorem l16_1 : (defScope s16).names.lookup ("second" : Str) = some .local := by decide +kernel
theorem g16_negate : (defScope s16).names.lookup ("negate" : Str) = some .globalImplicit := by decide +kernel
theorem g16_plus : (defScope s16).names.lookup ("plus" : Str) = some .globalImplicit := by decide +kernel
theorem sc16 : FnScope N16 p16 (defScope s16) := ⟨rfl, rfl, rfl, by decide +kernel, rfl, by decide +kernel, by decide +kernel⟩
theorem n17_0 : N17[0]? = some ("place" : Str) := by decide +kernel
theorem l17_0 : (defScope s17).names.lookup ("place" : Str) = some .local := by decide +kernel
theorem g17_sign_of : (defScope s17).names.lookup ("sign_of" : Str) = some .globalImplicit := by decide +kernel
theorem g17_NotAllowed : (defScope s17).names.lookup ("NotAllowed" : Str) = some .globalImplicit := by decide +kernel
theorem sc17 : FnScope N17 p17 (defScope s17) := ⟨rfl, rfl, rfl, by decide +kernel, rfl, by decide +kernel, by decide +kernel⟩
theorem n18_0 : N18[0]? = some ("x" : Str) := by decide +kernel
theorem l18_0 : (defScope s18).names.lookup ("x" : Str) = some .local := by decide +kernel
theorem n18_2 : N18[2]? = some ("sign" : Str) := by decide +kernel
theorem l18_2 : (defScope s18).names.lookup ("sign" : Str) = some .local := by decide +kernel
theorem n18_3 : N18[3]? = some ("exponent" : Str) := by decide +kernel
theorem l18_3 : (defScope s18).names.lookup ("exponent" : Str) = some .local := by decide +kernel
theorem n18_1 : N18[1]? = some ("place" : Str) := by decide +kernel
theorem l18_1 : (defScope s18).names.lookup ("place" : Str) = some .local := by decide +kernel
theorem g18_compare : (defScope s18).names.lookup ("compare" : Str) = some .globalImplicit := by decide +kernel
theorem sc18 : FnScope N18 p18 (defScope s18) := ⟨rfl, rfl, rfl, by decide +kernel, rfl, by decide +kernel, by decide +kernel⟩
theorem n19_0 : N19[0]? = some ("x" : Str) := by decide +kernel
theorem l19_0 : (defScope s19).names.lookup ("x" : Str) = some .local := by decide +kernel
theorem n19_3 : N19[3]? = some ("sign" : Str) := by decide +kernel
theorem n19_4 : N19[4]? = some ("exponent" : Str) := by decide +kernel
theorem n19_1 : N19[1]? = some ("y" : Str) := by decide +kernel
theorem n19_2 : N19[2]? = some ("terms" : Str) := by decide +kernel
theorem l19_2 : (defScope s19).names.lookup ("terms" : Str) = some .local := by decide +kernel
theorem l19_1 : (defScope s19).names.lookup ("y" : Str) = some .cell := by decide +kernel
theorem g19_is_borrowed : (defScope s19).names.lookup ("is_borrowed" : Str) = some .globalImplicit := by decide +kernel
theorem g19_tuple : (defScope s19).names.lookup ("tuple" : Str) = some .globalImplicit := by decide +kernel
theorem g19_from_int : (defScope s19).names.lookup ("from_int" : Str) = some .globalImplicit := by decide +kernel
theorem g19_plus : (defScope s19).names.lookup ("plus" : Str) = some .globalImplicit := by decide +kernel
theorem sc19 : FnScope N19 p19 (defScope s19) := ⟨rfl, rfl, rfl, by decide +kernel, rfl, by decide +kernel, by decide +kernel⟩
theorem n20_1 : N20[1]? = some ("y" : Str) := by decide +kernel
theorem l20_1 : (defScope s20).names.lookup ("y" : Str) = some .local := by decide +kernel
theorem g20_check_place : (defScope s20).names.lookup ("check_place" : Str) = some .globalImplicit := by decide +kernel
theorem n20_0 : N20[0]? = some ("x" : Str) := by decide +kernel
theorem l20_0 : (defScope s20).names.lookup ("x" : Str) = some .local := by decide +kernel
theorem g20_floored : (defScope s20).names.lookup ("floored" : Str) = some .globalImplicit := by decide +kernel
theorem g20_allowed : (defScope s20).names.lookup ("allowed" : Str) = some .globalImplicit := by decide +kernel
theorem sc20 : FnScope N20 p20 (defScope s20) := ⟨rfl, rfl, rfl, by decide +kernel, rfl, by decide +kernel, by decide +kernel⟩
theorem n21_0 : N21[0]? = some ("x" : Str) := by decide +kernel
theorem l21_0 : (defScope s21).names.lookup ("x" : Str) = some .local := by decide +kernel
theorem n21_3 : N21[3]? = some ("_" : Str) := by decide +kernel
theorem n21_4 : N21[4]? = some ("exponent" : Str) := by decide +kernel
theorem n21_1 : N21[1]? = some ("place" : Str) := by decide +kernel
theorem n21_2 : N21[2]? = some ("found" : Str) := by decide +kernel
theorem l21_2 : (defScope s21).names.lookup ("found" : Str) = some .local := by decide +kernel
theorem g21_len : (defScope s21).names.lookup ("len" : Str) = some .globalImplicit := by decide +kernel
theorem l21_1 : (defScope s21).names.lookup ("place" : Str) = some .cell := by decide +kernel
theorem g21_is_borrowed : (defScope s21).names.lookup ("is_borrowed" : Str) = some .globalImplicit := by decide +kernel
theorem g21_int : (defScope s21).names.lookup ("int" : Str) = some .globalImplicit := by decide +kernel
theorem sc21 : FnScope N21 p21 (defScope s21) := ⟨rfl, rfl, rfl, by decide +kernel, rfl, by decide +kernel, by decide +kernel⟩
theorem n22_1 : N22[1]? = some ("place" : Str) := by decide +kernel
theorem l22_1 : (defScope s22).names.lookup ("place" : Str) = some .local := by decide +kernel
theorem g22_check_place : (defScope s22).names.lookup ("check_place" : Str) = some .globalImplicit := by decide +kernel
theorem n22_0 : N22[0]? = some ("x" : Str) := by decide +kernel
theorem l22_0 : (defScope s22).names.lookup ("x" : Str) = some .local := by decide +kernel
theorem g22_digit : (defScope s22).names.lookup ("digit" : Str) = some .globalImplicit := by decide +kernel
theorem sc22 : FnScope N22 p22 (defScope s22) := ⟨rfl, rfl, rfl, by decide +kernel, rfl, by decide +kernel, by decide +kernel⟩
theorem n23_0 : N23[0]? = some ("x" : Str) := by decide +kernel
theorem l23_0 : (defScope s23).names.lookup ("x" : Str) = some .local := by decide +kernel
theorem g23_len : (defScope s23).names.lookup ("len" : Str) = some .globalImplicit := by decide +kernel
theorem g23_next_of : (defScope s23).names.lookup ("next_of" : Str) = some .globalImplicit := by decide +kernel
theorem sc23 : FnScope N23 p23 (defScope s23) := ⟨rfl, rfl, rfl, by decide +kernel, rfl, by decide +kernel, by decide +kernel⟩
theorem n24_0 : N24[0]? = some ("x" : Str) := by decide +kernel
theorem l24_0 : (defScope s24).names.lookup ("x" : Str) = some .local := by decide +kernel
theorem g24_length_of : (defScope s24).names.lookup ("length_of" : Str) = some .globalImplicit := by decide +kernel
theorem g24_allowed : (defScope s24).names.lookup ("allowed" : Str) = some .globalImplicit := by decide +kernel
theorem sc24 : FnScope N24 p24 (defScope s24) := ⟨rfl, rfl, rfl, by decide +kernel, rfl, by decide +kernel, by decide +kernel⟩
theorem n25_0 : N25[0]? = some ("x" : Str) := by decide +kernel
theorem l25_0 : (defScope s25).names.lookup ("x" : Str) = some .local := by decide +kernel
theorem g25_len : (defScope s25).names.lookup ("len" : Str) = some .globalImplicit := by decide +kernel
theorem g25_Missing : (defScope s25).names.lookup ("Missing" : Str) = some .globalImplicit := by decide +kernel
theorem sc25 : FnScope N25 p25 (defScope s25) := ⟨rfl, rfl, rfl, by decide +kernel, rfl, by decide +kernel, by decide +kernel⟩
theorem n26_1 : N26[1]? = some ("place" : Str) := by decide +kernel
theorem l26_1 : (defScope s26).names.lookup ("place" : Str) = some .cell := by decide +kernel
theorem g26_check_place : (defScope s26).names.lookup ("check_place" : Str) = some .globalImplicit := by decide +kernel
theorem n26_2 : N26[2]? = some ("count" : Str) := by decide +kernel
theorem l26_2 : (defScope s26).names.lookup ("count" : Str) = some .local := by decide +kernel
theorem g26_MAX_COUNT : (defScope s26).names.lookup ("MAX_COUNT" : Str) = some .globalImplicit := by decide +kernel
theorem g26_NotAllowed : (defScope s26).names.lookup ("NotAllowed" : Str) = some .globalImplicit := by decide +kernel
theorem g26_range : (defScope s26).names.lookup ("range" : Str) = some .globalImplicit := by decide +kernel
theorem n26_3 : N26[3]? = some ("step" : Str) := by decide +kernel
theorem n26_0 : N26[0]? = some ("x" : Str) := by decide +kernel
theorem sc26 : FnScope N26 p26 (defScope s26) := ⟨rfl, rfl, rfl, by decide +kernel, rfl, by decide +kernel, by decide +kernel⟩
theorem n27_0 : N27[0]? = some ("m" : Str) := by decide +kernel
theorem l27_0 : (defScope s27).names.lookup ("m" : Str) = some .local := by decide +kernel
theorem g27_MAX_MODULUS : (defScope s27).names.lookup ("MAX_MODULUS" : Str) = some .globalImplicit := by decide +kernel
theorem g27_NotAllowed : (defScope s27).names.lookup ("NotAllowed" : Str) = some .globalImplicit := by decide +kernel
theorem sc27 : FnScope N27 p27 (defScope s27) := ⟨rfl, rfl, rfl, by decide +kernel, rfl, by decide +kernel, by decide +kernel⟩
theorem n28_1 : N28[1]? = some ("row" : Str) := by decide +kernel
theorem l28_1 : (defScope s28).names.lookup ("row" : Str) = some .local := by decide +kernel
theorem n28_2 : N28[2]? = some ("seen" : Str) := by decide +kernel
theorem l28_2 : (defScope s28).names.lookup ("seen" : Str) = some .local := by decide +kernel
theorem n28_0 : N28[0]? = some ("m" : Str) := by decide +kernel
theorem l28_0 : (defScope s28).names.lookup ("m" : Str) = some .local := by decide +kernel
theorem n28_3 : N28[3]? = some ("power" : Str) := by decide +kernel
theorem l28_3 : (defScope s28).names.lookup ("power" : Str) = some .local := by decide +kernel
theorem g28_len : (defScope s28).names.lookup ("len" : Str) = some .globalImplicit := by decide +kernel
theorem sc28 : FnScope N28 p28 (defScope s28) := ⟨rfl, rfl, rfl, by decide +kernel, rfl, by decide +kernel, by decide +kernel⟩
theorem n29_1 : N29[1]? = some ("m" : Str) := by decide +kernel
theorem l29_1 : (defScope s29).names.lookup ("m" : Str) = some .local := by decide +kernel
theorem g29_check_modulus : (defScope s29).names.lookup ("check_modulus" : Str) = some .globalImplicit := by decide +kernel
theorem g29_Powers : (defScope s29).names.lookup ("Powers" : Str) = some .globalImplicit := by decide +kernel
theorem n29_0 : N29[0]? = some ("x" : Str) := by decide +kernel
theorem l29_0 : (defScope s29).names.lookup ("x" : Str) = some .local := by decide +kernel
theorem sc29 : FnScope N29 p29 (defScope s29) := ⟨rfl, rfl, rfl, by decide +kernel, rfl, by decide +kernel, by decide +kernel⟩
theorem n30_0 : N30[0]? = some ("x" : Str) := by decide +kernel
theorem l30_0 : (defScope s30).names.lookup ("x" : Str) = some .local := by decide +kernel
theorem g30_sign_of : (defScope s30).names.lookup ("sign_of" : Str) = some .globalImplicit := by decide +kernel
theorem g30_negate : (defScope s30).names.lookup ("negate" : Str) = some .globalImplicit := by decide +kernel
theorem sc30 : FnScope N30 p30 (defScope s30) := ⟨rfl, rfl, rfl, by decide +kernel, rfl, by decide +kernel, by decide +kernel⟩
theorem n31_1 : N31[1]? = some ("k" : Str) := by decide +kernel
theorem l31_1 : (defScope s31).names.lookup ("k" : Str) = some .local := by decide +kernel
theorem g31_MAX_LEAD : (defScope s31).names.lookup ("MAX_LEAD" : Str) = some .globalImplicit := by decide +kernel
theorem g31_NotAllowed : (defScope s31).names.lookup ("NotAllowed" : Str) = some .globalImplicit := by decide +kernel
theorem n31_0 : N31[0]? = some ("x" : Str) := by decide +kernel
theorem l31_0 : (defScope s31).names.lookup ("x" : Str) = some .local := by decide +kernel
theorem g31_length_of : (defScope s31).names.lookup ("length_of" : Str) = some .globalImplicit := by decide +kernel
theorem n31_2 : N31[2]? = some ("places" : Str) := by decide +kernel
theorem l31_2 : (defScope s31).names.lookup ("places" : Str) = some .local := by decide +kernel
theorem g31_from_int : (defScope s31).names.lookup ("from_int" : Str) = some .globalImplicit := by decide +kernel
theorem g31_compare : (defScope s31).names.lookup ("compare" : Str) = some .globalImplicit := by decide +kernel
theorem g31_magnitude : (defScope s31).names.lookup ("magnitude" : Str) = some .globalImplicit := by decide +kernel
theorem g31_to_int : (defScope s31).names.lookup ("to_int" : Str) = some .globalImplicit := by decide +kernel
theorem g31_minus : (defScope s31).names.lookup ("minus" : Str) = some .globalImplicit := by decide +kernel
theorem g31_floored : (defScope s31).names.lookup ("floored" : Str) = some .globalImplicit := by decide +kernel
theorem sc31 : FnScope N31 p31 (defScope s31) := ⟨rfl, rfl, rfl, by decide +kernel, rfl, by decide +kernel, by decide +kernel⟩
theorem n32_1 : N32[1]? = some ("k" : Str) := by decide +kernel
theorem l32_1 : (defScope s32).names.lookup ("k" : Str) = some .local := by decide +kernel
theorem g32_MAX_LAST : (defScope s32).names.lookup ("MAX_LAST" : Str) = some .globalImplicit := by decide +kernel
theorem g32_NotAllowed : (defScope s32).names.lookup ("NotAllowed" : Str) = some .globalImplicit := by decide +kernel
theorem n32_0 : N32[0]? = some ("x" : Str) := by decide +kernel
theorem l32_0 : (defScope s32).names.lookup ("x" : Str) = some .local := by decide +kernel
theorem g32_magnitude : (defScope s32).names.lookup ("magnitude" : Str) = some .globalImplicit := by decide +kernel
theorem g32_TENS : (defScope s32).names.lookup ("TENS" : Str) = some .globalImplicit := by decide +kernel
theorem g32_remainder : (defScope s32).names.lookup ("remainder" : Str) = some .globalImplicit := by decide +kernel
theorem sc32 : FnScope N32 p32 (defScope s32) := ⟨rfl, rfl, rfl, by decide +kernel, rfl, by decide +kernel, by decide +kernel⟩
theorem n33_1 : N33[1]? = some ("_law_k" : Str) := by decide +kernel
theorem l33_1 : (defScope s33).names.lookup ("_law_k" : Str) = some .local := by decide +kernel
theorem n33_0 : N33[0]? = some ("_law_script" : Str) := by decide +kernel
theorem l33_0 : (defScope s33).names.lookup ("_law_script" : Str) = some .local := by decide +kernel
theorem g33_len : (defScope s33).names.lookup ("len" : Str) = some .globalImplicit := by decide +kernel
theorem sc33 : FnScope N33 p33 (defScope s33) := ⟨rfl, rfl, rfl, by decide +kernel, rfl, by decide +kernel, by decide +kernel⟩
theorem n34_3 : N34[3]? = some ("_law_numbers_here" : Str) := by decide +kernel
theorem l34_3 : (defScope s34).names.lookup ("_law_numbers_here" : Str) = some .local := by decide +kernel
theorem n34_0 : N34[0]? = some ("_law_cell_here" : Str) := by decide +kernel
theorem l34_0 : (defScope s34).names.lookup ("_law_cell_here" : Str) = some .local := by decide +kernel
theorem n34_4 : N34[4]? = some ("_law_rest" : Str) := by decide +kernel
theorem l34_4 : (defScope s34).names.lookup ("_law_rest" : Str) = some .local := by decide +kernel
theorem n34_2 : N34[2]? = some ("_law_many" : Str) := by decide +kernel
theorem l34_2 : (defScope s34).names.lookup ("_law_many" : Str) = some .local := by decide +kernel
theorem g34_range : (defScope s34).names.lookup ("range" : Str) = some .globalImplicit := by decide +kernel
theorem n34_5 : N34[5]? = some ("_law_j" : Str) := by decide +kernel
theorem l34_5 : (defScope s34).names.lookup ("_law_j" : Str) = some .local := by decide +kernel
theorem g34_int : (defScope s34).names.lookup ("int" : Str) = some .globalImplicit := by decide +kernel
theorem n34_1 : N34[1]? = some ("_law_k" : Str) := by decide +kernel
theorem l34_1 : (defScope s34).names.lookup ("_law_k" : Str) = some .local := by decide +kernel
theorem n34_6 : N34[6]? = some ("_law_mixed" : Str) := by decide +kernel
theorem l34_6 : (defScope s34).names.lookup ("_law_mixed" : Str) = some .local := by decide +kernel
theorem n34_7 : N34[7]? = some ("_law_twice" : Str) := by decide +kernel
theorem l34_7 : (defScope s34).names.lookup ("_law_twice" : Str) = some .local := by decide +kernel
theorem sc34 : FnScope N34 p34 (defScope s34) := ⟨rfl, rfl, rfl, by decide +kernel, rfl, by decide +kernel, by decide +kernel⟩
theorem n35_3 : N35[3]? = some ("_law_value" : Str) := by decide +kernel
theorem l35_3 : (defScope s35).names.lookup ("_law_value" : Str) = some .local := by decide +kernel
theorem n35_0 : N35[0]? = some ("_law_numbers_here" : Str) := by decide +kernel
theorem l35_0 : (defScope s35).names.lookup ("_law_numbers_here" : Str) = some .local := by decide +kernel
theorem n35_1 : N35[1]? = some ("_law_at" : Str) := by decide +kernel
theorem l35_1 : (defScope s35).names.lookup ("_law_at" : Str) = some .local := by decide +kernel
theorem g35_int : (defScope s35).names.lookup ("int" : Str) = some .globalImplicit := by decide +kernel
theorem g35_range : (defScope s35).names.lookup ("range" : Str) = some .globalImplicit := by decide +kernel
theorem n35_4 : N35[4]? = some ("_law_k" : Str) := by decide +kernel
theorem l35_4 : (defScope s35).names.lookup ("_law_k" : Str) = some .local := by decide +kernel
theorem n35_2 : N35[2]? = some ("_law_most" : Str) := by decide +kernel
theorem l35_2 : (defScope s35).names.lookup ("_law_most" : Str) = some .local := by decide +kernel
theorem n35_5 : N35[5]? = some ("_law_place" : Str) := by decide +kernel
theorem l35_5 : (defScope s35).names.lookup ("_law_place" : Str) = some .local := by decide +kernel
theorem sc35 : FnScope N35 p35 (defScope s35) := ⟨rfl, rfl, rfl, by decide +kernel, rfl, by decide +kernel, by decide +kernel⟩
theorem n36_0 : N36[0]? = some ("_law_value" : Str) := by decide +kernel
theorem l36_0 : (defScope s36).names.lookup ("_law_value" : Str) = some .local := by decide +kernel
theorem g36_abs : (defScope s36).names.lookup ("abs" : Str) = some .globalImplicit := by decide +kernel
theorem sc36 : FnScope N36 p36 (defScope s36) := ⟨rfl, rfl, rfl, by decide +kernel, rfl, by decide +kernel, by decide +kernel⟩
theorem n37_0 : N37[0]? = some ("_law_value" : Str) := by decide +kernel
theorem l37_0 : (defScope s37).names.lookup ("_law_value" : Str) = some .local := by decide +kernel
theorem g37_abs : (defScope s37).names.lookup ("abs" : Str) = some .globalImplicit := by decide +kernel
theorem n37_2 : N37[2]? = some ("_law_size" : Str) := by decide +kernel
theorem l37_2 : (defScope s37).names.lookup ("_law_size" : Str) = some .local := by decide +kernel
theorem n37_1 : N37[1]? = some ("_law_k" : Str) := by decide +kernel
theorem l37_1 : (defScope s37).names.lookup ("_law_k" : Str) = some .local := by decide +kernel
theorem sc37 : FnScope N37 p37 (defScope s37) := ⟨rfl, rfl, rfl, by decide +kernel, rfl, by decide +kernel, by decide +kernel⟩
theorem n38_0 : N38[0]? = some ("_law_door" : Str) := by decide +kernel
theorem l38_0 : (defScope s38).names.lookup ("_law_door" : Str) = some .local := by decide +kernel
theorem n38_1 : N38[1]? = some ("_law_x" : Str) := by decide +kernel
theorem l38_1 : (defScope s38).names.lookup ("_law_x" : Str) = some .local := by decide +kernel
theorem g38_of_int : (defScope s38).names.lookup ("of_int" : Str) = some .globalImplicit := by decide +kernel
theorem g38_int : (defScope s38).names.lookup ("int" : Str) = some .globalImplicit := by decide +kernel
theorem g38_floor_shift : (defScope s38).names.lookup ("floor_shift" : Str) = some .globalImplicit := by decide +kernel
theorem g38_digit_at : (defScope s38).names.lookup ("digit_at" : Str) = some .globalImplicit := by decide +kernel
theorem g38_digits_from : (defScope s38).names.lookup ("digits_from" : Str) = some .globalImplicit := by decide +kernel
theorem g38_lead : (defScope s38).names.lookup ("lead" : Str) = some .globalImplicit := by decide +kernel
theorem g38_last_digits : (defScope s38).names.lookup ("last_digits" : Str) = some .globalImplicit := by decide +kernel
theorem n38_2 : N38[2]? = some ("e" : Str) := by decide +kernel
theorem l38_2 : (defScope s38).names.lookup ("e" : Str) = some .local := by decide +kernel
theorem g38_isinstance : (defScope s38).names.lookup ("isinstance" : Str) = some .globalImplicit := by decide +kernel
theorem g38_ReckonError : (defScope s38).names.lookup ("ReckonError" : Str) = some .globalImplicit := by decide +kernel
theorem g38_Missing : (defScope s38).names.lookup ("Missing" : Str) = some .globalImplicit := by decide +kernel
theorem g38_TooLarge : (defScope s38).names.lookup ("TooLarge" : Str) = some .globalImplicit := by decide +kernel
theorem g38_NotAllowed : (defScope s38).names.lookup ("NotAllowed" : Str) = some .globalImplicit := by decide +kernel
theorem sc38 : FnScope N38 p38 (defScope s38) := ⟨rfl, rfl, rfl, by decide +kernel, rfl, by decide +kernel, by decide +kernel⟩
theorem n39_0 : N39[0]? = some ("_law_value" : Str) := by decide +kernel
theorem l39_0 : (defScope s39).names.lookup ("_law_value" : Str) = some .cell := by decide +kernel
theorem g39_of_int : (defScope s39).names.lookup ("of_int" : Str) = some .globalImplicit := by decide +kernel
theorem n39_2 : N39[2]? = some ("_law_number" : Str) := by decide +kernel
theorem l39_2 : (defScope s39).names.lookup ("_law_number" : Str) = some .local := by decide +kernel
theorem n39_1 : N39[1]? = some ("_law_numbers_here" : Str) := by decide +kernel
theorem l39_1 : (defScope s39).names.lookup ("_law_numbers_here" : Str) = some .local := by decide +kernel
theorem g39_int : (defScope s39).names.lookup ("int" : Str) = some .globalImplicit := by decide +kernel
theorem n39_3 : N39[3]? = some ("_law_place" : Str) := by decide +kernel
theorem l39_3 : (defScope s39).names.lookup ("_law_place" : Str) = some .cell := by decide +kernel
theorem g39_floor_shift : (defScope s39).names.lookup ("floor_shift" : Str) = some .globalImplicit := by decide +kernel
theorem g39_digit_at : (defScope s39).names.lookup ("digit_at" : Str) = some .globalImplicit := by decide +kernel
theorem n39_4 : N39[4]? = some ("_law_count" : Str) := by decide +kernel
theorem l39_4 : (defScope s39).names.lookup ("_law_count" : Str) = some .local := by decide +kernel
theorem g39_digits_from : (defScope s39).names.lookup ("digits_from" : Str) = some .globalImplicit := by decide +kernel
theorem g39_range : (defScope s39).names.lookup ("range" : Str) = some .globalImplicit := by decide +kernel
theorem n39_5 : N39[5]? = some ("_law_k" : Str) := by decide +kernel
theorem g39_length : (defScope s39).names.lookup ("length" : Str) = some .globalImplicit := by decide +kernel
theorem g39_abs : (defScope s39).names.lookup ("abs" : Str) = some .globalImplicit := by decide +kernel
theorem l39_5 : (defScope s39).names.lookup ("_law_k" : Str) = some .local := by decide +kernel
theorem g39_lead : (defScope s39).names.lookup ("lead" : Str) = some .globalImplicit := by decide +kernel
theorem g39__law_lead : (defScope s39).names.lookup ("_law_lead" : Str) = some .globalImplicit := by decide +kernel
theorem g39_last_digits : (defScope s39).names.lookup ("last_digits" : Str) = some .globalImplicit := by decide +kernel
theorem sc39 : FnScope N39 p39 (defScope s39) := ⟨rfl, rfl, rfl, by decide +kernel, rfl, by decide +kernel, by decide +kernel⟩
theorem n40_0 : N40[0]? = some ("_law_value" : Str) := by decide +kernel
theorem l40_0 : (defScope s40).names.lookup ("_law_value" : Str) = some .local := by decide +kernel
theorem g40_of_int : (defScope s40).names.lookup ("of_int" : Str) = some .globalImplicit := by decide +kernel
theorem g40_low : (defScope s40).names.lookup ("low" : Str) = some .globalImplicit := by decide +kernel
theorem n40_1 : N40[1]? = some ("_law_told" : Str) := by decide +kernel
theorem l40_1 : (defScope s40).names.lookup ("_law_told" : Str) = some .local := by decide +kernel
theorem n40_2 : N40[2]? = some ("e" : Str) := by decide +kernel
theorem l40_2 : (defScope s40).names.lookup ("e" : Str) = some .local := by decide +kernel
theorem g40_isinstance : (defScope s40).names.lookup ("isinstance" : Str) = some .globalImplicit := by decide +kernel
theorem g40_ReckonError : (defScope s40).names.lookup ("ReckonError" : Str) = some .globalImplicit := by decide +kernel
theorem g40_NotAllowed : (defScope s40).names.lookup ("NotAllowed" : Str) = some .globalImplicit := by decide +kernel
theorem g40_Missing : (defScope s40).names.lookup ("Missing" : Str) = some .globalImplicit := by decide +kernel
theorem g40__law_low : (defScope s40).names.lookup ("_law_low" : Str) = some .globalImplicit := by decide +kernel
theorem sc40 : FnScope N40 p40 (defScope s40) := ⟨rfl, rfl, rfl, by decide +kernel, rfl, by decide +kernel, by decide +kernel⟩
theorem n41_0 : N41[0]? = some ("_law_script" : Str) := by decide +kernel
theorem l41_0 : (defScope s41).names.lookup ("_law_script" : Str) = some .local := by decide +kernel
theorem g41_len : (defScope s41).names.lookup ("len" : Str) = some .globalImplicit := by decide +kernel
theorem g41_min : (defScope s41).names.lookup ("min" : Str) = some .globalImplicit := by decide +kernel
theorem g41_max : (defScope s41).names.lookup ("max" : Str) = some .globalImplicit := by decide +kernel
theorem g41_range : (defScope s41).names.lookup ("range" : Str) = some .globalImplicit := by decide +kernel
theorem n41_1 : N41[1]? = some ("_law_k" : Str) := by decide +kernel
theorem l41_1 : (defScope s41).names.lookup ("_law_k" : Str) = some .local := by decide +kernel
theorem g41__law_cell : (defScope s41).names.lookup ("_law_cell" : Str) = some .globalImplicit := by decide +kernel
theorem g41__law_numbers : (defScope s41).names.lookup ("_law_numbers" : Str) = some .globalImplicit := by decide +kernel
theorem n41_2 : N41[2]? = some ("_law_numbers_here" : Str) := by decide +kernel
theorem l41_2 : (defScope s41).names.lookup ("_law_numbers_here" : Str) = some .local := by decide +kernel
theorem g41__law_plain : (defScope s41).names.lookup ("_law_plain" : Str) = some .globalImplicit := by decide +kernel
theorem n41_3 : N41[3]? = some ("_law_value" : Str) := by decide +kernel
theorem l41_3 : (defScope s41).names.lookup ("_law_value" : Str) = some .local := by decide +kernel
theorem g41__law_agrees : (defScope s41).names.lookup ("_law_agrees" : Str) = some .globalImplicit := by decide +kernel
theorem g41_int : (defScope s41).names.lookup ("int" : Str) = some .globalImplicit := by decide +kernel
theorem g41__law_lowest : (defScope s41).names.lookup ("_law_lowest" : Str) = some .globalImplicit := by decide +kernel
theorem n41_4 : N41[4]? = some ("_law_x" : Str) := by decide +kernel
theorem l41_4 : (defScope s41).names.lookup ("_law_x" : Str) = some .local := by decide +kernel
theorem n41_5 : N41[5]? = some ("_law_door" : Str) := by decide +kernel
theorem l41_5 : (defScope s41).names.lookup ("_law_door" : Str) = some .local := by decide +kernel
theorem g41__law_refused : (defScope s41).names.lookup ("_law_refused" : Str) = some .globalImplicit := by decide +kernel
theorem g41_MAX_COUNT : (defScope s41).names.lookup ("MAX_COUNT" : Str) = some .globalImplicit := by decide +kernel
theorem g41_MAX_LEAD : (defScope s41).names.lookup ("MAX_LEAD" : Str) = some .globalImplicit := by decide +kernel
theorem g41_MAX_LAST : (defScope s41).names.lookup ("MAX_LAST" : Str) = some .globalImplicit := by decide +kernel
theorem sc41 : FnScope N41 p41 (defScope s41) := ⟨rfl, rfl, rfl, by decide +kernel, rfl, by decide +kernel, by decide +kernel⟩
theorem sc42 : FnScope N42 p42 (defScope s42) := ⟨rfl, rfl, rfl, by decide +kernel, rfl, by decide +kernel, by decide +kernel⟩
theorem n43_3 : N43[3]? = some ("row" : Str) := by decide +kernel
theorem l43_3 : (defScope s43).names.lookup ("row" : Str) = some .local := by decide +kernel
theorem n43_4 : N43[4]? = some ("lead" : Str) := by decide +kernel
theorem l43_4 : (defScope s43).names.lookup ("lead" : Str) = some .local := by decide +kernel
theorem n43_0 : N43[0]? = some ("self" : Str) := by decide +kernel
theorem l43_0 : (defScope s43).names.lookup ("self" : Str) = some .local := by decide +kernel
theorem n43_2 : N43[2]? = some ("m" : Str) := by decide +kernel
theorem l43_2 : (defScope s43).names.lookup ("m" : Str) = some .local := by decide +kernel
theorem n43_1 : N43[1]? = some ("exponent" : Str) := by decide +kernel
theorem l43_1 : (defScope s43).names.lookup ("exponent" : Str) = some .local := by decide +kernel
theorem g43_len : (defScope s43).names.lookup ("len" : Str) = some .globalImplicit := by decide +kernel
theorem g43_from_int : (defScope s43).names.lookup ("from_int" : Str) = some .globalImplicit := by decide +kernel
theorem g43_compare : (defScope s43).names.lookup ("compare" : Str) = some .globalImplicit := by decide +kernel
theorem g43_to_int : (defScope s43).names.lookup ("to_int" : Str) = some .globalImplicit := by decide +kernel
theorem n43_5 : N43[5]? = some ("period" : Str) := by decide +kernel
theorem l43_5 : (defScope s43).names.lookup ("period" : Str) = some .local := by decide +kernel
theorem sc43 : FnScope N43 p43 (defScope s43) := ⟨rfl, rfl, rfl, by decide +kernel, rfl, by decide +kernel, by decide +kernel⟩
theorem n44_3 : N44[3]? = some ("total" : Str) := by decide +kernel
theorem l44_3 : (defScope s44).names.lookup ("total" : Str) = some .local := by decide +kernel
theorem n44_4 : N44[4]? = some ("sign" : Str) := by decide +kernel
theorem l44_4 : (defScope s44).names.lookup ("sign" : Str) = some .local := by decide +kernel
theorem n44_5 : N44[5]? = some ("exponent" : Str) := by decide +kernel
theorem l44_5 : (defScope s44).names.lookup ("exponent" : Str) = some .local := by decide +kernel
theorem n44_0 : N44[0]? = some ("self" : Str) := by decide +kernel
theorem l44_0 : (defScope s44).names.lookup ("self" : Str) = some .local := by decide +kernel
theorem n44_2 : N44[2]? = some ("m" : Str) := by decide +kernel
theorem l44_2 : (defScope s44).names.lookup ("m" : Str) = some .local := by decide +kernel
theorem n44_1 : N44[1]? = some ("number" : Str) := by decide +kernel
theorem l44_1 : (defScope s44).names.lookup ("number" : Str) = some .local := by decide +kernel
theorem sc44 : FnScope N44 p44 (defScope s44) := ⟨rfl, rfl, rfl, by decide +kernel, rfl, by decide +kernel, by decide +kernel⟩
section
variable {pr : Program} {w : World} {K : PySem.W.Frag} {mg : Str → Option Value} {base : Heap} {ca : Nat → Addr} {F n : Nat} {Cl : Addr} {rv : Int → Rf.D}
theorem w0 (hf_size_of : Good pr w K mg base ca TB F "size_of" 0 n) (z_sum : mg "sum" = none) : Walk pr w K mg base ca N0 "size_of" s0 n (execs (phi TB F n) F b0) := fun A sA HA a fA cdv outer xe h0 av avok W hr C =>
    (sss_cons (ss_ret (Rf.PE.new (se_bin C .add se_int (se_flat rfl (se_bltB C (cl_sum C.calm) g0_sum z_sum (by decide +kernel) (ses_cons (Rf.PE.new (Rf.PE.modeN (se_comp C (own := [("_", 1), ("exponent", 2)]) (si_tup C (se_var C n0_0 (Or.inl l0_0))) rfl (blkOk_by (N := N0) (sc := defScope s0) (by decide +kernel)) (fun _ _ _ _ _ _ C => (sg_tp C.calm rfl (sgs_cons (sg_nm C.hN C.nd n0_1 (by first | exact Or.inl rfl | exact Or.inr rfl) (by first | exact .inl rfl | exact .inr rfl)) (sgs_cons (sg_nm C.hN C.nd n0_2 (by first | exact Or.inl rfl | exact Or.inr rfl) (by first | exact .inl rfl | exact .inr rfl)) sgs_nil)))) (fun _ _ _ _ _ _ _ _ C => sf_nil) (fun _ _ _ _ _ _ _ _ C => (se_call C (hf_size_of.fn hr) (by rfl) (ses_cons (se_var C n0_2 (by first | exact Or.inl rfl | exact Or.inr (Or.inl rfl) | exact Or.inr (Or.inr rfl))) ses_nil)))))) ses_nil))))))
      sss_nil)
theorem w1 (hf_height_of : Good pr w K mg base ca TB F "height_of" 1 n) (z_len : mg "len" = none) (z_max : mg "max" = none) : Walk pr w K mg base ca N1 "height_of" s1 n (execs (phi TB F n) F b1) := fun A sA HA a fA cdv outer xe h0 av avok W hr C =>
    (sss_cons (ss_if (st_cmp C .eq (se_flat rfl (se_bltB C (cl_len C.calm) g1_len z_len (by decide +kernel) (ses_cons (se_var C n1_0 (Or.inl l1_0)) ses_nil))) se_int (by first | rfl | with_unfolding_all rfl)) (sss_cons (ss_ret se_int)
      sss_nil) sss_nil)
      (sss_cons (ss_ret (Rf.PE.new (se_bin C .add se_int (se_flat rfl (se_bltB C (cl_max C.calm) g1_max z_max (by decide +kernel) (ses_cons (Rf.PE.new (Rf.PE.modeN (se_comp C (own := [("_", 1), ("exponent", 2)]) (si_tup C (se_var C n1_0 (Or.inl l1_0))) rfl (blkOk_by (N := N1) (sc := defScope s1) (by decide +kernel)) (fun _ _ _ _ _ _ C => (sg_tp C.calm rfl (sgs_cons (sg_nm C.hN C.nd n1_1 (by first | exact Or.inl rfl | exact Or.inr rfl) (by first | exact .inl rfl | exact .inr rfl)) (sgs_cons (sg_nm C.hN C.nd n1_2 (by first | exact Or.inl rfl | exact Or.inr rfl) (by first | exact .inl rfl | exact .inr rfl)) sgs_nil)))) (fun _ _ _ _ _ _ _ _ C => sf_nil) (fun _ _ _ _ _ _ _ _ C => (se_call C (hf_height_of.fn hr) (by rfl) (ses_cons (se_var C n1_2 (by first | exact Or.inl rfl | exact Or.inr (Or.inl rfl) | exact Or.inr (Or.inr rfl))) ses_nil)))))) ses_nil))))))
      sss_nil))
theorem w2 (hf_compare : Good pr w K mg base ca TB F "compare" 2 n) (z_len : mg "len" = none) (z_zip : mg "zip" = none) : Walk pr w K mg base ca N2 "compare" s2 n (execs (phi TB F n) F b2) := fun A sA HA a fA cdv outer xe h0 av avok W hr C =>
    (sss_cons (ss_if (st_cmp C .eq (se_var C n2_0 (Or.inl l2_0)) (se_var C n2_1 (Or.inl l2_1)) (by first | rfl | with_unfolding_all rfl)) (sss_cons (ss_ret se_int)
      sss_nil) sss_nil)
      (sss_cons (ss_for C (si_zip C g2_zip z_zip (ses_cons (se_var C n2_0 (Or.inl l2_0)) (ses_cons (se_var C n2_1 (Or.inl l2_1)) ses_nil))) (sg_tp C.calm rfl (sgs_cons (sg_tp C.calm rfl (sgs_cons (sg_nm C.hN C.nd n2_2 (Or.inl l2_2) (by first | exact .inl rfl | exact .inr rfl)) (sgs_cons (sg_nm C.hN C.nd n2_3 (Or.inl l2_3) (by first | exact .inl rfl | exact .inr rfl)) sgs_nil))) (sgs_cons (sg_tp C.calm rfl (sgs_cons (sg_nm C.hN C.nd n2_4 (Or.inl l2_4) (by first | exact .inl rfl | exact .inr rfl)) (sgs_cons (sg_nm C.hN C.nd n2_5 (Or.inl l2_5) (by first | exact .inl rfl | exact .inr rfl)) sgs_nil))) sgs_nil))) (fun _ _ C => (sss_cons (ss_if (st_cmp C .ne (se_var C n2_2 (Or.inl l2_2)) (se_var C n2_4 (Or.inl l2_4)) (by first | rfl | with_unfolding_all rfl)) (sss_cons (ss_ret (se_var C n2_2 (Or.inl l2_2)))
      sss_nil) sss_nil)
      (sss_cons (ss_set C n2_6 (Or.inl l2_6) (se_call C (hf_compare.fn hr) g2_compare (ses_cons (se_var C n2_3 (Or.inl l2_3)) (ses_cons (se_var C n2_5 (Or.inl l2_5)) ses_nil))))
      (sss_cons (ss_if (st_cmp C .ne (se_var C n2_6 (Or.inl l2_6)) se_int (by first | rfl | with_unfolding_all rfl)) (sss_cons (ss_ret (Rf.PE.new (se_bin C .mul (se_var C n2_6 (Or.inl l2_6)) (se_var C n2_2 (Or.inl l2_2)))))
      sss_nil) sss_nil)
      sss_nil)))))
      (sss_cons (ss_if (st_cmp C .gt (se_flat rfl (se_bltB C (cl_len C.calm) g2_len z_len (by decide +kernel) (ses_cons (se_var C n2_0 (Or.inl l2_0)) ses_nil))) (se_flat rfl (se_bltB C (cl_len C.calm) g2_len z_len (by decide +kernel) (ses_cons (se_var C n2_1 (Or.inl l2_1)) ses_nil))) (by first | rfl | with_unfolding_all rfl)) (sss_cons (ss_ret (se_idx C (se_idx C (se_var C n2_0 (Or.inl l2_0)) (se_flat rfl (se_bltB C (cl_len C.calm) g2_len z_len (by decide +kernel) (ses_cons (se_var C n2_1 (Or.inl l2_1)) ses_nil))) (fun _ _ => rfl)) se_int (fun _ _ => rfl)))
      sss_nil) sss_nil)
      (sss_cons (ss_ret (se_neg (se_idx C (se_idx C (se_var C n2_1 (Or.inl l2_1)) (se_flat rfl (se_bltB C (cl_len C.calm) g2_len z_len (by decide +kernel) (ses_cons (se_var C n2_0 (Or.inl l2_0)) ses_nil))) (fun _ _ => rfl)) se_int (fun _ _ => rfl))))
      sss_nil))))
theorem w3 (z_len : mg "len" = none) : Walk pr w K mg base ca N3 "sign_of" s3 n (execs (phi TB F n) F b3) := fun A sA HA a fA cdv outer xe h0 av avok W hr C =>
    (sss_cons (ss_if (st_cmp C .eq (se_flat rfl (se_bltB C (cl_len C.calm) g3_len z_len (by decide +kernel) (ses_cons (se_var C n3_0 (Or.inl l3_0)) ses_nil))) se_int (by first | rfl | with_unfolding_all rfl)) (sss_cons (ss_ret se_int)
      sss_nil) sss_nil)
      (sss_cons (ss_ret (se_idx C (se_idx C (se_var C n3_0 (Or.inl l3_0)) se_int (fun _ _ => rfl)) se_int (fun _ _ => rfl)))
      sss_nil))
theorem w4 (hf_compare : Good pr w K mg base ca TB F "compare" 2 n) (z_len : mg "len" = none) : Walk pr w K mg base ca N4 "in_order" s4 n (execs (phi TB F n) F b4) := fun A sA HA a fA cdv outer xe h0 av avok W hr C =>
    (sss_cons (ss_own C n4_1 (Or.inl l4_1) (se_lst (by decide) ses_nil))
      (sss_cons (ss_for C (si_lst C (se_var C n4_0 (Or.inl l4_0))) (sg_nm C.hN C.nd n4_2 (Or.inl l4_2) (by first | exact .inl rfl | exact .inr rfl)) (fun _ _ C => (sss_cons (ss_set C n4_3 (Or.inl l4_3) se_int)
      (sss_cons (ss_set C n4_4 (Or.inl l4_4) (se_flat rfl (se_bltB C (cl_len C.calm) g4_len z_len (by decide +kernel) (ses_cons (se_vw C n4_1 (Or.inl l4_1) (by decide)) ses_nil))))
      (sss_cons (ss_while C (st_cmp C .lt (se_var C n4_3 (Or.inl l4_3)) (se_var C n4_4 (Or.inl l4_4)) (by first | rfl | with_unfolding_all rfl)) (sss_cons (ss_set C n4_5 (Or.inl l4_5) (Rf.PE.new (se_bin C .fdiv (Rf.PE.new (se_bin C .add (se_var C n4_3 (Or.inl l4_3)) (se_var C n4_4 (Or.inl l4_4)))) se_int)))
      (sss_cons (ss_if (st_cmp C .lt (se_call C (hf_compare.fn hr) g4_compare (ses_cons (se_idx C (se_vw C n4_1 (Or.inl l4_1) (by decide)) (se_var C n4_5 (Or.inl l4_5)) (fun _ _ => rfl)) (ses_cons (se_var C n4_2 (Or.inl l4_2)) ses_nil))) se_int (by first | rfl | with_unfolding_all rfl)) (sss_cons (ss_set C n4_3 (Or.inl l4_3) (Rf.PE.new (se_bin C .add (se_var C n4_5 (Or.inl l4_5)) se_int)))
      sss_nil) (sss_cons (ss_set C n4_4 (Or.inl l4_4) (se_var C n4_5 (Or.inl l4_5)))
      sss_nil))
      sss_nil)))
      (sss_cons (ss_ins C n4_1 (Or.inl l4_1) (se_var C n4_3 (Or.inl l4_3)) (se_var C n4_2 (Or.inl l4_2)))
      sss_nil))))))
      (sss_cons (ss_ret (se_vw C n4_1 (Or.inl l4_1) (by decide)))
      sss_nil)))
theorem w5 (hf_in_order : Good pr w K mg base ca TB F "in_order" 4 n) (hf_next_of : Good pr w K mg base ca TB F "next_of" 7 n) (hf_sign_at : GoodN pr w K mg base ca TB F "sign_at" 6 n) (z_len : mg "len" = none) (z_list : mg "list" = none) (z_tuple : mg "tuple" = none) : Walk pr w K mg base ca N5 "gathered" s5 n (execs (phi TB F n) F b5) := fun A sA HA a fA cdv outer xe h0 av avok W hr C =>
    (sss_cons (ss_nowe C n5_1 (Or.inl l5_1))
      (sss_cons (ss_for C (si_lst C (se_var C n5_0 (Or.inl l5_0))) (sg_tp C.calm rfl (sgs_cons (sg_nm C.hN C.nd n5_2 (Or.inl l5_2) (by first | exact .inl rfl | exact .inr rfl)) (sgs_cons (sg_nm C.hN C.nd n5_3 (Or.inl l5_3) (by first | exact .inl rfl | exact .inr rfl)) sgs_nil))) (fun _ _ C => (sss_cons (ss_nset C n5_1 (Or.inl l5_1) (Rf.PE.new (se_bin C .add (se_ngetd C n5_1 (Or.inl l5_1) (se_var C n5_3 (Or.inl l5_3)) se_int) (se_var C n5_2 (Or.inl l5_2)))) (se_var C n5_3 (Or.inl l5_3)))
      sss_nil)))
      (sss_cons (ss_own C n5_4 (Or.inl l5_4) (se_revL C (se_call C (hf_in_order.fn hr) g5_in_order (ses_cons (Rf.PE.new (se_nkeys C n5_1 (Or.inl l5_1) g5_list z_list (by decide +kernel))) ses_nil))))
      (sss_cons (ss_own C n5_5 (Or.inl l5_5) (se_lst (by decide) ses_nil))
      (sss_cons (ss_set C n5_2 (Or.inl l5_2) se_int)
      (sss_cons (ss_set C n5_3 (Or.inl l5_3) (se_tup (by decide) ses_nil))
      (sss_cons (ss_while C (PW.pt (st_or (st_cmp C .gt (se_flat rfl (se_bltB C (cl_len C.calm) g5_len z_len (by decide +kernel) (ses_cons (se_vw C n5_4 (Or.inl l5_4) (by decide)) ses_nil))) se_int (by first | rfl | with_unfolding_all rfl)) (st_or1 (st_cmp C .ne (se_var C n5_2 (Or.inl l5_2)) se_int (by first | rfl | with_unfolding_all rfl))))) (sss_cons (ss_if (PW.pt (st_and (st_cmp C .gt (se_flat rfl (se_bltB C (cl_len C.calm) g5_len z_len (by decide +kernel) (ses_cons (se_vw C n5_4 (Or.inl l5_4) (by decide)) ses_nil))) se_int (by first | rfl | with_unfolding_all rfl)) (st_and1 (PW.pt (st_or (st_cmp C .eq (se_var C n5_2 (Or.inl l5_2)) se_int (by first | rfl | with_unfolding_all rfl)) (st_or1 (st_cmp C .eq (se_idx C (se_vw C n5_4 (Or.inl l5_4) (by decide)) (se_neg se_int) (fun _ _ => rfl)) (se_var C n5_3 (Or.inl l5_3)) (by first | rfl | with_unfolding_all rfl)))))))) (sss_cons (ss_popto C n5_4 (Or.inl l5_4) n5_3 (Or.inl l5_3))
      (sss_cons (ss_aug C .add nofun n5_2 (Or.inl l5_2) (se_nget C n5_1 (Or.inl l5_1) (se_var C n5_3 (Or.inl l5_3)) (fun _ _ => rfl)))
      sss_nil)) sss_nil)
      (sss_cons (ss_if (st_cmp C .eq (Rf.PE.new (se_bin C .mod (se_var C n5_2 (Or.inl l5_2)) se_int)) se_int (by first | rfl | with_unfolding_all rfl)) (sss_cons (ss_set C n5_6 (Or.inl l5_6) (se_calln C (hf_sign_at.fn hr) g5_sign_at n5_1 (Or.inl l5_1) (se_var C n5_2 (Or.inl l5_2)) (se_var C n5_3 (Or.inl l5_3)) (se_vw C n5_4 (Or.inl l5_4) (by decide))))
      (sss_cons (ss_app C n5_5 (Or.inl l5_5) (se_tup (by decide) (ses_cons (se_var C n5_6 (Or.inl l5_6)) (ses_cons (se_var C n5_3 (Or.inl l5_3)) ses_nil))))
      (sss_cons (ss_aug C .sub nofun n5_2 (Or.inl l5_2) (se_var C n5_6 (Or.inl l5_6)))
      sss_nil))) sss_nil)
      (sss_cons (ss_if (st_cmp C .ne (se_var C n5_2 (Or.inl l5_2)) se_int (by first | rfl | with_unfolding_all rfl)) (sss_cons (ss_aug C .fdiv nofun n5_2 (Or.inl l5_2) se_int)
      (sss_cons (ss_set C n5_3 (Or.inl l5_3) (se_call C (hf_next_of.fn hr) g5_next_of (ses_cons (se_var C n5_3 (Or.inl l5_3)) ses_nil)))
      sss_nil)) sss_nil)
      sss_nil))))
      (sss_cons (ss_ret (Rf.PE.new (se_bltT C (cl_tuple) g5_tuple z_tuple (by decide +kernel) (ses_cons (Rf.PE.new (se_revL C (se_vw C n5_5 (Or.inl l5_5) (by decide)))) ses_nil))))
      sss_nil))))))))
theorem w6 (hf_next_of : Good pr w K mg base ca TB F "next_of" 7 n) (z_len : mg "len" = none) : Walk pr w K mg base ca N6 "sign_at" s6 n (execs (phi TB F n) F bw6) := fun A sA HA a fA cdv outer xe h0 av avok W hr C =>
    (sss_cons (ss_if (PW.pt (st_and (st_cmp C .gt (se_flat rfl (se_bltB C (cl_len C.calm) g6_len z_len (by decide +kernel) (ses_cons (se_var C n6_3 (Or.inl l6_3)) ses_nil))) se_int (by first | rfl | with_unfolding_all rfl)) (st_and1 (st_cmp C .eq (se_idx C (se_var C n6_3 (Or.inl l6_3)) (se_neg se_int) (fun _ _ => rfl)) (se_call C (hf_next_of.fn hr) g6_next_of (ses_cons (se_var C n6_1 (Or.inl l6_1)) ses_nil)) (by first | rfl | with_unfolding_all rfl))))) (sss_cons (ss_aug C .add nofun n6_0 (Or.inl l6_0) (Rf.PE.new (se_bin C .mul se_int (se_nget C n6_2 (Or.inl l6_2) (se_idx C (se_var C n6_3 (Or.inl l6_3)) (se_neg se_int) (fun _ _ => rfl)) (fun _ _ => rfl)))))
      sss_nil) sss_nil)
      (sss_cons (ss_if (st_cmp C .eq (Rf.PE.new (se_bin C .mod (se_var C n6_0 (Or.inl l6_0)) se_int)) se_int (by first | rfl | with_unfolding_all rfl)) (sss_cons (ss_ret se_int)
      sss_nil) sss_nil)
      (sss_cons (ss_ret (se_neg se_int))
      sss_nil)))
theorem w7 (hf_gathered : Good pr w K mg base ca TB F "gathered" 5 n) (z_list : mg "list" = none) : Walk pr w K mg base ca N7 "next_of" s7 n (execs (phi TB F n) F b7) := fun A sA HA a fA cdv outer xe h0 av avok W hr C =>
    (sss_cons (ss_ret (se_call C (hf_gathered.fn hr) g7_gathered (ses_cons (Rf.PE.new (se_bin C .add (Rf.PE.new (se_bltT C (cl_list C.calm) g7_list z_list (by decide +kernel) (ses_cons (se_var C n7_0 (Or.inl l7_0)) ses_nil))) (Rf.PE.new (se_lst (by decide) (ses_cons (se_tup (by decide) (ses_cons se_int (ses_cons (se_tup (by decide) ses_nil) ses_nil))) ses_nil))))) ses_nil)))
      sss_nil)
theorem w8 (hf_from_int : Good pr w K mg base ca TB F "from_int" 8 n) (z_tuple : mg "tuple" = none) : Walk pr w K mg base ca N8 "from_int" s8 n (execs (phi TB F n) F b8) := fun A sA HA a fA cdv outer xe h0 av avok W hr C =>
    (sss_cons (ss_own C n8_1 (Or.inl l8_1) (se_lst (by decide) ses_nil))
      (sss_cons (ss_set C n8_2 (Or.inl l8_2) se_int)
      (sss_cons (ss_while C (st_cmp C .ne (se_var C n8_0 (Or.inl l8_0)) se_int (by first | rfl | with_unfolding_all rfl)) (sss_cons (ss_if (st_cmp C .eq (Rf.PE.new (se_bin C .mod (se_var C n8_0 (Or.inl l8_0)) se_int)) se_int (by first | rfl | with_unfolding_all rfl)) (sss_cons (ss_set C n8_3 (Or.inl l8_3) (se_ite (st_cmp C .eq (Rf.PE.new (se_bin C .mod (se_var C n8_0 (Or.inl l8_0)) se_int)) se_int (by first | rfl | with_unfolding_all rfl)) se_int (se_neg se_int)))
      (sss_cons (ss_app C n8_1 (Or.inl l8_1) (se_tup (by decide) (ses_cons (se_var C n8_3 (Or.inl l8_3)) (ses_cons (se_call C (hf_from_int.fn hr) g8_from_int (ses_cons (se_var C n8_2 (Or.inl l8_2)) ses_nil)) ses_nil))))
      (sss_cons (ss_aug C .sub nofun n8_0 (Or.inl l8_0) (se_var C n8_3 (Or.inl l8_3)))
      sss_nil))) sss_nil)
      (sss_cons (ss_aug C .fdiv nofun n8_0 (Or.inl l8_0) se_int)
      (sss_cons (ss_aug C .add nofun n8_2 (Or.inl l8_2) se_int)
      sss_nil))))
      (sss_cons (ss_ret (Rf.PE.new (se_bltT C (cl_tuple) g8_tuple z_tuple (by decide +kernel) (ses_cons (Rf.PE.new (se_revL C (se_vw C n8_1 (Or.inl l8_1) (by decide)))) ses_nil))))
      sss_nil))))
theorem w9 {k_MAX_HEIGHT : Tok} (c_MAX_HEIGHT : mg "MAX_HEIGHT" = some (.int 40 k_MAX_HEIGHT)) {k_MAX_SIZE : Tok} (c_MAX_SIZE : mg "MAX_SIZE" = some (.int 300 k_MAX_SIZE)) (hf_height_of : Good pr w K mg base ca TB F "height_of" 1 n) (hf_size_of : Good pr w K mg base ca TB F "size_of" 0 n) : Walk pr w K mg base ca N9 "is_allowed" s9 n (execs (phi TB F n) F b9) := fun A sA HA a fA cdv outer xe h0 av avok W hr C =>
    (sss_cons (ss_ret (se_and (se_cmp C .le (se_call C (hf_size_of.fn hr) g9_size_of (ses_cons (se_var C n9_0 (Or.inl l9_0)) ses_nil)) (se_globI g9_MAX_SIZE c_MAX_SIZE) (by first | rfl | with_unfolding_all rfl)) (se_one (se_cmp C .le (se_call C (hf_height_of.fn hr) g9_height_of (ses_cons (se_var C n9_0 (Or.inl l9_0)) ses_nil)) (se_globI g9_MAX_HEIGHT c_MAX_HEIGHT) (by first | rfl | with_unfolding_all rfl)))))
      sss_nil)
theorem w10 (hf_is_allowed : Good pr w K mg base ca TB F "is_allowed" 9 n) (x_TooLarge : XFull K mg "TooLarge" (ca 2)) : Walk pr w K mg base ca N10 "allowed" s10 n (execs (phi TB F n) F b10) := fun A sA HA a fA cdv outer xe h0 av avok W hr C =>
    (sss_cons (ss_if (st_not (st_val (se_call C (hf_is_allowed.fn hr) g10_is_allowed (ses_cons (se_var C n10_0 (Or.inl l10_0)) ses_nil)))) (sss_cons (ss_raise C (pm_own x_TooLarge.toXCls g10_TooLarge))
      sss_nil) sss_nil)
      (sss_cons (ss_ret (se_var C n10_0 (Or.inl l10_0)))
      sss_nil))
theorem w11 {k_MAX_DIGITS : Tok} (c_MAX_DIGITS : mg "MAX_DIGITS" = some (.int 2900 k_MAX_DIGITS)) (hf_allowed : Good pr w K mg base ca TB F "allowed" 10 n) (hf_from_int : Good pr w K mg base ca TB F "from_int" 8 n) (x_NotAllowed : XFull K mg "NotAllowed" (ca 1)) : Walk pr w K mg base ca N11 "of_int" s11 n (execs (phi TB F n) F b11) := fun A sA HA a fA cdv outer xe h0 av avok W hr C =>
    (sss_cons (ss_if (st_cmp C .gt (se_bits (se_var C n11_0 (Or.inl l11_0))) (se_globI g11_MAX_DIGITS c_MAX_DIGITS) (by first | rfl | with_unfolding_all rfl)) (sss_cons (ss_raise C (pm_own x_NotAllowed.toXCls g11_NotAllowed))
      sss_nil) sss_nil)
      (sss_cons (ss_ret (se_call C (hf_allowed.fn hr) g11_allowed (ses_cons (se_call C (hf_from_int.fn hr) g11_from_int (ses_cons (se_var C n11_0 (Or.inl l11_0)) ses_nil)) ses_nil)))
      sss_nil))
theorem w12 (z_range : mg "range" = none) : Walk pr w K mg base ca N12 "power_of_two" s12 n (execs (phi TB F n) F b12) := fun A sA HA a fA cdv outer xe h0 av avok W hr C =>
    (sss_cons (ss_set C n12_1 (Or.inl l12_1) se_int)
      (sss_cons (ss_for C (si_rng1 g12_range z_range (ses_cons (se_var C n12_0 (Or.inl l12_0)) ses_nil)) (sg_nm C.hN C.nd n12_2 (Or.inl l12_2) (by first | exact .inl rfl | exact .inr rfl)) (fun _ _ C => (sss_cons (ss_aug C .mul nofun n12_1 (Or.inl l12_1) se_int)
      sss_nil)))
      (sss_cons (ss_ret (se_var C n12_1 (Or.inl l12_1)))
      sss_nil)))
theorem w13 {k_MAX_BINARY : Tok} (c_MAX_BINARY : mg "MAX_BINARY" = some (.int 64 k_MAX_BINARY)) (hf_compare : Good pr w K mg base ca TB F "compare" 2 n) (hf_from_int : Good pr w K mg base ca TB F "from_int" 8 n) (hf_power_of_two : Good pr w K mg base ca TB F "power_of_two" 12 n) (hf_to_int : Good pr w K mg base ca TB F "to_int" 13 n) (x_NotAllowed : XFull K mg "NotAllowed" (ca 1)) (z_abs : mg "abs" = none) : Walk pr w K mg base ca N13 "to_int" s13 n (execs (phi TB F n) F b13) := fun A sA HA a fA cdv outer xe h0 av avok W hr C =>
    (sss_cons (ss_set C n13_1 (Or.inl l13_1) (se_call C (hf_from_int.fn hr) g13_from_int (ses_cons (se_globI g13_MAX_BINARY c_MAX_BINARY) ses_nil)))
      (sss_cons (ss_set C n13_2 (Or.inl l13_2) se_int)
      (sss_cons (ss_for C (si_tup C (se_var C n13_0 (Or.inl l13_0))) (sg_tp C.calm rfl (sgs_cons (sg_nm C.hN C.nd n13_3 (Or.inl l13_3) (by first | exact .inl rfl | exact .inr rfl)) (sgs_cons (sg_nm C.hN C.nd n13_4 (Or.inl l13_4) (by first | exact .inl rfl | exact .inr rfl)) sgs_nil))) (fun _ _ C => (sss_cons (ss_if (st_cmp C .gt (se_call C (hf_compare.fn hr) g13_compare (ses_cons (se_var C n13_4 (Or.inl l13_4)) (ses_cons (se_var C n13_1 (Or.inl l13_1)) ses_nil))) se_int (by first | rfl | with_unfolding_all rfl)) (sss_cons (ss_raise C (pm_own x_NotAllowed.toXCls g13_NotAllowed))
      sss_nil) sss_nil)
      (sss_cons (ss_aug C .add nofun n13_2 (Or.inl l13_2) (Rf.PE.new (se_bin C .mul (se_var C n13_3 (Or.inl l13_3)) (se_call C (hf_power_of_two.fn hr) g13_power_of_two (ses_cons (se_call C (hf_to_int.fn hr) g13_to_int (ses_cons (se_var C n13_4 (Or.inl l13_4)) ses_nil)) ses_nil)))))
      sss_nil))))
      (sss_cons (ss_if (st_cmp C .ge (se_flat rfl (se_bltB C (cl_abs) g13_abs z_abs (by decide +kernel) (ses_cons (se_var C n13_2 (Or.inl l13_2)) ses_nil))) (se_call C (hf_power_of_two.fn hr) g13_power_of_two (ses_cons (se_globI g13_MAX_BINARY c_MAX_BINARY) ses_nil)) (by first | rfl | with_unfolding_all rfl)) (sss_cons (ss_raise C (pm_own x_NotAllowed.toXCls g13_NotAllowed))
      sss_nil) sss_nil)
      (sss_cons (ss_ret (se_var C n13_2 (Or.inl l13_2)))
      sss_nil)))))
theorem w14 (z_tuple : mg "tuple" = none) : Walk pr w K mg base ca N14 "negate" s14 n (execs (phi TB F n) F b14) := fun A sA HA a fA cdv outer xe h0 av avok W hr C =>
    (sss_cons (ss_ret (Rf.PE.new (se_bltT C (cl_tuple) g14_tuple z_tuple (by decide +kernel) (ses_cons (Rf.PE.new (Rf.PE.modeN (se_comp C (own := [("sign", 1), ("exponent", 2)]) (si_tup C (se_var C n14_0 (Or.inl l14_0))) rfl (blkOk_by (N := N14) (sc := defScope s14) (by decide +kernel)) (fun _ _ _ _ _ _ C => (sg_tp C.calm rfl (sgs_cons (sg_nm C.hN C.nd n14_1 (by first | exact Or.inl rfl | exact Or.inr rfl) (by first | exact .inl rfl | exact .inr rfl)) (sgs_cons (sg_nm C.hN C.nd n14_2 (by first | exact Or.inl rfl | exact Or.inr rfl) (by first | exact .inl rfl | exact .inr rfl)) sgs_nil)))) (fun _ _ _ _ _ _ _ _ C => sf_nil) (fun _ _ _ _ _ _ _ _ C => (se_tup (by decide) (ses_cons (se_neg (se_var C n14_1 (by first | exact Or.inl rfl | exact Or.inr (Or.inl rfl) | exact Or.inr (Or.inr rfl)))) (ses_cons (se_var C n14_2 (by first | exact Or.inl rfl | exact Or.inr (Or.inl rfl) | exact Or.inr (Or.inr rfl))) ses_nil))))))) ses_nil))))
      sss_nil)
theorem w15 (hf_gathered : Good pr w K mg base ca TB F "gathered" 5 n) (z_list : mg "list" = none) : Walk pr w K mg base ca N15 "plus" s15 n (execs (phi TB F n) F b15) := fun A sA HA a fA cdv outer xe h0 av avok W hr C =>
    (sss_cons (ss_ret (se_call C (hf_gathered.fn hr) g15_gathered (ses_cons (Rf.PE.new (se_bin C .add (Rf.PE.new (se_bltT C (cl_list C.calm) g15_list z_list (by decide +kernel) (ses_cons (se_var C n15_0 (Or.inl l15_0)) ses_nil))) (Rf.PE.new (se_bltT C (cl_list C.calm) g15_list z_list (by decide +kernel) (ses_cons (se_var C n15_1 (Or.inl l15_1)) ses_nil))))) ses_nil)))
      sss_nil)
theorem w16 (hf_negate : Good pr w K mg base ca TB F "negate" 14 n) (hf_plus : Good pr w K mg base ca TB F "plus" 15 n) : Walk pr w K mg base ca N16 "minus" s16 n (execs (phi TB F n) F b16) := fun A sA HA a fA cdv outer xe h0 av avok W hr C =>
    (sss_cons (ss_ret (se_call C (hf_plus.fn hr) g16_plus (ses_cons (se_var C n16_0 (Or.inl l16_0)) (ses_cons (se_call C (hf_negate.fn hr) g16_negate (ses_cons (se_var C n16_1 (Or.inl l16_1)) ses_nil)) ses_nil))))
      sss_nil)
theorem w17 (hf_sign_of : Good pr w K mg base ca TB F "sign_of" 3 n) (x_NotAllowed : XFull K mg "NotAllowed" (ca 1)) : Walk pr w K mg base ca N17 "check_place" s17 n (execs (phi TB F n) F b17) := fun A sA HA a fA cdv outer xe h0 av avok W hr C =>
    (sss_cons (ss_if (st_cmp C .lt (se_call C (hf_sign_of.fn hr) g17_sign_of (ses_cons (se_var C n17_0 (Or.inl l17_0)) ses_nil)) se_int (by first | rfl | with_unfolding_all rfl)) (sss_cons (ss_raise C (pm_own x_NotAllowed.toXCls g17_NotAllowed))
      sss_nil) sss_nil)
      sss_nil)
theorem w18 (hf_compare : Good pr w K mg base ca TB F "compare" 2 n) : Walk pr w K mg base ca N18 "is_borrowed" s18 n (execs (phi TB F n) F b18) := fun A sA HA a fA cdv outer xe h0 av avok W hr C =>
    (sss_cons (ss_for C (si_tup C (se_var C n18_0 (Or.inl l18_0))) (sg_tp C.calm rfl (sgs_cons (sg_nm C.hN C.nd n18_2 (Or.inl l18_2) (by first | exact .inl rfl | exact .inr rfl)) (sgs_cons (sg_nm C.hN C.nd n18_3 (Or.inl l18_3) (by first | exact .inl rfl | exact .inr rfl)) sgs_nil))) (fun _ _ C => (sss_cons (ss_if (st_cmp C .lt (se_call C (hf_compare.fn hr) g18_compare (ses_cons (se_var C n18_3 (Or.inl l18_3)) (ses_cons (se_var C n18_1 (Or.inl l18_1)) ses_nil))) se_int (by first | rfl | with_unfolding_all rfl)) (sss_cons (ss_ret (se_cmp C .lt (se_var C n18_2 (Or.inl l18_2)) se_int (by first | rfl | with_unfolding_all rfl)))
      sss_nil) sss_nil)
      sss_nil)))
      (sss_cons (ss_ret se_bl)
      sss_nil))
theorem w19 (hf_compare : Good pr w K mg base ca TB F "compare" 2 n) (hf_from_int : Good pr w K mg base ca TB F "from_int" 8 n) (hf_is_borrowed : Good pr w K mg base ca TB F "is_borrowed" 18 n) (hf_minus : Good pr w K mg base ca TB F "minus" 16 n) (hf_plus : Good pr w K mg base ca TB F "plus" 15 n) (z_tuple : mg "tuple" = none) : Walk pr w K mg base ca N19 "floored" s19 n (execs (phi TB F n) F b19) := fun A sA HA a fA cdv outer xe h0 av avok W hr C =>
    (sss_cons (by first | exact ss_lc C n19_2 l19_2 (by exact sw_true rfl rfl rfl (by decide +kernel)) (own := [("sign", 3), ("exponent", 4)]) (si_tup C (se_var C n19_0 (Or.inl l19_0))) rfl (blkOk_by (N := N19) (sc := defScope s19) (by decide +kernel)) (fun _ _ _ _ _ _ C => (sg_tp C.calm rfl (sgs_cons (sg_nm C.hN C.nd n19_3 (by first | exact Or.inl rfl | exact Or.inr rfl) (by first | exact .inl rfl | exact .inr rfl)) (sgs_cons (sg_nm C.hN C.nd n19_4 (by first | exact Or.inl rfl | exact Or.inr rfl) (by first | exact .inl rfl | exact .inr rfl)) sgs_nil)))) (fun _ _ _ _ _ _ _ _ C => (sf_one (st_cmp C .ge (se_call C (hf_compare.fn hr) (by rfl) (ses_cons (se_var C n19_4 (by first | exact Or.inl rfl | exact Or.inr (Or.inl rfl) | exact Or.inr (Or.inr rfl))) (ses_cons (se_var C n19_1 (by first | exact Or.inl rfl | exact Or.inr (Or.inl rfl) | exact Or.inr (Or.inr rfl))) ses_nil))) se_int (by first | rfl | with_unfolding_all rfl)))) (fun _ _ _ _ _ _ _ _ C => (se_tup (by decide) (ses_cons (se_var C n19_3 (by first | exact Or.inl rfl | exact Or.inr (Or.inl rfl) | exact Or.inr (Or.inr rfl))) (ses_cons (se_call C (hf_minus.fn hr) (by rfl) (ses_cons (se_var C n19_4 (by first | exact Or.inl rfl | exact Or.inr (Or.inl rfl) | exact Or.inr (Or.inr rfl))) (ses_cons (se_var C n19_1 (by first | exact Or.inl rfl | exact Or.inr (Or.inl rfl) | exact Or.inr (Or.inr rfl))) ses_nil))) ses_nil)))) (fun _ _ _ h => asgN_of h) | exact ss_set C n19_2 (Or.inl l19_2) (Rf.PE.new (se_comp C (own := [("sign", 3), ("exponent", 4)]) (si_tup C (se_var C n19_0 (Or.inl l19_0))) rfl (blkOk_by (N := N19) (sc := defScope s19) (by decide +kernel)) (fun _ _ _ _ _ _ C => (sg_tp C.calm rfl (sgs_cons (sg_nm C.hN C.nd n19_3 (by first | exact Or.inl rfl | exact Or.inr rfl) (by first | exact .inl rfl | exact .inr rfl)) (sgs_cons (sg_nm C.hN C.nd n19_4 (by first | exact Or.inl rfl | exact Or.inr rfl) (by first | exact .inl rfl | exact .inr rfl)) sgs_nil)))) (fun _ _ _ _ _ _ _ _ C => (sf_one (st_cmp C .ge (se_call C (hf_compare.fn hr) (by rfl) (ses_cons (se_var C n19_4 (by first | exact Or.inl rfl | exact Or.inr (Or.inl rfl) | exact Or.inr (Or.inr rfl))) (ses_cons (se_var C n19_1 (by first | exact Or.inl rfl | exact Or.inr (Or.inl rfl) | exact Or.inr (Or.inr rfl))) ses_nil))) se_int (by first | rfl | with_unfolding_all rfl)))) (fun _ _ _ _ _ _ _ _ C => (se_tup (by decide) (ses_cons (se_var C n19_3 (by first | exact Or.inl rfl | exact Or.inr (Or.inl rfl) | exact Or.inr (Or.inr rfl))) (ses_cons (se_call C (hf_minus.fn hr) (by rfl) (ses_cons (se_var C n19_4 (by first | exact Or.inl rfl | exact Or.inr (Or.inl rfl) | exact Or.inr (Or.inr rfl))) (ses_cons (se_var C n19_1 (by first | exact Or.inl rfl | exact Or.inr (Or.inl rfl) | exact Or.inr (Or.inr rfl))) ses_nil))) ses_nil)))))))
      (sss_cons (ss_if (st_val (se_call C (hf_is_borrowed.fn hr) g19_is_borrowed (ses_cons (se_var C n19_0 (Or.inl l19_0)) (ses_cons (se_var C n19_1 (Or.inr (Or.inl l19_1))) ses_nil)))) (sss_cons (ss_ret (se_call C (hf_plus.fn hr) g19_plus (ses_cons (Rf.PE.new (se_bltT C (cl_tuple) g19_tuple z_tuple (by decide +kernel) (ses_cons (se_var C n19_2 (Or.inl l19_2)) ses_nil))) (ses_cons (se_call C (hf_from_int.fn hr) g19_from_int (ses_cons (se_neg se_int) ses_nil)) ses_nil))))
      sss_nil) sss_nil)
      (sss_cons (ss_ret (Rf.PE.new (se_bltT C (cl_tuple) g19_tuple z_tuple (by decide +kernel) (ses_cons (se_var C n19_2 (Or.inl l19_2)) ses_nil))))
      sss_nil)))
theorem w20 (hf_allowed : Good pr w K mg base ca TB F "allowed" 10 n) (hf_check_place : Good pr w K mg base ca TB F "check_place" 17 n) (hf_floored : Good pr w K mg base ca TB F "floored" 19 n) : Walk pr w K mg base ca N20 "floor_shift" s20 n (execs (phi TB F n) F b20) := fun A sA HA a fA cdv outer xe h0 av avok W hr C =>
    (sss_cons (ss_expr (se_call C (hf_check_place.fn hr) g20_check_place (ses_cons (se_var C n20_1 (Or.inl l20_1)) ses_nil)))
      (sss_cons (ss_ret (se_call C (hf_allowed.fn hr) g20_allowed (ses_cons (se_call C (hf_floored.fn hr) g20_floored (ses_cons (se_var C n20_0 (Or.inl l20_0)) (ses_cons (se_var C n20_1 (Or.inl l20_1)) ses_nil))) ses_nil)))
      sss_nil))
theorem w21 (hf_is_borrowed : Good pr w K mg base ca TB F "is_borrowed" 18 n) (z_int : mg "int" = none) (z_len : mg "len" = none) : Walk pr w K mg base ca N21 "digit" s21 n (execs (phi TB F n) F b21) := fun A sA HA a fA cdv outer xe h0 av avok W hr C =>
    (sss_cons (by first | exact ss_lc C n21_2 l21_2 (by exact sw_true rfl rfl rfl (by decide +kernel)) (own := [("_", 3), ("exponent", 4)]) (si_tup C (se_var C n21_0 (Or.inl l21_0))) rfl (blkOk_by (N := N21) (sc := defScope s21) (by decide +kernel)) (fun _ _ _ _ _ _ C => (sg_tp C.calm rfl (sgs_cons (sg_nm C.hN C.nd n21_3 (by first | exact Or.inl rfl | exact Or.inr rfl) (by first | exact .inl rfl | exact .inr rfl)) (sgs_cons (sg_nm C.hN C.nd n21_4 (by first | exact Or.inl rfl | exact Or.inr rfl) (by first | exact .inl rfl | exact .inr rfl)) sgs_nil)))) (fun _ _ _ _ _ _ _ _ C => (sf_one (st_cmp C .eq (se_var C n21_4 (by first | exact Or.inl rfl | exact Or.inr (Or.inl rfl) | exact Or.inr (Or.inr rfl))) (se_var C n21_1 (by first | exact Or.inl rfl | exact Or.inr (Or.inl rfl) | exact Or.inr (Or.inr rfl))) (by first | rfl | with_unfolding_all rfl)))) (fun _ _ _ _ _ _ _ _ C => (se_var C n21_4 (by first | exact Or.inl rfl | exact Or.inr (Or.inl rfl) | exact Or.inr (Or.inr rfl)))) (fun _ _ _ h => asgN_of h) | exact ss_set C n21_2 (Or.inl l21_2) (Rf.PE.new (se_comp C (own := [("_", 3), ("exponent", 4)]) (si_tup C (se_var C n21_0 (Or.inl l21_0))) rfl (blkOk_by (N := N21) (sc := defScope s21) (by decide +kernel)) (fun _ _ _ _ _ _ C => (sg_tp C.calm rfl (sgs_cons (sg_nm C.hN C.nd n21_3 (by first | exact Or.inl rfl | exact Or.inr rfl) (by first | exact .inl rfl | exact .inr rfl)) (sgs_cons (sg_nm C.hN C.nd n21_4 (by first | exact Or.inl rfl | exact Or.inr rfl) (by first | exact .inl rfl | exact .inr rfl)) sgs_nil)))) (fun _ _ _ _ _ _ _ _ C => (sf_one (st_cmp C .eq (se_var C n21_4 (by first | exact Or.inl rfl | exact Or.inr (Or.inl rfl) | exact Or.inr (Or.inr rfl))) (se_var C n21_1 (by first | exact Or.inl rfl | exact Or.inr (Or.inl rfl) | exact Or.inr (Or.inr rfl))) (by first | rfl | with_unfolding_all rfl)))) (fun _ _ _ _ _ _ _ _ C => (se_var C n21_4 (by first | exact Or.inl rfl | exact Or.inr (Or.inl rfl) | exact Or.inr (Or.inr rfl)))))))
      (sss_cons (ss_ret (Rf.PE.new (se_bin C .mod (Rf.PE.new (se_bin C .add (se_flat rfl (se_bltB C (cl_len C.calm) g21_len z_len (by decide +kernel) (ses_cons (se_var C n21_2 (Or.inl l21_2)) ses_nil))) (se_flat rfl (se_bltT C (cl_int) g21_int z_int (by decide +kernel) (ses_cons (se_call C (hf_is_borrowed.fn hr) g21_is_borrowed (ses_cons (se_var C n21_0 (Or.inl l21_0)) (ses_cons (se_var C n21_1 (Or.inr (Or.inl l21_1))) ses_nil))) ses_nil))))) se_int)))
      sss_nil))
theorem w22 (hf_check_place : Good pr w K mg base ca TB F "check_place" 17 n) (hf_digit : Good pr w K mg base ca TB F "digit" 21 n) : Walk pr w K mg base ca N22 "digit_at" s22 n (execs (phi TB F n) F b22) := fun A sA HA a fA cdv outer xe h0 av avok W hr C =>
    (sss_cons (ss_expr (se_call C (hf_check_place.fn hr) g22_check_place (ses_cons (se_var C n22_1 (Or.inl l22_1)) ses_nil)))
      (sss_cons (ss_ret (se_call C (hf_digit.fn hr) g22_digit (ses_cons (se_var C n22_0 (Or.inl l22_0)) (ses_cons (se_var C n22_1 (Or.inl l22_1)) ses_nil))))
      sss_nil))
theorem w23 (hf_next_of : Good pr w K mg base ca TB F "next_of" 7 n) (z_len : mg "len" = none) : Walk pr w K mg base ca N23 "length_of" s23 n (execs (phi TB F n) F b23) := fun A sA HA a fA cdv outer xe h0 av avok W hr C =>
    (sss_cons (ss_if (st_cmp C .eq (se_flat rfl (se_bltB C (cl_len C.calm) g23_len z_len (by decide +kernel) (ses_cons (se_var C n23_0 (Or.inl l23_0)) ses_nil))) se_int (by first | rfl | with_unfolding_all rfl)) (sss_cons (ss_ret (se_tup (by decide) ses_nil))
      sss_nil) sss_nil)
      (sss_cons (ss_if (PW.pt (st_and (st_cmp C .gt (se_flat rfl (se_bltB C (cl_len C.calm) g23_len z_len (by decide +kernel) (ses_cons (se_var C n23_0 (Or.inl l23_0)) ses_nil))) se_int (by first | rfl | with_unfolding_all rfl)) (st_and1 (st_cmp C .ne (se_idx C (se_idx C (se_var C n23_0 (Or.inl l23_0)) se_int (fun _ _ => rfl)) se_int (fun _ _ => rfl)) (se_idx C (se_idx C (se_var C n23_0 (Or.inl l23_0)) se_int (fun _ _ => rfl)) se_int (fun _ _ => rfl)) (by first | rfl | with_unfolding_all rfl))))) (sss_cons (ss_ret (se_idx C (se_idx C (se_var C n23_0 (Or.inl l23_0)) se_int (fun _ _ => rfl)) se_int (fun _ _ => rfl)))
      sss_nil) sss_nil)
      (sss_cons (ss_ret (se_call C (hf_next_of.fn hr) g23_next_of (ses_cons (se_idx C (se_idx C (se_var C n23_0 (Or.inl l23_0)) se_int (fun _ _ => rfl)) se_int (fun _ _ => rfl)) ses_nil)))
      sss_nil)))
theorem w24 (hf_allowed : Good pr w K mg base ca TB F "allowed" 10 n) (hf_length_of : Good pr w K mg base ca TB F "length_of" 23 n) : Walk pr w K mg base ca N24 "length" s24 n (execs (phi TB F n) F b24) := fun A sA HA a fA cdv outer xe h0 av avok W hr C =>
    (sss_cons (ss_ret (se_call C (hf_allowed.fn hr) g24_allowed (ses_cons (se_call C (hf_length_of.fn hr) g24_length_of (ses_cons (se_var C n24_0 (Or.inl l24_0)) ses_nil)) ses_nil)))
      sss_nil)
theorem w25 (x_Missing : XFull K mg "Missing" (ca 3)) (z_len : mg "len" = none) : Walk pr w K mg base ca N25 "low" s25 n (execs (phi TB F n) F b25) := fun A sA HA a fA cdv outer xe h0 av avok W hr C =>
    (sss_cons (ss_if (st_cmp C .eq (se_flat rfl (se_bltB C (cl_len C.calm) g25_len z_len (by decide +kernel) (ses_cons (se_var C n25_0 (Or.inl l25_0)) ses_nil))) se_int (by first | rfl | with_unfolding_all rfl)) (sss_cons (ss_raise C (pm_own x_Missing.toXCls g25_Missing))
      sss_nil) sss_nil)
      (sss_cons (ss_ret (se_idx C (se_idx C (se_var C n25_0 (Or.inl l25_0)) (se_neg se_int) (fun _ _ => rfl)) se_int (fun _ _ => rfl)))
      sss_nil))
theorem w26 {k_MAX_COUNT : Tok} (c_MAX_COUNT : mg "MAX_COUNT" = some (.int 64 k_MAX_COUNT)) (hf_check_place : Good pr w K mg base ca TB F "check_place" 17 n) (hf_digit : Good pr w K mg base ca TB F "digit" 21 n) (hf_from_int : Good pr w K mg base ca TB F "from_int" 8 n) (hf_plus : Good pr w K mg base ca TB F "plus" 15 n) (x_NotAllowed : XFull K mg "NotAllowed" (ca 1)) (z_range : mg "range" = none) : Walk pr w K mg base ca N26 "digits_from" s26 n (execs (phi TB F n) F b26) := fun A sA HA a fA cdv outer xe h0 av avok W hr C =>
    (sss_cons (ss_expr (se_call C (hf_check_place.fn hr) g26_check_place (ses_cons (se_var C n26_1 (Or.inr (Or.inl l26_1))) ses_nil)))
      (sss_cons (ss_if (PW.pt (st_or (st_cmp C .lt (se_var C n26_2 (Or.inl l26_2)) se_int (by first | rfl | with_unfolding_all rfl)) (st_or1 (st_cmp C .gt (se_var C n26_2 (Or.inl l26_2)) (se_globI g26_MAX_COUNT c_MAX_COUNT) (by first | rfl | with_unfolding_all rfl))))) (sss_cons (ss_raise C (pm_own x_NotAllowed.toXCls g26_NotAllowed))
      sss_nil) sss_nil)
      (sss_cons (ss_ret (Rf.PE.new (Rf.PE.modeN (se_comp C (own := [("step", 3)]) (si_rng1 g26_range z_range (ses_cons (se_var C n26_2 (Or.inl l26_2)) ses_nil)) rfl (blkOk_by (N := N26) (sc := defScope s26) (by decide +kernel)) (fun _ _ _ _ _ _ C => (sg_nm C.hN C.nd n26_3 (by first | exact Or.inl rfl | exact Or.inr rfl) (by first | exact .inl rfl | exact .inr rfl))) (fun _ _ _ _ _ _ _ _ C => sf_nil) (fun _ _ _ _ _ _ _ _ C => (se_call C (hf_digit.fn hr) (by rfl) (ses_cons (se_var C n26_0 (by first | exact Or.inl rfl | exact Or.inr (Or.inl rfl) | exact Or.inr (Or.inr rfl))) (ses_cons (se_call C (hf_plus.fn hr) (by rfl) (ses_cons (se_var C n26_1 (by first | exact Or.inl rfl | exact Or.inr (Or.inl rfl) | exact Or.inr (Or.inr rfl))) (ses_cons (se_call C (hf_from_int.fn hr) (by rfl) (ses_cons (se_var C n26_3 (by first | exact Or.inl rfl | exact Or.inr (Or.inl rfl) | exact Or.inr (Or.inr rfl))) ses_nil)) ses_nil))) ses_nil))))))))
      sss_nil)))
theorem w27 {k_MAX_MODULUS : Tok} (c_MAX_MODULUS : mg "MAX_MODULUS" = some (.int 10000 k_MAX_MODULUS)) (x_NotAllowed : XFull K mg "NotAllowed" (ca 1)) : Walk pr w K mg base ca N27 "check_modulus" s27 n (execs (phi TB F n) F b27) := fun A sA HA a fA cdv outer xe h0 av avok W hr C =>
    (sss_cons (ss_if (PW.pt (st_or (st_cmp C .lt (se_var C n27_0 (Or.inl l27_0)) se_int (by first | rfl | with_unfolding_all rfl)) (st_or1 (st_cmp C .gt (se_var C n27_0 (Or.inl l27_0)) (se_globI g27_MAX_MODULUS c_MAX_MODULUS) (by first | rfl | with_unfolding_all rfl))))) (sss_cons (ss_raise C (pm_own x_NotAllowed.toXCls g27_NotAllowed))
      sss_nil) sss_nil)
      sss_nil)
theorem w28 (z_len : mg "len" = none) : Walk pr w K mg base ca N28 "row_of_two" s28 n (execs (phi TB F n) F b28) := fun A sA HA a fA cdv outer xe h0 av avok W hr C =>
    (sss_cons (ss_own C n28_1 (Or.inl l28_1) (se_lst (by decide) ses_nil))
      (sss_cons (ss_own C n28_2 (Or.inl l28_2) se_emp)
      (sss_cons (ss_set C n28_3 (Or.inl l28_3) (Rf.PE.new (se_bin C .mod se_int (se_var C n28_0 (Or.inl l28_0)))))
      (sss_cons (ss_while C (st_cmp C .notin (se_var C n28_3 (Or.inl l28_3)) (se_vw C n28_2 (Or.inl l28_2) (by decide)) (by first | rfl | with_unfolding_all rfl)) (sss_cons (ss_setd C n28_2 (Or.inl l28_2) (se_flat rfl (se_bltB C (cl_len C.calm) g28_len z_len (by decide +kernel) (ses_cons (se_vw C n28_1 (Or.inl l28_1) (by decide)) ses_nil))) (se_var C n28_3 (Or.inl l28_3)))
      (sss_cons (ss_app C n28_1 (Or.inl l28_1) (se_var C n28_3 (Or.inl l28_3)))
      (sss_cons (ss_set C n28_3 (Or.inl l28_3) (Rf.PE.new (se_bin C .mod (Rf.PE.new (se_bin C .mul (se_var C n28_3 (Or.inl l28_3)) se_int)) (se_var C n28_0 (Or.inl l28_0)))))
      sss_nil))))
      (sss_cons (ss_ret (se_tup (by decide) (ses_cons (se_vw C n28_1 (Or.inl l28_1) (by decide)) (ses_cons (se_idx C (se_vw C n28_2 (Or.inl l28_2) (by decide)) (se_var C n28_3 (Or.inl l28_3)) (fun _ _ => rfl)) ses_nil))))
      sss_nil)))))
theorem w29 (hf_check_modulus : Good pr w K mg base ca TB F "check_modulus" 27 n) (q_number : NewG pr w K mg base Cl rv TB F "Powers" "number" 45 n) : Walk pr w K mg base ca N29 "remainder" s29 n (execs (phi TB F n) F b29) := fun A sA HA a fA cdv outer xe h0 av avok W hr C =>
    (sss_cons (ss_expr (se_call C (hf_check_modulus.fn hr) g29_check_modulus (ses_cons (se_var C n29_1 (Or.inl l29_1)) ses_nil)))
      (sss_cons (ss_ret (se_new C (q_number.at_ _ rfl rfl rfl rfl rfl hr) (by decide +kernel) g29_Powers (pe_var (i := 0) n29_0 (Or.inl l29_0) (by decide) (by decide)) (pe_var (i := 1) n29_1 (Or.inl l29_1) (by decide) (by decide))))
      sss_nil))
theorem w30 (hf_negate : Good pr w K mg base ca TB F "negate" 14 n) (hf_sign_of : Good pr w K mg base ca TB F "sign_of" 3 n) : Walk pr w K mg base ca N30 "magnitude" s30 n (execs (phi TB F n) F b30) := fun A sA HA a fA cdv outer xe h0 av avok W hr C =>
    (sss_cons (ss_if (st_cmp C .lt (se_call C (hf_sign_of.fn hr) g30_sign_of (ses_cons (se_var C n30_0 (Or.inl l30_0)) ses_nil)) se_int (by first | rfl | with_unfolding_all rfl)) (sss_cons (ss_ret (se_call C (hf_negate.fn hr) g30_negate (ses_cons (se_var C n30_0 (Or.inl l30_0)) ses_nil)))
      sss_nil) sss_nil)
      (sss_cons (ss_ret (se_var C n30_0 (Or.inl l30_0)))
      sss_nil))
theorem w31 {k_MAX_LEAD : Tok} (c_MAX_LEAD : mg "MAX_LEAD" = some (.int 60 k_MAX_LEAD)) (hf_compare : Good pr w K mg base ca TB F "compare" 2 n) (hf_floored : Good pr w K mg base ca TB F "floored" 19 n) (hf_from_int : Good pr w K mg base ca TB F "from_int" 8 n) (hf_length_of : Good pr w K mg base ca TB F "length_of" 23 n) (hf_magnitude : Good pr w K mg base ca TB F "magnitude" 30 n) (hf_minus : Good pr w K mg base ca TB F "minus" 16 n) (hf_to_int : Good pr w K mg base ca TB F "to_int" 13 n) (x_NotAllowed : XFull K mg "NotAllowed" (ca 1)) : Walk pr w K mg base ca N31 "lead" s31 n (execs (phi TB F n) F b31) := fun A sA HA a fA cdv outer xe h0 av avok W hr C =>
    (sss_cons (ss_if (PW.pt (st_or (st_cmp C .lt (se_var C n31_1 (Or.inl l31_1)) se_int (by first | rfl | with_unfolding_all rfl)) (st_or1 (st_cmp C .gt (se_var C n31_1 (Or.inl l31_1)) (se_globI g31_MAX_LEAD c_MAX_LEAD) (by first | rfl | with_unfolding_all rfl))))) (sss_cons (ss_raise C (pm_own x_NotAllowed.toXCls g31_NotAllowed))
      sss_nil) sss_nil)
      (sss_cons (ss_set C n31_2 (Or.inl l31_2) (se_call C (hf_length_of.fn hr) g31_length_of (ses_cons (se_var C n31_0 (Or.inl l31_0)) ses_nil)))
      (sss_cons (ss_if (st_cmp C .le (se_call C (hf_compare.fn hr) g31_compare (ses_cons (se_var C n31_2 (Or.inl l31_2)) (ses_cons (se_call C (hf_from_int.fn hr) g31_from_int (ses_cons (se_var C n31_1 (Or.inl l31_1)) ses_nil)) ses_nil))) se_int (by first | rfl | with_unfolding_all rfl)) (sss_cons (ss_ret (se_call C (hf_to_int.fn hr) g31_to_int (ses_cons (se_call C (hf_magnitude.fn hr) g31_magnitude (ses_cons (se_var C n31_0 (Or.inl l31_0)) ses_nil)) ses_nil)))
      sss_nil) sss_nil)
      (sss_cons (ss_ret (se_call C (hf_to_int.fn hr) g31_to_int (ses_cons (se_call C (hf_floored.fn hr) g31_floored (ses_cons (se_call C (hf_magnitude.fn hr) g31_magnitude (ses_cons (se_var C n31_0 (Or.inl l31_0)) ses_nil)) (ses_cons (se_call C (hf_minus.fn hr) g31_minus (ses_cons (se_var C n31_2 (Or.inl l31_2)) (ses_cons (se_call C (hf_from_int.fn hr) g31_from_int (ses_cons (se_var C n31_1 (Or.inl l31_1)) ses_nil)) ses_nil))) ses_nil))) ses_nil)))
      sss_nil))))
theorem w32 {k_MAX_LAST : Tok} (c_MAX_LAST : mg "MAX_LAST" = some (.int 4 k_MAX_LAST)) {a_TENS : Addr} (c_TENS : mg "TENS" = some (.ref a_TENS)) (d_TENS : ∀ (av : Addr → Prop) (H : Hp), Den K av H (.ref a_TENS) (.tuple [(.int 1), (.int 10), (.int 100), (.int 1000), (.int 10000)])) (hf_magnitude : Good pr w K mg base ca TB F "magnitude" 30 n) (hf_remainder : Good pr w K mg base ca TB F "remainder" 29 n) (x_NotAllowed : XFull K mg "NotAllowed" (ca 1)) : Walk pr w K mg base ca N32 "last_digits" s32 n (execs (phi TB F n) F b32) := fun A sA HA a fA cdv outer xe h0 av avok W hr C =>
    (sss_cons (ss_if (PW.pt (st_or (st_cmp C .lt (se_var C n32_1 (Or.inl l32_1)) se_int (by first | rfl | with_unfolding_all rfl)) (st_or1 (st_cmp C .gt (se_var C n32_1 (Or.inl l32_1)) (se_globI g32_MAX_LAST c_MAX_LAST) (by first | rfl | with_unfolding_all rfl))))) (sss_cons (ss_raise C (pm_own x_NotAllowed.toXCls g32_NotAllowed))
      sss_nil) sss_nil)
      (sss_cons (ss_ret (se_call C (hf_remainder.fn hr) g32_remainder (ses_cons (se_call C (hf_magnitude.fn hr) g32_magnitude (ses_cons (se_var C n32_0 (Or.inl l32_0)) ses_nil)) (ses_cons (se_idx C (se_globK g32_TENS c_TENS d_TENS) (se_var C n32_1 (Or.inl l32_1)) (fun _ _ => rfl)) ses_nil))))
      sss_nil))
theorem w33 (z_len : mg "len" = none) : Walk pr w K mg base ca N33 "_law_cell" s33 n (execs (phi TB F n) F b33) := fun A sA HA a fA cdv outer xe h0 av avok W hr C =>
    (sss_cons (ss_if (st_cmp C .lt (se_var C n33_1 (Or.inl l33_1)) (se_flat rfl (se_bltB C (cl_len C.calm) g33_len z_len (by decide +kernel) (ses_cons (se_var C n33_0 (Or.inl l33_0)) ses_nil))) (by first | rfl | with_unfolding_all rfl)) (sss_cons (ss_ret (se_idx C (se_var C n33_0 (Or.inl l33_0)) (se_var C n33_1 (Or.inl l33_1)) (fun _ _ => rfl)))
      sss_nil) sss_nil)
      (sss_cons (ss_ret se_int)
      sss_nil))
theorem w34 (z_int : mg "int" = none) (z_range : mg "range" = none) : Walk pr w K mg base ca N34 "_law_numbers" s34 n (execs (phi TB F n) F b34) := fun A sA HA a fA cdv outer xe h0 av avok W hr C =>
    (sss_cons (ss_own C n34_3 (Or.inl l34_3) (se_lst (by decide) ses_nil))
      (sss_cons (ss_if (st_cmp C .ge (se_var C n34_0 (Or.inl l34_0)) (Rf.PE.new (se_bin C .pow se_int se_int)) (by first | rfl | with_unfolding_all rfl)) (sss_cons (ss_set C n34_4 (Or.inl l34_4) (se_var C n34_0 (Or.inl l34_0)))
      (sss_cons (ss_for C (si_rng1 g34_range z_range (ses_cons (se_var C n34_2 (Or.inl l34_2)) ses_nil)) (sg_nm C.hN C.nd n34_5 (Or.inl l34_5) (by first | exact .inl rfl | exact .inr rfl)) (fun _ _ C => (sss_cons (ss_app C n34_3 (Or.inl l34_3) (Rf.PE.new (se_bin C .mod (se_flat rfl (se_bltT C (cl_int) g34_int z_int (by decide +kernel) (ses_cons (se_var C n34_4 (Or.inl l34_4)) ses_nil))) se_int)))
      (sss_cons (ss_set C n34_4 (Or.inl l34_4) (Rf.PE.new (se_bin C .fdiv (se_var C n34_4 (Or.inl l34_4)) se_int)))
      sss_nil))))
      (sss_cons (ss_ret (se_vw C n34_3 (Or.inl l34_3) (by decide)))
      sss_nil))) sss_nil)
      (sss_cons (ss_set C n34_6 (Or.inl l34_6) (Rf.PE.new (se_bin C .mod (se_flat rfl (se_bltT C (cl_int) g34_int z_int (by decide +kernel) (ses_cons (Rf.PE.new (se_bin C .add (Rf.PE.new (se_bin C .add (Rf.PE.new (se_bin C .mul (se_var C n34_0 (Or.inl l34_0)) se_int)) (Rf.PE.new (se_bin C .mul (se_var C n34_1 (Or.inl l34_1)) se_int)))) se_int)) ses_nil))) se_int)))
      (sss_cons (ss_for C (si_rng1 g34_range z_range (ses_cons (se_var C n34_2 (Or.inl l34_2)) ses_nil)) (sg_nm C.hN C.nd n34_5 (Or.inl l34_5) (by first | exact .inl rfl | exact .inr rfl)) (fun _ _ C => (sss_cons (ss_set C n34_6 (Or.inl l34_6) (Rf.PE.new (se_bin C .mod (se_flat rfl (se_bltT C (cl_int) g34_int z_int (by decide +kernel) (ses_cons (Rf.PE.new (se_bin C .add (Rf.PE.new (se_bin C .add (Rf.PE.new (se_bin C .mul (se_var C n34_6 (Or.inl l34_6)) se_int)) (Rf.PE.new (se_bin C .mul (se_var C n34_5 (Or.inl l34_5)) se_int)))) se_int)) ses_nil))) se_int)))
      (sss_cons (ss_set C n34_7 (Or.inl l34_7) (Rf.PE.new (se_bin C .mod (se_flat rfl (se_bltT C (cl_int) g34_int z_int (by decide +kernel) (ses_cons (Rf.PE.new (se_bin C .add (Rf.PE.new (se_bin C .add (Rf.PE.new (se_bin C .mul (se_var C n34_6 (Or.inl l34_6)) (se_var C n34_6 (Or.inl l34_6)))) (Rf.PE.new (se_bin C .mul (se_var C n34_1 (Or.inl l34_1)) se_int)))) (se_var C n34_5 (Or.inl l34_5)))) ses_nil))) se_int)))
      (sss_cons (ss_app C n34_3 (Or.inl l34_3) (Rf.PE.new (se_bin C .mod (se_flat rfl (se_bltT C (cl_int) g34_int z_int (by decide +kernel) (ses_cons (Rf.PE.new (se_bin C .fdiv (se_var C n34_7 (Or.inl l34_7)) se_int)) ses_nil))) se_int)))
      sss_nil)))))
      (sss_cons (ss_ret (se_vw C n34_3 (Or.inl l34_3) (by decide)))
      sss_nil)))))
theorem w35 (z_int : mg "int" = none) (z_range : mg "range" = none) : Walk pr w K mg base ca N35 "_law_plain" s35 n (execs (phi TB F n) F b35) := fun A sA HA a fA cdv outer xe h0 av avok W hr C =>
    (sss_cons (ss_set C n35_3 (Or.inl l35_3) se_int)
      (sss_cons (ss_for C (si_rng1 g35_range z_range (ses_cons (Rf.PE.new (se_bin C .mod (se_flat rfl (se_bltT C (cl_int) g35_int z_int (by decide +kernel) (ses_cons (se_idx C (se_var C n35_0 (Or.inl l35_0)) (se_var C n35_1 (Or.inl l35_1)) (fun _ _ => rfl)) ses_nil))) se_int)) ses_nil)) (sg_nm C.hN C.nd n35_4 (Or.inl l35_4) (by first | exact .inl rfl | exact .inr rfl)) (fun _ _ C => (sss_cons (ss_set C n35_5 (Or.inl l35_5) (se_idx C (Rf.PE.new (se_lst (by decide) (ses_cons (Rf.PE.new (se_bin C .mod (se_flat rfl (se_bltT C (cl_int) g35_int z_int (by decide +kernel) (ses_cons (se_idx C (se_var C n35_0 (Or.inl l35_0)) (Rf.PE.new (se_bin C .add (Rf.PE.new (se_bin C .add (se_var C n35_1 (Or.inl l35_1)) se_int)) (se_var C n35_4 (Or.inl l35_4)))) (fun _ _ => rfl)) ses_nil))) se_int)) (ses_cons (Rf.PE.new (se_bin C .mod (Rf.PE.new (se_bin C .mul (se_flat rfl (se_bltT C (cl_int) g35_int z_int (by decide +kernel) (ses_cons (se_idx C (se_var C n35_0 (Or.inl l35_0)) (Rf.PE.new (se_bin C .add (Rf.PE.new (se_bin C .add (se_var C n35_1 (Or.inl l35_1)) se_int)) (se_var C n35_4 (Or.inl l35_4)))) (fun _ _ => rfl)) ses_nil))) se_int)) (se_var C n35_2 (Or.inl l35_2)))) ses_nil)))) (Rf.PE.new (se_bin C .mod (Rf.PE.new (se_bin C .fdiv (se_flat rfl (se_bltT C (cl_int) g35_int z_int (by decide +kernel) (ses_cons (se_idx C (se_var C n35_0 (Or.inl l35_0)) (Rf.PE.new (se_bin C .add (se_var C n35_1 (Or.inl l35_1)) se_int)) (fun _ _ => rfl)) ses_nil))) (Rf.PE.new (se_bin C .add se_int (se_var C n35_4 (Or.inl l35_4)))))) se_int)) (fun _ _ => rfl)))
      (sss_cons (ss_set C n35_3 (Or.inl l35_3) (Rf.PE.new (se_bin C .add (se_var C n35_3 (Or.inl l35_3)) (Rf.PE.new (se_bin C .mul (Rf.PE.new (se_bin C .sub se_int (Rf.PE.new (se_bin C .mul se_int (Rf.PE.new (se_bin C .mod (Rf.PE.new (se_bin C .fdiv (se_flat rfl (se_bltT C (cl_int) g35_int z_int (by decide +kernel) (ses_cons (se_idx C (se_var C n35_0 (Or.inl l35_0)) (Rf.PE.new (se_bin C .add (se_var C n35_1 (Or.inl l35_1)) se_int)) (fun _ _ => rfl)) ses_nil))) (Rf.PE.new (se_bin C .add se_int (se_var C n35_4 (Or.inl l35_4)))))) se_int)))))) (Rf.PE.new (se_bin C .shl se_int (se_var C n35_5 (Or.inl l35_5)))))))))
      sss_nil))))
      (sss_cons (ss_ret (Rf.PE.new (se_bin C .sub (Rf.PE.new (se_bin C .add (se_var C n35_3 (Or.inl l35_3)) (Rf.PE.new (se_bin C .mod (se_flat rfl (se_bltT C (cl_int) g35_int z_int (by decide +kernel) (ses_cons (se_idx C (se_var C n35_0 (Or.inl l35_0)) (Rf.PE.new (se_bin C .add (se_var C n35_1 (Or.inl l35_1)) se_int)) (fun _ _ => rfl)) ses_nil))) se_int)))) se_int)))
      sss_nil)))
theorem w36 (z_abs : mg "abs" = none) : Walk pr w K mg base ca N36 "_law_low" s36 n (execs (phi TB F n) F b36) := fun A sA HA a fA cdv outer xe h0 av avok W hr C =>
    (sss_cons (ss_ret (Rf.PE.new (se_bin C .sub (se_bits (Rf.PE.new (se_bin C .band (se_flat rfl (se_bltB C (cl_abs) g36_abs z_abs (by decide +kernel) (ses_cons (se_var C n36_0 (Or.inl l36_0)) ses_nil))) (se_neg (se_flat rfl (se_bltB C (cl_abs) g36_abs z_abs (by decide +kernel) (ses_cons (se_var C n36_0 (Or.inl l36_0)) ses_nil))))))) se_int)))
      sss_nil)
theorem w37 (z_abs : mg "abs" = none) : Walk pr w K mg base ca N37 "_law_lead" s37 n (execs (phi TB F n) F b37) := fun A sA HA a fA cdv outer xe h0 av avok W hr C =>
    (sss_cons (ss_set C n37_2 (Or.inl l37_2) (se_bits (se_flat rfl (se_bltB C (cl_abs) g37_abs z_abs (by decide +kernel) (ses_cons (se_var C n37_0 (Or.inl l37_0)) ses_nil)))))
      (sss_cons (ss_if (st_cmp C .le (se_var C n37_2 (Or.inl l37_2)) (se_var C n37_1 (Or.inl l37_1)) (by first | rfl | with_unfolding_all rfl)) (sss_cons (ss_ret (se_flat rfl (se_bltB C (cl_abs) g37_abs z_abs (by decide +kernel) (ses_cons (se_var C n37_0 (Or.inl l37_0)) ses_nil))))
      sss_nil) sss_nil)
      (sss_cons (ss_ret (Rf.PE.new (se_bin C .shr (se_flat rfl (se_bltB C (cl_abs) g37_abs z_abs (by decide +kernel) (ses_cons (se_var C n37_0 (Or.inl l37_0)) ses_nil))) (Rf.PE.new (se_bin C .sub (se_var C n37_2 (Or.inl l37_2)) (se_var C n37_1 (Or.inl l37_1)))))))
      sss_nil)))
theorem w38 (hf_digit_at : Good pr w K mg base ca TB F "digit_at" 22 n) (hf_digits_from : Good pr w K mg base ca TB F "digits_from" 26 n) (hf_floor_shift : Good pr w K mg base ca TB F "floor_shift" 20 n) (hf_last_digits : Good pr w K mg base ca TB F "last_digits" 32 n) (hf_lead : Good pr w K mg base ca TB F "lead" 31 n) (hf_of_int : Good pr w K mg base ca TB F "of_int" 11 n) (k_NotAllowed_Missing : PySem.W.kitOne K (.ref (ca 1)) (.ref (ca 3)) = some false) (k_NotAllowed_ReckonError : PySem.W.kitOne K (.ref (ca 1)) (.ref (ca 0)) = some true) (k_NotAllowed_TooLarge : PySem.W.kitOne K (.ref (ca 1)) (.ref (ca 2)) = some false) (s_Missing_NotAllowed : PySem.W.subIn K (.ref (ca 3)) (.ref (ca 1)) = some false) (s_NotAllowed_NotAllowed : PySem.W.subIn K (.ref (ca 1)) (.ref (ca 1)) = some true) (s_TooLarge_NotAllowed : PySem.W.subIn K (.ref (ca 2)) (.ref (ca 1)) = some false) (x_Missing : XFull K mg "Missing" (ca 3)) (x_NotAllowed : XFull K mg "NotAllowed" (ca 1)) (x_ReckonError : XFull K mg "ReckonError" (ca 0)) (x_TooLarge : XFull K mg "TooLarge" (ca 2)) (z_int : mg "int" = none) (z_isinstance : mg "isinstance" = none) : Walk pr w K mg base ca N38 "_law_refused" s38 n (execs (phi TB F n) F b38) := fun A sA HA a fA cdv outer xe h0 av avok W hr C =>
    (sss_cons (ss_try C rfl rfl n38_2 l38_2 g38_NotAllowed x_NotAllowed.g (List.forall_mem_cons.mpr ⟨⟨x_NotAllowed.exm s_NotAllowed_NotAllowed, .bl true, rfl, fun ea oe pn hz hf => xs_ret (xk_and (xk_is (X := cxG pr w K mg base N38 "_law_refused" s38 A sA HA a fA cdv outer xe) x_NotAllowed.ex hz hf n38_2 (Or.inl l38_2) g38_isinstance z_isinstance g38_ReckonError x_ReckonError.g k_NotAllowed_ReckonError) (xk_one (xk_not (xk_isT (X := cxG pr w K mg base N38 "_law_refused" s38 A sA HA a fA cdv outer xe) x_NotAllowed.ex hz hf n38_2 (Or.inl l38_2) g38_isinstance z_isinstance g38_Missing x_Missing.g g38_TooLarge x_TooLarge.g k_NotAllowed_Missing k_NotAllowed_TooLarge rfl))))⟩, fun _ z => nomatch z⟩) (List.forall_mem_cons.mpr ⟨(x_NotAllowed.exm s_TooLarge_NotAllowed), List.forall_mem_cons.mpr ⟨(x_NotAllowed.exm s_Missing_NotAllowed), fun _ z => nomatch z⟩⟩) (fun W pn xe C => (sss_cons (ss_if (st_cmp C .eq (se_var C n38_0 (Or.inl l38_0)) se_int (by first | rfl | with_unfolding_all rfl)) (sss_cons (ss_expr (se_call C (hf_floor_shift.fn hr) g38_floor_shift (ses_cons (se_call C (hf_of_int.fn hr) g38_of_int (ses_cons (se_var C n38_1 (Or.inl l38_1)) ses_nil)) (ses_cons (se_call C (hf_of_int.fn hr) g38_of_int (ses_cons (Rf.PE.new (se_bin C .sub (se_neg se_int) (Rf.PE.new (se_bin C .mod (se_flat rfl (se_bltT C (cl_int) g38_int z_int (by decide +kernel) (ses_cons (se_var C n38_1 (Or.inl l38_1)) ses_nil))) se_int)))) ses_nil)) ses_nil))))
      sss_nil) (sss_cons (ss_if (st_cmp C .eq (se_var C n38_0 (Or.inl l38_0)) se_int (by first | rfl | with_unfolding_all rfl)) (sss_cons (ss_expr (se_call C (hf_digit_at.fn hr) g38_digit_at (ses_cons (se_call C (hf_of_int.fn hr) g38_of_int (ses_cons (se_var C n38_1 (Or.inl l38_1)) ses_nil)) (ses_cons (se_call C (hf_of_int.fn hr) g38_of_int (ses_cons (se_neg se_int) ses_nil)) ses_nil))))
      sss_nil) (sss_cons (ss_if (st_cmp C .eq (se_var C n38_0 (Or.inl l38_0)) se_int (by first | rfl | with_unfolding_all rfl)) (sss_cons (ss_expr (se_call C (hf_digits_from.fn hr) g38_digits_from (ses_cons (se_call C (hf_of_int.fn hr) g38_of_int (ses_cons (se_var C n38_1 (Or.inl l38_1)) ses_nil)) (ses_cons (se_call C (hf_of_int.fn hr) g38_of_int (ses_cons (se_neg se_int) ses_nil)) (ses_cons se_int ses_nil)))))
      sss_nil) (sss_cons (ss_if (st_cmp C .eq (se_var C n38_0 (Or.inl l38_0)) se_int (by first | rfl | with_unfolding_all rfl)) (sss_cons (ss_expr (se_call C (hf_digits_from.fn hr) g38_digits_from (ses_cons (se_call C (hf_of_int.fn hr) g38_of_int (ses_cons (se_var C n38_1 (Or.inl l38_1)) ses_nil)) (ses_cons (se_call C (hf_of_int.fn hr) g38_of_int (ses_cons se_int ses_nil)) (ses_cons (se_idx C (Rf.PE.new (se_lst (by decide) (ses_cons (se_neg se_int) (ses_cons se_int ses_nil)))) (Rf.PE.new (se_bin C .mod (se_flat rfl (se_bltT C (cl_int) g38_int z_int (by decide +kernel) (ses_cons (se_var C n38_1 (Or.inl l38_1)) ses_nil))) se_int)) (fun _ _ => rfl)) ses_nil)))))
      sss_nil) (sss_cons (ss_if (st_cmp C .eq (se_var C n38_0 (Or.inl l38_0)) se_int (by first | rfl | with_unfolding_all rfl)) (sss_cons (ss_expr (se_call C (hf_lead.fn hr) g38_lead (ses_cons (se_call C (hf_of_int.fn hr) g38_of_int (ses_cons (se_var C n38_1 (Or.inl l38_1)) ses_nil)) (ses_cons (se_idx C (Rf.PE.new (se_lst (by decide) (ses_cons se_int (ses_cons se_int (ses_cons (se_neg se_int) ses_nil))))) (Rf.PE.new (se_bin C .mod (se_flat rfl (se_bltT C (cl_int) g38_int z_int (by decide +kernel) (ses_cons (se_var C n38_1 (Or.inl l38_1)) ses_nil))) se_int)) (fun _ _ => rfl)) ses_nil))))
      sss_nil) (sss_cons (ss_if (st_cmp C .eq (se_var C n38_0 (Or.inl l38_0)) se_int (by first | rfl | with_unfolding_all rfl)) (sss_cons (ss_expr (se_call C (hf_last_digits.fn hr) g38_last_digits (ses_cons (se_call C (hf_of_int.fn hr) g38_of_int (ses_cons (se_var C n38_1 (Or.inl l38_1)) ses_nil)) (ses_cons (se_idx C (Rf.PE.new (se_lst (by decide) (ses_cons se_int (ses_cons se_int (ses_cons (se_neg se_int) ses_nil))))) (Rf.PE.new (se_bin C .mod (se_flat rfl (se_bltT C (cl_int) g38_int z_int (by decide +kernel) (ses_cons (se_var C n38_1 (Or.inl l38_1)) ses_nil))) se_int)) (fun _ _ => rfl)) ses_nil))))
      sss_nil) sss_nil)
      sss_nil))
      sss_nil))
      sss_nil))
      sss_nil))
      sss_nil))
      sss_nil)))
      (sss_cons (ss_ret se_bl)
      sss_nil))
theorem w39 (hf__law_lead : Good pr w K mg base ca TB F "_law_lead" 37 n) (hf_digit_at : Good pr w K mg base ca TB F "digit_at" 22 n) (hf_digits_from : Good pr w K mg base ca TB F "digits_from" 26 n) (hf_floor_shift : Good pr w K mg base ca TB F "floor_shift" 20 n) (hf_last_digits : Good pr w K mg base ca TB F "last_digits" 32 n) (hf_lead : Good pr w K mg base ca TB F "lead" 31 n) (hf_length : Good pr w K mg base ca TB F "length" 24 n) (hf_of_int : Good pr w K mg base ca TB F "of_int" 11 n) (z_abs : mg "abs" = none) (z_int : mg "int" = none) (z_range : mg "range" = none) : Walk pr w K mg base ca N39 "_law_agrees" s39 n (execs (phi TB F n) F b39) := fun A sA HA a fA cdv outer xe h0 av avok W hr C =>
    (sss_cons (ss_set C n39_2 (Or.inl l39_2) (se_call C (hf_of_int.fn hr) g39_of_int (ses_cons (se_var C n39_0 (Or.inr (Or.inl l39_0))) ses_nil)))
      (sss_cons (ss_set C n39_3 (Or.inr l39_3) (se_idx C (Rf.PE.new (se_lst (by decide) (ses_cons (Rf.PE.new (se_bin C .mod (se_flat rfl (se_bltT C (cl_int) g39_int z_int (by decide +kernel) (ses_cons (se_idx C (se_var C n39_1 (Or.inl l39_1)) se_int (fun _ _ => rfl)) ses_nil))) se_int)) (ses_cons (Rf.PE.new (se_bin C .mul (se_flat rfl (se_bltT C (cl_int) g39_int z_int (by decide +kernel) (ses_cons (se_idx C (se_var C n39_1 (Or.inl l39_1)) se_int (fun _ _ => rfl)) ses_nil))) se_int)) ses_nil)))) (Rf.PE.new (se_bin C .mod (se_flat rfl (se_bltT C (cl_int) g39_int z_int (by decide +kernel) (ses_cons (se_idx C (se_var C n39_1 (Or.inl l39_1)) se_int (fun _ _ => rfl)) ses_nil))) se_int)) (fun _ _ => rfl)))
      (sss_cons (ss_if (st_cmp C .ne (se_call C (hf_floor_shift.fn hr) g39_floor_shift (ses_cons (se_var C n39_2 (Or.inl l39_2)) (ses_cons (se_call C (hf_of_int.fn hr) g39_of_int (ses_cons (se_var C n39_3 (Or.inr (Or.inl l39_3))) ses_nil)) ses_nil))) (se_call C (hf_of_int.fn hr) g39_of_int (ses_cons (Rf.PE.new (se_bin C .shr (se_var C n39_0 (Or.inr (Or.inl l39_0))) (se_var C n39_3 (Or.inr (Or.inl l39_3))))) ses_nil)) (by first | rfl | with_unfolding_all rfl)) (sss_cons (ss_ret se_bl)
      sss_nil) sss_nil)
      (sss_cons (ss_if (st_cmp C .ne (se_call C (hf_digit_at.fn hr) g39_digit_at (ses_cons (se_var C n39_2 (Or.inl l39_2)) (ses_cons (se_call C (hf_of_int.fn hr) g39_of_int (ses_cons (se_var C n39_3 (Or.inr (Or.inl l39_3))) ses_nil)) ses_nil))) (Rf.PE.new (se_bin C .band (Rf.PE.new (se_bin C .shr (se_var C n39_0 (Or.inr (Or.inl l39_0))) (se_var C n39_3 (Or.inr (Or.inl l39_3))))) se_int)) (by first | rfl | with_unfolding_all rfl)) (sss_cons (ss_ret se_bl)
      sss_nil) sss_nil)
      (sss_cons (ss_set C n39_4 (Or.inl l39_4) (Rf.PE.new (se_bin C .mod (se_flat rfl (se_bltT C (cl_int) g39_int z_int (by decide +kernel) (ses_cons (se_idx C (se_var C n39_1 (Or.inl l39_1)) se_int (fun _ _ => rfl)) ses_nil))) se_int)))
      (sss_cons (ss_if (st_cmp C .ne (se_call C (hf_digits_from.fn hr) g39_digits_from (ses_cons (se_var C n39_2 (Or.inl l39_2)) (ses_cons (se_call C (hf_of_int.fn hr) g39_of_int (ses_cons (se_var C n39_3 (Or.inr (Or.inl l39_3))) ses_nil)) (ses_cons (se_var C n39_4 (Or.inl l39_4)) ses_nil)))) (Rf.PE.new (Rf.PE.modeN (se_comp C (own := [("_law_k", 5)]) (si_rng1 g39_range z_range (ses_cons (se_var C n39_4 (Or.inl l39_4)) ses_nil)) rfl (blkOk_by (N := N39) (sc := defScope s39) (by decide +kernel)) (fun _ _ _ _ _ _ C => (sg_nm C.hN C.nd n39_5 (by first | exact Or.inl rfl | exact Or.inr rfl) (by first | exact .inl rfl | exact .inr rfl))) (fun _ _ _ _ _ _ _ _ C => sf_nil) (fun _ _ _ _ _ _ _ _ C => (Rf.PE.new (se_bin C .band (Rf.PE.new (se_bin C .shr (se_var C n39_0 (by first | exact Or.inl rfl | exact Or.inr (Or.inl rfl) | exact Or.inr (Or.inr rfl))) (Rf.PE.new (se_bin C .add (se_var C n39_3 (by first | exact Or.inl rfl | exact Or.inr (Or.inl rfl) | exact Or.inr (Or.inr rfl))) (se_var C n39_5 (by first | exact Or.inl rfl | exact Or.inr (Or.inl rfl) | exact Or.inr (Or.inr rfl))))))) se_int)))))) (by first | rfl | with_unfolding_all rfl)) (sss_cons (ss_ret se_bl)
      sss_nil) sss_nil)
      (sss_cons (ss_if (st_cmp C .ne (se_call C (hf_length.fn hr) g39_length (ses_cons (se_var C n39_2 (Or.inl l39_2)) ses_nil)) (se_call C (hf_of_int.fn hr) g39_of_int (ses_cons (se_bits (se_flat rfl (se_bltB C (cl_abs) g39_abs z_abs (by decide +kernel) (ses_cons (se_var C n39_0 (Or.inr (Or.inl l39_0))) ses_nil)))) ses_nil)) (by first | rfl | with_unfolding_all rfl)) (sss_cons (ss_ret se_bl)
      sss_nil) sss_nil)
      (sss_cons (ss_set C n39_5 (Or.inl l39_5) (Rf.PE.new (se_bin C .add se_int (Rf.PE.new (se_bin C .mod (se_flat rfl (se_bltT C (cl_int) g39_int z_int (by decide +kernel) (ses_cons (se_idx C (se_var C n39_1 (Or.inl l39_1)) se_int (fun _ _ => rfl)) ses_nil))) se_int)))))
      (sss_cons (ss_if (st_cmp C .ne (se_call C (hf_lead.fn hr) g39_lead (ses_cons (se_var C n39_2 (Or.inl l39_2)) (ses_cons (se_var C n39_5 (Or.inl l39_5)) ses_nil))) (se_call C (hf__law_lead.fn hr) g39__law_lead (ses_cons (se_var C n39_0 (Or.inr (Or.inl l39_0))) (ses_cons (se_var C n39_5 (Or.inl l39_5)) ses_nil))) (by first | rfl | with_unfolding_all rfl)) (sss_cons (ss_ret se_bl)
      sss_nil) sss_nil)
      (sss_cons (ss_set C n39_5 (Or.inl l39_5) (Rf.PE.new (se_bin C .add se_int (Rf.PE.new (se_bin C .mod (se_flat rfl (se_bltT C (cl_int) g39_int z_int (by decide +kernel) (ses_cons (se_idx C (se_var C n39_1 (Or.inl l39_1)) se_int (fun _ _ => rfl)) ses_nil))) se_int)))))
      (sss_cons (ss_ret (se_cmp C .eq (se_call C (hf_last_digits.fn hr) g39_last_digits (ses_cons (se_var C n39_2 (Or.inl l39_2)) (ses_cons (se_var C n39_5 (Or.inl l39_5)) ses_nil))) (Rf.PE.new (se_bin C .mod (se_flat rfl (se_bltB C (cl_abs) g39_abs z_abs (by decide +kernel) (ses_cons (se_var C n39_0 (Or.inr (Or.inl l39_0))) ses_nil))) (se_idx C (Rf.PE.new (se_lst (by decide) (ses_cons se_int (ses_cons se_int (ses_cons se_int (ses_cons se_int (ses_cons se_int ses_nil))))))) (se_var C n39_5 (Or.inl l39_5)) (fun _ _ => rfl)))) (by first | rfl | with_unfolding_all rfl)))
      sss_nil)))))))))))
theorem w40 (hf__law_low : Good pr w K mg base ca TB F "_law_low" 36 n) (hf_low : Good pr w K mg base ca TB F "low" 25 n) (hf_of_int : Good pr w K mg base ca TB F "of_int" 11 n) (k_Missing_NotAllowed : PySem.W.kitOne K (.ref (ca 3)) (.ref (ca 1)) = some false) (k_Missing_ReckonError : PySem.W.kitOne K (.ref (ca 3)) (.ref (ca 0)) = some true) (s_Missing_Missing : PySem.W.subIn K (.ref (ca 3)) (.ref (ca 3)) = some true) (s_NotAllowed_Missing : PySem.W.subIn K (.ref (ca 1)) (.ref (ca 3)) = some false) (s_TooLarge_Missing : PySem.W.subIn K (.ref (ca 2)) (.ref (ca 3)) = some false) (x_Missing : XFull K mg "Missing" (ca 3)) (x_NotAllowed : XFull K mg "NotAllowed" (ca 1)) (x_ReckonError : XFull K mg "ReckonError" (ca 0)) (z_isinstance : mg "isinstance" = none) : Walk pr w K mg base ca N40 "_law_lowest" s40 n (execs (phi TB F n) F b40) := fun A sA HA a fA cdv outer xe h0 av avok W hr C =>
    (sss_cons (ss_trx C rfl rfl n40_2 l40_2 g40_Missing x_Missing.g (List.forall_mem_cons.mpr ⟨⟨x_Missing.exm s_Missing_Missing, fun ea oe pn hz hf => xls_ret (xl_and (xl_eqI C (xl_var C n40_0 (Or.inl l40_0))) (xl_and (xl_k (xk_is (X := cxG pr w K mg base N40 "_law_lowest" s40 A sA HA a fA cdv outer xe) x_Missing.ex hz hf n40_2 (Or.inl l40_2) g40_isinstance z_isinstance g40_ReckonError x_ReckonError.g k_Missing_ReckonError)) (xl_one (xl_not (xl_k (xk_is (X := cxG pr w K mg base N40 "_law_lowest" s40 A sA HA a fA cdv outer xe) x_Missing.ex hz hf n40_2 (Or.inl l40_2) g40_isinstance z_isinstance g40_NotAllowed x_NotAllowed.g k_Missing_NotAllowed))))))⟩, fun _ z => nomatch z⟩) (List.forall_mem_cons.mpr ⟨(x_Missing.exm s_NotAllowed_Missing), List.forall_mem_cons.mpr ⟨(x_Missing.exm s_TooLarge_Missing), fun _ z => nomatch z⟩⟩) (fun W pn xe C => (sss_cons (ss_set C n40_1 (Or.inl l40_1) (se_call C (hf_low.fn hr) g40_low (ses_cons (se_call C (hf_of_int.fn hr) g40_of_int (ses_cons (se_var C n40_0 (Or.inl l40_0)) ses_nil)) ses_nil)))
      sss_nil)))
      (sss_cons (ss_ret (se_and (se_cmp C .ne (se_var C n40_0 (Or.inl l40_0)) se_int (by first | rfl | with_unfolding_all rfl)) (se_one (se_cmp C .eq (se_var C n40_1 (Or.inl l40_1)) (se_call C (hf_of_int.fn hr) g40_of_int (ses_cons (se_call C (hf__law_low.fn hr) g40__law_low (ses_cons (se_var C n40_0 (Or.inl l40_0)) ses_nil)) ses_nil)) (by first | rfl | with_unfolding_all rfl)))))
      sss_nil))
theorem w41 {k_MAX_COUNT : Tok} (c_MAX_COUNT : mg "MAX_COUNT" = some (.int 64 k_MAX_COUNT)) {k_MAX_LAST : Tok} (c_MAX_LAST : mg "MAX_LAST" = some (.int 4 k_MAX_LAST)) {k_MAX_LEAD : Tok} (c_MAX_LEAD : mg "MAX_LEAD" = some (.int 60 k_MAX_LEAD)) (hf__law_agrees : Good pr w K mg base ca TB F "_law_agrees" 39 n) (hf__law_cell : Good pr w K mg base ca TB F "_law_cell" 33 n) (hf__law_lowest : Good pr w K mg base ca TB F "_law_lowest" 40 n) (hf__law_numbers : Good pr w K mg base ca TB F "_law_numbers" 34 n) (hf__law_plain : Good pr w K mg base ca TB F "_law_plain" 35 n) (hf__law_refused : Good pr w K mg base ca TB F "_law_refused" 38 n) (z_int : mg "int" = none) (z_len : mg "len" = none) (z_max : mg "max" = none) (z_min : mg "min" = none) (z_range : mg "range" = none) : Walk pr w K mg base ca N41 "law" s41 n (execs (phi TB F n) F b41) := fun A sA HA a fA cdv outer xe h0 av avok W hr C =>
    (sss_cons (ss_for C (si_rng1 g41_range z_range (ses_cons (se_flat rfl (se_bltB C (cl_max C.calm) g41_max z_max (by decide +kernel) (ses_cons se_int (ses_cons (se_flat rfl (se_bltB C (cl_min C.calm) g41_min z_min (by decide +kernel) (ses_cons (se_flat rfl (se_bltB C (cl_len C.calm) g41_len z_len (by decide +kernel) (ses_cons (se_var C n41_0 (Or.inl l41_0)) ses_nil))) (ses_cons se_int ses_nil)))) ses_nil)))) ses_nil)) (sg_nm C.hN C.nd n41_1 (Or.inl l41_1) (by first | exact .inl rfl | exact .inr rfl)) (fun _ _ C => (sss_cons (ss_set C n41_2 (Or.inl l41_2) (se_call C (hf__law_numbers.fn hr) g41__law_numbers (ses_cons (se_call C (hf__law_cell.fn hr) g41__law_cell (ses_cons (se_var C n41_0 (Or.inl l41_0)) (ses_cons (se_var C n41_1 (Or.inl l41_1)) ses_nil))) (ses_cons (se_var C n41_1 (Or.inl l41_1)) (ses_cons se_int ses_nil)))))
      (sss_cons (ss_set C n41_3 (Or.inl l41_3) (se_call C (hf__law_plain.fn hr) g41__law_plain (ses_cons (se_var C n41_2 (Or.inl l41_2)) (ses_cons se_int (ses_cons se_int ses_nil)))))
      (sss_cons (ss_if (PW.pt (st_or (st_not (st_val (se_call C (hf__law_agrees.fn hr) g41__law_agrees (ses_cons (se_var C n41_3 (Or.inl l41_3)) (ses_cons (Rf.PE.new (se_sl C (se_var C n41_2 (Or.inl l41_2)) (so_some se_int) (so_some se_int))) ses_nil))))) (st_or1 (st_not (st_val (se_call C (hf__law_agrees.fn hr) g41__law_agrees (ses_cons (se_neg (se_var C n41_3 (Or.inl l41_3))) (ses_cons (Rf.PE.new (se_sl C (se_var C n41_2 (Or.inl l41_2)) (so_some se_int) (so_some se_int))) ses_nil)))))))) (sss_cons (ss_ret se_bl)
      sss_nil) sss_nil)
      (sss_cons (ss_if (PW.pt (st_and (st_cmp C .lt (se_var C n41_1 (Or.inl l41_1)) se_int (by first | rfl | with_unfolding_all rfl)) (st_and1 (st_not (st_val (se_call C (hf__law_lowest.fn hr) g41__law_lowest (ses_cons (Rf.PE.new (se_bin C .shl (se_var C n41_3 (Or.inl l41_3)) (Rf.PE.new (se_bin C .mod (se_flat rfl (se_bltT C (cl_int) g41_int z_int (by decide +kernel) (ses_cons (se_idx C (se_var C n41_2 (Or.inl l41_2)) se_int (fun _ _ => rfl)) ses_nil))) se_int)))) ses_nil))))))) (sss_cons (ss_ret se_bl)
      sss_nil) sss_nil)
      sss_nil))))))
      (sss_cons (ss_set C n41_4 (Or.inl l41_4) (se_flat rfl (se_bltT C (cl_int) g41_int z_int (by decide +kernel) (ses_cons (se_idx C (se_call C (hf__law_numbers.fn hr) g41__law_numbers (ses_cons (se_call C (hf__law_cell.fn hr) g41__law_cell (ses_cons (se_var C n41_0 (Or.inl l41_0)) (ses_cons se_int ses_nil))) (ses_cons se_int (ses_cons se_int ses_nil)))) se_int (fun _ _ => rfl)) ses_nil))))
      (sss_cons (ss_for C (si_rng1 g41_range z_range (ses_cons se_int ses_nil)) (sg_nm C.hN C.nd n41_5 (Or.inl l41_5) (by first | exact .inl rfl | exact .inr rfl)) (fun _ _ C => (sss_cons (ss_if (st_not (st_val (se_call C (hf__law_refused.fn hr) g41__law_refused (ses_cons (se_var C n41_5 (Or.inl l41_5)) (ses_cons (se_var C n41_4 (Or.inl l41_4)) ses_nil))))) (sss_cons (ss_ret se_bl)
      sss_nil) sss_nil)
      sss_nil)))
      (sss_cons (ss_ret (se_and (se_call C (hf__law_lowest.fn hr) g41__law_lowest (ses_cons se_int ses_nil)) (se_one (se_cmp C .eq (se_tup (by decide) (ses_cons (se_globI g41_MAX_COUNT c_MAX_COUNT) (ses_cons (se_globI g41_MAX_LEAD c_MAX_LEAD) (ses_cons (se_globI g41_MAX_LAST c_MAX_LAST) ses_nil)))) (se_tup (by decide) (ses_cons se_int (ses_cons se_int (ses_cons se_int ses_nil)))) (by first | rfl | with_unfolding_all rfl)))))
      sss_nil))))
theorem okRow {f : Addr} {fd : FuncData} (F0 : Fun K "row" "Powers.row" s42 f fd) (hcl : Cls K Cl) (nA : NoAttr K Cl "rows") (g2 : Good pr w K mg base ca TB F "row_of_two" 28 n) (hrow : ∀ (n : Nat) (m : Int) (x : Rf.D), 1 ≤ m → m ≤ 10000 → phi TB F n 28 [.int m] = .ok x → x = rv m) (hrd : ∀ m, noDct (rv m) = true) : FnOk pr w K mg base L2.CX0 (n + 1) f fd ["self", "m"] (spM K Cl rv (phi TB F (n + 1)) 42) := by
  refine F0.ok sc42 (fun vs H Q E h => ?_) (fun cdv A outer s H vs Q E hr h => ?_)
  · obtain ⟨p, d, kvs, vs', ds, x, rfl, _, hd, _, h, _⟩ := h
    obtain ⟨m, rfl, _⟩ := row_inv rfl h
    rw [row_len hd]; rfl
  · obtain ⟨p, d, kvs, vs', ds, x, rfl, pw, hd, hn, h, qq⟩ := h
    obtain ⟨m, rfl, m1, m2, h2⟩ := row_inv rfl h
    obtain rfl := row_len hd
    have hu := hu_of hr
    have ex := hrow n m x m1 m2 h2
    obtain ⟨dx, h1⟩ := pw.ob
    have CC : ∀ h0, Ctx (cxG pr w K mg base N42 "Powers.row" s42 (A.deeper (envOfC "Powers.row" (defScope s42) s.heap.objs.size f cdv)) s H s.heap.objs.size f cdv outer (fun _ _ => False)) (PO K ca h0) N42 (defScope s42) := fun h0 => ⟨rfl, rfl, sc42.nd, rfl, rfl, by
      have := hr.un
      show (A.deeper (envOfC "Powers.row" (defScope s42) s.heap.objs.size f cdv)).units + 190 < cLine
      omega, takes0, PassesOwn.never⟩
    refine ⟨_, pss_cons (ps_if (pt_cmp (pc_dnotin hu (pv 1) (pe_fld (pv 0) rfl))) (pss_one (ps_dput hu (pe_fld (pv 0) rfl) (pv 1) (PE.any fun h0 => se_call (m := 2) (CC h0) (g2.fn hr) (by rfl) (ses_cons (se_var (i := 1) (CC h0) rfl (Or.inl rfl)) ses_nil)) rfl)) pss_nil) (pss_one (ps_ret (pe_dget hu (pe_fld (pv 0) rfl) (pv 1) (fun _ _ => rfl)))), ?_⟩
    refine ⟨_, rfl, _, rfl, p, Cl, dx, _, _, rfl, h1, hcl, nA, rows_look, d, _, rfl, DGet.k (k := Sum.inl m) pw.dc, _, rfl, ?_⟩
    cases e : valV kvs (Sum.inl m : Key) with
    | some v0 =>
      refine iteF ?_
      refine ⟨_, rfl, p, Cl, dx, _, _, rfl, h1, hcl, nA, rows_look, _, rfl, d, v0, rfl, by rw [← e]; exact DGet.k (k := Sum.inl m) pw.dc, ?_⟩
      obtain ⟨kv, hk, h3, h4⟩ := valV_mem e
      obtain ⟨m', g1, g2', g3, g4⟩ := pw.ok kv hk
      rw [h3] at g1
      cases g1
      rw [h4] at g4
      exact qq v0 H kvs (fun _ _ _ z => z) pw (by rw [ex]; exact g4)
    | none =>
      refine iteT ?_
      refine ⟨H, [.un, .d (.int m)], rowR, ?_⟩
      have e2 : ev (phi TB F n) (.call 28 [.var 1]) [.un, .d (.int m)] = .ok x := by
        simp only [ev, evs, List.getElem?_cons_succ, List.getElem?_cons_zero, Res.bind_ok]
        exact h2
      rw [e2]
      intro v H1 sm dv
      have dvx : Den K noAv H1 v (rv m) := by rw [← ex]; exact dv.weak
      obtain ⟨w1, w2⟩ := pw.put sm m1 m2 e hrd dvx
      have d1 : H1 p = some (.ins Cl dx [("rows", .ref d)]) := sm _ _ h1
      have d2 : H1 d = some (.dK kvs) := sm _ _ pw.dc
      refine ⟨_, rfl, p, Cl, dx, _, _, rfl, d1, hcl, nA, rows_look, _, rfl, d, _, rfl, DPut.k (k := Sum.inl m) d2 (by have := pw.len; have h9 : 10000 < sizeLine := (by decide); omega), ?_⟩
      obtain ⟨dx2, d3⟩ := w1.ob
      have hv : valV (putK kvs (Sum.inl m : Key) v) (Sum.inl m : Key) = some v := valV_new e
      refine ⟨_, rfl, p, Cl, dx2, _, _, rfl, d3, hcl, nA, rows_look, _, rfl, d, v, rfl, by rw [← hv]; exact DGet.k (k := Sum.inl m) upd_same, ?_⟩
      exact qq v _ _ w2 w1 (by rw [ex]; exact dvx.sb d2 (fun b o nb z => by rw [upd_ne nb]; exact z) (hrd m))
theorem w43 (hf_compare : Good pr w K mg base ca TB F "compare" 2 n) (hf_from_int : Good pr w K mg base ca TB F "from_int" 8 n) (hf_to_int : Good pr w K mg base ca TB F "to_int" 13 n) (hcl : Cls K Cl) (m_number : GoodM pr w K mg base Cl rv TB F "number" 44 n) (m_row : GoodM pr w K mg base Cl rv TB F "row" 42 n) (z_len : mg "len" = none) : WalkO pr w K mg base ca Cl rv N43 "Powers.power" s43 n (execs (phi TB F n) F [.chk, (.asg (.tp [(.nm 3), (.nm 4)]) (.call 42 [(.slf 0), (.var 2)])), .chk, (.ifs (.cmp .lt (.call 2 [(.var 1), (.call 8 [(.blt .len [(.var 3)])])]) (.con (.int 0))) [(.ret (.idx (.var 3) (.call 13 [(.var 1)])))] []), .chk, (.asg (.nm 5) (.bin .sub (.blt .len [(.var 3)]) (.var 4))), .chk, (.ret (.idx (.var 3) (.bin .add (.var 4) (.bin .mod (.bin .sub (.call 44 [(.slf 0), (.var 1), (.var 5)]) (.var 4)) (.var 5)))))]) := fun A sA HA a fA cdv outer xe hr CC => have C := CC (fun _ => none)
    (so_cons (so_asgm (m_row.met hcl hr) (by decide +kernel) (pe_var (i := 0) n43_0 (Or.inl l43_0) (by decide) (by decide)) (pe_var (i := 2) n43_2 (Or.inl l43_2) (by decide) (by decide)) (sg_tp C.calm rfl (sgs_cons (sg_nm C.hN C.nd n43_3 (Or.inl l43_3) (by first | exact .inl rfl | exact .inr rfl)) (sgs_cons (sg_nm C.hN C.nd n43_4 (Or.inl l43_4) (by first | exact .inl rfl | exact .inr rfl)) sgs_nil))) (by decide))
      (so_cons (so_pure (fun h0 => have C := CC h0; (ss_if (st_cmp C .lt (se_call C (hf_compare.fn hr) g43_compare (ses_cons (se_var C n43_1 (Or.inl l43_1)) (ses_cons (se_call C (hf_from_int.fn hr) g43_from_int (ses_cons (se_flat rfl (se_bltB C (cl_len C.calm) g43_len z_len (by decide +kernel) (ses_cons (se_var C n43_3 (Or.inl l43_3)) ses_nil))) ses_nil)) ses_nil))) se_int (by first | rfl | with_unfolding_all rfl)) (sss_cons (ss_ret (se_idx C (se_var C n43_3 (Or.inl l43_3)) (se_call C (hf_to_int.fn hr) g43_to_int (ses_cons (se_var C n43_1 (Or.inl l43_1)) ses_nil)) (fun _ _ => rfl)))
      sss_nil) sss_nil)) (PureS.ifret).h0 (PureS.ifret).bc)
      (so_cons (so_pure (fun h0 => have C := CC h0; (ss_set C n43_5 (Or.inl l43_5) (Rf.PE.new (se_bin C .sub (se_flat rfl (se_bltB C (cl_len C.calm) g43_len z_len (by decide +kernel) (ses_cons (se_var C n43_3 (Or.inl l43_3)) ses_nil))) (se_var C n43_4 (Or.inl l43_4)))))) ((PureS.asg (by decide))).h0 ((PureS.asg (by decide))).bc)
      (so_cons (so_retm C.u1 rfl (m_number.met hcl hr) (by decide +kernel) (pe_var (i := 0) n43_0 (Or.inl l43_0) (by decide) (by decide)) (pe_var (i := 3) n43_3 (Or.inl l43_3) (by decide) (by decide)) (pe_var (i := 4) n43_4 (Or.inl l43_4) (by decide) (by decide)) (pe_var (i := 4) n43_4 (Or.inl l43_4) (by decide) (by decide)) (pe_var (i := 1) n43_1 (Or.inl l43_1) (by decide) (by decide)) (pe_var (i := 5) n43_5 (Or.inl l43_5) (by decide) (by decide)) (pe_var (i := 5) n43_5 (Or.inl l43_5) (by decide) (by decide)))
      so_nil))))
theorem w44 (hcl : Cls K Cl) (m_power : GoodM pr w K mg base Cl rv TB F "power" 43 n) : WalkO pr w K mg base ca Cl rv N44 "Powers.number" s44 n (execs (phi TB F n) F [.chk, (.asg (.nm 3) (.con (.int 0))), .chk, (.for (.tp [(.nm 4), (.nm 5)]) .tup [(.var 1)] b44_1), .chk, (.ret (.bin .mod (.var 3) (.var 2)))]) := fun A sA HA a fA cdv outer xe hr CC => have C := CC (fun _ => none)
    (so_cons (so_pure (fun h0 => have C := CC h0; (ss_set C n44_3 (Or.inl l44_3) se_int)) ((PureS.asg (by decide))).h0 ((PureS.asg (by decide))).bc)
      (so_cons (so_for C.po rfl rfl (pe_var (i := 1) n44_1 (Or.inl l44_1) (by decide) (by decide)) (sg_tp C.calm rfl (sgs_cons (sg_nm C.hN C.nd n44_4 (Or.inl l44_4) (by first | exact .inl rfl | exact .inr rfl)) (sgs_cons (sg_nm C.hN C.nd n44_5 (Or.inl l44_5) (by first | exact .inl rfl | exact .inr rfl)) sgs_nil))) (by decide) (so_cons (so_augm rfl C.nd n44_3 (Or.inl l44_3) (m_power.met hcl hr) (by decide +kernel) (by decide) (pe_var (i := 0) n44_0 (Or.inl l44_0) (by decide) (by decide)) (pe_var (i := 4) n44_4 (Or.inl l44_4) (by decide) (by decide)) (pe_var (i := 5) n44_5 (Or.inl l44_5) (by decide) (by decide)) (pe_var (i := 2) n44_2 (Or.inl l44_2) (by decide) (by decide))) so_end) (fun e e2 h => chk_end (fun a b => aug_ct a b) h))
      (so_cons (so_pure (fun h0 => have C := CC h0; (ss_ret (Rf.PE.new (se_bin C .mod (se_var C n44_3 (Or.inl l44_3)) (se_var C n44_2 (Or.inl l44_2)))))) (PureS.ret).h0 (PureS.ret).bc)
      so_nil)))
theorem scI : FnScope ["self"] ["self"] (defScope sI) := ⟨rfl, rfl, rfl, by decide +kernel, rfl, by decide +kernel, by decide +kernel⟩
theorem okInit {f : Addr} {fd : FuncData} (F0 : Fun K "__init__" "Powers.__init__" sI f fd) (hcl : Cls K Cl) (nA : NoAttr K Cl "rows") : FnOk pr w K mg base L2.CX0 1 f fd ["self"] (spInit Cl) := by
  refine F0.ok scI (fun vs H Q E h => ?_) (fun cdv A outer s H vs Q E hr h => ?_)
  · obtain ⟨p, dx, rfl, _⟩ := h
    rfl
  · obtain ⟨p, dx, rfl, hp, k⟩ := h
    refine ⟨_, pss_one (ps_fld (pv 0) pe_dnewK rfl), ?_⟩
    intro d hd
    have npd : p ≠ d := ne_of_none hp hd
    refine ⟨_, rfl, p, Cl, dx, [], rfl, (by rw [upd_ne npd]; exact hp), hcl, nA, (by show 0 < 1000; decide), ?_⟩
    refine k d _ hd upd_same (by rw [upd_ne npd.symm, upd_same]) fun b o e hb => ?_
    rw [upd_ne hb, upd_ne (ne_of_none e hd)]
    exact e
/-- every def of the program, n deep -/
theorem all_good (z_abs : mg "abs" = none) (z_int : mg "int" = none) (z_isinstance : mg "isinstance" = none) (z_len : mg "len" = none) (z_list : mg "list" = none) (z_max : mg "max" = none) (z_min : mg "min" = none) (z_range : mg "range" = none) (z_sum : mg "sum" = none) (z_tuple : mg "tuple" = none) (z_zip : mg "zip" = none) {k_MAX_BINARY : Tok} (c_MAX_BINARY : mg "MAX_BINARY" = some (.int 64 k_MAX_BINARY)) {k_MAX_COUNT : Tok} (c_MAX_COUNT : mg "MAX_COUNT" = some (.int 64 k_MAX_COUNT)) {k_MAX_DIGITS : Tok} (c_MAX_DIGITS : mg "MAX_DIGITS" = some (.int 2900 k_MAX_DIGITS)) {k_MAX_HEIGHT : Tok} (c_MAX_HEIGHT : mg "MAX_HEIGHT" = some (.int 40 k_MAX_HEIGHT)) {k_MAX_LAST : Tok} (c_MAX_LAST : mg "MAX_LAST" = some (.int 4 k_MAX_LAST)) {k_MAX_LEAD : Tok} (c_MAX_LEAD : mg "MAX_LEAD" = some (.int 60 k_MAX_LEAD)) {k_MAX_MODULUS : Tok} (c_MAX_MODULUS : mg "MAX_MODULUS" = some (.int 10000 k_MAX_MODULUS)) {k_MAX_SIZE : Tok} (c_MAX_SIZE : mg "MAX_SIZE" = some (.int 300 k_MAX_SIZE)) {a_TENS : Addr} (c_TENS : mg "TENS" = some (.ref a_TENS)) (x_Missing : XFull K mg "Missing" (ca 3)) (x_NotAllowed : XFull K mg "NotAllowed" (ca 1)) (x_ReckonError : XFull K mg "ReckonError" (ca 0)) (x_TooLarge : XFull K mg "TooLarge" (ca 2)) (k_Missing_NotAllowed : PySem.W.kitOne K (.ref (ca 3)) (.ref (ca 1)) = some false) (k_Missing_ReckonError : PySem.W.kitOne K (.ref (ca 3)) (.ref (ca 0)) = some true) (k_NotAllowed_Missing : PySem.W.kitOne K (.ref (ca 1)) (.ref (ca 3)) = some false) (k_NotAllowed_ReckonError : PySem.W.kitOne K (.ref (ca 1)) (.ref (ca 0)) = some true) (k_NotAllowed_TooLarge : PySem.W.kitOne K (.ref (ca 1)) (.ref (ca 2)) = some false) (s_Missing_Missing : PySem.W.subIn K (.ref (ca 3)) (.ref (ca 3)) = some true) (s_Missing_NotAllowed : PySem.W.subIn K (.ref (ca 3)) (.ref (ca 1)) = some false) (s_NotAllowed_Missing : PySem.W.subIn K (.ref (ca 1)) (.ref (ca 3)) = some false) (s_NotAllowed_NotAllowed : PySem.W.subIn K (.ref (ca 1)) (.ref (ca 1)) = some true) (s_TooLarge_Missing : PySem.W.subIn K (.ref (ca 2)) (.ref (ca 3)) = some false) (s_TooLarge_NotAllowed : PySem.W.subIn K (.ref (ca 2)) (.ref (ca 1)) = some false) (d_TENS : ∀ (av : Addr → Prop) (H : Hp), Den K av H (.ref a_TENS) (.tuple [(.int 1), (.int 10), (.int 100), (.int 1000), (.int 10000)])) (t0 : Txt K mg "size_of" "size_of" s0 p0) (t1 : Txt K mg "height_of" "height_of" s1 p1) (t2 : Txt K mg "compare" "compare" s2 p2) (t3 : Txt K mg "sign_of" "sign_of" s3 p3) (t4 : Txt K mg "in_order" "in_order" s4 p4) (t5 : Txt K mg "gathered" "gathered" s5 p5) (t6 : Txt K mg "sign_at" "sign_at" s6 p6) (t7 : Txt K mg "next_of" "next_of" s7 p7) (t8 : Txt K mg "from_int" "from_int" s8 p8) (t9 : Txt K mg "is_allowed" "is_allowed" s9 p9) (t10 : Txt K mg "allowed" "allowed" s10 p10) (t11 : Txt K mg "of_int" "of_int" s11 p11) (t12 : Txt K mg "power_of_two" "power_of_two" s12 p12) (t13 : Txt K mg "to_int" "to_int" s13 p13) (t14 : Txt K mg "negate" "negate" s14 p14) (t15 : Txt K mg "plus" "plus" s15 p15) (t16 : Txt K mg "minus" "minus" s16 p16) (t17 : Txt K mg "check_place" "check_place" s17 p17) (t18 : Txt K mg "is_borrowed" "is_borrowed" s18 p18) (t19 : Txt K mg "floored" "floored" s19 p19) (t20 : Txt K mg "floor_shift" "floor_shift" s20 p20) (t21 : Txt K mg "digit" "digit" s21 p21) (t22 : Txt K mg "digit_at" "digit_at" s22 p22) (t23 : Txt K mg "length_of" "length_of" s23 p23) (t24 : Txt K mg "length" "length" s24 p24) (t25 : Txt K mg "low" "low" s25 p25) (t26 : Txt K mg "digits_from" "digits_from" s26 p26) (t27 : Txt K mg "check_modulus" "check_modulus" s27 p27) (t28 : Txt K mg "row_of_two" "row_of_two" s28 p28) (t29 : Txt K mg "remainder" "remainder" s29 p29) (t30 : Txt K mg "magnitude" "magnitude" s30 p30) (t31 : Txt K mg "lead" "lead" s31 p31) (t32 : Txt K mg "last_digits" "last_digits" s32 p32) (t33 : Txt K mg "_law_cell" "_law_cell" s33 p33) (t34 : Txt K mg "_law_numbers" "_law_numbers" s34 p34) (t35 : Txt K mg "_law_plain" "_law_plain" s35 p35) (t36 : Txt K mg "_law_low" "_law_low" s36 p36) (t37 : Txt K mg "_law_lead" "_law_lead" s37 p37) (t38 : Txt K mg "_law_refused" "_law_refused" s38 p38) (t39 : Txt K mg "_law_agrees" "_law_agrees" s39 p39) (t40 : Txt K mg "_law_lowest" "_law_lowest" s40 p40) (hcl : Cls K Cl) (nA : NoAttr K Cl "rows") (tC : TxtC pr w K mg base Cl "Powers") (tm42 : TxtM K Cl "row" "Powers.row" s42 p42) (tm43 : TxtM K Cl "power" "Powers.power" s43 p43) (tm44 : TxtM K Cl "number" "Powers.number" s44 p44) (hrow : ∀ (n : Nat) (m : Int) (x : Rf.D), 1 ≤ m → m ≤ 10000 → phi TB F n 28 [.int m] = .ok x → x = rv m) (hrd : ∀ m, noDct (rv m) = true) : ∀ n, Good pr w K mg base ca TB F "size_of" 0 n ∧ Good pr w K mg base ca TB F "height_of" 1 n ∧ Good pr w K mg base ca TB F "compare" 2 n ∧ Good pr w K mg base ca TB F "sign_of" 3 n ∧ Good pr w K mg base ca TB F "in_order" 4 n ∧ Good pr w K mg base ca TB F "gathered" 5 n ∧ GoodN pr w K mg base ca TB F "sign_at" 6 n ∧ Good pr w K mg base ca TB F "next_of" 7 n ∧ Good pr w K mg base ca TB F "from_int" 8 n ∧ Good pr w K mg base ca TB F "is_allowed" 9 n ∧ Good pr w K mg base ca TB F "allowed" 10 n ∧ Good pr w K mg base ca TB F "of_int" 11 n ∧ Good pr w K mg base ca TB F "power_of_two" 12 n ∧ Good pr w K mg base ca TB F "to_int" 13 n ∧ Good pr w K mg base ca TB F "negate" 14 n ∧ Good pr w K mg base ca TB F "plus" 15 n ∧ Good pr w K mg base ca TB F "minus" 16 n ∧ Good pr w K mg base ca TB F "check_place" 17 n ∧ Good pr w K mg base ca TB F "is_borrowed" 18 n ∧ Good pr w K mg base ca TB F "floored" 19 n ∧ Good pr w K mg base ca TB F "floor_shift" 20 n ∧ Good pr w K mg base ca TB F "digit" 21 n ∧ Good pr w K mg base ca TB F "digit_at" 22 n ∧ Good pr w K mg base ca TB F "length_of" 23 n ∧ Good pr w K mg base ca TB F "length" 24 n ∧ Good pr w K mg base ca TB F "low" 25 n ∧ Good pr w K mg base ca TB F "digits_from" 26 n ∧ Good pr w K mg base ca TB F "check_modulus" 27 n ∧ Good pr w K mg base ca TB F "row_of_two" 28 n ∧ Good pr w K mg base ca TB F "remainder" 29 n ∧ Good pr w K mg base ca TB F "magnitude" 30 n ∧ Good pr w K mg base ca TB F "lead" 31 n ∧ Good pr w K mg base ca TB F "last_digits" 32 n ∧ Good pr w K mg base ca TB F "_law_cell" 33 n ∧ Good pr w K mg base ca TB F "_law_numbers" 34 n ∧ Good pr w K mg base ca TB F "_law_plain" 35 n ∧ Good pr w K mg base ca TB F "_law_low" 36 n ∧ Good pr w K mg base ca TB F "_law_lead" 37 n ∧ Good pr w K mg base ca TB F "_law_refused" 38 n ∧ Good pr w K mg base ca TB F "_law_agrees" 39 n ∧ Good pr w K mg base ca TB F "_law_lowest" 40 n ∧ GoodM pr w K mg base Cl rv TB F "row" 42 n ∧ (∀ j, j ≤ n → GoodM pr w K mg base Cl rv TB F "power" 43 j) ∧ (∀ j, j ≤ n → GoodM pr w K mg base Cl rv TB F "number" 44 j)
  | 0 => ⟨good_zero t0, good_zero t1, good_zero t2, good_zero t3, good_zero t4, good_zero t5, goodN_zero t6, good_zero t7, good_zero t8, good_zero t9, good_zero t10, good_zero t11, good_zero t12, good_zero t13, good_zero t14, good_zero t15, good_zero t16, good_zero t17, good_zero t18, good_zero t19, good_zero t20, good_zero t21, good_zero t22, good_zero t23, good_zero t24, good_zero t25, good_zero t26, good_zero t27, good_zero t28, good_zero t29, good_zero t30, good_zero t31, good_zero t32, good_zero t33, good_zero t34, good_zero t35, good_zero t36, good_zero t37, good_zero t38, good_zero t39, good_zero t40, goodM_zero tm42, fun j hj => by (obtain rfl : j = 0 := by omega); exact goodM_zero tm43, fun j hj => by (obtain rfl : j = 0 := by omega); exact goodM_zero tm44⟩
  | n + 1 => by
    obtain ⟨hf_size_of, hf_height_of, hf_compare, hf_sign_of, hf_in_order, hf_gathered, hf_sign_at, hf_next_of, hf_from_int, hf_is_allowed, hf_allowed, hf_of_int, hf_power_of_two, hf_to_int, hf_negate, hf_plus, hf_minus, hf_check_place, hf_is_borrowed, hf_floored, hf_floor_shift, hf_digit, hf_digit_at, hf_length_of, hf_length, hf_low, hf_digits_from, hf_check_modulus, hf_row_of_two, hf_remainder, hf_magnitude, hf_lead, hf_last_digits, hf__law_cell, hf__law_numbers, hf__law_plain, hf__law_low, hf__law_lead, hf__law_refused, hf__law_agrees, hf__law_lowest, m_row, hm_power, hm_number⟩ := all_good z_abs z_int z_isinstance z_len z_list z_max z_min z_range z_sum z_tuple z_zip c_MAX_BINARY c_MAX_COUNT c_MAX_DIGITS c_MAX_HEIGHT c_MAX_LAST c_MAX_LEAD c_MAX_MODULUS c_MAX_SIZE c_TENS x_Missing x_NotAllowed x_ReckonError x_TooLarge k_Missing_NotAllowed k_Missing_ReckonError k_NotAllowed_Missing k_NotAllowed_ReckonError k_NotAllowed_TooLarge s_Missing_Missing s_Missing_NotAllowed s_NotAllowed_Missing s_NotAllowed_NotAllowed s_TooLarge_Missing s_TooLarge_NotAllowed d_TENS t0 t1 t2 t3 t4 t5 t6 t7 t8 t9 t10 t11 t12 t13 t14 t15 t16 t17 t18 t19 t20 t21 t22 t23 t24 t25 t26 t27 t28 t29 t30 t31 t32 t33 t34 t35 t36 t37 t38 t39 t40 hcl nA tC tm42 tm43 tm44 hrow hrd n
    have m_power := hm_power n (Nat.le_refl n)
    have m_number := hm_number n (Nat.le_refl n)
    have q_number : NewG pr w K mg base Cl rv TB F "Powers" "number" 45 n := newG_of tC rfl hm_number
    have q_power : NewG pr w K mg base Cl rv TB F "Powers" "power" 46 n := newG_of tC rfl hm_power
    obtain ⟨rf, rfd, rF0, rb, rm⟩ := tm42.ex
    have g_power : GoodM pr w K mg base Cl rv TB F "power" 43 (n + 1) := goodM_succ (ca := ca) tm43 sc43 rfl rfl rfl (by decide) (w43 hf_compare hf_from_int hf_to_int hcl m_number m_row z_len)
    have g_number : GoodM pr w K mg base Cl rv TB F "number" 44 (n + 1) := goodM_succ (ca := ca) tm44 sc44 rfl rfl rfl (by decide) (w44 hcl m_power)
    exact ⟨good_succ t0 sc0 rfl rfl rfl (by decide) (w0 hf_size_of z_sum), good_succ t1 sc1 rfl rfl rfl (by decide) (w1 hf_height_of z_len z_max), good_succ t2 sc2 rfl rfl rfl (by decide) (w2 hf_compare z_len z_zip), good_succ t3 sc3 rfl rfl rfl (by decide) (w3 z_len), good_succ t4 sc4 rfl rfl rfl (by decide) (w4 hf_compare z_len), good_succ t5 sc5 rfl rfl rfl (by decide) (w5 hf_in_order hf_next_of hf_sign_at z_len z_list z_tuple), goodN_succ t6 sc6 rfl rfl rfl (by decide) (w6 hf_next_of z_len), good_succ t7 sc7 rfl rfl rfl (by decide) (w7 hf_gathered z_list), good_succ t8 sc8 rfl rfl rfl (by decide) (w8 hf_from_int z_tuple), good_succ t9 sc9 rfl rfl rfl (by decide) (w9 c_MAX_HEIGHT c_MAX_SIZE hf_height_of hf_size_of), good_succ t10 sc10 rfl rfl rfl (by decide) (w10 hf_is_allowed x_TooLarge), good_succ t11 sc11 rfl rfl rfl (by decide) (w11 c_MAX_DIGITS hf_allowed hf_from_int x_NotAllowed), good_succ t12 sc12 rfl rfl rfl (by decide) (w12 z_range), good_succ t13 sc13 rfl rfl rfl (by decide) (w13 c_MAX_BINARY hf_compare hf_from_int hf_power_of_two hf_to_int x_NotAllowed z_abs), good_succ t14 sc14 rfl rfl rfl (by decide) (w14 z_tuple), good_succ t15 sc15 rfl rfl rfl (by decide) (w15 hf_gathered z_list), good_succ t16 sc16 rfl rfl rfl (by decide) (w16 hf_negate hf_plus), good_succ t17 sc17 rfl rfl rfl (by decide) (w17 hf_sign_of x_NotAllowed), good_succ t18 sc18 rfl rfl rfl (by decide) (w18 hf_compare), good_succ t19 sc19 rfl rfl rfl (by decide) (w19 hf_compare hf_from_int hf_is_borrowed hf_minus hf_plus z_tuple), good_succ t20 sc20 rfl rfl rfl (by decide) (w20 hf_allowed hf_check_place hf_floored), good_succ t21 sc21 rfl rfl rfl (by decide) (w21 hf_is_borrowed z_int z_len), good_succ t22 sc22 rfl rfl rfl (by decide) (w22 hf_check_place hf_digit), good_succ t23 sc23 rfl rfl rfl (by decide) (w23 hf_next_of z_len), good_succ t24 sc24 rfl rfl rfl (by decide) (w24 hf_allowed hf_length_of), good_succ t25 sc25 rfl rfl rfl (by decide) (w25 x_Missing z_len), good_succ t26 sc26 rfl rfl rfl (by decide) (w26 c_MAX_COUNT hf_check_place hf_digit hf_from_int hf_plus x_NotAllowed z_range), good_succ t27 sc27 rfl rfl rfl (by decide) (w27 c_MAX_MODULUS x_NotAllowed), good_succ t28 sc28 rfl rfl rfl (by decide) (w28 z_len), good_succ t29 sc29 rfl rfl rfl (by decide) (w29 hf_check_modulus q_number), good_succ t30 sc30 rfl rfl rfl (by decide) (w30 hf_negate hf_sign_of), good_succ t31 sc31 rfl rfl rfl (by decide) (w31 c_MAX_LEAD hf_compare hf_floored hf_from_int hf_length_of hf_magnitude hf_minus hf_to_int x_NotAllowed), good_succ t32 sc32 rfl rfl rfl (by decide) (w32 c_MAX_LAST c_TENS d_TENS hf_magnitude hf_remainder x_NotAllowed), good_succ t33 sc33 rfl rfl rfl (by decide) (w33 z_len), good_succ t34 sc34 rfl rfl rfl (by decide) (w34 z_int z_range), good_succ t35 sc35 rfl rfl rfl (by decide) (w35 z_int z_range), good_succ t36 sc36 rfl rfl rfl (by decide) (w36 z_abs), good_succ t37 sc37 rfl rfl rfl (by decide) (w37 z_abs), good_succ t38 sc38 rfl rfl rfl (by decide) (w38 hf_digit_at hf_digits_from hf_floor_shift hf_last_digits hf_lead hf_of_int k_NotAllowed_Missing k_NotAllowed_ReckonError k_NotAllowed_TooLarge s_Missing_NotAllowed s_NotAllowed_NotAllowed s_TooLarge_NotAllowed x_Missing x_NotAllowed x_ReckonError x_TooLarge z_int z_isinstance), good_succ t39 sc39 rfl rfl rfl (by decide) (w39 hf__law_lead hf_digit_at hf_digits_from hf_floor_shift hf_last_digits hf_lead hf_length hf_of_int z_abs z_int z_range), good_succ t40 sc40 rfl rfl rfl (by decide) (w40 hf__law_low hf_low hf_of_int k_Missing_NotAllowed k_Missing_ReckonError s_Missing_Missing s_NotAllowed_Missing s_TooLarge_Missing x_Missing x_NotAllowed x_ReckonError z_isinstance), ⟨rf, rfd, _, okRow rF0 hcl nA hf_row_of_two hrow hrd, rb, rm⟩, fun j hj => (Nat.lt_or_ge n j).elim (fun h => by (obtain rfl : j = n + 1 := by omega); exact g_power) (fun h => hm_power j h), fun j hj => (Nat.lt_or_ge n j).elim (fun h => by (obtain rfl : j = n + 1 := by omega); exact g_number) (fun h => hm_number j h)⟩
end
end My

set_option Elab.async false
set_option linter.all false
set_option maxRecDepth 100000
set_option maxHeartbeats 1000000
namespace My
open PySem PySem.Spec PyProof.Rows L2 Rf
/-! ### signed binary numbers, no two neighbours -/
abbrev Tm := Int × Nat
def val : List Tm → Int
  | [] => 0
  | t :: r => t.1 * 2 ^ t.2 + val r
def Nf : List Tm → Prop
  | [] => True
  | t :: r => (t.1 = 1 ∨ t.1 = -1) ∧ (∀ u ∈ r.head?, u.2 + 2 ≤ t.2) ∧ Nf r
def sgn (x : Int) : Int := if 0 < x then 1 else if x < 0 then -1 else 0
theorem two_pos (n : Nat) : (0 : Int) < 2 ^ n := Int.pow_pos (by decide)
theorem two_add (n k : Nat) : (2 : Int) ^ (n + k) = 2 ^ n * 2 ^ k := Int.pow_add ..
theorem two_le {n k : Nat} (h : n + 2 ≤ k) : 4 * (2 : Int) ^ n ≤ 2 ^ k := by
  obtain ⟨j, rfl⟩ : ∃ j, k = n + 2 + j := ⟨k - (n + 2), by omega⟩
  have := two_pos j
  have h2 := two_pos n
  rw [two_add, two_add, show (2 : Int) ^ 2 = 4 by decide]
  generalize (2 : Int) ^ n = x at *
  generalize (2 : Int) ^ j = y at *
  have : x * 4 * 1 ≤ x * 4 * y := Int.mul_le_mul_of_nonneg_left (by omega) (by omega)
  omega
theorem two_lt {n k : Nat} (h : n < k) : 2 * (2 : Int) ^ n ≤ 2 ^ k := by
  obtain ⟨j, rfl⟩ : ∃ j, k = n + 1 + j := ⟨k - (n + 1), by omega⟩
  have := two_pos j
  have h2 := two_pos n
  rw [two_add, two_add, show (2 : Int) ^ 1 = 2 by decide]
  generalize (2 : Int) ^ n = x at *
  generalize (2 : Int) ^ j = y at *
  have : x * 2 * 1 ≤ x * 2 * y := Int.mul_le_mul_of_nonneg_left (by omega) (by omega)
  omega
theorem bnd : ∀ {r : List Tm} {t : Tm}, Nf (t :: r) → 2 * 2 ^ t.2 < 3 * (t.1 * val (t :: r)) ∧ 3 * (t.1 * val (t :: r)) < 4 * 2 ^ t.2
  | [], t, h => by
    have p := two_pos t.2
    simp only [val]
    rcases h.1 with e | e <;> rw [e] <;> generalize (2 : Int) ^ t.2 = x at * <;> constructor <;> omega
  | u :: r, t, h => by
    have p := two_pos t.2
    have q := two_le (h.2.1 u rfl)
    have b := bnd h.2.2
    rw [show val (t :: u :: r) = t.1 * 2 ^ t.2 + val (u :: r) from rfl]
    generalize val (u :: r) = v at *
    generalize (2 : Int) ^ t.2 = x at *
    generalize (2 : Int) ^ u.2 = y at *
    rcases h.2.2.1 with e | e <;> rcases h.1 with e2 | e2 <;> rw [e] at b <;> rw [e2] <;> constructor <;> omega
theorem sgn_cons {t : Tm} {r : List Tm} (h : Nf (t :: r)) : sgn (val (t :: r)) = t.1 := by
  have b := bnd h
  have p := two_pos t.2
  generalize val (t :: r) = v at *
  generalize (2 : Int) ^ t.2 = x at *
  unfold sgn
  rcases h.1 with e | e <;> rw [e] at b ⊢
  · rw [if_pos (by omega)]
  · rw [if_neg (by omega), if_pos (by omega)]
def cmpL : List Tm → List Tm → Int
  | [], [] => 0
  | t :: _, [] => t.1
  | [], u :: _ => -u.1
  | t :: r, u :: s => if t.1 ≠ u.1 then t.1 else if u.2 < t.2 then t.1 else if t.2 < u.2 then -t.1 else cmpL r s
theorem sgn_neg (x : Int) : sgn (-x) = -sgn x := by
  unfold sgn
  by_cases h : 0 < x
  · rw [if_neg (by omega), if_pos (by omega), if_pos h]
  · by_cases h2 : x < 0
    · rw [if_pos (by omega), if_neg h, if_pos h2]; rfl
    · rw [if_neg (by omega), if_neg (by omega), if_neg h, if_neg h2]; rfl
theorem cmp_val : ∀ {a b : List Tm}, Nf a → Nf b → cmpL a b = sgn (val a - val b)
  | [], [], _, _ => rfl
  | t :: r, [], h, _ => by
    rw [show val [] = 0 from rfl, Int.sub_zero, sgn_cons h]; rfl
  | [], u :: s, _, h => by
    rw [show val [] = 0 from rfl, Int.zero_sub, sgn_neg, sgn_cons h]; rfl
  | t :: r, u :: s, h, g => by
    have b1 := bnd h
    have b2 := bnd g
    have p1 := two_pos t.2
    have p2 := two_pos u.2
    simp only [cmpL]
    by_cases e : t.1 ≠ u.1
    · rw [if_pos e]
      generalize val (t :: r) = v at *
      generalize val (u :: s) = w at *
      generalize (2 : Int) ^ t.2 = x at *
      generalize (2 : Int) ^ u.2 = y at *
      unfold sgn
      rcases h.1 with e1 | e1 <;> rcases g.1 with e2 | e2 <;> rw [e1] at b1 e ⊢ <;> rw [e2] at b2 e
      · exact absurd rfl e
      · rw [if_pos (by omega)]
      · rw [if_neg (by omega), if_pos (by omega)]
      · exact absurd rfl e
    · rw [if_neg e]
      have e : t.1 = u.1 := by simpa using e
      by_cases lt : u.2 < t.2
      · rw [if_pos lt]
        have q := two_lt lt
        generalize val (t :: r) = v at *
        generalize val (u :: s) = w at *
        generalize (2 : Int) ^ t.2 = x at *
        generalize (2 : Int) ^ u.2 = y at *
        rw [← e] at b2
        unfold sgn
        rcases h.1 with e1 | e1 <;> rw [e1] at b1 b2 ⊢
        · rw [if_pos (by omega)]
        · rw [if_neg (by omega), if_pos (by omega)]
      · rw [if_neg lt]
        by_cases lt2 : t.2 < u.2
        · rw [if_pos lt2]
          have q := two_lt lt2
          generalize val (t :: r) = v at *
          generalize val (u :: s) = w at *
          generalize (2 : Int) ^ t.2 = x at *
          generalize (2 : Int) ^ u.2 = y at *
          rw [← e] at b2
          unfold sgn
          rcases h.1 with e1 | e1 <;> rw [e1] at b1 b2 ⊢
          · rw [if_neg (by omega), if_pos (by omega)]
          · rw [if_pos (by omega)]; rfl
        · rw [if_neg lt2, cmp_val h.2.2 g.2.2]
          have e2 : t.2 = u.2 := by omega
          congr 1
          show _ = t.1 * 2 ^ t.2 + val r - (u.1 * 2 ^ u.2 + val s)
          rw [e, e2]
          generalize u.1 * 2 ^ u.2 = z
          omega
theorem cmp_eq : ∀ {a b : List Tm}, Nf a → Nf b → cmpL a b = 0 → a = b
  | [], [], _, _, _ => rfl
  | t :: r, [], h, _, z => by
    have z : t.1 = 0 := z
    rcases h.1 with e | e <;> omega
  | [], u :: s, _, h, z => by
    have z : -u.1 = 0 := z
    rcases h.1 with e | e <;> omega
  | t :: r, u :: s, h, g, z => by
    simp only [cmpL] at z
    split at z
    · rcases h.1 with e | e <;> omega
    · rename_i e
      have e : t.1 = u.1 := by simpa using e
      split at z
      · rcases h.1 with e | e <;> omega
      · split at z
        · rcases h.1 with e | e <;> omega
        · have e2 : t.2 = u.2 := by omega
          rw [cmp_eq h.2.2 g.2.2 z]
          congr 1
          exact Prod.ext e e2
theorem val_eq {a b : List Tm} (h : Nf a) (g : Nf b) (e : val a = val b) : a = b := cmp_eq h g (by rw [cmp_val h g, e, Int.sub_self]; rfl)
/-! ### numbers as data -/
abbrev T3 := Int × Nat × Rf.D
def tm (t : T3) : Tm := (t.1, t.2.1)
def tD (t : T3) : Rf.D := .tuple [.int t.1, t.2.2]
inductive Fm : Rf.D → Int → Prop
  | mk (ts : List T3) : Nf (ts.map tm) → (∀ t ∈ ts, Fm t.2.2 (t.2.1 : Nat)) → Fm (.tuple (ts.map tD)) (val (ts.map tm))
theorem Fm.inv {x : Rf.D} {v : Int} (h : Fm x v) : ∃ ts : List T3, x = .tuple (ts.map tD) ∧ v = val (ts.map tm) ∧ Nf (ts.map tm) ∧ ∀ t ∈ ts, Fm t.2.2 (t.2.1 : Nat) := by
  cases h with
  | mk ts h1 h2 => exact ⟨ts, rfl, rfl, h1, h2⟩
theorem tm_of_tD : ∀ {a b : List T3}, (∀ t ∈ a, ∀ w, Fm t.2.2 w → (t.2.1 : Int) = w) → (∀ t ∈ b, Fm t.2.2 (t.2.1 : Nat)) → a.map tD = b.map tD → a.map tm = b.map tm
  | [], [], _, _, _ => rfl
  | [], u :: s, _, _, h => by simp at h
  | t :: r, [], _, _, h => by simp at h
  | t :: r, u :: s, h1, h2, h => by
    simp only [List.map_cons, List.cons.injEq] at h ⊢
    obtain ⟨e, h⟩ := h
    refine ⟨?_, tm_of_tD (fun t ht => h1 t (List.mem_cons_of_mem _ ht)) (fun t ht => h2 t (List.mem_cons_of_mem _ ht)) h⟩
    unfold tD at e
    simp only [PyData.tuple.injEq, List.cons.injEq, PyData.int.injEq, and_true] at e
    have q := h1 t (List.mem_cons_self ..) (u.2.1 : Nat) (by rw [e.2]; exact h2 u (List.mem_cons_self ..))
    unfold tm
    rw [e.1, show t.2.1 = u.2.1 by omega]
theorem Fm.det {x : Rf.D} {v : Int} (h : Fm x v) : ∀ w, Fm x w → v = w := by
  induction h with
  | mk ts h1 h2 ih =>
    intro w h
    obtain ⟨us, e1, e2, e3, e4⟩ := h.inv
    rw [e2, tm_of_tD ih e4 (by simpa using e1)]
theorem tD_of_tm : ∀ {a b : List T3}, (∀ t ∈ a, ∀ y, Fm y (t.2.1 : Nat) → t.2.2 = y) → (∀ t ∈ b, Fm t.2.2 (t.2.1 : Nat)) → a.map tm = b.map tm → a.map tD = b.map tD
  | [], [], _, _, _ => rfl
  | [], u :: s, _, _, h => by simp at h
  | t :: r, [], _, _, h => by simp at h
  | t :: r, u :: s, h1, h2, h => by
    simp only [List.map_cons, List.cons.injEq] at h ⊢
    obtain ⟨e, h⟩ := h
    refine ⟨?_, tD_of_tm (fun t ht => h1 t (List.mem_cons_of_mem _ ht)) (fun t ht => h2 t (List.mem_cons_of_mem _ ht)) h⟩
    unfold tm at e
    simp only [Prod.mk.injEq] at e
    have q := h1 t (List.mem_cons_self ..) u.2.2 (by rw [e.2]; exact h2 u (List.mem_cons_self ..))
    unfold tD
    rw [e.1, q]
theorem Fm.uniq {x : Rf.D} {v : Int} (h : Fm x v) : ∀ y, Fm y v → x = y := by
  induction h with
  | mk ts h1 h2 ih =>
    intro y h
    obtain ⟨us, rfl, e2, e3, e4⟩ := h.inv
    rw [tD_of_tm ih e4 (val_eq h1 e3 e2)]
/-! equality of such data -/
mutual
def pl : Rf.D → Bool
  | .int _ => true
  | .tuple xs => pls xs
  | _ => false
def pls : List Rf.D → Bool
  | [] => true
  | x :: r => pl x && pls r
end
mutual
theorem pl_lay : ∀ {x : Rf.D}, pl x = true → x.canLay0 = true
  | .int _, _ => by simp only [PyData.canLay0]
  | .tuple xs, h => by simp only [PyData.canLay0]; exact pls_lay (by simpa [pl] using h)
  | .none, h => by simp [pl] at h
  | .bool _, h => by simp [pl] at h
  | .str _, h => by simp [pl] at h
  | .list _, h => by simp [pl] at h
  | .dict _, h => by simp [pl] at h
theorem pls_lay : ∀ {x : List Rf.D}, pls x = true → PyData.canLayAll0 x = true
  | [], _ => by simp only [PyData.canLayAll0]
  | x :: r, h => by
    simp only [pls, Bool.and_eq_true] at h
    simp only [PyData.canLayAll0, pl_lay h.1, pls_lay h.2, Bool.and_self]
end
mutual
theorem eqv_pl : ∀ {x y : Rf.D}, pl x = true → pl y = true → PyData.eqv x y = true → x = y
  | .int i, .int j, _, _, h => by simp [PyData.eqv] at h; rw [h]
  | .tuple xs, .tuple ys, h1, h2, h => by
    exact congrArg PyData.tuple (eqvs_pl (by simpa [pl] using h1) (by simpa [pl] using h2) (by simpa [PyData.eqv] using h))
  | .int _, .tuple _, _, _, h => by simp [PyData.eqv] at h
  | .tuple _, .int _, _, _, h => by simp [PyData.eqv] at h
  | .none, _, h, _, _ => by simp [pl] at h
  | .bool _, _, h, _, _ => by simp [pl] at h
  | .str _, _, h, _, _ => by simp [pl] at h
  | .list _, _, h, _, _ => by simp [pl] at h
  | .dict _, _, h, _, _ => by simp [pl] at h
  | .int _, .none, _, h, _ => by simp [pl] at h
  | .int _, .bool _, _, h, _ => by simp [pl] at h
  | .int _, .str _, _, h, _ => by simp [pl] at h
  | .int _, .list _, _, h, _ => by simp [pl] at h
  | .int _, .dict _, _, h, _ => by simp [pl] at h
  | .tuple _, .none, _, h, _ => by simp [pl] at h
  | .tuple _, .bool _, _, h, _ => by simp [pl] at h
  | .tuple _, .str _, _, h, _ => by simp [pl] at h
  | .tuple _, .list _, _, h, _ => by simp [pl] at h
  | .tuple _, .dict _, _, h, _ => by simp [pl] at h
theorem eqvs_pl : ∀ {x y : List Rf.D}, pls x = true → pls y = true → PyData.eqvAll x y = true → x = y
  | [], [], _, _, _ => rfl
  | x :: r, y :: s, h1, h2, h => by
    simp only [pls, Bool.and_eq_true] at h1 h2
    simp only [PyData.eqvAll, Bool.and_eq_true] at h
    rw [eqv_pl h1.1 h2.1 h.1, eqvs_pl h1.2 h2.2 h.2]
  | [], _ :: _, _, _, h => by simp [PyData.eqvAll] at h
  | _ :: _, [], _, _, h => by simp [PyData.eqvAll] at h
end
theorem eqv_no {x y : Rf.D} (h : pl x = true) (g : pl y = true) (e : x ≠ y) : PyData.eqv x y = false := by
  cases q : PyData.eqv x y with
  | false => rfl
  | true => exact absurd (eqv_pl h g q) e
theorem pls_all : ∀ {ts : List T3}, (∀ t ∈ ts, pl t.2.2 = true) → pls (ts.map tD) = true
  | [], _ => rfl
  | t :: r, h => by
    simp only [List.map_cons, pls, pls_all fun u hu => h u (List.mem_cons_of_mem _ hu), Bool.and_true]
    simp only [tD, pl, pls, Bool.and_true, Bool.true_and]
    exact h t (List.mem_cons_self ..)
theorem Fm.pl {x : Rf.D} {v : Int} (h : Fm x v) : My.pl x = true := by
  induction h with
  | mk ts h1 h2 ih =>
    simp only [My.pl]
    exact pls_all ih
theorem eqOk_pl {x y : Rf.D} (h : pl x = true) (g : pl y = true) (d : x.depth ≤ 190) : eqOk x y = true := by
  unfold eqOk; rw [pl_lay h, pl_lay g, decide_eq_true (by omega)]; rfl
theorem eqD_no {x y : Rf.D} (h : pl x = true) (g : pl y = true) (d : x.depth ≤ 190) (n : x ≠ y) : cmpK .eq x y = .ok (.bool false) := by
  have e : cmpD .eq x y = some false := by
    show (if eqOk x y then some (PyData.eqv x y) else none) = _
    rw [if_pos (eqOk_pl h g d), eqv_no h g n]
  rw [cmpK, e]; rfl
theorem eqD_self {x : Rf.D} (h : pl x = true) (d : x.depth ≤ 190) : cmpK .eq x x = .ok (.bool true) := by
  have e : cmpD .eq x x = some true := by
    show (if eqOk x x then some (PyData.eqv x x) else none) = _
    rw [if_pos (eqOk_pl h h d), PySem.SeqAt.eqv_refl _ (pl_lay h)]
  rw [cmpK, e]; rfl
theorem dep_all : ∀ {ts : List T3} {t : T3}, t ∈ ts → t.2.2.depth + 1 ≤ PyData.depthAll (ts.map tD)
  | u :: r, t, h => by
    simp only [List.map_cons, PyData.depthAll]
    rcases List.mem_cons.mp h with rfl | h
    · simp only [tD, PyData.depth, PyData.depthAll]; omega
    · have := dep_all h; omega
theorem dep_le : ∀ {ts : List T3} {n : Nat}, (∀ t ∈ ts, t.2.2.depth ≤ n) → PyData.depthAll (ts.map tD) ≤ n + 1
  | [], _, _ => by simp [PyData.depthAll]
  | u :: r, n, h => by
    have h1 := h u (List.mem_cons_self ..)
    have h2 := dep_le fun t ht => h t (List.mem_cons_of_mem _ ht)
    simp only [List.map_cons, PyData.depthAll, tD, PyData.depth]
    omega
end My


set_option Elab.async false
set_option linter.all false
set_option maxRecDepth 100000
set_option maxHeartbeats 1000000
namespace My
open PySem PySem.Spec PyProof.Rows L2 Rf
section
variable {Φ : FT} {F : Nat}
/-! ### compare -/
abbrev tgC : Tgt := .tp [(.tp [(.nm 2), (.nm 3)]), (.tp [(.nm 4), (.nm 5)])]
theorem mul_sgn {z s : Int} : binK .mul (.int (sgn z)) (.int s) = .ok (.int (sgn z * s)) := binK_mul (.inl (by unfold sgn; split; decide; split <;> decide))
def CEnd (a b : List T3) : Prop := (b.length < a.length ∧ ∃ t, a[b.length]? = some t ∧ cmpL (a.map tm) (b.map tm) = t.1) ∨ (a.length < b.length ∧ ∃ u, b[a.length]? = some u ∧ cmpL (a.map tm) (b.map tm) = -u.1) ∨ a.map tD = b.map tD
theorem cmp_loop {x y : Slot} : ∀ {a b : List T3}, Nf (a.map tm) → Nf (b.map tm) → (∀ t ∈ a, Fm t.2.2 (t.2.1 : Nat)) → (∀ t ∈ b, Fm t.2.2 (t.2.1 : Nat)) → (∀ t ∈ a, ∀ u ∈ b, Φ 2 [t.2.2, u.2.2] = .ok (.int (sgn ((t.2.1 : Int) - (u.2.1 : Int))))) → ∀ s2 s3 s4 s5 s6 : Slot,
    forL (Rf.execs Φ F b2_1) tgC (zipD (a.map tD) (b.map tD)) [x, y, s2, s3, s4, s5, s6] = .ret (.int (cmpL (a.map tm) (b.map tm))) ∨
    (∃ r2 r3 r4 r5 r6 : Slot, forL (Rf.execs Φ F b2_1) tgC (zipD (a.map tD) (b.map tD)) [x, y, s2, s3, s4, s5, s6] = .nx [x, y, r2, r3, r4, r5, r6] ∧ CEnd a b)
  | [], [], _, _, _, _, _, s2, s3, s4, s5, s6 => .inr ⟨_, _, _, _, _, forL_nil, .inr (.inr rfl)⟩
  | t :: r, [], _, _, _, _, _, s2, s3, s4, s5, s6 => .inr ⟨_, _, _, _, _, forL_nil, .inl ⟨by simp, t, rfl, rfl⟩⟩
  | [], u :: s, _, _, _, _, _, s2, s3, s4, s5, s6 => .inr ⟨_, _, _, _, _, forL_nil, .inr (.inl ⟨by simp, u, rfl, rfl⟩)⟩
  | t :: r, u :: s, h, g, f1, f2, ih, s2, s3, s4, s5, s6 => by
    have hb : bindT tgC (.tuple [tD t, tD u]) [x, y, s2, s3, s4, s5, s6] = some [x, y, .d (.int t.1), .d t.2.2, .d (.int u.1), .d u.2.2, s6] := rfl
    have e0 : zipD ((t :: r).map tD) ((u :: s).map tD) = .tuple [tD t, tD u] :: zipD (r.map tD) (s.map tD) := rfl
    rw [e0, forL_cons hb]
    have hc := ih t (List.mem_cons_self ..) u (List.mem_cons_self ..)
    have e1 : cmpL ((t :: r).map tm) ((u :: s).map tm) = if t.1 ≠ u.1 then t.1 else if u.2.1 < t.2.1 then t.1 else if t.2.1 < u.2.1 then -t.1 else cmpL (r.map tm) (s.map tm) := rfl
    by_cases e : t.1 = u.1
    · rw [if_neg (by simpa using e)] at e1
      by_cases lt : u.2.1 < t.2.1
      · rw [if_pos lt] at e1
        have hz : sgn ((t.2.1 : Int) - (u.2.1 : Int)) = 1 := by unfold sgn; rw [if_pos (by omega)]
        rw [hz] at hc
        refine .inl ?_
        rw [e1]
        simp [b2_1, e, hc]
      · rw [if_neg lt] at e1
        by_cases lt2 : t.2.1 < u.2.1
        · rw [if_pos lt2] at e1
          have hz : sgn ((t.2.1 : Int) - (u.2.1 : Int)) = -1 := by unfold sgn; rw [if_neg (by omega), if_pos (by omega)]
          rw [hz] at hc
          refine .inl ?_
          rw [e1]
          simp [b2_1, e, hc]
        · rw [if_neg lt2] at e1
          have hz : sgn ((t.2.1 : Int) - (u.2.1 : Int)) = 0 := by unfold sgn; rw [if_neg (by omega), if_neg (by omega)]
          rw [hz] at hc
          have hbody : Rf.execs Φ F b2_1 [x, y, .d (.int t.1), .d t.2.2, .d (.int u.1), .d u.2.2, s6] = .nx [x, y, .d (.int t.1), .d t.2.2, .d (.int u.1), .d u.2.2, .d (.int 0)] := by
            simp [b2_1, e, hc]
          rw [hbody, Out.turn_nx]
          have e2 : t.2.1 = u.2.1 := by omega
          have e3 : t.2.2 = u.2.2 := (f1 t (List.mem_cons_self ..)).uniq _ (by rw [e2]; exact f2 u (List.mem_cons_self ..))
          have e4 : tD t = tD u := by unfold tD; rw [e, e3]
          rcases cmp_loop (x := x) (y := y) h.2.2 g.2.2 (fun t ht => f1 t (List.mem_cons_of_mem _ ht)) (fun t ht => f2 t (List.mem_cons_of_mem _ ht)) (fun t ht u hu => ih t (List.mem_cons_of_mem _ ht) u (List.mem_cons_of_mem _ hu)) (.d (.int t.1)) (.d t.2.2) (.d (.int u.1)) (.d u.2.2) (.d (.int 0)) with q | ⟨r2, r3, r4, r5, r6, q, c⟩
          · exact .inl (by rw [q, e1])
          · refine .inr ⟨r2, r3, r4, r5, r6, q, ?_⟩
            rcases c with ⟨c1, w, c2, c3⟩ | ⟨c1, w, c2, c3⟩ | c
            · exact .inl ⟨by simpa using c1, w, by simpa using c2, by rw [e1]; exact c3⟩
            · exact .inr (.inl ⟨by simpa using c1, w, by simpa using c2, by rw [e1]; exact c3⟩)
            · exact .inr (.inr (by simp only [List.map_cons, e4, c]))
    · rw [if_pos e] at e1
      refine .inl ?_
      rw [e1]
      simp [b2_1, e]
theorem idx_tD {a : List T3} {n : Nat} {t : T3} (h : a[n]? = some t) : idxK (.tuple (a.map tD)) (.int (n : Int)) = .ok (tD t) := by
  have e : idxD (.tuple (a.map tD)) (.int (n : Int)) = some (tD t) := by
    show L2.atI _ _ = _
    refine atI_at (by omega) ?_
    rw [List.getElem?_map]
    simp [h]
  rw [idxK, e]; rfl
theorem idx_sg {t : T3} : idxK (tD t) (.int 0) = .ok (.int t.1) := rfl
theorem compare_run {x y : Rf.D} {v w : Int} (hx : Fm x v) (hy : Fm y w) (hd : x.depth ≤ 190) (ih : ∀ d e n m, Fm d n → Fm e m → d.depth + 2 ≤ x.depth → Φ 2 [d, e] = .ok (.int (sgn (n - m)))) :
    Fdef.run ⟨2, 7, b2⟩ Φ F [x, y] = .ok (.int (sgn (v - w))) := by
  by_cases e : x = y
  · subst e
    rw [hx.det _ hy, Int.sub_self]
    have c := eqD_self hx.pl hd
    refine run_ret rfl ?_
    simp [b2, c, sgn]
  · have c := eqD_no hx.pl hy.pl hd e
    obtain ⟨a, rfl, rfl, n1, f1⟩ := hx.inv
    obtain ⟨b, rfl, rfl, n2, f2⟩ := hy.inv
    rw [← cmp_val n1 n2]
    have hl := cmp_loop (Φ := Φ) (F := F) (x := .d (.tuple (a.map tD))) (y := .d (.tuple (b.map tD))) n1 n2 f1 f2 (fun t ht u hu => ih _ _ _ _ (f1 t ht) (f2 u hu) (by
      have := dep_all ht
      simp only [PyData.depth]
      omega)) .un .un .un .un .un
    rcases hl with q | ⟨r2, r3, r4, r5, r6, q, c1⟩
    · refine run_ret rfl ?_
      simp [b2, c, q]
    · rcases c1 with ⟨c1, t, c2, c3⟩ | ⟨c1, t, c2, c3⟩ | c1
      · rw [c3]
        have i1 := idx_tD c2
        refine run_ret rfl ?_
        have l1 : (b.length : Int) < (a.length : Int) := by omega
        simp [b2, c, q, l1, c1, i1, idx_sg]
      · rw [c3]
        have i1 := idx_tD c2
        refine run_ret rfl ?_
        have l1 : ¬ (b.length : Int) < (a.length : Int) := by omega
        simp [b2, c, q, l1, show ¬ b.length < a.length by omega, i1, idx_sg]
      · exact absurd (congrArg PyData.tuple c1) e
theorem compare_ok : ∀ (n : Nat) {x y : Rf.D} {v w : Int}, Fm x v → Fm y w → x.depth ≤ 190 → x.depth ≤ 2 * n → phi TB F n 2 [x, y] = .ok (.int (sgn (v - w)))
  | 0, x, y, v, w, hx, _, _, h => by
    obtain ⟨a, rfl, _⟩ := hx.inv
    simp [PyData.depth] at h
  | n + 1, x, y, v, w, hx, hy, hd, h => (phi_succ rfl).trans (compare_run hx hy hd fun d e p q hp hq hh => compare_ok n hp hq (by omega) (by omega))
theorem sign_run {x : Rf.D} {v : Int} (hx : Fm x v) : Fdef.run ⟨1, 1, b3⟩ Φ F [x] = .ok (.int (sgn v)) := by
  obtain ⟨a, rfl, rfl, n1, f1⟩ := hx.inv
  cases a with
  | nil =>
    refine run_ret rfl ?_
    simp [b3]
    rfl
  | cons t r =>
    have i1 := idx_tD (a := t :: r) (n := 0) rfl
    have i1 : idxK (.tuple (tD t :: r.map tD)) (.int 0) = .ok (tD t) := i1
    have e : sgn (val ((t :: r).map tm)) = t.1 := sgn_cons n1
    rw [e]
    refine run_ret rfl ?_
    have l1 : ¬ ((r.length : Int) + 1 = 0) := by omega
    simp [b3, l1, i1, idx_sg]
end
end My


set_option Elab.async false
set_option linter.all false
set_option maxRecDepth 100000
set_option maxHeartbeats 1000000
namespace My
open PySem PySem.Spec PyProof.Rows L2 Rf
/-! ### the law of gathered -/
abbrev Ky := Nat × Rf.D
abbrev CL := List (Nat × Rf.D × Int)
def cget (C : CL) (k : Nat) : Int := ((C.find? fun p => p.1 == k).map (·.2.2)).getD 0
def wsum (C : CL) : List Ky → Int
  | [] => 0
  | k :: r => cget C k.1 * 2 ^ k.1 + wsum C r
def wmu (C : CL) : List Ky → Nat
  | [] => 0
  | k :: r => 2 * (cget C k.1).natAbs + 4 + wmu C r
def pend (C : CL) (c : Int) (e : Nat) (ws : List Ky) (p : Nat) : Int := (if c ≠ 0 ∧ e = p then c else 0) + (match ws with
  | [] => 0
  | k :: _ => if k.1 = p then cget C p else 0)
structure Gs (C : CL) (V : Int) (c : Int) (e : Nat) (ws : List Ky) (acc : List T3) : Prop where
  asc : ws.Pairwise fun a b => a.1 < b.1
  ge : c ≠ 0 → ∀ k ∈ ws, e ≤ k.1
  tot : val (acc.map tm) + c * 2 ^ e + wsum C ws = V
  nf : Nf (acc.reverse.map tm)
  fm : ∀ t ∈ acc, Fm t.2.2 (t.2.1 : Nat)
  s1 : ∀ t, acc.getLast? = some t → c ≠ 0 → t.2.1 + 1 ≤ e
  s2 : ∀ t, acc.getLast? = some t → ∀ k ∈ ws, t.2.1 + 1 ≤ k.1
  ev : ∀ t, acc.getLast? = some t → pend C c e ws (t.2.1 + 1) % 2 = 0
/-- behind the pop -/
structure Gp (C : CL) (V : Int) (c : Int) (e : Nat) (ws : List Ky) (acc : List T3) : Prop where
  asc : ws.Pairwise fun a b => a.1 < b.1
  gt : ∀ k ∈ ws, e < k.1
  tot : val (acc.map tm) + c * 2 ^ e + wsum C ws = V
  nf : Nf (acc.reverse.map tm)
  fm : ∀ t ∈ acc, Fm t.2.2 (t.2.1 : Nat)
  s1 : ∀ t, acc.getLast? = some t → t.2.1 + 1 ≤ e
  ev : ∀ t, acc.getLast? = some t → e = t.2.1 + 1 → c % 2 = 0
section
variable {C : CL} {V c : Int} {e : Nat} {ws r : List Ky} {acc : List T3} {k : Ky} {x : Rf.D}
theorem Gs.pop1 (h : Gs C V c e (k :: r) acc) (hc : c = 0 ∨ k.1 = e) : Gp C V (c + cget C k.1) k.1 r acc where
  asc := (List.pairwise_cons.mp h.asc).2
  gt := (List.pairwise_cons.mp h.asc).1
  tot := by
    have t := h.tot
    simp only [wsum] at t
    rw [Int.add_mul]
    rcases hc with rfl | rfl
    · rw [Int.zero_mul] at t ⊢
      omega
    · omega
  nf := h.nf
  fm := h.fm
  s1 := fun t ht => h.s2 t ht k (List.mem_cons_self ..)
  ev := fun t ht he => by
    have q := h.ev t ht
    unfold pend at q
    simp only [he, if_true] at q
    rcases hc with rfl | rfl
    · simpa [he] using q
    · rw [he] at q ⊢
      by_cases z : c = 0
      · subst z; simpa using q
      · simpa [z] using q
theorem Gs.pop0 (h : Gs C V c e ws acc) (hc : c ≠ 0) (hk : ∀ k, ws.head? = some k → k.1 ≠ e) : Gp C V c e ws acc where
  asc := h.asc
  gt := fun k hm => by
    have g := h.ge hc
    cases ws with
    | nil => cases hm
    | cons k0 r =>
      have h0 := hk k0 rfl
      have h1 := g k0 (List.mem_cons_self ..)
      rcases List.mem_cons.mp hm with rfl | hm
      · omega
      · have := (List.pairwise_cons.mp h.asc).1 k hm; omega
  tot := h.tot
  nf := h.nf
  fm := h.fm
  s1 := fun t ht => h.s1 t ht hc
  ev := fun t ht he => by
    have q := h.ev t ht
    unfold pend at q
    rw [if_pos ⟨hc, he⟩] at q
    cases ws with
    | nil => simpa using q
    | cons k0 r =>
      have h0 := hk k0 rfl
      simp only [if_neg (show ¬ k0.1 = t.2.1 + 1 by omega)] at q
      simpa using q
theorem val_snoc {l : List Tm} {t : Tm} : val (l ++ [t]) = val l + t.1 * 2 ^ t.2 := by
  induction l with
  | nil => simp [val]
  | cons u l ih => simp only [List.cons_append, val, ih]; omega
/-- what stands next -/
def nxt (C : CL) (e : Nat) : List Ky → Int
  | [] => 0
  | k :: _ => if k.1 = e + 1 then cget C (e + 1) else 0
def sgnAt (c n : Int) : Int := if (c + 2 * n) % 4 = 1 then 1 else -1
theorem sgnAt_or {c n : Int} : sgnAt c n = 1 ∨ sgnAt c n = -1 := by unfold sgnAt; split; exact .inl rfl; exact .inr rfl
theorem sgnAt_mod {c n : Int} (h : c % 2 = 1) : (c - sgnAt c n) % 2 = 0 ∧ ((c - sgnAt c n) / 2 + n) % 2 = 0 := by
  unfold sgnAt
  split <;> omega
theorem pend_nxt {d : Int} {e : Nat} : pend C d (if d = 0 then e else e + 1) ws (e + 1) = d + nxt C e ws := by
  unfold pend nxt
  by_cases z : d = 0
  · subst z; simp
  · simp [z]
theorem half_tot {c2 : Int} (h : c2 % 2 = 0) {e : Nat} : c2 / 2 * 2 ^ (if c2 / 2 = 0 then e else e + 1) = c2 * 2 ^ e := by
  by_cases z : c2 / 2 = 0
  · rw [z, show c2 = 0 by omega]; simp
  · rw [if_neg z, Int.pow_succ]
    rw [show c2 / 2 * (2 ^ e * 2) = (c2 / 2 * 2) * 2 ^ e by rw [Int.mul_comm (2 ^ e) 2, ← Int.mul_assoc]]
    congr 1
    omega
/-- the turn of an odd count -/
theorem Gp.odd (h : Gp C V c e ws acc) (hc : c % 2 = 1) (hx : Fm x (e : Nat)) {s : Int} (hs : s = sgnAt c (nxt C e ws)) : Gs C V ((c - s) / 2) (if (c - s) / 2 = 0 then e else e + 1) ws (acc ++ [(s, e, x)]) := by
  have so : s = 1 ∨ s = -1 := hs ▸ sgnAt_or
  obtain ⟨m1, m2⟩ := sgnAt_mod (n := nxt C e ws) hc
  rw [← hs] at m1 m2
  have gl : ∀ t, (acc ++ [(s, e, x)]).getLast? = some t → t = (s, e, x) := fun t ht => by
    rw [List.getLast?_append] at ht
    simpa using ht.symm
  refine ⟨h.asc, fun _ k hk => ?_, ?_, ?_, fun t ht => ?_, fun t ht z => ?_, fun t ht k hk => ?_, fun t ht => ?_⟩
  · have := h.gt k hk
    split <;> omega
  · have t := h.tot
    rw [List.map_append, List.map_cons, List.map_nil, val_snoc, half_tot m1, Int.sub_mul]
    show val (acc.map tm) + s * 2 ^ e + (c * 2 ^ e - s * 2 ^ e) + _ = V
    omega
  · rw [List.reverse_append, List.reverse_cons, List.reverse_nil, List.nil_append, List.cons_append, List.map_cons, List.nil_append]
    refine ⟨so, fun u hu => ?_, h.nf⟩
    rw [List.head?_map, List.head?_reverse] at hu
    cases q : acc.getLast? with
    | none => rw [q] at hu; simp at hu
    | some t =>
      rw [q] at hu
      have hu : tm t = u := by simpa using hu
      subst hu
      have a := h.s1 t q
      have b := h.ev t q
      show t.2.1 + 2 ≤ e
      by_cases z : e = t.2.1 + 1
      · have := b z; omega
      · omega
  · rcases List.mem_append.mp ht with ht | ht
    · exact h.fm t ht
    · rw [List.mem_singleton.mp ht]; exact hx
  · rw [gl t ht]
    show e + 1 ≤ _
    rw [if_neg z]
    exact Nat.le_refl _
  · rw [gl t ht]
    have := h.gt k hk
    show e + 1 ≤ _
    omega
  · rw [gl t ht]
    show pend C _ _ ws (e + 1) % 2 = 0
    rw [pend_nxt]
    exact m2
/-- the turn of an even count -/
theorem Gp.even (h : Gp C V c e ws acc) (hc : c % 2 = 0) : Gs C V (c / 2) (if c / 2 = 0 then e else e + 1) ws acc := by
  refine ⟨h.asc, fun _ k hk => ?_, ?_, h.nf, h.fm, fun t ht z => ?_, fun t ht k hk => ?_, fun t ht => ?_⟩
  · have := h.gt k hk
    split <;> omega
  · rw [half_tot hc]; exact h.tot
  · have := h.s1 t ht
    rw [if_neg z]; omega
  · have := h.gt k hk
    have := h.s1 t ht
    omega
  · have a := h.s1 t ht
    unfold pend
    have e1 : ¬ (c / 2 ≠ 0 ∧ (if c / 2 = 0 then e else e + 1) = t.2.1 + 1) := fun ⟨z1, z2⟩ => by
      rw [if_neg z1] at z2
      omega
    rw [if_neg e1]
    cases ws with
    | nil => rfl
    | cons k r =>
      have := h.gt k (List.mem_cons_self ..)
      simp only [if_neg (show ¬ k.1 = t.2.1 + 1 by omega)]
      rfl
/-! measure -/
def mu (C : CL) (c : Int) (e : Nat) (ws : List Ky) : Nat := wmu C ws + 2 * c.natAbs + if c ≠ 0 ∧ (∀ k, ws.head? = some k → k.1 ≠ e) then 1 else 0
theorem mu_le {c : Int} {e : Nat} : mu C c e ws ≤ wmu C ws + 2 * c.natAbs + 1 := by
  unfold mu; split <;> omega
theorem half_abs {c s : Int} (hs : s = 1 ∨ s = -1 ∨ s = 0) (h2 : (c - s) % 2 = 0) : 2 * ((c - s) / 2).natAbs ≤ c.natAbs + 1 := by
  rcases hs with rfl | rfl | rfl <;> omega
theorem mu_pop {c' : Int} {e' : Nat} (h : 2 * c'.natAbs ≤ (c + cget C k.1).natAbs + 1) : mu C c' e' r < mu C c e (k :: r) := by
  have a := mu_le (C := C) (c := c') (e := e') (ws := r)
  have b : wmu C (k :: r) + 2 * c.natAbs ≤ mu C c e (k :: r) := by unfold mu; omega
  simp only [wmu] at b
  omega
theorem mu_odd (hc : c % 2 = 1) (hk : ∀ k, ws.head? = some k → k.1 ≠ e) {s : Int} (hs : s = sgnAt c (nxt C e ws)) : mu C ((c - s) / 2) (if (c - s) / 2 = 0 then e else e + 1) ws < mu C c e ws := by
  have so : s = 1 ∨ s = -1 := hs ▸ sgnAt_or
  have h1 := half_abs (c := c) (s := s) (by rcases so with h | h; exact .inl h; exact .inr (.inl h)) (by omega)
  have a : mu C c e ws = wmu C ws + 2 * c.natAbs + 1 := by unfold mu; rw [if_pos ⟨by omega, hk⟩]
  rw [a]
  have b := mu_le (C := C) (c := (c - s) / 2) (e := if (c - s) / 2 = 0 then e else e + 1) (ws := ws)
  by_cases h2 : c.natAbs ≥ 2
  · omega
  · by_cases z : (c - s) / 2 = 0
    · rw [z]
      have : mu C 0 (if (0 : Int) = 0 then e else e + 1) ws = wmu C ws := by unfold mu; simp
      rw [this]
      omega
    · -- the next one is popped
      have hn : nxt C e ws ≠ 0 := fun hn => by
        rw [hn] at hs
        unfold sgnAt at hs
        split at hs <;> omega
      have : mu C ((c - s) / 2) (if (c - s) / 2 = 0 then e else e + 1) ws = wmu C ws + 2 * ((c - s) / 2).natAbs := by
        unfold mu
        rw [if_neg z]
        have : ¬ ((c - s) / 2 ≠ 0 ∧ ∀ k, ws.head? = some k → k.1 ≠ e + 1) := fun ⟨_, q⟩ => by
          cases ws with
          | nil => exact hn rfl
          | cons k r =>
            have := q k rfl
            exact hn (if_neg this)
        rw [if_neg this]
        omega
      omega
theorem mu_even (hc : c % 2 = 0) (h0 : c ≠ 0) (hk : ∀ k, ws.head? = some k → k.1 ≠ e) {e' : Nat} : mu C (c / 2) e' ws < mu C c e ws := by
  have a : mu C c e ws = wmu C ws + 2 * c.natAbs + 1 := by unfold mu; rw [if_pos ⟨h0, hk⟩]
  have b := mu_le (C := C) (c := c / 2) (e := e') (ws := ws)
  omega
/-! the top -/
theorem val_rev {l : List Tm} : val l.reverse = val l := by
  induction l with
  | nil => rfl
  | cons t l ih => rw [List.reverse_cons, val_snoc, ih]; simp only [val]; omega
theorem mul_big {c P : Int} (hP : 0 < P) : (1 ≤ c → P ≤ c * P) ∧ (2 ≤ c → 2 * P ≤ c * P) ∧ (c ≤ -1 → c * P ≤ -P) ∧ (c ≤ -2 → c * P ≤ -(2 * P)) := by
  refine ⟨fun h => ?_, fun h => ?_, fun h => ?_, fun h => ?_⟩
  · have := Int.mul_le_mul_of_nonneg_right h (show 0 ≤ P by omega); omega
  · have := Int.mul_le_mul_of_nonneg_right h (show 0 ≤ P by omega); omega
  · have := Int.mul_le_mul_of_nonneg_right h (show 0 ≤ P by omega); omega
  · have := Int.mul_le_mul_of_nonneg_right h (show 0 ≤ P by omega); omega
theorem Gs.top (h : Gs C V c e [] acc) (hc : c ≠ 0) : 2 * (2 : Int) ^ e < 3 * V ∨ 3 * V < -(2 * 2 ^ e) := by
  have t := h.tot
  have P := two_pos e
  have M := mul_big (c := c) P
  simp only [wsum, Int.add_zero] at t
  cases q : acc.getLast? with
  | none =>
    have : acc = [] := by simpa using q
    subst this
    simp only [List.map_nil, val, Int.zero_add] at t
    generalize (2 : Int) ^ e = p at *
    generalize c * p = z at *
    omega
  | some u =>
    have n := h.nf
    obtain ⟨l0, e0⟩ := List.getLast?_eq_some_iff.mp q
    have e1 : acc.reverse = u :: l0.reverse := by rw [e0]; simp
    rw [e1, List.map_cons] at n
    have b := bnd n
    rw [← List.map_cons, ← e1, List.map_reverse, val_rev] at b
    have s := h.s1 u q hc
    have ev := h.ev u q
    have su : u.1 = 1 ∨ u.1 = -1 := n.1
    have b : 2 * 2 ^ u.2.1 < 3 * (u.1 * val (acc.map tm)) ∧ 3 * (u.1 * val (acc.map tm)) < 4 * 2 ^ u.2.1 := b
    by_cases z : e = u.2.1 + 1
    · have ev : c % 2 = 0 := by
        unfold pend at ev
        rw [if_pos ⟨hc, z⟩] at ev
        simpa using ev
      subst z
      rw [Int.pow_succ] at *
      generalize val (acc.map tm) = v at *
      generalize (2 : Int) ^ u.2.1 = y at *
      generalize c * (y * 2) = w at *
      rcases su with su | su <;> rw [su] at b <;> omega
    · have l := two_le (show u.2.1 + 2 ≤ e by omega)
      generalize val (acc.map tm) = v at *
      generalize (2 : Int) ^ u.2.1 = y at *
      generalize (2 : Int) ^ e = p at *
      generalize c * p = w at *
      rcases su with su | su <;> rw [su] at b <;> omega
end
end My


set_option Elab.async false
set_option linter.all false
set_option maxRecDepth 100000
set_option maxHeartbeats 1000000
namespace My
open PySem PySem.Spec PyProof.Rows L2 Rf
section
variable {Φ : FT} {F n : Nat}
/-! ### depth -/
theorem two_mono {i j : Nat} (h : i ≤ j) : (2 : Int) ^ i ≤ 2 ^ j := by
  obtain ⟨k, rfl⟩ : ∃ k, j = i + k := ⟨j - i, by omega⟩
  rw [two_add]
  have a := two_pos i
  have b := two_pos k
  have := Int.mul_le_mul_of_nonneg_left (show 1 ≤ (2 : Int) ^ k by omega) (show (0 : Int) ≤ 2 ^ i by omega)
  omega
theorem head_le : ∀ {r : List Tm} {t : Tm}, Nf (t :: r) → ∀ u ∈ r, u.2 ≤ t.2
  | [], _, _, u, hu => by simp at hu
  | w :: r, t, h, u, hu => by
    have a := h.2.1 w rfl
    rcases List.mem_cons.mp hu with rfl | hu
    · omega
    · have := head_le h.2.2 u hu; omega
/-- the exponents of a value below 3/2 * 2 ^ k -/
theorem exp_le {l : List Tm} (h : Nf l) {k : Nat} (hv : val l ≤ 2 ^ k ∧ -(2 ^ k) ≤ val l) : ∀ t ∈ l, t.2 ≤ k := by
  cases l with
  | nil => intro t ht; simp at ht
  | cons u r =>
    have b := bnd h
    have hu : u.2 ≤ k := by
      refine Nat.le_of_not_lt fun lt => ?_
      have := two_lt lt
      generalize val (u :: r) = v at *
      generalize (2 : Int) ^ u.2 = x at *
      generalize (2 : Int) ^ k = y at *
      rcases h.1 with e | e <;> rw [e] at b <;> omega
    intro t ht
    rcases List.mem_cons.mp ht with rfl | ht
    · exact hu
    · have := head_le h t ht; omega
def dl : Nat → Nat
  | 0 => 0
  | 1 => 0
  | 2 => 1
  | 3 => 2
  | 4 => 4
  | 5 => 16
  | _ => 10000
theorem dl_step : ∀ {n : Nat}, n ≤ 5 → ∀ {e : Nat}, e ≤ dl (n + 1) → (n = 0 → e = 0) ∧ (e : Int) ≤ 2 ^ dl n := fun {n} hn {e} he => by
  match n, hn with
  | 0, _ => exact ⟨fun _ => Nat.le_zero.mp he, by have : e ≤ 0 := he; show (e : Int) ≤ 1; omega⟩
  | 1, _ => exact ⟨nofun, by have : e ≤ 1 := he; show (e : Int) ≤ 1; omega⟩
  | 2, _ => exact ⟨nofun, by have : e ≤ 2 := he; show (e : Int) ≤ 2; omega⟩
  | 3, _ => exact ⟨nofun, by have : e ≤ 4 := he; show (e : Int) ≤ 4; omega⟩
  | 4, _ => exact ⟨nofun, by have : e ≤ 16 := he; show (e : Int) ≤ 16; omega⟩
  | 5, _ => exact ⟨nofun, by have : e ≤ 10000 := he; show (e : Int) ≤ 65536; omega⟩
theorem dep_fm : ∀ {n : Nat}, n ≤ 6 → ∀ {x : Rf.D} {v : Int}, Fm x v → (n = 0 → v = 0) → v ≤ 2 ^ dl n → -(2 ^ dl n) ≤ v → x.depth ≤ 2 * n + 1
  | 0, _, x, v, hx, hz, _, _ => by
    have e := hz rfl
    subst e
    have : Fm (.tuple []) 0 := Fm.mk [] trivial fun t ht => by simp at ht
    rw [hx.uniq _ this]
    decide
  | n + 1, hn, x, v, hx, _, h1, h2 => by
    obtain ⟨ts, rfl, rfl, nf, fm⟩ := hx.inv
    have ex := exp_le nf ⟨h1, h2⟩
    have : PyData.depthAll (ts.map tD) ≤ 2 * n + 1 + 1 := dep_le fun t ht => by
      obtain ⟨a, b⟩ := dl_step (n := n) (by omega) (ex (tm t) (List.mem_map.mpr ⟨t, ht, rfl⟩))
      refine dep_fm (n := n) (by omega) (fm t ht) (fun z => by rw [show t.2.1 = 0 from a z]; rfl) b ?_
      have := two_pos (dl n)
      omega
    simp only [PyData.depth]
    omega
theorem dep13 {x : Rf.D} {v : Int} (hx : Fm x v) (h1 : v ≤ 2 ^ 10000) (h2 : -(2 ^ 10000) ≤ v) : x.depth ≤ 13 := dep_fm (n := 6) (by decide) hx nofun h1 h2
theorem depN {x : Rf.D} {e : Nat} (hx : Fm x (e : Nat)) (h : e ≤ 100000) : x.depth ≤ 13 := dep13 hx (by
  have := two_mono (i := 17) (j := 10000) (by decide)
  omega) (by have := two_pos 10000; omega)
/-! ### keys -/
mutual
theorem pl_nk : ∀ {x : Rf.D}, pl x = true → nkeyI x = true
  | .int _, _ => rfl
  | .tuple xs, h => by
    simp only [nkeyI]
    exact pls_nk (by simpa [pl] using h)
  | .none, h => by simp [pl] at h
  | .bool _, h => by simp [pl] at h
  | .str _, h => by simp [pl] at h
  | .list _, h => by simp [pl] at h
  | .dict _, h => by simp [pl] at h
theorem pls_nk : ∀ {x : List Rf.D}, pls x = true → nkeyIs x = true
  | [], _ => rfl
  | x :: r, h => by
    simp only [pls, Bool.and_eq_true] at h
    simp only [nkeyIs, pl_nk h.1, pls_nk h.2]
    rfl
end
theorem fm_nkey {x : Rf.D} {v : Int} (hx : Fm x v) (hd : x.depth ≤ 180) : nkey x = true := by
  obtain ⟨ts, rfl, _⟩ := hx.inv
  have := pl_nk hx.pl
  simp only [nkeyI] at this
  simp only [nkey, this, decide_eq_true hd]
  rfl
/-- a set of exponents whose forms have different hashes -/
def HInj (S : Nat → Prop) : Prop := ∀ a b x y, S a → S b → Fm x (a : Nat) → Fm y (b : Nat) → hashN x = hashN y → a = b
def repN (C : CL) : List (Rf.D × Rf.D) := C.map fun p => (p.2.1, .int p.2.2)
structure COk (S : Nat → Prop) (C : CL) : Prop where
  fm : ∀ p ∈ C, Fm p.2.1 (p.1 : Nat)
  s : ∀ p ∈ C, S p.1
  nd : C.Pairwise fun a b => a.1 ≠ b.1
theorem withH_rep {S : Nat → Prop} (hS : HInj S) {y : Rf.D} {k : Nat} (hy : Fm y (k : Nat)) (sk : S k) : ∀ {C : CL}, COk S C → withH (repN C) y = repN (C.filter fun p => p.1 == k)
  | [], _ => rfl
  | p :: C, h => by
    have ih := withH_rep hS hy sk (C := C) ⟨fun q hq => h.fm q (List.mem_cons_of_mem _ hq), fun q hq => h.s q (List.mem_cons_of_mem _ hq), (List.pairwise_cons.mp h.nd).2⟩
    unfold withH repN at ih ⊢
    rw [List.map_cons, List.filter_cons, List.filter_cons, ih]
    have f := h.fm p (List.mem_cons_self ..)
    by_cases e : p.1 = k
    · rw [e] at f
      have fe := f.uniq _ hy
      rw [if_pos (by rw [fe]; exact beq_self_eq_true _), if_pos (by simpa using e), List.map_cons]
    · have ne : ¬ hashN p.2.1 = hashN y := fun z => e (hS _ _ _ _ (h.s p (List.mem_cons_self ..)) sk f hy z)
      rw [if_neg (by simpa using ne), if_neg (by simpa using e)]
theorem filt_one : ∀ {C : CL} {k : Nat}, (C.Pairwise fun a b => a.1 ≠ b.1) → (C.filter (fun p => p.1 == k) = [] ∧ C.find? (fun p => p.1 == k) = none) ∨ ∃ p, C.filter (fun p => p.1 == k) = [p] ∧ C.find? (fun p => p.1 == k) = some p ∧ p.1 = k ∧ p ∈ C
  | [], _, _ => .inl ⟨rfl, rfl⟩
  | p :: C, k, h => by
    obtain ⟨h1, h2⟩ := List.pairwise_cons.mp h
    by_cases e : p.1 = k
    · have : C.filter (fun q => q.1 == k) = [] := List.filter_eq_nil_iff.mpr fun q hq z => h1 q hq (by rw [e]; exact (by simpa using z : q.1 = k).symm)
      refine .inr ⟨p, ?_, ?_, e, List.mem_cons_self ..⟩
      · rw [List.filter_cons, if_pos (by simpa using e), this]
      · rw [List.find?_cons]; simp [e]
    · have e' : (p.1 == k) = false := by simpa using e
      rcases filt_one (k := k) h2 with ⟨a, b⟩ | ⟨q, a, b, c, d⟩
      · refine .inl ⟨?_, ?_⟩
        · rw [List.filter_cons, if_neg (by simpa using e), a]
        · rw [List.find?_cons, e']; exact b
      · refine .inr ⟨q, ?_, ?_, c, List.mem_cons_of_mem _ d⟩
        · rw [List.filter_cons, if_neg (by simpa using e), a]
        · rw [List.find?_cons, e']; exact b
theorem nlook_rep {S : Nat → Prop} (hS : HInj S) {y : Rf.D} {k : Nat} (hy : Fm y (k : Nat)) (sk : S k) (hd : y.depth ≤ 180) {C : CL} (h : COk S C) : nlook (repN C) y = some ((C.find? fun p => p.1 == k).map fun p => .int p.2.2) := by
  unfold nlook
  rw [if_pos (fm_nkey hy hd), withH_rep hS hy sk h]
  rcases filt_one (k := k) h.nd with ⟨a, b⟩ | ⟨p, a, b, c, d⟩
  · rw [a, b]; rfl
  · rw [a, b]
    have f := h.fm p d
    rw [c] at f
    show (if PyData.eqv p.2.1 y = true then _ else _) = _
    rw [f.uniq _ hy, if_pos (PySem.SeqAt.eqv_refl _ (pl_lay hy.pl))]
    rfl
/-- one more count -/
def cadd (C : CL) (k : Nat) (x : Rf.D) (c : Int) : CL := match C.find? fun p => p.1 == k with
  | none => C ++ [(k, x, c)]
  | some _ => C.map fun p => if p.1 == k then (p.1, p.2.1, p.2.2 + c) else p
theorem nput_rep {S : Nat → Prop} (hS : HInj S) {y : Rf.D} {k : Nat} {c : Int} (hy : Fm y (k : Nat)) (sk : S k) {C : CL} (h : COk S C) : nput (repN C) y (.int (cget C k + c)) = repN (cadd C k y c) := by
  unfold nput cadd cget
  rw [withH_rep hS hy sk h]
  rcases filt_one (k := k) h.nd with ⟨a, b⟩ | ⟨p, a, b, c2, d⟩
  · rw [a, b]
    simp [repN]
  · rw [a, b]
    simp only [repN, List.map_cons, List.map_nil, Option.map_some, Option.getD_some, List.map_map]
    rw [if_neg (by simp)]
    refine List.map_congr_left fun q hq => ?_
    have f := h.fm q hq
    by_cases e : q.1 = k
    · have : q = p := by
        have : q ∈ C.filter fun p => p.1 == k := List.mem_filter.mpr ⟨hq, by simpa using e⟩
        rw [a] at this
        exact List.mem_singleton.mp this
      subst this
      rw [e] at f
      simp [e, f.uniq _ hy]
    · have ne : ¬ hashN q.2.1 = hashN y := fun z => e (hS _ _ _ _ (h.s q hq) sk f hy z)
      simp [e, ne]
def csum : CL → Int
  | [] => 0
  | p :: r => p.2.2 * 2 ^ p.1 + csum r
def cw : CL → Nat
  | [] => 0
  | p :: r => 2 * p.2.2.natAbs + 4 + cw r
theorem csum_app : ∀ {a b : CL}, csum (a ++ b) = csum a + csum b
  | [], b => by simp [csum]
  | p :: a, b => by simp only [List.cons_append, csum, csum_app (a := a)]; omega
theorem cw_app : ∀ {a b : CL}, cw (a ++ b) = cw a + cw b
  | [], b => by simp [cw]
  | p :: a, b => by simp only [List.cons_append, cw, cw_app (a := a)]; omega
theorem cadd_map : ∀ {C : CL} {k : Nat} {c : Int}, (C.Pairwise fun a b => a.1 ≠ b.1) → (∃ p ∈ C, p.1 = k) →
    csum (C.map fun p => if p.1 == k then (p.1, p.2.1, p.2.2 + c) else p) = csum C + c * 2 ^ k ∧ cw (C.map fun p => if p.1 == k then (p.1, p.2.1, p.2.2 + c) else p) ≤ cw C + 2 * c.natAbs
  | [], _, _, _, ⟨p, hp, _⟩ => by simp at hp
  | p :: C, k, c, h, ⟨q, hq, hk⟩ => by
    obtain ⟨h1, h2⟩ := List.pairwise_cons.mp h
    rw [List.map_cons]
    by_cases e : p.1 = k
    · have : C.map (fun p => if p.1 == k then (p.1, p.2.1, p.2.2 + c) else p) = C := by
        conv => rhs; rw [← List.map_id C]
        refine List.map_congr_left fun q hq => ?_
        have : ¬ q.1 = k := fun z => h1 q hq (e.trans z.symm)
        simp [this]
      rw [this, if_pos (by simpa using e)]
      simp only [csum, cw]
      rw [e, Int.add_mul]
      omega
    · rcases List.mem_cons.mp hq with rfl | hq
      · exact absurd hk e
      · obtain ⟨a, b⟩ := cadd_map (c := c) h2 ⟨q, hq, hk⟩
        rw [if_neg (by simpa using e)]
        simp only [csum, cw]
        omega
theorem cadd_ok {S : Nat → Prop} {y : Rf.D} {k : Nat} {c : Int} (hy : Fm y (k : Nat)) (sk : S k) {C : CL} (h : COk S C) : COk S (cadd C k y c) ∧ csum (cadd C k y c) = csum C + c * 2 ^ k ∧ cw (cadd C k y c) ≤ cw C + (2 * c.natAbs + 4) ∧ (cadd C k y c).length ≤ C.length + 1 := by
  unfold cadd
  rcases filt_one (k := k) h.nd with ⟨a, b⟩ | ⟨p, a, b, c2, d⟩
  · rw [b]
    simp only [csum_app, cw_app, csum, cw, List.length_append, List.length_singleton]
    refine ⟨⟨fun q hq => ?_, fun q hq => ?_, ?_⟩, by omega, by omega, by omega⟩
    · rcases List.mem_append.mp hq with hq | hq
      · exact h.fm q hq
      · rw [List.mem_singleton.mp hq]; exact hy
    · rcases List.mem_append.mp hq with hq | hq
      · exact h.s q hq
      · rw [List.mem_singleton.mp hq]; exact sk
    · refine List.pairwise_append.mpr ⟨h.nd, List.pairwise_singleton _ _, fun q hq r hr => ?_⟩
      rw [List.mem_singleton.mp hr]
      intro z
      have : q ∈ C.filter fun p => p.1 == k := List.mem_filter.mpr ⟨hq, by simpa using z⟩
      rw [a] at this
      cases this
  · rw [b]
    obtain ⟨m1, m2⟩ := cadd_map (c := c) h.nd ⟨p, d, c2⟩
    refine ⟨⟨fun q hq => ?_, fun q hq => ?_, ?_⟩, m1, Nat.le_trans m2 (by omega), by simp⟩
    · obtain ⟨r, hr, rfl⟩ := List.mem_map.mp hq
      have := h.fm r hr
      split <;> exact this
    · obtain ⟨r, hr, rfl⟩ := List.mem_map.mp hq
      have := h.s r hr
      split <;> exact this
    · rw [List.pairwise_map]
      refine h.nd.imp fun {a b} hab => ?_
      split <;> split <;> exact hab
end
end My


set_option Elab.async false
set_option linter.all false
set_option maxRecDepth 100000
set_option maxHeartbeats 1000000
namespace My
open PySem PySem.Spec PyProof.Rows L2 Rf
section
variable {Φ : FT} {F n : Nat}
/-! ### in_order -/
def kin (k : Ky) : List Ky → List Ky
  | [] => [k]
  | y :: r => if y.1 < k.1 then y :: kin k r else k :: y :: r
def below (e : Nat) (l : List Ky) : Nat := (l.takeWhile fun y => decide (y.1 < e)).length
theorem kin_eq {k : Ky} : ∀ {l : List Ky}, kin k l = l.take (below k.1 l) ++ [k] ++ l.drop (below k.1 l)
  | [] => rfl
  | y :: r => by
    unfold kin below
    rw [List.takeWhile_cons]
    by_cases h : y.1 < k.1
    · rw [if_pos h, if_pos (by simpa using h), kin_eq]
      simp [below]
    · rw [if_neg h, if_neg (by simpa using h)]
      simp
theorem below_le {e : Nat} {l : List Ky} : below e l ≤ l.length := by
  unfold below
  exact List.Sublist.length_le (List.takeWhile_sublist _)
theorem below_lt {e : Nat} : ∀ {l : List Ky} {j : Nat} {y : Ky}, (l.Pairwise fun a b => a.1 < b.1) → l[j]? = some y → (y.1 < e ↔ j < below e l)
  | [], j, y, _, h => by simp at h
  | z :: r, j, y, hp, h => by
    obtain ⟨h1, h2⟩ := List.pairwise_cons.mp hp
    unfold below
    rw [List.takeWhile_cons]
    by_cases hz : z.1 < e
    · rw [if_pos (by simpa using hz), List.length_cons]
      cases j with
      | zero => simp only [List.getElem?_cons_zero, Option.some.injEq] at h; subst h; exact ⟨fun _ => Nat.zero_lt_succ _, fun _ => hz⟩
      | succ j =>
        rw [List.getElem?_cons_succ] at h
        have := below_lt (e := e) h2 h
        unfold below at this
        rw [this]
        omega
    · rw [if_neg (by simpa using hz)]
      have : ¬ y.1 < e := by
        cases j with
        | zero => simp only [List.getElem?_cons_zero, Option.some.injEq] at h; subst h; exact hz
        | succ j =>
          rw [List.getElem?_cons_succ] at h
          have := h1 y (List.mem_of_getElem? h)
          omega
      simp [this]
theorem idx_ks {l : List Ky} {j : Nat} {y : Ky} (h : l[j]? = some y) : idxK (.list (l.map (·.2))) (.int (j : Nat)) = .ok y.2 := by
  have e : idxD (.list (l.map (·.2))) (.int (j : Nat)) = some y.2 := by
    show L2.atI _ _ = _
    refine atI_at (by omega) ?_
    rw [show ((j : Nat) : Int).toNat = j from rfl, List.getElem?_map, h]
    rfl
  rw [idxK, e]; rfl
def JB (b : Nat) (nums x : Rf.D) (l : List Ky) (d : Nat) (e : Sl) : Prop := ∃ (lo hi : Nat) (s5 : Slot), e = [.d nums, .ol (l.map (·.2)), .d x, .d (.int (lo : Nat)), .d (.int (hi : Nat)), s5] ∧ lo ≤ b ∧ b ≤ hi ∧ hi ≤ l.length ∧ d = hi - lo
theorem sgn_neg_iff {a b : Nat} : sgn ((a : Int) - b) < 0 ↔ a < b := by
  unfold sgn
  split
  · constructor <;> omega
  · split
    · constructor <;> omega
    · constructor <;> omega
theorem ins_turn {nums x : Rf.D} {k : Nat} {l : List Ky} (hF : 1000 ≤ F) (hx : Fm x (k : Nat)) (hl : ∀ y ∈ l, Fm y.2 (y.1 : Nat)) (hp : l.Pairwise fun a b => a.1 < b.1) (hn : l.length ≤ 900) (hc : ∀ y ∈ l, Φ 2 [y.2, x] = .ok (.int (sgn ((y.1 : Int) - k)))) (s2 s3 s4 s5 : Slot) :
    ∃ r3 r4 r5, turnB (Rf.execs Φ F b4_3) (.nm 2) x [.d nums, .ol (l.map (·.2)), s2, s3, s4, s5] = .nx [.d nums, .ol ((kin (k, x) l).map (·.2)), .d x, r3, r4, r5] := by
  have key : Is (fun o => ∃ r3 r4 r5, o = .nx [.d nums, .ol ((kin (k, x) l).map (·.2)), .d x, r3, r4, r5]) (turnB (Rf.execs Φ F b4_3) (.nm 2) x [.d nums, .ol (l.map (·.2)), s2, s3, s4, s5]) := by
    simp only [turnB, bindT, List.length_cons, List.length_nil, Nat.reduceAdd, Nat.reduceLT, if_true, List.set_cons_succ, List.set_cons_zero]
    simp [b4_3]
    refine Is.whl (fun d e => JB (below k l) nums x l d e) (fun d e hh => ?_) F _ l.length ⟨0, l.length, _, rfl, Nat.zero_le _, below_le, Nat.le_refl _, rfl⟩ (by omega)
    obtain ⟨lo, hi, s5, rfl, b1, b2, b3, b4⟩ := hh
    by_cases h : lo < hi
    · refine .inr ⟨by simp [x4_2, h], ?_⟩
      have hm : (lo + hi) / 2 < l.length := by omega
      have hy := List.getElem?_eq_getElem hm
      generalize l[(lo + hi) / 2] = y at hy
      have ix := idx_ks hy
      rw [show (((lo + hi) / 2 : Nat) : Int) = ((lo : Int) + (hi : Int)) / 2 by omega] at ix
      have cc := hc y (List.mem_of_getElem? hy)
      have bl := below_lt (e := k) hp hy
      by_cases g : y.1 < k
      · have g2 : sgn ((y.1 : Int) - k) < 0 := sgn_neg_iff.mpr g
        simp [b4_1, ix, cc, g2]
        exact ⟨_, by have := bl.mp g; omega, (lo + hi) / 2 + 1, hi, .d (.int (((lo : Int) + (hi : Int)) / 2)), by simp, by have := bl.mp g; omega, b2, b3, rfl⟩
      · have g2 : ¬ sgn ((y.1 : Int) - k) < 0 := fun z => g (sgn_neg_iff.mp z)
        simp [b4_1, ix, cc, g2]
        exact ⟨_, by omega, lo, (lo + hi) / 2, .d (.int (((lo : Int) + (hi : Int)) / 2)), by simp, b1, by have : ¬ (lo + hi) / 2 < below k l := fun z => g (bl.mpr z); omega, by omega, rfl⟩
    · have e1 : lo = below k l := by omega
      subst e1
      refine .inl ⟨by simp [x4_2]; omega, ?_⟩
      have ik := fun e => insK_ok (i := 1) (n := below k l) (xs := l.map (·.2)) (x := x) (e := e) (by have := below_le (e := k) (l := l); omega) (by rw [List.length_map]; unfold line; omega)
      simp [ik]
      refine ⟨.d (.int (below k l : Nat)), .d (.int (hi : Nat)), s5, ?_⟩
      rw [kin_eq]
      simp
  exact key.out
def kall : List Ky → List Ky → List Ky
  | [], l => l
  | k :: r, l => kall r (kin k l)
theorem kin_mem {k y : Ky} : ∀ {l : List Ky}, y ∈ kin k l ↔ y = k ∨ y ∈ l
  | [] => by simp [kin]
  | z :: r => by
    unfold kin
    split
    · rw [List.mem_cons, kin_mem, List.mem_cons]
      constructor
      · rintro (h | h | h); exact .inr (.inl h); exact .inl h; exact .inr (.inr h)
      · rintro (h | h | h); exact .inr (.inl h); exact .inl h; exact .inr (.inr h)
    · rw [List.mem_cons]
theorem kin_len {k : Ky} : ∀ {l : List Ky}, (kin k l).length = l.length + 1
  | [] => rfl
  | z :: r => by
    unfold kin
    split
    · rw [List.length_cons, kin_len, List.length_cons]
    · rfl
theorem kin_sorted {k : Ky} : ∀ {l : List Ky}, (l.Pairwise fun a b => a.1 < b.1) → (∀ y ∈ l, y.1 ≠ k.1) → (kin k l).Pairwise fun a b => a.1 < b.1
  | [], _, _ => List.pairwise_singleton _ _
  | z :: r, h, hn => by
    obtain ⟨h1, h2⟩ := List.pairwise_cons.mp h
    unfold kin
    split
    · rename_i hz
      refine List.pairwise_cons.mpr ⟨fun y hy => ?_, kin_sorted h2 fun y hy => hn y (List.mem_cons_of_mem _ hy)⟩
      rcases kin_mem.mp hy with rfl | hy
      · exact hz
      · exact h1 y hy
    · rename_i hz
      have hne : ¬ z.1 = k.1 := hn z (List.mem_cons_self ..)
      have hlt : k.1 < z.1 := by omega
      refine List.pairwise_cons.mpr ⟨fun y hy => ?_, h⟩
      rcases List.mem_cons.mp hy with e | hy
      · rw [e]; exact hlt
      · exact Nat.lt_trans hlt (h1 y hy)
theorem kin_sum {C : CL} {k : Ky} : ∀ {l : List Ky}, wsum C (kin k l) = cget C k.1 * 2 ^ k.1 + wsum C l ∧ wmu C (kin k l) = 2 * (cget C k.1).natAbs + 4 + wmu C l
  | [] => by simp [kin, wsum, wmu]
  | z :: r => by
    unfold kin
    split
    · obtain ⟨a, b⟩ := kin_sum (C := C) (k := k) (l := r)
      simp only [wsum, wmu, a, b]
      omega
    · exact ⟨rfl, rfl⟩
structure KAll (C : CL) (ks l r : List Ky) : Prop where
  asc : r.Pairwise fun a b => a.1 < b.1
  mem : ∀ y, y ∈ r → y ∈ ks ∨ y ∈ l
  len : r.length = ks.length + l.length
  sum : wsum C r = wsum C ks + wsum C l
  mu : wmu C r = wmu C ks + wmu C l
theorem kall_ok {C : CL} : ∀ {ks l : List Ky}, (l.Pairwise fun a b => a.1 < b.1) → (ks.Pairwise fun a b => a.1 ≠ b.1) → (∀ k ∈ ks, ∀ y ∈ l, y.1 ≠ k.1) → KAll C ks l (kall ks l)
  | [], l, h, _, _ => ⟨h, fun y hy => .inr hy, by simp [kall], by simp [kall, wsum], by simp [kall, wmu]⟩
  | k :: ks, l, h, hp, hn => by
    obtain ⟨h1, h2⟩ := List.pairwise_cons.mp hp
    have q := kall_ok (C := C) (ks := ks) (kin_sorted h (hn k (List.mem_cons_self ..))) h2 fun j hj y hy => by
      rcases kin_mem.mp hy with rfl | hy
      · exact h1 j hj
      · exact hn j (List.mem_cons_of_mem _ hj) y hy
    obtain ⟨s1, s2⟩ := kin_sum (C := C) (k := k) (l := l)
    refine ⟨q.asc, fun y hy => ?_, ?_, ?_, ?_⟩
    · rcases q.mem y hy with hy | hy
      · exact .inl (List.mem_cons_of_mem _ hy)
      · rcases kin_mem.mp hy with rfl | hy
        · exact .inl (List.mem_cons_self ..)
        · exact .inr hy
    · show (kall ks (kin k l)).length = _
      rw [q.len, kin_len]
      simp only [List.length_cons]
      omega
    · show wsum C (kall ks (kin k l)) = _
      rw [q.sum, s1]
      simp only [wsum]
      omega
    · show wmu C (kall ks (kin k l)) = _
      rw [q.mu, s2]
      simp only [wmu]
      omega
theorem in_loop (hF : 1000 ≤ F) {nums : Rf.D} : ∀ {ks l : List Ky}, (∀ k ∈ ks, Fm k.2 (k.1 : Nat)) → (∀ y ∈ l, Fm y.2 (y.1 : Nat)) → (l.Pairwise fun a b => a.1 < b.1) → (ks.Pairwise fun a b => a.1 ≠ b.1) → (∀ k ∈ ks, ∀ y ∈ l, y.1 ≠ k.1) → ks.length + l.length ≤ 900 →
    (∀ k ∈ ks, ∀ y : Ky, (y ∈ ks ∨ y ∈ l) → Φ 2 [y.2, k.2] = .ok (.int (sgn ((y.1 : Int) - k.1)))) → ∀ s2 s3 s4 s5 : Slot,
    ∃ r2 r3 r4 r5, forL (Rf.execs Φ F b4_3) (.nm 2) (ks.map (·.2)) [.d nums, .ol (l.map (·.2)), s2, s3, s4, s5] = .nx [.d nums, .ol ((kall ks l).map (·.2)), r2, r3, r4, r5]
  | [], l, _, _, _, _, _, _, _, s2, s3, s4, s5 => ⟨s2, s3, s4, s5, forL_nil⟩
  | k :: ks, l, h1, h2, h3, h4, h5, h6, h7, s2, s3, s4, s5 => by
    obtain ⟨p1, p2⟩ := List.pairwise_cons.mp h4
    obtain ⟨r3, r4, r5, e⟩ := ins_turn (Φ := Φ) (nums := nums) hF (h1 k (List.mem_cons_self ..)) h2 h3 (by simp only [List.length_cons] at h6; omega) (fun y hy => h7 k (List.mem_cons_self ..) y (.inr hy)) s2 s3 s4 s5
    obtain ⟨q2, q3, q4, q5, e2⟩ := in_loop hF (nums := nums) (ks := ks) (l := kin k l) (fun j hj => h1 j (List.mem_cons_of_mem _ hj)) (fun y hy => by
        rcases kin_mem.mp hy with rfl | hy
        · exact h1 _ (List.mem_cons_self ..)
        · exact h2 y hy) (kin_sorted h3 (h5 k (List.mem_cons_self ..))) p2 (fun j hj y hy => by
        rcases kin_mem.mp hy with rfl | hy
        · exact p1 j hj
        · exact h5 j (List.mem_cons_of_mem _ hj) y hy) (by rw [kin_len]; simp only [List.length_cons] at h6; omega) (fun j hj y hy => h7 j (List.mem_cons_of_mem _ hj) y (by
        rcases hy with hy | hy
        · exact .inl (List.mem_cons_of_mem _ hy)
        · rcases kin_mem.mp hy with rfl | hy
          · exact .inl (List.mem_cons_self ..)
          · exact .inr hy)) (.d k.2) r3 r4 r5
    refine ⟨q2, q3, q4, q5, ?_⟩
    rw [List.map_cons]
    have hb : ∀ e : Sl, 2 < e.length → bindT (.nm 2) k.2 e = some (e.set 2 (.d k.2)) := fun e he => by unfold bindT; rw [if_pos he]
    rw [forL_cons (hb _ (by simp))]
    simp only [turnB, hb [.d nums, .ol (l.map (·.2)), s2, s3, s4, s5] (by simp)] at e
    rw [e, Out.turn_nx, e2]
    rfl
theorem in_run (hF : 1000 ≤ F) {ks : List Ky} (h1 : ∀ k ∈ ks, Fm k.2 (k.1 : Nat)) (h4 : ks.Pairwise fun a b => a.1 ≠ b.1) (h6 : ks.length ≤ 900) (h7 : ∀ k ∈ ks, ∀ y ∈ ks, Φ 2 [y.2, k.2] = .ok (.int (sgn ((y.1 : Int) - k.1)))) :
    Fdef.run ⟨1, 6, b4⟩ Φ F [.list (ks.map (·.2))] = .ok (.list ((kall ks []).map (·.2))) := by
  refine run_ret rfl ?_
  obtain ⟨r2, r3, r4, r5, e⟩ := in_loop (Φ := Φ) hF (nums := .list (ks.map (·.2))) (ks := ks) (l := []) h1 (fun y hy => by simp at hy) .nil h4 (fun k hk y hy => by simp at hy) (by simpa using h6) (fun k hk y hy => h7 k hk y (by simpa using hy)) .un .un .un .un
  simp only [List.map_nil] at e
  simp [b4, e]
end
end My


set_option Elab.async false
set_option linter.all false
set_option maxRecDepth 100000
set_option maxHeartbeats 1000000
namespace My
open PySem PySem.Spec PyProof.Rows L2 Rf
section
variable {Φ : FT} {F n : Nat}
/-! ### counts -/
theorem cget_find {C : CL} {k : Nat} : (C.find? fun p => p.1 == k).map (fun p => (PyData.int p.2.2)) = none ∧ cget C k = 0 ∨ (C.find? fun p => p.1 == k).map (fun p => (PyData.int p.2.2)) = some (.int (cget C k)) := by
  unfold cget
  cases C.find? fun p => p.1 == k with
  | none => exact .inl ⟨rfl, rfl⟩
  | some p => exact .inr rfl
theorem cget_mem {C : CL} {p : Nat × Rf.D × Int} (nd : C.Pairwise fun a b => a.1 ≠ b.1) (hp : p ∈ C) : cget C p.1 = p.2.2 ∧ (C.find? fun q => q.1 == p.1) = some p := by
  unfold cget
  rcases filt_one (k := p.1) nd with ⟨a, _⟩ | ⟨q, a, b, _, _⟩
  · have : p ∈ C.filter fun q => q.1 == p.1 := List.mem_filter.mpr ⟨hp, by simp⟩
    rw [a] at this
    cases this
  · have : p ∈ C.filter fun q => q.1 == p.1 := List.mem_filter.mpr ⟨hp, by simp⟩
    rw [a] at this
    obtain rfl := List.mem_singleton.mp this
    rw [b]
    exact ⟨rfl, rfl⟩
def cacc : List T3 → CL → CL
  | [], C => C
  | t :: r, C => cacc r (cadd C t.2.1 t.2.2 t.1)
def pw2 : List T3 → Nat
  | [] => 0
  | t :: r => 2 * t.1.natAbs + 4 + pw2 r
theorem cacc_ok {S : Nat → Prop} : ∀ {ps : List T3} {C : CL}, (∀ t ∈ ps, Fm t.2.2 (t.2.1 : Nat) ∧ S t.2.1) → COk S C → COk S (cacc ps C) ∧ csum (cacc ps C) = csum C + val (ps.map tm) ∧ cw (cacc ps C) ≤ cw C + pw2 ps ∧ (cacc ps C).length ≤ C.length + ps.length
  | [], C, _, h => ⟨h, by simp [cacc, val], by simp [cacc, pw2], by simp [cacc]⟩
  | t :: ps, C, hp, h => by
    obtain ⟨f, s⟩ := hp t (List.mem_cons_self ..)
    obtain ⟨a, b, c, d⟩ := cadd_ok (c := t.1) f s h
    obtain ⟨a2, b2, c2, d2⟩ := cacc_ok (ps := ps) (fun u hu => hp u (List.mem_cons_of_mem _ hu)) a
    refine ⟨a2, ?_, ?_, ?_⟩
    · show csum (cacc ps _) = _
      rw [b2, b, List.map_cons]
      simp only [val, tm]
      omega
    · show cw (cacc ps _) ≤ _
      simp only [pw2]
      omega
    · show (cacc ps _).length ≤ _
      simp only [List.length_cons]
      omega
abbrev tg5 : Tgt := .tp [(.nm 2), (.nm 3)]
theorem cnt_turn {S : Nat → Prop} (hS : HInj S) {pairs : Rf.D} {t : T3} (f : Fm t.2.2 (t.2.1 : Nat)) (s : S t.2.1) (hd : t.2.2.depth ≤ 180) {C : CL} (h : COk S C) (hl : C.length ≤ 900) (s2 s3 s4 s5 s6 : Slot) :
    turnB (Rf.execs Φ F b5_1) tg5 (tD t) [.d pairs, .on (repN C), s2, s3, s4, s5, s6] = .nx [.d pairs, .on (repN (cadd C t.2.1 t.2.2 t.1)), .d (.int t.1), .d t.2.2, s4, s5, s6] := by
  have hb : bindT tg5 (tD t) [.d pairs, .on (repN C), s2, s3, s4, s5, s6] = some [.d pairs, .on (repN C), .d (.int t.1), .d t.2.2, s4, s5, s6] := rfl
  have nl := nlook_rep hS f s hd h
  have g1 : nldK (repN C) t.2.2 (.int 0) = .ok (.int (cget C t.2.1)) := by
    unfold nldK
    rw [if_pos (show isIntD (.int 0) = true from rfl), nl]
    rcases cget_find (C := C) (k := t.2.1) with ⟨a, b⟩ | a
    · rw [a, b]; rfl
    · rw [a]; rfl
  have g2 := fun e => nsetK_ok (i := 1) (e := e) (kvs := repN C) (y := t.2.2) (x := cget C t.2.1 + t.1) (by rw [nl]; rfl) (by unfold repN line; rw [List.length_map]; omega)
  rw [nput_rep hS f s h] at g2
  simp only [turnB, hb]
  simp [b5_1, g1, g2]
theorem cnt_loop {S : Nat → Prop} (hS : HInj S) {pairs : Rf.D} : ∀ {ps : List T3} {C : CL}, (∀ t ∈ ps, Fm t.2.2 (t.2.1 : Nat) ∧ S t.2.1 ∧ t.2.2.depth ≤ 180) → COk S C → C.length + ps.length ≤ 900 → ∀ (s2 s3 s4 s5 s6 : Slot),
    ∃ r2 r3, forL (Rf.execs Φ F b5_1) tg5 (ps.map tD) [.d pairs, .on (repN C), s2, s3, s4, s5, s6] = .nx [.d pairs, .on (repN (cacc ps C)), r2, r3, s4, s5, s6]
  | [], C, _, _, _, s2, s3, s4, s5, s6 => ⟨s2, s3, forL_nil⟩
  | t :: ps, C, hp, h, hl, s2, s3, s4, s5, s6 => by
    obtain ⟨f, s, d⟩ := hp t (List.mem_cons_self ..)
    simp only [List.length_cons] at hl
    have e := cnt_turn (Φ := Φ) (F := F) hS (pairs := pairs) f s d h (by omega) s2 s3 s4 s5 s6
    obtain ⟨a, _, _, c4⟩ := cadd_ok (c := t.1) f s h
    obtain ⟨r2, r3, e2⟩ := cnt_loop hS (pairs := pairs) (ps := ps) (fun u hu => hp u (List.mem_cons_of_mem _ hu)) a (by omega) (.d (.int t.1)) (.d t.2.2) s4 s5 s6
    refine ⟨r2, r3, ?_⟩
    rw [List.map_cons, forL_cons (e1 := [.d pairs, .on (repN C), .d (.int t.1), .d t.2.2, s4, s5, s6]) rfl]
    have e : Rf.execs Φ F b5_1 [.d pairs, .on (repN C), .d (.int t.1), .d t.2.2, s4, s5, s6] = _ := e
    rw [e, Out.turn_nx, e2]
    rfl
/-! ### sign_at -/
abbrev wD (ws : List Ky) : List Rf.D := (ws.map (·.2)).reverse
/-- the keys that wait are keys of the dict -/
def Kin (C : CL) (ws : List Ky) : Prop := ∀ k ∈ ws, ∃ p ∈ C, p.1 = k.1 ∧ p.2.1 = k.2
theorem wD_last {k : Ky} {r : List Ky} : idxK (.list (wD (k :: r))) (.int (-1)) = .ok k.2 := by
  have e : idxD (.list (wD (k :: r))) (.int (-1)) = some k.2 := by
    show L2.atI _ _ = _
    unfold L2.atI L2.ixN
    have hl : (wD (k :: r)).length = r.length + 1 := by simp [wD]
    rw [hl, if_neg (by decide), if_pos (by omega)]
    show (wD (k :: r))[(-1 + ((r.length + 1 : Nat) : Int)).toNat]? = _
    rw [show (-1 + ((r.length + 1 : Nat) : Int)).toNat = r.length by omega]
    unfold wD
    rw [List.map_cons, List.reverse_cons, List.getElem?_append_right (by simp)]
    simp
  rw [idxK, e]; rfl
theorem nl_key {S : Nat → Prop} (hS : HInj S) {C : CL} (h : COk S C) {k : Ky} {ws : List Ky} (hk : Kin C ws) (hm : k ∈ ws) (hd : k.2.depth ≤ 180) : nlK (repN C) k.2 = .ok (.int (cget C k.1)) ∧ Fm k.2 (k.1 : Nat) := by
  obtain ⟨p, hp, e1, e2⟩ := hk k hm
  have f := h.fm p hp
  rw [e1, e2] at f
  obtain ⟨c1, c2⟩ := cget_mem h.nd hp
  refine ⟨?_, f⟩
  unfold nlK
  rw [nlook_rep hS f (by rw [← e1]; exact h.s p hp) hd h, ← e1, c2, c1]
  rfl
theorem sign_run2 {S : Nat → Prop} (hS : HInj S) {C : CL} (h : COk S C) {c : Int} {e : Nat} {x : Rf.D} {ws : List Ky} (hk : Kin C ws) (hd : ∀ k ∈ ws, k.2.depth ≤ 180) (hn : ws ≠ [] → ∃ y, Φ 7 [x] = .ok y ∧ Fm y ((e + 1 : Nat) : Int)) :
    Fdef.run ⟨4, 4, b6⟩ Φ F [.int c, x, pairsN (repN C), .list (wD ws)] = .ok (.int (sgnAt c (nxt C e ws))) := by
  have go : Rf.execs Φ F bw6 [.d (.int c), .d x, .rn (repN C), .d (.list (wD ws))] = .ret (.int (sgnAt c (nxt C e ws))) := by
    cases ws with
    | nil =>
      have l0 : bltK .len [.list (wD [])] = .ok (.int 0) := rfl
      unfold sgnAt nxt
      simp only [Int.mul_zero, Int.add_zero]
      by_cases hc : c % 4 = 1
      · simp [bw6, hc, l0, -bltK_lenL]
      · simp [bw6, hc, l0, -bltK_lenL]
    | cons k r =>
      obtain ⟨y, hy, fy⟩ := hn (by simp)
      have la := wD_last (k := k) (r := r)
      have l0 : bltK .len [.list (wD (k :: r))] = .ok (.int ((r.length : Int) + 1)) := by
        rw [bltK_lenL]
        simp [wD]
      have d1 := hd k (List.mem_cons_self ..)
      obtain ⟨nl, fk⟩ := nl_key hS h hk (List.mem_cons_self ..) d1
      have lp : (0 : Int) < (r.length : Int) + 1 := by omega
      unfold sgnAt nxt
      by_cases he : k.1 = e + 1
      · have : k.2 = y := by rw [he] at fk; exact fk.uniq _ fy
        have eq : cmpK .eq k.2 y = .ok (.bool true) := by rw [← this]; exact eqD_self fk.pl (by omega)
        simp only [if_pos he]
        rw [he] at nl
        have mu2 : binK .mul (.int 2) (.int (cget C (e + 1))) = .ok (.int (2 * cget C (e + 1))) := binK_mul (.inl (by decide))
        generalize wD (k :: r) = W at *
        by_cases hc : (c + 2 * cget C (e + 1)) % 4 = 1
        · simp [bw6, hc, l0, lp, la, hy, eq, nl, mu2, -bltK_lenL]
        · simp [bw6, hc, l0, lp, la, hy, eq, nl, mu2, -bltK_lenL]
      · have ne : k.2 ≠ y := fun z => he (by rw [z] at fk; have := fk.det _ fy; omega)
        have eq := eqD_no fk.pl fy.pl (by omega) ne
        simp only [if_neg he, Int.mul_zero, Int.add_zero]
        generalize wD (k :: r) = W at *
        by_cases hc : c % 4 = 1
        · simp [bw6, hc, l0, lp, la, hy, eq, -bltK_lenL]
        · simp [bw6, hc, l0, lp, la, hy, eq, -bltK_lenL]
  refine run_ret rfl ?_
  have ob : Rf.exec Φ F (.objn 2) [.d (.int c), .d x, .d (pairsN (repN C)), .d (.list (wD ws))] = .nx [.d (.int c), .d x, .rn (repN C), .d (.list (wD ws))] := x_objn rfl
  show Rf.execs Φ F (.objn 2 :: bw6) [.d (.int c), .d x, .d (pairsN (repN C)), .d (.list (wD ws))] = _
  rw [x_cons, ob, Out.seq_nx, go]
end
end My


set_option Elab.async false
set_option linter.all false
set_option maxRecDepth 100000
set_option maxHeartbeats 2000000
namespace My
open PySem PySem.Spec PyProof.Rows L2 Rf
section
variable {Φ : FT} {F n : Nat}
theorem x_popto {t i : Nat} {e : Sl} {xs : List Rf.D} {x : Rf.D} (h : e[i]? = some (.ol (xs ++ [x]))) (ht : t < e.length) (hti : t ≠ i) : Rf.exec Φ F (.popto t i) e = .nx ((e.set i (.ol xs)).set t (.d x)) := by
  have h1 : (xs ++ [x])[(xs ++ [x]).length - 1]? = some x := by simp
  have h2 : (xs ++ [x]).dropLast = xs := by simp
  simp only [Rf.exec, h, h1, h2]
  rw [if_pos ⟨ht, hti⟩]
abbrev G1 : Stm := b5_2.getD 0 .pas
abbrev G2 : Stm := b5_2.getD 1 .pas
abbrev G3 : Stm := b5_2.getD 2 .pas
theorem b5_2_eq : b5_2 = [G1, G2, G3] := rfl
theorem wD_cons {k : Ky} {r : List Ky} : wD (k :: r) = wD r ++ [k.2] := by simp [wD]
theorem len_wD {ws : List Ky} : bltK .len [.list (wD ws)] = .ok (.int (ws.length : Nat)) := by
  rw [bltK_lenL]
  simp [wD]
theorem g1_pop {S : Nat → Prop} (hS : HInj S) {C : CL} (h : COk S C) {pairs x : Rf.D} {c : Int} {e : Nat} {k : Ky} {r : List Ky} {A s6 : Slot} (hx : Fm x (e : Nat)) (hk : Kin C (k :: r)) (hd : k.2.depth ≤ 180) (hc : c = 0 ∨ k.1 = e) :
    Rf.exec Φ F G1 [.d pairs, .on (repN C), .d (.int c), .d x, .ol (wD (k :: r)), A, s6] = .nx [.d pairs, .on (repN C), .d (.int (c + cget C k.1)), .d k.2, .ol (wD r), A, s6] := by
  obtain ⟨nl, fk⟩ := nl_key hS h hk (List.mem_cons_self ..) hd
  have la := wD_last (k := k) (r := r)
  have l0 : bltK .len [.list (wD (k :: r))] = .ok (.int ((r.length : Int) + 1)) := by rw [len_wD]; simp
  have lp : (0 : Int) < (r.length : Int) + 1 := by omega
  have po : ∀ A s6 : Slot, Rf.exec Φ F (.popto 3 4) [.d pairs, .on (repN C), .d (.int c), .d x, .ol (wD (k :: r)), A, s6] = .nx [.d pairs, .on (repN C), .d (.int c), .d k.2, .ol (wD r), A, s6] := fun A s6 => by
    rw [wD_cons]
    rw [x_popto (xs := wD r) (x := k.2) rfl (by simp) (by decide)]
    rfl
  generalize wD (k :: r) = W at *
  by_cases h0 : c = 0
  · subst h0
    simp [G1, b5_2, l0, lp, po, nl, -bltK_lenL]
  · have e1 : k.1 = e := hc.resolve_left h0
    have e2 : k.2 = x := by rw [e1] at fk; exact fk.uniq _ hx
    have eq : cmpK .eq k.2 x = .ok (.bool true) := by rw [← e2]; exact eqD_self fk.pl (by omega)
    simp [G1, b5_2, l0, lp, h0, la, eq, po, nl, -bltK_lenL]
theorem g1_no {S : Nat → Prop} (hS : HInj S) {C : CL} (h : COk S C) {pairs x : Rf.D} {c : Int} {e : Nat} {ws : List Ky} {A s6 : Slot} (hx : Fm x (e : Nat)) (hk : Kin C ws) (hd : ∀ k ∈ ws, k.2.depth ≤ 180) (hc : c ≠ 0) (hn : ∀ k, ws.head? = some k → k.1 ≠ e) :
    Rf.exec Φ F G1 [.d pairs, .on (repN C), .d (.int c), .d x, .ol (wD ws), A, s6] = .nx [.d pairs, .on (repN C), .d (.int c), .d x, .ol (wD ws), A, s6] := by
  cases ws with
  | nil =>
    have l0 : bltK .len [.list (wD [])] = .ok (.int 0) := rfl
    simp [G1, b5_2, l0, -bltK_lenL]
  | cons k r =>
    obtain ⟨nl, fk⟩ := nl_key hS h hk (List.mem_cons_self ..) (hd k (List.mem_cons_self ..))
    have la := wD_last (k := k) (r := r)
    have l0 : bltK .len [.list (wD (k :: r))] = .ok (.int ((r.length : Int) + 1)) := by rw [len_wD]; simp
    have lp : (0 : Int) < (r.length : Int) + 1 := by omega
    have ne : k.2 ≠ x := fun z => hn k rfl (by rw [z] at fk; have := fk.det _ hx; omega)
    have d1 := hd k (List.mem_cons_self ..)
    have eq := eqD_no fk.pl hx.pl (by omega) ne
    generalize wD (k :: r) = W at *
    simp [G1, b5_2, l0, lp, hc, la, eq, -bltK_lenL]
theorem g2_odd {pairs x : Rf.D} {kvs : List (Rf.D × Rf.D)} {c s : Int} {W : List Rf.D} {acc : List T3} {e : Nat} {s6 : Slot} (hc : c % 2 = 1) (hs : Φ 6 [.int c, x, pairsN kvs, .list W] = .ok (.int s)) (hl : acc.length < line) :
    Rf.exec Φ F G2 [.d pairs, .on kvs, .d (.int c), .d x, .ol W, .ol (acc.map tD), s6] = .nx [.d pairs, .on kvs, .d (.int (c - s)), .d x, .ol W, .ol ((acc ++ [(s, e, x)]).map tD), .d (.int s)] := by
  have hl2 : (acc.map tD).length < line := by rw [List.length_map]; exact hl
  simp [G2, b5_2, hc, hs, hl2, hl]
  rfl
theorem g2_even {pairs x : Rf.D} {kvs : List (Rf.D × Rf.D)} {c : Int} {W : List Rf.D} {A s6 : Slot} (hc : c % 2 = 0) :
    Rf.exec Φ F G2 [.d pairs, .on kvs, .d (.int c), .d x, .ol W, A, s6] = .nx [.d pairs, .on kvs, .d (.int c), .d x, .ol W, A, s6] := by
  simp [G2, b5_2, hc]
theorem g3_go {pairs x y : Rf.D} {c : Int} {B W A s6 : Slot} (hc : c ≠ 0) (hy : Φ 7 [x] = .ok y) :
    Rf.exec Φ F G3 [.d pairs, B, .d (.int c), .d x, W, A, s6] = .nx [.d pairs, B, .d (.int (c / 2)), .d y, W, A, s6] := by
  simp [G3, b5_2, hc, hy]
theorem g3_no {pairs x : Rf.D} {B W A s6 : Slot} :
    Rf.exec Φ F G3 [.d pairs, B, .d (.int 0), .d x, W, A, s6] = .nx [.d pairs, B, .d (.int 0), .d x, W, A, s6] := by
  simp [G3, b5_2]
/-- what the loop asks of next_of and sign_at -/
structure Nx (Φ : FT) (C : CL) (V : Int) (m : Nat) : Prop where
  next : ∀ e x, Fm x ((e : Nat) : Int) → (e + 1 ≤ m ∨ 2 * (2 : Int) ^ (e + 1) < 3 * V ∨ 3 * V < -(2 * 2 ^ (e + 1))) → ∃ y, Φ 7 [x] = .ok y ∧ Fm y ((e + 1 : Nat) : Int)
  sign : ∀ c e x ws, Fm x ((e : Nat) : Int) → Kin C ws → (∀ k ∈ ws, e < k.1 ∧ k.1 ≤ m) → Φ 6 [.int c, x, pairsN (repN C), .list (wD ws)] = .ok (.int (sgnAt c (nxt C e ws)))
/-- the state -/
def JG (C : CL) (V : Int) (m L : Nat) (pairs : Rf.D) (d : Nat) (sl : Sl) : Prop := ∃ (c : Int) (e : Nat) (x : Rf.D) (ws : List Ky) (acc : List T3) (s6 : Slot),
  sl = [.d pairs, .on (repN C), .d (.int c), .d x, .ol (wD ws), .ol (acc.map tD), s6] ∧ Fm x (e : Nat) ∧ Gs C V c e ws acc ∧ Kin C ws ∧ (∀ k ∈ ws, k.1 ≤ m) ∧ d = mu C c e ws ∧ acc.length + d ≤ L
/-- the second half of a turn -/
theorem g_rest {C : CL} {V : Int} {m L : Nat} (nx : Nx Φ C V m) {pairs x : Rf.D} {c : Int} {e : Nat} {ws : List Ky} {acc : List T3} {s6 : Slot} (hL : acc.length < line) (hx : Fm x (e : Nat)) (g : Gp C V c e ws acc) (hk : Kin C ws) (hm : ∀ k ∈ ws, k.1 ≤ m) {d : Nat}
    (h1 : c % 2 = 1 → mu C ((c - sgnAt c (nxt C e ws)) / 2) (if (c - sgnAt c (nxt C e ws)) / 2 = 0 then e else e + 1) ws < d) (h0 : c % 2 = 0 → mu C (c / 2) (if c / 2 = 0 then e else e + 1) ws < d) (hl : acc.length + d ≤ L) :
    ∃ sl d', Rf.execs Φ F [G2, G3] [.d pairs, .on (repN C), .d (.int c), .d x, .ol (wD ws), .ol (acc.map tD), s6] = .nx sl ∧ d' < d ∧ JG C V m L pairs d' sl := by
  have adv : ∀ {c2 : Int} {acc2 : List T3}, c2 % 2 = 0 → Gs C V (c2 / 2) (if c2 / 2 = 0 then e else e + 1) ws acc2 → c2 ≠ 0 → ∃ y, Φ 7 [x] = .ok y ∧ Fm y ((e + 1 : Nat) : Int) := fun {c2 acc2} hc g hz => by
    refine nx.next e x hx ?_
    cases ws with
    | nil =>
      have z : c2 / 2 ≠ 0 := by omega
      have t := g.top z
      rw [if_neg z] at t
      exact .inr t
    | cons k r =>
      have a := hm k (List.mem_cons_self ..)
      have b := g.ge (show c2 / 2 ≠ 0 by omega) k (List.mem_cons_self ..)
      rw [if_neg (by omega)] at b
      exact .inl (by omega)
  by_cases hc : c % 2 = 1
  · have sg := nx.sign c e x ws hx hk fun k hk => ⟨g.gt k hk, hm k hk⟩
    have e2 := g2_odd (Φ := Φ) (F := F) (pairs := pairs) (kvs := repN C) (W := wD ws) (e := e) (s6 := s6) hc sg hL
    have gs := g.odd hc hx rfl
    have hlt := h1 hc
    obtain ⟨m1, _⟩ := sgnAt_mod (n := nxt C e ws) hc
    rw [x_cons, e2, Out.seq_nx, x_cons]
    generalize hsd : sgnAt c (nxt C e ws) = s at *
    by_cases hz : c - s = 0
    · rw [hz, g3_no, Out.seq_nx, x_nil]
      refine ⟨_, _, rfl, hlt, 0, e, x, ws, _, _, rfl, hx, ?_, hk, hm, ?_, ?_⟩
      · rw [hz] at gs
        exact gs
      · rw [hz]; rfl
      · rw [List.length_append, List.length_singleton]; omega
    · obtain ⟨y, hy, fy⟩ := adv m1 gs hz
      rw [g3_go hz hy, Out.seq_nx, x_nil]
      have nz : ¬ (c - s) / 2 = 0 := by omega
      rw [if_neg nz] at gs hlt
      refine ⟨_, _, rfl, hlt, (c - s) / 2, e + 1, y, ws, _, _, rfl, fy, gs, hk, hm, rfl, ?_⟩
      rw [List.length_append, List.length_singleton]; omega
  · have hc0 : c % 2 = 0 := by omega
    have gs := g.even hc0
    have hlt := h0 hc0
    rw [x_cons, g2_even hc0, Out.seq_nx, x_cons]
    by_cases hz : c = 0
    · subst hz
      rw [g3_no, Out.seq_nx, x_nil]
      exact ⟨_, _, rfl, hlt, 0, e, x, ws, _, _, rfl, hx, gs, hk, hm, rfl, by omega⟩
    · obtain ⟨y, hy, fy⟩ := adv hc0 gs hz
      rw [g3_go hz hy, Out.seq_nx, x_nil]
      have nz : ¬ c / 2 = 0 := by omega
      rw [if_neg nz] at gs hlt
      exact ⟨_, _, rfl, hlt, c / 2, e + 1, y, ws, _, _, rfl, fy, gs, hk, hm, rfl, by omega⟩
theorem g_turn {S : Nat → Prop} (hS : HInj S) {C : CL} (h : COk S C) {V : Int} {m L : Nat} (hL : L ≤ 900000) (nx : Nx Φ C V m) (hdC : ∀ p ∈ C, p.2.1.depth ≤ 180) {pairs : Rf.D} {d : Nat} {sl : Sl} (hj : JG C V m L pairs d sl) :
    (ev Φ x5_3 sl = .ok (.bool false) ∧ ∃ (acc : List T3) (x : Rf.D) (s6 : Slot), sl = [.d pairs, .on (repN C), .d (.int 0), .d x, .ol [], .ol (acc.map tD), s6] ∧ val (acc.map tm) = V ∧ Nf (acc.reverse.map tm) ∧ ∀ t ∈ acc, Fm t.2.2 (t.2.1 : Nat)) ∨
    (ev Φ x5_3 sl = .ok (.bool true) ∧ ∃ sl2 d', Rf.execs Φ F b5_2 sl = .nx sl2 ∧ d' < d ∧ JG C V m L pairs d' sl2) := by
  obtain ⟨c, e, x, ws, acc, s6, rfl, hx, g, hk, hm, rfl, hl⟩ := hj
  have hd : ∀ k ∈ ws, k.2.depth ≤ 180 := fun k hk2 => by
    obtain ⟨p, hp, _, e2⟩ := hk k hk2
    rw [← e2]; exact hdC p hp
  have hlen : acc.length < line := by unfold line; omega
  have lw := len_wD (ws := ws)
  cases ws with
  | nil =>
    by_cases hc : c = 0
    · subst hc
      refine .inl ⟨by simp [x5_3, lw, -bltK_lenL], acc, x, s6, rfl, ?_, g.nf, g.fm⟩
      have := g.tot
      simp only [wsum, Int.zero_mul, Int.add_zero] at this
      exact this
    · refine .inr ⟨by simp [x5_3, lw, hc, -bltK_lenL], ?_⟩
      have gp := g.pop0 hc fun k hk => by cases hk
      rw [b5_2_eq, x_cons, g1_no hS h hx hk hd hc (fun k hk => by cases hk), Out.seq_nx]
      exact g_rest nx hlen hx gp hk hm (fun q => mu_odd q (fun k hk => by cases hk) rfl) (fun q => mu_even q hc (fun k hk => by cases hk)) hl
  | cons k r =>
    have lp : (0 : Int) < (r.length : Int) + 1 := by omega
    refine .inr ⟨by simp [x5_3, lw, lp, -bltK_lenL], ?_⟩
    have hk' : Kin C r := fun j hj => hk j (List.mem_cons_of_mem _ hj)
    have hm' : ∀ j ∈ r, j.1 ≤ m := fun j hj => hm j (List.mem_cons_of_mem _ hj)
    by_cases hp : c = 0 ∨ k.1 = e
    · have gp := g.pop1 hp
      obtain ⟨_, fk⟩ := nl_key hS h hk (List.mem_cons_self ..) (hd k (List.mem_cons_self ..))
      rw [b5_2_eq, x_cons, g1_pop hS h hx hk (hd k (List.mem_cons_self ..)) hp, Out.seq_nx]
      refine g_rest nx hlen fk gp hk' hm' (fun q => ?_) (fun q => ?_) hl
      · refine mu_pop ?_
        obtain ⟨m1, _⟩ := sgnAt_mod (n := nxt C k.1 r) q
        exact half_abs (by rcases sgnAt_or (c := c + cget C k.1) (n := nxt C k.1 r) with z | z; exact .inl z; exact .inr (.inl z)) m1
      · exact mu_pop (by omega)
    · have hc : c ≠ 0 := fun z => hp (.inl z)
      have hke : ∀ j, (k :: r).head? = some j → j.1 ≠ e := fun j hj z => hp (.inr (by cases hj; exact z))
      have gp := g.pop0 hc hke
      rw [b5_2_eq, x_cons, g1_no hS h hx hk hd hc hke, Out.seq_nx]
      exact g_rest nx hlen hx gp hk hm (fun q => mu_odd q hke rfl) (fun q => mu_even q hc hke) hl
end
end My


set_option Elab.async false
set_option linter.all false
set_option maxRecDepth 100000
set_option maxHeartbeats 1000000
namespace My
open PySem PySem.Spec PyProof.Rows L2 Rf
/-! ### the terms of a number; its hash -/
def sg4 (v : Int) : Int := 2 - v % 4
def wt : Nat → Int → Nat
  | 0, _ => 0
  | k + 1, v => if v % 2 = 0 then wt k (v / 2) else 1 + wt k ((v - sg4 v) / 2)
theorem wt_even {k : Nat} {v : Int} (h : v % 2 = 0) : wt (k + 1) v = wt k (v / 2) := by simp only [wt, if_pos h]
theorem wt_odd {k : Nat} {v : Int} (h : v % 2 = 1) : wt (k + 1) v = 1 + wt k ((v - sg4 v) / 2) := by simp only [wt, if_neg (show ¬ v % 2 = 0 by omega)]
structure WS (k : Nat) (v : Int) : Prop where
  a : wt k (v + 1) ≤ wt k v + 1
  b : wt k v ≤ wt k (v + 1) + 1
  c : v % 2 = 1 → wt k (v + 1) ≤ wt k v
  d : v % 2 = 0 → wt k v ≤ wt k (v + 1)
theorem ws : ∀ (k : Nat) (v : Int), WS k v
  | 0, v => ⟨by simp [wt], by simp [wt], fun _ => by simp [wt], fun _ => by simp [wt]⟩
  | k + 1, v => by
    by_cases h : v % 2 = 0
    · have e1 := wt_even (k := k) h
      have e2 := wt_odd (k := k) (v := v + 1) (by omega)
      have i := ws k (v / 2)
      by_cases h4 : v % 4 = 0
      · have e3 : (v + 1 - sg4 (v + 1)) / 2 = v / 2 := by unfold sg4; omega
        rw [e3] at e2
        exact ⟨by omega, by omega, fun z => by omega, fun _ => by omega⟩
      · have e3 : (v + 1 - sg4 (v + 1)) / 2 = v / 2 + 1 := by unfold sg4; omega
        rw [e3] at e2
        have := i.c (by omega)
        have := i.b
        exact ⟨by omega, by omega, fun z => by omega, fun _ => by omega⟩
    · have e1 := wt_odd (k := k) (v := v) (by omega)
      have e2 := wt_even (k := k) (v := v + 1) (by omega)
      by_cases h4 : v % 4 = 1
      · have e3 : (v - sg4 v) / 2 = (v - 1) / 2 := by unfold sg4; omega
        have e4 : (v + 1) / 2 = (v - 1) / 2 + 1 := by omega
        rw [e3] at e1
        rw [e4] at e2
        have i := ws k ((v - 1) / 2)
        have := i.d (by omega)
        have := i.a
        exact ⟨by omega, by omega, fun _ => by omega, fun z => by omega⟩
      · have e3 : (v - sg4 v) / 2 = (v + 1) / 2 := by unfold sg4; omega
        rw [e3] at e1
        exact ⟨by omega, by omega, fun _ => by omega, fun z => by omega⟩
theorem wt_near (k : Nat) (v : Int) : ∀ c : Nat, wt k (v + c) ≤ wt k v + c ∧ wt k (v - c) ≤ wt k v + c
  | 0 => by simp
  | c + 1 => by
    have ih := wt_near k v c
    have a := (ws k (v + c)).a
    have b := (ws k (v - (c + 1 : Nat))).b
    rw [show v + ((c + 1 : Nat) : Int) = v + c + 1 by omega]
    rw [show v - ((c + 1 : Nat) : Int) + 1 = v - c by omega] at b
    omega
theorem wt_pow : ∀ (p k : Nat) (v : Int), wt k (v + 2 ^ p) ≤ wt k v + 1 ∧ wt k (v - 2 ^ p) ≤ wt k v + 1
  | 0, k, v => by
    have := wt_near k v 1
    simpa using this
  | p + 1, 0, v => by simp [wt]
  | p + 1, k + 1, v => by
    have e : (2 : Int) ^ (p + 1) = 2 * 2 ^ p := by rw [two_add, Int.mul_comm]; rfl
    rw [e]
    by_cases h : v % 2 = 0
    · rw [wt_even h, wt_even (v := v + 2 * 2 ^ p) (by omega), wt_even (v := v - 2 * 2 ^ p) (by omega)]
      have ih := wt_pow p k (v / 2)
      rw [show (v + 2 * 2 ^ p) / 2 = v / 2 + 2 ^ p by omega, show (v - 2 * 2 ^ p) / 2 = v / 2 - 2 ^ p by omega]
      exact ih
    · rw [wt_odd (v := v) (by omega), wt_odd (v := v + 2 * 2 ^ p) (by omega), wt_odd (v := v - 2 * 2 ^ p) (by omega)]
      cases p with
      | succ p =>
        have ih := wt_pow (p + 1) k ((v - sg4 v) / 2)
        have e2 : (2 : Int) ^ (p + 1) = 2 * 2 ^ p := by rw [two_add, Int.mul_comm]; rfl
        rw [e2] at ih ⊢
        generalize (2 : Int) ^ p = x at *
        have s1 : sg4 (v + 2 * (2 * x)) = sg4 v := by unfold sg4; omega
        have s2 : sg4 (v - 2 * (2 * x)) = sg4 v := by unfold sg4; omega
        have dv : (v - sg4 v) % 2 = 0 := by unfold sg4; omega
        rw [s1, s2, show (v + 2 * (2 * x) - sg4 v) / 2 = (v - sg4 v) / 2 + 2 * x by omega, show (v - 2 * (2 * x) - sg4 v) / 2 = (v - sg4 v) / 2 - 2 * x by omega]
        omega
      | zero =>
        rw [show (2 : Int) * 2 ^ 0 = 2 by decide]
        by_cases h4 : v % 4 = 1
        · rw [show (v - sg4 v) / 2 = 2 * ((v - 1) / 4) by unfold sg4; omega, show (v + 2 - sg4 (v + 2)) / 2 = 2 * ((v - 1) / 4 + 1) by unfold sg4; omega, show (v - 2 - sg4 (v - 2)) / 2 = 2 * ((v - 1) / 4) by unfold sg4; omega]
          cases k with
          | zero => simp [wt]
          | succ k =>
            rw [wt_even (v := 2 * ((v - 1) / 4)) (by omega), wt_even (v := 2 * ((v - 1) / 4 + 1)) (by omega)]
            have := (ws k ((v - 1) / 4)).a
            rw [show 2 * ((v - 1) / 4) / 2 = (v - 1) / 4 by omega, show 2 * ((v - 1) / 4 + 1) / 2 = (v - 1) / 4 + 1 by omega]
            omega
        · rw [show (v - sg4 v) / 2 = 2 * ((v + 1) / 4) by unfold sg4; omega, show (v + 2 - sg4 (v + 2)) / 2 = 2 * ((v + 1) / 4) by unfold sg4; omega, show (v - 2 - sg4 (v - 2)) / 2 = 2 * ((v + 1) / 4 - 1) by unfold sg4; omega]
          cases k with
          | zero => simp [wt]
          | succ k =>
            rw [wt_even (v := 2 * ((v + 1) / 4)) (by omega), wt_even (v := 2 * ((v + 1) / 4 - 1)) (by omega)]
            have := (ws k ((v + 1) / 4 - 1)).b
            rw [show (v + 1) / 4 - 1 + 1 = (v + 1) / 4 by omega] at this
            rw [show 2 * ((v + 1) / 4) / 2 = (v + 1) / 4 by omega, show 2 * ((v + 1) / 4 - 1) / 2 = (v + 1) / 4 - 1 by omega]
            omega
/-! the terms of a number -/
def nfl : Nat → Int → Nat → List Tm
  | 0, _, _ => []
  | k + 1, v, p => if v % 2 = 0 then nfl k (v / 2) (p + 1) else nfl k ((v - sg4 v) / 2) (p + 1) ++ [(sg4 v, p)]
theorem val_app : ∀ {a b : List Tm}, val (a ++ b) = val a + val b
  | [], b => by simp [val]
  | t :: a, b => by simp only [List.cons_append, val, val_app]; omega
theorem nf_snoc : ∀ {l : List Tm} {t : Tm}, Nf l → (∀ u ∈ l, t.2 + 2 ≤ u.2) → (t.1 = 1 ∨ t.1 = -1) → Nf (l ++ [t])
  | [], t, _, _, h => ⟨h, fun u hu => by simp at hu, trivial⟩
  | u :: r, t, nf, hu, h => by
    refine ⟨nf.1, fun w hw => ?_, nf_snoc nf.2.2 (fun w hw => hu w (List.mem_cons_of_mem _ hw)) h⟩
    cases r with
    | nil => simp at hw; subst hw; exact hu u (List.mem_cons_self ..)
    | cons a r => exact nf.2.1 w hw
structure NfOk (k : Nat) (v : Int) (p : Nat) : Prop where
  vl : val (nfl k v p) = v * 2 ^ p
  nf : Nf (nfl k v p)
  ge : ∀ t ∈ nfl k v p, p ≤ t.2
  ev : v % 2 = 0 → ∀ t ∈ nfl k v p, p + 1 ≤ t.2
  ln : (nfl k v p).length = wt k v
theorem nfl_ok : ∀ (k : Nat) (v : Int) (p : Nat), -(2 ^ k) ≤ v → v ≤ 2 ^ k → NfOk (k + 1) v p
  | k, v, p, h1, h2 => by
    have e2 : (2 : Int) ^ (p + 1) = 2 * 2 ^ p := by rw [two_add, Int.mul_comm]; rfl
    by_cases h : v % 2 = 0
    · have en : nfl (k + 1) v p = nfl k (v / 2) (p + 1) := by simp only [nfl, if_pos h]
      have ew := wt_even (k := k) h
      cases k with
      | zero =>
        have : v = 0 := by
          have h1 : -1 ≤ v := h1
          have h2 : v ≤ 1 := h2
          omega
        subst this
        exact ⟨by simp [nfl, val], trivial, fun t ht => by simp [nfl] at ht, fun _ t ht => by simp [nfl] at ht, by simp [nfl, wt]⟩
      | succ k =>
        have e3 : (2 : Int) ^ (k + 1) = 2 * 2 ^ k := by rw [two_add, Int.mul_comm]; rfl
        rw [e3] at h1 h2
        have ih := nfl_ok k (v / 2) (p + 1) (by generalize (2 : Int) ^ k = x at *; omega) (by generalize (2 : Int) ^ k = x at *; omega)
        refine ⟨?_, by rw [en]; exact ih.nf, fun t ht => ?_, fun _ t ht => ?_, by rw [en, ih.ln, ew]⟩
        · rw [en, ih.vl, e2, ← Int.mul_assoc, show v / 2 * 2 = v by omega]
        · rw [en] at ht; have := ih.ge t ht; omega
        · rw [en] at ht; exact ih.ge t ht
    · have en : nfl (k + 1) v p = nfl k ((v - sg4 v) / 2) (p + 1) ++ [(sg4 v, p)] := by simp only [nfl, if_neg h]
      have ew := wt_odd (k := k) (v := v) (by omega)
      have s1 : sg4 v = 1 ∨ sg4 v = -1 := by unfold sg4; omega
      have dv : (v - sg4 v) % 2 = 0 := by unfold sg4; omega
      have dv2 : (v - sg4 v) / 2 % 2 = 0 := by unfold sg4; omega
      have fin : NfOk k ((v - sg4 v) / 2) (p + 1) → NfOk (k + 1) v p := fun ih => by
        refine ⟨?_, ?_, fun t ht => ?_, fun z => absurd z h, ?_⟩
        · rw [en, val_app, ih.vl, e2, ← Int.mul_assoc, show (v - sg4 v) / 2 * 2 = v - sg4 v by omega, Int.sub_mul]
          simp only [val]
          omega
        · rw [en]
          exact nf_snoc ih.nf (fun u hu => ih.ev dv2 u hu) s1
        · rw [en] at ht
          rcases List.mem_append.mp ht with ht | ht
          · have := ih.ge t ht; omega
          · simp at ht; subst ht; exact Nat.le_refl _
        · rw [en, List.length_append, ih.ln, ew, List.length_singleton, Nat.add_comm]
      cases k with
      | zero =>
        have : v = 1 ∨ v = -1 := by
          have h1 : -1 ≤ v := h1
          have h2 : v ≤ 1 := h2
          omega
        have e0 : (v - sg4 v) / 2 = 0 := by rcases this with rfl | rfl <;> decide
        rw [e0] at fin
        exact fin ⟨by simp [nfl, val], trivial, fun t ht => by simp [nfl] at ht, fun _ t ht => by simp [nfl] at ht, by simp [nfl, wt]⟩
      | succ k =>
        have e3 : (2 : Int) ^ (k + 1) = 2 * 2 ^ k := by rw [two_add, Int.mul_comm]; rfl
        rw [e3] at h1 h2
        exact fin (nfl_ok k ((v - sg4 v) / 2) (p + 1) (by generalize (2 : Int) ^ k = x at *; omega) (by generalize (2 : Int) ^ k = x at *; omega))
theorem nf_is {l : List Tm} (h : Nf l) {k : Nat} (h1 : -(2 ^ k) ≤ val l) (h2 : val l ≤ 2 ^ k) : l = nfl (k + 1) (val l) 0 := by
  have q := nfl_ok k (val l) 0 h1 h2
  refine val_eq h q.nf ?_
  rw [q.vl]
  simp


def tH (l : List Int) : Int := reduceHash (Builtin.Tuple.tupleHashOf l)
def hsG (T : List Int → Int) (I : Int → Int) : Nat → Nat → Int
  | 0, _ => T []
  | d + 1, e => T ((nfl 17 (e : Int) 0).map fun t => T [I t.1, hsG T I d t.2])
mutual
def hnG (T : List Int → Int) (I : Int → Int) : Rf.D → Int
  | .int i => I i
  | .tuple xs => T (hnGs T I xs)
  | _ => 0
def hnGs (T : List Int → Int) (I : Int → Int) : List Rf.D → List Int
  | [] => []
  | x :: r => hnG T I x :: hnGs T I r
end
mutual
theorem hashN_G : ∀ {x : Rf.D}, nkeyI x = true → hashN x = hnG tH hashInt x
  | .int i, _ => by simp only [hashN, hnG]
  | .tuple xs, h => by
    simp only [hashN, hnG]
    rw [hashNs_G (by simpa [nkeyI] using h)]
    simp only [tH]
  | .none, h => by simp [nkeyI] at h
  | .bool _, h => by simp [nkeyI] at h
  | .str _, h => by simp [nkeyI] at h
  | .list _, h => by simp [nkeyI] at h
  | .dict _, h => by simp [nkeyI] at h
theorem hashNs_G : ∀ {x : List Rf.D}, nkeyIs x = true → hashNs x = hnGs tH hashInt x
  | [], _ => by simp only [hashNs, hnGs]
  | x :: r, h => by
    simp only [nkeyIs, Bool.and_eq_true] at h
    simp only [hashNs, hnGs]
    rw [hashN_G h.1, hashNs_G h.2]
end
section
variable {T : List Int → Int} {I : Int → Int}
theorem hnG_tD {t : T3} : hnG T I (tD t) = T [I t.1, hnG T I t.2.2] := by simp only [tD, hnG, hnGs]
theorem hnGs_map : ∀ {ts : List T3}, hnGs T I (ts.map tD) = ts.map fun t => T [I t.1, hnG T I t.2.2]
  | [] => by simp only [List.map_nil, hnGs]
  | t :: r => by simp only [List.map_cons, hnGs, hnGs_map, hnG_tD]
theorem hash_G : ∀ (d : Nat) {x : Rf.D} {e : Nat}, Fm x (e : Nat) → x.depth ≤ 2 * d + 1 → e ≤ 65536 → hnG T I x = hsG T I d e := by
  intro d
  induction d with
  | zero =>
    intro x e hx hd _
    obtain ⟨ts, rfl, _⟩ := hx.inv
    cases ts with
    | nil => simp only [List.map_nil, hnG, hnGs, hsG]
    | cons t r =>
      simp only [List.map_cons, PyData.depth, PyData.depthAll, tD] at hd
      omega
  | succ d ih =>
    intro x e hx hd he
    obtain ⟨ts, rfl, hv, nf, fs⟩ := hx.inv
    have hl := nf_is nf (k := 16) (by rw [← hv]; omega) (by rw [← hv]; omega)
    rw [← hv] at hl
    simp only [hnG, hnGs_map, hsG]
    rw [← hl, List.map_map]
    refine congrArg T (List.map_congr_left fun t ht => ?_)
    have dp := dep_all ht
    simp only [PyData.depth] at hd
    have hb := exp_le nf (k := 16) (by rw [← hv]; constructor <;> omega) (tm t) (List.mem_map.mpr ⟨t, ht, rfl⟩)
    have hb : t.2.1 ≤ 16 := hb
    have := ih (fs t ht) (by omega) (by omega)
    show T [I t.1, hnG T I t.2.2] = T [I t.1, hsG T I d t.2.1]
    rw [this]
end
def hsF (d e : Nat) : Int := hsG tH hashInt d e
theorem hash_fm (d : Nat) {x : Rf.D} {e : Nat} (hx : Fm x (e : Nat)) (hd : x.depth ≤ 2 * d + 1) (he : e ≤ 65536) : hashN x = hsF d e := (hashN_G (pl_nk hx.pl)).trans (hash_G d hx hd he)
inductive HT
  | l (e : Nat)
  | n (k : Nat) (a b : HT)
def HT.find : HT → Nat → Nat
  | .l e, _ => e
  | .n k a b, x => if x < k then a.find x else b.find x
def hP : List Int := [2500886146856312502, -4166989733048205660, 1503403297834903336, 3394327312729272042, -7670874376733108219, -1831579903106052905, -6267026732890221942, 7423281796009237369, -2818476068881806878, 2197374580173912422, -3662621412081524291, 5041834137232675626, 7088496265300407075, -184073078602649321, -1580248947461916353, 105623609983631534, -3526749232904196291]
def hN : List Int := [5842664681289776622, 3573146184369626588, -9203204858456816032, -7312280843562447326, 69261540684724029, 5908556014311779343, 1473109184527610306, -3283326360282481999, 4921659848536025370, -8509233576117806946, 4077514505336307957, 5735940766015651049, -3618111890991312293, 7556062838815182927, 1761529586971547767, 7845759527401463782, 4213386684513635957]
def hM : Int := 1000095
open HT in
def hT0 : HT := (n 8935 (n 3653 (n 1462 (n 1090 (n 418 (l 335) (l 2325)) (n 1279 (l 1960) (n 1409 (l 1360) (l 1592)))) (n 2226 (n 1681 (l 1818) (n 1845 (l 1912) (l 2664))) (n 2949 (l 1674) (n 3198 (l 1931) (l 2836))))) (n 6861 (n 5566 (n 4299 (l 2052) (n 5501 (l 2697) (l 699))) (n 6049 (l 400) (n 6631 (l 666) (l 2749)))) (n 7910 (n 6899 (l 1391) (n 7322 (l 1861) (l 913))) (n 8172 (l 850) (n 8295 (l 446) (l 1084)))))) (n 14187 (n 10442 (n 9322 (n 9156 (l 254) (l 2908)) (n 9608 (l 1171) (n 10182 (l 1363) (l 193)))) (n 12135 (n 10507 (l 917) (n 10695 (l 1186) (l 2365))) (n 13367 (l 2627) (n 13730 (l 2928) (l 2452))))) (n 15588 (n 15005 (n 14530 (l 1368) (n 14591 (l 1260) (l 255))) (n 15426 (l 2182) (n 15503 (l 125) (l 282)))) (n 17217 (n 15777 (l 626) (n 16814 (l 285) (l 1680))) (n 17843 (l 547) (n 18114 (l 2033) (l 1882)))))))
open HT in
def hT1 : HT := (n 25076 (n 21641 (n 19022 (n 18763 (n 18401 (l 2529) (l 2904)) (n 18799 (l 1735) (n 18896 (l 1248) (l 904)))) (n 20661 (n 19307 (l 2969) (n 19359 (l 345) (l 1860))) (n 20984 (l 2183) (n 21526 (l 265) (l 2255))))) (n 23323 (n 22864 (n 21985 (l 2819) (n 22783 (l 214) (l 277))) (n 22948 (l 1053) (n 22965 (l 1786) (l 86)))) (n 23594 (n 23510 (l 1338) (n 23572 (l 2038) (l 922))) (n 24079 (l 849) (n 24451 (l 1900) (l 1534)))))) (n 28834 (n 26779 (n 26430 (n 26219 (l 1599) (n 26287 (l 856) (l 1210))) (n 26459 (l 895) (n 26551 (l 1218) (l 2628)))) (n 27153 (n 26850 (l 1659) (n 26954 (l 876) (l 1620))) (n 27641 (l 1307) (n 28621 (l 215) (l 87))))) (n 30356 (n 29998 (n 29072 (l 407) (n 29787 (l 982) (l 1924))) (n 30140 (l 689) (n 30177 (l 2554) (l 841)))) (n 30735 (n 30454 (l 2332) (n 30503 (l 2834) (l 228))) (n 30909 (l 1664) (n 31168 (l 2050) (l 1812)))))))
open HT in
def hT2 : HT := (n 39733 (n 36189 (n 34333 (n 33396 (n 32173 (l 338) (l 2435)) (n 33398 (l 1177) (n 34055 (l 2748) (l 1816)))) (n 35043 (n 34433 (l 1376) (n 34728 (l 1737) (l 983))) (n 35551 (l 2814) (n 35870 (l 1086) (l 1477))))) (n 37566 (n 36521 (n 36242 (l 517) (n 36398 (l 408) (l 2389))) (n 37290 (l 2773) (n 37443 (l 1703) (l 941)))) (n 38610 (n 37744 (l 299) (n 38556 (l 1630) (l 1394))) (n 38991 (l 325) (n 39256 (l 2308) (l 921)))))) (n 44504 (n 42068 (n 40829 (n 39935 (l 2124) (n 40331 (l 2436) (l 2209))) (n 41786 (l 2352) (n 41842 (l 1262) (l 2086)))) (n 43595 (n 43027 (l 2911) (n 43122 (l 1995) (l 812))) (n 44177 (l 756) (n 44392 (l 476) (l 67))))) (n 46138 (n 45322 (n 44638 (l 409) (n 44818 (l 1708) (l 198))) (n 45397 (l 974) (n 46096 (l 1603) (l 495)))) (n 46915 (n 46256 (l 2833) (n 46810 (l 2764) (l 1930))) (n 46992 (l 1427) (n 47080 (l 1779) (l 1636)))))))
open HT in
def hT3 : HT := (n 56739 (n 51361 (n 49470 (n 48415 (n 48162 (l 828) (l 150)) (n 48631 (l 1141) (n 48836 (l 2710) (l 2017)))) (n 50320 (n 49611 (l 1984) (n 49809 (l 1795) (l 2653))) (n 50474 (l 2380) (n 51335 (l 199) (l 1902))))) (n 54270 (n 51944 (n 51805 (l 1124) (n 51812 (l 2822) (l 1723))) (n 53280 (l 2927) (n 54210 (l 1479) (l 1618)))) (n 55051 (n 54287 (l 2249) (n 54420 (l 2711) (l 152))) (n 55822 (l 140) (n 56546 (l 2283) (l 1385)))))) (n 60654 (n 58424 (n 57043 (n 56771 (l 2679) (n 56803 (l 1602) (l 2563))) (n 57612 (l 1922) (n 58289 (l 2334) (l 1830)))) (n 59597 (n 58697 (l 1810) (n 59583 (l 1997) (l 1048))) (n 59762 (l 2438) (n 59859 (l 879) (l 2140))))) (n 64175 (n 62038 (n 61447 (l 2750) (n 61766 (l 2850) (l 497))) (n 63558 (l 763) (n 63757 (l 1880) (l 1482)))) (n 65616 (n 64648 (l 1024) (n 65548 (l 1027) (l 2838))) (n 65830 (l 2578) (n 65926 (l 2505) (l 2523)))))))
open HT in
def hT4 : HT := (n 73424 (n 68298 (n 67191 (n 66642 (n 66342 (l 1447) (l 2707)) (n 66948 (l 431) (n 66989 (l 2340) (l 2126)))) (n 67614 (n 67314 (l 2434) (n 67488 (l 772) (l 2318))) (n 68191 (l 2929) (n 68197 (l 641) (l 2032))))) (n 71204 (n 69390 (n 68798 (l 727) (n 68975 (l 2004) (l 1142))) (n 70336 (l 1296) (n 70851 (l 1658) (l 754)))) (n 72409 (n 71414 (l 2839) (n 71433 (l 2035) (l 478))) (n 72415 (l 2681) (n 72689 (l 654) (l 316)))))) (n 77839 (n 75343 (n 73695 (n 73560 (l 247) (n 73671 (l 2150) (l 329))) (n 74631 (l 1249) (n 75217 (l 1143) (l 288)))) (n 76477 (n 76034 (l 25) (n 76346 (l 815) (l 1587))) (n 76536 (l 1609) (n 77718 (l 1990) (l 2793))))) (n 79304 (n 78752 (n 78029 (l 2600) (n 78126 (l 1547) (l 2342))) (n 79168 (l 2413) (n 79252 (l 2767) (l 2560)))) (n 80350 (n 79705 (l 2277) (n 80180 (l 2752) (l 1838))) (n 80656 (l 2060) (n 81743 (l 831) (l 1449)))))))
open HT in
def hT5 : HT := (n 87963 (n 84956 (n 82474 (n 81962 (n 81895 (l 660) (l 1452)) (n 82307 (l 390) (n 82312 (l 142) (l 433)))) (n 83588 (n 82617 (l 5) (n 83232 (l 823) (l 2383))) (n 84724 (l 2918) (n 84923 (l 2259) (l 2465))))) (n 86394 (n 86000 (n 85235 (l 1837) (n 85246 (l 1277) (l 1600))) (n 86020 (l 1989) (n 86382 (l 1657) (l 1242)))) (n 86993 (n 86481 (l 1305) (n 86591 (l 2923) (l 2025))) (n 87593 (l 1491) (n 87719 (l 1094) (l 380)))))) (n 91457 (n 88841 (n 88629 (n 88208 (l 143) (n 88337 (l 1123) (l 1567))) (n 88771 (l 507) (n 88838 (l 965) (l 2379)))) (n 90218 (n 88961 (l 1907) (n 89145 (l 2763) (l 1041))) (n 90623 (l 2311) (n 91050 (l 28) (l 315))))) (n 92503 (n 91754 (n 91664 (l 882) (n 91704 (l 1892) (l 817))) (n 92034 (l 1189) (n 92419 (l 149) (l 1847)))) (n 93699 (n 92667 (l 2709) (n 92771 (l 387) (l 2143))) (n 94170 (l 1549) (n 94301 (l 2238) (l 1121)))))))
open HT in
def hT6 : HT := (n 105888 (n 101006 (n 98047 (n 96964 (n 96757 (l 1736) (l 2986)) (n 97002 (l 376) (n 97303 (l 677) (l 797)))) (n 99305 (n 98314 (l 2716) (n 98855 (l 893) (l 931))) (n 99993 (l 2321) (n 100128 (l 730) (l 845))))) (n 102343 (n 101568 (n 101055 (l 2075) (n 101480 (l 912) (l 402))) (n 101669 (l 1642) (n 102066 (l 229) (l 1241)))) (n 104324 (n 102656 (l 1894) (n 102862 (l 672) (l 421))) (n 105601 (l 673) (n 105876 (l 319) (l 1802)))))) (n 112441 (n 109151 (n 108212 (n 106345 (l 2313) (n 107999 (l 174) (l 1895))) (n 108673 (l 17) (n 108912 (l 1004) (l 464)))) (n 110923 (n 109245 (l 1454) (n 110863 (l 1714) (l 2770))) (n 111738 (l 2122) (n 111963 (l 2001) (l 363))))) (n 114807 (n 113879 (n 113011 (l 2985) (n 113262 (l 1229) (l 2063))) (n 113883 (l 6) (n 114726 (l 1553) (l 359)))) (n 115864 (n 114820 (l 1455) (n 114927 (l 510) (l 2386))) (n 116525 (l 645) (n 116713 (l 1133) (l 2992)))))))
open HT in
def hT7 : HT := (n 123852 (n 121104 (n 119706 (n 118317 (n 118160 (l 303) (l 2614)) (n 118833 (l 2161) (n 119288 (l 2284) (l 1129)))) (n 120156 (n 119709 (l 1226) (n 119928 (l 505) (l 2804))) (n 120476 (l 132) (n 120631 (l 511) (l 383))))) (n 122385 (n 121510 (n 121124 (l 640) (n 121271 (l 2414) (l 321))) (n 122172 (l 2378) (n 122242 (l 1324) (l 968)))) (n 123242 (n 122768 (l 877) (n 123059 (l 948) (l 2099))) (n 123261 (l 534) (n 123535 (l 2168) (l 31)))))) (n 128898 (n 125247 (n 124420 (n 123977 (l 1514) (n 124018 (l 280) (l 2686))) (n 124881 (l 477) (n 125097 (l 1474) (l 1357)))) (n 127540 (n 126592 (l 2885) (n 126816 (l 298) (l 348))) (n 128597 (l 1958) (n 128815 (l 580) (l 1191))))) (n 131744 (n 129829 (n 128919 (l 535) (n 129401 (l 1971) (l 136))) (n 130959 (l 2408) (n 131404 (l 2719) (l 1034)))) (n 132780 (n 132489 (l 2267) (n 132682 (l 1) (l 2522))) (n 132822 (l 1496) (n 133074 (l 681) (l 230)))))))
open HT in
def hT8 : HT := (n 142695 (n 138599 (n 135929 (n 134054 (n 134033 (l 1988) (l 602)) (n 135209 (l 102) (n 135783 (l 2128) (l 2832)))) (n 137601 (n 137111 (l 1006) (n 137363 (l 2759) (l 2399))) (n 137923 (l 2497) (n 138004 (l 425) (l 1585))))) (n 141211 (n 139536 (n 139205 (l 2078) (n 139513 (l 33) (l 269))) (n 140565 (l 1513) (n 140799 (l 1473) (l 188)))) (n 141656 (n 141581 (l 955) (n 141585 (l 166) (l 1007))) (n 142218 (l 469) (n 142679 (l 1777) (l 52)))))) (n 147237 (n 144876 (n 144303 (n 143614 (l 2188) (n 144170 (l 1821) (l 1066))) (n 144485 (l 2280) (n 144835 (l 1193) (l 1176)))) (n 146236 (n 144903 (l 2564) (n 145466 (l 1354) (l 1164))) (n 146655 (l 2326) (n 147015 (l 309) (l 2133))))) (n 149908 (n 148460 (n 147412 (l 167) (n 148359 (l 130) (l 1667))) (n 149428 (l 2028) (n 149794 (l 1326) (l 189)))) (n 150921 (n 150041 (l 2862) (n 150785 (l 1793) (l 1752))) (n 151163 (l 2788) (n 151698 (l 1721) (l 2902)))))))
open HT in
def hT9 : HT := (n 158972 (n 155090 (n 153078 (n 152781 (n 152600 (l 2287) (l 1469)) (n 152814 (l 2761) (n 152918 (l 491) (l 1728)))) (n 153496 (n 153083 (l 42) (n 153319 (l 1666) (l 981))) (n 153666 (l 2454) (n 154072 (l 992) (l 350))))) (n 156915 (n 156505 (n 155302 (l 2548) (n 155457 (l 411) (l 771))) (n 156749 (l 2705) (n 156808 (l 779) (l 1180)))) (n 157977 (n 157172 (l 1499) (n 157377 (l 1682) (l 2958))) (n 158161 (l 2520) (n 158328 (l 713) (l 2295)))))) (n 160788 (n 159728 (n 159244 (n 159152 (l 2948) (l 2455)) (n 159345 (l 2868) (n 159713 (l 2531) (l 747)))) (n 160613 (n 159864 (l 351) (n 160347 (l 1181) (l 1045))) (n 160696 (l 2701) (n 160787 (l 611) (l 1208))))) (n 163096 (n 161868 (n 160886 (l 1272) (n 161122 (l 1508) (l 59))) (n 161889 (l 1448) (n 162211 (l 620) (l 1300)))) (n 164178 (n 163376 (l 129) (n 163458 (l 2729) (l 1310))) (n 164471 (l 1967) (n 164733 (l 2528) (l 1577)))))))
open HT in
def hT10 : HT := (n 171728 (n 168993 (n 167165 (n 166082 (n 166072 (l 1434) (l 1742)) (n 166422 (l 2984) (n 166922 (l 798) (l 990)))) (n 168484 (n 168304 (l 2395) (n 168475 (l 635) (l 83))) (n 168535 (l 493) (n 168762 (l 2806) (l 41))))) (n 170646 (n 169951 (n 169935 (l 2867) (n 169949 (l 50) (l 1286))) (n 170237 (l 2190) (n 170428 (l 1414) (l 1859)))) (n 171191 (n 170920 (l 106) (n 171127 (l 101) (l 773))) (n 171389 (l 2058) (n 171537 (l 2661) (l 577)))))) (n 175402 (n 174171 (n 172585 (n 171760 (l 1111) (n 172132 (l 1940) (l 2562))) (n 173711 (l 1501) (n 173900 (l 191) (l 936)))) (n 174836 (n 174224 (l 2419) (n 174647 (l 2363) (l 1944))) (n 174853 (l 1328) (n 175019 (l 2739) (l 1814))))) (n 176792 (n 175893 (n 175615 (l 2648) (n 175783 (l 576) (l 1670))) (n 176753 (l 1415) (n 176755 (l 1002) (l 2828)))) (n 177687 (n 177335 (l 61) (n 177494 (l 1253) (l 2603))) (n 178177 (l 2875) (n 178304 (l 2786) (l 2252)))))))
open HT in
def hT11 : HT := (n 187287 (n 181467 (n 179900 (n 179047 (n 178973 (l 1764) (l 2738)) (n 179269 (l 2103) (n 179606 (l 606) (l 662)))) (n 180675 (n 180107 (l 2931) (n 180654 (l 2951) (l 1283))) (n 181079 (l 1815) (n 181372 (l 2884) (l 2031))))) (n 185262 (n 182560 (n 182112 (l 846) (n 182346 (l 1563) (l 2546))) (n 182561 (l 2489) (n 183208 (l 2394) (l 892)))) (n 185425 (n 185274 (l 663) (n 185362 (l 369) (l 1625))) (n 186020 (l 1698) (n 186875 (l 821) (l 2057)))))) (n 190401 (n 189467 (n 188564 (n 188142 (l 2444) (n 188502 (l 1506) (l 256))) (n 189145 (l 2909) (n 189364 (l 622) (l 1744)))) (n 190203 (n 189852 (l 1298) (n 190023 (l 712) (l 2298))) (n 190300 (l 1923) (n 190324 (l 2720) (l 2888))))) (n 192087 (n 191444 (n 190803 (l 313) (n 191065 (l 852) (l 444))) (n 191733 (l 16) (n 191858 (l 901) (l 548)))) (n 192949 (n 192453 (l 216) (n 192541 (l 888) (l 1443))) (n 193861 (l 2901) (n 194096 (l 2785) (l 459)))))))
open HT in
def hT12 : HT := (n 200452 (n 196072 (n 194805 (n 194716 (n 194657 (l 85) (l 2737)) (n 194717 (l 279) (n 194801 (l 2105) (l 623)))) (n 195570 (n 195275 (l 455) (n 195563 (l 1313) (l 1441))) (n 195777 (l 2933) (n 195946 (l 2953) (l 2135))))) (n 198721 (n 196925 (n 196505 (l 261) (n 196556 (l 1782) (l 2512))) (n 197386 (l 1175) (n 198145 (l 703) (l 1184)))) (n 199754 (n 199014 (l 2353) (n 199016 (l 778) (l 1938))) (n 199844 (l 2141) (n 200016 (l 1206) (l 1214)))))) (n 203508 (n 201260 (n 200891 (n 200511 (l 953) (n 200605 (l 1612) (l 1876))) (n 201109 (l 2357) (n 201142 (l 1697) (l 1741)))) (n 202874 (n 202152 (l 1155) (n 202730 (l 63) (l 1981))) (n 203344 (l 492) (n 203409 (l 1916) (l 2547))))) (n 204466 (n 204197 (n 203697 (l 2660) (n 204011 (l 2550) (l 2830))) (n 204292 (l 839) (n 204401 (l 1408) (l 976)))) (n 205151 (n 204725 (l 2046) (n 205097 (l 1804) (l 2963))) (n 205221 (l 1297) (n 205304 (l 2743) (l 2361)))))))
open HT in
def hT13 : HT := (n 210464 (n 207957 (n 205759 (n 205420 (n 205406 (l 334) (l 194)) (n 205560 (l 2160) (n 205571 (l 2254) (l 1899)))) (n 206536 (n 206147 (l 971) (n 206416 (l 1762) (l 2582))) (n 207540 (l 1845) (n 207646 (l 2212) (l 1497))))) (n 209521 (n 208798 (n 207962 (l 685) (n 208335 (l 1258) (l 2882))) (n 208996 (l 861) (n 209281 (l 1808) (l 2203)))) (n 209816 (n 209667 (l 1733) (n 209766 (l 2831) (l 461))) (n 210073 (l 987) (n 210386 (l 1170) (l 281)))))) (n 214700 (n 212865 (n 211944 (n 210475 (l 894) (n 210601 (l 457) (l 695))) (n 212113 (l 1139) (n 212543 (l 1390) (l 1100)))) (n 213229 (n 212986 (l 1949) (n 213067 (l 1540) (l 2034))) (n 213339 (l 2858) (n 214543 (l 2530) (l 2446))))) (n 216930 (n 215198 (n 214803 (l 1937) (n 215128 (l 1244) (l 519))) (n 216045 (l 1017) (n 216150 (l 2020) (l 1282)))) (n 217173 (n 216938 (l 1157) (n 216961 (l 564) (l 618))) (n 217799 (l 1559) (n 217822 (l 2247) (l 65)))))))
open HT in
def hT14 : HT := (n 226770 (n 223667 (n 219620 (n 218554 (n 218399 (l 1864) (l 221)) (n 218609 (l 1205) (n 219114 (l 810) (l 546)))) (n 222586 (n 220199 (l 906) (n 220367 (l 2447) (l 1926))) (n 223360 (l 2083) (n 223420 (l 91) (l 428))))) (n 224677 (n 224019 (n 223829 (l 2189) (n 223977 (l 2651) (l 447))) (n 224100 (l 2881) (n 224308 (l 1237) (l 1046)))) (n 225486 (n 224951 (l 2202) (n 225405 (l 2205) (l 245))) (n 225828 (l 2632) (n 226607 (l 1855) (l 2104)))))) (n 230600 (n 228768 (n 227861 (n 227545 (l 212) (n 227767 (l 633) (l 1614))) (n 228620 (l 1874) (n 228697 (l 1178) (l 1337)))) (n 230328 (n 229576 (l 1933) (n 230069 (l 1492) (l 244))) (n 230366 (l 1598) (n 230492 (l 115) (l 592))))) (n 235141 (n 232192 (n 230764 (l 1918) (n 231981 (l 2658) (l 1806))) (n 233397 (l 1523) (n 233423 (l 2016) (l 1615)))) (n 236256 (n 235400 (l 1173) (n 235908 (l 644) (l 1645))) (n 236877 (l 1919) (n 236916 (l 1409) (l 2746)))))))
open HT in
def hT15 : HT := (n 244006 (n 240410 (n 238489 (n 237637 (n 237314 (l 223) (l 1478)) (n 237926 (l 1807) (n 238460 (l 2312) (l 811)))) (n 239173 (n 238548 (l 2067) (n 238870 (l 2093) (l 2440))) (n 239315 (l 2574) (n 240006 (l 2039) (l 1607))))) (n 242947 (n 241247 (n 240773 (l 257) (n 240918 (l 2678) (l 2501))) (n 242355 (l 2791) (n 242548 (l 1996) (l 2315)))) (n 243497 (n 243036 (l 1264) (n 243106 (l 549) (l 1374))) (n 243868 (l 2626) (n 243893 (l 740) (l 1654)))))) (n 246646 (n 245432 (n 244408 (n 244194 (l 1101) (n 244340 (l 562) (l 2852))) (n 244645 (l 750) (n 245213 (l 648) (l 195)))) (n 246000 (n 245455 (l 668) (n 245649 (l 1103) (l 1963))) (n 246404 (l 485) (n 246480 (l 2431) (l 2185))))) (n 248512 (n 247862 (n 247497 (l 1652) (n 247715 (l 2685) (l 1247))) (n 248217 (l 1525) (n 248509 (l 2935) (l 2580)))) (n 249494 (n 248774 (l 251) (n 249094 (l 224) (l 205))) (n 250120 (l 2250) (n 250676 (l 2023) (l 430)))))))
open HT in
def hT16 : HT := (n 258943 (n 254991 (n 253247 (n 251356 (n 250927 (l 1035) (l 1140)) (n 252809 (l 1087) (n 253113 (l 1536) (l 744)))) (n 254026 (n 253324 (l 1699) (n 253549 (l 2275) (l 1631))) (n 254440 (l 210) (n 254985 (l 89) (l 2041))))) (n 256832 (n 255926 (n 255138 (l 1548) (n 255283 (l 862) (l 1187))) (n 255937 (l 1537) (n 256354 (l 2306) (l 1044)))) (n 258434 (n 257325 (l 1490) (n 257591 (l 242) (l 1263))) (n 258794 (l 2760) (n 258803 (l 2136) (l 1472)))))) (n 263745 (n 261796 (n 259531 (n 259181 (l 2463) (n 259425 (l 2625) (l 2156))) (n 259939 (l 1888) (n 260584 (l 1238) (l 2403)))) (n 262915 (n 261903 (l 733) (n 261962 (l 501) (l 2845))) (n 262974 (l 439) (n 263579 (l 1822) (l 2755))))) (n 265883 (n 265014 (n 263967 (l 2125) (n 264182 (l 151) (l 253))) (n 265221 (l 878) (n 265579 (l 1884) (l 2478)))) (n 266723 (n 266249 (l 2344) (n 266518 (l 776) (l 2817))) (n 267026 (l 445) (n 267138 (l 1089) (l 759)))))))
open HT in
def hT17 : HT := (n 274498 (n 271430 (n 269853 (n 269370 (n 269219 (l 1844) (l 1633)) (n 269710 (l 1147) (n 269808 (l 209) (l 26)))) (n 270923 (n 270211 (l 1364) (n 270314 (l 69) (l 2982))) (n 271182 (l 554) (n 271323 (l 1468) (l 795))))) (n 272688 (n 272011 (n 271614 (l 531) (n 271621 (l 1683) (l 2305))) (n 272310 (l 720) (n 272516 (l 1828) (l 1489)))) (n 273417 (n 272942 (l 670) (n 273261 (l 2794) (l 1265))) (n 274094 (l 2335) (n 274497 (l 1831) (l 420)))))) (n 276797 (n 276250 (n 275267 (n 274915 (l 2240) (n 275076 (l 2484) (l 2470))) (n 275531 (l 1999) (n 275970 (l 1571) (l 2983)))) (n 276453 (n 276254 (l 571) (n 276293 (l 2405) (l 201))) (n 276540 (l 1846) (n 276777 (l 1227) (l 80))))) (n 278329 (n 277845 (n 277077 (l 977) (n 277530 (l 1037) (l 1520))) (n 277865 (l 235) (n 278183 (l 2829) (l 1138)))) (n 279637 (n 278344 (l 787) (n 279502 (l 671) (l 2596))) (n 279698 (l 153) (n 279912 (l 1378) (l 2938)))))))
open HT in
def hT18 : HT := (n 288610 (n 284432 (n 282808 (n 281024 (n 280498 (l 2713) (l 1751)) (n 281815 (l 82) (n 282622 (l 2026) (l 2565)))) (n 283280 (n 282810 (l 761) (n 283087 (l 1905) (l 1891))) (n 283983 (l 2825) (n 284260 (l 2915) (l 770))))) (n 287158 (n 286554 (n 284482 (l 627) (n 284497 (l 2861) (l 2451))) (n 286719 (l 956) (n 287100 (l 794) (l 533)))) (n 287903 (n 287347 (l 1851) (n 287730 (l 1060) (l 890))) (n 288220 (l 1551) (n 288458 (l 655) (l 1711)))))) (n 293263 (n 289764 (n 289119 (n 288776 (l 707) (l 2883)) (n 289238 (l 2805) (n 289635 (l 172) (l 318)))) (n 291583 (n 291149 (l 1833) (n 291201 (l 1788) (l 1573))) (n 292337 (l 2731) (n 292477 (l 2159) (l 1886))))) (n 294141 (n 293713 (n 293308 (l 1222) (n 293358 (l 1127) (l 2491))) (n 293867 (l 124) (n 293931 (l 1137) (l 2343)))) (n 294661 (n 294486 (l 2396) (n 294610 (l 1543) (l 442))) (n 295655 (l 384) (n 295832 (l 1016) (l 1424)))))))
open HT in
def hT19 : HT := (n 302165 (n 298438 (n 297109 (n 296708 (n 296325 (l 2643) (l 940)) (n 296982 (l 81) (n 297023 (l 2712) (l 2841)))) (n 297589 (n 297296 (l 1362) (n 297409 (l 2062) (l 1510))) (n 297725 (l 2898) (n 298133 (l 328) (l 1887))))) (n 299944 (n 298760 (n 298440 (l 1470) (n 298757 (l 475) (l 1893))) (n 299365 (l 358) (n 299835 (l 272) (l 2598)))) (n 300983 (n 300112 (l 769) (n 300450 (l 2612) (l 1145))) (n 301753 (l 2848) (n 302154 (l 418) (l 572)))))) (n 304002 (n 303355 (n 302821 (n 302171 (l 1589) (n 302403 (l 2482) (l 793))) (n 302908 (l 704) (n 303065 (l 481) (l 1511)))) (n 303414 (n 303376 (l 516) (n 303386 (l 691) (l 2392))) (n 303436 (l 889) (n 303890 (l 18) (l 657))))) (n 306460 (n 304217 (n 304017 (l 826) (n 304141 (l 2412) (l 2410))) (n 304640 (l 867) (n 304961 (l 2996) (l 1030)))) (n 307590 (n 306758 (l 2552) (n 306942 (l 2594) (l 1641))) (n 307774 (l 598) (n 308468 (l 1476) (l 1352)))))))
open HT in
def hT20 : HT := (n 316306 (n 312300 (n 309679 (n 309271 (n 309028 (l 2096) (l 2493)) (n 309589 (l 1435) (n 309601 (l 2282) (l 2345)))) (n 311621 (n 310652 (l 2893) (n 311250 (l 1686) (l 1801))) (n 311655 (l 2495) (n 311895 (l 1841) (l 2519))))) (n 314448 (n 313437 (n 312793 (l 2925) (n 313273 (l 1361) (l 2897))) (n 314027 (l 393) (n 314228 (l 1125) (l 1075)))) (n 315659 (n 314603 (l 509) (n 315063 (l 1058) (l 2921))) (n 315776 (l 40) (n 316236 (l 1461) (l 44)))))) (n 319068 (n 317851 (n 317604 (n 316567 (l 2944) (n 317086 (l 1397) (l 2197))) (n 317621 (l 2234) (n 317727 (l 2349) (l 1062)))) (n 318460 (n 318370 (l 2048) (n 318442 (l 2213) (l 2569))) (n 318486 (l 1350) (n 318555 (l 389) (l 2619))))) (n 319931 (n 319638 (n 319466 (l 1097) (n 319476 (l 959) (l 563))) (n 319856 (l 1221) (n 319887 (l 2889) (l 869)))) (n 321346 (n 320441 (l 162) (n 320969 (l 1348) (l 126))) (n 322150 (l 2117) (n 322777 (l 175) (l 2995)))))))
open HT in
def hT21 : HT := (n 331933 (n 327339 (n 325645 (n 324061 (n 323761 (l 1516) (l 1028)) (n 324187 (l 1791) (n 325633 (l 1939) (l 1730)))) (n 326625 (n 325981 (l 2241) (n 326397 (l 1104) (l 2799))) (n 326635 (l 127) (n 327287 (l 38) (l 682))))) (n 329898 (n 328647 (n 327368 (l 979) (n 328432 (l 2610) (l 1059))) (n 329237 (l 2540) (n 329684 (l 943) (l 7)))) (n 330615 (n 330287 (l 1077) (n 330394 (l 1057) (l 2972))) (n 330729 (l 2170) (n 330889 (l 1678) (l 1156)))))) (n 336929 (n 334240 (n 332801 (n 332068 (l 2373) (n 332538 (l 1992) (l 1428))) (n 333147 (l 2860) (n 333288 (l 426) (l 2233)))) (n 336385 (n 335203 (l 2459) (n 335768 (l 2613) (l 1292))) (n 336447 (l 1679) (n 336664 (l 1083) (l 133))))) (n 339435 (n 337820 (n 337015 (l 2415) (n 337750 (l 293) (l 429))) (n 338447 (l 177) (n 338967 (l 2997) (l 74)))) (n 340134 (n 339540 (l 1430) (n 339602 (l 523) (l 1983))) (n 340626 (l 1160) (n 341052 (l 1457) (l 2778)))))))
open HT in
def hT22 : HT := (n 350981 (n 347096 (n 345317 (n 344102 (n 343492 (l 1319) (l 46)) (n 344748 (l 1061) (n 345260 (l 2054) (l 1074)))) (n 346257 (n 345966 (l 1932) (n 346089 (l 2276) (l 2487))) (n 346295 (l 2218) (n 346387 (l 513) (l 1722))))) (n 349172 (n 347518 (n 347249 (l 107) (n 347457 (l 2224) (l 920))) (n 348879 (l 1693) (n 349148 (l 231) (l 47)))) (n 350079 (n 349635 (l 448) (n 349859 (l 2617) (l 103))) (n 350432 (l 1986) (n 350507 (l 2027) (l 2998)))))) (n 352483 (n 351355 (n 351084 (n 351017 (l 1411) (n 351025 (l 1026) (l 2180))) (n 351161 (l 2768) (n 351197 (l 962) (l 1883)))) (n 351852 (n 351547 (l 1251) (n 351734 (l 0) (l 2782))) (n 351973 (l 360) (n 352448 (l 2688) (l 1756))))) (n 354636 (n 353978 (n 352607 (l 372) (n 353635 (l 2443) (l 1204))) (n 354164 (l 2061) (n 354251 (l 700) (l 803)))) (n 354814 (n 354717 (l 2876) (n 354790 (l 537) (l 1198))) (n 355262 (l 352) (n 355343 (l 899) (l 2100)))))))
open HT in
def hT23 : HT := (n 361559 (n 358115 (n 356163 (n 355903 (n 355493 (l 2853) (l 2689)) (n 355966 (l 2542) (n 356118 (l 999) (l 2390)))) (n 357452 (n 356736 (l 2999) (n 357215 (l 2777) (l 739))) (n 357907 (l 2074) (n 357924 (l 2952) (l 347))))) (n 360040 (n 358748 (n 358457 (l 2725) (n 358681 (l 1665) (l 949))) (n 359382 (l 2402) (n 359794 (l 1623) (l 1426)))) (n 360494 (n 360151 (l 819) (n 360221 (l 1611) (l 374))) (n 360785 (l 937) (n 360932 (l 100) (l 946)))))) (n 364265 (n 363024 (n 362041 (n 361699 (l 2543) (n 361866 (l 1502) (l 2740))) (n 362162 (l 2327) (n 362969 (l 604) (l 1013)))) (n 363409 (n 363081 (l 1294) (n 363306 (l 2102) (l 2975))) (n 363580 (l 696) (n 363857 (l 2294) (l 2656))))) (n 365713 (n 365430 (n 364549 (l 2003) (n 365421 (l 233) (l 465))) (n 365529 (l 848) (n 365609 (l 105) (l 2009)))) (n 365930 (n 365763 (l 2863) (n 365877 (l 1985) (l 375))) (n 366651 (l 2356) (n 368414 (l 1413) (l 274)))))))
open HT in
def hT24 : HT := (n 375032 (n 372327 (n 370113 (n 369979 (n 369007 (l 1370) (l 1387)) (n 370030 (l 2663) (n 370074 (l 104) (l 2081)))) (n 370967 (n 370661 (l 2480) (n 370674 (l 116) (l 213))) (n 371729 (l 593) (n 372078 (l 1320) (l 1211))))) (n 373611 (n 372611 (n 372571 (l 859) (n 372573 (l 774) (l 1934))) (n 373050 (l 746) (n 373222 (l 1731) (l 2274)))) (n 373786 (n 373668 (l 1877) (n 373754 (l 2358) (l 1182))) (n 374162 (l 2107) (n 374196 (l 1868) (l 1824)))))) (n 378399 (n 377060 (n 375563 (n 375037 (l 717) (n 375481 (l 1322) (l 2429))) (n 375918 (l 932) (n 376124 (l 2946) (l 2372)))) (n 377985 (n 377065 (l 2291) (n 377784 (l 2652) (l 2490))) (n 378229 (l 1404) (n 378281 (l 1935) (l 2178))))) (n 381361 (n 379704 (n 378895 (l 118) (n 379324 (l 1531) (l 2359))) (n 380061 (l 1758) (n 380903 (l 1648) (l 1329)))) (n 381892 (n 381383 (l 1878) (n 381519 (l 2865) (l 1254))) (n 382599 (l 2878) (n 382606 (l 2098) (l 1852)))))))
open HT in
def hT25 : HT := (n 388906 (n 385547 (n 384098 (n 383886 (n 383630 (l 64) (l 1166)) (n 384055 (l 1453) (n 384085 (l 119) (l 349)))) (n 385369 (n 384677 (l 273) (n 385360 (l 1389) (l 1759))) (n 385439 (l 2376) (n 385532 (l 916) (l 749))))) (n 387548 (n 386897 (n 385625 (l 353) (n 386570 (l 314) (l 1334))) (n 387251 (l 692) (n 387361 (l 160) (l 2816)))) (n 388041 (n 387708 (l 2879) (n 387935 (l 1522) (l 2393))) (n 388295 (l 98) (n 388551 (l 745) (l 1220)))))) (n 390887 (n 389798 (n 389455 (n 389104 (l 2273) (n 389286 (l 123) (l 1167))) (n 389456 (l 283) (n 389707 (l 2109) (l 1278)))) (n 390495 (n 390000 (l 2620) (n 390375 (l 440) (l 336))) (n 390787 (l 556) (n 390793 (l 1442) (l 552))))) (n 392700 (n 392089 (n 391602 (l 2987) (n 391851 (l 2945) (l 1848))) (n 392146 (l 786) (n 392442 (l 1978) (l 2855)))) (n 393177 (n 392730 (l 2967) (n 392984 (l 2293) (l 2397))) (n 393186 (l 902) (n 393750 (l 2354) (l 220)))))))
open HT in
def hT26 : HT := (n 400648 (n 397272 (n 395627 (n 395001 (n 394662 (l 1530) (l 263)) (n 395074 (l 2978) (n 395363 (l 607) (l 1279)))) (n 396461 (n 396232 (l 2243) (n 396422 (l 2532) (l 1766))) (n 396542 (l 275) (n 397258 (l 1051) (l 53))))) (n 399267 (n 397917 (n 397547 (l 847) (n 397897 (l 1745) (l 801))) (n 398397 (l 114) (n 399162 (l 993) (l 518)))) (n 400010 (n 399445 (l 1555) (n 399990 (l 2837) (l 2421))) (n 400327 (l 2809) (n 400618 (l 204) (l 403)))))) (n 403313 (n 402769 (n 401674 (n 401424 (l 1396) (n 401426 (l 1289) (l 2193))) (n 402077 (l 2666) (n 402238 (l 2091) (l 2300)))) (n 403063 (n 402819 (l 2517) (n 402870 (l 930) (l 1498))) (n 403133 (l 2571) (n 403182 (l 1484) (l 2428))))) (n 404321 (n 403626 (n 403380 (l 2605) (n 403566 (l 2370) (l 1950))) (n 403725 (l 236) (n 404049 (l 97) (l 560)))) (n 405250 (n 404447 (l 2654) (n 405241 (l 2499) (l 1406))) (n 405849 (l 528) (n 405924 (l 2797) (l 2840)))))))
open HT in
def hT27 : HT := (n 412902 (n 409977 (n 407077 (n 406484 (n 406475 (l 1162) (l 2216)) (n 406494 (l 2624) (n 407074 (l 1817) (l 1871)))) (n 408957 (n 407258 (l 58) (n 407931 (l 1673) (l 1565))) (n 409862 (l 636) (n 409867 (l 1854) (l 515))))) (n 411081 (n 410473 (n 410199 (l 2655) (n 410327 (l 2771) (l 1628))) (n 410744 (l 2742) (n 410897 (l 609) (l 1407)))) (n 412288 (n 411121 (l 665) (n 411960 (l 939) (l 29))) (n 412427 (l 323) (n 412695 (l 2424) (l 914)))))) (n 417425 (n 414009 (n 413226 (n 412934 (l 1956) (l 919)) (n 413260 (l 586) (n 413587 (l 2514) (l 173)))) (n 414980 (n 414448 (l 2207) (n 414937 (l 2704) (l 1557))) (n 415409 (l 2024) (n 417054 (l 1003) (l 2622))))) (n 419091 (n 418771 (n 417751 (l 732) (n 417905 (l 558) (l 972))) (n 418863 (l 706) (n 419064 (l 1604) (l 2369)))) (n 421006 (n 420203 (l 1403) (n 420620 (l 1644) (l 625))) (n 421517 (l 222) (n 422030 (l 2683) (l 1161)))))))
open HT in
def hT28 : HT := (n 430561 (n 426357 (n 424134 (n 422761 (n 422514 (l 617) (l 2015)) (n 423114 (l 57) (n 423407 (l 203) (l 559)))) (n 424488 (n 424395 (l 1866) (n 424484 (l 2970) (l 1132))) (n 425432 (l 545) (n 426051 (l 499) (l 1867))))) (n 429866 (n 427980 (n 427583 (l 266) (n 427644 (l 206) (l 2629))) (n 428944 (l 1785) (n 429494 (l 2513) (l 2302)))) (n 430330 (n 430051 (l 1091) (n 430073 (l 2201) (l 2045))) (n 430389 (l 2674) (n 430438 (l 1486) (l 2430)))))) (n 436785 (n 434965 (n 431169 (n 430916 (l 764) (n 430958 (l 2965) (l 1067))) (n 431319 (l 437) (n 433410 (l 1209) (l 1637)))) (n 435941 (n 435172 (l 557) (n 435855 (l 2553) (l 2916))) (n 436045 (l 2049) (n 436538 (l 1487) (l 239))))) (n 439839 (n 439440 (n 437035 (l 337) (n 437891 (l 2257) (l 2585))) (n 439508 (l 2328) (n 439818 (l 2503) (l 1865)))) (n 441086 (n 440071 (l 1256) (n 440158 (l 2316) (l 1954))) (n 441721 (l 2584) (n 441869 (l 1869) (l 639)))))))
open HT in
def hT29 : HT := (n 450303 (n 445731 (n 444480 (n 443150 (n 442972 (l 1836) (l 2824)) (n 443410 (l 1946) (n 443588 (l 1356) (l 1393)))) (n 444998 (n 444590 (l 550) (n 444681 (l 487) (l 734))) (n 445054 (l 652) (n 445536 (l 2631) (l 1093))))) (n 448472 (n 447459 (n 445867 (l 2932) (n 446628 (l 1820) (l 1069))) (n 448054 (l 1646) (n 448405 (l 412) (l 2085)))) (n 449664 (n 448684 (l 2476) (n 449021 (l 218) (l 23))) (n 449698 (l 90) (n 450136 (l 43) (l 551)))))) (n 452430 (n 451067 (n 450502 (n 450334 (l 864) (n 450337 (l 48) (l 735))) (n 450809 (l 1344) (n 450817 (l 2847) (l 975)))) (n 451842 (n 451740 (l 2472) (n 451744 (l 1134) (l 966))) (n 451885 (l 1929) (n 452208 (l 2827) (l 241))))) (n 453864 (n 453115 (n 453059 (l 2411) (n 453095 (l 2588) (l 1200))) (n 453469 (l 1647) (n 453549 (l 2934) (l 884)))) (n 455526 (n 454209 (l 1271) (n 454978 (l 2018) (l 2575))) (n 455531 (l 2110) (n 455783 (l 2634) (l 1049)))))))
open HT in
def hT30 : HT := (n 463917 (n 459961 (n 457817 (n 456828 (n 456152 (l 13) (l 3)) (n 457396 (l 824) (n 457400 (l 1135) (l 967)))) (n 459242 (n 458333 (l 766) (n 458485 (l 1706) (l 208))) (n 459678 (l 1617) (n 459698 (l 1987) (l 1655))))) (n 462075 (n 460445 (n 460072 (l 1720) (n 460276 (l 1303) (l 790))) (n 461287 (l 1128) (n 461803 (l 886) (l 1601)))) (n 463111 (n 462193 (l 1921) (n 462823 (l 1381) (l 1039))) (n 463240 (l 2914) (n 463456 (l 726) (l 1809)))))) (n 469784 (n 465712 (n 464852 (n 464532 (l 84) (n 464815 (l 1750) (l 1638))) (n 465092 (l 1829) (n 465368 (l 2439) (l 45)))) (n 468728 (n 465903 (l 147) (n 465932 (l 608) (l 791))) (n 468789 (l 395) (n 469123 (l 1481) (l 1798))))) (n 470648 (n 470151 (n 469813 (l 2650) (n 469821 (l 1955) (l 820))) (n 470451 (l 1576) (n 470468 (l 723) (l 680)))) (n 471203 (n 470666 (l 2577) (n 470943 (l 1358) (l 863))) (n 471337 (l 2506) (n 471992 (l 1716) (l 891)))))))
open HT in
def hT31 : HT := (n 477698 (n 475184 (n 473669 (n 472922 (n 472492 (l 432) (l 1710)) (n 472983 (l 240) (n 473564 (l 2319) (l 642)))) (n 474581 (n 474017 (l 2604) (n 474063 (l 1705) (l 404))) (n 474895 (l 1377) (n 474985 (l 75) (l 1707))))) (n 476322 (n 475347 (n 475215 (l 1839) (n 475310 (l 1236) (l 414))) (n 475883 (l 227) (n 476285 (l 753) (l 490)))) (n 476928 (n 476748 (l 1359) (n 476912 (l 2171) (l 508))) (n 477036 (l 479) (n 477559 (l 2227) (l 822)))))) (n 480615 (n 478837 (n 478770 (n 478153 (l 2406) (n 478197 (l 1507) (l 2988))) (n 478779 (l 1580) (n 478795 (l 1823) (l 2913)))) (n 480081 (n 479305 (l 646) (n 479504 (l 1459) (l 355))) (n 480315 (l 1568) (n 480482 (l 2590) (l 2900))))) (n 481899 (n 481150 (n 480951 (l 2195) (n 480966 (l 755) (l 415))) (n 481336 (l 2347) (n 481384 (l 570) (l 2479)))) (n 482124 (n 481902 (l 2211) (n 482025 (l 1195) (l 1336))) (n 483175 (l 1572) (n 483407 (l 2796) (l 1584)))))))
open HT in
def hT32 : HT := (n 493658 (n 488160 (n 485559 (n 484493 (n 484225 (l 1781) (l 2089)) (n 485468 (l 647) (n 485489 (l 2649) (l 952)))) (n 486613 (n 485847 (l 1274) (n 485971 (l 1402) (l 2591))) (n 487116 (l 865) (n 487353 (l 1450) (l 2754))))) (n 491767 (n 490257 (n 488220 (l 1054) (n 488264 (l 2886) (l 827))) (n 490655 (l 1896) (n 491561 (l 1709) (l 1068)))) (n 492418 (n 491954 (l 1306) (n 492344 (l 2304) (l 716))) (n 492854 (l 2173) (n 493488 (l 2244) (l 158)))))) (n 496380 (n 494467 (n 493914 (n 493688 (l 1219) (n 493876 (l 2130) (l 2887))) (n 494302 (l 2228) (n 494449 (l 2477) (l 1825)))) (n 495929 (n 494896 (l 250) (n 495776 (l 2064) (l 2336))) (n 496063 (l 2518) (n 496249 (l 875) (l 2597))))) (n 497054 (n 496636 (n 496489 (l 1980) (n 496601 (l 881) (l 2684))) (n 496720 (l 417) (n 497020 (l 2464) (l 569)))) (n 498489 (n 497077 (l 2481) (n 497318 (l 818) (l 1020))) (n 498626 (l 1163) (n 498633 (l 1910) (l 8)))))))
open HT in
def hT33 : HT := (n 510151 (n 505625 (n 503037 (n 499538 (n 499030 (l 2611) (l 2800)) (n 500925 (l 1072) (n 502471 (l 2606) (l 1234)))) (n 504282 (n 503745 (l 2753) (n 504148 (l 2504) (l 789))) (n 504446 (l 1911) (n 505453 (l 1148) (l 2990))))) (n 507550 (n 506551 (n 506095 (l 1976) (n 506500 (l 1420) (l 679))) (n 506581 (l 2473) (n 506709 (l 2607) (l 1480)))) (n 509006 (n 507928 (l 2264) (n 508141 (l 1849) (l 2037))) (n 509372 (l 179) (n 509802 (l 2129) (l 2917)))))) (n 513180 (n 511730 (n 510575 (n 510316 (l 249) (n 510431 (l 2453) (l 2798))) (n 511109 (l 308) (n 511182 (l 2991) (l 2076)))) (n 512357 (n 512152 (l 302) (n 512190 (l 2581) (l 834))) (n 512524 (l 2235) (n 512907 (l 70) (l 2570))))) (n 514292 (n 513814 (n 513191 (l 2157) (n 513691 (l 267) (l 1144))) (n 514159 (l 2146) (n 514243 (l 1165) (l 1471)))) (n 514963 (n 514418 (l 1098) (n 514633 (l 388) (l 1371))) (n 515871 (l 2281) (n 515943 (l 1546) (l 2153)))))))
open HT in
def hT34 : HT := (n 524099 (n 519814 (n 518045 (n 517292 (n 516330 (l 1800) (l 1662)) (n 517322 (l 1819) (n 517409 (l 36) (l 1325)))) (n 519264 (n 518817 (l 128) (n 518919 (l 1070) (l 1993))) (n 519499 (l 1684) (n 519600 (l 2509) (l 718))))) (n 521229 (n 520693 (n 519959 (l 2214) (n 520335 (l 2385) (l 1780))) (n 521030 (l 2131) (n 521170 (l 1936) (l 2226)))) (n 522380 (n 521331 (l 1463) (n 522219 (l 870) (l 2940))) (n 523636 (l 1749) (n 523952 (l 1982) (l 1889)))))) (n 528153 (n 524746 (n 524641 (n 524112 (l 800) (n 524574 (l 524) (l 1022))) (n 524718 (l 2736) (n 524738 (l 958) (l 1225)))) (n 526080 (n 525256 (l 2724) (n 525666 (l 719) (l 1668))) (n 526457 (l 138) (n 528027 (l 1687) (l 2237))))) (n 529329 (n 528900 (n 528771 (l 1076) (n 528858 (l 2065) (l 934))) (n 529042 (l 2092) (n 529195 (l 1898) (l 693)))) (n 530230 (n 529513 (l 2968) (n 529960 (l 2687) (l 2956))) (n 530235 (l 1023) (n 530303 (l 361) (l 1373)))))))
open HT in
def hT35 : HT := (n 538778 (n 534564 (n 532305 (n 531178 (n 531009 (l 1152) (l 2070)) (n 531310 (l 2448) (n 531839 (l 2601) (l 711)))) (n 534265 (n 533351 (l 2398) (n 534025 (l 1422) (l 1043))) (n 534342 (l 1351) (n 534470 (l 92) (l 1627))))) (n 537054 (n 536041 (n 535379 (l 1595) (n 535999 (l 2558) (l 333))) (n 536159 (l 1308) (n 536665 (l 1771) (l 2071)))) (n 537681 (n 537358 (l 2727) (n 537387 (l 1151) (l 1346))) (n 538176 (l 584) (n 538411 (l 596) (l 1575)))))) (n 544094 (n 540926 (n 539065 (n 538987 (l 1787) (n 539007 (l 816) (l 1423))) (n 539505 (l 601) (n 540000 (l 988) (l 998)))) (n 541674 (n 541431 (l 721) (n 541476 (l 292) (l 1651))) (n 542127 (l 386) (n 543377 (l 1689) (l 1586))))) (n 545067 (n 544428 (n 544374 (l 2079) (n 544395 (l 2621) (l 474))) (n 544578 (l 1973) (n 544598 (l 34) (l 99)))) (n 546779 (n 545532 (l 2659) (n 545970 (l 2292) (l 2555))) (n 547591 (l 2270) (n 548594 (l 1778) (l 1318)))))))
open HT in
def hT36 : HT := (n 554050 (n 550234 (n 549681 (n 549202 (n 549120 (l 2587) (l 924)) (n 549475 (l 1065) (n 549574 (l 2942) (l 1107)))) (n 549960 (n 549883 (l 2364) (n 549935 (l 184) (l 1353))) (n 550118 (l 2184) (n 550140 (l 186) (l 1629))))) (n 551487 (n 551368 (n 550676 (l 1597) (n 551307 (l 296) (l 276))) (n 551443 (l 526) (n 551475 (l 19) (l 2781)))) (n 552611 (n 551829 (l 1291) (n 552002 (l 1773) (l 2722))) (n 552924 (l 1712) (n 553581 (l 1466) (l 597)))))) (n 560074 (n 557358 (n 557024 (n 554448 (l 844) (l 1789)) (n 557146 (l 527) (n 557193 (l 1653) (l 2903)))) (n 558008 (n 557923 (l 385) (n 557965 (l 874) (l 1972))) (n 558952 (l 1700) (n 560005 (l 367) (l 2792))))) (n 561265 (n 560454 (n 560079 (l 2010) (n 560348 (l 473) (l 2013))) (n 560616 (l 684) (n 560808 (l 379) (l 96)))) (n 561812 (n 561356 (l 1518) (n 561598 (l 1803) (l 94))) (n 562011 (l 2095) (n 562204 (l 2694) (l 1681)))))))
open HT in
def hT37 : HT := (n 569923 (n 566921 (n 565106 (n 563975 (n 562872 (l 1085) (l 2959)) (n 564359 (l 2299) (n 564897 (l 2589) (l 2426)))) (n 565513 (n 565244 (l 804) (n 565432 (l 1109) (l 594))) (n 565703 (l 1579) (n 566627 (l 1974) (l 2899))))) (n 568280 (n 567314 (n 567253 (l 1519) (n 567254 (l 1704) (l 95))) (n 567667 (l 1339) (n 567848 (l 2695) (l 1526)))) (n 568749 (n 568335 (l 170) (n 568687 (l 2735) (l 290))) (n 568953 (l 2730) (n 569053 (l 1311) (l 1154)))))) (n 574130 (n 571534 (n 570787 (n 569999 (l 1961) (n 570450 (l 2747) (l 544))) (n 570910 (l 2204) (n 571359 (l 1433) (l 1975)))) (n 572417 (n 572165 (l 1192) (n 572399 (l 1172) (l 2351))) (n 572788 (l 991) (n 573680 (l 2290) (l 1444))))) (n 576127 (n 574820 (n 574205 (l 951) (n 574569 (l 1388) (l 2355))) (n 574967 (l 1739) (n 575231 (l 49) (l 2662)))) (n 576476 (n 576251 (l 1330) (n 576376 (l 2029) (l 926))) (n 576937 (l 2854) (n 577049 (l 2366) (l 2044)))))))
open HT in
def hT38 : HT := (n 583655 (n 580041 (n 578807 (n 577482 (n 577375 (l 111) (l 1115)) (n 578124 (l 2097) (n 578242 (l 2667) (l 1284)))) (n 579903 (n 578962 (l 496) (n 579292 (l 368) (l 2012))) (n 579976 (l 1158) (n 580032 (l 1021) (l 2200))))) (n 581856 (n 580771 (n 580208 (l 2496) (n 580214 (l 614) (l 1843))) (n 581201 (l 354) (n 581635 (l 141) (l 683)))) (n 582593 (n 582032 (l 806) (n 582361 (l 927) (l 542))) (n 582612 (l 2367) (n 583034 (l 1696) (l 741)))))) (n 587837 (n 586265 (n 585369 (n 583966 (l 2177) (n 584371 (l 72) (l 289))) (n 586074 (l 1088) (n 586198 (l 1715) (l 2973)))) (n 587198 (n 586543 (l 1201) (n 586783 (l 1947) (l 582))) (n 587378 (l 616) (n 587487 (l 2545) (l 1288))))) (n 591108 (n 588537 (n 587924 (l 2179) (n 588376 (l 2198) (l 775))) (n 588868 (l 2008) (n 589559 (l 1488) (l 1183)))) (n 592328 (n 591509 (l 1870) (n 592077 (l 1783) (l 219))) (n 592525 (l 702) (n 592836 (l 2221) (l 1765)))))))
open HT in
def hT39 : HT := (n 603347 (n 597463 (n 596153 (n 593681 (n 593366 (l 1505) (l 687)) (n 594698 (l 2874) (n 595939 (l 435) (l 68)))) (n 596968 (n 596650 (l 2516) (n 596936 (l 2194) (l 1418))) (n 597166 (l 918) (n 597345 (l 1879) (l 2187))))) (n 599766 (n 598086 (n 597691 (l 785) (n 597778 (l 1862) (l 1235))) (n 599083 (l 1081) (n 599665 (l 243) (l 1529)))) (n 602375 (n 601150 (l 2387) (n 601223 (l 2954) (l 631))) (n 602701 (l 1335) (n 603021 (l 2527) (l 1416)))))) (n 609961 (n 606021 (n 604714 (n 603887 (l 1863) (n 604046 (l 2670) (l 777))) (n 605229 (l 1533) (n 605391 (l 1185) (l 2485)))) (n 607892 (n 606554 (l 587) (n 607587 (l 264) (l 2844))) (n 609586 (l 632) (n 609874 (l 1643) (l 121))))) (n 612836 (n 611399 (n 610828 (l 2047) (n 611179 (l 1333) (l 1761))) (n 611756 (l 144) (n 612620 (l 2572) (l 1417)))) (n 614370 (n 612994 (l 1881) (n 613396 (l 1257) (l 1240))) (n 615105 (l 346) (n 615757 (l 1169) (l 2976)))))))
open HT in
def hT40 : HT := (n 623649 (n 619601 (n 616991 (n 616360 (n 616009 (l 458) (l 2266)) (n 616707 (l 728) (n 616989 (l 1942) (l 2138)))) (n 617764 (n 617381 (l 748) (n 617643 (l 1285) (l 883))) (n 618786 (l 452) (n 619371 (l 232) (l 1951))))) (n 621350 (n 620572 (n 619678 (l 1036) (n 620456 (l 483) (l 1475))) (n 621181 (l 238) (n 621182 (l 1217) (l 1281)))) (n 621691 (n 621446 (l 2644) (n 621463 (l 2245) (l 2715))) (n 622070 (l 589) (n 622363 (l 1544) (l 1943)))))) (n 629088 (n 625240 (n 624652 (n 624059 (l 581) (n 624624 (l 1216) (l 2456))) (n 624757 (l 905) (n 625061 (l 1116) (l 690)))) (n 626437 (n 625325 (l 842) (n 626033 (l 989) (l 858))) (n 626930 (l 405) (n 627897 (l 1925) (l 1769))))) (n 631644 (n 630373 (n 629268 (l 2630) (n 629496 (l 1445) (l 1738))) (n 630637 (l 1243) (n 631418 (l 521) (l 339)))) (n 632042 (n 631693 (l 698) (n 631890 (l 2265) (l 1702))) (n 632259 (l 176) (n 632673 (l 2258) (l 2137)))))))
open HT in
def hT41 : HT := (n 641502 (n 635796 (n 634843 (n 633055 (n 632918 (l 2623) (l 634)) (n 633170 (l 22) (n 634002 (l 1096) (l 1112)))) (n 635394 (n 635041 (l 2846) (n 635363 (l 1953) (l 1640))) (n 635474 (l 2210) (n 635640 (l 731) (l 2843))))) (n 638216 (n 636668 (n 636025 (l 2657) (n 636119 (l 1365) (l 2576))) (n 637163 (l 2910) (n 637423 (l 898) (l 2123)))) (n 639567 (n 638872 (l 1562) (n 639242 (l 1827) (l 1108))) (n 640136 (l 410) (n 641242 (l 2549) (l 2450)))))) (n 645299 (n 644025 (n 643341 (n 641717 (l 1252) (n 641790 (l 857) (l 1380))) (n 643610 (l 2646) (n 643708 (l 2538) (l 1560)))) (n 645020 (n 644061 (l 664) (n 644635 (l 2116) (l 2820))) (n 645143 (l 450) (n 645276 (l 1092) (l 1755))))) (n 649226 (n 648058 (n 646894 (l 2303) (n 647620 (l 2787) (l 396))) (n 648606 (l 2821) (n 648772 (l 2642) (l 1228)))) (n 649903 (n 649842 (l 561) (n 649863 (l 486) (l 603))) (n 650958 (l 751) (n 651035 (l 2339) (l 1384)))))))
open HT in
def hT42 : HT := (n 660733 (n 653900 (n 653306 (n 652730 (n 651609 (l 1268) (l 1386)) (n 652847 (l 2468) (n 653196 (l 897) (l 1661)))) (n 653767 (n 653570 (l 2120) (n 653638 (l 1309) (l 1504))) (n 653822 (l 2021) (n 653864 (l 868) (l 2939))))) (n 657831 (n 656926 (n 654893 (l 1561) (n 656829 (l 566) (l 498))) (n 657394 (l 2449) (n 657669 (l 2307) (l 1119)))) (n 659294 (n 658590 (l 2475) (n 659116 (l 2437) (l 1270))) (n 660087 (l 2537) (n 660096 (l 93) (l 2080)))))) (n 666230 (n 664230 (n 660972 (n 660927 (l 1347) (n 660946 (l 1908) (l 1757))) (n 662677 (l 312) (n 662797 (l 2930) (l 2803)))) (n 665434 (n 664290 (l 2784) (n 665060 (l 2641) (l 1399))) (n 665511 (l 1239) (n 665533 (l 1792) (l 605))))) (n 668756 (n 667471 (n 666498 (l 419) (n 667093 (l 1106) (l 117))) (n 668024 (l 2220) (n 668734 (l 246) (l 330)))) (n 669333 (n 668758 (l 1701) (n 669052 (l 1250) (l 488))) (n 670246 (l 2272) (n 670277 (l 2756) (l 2400)))))))
open HT in
def hT43 : HT := (n 678690 (n 673622 (n 672131 (n 670903 (n 670634 (l 79) (l 814)) (n 671540 (l 1832) (n 671891 (l 1610) (l 2818)))) (n 673064 (n 672322 (l 676) (n 672836 (l 2896) (l 2278))) (n 673090 (l 2309) (n 673332 (l 424) (l 1429))))) (n 676019 (n 674592 (n 673776 (l 767) (n 674451 (l 651) (l 880))) (n 674876 (l 1634) (n 675955 (l 398) (l 553)))) (n 676581 (n 676028 (l 20) (n 676403 (l 1230) (l 1349))) (n 677092 (l 2132) (n 677375 (l 887) (l 434)))))) (n 681690 (n 680477 (n 679275 (n 678906 (l 2090) (n 678934 (l 24) (l 1649))) (n 679986 (l 2317) (n 680266 (l 2466) (l 1464)))) (n 680730 (n 680532 (l 320) (n 680620 (l 399) (l 1639))) (n 681639 (l 1401) (n 681684 (l 2469) (l 1231))))) (n 683688 (n 682182 (n 681940 (l 1556) (n 682023 (l 197) (l 164))) (n 683077 (l 1105) (n 683357 (l 503) (l 2891)))) (n 684319 (n 684208 (l 1340) (n 684259 (l 1042) (l 2766))) (n 684928 (l 2118) (n 684944 (l 1799) (l 2937)))))))
open HT in
def hT44 : HT := (n 692746 (n 688465 (n 686951 (n 686124 (n 685747 (l 154) (l 830)) (n 686172 (l 2164) (n 686230 (l 2579) (l 1952)))) (n 688181 (n 687001 (l 2895) (n 687115 (l 2113) (l 391))) (n 688267 (l 762) (n 688323 (l 1223) (l 2382))))) (n 690534 (n 689428 (n 688880 (l 1355) (n 689364 (l 1726) (l 1122))) (n 689975 (l 1542) (n 690051 (l 2119) (l 624)))) (n 691789 (n 691268 (l 678) (n 691759 (l 168) (l 573))) (n 692120 (l 2248) (n 692576 (l 2567) (l 2539)))))) (n 695040 (n 694587 (n 693862 (n 692821 (l 1095) (n 693503 (l 1676) (l 2407))) (n 693892 (l 2166) (n 694264 (l 1772) (l 2955)))) (n 694839 (n 694715 (l 1904) (n 694727 (l 729) (l 2222))) (n 694906 (l 2599) (n 695012 (l 2374) (l 2147))))) (n 697656 (n 696270 (n 695137 (l 1917) (n 696074 (l 1834) (l 539))) (n 696400 (l 725) (n 696431 (l 1747) (l 1064)))) (n 699223 (n 698216 (l 736) (n 699070 (l 1732) (l 1570))) (n 699323 (l 1660) (n 699387 (l 2239) (l 674)))))))
open HT in
def hT45 : HT := (n 707484 (n 703967 (n 700383 (n 699988 (n 699642 (l 134) (l 441)) (n 700133 (l 294) (n 700292 (l 1539) (l 1872)))) (n 700951 (n 700498 (l 2223) (n 700562 (l 2811) (l 2375))) (n 702594 (l 2314) (n 702797 (l 599) (l 120))))) (n 705408 (n 705024 (n 704229 (l 1713) (n 704415 (l 1552) (l 896))) (n 705293 (l 467) (n 705323 (l 135) (l 357)))) (n 706770 (n 705644 (l 2500) (n 706097 (l 295) (l 1149))) (n 706801 (l 757) (n 706966 (l 2002) (l 2231)))))) (n 710456 (n 708946 (n 707721 (n 707550 (l 2640) (l 1621)) (n 708246 (l 1197) (n 708341 (l 2541) (l 1685)))) (n 709196 (n 709034 (l 1554) (n 709173 (l 825) (l 2409))) (n 709934 (l 1301) (n 710408 (l 2957) (l 2154))))) (n 711428 (n 710944 (n 710682 (l 1031) (n 710693 (l 2149) (l 291))) (n 711141 (l 1342) (n 711238 (l 2261) (l 568)))) (n 712439 (n 711733 (l 427) (n 711790 (l 588) (l 2593))) (n 712731 (l 520) (n 713253 (l 1063) (l 964)))))))
open HT in
def hT46 : HT := (n 719924 (n 715730 (n 714772 (n 713410 (n 713384 (l 2162) (l 1994)) (n 714351 (l 1493) (n 714754 (l 1130) (l 1569)))) (n 715231 (n 714988 (l 506) (n 715220 (l 284) (l 2432))) (n 715255 (l 382) (n 715378 (l 2381) (l 2765))))) (n 717952 (n 716232 (n 715803 (l 364) (n 715937 (l 1541) (l 180))) (n 717110 (l 2377) (n 717848 (l 595) (l 1796)))) (n 719065 (n 718272 (l 470) (n 718810 (l 2556) (l 394))) (n 719176 (l 1813) (n 719188 (l 1890) (l 2145)))))) (n 724963 (n 722590 (n 721196 (n 720744 (l 2320) (n 720963 (l 995) (l 137))) (n 721637 (l 1691) (n 722354 (l 2696) (l 1032)))) (n 724312 (n 723675 (l 1583) (n 724179 (l 182) (l 942))) (n 724317 (l 2708) (n 724601 (l 2780) (l 1672))))) (n 726481 (n 725337 (n 725113 (l 161) (n 725272 (l 2732) (l 933))) (n 725772 (l 709) (n 726126 (l 1419) (l 1033)))) (n 726804 (n 726534 (l 1462) (n 726643 (l 2602) (l 656))) (n 727404 (l 1775) (n 727423 (l 2521) (l 2077)))))))
open HT in
def hT47 : HT := (n 736928 (n 732837 (n 731241 (n 729331 (n 729177 (l 2) (l 2348)) (n 730414 (l 183) (n 730716 (l 2775) (l 2420)))) (n 732135 (n 731565 (l 307) (n 732130 (l 1692) (l 39))) (n 732400 (l 1663) (n 732664 (l 2609) (l 2498))))) (n 734825 (n 734282 (n 733562 (l 2645) (n 733908 (l 2776) (l 108))) (n 734380 (l 1500) (n 734622 (l 187) (l 1071)))) (n 735833 (n 734976 (l 181) (n 735264 (l 1304) (l 1432))) (n 736218 (l 2677) (n 736647 (l 2088) (l 1011)))))) (n 742755 (n 739287 (n 737443 (n 737029 (l 2993) (n 737136 (l 1517) (l 871))) (n 738380 (l 1760) (n 738454 (l 365) (l 2422)))) (n 741528 (n 739650 (l 2007) (n 740810 (l 1594) (l 1688))) (n 742244 (l 2174) (n 742610 (l 286) (l 1150))))) (n 744110 (n 743538 (n 743193 (l 2691) (n 743205 (l 178) (l 305))) (n 743999 (l 468) (n 744007 (l 73) (l 480)))) (n 744730 (n 744352 (l 2423) (n 744645 (l 211) (l 591))) (n 744930 (l 139) (n 745104 (l 1431) (l 1794)))))))
open HT in
def hT48 : HT := (n 752806 (n 749476 (n 747844 (n 746345 (n 745846 (l 2699) (l 2094)) (n 747283 (l 2286) (n 747289 (l 2947) (l 1875)))) (n 748686 (n 747900 (l 2762) (n 748247 (l 287) (l 784))) (n 748989 (l 908) (n 749159 (l 1315) (l 2427))))) (n 750727 (n 749800 (n 749698 (l 2101) (n 749749 (l 667) (l 2461))) (n 750243 (l 1524) (n 750292 (l 2055) (l 1073)))) (n 751568 (n 751184 (l 10) (n 751289 (l 2559) (l 2217))) (n 751799 (l 2706) (n 752369 (l 1276) (l 2734)))))) (n 757093 (n 756049 (n 754109 (n 753224 (l 873) (n 753622 (l 714) (l 304))) (n 754446 (l 1259) (n 755334 (l 1748) (l 1593)))) (n 756203 (n 756169 (l 1025) (n 756193 (l 1632) (l 961))) (n 756433 (l 565) (n 756483 (l 2350) (l 32))))) (n 758161 (n 757523 (n 757229 (l 2980) (n 757376 (l 2783) (l 2721))) (n 757776 (l 56) (n 757972 (l 271) (l 2418)))) (n 758821 (n 758248 (l 2269) (n 758425 (l 2974) (l 2693))) (n 758926 (l 1694) (n 759020 (l 960) (l 1332)))))))
open HT in
def hT49 : HT := (n 766600 (n 763720 (n 761613 (n 759796 (n 759479 (l 259) (l 2524)) (n 760781 (l 1578) (n 761164 (l 1675) (l 110)))) (n 762484 (n 761981 (l 2391) (n 762425 (l 451) (l 1456))) (n 762953 (l 2073) (n 763122 (l 2949) (l 2139))))) (n 764672 (n 764388 (n 763780 (l 2872) (n 764041 (l 2401) (l 808))) (n 764477 (l 1962) (n 764541 (l 1695) (l 1000)))) (n 765280 (n 764826 (l 788) (n 765254 (l 1425) (l 540))) (n 765850 (l 2943) (n 766098 (l 1483) (l 1979)))))) (n 771541 (n 767688 (n 767195 (n 766854 (l 578) (n 767194 (l 2561) (l 1503))) (n 767238 (l 659) (n 767628 (l 2870) (l 957)))) (n 769922 (n 768002 (l 2331) (n 768519 (l 1009) (l 1295))) (n 770794 (l 234) (n 770936 (l 466) (l 51))))) (n 774694 (n 773150 (n 771575 (l 1120) (n 773123 (l 799) (l 2835))) (n 773948 (l 2907) (n 774357 (l 2256) (l 1331)))) (n 775895 (n 774911 (l 2323) (n 775859 (l 1970) (l 669))) (n 775942 (l 512) (n 776149 (l 910) (l 1948)))))))
open HT in
def hT50 : HT := (n 782865 (n 778802 (n 777306 (n 776451 (n 776447 (l 525) (l 2515)) (n 776578 (l 1677) (n 777262 (l 1400) (l 21)))) (n 777797 (n 777651 (l 1293) (n 777712 (l 453) (l 923))) (n 778566 (l 944) (n 778703 (l 1015) (l 165))))) (n 780425 (n 780111 (n 779543 (l 190) (n 780069 (l 2196) (l 1321))) (n 780149 (l 248) (n 780337 (l 1439) (l 370)))) (n 781719 (n 781513 (l 1626) (n 781520 (l 416) (l 1485))) (n 782392 (l 413) (n 782461 (l 1776) (l 1114)))))) (n 786756 (n 784956 (n 783823 (n 783084 (l 661) (n 783166 (l 2330) (l 781))) (n 784718 (l 109) (n 784745 (l 915) (l 2297)))) (n 786382 (n 785277 (l 112) (n 785762 (l 2635) (l 2533))) (n 786463 (l 1532) (n 786735 (l 2030) (l 2526))))) (n 787924 (n 787178 (n 786920 (l 2866) (n 787170 (l 378) (l 807))) (n 787265 (l 579) (n 787642 (l 171) (l 2966)))) (n 788861 (n 787927 (l 1885) (n 788181 (l 342) (l 903))) (n 789269 (l 612) (n 789314 (l 621) (l 2912)))))))
open HT in
def hT51 : HT := (n 796013 (n 792740 (n 790546 (n 789604 (n 789566 (l 2445) (l 2262)) (n 789780 (l 262) (n 789794 (l 2106) (l 2301)))) (n 792232 (n 790595 (l 2134) (n 791426 (l 1969) (l 1767))) (n 792422 (l 1495) (n 792551 (l 2676) (l 1082))))) (n 794907 (n 793583 (n 793133 (l 1521) (n 793382 (l 1341) (l 925))) (n 793684 (l 343) (n 794721 (l 340) (l 637)))) (n 795515 (n 795222 (l 2636) (n 795410 (l 2263) (l 2869))) (n 795627 (l 954) (n 795708 (l 1528) (l 1159)))))) (n 801319 (n 798797 (n 798145 (n 797178 (l 615) (n 797635 (l 1977) (l 1224))) (n 798166 (l 1113) (n 798618 (l 543) (l 686)))) (n 800367 (n 798882 (l 838) (n 799590 (l 2616) (l 854))) (n 800947 (l 2362) (n 801270 (l 2637) (l 2741))))) (n 803140 (n 802604 (n 802016 (l 2592) (n 802085 (l 1174) (l 2056))) (n 802622 (l 377) (n 803053 (l 2511) (l 1734)))) (n 804104 (n 803729 (l 1203) (n 803943 (l 2199) (l 2669))) (n 804684 (l 2877) (n 804997 (l 1412) (l 1207)))))))
open HT in
def hT52 : HT := (n 813331 (n 808850 (n 806797 (n 806219 (n 805246 (l 122) (l 855)) (n 806706 (l 2808) (n 806727 (l 2665) (l 1080)))) (n 807851 (n 807088 (l 1290) (n 807810 (l 1635) (l 2208))) (n 807951 (l 929) (n 808217 (l 2857) (l 260))))) (n 811569 (n 808978 (n 808920 (l 2551) (n 808951 (l 1624) (l 2206))) (n 810261 (l 2924) (n 811322 (l 1018) (l 2296)))) (n 812062 (n 811773 (l 2583) (n 811893 (l 1558) (l 1717))) (n 812885 (l 1280) (n 813124 (l 66) (l 406)))))) (n 818192 (n 816117 (n 815004 (n 813656 (l 809) (n 814066 (l 2181) (l 2000))) (n 815152 (l 1040) (n 815347 (l 2260) (l 1372)))) (n 817296 (n 816699 (l 610) (n 817167 (l 456) (l 2534))) (n 817456 (l 2019) (n 817618 (l 2014) (l 2108))))) (n 820056 (n 818748 (n 818258 (l 2812) (n 818572 (l 585) (l 2573))) (n 819294 (l 2163) (n 819692 (l 1535) (l 2671)))) (n 822163 (n 821497 (l 900) (n 822132 (l 2176) (l 1168))) (n 822583 (l 2638) (n 822823 (l 1873) (l 2535)))))))
open HT in
def hT53 : HT := (n 831799 (n 827819 (n 825520 (n 823803 (n 823121 (l 2246) (l 1770)) (n 824500 (l 705) (n 825166 (l 3000) (l 1382)))) (n 827164 (n 825861 (l 1927) (n 826287 (l 522) (l 2460))) (n 827379 (l 76) (n 827614 (l 860) (l 2989))))) (n 829702 (n 828219 (n 827871 (l 2639) (n 827947 (l 2253) (l 1608))) (n 828592 (l 1928) (n 829461 (l 1099) (l 1047)))) (n 830822 (n 830091 (l 11) (n 830386 (l 443) (l 494))) (n 831143 (l 1383) (n 831638 (l 155) (l 2745)))))) (n 835871 (n 833078 (n 831988 (n 831830 (l 373) (n 831940 (l 2744) (l 1410))) (n 832176 (l 1901) (n 832623 (l 973) (l 2856)))) (n 835362 (n 834418 (l 207) (n 834450 (l 2165) (l 2502))) (n 835473 (l 2673) (n 835663 (l 258) (l 837))))) (n 839722 (n 836811 (n 836234 (l 1379) (n 836561 (l 2926) (l 1858))) (n 837018 (l 638) (n 839645 (l 697) (l 760)))) (n 841543 (n 839905 (l 500) (n 840055 (l 2960) (l 1102))) (n 842067 (l 2186) (n 842268 (l 701) (l 2192)))))))
open HT in
def hT54 : HT := (n 848259 (n 845371 (n 843729 (n 842609 (n 842315 (l 326) (l 1246)) (n 843264 (l 472) (n 843462 (l 2586) (l 885)))) (n 845097 (n 844604 (l 2892) (n 844939 (l 980) (l 2920))) (n 845168 (l 1606) (n 845337 (l 2467) (l 1312))))) (n 847282 (n 846338 (n 845407 (l 1564) (n 845879 (l 688) (l 2864))) (n 846648 (l 2790) (n 846813 (l 2823) (l 157)))) (n 847850 (n 847528 (l 2717) (n 847705 (l 1267) (l 226))) (n 847947 (l 2859) (n 848182 (l 327) (l 1945)))))) (n 852757 (n 850394 (n 849576 (n 849094 (l 1375) (l 1398)) (n 850048 (l 12) (n 850363 (l 2042) (l 1446)))) (n 851104 (n 850530 (l 449) (n 850989 (l 2111) (l 1538))) (n 852136 (l 2815) (n 852245 (l 1005) (l 1857))))) (n 855211 (n 854034 (n 853543 (l 872) (n 853716 (l 2462) (l 217))) (n 854420 (l 192) (n 855014 (l 78) (l 1302)))) (n 855818 (n 855580 (l 2022) (n 855610 (l 156) (l 986))) (n 856101 (l 1405) (n 856192 (l 2236) (l 1245)))))))
open HT in
def hT55 : HT := (n 866992 (n 861738 (n 859511 (n 857903 (n 857765 (l 341) (l 1038)) (n 859146 (l 2087) (n 859232 (l 2647) (l 1835)))) (n 860743 (n 860268 (l 1275) (n 860563 (l 436) (l 2633))) (n 860871 (l 1052) (n 861156 (l 1440) (l 1050))))) (n 863641 (n 863047 (n 862089 (l 758) (n 862921 (l 1090) (l 1118))) (n 863198 (l 963) (n 863389 (l 1269) (l 225)))) (n 865346 (n 864877 (l 301) (n 864906 (l 813) (l 2069))) (n 866318 (l 2232) (n 866770 (l 2849) (l 2324)))))) (n 871278 (n 869228 (n 868006 (n 867367 (l 2488) (n 867396 (l 2384) (l 1903))) (n 868324 (l 438) (n 869060 (l 1266) (l 1915)))) (n 870715 (n 869927 (l 1392) (n 870698 (l 2595) (l 567))) (n 870985 (l 484) (n 871079 (l 2894) (l 1619))))) (n 871860 (n 871380 (n 871294 (l 675) (n 871356 (l 985) (l 202))) (n 871472 (l 738) (n 871773 (l 1605) (l 1724)))) (n 872713 (n 872066 (l 978) (n 872627 (l 1965) (l 1566))) (n 872725 (l 2789) (n 872794 (l 1299) (l 2772)))))))
open HT in
def hT56 : HT := (n 879432 (n 876715 (n 874404 (n 873849 (n 873822 (l 2433) (l 300)) (n 874158 (l 1840) (n 874282 (l 1650) (l 836)))) (n 875686 (n 874508 (l 843) (n 875169 (l 2310) (l 2714))) (n 876008 (l 1797) (n 876154 (l 2112) (l 2566))))) (n 877621 (n 876858 (n 876777 (l 2751) (n 876832 (l 2341) (l 14))) (n 877002 (l 2388) (n 877061 (l 928) (l 2142)))) (n 878431 (n 877873 (l 2682) (n 878343 (l 1906) (l 2826))) (n 878443 (l 2919) (n 878965 (l 970) (l 2492)))))) (n 882503 (n 881041 (n 879935 (n 879683 (l 1784) (n 879794 (l 2941) (l 1232))) (n 880229 (l 1395) (n 880358 (l 2471) (l 1998)))) (n 881897 (n 881317 (l 2608) (n 881589 (l 489) (l 148))) (n 882225 (l 2285) (n 882488 (l 2114) (l 15))))) (n 885996 (n 883527 (n 882594 (l 1550) (n 883050 (l 1811) (l 2127))) (n 884150 (l 840) (n 884714 (l 2338) (l 2115)))) (n 886858 (n 886135 (l 504) (n 886397 (l 2442) (l 2148))) (n 886937 (l 2155) (n 887064 (l 2158) (l 737)))))))
open HT in
def hT57 : HT := (n 894425 (n 891087 (n 889621 (n 888378 (n 888329 (l 1126) (l 502)) (n 888492 (l 1725) (n 888641 (l 159) (l 2279)))) (n 890591 (n 889996 (l 2151) (n 890140 (l 2757) (l 643))) (n 890801 (l 1273) (n 891000 (l 1131) (l 2230))))) (n 893177 (n 891986 (n 891231 (l 1323) (n 891766 (l 1754) (l 2979))) (n 892086 (l 866) (n 892597 (l 2842) (l 1991)))) (n 893662 (n 893481 (l 2507) (n 893655 (l 2288) (l 1055))) (n 894026 (l 1509) (n 894127 (l 2322) (l 969)))))) (n 899595 (n 897971 (n 895513 (n 895194 (l 2416) (n 895301 (l 2680) (l 2371))) (n 895642 (l 1146) (n 897869 (l 2152) (l 2700)))) (n 898953 (n 898158 (l 482) (n 898604 (l 1656) (l 765))) (n 899227 (l 658) (n 899362 (l 324) (l 2675))))) (n 901819 (n 900032 (n 899822 (l 653) (n 899834 (l 1826) (l 2337))) (n 901214 (l 131) (n 901448 (l 1029) (l 907)))) (n 904262 (n 902492 (l 2441) (n 903773 (l 2525) (l 829))) (n 904664 (l 237) (n 904685 (l 2346) (l 1727)))))))
open HT in
def hT58 : HT := (n 910445 (n 906915 (n 906351 (n 905536 (n 905469 (l 397) (l 1588)) (n 906221 (l 650) (n 906243 (l 2494) (l 2880)))) (n 906624 (n 906540 (l 401) (n 906543 (l 1957) (l 422))) (n 906718 (l 1582) (n 906888 (l 1842) (l 2068))))) (n 908845 (n 907503 (n 907218 (l 1753) (n 907436 (l 35) (l 2981))) (n 907825 (l 1233) (n 908433 (l 30) (l 1460)))) (n 909775 (n 909667 (l 146) (n 909677 (l 2167) (l 331))) (n 910106 (l 2072) (n 910126 (l 1616) (l 2922)))))) (n 913575 (n 911924 (n 911049 (n 910838 (l 4) (n 910849 (l 1774) (l 629))) (n 911346 (l 1515) (n 911622 (l 2368) (l 77)))) (n 913105 (n 912199 (l 2474) (n 913003 (l 423) (l 2615))) (n 913207 (l 1190) (n 913301 (l 1590) (l 1850))))) (n 915249 (n 914554 (n 913763 (l 1853) (n 914448 (l 2229) (l 2774))) (n 914818 (l 268) (n 914919 (l 2215) (l 2890)))) (n 917095 (n 915734 (l 2718) (n 915794 (l 2769) (l 2121))) (n 917118 (l 460) (n 917222 (l 909) (l 833)))))))
open HT in
def hT59 : HT := (n 924421 (n 920903 (n 918863 (n 918019 (n 918000 (l 2059) (l 2733)) (n 918661 (l 71) (n 918749 (l 1790) (l 2851)))) (n 919783 (n 919043 (l 1591) (n 919362 (l 724) (l 2268))) (n 920355 (l 1718) (n 920708 (l 1729) (l 2242))))) (n 922049 (n 921401 (n 921212 (l 1545) (n 921220 (l 1964) (l 649))) (n 921804 (l 2758) (n 921893 (l 752) (l 541)))) (n 923321 (n 922888 (l 947) (n 923300 (l 37) (l 2692))) (n 923502 (l 2006) (n 923862 (l 392) (l 935)))))) (n 926483 (n 925331 (n 925153 (n 924529 (l 2172) (n 925125 (l 145) (l 2702))) (n 925248 (l 2779) (n 925325 (l 344) (l 1914)))) (n 925439 (n 925337 (l 2051) (n 925407 (l 2169) (l 1909))) (n 926202 (l 1719) (n 926317 (l 2225) (l 2813))))) (n 928003 (n 926876 (n 926749 (l 322) (n 926781 (l 1343) (l 710))) (n 927031 (l 1467) (n 927616 (l 1196) (l 317)))) (n 930781 (n 928353 (l 1740) (n 928679 (l 796) (l 590))) (n 930989 (l 2703) (n 931303 (l 2404) (l 2936)))))))
open HT in
def hT60 : HT := (n 940157 (n 935608 (n 933830 (n 932152 (n 931996 (l 297) (l 2726)) (n 933353 (l 2994) (n 933757 (l 1574) (l 471)))) (n 934140 (n 934026 (l 2728) (n 934074 (l 2011) (l 1897))) (n 934144 (l 1179) (n 935211 (l 2066) (l 1012))))) (n 937881 (n 936927 (n 935688 (l 362) (n 935689 (l 1437) (l 1458))) (n 937130 (l 1436) (n 937598 (l 2802) (l 792)))) (n 938400 (n 938098 (l 2084) (n 938229 (l 984) (l 780))) (n 938429 (l 715) (n 939669 (l 306) (l 832)))))) (n 944351 (n 942232 (n 941358 (n 941001 (l 574) (n 941009 (l 2053) (l 1913))) (n 941810 (l 514) (n 941896 (l 270) (l 1366)))) (n 943308 (n 942419 (l 163) (n 942701 (l 1345) (l 2723))) (n 943426 (l 2568) (n 943601 (l 88) (l 1959))))) (n 947500 (n 946007 (n 944698 (l 462) (n 945813 (l 2618) (l 575))) (n 946299 (l 742) (n 946563 (l 722) (l 997)))) (n 949697 (n 947552 (l 1690) (n 948468 (l 1367) (l 1966))) (n 949780 (l 1194) (n 950007 (l 538) (l 463)))))))
open HT in
def hT61 : HT := (n 959186 (n 953894 (n 951591 (n 950604 (n 950556 (l 600) (l 2690)) (n 950811 (l 1941) (n 951180 (l 532) (l 2486)))) (n 952814 (n 951663 (l 1421) (n 952274 (l 743) (l 2271))) (n 953354 (l 2801) (n 953654 (l 356) (l 1019))))) (n 956101 (n 955557 (n 953982 (l 366) (n 955150 (l 1622) (l 185))) (n 955654 (l 938) (n 956018 (l 945) (l 1110)))) (n 957956 (n 956659 (l 9) (n 957333 (l 2964) (l 2175))) (n 958765 (l 1465) (n 959021 (l 2360) (l 310)))))) (n 963346 (n 961479 (n 959876 (n 959318 (l 60) (n 959400 (l 1512) (l 2508))) (n 959943 (l 2971) (n 960915 (l 1199) (l 1743)))) (n 962740 (n 961947 (l 2557) (n 962467 (l 1212) (l 1010))) (n 963222 (l 1316) (n 963289 (l 1369) (l 619))))) (n 965137 (n 964189 (n 963378 (l 2417) (n 964183 (l 2807) (l 1438))) (n 964397 (l 536) (n 964677 (l 2950) (l 311)))) (n 965979 (n 965485 (l 2082) (n 965489 (l 782) (l 1327))) (n 966108 (l 2668) (n 966203 (l 1078) (l 2219)))))))
open HT in
def hT62 : HT := (n 977820 (n 971764 (n 968472 (n 967241 (n 966514 (l 996) (l 1763)) (n 967337 (l 332) (n 967823 (l 196) (l 851)))) (n 969929 (n 969072 (l 1451) (n 969217 (l 950) (l 2795))) (n 970626 (l 2425) (n 971141 (l 1671) (l 783))))) (n 974998 (n 974085 (n 973312 (l 1079) (n 973343 (l 169) (l 1527))) (n 974434 (l 1153) (n 974808 (l 1669) (l 1317)))) (n 976266 (n 975328 (l 2036) (n 975642 (l 27) (l 2040))) (n 976582 (l 1494) (n 977323 (l 200) (l 1768)))))) (n 981022 (n 979456 (n 979006 (n 978067 (l 2289) (n 978236 (l 530) (l 2906))) (n 979069 (l 278) (n 979095 (l 2483) (l 454)))) (n 980204 (n 979928 (l 1856) (n 980034 (l 1261) (l 2458))) (n 980473 (l 1056) (n 980668 (l 54) (l 805))))) (n 983493 (n 982383 (n 981367 (l 1581) (n 981774 (l 2144) (l 252))) (n 983043 (l 1001) (n 983346 (l 2871) (l 1188)))) (n 984515 (n 983818 (l 853) (n 983915 (l 1014) (l 2962))) (n 985619 (l 2536) (n 986010 (l 768) (l 1287)))))))
open HT in
def hT63 : HT := (n 992639 (n 988561 (n 986672 (n 986442 (n 986129 (l 2191) (l 55)) (n 986568 (l 62) (n 986656 (l 1613) (l 2510)))) (n 987844 (n 986771 (l 1255) (n 987623 (l 613) (l 1968))) (n 988427 (l 2672) (n 988458 (l 628) (l 2329))))) (n 991400 (n 989996 (n 988710 (l 1008) (n 989723 (l 2698) (l 2977))) (n 990682 (l 1314) (n 991012 (l 2005) (l 708)))) (n 992259 (n 991638 (l 2251) (n 991747 (l 1202) (l 911))) (n 992278 (l 1596) (n 992610 (l 583) (l 1746)))))) (n 995328 (n 993751 (n 993441 (n 992884 (l 113) (n 992960 (l 1117) (l 802))) (n 993460 (l 2043) (n 993507 (l 994) (l 2333)))) (n 994891 (n 993920 (l 529) (n 994859 (l 2905) (l 1215))) (n 995054 (l 694) (n 995073 (l 1920) (l 2810))))) (n 998333 (n 996165 (n 995689 (l 371) (n 995718 (l 1136) (l 2457))) (n 997343 (l 630) (n 998083 (l 381) (l 1805)))) (n 999192 (n 998495 (l 555) (n 998713 (l 1213) (l 2873))) (n 999366 (l 835) (n 999599 (l 2544) (l 2961)))))))
open HT in
def hTree : HT := (n 483719 (n 250916 (n 133133 (n 66073 (n 31753 (n 18115 hT0 hT1) (n 47744 hT2 hT3)) (n 96714 (n 81751 hT4 hT5) (n 116788 hT6 hT7))) (n 194636 (n 165878 (n 151745 hT8 hT9) (n 178891 hT10 hT11)) (n 218294 (n 205310 hT12 hT13) (n 236972 hT14 hT15)))) (n 368500 (n 308766 (n 280106 (n 268715 hT16 hT17) (n 296110 hT18 hT19)) (n 343342 (n 323101 hT20 hT21) (n 355381 hT22 hT23))) (n 422335 (n 394291 (n 382866 hT24 hT25) (n 406346 hT26 hT27)) (n 456024 (n 442272 hT28 hT29) (n 472159 hT30 hT31))))) (n 745199 (n 615848 (n 548689 (n 516185 (n 498732 hT32 hT33) (n 530858 hT34 hT35)) (n 577130 (n 562266 hT36 hT37) (n 593174 hT38 hT39))) (n 685010 (n 651378 (n 632859 hT40 hT41) (n 670386 hT42 hT43)) (n 713380 (n 699637 hT44 hT45) (n 727552 hT46 hT47)))) (n 872821 (n 805098 (n 776267 (n 759440 hT48 hT49) (n 789334 hT50 hT51)) (n 842291 (n 822890 hT52 hT53) (n 857237 hT54 hT55))) (n 931463 (n 905455 (n 887908 hT56 hT57) (n 917346 hT58 hT59)) (n 966204 (n 950445 hT60 hT61) (n 986012 hT62 hT63))))))
def hTerm (t : Tm) : Int := if t.1 = 1 then hP.getD t.2 0 else hN.getD t.2 0
def hTab (e : Nat) : Int := tH ((nfl 17 (e : Int) 0).map hTerm)
theorem hP_all : (List.range 17).all (fun p => tH [hashInt 1, hsF 5 p] == hP.getD p 0 && tH [hashInt (-1), hsF 5 p] == hN.getD p 0) = true := by decide +kernel
theorem hTree_all : (List.range 3001).all (fun e => hTree.find ((hTab e) % hM).toNat == e) = true := by decide +kernel
theorem nfl_lt : ∀ (k : Nat) (v : Int) (p : Nat), ∀ t ∈ nfl k v p, t.2 < p + k
  | 0, _, _, t, h => by simp [nfl] at h
  | k + 1, v, p, t, h => by
    simp only [nfl] at h
    split at h
    · have := nfl_lt k _ _ t h; omega
    · rcases List.mem_append.mp h with h | h
      · have := nfl_lt k _ _ t h; omega
      · simp at h; subst h; show p < _; omega
theorem nf_sg : ∀ {l : List Tm}, Nf l → ∀ t ∈ l, t.1 = 1 ∨ t.1 = -1
  | [], _, t, h => by simp at h
  | u :: r, nf, t, h => by
    rcases List.mem_cons.mp h with rfl | h
    · exact nf.1
    · exact nf_sg nf.2.2 t h
theorem hTab_of {e : Nat} (he : e ≤ 65536) : hsF 6 e = hTab e := by
  have nf := (nfl_ok 16 (e : Int) 0 (by omega) (by omega)).nf
  have hl := nfl_lt 17 (e : Int) 0
  show hsG tH hashInt (5 + 1) e = _
  unfold hsG hTab
  refine congrArg tH (List.map_congr_left fun t ht => ?_)
  have h1 := hl t ht
  have h2 := nf_sg nf t ht
  have h3 := List.all_eq_true.mp hP_all t.2 (List.mem_range.mpr (by omega))
  rw [Bool.and_eq_true, beq_iff_eq, beq_iff_eq] at h3
  unfold hTerm
  rcases h2 with h2 | h2
  · rw [h2, if_pos rfl]; exact h3.1
  · rw [h2, if_neg (by decide)]; exact h3.2
theorem hinj : HInj (fun e => e ≤ 3000) := fun a b x y ha hb fx fy e => by
  have h1 := hash_fm 6 fx (by have := depN fx (by omega); omega) (by omega)
  have h2 := hash_fm 6 fy (by have := depN fy (by omega); omega) (by omega)
  rw [h1, h2, hTab_of (by omega), hTab_of (by omega)] at e
  have p := List.all_eq_true.mp hTree_all a (List.mem_range.mpr (by omega))
  have q := List.all_eq_true.mp hTree_all b (List.mem_range.mpr (by omega))
  rw [beq_iff_eq] at p q
  rw [← p, ← q, e]
end My

set_option Elab.async false
set_option linter.all false
set_option maxRecDepth 100000
set_option maxHeartbeats 2000000
namespace My
open PySem PySem.Spec PyProof.Rows L2 Rf
section
variable {Φ : FT} {F n : Nat}
/-! ### gathered -/
def kyOf (C : CL) : List Ky := C.map fun p => (p.1, p.2.1)
theorem kyOf_sum {C : CL} (nd : C.Pairwise fun a b => a.1 ≠ b.1) : ∀ {D : CL}, (∀ p ∈ D, p ∈ C) → wsum C (kyOf D) = csum D ∧ wmu C (kyOf D) = cw D
  | [], _ => ⟨rfl, rfl⟩
  | p :: D, h => by
    obtain ⟨a, b⟩ := kyOf_sum nd (D := D) fun q hq => h q (List.mem_cons_of_mem _ hq)
    obtain ⟨c, _⟩ := cget_mem nd (h p (List.mem_cons_self ..))
    have e : kyOf (p :: D) = (p.1, p.2.1) :: kyOf D := rfl
    rw [e]
    simp only [wsum, wmu, csum, cw, a, b, c]
    exact ⟨trivial, trivial⟩
theorem fm0 : Fm (.tuple []) ((0 : Nat) : Int) := Fm.mk [] trivial fun t ht => by simp at ht
theorem keys_rep {C : CL} : (repN C).map (·.1) = (kyOf C).map (·.2) := by unfold repN kyOf; rw [List.map_map, List.map_map]; rfl
theorem gath_run (hF : 4000 ≤ F) {S : Nat → Prop} (hS : HInj S) {ps : List T3} {m : Nat} (hp : ∀ t ∈ ps, Fm t.2.2 (t.2.1 : Nat) ∧ S t.2.1 ∧ t.2.2.depth ≤ 180) (hl : ps.length ≤ 500) (hw : pw2 ps < F) (hw2 : pw2 ps ≤ 900000) (hm : ∀ p ∈ cacc ps [], p.1 ≤ m)
    (ho : Φ 4 [.list ((kyOf (cacc ps [])).map (·.2))] = .ok (.list ((kall (kyOf (cacc ps [])) []).map (·.2)))) (nx : Nx Φ (cacc ps []) (val (ps.map tm)) m) : ∃ x, Fdef.run ⟨1, 7, b5⟩ Φ F [.list (ps.map tD)] = .ok x ∧ Fm x (val (ps.map tm)) := by
  have cok0 : COk S [] := ⟨fun p hp => by simp at hp, fun p hp => by simp at hp, .nil⟩
  obtain ⟨cok, cs, cwl, cl⟩ := cacc_ok (ps := ps) (C := []) (fun t ht => ⟨(hp t ht).1, (hp t ht).2.1⟩) cok0
  simp only [csum, cw, Int.zero_add, Nat.zero_add, List.length_nil] at cs cwl cl
  refine run_of rfl ?_
  obtain ⟨r2, r3, el⟩ := cnt_loop (Φ := Φ) (F := F) hS (pairs := .list (ps.map tD)) hp cok0 (by simp only [List.length_nil]; omega) .un .un .un .un .un
  have el : forL (Rf.execs Φ F b5_1) tg5 (ps.map tD) [.d (.list (ps.map tD)), .on [], .un, .un, .un, .un, .un] = _ := el
  generalize hC : cacc ps [] = C at *
  have cdep : ∀ p ∈ C, p.2.1.depth ≤ 180 := by
    have : ∀ {ps : List T3} {D : CL}, (∀ t ∈ ps, t.2.2.depth ≤ 180) → (∀ p ∈ D, p.2.1.depth ≤ 180) → ∀ p ∈ cacc ps D, p.2.1.depth ≤ 180 := by
      intro ps
      induction ps with
      | nil => intro D _ h; exact h
      | cons t ps ih =>
        intro D h1 h2
        refine ih (fun u hu => h1 u (List.mem_cons_of_mem _ hu)) fun p hp => ?_
        unfold cadd at hp
        split at hp
        · rcases List.mem_append.mp hp with hp | hp
          · exact h2 p hp
          · rw [List.mem_singleton.mp hp]; exact h1 t (List.mem_cons_self ..)
        · obtain ⟨q, hq, rfl⟩ := List.mem_map.mp hp
          have := h2 q hq
          split <;> exact this
    rw [← hC]
    exact this (fun t ht => (hp t ht).2.2) fun p hp => by simp at hp
  have kp : (kyOf C).Pairwise fun a b => a.1 ≠ b.1 := by unfold kyOf; rw [List.pairwise_map]; exact cok.nd
  have ka := kall_ok (C := C) (ks := kyOf C) (l := []) .nil kp fun k _ y hy => by simp at hy
  obtain ⟨s1, s2⟩ := kyOf_sum cok.nd (D := C) fun p hp => hp
  have rv : revD (.list ((kall (kyOf C) []).map (·.2))) = some (.list (wD (kall (kyOf C) []))) := rfl
  show Is _ (Rf.execs Φ F b5 [.d (.list (ps.map tD)), .un, .un, .un, .un, .un, .un])
  simp only [b5, x_cons]
  rw [x_nowe (by simp)]
  simp only [Out.seq_nx, x_cons, x_for, es_cons, es_nil, e_var, List.set_cons_succ, List.set_cons_zero, List.getElem?_cons_zero, varK_d, Res.bind_ok, srcK_l, Out.ofR_ok, el]
  simp only [x_own, e_rev, e_call, es_cons, es_nil, e_nkeys, List.getElem?_cons_succ, List.getElem?_cons_zero, nkeysK_on, Res.bind_ok, keys_rep, ho, rv, Res.of_some, Out.ofR_ok]
  rw [ownK_l (by simp)]
  simp only [Out.seq_nx, x_cons, x_own, e_lst, es_nil, Res.bind_ok, Out.ofR_ok, List.set_cons_succ, List.set_cons_zero]
  rw [ownK_l (by simp)]
  simp only [Out.seq_nx, x_cons, x_asg, e_con, Out.ofR_ok, List.set_cons_succ, List.set_cons_zero]
  rw [asgK_nm (by simp)]
  simp only [Out.seq_nx, x_cons, x_asg, e_tup, es_nil, Res.bind_ok, Out.ofR_ok, List.set_cons_succ, List.set_cons_zero]
  rw [asgK_nm (by simp)]
  simp only [Out.seq_nx, x_cons, x_whl, List.set_cons_succ, List.set_cons_zero]
  refine Is.whl (fun d e => JG C (val (ps.map tm)) m 900000 (.list (ps.map tD)) d e) (fun d e hh => ?_) F _ (mu C 0 0 (kall (kyOf C) [])) ?_ ?_
  · rcases g_turn hS cok (Nat.le_refl _) nx cdep hh with ⟨t1, acc, x, s6, rfl, a1, a2, a3⟩ | ⟨t1, sl2, d', e2, lt, hj⟩
    · refine .inl ⟨t1, ?_⟩
      have rv2 : revD (.list (acc.map tD)) = some (.list (acc.reverse.map tD)) := by simp [revD]
      simp only [x_cons, x_ret, e_blt, es_cons, es_nil, e_rev, e_vw, List.getElem?_cons_succ, List.getElem?_cons_zero, vwK_l, Res.bind_ok, rv2, Res.of_some, bltK_tupL, Out.ofR_ok, Out.seq_ret]
      rw [Ret_ret]
      have f := Fm.mk acc.reverse a2 fun t ht => a3 t (by simpa using ht)
      have e : val (acc.reverse.map tm) = val (ps.map tm) := by rw [List.map_reverse (f := tm), val_rev, a1]
      rw [e] at f
      exact f
    · exact .inr ⟨t1, by rw [e2, Turn_nx]; exact ⟨d', lt, hj⟩⟩
  · refine ⟨0, 0, .tuple [], kall (kyOf C) [], [], _, rfl, fm0, ⟨ka.asc, fun z => absurd rfl z, ?_, trivial, fun t ht => by simp at ht, fun t ht => by simp at ht, fun t ht => by simp at ht, fun t ht => by simp at ht⟩, fun k hk => ?_, fun k hk => ?_, rfl, ?_⟩
    · rw [ka.sum, s1, cs]
      simp [val, wsum]
    · rcases ka.mem k hk with h | h
      · obtain ⟨p, hp, rfl⟩ := List.mem_map.mp h
        exact ⟨p, hp, rfl, rfl⟩
      · simp at h
    · rcases ka.mem k hk with h | h
      · obtain ⟨p, hp, rfl⟩ := List.mem_map.mp h
        exact hm p hp
      · simp at h
    · have e1 : mu C 0 0 (kall (kyOf C) []) = wmu C (kall (kyOf C) []) := by unfold mu; simp
      rw [e1, ka.mu, s2]
      simp only [wmu, List.length_nil]
      omega
  · have e1 : mu C 0 0 (kall (kyOf C) []) = wmu C (kall (kyOf C) []) := by unfold mu; simp
    rw [e1, ka.mu, s2]
    simp only [wmu]
    omega
/-- what is asked of next_of -/
def NextOk (F m : Nat) (V : Int) (d : Nat) : Prop := ∀ e x, Fm x ((e : Nat) : Int) → (e + 1 ≤ m ∨ 2 * (2 : Int) ^ (e + 1) < 3 * V ∨ 3 * V < -(2 * 2 ^ (e + 1))) → ∀ q, d ≤ q → ∃ y, phi TB F q 7 [x] = .ok y ∧ Fm y ((e + 1 : Nat) : Int)
theorem cacc_mem : ∀ {ps : List T3} {D : CL} {p : Nat × Rf.D × Int}, p ∈ cacc ps D → (∃ t ∈ ps, t.2.1 = p.1 ∧ t.2.2 = p.2.1) ∨ ∃ q ∈ D, q.1 = p.1 ∧ q.2.1 = p.2.1
  | [], D, p, h => .inr ⟨p, h, rfl, rfl⟩
  | t :: ps, D, p, h => by
    rcases cacc_mem (ps := ps) h with ⟨u, hu, e⟩ | ⟨q, hq, e1, e2⟩
    · exact .inl ⟨u, List.mem_cons_of_mem _ hu, e⟩
    · unfold cadd at hq
      split at hq
      · rcases List.mem_append.mp hq with hq | hq
        · exact .inr ⟨q, hq, e1, e2⟩
        · rw [List.mem_singleton.mp hq] at e1 e2
          exact .inl ⟨t, List.mem_cons_self .., e1, e2⟩
      · obtain ⟨r, hr, rfl⟩ := List.mem_map.mp hq
        refine .inr ⟨r, hr, ?_, ?_⟩
        · rw [← e1]; split <;> rfl
        · rw [← e2]; split <;> rfl
/-- gathered, at a depth -/
theorem gath_ok (hF : 4000 ≤ F) (hn : 8 ≤ n) {S : Nat → Prop} (hS : HInj S) {ps : List T3} {m : Nat} (hp : ∀ t ∈ ps, Fm t.2.2 (t.2.1 : Nat) ∧ S t.2.1 ∧ t.2.2.depth ≤ 13 ∧ t.2.1 ≤ m) (hl : ps.length ≤ 500) (hw : pw2 ps < F) (hw2 : pw2 ps ≤ 900000)
    (H : NextOk F m (val (ps.map tm)) (n - 1)) : ∃ x, phi TB F (n + 1) 5 [.list (ps.map tD)] = .ok x ∧ Fm x (val (ps.map tm)) := by
  have cok0 : COk S [] := ⟨fun p hp => by simp at hp, fun p hp => by simp at hp, .nil⟩
  obtain ⟨cok, cs, cwl, cl⟩ := cacc_ok (ps := ps) (C := []) (fun t ht => ⟨(hp t ht).1, (hp t ht).2.1⟩) cok0
  simp only [List.length_nil, Nat.zero_add] at cl
  have hm : ∀ p ∈ cacc ps [], p.1 ≤ m ∧ p.2.1.depth ≤ 13 := fun p hpm => by
    rcases cacc_mem hpm with ⟨t, ht, e1, e2⟩ | ⟨q, hq, _⟩
    · rw [← e1, ← e2]; exact ⟨(hp t ht).2.2.2, (hp t ht).2.2.1⟩
    · simp at hq
  obtain ⟨k, rfl⟩ : ∃ k, n = k + 1 := ⟨n - 1, by omega⟩
  have fk : ∀ y ∈ kyOf (cacc ps []), Fm y.2 (y.1 : Nat) ∧ y.2.depth ≤ 13 := fun y hy => by
    obtain ⟨p, hp, rfl⟩ := List.mem_map.mp hy
    exact ⟨cok.fm p hp, (hm p hp).2⟩
  have ho : phi TB F (k + 1) 4 [.list ((kyOf (cacc ps [])).map (·.2))] = .ok (.list ((kall (kyOf (cacc ps [])) []).map (·.2))) := by
    refine (phi_succ rfl).trans (in_run (by omega) (fun y hy => (fk y hy).1) ?_ ?_ fun j hj y hy => ?_)
    · unfold kyOf; rw [List.pairwise_map]; exact cok.nd
    · unfold kyOf; rw [List.length_map]; omega
    · have d := (fk y hy).2
      exact compare_ok (F := F) k (fk y hy).1 (fk j hj).1 (by omega) (by omega)
  obtain ⟨x, e, f⟩ := gath_run (Φ := phi TB F (k + 1)) hF hS (m := m) (fun t ht => ⟨(hp t ht).1, (hp t ht).2.1, by have := (hp t ht).2.2.1; omega⟩) hl hw hw2 (fun p hp => (hm p hp).1) ho
    ⟨fun e x hx nd => H e x hx nd (k + 1) (by omega), fun c e x ws hx hk hg => (phi_succ rfl).trans (sign_run2 hS cok hk (fun j hj => by
      obtain ⟨p, hp, _, e2⟩ := hk j hj
      have := (hm p hp).2
      rw [e2] at this
      omega) fun hne => by
        obtain ⟨j, r, rfl⟩ := List.exists_cons_of_ne_nil hne
        obtain ⟨a, b⟩ := hg j (List.mem_cons_self ..)
        exact H e x hx (.inl (by omega)) k (by omega))⟩
  exact ⟨x, (phi_succ rfl).trans e, f⟩
/-! ### next_of -/
def limN : Nat → Nat
  | 0 => 0
  | 1 => 1
  | 2 => 4
  | 3 => 41
  | _ => 100000
def mN : Nat → Nat
  | 0 => 0
  | 1 => 0
  | 2 => 2
  | 3 => 5
  | _ => 17
theorem pow_lt_of {t k : Nat} {c : Int} (h : 2 * (2 : Int) ^ t < c) (hk : c ≤ 2 * 2 ^ (k + 1)) : t ≤ k := by
  refine Nat.le_of_not_lt fun lt => ?_
  have := two_mono (show k + 1 ≤ t by omega)
  omega
theorem top_exp {l : List Tm} (h : Nf l) {k : Nat} {B : Int} (h0 : 0 ≤ val l) (hv : 3 * val l ≤ B) (hk : B ≤ 2 * 2 ^ (k + 1)) : ∀ t ∈ l, t.2 ≤ k := by
  cases l with
  | nil => intro t ht; simp at ht
  | cons u r =>
    have b := bnd h
    have P := two_pos u.2
    have hu : u.2 ≤ k := by
      refine pow_lt_of (c := B) ?_ hk
      generalize val (u :: r) = v at *
      generalize (2 : Int) ^ u.2 = x at *
      rcases h.1 with e | e <;> rw [e] at b <;> omega
    intro t ht
    rcases List.mem_cons.mp ht with rfl | ht
    · exact hu
    · have := head_le h t ht; omega
theorem len_exp : ∀ {l : List Tm} {k : Nat}, Nf l → (∀ t ∈ l, t.2 ≤ k) → l.length ≤ k + 1
  | [], _, _, _ => Nat.zero_le _
  | [t], _, _, _ => by simp
  | t :: u :: r, k, h, hk => by
    have a := h.2.1 u rfl
    have b := hk t (List.mem_cons_self ..)
    have := len_exp (l := u :: r) (k := k - 2) h.2.2 fun w hw => by
      have : w.2 ≤ u.2 := by
        rcases List.mem_cons.mp hw with rfl | hw
        · exact Nat.le_refl _
        · exact head_le h.2.2 w hw
      omega
    simp only [List.length_cons] at this ⊢
    omega
theorem pw_app : ∀ {a b : List T3}, pw2 (a ++ b) = pw2 a + pw2 b
  | [], b => by simp [pw2]
  | t :: a, b => by simp only [List.cons_append, pw2, pw_app (a := a)]; omega
theorem pw_nf : ∀ {ts : List T3}, Nf (ts.map tm) → pw2 ts = 6 * ts.length
  | [], _ => rfl
  | t :: r, h => by
    have e := pw_nf (ts := r) h.2.2
    have : t.1 = 1 ∨ t.1 = -1 := h.1
    simp only [pw2, List.length_cons, e]
    omega
theorem next_step (hF : 4000 ≤ F) {x : Rf.D} {v : Nat} (hx : Fm x (v : Nat)) {m : Nat} (hm : m ≤ 20) (hb : 3 * (v : Int) ≤ 2 * 2 ^ (m + 1)) (hv : v ≤ 100000) {d : Nat} (hd : 12 ≤ d) (H : NextOk F m ((v + 1 : Nat) : Int) (d - 3)) : ∃ y, phi TB F d 7 [x] = .ok y ∧ Fm y ((v + 1 : Nat) : Int) := by
  obtain ⟨ts, rfl, hvv, nf, fs⟩ := hx.inv
  obtain ⟨k, rfl⟩ : ∃ k, d = k + 3 := ⟨d - 3, by omega⟩
  have ex := top_exp nf (k := m) (B := 3 * (v : Int)) (by omega) (by omega) hb
  have ln := len_exp nf ex
  rw [List.length_map] at ln
  have e1 : ((v + 1 : Nat) : Int) = val ((ts ++ [(1, 0, PyData.tuple [])]).map tm) := by
    rw [List.map_append, val_app, ← hvv]
    rfl
  rw [e1] at H ⊢
  obtain ⟨y, hy, fy⟩ := gath_ok (F := F) (n := k + 1) (m := m) hF (by omega) hinj (ps := ts ++ [(1, 0, PyData.tuple [])]) (fun t ht => by
    rcases List.mem_append.mp ht with ht | ht
    · have e := ex (tm t) (List.mem_map.mpr ⟨t, ht, rfl⟩)
      have e : t.2.1 ≤ m := e
      exact ⟨fs t ht, by show t.2.1 ≤ 3000; omega, depN (fs t ht) (by omega), e⟩
    · rw [List.mem_singleton.mp ht]
      exact ⟨fm0, by decide, by decide, Nat.zero_le _⟩) (by rw [List.length_append, List.length_singleton]; omega) (by rw [pw_app, pw_nf nf]; simp only [pw2]; omega) (by rw [pw_app, pw_nf nf]; simp only [pw2]; omega) H
  refine ⟨y, (phi_succ rfl).trans (run_ret rfl ?_), fy⟩
  have hl : binK .add (.list (ts.map tD)) (.list [.tuple [.int 1, .tuple []]]) = .ok (.list ((ts ++ [(1, 0, PyData.tuple [])]).map tD)) := by
    rw [binK_lst (by rw [List.length_map, List.length_singleton]; omega), List.map_append]
    rfl
  have hli : bltK .list [.tuple (ts.map tD)] = .ok (.list (ts.map tD)) := rfl
  show Rf.execs _ F b7 [.d (.tuple (ts.map tD))] = _
  simp only [b7, x_cons, x_ret, e_call, es_cons, es_nil, e_bin, e_blt, e_var, e_lst, e_tup, e_con, List.getElem?_cons_zero, varK_d, Res.bind_ok, hli, hl, hy, Out.ofR_ok, Out.seq_ret]
theorem next_ok (hF : 4000 ≤ F) : ∀ (l : Nat), l ≤ 4 → ∀ {v : Nat} {x : Rf.D}, v ≤ limN l → Fm x (v : Nat) → ∀ d, 3 * l + 12 ≤ d → ∃ y, phi TB F d 7 [x] = .ok y ∧ Fm y ((v + 1 : Nat) : Int)
  | 0, _, v, x, hv, hx, d, hd => by
    have hv : v = 0 := Nat.le_zero.mp hv
    subst hv
    refine next_step hF hx (m := 0) (by decide) (by decide) (by decide) (by omega) fun e x hx nd => ?_
    have := two_pos (e + 1)
    have := two_mono (i := 1) (j := e + 1) (by omega)
    omega
  | l + 1, hl, v, x, hv, hx, d, hd => by
    have key : v ≤ 100000 ∧ 3 * (v : Int) ≤ 2 * 2 ^ (mN (l + 1) + 1) ∧ mN (l + 1) ≤ 20 ∧ mN (l + 1) ≤ limN l + 1 ∧ 3 * ((v + 1 : Nat) : Int) ≤ 2 * 2 ^ (limN l + 1 + 1) := by
      match l, hl with
      | 0, _ => have : v ≤ 1 := hv; simp only [mN, limN]; refine ⟨by omega, ?_, by omega, by omega, ?_⟩ <;> omega
      | 1, _ => have : v ≤ 4 := hv; simp only [mN, limN]; refine ⟨by omega, ?_, by omega, by omega, ?_⟩ <;> omega
      | 2, _ => have : v ≤ 41 := hv; simp only [mN, limN]; refine ⟨by omega, ?_, by omega, by omega, ?_⟩ <;> omega
      | 3, _ => have : v ≤ 100000 := hv; simp only [mN, limN]; refine ⟨by omega, ?_, by omega, by omega, ?_⟩ <;> omega
    obtain ⟨k1, k2, k3, k4, k5⟩ := key
    refine next_step hF hx k3 k2 k1 (by omega) fun e x hx nd q hq => next_ok hF l (by omega) ?_ hx q (by omega)
    rcases nd with h | h | h
    · omega
    · have := pow_lt_of (t := e + 1) (k := limN l + 1) h k5
      omega
    · have := two_pos (e + 1)
      omega
end
end My


set_option Elab.async false
set_option linter.all false
set_option maxRecDepth 100000
set_option maxHeartbeats 1000000
namespace My
open PySem PySem.Spec PyProof.Rows L2 Rf
section
variable {Φ : FT} {F : Nat}
/-! ### from_int -/
def OkT (m dd : Nat) (t : T3) : Prop := t.2.1 ≤ m ∧ Fm t.2.2 (t.2.1 : Nat) ∧ t.2.2.depth ≤ dd
structure OI (v : Int) (m dd i : Nat) (acc : List T3) (rest : Int) : Prop where
  nf : Nf (acc.reverse.map tm)
  hd : ∀ t ∈ (acc.reverse.map tm).head?, t.2 + 1 ≤ i ∧ (t.2 + 1 = i → rest % 2 = 0)
  vl : val (acc.reverse.map tm) + rest * 2 ^ i = v
  tm : ∀ t ∈ acc, OkT m dd t
  sm : (i ≤ m ∧ -(2 ^ (m - i)) ≤ rest ∧ rest ≤ 2 ^ (m - i)) ∨ rest = 0
theorem tmap {acc : List T3} {s : Int} {p : Nat} {d : Rf.D} : acc.map tD ++ [.tuple [.int s, d]] = (acc ++ [(s, p, d)]).map tD := by simp [tD]
theorem half_sm {m i : Nat} {rest r2 : Int} (h : (i ≤ m ∧ -(2 ^ (m - i)) ≤ rest ∧ rest ≤ 2 ^ (m - i)) ∨ rest = 0) (h0 : rest ≠ 0) (hr : r2 = rest / 2 ∧ rest % 2 = 0 ∨ (r2 = (rest - 1) / 2 ∧ rest % 4 = 1) ∨ (r2 = (rest + 1) / 2 ∧ rest % 4 = 3)) : (i + 1 ≤ m ∧ -(2 ^ (m - (i + 1))) ≤ r2 ∧ r2 ≤ 2 ^ (m - (i + 1))) ∨ r2 = 0 := by
  rcases h with ⟨h1, h2, h3⟩ | h
  · by_cases e : i = m
    · subst e
      rw [Nat.sub_self, show (2 : Int) ^ 0 = 1 from rfl] at h2 h3
      right
      omega
    · left
      have e2 : m - i = m - (i + 1) + 1 := by omega
      rw [e2, two_add, show (2 : Int) ^ 1 = 2 from rfl] at h2 h3
      generalize (2 : Int) ^ (m - (i + 1)) = x at *
      refine ⟨by omega, ?_, ?_⟩ <;> omega
  · exact absurd h h0
theorem OI.even {v : Int} {m dd i : Nat} {acc : List T3} {rest : Int} (h : OI v m dd i acc rest) (h0 : rest ≠ 0) (he : rest % 2 = 0) : OI v m dd (i + 1) acc (rest / 2) := by
  refine ⟨h.nf, fun t ht => ?_, ?_, h.tm, half_sm h.sm h0 (.inl ⟨rfl, he⟩)⟩
  · have := h.hd t ht; exact ⟨by omega, fun z => by omega⟩
  · have := h.vl
    rw [two_add, show (2 : Int) ^ 1 = 2 from rfl, show (2 : Int) ^ i * 2 = 2 * 2 ^ i from Int.mul_comm .., ← Int.mul_assoc, show rest / 2 * 2 = rest by omega]
    exact this
theorem OI.odd {v : Int} {m dd i : Nat} {acc : List T3} {rest s : Int} {d : Rf.D} (h : OI v m dd i acc rest) (h0 : rest ≠ 0) (ho : rest % 2 = 1) (hs : s = 2 - rest % 4) (hd : OkT m dd (s, i, d)) : OI v m dd (i + 1) (acc ++ [(s, i, d)]) ((rest - s) / 2) := by
  have hs2 : s = 1 ∨ s = -1 := by omega
  refine ⟨?_, fun t ht => ?_, ?_, fun t ht => ?_, half_sm h.sm h0 (by omega)⟩
  · rw [List.reverse_append]
    refine ⟨hs2, fun u hu => ?_, h.nf⟩
    have := h.hd u hu
    by_cases e : u.2 + 1 = i
    · have := this.2 e; omega
    · show u.2 + 2 ≤ i
      have := this.1
      omega
  · rw [List.reverse_append] at ht
    have : t = (s, i) := by simpa [My.tm] using ht.symm
    subst this
    exact ⟨Nat.le_refl _, fun _ => by show (rest - s) / 2 % 2 = 0; omega⟩
  · have := h.vl
    rw [List.reverse_append]
    show s * 2 ^ i + val (acc.reverse.map My.tm) + (rest - s) / 2 * 2 ^ (i + 1) = v
    rw [two_add, show (2 : Int) ^ 1 = 2 from rfl, show (2 : Int) ^ i * 2 = 2 * 2 ^ i from Int.mul_comm .., ← Int.mul_assoc, show (rest - s) / 2 * 2 = rest - s by omega, Int.sub_mul]
    omega
  · rcases List.mem_append.mp ht with ht | ht
    · exact h.tm t ht
    · simp at ht; subst ht; exact hd
def JF (v : Int) (m dd : Nat) (i : Nat) (e : Sl) : Prop := ∃ (acc : List T3) (rest : Int) (s3 : Slot), e = [.d (.int rest), .ol (acc.map tD), .d (.int (i : Nat)), s3] ∧ OI v m dd i acc rest ∧ acc.length ≤ i ∧ i ≤ m + 1
theorem OI.nz {v : Int} {m dd i : Nat} {acc : List T3} {rest : Int} (h : OI v m dd i acc rest) (h0 : rest ≠ 0) : v ≠ 0 := fun z => by
  subst z
  have hv := h.vl
  have nn : ∀ (l : List Tm), Nf l → val l + rest * 2 ^ i = 0 → (∀ t ∈ l.head?, t.2 + 1 ≤ i) → False := fun l nl e hh => by
    have p := two_pos i
    cases l with
    | nil =>
      simp only [val, Int.zero_add] at e
      rcases Int.mul_eq_zero.mp e with e | e
      · exact h0 e
      · omega
    | cons t r =>
      have b := bnd nl
      have le := two_lt (n := t.2) (k := i) (by have := hh t rfl; omega)
      have p2 := two_pos t.2
      have ee : val (t :: r) = -(rest * 2 ^ i) := by omega
      rw [ee] at b
      have r1 : rest ≤ -1 ∨ 1 ≤ rest := by omega
      have big : 2 ^ i ≤ rest * 2 ^ i ∨ rest * 2 ^ i ≤ -(2 ^ i) := by
        rcases r1 with r1 | r1
        · right
          have := Int.mul_le_mul_of_nonneg_right r1 (Int.le_of_lt p)
          omega
        · left
          have := Int.mul_le_mul_of_nonneg_right r1 (Int.le_of_lt p)
          omega
      generalize rest * 2 ^ i = z at *
      generalize (2 : Int) ^ i = x at *
      generalize (2 : Int) ^ t.2 = y at *
      rcases nl.1 with e1 | e1 <;> rw [e1] at b <;> omega
  exact nn _ h.nf hv fun t ht => (h.hd t ht).1
theorem from_run {m dd : Nat} (hm : m ≤ 3000) (hF : 4000 ≤ F) {v : Int} (h1 : -(2 ^ m) ≤ v) (h2 : v ≤ 2 ^ m) (ih : v ≠ 0 → ∀ p : Nat, p ≤ m → ∃ d, Φ 8 [.int (p : Nat)] = .ok d ∧ Fm d (p : Nat) ∧ d.depth ≤ dd) :
    ∃ x, Fdef.run ⟨1, 4, b8⟩ Φ F [.int v] = .ok x ∧ (Fm x v ∧ x.depth ≤ dd + 2) := by
  refine run_of rfl ?_
  simp only [b8, x_cons, x_own, e_lst, es_nil, Res.bind_ok, Out.ofR_ok, List.map_cons, List.map_nil, List.replicate_succ, List.replicate_zero, Nat.reduceSub, List.cons_append, List.nil_append]
  rw [ownK_l (by simp)]
  simp only [Out.seq_nx, x_cons, x_asg, e_con, Out.ofR_ok, List.set_cons_succ, List.set_cons_zero]
  rw [asgK_nm (by simp)]
  simp only [Out.seq_nx, x_whl, List.set_cons_succ, List.set_cons_zero]
  refine Is.whl (fun n e => ∃ i, n + i = m + 2 ∧ JF v m dd i e) (fun n e hh => ?_) F _ (m + 2) ⟨0, rfl, [], v, .un, rfl, ⟨trivial, fun t ht => by simp at ht, by simp [val], fun t ht => by simp at ht, .inl ⟨Nat.zero_le _, h1, h2⟩⟩, Nat.le_refl _, Nat.zero_le _⟩ (by omega)
  obtain ⟨i, hn, acc, rest, s3, rfl, h, hl, hi⟩ := hh
  by_cases h0 : rest = 0
  · subst h0
    refine .inl ⟨by simp [x8_2], ?_⟩
    have hF : Fm (.tuple (acc.map tD).reverse) v := by
      have := Fm.mk acc.reverse h.nf fun t ht => (h.tm t (List.mem_reverse.mp ht)).2.1
      have hv := h.vl
      rw [Int.zero_mul, Int.add_zero] at hv
      rw [hv] at this
      rw [← List.map_reverse]
      exact this
    have hD : (PyData.tuple (acc.map tD).reverse).depth ≤ dd + 2 := by
      have := dep_le (ts := acc.reverse) (n := dd) fun t ht => (h.tm t (List.mem_reverse.mp ht)).2.2
      rw [List.map_reverse] at this
      simp only [PyData.depth]
      omega
    have rv : revD (.list (acc.map tD)) = some (.list (acc.map tD).reverse) := rfl
    simp [rv]
    exact ⟨hF, hD⟩
  · have hv0 := h.nz h0
    have him : i ≤ m := by
      rcases h.sm with q | q
      · exact q.1
      · exact absurd q h0
    have hz : acc.length < line := by unfold line; omega
    refine .inr ⟨by simp [x8_2, h0], ?_⟩
    by_cases hp : rest % 2 = 1
    · obtain ⟨d, c1, c2, c3⟩ := ih hv0 i him
      have ok : OkT m dd (2 - rest % 4, i, d) := ⟨him, c2, c3⟩
      have h' := h.odd h0 hp rfl ok
      have r4 : rest % 4 = 1 ∨ rest % 4 = 3 := by omega
      have hb : Rf.execs Φ F b8_1 [.d (.int rest), .ol (acc.map tD), .d (.int (i : Nat)), s3] = .nx [.d (.int ((rest - (2 - rest % 4)) / 2)), .ol ((acc ++ [(2 - rest % 4, i, d)]).map tD), .d (.int ((i + 1 : Nat) : Int)), .d (.int (2 - rest % 4))] := by
        rw [← tmap]
        rcases r4 with r4 | r4
        · simp [b8_1, hp, r4, c1, hz]
        · simp [b8_1, hp, r4, c1, hz]
      rw [hb, Turn_nx]
      exact ⟨n - 1, by omega, i + 1, by omega, _, _, _, rfl, h', by simp; omega, by omega⟩
    · have he : rest % 2 = 0 := by omega
      have h' := h.even h0 he
      have hb : Rf.execs Φ F b8_1 [.d (.int rest), .ol (acc.map tD), .d (.int (i : Nat)), s3] = .nx [.d (.int (rest / 2)), .ol (acc.map tD), .d (.int ((i + 1 : Nat) : Int)), s3] := by
        simp [b8_1, he]
      rw [hb, Turn_nx]
      exact ⟨n - 1, by omega, i + 1, by omega, _, _, _, rfl, h', by omega, by omega⟩
def lev : Nat → Nat
  | 0 => 0
  | 1 => 0
  | 2 => 1
  | 3 => 2
  | 4 => 4
  | 5 => 16
  | _ => 3000
theorem from_ok (hF : 4000 ≤ F) : ∀ (n : Nat) {v : Int}, n ≤ 6 → (n = 0 → v = 0) → -(2 ^ lev n) ≤ v → v ≤ 2 ^ lev n → ∀ k, ∃ x, phi TB F (n + k + 1) 8 [.int v] = .ok x ∧ Fm x v ∧ x.depth ≤ 2 * n + 1
  | 0, v, _, hz, h1, h2, k => by
    obtain ⟨x, r, hx⟩ := from_run (Φ := phi TB F (0 + k)) (F := F) (m := 0) (dd := 0) (v := v) (by decide) hF h1 h2 fun z => absurd (hz rfl) z
    have hv := hz rfl
    subst hv
    have : x = .tuple [] := by
      have := Fm.mk [] trivial fun t ht => by simp at ht
      exact hx.1.uniq _ this
    refine ⟨x, (phi_succ rfl).trans r, hx.1, ?_⟩
    rw [this]
    decide
  | n + 1, v, hn, _, h1, h2, k => by
    obtain ⟨x, r, hx⟩ := from_run (Φ := phi TB F (n + 1 + k)) (F := F) (m := lev (n + 1)) (dd := 2 * n + 1) (v := v) (by
      match n, hn with
      | 0, _ => decide
      | 1, _ => decide
      | 2, _ => decide
      | 3, _ => decide
      | 4, _ => decide
      | 5, _ => decide) hF h1 h2 fun _ p hp => by
        have key : (n = 0 → p = 0) ∧ (p : Int) ≤ 2 ^ lev n := by
          match n, hn with
          | 0, _ => exact ⟨fun _ => by simpa [lev] using hp, by simp [lev] at hp ⊢; omega⟩
          | 1, _ => exact ⟨fun z => by omega, by simp [lev] at hp ⊢; omega⟩
          | 2, _ => exact ⟨fun z => by omega, by simp [lev] at hp ⊢; omega⟩
          | 3, _ => exact ⟨fun z => by omega, by simp [lev] at hp ⊢; omega⟩
          | 4, _ => exact ⟨fun z => by omega, by simp [lev] at hp ⊢; omega⟩
          | 5, _ => exact ⟨fun z => by omega, by simp [lev] at hp ⊢; omega⟩
        have pos := two_pos (lev n)
        obtain ⟨d, d1, d2, d3⟩ := from_ok hF n (v := (p : Int)) (by omega) (fun z => by rw [key.1 z]; rfl) (by omega) key.2 k
        refine ⟨d, ?_, d2, d3⟩
        rw [show n + 1 + k = n + k + 1 by omega]
        exact d1
    exact ⟨x, (phi_succ rfl).trans r, hx.1, by omega⟩
end
end My


set_option Elab.async false
set_option linter.all false
set_option maxRecDepth 100000
set_option maxHeartbeats 4000000
namespace My
open PySem PySem.Spec PyProof.Rows L2 Rf
/-! ### dicts of numbers -/
abbrev Ct := Nat × Int
def rep (L : List Ct) : List (Rf.D × Rf.D) := L.map fun w => (.int (w.1 : Nat), .int w.2)
def Nd (L : List Ct) : Prop := L.Pairwise fun a b => a.1 ≠ b.1
def get (L : List Ct) (k : Nat) : Int := match L with
  | [] => 0
  | w :: r => if w.1 = k then w.2 else get r k
def has (L : List Ct) (k : Nat) : Bool := match L with
  | [] => false
  | w :: r => if w.1 = k then true else has r k
def put (L : List Ct) (k : Nat) (c : Int) : List Ct := if has L k then L.map fun w => if w.1 = k then (w.1, c) else w else L ++ [(k, c)]
theorem eqv_n {a b : Nat} : PyData.eqv (.int (a : Nat)) (.int (b : Nat)) = decide (a = b) := by
  simp only [PyData.eqv]
  by_cases h : a = b
  · subst h; simp
  · rw [decide_eq_false h, beq_eq_false_iff_ne]; omega
theorem lookD_rep {k : Nat} : ∀ {L : List Ct}, lookD (rep L) (.int (k : Nat)) = if has L k then some (.int (get L k)) else none
  | [] => rfl
  | w :: r => by
    have ih := lookD_rep (k := k) (L := r)
    unfold lookD rep at ih ⊢
    rw [List.map_cons, List.find?_cons, eqv_n]
    by_cases h : w.1 = k
    · rw [decide_eq_true h]; simp [has, get, h]
    · rw [decide_eq_false h]
      simp only [has, get, if_neg h]
      exact ih
theorem get_no {k : Nat} : ∀ {L : List Ct}, has L k = false → get L k = 0
  | [], _ => rfl
  | w :: r, h => by
    simp only [has] at h
    split at h
    · cases h
    · rename_i e
      simp only [get, if_neg e]; exact get_no h
theorem getD_rep {L : List Ct} {k : Nat} : (lookD (rep L) (.int (k : Nat))).getD (.int 0) = .int (get L k) := by
  rw [lookD_rep]
  split
  · rfl
  · rename_i h
    rw [get_no (by simpa using h)]; rfl
theorem putD_rep {L : List Ct} {k : Nat} {c : Int} : putD (rep L) (.int (k : Nat)) (.int c) = rep (put L k c) := by
  unfold putD put
  rw [lookD_rep]
  cases h : has L k with
  | true =>
    simp only [if_true, Option.isSome_some]
    unfold rep
    rw [List.map_map, List.map_map]
    refine List.map_congr_left fun w _ => ?_
    simp only [Function.comp, eqv_n]
    by_cases e : w.1 = k
    · rw [decide_eq_true e, if_pos rfl, if_pos e]
    · rw [decide_eq_false e, if_neg (by decide), if_neg e]
  | false =>
    simp only [Bool.false_eq_true, if_false, Option.isSome_none]
    unfold rep
    rw [List.map_append]
    rfl
theorem has_mem {k : Nat} : ∀ {L : List Ct}, has L k = true ↔ ∃ w ∈ L, w.1 = k
  | [] => by simp [has]
  | w :: r => by
    simp only [has]
    by_cases e : w.1 = k
    · rw [if_pos e]; exact ⟨fun _ => ⟨w, List.mem_cons_self .., e⟩, fun _ => rfl⟩
    · rw [if_neg e, has_mem]
      constructor
      · rintro ⟨u, h1, h2⟩; exact ⟨u, List.mem_cons_of_mem _ h1, h2⟩
      · rintro ⟨u, h1, h2⟩
        rcases List.mem_cons.mp h1 with rfl | h1
        · exact absurd h2 e
        · exact ⟨u, h1, h2⟩
theorem put_keys {L : List Ct} {k : Nat} {c : Int} (h : has L k = true) : (put L k c).map (·.1) = L.map (·.1) := by
  unfold put
  rw [if_pos h, List.map_map]
  refine List.map_congr_left fun w _ => ?_
  simp only [Function.comp]
  split <;> rfl
theorem nd_keys {L : List Ct} : Nd L ↔ (L.map (·.1)).Pairwise (· ≠ ·) := by
  unfold Nd
  rw [List.pairwise_map]
theorem put_nd {L : List Ct} {k : Nat} {c : Int} (h : Nd L) : Nd (put L k c) := by
  cases q : has L k with
  | true => rw [nd_keys, put_keys q, ← nd_keys]; exact h
  | false =>
    unfold put
    rw [q, if_neg (by decide)]
    unfold Nd at h ⊢
    rw [List.pairwise_append]
    refine ⟨h, List.pairwise_singleton .., fun a ha b hb => ?_⟩
    rw [List.mem_singleton] at hb
    subst hb
    intro e
    have : has L k = true := has_mem.mpr ⟨a, ha, e⟩
    rw [q] at this; cases this
theorem put_len {L : List Ct} {k : Nat} {c : Int} : (put L k c).length ≤ L.length + 1 := by
  unfold put
  split
  · rw [List.length_map]; omega
  · rw [List.length_append]; simp
theorem put_mem {L : List Ct} {k : Nat} {c : Int} {w : Ct} (h : w ∈ put L k c) : w = (k, c) ∨ w ∈ L := by
  unfold put at h
  split at h
  · obtain ⟨u, h1, h2⟩ := List.mem_map.mp h
    split at h2
    · rename_i e
      left; rw [← h2, e]
    · right; rw [← h2]; exact h1
  · rcases List.mem_append.mp h with h | h
    · exact .inr h
    · exact .inl (by simpa using h)
theorem keysOk_rep : ∀ {L : List Ct}, keysOk (rep L) = true
  | [] => rfl
  | w :: r => by
    have := keysOk_rep (L := r)
    unfold rep at this ⊢
    simp only [List.map_cons, keysOk, keyD, Option.isSome_some, Bool.true_and]
    exact this
section
variable {Φ : FT} {F n : Nat}
theorem ownK_rep {L : List Ct} {i : Nat} {e : Sl} (h : i < e.length) : ownK i e (.dict (rep L)) = .nx (e.set i (.od (rep L))) := by
  simp only [ownK, ownS, if_pos keysOk_rep, if_pos h]
theorem setd_rep {L : List Ct} {i k : Nat} {c : Int} {e : Sl} (h : L.length < line) : setdK i e (rep L) (.int c) (.int (k : Nat)) = .nx (e.set i (.od (rep (put L k c)))) := by
  rw [setdK_i (by unfold rep; rw [List.length_map]; exact h), putD_rep]
theorem dget_rep {L : List Ct} {k : Nat} : dgetV (rep L) (.int (k : Nat)) (.int 0) = .ok (.int (get L k)) := by
  rw [dgetV_i, getD_rep]
theorem put_has {L : List Ct} {k j : Nat} {c : Int} (h : has L j = true) : has (put L k c) j = true := by
  obtain ⟨w, h1, h2⟩ := has_mem.mp h
  unfold put
  split
  · exact has_mem.mpr ⟨_, List.mem_map.mpr ⟨w, h1, rfl⟩, by split <;> exact h2⟩
  · exact has_mem.mpr ⟨w, List.mem_append.mpr (.inl h1), h2⟩
theorem idx_has {L : List Ct} {k : Nat} (h : has L k = true) : idxK (.dict (rep L)) (.int (k : Nat)) = .ok (.int (get L k)) := by
  have e : idxD (.dict (rep L)) (.int (k : Nat)) = some (.int (get L k)) := by
    show (if (keyD (.int (k : Nat))).isSome then lookD (rep L) (.int (k : Nat)) else none) = _
    rw [if_pos (show (keyD (PyData.int (k : Nat))).isSome = true from rfl), lookD_rep, if_pos h]
  rw [idxK, e]; rfl
end
end My


set_option Elab.async false
set_option linter.all false
set_option maxRecDepth 100000
set_option maxHeartbeats 4000000
namespace My
open PySem PySem.Spec PyProof.Rows L2 Rf
section
variable {Φ : FT} {F n : Nat}
/-! ### powers of two by a modulus -/
def pw (m i : Nat) : Nat := 2 ^ i % m
theorem pw_succ {m i : Nat} : pw m (i + 1) = pw m i * 2 % m := by
  unfold pw
  rw [Nat.pow_succ, Nat.mod_mul_mod]
theorem pw_lt {m i : Nat} (h : 0 < m) : pw m i < m := Nat.mod_lt _ h
theorem pw_shift {m a b : Nat} (h : pw m a = pw m b) : ∀ k, pw m (a + k) = pw m (b + k)
  | 0 => h
  | k + 1 => by
    rw [← Nat.add_assoc, ← Nat.add_assoc, pw_succ, pw_succ, pw_shift h k]
structure IsRow (m L l : Nat) : Prop where
  lt : l < L
  eq : pw m L = pw m l
  ne : ∀ a b, a < b → b < L → pw m a ≠ pw m b
  le : L ≤ m
theorem IsRow.uniq {m L l L' l' : Nat} (h : IsRow m L l) (h' : IsRow m L' l') : L = L' ∧ l = l' := by
  have e : L = L' := by
    rcases Nat.lt_trichotomy L L' with q | q | q
    · exact absurd h.eq.symm (h'.ne l L h.lt q)
    · exact q
    · exact absurd h'.eq.symm (h.ne l' L' h'.lt q)
  subst e
  refine ⟨rfl, ?_⟩
  have q : pw m l = pw m l' := h.eq.symm.trans h'.eq
  rcases Nat.lt_trichotomy l l' with g | g | g
  · exact absurd q (h.ne l l' g h'.lt)
  · exact g
  · exact absurd q.symm (h.ne l' l g h.lt)
theorem few {m i : Nat} (hm : 0 < m) (ne : ∀ a b, a < b → b < i → pw m a ≠ pw m b) : i ≤ m := by
  have nd : ((List.range i).map fun j => ((pw m j : Nat) : Int) + 1).Nodup := by
    unfold List.Nodup
    rw [List.pairwise_map]
    have := List.pairwise_lt_range (n := i)
    refine List.Pairwise.imp_of_mem (fun {a b} ha hb hlt => ?_) this
    have := ne a b hlt (List.mem_range.mp hb)
    omega
  have := nodup_len m nd fun x hx => by
    obtain ⟨j, _, rfl⟩ := List.mem_map.mp hx
    have := pw_lt (m := m) (i := j) hm
    omega
  simpa using this
theorem period {m L l : Nat} (h : IsRow m L l) : ∀ (k E : Nat), E = k → l ≤ E → pw m E = pw m (l + (E - l) % (L - l)) := by
  intro k
  induction k using Nat.strongRecOn with
  | ind k ih =>
    intro E hE hl
    have hlt := h.lt
    by_cases hlt2 : E < L
    · rw [Nat.mod_eq_of_lt (by omega)]
      congr 1
      omega
    · have e1 : pw m E = pw m (E - (L - l)) := by
        have := pw_shift h.eq (E - L)
        rw [show L + (E - L) = E by omega, show l + (E - L) = E - (L - l) by omega] at this
        exact this
      have e2 := ih (E - (L - l)) (by omega) _ rfl (by omega)
      rw [e1, e2]
      congr 2
      rw [show E - l = (E - (L - l) - l) + (L - l) by omega, Nat.add_mod_right]
/-! ### row_of_two -/
abbrev rowL (m L : Nat) : List Rf.D := (List.range L).map fun j => .int (pw m j : Nat)
abbrev seenL (m i : Nat) : List Ct := (List.range i).map fun j => (pw m j, (j : Int))
theorem has_seen {m i k : Nat} : has (seenL m i) k = true ↔ ∃ j, j < i ∧ pw m j = k := by
  rw [has_mem]
  constructor
  · rintro ⟨w, h1, h2⟩
    obtain ⟨j, h3, rfl⟩ := List.mem_map.mp h1
    exact ⟨j, List.mem_range.mp h3, h2⟩
  · rintro ⟨j, h1, h2⟩
    exact ⟨(pw m j, (j : Int)), List.mem_map.mpr ⟨j, List.mem_range.mpr h1, rfl⟩, h2⟩
theorem get_seen {m i : Nat} (ne : ∀ a b, a < b → b < i → pw m a ≠ pw m b) {j : Nat} (hj : j < i) : get (seenL m i) (pw m j) = (j : Int) := by
  have : ∀ (L : List Nat), L.Pairwise (· < ·) → (∀ x ∈ L, x < i) → j ∈ L → get (L.map fun j => (pw m j, (j : Int))) (pw m j) = (j : Int) := by
    intro L
    induction L with
    | nil => intro _ _ h; simp at h
    | cons a r ih =>
      intro hp hb hm
      rw [List.pairwise_cons] at hp
      simp only [List.map_cons, get]
      by_cases e : pw m a = pw m j
      · rw [if_pos e]
        have ha := hb a (List.mem_cons_self ..)
        rcases Nat.lt_trichotomy a j with g | g | g
        · exact absurd e (ne a j g hj)
        · rw [g]
        · exact absurd e.symm (ne j a g ha)
      · rw [if_neg e]
        rcases List.mem_cons.mp hm with rfl | hm
        · exact absurd rfl e
        · exact ih hp.2 (fun x hx => hb x (List.mem_cons_of_mem _ hx)) hm
  exact this _ List.pairwise_lt_range (fun x hx => List.mem_range.mp hx) (List.mem_range.mpr hj)
theorem inD_rep {L : List Ct} {k : Nat} : inD (.int (k : Nat)) (.dict (rep L)) = some (has L k) := by
  show (if (keyD (.int (k : Nat))).isSome then some (lookD (rep L) (.int (k : Nat))).isSome else none) = _
  rw [if_pos (show (keyD (PyData.int (k : Nat))).isSome = true from rfl), lookD_rep]
  cases has L k <;> rfl
theorem notin_rep {L : List Ct} {k : Nat} : cmpK .notin (.int (k : Nat)) (.dict (rep L)) = .ok (.bool (!has L k)) := by
  have e : cmpD .notin (.int (k : Nat)) (.dict (rep L)) = some (!has L k) := by
    show Option.map _ (inD (.int (k : Nat)) (.dict (rep L))) = _
    rw [inD_rep]; rfl
  rw [cmpK, e]; rfl
theorem in_rep {L : List Ct} {k : Nat} : cmpK .isin (.int (k : Nat)) (.dict (rep L)) = .ok (.bool (has L k)) := by
  have e : cmpD .isin (.int (k : Nat)) (.dict (rep L)) = some (has L k) := inD_rep
  rw [cmpK, e]; rfl
theorem put_seen {m i : Nat} (h : has (seenL m i) (pw m i) = false) : put (seenL m i) (pw m i) (i : Int) = seenL m (i + 1) := by
  unfold put
  rw [h, if_neg (by decide)]
  unfold seenL
  rw [List.range_succ, List.map_append]
  rfl
theorem row_snoc {m i : Nat} : rowL m i ++ [.int (pw m i : Nat)] = rowL m (i + 1) := by
  unfold rowL
  rw [List.range_succ, List.map_append]
  rfl
def JR (m : Nat) (i : Nat) (e : Sl) : Prop := e = [.d (.int (m : Nat)), .ol (rowL m i), .od (rep (seenL m i)), .d (.int (pw m i : Nat))] ∧ ∀ a b, a < b → b < i → pw m a ≠ pw m b
theorem row_run {m : Nat} (h1 : 1 ≤ m) (h2 : m ≤ 10000) (hF : 20000 ≤ F) : ∃ x, Fdef.run ⟨1, 4, b28⟩ Φ F [.int (m : Nat)] = .ok x ∧ ∃ L l, IsRow m L l ∧ x = .tuple [.list (rowL m L), .int (l : Nat)] := by
  refine run_of rfl ?_
  have p0 : ((1 : Int) % (m : Nat)) = ((pw m 0 : Nat) : Int) := by
    unfold pw
    rw [Nat.pow_zero]
    exact (Int.natCast_emod 1 m).symm
  have o1 := binK_mod (i := 1) (show (0 : Int) < (m : Nat) by omega)
  rw [p0] at o1
  simp only [b28, x_cons, x_own, e_lst, e_emp, es_nil, Res.bind_ok, Out.ofR_ok, List.map_cons, List.map_nil, List.replicate_succ, List.replicate_zero, Nat.reduceSub, List.cons_append, List.nil_append]
  rw [ownK_l (by simp)]
  simp only [Out.seq_nx, x_cons, x_own, e_emp, Out.ofR_ok, List.set_cons_succ, List.set_cons_zero]
  rw [ownK_e (by simp)]
  simp only [Out.seq_nx, x_cons, x_asg, e_bin, e_con, e_var, List.getElem?_cons_zero, varK_d, Res.bind_ok, o1, Out.ofR_ok, List.set_cons_succ, List.set_cons_zero]
  rw [asgK_nm (by simp)]
  simp only [Out.seq_nx, x_whl, List.set_cons_succ, List.set_cons_zero]
  refine Is.whl (fun n e => ∃ i, n + i = m + 1 ∧ JR m i e) (fun n e hh => ?_) F _ (m + 1) ⟨0, rfl, rfl, fun a b _ h => absurd h (Nat.not_lt_zero _)⟩ (by omega)
  obtain ⟨i, hn, rfl, ne⟩ := hh
  have hi := few (by omega) ne
  have ni := notin_rep (L := seenL m i) (k := pw m i)
  cases hh : has (seenL m i) (pw m i) with
  | true =>
    rw [hh] at ni
    refine .inl ⟨by simp [x28_2, ni], ?_⟩
    obtain ⟨j, j1, j2⟩ := has_seen.mp hh
    have ix := idx_has hh
    rw [← j2, get_seen ne j1, j2] at ix
    simp [ix]
    exact ⟨i, j, ⟨j1, j2.symm, ne, hi⟩, rfl, rfl⟩
  | false =>
    rw [hh] at ni
    refine .inr ⟨by simp [x28_2, ni], ?_⟩
    have hl : (seenL m i).length < line := by unfold line; simp; omega
    have hl2 : (rowL m i).length < line := by unfold line; simp; omega
    have lr : (rowL m i).length = i := by simp
    have sd := fun e => setd_rep (L := seenL m i) (i := 2) (k := pw m i) (c := (i : Int)) (e := e) hl
    rw [put_seen hh] at sd
    have o2 := binK_mod (i := ((pw m i : Nat) : Int) * 2) (show (0 : Int) < (m : Nat) by omega)
    have p2 : ((pw m i : Nat) : Int) * 2 % (m : Nat) = ((pw m (i + 1) : Nat) : Int) := by
      rw [pw_succ, Int.natCast_emod, Int.natCast_mul]; rfl
    rw [p2] at o2
    have hb : Rf.execs Φ F b28_1 [.d (.int (m : Nat)), .ol (rowL m i), .od (rep (seenL m i)), .d (.int (pw m i : Nat))] = .nx [.d (.int (m : Nat)), .ol (rowL m (i + 1)), .od (rep (seenL m (i + 1))), .d (.int (pw m (i + 1) : Nat))] := by
      rw [← row_snoc]
      generalize rowL m i = R at *
      generalize rep (seenL m i) = S1 at *
      generalize rep (seenL m (i + 1)) = S2 at *
      generalize pw m (i + 1) = q at *
      have hi3 : i < line := by unfold line; omega
      simp [b28_1, lr, sd, hl2, hi3, o2, -binK_mod]
    rw [hb, Turn_nx]
    refine ⟨n - 1, by omega, i + 1, by omega, rfl, fun a b hab hb => ?_⟩
    by_cases e : b = i
    · subst e
      intro z
      have : has (seenL m b) (pw m b) = true := has_seen.mpr ⟨a, hab, z⟩
      rw [hh] at this; cases this
    · exact ne a b hab (by omega)
open Classical in
noncomputable def rowN (m : Nat) : Rf.D := if h : ∃ L l, IsRow m L l then .tuple [.list (rowL m h.choose), .int (h.choose_spec.choose : Nat)] else .none
noncomputable def rowD (m : Int) : Rf.D := rowN m.toNat
theorem rowD_of {m L l : Nat} (h : IsRow m L l) : rowD (m : Nat) = .tuple [.list (rowL m L), .int (l : Nat)] := by
  show rowN m = _
  unfold rowN
  have hx : ∃ L l, IsRow m L l := ⟨L, l, h⟩
  rw [dif_pos hx]
  obtain ⟨q1, q2⟩ := hx.choose_spec.choose_spec.uniq h
  rw [q2, q1]
theorem rowD_flat (m : Int) : noDct (rowD m) = true := by
  have rl : ∀ k L, noDcts (rowL k L) = true := fun k L => noDcts_mem fun x hx => by
    obtain ⟨j, _, rfl⟩ := List.mem_map.mp hx
    rfl
  unfold rowD rowN
  split
  · simp only [noDct, noDcts, rl, Bool.and_self]
  · rfl
theorem c_row (hF : 20000 ≤ F) {m : Nat} (h1 : 1 ≤ m) (h2 : m ≤ 10000) : ∃ L l, IsRow m L l ∧ phi TB F (n + 1) 28 [.int (m : Nat)] = .ok (.tuple [.list (rowL m L), .int (l : Nat)]) := by
  obtain ⟨x, h, L, l, hr, rfl⟩ := row_run (Φ := phi TB F n) (F := F) h1 h2 hF
  exact ⟨L, l, hr, (phi_succ rfl).trans h⟩
end
theorem row_law (n : Nat) (m : Int) (x : Rf.D) (h1 : 1 ≤ m) (h2 : m ≤ 10000) (h : phi TB 20000 n 28 [.int m] = .ok x) : x = rowD m := by
  obtain ⟨k, rfl⟩ := Int.eq_ofNat_of_zero_le (show 0 ≤ m by omega)
  cases n with
  | zero => cases h
  | succ n =>
    obtain ⟨L, l, hr, e⟩ := c_row (F := 20000) (n := n) (Nat.le_refl _) (m := k) (by omega) (by omega)
    rw [e] at h
    cases h
    exact (rowD_of hr).symm
end My


set_option Elab.async false
set_option linter.all false
set_option maxRecDepth 100000
set_option maxHeartbeats 4000000
namespace My
open PySem PySem.Spec PyProof.Rows L2 Rf
section
variable {Φ : FT} {F n : Nat}
theorem augK_mul2 {i : Nat} {e : Sl} {x : Int} : augK i .mul e (.int x) (.int 2) = .nx (e.set i (.d (.int (x * 2)))) := by
  simp only [augK, augD, binD]
  rw [if_pos (.inr (by decide))]
/-! ### power_of_two -/
def K4 (m : Nat) (i : Nat) (e : Sl) : Prop := ∃ s2 : Slot, e = [.d (.int (m : Nat)), .d (.int (2 ^ i)), s2]
theorem two_run {m : Nat} (hm : m ≤ 100000) : ∃ x, Fdef.run ⟨1, 3, b12⟩ Φ F [.int (m : Nat)] = .ok x ∧ x = .int (2 ^ m) := by
  refine run_of (Q := fun x => x = .int (2 ^ m)) rfl ?_
  have hs := srcK_rn (n := m) (by omega)
  simp [b12, hs]
  refine Is.for (fun i e => K4 m i e) ⟨_, rfl⟩ ?_ ?_
  · rintro i x e hx ⟨s2, rfl⟩
    obtain ⟨hi, rfl⟩ := rng_get hx
    have hb : turnB (Rf.execs Φ F b12_1) (.nm 2) (.int (0 + (i : Int))) [.d (.int (m : Nat)), .d (.int (2 ^ i)), s2] = .nx [.d (.int (m : Nat)), .d (.int (2 ^ (i + 1))), .d (.int (0 + (i : Int)))] := by
      rw [two_add]
      simp [turnB, bindT, b12_1, augK_mul2]
    rw [hb, Turn_nx]
    exact ⟨_, rfl⟩
  · rintro e ⟨s2, rfl⟩
    rw [rng_len]
    simp
theorem c_two {m : Nat} (h : m ≤ 100000) : phi TB F (n + 1) 12 [.int (m : Nat)] = .ok (.int (2 ^ m)) := by
  obtain ⟨x, h1, rfl⟩ := two_run (Φ := phi TB F n) (F := F) (m := m) h
  exact (phi_succ rfl).trans h1
theorem c_from (hF : 4000 ≤ F) {p : Int} (h1 : -(2 ^ 3000) ≤ p) (h2 : p ≤ 2 ^ 3000) : ∃ d, phi TB F (n + 7) 8 [.int p] = .ok d ∧ Fm d p ∧ d.depth ≤ 13 := by
  obtain ⟨d, d1, d2, d3⟩ := from_ok (F := F) hF 6 (v := p) (by decide) (fun z => by omega) h1 h2 n
  exact ⟨d, by rw [show n + 7 = 6 + n + 1 by omega]; exact d1, d2, d3⟩
theorem c_fromN (hF : 4000 ≤ F) {p : Nat} (h : p ≤ 1000000) : ∃ d, phi TB F (n + 7) 8 [.int (p : Nat)] = .ok d ∧ Fm d (p : Nat) ∧ d.depth ≤ 13 := by
  have G := two_mono (i := 20) (j := 3000) (by decide)
  have pos := two_pos 3000
  generalize hG : (2 : Int) ^ 3000 = g at G pos
  exact c_from hF (by rw [hG]; omega) (by rw [hG]; omega)
/-! ### to_int -/
abbrev tg2 : Tgt := .tp [(.nm 3), (.nm 4)]
theorem to_loop {x : Slot} {most : Rf.D} : ∀ {ts : List T3}, (∀ t ∈ ts, (t.1 = 1 ∨ t.1 = -1) ∧ (∃ c, Φ 2 [t.2.2, most] = .ok (.int c) ∧ ¬ 0 < c) ∧ Φ 13 [t.2.2] = .ok (.int (t.2.1 : Nat)) ∧ Φ 12 [.int (t.2.1 : Nat)] = .ok (.int (2 ^ t.2.1))) → ∀ (acc : Int) (s3 s4 : Slot),
    ∃ r3 r4, forL (Rf.execs Φ F b13_1) tg2 (ts.map tD) [x, .d most, .d (.int acc), s3, s4] = .nx [x, .d most, .d (.int (acc + val (ts.map tm))), r3, r4]
  | [], _, acc, s3, s4 => ⟨s3, s4, by simp only [List.map_nil, forL_nil, val, Int.add_zero]⟩
  | t :: r, h, acc, s3, s4 => by
    obtain ⟨h1, ⟨c, h2, h3⟩, h4, h5⟩ := h t (List.mem_cons_self ..)
    have hb : bindT tg2 (tD t) [x, .d most, .d (.int acc), s3, s4] = some [x, .d most, .d (.int acc), .d (.int t.1), .d t.2.2] := rfl
    have mu : binK .mul (.int t.1) (.int (2 ^ t.2.1)) = .ok (.int (t.1 * 2 ^ t.2.1)) := binK_mull (by rcases h1 with e | e <;> rw [e] <;> decide)
    obtain ⟨r3, r4, ih⟩ := to_loop (x := x) (most := most) (ts := r) (fun u hu => h u (List.mem_cons_of_mem _ hu)) (acc + t.1 * 2 ^ t.2.1) (.d (.int t.1)) (.d t.2.2)
    refine ⟨r3, r4, ?_⟩
    rw [List.map_cons, forL_cons hb]
    have hbody : Rf.execs Φ F b13_1 [x, .d most, .d (.int acc), .d (.int t.1), .d t.2.2] = .nx [x, .d most, .d (.int (acc + t.1 * 2 ^ t.2.1)), .d (.int t.1), .d t.2.2] := by
      simp [b13_1, h2, h3, h4, h5, mu]
    rw [hbody, Out.turn_nx, ih, List.map_cons]
    show Out.nx _ = Out.nx _
    rw [show val (tm t :: r.map tm) = t.1 * 2 ^ t.2.1 + val (r.map tm) from rfl, Int.add_assoc]
theorem to_run {x most : Rf.D} {v : Int} (hx : Fm x v) (h1 : -(2 ^ 64) < v) (h2 : v < 2 ^ 64) (c1 : Φ 8 [.int 64] = .ok most) (c2 : Fm most 64) (c3 : ∀ d (e : Nat), Fm d (e : Nat) → d.depth + 2 ≤ x.depth → Φ 2 [d, most] = .ok (.int (sgn (e - 64)))) (c4 : ∀ d (e : Nat), e ≤ 64 → Fm d (e : Nat) → d.depth + 2 ≤ x.depth → Φ 13 [d] = .ok (.int (e : Nat))) (c5 : ∀ e : Nat, e ≤ 64 → Φ 12 [.int (e : Nat)] = .ok (.int (2 ^ e))) :
    Fdef.run ⟨1, 5, b13⟩ Φ F [x] = .ok (.int v) := by
  obtain ⟨ts, rfl, rfl, nf, fs⟩ := hx.inv
  have he := exp_le nf (k := 64) (by constructor <;> omega)
  have sg : ∀ {l : List Tm}, Nf l → ∀ t ∈ l, t.1 = 1 ∨ t.1 = -1 := by
    intro l
    induction l with
    | nil => intro _ t ht; simp at ht
    | cons u r ih =>
      intro h t ht
      rcases List.mem_cons.mp ht with rfl | ht
      · exact h.1
      · exact ih h.2.2 t ht
  obtain ⟨r3, r4, hl⟩ := to_loop (Φ := Φ) (F := F) (x := .d (.tuple (ts.map tD))) (most := most) (ts := ts) (fun t ht => by
    have hm : tm t ∈ ts.map tm := List.mem_map.mpr ⟨t, ht, rfl⟩
    have e64 := he _ hm
    have dp := dep_all ht
    have dp2 : t.2.2.depth + 2 ≤ (PyData.tuple (ts.map tD)).depth := by simp only [PyData.depth]; omega
    refine ⟨sg nf _ hm, ⟨_, c3 _ _ (fs t ht) dp2, ?_⟩, c4 _ _ e64 (fs t ht) dp2, c5 _ e64⟩
    have e64 : t.2.1 ≤ 64 := e64
    unfold sgn
    rw [if_neg (by omega)]
    split <;> omega) 0 .un .un
  rw [Int.zero_add] at hl
  have c64 := c5 64 (Nat.le_refl _)
  rw [show ((64 : Nat) : Int) = 64 from rfl] at c64
  generalize val (ts.map tm) = w at *
  have hab : ¬ (2 : Int) ^ 64 ≤ (if w < 0 then -w else w) := by split <;> omega
  refine run_ret rfl ?_
  generalize hG : (2 : Int) ^ 64 = G at *
  simp [b13, c1, hl, c64, hab]
theorem to_step (hF : 4000 ≤ F) {q : Nat} {x : Rf.D} {v : Int} (hx : Fm x v) (hd : x.depth ≤ 2 * q) (hd2 : x.depth ≤ 100) (h1 : -(2 ^ 64) < v) (h2 : v < 2 ^ 64) (hq : q = n + 11) (c4 : ∀ d (e : Nat), e ≤ 64 → Fm d (e : Nat) → d.depth + 2 ≤ x.depth → phi TB F q 13 [d] = .ok (.int (e : Nat))) : phi TB F (q + 1) 13 [x] = .ok (.int v) := by
  obtain ⟨most, m1, m2, m3⟩ := c_fromN (F := F) (n := n + 4) hF (p := 64) (by decide)
  have m1 : phi TB F q 8 [.int 64] = .ok most := by rw [hq]; exact m1
  have m2 : Fm most 64 := m2
  have c5 : ∀ e : Nat, e ≤ 64 → phi TB F q 12 [.int (e : Nat)] = .ok (.int (2 ^ e)) := fun e he => by rw [hq]; exact c_two (n := n + 10) (by omega)
  have c3 : ∀ d (e : Nat), Fm d (e : Nat) → d.depth + 2 ≤ x.depth → phi TB F q 2 [d, most] = .ok (.int (sgn (e - 64))) := fun d e hd3 hd4 => compare_ok (F := F) q hd3 m2 (by omega) (by omega)
  exact (phi_succ rfl).trans (to_run hx h1 h2 m1 m2 c3 c4 c5)
theorem to_ok (hF : 4000 ≤ F) : ∀ (N : Nat) {x : Rf.D} {v : Int}, Fm x v → x.depth ≤ 2 * N + 1 → x.depth ≤ 100 → -(2 ^ 64) < v → v < 2 ^ 64 → ∀ q, N + 11 ≤ q → phi TB F (q + 1) 13 [x] = .ok (.int v) := by
  intro N
  induction N with
  | zero =>
    intro x v hx hd hd2 h1 h2 q hq
    refine to_step (n := q - 11) hF hx (by omega) hd2 h1 h2 (by omega) fun d e he hd3 hd4 => ?_
    exfalso
    obtain ⟨ts, rfl, _⟩ := hd3.inv
    simp only [PyData.depth] at hd4
    omega
  | succ N ih =>
    intro x v hx hd hd2 h1 h2 q hq
    refine to_step (n := q - 11) hF hx (by omega) hd2 h1 h2 (by omega) fun d e he hd3 hd4 => ?_
    have G : ((e : Nat) : Int) < 2 ^ 64 := by
      have := two_mono (i := 7) (j := 64) (by decide)
      omega
    have G2 : -(2 ^ 64 : Int) < ((e : Nat) : Int) := by
      have := two_pos 64
      omega
    have := ih hd3 (by omega) (by omega) G2 G (q - 1) (by omega)
    rw [show q - 1 + 1 = q by omega] at this
    exact this
end
end My


set_option Elab.async false
set_option linter.all false
set_option maxRecDepth 100000
set_option maxHeartbeats 1000000
namespace My
open PySem PySem.Spec PyProof.Rows L2 Rf
section
variable {Φ : FT} {F n : Nat}
mutual
theorem pl_nd : ∀ {x : Rf.D}, pl x = true → noDct x = true
  | .int _, _ => rfl
  | .tuple xs, h => by simp only [noDct]; exact pls_nd (by simpa [pl] using h)
  | .none, h => by simp [pl] at h
  | .bool _, h => by simp [pl] at h
  | .str _, h => by simp [pl] at h
  | .list _, h => by simp [pl] at h
  | .dict _, h => by simp [pl] at h
theorem pls_nd : ∀ {x : List Rf.D}, pls x = true → noDcts x = true
  | [], _ => rfl
  | x :: r, h => by
    simp only [pls, Bool.and_eq_true] at h
    simp only [noDcts, pl_nd h.1, pls_nd h.2, Bool.and_self]
end
theorem Fm.nd {x : Rf.D} {v : Int} (h : Fm x v) : noDct x = true := pl_nd h.pl
theorem x_obj {p : Nat} {r : Sl} : Rf.exec Φ F (.obj 0) (.d (.int (p : Nat)) :: r) = .nx (.ob p :: r) := by
  simp only [Rf.exec, List.getElem?_cons_zero]
  rw [if_pos (Int.natCast_nonneg p)]
  rfl
theorem x_chk {e : Sl} (h : Rf.okS e = true) : Rf.exec Φ F .chk e = .nx e := by
  simp only [Rf.exec]
  rw [if_pos h]
theorem e_slf {p : Nat} {r : Sl} : ev Φ (.slf 0) (.ob p :: r) = .ok (.int (p : Nat)) := by
  simp only [ev, List.getElem?_cons_zero]
/-! ### number -/
abbrev tgN : Tgt := .tp [(.nm 4), (.nm 5)]
theorem num_loop {p m : Nat} {x : Rf.D} (hx : noDct x = true) : ∀ {ts : List T3}, (∀ t ∈ ts, (t.1 = 1 ∨ t.1 = -1) ∧ noDct t.2.2 = true ∧ Φ 43 [.int (p : Nat), t.2.2, .int (m : Nat)] = .ok (.int (pw m t.2.1 : Nat))) → ∀ (acc : Int) (s4 s5 : Slot), Rf.okS [s4, s5] = true →
    ∃ r4 r5 acc', Rf.okS [r4, r5] = true ∧ forL (Rf.execs Φ F b44_1) tgN (ts.map tD) [.ob p, .d x, .d (.int (m : Nat)), .d (.int acc), s4, s5] = .nx [.ob p, .d x, .d (.int (m : Nat)), .d (.int acc'), r4, r5] ∧ acc' % (m : Nat) = (acc + val (ts.map tm)) % (m : Nat)
  | [], _, acc, s4, s5, ok => ⟨s4, s5, acc, ok, by simp only [List.map_nil, forL_nil], by simp only [List.map_nil, val, Int.add_zero]⟩
  | t :: r, h, acc, s4, s5, ok => by
    obtain ⟨h1, h2, h3⟩ := h t (List.mem_cons_self ..)
    have hb : bindT tgN (tD t) [.ob p, .d x, .d (.int (m : Nat)), .d (.int acc), s4, s5] = some [.ob p, .d x, .d (.int (m : Nat)), .d (.int acc), .d (.int t.1), .d t.2.2] := rfl
    have mu : binK .mul (.int t.1) (.int (pw m t.2.1 : Nat)) = .ok (.int (t.1 * (pw m t.2.1 : Nat))) := binK_mull (by rcases h1 with e | e <;> rw [e] <;> decide)
    have ok1 : Rf.okS [.ob p, .d x, .d (.int (m : Nat)), .d (.int acc), .d (.int t.1), .d t.2.2] = true := by simp [Rf.okS, noDct, hx, h2]
    have ok2 : Rf.okS [.ob p, .d x, .d (.int (m : Nat)), .d (.int (acc + t.1 * (pw m t.2.1 : Nat))), .d (.int t.1), .d t.2.2] = true := by simp [Rf.okS, noDct, hx, h2]
    obtain ⟨r4, r5, acc', q1, q2, q3⟩ := num_loop hx (ts := r) (fun u hu => h u (List.mem_cons_of_mem _ hu)) (acc + t.1 * (pw m t.2.1 : Nat)) (.d (.int t.1)) (.d t.2.2) (by simp [Rf.okS, noDct, h2])
    refine ⟨r4, r5, acc', q1, ?_, ?_⟩
    · rw [List.map_cons, forL_cons hb]
      have es := e_slf (Φ := Φ) (p := p) (r := [.d x, .d (.int (m : Nat)), .d (.int acc), .d (.int t.1), .d t.2.2])
      have hbody : Rf.execs Φ F b44_1 [.ob p, .d x, .d (.int (m : Nat)), .d (.int acc), .d (.int t.1), .d t.2.2] = .nx [.ob p, .d x, .d (.int (m : Nat)), .d (.int (acc + t.1 * (pw m t.2.1 : Nat))), .d (.int t.1), .d t.2.2] := by
        simp only [b44_1, x_cons, x_chk ok1, Out.seq_nx]
        simp [es, h3, mu, x_chk ok2]
      rw [hbody, Out.turn_nx, q2]
    · rw [q3, List.map_cons]
      show _ = (acc + (t.1 * 2 ^ t.2.1 + val (r.map tm))) % (m : Nat)
      have e1 : (t.1 * ((pw m t.2.1 : Nat) : Int)) % (m : Nat) = (t.1 * 2 ^ t.2.1) % (m : Nat) := by
        unfold pw
        rw [Int.natCast_emod, Int.mul_emod, Int.emod_emod_of_dvd _ (Int.dvd_refl _), ← Int.mul_emod]
        rw [Int.natCast_pow]; rfl
      rw [← Int.add_assoc, Int.add_emod, Int.add_emod acc, e1, ← Int.add_emod acc, ← Int.add_emod]
theorem num_run {p m : Nat} {x : Rf.D} {v : Int} (hm : 0 < m) (hx : Fm x v) (h : ∀ d (e : Nat), Fm d (e : Nat) → d.depth + 2 ≤ x.depth → Φ 43 [.int (p : Nat), d, .int (m : Nat)] = .ok (.int (pw m e : Nat))) :
    Fdef.run ⟨3, 6, b44⟩ Φ F [.int (p : Nat), x, .int (m : Nat)] = .ok (.int (v % (m : Nat))) := by
  have hn := hx.nd
  obtain ⟨ts, rfl, rfl, nf, fs⟩ := hx.inv
  have sg : ∀ {l : List Tm}, Nf l → ∀ t ∈ l, t.1 = 1 ∨ t.1 = -1 := by
    intro l
    induction l with
    | nil => intro _ t ht; simp at ht
    | cons u r ih =>
      intro h t ht
      rcases List.mem_cons.mp ht with rfl | ht
      · exact h.1
      · exact ih h.2.2 t ht
  obtain ⟨r4, r5, acc', q1, q2, q3⟩ := num_loop (Φ := Φ) (F := F) (p := p) (m := m) hn (ts := ts) (fun t ht => by
    have dp := dep_all ht
    exact ⟨sg nf _ (List.mem_map.mpr ⟨t, ht, rfl⟩), (fs t ht).nd, h _ _ (fs t ht) (by simp only [PyData.depth]; omega)⟩) 0 .un .un rfl
  rw [Int.zero_add] at q3
  rw [← q3]
  have ok1 : Rf.okS [.ob p, .d (.tuple (ts.map tD)), .d (.int (m : Nat)), .un, .un, .un] = true := by simp [Rf.okS, noDct] at hn ⊢; exact hn
  have ok2 : Rf.okS [.ob p, .d (.tuple (ts.map tD)), .d (.int (m : Nat)), .d (.int 0), .un, .un] = true := by simp [Rf.okS, noDct] at hn ⊢; exact hn
  have ok3 : Rf.okS [.ob p, .d (.tuple (ts.map tD)), .d (.int (m : Nat)), .d (.int acc'), r4, r5] = true := by
    simp only [Rf.okS, List.all_cons, List.all_nil, Bool.and_true] at q1 ⊢
    rw [q1]
    simp only [noDct] at hn ⊢
    rw [hn]; rfl
  have o1 := binK_mod (i := acc') (show (0 : Int) < (m : Nat) by omega)
  refine run_ret rfl ?_
  show Rf.execs Φ F b44 [.d (.int (p : Nat)), .d (.tuple (ts.map tD)), .d (.int (m : Nat)), .un, .un, .un] = _
  have eo := x_obj (Φ := Φ) (F := F) (p := p) (r := [.d (.tuple (ts.map tD)), .d (.int (m : Nat)), .un, .un, .un])
  simp only [b44, x_cons, eo, Out.seq_nx, x_chk ok1]
  simp [x_chk ok2, q2, x_chk ok3, o1, -binK_mod]
/-! ### power -/
theorem idx_row {m L i : Nat} (h : i < L) : idxK (.list (rowL m L)) (.int (i : Nat)) = .ok (.int (pw m i : Nat)) := by
  have e : idxD (.list (rowL m L)) (.int (i : Nat)) = some (.int (pw m i : Nat)) := by
    show L2.atI _ _ = _
    refine atI_at (by omega) ?_
    rw [List.getElem?_map, show ((i : Nat) : Int).toNat = i from rfl, List.getElem?_range h]
    rfl
  rw [idxK, e]; rfl
abbrev tg3 : Tgt := .tp [(.nm 3), (.nm 4)]
theorem pow_run {p m L l E : Nat} {x lenD : Rf.D} (hm : 0 < m) (hm2 : m ≤ 10000) (hr : IsRow m L l) (hx : Fm x (E : Nat)) (c1 : Φ 42 [.int (p : Nat), .int (m : Nat)] = .ok (.tuple [.list (rowL m L), .int (l : Nat)])) (c2 : Φ 8 [.int (L : Nat)] = .ok lenD) (c3 : Φ 2 [x, lenD] = .ok (.int (sgn ((E : Nat) - (L : Nat)))))
    (c4 : E < L → Φ 13 [x] = .ok (.int (E : Nat))) (c5 : Φ 44 [.int (p : Nat), x, .int ((L - l : Nat) : Int)] = .ok (.int ((E : Nat) % ((L - l : Nat) : Int)))) :
    Fdef.run ⟨3, 6, b43⟩ Φ F [.int (p : Nat), x, .int (m : Nat)] = .ok (.int (pw m E : Nat)) := by
  have hn := hx.nd
  have hlt := hr.lt
  have hle := hr.le
  have rl : noDct (.list (rowL m L)) = true := by
    have : noDcts (rowL m L) = true := noDcts_mem fun x hx => by
      obtain ⟨j, _, rfl⟩ := List.mem_map.mp hx
      rfl
    simp only [noDct, this]
  have ok1 : Rf.okS [.ob p, .d x, .d (.int (m : Nat)), .un, .un, .un] = true := by simp [Rf.okS, noDct, hn]
  have ok2 : Rf.okS [.ob p, .d x, .d (.int (m : Nat)), .d (.list (rowL m L)), .d (.int (l : Nat)), .un] = true := by
    simp only [Rf.okS, List.all_cons, List.all_nil, Bool.and_true, hn, rl]; rfl
  have ok3 : Rf.okS [.ob p, .d x, .d (.int (m : Nat)), .d (.list (rowL m L)), .d (.int (l : Nat)), .d (.int ((L - l : Nat) : Int))] = true := by
    simp only [Rf.okS, List.all_cons, List.all_nil, Bool.and_true, hn, rl]; rfl
  have ln : bltK .len [.list (rowL m L)] = .ok (.int (L : Nat)) := by
    rw [bltK_lenL]; simp
  have sb : binK .sub (.int (L : Nat)) (.int (l : Nat)) = .ok (.int ((L - l : Nat) : Int)) := by
    rw [binK_sub]
    congr 2
    omega
  have eo := x_obj (Φ := Φ) (F := F) (p := p) (r := [.d x, .d (.int (m : Nat)), .un, .un, .un])
  refine run_ret rfl ?_
  show Rf.execs Φ F b43 [.d (.int (p : Nat)), .d x, .d (.int (m : Nat)), .un, .un, .un] = _
  have es1 := e_slf (Φ := Φ) (p := p) (r := [.d x, .d (.int (m : Nat)), .un, .un, .un])
  have es2 := e_slf (Φ := Φ) (p := p) (r := [.d x, .d (.int (m : Nat)), .d (.list (rowL m L)), .d (.int (l : Nat)), .d (.int ((L - l : Nat) : Int))])
  have hbt : asgK tg3 [.ob p, .d x, .d (.int (m : Nat)), .un, .un, .un] (.tuple [.list (rowL m L), .int (l : Nat)]) = .nx [.ob p, .d x, .d (.int (m : Nat)), .d (.list (rowL m L)), .d (.int (l : Nat)), .un] := rfl
  by_cases hE : E < L
  · have c4 := c4 hE
    have ix := idx_row (m := m) hE
    have lt0 : sgn ((E : Nat) - (L : Nat)) < 0 := by unfold sgn; rw [if_neg (by omega), if_pos (by omega)]; decide
    generalize rowL m L = R at *
    simp only [b43, x_cons, eo, Out.seq_nx, x_chk ok1, x_asg, e_call, es_cons, es_nil, es1, e_var, List.getElem?_cons_succ, List.getElem?_cons_zero, varK_d, Res.bind_ok, c1, Out.ofR_ok, hbt, x_chk ok2]
    simp [ln, c2, c3, lt0, c4, ix]
  · have lt0 : ¬ sgn ((E : Nat) - (L : Nat)) < 0 := by unfold sgn; split; decide; split; omega; decide
    have Ppos : (0 : Int) < ((L - l : Nat) : Int) := by omega
    have o1 := binK_mod (i := ((E : Nat) : Int) % ((L - l : Nat) : Int) - (l : Nat)) Ppos
    have e1 : (((E : Nat) : Int) % ((L - l : Nat) : Int) - (l : Nat)) % ((L - l : Nat) : Int) = (((E - l) % (L - l) : Nat) : Int) := by
      rw [Int.natCast_emod, show ((E - l : Nat) : Int) = (E : Int) - (l : Int) by omega, Int.sub_emod, Int.emod_emod_of_dvd _ (Int.dvd_refl _), ← Int.sub_emod]
    rw [e1] at o1
    have lt1 : l + (E - l) % (L - l) < L := by
      have := Nat.mod_lt (E - l) (show 0 < L - l by omega)
      omega
    have ix := idx_row (m := m) lt1
    rw [← period hr E E rfl (by omega)] at ix
    rw [show ((l + (E - l) % (L - l) : Nat) : Int) = (l : Int) + (((E - l) % (L - l) : Nat) : Int) by omega] at ix
    generalize rowL m L = R at *
    generalize ((L - l : Nat) : Int) = P at *
    generalize (((E - l) % (L - l) : Nat) : Int) = q at *
    simp only [b43, x_cons, eo, Out.seq_nx, x_chk ok1, x_asg, e_call, es_cons, es_nil, es1, e_var, List.getElem?_cons_succ, List.getElem?_cons_zero, varK_d, Res.bind_ok, c1, Out.ofR_ok, hbt, x_chk ok2]
    simp [ln, c2, c3, lt0, x_chk ok2, sb, x_chk ok3, es2, c5, o1, ix, -binK_mod, -binK_sub]
    simp [es2, c5, o1, ix, -binK_mod]
end
end My


set_option Elab.async false
set_option linter.all false
set_option maxRecDepth 100000
set_option maxHeartbeats 1000000
namespace My
open PySem PySem.Spec PyProof.Rows L2 Rf
section
variable {Φ : FT} {F n : Nat}
theorem c_R (hF : 20000 ≤ F) {p m L l : Nat} (h1 : 1 ≤ m) (h2 : m ≤ 10000) (hr : IsRow m L l) : phi TB F (n + 2) 42 [.int (p : Nat), .int (m : Nat)] = .ok (.tuple [.list (rowL m L), .int (l : Nat)]) := by
  obtain ⟨L', l', hr', e⟩ := c_row (F := F) (n := n) hF h1 h2
  obtain ⟨rfl, rfl⟩ := hr.uniq hr'
  refine (phi_succ (fn := ⟨2, 2, b42⟩) rfl).trans (run_ret rfl ?_)
  show Rf.execs _ F b42 [.d (.int (p : Nat)), .d (.int (m : Nat))] = _
  have eo := x_obj (Φ := phi TB F (n + 1)) (F := F) (p := p) (r := [.d (.int (m : Nat))])
  have c1 : cmpD .le (.int 1) (.int (m : Nat)) = some true := by show some (decide _) = _; rw [decide_eq_true (by omega)]
  have c2 : chK2 .le (.int (m : Nat)) (.int 10000) = .ok (.bool true) := by show Res.ok (PyData.bool (decide _)) = _; rw [decide_eq_true (by omega)]
  generalize rowL m L = R at *
  simp only [b42, bodyR, x_cons, eo, Out.seq_nx]
  simp [c1, c2, e]
theorem pow_step (hF : 20000 ≤ F) {N q p m : Nat} {x : Rf.D} {E : Nat} (hx : Fm x (E : Nat)) (hd : x.depth ≤ 2 * N + 1) (hd2 : x.depth ≤ 100) (h1 : 1 ≤ m) (h2 : m ≤ 10000) (hq : 2 * N + 21 ≤ q)
    (hnum : ∀ k : Nat, 1 ≤ k → k ≤ 10000 → phi TB F q 44 [.int (p : Nat), x, .int (k : Nat)] = .ok (.int ((E : Nat) % (k : Nat)))) : phi TB F (q + 1) 43 [.int (p : Nat), x, .int (m : Nat)] = .ok (.int (pw m E : Nat)) := by
  obtain ⟨L, l, hr, _⟩ := c_row (F := F) (n := 0) hF h1 h2
  have hle := hr.le
  have hlt := hr.lt
  obtain ⟨lenD, d1, d2, d3⟩ := c_fromN (F := F) (n := q - 7) (by omega) (p := L) (by omega)
  rw [show q - 7 + 7 = q by omega] at d1
  have cR := c_R (F := F) (n := q - 2) hF (p := p) h1 h2 hr
  rw [show q - 2 + 2 = q by omega] at cR
  have c3 := compare_ok (F := F) q hx d2 (by omega) (by omega)
  refine (phi_succ rfl).trans (pow_run (by omega) h2 hr hx cR d1 c3 (fun hE => ?_) (hnum (L - l) (by omega) (by omega)))
  have G := two_mono (i := 20) (j := 64) (by decide)
  have t := to_ok (F := F) (by omega) N hx hd hd2 (by omega) (by omega) (q - 1) (by omega)
  rw [show q - 1 + 1 = q by omega] at t
  exact t
theorem num_ok (hF : 20000 ≤ F) : ∀ (N : Nat) {x : Rf.D} {v : Int}, Fm x v → x.depth ≤ 2 * N + 1 → x.depth ≤ 100 → ∀ (p m q : Nat), 1 ≤ m → m ≤ 10000 → 2 * N + 20 ≤ q → phi TB F (q + 1) 44 [.int (p : Nat), x, .int (m : Nat)] = .ok (.int (v % (m : Nat))) := by
  intro N
  induction N with
  | zero =>
    intro x v hx hd hd2 p m q h1 h2 hq
    refine (phi_succ rfl).trans (num_run (by omega) hx fun d e hd3 hd4 => ?_)
    exfalso
    obtain ⟨ts, rfl, _⟩ := hd3.inv
    simp only [PyData.depth] at hd4
    omega
  | succ N ih =>
    intro x v hx hd hd2 p m q h1 h2 hq
    refine (phi_succ rfl).trans (num_run (by omega) hx fun d e hd3 hd4 => ?_)
    have := pow_step (F := F) hF (N := N) (q := q - 1) (p := p) (m := m) hd3 (by omega) (by omega) h1 h2 (by omega) fun k k1 k2 => by
      have := ih hd3 (by omega) (by omega) p k (q - 2) k1 k2 (by omega)
      rw [show q - 2 + 1 = q - 1 by omega] at this
      exact this
    rw [show q - 1 + 1 = q by omega] at this
    exact this
theorem pow_ok (hF : 20000 ≤ F) {N q p m : Nat} {x : Rf.D} {E : Nat} (hx : Fm x (E : Nat)) (hd : x.depth ≤ 2 * N + 1) (hd2 : x.depth ≤ 100) (h1 : 1 ≤ m) (h2 : m ≤ 10000) (hq : 2 * N + 21 ≤ q) : phi TB F (q + 1) 43 [.int (p : Nat), x, .int (m : Nat)] = .ok (.int (pw m E : Nat)) :=
  pow_step hF hx hd hd2 h1 h2 hq fun k k1 k2 => by
    have := num_ok (F := F) hF N hx hd hd2 p k (q - 1) k1 k2 (by omega)
    rw [show q - 1 + 1 = q by omega] at this
    exact this
/-! ### new objects -/
theorem newK_of {f : Nat} {xs : List Rf.D} {r : Rf.D} (h1 : noDcts xs = true) (h2 : noLst r = true) (h : ∀ p : Nat, Φ f (.int (p : Nat) :: xs) = .ok r) : newK Φ f xs = .ok r := by
  unfold newK
  have hx : ∃ r, noDcts xs = true ∧ noLst r = true ∧ ∀ p : Nat, Φ f (.int (p : Nat) :: xs) = .ok r := ⟨r, h1, h2, h⟩
  have g := (hx.choose_spec.2.2 0).symm.trans (h 0)
  exact (dif_pos hx).trans g
theorem e_onew {f : Nat} {es : List Exp} {e : Sl} : ev Φ (.onew f es) e = (evs Φ es e).bind (newK Φ f) := by
  simp only [ev]
theorem c_wn {p : Nat} {x y : Rf.D} : phi TB F (n + 1) 45 [.int (p : Nat), x, y] = phi TB F n 44 [.int (p : Nat), x, y] := by
  rw [phi_succ (fn := ⟨3, 3, b45⟩) rfl]
  unfold Fdef.run
  rw [if_pos (show [PyData.int (p : Nat), x, y].length = 3 from rfl)]
  have e : Rf.execs (phi TB F n) F b45 [.d (.int (p : Nat)), .d x, .d y] = Out.ofR (phi TB F n 44 [.int (p : Nat), x, y]) [.d (.int (p : Nat)), .d x, .d y] .ret := by
    simp only [b45, x_cons, x_ret, e_call, es_cons, es_nil, e_var, List.getElem?_cons_zero, List.getElem?_cons_succ, varK_d, Res.bind_ok, seq_nil]
  show (match Rf.execs (phi TB F n) F b45 [.d (.int (p : Nat)), .d x, .d y] with | .ret x => Res.ok x | .nx _ => .ok .none | .ex c _ => .ex c | _ => .stuck) = _
  rw [e]
  cases phi TB F n 44 [.int (p : Nat), x, y] <;> rfl
theorem c_wp {p : Nat} {x y : Rf.D} : phi TB F (n + 1) 46 [.int (p : Nat), x, y] = phi TB F n 43 [.int (p : Nat), x, y] := by
  rw [phi_succ (fn := ⟨3, 3, b46⟩) rfl]
  unfold Fdef.run
  rw [if_pos (show [PyData.int (p : Nat), x, y].length = 3 from rfl)]
  have e : Rf.execs (phi TB F n) F b46 [.d (.int (p : Nat)), .d x, .d y] = Out.ofR (phi TB F n 43 [.int (p : Nat), x, y]) [.d (.int (p : Nat)), .d x, .d y] .ret := by
    simp only [b46, x_cons, x_ret, e_call, es_cons, es_nil, e_var, List.getElem?_cons_zero, List.getElem?_cons_succ, varK_d, Res.bind_ok, seq_nil]
  show (match Rf.execs (phi TB F n) F b46 [.d (.int (p : Nat)), .d x, .d y] with | .ret x => Res.ok x | .nx _ => .ok .none | .ex c _ => .ex c | _ => .stuck) = _
  rw [e]
  cases phi TB F n 43 [.int (p : Nat), x, y] <;> rfl
/-! ### check_modulus, remainder, power_remainder, powers_of_two -/
theorem run_nx {fn : Fdef} {Φ : FT} {F : Nat} {args : List Rf.D} {e : Sl} (hl : args.length = fn.np) (h : Rf.execs Φ F fn.body (args.map .d ++ List.replicate (fn.ns - fn.np) .un) = .nx e) : fn.run Φ F args = .ok .none := by
  unfold Fdef.run
  rw [if_pos hl, h]
theorem run_ex {fn : Fdef} {Φ : FT} {F : Nat} {args : List Rf.D} {c : Nat} {e : Sl} (hl : args.length = fn.np) (h : Rf.execs Φ F fn.body (args.map .d ++ List.replicate (fn.ns - fn.np) .un) = .ex c e) : fn.run Φ F args = .ex c := by
  unfold Fdef.run
  rw [if_pos hl, h]
theorem c_check {m : Int} (h1 : 1 ≤ m) (h2 : m ≤ 10000) : phi TB F (n + 1) 27 [.int m] = .ok .none := by
  refine (phi_succ rfl).trans (run_nx (e := [.d (.int m)]) rfl ?_)
  simp [b27, show ¬ m < 1 by omega, show ¬ 10000 < m by omega]
theorem c_bad {m : Int} (h : m < 1 ∨ 10000 < m) : phi TB F (n + 1) 27 [.int m] = .ex 1 := by
  refine (phi_succ rfl).trans (run_ex (e := [.d (.int m)]) rfl ?_)
  by_cases h1 : m < 1
  · simp [b27, h1]
  · simp [b27, h1, show 10000 < m by omega]
theorem x_expr {a : Exp} {e : Sl} : Rf.exec Φ F (.expr a) e = Out.ofR (ev Φ a e) e fun _ => .nx e := by simp only [Rf.exec]
theorem c_rem (hF : 20000 ≤ F) {N m : Nat} {x : Rf.D} {v : Int} (hx : Fm x v) (hd : x.depth ≤ 2 * N + 1) (hd2 : x.depth ≤ 100) (h1 : 1 ≤ m) (h2 : m ≤ 10000) {q : Nat} (hq : 2 * N + 22 ≤ q) : phi TB F (q + 1) 29 [x, .int (m : Nat)] = .ok (.int (v % (m : Nat))) := by
  have ck := c_check (F := F) (n := q - 1) (m := (m : Nat)) (by omega) (by omega)
  rw [show q - 1 + 1 = q by omega] at ck
  have nk : newK (phi TB F q) 45 [x, .int (m : Nat)] = .ok (.int (v % (m : Nat))) := newK_of (by simp only [noDcts, hx.nd, noDct, Bool.and_self]) rfl fun p => by
    have := num_ok (F := F) hF N hx hd hd2 p m (q - 2) h1 h2 (by omega)
    rw [show q = q - 1 + 1 by omega, c_wn]
    rw [show q - 2 + 1 = q - 1 by omega] at this
    exact this
  refine (phi_succ rfl).trans (run_ret rfl ?_)
  simp [b29, x_expr, ck, e_onew, nk]
theorem c_remX {m : Int} {x : Rf.D} (h : m < 1 ∨ 10000 < m) : phi TB F (n + 2) 29 [x, .int m] = .ex 1 := by
  have ck := c_bad (F := F) (n := n) h
  refine (phi_succ rfl).trans (run_ex (e := [.d x, .d (.int m)]) rfl ?_)
  simp [b29, x_expr, ck]
theorem c_signof {x : Rf.D} {v : Int} (h : Fm x v) : phi TB F (n + 1) 3 [x] = .ok (.int (sgn v)) := (phi_succ rfl).trans (sign_run h)
end
end My


set_option Elab.async false
set_option linter.all false
set_option maxRecDepth 100000
set_option maxHeartbeats 1000000
namespace My
open PySem PySem.Spec PyProof.Rows L2 Rf
/-! ### how many terms a number has -/
/-! the terms of a number -/
/-! ### sizes -/
mutual
def szD : Rf.D → Nat
  | .tuple xs => 1 + szL xs
  | _ => 0
def szL : List Rf.D → Nat
  | [] => 0
  | x :: r => szT x + szL r
def szT : Rf.D → Nat
  | .tuple xs => szS xs
  | _ => 0
def szS : List Rf.D → Nat
  | [] => 0
  | _ :: r => szH r
def szH : List Rf.D → Nat
  | [] => 0
  | x :: _ => szD x
end
theorem szL_map : ∀ {ts : List T3}, szL (ts.map tD) = (ts.map fun t => szD t.2.2).sum
  | [] => rfl
  | t :: r => by
    simp only [List.map_cons, szL, List.sum_cons, szL_map]
    rfl
def SZ : Nat → Nat → Nat
  | 0, _ => 1
  | d + 1, e => 1 + ((nfl 15 (e : Int) 0).map fun t => SZ d t.2).sum
theorem sz_fm : ∀ (d : Nat) {x : Rf.D} {e : Nat}, Fm x (e : Nat) → x.depth ≤ 2 * d + 1 → e ≤ 16384 → szD x = SZ d e := by
  intro d
  induction d with
  | zero =>
    intro x e hx hd _
    obtain ⟨ts, rfl, _⟩ := hx.inv
    cases ts with
    | nil => rfl
    | cons t r =>
      simp only [List.map_cons, PyData.depth, PyData.depthAll, tD] at hd
      omega
  | succ d ih =>
    intro x e hx hd he
    obtain ⟨ts, rfl, hv, nf, fs⟩ := hx.inv
    have hl := nf_is nf (k := 14) (by rw [← hv]; omega) (by rw [← hv]; omega)
    rw [← hv] at hl
    simp only [szD, szL_map, SZ]
    congr 1
    rw [← hl, List.map_map]
    congr 1
    refine List.map_congr_left fun t ht => ?_
    have dp := dep_all ht
    simp only [PyData.depth] at hd
    have hb := exp_le nf (k := 14) (by rw [← hv]; constructor <;> omega) (tm t) (List.mem_map.mpr ⟨t, ht, rfl⟩)
    have hb : t.2.1 ≤ 14 := hb
    exact ih (fs t ht) (by omega) (by omega)
/-! the sizes of the exponents, by the kernel -/
def T15 : List Nat := [1, 2, 3, 5, 4, 5, 7, 8, 6, 7, 9, 10, 10, 11, 12, 13]
end My


set_option Elab.async false
set_option linter.all false
set_option maxRecDepth 100000
set_option maxHeartbeats 1000000
namespace My
open PySem PySem.Spec PyProof.Rows L2 Rf
def TT : List Nat := [1, 2, 3, 5, 4, 5, 8, 7, 6, 7, 8, 9, 8, 9, 7]
theorem tt_all : (List.range 15).all (fun e => SZ 4 e == TT.getD e 0) = true := by decide +kernel
theorem tt_of {e : Nat} (h : e < 15) : SZ 4 e = TT.getD e 0 := by
  have := List.all_eq_true.mp tt_all e (List.mem_range.mpr h)
  simpa using this
def szt : Nat → Nat → Nat → Nat
  | 0, _, _ => 0
  | k + 1, v, p => if v % 2 = 0 then szt k (v / 2) (p + 1) else TT.getD p 0 + szt k ((if v % 4 = 1 then v - 1 else v + 1) / 2) (p + 1)
theorem szt_of : ∀ (k v p : Nat), ((nfl k (v : Int) p).map fun t => TT.getD t.2 0).sum = szt k v p
  | 0, v, p => rfl
  | k + 1, v, p => by
    by_cases h : v % 2 = 0
    · have h' : (v : Int) % 2 = 0 := by omega
      simp only [nfl, szt, if_pos h, if_pos h']
      rw [show (v : Int) / 2 = ((v / 2 : Nat) : Int) by omega]
      exact szt_of k (v / 2) (p + 1)
    · have h' : ¬ (v : Int) % 2 = 0 := by omega
      simp only [nfl, szt, if_neg h, if_neg h', List.map_append, List.sum_append, List.map_cons, List.map_nil, List.sum_cons, List.sum_nil, Nat.add_zero]
      have e : ((v : Int) - sg4 (v : Int)) / 2 = (((if v % 4 = 1 then v - 1 else v + 1) / 2 : Nat) : Int) := by
        unfold sg4
        split <;> omega
      rw [e, szt_of k _ (p + 1), Nat.add_comm]
theorem big_all : (List.range 2804).all (fun e => decide (szt 15 e 0 ≤ 38)) = true := by decide +kernel
theorem low_all : (List.range 7).all (fun e => decide (szt 15 e 0 ≤ 7)) = true := by decide +kernel
theorem mid_all : (List.range 8192).all (fun e => decide (szt 15 e 0 ≤ 60)) = true := by decide +kernel
theorem SZ5 {e : Nat} (h : e ≤ 16384) : SZ 5 e = 1 + szt 15 e 0 := by
  show 1 + ((nfl 15 (e : Int) 0).map fun t => SZ 4 t.2).sum = _
  rw [← szt_of]
  congr 2
  refine List.map_congr_left fun t ht => ?_
  have q := nfl_ok 14 (e : Int) 0 (by omega) (by omega)
  have := exp_le q.nf (k := 14) (by rw [q.vl]; constructor <;> simp <;> omega) t ht
  exact tt_of (by omega)
theorem sz_big {e : Nat} (h : e ≤ 2803) : SZ 5 e ≤ 39 := by
  have := List.all_eq_true.mp big_all e (List.mem_range.mpr (by omega))
  have := of_decide_eq_true this
  rw [SZ5 (by omega)]; omega
theorem sz_low {e : Nat} (h : e ≤ 6) : SZ 5 e ≤ 8 := by
  have := List.all_eq_true.mp low_all e (List.mem_range.mpr (by omega))
  have := of_decide_eq_true this
  rw [SZ5 (by omega)]; omega
theorem sz_mid {e : Nat} (h : e < 8192) : SZ 5 e ≤ 61 := by
  have := List.all_eq_true.mp mid_all e (List.mem_range.mpr h)
  have := of_decide_eq_true this
  rw [SZ5 (by omega)]; omega
/-! ### few terms, few sizes -/
theorem nf_cut : ∀ {l : List Tm}, Nf l → ∃ a b : List Tm, l = a ++ b ∧ Nf a ∧ Nf b ∧ (∀ t ∈ a, 7 ≤ t.2) ∧ ∀ t ∈ b, t.2 ≤ 6
  | [], _ => ⟨[], [], rfl, trivial, trivial, fun t ht => by simp at ht, fun t ht => by simp at ht⟩
  | t :: r, h => by
    by_cases ht : t.2 ≤ 6
    · exact ⟨[], t :: r, rfl, trivial, h, fun u hu => by simp at hu, fun u hu => by
        rcases List.mem_cons.mp hu with rfl | hu
        · exact ht
        · have := head_le h u hu; omega⟩
    · obtain ⟨a, b, rfl, h1, h2, h3, h4⟩ := nf_cut h.2.2
      refine ⟨t :: a, b, rfl, ⟨h.1, fun u hu => ?_, h1⟩, h2, fun u hu => ?_, h4⟩
      · cases a with
        | nil => simp at hu
        | cons w a => exact h.2.1 u hu
      · rcases List.mem_cons.mp hu with rfl | hu
        · omega
        · exact h3 u hu
theorem nf_down : ∀ {a : List Tm}, Nf a → (∀ t ∈ a, 7 ≤ t.2) → Nf (a.map fun t => (t.1, t.2 - 7)) ∧ val a = 128 * val (a.map fun t => (t.1, t.2 - 7))
  | [], _, _ => ⟨trivial, rfl⟩
  | t :: r, h, h7 => by
    obtain ⟨h1, h2⟩ := nf_down h.2.2 fun u hu => h7 u (List.mem_cons_of_mem _ hu)
    have ht := h7 t (List.mem_cons_self ..)
    refine ⟨⟨h.1, fun u hu => ?_, h1⟩, ?_⟩
    · cases r with
      | nil => simp at hu
      | cons w r =>
        simp at hu
        subst hu
        have a1 := h.2.1 w rfl
        have a2 := h7 w (by simp)
        show w.2 - 7 + 2 ≤ t.2 - 7
        omega
    · simp only [List.map_cons, val, h2]
      have e : (2 : Int) ^ t.2 = 128 * 2 ^ (t.2 - 7) := by
        obtain ⟨d, hd⟩ : ∃ d, t.2 = 7 + d := ⟨t.2 - 7, by omega⟩
        rw [hd, two_add, show 7 + d - 7 = d by omega]; rfl
      rw [e, Int.mul_add]
      congr 1
      rw [← Int.mul_assoc, ← Int.mul_assoc, Int.mul_comm t.1 128]
theorem len_low : ∀ {b : List Tm} {t : Tm}, Nf (t :: b) → 2 * b.length ≤ t.2
  | [], _, _ => Nat.zero_le _
  | u :: b, t, h => by
    have := len_low h.2.2
    have := h.2.1 u rfl
    simp only [List.length_cons]; omega
theorem sum_le {f : Tm → Nat} {c : Nat} : ∀ {l : List Tm}, (∀ t ∈ l, f t ≤ c) → (l.map f).sum ≤ c * l.length
  | [], _ => by simp
  | t :: r, h => by
    have h1 := h t (List.mem_cons_self ..)
    have h2 := sum_le fun u hu => h u (List.mem_cons_of_mem _ hu)
    simp only [List.map_cons, List.sum_cons, List.length_cons, Nat.mul_add]; omega
/-- a sum of few powers and a small rest -/
structure Few (v : Int) (k : Nat) (r : Int) : Prop where
  ex : ∃ (B S : Int) (j : Nat), v = 128 * B + S ∧ wt 2900 B ≤ j ∧ j ≤ k ∧ -(64 * (k - j : Nat) + r) ≤ S ∧ S ≤ 64 * (k - j : Nat) + r
theorem Few.pow {v : Int} {k : Nat} (h : Few v k 0) {p : Nat} {s : Int} (hs : s = 1 ∨ s = -1) : Few (v + s * 2 ^ p) (k + 1) 0 := by
  obtain ⟨B, S, j, h1, h2, h3, h4, h5⟩ := h.ex
  by_cases hp : 7 ≤ p
  · have e : (2 : Int) ^ p = 128 * 2 ^ (p - 7) := by
      obtain ⟨d, hd⟩ : ∃ d, p = 7 + d := ⟨p - 7, by omega⟩
      rw [hd, two_add, show 7 + d - 7 = d by omega]; rfl
    have w := wt_pow (p - 7) 2900 B
    rw [e]
    generalize (2 : Int) ^ (p - 7) = x at *
    rcases hs with rfl | rfl
    · exact ⟨B + x, S, j + 1, by omega, by omega, by omega, by omega, by omega⟩
    · exact ⟨B - x, S, j + 1, by omega, by omega, by omega, by omega, by omega⟩
  · have e : (2 : Int) ^ p ≤ 64 := by
      have := two_mono (i := p) (j := 6) (by omega)
      exact this
    have e0 := two_pos p
    generalize (2 : Int) ^ p = x at *
    rcases hs with rfl | rfl
    · exact ⟨B, S + x, j, by omega, h2, by omega, by omega, by omega⟩
    · exact ⟨B, S - x, j, by omega, h2, by omega, by omega, by omega⟩
theorem Few.rest {v : Int} {k : Nat} (h : Few v k 0) {r : Int} (h1 : -20 ≤ r) (h2 : r ≤ 20) : Few (v + r) k 20 := by
  obtain ⟨B, S, j, g1, g2, g3, g4, g5⟩ := h.ex
  exact ⟨B, S + r, j, by omega, g2, g3, by omega, by omega⟩
theorem few_size {l : List Tm} (nf : Nf l) {k : Nat} (hk : k ≤ 5) (h : Few (val l) k 20) (h1 : -(2 ^ 2803) ≤ val l) (h2 : val l ≤ 2 ^ 2803) : (l.map fun t => SZ 5 t.2).sum ≤ 299 := by
  have hb := exp_le nf (k := 2803) (by have := two_pos 2803; constructor <;> omega)
  obtain ⟨a, b, rfl, na, nb, ha, hlow⟩ := nf_cut nf
  obtain ⟨B, S, j, g1, g2, g3, g4, g5⟩ := h.ex
  obtain ⟨nd, vd⟩ := nf_down na ha
  rw [val_app, vd] at g1 h1 h2
  have vb : -85 ≤ val b ∧ val b ≤ 85 := by
    cases b with
    | nil => simp [val]
    | cons t r =>
      have q := bnd nb
      have ht := hlow t (List.mem_cons_self ..)
      have := two_mono (i := t.2) (j := 6) ht
      have c6 : (2 : Int) ^ 6 = 64 := rfl
      rw [c6] at this
      generalize val (t :: r) = z at *
      generalize (2 : Int) ^ t.2 = y at *
      rcases nb.1 with e | e <;> rw [e] at q <;> omega
  have la : (a.map fun t => (t.1, t.2 - 7)).length = wt 2900 (val (a.map fun t => (t.1, t.2 - 7))) := by
    have hP : (2 : Int) ^ 2803 ≤ 2 ^ 2899 := two_mono (by decide)
    generalize hG : (2 : Int) ^ 2803 = G at *
    generalize hH : (2 : Int) ^ 2899 = H at *
    have hG1 : 1000 ≤ G := by
      have := two_mono (i := 10) (j := 2803) (by decide)
      rw [hG] at this
      omega
    have b1 : -(2 ^ 2899) ≤ val (a.map fun t => (t.1, t.2 - 7)) := by rw [hH]; omega
    have b2 : val (a.map fun t => (t.1, t.2 - 7)) ≤ 2 ^ 2899 := by rw [hH]; omega
    have q := nfl_ok 2899 (val (a.map fun t => (t.1, t.2 - 7))) 0 b1 b2
    have e := nf_is nd b1 b2
    have := q.ln
    rw [← e] at this
    exact this
  rw [List.length_map] at la
  generalize val (a.map fun t => (t.1, t.2 - 7)) = Q at *
  generalize val b = w at *
  have near : wt 2900 Q ≤ 5 := by
    by_cases hc : B ≤ Q
    · obtain ⟨c, hc⟩ := Int.eq_ofNat_of_zero_le (show 0 ≤ Q - B by omega)
      have := (wt_near 2900 B c).1
      rw [show B + (c : Int) = Q by omega] at this
      omega
    · obtain ⟨c, hc⟩ := Int.eq_ofNat_of_zero_le (show 0 ≤ B - Q by omega)
      have := (wt_near 2900 B c).2
      rw [show B - (c : Int) = Q by omega] at this
      omega
  have sa := sum_le (f := fun t => SZ 5 t.2) (c := 39) (l := a) fun t ht => sz_big (hb t (List.mem_append.mpr (.inl ht)))
  have sb := sum_le (f := fun t => SZ 5 t.2) (c := 8) (l := b) fun t ht => sz_low (hlow t ht)
  have lb : b.length ≤ 4 := by
    cases b with
    | nil => simp
    | cons t r =>
      have := len_low nb
      have := hlow t (List.mem_cons_self ..)
      simp only [List.length_cons]; omega
  rw [List.map_append, List.sum_append]
  omega
end My


set_option Elab.async false
set_option linter.all false
set_option maxRecDepth 100000
set_option maxHeartbeats 1000000
namespace My
open PySem PySem.Spec PyProof.Rows L2 Rf
section
variable {Φ : FT} {F n : Nat}
theorem allInts_map : ∀ {l : List Int}, allInts (l.map .int) = some l
  | [] => rfl
  | x :: r => by simp only [List.map_cons, allInts, allInts_map, Option.map_some]
theorem sum_ints {l : List Int} : bltK .sum [.list (l.map .int)] = .ok (.int l.sum) := by
  have e : bltD .sum [.list (l.map .int)] = some (.int l.sum) := by
    show (allInts (l.map .int)).map (fun l => PyData.int l.sum) = _
    rw [allInts_map]; rfl
  rw [bltK, e]; rfl
theorem max_ints {l : List Int} (h : l ≠ []) : bltK .max [.list (l.map .int)] = .ok (.int (maxI l)) := by
  have e : bltD .max [.list (l.map .int)] = some (.int (maxI l)) := by
    show (if l.map PyData.int = [] then none else (allInts (l.map .int)).map fun l => PyData.int (maxI l)) = _
    rw [if_neg (by simpa using h), allInts_map]; rfl
  rw [bltK, e]; rfl
theorem maxI_le {c : Int} : ∀ {l : List Int}, l ≠ [] → (∀ x ∈ l, x ≤ c) → maxI l ≤ c
  | [], h, _ => absurd rfl h
  | [x], _, h => h x (List.mem_cons_self ..)
  | x :: y :: r, _, h => by
    have h1 := h x (List.mem_cons_self ..)
    have h2 := maxI_le (l := y :: r) (by simp) fun z hz => h z (List.mem_cons_of_mem _ hz)
    show max x (maxI (y :: r)) ≤ c
    omega
theorem maxI_ge : ∀ {l : List Int}, l ≠ [] → (∀ x ∈ l, 0 ≤ x) → 0 ≤ maxI l
  | [], h, _ => absurd rfl h
  | [x], _, h => h x (List.mem_cons_self ..)
  | x :: y :: r, _, h => by
    have h1 := h x (List.mem_cons_self ..)
    show 0 ≤ max x (maxI (y :: r))
    omega
abbrev tgS : Tgt := .tp [(.nm 1), (.nm 2)]
theorem compS {f : Nat} {g : Rf.D → Int} {x : Rf.D} {ts : List T3} (hl : ts.length ≤ 1000000) (h : ∀ t ∈ ts, Φ f [t.2.2] = .ok (.int (g t.2.2))) : compK Φ (.call f [(.var 2)]) tgS [] [.d x, .un, .un] (ts.map tD) = .ok (.list ((ts.map fun t => g t.2.2).map .int)) := by
  have hc : ∀ us : List T3, (∀ t ∈ us, Φ f [t.2.2] = .ok (.int (g t.2.2))) → compL (ev Φ (.call f [(.var 2)])) (evt Φ []) tgS (us.map tD) [.d x, .un, .un] = .ok ((us.map fun t => g t.2.2).map .int) := by
    intro us
    induction us with
    | nil => intro _; simp only [List.map_nil, compL]
    | cons t r ih =>
      intro h
      have hb : bindT tgS (tD t) [.d x, .un, .un] = some [.d x, .d (.int t.1), .d t.2.2] := rfl
      have he : ev Φ (.call f [(.var 2)]) [.d x, .d (.int t.1), .d t.2.2] = .ok (.int (g t.2.2)) := by
        simp [h t (List.mem_cons_self ..)]
      simp only [List.map_cons, compL, hb, et_nil, Res.bind_ok, if_true, he, ih fun u hu => h u (List.mem_cons_of_mem _ hu)]
  have hz : decide ((ts.map tD).length ≤ line) = true := decide_eq_true (by rw [List.length_map]; unfold line; omega)
  have hf : Rf.freeOf [.d x, .un, .un] tgS.ix = true := rfl
  have hw : wipeS [.d x, .un, .un] tgS.ix = [.d x, .un, .un] := rfl
  unfold compK
  rw [hw, hc ts h, hz, hf]
  rfl
theorem natsum {l : List T3} {g : T3 → Nat} : ((l.map fun t => ((g t : Nat) : Int))).sum = ((l.map g).sum : Nat) := by
  induction l with
  | nil => rfl
  | cons t r ih => simp only [List.map_cons, List.sum_cons, ih]; omega
/-- few terms -/
theorem fm_len {ts : List T3} (nf : Nf (ts.map tm)) {k : Nat} (h : ∀ t ∈ ts, t.2.1 ≤ k) : ts.length ≤ k + 1 := by
  cases ts with
  | nil => simp
  | cons t r =>
    have := len_low (b := r.map tm) (t := tm t) nf
    have h2 := h t (List.mem_cons_self ..)
    rw [List.length_map] at this
    have : 2 * r.length ≤ t.2.1 := this
    simp only [List.length_cons]; omega
/-- all exponents within at most k -/
inductive Bd (k : Nat) : Rf.D → Prop
  | mk (ts : List T3) : (∀ t ∈ ts, t.2.1 ≤ k) → Nf (ts.map tm) → (∀ t ∈ ts, Bd k t.2.2) → Bd k (.tuple (ts.map tD))
theorem size_ok {k : Nat} (hk : k ≤ 100000) {x : Rf.D} (hx : Bd k x) : ∀ N, x.depth ≤ 2 * N + 1 → ∀ q, N ≤ q → phi TB F (q + 1) 0 [x] = .ok (.int (szD x : Nat)) := by
  induction hx with
  | mk ts h1 h2 h3 ih =>
    intro N hd q hq
    have hl := fm_len h2 h1
    have cs := compS (Φ := phi TB F q) (f := 0) (g := fun d => ((szD d : Nat) : Int)) (x := .tuple (ts.map tD)) (ts := ts) (by omega) fun t ht => by
      have dp := dep_all ht
      simp only [PyData.depth] at hd
      have := ih t ht (N - 1) (by omega) (q - 1) (by omega)
      rw [show q - 1 + 1 = q by omega] at this
      exact this
    have sm := sum_ints (l := ts.map fun t => ((szD t.2.2 : Nat) : Int))
    rw [natsum (g := fun t => szD t.2.2)] at sm
    have e : ((szD (.tuple (ts.map tD)) : Nat) : Int) = 1 + (((ts.map fun t => szD t.2.2).sum : Nat) : Int) := by
      simp only [szD, szL_map]; omega
    rw [e]
    refine (phi_succ rfl).trans (run_ret rfl ?_)
    have cs : compK (phi TB F q) x0_1 tgS [] [.d (.tuple (ts.map tD)), .un, .un] (ts.map tD) = _ := cs
    simp only [List.map_map, Function.comp_def] at cs sm
    simp [b0, cs, sm]
theorem height_ok {k : Nat} (hk : k ≤ 100000) {x : Rf.D} (hx : Bd k x) : ∀ N, x.depth ≤ 2 * N + 1 → ∀ q, N ≤ q → ∃ h : Int, 0 ≤ h ∧ 2 * h + 1 ≤ x.depth ∧ phi TB F (q + 1) 1 [x] = .ok (.int h) := by
  induction hx with
  | mk ts h1 h2 h3 ih =>
    intro N hd q hq
    cases hts : ts with
    | nil =>
      refine ⟨0, by omega, by simp [PyData.depth, PyData.depthAll], (phi_succ rfl).trans (run_ret rfl ?_)⟩
      simp [b1]
    | cons t0 r0 =>
      rw [← hts]
      have hne : ts ≠ [] := by rw [hts]; simp
      have hl := fm_len h2 h1
      have ex : ∀ t ∈ ts, ∃ h : Int, 0 ≤ h ∧ 2 * h + 1 ≤ t.2.2.depth ∧ phi TB F q 1 [t.2.2] = .ok (.int h) := fun t ht => by
        have dp := dep_all ht
        simp only [PyData.depth] at hd
        have := ih t ht (N - 1) (by omega) (q - 1) (by omega)
        rw [show q - 1 + 1 = q by omega] at this
        exact this
      let g : Rf.D → Int := fun d => match phi TB F q 1 [d] with
        | .ok (.int h) => h
        | _ => 0
      have hg : ∀ t ∈ ts, 0 ≤ g t.2.2 ∧ 2 * g t.2.2 + 1 ≤ t.2.2.depth ∧ phi TB F q 1 [t.2.2] = .ok (.int (g t.2.2)) := fun t ht => by
        obtain ⟨h, a, b, c⟩ := ex t ht
        have e : g t.2.2 = h := by
          show (match phi TB F q 1 [t.2.2] with | .ok (.int h) => h | _ => 0) = h
          rw [c]
        rw [e]
        exact ⟨a, b, c⟩
      have cs : compK (phi TB F q) x1_1 tgS [] [.d (.tuple (ts.map tD)), .un, .un] (ts.map tD) = _ := compS (Φ := phi TB F q) (f := 1) (g := g) (x := .tuple (ts.map tD)) (ts := ts) (by omega) fun t ht => (hg t ht).2.2
      have hne2 : (ts.map fun t => g t.2.2) ≠ [] := by simpa using hne
      have mx := max_ints hne2
      have m1 : 0 ≤ maxI (ts.map fun t => g t.2.2) := maxI_ge hne2 fun x hx => by
        obtain ⟨t, ht, rfl⟩ := List.mem_map.mp hx
        exact (hg t ht).1
      have m2 : maxI (ts.map fun t => g t.2.2) ≤ (((PyData.tuple (ts.map tD)).depth : Int) - 3) / 2 := maxI_le hne2 fun x hx => by
        obtain ⟨t, ht, rfl⟩ := List.mem_map.mp hx
        have := (hg t ht).2.1
        have dp := dep_all ht
        simp only [PyData.depth]
        omega
      refine ⟨1 + maxI (ts.map fun t => g t.2.2), by omega, by omega, (phi_succ rfl).trans (run_ret rfl ?_)⟩
      have hlen : ¬ ((ts.length : Int) = 0) := by
        have := List.length_pos_iff.mpr hne
        omega
      generalize hL : (ts.map fun t => g t.2.2) = L at *
      simp [b1, hne, hlen, cs, mx]
end
end My


set_option Elab.async false
set_option linter.all false
set_option maxRecDepth 100000
set_option maxHeartbeats 1000000
namespace My
open PySem PySem.Spec PyProof.Rows L2 Rf
section
variable {Φ : FT} {F n : Nat}
theorem bd_of {x : Rf.D} {v : Int} (h : Fm x v) : -(2 ^ 3000) ≤ v → v ≤ 2 ^ 3000 → Bd 3000 x := by
  induction h with
  | mk ts h1 h2 ih =>
    intro a b
    have hb := exp_le h1 (k := 3000) (by have := two_pos 3000; constructor <;> omega)
    have hb2 : ∀ t ∈ ts, t.2.1 ≤ 3000 := fun t ht => hb (tm t) (List.mem_map.mpr ⟨t, ht, rfl⟩)
    refine .mk ts hb2 h1 fun t ht => ih t ht ?_ ?_
    · have := two_pos 3000
      generalize (2 : Int) ^ 3000 = g at *
      omega
    · have := two_mono (i := 20) (j := 3000) (by decide)
      have := hb2 t ht
      generalize (2 : Int) ^ 3000 = g at *
      omega
theorem c_allowed {x : Rf.D} {v : Int} (h : Fm x v) (h1 : -(2 ^ 3000) ≤ v) (h2 : v ≤ 2 ^ 3000) (hd : x.depth ≤ 13) (hs : szD x ≤ 300) : phi TB F (n + 9) 10 [x] = .ok x := by
  have bd := bd_of h h1 h2
  have s1 := size_ok (F := F) (by decide) bd 6 (by omega) (n + 6) (by omega)
  obtain ⟨c, c0, c1, c2⟩ := height_ok (F := F) (by decide) bd 6 (by omega) (n + 6) (by omega)
  have e5 : phi TB F (n + 8) 9 [x] = .ok (.bool true) := by
    refine (phi_succ rfl).trans (run_ret rfl ?_)
    have q1 : ((szD x : Nat) : Int) ≤ 300 := by omega
    have q2 : c ≤ 40 := by omega
    simp [b9, s1, c2, q1, q2]
  refine (phi_succ rfl).trans (run_ret rfl ?_)
  simp [b10, e5]
theorem bits_ok {v : Int} (h1 : -(2 ^ 2899) ≤ v) (h2 : v ≤ 2 ^ 2899) : Builtin.Int.intBits v ≤ 2900 := by
  unfold Builtin.Int.intBits
  split
  · omega
  · rename_i z
    have z : v ≠ 0 := by simpa using z
    have a : v.natAbs < 2 ^ (2899 + 1) := by
      have e : (2 : Nat) ^ (2899 + 1) = 2 * 2 ^ 2899 := by rw [Nat.pow_succ, Nat.mul_comm]
      have p : ((2 ^ 2899 : Nat) : Int) = 2 ^ 2899 := by rw [Int.natCast_pow]; rfl
      rw [← p] at h1 h2
      have q : 0 < 2 ^ 2899 := Nat.pow_pos (by decide)
      rw [e]
      generalize 2 ^ 2899 = g at *
      omega
    have := (Nat.log2_lt (by omega)).mpr a
    omega
theorem m_bits {v : Int} : mthK .bits (.int v) [] = .ok (.int (Builtin.Int.intBits v : Nat)) := rfl
theorem c_of {x : Rf.D} {v : Int} (hf : phi TB F (n + 9) 8 [.int v] = .ok x) (h : Fm x v) (h1 : -(2 ^ 2899) ≤ v) (h2 : v ≤ 2 ^ 2899) (hd : x.depth ≤ 13) (hs : szD x ≤ 300) : phi TB F (n + 10) 11 [.int v] = .ok x := by
  have b := bits_ok h1 h2
  have m := two_mono (i := 2899) (j := 3000) (by decide)
  have al := c_allowed (F := F) (n := n) h (by generalize (2 : Int) ^ 3000 = g at *; generalize (2 : Int) ^ 2899 = g2 at *; omega) (by generalize (2 : Int) ^ 3000 = g at *; generalize (2 : Int) ^ 2899 = g2 at *; omega) hd hs
  refine (phi_succ rfl).trans (run_ret rfl ?_)
  simp [b11, m_bits, hf, al, show ¬ (2900 : Int) < (Builtin.Int.intBits v : Nat) by omega]
/-- the number of a drawn value -/
theorem c_ofF (hF : 4000 ≤ F) {v : Int} {k : Nat} (hk : k ≤ 5) (h : Few v k 20) (h1 : -(2 ^ 2803) ≤ v) (h2 : v ≤ 2 ^ 2803) : ∃ x, phi TB F (n + 10) 11 [.int v] = .ok x ∧ Fm x v ∧ x.depth ≤ 13 := by
  have m := two_mono (i := 2803) (j := 3000) (by decide)
  have m2 := two_mono (i := 2803) (j := 2899) (by decide)
  obtain ⟨x, x1, x2, x3⟩ := c_from (F := F) (n := n + 2) hF (p := v) (by generalize (2 : Int) ^ 3000 = g at *; generalize (2 : Int) ^ 2803 = g2 at *; omega) (by generalize (2 : Int) ^ 3000 = g at *; generalize (2 : Int) ^ 2803 = g2 at *; omega)
  refine ⟨x, c_of x1 x2 (by generalize (2 : Int) ^ 2899 = g at *; generalize (2 : Int) ^ 2803 = g2 at *; omega) (by generalize (2 : Int) ^ 2899 = g at *; generalize (2 : Int) ^ 2803 = g2 at *; omega) x3 ?_, x2, x3⟩
  obtain ⟨ts, rfl, hv, nf, fs⟩ := x2.inv
  rw [hv] at h h1 h2
  have fw := few_size nf hk h h1 h2
  have hb := exp_le nf (k := 2803) (by have := two_pos 2803; constructor <;> omega)
  have e : ∀ us : List T3, (∀ t ∈ us, szD t.2.2 = SZ 5 t.2.1) → (us.map fun t => szD t.2.2).sum = ((us.map tm).map fun t => SZ 5 t.2).sum := by
    intro us
    induction us with
    | nil => intro _; rfl
    | cons t r ih =>
      intro h
      simp only [List.map_cons, List.sum_cons]
      rw [h t (List.mem_cons_self ..), ih fun u hu => h u (List.mem_cons_of_mem _ hu)]
      rfl
  have e2 := e ts fun t ht => by
    have dp := dep_all ht
    simp only [PyData.depth] at x3
    have := hb (tm t) (List.mem_map.mpr ⟨t, ht, rfl⟩)
    have : t.2.1 ≤ 2803 := this
    exact sz_fm 5 (fs t ht) (by omega) (by omega)
  simp only [szD, szL_map, e2]
  omega
theorem c_ofE (hF : 4000 ≤ F) {E : Nat} (h : E ≤ 7000) : ∃ x, phi TB F (n + 10) 11 [.int (E : Nat)] = .ok x ∧ Fm x (E : Nat) ∧ x.depth ≤ 13 := by
  have l5 : (2 : Int) ^ lev 5 = 2 ^ lev 5 := rfl
  have m2 := two_mono (i := 20) (j := 2899) (by decide)
  obtain ⟨x, x1, x2, x3⟩ := from_ok (F := F) hF 5 (v := (E : Nat)) (by decide) (fun z => by omega) (by have := two_mono (i := 14) (j := lev 5) (by decide); omega) (by have := two_mono (i := 14) (j := lev 5) (by decide); omega) (n + 3)
  refine ⟨x, c_of (by rw [show n + 9 = 5 + (n + 3) + 1 by omega]; exact x1) x2 (by generalize (2 : Int) ^ 2899 = g at *; omega) (by generalize (2 : Int) ^ 2899 = g at *; omega) (by omega) ?_, x2, by omega⟩
  rw [sz_fm 5 x2 (by omega) (by omega)]
  have := sz_mid (e := E) (by omega)
  omega
theorem c_ofM (hF : 4000 ≤ F) : ∃ x, phi TB F (n + 10) 11 [.int (-1)] = .ok x ∧ Fm x (-1) ∧ x.depth ≤ 13 := by
  refine c_ofF hF (k := 0) (by decide) ⟨0, -1, 0, by decide, ?_, by decide, by decide, by decide⟩ ?_ ?_
  · have := ws 2900 0
    have z : ∀ k, wt k 0 = 0 := by
      intro k
      induction k with
      | zero => rfl
      | succ k ih => rw [wt_even (by decide)]; exact ih
    rw [z]; omega
  · have := two_pos 2803
    generalize (2 : Int) ^ 2803 = g at *
    omega
  · have := two_pos 2803
    generalize (2 : Int) ^ 2803 = g at *
    omega
end
end My


set_option Elab.async false
set_option linter.all false
set_option maxRecDepth 100000
set_option maxHeartbeats 2000000
namespace My
open PySem PySem.Spec PyProof.Rows L2 Rf
section
variable {Φ : FT} {F n : Nat}
abbrev il (l : List Int) : List Rf.D := l.map .int
def Sm (l : List Int) : Prop := ∀ x ∈ l, 0 ≤ x ∧ x < 1000
theorem Sm.snoc {l : List Int} (h : Sm l) (y : Int) : Sm (l ++ [y % 1000]) := fun x hx => by
  rcases List.mem_append.mp hx with hx | hx
  · exact h x hx
  · simp at hx; omega
theorem il_snoc {l : List Int} {x : Int} : il l ++ [.int x] = il (l ++ [x]) := by simp
theorem pickI {l : List Int} {z : Int} (h0 : 0 ≤ z) (h1 : z < l.length) : ∃ y ∈ l, idxK (.list (l.map .int)) (.int z) = .ok (.int y) := by
  have hi : z.toNat < l.length := by omega
  refine ⟨l[z.toNat], List.getElem_mem hi, ?_⟩
  have e : idxD (.list (l.map .int)) (.int z) = some (.int l[z.toNat]) := by
    show L2.atI _ _ = _
    exact atI_at h0 (get_ints hi)
  rw [idxK, e]; rfl
theorem c_cell {ns : List Int} {k : Nat} : ∃ c : Int, phi TB F (n + 1) 33 [.list (il ns), .int (k : Nat)] = .ok (.int c) := by
  by_cases h : (k : Int) < (ns.length : Nat)
  · obtain ⟨y, hy, e⟩ := pickI (l := ns) (z := (k : Nat)) (by omega) h
    refine ⟨y, (phi_succ rfl).trans (run_ret rfl ?_)⟩
    simp [b33, show k < ns.length by omega, e]
  · refine ⟨0, (phi_succ rfl).trans (run_ret rfl ?_)⟩
    simp [b33, show ¬ k < ns.length by omega]
theorem seq_as {o : Out} {f g : Sl → Out} : (o.seq f).seq g = o.seq fun e => (f e).seq g := by cases o <;> rfl
def K1 (m : Nat) (c k : Int) (i : Nat) (e : Sl) : Prop := ∃ (l : List Int) (r : Int) (s5 : Slot), e = [.d (.int c), .d (.int k), .d (.int (m : Nat)), .ol (il l), .d (.int r), s5, .un, .un] ∧ l.length = i ∧ Sm l
def K2 (m : Nat) (c k : Int) (i : Nat) (e : Sl) : Prop := ∃ (l : List Int) (r : Int) (s5 s7 : Slot), e = [.d (.int c), .d (.int k), .d (.int (m : Nat)), .ol (il l), .un, s5, .d (.int r), s7] ∧ l.length = i ∧ Sm l ∧ 0 ≤ r ∧ r < 2147483647
theorem c_numbers {c : Int} {k m : Nat} (hm : m ≤ 100) : ∃ l : List Int, phi TB F (n + 1) 34 [.int c, .int (k : Nat), .int (m : Nat)] = .ok (.list (il l)) ∧ l.length = m ∧ Sm l := by
  have : ∃ x, Fdef.run ⟨3, 8, b34⟩ (phi TB F n) F [.int c, .int (k : Nat), .int (m : Nat)] = .ok x ∧ ∃ l, x = .list (il l) ∧ l.length = m ∧ Sm l := by
    refine run_of rfl ?_
    have r1 : srcK .rng [.int (m : Nat)] = .ok (rngD 0 m) := srcK_rn (by omega)
    simp only [b34, x_cons, x_own, e_lst, es_nil, Res.bind_ok, Out.ofR_ok, List.map_cons, List.map_nil, List.replicate_succ, List.replicate_zero, Nat.reduceSub, List.cons_append, List.nil_append]
    rw [ownK_l (by simp)]
    by_cases hb : (1000000000000000000 : Int) ≤ c
    · simp [hb, r1]
      rw [seq_as]
      refine Is.for (fun j e => K1 m c k j e) ⟨[], c, _, rfl, rfl, fun x h => by simp at h⟩ ?_ ?_
      · rintro j x e hx ⟨l, r, s5, rfl, g1, g2⟩
        obtain ⟨hj, rfl⟩ := rng_get hx
        have hz : l.length < line := by unfold line; omega
        simp [turnB, bindT, b34_1, hz]
        exact ⟨l ++ [r % 1000], _, _, by rw [il_snoc], by simp [g1], g2.snoc r⟩
      · rintro e ⟨l, r, s5, rfl, g1, g2⟩
        simp
        exact ⟨l, rfl, by rw [g1, rng_len], g2⟩
    · simp [hb, r1]
      refine Is.for (fun j e => K2 m c k j e) ⟨[], _, _, _, rfl, rfl, fun x h => by simp at h, Int.emod_nonneg _ (by decide), Int.emod_lt_of_pos _ (by decide)⟩ ?_ ?_
      · rintro j x e hx ⟨l, r, s5, s7, rfl, g1, g2, g3, g4⟩
        obtain ⟨hj, rfl⟩ := rng_get hx
        have hz : l.length < line := by unfold line; omega
        have m0 : 0 ≤ (r * 16807 + (0 + (j : Int)) * 7919 + 13) % 2147483647 := Int.emod_nonneg _ (by decide)
        have m1 : (r * 16807 + (0 + (j : Int)) * 7919 + 13) % 2147483647 < 2147483647 := Int.emod_lt_of_pos _ (by decide)
        simp only [Int.zero_add] at m0 m1
        simp [turnB, bindT, b34_2, hz]
        generalize (r * 16807 + (j : Int) * 7919 + 13) % 2147483647 = M at *
        have mm : binK .mul (.int M) (.int M) = .ok (.int (M * M)) := binK_mul (.inl (by omega))
        simp [mm, hz]
        exact ⟨l ++ [_], _, _, _, by rw [il_snoc], by simp [g1], g2.snoc _, m0, m1⟩
      · rintro e ⟨l, r, s5, s7, rfl, g1, g2, g3, g4⟩
        simp
        exact ⟨l, rfl, by rw [g1, rng_len], g2⟩
  obtain ⟨x, h, l, rfl, h2⟩ := this
  exact ⟨l, (phi_succ rfl).trans h, h2⟩
theorem binK_shl {j : Nat} (h : j ≤ 1000000) : binK .shl (.int 1) (.int (j : Nat)) = .ok (.int (2 ^ j)) := by
  have e : binD .shl (.int 1) (.int (j : Nat)) = some (.int (2 ^ j)) := by
    show (if _ then some (PyData.int (1 * 2 ^ ((j : Int)).toNat)) else none) = _
    rw [if_pos ⟨by omega, by omega, by decide +kernel⟩, Int.one_mul, Int.toNat_natCast]
  rw [binK, e]; rfl
theorem sig {z : Int} : (1 - 2 * (z % 2) = 1 ∨ 1 - 2 * (z % 2) = -1) := by omega
/-- a few powers and a small rest -/
def Pw (v : Int) : Prop := ∃ (L : List Tm) (r : Int), v = val L + r ∧ L.length ≤ 5 ∧ (∀ t ∈ L, (t.1 = 1 ∨ t.1 = -1) ∧ t.2 < 2800) ∧ -20 ≤ r ∧ r ≤ 20
def KP (l : List Int) (i : Nat) (e : Sl) : Prop := ∃ (v : Int) (s4 s5 : Slot), e = [.d (.list (il l)), .d (.int 0), .d (.int 2800), .d (.int v), s4, s5] ∧ ∃ L : List Tm, v = val L ∧ L.length = i ∧ ∀ t ∈ L, (t.1 = 1 ∨ t.1 = -1) ∧ t.2 < 2800
theorem few0 : Few 0 0 0 := by
  refine ⟨0, 0, 0, by decide, ?_, by decide, by decide, by decide⟩
  have z : ∀ k, wt k 0 = 0 := by
    intro k
    induction k with
    | zero => rfl
    | succ k ih => rw [wt_even (by decide)]; exact ih
  rw [z]; omega
theorem c_plain {l : List Int} (hl : l.length = 16) (hs : Sm l) : ∃ v : Int, phi TB F (n + 1) 35 [.list (il l), .int 0, .int 2800] = .ok (.int v) ∧ Pw v := by
  have : ∃ x, Fdef.run ⟨3, 6, b35⟩ (phi TB F n) F [.list (il l), .int 0, .int 2800] = .ok x ∧ ∃ v : Int, x = .int v ∧ Pw v := by
    refine run_of rfl ?_
    obtain ⟨y0, h0, e0⟩ := pickI (l := l) (z := 0) (by omega) (by omega)
    obtain ⟨y9, h9, e9⟩ := pickI (l := l) (z := 9) (by omega) (by omega)
    obtain ⟨y7, h7, e7⟩ := pickI (l := l) (z := 7) (by omega) (by omega)
    obtain ⟨y8, h8, e8⟩ := pickI (l := l) (z := 8) (by omega) (by omega)
    obtain ⟨m, hm⟩ := Int.eq_ofNat_of_zero_le (show 0 ≤ y0 % 6 by omega)
    have hm5 : m ≤ 5 := by omega
    have r1 := srcK_rn (n := m) (by omega)
    simp [b35, e0, hm, r1]
    refine Is.for (fun j e => KP l j e) ⟨0, _, _, rfl, [], rfl, rfl, fun t ht => by simp at ht⟩ ?_ ?_
    · rintro j x e hx ⟨v, s4, s5, rfl, L, g1, g2, g3⟩
      obtain ⟨hj, rfl⟩ := rng_get hx
      rw [Int.zero_add]
      obtain ⟨y, hy, ey⟩ := pickI (l := l) (z := 1 + (j : Int)) (by omega) (by omega)
      have sy := hs y hy
      have p0 : 0 ≤ (y7 / (1 + (j : Int))) % 2 ∧ (y7 / (1 + (j : Int))) % 2 < 2 := by omega
      obtain ⟨p, hp, ep⟩ := pickI (l := [y % 70, y * 7 % 2800]) (z := (y7 / (1 + (j : Int))) % 2) p0.1 p0.2
      have hp2 : 0 ≤ p ∧ p < 2800 := by
        rcases List.mem_cons.mp hp with rfl | hp
        · omega
        · rcases List.mem_cons.mp hp with rfl | hp
          · omega
          · simp at hp
      obtain ⟨q, rfl⟩ := Int.eq_ofNat_of_zero_le hp2.1
      have sh := binK_shl (j := q) (by omega)
      have sg := sig (z := y8 / (3 + (j : Int)))
      have d1 : binK .fdiv (.int y7) (.int (1 + (j : Int))) = .ok (.int (y7 / (1 + (j : Int)))) := binK_div (by omega) (by omega)
      have d2 : binK .fdiv (.int y8) (.int (3 + (j : Int))) = .ok (.int (y8 / (3 + (j : Int)))) := binK_div (by omega) (by omega)
      simp only [List.map_cons, List.map_nil] at ep
      generalize y7 / (1 + (j : Int)) = z7 at *
      generalize y8 / (3 + (j : Int)) = z8 at *
      have mu : binK .mul (.int (1 - 2 * (z8 % 2))) (.int (2 ^ q)) = .ok (.int ((1 - 2 * (z8 % 2)) * 2 ^ q)) := binK_mull (by omega)
      have hb : turnB (Rf.execs (phi TB F n) F b35_1) (.nm 4) (.int (j : Nat)) [.d (.list (il l)), .d (.int 0), .d (.int 2800), .d (.int v), s4, s5] = .nx [.d (.list (il l)), .d (.int 0), .d (.int 2800), .d (.int (v + (1 - 2 * (z8 % 2)) * 2 ^ q)), .d (.int (j : Nat)), .d (.int (q : Nat))] := by
        simp only [turnB, bindT, List.length_cons, List.length_nil, Nat.reduceAdd, Nat.reduceLT, if_true, List.set_cons_succ, List.set_cons_zero]
        simp [b35_1, ey, e7, e8, d1, d2, ep, sh, mu]
      rw [hb, Turn_nx]
      refine ⟨_, _, _, rfl, (1 - 2 * (z8 % 2), q) :: L, ?_, by simp [g2], fun t ht => ?_⟩
      · simp only [val]; omega
      · rcases List.mem_cons.mp ht with rfl | ht
        · exact ⟨sg, by show q < 2800; omega⟩
        · exact g3 t ht
    · rintro e ⟨v, s4, s5, rfl, L, g1, g2, g3⟩
      rw [rng_len] at g2
      simp [e9]
      exact ⟨L, y9 % 41 - 20, by omega, by omega, g3, by omega, by omega⟩
  obtain ⟨x, h, v, rfl, h2⟩ := this
  exact ⟨v, (phi_succ rfl).trans h, h2⟩
end
end My

set_option Elab.async false
set_option linter.all false
set_option maxRecDepth 100000
set_option maxHeartbeats 2000000
namespace My
open PySem PySem.Spec PyProof.Rows L2 Rf
section
variable {Φ : FT} {F n : Nat}
/-! ### sums -/
def tl : Rf.D → Nat
  | .tuple l => l.length
  | _ => 0
structure Big (x : Rf.D) (v : Int) : Prop where
  fm : Fm x v
  tl : tl x ≤ 240
  lo : -(2 ^ 2900) ≤ v
  hi : v ≤ 2 ^ 2900
theorem Big.ts {x : Rf.D} {v : Int} (h : Big x v) : ∃ ts : List T3, x = .tuple (ts.map tD) ∧ v = val (ts.map tm) ∧ Nf (ts.map tm) ∧ (∀ t ∈ ts, Fm t.2.2 (t.2.1 : Nat) ∧ t.2.1 ≤ 2900 ∧ t.2.2.depth ≤ 13) ∧ ts.length ≤ 240 := by
  obtain ⟨ts, rfl, hv, nf, fs⟩ := h.fm.inv
  have ex := exp_le nf (k := 2900) (by rw [← hv]; exact ⟨h.hi, h.lo⟩)
  have hb : ∀ t ∈ ts, t.2.1 ≤ 2900 := fun t ht => ex (tm t) (List.mem_map.mpr ⟨t, ht, rfl⟩)
  have hl := h.tl
  simp only [My.tl, List.length_map] at hl
  exact ⟨ts, rfl, hv, nf, fun t ht => ⟨fs t ht, hb t ht, depN (fs t ht) (by have := hb t ht; omega)⟩, hl⟩
theorem plus_ok (hF : 20000 ≤ F) {x y : Rf.D} {v w : Int} (hx : Big x v) (hy : Big y w) : ∃ z, phi TB F (n + 30) 15 [x, y] = .ok z ∧ Fm z (v + w) := by
  obtain ⟨ts, rfl, hv, nf, fs, l1⟩ := hx.ts
  obtain ⟨us, rfl, hw, nf2, fs2, l2⟩ := hy.ts
  have ev : val ((ts ++ us).map tm) = v + w := by rw [List.map_append, val_app, ← hv, ← hw]
  have bd : 3 * (v + w) ≤ 2 * 2 ^ (2910 + 1) ∧ -(2 * 2 ^ (2910 + 1)) ≤ 3 * (v + w) := by
    have e1 : (2 : Int) ^ (2910 + 1) = 2 * 2 ^ 2910 := by rw [Int.pow_succ, Int.mul_comm]
    have e2 : (2 : Int) ^ 2910 = 1024 * 2 ^ 2900 := by rw [show 2910 = 2900 + 10 from rfl, two_add, Int.mul_comm, show (2 : Int) ^ 10 = 1024 from rfl]
    have a1 := hx.lo; have a2 := hx.hi
    have b1 := hy.lo; have b2 := hy.hi
    have P := two_pos 2900
    rw [e1, e2]
    generalize (2 : Int) ^ 2900 = g at *
    omega
  obtain ⟨z, hz, fz⟩ := gath_ok (F := F) (n := n + 28) (m := 2900) (by omega) (by omega) hinj (ps := ts ++ us) (fun t ht => by
    rcases List.mem_append.mp ht with ht | ht
    · obtain ⟨a, b, c⟩ := fs t ht
      exact ⟨a, by show t.2.1 ≤ 3000; omega, c, b⟩
    · obtain ⟨a, b, c⟩ := fs2 t ht
      exact ⟨a, by show t.2.1 ≤ 3000; omega, c, b⟩) (by rw [List.length_append]; omega) (by rw [pw_app, pw_nf nf, pw_nf nf2]; omega) (by rw [pw_app, pw_nf nf, pw_nf nf2]; omega) fun e x hx nd q hq => by
      rw [ev] at nd
      refine next_ok (by omega) 4 (by decide) ?_ hx q (by omega)
      show e ≤ 100000
      rcases nd with nd | nd | nd
      · omega
      · have := pow_lt_of (t := e + 1) (k := 2910) nd bd.1
        omega
      · have := pow_lt_of (t := e + 1) (k := 2910) (c := -(3 * (v + w))) (by generalize (2 : Int) ^ (e + 1) = g at *; omega) (by have := bd.2; generalize (2 : Int) ^ (2910 + 1) = g at *; omega)
        omega
  rw [ev] at fz
  refine ⟨z, (phi_succ rfl).trans (run_ret rfl ?_), fz⟩
  have hl : binK .add (.list (ts.map tD)) (.list (us.map tD)) = .ok (.list ((ts ++ us).map tD)) := by
    rw [binK_lst (by rw [List.length_map, List.length_map]; omega), List.map_append]
  have hli : ∀ l : List Rf.D, bltK .list [.tuple l] = .ok (.list l) := fun l => rfl
  show Rf.execs _ F b15 [.d (.tuple (ts.map tD)), .d (.tuple (us.map tD))] = _
  simp only [b15, x_cons, x_ret, e_call, es_cons, es_nil, e_bin, e_blt, e_var, List.getElem?_cons_succ, List.getElem?_cons_zero, varK_d, Res.bind_ok, hli, hl, hz, Out.ofR_ok, Out.seq_ret]
/-- a comprehension over the terms of a number -/
theorem comp_ts {E : Exp} {t : Tgt} {e : Sl} {ts : List T3} (h : T3 → Rf.D) (hw : wipeS e t.ix = e) (hf : Rf.freeOf e t.ix = true) (hl : ts.length ≤ 900000) (hh : ∀ u ∈ ts, ∃ e1, bindT t (tD u) e = some e1 ∧ ev Φ E e1 = .ok (h u)) :
    compK Φ E t [] e (ts.map tD) = .ok (.list (ts.map h)) := by
  have hc : ∀ us : List T3, (∀ u ∈ us, ∃ e1, bindT t (tD u) e = some e1 ∧ ev Φ E e1 = .ok (h u)) → compL (ev Φ E) (evt Φ []) t (us.map tD) e = .ok (us.map h) := by
    intro us
    induction us with
    | nil => intro _; simp only [List.map_nil, compL]
    | cons u r ih =>
      intro hh
      obtain ⟨e1, a, b⟩ := hh u (List.mem_cons_self ..)
      simp only [List.map_cons, compL, a, et_nil, Res.bind_ok, if_true, b, ih fun w hw => hh w (List.mem_cons_of_mem _ hw)]
  have hz : decide ((ts.map tD).length ≤ line) = true := decide_eq_true (by rw [List.length_map]; unfold line; omega)
  unfold compK
  rw [hw, hc ts hh, hz, hf]
  rfl
def ng (t : T3) : T3 := (-t.1, t.2)
theorem val_ng : ∀ {ts : List T3}, val ((ts.map ng).map tm) = -val (ts.map tm)
  | [] => rfl
  | t :: r => by
    simp only [List.map_cons, val, val_ng (ts := r)]
    show -t.1 * 2 ^ t.2.1 + _ = -(t.1 * 2 ^ t.2.1 + _)
    rw [Int.neg_mul]; omega
theorem nf_ng : ∀ {ts : List T3}, Nf (ts.map tm) → Nf ((ts.map ng).map tm)
  | [], _ => trivial
  | t :: r, h => by
    refine ⟨?_, fun u hu => ?_, nf_ng h.2.2⟩
    · show -t.1 = 1 ∨ -t.1 = -1
      have : t.1 = 1 ∨ t.1 = -1 := h.1
      omega
    · cases r with
      | nil => simp at hu
      | cons w r =>
        have hu : tm (ng w) = u := by simpa using hu
        subst hu
        exact h.2.1 (tm w) rfl
theorem neg_ok {x : Rf.D} {v : Int} (hx : Big x v) : ∃ z, phi TB F (n + 1) 14 [x] = .ok z ∧ Big z (-v) := by
  obtain ⟨ts, rfl, hv, nf, fs, l1⟩ := hx.ts
  have f := Fm.mk (ts.map ng) (nf_ng nf) fun t ht => by
    obtain ⟨u, hu, rfl⟩ := List.mem_map.mp ht
    exact (fs u hu).1
  rw [val_ng, ← hv] at f
  have f : Big (.tuple ((ts.map ng).map tD)) (-v) := ⟨f, by simp only [tl, List.length_map]; exact l1, by have := hx.hi; generalize (2 : Int) ^ 2900 = g at *; omega, by have := hx.lo; generalize (2 : Int) ^ 2900 = g at *; omega⟩
  refine ⟨_, (phi_succ rfl).trans (run_ret rfl ?_), f⟩
  have cm := comp_ts (Φ := phi TB F n) (E := x14_1) (t := .tp [(.nm 1), (.nm 2)]) (e := [.d (.tuple (ts.map tD)), .un, .un]) (ts := ts) (fun t => tD (ng t)) rfl rfl (by omega) fun u hu => ⟨[.d (.tuple (ts.map tD)), .d (.int u.1), .d u.2.2], rfl, by simp [x14_1]; rfl⟩
  show Rf.execs _ F b14 [.d (.tuple (ts.map tD)), .un, .un] = _
  simp only [b14, x_cons, x_ret, e_blt, es_cons, es_nil, e_comp, e_var, List.getElem?_cons_zero, varK_d, Res.bind_ok, srcK_t, cm, bltK_tupL, Out.ofR_ok, Out.seq_ret, List.map_map]
  rfl
/-! ### small numbers -/
def Sml (v : Int) : Prop := -100000 ≤ v ∧ v ≤ 100000
theorem pow_1000 : (1267650600228229401496703205376 : Int) ≤ 2 ^ 2900 := two_mono (i := 100) (j := 2900) (by decide)
theorem Sml.big {x : Rf.D} {v : Int} (hx : Fm x v) (h : Sml v) : Big x v := by
  obtain ⟨h1, h2⟩ := h
  have P := pow_1000
  refine ⟨hx, ?_, by generalize (2 : Int) ^ 2900 = g at *; omega, by generalize (2 : Int) ^ 2900 = g at *; omega⟩
  obtain ⟨ts, rfl, hv, nf, fs⟩ := hx.inv
  have ex := exp_le nf (k := 17) (by rw [← hv]; constructor <;> omega)
  have := fm_len nf (k := 17) fun t ht => ex (tm t) (List.mem_map.mpr ⟨t, ht, rfl⟩)
  simp only [tl, List.length_map]; omega
theorem minus_ok (hF : 20000 ≤ F) {x y : Rf.D} {v w : Int} (hx : Fm x v) (hy : Fm y w) (h1 : Sml v) (h2 : Sml w) : ∃ z, phi TB F (n + 31) 16 [x, y] = .ok z ∧ Fm z (v - w) := by
  obtain ⟨a, ha, fa⟩ := neg_ok (F := F) (n := n + 29) (h2.big hy)
  obtain ⟨z, hz, fz⟩ := plus_ok (n := n) hF (h1.big hx) fa
  refine ⟨z, (phi_succ rfl).trans (run_ret rfl ?_), fz⟩
  simp [b16, ha, hz]
end
end My

set_option Elab.async false
set_option linter.all false
set_option maxRecDepth 100000
set_option maxHeartbeats 1000000
namespace My
open PySem PySem.Spec PyProof.Rows L2 Rf
/-! ### a number, cut at a place -/
def dnT (y : Nat) (t : Tm) : Tm := (t.1, t.2 - y)
theorem val_dn {y : Nat} : ∀ {a : List Tm}, (∀ t ∈ a, y ≤ t.2) → val a = val (a.map (dnT y)) * 2 ^ y
  | [], _ => by simp [val]
  | t :: r, h => by
    have ih := val_dn fun u hu => h u (List.mem_cons_of_mem _ hu)
    have h1 := h t (List.mem_cons_self ..)
    simp only [List.map_cons, val, Int.add_mul, ih, dnT]
    have e : (2 : Int) ^ t.2 = 2 ^ (t.2 - y) * 2 ^ y := by rw [← two_add, show t.2 - y + y = t.2 by omega]
    rw [e, Int.mul_assoc]
theorem nf_dn {y : Nat} : ∀ {a : List Tm}, Nf a → (∀ t ∈ a, y ≤ t.2) → Nf (a.map (dnT y))
  | [], _, _ => trivial
  | t :: r, nf, h => by
    refine ⟨nf.1, fun u hu => ?_, nf_dn nf.2.2 fun u hu => h u (List.mem_cons_of_mem _ hu)⟩
    cases r with
    | nil => simp at hu
    | cons w r =>
      have hu : dnT y w = u := by simpa using hu
      subst hu
      have h1 := nf.2.1 w rfl
      have h2 := h w (by simp)
      have h3 := h t (by simp)
      show w.2 - y + 2 ≤ t.2 - y
      omega
theorem nf_app : ∀ {a b : List Tm}, Nf (a ++ b) → Nf a ∧ Nf b
  | [], b, h => ⟨trivial, h⟩
  | t :: r, b, h => by
    obtain ⟨h1, h2⟩ := nf_app (a := r) h.2.2
    refine ⟨⟨h.1, fun u hu => ?_, h1⟩, h2⟩
    cases r with
    | nil => simp at hu
    | cons w r => exact h.2.1 u hu
theorem nf_split (y : Nat) : ∀ {ts : List T3}, Nf (ts.map tm) → ∃ a b : List T3, ts = a ++ b ∧ (∀ t ∈ a, y ≤ t.2.1) ∧ ∀ t ∈ b, t.2.1 < y
  | [], _ => ⟨[], [], rfl, fun t h => by simp at h, fun t h => by simp at h⟩
  | t :: r, h => by
    by_cases e : y ≤ t.2.1
    · obtain ⟨a, b, rfl, h1, h2⟩ := nf_split y h.2.2
      refine ⟨t :: a, b, rfl, fun u hu => ?_, h2⟩
      rcases List.mem_cons.mp hu with rfl | hu
      · exact e
      · exact h1 u hu
    · refine ⟨[], t :: r, rfl, fun u hu => by simp at hu, fun u hu => ?_⟩
      rcases List.mem_cons.mp hu with rfl | hu
      · omega
      · have := head_le (t := tm t) (r := r.map tm) h (tm u) (List.mem_map.mpr ⟨u, hu, rfl⟩)
        have : u.2.1 ≤ t.2.1 := this
        omega
/-- borrowed: what is below a place, is negative -/
def br : List T3 → Bool
  | [] => false
  | t :: _ => decide (t.1 < 0)
theorem low_bd {y : Nat} {b : List T3} (nf : Nf (b.map tm)) (h : ∀ t ∈ b, t.2.1 < y) : (br b = true ∧ -(2 ^ y) < val (b.map tm) ∧ val (b.map tm) < 0) ∨ (br b = false ∧ 0 ≤ val (b.map tm) ∧ val (b.map tm) < 2 ^ y) := by
  cases b with
  | nil => exact .inr ⟨rfl, Int.le_refl _, two_pos y⟩
  | cons t r =>
    have q := bnd (t := tm t) (r := r.map tm) nf
    have h1 := two_lt (h t (List.mem_cons_self ..))
    have P := two_pos t.2.1
    rw [List.map_cons]
    have q : 2 * 2 ^ t.2.1 < 3 * (t.1 * val (tm t :: r.map tm)) ∧ 3 * (t.1 * val (tm t :: r.map tm)) < 4 * 2 ^ t.2.1 := q
    generalize val (tm t :: r.map tm) = w at *
    generalize (2 : Int) ^ t.2.1 = g at *
    generalize (2 : Int) ^ y = G at *
    have s : t.1 = 1 ∨ t.1 = -1 := nf.1
    simp only [br]
    rcases s with s | s <;> rw [s] at q ⊢
    · exact .inr ⟨rfl, by omega, by omega⟩
    · exact .inl ⟨rfl, by omega, by omega⟩
theorem floor_val {y : Nat} {a b : List T3} (nf : Nf ((a ++ b).map tm)) (ha : ∀ t ∈ a, y ≤ t.2.1) (hb : ∀ t ∈ b, t.2.1 < y) :
    val ((a ++ b).map tm) / 2 ^ y = val ((a.map tm).map (dnT y)) + (if br b then -1 else 0) := by
  have P := two_pos y
  rw [List.map_append] at nf ⊢
  have e1 := val_dn (y := y) (a := a.map tm) fun t ht => by
    obtain ⟨u, hu, rfl⟩ := List.mem_map.mp ht
    exact ha u hu
  rw [val_app, e1, Int.add_comm, Int.add_mul_ediv_right _ _ (by omega), Int.add_comm]
  congr 1
  rcases low_bd (nf_app nf).2 hb with ⟨h1, h2, h3⟩ | ⟨h1, h2, h3⟩
  · rw [if_pos h1]
    generalize val (b.map tm) = w at *
    generalize (2 : Int) ^ y = G at *
    have e : w = (w + G) + (-1) * G := by omega
    rw [e, Int.add_mul_ediv_right _ _ (by omega), Int.ediv_eq_zero_of_lt (by omega) (by omega)]
    rfl
  · rw [h1, if_neg (by decide), Int.ediv_eq_zero_of_lt h2 h3]
/-- the terms at a place -/
theorem dig_val {y : Nat} : ∀ {a : List T3}, Nf (a.map tm) → (∀ t ∈ a, y ≤ t.2.1) → (val ((a.map tm).map (dnT y)) - ((a.filter fun t => decide (t.2.1 = y)).length : Nat)) % 2 = 0
  | [], _, _ => rfl
  | t :: r, nf, h => by
    have ih := dig_val (a := r) nf.2.2 fun u hu => h u (List.mem_cons_of_mem _ hu)
    have h1 := h t (List.mem_cons_self ..)
    simp only [List.map_cons, val]
    have s : t.1 = 1 ∨ t.1 = -1 := nf.1
    show (t.1 * 2 ^ (t.2.1 - y) + val ((r.map tm).map (dnT y)) - _) % 2 = 0
    generalize val ((r.map tm).map (dnT y)) = w at *
    by_cases e : t.2.1 = y
    · rw [List.filter_cons_of_pos (by simpa using e), show t.2.1 - y = 0 by omega, List.length_cons]
      rcases s with s | s <;> rw [s] <;> simp <;> omega
    · rw [List.filter_cons_of_neg (by simpa using e)]
      obtain ⟨k, hk⟩ : ∃ k, t.2.1 - y = k + 1 := ⟨t.2.1 - y - 1, by omega⟩
      rw [hk, Int.pow_succ]
      generalize (2 : Int) ^ k = g
      rcases s with s | s <;> rw [s] <;> omega
end My

set_option Elab.async false
set_option linter.all false
set_option maxRecDepth 100000
set_option maxHeartbeats 1000000
namespace My
open PySem PySem.Spec PyProof.Rows L2 Rf
section
variable {Φ : FT} {F n : Nat}
theorem et_one {c : Exp} {e : Sl} {b : Bool} (h : ev Φ c e = .ok (.bool b)) : evt Φ [c] e = .ok b := by
  simp only [evt, h]
  cases b <;> rfl
abbrev tgB : Tgt := .tp [(.nm 2), (.nm 3)]
abbrev tgF : Tgt := .tp [(.nm 3), (.nm 4)]
theorem isb_loop {x yd : Rf.D} {y : Nat} : ∀ {a b : List T3}, (∀ t ∈ a, y ≤ t.2.1) → (∀ t ∈ b, t.2.1 < y) → (∀ t ∈ a ++ b, Φ 2 [t.2.2, yd] = .ok (.int (sgn ((t.2.1 : Int) - (y : Int))))) → ∀ s2 s3 : Slot,
    (forL (Rf.execs Φ F b18_1) tgB ((a ++ b).map tD) [.d x, .d yd, s2, s3]).seq (Rf.execs Φ F [.ret (.con (.bool false))]) = .ret (.bool (br b))
  | [], [], _, _, _, s2, s3 => by simp [forL_nil, br]
  | [], t :: r, _, hb, hc, s2, s3 => by
    have h1 := hb t (List.mem_cons_self ..)
    have h2 := hc t (List.mem_cons_self ..)
    have hbd : bindT tgB (tD t) [.d x, .d yd, s2, s3] = some [.d x, .d yd, .d (.int t.1), .d t.2.2] := rfl
    have s0 : sgn ((t.2.1 : Int) - (y : Int)) < 0 := by unfold sgn; rw [if_neg (by omega), if_pos (by omega)]; decide
    rw [List.nil_append, List.map_cons, forL_cons hbd]
    have hbody : Rf.execs Φ F b18_1 [.d x, .d yd, .d (.int t.1), .d t.2.2] = .ret (.bool (decide (t.1 < 0))) := by
      simp [b18_1, h2, s0]
    rw [hbody]
    rfl
  | t :: a, b, ha, hb, hc, s2, s3 => by
    have h1 := ha t (List.mem_cons_self ..)
    have h2 := hc t (List.mem_cons_self ..)
    have hbd : bindT tgB (tD t) [.d x, .d yd, s2, s3] = some [.d x, .d yd, .d (.int t.1), .d t.2.2] := rfl
    have s0 : ¬ sgn ((t.2.1 : Int) - (y : Int)) < 0 := by unfold sgn; split; decide; split; omega; decide
    rw [List.cons_append, List.map_cons, forL_cons hbd]
    have hbody : Rf.execs Φ F b18_1 [.d x, .d yd, .d (.int t.1), .d t.2.2] = .nx [.d x, .d yd, .d (.int t.1), .d t.2.2] := by
      simp [b18_1, h2, s0]
    rw [hbody, Out.turn_nx]
    exact isb_loop (fun u hu => ha u (List.mem_cons_of_mem _ hu)) hb (fun u hu => hc u (List.mem_cons_of_mem _ hu)) _ _
theorem isb_ok {yd : Rf.D} {y : Nat} {a b : List T3} (ha : ∀ t ∈ a, y ≤ t.2.1) (hb : ∀ t ∈ b, t.2.1 < y) (hc : ∀ t ∈ a ++ b, phi TB F n 2 [t.2.2, yd] = .ok (.int (sgn ((t.2.1 : Int) - (y : Int))))) : phi TB F (n + 1) 18 [.tuple ((a ++ b).map tD), yd] = .ok (.bool (br b)) := by
  refine (phi_succ rfl).trans (run_ret rfl ?_)
  have := isb_loop (Φ := phi TB F n) (F := F) (x := .tuple ((a ++ b).map tD)) ha hb hc .un .un
  show Rf.execs _ F b18 [.d (.tuple ((a ++ b).map tD)), .d yd, .un, .un] = _
  rw [b18, x_cons, x_for, es_cons, es_nil, e_var]
  simp only [List.getElem?_cons_zero, varK_d, Res.bind_ok, srcK_t, Out.ofR_ok]
  exact this
/-- a comprehension over terms, with a condition -/
theorem comp_filter {E : Exp} {ifs : List Exp} {t : Tgt} {e : Sl} {ts : List T3} (p : T3 → Bool) (h : T3 → Rf.D) (hw : wipeS e t.ix = e) (hf : Rf.freeOf e t.ix = true) (hl : ts.length ≤ 900000) (hh : ∀ u ∈ ts, ∃ e1, bindT t (tD u) e = some e1 ∧ evt Φ ifs e1 = .ok (p u) ∧ (p u = true → ev Φ E e1 = .ok (h u))) :
    compK Φ E t ifs e (ts.map tD) = .ok (.list ((ts.filter p).map h)) := by
  have hc : ∀ us : List T3, (∀ u ∈ us, ∃ e1, bindT t (tD u) e = some e1 ∧ evt Φ ifs e1 = .ok (p u) ∧ (p u = true → ev Φ E e1 = .ok (h u))) → compL (ev Φ E) (evt Φ ifs) t (us.map tD) e = .ok ((us.filter p).map h) := by
    intro us
    induction us with
    | nil => intro _; simp only [List.map_nil, compL, List.filter_nil]
    | cons u r ih =>
      intro hh
      obtain ⟨e1, a, b, c⟩ := hh u (List.mem_cons_self ..)
      have ih := ih fun w hw => hh w (List.mem_cons_of_mem _ hw)
      cases q : p u with
      | true =>
        rw [List.filter_cons_of_pos q]
        simp only [List.map_cons, compL, a, b, q, Res.bind_ok, if_true, c q, ih]
      | false =>
        rw [List.filter_cons_of_neg (by rw [q]; decide)]
        simp only [List.map_cons, compL, a, b, q, Res.bind_ok, Bool.false_eq_true, if_false, ih]
  have hz : decide (((ts.filter p).map h).length ≤ line) = true := decide_eq_true (by rw [List.length_map]; have := List.length_filter_le p ts; unfold line; omega)
  have hz2 : decide ((ts.map tD).length ≤ line) = true := decide_eq_true (by rw [List.length_map]; unfold line; omega)
  unfold compK
  rw [hw, hc ts hh, hf]
  first
    | (rw [hz2]; rfl)
    | (rw [hz]; rfl)
theorem filt_split {y : Nat} {a b : List T3} (ha : ∀ t ∈ a, y ≤ t.2.1) (hb : ∀ t ∈ b, t.2.1 < y) : (a ++ b).filter (fun t => decide (y ≤ t.2.1)) = a := by
  rw [List.filter_append, List.filter_eq_self.mpr fun t ht => by simpa using ha t ht, List.filter_eq_nil_iff.mpr fun t ht => by have := hb t ht; simp; omega, List.append_nil]
/-- the difference, as a value -/
noncomputable def subD (F k : Nat) (yd x : Rf.D) : Rf.D := match phi TB F k 16 [x, yd] with
  | .ok z => z
  | _ => .none
theorem cmp_term (hn : 7 ≤ n) {x yd : Rf.D} {e y : Nat} (hx : Fm x (e : Nat)) (hd : x.depth ≤ 13) (hy : Fm yd (y : Nat)) : phi TB F n 2 [x, yd] = .ok (.int (sgn ((e : Int) - (y : Int)))) := compare_ok n hx hy (by omega) (by omega)
theorem from_m1 (hF : 20000 ≤ F) : ∃ x, phi TB F (n + 7) 8 [.int (-1)] = .ok x ∧ Fm x (-1) := by
  obtain ⟨x, h1, h2, _⟩ := c_from (F := F) (n := n) (by omega) (p := -1) (by have := two_pos 3000; generalize (2 : Int) ^ 3000 = g at *; omega) (by have := two_pos 3000; generalize (2 : Int) ^ 3000 = g at *; omega)
  exact ⟨x, h1, h2⟩
theorem abs_div {v P Q : Int} (hP : 1 ≤ P) (h1 : -Q ≤ v) (h2 : v ≤ Q) (h0 : 0 ≤ Q) : -Q ≤ v / P ∧ v / P ≤ Q := by
  constructor
  · rw [Int.le_ediv_iff_mul_le (by omega)]
    have : Q * 1 ≤ Q * P := Int.mul_le_mul_of_nonneg_left hP h0
    rw [Int.neg_mul]; omega
  · refine Int.le_trans (Int.ediv_le_ediv (by omega) h2) (Int.ediv_le_self _ h0)
theorem floored_ok (hF : 20000 ≤ F) {x yd : Rf.D} {v : Int} {y : Nat} (hx : Big x v) (hv : -(2 ^ 2899) ≤ v ∧ v ≤ 2 ^ 2899) (hy : Fm yd (y : Nat)) (hy2 : y ≤ 90000) : ∃ z, phi TB F (n + 40) 19 [x, yd] = .ok z ∧ Fm z (v / 2 ^ y) := by
  obtain ⟨ts, rfl, hvv, nf, fs, l1⟩ := hx.ts
  obtain ⟨a, b, rfl, ha, hb⟩ := nf_split y nf
  have fv := floor_val nf ha hb
  rw [← hvv] at fv
  have ib := isb_ok (F := F) (n := n + 38) ha hb fun t ht => cmp_term (by omega) (fs t ht).1 (fs t ht).2.2 hy
  have ib : phi TB F (n + 39) 18 [.tuple ((a ++ b).map tD), yd] = .ok (.bool (br b)) := ib
  have sub : ∀ t ∈ a, phi TB F (n + 39) 16 [t.2.2, yd] = .ok (subD F (n + 39) yd t.2.2) ∧ Fm (subD F (n + 39) yd t.2.2) ((t.2.1 - y : Nat) : Int) := fun t ht => by
    obtain ⟨f1, f2, f3⟩ := fs t (List.mem_append.mpr (.inl ht))
    have := ha t ht
    obtain ⟨z, hz, fz⟩ := minus_ok (F := F) (n := n + 8) hF f1 hy ⟨by omega, by omega⟩ ⟨by omega, by omega⟩
    have hz : phi TB F (n + 39) 16 [t.2.2, yd] = .ok z := hz
    have e : subD F (n + 39) yd t.2.2 = z := by unfold subD; rw [hz]
    rw [e, hz]
    exact ⟨rfl, by rw [show ((t.2.1 - y : Nat) : Int) = (t.2.1 : Int) - (y : Int) by omega]; exact fz⟩
  have cm := comp_filter (Φ := phi TB F (n + 39)) (E := x19_1) (ifs := y19_2) (t := tgF) (e := [.d (.tuple ((a ++ b).map tD)), .d yd, .un, .un, .un]) (ts := a ++ b) (fun t => decide (y ≤ t.2.1)) (fun t => tD (t.1, t.2.1 - y, subD F (n + 39) yd t.2.2)) rfl rfl (by omega) fun u hu => by
    have c := cmp_term (F := F) (n := n + 39) (by omega) (fs u hu).1 (fs u hu).2.2 hy
    refine ⟨[.d (.tuple ((a ++ b).map tD)), .d yd, .un, .d (.int u.1), .d u.2.2], rfl, ?_, fun hp => ?_⟩
    · have s0 : decide (0 ≤ sgn ((u.2.1 : Int) - (y : Int))) = decide (y ≤ u.2.1) := by
        unfold sgn
        by_cases q : y ≤ u.2.1
        · rw [decide_eq_true q]; split; rfl; split; omega; rfl
        · rw [decide_eq_false q, if_neg (by omega), if_pos (by omega)]; rfl
      refine et_one ?_
      rw [← s0]
      simp [c, -List.map_append]
    · have hp : y ≤ u.2.1 := by simpa using hp
      have hm : u ∈ a := by
        rcases List.mem_append.mp hu with h | h
        · exact h
        · have := hb u h; omega
      simp [x19_1, (sub u hm).1, -List.map_append]
      rfl
  rw [filt_split ha hb] at cm
  have mm : a.map (fun t => tD (t.1, t.2.1 - y, subD F (n + 39) yd t.2.2)) = (a.map fun t => ((t.1, t.2.1 - y, subD F (n + 39) yd t.2.2) : T3)).map tD := by rw [List.map_map]; rfl
  have mt : (a.map fun t => ((t.1, t.2.1 - y, subD F (n + 39) yd t.2.2) : T3)).map tm = (a.map tm).map (dnT y) := by rw [List.map_map, List.map_map]; rfl
  have fm : Fm (.tuple ((a.map fun t => ((t.1, t.2.1 - y, subD F (n + 39) yd t.2.2) : T3)).map tD)) (val ((a.map tm).map (dnT y))) := by
    rw [← mt]
    refine Fm.mk _ ?_ fun t ht => ?_
    · rw [mt]
      rw [List.map_append] at nf
      exact nf_dn (nf_app nf).1 fun t ht => by
        obtain ⟨u, hu, rfl⟩ := List.mem_map.mp ht
        exact ha u hu
    · obtain ⟨u, hu, rfl⟩ := List.mem_map.mp ht
      exact (sub u hu).2
  rw [mm] at cm
  have ln : (a.map fun t => ((t.1, t.2.1 - y, subD F (n + 39) yd t.2.2) : T3)).length ≤ 240 := by
    rw [List.length_map]
    rw [List.length_append] at l1
    omega
  generalize hL : (a.map fun t => ((t.1, t.2.1 - y, subD F (n + 39) yd t.2.2) : T3)) = L at *
  have ab := abs_div (v := v) (P := 2 ^ y) (Q := 2 ^ 2899) (by have := two_pos y; omega) hv.1 hv.2 (by have := two_pos 2899; omega)
  generalize val ((a.map tm).map (dnT y)) = w at *
  cases hbr : br b with
  | true =>
    rw [hbr, if_pos rfl] at fv
    have e29 : (2 : Int) ^ 2900 = 2 * 2 ^ 2899 := by rw [show 2900 = 2899 + 1 from rfl, Int.pow_succ, Int.mul_comm]
    have P := two_pos 2899
    have bg : Big (.tuple (L.map tD)) w := ⟨fm, by simp only [tl, List.length_map]; exact ln, by rw [e29]; generalize (2 : Int) ^ 2899 = g at *; omega, by rw [e29]; generalize (2 : Int) ^ 2899 = g at *; omega⟩
    obtain ⟨m1, hm1, fm1⟩ := from_m1 (F := F) (n := n + 32) hF
    obtain ⟨z, hz, fz⟩ := plus_ok (n := n + 9) hF bg (Sml.big fm1 ⟨by decide, by decide⟩)
    rw [← fv] at fz
    refine ⟨z, (phi_succ rfl).trans (run_ret rfl ?_), fz⟩
    have hm1 : phi TB F (n + 39) 8 [.int (-1)] = .ok m1 := hm1
    have hz : phi TB F (n + 39) 15 [.tuple (L.map tD), m1] = .ok z := hz
    rw [hbr] at ib
    show Rf.execs _ F b19 [.d (.tuple ((a ++ b).map tD)), .d yd, .un, .un, .un] = _
    simp only [b19, x_cons, x_asg, e_comp, es_cons, es_nil, e_var, List.getElem?_cons_zero, varK_d, Res.bind_ok, srcK_t, cm, Out.ofR_ok]
    simp [ib, hm1, hz, -List.map_append]
  | false =>
    rw [hbr, if_neg (by decide), Int.add_zero] at fv
    rw [← fv] at fm
    refine ⟨_, (phi_succ rfl).trans (run_ret rfl ?_), fm⟩
    rw [hbr] at ib
    show Rf.execs _ F b19 [.d (.tuple ((a ++ b).map tD)), .d yd, .un, .un, .un] = _
    simp only [b19, x_cons, x_asg, e_comp, es_cons, es_nil, e_var, List.getElem?_cons_zero, varK_d, Res.bind_ok, srcK_t, cm, Out.ofR_ok]
    simp [ib, -List.map_append]
end
end My

set_option Elab.async false
set_option linter.all false
set_option maxRecDepth 100000
set_option maxHeartbeats 1000000
namespace My
open PySem PySem.Spec PyProof.Rows L2 Rf
/-! ### few powers and a small rest -/
abbrev Sg (L : List Tm) : Prop := ∀ t ∈ L, (t.1 = 1 ∨ t.1 = -1) ∧ t.2 < 2800
theorem val_neg : ∀ {L : List Tm}, val (L.map fun t => (-t.1, t.2)) = -val L
  | [] => rfl
  | t :: r => by
    simp only [List.map_cons, val, val_neg (L := r), Int.neg_mul]; omega
theorem Pw.neg {v : Int} (h : Pw v) : Pw (-v) := by
  obtain ⟨L, r, h1, h2, h3, h4, h5⟩ := h
  refine ⟨L.map fun t => (-t.1, t.2), -r, by rw [val_neg]; omega, by rw [List.length_map]; exact h2, fun t ht => ?_, by omega, by omega⟩
  obtain ⟨u, hu, rfl⟩ := List.mem_map.mp ht
  obtain ⟨a, b⟩ := h3 u hu
  exact ⟨by show -u.1 = 1 ∨ -u.1 = -1; omega, b⟩
theorem few_val : ∀ {L : List Tm}, Sg L → Few (val L) L.length 0
  | [], _ => few0
  | t :: r, h => by
    have ih := few_val (L := r) fun u hu => h u (List.mem_cons_of_mem _ hu)
    have := ih.pow (p := t.2) (h t (List.mem_cons_self ..)).1
    simp only [val, List.length_cons]
    rw [Int.add_comm]
    exact this
theorem Pw.few {v : Int} (h : Pw v) : ∃ k, k ≤ 5 ∧ Few v k 20 := by
  obtain ⟨L, r, rfl, h2, h3, h4, h5⟩ := h
  exact ⟨L.length, h2, (few_val h3).rest h4 h5⟩
theorem val_bd {p : Nat} : ∀ {L : List Tm}, (∀ t ∈ L, (t.1 = 1 ∨ t.1 = -1) ∧ t.2 ≤ p) → -((L.length : Int) * 2 ^ p) ≤ val L ∧ val L ≤ (L.length : Int) * 2 ^ p
  | [], _ => by simp [val]
  | t :: r, h => by
    have ih := val_bd (p := p) (L := r) fun u hu => h u (List.mem_cons_of_mem _ hu)
    obtain ⟨a, b⟩ := h t (List.mem_cons_self ..)
    have m := two_mono b
    have P := two_pos t.2
    have e : ((t :: r).length : Int) * 2 ^ p = (r.length : Int) * 2 ^ p + 2 ^ p := by rw [List.length_cons, Int.natCast_add, Int.add_mul]; omega
    rw [e]
    simp only [val]
    generalize (r.length : Int) * 2 ^ p = z at *
    generalize (2 : Int) ^ p = g at *
    generalize (2 : Int) ^ t.2 = g2 at *
    rcases a with a | a <;> rw [a] <;> omega
theorem Pw.bd {v : Int} (h : Pw v) : -(2 ^ 2803) ≤ v ∧ v ≤ 2 ^ 2803 := by
  obtain ⟨L, r, rfl, h2, h3, h4, h5⟩ := h
  have b := val_bd (p := 2800) fun t ht => ⟨(h3 t ht).1, Nat.le_of_lt (h3 t ht).2⟩
  have e3 := two_add 2800 3
  rw [show (2 : Int) ^ 3 = 8 from rfl] at e3
  have := two_mono (i := 10) (j := 2800) (by decide)
  rw [show (2803 : Nat) = 2800 + 3 from rfl, e3]
  generalize (2 : Int) ^ 2800 = G at *
  have : (L.length : Int) * G ≤ 5 * G := Int.mul_le_mul_of_nonneg_right (by omega) (by omega)
  constructor <;> omega
theorem val_parts {q : Nat} : ∀ {L : List Tm}, val L = val ((L.filter fun t => decide (q ≤ t.2)).map (dnT q)) * 2 ^ q + val (L.filter fun t => decide (t.2 < q))
  | [] => by simp [val]
  | t :: r => by
    have ih := val_parts (q := q) (L := r)
    by_cases e : q ≤ t.2
    · rw [List.filter_cons_of_pos (by simpa using e), List.filter_cons_of_neg (by simp; omega)]
      have e2 : (2 : Int) ^ t.2 = 2 ^ (t.2 - q) * 2 ^ q := by rw [← two_add, show t.2 - q + q = t.2 by omega]
      simp only [List.map_cons, val, Int.add_mul, dnT]
      rw [ih, e2, Int.mul_assoc]
      generalize val ((r.filter fun t => decide (q ≤ t.2)).map fun t => (t.1, t.2 - q)) * 2 ^ q = z1
      generalize t.1 * (2 ^ (t.2 - q) * 2 ^ q) = z2
      omega
    · rw [List.filter_cons_of_neg (by simpa using e), List.filter_cons_of_pos (by simp; omega)]
      simp only [val]
      rw [ih]
      omega
theorem Pw.shr {v : Int} (h : Pw v) (q : Nat) : Pw (v / 2 ^ q) := by
  obtain ⟨L, r, rfl, h2, h3, h4, h5⟩ := h
  have P := two_pos q
  refine ⟨(L.filter fun t => decide (q ≤ t.2)).map (dnT q), (val (L.filter fun t => decide (t.2 < q)) + r) / 2 ^ q, ?_, ?_, fun t ht => ?_, ?_⟩
  · rw [val_parts (q := q), Int.add_assoc, Int.add_comm, Int.add_mul_ediv_right _ _ (by omega), Int.add_comm]
  · rw [List.length_map]
    exact Nat.le_trans (List.length_filter_le _ _) h2
  · obtain ⟨u, hu, rfl⟩ := List.mem_map.mp ht
    obtain ⟨a, b⟩ := h3 u ((List.mem_filter.mp hu).1)
    exact ⟨a, by show u.2 - q < 2800; omega⟩
  · cases q with
    | zero =>
      have : L.filter (fun t => decide (t.2 < 0)) = [] := List.filter_eq_nil_iff.mpr fun t _ => by simp
      rw [this, Int.pow_zero, Int.ediv_one]
      simp only [val]; omega
    | succ q =>
      have b := val_bd (p := q) (L := L.filter fun t => decide (t.2 < q + 1)) fun t ht => ⟨(h3 t ((List.mem_filter.mp ht).1)).1, by have := (List.mem_filter.mp ht).2; simp at this; omega⟩
      have l := List.length_filter_le (fun t : Tm => decide (t.2 < q + 1)) L
      have Q := two_pos q
      rw [Int.pow_succ]
      have le : ((L.filter fun t => decide (t.2 < q + 1)).length : Int) * 2 ^ q ≤ 5 * 2 ^ q := Int.mul_le_mul_of_nonneg_right (by omega) (by omega)
      generalize ((L.filter fun t => decide (t.2 < q + 1)).length : Int) * 2 ^ q = z at *
      generalize val (L.filter fun t => decide (t.2 < q + 1)) = w at *
      generalize (2 : Int) ^ q = g at *
      constructor
      · rw [Int.le_ediv_iff_mul_le (by omega)]; omega
      · have := Int.ediv_le_ediv (a := w + r) (b := 20 * (g * 2)) (c := g * 2) (by omega) (by omega)
        rw [Int.mul_ediv_cancel _ (by omega)] at this
        exact this
theorem wt_val : ∀ {L : List Tm} (k : Nat) (v : Int), Sg L → wt k (v + val L) ≤ wt k v + L.length
  | [], k, v, _ => by simp [val]
  | t :: r, k, v, h => by
    have ih := wt_val (L := r) k (v + t.1 * 2 ^ t.2) fun u hu => h u (List.mem_cons_of_mem _ hu)
    have w := wt_pow t.2 k v
    simp only [val, List.length_cons]
    rw [← Int.add_assoc]
    rcases (h t (List.mem_cons_self ..)).1 with e | e <;> rw [e] at ih ⊢
    · rw [Int.one_mul] at ih ⊢; omega
    · rw [Int.neg_mul, Int.one_mul] at ih ⊢
      rw [show v + -(2 : Int) ^ t.2 = v - 2 ^ t.2 by omega] at ih ⊢; omega
theorem Pw.wt {v : Int} (h : Pw v) (k : Nat) : wt k v ≤ 25 := by
  obtain ⟨L, r, rfl, h2, h3, h4, h5⟩ := h
  have w := wt_val k r h3
  have z : ∀ k, My.wt k 0 = 0 := by
    intro k
    induction k with
    | zero => rfl
    | succ k ih => rw [wt_even (by decide)]; exact ih
  have w2 : My.wt k r ≤ 20 := by
    by_cases hr : 0 ≤ r
    · obtain ⟨c, rfl⟩ := Int.eq_ofNat_of_zero_le hr
      have := (wt_near k 0 c).1
      rw [Int.zero_add, z] at this
      omega
    · obtain ⟨c, hc⟩ := Int.eq_ofNat_of_zero_le (show 0 ≤ -r by omega)
      have := (wt_near k 0 c).2
      rw [show (0 : Int) - c = r by omega, z] at this
      omega
  rw [Int.add_comm]
  omega
theorem tl_wt {x : Rf.D} {v : Int} (hx : Fm x v) (h1 : -(2 ^ 2899) ≤ v) (h2 : v ≤ 2 ^ 2899) : tl x = wt 2900 v := by
  obtain ⟨ts, rfl, hv, nf, fs⟩ := hx.inv
  rw [hv] at h1 h2
  have e := nf_is nf (k := 2899) h1 h2
  have q := (nfl_ok 2899 _ 0 h1 h2).ln
  rw [← e] at q
  simp only [tl, List.length_map] at q ⊢
  rw [q, hv]
theorem p2803 : (2 : Int) ^ 2803 ≤ 2 ^ 2899 := two_mono (by decide)
theorem p2899 : (2 : Int) ^ 2899 ≤ 2 ^ 2900 := two_mono (by decide)
theorem Pw.bd2 {v : Int} (h : Pw v) : -(2 ^ 2899) ≤ v ∧ v ≤ 2 ^ 2899 := by
  have b := h.bd
  have p := p2803
  generalize (2 : Int) ^ 2803 = g at *
  generalize (2 : Int) ^ 2899 = g2 at *
  omega
theorem Pw.big {x : Rf.D} {v : Int} (h : Pw v) (hx : Fm x v) : Big x v := by
  have b := h.bd2
  refine ⟨hx, ?_, ?_, ?_⟩
  · rw [tl_wt hx b.1 b.2]; have := h.wt 2900; omega
  · have p := p2899
    generalize (2 : Int) ^ 2900 = g at *
    generalize (2 : Int) ^ 2899 = g2 at *
    omega
  · have p := p2899
    generalize (2 : Int) ^ 2900 = g at *
    generalize (2 : Int) ^ 2899 = g2 at *
    omega
/-! ### sizes -/
theorem big2_all : (List.range 2843).all (fun e => decide (szt 15 e 0 ≤ 38)) = true := by decide +kernel
theorem low2_all : (List.range 47).all (fun e => decide (szt 15 e 0 ≤ 16)) = true := by decide +kernel
theorem sz_big2 {e : Nat} (h : e ≤ 2842) : SZ 5 e ≤ 39 := by
  rw [SZ5 (by omega)]
  have := List.all_eq_true.mp big2_all e (List.mem_range.mpr (by omega))
  rw [decide_eq_true_eq] at this; omega
theorem sz_low2 {e : Nat} (h : e ≤ 46) : SZ 5 e ≤ 17 := by
  rw [SZ5 (by omega)]
  have := List.all_eq_true.mp low2_all e (List.mem_range.mpr (by omega))
  rw [decide_eq_true_eq] at this; omega
theorem few_sizeN {l : List Tm} (nf : Nf l) {k : Nat} (hk : k ≤ 5) (h : Few (val l) k 20) (h1 : -(2 ^ 2803) ≤ val l) (h2 : val l ≤ 2 ^ 2803) {n : Nat} (hn : n ≤ 39) : (l.map fun t => SZ 5 (t.2 + n)).sum ≤ 299 := by
  have hb := exp_le nf (k := 2803) (by have := two_pos 2803; constructor <;> omega)
  obtain ⟨a, b, rfl, na, nb, ha, hlow⟩ := nf_cut nf
  obtain ⟨B, S, j, g1, g2, g3, g4, g5⟩ := h.ex
  obtain ⟨nd, vd⟩ := nf_down na ha
  rw [val_app, vd] at g1 h1 h2
  have vb : -85 ≤ val b ∧ val b ≤ 85 := by
    cases b with
    | nil => simp [val]
    | cons t r =>
      have q := bnd nb
      have ht := hlow t (List.mem_cons_self ..)
      have := two_mono (i := t.2) (j := 6) ht
      have c6 : (2 : Int) ^ 6 = 64 := rfl
      rw [c6] at this
      generalize val (t :: r) = z at *
      generalize (2 : Int) ^ t.2 = y at *
      rcases nb.1 with e | e <;> rw [e] at q <;> omega
  have la : (a.map fun t => (t.1, t.2 - 7)).length = wt 2900 (val (a.map fun t => (t.1, t.2 - 7))) := by
    have hP := p2803
    generalize hG : (2 : Int) ^ 2803 = G at *
    generalize hH : (2 : Int) ^ 2899 = H at *
    have hG1 : 1000 ≤ G := by
      have := two_mono (i := 10) (j := 2803) (by decide)
      rw [hG] at this
      omega
    have b1 : -(2 ^ 2899) ≤ val (a.map fun t => (t.1, t.2 - 7)) := by rw [hH]; omega
    have b2 : val (a.map fun t => (t.1, t.2 - 7)) ≤ 2 ^ 2899 := by rw [hH]; omega
    have q := nfl_ok 2899 (val (a.map fun t => (t.1, t.2 - 7))) 0 b1 b2
    have e := nf_is nd b1 b2
    have := q.ln
    rw [← e] at this
    exact this
  rw [List.length_map] at la
  generalize val (a.map fun t => (t.1, t.2 - 7)) = Q at *
  generalize val b = w at *
  have near : wt 2900 Q ≤ 5 := by
    by_cases hc : B ≤ Q
    · obtain ⟨c, hc⟩ := Int.eq_ofNat_of_zero_le (show 0 ≤ Q - B by omega)
      have := (wt_near 2900 B c).1
      rw [show B + (c : Int) = Q by omega] at this
      omega
    · obtain ⟨c, hc⟩ := Int.eq_ofNat_of_zero_le (show 0 ≤ B - Q by omega)
      have := (wt_near 2900 B c).2
      rw [show B - (c : Int) = Q by omega] at this
      omega
  have sa := sum_le (f := fun t => SZ 5 (t.2 + n)) (c := 39) (l := a) fun t ht => sz_big2 (by have := hb t (List.mem_append.mpr (.inl ht)); omega)
  have sb := sum_le (f := fun t => SZ 5 (t.2 + n)) (c := 17) (l := b) fun t ht => sz_low2 (by have := hlow t ht; omega)
  have lb : b.length ≤ 4 := by
    cases b with
    | nil => simp
    | cons t r =>
      have := len_low nb
      have := hlow t (List.mem_cons_self ..)
      simp only [List.length_cons]; omega
  rw [List.map_append, List.sum_append]
  omega
end My

set_option Elab.async false
set_option linter.all false
set_option maxRecDepth 100000
set_option maxHeartbeats 1000000
namespace My
open PySem PySem.Spec PyProof.Rows L2 Rf
section
variable {Φ : FT} {F n : Nat}
def upT (n : Nat) (t : Tm) : Tm := (t.1, t.2 + n)
theorem val_up {n : Nat} : ∀ {a : List Tm}, val (a.map (upT n)) = val a * 2 ^ n
  | [] => by simp [val]
  | t :: r => by
    simp only [List.map_cons, val, Int.add_mul, val_up (a := r), upT]
    rw [two_add, Int.mul_assoc]
theorem nf_up {n : Nat} : ∀ {a : List Tm}, Nf a → Nf (a.map (upT n))
  | [], _ => trivial
  | t :: r, nf => by
    refine ⟨nf.1, fun u hu => ?_, nf_up nf.2.2⟩
    cases r with
    | nil => simp at hu
    | cons w r =>
      have hu : upT n w = u := by simpa using hu
      subst hu
      have := nf.2.1 w rfl
      show w.2 + n + 2 ≤ t.2 + n
      omega
theorem sz_terms {us : List T3} (h : ∀ t ∈ us, szD t.2.2 = SZ 5 t.2.1) : (us.map fun t => szD t.2.2).sum = ((us.map tm).map fun t => SZ 5 t.2).sum := by
  induction us with
  | nil => rfl
  | cons t r ih =>
    simp only [List.map_cons, List.sum_cons]
    rw [h t (List.mem_cons_self ..), ih fun u hu => h u (List.mem_cons_of_mem _ hu)]
    rfl
theorem pow_shift {v : Int} (h : -(2 ^ 2803) ≤ v ∧ v ≤ 2 ^ 2803) {n : Nat} (hn : n ≤ 39) : -(2 ^ 2842) ≤ v * 2 ^ n ∧ v * 2 ^ n ≤ 2 ^ 2842 := by
  have P := two_pos n
  have e := two_add 2803 n
  have m := two_mono (i := 2803 + n) (j := 2842) (by omega)
  have a := Int.mul_le_mul_of_nonneg_right h.1 (show 0 ≤ (2 : Int) ^ n by omega)
  have b := Int.mul_le_mul_of_nonneg_right h.2 (show 0 ≤ (2 : Int) ^ n by omega)
  rw [Int.neg_mul] at a
  rw [← e] at a b
  generalize v * 2 ^ n = z at *
  generalize (2 : Int) ^ (2803 + n) = g at *
  generalize (2 : Int) ^ 2842 = g2 at *
  omega
theorem size_pw {v : Int} (h : Pw v) {n : Nat} (hn : n ≤ 39) {x : Rf.D} (hx : Fm x (v * 2 ^ n)) : szD x ≤ 300 ∧ x.depth ≤ 13 := by
  have b := pow_shift h.bd hn
  have d : x.depth ≤ 13 := by
    have m := two_mono (i := 2842) (j := 10000) (by decide)
    refine dep13 hx ?_ ?_
    · generalize (2 : Int) ^ 2842 = g at *
      generalize (2 : Int) ^ 10000 = g2 at *
      omega
    · generalize (2 : Int) ^ 2842 = g at *
      generalize (2 : Int) ^ 10000 = g2 at *
      omega
  refine ⟨?_, d⟩
  obtain ⟨ts, rfl, hv, nf, fs⟩ := hx.inv
  have b2 := h.bd2
  have q : NfOk 2900 v 0 := nfl_ok 2899 v 0 b2.1 b2.2
  have vq : val (nfl 2900 v 0) = v := by have := q.vl; rw [Int.pow_zero, Int.mul_one] at this; exact this
  have e : ts.map tm = (nfl 2900 v 0).map (upT n) := val_eq nf (nf_up q.nf) (by rw [val_up, vq, hv])
  obtain ⟨k, hk, few⟩ := h.few
  have bd := h.bd
  have fw := few_sizeN q.nf hk (by rw [vq]; exact few) (by rw [vq]; exact bd.1) (by rw [vq]; exact bd.2) hn
  have hb := exp_le nf (k := 2842) (by rw [← hv]; exact ⟨b.2, b.1⟩)
  have e2 := sz_terms (us := ts) fun t ht => by
    have dp := dep_all ht
    simp only [PyData.depth] at d
    have := hb (tm t) (List.mem_map.mpr ⟨t, ht, rfl⟩)
    have : t.2.1 ≤ 2842 := this
    exact sz_fm 5 (fs t ht) (by omega) (by omega)
  rw [e, List.map_map] at e2
  have e3 : ((nfl 2900 v 0).map ((fun t : Tm => SZ 5 t.2) ∘ upT n)) = (nfl 2900 v 0).map fun t => SZ 5 (t.2 + n) := rfl
  rw [e3] at e2
  simp only [szD, szL_map, e2]
  omega
theorem size_pw0 {v : Int} (h : Pw v) {x : Rf.D} (hx : Fm x v) : szD x ≤ 300 ∧ x.depth ≤ 13 := size_pw h (n := 0) (by decide) (by rw [Int.pow_zero, Int.mul_one]; exact hx)
theorem allowed_pw {v : Int} (h : Pw v) {x : Rf.D} (hx : Fm x v) : phi TB F (n + 9) 10 [x] = .ok x := by
  have s := size_pw0 h hx
  have b := h.bd
  have m := two_mono (i := 2803) (j := 3000) (by decide)
  exact c_allowed hx (by generalize (2 : Int) ^ 2803 = g at *; generalize (2 : Int) ^ 3000 = g2 at *; omega) (by generalize (2 : Int) ^ 2803 = g at *; generalize (2 : Int) ^ 3000 = g2 at *; omega) s.2 s.1
theorem c_ofS (hF : 20000 ≤ F) {v : Int} (h : Pw v) {k : Nat} (hk : k ≤ 39) : ∃ x, phi TB F (n + 10) 11 [.int (v * 2 ^ k)] = .ok x ∧ Fm x (v * 2 ^ k) ∧ x.depth ≤ 13 := by
  have b := pow_shift h.bd hk
  have m := two_mono (i := 2842) (j := 3000) (by decide)
  have m2 := two_mono (i := 2842) (j := 2899) (by decide)
  obtain ⟨x, x1, x2, x3⟩ := c_from (F := F) (n := n + 2) (by omega) (p := v * 2 ^ k) (by generalize (2 : Int) ^ 2842 = g at *; generalize (2 : Int) ^ 3000 = g2 at *; omega) (by generalize (2 : Int) ^ 2842 = g at *; generalize (2 : Int) ^ 3000 = g2 at *; omega)
  have s := size_pw h hk x2
  exact ⟨x, c_of x1 x2 (by generalize (2 : Int) ^ 2842 = g at *; generalize (2 : Int) ^ 2899 = g2 at *; omega) (by generalize (2 : Int) ^ 2842 = g at *; generalize (2 : Int) ^ 2899 = g2 at *; omega) s.2 s.1, x2, s.2⟩
theorem c_ofP (hF : 20000 ≤ F) {v : Int} (h : Pw v) : ∃ x, phi TB F (n + 10) 11 [.int v] = .ok x ∧ Fm x v ∧ x.depth ≤ 13 := by
  have := c_ofS (n := n) hF h (k := 0) (by decide)
  rw [Int.pow_zero, Int.mul_one] at this
  exact this
/-! ### places -/
theorem place_ok {yd : Rf.D} {y : Nat} (hy : Fm yd (y : Nat)) : phi TB F (n + 2) 17 [yd] = .ok .none := by
  have s := c_signof (F := F) (n := n) hy
  have s0 : ¬ sgn ((y : Nat) : Int) < 0 := by unfold sgn; split; decide; split; omega; decide
  refine (phi_succ rfl).trans (run_nx (e := [.d yd]) rfl ?_)
  simp [b17, s, s0]
theorem place_bad {yd : Rf.D} {y : Int} (hy : Fm yd y) (h : y < 0) : phi TB F (n + 2) 17 [yd] = .ex 1 := by
  have s := c_signof (F := F) (n := n) hy
  have s0 : sgn y < 0 := by unfold sgn; rw [if_neg (by omega), if_pos h]; decide
  refine (phi_succ rfl).trans (run_ex (e := [.d yd]) rfl ?_)
  simp [b17, s, s0]
theorem floor_shift_ok (hF : 20000 ≤ F) {x yd : Rf.D} {v : Int} {y : Nat} (hp : Pw v) (hx : Fm x v) (hy : Fm yd (y : Nat)) (hy2 : y ≤ 90000) : ∃ z, phi TB F (n + 41) 20 [x, yd] = .ok z ∧ Fm z (v / 2 ^ y) := by
  obtain ⟨z, hz, fz⟩ := floored_ok (n := n) hF (hp.big hx) hp.bd2 hy hy2
  have al := allowed_pw (F := F) (n := n + 31) (hp.shr y) fz
  have ck := place_ok (F := F) (n := n + 38) hy
  have al : phi TB F (n + 40) 10 [z] = .ok z := al
  have ck : phi TB F (n + 40) 17 [yd] = .ok .none := ck
  refine ⟨z, (phi_succ rfl).trans (run_ret rfl ?_), fz⟩
  simp [b20, x_expr, ck, hz, al]
theorem digit_ok (hF : 20000 ≤ F) {x yd : Rf.D} {v : Int} {y : Nat} (hx : Big x v) (hy : Fm yd (y : Nat)) : phi TB F (n + 10) 21 [x, yd] = .ok (.int (v / 2 ^ y % 2)) := by
  obtain ⟨ts, rfl, hvv, nf, fs, l1⟩ := hx.ts
  obtain ⟨a, b, rfl, ha, hb⟩ := nf_split y nf
  have fv := floor_val nf ha hb
  have nfa : Nf (a.map tm) := by rw [List.map_append] at nf; exact (nf_app nf).1
  have dv := dig_val nfa ha
  rw [← hvv] at fv
  have ib := isb_ok (F := F) (n := n + 8) ha hb fun t ht => cmp_term (by omega) (fs t ht).1 (fs t ht).2.2 hy
  have ib : phi TB F (n + 9) 18 [.tuple ((a ++ b).map tD), yd] = .ok (.bool (br b)) := ib
  have cm := comp_filter (Φ := phi TB F (n + 9)) (E := x21_1) (ifs := y21_2) (t := tgF) (e := [.d (.tuple ((a ++ b).map tD)), .d yd, .un, .un, .un]) (ts := a ++ b) (fun t => decide (t.2.1 = y)) (fun t => t.2.2) rfl rfl (by omega) fun u hu => by
    obtain ⟨f1, f2, f3⟩ := fs u hu
    refine ⟨[.d (.tuple ((a ++ b).map tD)), .d yd, .un, .d (.int u.1), .d u.2.2], rfl, et_one ?_, fun hp => by simp [x21_1]⟩
    have : cmpK .eq u.2.2 yd = .ok (.bool (decide (u.2.1 = y))) := by
      by_cases e : u.2.1 = y
      · have : u.2.2 = yd := by rw [e] at f1; exact f1.uniq _ hy
        rw [← this, eqD_self f1.pl (by omega), decide_eq_true e]
      · rw [eqD_no f1.pl hy.pl (by omega) fun z => e (by rw [z] at f1; have := f1.det _ hy; omega), decide_eq_false e]
    simp [this, -List.map_append]
  have fl : (a ++ b).filter (fun t => decide (t.2.1 = y)) = a.filter fun t => decide (t.2.1 = y) := by
    have fb : b.filter (fun t => decide (t.2.1 = y)) = [] := List.filter_eq_nil_iff.mpr fun t ht => by have := hb t ht; simp; omega
    rw [List.filter_append, fb, List.append_nil]
  rw [fl] at cm
  have ln : ((a.filter fun t => decide (t.2.1 = y)).map fun t => t.2.2).length = (a.filter fun t => decide (t.2.1 = y)).length := List.length_map ..
  generalize hL : ((a.filter fun t => decide (t.2.1 = y)).map fun t => t.2.2) = L at *
  generalize (a.filter fun t => decide (t.2.1 = y)).length = c at *
  generalize val ((a.map tm).map (dnT y)) = w at *
  refine (phi_succ rfl).trans (run_ret rfl ?_)
  show Rf.execs _ F b21 [.d (.tuple ((a ++ b).map tD)), .d yd, .un, .un, .un] = _
  simp only [b21, x_cons, x_asg, e_comp, es_cons, es_nil, e_var, List.getElem?_cons_zero, varK_d, Res.bind_ok, srcK_t, cm, Out.ofR_ok]
  rw [fv]
  cases hbr : br b with
  | true =>
    rw [hbr] at ib
    simp [ib, -List.map_append, ln]
    omega
  | false =>
    rw [hbr] at ib
    simp [ib, -List.map_append, ln]
    omega
theorem digit_at_ok (hF : 20000 ≤ F) {x yd : Rf.D} {v : Int} {y : Nat} (hx : Big x v) (hy : Fm yd (y : Nat)) : phi TB F (n + 11) 22 [x, yd] = .ok (.int (v / 2 ^ y % 2)) := by
  have ck := place_ok (F := F) (n := n + 8) hy
  have ck : phi TB F (n + 10) 17 [yd] = .ok .none := ck
  have d := digit_ok (n := n) hF hx hy
  refine (phi_succ rfl).trans (run_ret rfl ?_)
  simp [b22, x_expr, ck, d]
/-! ### digits_from -/
theorem digits_ok (hF : 20000 ≤ F) {x yd : Rf.D} {v : Int} {y c : Nat} (hx : Big x v) (hy : Fm yd (y : Nat)) (hy2 : y ≤ 90000) (hc : c ≤ 64) : phi TB F (n + 40) 26 [x, yd, .int (c : Nat)] = .ok (.list ((List.range c).map fun j => .int (v / 2 ^ (y + j) % 2))) := by
  have ck := place_ok (F := F) (n := n + 37) hy
  have ck : phi TB F (n + 39) 17 [yd] = .ok .none := ck
  have r := srcK_rn (n := c) (by omega)
  have cm : compK (phi TB F (n + 39)) x26_1 (.nm 3) [] [.d x, .d yd, .d (.int (c : Nat)), .un] (rngD 0 c) = .ok (.list ((List.range c).map fun j => .int (v / 2 ^ (y + j) % 2))) := by
    have h := compL_all (e := [.d x, .d yd, .d (.int (c : Nat)), .un]) (f := ev (phi TB F (n + 39)) x26_1) (g := evt (phi TB F (n + 39)) []) (t := .nm 3) (h := fun z => match z with
      | .int j => .int (v / 2 ^ (y + j.toNat) % 2)
      | _ => .none) (fun e => et_nil) (rngD 0 c) fun z hz => by
        obtain ⟨j, hj, rfl⟩ := List.mem_map.mp hz
        rw [List.mem_range] at hj
        refine ⟨[.d x, .d yd, .d (.int (c : Nat)), .d (.int (0 + (j : Nat)))], rfl, ?_⟩
        rw [Int.zero_add]
        obtain ⟨s, hs, fs, _⟩ := c_fromN (F := F) (n := n + 32) (by omega) (p := j) (by omega)
        obtain ⟨p, hp, fp⟩ := plus_ok (n := n + 9) hF (Sml.big hy ⟨by omega, by omega⟩) (Sml.big fs ⟨by omega, by omega⟩)
        rw [show ((y : Nat) : Int) + ((j : Nat) : Int) = ((y + j : Nat) : Int) by omega] at fp
        have dg := digit_ok (n := n + 29) hF hx fp
        have hs : phi TB F (n + 39) 8 [.int (j : Nat)] = .ok s := hs
        have hp : phi TB F (n + 39) 15 [yd, s] = .ok p := hp
        have dg : phi TB F (n + 39) 21 [x, p] = .ok (.int (v / 2 ^ (y + j) % 2)) := dg
        simp [x26_1, hs, hp, dg]
    have hw : wipeS [.d x, .d yd, .d (.int (c : Nat)), .un] (Tgt.nm 3).ix = [.d x, .d yd, .d (.int (c : Nat)), .un] := rfl
    have hf : Rf.freeOf [.d x, .d yd, .d (.int (c : Nat)), .un] (Tgt.nm 3).ix = true := rfl
    have hz : decide ((rngD 0 c).length ≤ line) = true := decide_eq_true (by rw [rng_len]; unfold line; omega)
    have e : (rngD 0 c).map (fun z => match z with
      | PyData.int j => PyData.int (v / 2 ^ (y + j.toNat) % 2)
      | _ => .none) = (List.range c).map fun j => .int (v / 2 ^ (y + j) % 2) := by
      unfold rngD
      rw [List.map_map]
      refine List.map_congr_left fun j _ => ?_
      simp
    rw [e] at h
    unfold compK
    rw [hw, h, hf]
    rw [hz]
    rfl
  refine (phi_succ rfl).trans (run_ret rfl ?_)
  simp [b26, x_expr, ck, show ¬ ((c : Nat) : Int) < 0 by omega, show ¬ (64 : Int) < (c : Nat) by omega, r, cm]
end
end My

set_option Elab.async false
set_option linter.all false
set_option maxRecDepth 100000
set_option maxHeartbeats 1000000
namespace My
open PySem PySem.Spec PyProof.Rows L2 Rf
section
variable {Φ : FT} {F n : Nat}
/-! ### lengths -/
abbrev bl (v : Int) : Nat := Builtin.Int.intBits v
def av (v : Int) : Int := if v < 0 then -v else v
theorem av_nn {v : Int} : 0 ≤ av v := by unfold av; split <;> omega
theorem av_abs {v : Int} : av v = (v.natAbs : Int) := by unfold av; split <;> omega
theorem kst (k : Nat) : ((2 ^ k : Nat) : Int) = 2 ^ k := by rw [Int.natCast_pow]; rfl
theorem bl_eq {v : Int} {k : Nat} (h1 : 2 ^ k ≤ av v) (h2 : av v < 2 ^ (k + 1)) : bl v = k + 1 := by
  rw [av_abs, ← kst] at h1 h2
  have h1 : 2 ^ k ≤ v.natAbs := by omega
  have h2 : v.natAbs < 2 ^ (k + 1) := by omega
  have h3 : 0 < 2 ^ k := Nat.pow_pos (by decide)
  have h4 : v ≠ 0 := fun e => by subst e; simp at h1
  unfold bl Builtin.Int.intBits
  rw [if_neg (by simpa using h4), (Nat.log2_eq_iff (by omega)).mpr ⟨h1, h2⟩]
theorem bl_lt {v : Int} : av v < 2 ^ (bl v) := by
  rw [av_abs, ← kst]
  unfold bl Builtin.Int.intBits
  by_cases h : v = 0
  · subst h; simp
  · rw [if_neg (by simpa using h)]
    have := Nat.lt_log2_self (n := v.natAbs)
    omega
theorem bl_le {v : Int} {k : Nat} (h : av v < 2 ^ k) : bl v ≤ k := by
  rw [av_abs, ← kst] at h
  unfold bl Builtin.Int.intBits
  by_cases h0 : v = 0
  · subst h0; simp
  · rw [if_neg (by simpa using h0)]
    have := (Nat.log2_lt (n := v.natAbs) (k := k) (by omega)).mpr (by omega)
    omega
theorem bl_av {v : Int} : bl (av v) = bl v := by
  unfold bl Builtin.Int.intBits
  have e : (av v).natAbs = v.natAbs := by unfold av; split <;> omega
  rw [e]
  by_cases h : v = 0
  · subst h; rfl
  · have h2 : av v ≠ 0 := by unfold av; split <;> omega
    rw [if_neg (by simpa using h2), if_neg (by simpa using h)]
theorem top_one {t : Tm} (h : Nf [t]) : bl (val [t]) = t.2 + 1 := by
  have P := two_pos t.2
  have hv : val [t] = t.1 * 2 ^ t.2 := by simp [val]
  have e : av (val [t]) = 2 ^ t.2 := by
    rw [hv]
    unfold av
    rcases h.1 with q | q <;> rw [q] <;> split <;> omega
  exact bl_eq (by rw [e]; exact Int.le_refl _) (by rw [e, Int.pow_succ]; omega)
theorem top_two {t u : Tm} {r : List Tm} (h : Nf (t :: u :: r)) : bl (val (t :: u :: r)) = if u.1 = t.1 then t.2 + 1 else t.2 := by
  have P := two_pos t.2
  have q := bnd h.2.2
  have le := two_le (h.2.1 u rfl)
  have U := two_pos u.2
  have s := h.1
  have s2 : u.1 = 1 ∨ u.1 = -1 := h.2.2.1
  have hv : val (t :: u :: r) = t.1 * 2 ^ t.2 + val (u :: r) := rfl
  by_cases e : u.1 = t.1
  · rw [if_pos e]
    refine bl_eq ?_ ?_
    · rw [hv]; unfold av
      generalize val (u :: r) = w at *
      rw [e] at q
      generalize (2 : Int) ^ t.2 = g at *
      generalize (2 : Int) ^ u.2 = g2 at *
      rcases s with s | s <;> rw [s] at q ⊢ <;> split <;> omega
    · rw [hv, Int.pow_succ]; unfold av
      generalize val (u :: r) = w at *
      rw [e] at q
      generalize (2 : Int) ^ t.2 = g at *
      generalize (2 : Int) ^ u.2 = g2 at *
      rcases s with s | s <;> rw [s] at q ⊢ <;> split <;> omega
  · rw [if_neg e]
    obtain ⟨k, hk⟩ : ∃ k, t.2 = k + 1 := ⟨t.2 - 1, by have := h.2.1 u rfl; omega⟩
    have e2 : u.1 = -t.1 := by omega
    rw [hk]
    rw [hk, Int.pow_succ] at le hv
    refine bl_eq ?_ ?_
    · rw [hv]; unfold av
      generalize val (u :: r) = w at *
      rw [e2] at q
      generalize (2 : Int) ^ k = g at *
      generalize (2 : Int) ^ u.2 = g2 at *
      rcases s with s | s <;> rw [s] at q ⊢ <;> split <;> omega
    · rw [hv, Int.pow_succ]; unfold av
      generalize val (u :: r) = w at *
      rw [e2] at q
      generalize (2 : Int) ^ k = g at *
      generalize (2 : Int) ^ u.2 = g2 at *
      rcases s with s | s <;> rw [s] at q ⊢ <;> split <;> omega
theorem length_of_ok (hF : 20000 ≤ F) {x : Rf.D} {v : Int} (hx : Big x v) : ∃ z, phi TB F (n + 25) 23 [x] = .ok z ∧ Fm z ((bl v : Nat) : Int) := by
  obtain ⟨ts, rfl, hv, nf, fs, l1⟩ := hx.ts
  have tup1 : ∀ t : T3, idxK (tD t) (.int 1) = .ok t.2.2 := fun t => rfl
  have tup0 : ∀ t : T3, idxK (tD t) (.int 0) = .ok (.int t.1) := fun t => rfl
  match ts with
  | [] =>
    refine ⟨.tuple [], (phi_succ rfl).trans (run_ret rfl ?_), ?_⟩
    · simp [b23]
    · rw [hv]; exact fm0
  | [t] =>
    obtain ⟨f1, f2, f3⟩ := fs t (List.mem_cons_self ..)
    obtain ⟨z, hz, fz⟩ := next_ok (F := F) (by omega) 4 (by decide) (v := t.2.1) (by show t.2.1 ≤ 100000; omega) f1 (n + 24) (by omega)
    refine ⟨z, (phi_succ rfl).trans (run_ret rfl ?_), ?_⟩
    · have j0 : idxK (.tuple [tD t]) (.int 0) = .ok (tD t) := rfl
      simp [b23, j0, tup1, hz]
    · rw [hv]
      have := top_one (t := tm t) nf
      rw [show [t].map tm = [tm t] from rfl, this]
      exact fz
  | t :: u :: r =>
    obtain ⟨f1, f2, f3⟩ := fs t (List.mem_cons_self ..)
    obtain ⟨z, hz, fz⟩ := next_ok (F := F) (by omega) 4 (by decide) (v := t.2.1) (by show t.2.1 ≤ 100000; omega) f1 (n + 24) (by omega)
    have tt := top_two (t := tm t) (u := tm u) (r := r.map tm) nf
    have tt : bl (val ((t :: u :: r).map tm)) = if u.1 = t.1 then t.2.1 + 1 else t.2.1 := tt
    have j0 : idxK (.tuple ((t :: u :: r).map tD)) (.int 0) = .ok (tD t) := idx_tD (n := 0) rfl
    have j1 : idxK (.tuple ((t :: u :: r).map tD)) (.int 1) = .ok (tD u) := idx_tD (n := 1) rfl
    have ln : bltK .len [.tuple ((t :: u :: r).map tD)] = .ok (.int ((r.length + 2 : Nat) : Int)) := by rw [bltK_lenT]; simp; omega
    rw [hv, tt]
    generalize PyData.tuple ((t :: u :: r).map tD) = X at *
    have n0 : ¬ ((r.length + 2 : Nat) : Int) = 0 := by omega
    have n1 : (1 : Int) < ((r.length + 2 : Nat) : Int) := by omega
    generalize ((r.length + 2 : Nat) : Int) = m at *
    by_cases e : u.1 = t.1
    · rw [if_pos e]
      refine ⟨z, (phi_succ rfl).trans (run_ret rfl ?_), fz⟩
      simp [b23, j0, j1, ln, n0, n1, tup0, tup1, e, hz]
    · rw [if_neg e]
      refine ⟨t.2.2, (phi_succ rfl).trans (run_ret rfl ?_), f1⟩
      simp [b23, j0, j1, ln, n0, n1, tup0, tup1, e, hz]
theorem bl_bd {v : Int} (h : Pw v) : bl v ≤ 2804 := by
  have b := h.bd
  refine bl_le ?_
  have P := two_pos 2803
  rw [Int.pow_succ]
  unfold av
  generalize (2 : Int) ^ 2803 = g at *
  split <;> omega
theorem size_E {E : Nat} (h : E ≤ 2842) {x : Rf.D} (hx : Fm x (E : Nat)) : szD x ≤ 300 ∧ x.depth ≤ 13 := by
  have d := depN hx (by omega)
  have : x.depth ≤ 11 := dep_fm (n := 5) (by decide) hx nofun (by have := two_mono (i := 12) (j := dl 5) (by decide); omega) (by have := two_pos (dl 5); omega)
  have := sz_big2 h
  exact ⟨by rw [sz_fm 5 hx (by omega) (by omega)]; omega, by omega⟩
theorem length_ok (hF : 20000 ≤ F) {x : Rf.D} {v : Int} (hp : Pw v) (hx : Big x v) : ∃ z, phi TB F (n + 26) 24 [x] = .ok z ∧ Fm z ((bl v : Nat) : Int) := by
  obtain ⟨z, hz, fz⟩ := length_of_ok (n := n) hF hx
  have b := bl_bd hp
  have s := size_E (by omega) fz
  have m := two_mono (i := 12) (j := 3000) (by decide)
  have al := c_allowed (F := F) (n := n + 16) fz (by generalize (2 : Int) ^ 3000 = g at *; omega) (by generalize (2 : Int) ^ 3000 = g at *; omega) s.2 s.1
  have al : phi TB F (n + 25) 10 [z] = .ok z := al
  refine ⟨z, (phi_succ rfl).trans (run_ret rfl ?_), fz⟩
  simp [b24, hz, al]
theorem magnitude_ok {x : Rf.D} {v : Int} (hx : Big x v) : ∃ z, phi TB F (n + 2) 30 [x] = .ok z ∧ Big z (av v) := by
  have s := c_signof (F := F) (n := n) hx.fm
  have s : phi TB F (n + 1) 3 [x] = .ok (.int (sgn v)) := s
  by_cases h : v < 0
  · obtain ⟨z, hz, bz⟩ := neg_ok (F := F) (n := n) hx
    have s0 : sgn v < 0 := by unfold sgn; rw [if_neg (by omega), if_pos h]; decide
    refine ⟨z, (phi_succ rfl).trans (run_ret rfl ?_), by unfold av; rw [if_pos h]; exact bz⟩
    simp [b30, s, s0, hz]
  · have s0 : ¬ sgn v < 0 := by unfold sgn; rw [if_neg h]; split <;> decide
    refine ⟨x, (phi_succ rfl).trans (run_ret rfl ?_), by unfold av; rw [if_neg h]; exact hx⟩
    simp [b30, s, s0]
theorem dep_big {x : Rf.D} {v : Int} (h : Big x v) : x.depth ≤ 13 := by
  have m := two_mono (i := 2900) (j := 10000) (by decide)
  have a := h.lo; have b := h.hi
  exact dep13 h.fm (by generalize (2 : Int) ^ 2900 = g at *; generalize (2 : Int) ^ 10000 = g2 at *; omega) (by generalize (2 : Int) ^ 2900 = g at *; generalize (2 : Int) ^ 10000 = g2 at *; omega)
theorem toi_ok (hF : 20000 ≤ F) {x : Rf.D} {v : Int} (hx : Fm x v) (h1 : 0 ≤ v) (h2 : v < 2 ^ 60) : phi TB F (n + 18) 13 [x] = .ok (.int v) := by
  have m := two_mono (i := 60) (j := 64) (by decide)
  have m2 := two_mono (i := 60) (j := 10000) (by decide)
  have d := dep13 hx (by generalize (2 : Int) ^ 60 = g at *; generalize (2 : Int) ^ 10000 = g2 at *; omega) (by have := two_pos 10000; generalize (2 : Int) ^ 10000 = g2 at *; omega)
  have P := two_pos 64
  exact to_ok (F := F) (by omega) 6 hx (by omega) (by omega) (by omega) (by omega) (n + 17) (by omega)
/-- what is told of the highest digits -/
def ldV (v : Int) (k : Nat) : Int := if bl v ≤ k then av v else av v / 2 ^ (bl v - k)
theorem lead_ok (hF : 20000 ≤ F) {x : Rf.D} {v : Int} (hp : Pw v) (hx : Big x v) {k : Nat} (h1 : 1 ≤ k) (h2 : k ≤ 60) : phi TB F (n + 45) 31 [x, .int (k : Nat)] = .ok (.int (ldV v k)) := by
  obtain ⟨L, hL, fL⟩ := length_of_ok (n := n + 19) hF hx
  obtain ⟨K, hK, fK, dK⟩ := c_fromN (F := F) (n := n + 37) (by omega) (p := k) (by omega)
  obtain ⟨M, hM, bM⟩ := magnitude_ok (F := F) (n := n + 42) hx
  have b := bl_bd hp
  have dL := depN fL (by omega)
  have cm : phi TB F (n + 44) 2 [L, K] = .ok (.int (sgn (((bl v : Nat) : Int) - (k : Nat)))) := compare_ok (F := F) (n + 44) fL fK (by omega) (by omega)
  have hL : phi TB F (n + 44) 23 [x] = .ok L := hL
  have hK : phi TB F (n + 44) 8 [.int (k : Nat)] = .ok K := hK
  have hM : phi TB F (n + 44) 30 [x] = .ok M := hM
  have lt := bl_lt (v := v)
  have nn := av_nn (v := v)
  have g1 : ¬ ((k : Nat) : Int) < 1 := by omega
  have g2 : ¬ (60 : Int) < ((k : Nat) : Int) := by omega
  unfold ldV
  by_cases h : bl v ≤ k
  · have s0 : ¬ 0 < sgn (((bl v : Nat) : Int) - (k : Nat)) := by unfold sgn; rw [if_neg (by omega)]; split <;> decide
    have s1 : sgn (((bl v : Nat) : Int) - (k : Nat)) ≤ 0 := by omega
    have m := two_mono (i := bl v) (j := 60) (by omega)
    have t := toi_ok (n := n + 26) hF bM.fm nn (by generalize (2 : Int) ^ 60 = g at *; generalize (2 : Int) ^ (bl v) = g2 at *; omega)
    have t : phi TB F (n + 44) 13 [M] = .ok (.int (av v)) := t
    rw [if_pos h]
    refine (phi_succ rfl).trans (run_ret rfl ?_)
    simp [b31, g1, g2, hL, hK, cm, s1, hM, t]
  · have s1 : ¬ sgn (((bl v : Nat) : Int) - (k : Nat)) ≤ 0 := by unfold sgn; rw [if_pos (by omega)]; decide
    obtain ⟨Y, hY, fY⟩ := minus_ok (F := F) (n := n + 13) hF fL fK ⟨by omega, by omega⟩ ⟨by omega, by omega⟩
    rw [show ((bl v : Nat) : Int) - ((k : Nat) : Int) = ((bl v - k : Nat) : Int) by omega] at fY
    have hv : -(2 ^ 2899) ≤ av v ∧ av v ≤ 2 ^ 2899 := by
      have b2 := hp.bd2
      unfold av
      generalize (2 : Int) ^ 2899 = g at *
      split <;> omega
    obtain ⟨z, hz, fz⟩ := floored_ok (n := n + 4) hF bM hv fY (by omega)
    have hY : phi TB F (n + 44) 16 [L, K] = .ok Y := hY
    have hz : phi TB F (n + 44) 19 [M, Y] = .ok z := hz
    have q := two_pos (bl v - k)
    have e := two_add k (bl v - k)
    rw [show k + (bl v - k) = bl v by omega] at e
    have m := two_mono (i := k) (j := 60) (by omega)
    have hlt : av v / 2 ^ (bl v - k) < 2 ^ 60 := by
      have : av v / 2 ^ (bl v - k) < 2 ^ k := by
        rw [Int.ediv_lt_iff_lt_mul (by omega), ← e]; exact lt
      generalize (2 : Int) ^ 60 = g at *
      generalize (2 : Int) ^ k = g2 at *
      omega
    have t := toi_ok (n := n + 26) hF fz (Int.ediv_nonneg nn (by omega)) hlt
    have t : phi TB F (n + 44) 13 [z] = .ok (.int (av v / 2 ^ (bl v - k))) := t
    rw [if_neg h]
    refine (phi_succ rfl).trans (run_ret rfl ?_)
    simp [b31, g1, g2, hL, hK, cm, s1, hM, hY, hz, t]
theorem last_ok (hF : 20000 ≤ F) {x : Rf.D} {v : Int} (hx : Big x v) {k : Nat} (h1 : 1 ≤ k) (h2 : k ≤ 4) : phi TB F (n + 40) 32 [x, .int (k : Nat)] = .ok (.int (av v % 10 ^ k)) := by
  obtain ⟨M, hM, bM⟩ := magnitude_ok (F := F) (n := n + 37) hx
  have d := dep_big bM
  have hM : phi TB F (n + 39) 30 [x] = .ok M := hM
  have key : ∃ m : Nat, 1 ≤ m ∧ m ≤ 10000 ∧ idxK (.tuple [.int 1, .int 10, .int 100, .int 1000, .int 10000]) (.int (k : Nat)) = .ok (.int (m : Nat)) ∧ ((m : Nat) : Int) = 10 ^ k := by
    match k, h1, h2 with
    | 1, _, _ => exact ⟨10, by decide, by decide, rfl, rfl⟩
    | 2, _, _ => exact ⟨100, by decide, by decide, rfl, rfl⟩
    | 3, _, _ => exact ⟨1000, by decide, by decide, rfl, rfl⟩
    | 4, _, _ => exact ⟨10000, by decide, by decide, rfl, rfl⟩
  obtain ⟨m, m1, m2, ix, me⟩ := key
  have r := c_rem (F := F) hF (N := 6) bM.fm (by omega) (by omega) m1 m2 (q := n + 38) (by omega)
  have r : phi TB F (n + 39) 29 [M, .int (m : Nat)] = .ok (.int (av v % (m : Nat))) := r
  rw [← me]
  refine (phi_succ rfl).trans (run_ret rfl ?_)
  simp [b32, show ¬ ((k : Nat) : Int) < 1 by omega, show ¬ (4 : Int) < ((k : Nat) : Int) by omega, show ¬ 4 < k by omega, show ¬ k < 1 by omega, hM, ix, r]
end
end My

set_option Elab.async false
set_option linter.all false
set_option maxRecDepth 100000
set_option maxHeartbeats 1000000
namespace My
open PySem PySem.Spec PyProof.Rows L2 Rf
section
variable {Φ : FT} {F n : Nat}
theorem val_last : ∀ {l : List Tm} {t : Tm}, Nf (l ++ [t]) → ∃ k : Int, k % 2 = 1 ∧ val (l ++ [t]) = k * 2 ^ t.2 ∧ ∀ u ∈ l ++ [t], t.2 ≤ u.2
  | [], t, h => by
    have : t.1 = 1 ∨ t.1 = -1 := h.1
    refine ⟨t.1, by omega, by simp [val], fun u hu => ?_⟩
    simp at hu
    rw [hu]
    exact Nat.le_refl _
  | w :: l, t, h => by
    obtain ⟨k, k1, k2, k3⟩ := val_last (l := l) (t := t) h.2.2
    have lt : t.2 + 2 ≤ w.2 := by
      cases l with
      | nil => exact h.2.1 t rfl
      | cons y r =>
        have := h.2.1 y rfl
        have := k3 y (List.mem_cons_self ..)
        omega
    obtain ⟨j, hj⟩ : ∃ j, w.2 = t.2 + 1 + j := ⟨w.2 - t.2 - 1, by omega⟩
    refine ⟨w.1 * (2 * 2 ^ j) + k, ?_, ?_, fun u hu => ?_⟩
    · rw [show w.1 * (2 * 2 ^ j) = 2 * (w.1 * 2 ^ j) by rw [← Int.mul_assoc, Int.mul_comm w.1 2, Int.mul_assoc]]
      omega
    · rw [List.cons_append]
      show w.1 * 2 ^ w.2 + val (l ++ [t]) = _
      rw [k2, Int.add_mul, hj, two_add, two_add, show (2 : Int) ^ 1 = 2 from rfl]
      congr 1
      rw [Int.mul_assoc (2 ^ t.2), Int.mul_comm (2 ^ t.2), ← Int.mul_assoc]
    · rcases List.mem_cons.mp hu with rfl | hu
      · omega
      · exact k3 u hu
theorem low_ok {x : Rf.D} {v : Int} (hx : Fm x v) (h0 : v ≠ 0) : ∃ (d : Rf.D) (e : Nat) (k : Int), phi TB F (n + 1) 25 [x] = .ok d ∧ Fm d (e : Nat) ∧ k % 2 = 1 ∧ v = k * 2 ^ e := by
  obtain ⟨ts, rfl, hvv, nf, fs⟩ := hx.inv
  cases hq : ts.getLast? with
  | none =>
    have : ts = [] := by simpa using hq
    subst this
    exact absurd hvv h0
  | some t =>
    obtain ⟨l0, e0⟩ := List.getLast?_eq_some_iff.mp hq
    have ht : t ∈ ts := by rw [e0]; simp
    have nf' := nf
    rw [e0, List.map_append, List.map_cons, List.map_nil] at nf'
    obtain ⟨k, k1, k2, k3⟩ := val_last nf'
    refine ⟨t.2.2, t.2.1, k, (phi_succ rfl).trans (run_ret rfl ?_), fs t ht, k1, ?_⟩
    · have ix : idxK (.tuple (ts.map tD)) (.int (-1)) = .ok (tD t) := by
        have e : idxD (.tuple (ts.map tD)) (.int (-1)) = some (tD t) := by
          show L2.atI _ _ = _
          unfold L2.atI L2.ixN
          have hl : (ts.map tD).length = l0.length + 1 := by rw [e0]; simp
          rw [hl, if_neg (by decide), if_pos (by omega)]
          show (ts.map tD)[(-1 + ((l0.length + 1 : Nat) : Int)).toNat]? = _
          rw [show (-1 + ((l0.length + 1 : Nat) : Int)).toNat = l0.length by omega, e0, List.map_append, List.getElem?_append_right (by simp)]
          simp
        rw [idxK, e]; rfl
      have i1 : idxK (tD t) (.int 1) = .ok t.2.2 := rfl
      have ln : bltK .len [.tuple (ts.map tD)] = .ok (.int (ts.length : Nat)) := by rw [bltK_lenT, List.length_map]
      have lp : ¬ ((ts.length : Nat) : Int) = 0 := by rw [e0]; simp; omega
      generalize PyData.tuple (ts.map tD) = X at *
      generalize ((ts.length : Nat) : Int) = m at *
      simp [b25, ix, i1, ln, lp]
    · rw [hvv, e0, List.map_append, List.map_cons, List.map_nil]; exact k2
theorem low_no : phi TB F (n + 1) 25 [.tuple []] = .ex 3 := by
  refine (phi_succ rfl).trans (run_ex (e := [.d (.tuple [])]) rfl ?_)
  simp [b25]
/-! ### a number and its negative -/
theorem and_low (j e : Nat) : (2 ^ (e + 1) * j + 2 ^ e) &&& (2 ^ (e + 1) * j + (2 ^ e - 1)) = 2 ^ (e + 1) * j := by
  have p : 0 < 2 ^ e := Nat.pow_pos (by decide)
  have q : 2 ^ (e + 1) = 2 * 2 ^ e := by rw [Nat.pow_succ, Nat.mul_comm]
  have h1 : 2 ^ e < 2 ^ (e + 1) := by omega
  have h2 : 2 ^ e - 1 < 2 ^ (e + 1) := by omega
  rw [Nat.two_pow_add_eq_or_of_lt h1, Nat.two_pow_add_eq_or_of_lt h2, ← Nat.or_and_distrib_left, Nat.and_two_pow_sub_one_eq_mod, Nat.mod_self, Nat.or_zero]
theorem band_low {v k : Int} {e : Nat} (hk : k % 2 = 1) (hv : v = k * 2 ^ e) : Builtin.bitAnd (av v) (-av v) = 2 ^ e := by
  have P := two_pos e
  obtain ⟨j, hj⟩ : ∃ j : Nat, av v = ((2 ^ (e + 1) * j + 2 ^ e : Nat) : Int) := by
    have key : ∃ c : Int, 0 ≤ c ∧ av v = (2 * c + 1) * 2 ^ e := by
      have hc : av v = k * 2 ^ e ∨ av v = -k * 2 ^ e := by unfold av; split; right; rw [Int.neg_mul]; omega; left; exact hv
      have nn := av_nn (v := v)
      rcases hc with hc | hc
      · refine ⟨k / 2, ?_, by rw [hc]; congr 1; omega⟩
        have : 0 ≤ k := by
          refine Int.le_of_not_gt fun lt => ?_
          have := (mul_big (c := k) P).2.2.1 (by omega)
          omega
        omega
      · refine ⟨(-k) / 2, ?_, by rw [hc]; congr 1; omega⟩
        have : 0 ≤ -k := by
          refine Int.le_of_not_gt fun lt => ?_
          have := (mul_big (c := -k) P).2.2.1 (by omega)
          omega
        omega
    obtain ⟨c, c0, hc⟩ := key
    obtain ⟨j, rfl⟩ := Int.eq_ofNat_of_zero_le c0
    refine ⟨j, ?_⟩
    rw [hc, Int.natCast_add, Int.natCast_mul, kst, kst, Int.pow_succ, Int.add_mul, Int.one_mul, Int.mul_comm 2 (j : Int), Int.mul_assoc, Int.mul_comm ((j : Nat) : Int), Int.mul_comm (2 ^ e) 2]
  have p : 0 < 2 ^ e := Nat.pow_pos (by decide)
  have a := and_low j e
  rw [hj, ← kst]
  generalize hN : 2 ^ (e + 1) * j = N at *
  generalize hE : 2 ^ e = E at *
  unfold Builtin.bitAnd
  have d1 : decide (0 ≤ ((N + E : Nat) : Int)) = true := decide_eq_true (by omega)
  have d2 : decide (0 ≤ -((N + E : Nat) : Int)) = false := decide_eq_false (by omega)
  rw [d1, d2]
  show ((N + E : Nat) : Int) - ((((N + E : Nat) : Int).toNat &&& (Builtin.bitNot (-((N + E : Nat) : Int))).toNat : Nat) : Int) = _
  have e1 : (Builtin.bitNot (-((N + E : Nat) : Int))).toNat = N + (E - 1) := by
    unfold Builtin.bitNot
    omega
  rw [e1, Int.toNat_natCast, a]
  omega
theorem bl_pow {e : Nat} : bl ((2 : Int) ^ e) = e + 1 := by
  have P := two_pos e
  have a : av ((2 : Int) ^ e) = 2 ^ e := by unfold av; rw [if_neg (by omega)]
  exact bl_eq (by rw [a]; exact Int.le_refl _) (by rw [a, Int.pow_succ]; omega)
theorem band_one {z : Int} : Builtin.bitAnd z 1 = z % 2 := by
  unfold Builtin.bitAnd
  by_cases h : 0 ≤ z
  · rw [decide_eq_true h]
    show ((z.toNat &&& 1 : Nat) : Int) = _
    rw [Nat.and_one_is_mod]
    omega
  · rw [decide_eq_false h]
    show (1 : Int) - ((1 &&& (Builtin.bitNot z).toNat : Nat) : Int) = _
    rw [Nat.and_comm, Nat.and_one_is_mod]
    unfold Builtin.bitNot
    omega
theorem abs_av {v : Int} : bltK .abs [.int v] = .ok (.int (av v)) := by rw [bltK_abs]; rfl
theorem m_bl {v : Int} : mthK .bits (.int v) [] = .ok (.int (bl v : Nat)) := rfl
theorem llow_ok {v k : Int} {e : Nat} (hk : k % 2 = 1) (hv : v = k * 2 ^ e) : phi TB F (n + 1) 36 [.int v] = .ok (.int (e : Nat)) := by
  have b := band_low hk hv
  refine (phi_succ rfl).trans (run_ret rfl ?_)
  simp [b36, abs_av, -bltK_abs, b, m_bl, bl_pow]
theorem llead_ok {v : Int} {k : Nat} : phi TB F (n + 1) 37 [.int v, .int (k : Nat)] = .ok (.int (ldV v k)) := by
  refine (phi_succ rfl).trans (run_ret rfl ?_)
  unfold ldV
  by_cases h : bl v ≤ k
  · have h2 : ((bl v : Nat) : Int) ≤ (k : Nat) := by omega
    simp only [if_pos h]
    simp [b37, abs_av, -bltK_abs, m_bl, bl_av, h2, h]
  · have h2 : ¬ ((bl v : Nat) : Int) ≤ (k : Nat) := by omega
    have sh := binK_shr (i := av v) (j := bl v - k)
    rw [show ((bl v - k : Nat) : Int) = ((bl v : Nat) : Int) - (k : Nat) by omega] at sh
    simp only [if_neg h]
    simp [b37, abs_av, -bltK_abs, m_bl, bl_av, h2, h, sh]
/-! ### refusals -/
theorem x_tri {i : Nat} {body : List Stm} {ok : List Nat} {r : List (Nat × Rf.D)} {e e2 : Sl} {c : Nat} {x : Rf.D} (h : Rf.execs Φ F body e = .ex c e2) (hr : r.lookup c = some x) (hl : i < e2.length) : Rf.exec Φ F (.tri i body ok r) e = .ret x := by
  simp only [Rf.exec, h, hr, if_pos hl]
theorem pw_small {r : Int} (h1 : -20 ≤ r) (h2 : r ≤ 20) : Pw r := ⟨[], r, by simp [val], by decide, fun t ht => by simp at ht, h1, h2⟩
theorem floor_bad {x yd : Rf.D} {y : Int} (hy : Fm yd y) (h : y < 0) : phi TB F (n + 3) 20 [x, yd] = .ex 1 := by
  have q := place_bad (F := F) (n := n) hy h
  refine (phi_succ rfl).trans (run_ex (e := [.d x, .d yd]) rfl ?_)
  simp [b20, x_expr, q]
theorem digat_bad {x yd : Rf.D} {y : Int} (hy : Fm yd y) (h : y < 0) : phi TB F (n + 3) 22 [x, yd] = .ex 1 := by
  have q := place_bad (F := F) (n := n) hy h
  refine (phi_succ rfl).trans (run_ex (e := [.d x, .d yd]) rfl ?_)
  simp [b22, x_expr, q]
theorem digs_bad {x yd : Rf.D} {y c : Int} (hy : Fm yd y) (h : y < 0) : phi TB F (n + 3) 26 [x, yd, .int c] = .ex 1 := by
  have q := place_bad (F := F) (n := n) hy h
  refine (phi_succ rfl).trans (run_ex (e := [.d x, .d yd, .d (.int c), .un]) rfl ?_)
  simp [b26, x_expr, q]
theorem digs_badc {x yd : Rf.D} {y : Nat} {c : Int} (hy : Fm yd (y : Nat)) (h : c < 0 ∨ 64 < c) : phi TB F (n + 3) 26 [x, yd, .int c] = .ex 1 := by
  have q := place_ok (F := F) (n := n) hy
  refine (phi_succ rfl).trans (run_ex (e := [.d x, .d yd, .d (.int c), .un]) rfl ?_)
  by_cases h1 : c < 0
  · simp [b26, x_expr, q, h1]
  · simp [b26, x_expr, q, h1, show 64 < c by omega]
theorem lead_bad {x : Rf.D} {k : Int} (h : k < 1 ∨ 60 < k) : phi TB F (n + 1) 31 [x, .int k] = .ex 1 := by
  refine (phi_succ rfl).trans (run_ex (e := [.d x, .d (.int k), .un]) rfl ?_)
  by_cases h1 : k < 1
  · simp [b31, h1]
  · simp [b31, h1, show 60 < k by omega]
theorem last_bad {x : Rf.D} {k : Int} (h : k < 1 ∨ 4 < k) : phi TB F (n + 1) 32 [x, .int k] = .ex 1 := by
  refine (phi_succ rfl).trans (run_ex (e := [.d x, .d (.int k)]) rfl ?_)
  by_cases h1 : k < 1
  · simp [b32, h1]
  · simp [b32, h1, show 4 < k by omega]
theorem refused_ok (hF : 20000 ≤ F) {d : Nat} {x : Int} (hd : d ≤ 5) (h0 : 0 ≤ x) (h1 : x < 1000) : phi TB F (n + 13) 38 [.int (d : Nat), .int x] = .ok (.bool true) := by
  obtain ⟨X, rfl⟩ := Int.eq_ofNat_of_zero_le h0
  obtain ⟨xn, x1, x2, x3⟩ := c_ofE (F := F) (n := n + 2) (by omega) (E := X) (by omega)
  have x1 : phi TB F (n + 12) 11 [.int (X : Nat)] = .ok xn := x1
  have hc : d = 0 ∨ d = 1 ∨ d = 2 ∨ d = 3 ∨ d = 4 ∨ d = 5 := by omega
  refine (phi_succ rfl).trans (run_ret rfl ?_)
  simp only [b38, x_cons, List.map_cons, List.map_nil, List.replicate_succ, List.replicate_zero, Nat.reduceSub, List.cons_append, List.nil_append]
  rcases hc with rfl | rfl | rfl | rfl | rfl | rfl
  · obtain ⟨y, y1, y2, _⟩ := c_ofP (F := F) (n := n + 2) hF (v := -1 - ((X : Nat) : Int) % 5) (pw_small (by omega) (by omega))
    have y1 : phi TB F (n + 12) 11 [.int (-1 - ((X : Nat) : Int) % 5)] = .ok y := y1
    have q := floor_bad (F := F) (n := n + 9) (x := xn) y2 (by omega)
    have q : phi TB F (n + 12) 20 [xn, y] = .ex 1 := q
    rw [x_tri (e2 := [.d (.int 0), .d (.int (X : Nat)), .un]) (c := 1) (x := .bool true) ?_ rfl (by simp)]
    · rfl
    · simp [x_expr, x1, y1, q]
  · obtain ⟨y, y1, y2, _⟩ := c_ofP (F := F) (n := n + 2) hF (v := -1) (pw_small (by omega) (by omega))
    have y1 : phi TB F (n + 12) 11 [.int (-1)] = .ok y := y1
    have q := digat_bad (F := F) (n := n + 9) (x := xn) y2 (by omega)
    have q : phi TB F (n + 12) 22 [xn, y] = .ex 1 := q
    rw [x_tri (e2 := [.d (.int 1), .d (.int (X : Nat)), .un]) (c := 1) (x := .bool true) ?_ rfl (by simp)]
    · rfl
    · simp [x_expr, x1, y1, q]
  · obtain ⟨y, y1, y2, _⟩ := c_ofP (F := F) (n := n + 2) hF (v := -7) (pw_small (by omega) (by omega))
    have y1 : phi TB F (n + 12) 11 [.int (-7)] = .ok y := y1
    have q := digs_bad (F := F) (n := n + 9) (x := xn) (c := 0) y2 (by omega)
    have q : phi TB F (n + 12) 26 [xn, y, .int 0] = .ex 1 := q
    rw [x_tri (e2 := [.d (.int 2), .d (.int (X : Nat)), .un]) (c := 1) (x := .bool true) ?_ rfl (by simp)]
    · rfl
    · simp [x_expr, x1, y1, q]
  · obtain ⟨y, y1, y2, _⟩ := c_ofE (F := F) (n := n + 2) (by omega) (E := 0) (by omega)
    have y1 : phi TB F (n + 12) 11 [.int 0] = .ok y := y1
    obtain ⟨p, hp, ep⟩ := pickI (l := [-1, 65]) (z := ((X : Nat) : Int) % 2) (by omega) (by simp; omega)
    simp only [List.map_cons, List.map_nil] at ep
    have q := digs_badc (F := F) (n := n + 9) (x := xn) (c := p) y2 (by simp at hp; omega)
    have q : phi TB F (n + 12) 26 [xn, y, .int p] = .ex 1 := q
    rw [x_tri (e2 := [.d (.int 3), .d (.int (X : Nat)), .un]) (c := 1) (x := .bool true) ?_ rfl (by simp)]
    · rfl
    · simp [x_expr, x1, y1, ep, q]
  · obtain ⟨p, hp, ep⟩ := pickI (l := [0, 61, -2]) (z := ((X : Nat) : Int) % 3) (by omega) (by simp; omega)
    simp only [List.map_cons, List.map_nil] at ep
    have q := lead_bad (F := F) (n := n + 11) (x := xn) (k := p) (by simp at hp; omega)
    have q : phi TB F (n + 12) 31 [xn, .int p] = .ex 1 := q
    rw [x_tri (e2 := [.d (.int 4), .d (.int (X : Nat)), .un]) (c := 1) (x := .bool true) ?_ rfl (by simp)]
    · rfl
    · simp [x_expr, x1, ep, q]
  · obtain ⟨p, hp, ep⟩ := pickI (l := [0, 5, -1]) (z := ((X : Nat) : Int) % 3) (by omega) (by simp; omega)
    simp only [List.map_cons, List.map_nil] at ep
    have q := last_bad (F := F) (n := n + 11) (x := xn) (k := p) (by simp at hp; omega)
    have q : phi TB F (n + 12) 32 [xn, .int p] = .ex 1 := q
    rw [x_tri (e2 := [.d (.int 5), .d (.int (X : Nat)), .un]) (c := 1) (x := .bool true) ?_ rfl (by simp)]
    · rfl
    · simp [x_expr, x1, ep, q]
end
end My

set_option Elab.async false
set_option linter.all false
set_option maxRecDepth 100000
set_option maxHeartbeats 2000000
namespace My
open PySem PySem.Spec PyProof.Rows L2 Rf
section
variable {Φ : FT} {F n : Nat}
theorem neD_self {x : Rf.D} (h : pl x = true) (d : x.depth ≤ 190) : cmpK .ne x x = .ok (.bool false) := by
  have e : cmpD .ne x x = some false := by
    show (if eqOk x x then some (!PyData.eqv x x) else none) = _
    rw [if_pos (eqOk_pl h h d), PySem.SeqAt.eqv_refl _ (pl_lay h)]; rfl
  rw [cmpK, e]; rfl
theorem il_lay : ∀ {l : List Int}, PyData.canLayAll0 (il l) = true
  | [] => by simp only [List.map_nil, PyData.canLayAll0]
  | t :: l => by
    have : PyData.canLayAll0 (l.map PyData.int) = true := il_lay (l := l)
    simp only [List.map_cons, PyData.canLayAll0, PyData.canLay0, this, Bool.and_self]
theorem il_dep : ∀ {l : List Int}, PyData.depthAll (il l) ≤ 1
  | [] => by simp [PyData.depthAll]
  | t :: l => by
    have : PyData.depthAll (l.map PyData.int) ≤ 1 := il_dep (l := l)
    simp only [List.map_cons, PyData.depthAll, PyData.depth]
    omega
theorem neL_self {l : List Int} : cmpK .ne (.list (il l)) (.list (il l)) = .ok (.bool false) := by
  have h1 : (PyData.list (il l)).canLay0 = true := by simp only [PyData.canLay0, il_lay]
  have h2 : (PyData.list (il l)).depth ≤ 190 := by
    have := il_dep (l := l)
    simp only [PyData.depth]
    omega
  have e : cmpD .ne (.list (il l)) (.list (il l)) = some false := by
    show (if eqOk _ _ then some (!PyData.eqv (.list (il l)) (.list (il l))) else none) = _
    rw [if_pos (by unfold eqOk; rw [h1, Nat.min_self, decide_eq_true h2]; rfl), PySem.SeqAt.eqv_refl _ h1]
    rfl
  rw [cmpK, e]; rfl
theorem exp_small {v k : Int} {e : Nat} (hk : k % 2 = 1) (hv : v = k * 2 ^ e) (h : -(2 ^ 2842) ≤ v ∧ v ≤ 2 ^ 2842) : e ≤ 2842 := by
  refine Nat.le_of_not_lt fun lt => ?_
  have Q := two_pos e
  have M := mul_big (c := k) Q
  have T := two_lt lt
  have P := two_pos 2842
  rw [← hv] at M
  generalize (2 : Int) ^ e = g at *
  generalize (2 : Int) ^ 2842 = q at *
  omega
theorem lowest_ok (hF : 20000 ≤ F) {w : Int} (hp : Pw w) {k : Nat} (hk : k ≤ 39) : phi TB F (n + 12) 40 [.int (w * 2 ^ k)] = .ok (.bool true) := by
  obtain ⟨x, x1, x2, x3⟩ := c_ofS (n := n + 1) hF hp hk
  have x1 : phi TB F (n + 11) 11 [.int (w * 2 ^ k)] = .ok x := x1
  have bd := pow_shift hp.bd hk
  generalize w * 2 ^ k = v at *
  refine (phi_succ rfl).trans (run_ret rfl ?_)
  simp only [b40, x_cons, List.map_cons, List.map_nil, List.replicate_succ, List.replicate_zero, Nat.reduceSub, List.cons_append, List.nil_append]
  by_cases h0 : v = 0
  · subst h0
    have e : x = .tuple [] := x2.uniq _ fm0
    subst e
    have q := low_no (F := F) (n := n + 10)
    have q : phi TB F (n + 11) 25 [.tuple []] = .ex 3 := q
    rw [x_trx (e2 := [.d (.int 0), .un, .un]) (c := 3) (A := .and (.cmp .eq (.var 0) (.con (.int 0))) (.and (.con (.bool true)) (.not (.con (.bool false))))) (x := .bool true) ?_ rfl (by simp) ?_]
    · rfl
    · simp [x1, q]
    · simp
  · obtain ⟨d, e, c, l1, l2, l3, l4⟩ := low_ok (F := F) (n := n + 10) x2 h0
    have he := exp_small l3 l4 bd
    have l1 : phi TB F (n + 11) 25 [x] = .ok d := l1
    have ll := llow_ok (F := F) (n := n + 10) l3 l4
    have ll : phi TB F (n + 11) 36 [.int v] = .ok (.int (e : Nat)) := ll
    obtain ⟨y, y1, y2, y3⟩ := c_ofE (F := F) (n := n + 1) (by omega) (E := e) (by omega)
    have y1 : phi TB F (n + 11) 11 [.int (e : Nat)] = .ok y := y1
    have ey : y = d := y2.uniq _ l2
    subst ey
    have eq := eqD_self y2.pl (by omega)
    rw [x_trxN (e2 := [.d (.int v), .d y, .un]) (by simp [x1, l1])]
    simp [h0, ll, y1, eq]
theorem agrees_ok (hF : 20000 ≤ F) {v : Int} (hp : Pw v) {n0 n1 n2 n3 : Int} (h0 : 0 ≤ n0 ∧ n0 < 1000) (h1 : 0 ≤ n1 ∧ n1 < 1000) (h2 : 0 ≤ n2 ∧ n2 < 1000) (h3 : 0 ≤ n3 ∧ n3 < 1000) : phi TB F (n + 50) 39 [.int v, .list [.int n0, .int n1, .int n2, .int n3]] = .ok (.bool true) := by
  have j0 : idxK (.list [.int n0, .int n1, .int n2, .int n3]) (.int 0) = .ok (.int n0) := rfl
  have j1 : idxK (.list [.int n0, .int n1, .int n2, .int n3]) (.int 1) = .ok (.int n1) := rfl
  have j2 : idxK (.list [.int n0, .int n1, .int n2, .int n3]) (.int 2) = .ok (.int n2) := rfl
  have j3 : idxK (.list [.int n0, .int n1, .int n2, .int n3]) (.int 3) = .ok (.int n3) := rfl
  obtain ⟨x, x1, x2, x3⟩ := c_ofP (F := F) (n := n + 39) hF hp
  have x1 : phi TB F (n + 49) 11 [.int v] = .ok x := x1
  have bx := hp.big x2
  obtain ⟨p, hpm, ep⟩ := pickI (l := [n0 % 80, n0 * 4]) (z := n1 % 2) (by omega) (by simp; omega)
  simp only [List.map_cons, List.map_nil] at ep
  have hp2 : 0 ≤ p ∧ p < 4000 := by simp at hpm; omega
  obtain ⟨p, rfl⟩ := Int.eq_ofNat_of_zero_le hp2.1
  obtain ⟨y, y1, y2, y3⟩ := c_ofE (F := F) (n := n + 39) (by omega) (E := p) (by omega)
  have y1 : phi TB F (n + 49) 11 [.int (p : Nat)] = .ok y := y1
  -- the floor
  obtain ⟨z, z1, z2⟩ := floor_shift_ok (n := n + 8) hF hp x2 y2 (by omega)
  obtain ⟨s, s1, s2, s3⟩ := c_ofP (F := F) (n := n + 39) hF (hp.shr p)
  have es : z = s := z2.uniq _ s2
  subst es
  have z1 : phi TB F (n + 49) 20 [x, y] = .ok z := z1
  have s1 : phi TB F (n + 49) 11 [.int (v / 2 ^ p)] = .ok z := s1
  have nz := neD_self z2.pl (by omega)
  have sh := binK_shr (i := v) (j := p)
  -- the digit
  have dg := digit_at_ok (n := n + 38) hF bx y2
  have dg : phi TB F (n + 49) 22 [x, y] = .ok (.int (v / 2 ^ p % 2)) := dg
  -- the digits
  obtain ⟨c, hc⟩ := Int.eq_ofNat_of_zero_le (show 0 ≤ n2 % 65 by omega)
  have ds := digits_ok (n := n + 9) hF bx y2 (by omega) (c := c) (by omega)
  have ds : phi TB F (n + 49) 26 [x, y, .int (c : Nat)] = .ok (.list ((List.range c).map fun j => .int (v / 2 ^ (p + j) % 2))) := ds
  have r := srcK_rn (n := c) (by omega)
  have cm : compK (phi TB F (n + 49)) x39_1 (.nm 5) [] [.d (.int v), .d (.list [.int n0, .int n1, .int n2, .int n3]), .d x, .d (.int (p : Nat)), .d (.int (c : Nat)), .un] (rngD 0 c) = .ok (.list ((List.range c).map fun j => .int (v / 2 ^ (p + j) % 2))) := by
    have h := compL_all (e := [.d (.int v), .d (.list [.int n0, .int n1, .int n2, .int n3]), .d x, .d (.int (p : Nat)), .d (.int (c : Nat)), .un]) (f := ev (phi TB F (n + 49)) x39_1) (g := evt (phi TB F (n + 49)) []) (t := .nm 5) (h := fun z => match z with
      | .int j => .int (v / 2 ^ (p + j.toNat) % 2)
      | _ => .none) (fun e => et_nil) (rngD 0 c) fun z hz => by
        obtain ⟨j, hj, rfl⟩ := List.mem_map.mp hz
        refine ⟨[.d (.int v), .d (.list [.int n0, .int n1, .int n2, .int n3]), .d x, .d (.int (p : Nat)), .d (.int (c : Nat)), .d (.int (0 + (j : Nat)))], rfl, ?_⟩
        rw [Int.zero_add]
        have sj := binK_shr (i := v) (j := p + j)
        rw [show ((p + j : Nat) : Int) = (p : Nat) + (j : Nat) by omega] at sj
        simp [x39_1, sj, band_one]
    have hw : wipeS [.d (.int v), .d (.list [.int n0, .int n1, .int n2, .int n3]), .d x, .d (.int (p : Nat)), .d (.int (c : Nat)), .un] (Tgt.nm 5).ix = [.d (.int v), .d (.list [.int n0, .int n1, .int n2, .int n3]), .d x, .d (.int (p : Nat)), .d (.int (c : Nat)), .un] := rfl
    have hf : Rf.freeOf [.d (.int v), .d (.list [.int n0, .int n1, .int n2, .int n3]), .d x, .d (.int (p : Nat)), .d (.int (c : Nat)), .un] (Tgt.nm 5).ix = true := rfl
    have hz : decide ((rngD 0 c).length ≤ line) = true := decide_eq_true (by rw [rng_len]; unfold line; omega)
    have e : (rngD 0 c).map (fun z => match z with
      | PyData.int j => PyData.int (v / 2 ^ (p + j.toNat) % 2)
      | _ => .none) = (List.range c).map fun j => .int (v / 2 ^ (p + j) % 2) := by
      unfold rngD
      rw [List.map_map]
      refine List.map_congr_left fun j _ => ?_
      simp
    rw [e] at h
    unfold compK
    rw [hw, h, hf]
    rw [hz]
    rfl
  have nl : cmpK .ne (.list ((List.range c).map fun j => PyData.int (v / 2 ^ (p + j) % 2))) (.list ((List.range c).map fun j => PyData.int (v / 2 ^ (p + j) % 2))) = .ok (.bool false) := by
    have := neL_self (l := (List.range c).map fun j => v / 2 ^ (p + j) % 2)
    rw [show il ((List.range c).map fun j => v / 2 ^ (p + j) % 2) = (List.range c).map fun j => PyData.int (v / 2 ^ (p + j) % 2) from List.map_map] at this
    exact this
  -- the length
  obtain ⟨L, L1, L2⟩ := length_ok (n := n + 23) hF hp bx
  have bb := bl_bd hp
  obtain ⟨M, M1, M2, M3⟩ := c_ofE (F := F) (n := n + 39) (by omega) (E := bl v) (by omega)
  have el : L = M := L2.uniq _ M2
  subst el
  have L1 : phi TB F (n + 49) 24 [x] = .ok L := L1
  have M1 : phi TB F (n + 49) 11 [.int (bl v : Nat)] = .ok L := M1
  have nL := neD_self L2.pl (by omega)
  -- the highest and the last digits
  obtain ⟨k, hk⟩ := Int.eq_ofNat_of_zero_le (show 0 ≤ 1 + n3 % 60 by omega)
  have ld := lead_ok (n := n + 4) hF hp bx (k := k) (by omega) (by omega)
  have ld : phi TB F (n + 49) 31 [x, .int (k : Nat)] = .ok (.int (ldV v k)) := ld
  have l37 := llead_ok (F := F) (n := n + 48) (v := v) (k := k)
  have l37 : phi TB F (n + 49) 37 [.int v, .int (k : Nat)] = .ok (.int (ldV v k)) := l37
  obtain ⟨q, hq⟩ := Int.eq_ofNat_of_zero_le (show 0 ≤ 1 + n3 % 4 by omega)
  have la := last_ok (n := n + 9) hF bx (k := q) (by omega) (by omega)
  have la : phi TB F (n + 49) 32 [x, .int (q : Nat)] = .ok (.int (av v % 10 ^ q)) := la
  have tn : idxK (.list [.int 1, .int 10, .int 100, .int 1000, .int 10000]) (.int (q : Nat)) = .ok (.int (10 ^ q)) := by
    have : q = 1 ∨ q = 2 ∨ q = 3 ∨ q = 4 := by omega
    rcases this with rfl | rfl | rfl | rfl <;> rfl
  have md : binK .mod (.int (av v)) (.int (10 ^ q)) = .ok (.int (av v % 10 ^ q)) := binK_mod (Int.pow_pos (by decide))
  have cq : cmpK .eq (.int (av v % 10 ^ q)) (.int (av v % 10 ^ q)) = .ok (.bool true) := by rw [cmpK_eqI, decide_eq_true rfl]
  generalize (List.range c).map (fun j => PyData.int (v / 2 ^ (p + j) % 2)) = DL at *
  generalize (10 : Int) ^ q = Tq at *
  generalize v / 2 ^ p = vp at *
  refine (phi_succ rfl).trans (run_ret rfl ?_)
  simp [b39, j0, j1, j2, j3, x1, ep, y1, z1, sh, s1, nz, dg, band_one, hc, ds, r, cm, nl, L1, abs_av, -bltK_abs, m_bl, bl_av, M1, nL, hk, ld, l37, hq, la, tn, md, cq]
end
end My

set_option Elab.async false
set_option linter.all false
set_option maxRecDepth 100000
set_option maxHeartbeats 2000000
namespace My
open PySem PySem.Spec PyProof.Rows L2 Rf
section
variable {F n : Nat}
theorem cut4 {l : List Int} (hl : l.length = 16) (hs : Sm l) {a : Nat} (ha : a ≤ 12) {p q : Int} (hp : p = (a : Nat)) (hq : q = ((a + 4 : Nat) : Int)) : ∃ n0 n1 n2 n3 : Int, Rf.cutD (il l) (some p) (some q) = [.int n0, .int n1, .int n2, .int n3] ∧ (0 ≤ n0 ∧ n0 < 1000) ∧ (0 ≤ n1 ∧ n1 < 1000) ∧ (0 ≤ n2 ∧ n2 < 1000) ∧ (0 ≤ n3 ∧ n3 < 1000) := by
  have := cut_mid (xs := il l) (n := a) (m := a + 4) (by omega) (by rw [List.length_map]; omega)
  rw [show a + 4 - a = 4 by omega, ← List.map_drop, ← List.map_take, ← hp, ← hq] at this
  have hlen : ((l.drop a).take 4).length = 4 := by rw [List.length_take, List.length_drop]; omega
  have hm : ∀ x ∈ (l.drop a).take 4, 0 ≤ x ∧ x < 1000 := fun x hx => hs x (List.mem_of_mem_drop (List.mem_of_mem_take hx))
  generalize (l.drop a).take 4 = w at *
  match w, hlen with
  | [n0, n1, n2, n3], _ => exact ⟨n0, n1, n2, n3, this, hm n0 (by simp), hm n1 (by simp), hm n2 (by simp), hm n3 (by simp)⟩
def KL (ns : List Int) (i : Nat) (e : Sl) : Prop := ∃ s1 s2 s3 : Slot, e = [.d (.list (il ns)), s1, s2, s3, .un, .un]
def KD (ns : List Int) (X : Int) (i : Nat) (e : Sl) : Prop := ∃ s1 s2 s3 s5 : Slot, e = [.d (.list (il ns)), s1, s2, s3, .d (.int X), s5]
theorem law_turn {ns : List Int} (hF : 20000 ≤ F) {i : Nat} {s1 s2 s3 : Slot} : ∃ t2 t3 : Slot, turnB (Rf.execs (phi TB F (n + 60)) F b41_1) (.nm 1) (.int (i : Nat)) [.d (.list (il ns)), s1, s2, s3, .un, .un] = .nx [.d (.list (il ns)), .d (.int (i : Nat)), t2, t3, .un, .un] := by
  obtain ⟨c, c1⟩ := c_cell (F := F) (n := n + 59) (ns := ns) (k := i)
  obtain ⟨l, l1, l2, l3⟩ := c_numbers (F := F) (n := n + 59) (c := c) (k := i) (m := 16) (by decide)
  obtain ⟨v, v1, v2⟩ := c_plain (F := F) (n := n + 59) l2 l3
  have c1 : phi TB F (n + 60) 33 [.list (il ns), .int (i : Nat)] = .ok (.int c) := c1
  have l1 : phi TB F (n + 60) 34 [.int c, .int (i : Nat), .int 16] = .ok (.list (il l)) := l1
  have v1 : phi TB F (n + 60) 35 [.list (il l), .int 0, .int 2800] = .ok (.int v) := v1
  obtain ⟨a0, a1, a2, a3, q, p0, p1, p2, p3⟩ := cut4 l2 l3 (a := 10) (by decide) (p := 10) (q := 14) rfl rfl
  obtain ⟨b0, b1, b2, b3, q', p0', p1', p2', p3'⟩ := cut4 l2 l3 (a := 11) (by decide) (p := 11) (q := 15) rfl rfl
  have g1 := agrees_ok (n := n + 10) hF v2 p0 p1 p2 p3
  have g2 := agrees_ok (n := n + 10) hF v2.neg p0' p1' p2' p3'
  have g1 : phi TB F (n + 60) 39 [.int v, .list [.int a0, .int a1, .int a2, .int a3]] = .ok (.bool true) := g1
  have g2 : phi TB F (n + 60) 39 [.int (-v), .list [.int b0, .int b1, .int b2, .int b3]] = .ok (.bool true) := g2
  obtain ⟨z, hz, ez⟩ := pickI (l := l) (z := 14) (by omega) (by omega)
  obtain ⟨j, hj⟩ := Int.eq_ofNat_of_zero_le (show 0 ≤ z % 40 by omega)
  have lw := lowest_ok (n := n + 48) hF v2 (k := j) (by omega)
  have lw : phi TB F (n + 60) 40 [.int (v * 2 ^ j)] = .ok (.bool true) := lw
  have vb : v.natAbs < 2 ^ 10000 := by
    have b := v2.bd
    have m := two_mono (i := 2804) (j := 10000) (by decide)
    have P := two_pos 2803
    rw [Int.pow_succ] at m
    have k := kst 10000
    generalize (2 : Int) ^ 2803 = g at *
    generalize (2 : Int) ^ 10000 = g2 at *
    generalize 2 ^ 10000 = g3 at *
    omega
  have sh := binK_shlW (i := v) (j := j) (by omega) vb
  refine ⟨.d (.list (il l)), .d (.int v), ?_⟩
  simp only [turnB, bindT, List.length_cons, List.length_nil, Nat.reduceAdd, Nat.reduceLT, if_true, List.set_cons_succ, List.set_cons_zero]
  by_cases h : (i : Int) < 3
  · simp [b41_1, c1, l1, v1, q, q', g1, g2, h, show i < 3 by omega, ez, hj, sh, lw]
  · simp [b41_1, c1, l1, v1, q, q', g1, g2, h, show ¬ i < 3 by omega]
theorem law_run (ns : List Int) (hn : ns.length ≤ 63) : Fdef.run ⟨1, 6, b41⟩ (phi TB 20000 60) 20000 [.list (il ns)] = .ok (.bool true) := by
  have : ∃ x, Fdef.run ⟨1, 6, b41⟩ (phi TB 20000 60) 20000 [.list (il ns)] = .ok x ∧ x = .bool true := by
    refine run_of rfl ?_
    obtain ⟨t, w, hw1, hw2, ht2⟩ : ∃ (t : Nat) (w : Int), bltK .min [.int (ns.length : Nat), .int 10] = .ok (.int w) ∧ bltK .max [.int 1, .int w] = .ok (.int (t : Nat)) ∧ t ≤ 10 := by
      by_cases h : (10 : Int) < (ns.length : Nat)
      · exact ⟨10, 10, by rw [bltK_min, if_pos h], rfl, by omega⟩
      · by_cases h2 : ((ns.length : Nat) : Int) > 1
        · exact ⟨ns.length, (ns.length : Nat), by rw [bltK_min, if_neg h], by rw [bltK_max, if_pos h2], by omega⟩
        · exact ⟨1, (ns.length : Nat), by rw [bltK_min, if_neg h], by rw [bltK_max, if_neg h2]; rfl, by omega⟩
    have r1 := srcK_rn (n := t) (by omega)
    have r6 : srcK .rng [.int 6] = .ok (rngD 0 6) := srcK_rn (n := 6) (by decide)
    simp [b41, hw1, hw2, r1, -bltK_min, -bltK_max]
    refine Is.for (fun i e => KL ns i e) ⟨_, _, _, rfl⟩ ?_ ?_
    · rintro i x e hx ⟨s1, s2, s3, rfl⟩
      obtain ⟨hi, rfl⟩ := rng_get hx
      rw [Int.zero_add]
      obtain ⟨t2, t3, ht⟩ := law_turn (F := 20000) (n := 0) (ns := ns) (by decide) (i := i) (s1 := s1) (s2 := s2) (s3 := s3)
      rw [Nat.zero_add] at ht
      rw [ht, Turn_nx]
      exact ⟨_, _, _, rfl⟩
    · rintro e ⟨s1, s2, s3, rfl⟩
      obtain ⟨c, c1⟩ := c_cell (F := 20000) (n := 59) (ns := ns) (k := 0)
      obtain ⟨l, l1, l2, l3⟩ := c_numbers (F := 20000) (n := 59) (c := c) (k := 5) (m := 1) (by decide)
      have c1 : phi TB 20000 60 33 [.list (il ns), .int 0] = .ok (.int c) := c1
      have l1 : phi TB 20000 60 34 [.int c, .int 5, .int 1] = .ok (.list (il l)) := l1
      obtain ⟨X, hX, eX⟩ := pickI (l := l) (z := 0) (by omega) (by omega)
      have sX := l3 X hX
      have lz := lowest_ok (F := 20000) (n := 48) (by decide) (w := 0) (pw_small (by decide) (by decide)) (k := 0) (by decide)
      have lz : phi TB 20000 60 40 [.int 0] = .ok (.bool true) := lz
      have te : cmpK .eq (.tuple [.int 64, .int 60, .int 4]) (.tuple [.int 64, .int 60, .int 4]) = .ok (.bool true) := eqD_self rfl (by decide)
      simp [c1, l1, eX, r6]
      refine Is.for (fun i e => KD ns X i e) ⟨_, _, _, _, rfl⟩ ?_ ?_
      · rintro d x e hx ⟨s1, s2, s3, s5, rfl⟩
        obtain ⟨hd, rfl⟩ := rng_get hx
        rw [Int.zero_add]
        have q := refused_ok (F := 20000) (n := 47) (by decide) (d := d) (x := X) (by omega) sX.1 sX.2
        have q : phi TB 20000 60 38 [.int (d : Nat), .int X] = .ok (.bool true) := q
        simp [turnB, bindT, b41_2, q]
        exact ⟨_, _, _, _, rfl⟩
      · rintro e ⟨s1, s2, s3, s5, rfl⟩
        simp [lz, te]
  obtain ⟨x, h, rfl⟩ := this
  exact h
theorem pure_gen (ns : List Int) (hl : ns.length ≤ 63) {m : Nat} (h : m = 60) : phi TB 20000 (m + 1) 41 [.list (il ns)] = .ok (.bool true) := by
  subst h
  exact (phi_succ rfl).trans (law_run ns hl)
theorem pure_law (ns : List Int) (hl : ns.length ≤ 63) : phi TB 20000 (60 + 1) 41 [.list (ns.map .int)] = .ok (.bool true) := pure_gen ns hl rfl
end
end My

set_option maxRecDepth 100000
set_option maxHeartbeats 2000000
namespace My
open PySem PySem.Spec PyProof.Rows L2 Rf
theorem all_mk {l : PySem.W.OpenLaw} {w : World} {K : PySem.W.Frag} {h : Heap} {mg : Str → Option Value} {fa f0 f1 f2 f3 f4 f5 f6 f7 f8 f9 f10 f11 f12 f13 f14 f15 f16 f17 f18 f19 f20 f21 f22 f23 f24 f25 f26 f27 f28 f29 f30 f31 f32 f33 f34 f35 f36 f37 f38 f39 f40 f41 : Addr} (X : K.In h) (G : h.Ns mainGlobals mg) (hfa : mg "law" = some (.ref fa))
    {od0 an0 od1 an1 od2 an2 od3 an3 od4 an4 od5 an5 od6 an6 od7 an7 od8 an8 od9 an9 od10 an10 od11 an11 od12 an12 od13 an13 od14 an14 od15 an15 od16 an16 od17 an17 od18 an18 od19 an19 od20 an20 od21 an21 od22 an22 od23 an23 od24 an24 od25 an25 od26 an26 od27 an27 od28 an28 od29 an29 od30 an30 od31 an31 od32 an32 od33 an33 od34 an34 od35 an35 od36 an36 od37 an37 od38 an38 od39 an39 od40 an40 od41 an41 : Option Addr} {sl0 sl1 sl2 sl3 sl4 sl5 sl6 sl7 sl8 sl9 sl10 sl11 sl12 sl13 sl14 sl15 sl16 sl17 sl18 sl19 sl20 sl21 sl22 sl23 sl24 sl25 sl26 sl27 sl28 sl29 sl30 sl31 sl32 sl33 sl34 sl35 sl36 sl37 sl38 sl39 sl40 sl41 : Array (Option Value)} {oc0 kV0 dc0 pm0 cd0 ct0 oc1 kV1 dc1 pm1 cd1 ct1 oc2 kV2 dc2 pm2 cd2 ct2 oc3 kV3 dc3 pm3 cd3 ct3 oc4 kV4 dc4 pm4 cd4 ct4 oc5 kV5 dc5 pm5 cd5 ct5 oc6 kV6 dc6 pm6 cd6 ct6 oc7 kV7 dc7 pm7 cd7 ct7 oc8 kV8 dc8 pm8 cd8 ct8 oc9 kV9 dc9 pm9 cd9 ct9 oc10 kV10 dc10 pm10 cd10 ct10 oc11 kV11 dc11 pm11 cd11 ct11 oc12 kV12 dc12 pm12 cd12 ct12 oc13 kV13 dc13 pm13 cd13 ct13 oc14 kV14 dc14 pm14 cd14 ct14 oc15 kV15 dc15 pm15 cd15 ct15 oc16 kV16 dc16 pm16 cd16 ct16 oc17 kV17 dc17 pm17 cd17 ct17 oc18 kV18 dc18 pm18 cd18 ct18 oc19 kV19 dc19 pm19 cd19 ct19 oc20 kV20 dc20 pm20 cd20 ct20 oc21 kV21 dc21 pm21 cd21 ct21 oc22 kV22 dc22 pm22 cd22 ct22 oc23 kV23 dc23 pm23 cd23 ct23 oc24 kV24 dc24 pm24 cd24 ct24 oc25 kV25 dc25 pm25 cd25 ct25 oc26 kV26 dc26 pm26 cd26 ct26 oc27 kV27 dc27 pm27 cd27 ct27 oc28 kV28 dc28 pm28 cd28 ct28 oc29 kV29 dc29 pm29 cd29 ct29 oc30 kV30 dc30 pm30 cd30 ct30 oc31 kV31 dc31 pm31 cd31 ct31 oc32 kV32 dc32 pm32 cd32 ct32 oc33 kV33 dc33 pm33 cd33 ct33 oc34 kV34 dc34 pm34 cd34 ct34 oc35 kV35 dc35 pm35 cd35 ct35 oc36 kV36 dc36 pm36 cd36 ct36 oc37 kV37 dc37 pm37 cd37 ct37 oc38 kV38 dc38 pm38 cd38 ct38 oc39 kV39 dc39 pm39 cd39 ct39 oc40 kV40 dc40 pm40 cd40 ct40 oc41 kV41 dc41 pm41 cd41 ct41 : Value}
    (a0 : PySem.W.nsIn K mainGlobals "size_of" = some (some (.ref f0))) (l0 : K.lookup f0 = some ⟨oc0, od0, .func (PySem.W.fnOf "size_of" "size_of" (defArgs s0) (defBody s0) (defScope s0) .none kV0 dc0 pm0 an0 cd0 ct0), sl0⟩) (c0 : PySem.W.codeIn K cd0 "size_of" = true) (k0 : PySem.W.keepIn K (.ref f0) = true)
    (a1 : PySem.W.nsIn K mainGlobals "height_of" = some (some (.ref f1))) (l1 : K.lookup f1 = some ⟨oc1, od1, .func (PySem.W.fnOf "height_of" "height_of" (defArgs s1) (defBody s1) (defScope s1) .none kV1 dc1 pm1 an1 cd1 ct1), sl1⟩) (c1 : PySem.W.codeIn K cd1 "height_of" = true) (k1 : PySem.W.keepIn K (.ref f1) = true)
    (a2 : PySem.W.nsIn K mainGlobals "compare" = some (some (.ref f2))) (l2 : K.lookup f2 = some ⟨oc2, od2, .func (PySem.W.fnOf "compare" "compare" (defArgs s2) (defBody s2) (defScope s2) .none kV2 dc2 pm2 an2 cd2 ct2), sl2⟩) (c2 : PySem.W.codeIn K cd2 "compare" = true) (k2 : PySem.W.keepIn K (.ref f2) = true)
    (a3 : PySem.W.nsIn K mainGlobals "sign_of" = some (some (.ref f3))) (l3 : K.lookup f3 = some ⟨oc3, od3, .func (PySem.W.fnOf "sign_of" "sign_of" (defArgs s3) (defBody s3) (defScope s3) .none kV3 dc3 pm3 an3 cd3 ct3), sl3⟩) (c3 : PySem.W.codeIn K cd3 "sign_of" = true) (k3 : PySem.W.keepIn K (.ref f3) = true)
    (a4 : PySem.W.nsIn K mainGlobals "in_order" = some (some (.ref f4))) (l4 : K.lookup f4 = some ⟨oc4, od4, .func (PySem.W.fnOf "in_order" "in_order" (defArgs s4) (defBody s4) (defScope s4) .none kV4 dc4 pm4 an4 cd4 ct4), sl4⟩) (c4 : PySem.W.codeIn K cd4 "in_order" = true) (k4 : PySem.W.keepIn K (.ref f4) = true)
    (a5 : PySem.W.nsIn K mainGlobals "gathered" = some (some (.ref f5))) (l5 : K.lookup f5 = some ⟨oc5, od5, .func (PySem.W.fnOf "gathered" "gathered" (defArgs s5) (defBody s5) (defScope s5) .none kV5 dc5 pm5 an5 cd5 ct5), sl5⟩) (c5 : PySem.W.codeIn K cd5 "gathered" = true) (k5 : PySem.W.keepIn K (.ref f5) = true)
    (a6 : PySem.W.nsIn K mainGlobals "sign_at" = some (some (.ref f6))) (l6 : K.lookup f6 = some ⟨oc6, od6, .func (PySem.W.fnOf "sign_at" "sign_at" (defArgs s6) (defBody s6) (defScope s6) .none kV6 dc6 pm6 an6 cd6 ct6), sl6⟩) (c6 : PySem.W.codeIn K cd6 "sign_at" = true) (k6 : PySem.W.keepIn K (.ref f6) = true)
    (a7 : PySem.W.nsIn K mainGlobals "next_of" = some (some (.ref f7))) (l7 : K.lookup f7 = some ⟨oc7, od7, .func (PySem.W.fnOf "next_of" "next_of" (defArgs s7) (defBody s7) (defScope s7) .none kV7 dc7 pm7 an7 cd7 ct7), sl7⟩) (c7 : PySem.W.codeIn K cd7 "next_of" = true) (k7 : PySem.W.keepIn K (.ref f7) = true)
    (a8 : PySem.W.nsIn K mainGlobals "from_int" = some (some (.ref f8))) (l8 : K.lookup f8 = some ⟨oc8, od8, .func (PySem.W.fnOf "from_int" "from_int" (defArgs s8) (defBody s8) (defScope s8) .none kV8 dc8 pm8 an8 cd8 ct8), sl8⟩) (c8 : PySem.W.codeIn K cd8 "from_int" = true) (k8 : PySem.W.keepIn K (.ref f8) = true)
    (a9 : PySem.W.nsIn K mainGlobals "is_allowed" = some (some (.ref f9))) (l9 : K.lookup f9 = some ⟨oc9, od9, .func (PySem.W.fnOf "is_allowed" "is_allowed" (defArgs s9) (defBody s9) (defScope s9) .none kV9 dc9 pm9 an9 cd9 ct9), sl9⟩) (c9 : PySem.W.codeIn K cd9 "is_allowed" = true) (k9 : PySem.W.keepIn K (.ref f9) = true)
    (a10 : PySem.W.nsIn K mainGlobals "allowed" = some (some (.ref f10))) (l10 : K.lookup f10 = some ⟨oc10, od10, .func (PySem.W.fnOf "allowed" "allowed" (defArgs s10) (defBody s10) (defScope s10) .none kV10 dc10 pm10 an10 cd10 ct10), sl10⟩) (c10 : PySem.W.codeIn K cd10 "allowed" = true) (k10 : PySem.W.keepIn K (.ref f10) = true)
    (a11 : PySem.W.nsIn K mainGlobals "of_int" = some (some (.ref f11))) (l11 : K.lookup f11 = some ⟨oc11, od11, .func (PySem.W.fnOf "of_int" "of_int" (defArgs s11) (defBody s11) (defScope s11) .none kV11 dc11 pm11 an11 cd11 ct11), sl11⟩) (c11 : PySem.W.codeIn K cd11 "of_int" = true) (k11 : PySem.W.keepIn K (.ref f11) = true)
    (a12 : PySem.W.nsIn K mainGlobals "power_of_two" = some (some (.ref f12))) (l12 : K.lookup f12 = some ⟨oc12, od12, .func (PySem.W.fnOf "power_of_two" "power_of_two" (defArgs s12) (defBody s12) (defScope s12) .none kV12 dc12 pm12 an12 cd12 ct12), sl12⟩) (c12 : PySem.W.codeIn K cd12 "power_of_two" = true) (k12 : PySem.W.keepIn K (.ref f12) = true)
    (a13 : PySem.W.nsIn K mainGlobals "to_int" = some (some (.ref f13))) (l13 : K.lookup f13 = some ⟨oc13, od13, .func (PySem.W.fnOf "to_int" "to_int" (defArgs s13) (defBody s13) (defScope s13) .none kV13 dc13 pm13 an13 cd13 ct13), sl13⟩) (c13 : PySem.W.codeIn K cd13 "to_int" = true) (k13 : PySem.W.keepIn K (.ref f13) = true)
    (a14 : PySem.W.nsIn K mainGlobals "negate" = some (some (.ref f14))) (l14 : K.lookup f14 = some ⟨oc14, od14, .func (PySem.W.fnOf "negate" "negate" (defArgs s14) (defBody s14) (defScope s14) .none kV14 dc14 pm14 an14 cd14 ct14), sl14⟩) (c14 : PySem.W.codeIn K cd14 "negate" = true) (k14 : PySem.W.keepIn K (.ref f14) = true)
    (a15 : PySem.W.nsIn K mainGlobals "plus" = some (some (.ref f15))) (l15 : K.lookup f15 = some ⟨oc15, od15, .func (PySem.W.fnOf "plus" "plus" (defArgs s15) (defBody s15) (defScope s15) .none kV15 dc15 pm15 an15 cd15 ct15), sl15⟩) (c15 : PySem.W.codeIn K cd15 "plus" = true) (k15 : PySem.W.keepIn K (.ref f15) = true)
    (a16 : PySem.W.nsIn K mainGlobals "minus" = some (some (.ref f16))) (l16 : K.lookup f16 = some ⟨oc16, od16, .func (PySem.W.fnOf "minus" "minus" (defArgs s16) (defBody s16) (defScope s16) .none kV16 dc16 pm16 an16 cd16 ct16), sl16⟩) (c16 : PySem.W.codeIn K cd16 "minus" = true) (k16 : PySem.W.keepIn K (.ref f16) = true)
    (a17 : PySem.W.nsIn K mainGlobals "check_place" = some (some (.ref f17))) (l17 : K.lookup f17 = some ⟨oc17, od17, .func (PySem.W.fnOf "check_place" "check_place" (defArgs s17) (defBody s17) (defScope s17) .none kV17 dc17 pm17 an17 cd17 ct17), sl17⟩) (c17 : PySem.W.codeIn K cd17 "check_place" = true) (k17 : PySem.W.keepIn K (.ref f17) = true)
    (a18 : PySem.W.nsIn K mainGlobals "is_borrowed" = some (some (.ref f18))) (l18 : K.lookup f18 = some ⟨oc18, od18, .func (PySem.W.fnOf "is_borrowed" "is_borrowed" (defArgs s18) (defBody s18) (defScope s18) .none kV18 dc18 pm18 an18 cd18 ct18), sl18⟩) (c18 : PySem.W.codeIn K cd18 "is_borrowed" = true) (k18 : PySem.W.keepIn K (.ref f18) = true)
    (a19 : PySem.W.nsIn K mainGlobals "floored" = some (some (.ref f19))) (l19 : K.lookup f19 = some ⟨oc19, od19, .func (PySem.W.fnOf "floored" "floored" (defArgs s19) (defBody s19) (defScope s19) .none kV19 dc19 pm19 an19 cd19 ct19), sl19⟩) (c19 : PySem.W.codeIn K cd19 "floored" = true) (k19 : PySem.W.keepIn K (.ref f19) = true)
    (a20 : PySem.W.nsIn K mainGlobals "floor_shift" = some (some (.ref f20))) (l20 : K.lookup f20 = some ⟨oc20, od20, .func (PySem.W.fnOf "floor_shift" "floor_shift" (defArgs s20) (defBody s20) (defScope s20) .none kV20 dc20 pm20 an20 cd20 ct20), sl20⟩) (c20 : PySem.W.codeIn K cd20 "floor_shift" = true) (k20 : PySem.W.keepIn K (.ref f20) = true)
    (a21 : PySem.W.nsIn K mainGlobals "digit" = some (some (.ref f21))) (l21 : K.lookup f21 = some ⟨oc21, od21, .func (PySem.W.fnOf "digit" "digit" (defArgs s21) (defBody s21) (defScope s21) .none kV21 dc21 pm21 an21 cd21 ct21), sl21⟩) (c21 : PySem.W.codeIn K cd21 "digit" = true) (k21 : PySem.W.keepIn K (.ref f21) = true)
    (a22 : PySem.W.nsIn K mainGlobals "digit_at" = some (some (.ref f22))) (l22 : K.lookup f22 = some ⟨oc22, od22, .func (PySem.W.fnOf "digit_at" "digit_at" (defArgs s22) (defBody s22) (defScope s22) .none kV22 dc22 pm22 an22 cd22 ct22), sl22⟩) (c22 : PySem.W.codeIn K cd22 "digit_at" = true) (k22 : PySem.W.keepIn K (.ref f22) = true)
    (a23 : PySem.W.nsIn K mainGlobals "length_of" = some (some (.ref f23))) (l23 : K.lookup f23 = some ⟨oc23, od23, .func (PySem.W.fnOf "length_of" "length_of" (defArgs s23) (defBody s23) (defScope s23) .none kV23 dc23 pm23 an23 cd23 ct23), sl23⟩) (c23 : PySem.W.codeIn K cd23 "length_of" = true) (k23 : PySem.W.keepIn K (.ref f23) = true)
    (a24 : PySem.W.nsIn K mainGlobals "length" = some (some (.ref f24))) (l24 : K.lookup f24 = some ⟨oc24, od24, .func (PySem.W.fnOf "length" "length" (defArgs s24) (defBody s24) (defScope s24) .none kV24 dc24 pm24 an24 cd24 ct24), sl24⟩) (c24 : PySem.W.codeIn K cd24 "length" = true) (k24 : PySem.W.keepIn K (.ref f24) = true)
    (a25 : PySem.W.nsIn K mainGlobals "low" = some (some (.ref f25))) (l25 : K.lookup f25 = some ⟨oc25, od25, .func (PySem.W.fnOf "low" "low" (defArgs s25) (defBody s25) (defScope s25) .none kV25 dc25 pm25 an25 cd25 ct25), sl25⟩) (c25 : PySem.W.codeIn K cd25 "low" = true) (k25 : PySem.W.keepIn K (.ref f25) = true)
    (a26 : PySem.W.nsIn K mainGlobals "digits_from" = some (some (.ref f26))) (l26 : K.lookup f26 = some ⟨oc26, od26, .func (PySem.W.fnOf "digits_from" "digits_from" (defArgs s26) (defBody s26) (defScope s26) .none kV26 dc26 pm26 an26 cd26 ct26), sl26⟩) (c26 : PySem.W.codeIn K cd26 "digits_from" = true) (k26 : PySem.W.keepIn K (.ref f26) = true)
    (a27 : PySem.W.nsIn K mainGlobals "check_modulus" = some (some (.ref f27))) (l27 : K.lookup f27 = some ⟨oc27, od27, .func (PySem.W.fnOf "check_modulus" "check_modulus" (defArgs s27) (defBody s27) (defScope s27) .none kV27 dc27 pm27 an27 cd27 ct27), sl27⟩) (c27 : PySem.W.codeIn K cd27 "check_modulus" = true) (k27 : PySem.W.keepIn K (.ref f27) = true)
    (a28 : PySem.W.nsIn K mainGlobals "row_of_two" = some (some (.ref f28))) (l28 : K.lookup f28 = some ⟨oc28, od28, .func (PySem.W.fnOf "row_of_two" "row_of_two" (defArgs s28) (defBody s28) (defScope s28) .none kV28 dc28 pm28 an28 cd28 ct28), sl28⟩) (c28 : PySem.W.codeIn K cd28 "row_of_two" = true) (k28 : PySem.W.keepIn K (.ref f28) = true)
    (a29 : PySem.W.nsIn K mainGlobals "remainder" = some (some (.ref f29))) (l29 : K.lookup f29 = some ⟨oc29, od29, .func (PySem.W.fnOf "remainder" "remainder" (defArgs s29) (defBody s29) (defScope s29) .none kV29 dc29 pm29 an29 cd29 ct29), sl29⟩) (c29 : PySem.W.codeIn K cd29 "remainder" = true) (k29 : PySem.W.keepIn K (.ref f29) = true)
    (a30 : PySem.W.nsIn K mainGlobals "magnitude" = some (some (.ref f30))) (l30 : K.lookup f30 = some ⟨oc30, od30, .func (PySem.W.fnOf "magnitude" "magnitude" (defArgs s30) (defBody s30) (defScope s30) .none kV30 dc30 pm30 an30 cd30 ct30), sl30⟩) (c30 : PySem.W.codeIn K cd30 "magnitude" = true) (k30 : PySem.W.keepIn K (.ref f30) = true)
    (a31 : PySem.W.nsIn K mainGlobals "lead" = some (some (.ref f31))) (l31 : K.lookup f31 = some ⟨oc31, od31, .func (PySem.W.fnOf "lead" "lead" (defArgs s31) (defBody s31) (defScope s31) .none kV31 dc31 pm31 an31 cd31 ct31), sl31⟩) (c31 : PySem.W.codeIn K cd31 "lead" = true) (k31 : PySem.W.keepIn K (.ref f31) = true)
    (a32 : PySem.W.nsIn K mainGlobals "last_digits" = some (some (.ref f32))) (l32 : K.lookup f32 = some ⟨oc32, od32, .func (PySem.W.fnOf "last_digits" "last_digits" (defArgs s32) (defBody s32) (defScope s32) .none kV32 dc32 pm32 an32 cd32 ct32), sl32⟩) (c32 : PySem.W.codeIn K cd32 "last_digits" = true) (k32 : PySem.W.keepIn K (.ref f32) = true)
    (a33 : PySem.W.nsIn K mainGlobals "_law_cell" = some (some (.ref f33))) (l33 : K.lookup f33 = some ⟨oc33, od33, .func (PySem.W.fnOf "_law_cell" "_law_cell" (defArgs s33) (defBody s33) (defScope s33) .none kV33 dc33 pm33 an33 cd33 ct33), sl33⟩) (c33 : PySem.W.codeIn K cd33 "_law_cell" = true) (k33 : PySem.W.keepIn K (.ref f33) = true)
    (a34 : PySem.W.nsIn K mainGlobals "_law_numbers" = some (some (.ref f34))) (l34 : K.lookup f34 = some ⟨oc34, od34, .func (PySem.W.fnOf "_law_numbers" "_law_numbers" (defArgs s34) (defBody s34) (defScope s34) .none kV34 dc34 pm34 an34 cd34 ct34), sl34⟩) (c34 : PySem.W.codeIn K cd34 "_law_numbers" = true) (k34 : PySem.W.keepIn K (.ref f34) = true)
    (a35 : PySem.W.nsIn K mainGlobals "_law_plain" = some (some (.ref f35))) (l35 : K.lookup f35 = some ⟨oc35, od35, .func (PySem.W.fnOf "_law_plain" "_law_plain" (defArgs s35) (defBody s35) (defScope s35) .none kV35 dc35 pm35 an35 cd35 ct35), sl35⟩) (c35 : PySem.W.codeIn K cd35 "_law_plain" = true) (k35 : PySem.W.keepIn K (.ref f35) = true)
    (a36 : PySem.W.nsIn K mainGlobals "_law_low" = some (some (.ref f36))) (l36 : K.lookup f36 = some ⟨oc36, od36, .func (PySem.W.fnOf "_law_low" "_law_low" (defArgs s36) (defBody s36) (defScope s36) .none kV36 dc36 pm36 an36 cd36 ct36), sl36⟩) (c36 : PySem.W.codeIn K cd36 "_law_low" = true) (k36 : PySem.W.keepIn K (.ref f36) = true)
    (a37 : PySem.W.nsIn K mainGlobals "_law_lead" = some (some (.ref f37))) (l37 : K.lookup f37 = some ⟨oc37, od37, .func (PySem.W.fnOf "_law_lead" "_law_lead" (defArgs s37) (defBody s37) (defScope s37) .none kV37 dc37 pm37 an37 cd37 ct37), sl37⟩) (c37 : PySem.W.codeIn K cd37 "_law_lead" = true) (k37 : PySem.W.keepIn K (.ref f37) = true)
    (a38 : PySem.W.nsIn K mainGlobals "_law_refused" = some (some (.ref f38))) (l38 : K.lookup f38 = some ⟨oc38, od38, .func (PySem.W.fnOf "_law_refused" "_law_refused" (defArgs s38) (defBody s38) (defScope s38) .none kV38 dc38 pm38 an38 cd38 ct38), sl38⟩) (c38 : PySem.W.codeIn K cd38 "_law_refused" = true) (k38 : PySem.W.keepIn K (.ref f38) = true)
    (a39 : PySem.W.nsIn K mainGlobals "_law_agrees" = some (some (.ref f39))) (l39 : K.lookup f39 = some ⟨oc39, od39, .func (PySem.W.fnOf "_law_agrees" "_law_agrees" (defArgs s39) (defBody s39) (defScope s39) .none kV39 dc39 pm39 an39 cd39 ct39), sl39⟩) (c39 : PySem.W.codeIn K cd39 "_law_agrees" = true) (k39 : PySem.W.keepIn K (.ref f39) = true)
    (a40 : PySem.W.nsIn K mainGlobals "_law_lowest" = some (some (.ref f40))) (l40 : K.lookup f40 = some ⟨oc40, od40, .func (PySem.W.fnOf "_law_lowest" "_law_lowest" (defArgs s40) (defBody s40) (defScope s40) .none kV40 dc40 pm40 an40 cd40 ct40), sl40⟩) (c40 : PySem.W.codeIn K cd40 "_law_lowest" = true) (k40 : PySem.W.keepIn K (.ref f40) = true)
    (a41 : PySem.W.nsIn K mainGlobals "law" = some (some (.ref f41))) (l41 : K.lookup f41 = some ⟨oc41, od41, .func (PySem.W.fnOf "law" "law" (defArgs s41) (defBody s41) (defScope s41) .none kV41 dc41 pm41 an41 cd41 ct41), sl41⟩) (c41 : PySem.W.codeIn K cd41 "law" = true) (k41 : PySem.W.keepIn K (.ref f41) = true)
    (z_abs : PySem.W.nsIn K mainGlobals "abs" = some none)
    (z_int : PySem.W.nsIn K mainGlobals "int" = some none)
    (z_isinstance : PySem.W.nsIn K mainGlobals "isinstance" = some none)
    (z_len : PySem.W.nsIn K mainGlobals "len" = some none)
    (z_list : PySem.W.nsIn K mainGlobals "list" = some none)
    (z_max : PySem.W.nsIn K mainGlobals "max" = some none)
    (z_min : PySem.W.nsIn K mainGlobals "min" = some none)
    (z_range : PySem.W.nsIn K mainGlobals "range" = some none)
    (z_sum : PySem.W.nsIn K mainGlobals "sum" = some none)
    (z_tuple : PySem.W.nsIn K mainGlobals "tuple" = some none)
    (z_zip : PySem.W.nsIn K mainGlobals "zip" = some none)
    {Cl fI : Addr} {odI anI : Option Addr} {slI : Array (Option Value)} {ocI kVI dcI pmI cdI ctI : Value} {f42 f43 f44 : Addr} {od42 an42 od43 an43 od44 an44 : Option Addr} {sl42 sl43 sl44 : Array (Option Value)} {oc42 kV42 dc42 pm42 cd42 ct42 oc43 kV43 dc43 pm43 cd43 ct43 oc44 kV44 dc44 pm44 cd44 ct44 : Value}
    (aC : PySem.W.nsIn K mainGlobals "Powers" = some (some (.ref Cl))) (cpg : PySem.W.plainGet K Cl Str.empty = true) (chd : PySem.W.hasDictIn K Cl = true) (cpo : PySem.W.plainOver K Cl = true) (csa : PySem.W.findIn K (.ref Cl) "__setattr__" = some (some (.builtin "object.__setattr__"))) (cmk : PySem.W.makesIn K Cl = true) (ckc : PySem.W.keepIn K (.ref Cl) = true) (cnA : PySem.W.findIn K (.ref Cl) "rows" = some none)
    (aI : PySem.W.findIn K (.ref Cl) "__init__" = some (some (.ref fI))) (iI : PySem.W.isFn K (.ref fI) = true) (lI : K.lookup fI = some ⟨ocI, odI, .func (PySem.W.fnOf "__init__" "Powers.__init__" (defArgs sI) (defBody sI) (defScope sI) .none kVI dcI pmI anI cdI ctI), slI⟩) (cI : PySem.W.codeIn K cdI "Powers.__init__" = true) (kI : PySem.W.keepIn K (.ref fI) = true)
    (a42 : PySem.W.findIn K (.ref Cl) "row" = some (some (.ref f42))) (i42 : PySem.W.isFn K (.ref f42) = true) (l42 : K.lookup f42 = some ⟨oc42, od42, .func (PySem.W.fnOf "row" "Powers.row" (defArgs s42) (defBody s42) (defScope s42) .none kV42 dc42 pm42 an42 cd42 ct42), sl42⟩) (c42 : PySem.W.codeIn K cd42 "Powers.row" = true) (k42 : PySem.W.keepIn K (.ref f42) = true)
    (a43 : PySem.W.findIn K (.ref Cl) "power" = some (some (.ref f43))) (i43 : PySem.W.isFn K (.ref f43) = true) (l43 : K.lookup f43 = some ⟨oc43, od43, .func (PySem.W.fnOf "power" "Powers.power" (defArgs s43) (defBody s43) (defScope s43) .none kV43 dc43 pm43 an43 cd43 ct43), sl43⟩) (c43 : PySem.W.codeIn K cd43 "Powers.power" = true) (k43 : PySem.W.keepIn K (.ref f43) = true)
    (a44 : PySem.W.findIn K (.ref Cl) "number" = some (some (.ref f44))) (i44 : PySem.W.isFn K (.ref f44) = true) (l44 : K.lookup f44 = some ⟨oc44, od44, .func (PySem.W.fnOf "number" "Powers.number" (defArgs s44) (defBody s44) (defScope s44) .none kV44 dc44 pm44 an44 cd44 ct44), sl44⟩) (c44 : PySem.W.codeIn K cd44 "Powers.number" = true) (k44 : PySem.W.keepIn K (.ref f44) = true)
    {k_MAX_BINARY : Tok} (y_MAX_BINARY : PySem.W.nsIn K mainGlobals "MAX_BINARY" = some (some (.int 64 k_MAX_BINARY)))
    {k_MAX_COUNT : Tok} (y_MAX_COUNT : PySem.W.nsIn K mainGlobals "MAX_COUNT" = some (some (.int 64 k_MAX_COUNT)))
    {k_MAX_DIGITS : Tok} (y_MAX_DIGITS : PySem.W.nsIn K mainGlobals "MAX_DIGITS" = some (some (.int 2900 k_MAX_DIGITS)))
    {k_MAX_HEIGHT : Tok} (y_MAX_HEIGHT : PySem.W.nsIn K mainGlobals "MAX_HEIGHT" = some (some (.int 40 k_MAX_HEIGHT)))
    {k_MAX_LAST : Tok} (y_MAX_LAST : PySem.W.nsIn K mainGlobals "MAX_LAST" = some (some (.int 4 k_MAX_LAST)))
    {k_MAX_LEAD : Tok} (y_MAX_LEAD : PySem.W.nsIn K mainGlobals "MAX_LEAD" = some (some (.int 60 k_MAX_LEAD)))
    {k_MAX_MODULUS : Tok} (y_MAX_MODULUS : PySem.W.nsIn K mainGlobals "MAX_MODULUS" = some (some (.int 10000 k_MAX_MODULUS)))
    {k_MAX_SIZE : Tok} (y_MAX_SIZE : PySem.W.nsIn K mainGlobals "MAX_SIZE" = some (some (.int 300 k_MAX_SIZE)))
    {a_TENS : Addr} (y_TENS : PySem.W.nsIn K mainGlobals "TENS" = some (some (.ref a_TENS))) {wa_TENS_0 : Tok} {wa_TENS_1 : Tok} {wa_TENS_2 : Tok} {wa_TENS_3 : Tok} {wa_TENS_4 : Tok} {oa_TENS : Option Addr} {ma_TENS : Nat} {sa_TENS : Array (Option Value)} (qa_TENS : K.lookup a_TENS = some ⟨.type "tuple", oa_TENS, .seq #[.int (1) wa_TENS_0, .int (10) wa_TENS_1, .int (100) wa_TENS_2, .int (1000) wa_TENS_3, .int (10000) wa_TENS_4] ma_TENS, sa_TENS⟩)
    {A0 : Addr} (xa0 : PySem.W.nsIn K mainGlobals "ReckonError" = some (some (.ref A0))) (xe0 : PySem.W.excIn K A0 [.type "ValueError", .type "Exception", .type "BaseException", .type "object"] "ValueError.__new__" = true) (xk0 : PySem.W.keepIn K (.ref A0) = true) (xb0 : PySem.W.subIn K (.ref A0) (.type "BaseException") = some true) (xt0 : PySem.W.typeIn K (.ref A0) = some (.type "type")) (xd0 : PySem.W.hasDictIn K A0 = true)
    (xg0 : PySem.W.findIn K (.ref A0) "__getattribute__" = some (some (.builtin "BaseException.__getattribute__"))) (xh0 : PySem.W.findIn K (.ref A0) "__getattr__" = some none) (xc0 : PySem.W.findIn K (.ref A0) "__class__" = some (some (.builtin "object.__class__"))) (xm0 : PySem.W.mroIn K A0 (.type "object") = some true)
    {A1 : Addr} (xa1 : PySem.W.nsIn K mainGlobals "NotAllowed" = some (some (.ref A1))) (xe1 : PySem.W.excIn K A1 [.type "ValueError", .type "Exception", .type "BaseException", .type "object"] "ValueError.__new__" = true) (xk1 : PySem.W.keepIn K (.ref A1) = true) (xb1 : PySem.W.subIn K (.ref A1) (.type "BaseException") = some true) (xt1 : PySem.W.typeIn K (.ref A1) = some (.type "type")) (xd1 : PySem.W.hasDictIn K A1 = true)
    (xg1 : PySem.W.findIn K (.ref A1) "__getattribute__" = some (some (.builtin "BaseException.__getattribute__"))) (xh1 : PySem.W.findIn K (.ref A1) "__getattr__" = some none) (xc1 : PySem.W.findIn K (.ref A1) "__class__" = some (some (.builtin "object.__class__"))) (xm1 : PySem.W.mroIn K A1 (.type "object") = some true)
    {A2 : Addr} (xa2 : PySem.W.nsIn K mainGlobals "TooLarge" = some (some (.ref A2))) (xe2 : PySem.W.excIn K A2 [.type "ValueError", .type "Exception", .type "BaseException", .type "object"] "ValueError.__new__" = true) (xk2 : PySem.W.keepIn K (.ref A2) = true) (xb2 : PySem.W.subIn K (.ref A2) (.type "BaseException") = some true) (xt2 : PySem.W.typeIn K (.ref A2) = some (.type "type")) (xd2 : PySem.W.hasDictIn K A2 = true)
    (xg2 : PySem.W.findIn K (.ref A2) "__getattribute__" = some (some (.builtin "BaseException.__getattribute__"))) (xh2 : PySem.W.findIn K (.ref A2) "__getattr__" = some none) (xc2 : PySem.W.findIn K (.ref A2) "__class__" = some (some (.builtin "object.__class__"))) (xm2 : PySem.W.mroIn K A2 (.type "object") = some true)
    {A3 : Addr} (xa3 : PySem.W.nsIn K mainGlobals "Missing" = some (some (.ref A3))) (xe3 : PySem.W.excIn K A3 [.type "ValueError", .type "Exception", .type "BaseException", .type "object"] "ValueError.__new__" = true) (xk3 : PySem.W.keepIn K (.ref A3) = true) (xb3 : PySem.W.subIn K (.ref A3) (.type "BaseException") = some true) (xt3 : PySem.W.typeIn K (.ref A3) = some (.type "type")) (xd3 : PySem.W.hasDictIn K A3 = true)
    (xg3 : PySem.W.findIn K (.ref A3) "__getattribute__" = some (some (.builtin "BaseException.__getattribute__"))) (xh3 : PySem.W.findIn K (.ref A3) "__getattr__" = some none) (xc3 : PySem.W.findIn K (.ref A3) "__class__" = some (some (.builtin "object.__class__"))) (xm3 : PySem.W.mroIn K A3 (.type "object") = some true)
    (xn : PySem.W.specialIn K (.builtin "object.__class__") "__get__" = some (some (.builtin "getset_descriptor.__get__"))) (xo : PySem.W.takesIn K (.builtin "object.__class__") = some true)
    (uk_Missing_NotAllowed : PySem.W.subIn K (.ref A3) (.ref A1) = some false)
    (vk_Missing_NotAllowed : (Value.ref A3 == Value.ref A1) = false)
    (uk_Missing_ReckonError : PySem.W.subIn K (.ref A3) (.ref A0) = some true)
    (uk_NotAllowed_Missing : PySem.W.subIn K (.ref A1) (.ref A3) = some false)
    (vk_NotAllowed_Missing : (Value.ref A1 == Value.ref A3) = false)
    (uk_NotAllowed_ReckonError : PySem.W.subIn K (.ref A1) (.ref A0) = some true)
    (uk_NotAllowed_TooLarge : PySem.W.subIn K (.ref A1) (.ref A2) = some false)
    (vk_NotAllowed_TooLarge : (Value.ref A1 == Value.ref A2) = false)
    (s_Missing_Missing : PySem.W.subIn K (.ref A3) (.ref A3) = some true)
    (s_Missing_NotAllowed : PySem.W.subIn K (.ref A3) (.ref A1) = some false)
    (s_NotAllowed_Missing : PySem.W.subIn K (.ref A1) (.ref A3) = some false)
    (s_NotAllowed_NotAllowed : PySem.W.subIn K (.ref A1) (.ref A1) = some true)
    (s_TooLarge_Missing : PySem.W.subIn K (.ref A2) (.ref A3) = some false)
    (s_TooLarge_NotAllowed : PySem.W.subIn K (.ref A2) (.ref A1) = some false)
    : ∃ fd : FuncData, (∀ (s : Shared) (v : Value), BindsTo s fd ⟨[v], []⟩ [("_law_script", v)]) ∧ ∀ base : Heap, K.In base → base.Ns mainGlobals mg → FnOk l.prog w K mg base CX0 61 fa fd ["_law_script"] (spLaw 63 K) := by
  have e := hfa.symm.trans (PySem.W.mg_of X G a41)
  cases e
  have F0 := fun_mk (st := s0) l0 c0 k0
  have T0 : Txt K mg "size_of" "size_of" s0 p0 := ⟨_, _, F0, PySem.W.mg_of X G a0, F0.binds (ps := p0) fun _ _ _ _ _ _ us hl => match us, hl with | [_], _ => rfl⟩
  have F1 := fun_mk (st := s1) l1 c1 k1
  have T1 : Txt K mg "height_of" "height_of" s1 p1 := ⟨_, _, F1, PySem.W.mg_of X G a1, F1.binds (ps := p1) fun _ _ _ _ _ _ us hl => match us, hl with | [_], _ => rfl⟩
  have F2 := fun_mk (st := s2) l2 c2 k2
  have T2 : Txt K mg "compare" "compare" s2 p2 := ⟨_, _, F2, PySem.W.mg_of X G a2, F2.binds (ps := p2) fun _ _ _ _ _ _ us hl => match us, hl with | [_, _], _ => rfl⟩
  have F3 := fun_mk (st := s3) l3 c3 k3
  have T3 : Txt K mg "sign_of" "sign_of" s3 p3 := ⟨_, _, F3, PySem.W.mg_of X G a3, F3.binds (ps := p3) fun _ _ _ _ _ _ us hl => match us, hl with | [_], _ => rfl⟩
  have F4 := fun_mk (st := s4) l4 c4 k4
  have T4 : Txt K mg "in_order" "in_order" s4 p4 := ⟨_, _, F4, PySem.W.mg_of X G a4, F4.binds (ps := p4) fun _ _ _ _ _ _ us hl => match us, hl with | [_], _ => rfl⟩
  have F5 := fun_mk (st := s5) l5 c5 k5
  have T5 : Txt K mg "gathered" "gathered" s5 p5 := ⟨_, _, F5, PySem.W.mg_of X G a5, F5.binds (ps := p5) fun _ _ _ _ _ _ us hl => match us, hl with | [_], _ => rfl⟩
  have F6 := fun_mk (st := s6) l6 c6 k6
  have T6 : Txt K mg "sign_at" "sign_at" s6 p6 := ⟨_, _, F6, PySem.W.mg_of X G a6, F6.binds (ps := p6) fun _ _ _ _ _ _ us hl => match us, hl with | [_, _, _, _], _ => rfl⟩
  have F7 := fun_mk (st := s7) l7 c7 k7
  have T7 : Txt K mg "next_of" "next_of" s7 p7 := ⟨_, _, F7, PySem.W.mg_of X G a7, F7.binds (ps := p7) fun _ _ _ _ _ _ us hl => match us, hl with | [_], _ => rfl⟩
  have F8 := fun_mk (st := s8) l8 c8 k8
  have T8 : Txt K mg "from_int" "from_int" s8 p8 := ⟨_, _, F8, PySem.W.mg_of X G a8, F8.binds (ps := p8) fun _ _ _ _ _ _ us hl => match us, hl with | [_], _ => rfl⟩
  have F9 := fun_mk (st := s9) l9 c9 k9
  have T9 : Txt K mg "is_allowed" "is_allowed" s9 p9 := ⟨_, _, F9, PySem.W.mg_of X G a9, F9.binds (ps := p9) fun _ _ _ _ _ _ us hl => match us, hl with | [_], _ => rfl⟩
  have F10 := fun_mk (st := s10) l10 c10 k10
  have T10 : Txt K mg "allowed" "allowed" s10 p10 := ⟨_, _, F10, PySem.W.mg_of X G a10, F10.binds (ps := p10) fun _ _ _ _ _ _ us hl => match us, hl with | [_], _ => rfl⟩
  have F11 := fun_mk (st := s11) l11 c11 k11
  have T11 : Txt K mg "of_int" "of_int" s11 p11 := ⟨_, _, F11, PySem.W.mg_of X G a11, F11.binds (ps := p11) fun _ _ _ _ _ _ us hl => match us, hl with | [_], _ => rfl⟩
  have F12 := fun_mk (st := s12) l12 c12 k12
  have T12 : Txt K mg "power_of_two" "power_of_two" s12 p12 := ⟨_, _, F12, PySem.W.mg_of X G a12, F12.binds (ps := p12) fun _ _ _ _ _ _ us hl => match us, hl with | [_], _ => rfl⟩
  have F13 := fun_mk (st := s13) l13 c13 k13
  have T13 : Txt K mg "to_int" "to_int" s13 p13 := ⟨_, _, F13, PySem.W.mg_of X G a13, F13.binds (ps := p13) fun _ _ _ _ _ _ us hl => match us, hl with | [_], _ => rfl⟩
  have F14 := fun_mk (st := s14) l14 c14 k14
  have T14 : Txt K mg "negate" "negate" s14 p14 := ⟨_, _, F14, PySem.W.mg_of X G a14, F14.binds (ps := p14) fun _ _ _ _ _ _ us hl => match us, hl with | [_], _ => rfl⟩
  have F15 := fun_mk (st := s15) l15 c15 k15
  have T15 : Txt K mg "plus" "plus" s15 p15 := ⟨_, _, F15, PySem.W.mg_of X G a15, F15.binds (ps := p15) fun _ _ _ _ _ _ us hl => match us, hl with | [_, _], _ => rfl⟩
  have F16 := fun_mk (st := s16) l16 c16 k16
  have T16 : Txt K mg "minus" "minus" s16 p16 := ⟨_, _, F16, PySem.W.mg_of X G a16, F16.binds (ps := p16) fun _ _ _ _ _ _ us hl => match us, hl with | [_, _], _ => rfl⟩
  have F17 := fun_mk (st := s17) l17 c17 k17
  have T17 : Txt K mg "check_place" "check_place" s17 p17 := ⟨_, _, F17, PySem.W.mg_of X G a17, F17.binds (ps := p17) fun _ _ _ _ _ _ us hl => match us, hl with | [_], _ => rfl⟩
  have F18 := fun_mk (st := s18) l18 c18 k18
  have T18 : Txt K mg "is_borrowed" "is_borrowed" s18 p18 := ⟨_, _, F18, PySem.W.mg_of X G a18, F18.binds (ps := p18) fun _ _ _ _ _ _ us hl => match us, hl with | [_, _], _ => rfl⟩
  have F19 := fun_mk (st := s19) l19 c19 k19
  have T19 : Txt K mg "floored" "floored" s19 p19 := ⟨_, _, F19, PySem.W.mg_of X G a19, F19.binds (ps := p19) fun _ _ _ _ _ _ us hl => match us, hl with | [_, _], _ => rfl⟩
  have F20 := fun_mk (st := s20) l20 c20 k20
  have T20 : Txt K mg "floor_shift" "floor_shift" s20 p20 := ⟨_, _, F20, PySem.W.mg_of X G a20, F20.binds (ps := p20) fun _ _ _ _ _ _ us hl => match us, hl with | [_, _], _ => rfl⟩
  have F21 := fun_mk (st := s21) l21 c21 k21
  have T21 : Txt K mg "digit" "digit" s21 p21 := ⟨_, _, F21, PySem.W.mg_of X G a21, F21.binds (ps := p21) fun _ _ _ _ _ _ us hl => match us, hl with | [_, _], _ => rfl⟩
  have F22 := fun_mk (st := s22) l22 c22 k22
  have T22 : Txt K mg "digit_at" "digit_at" s22 p22 := ⟨_, _, F22, PySem.W.mg_of X G a22, F22.binds (ps := p22) fun _ _ _ _ _ _ us hl => match us, hl with | [_, _], _ => rfl⟩
  have F23 := fun_mk (st := s23) l23 c23 k23
  have T23 : Txt K mg "length_of" "length_of" s23 p23 := ⟨_, _, F23, PySem.W.mg_of X G a23, F23.binds (ps := p23) fun _ _ _ _ _ _ us hl => match us, hl with | [_], _ => rfl⟩
  have F24 := fun_mk (st := s24) l24 c24 k24
  have T24 : Txt K mg "length" "length" s24 p24 := ⟨_, _, F24, PySem.W.mg_of X G a24, F24.binds (ps := p24) fun _ _ _ _ _ _ us hl => match us, hl with | [_], _ => rfl⟩
  have F25 := fun_mk (st := s25) l25 c25 k25
  have T25 : Txt K mg "low" "low" s25 p25 := ⟨_, _, F25, PySem.W.mg_of X G a25, F25.binds (ps := p25) fun _ _ _ _ _ _ us hl => match us, hl with | [_], _ => rfl⟩
  have F26 := fun_mk (st := s26) l26 c26 k26
  have T26 : Txt K mg "digits_from" "digits_from" s26 p26 := ⟨_, _, F26, PySem.W.mg_of X G a26, F26.binds (ps := p26) fun _ _ _ _ _ _ us hl => match us, hl with | [_, _, _], _ => rfl⟩
  have F27 := fun_mk (st := s27) l27 c27 k27
  have T27 : Txt K mg "check_modulus" "check_modulus" s27 p27 := ⟨_, _, F27, PySem.W.mg_of X G a27, F27.binds (ps := p27) fun _ _ _ _ _ _ us hl => match us, hl with | [_], _ => rfl⟩
  have F28 := fun_mk (st := s28) l28 c28 k28
  have T28 : Txt K mg "row_of_two" "row_of_two" s28 p28 := ⟨_, _, F28, PySem.W.mg_of X G a28, F28.binds (ps := p28) fun _ _ _ _ _ _ us hl => match us, hl with | [_], _ => rfl⟩
  have F29 := fun_mk (st := s29) l29 c29 k29
  have T29 : Txt K mg "remainder" "remainder" s29 p29 := ⟨_, _, F29, PySem.W.mg_of X G a29, F29.binds (ps := p29) fun _ _ _ _ _ _ us hl => match us, hl with | [_, _], _ => rfl⟩
  have F30 := fun_mk (st := s30) l30 c30 k30
  have T30 : Txt K mg "magnitude" "magnitude" s30 p30 := ⟨_, _, F30, PySem.W.mg_of X G a30, F30.binds (ps := p30) fun _ _ _ _ _ _ us hl => match us, hl with | [_], _ => rfl⟩
  have F31 := fun_mk (st := s31) l31 c31 k31
  have T31 : Txt K mg "lead" "lead" s31 p31 := ⟨_, _, F31, PySem.W.mg_of X G a31, F31.binds (ps := p31) fun _ _ _ _ _ _ us hl => match us, hl with | [_, _], _ => rfl⟩
  have F32 := fun_mk (st := s32) l32 c32 k32
  have T32 : Txt K mg "last_digits" "last_digits" s32 p32 := ⟨_, _, F32, PySem.W.mg_of X G a32, F32.binds (ps := p32) fun _ _ _ _ _ _ us hl => match us, hl with | [_, _], _ => rfl⟩
  have F33 := fun_mk (st := s33) l33 c33 k33
  have T33 : Txt K mg "_law_cell" "_law_cell" s33 p33 := ⟨_, _, F33, PySem.W.mg_of X G a33, F33.binds (ps := p33) fun _ _ _ _ _ _ us hl => match us, hl with | [_, _], _ => rfl⟩
  have F34 := fun_mk (st := s34) l34 c34 k34
  have T34 : Txt K mg "_law_numbers" "_law_numbers" s34 p34 := ⟨_, _, F34, PySem.W.mg_of X G a34, F34.binds (ps := p34) fun _ _ _ _ _ _ us hl => match us, hl with | [_, _, _], _ => rfl⟩
  have F35 := fun_mk (st := s35) l35 c35 k35
  have T35 : Txt K mg "_law_plain" "_law_plain" s35 p35 := ⟨_, _, F35, PySem.W.mg_of X G a35, F35.binds (ps := p35) fun _ _ _ _ _ _ us hl => match us, hl with | [_, _, _], _ => rfl⟩
  have F36 := fun_mk (st := s36) l36 c36 k36
  have T36 : Txt K mg "_law_low" "_law_low" s36 p36 := ⟨_, _, F36, PySem.W.mg_of X G a36, F36.binds (ps := p36) fun _ _ _ _ _ _ us hl => match us, hl with | [_], _ => rfl⟩
  have F37 := fun_mk (st := s37) l37 c37 k37
  have T37 : Txt K mg "_law_lead" "_law_lead" s37 p37 := ⟨_, _, F37, PySem.W.mg_of X G a37, F37.binds (ps := p37) fun _ _ _ _ _ _ us hl => match us, hl with | [_, _], _ => rfl⟩
  have F38 := fun_mk (st := s38) l38 c38 k38
  have T38 : Txt K mg "_law_refused" "_law_refused" s38 p38 := ⟨_, _, F38, PySem.W.mg_of X G a38, F38.binds (ps := p38) fun _ _ _ _ _ _ us hl => match us, hl with | [_, _], _ => rfl⟩
  have F39 := fun_mk (st := s39) l39 c39 k39
  have T39 : Txt K mg "_law_agrees" "_law_agrees" s39 p39 := ⟨_, _, F39, PySem.W.mg_of X G a39, F39.binds (ps := p39) fun _ _ _ _ _ _ us hl => match us, hl with | [_, _], _ => rfl⟩
  have F40 := fun_mk (st := s40) l40 c40 k40
  have T40 : Txt K mg "_law_lowest" "_law_lowest" s40 p40 := ⟨_, _, F40, PySem.W.mg_of X G a40, F40.binds (ps := p40) fun _ _ _ _ _ _ us hl => match us, hl with | [_], _ => rfl⟩
  have FL := fun_mk (st := s41) l41 c41 k41
  refine ⟨PySem.W.fnOf "law" "law" (defArgs s41) (defBody s41) (defScope s41) .none kV41 dc41 pm41 an41 cd41 ct41, fun s v => .of_eq rfl, fun base _ _ => ?_⟩
  have hcl : Cls K Cl := ⟨cpg, chd, cpo, csa⟩
  have FI := fun_mk (st := sI) lI cI kI
  have FM42 := fun_mk (st := s42) l42 c42 k42
  have TM42 : TxtM K Cl "row" "Powers.row" s42 p42 := ⟨_, _, FM42, FM42.binds (ps := p42) fun _ _ _ _ _ _ us hl => match us, hl with | [_, _], _ => rfl, ⟨a42, i42, k42⟩⟩
  have FM43 := fun_mk (st := s43) l43 c43 k43
  have TM43 : TxtM K Cl "power" "Powers.power" s43 p43 := ⟨_, _, FM43, FM43.binds (ps := p43) fun _ _ _ _ _ _ us hl => match us, hl with | [_, _, _], _ => rfl, ⟨a43, i43, k43⟩⟩
  have FM44 := fun_mk (st := s44) l44 c44 k44
  have TM44 : TxtM K Cl "number" "Powers.number" s44 p44 := ⟨_, _, FM44, FM44.binds (ps := p44) fun _ _ _ _ _ _ us hl => match us, hl with | [_, _, _], _ => rfl, ⟨a44, i44, k44⟩⟩
  have TC : TxtC l.prog w K mg base Cl "Powers" := ⟨hcl, ⟨_, _, okInit FI hcl cnA, FI.binds (ps := ["self"]) fun _ _ _ _ _ _ us hl => match us, hl with | [_], _ => rfl, ⟨cmk, aI, iI, ckc⟩⟩, PySem.W.mg_of X G aC⟩
  obtain ⟨hf_size_of, hf_height_of, hf_compare, hf_sign_of, hf_in_order, hf_gathered, hf_sign_at, hf_next_of, hf_from_int, hf_is_allowed, hf_allowed, hf_of_int, hf_power_of_two, hf_to_int, hf_negate, hf_plus, hf_minus, hf_check_place, hf_is_borrowed, hf_floored, hf_floor_shift, hf_digit, hf_digit_at, hf_length_of, hf_length, hf_low, hf_digits_from, hf_check_modulus, hf_row_of_two, hf_remainder, hf_magnitude, hf_lead, hf_last_digits, hf__law_cell, hf__law_numbers, hf__law_plain, hf__law_low, hf__law_lead, hf__law_refused, hf__law_agrees, hf__law_lowest, m_row, hm_power, hm_number⟩ := all_good (pr := l.prog) (w := w) (K := K) (mg := mg) (base := base) (ca := fun i => [A0, A1, A2, A3].getD i 0) (Cl := Cl) (rv := rowD) (F := 20000) (PySem.W.mg_none_of X G z_abs) (PySem.W.mg_none_of X G z_int) (PySem.W.mg_none_of X G z_isinstance) (PySem.W.mg_none_of X G z_len) (PySem.W.mg_none_of X G z_list) (PySem.W.mg_none_of X G z_max) (PySem.W.mg_none_of X G z_min) (PySem.W.mg_none_of X G z_range) (PySem.W.mg_none_of X G z_sum) (PySem.W.mg_none_of X G z_tuple) (PySem.W.mg_none_of X G z_zip) (PySem.W.mg_of X G y_MAX_BINARY) (PySem.W.mg_of X G y_MAX_COUNT) (PySem.W.mg_of X G y_MAX_DIGITS) (PySem.W.mg_of X G y_MAX_HEIGHT) (PySem.W.mg_of X G y_MAX_LAST) (PySem.W.mg_of X G y_MAX_LEAD) (PySem.W.mg_of X G y_MAX_MODULUS) (PySem.W.mg_of X G y_MAX_SIZE) (PySem.W.mg_of X G y_TENS) ⟨⟨PySem.W.mg_of X G xa3, xe3, xk3, xb3, xt3⟩, xd3, ⟨xg3, xh3, xb3, xd3, xc3, xn, xo, xm3⟩⟩ ⟨⟨PySem.W.mg_of X G xa1, xe1, xk1, xb1, xt1⟩, xd1, ⟨xg1, xh1, xb1, xd1, xc1, xn, xo, xm1⟩⟩ ⟨⟨PySem.W.mg_of X G xa0, xe0, xk0, xb0, xt0⟩, xd0, ⟨xg0, xh0, xb0, xd0, xc0, xn, xo, xm0⟩⟩ ⟨⟨PySem.W.mg_of X G xa2, xe2, xk2, xb2, xt2⟩, xd2, ⟨xg2, xh2, xb2, xd2, xc2, xn, xo, xm2⟩⟩ (kit_f xd1 xt1 uk_Missing_NotAllowed vk_Missing_NotAllowed) (kit_t xd0 xt0 uk_Missing_ReckonError) (kit_f xd3 xt3 uk_NotAllowed_Missing vk_NotAllowed_Missing) (kit_t xd0 xt0 uk_NotAllowed_ReckonError) (kit_f xd2 xt2 uk_NotAllowed_TooLarge vk_NotAllowed_TooLarge) s_Missing_Missing s_Missing_NotAllowed s_NotAllowed_Missing s_NotAllowed_NotAllowed s_TooLarge_Missing s_TooLarge_NotAllowed (fun av H => .tuple (xs := [.int (1), .int (10), .int (100), .int (1000), .int (10000)]) (.inr ⟨_, _, _, qa_TENS, rfl, rfl, by show 5 ≤ sizeLine; decide, (.cons ⟨_, rfl⟩ (.cons ⟨_, rfl⟩ (.cons ⟨_, rfl⟩ (.cons ⟨_, rfl⟩ (.cons ⟨_, rfl⟩ .nil)))))⟩) (.cons (.int _) (.cons (.int _) (.cons (.int _) (.cons (.int _) (.cons (.int _) .nil)))))) T0 T1 T2 T3 T4 T5 T6 T7 T8 T9 T10 T11 T12 T13 T14 T15 T16 T17 T18 T19 T20 T21 T22 T23 T24 T25 T26 T27 T28 T29 T30 T31 T32 T33 T34 T35 T36 T37 T38 T39 T40 hcl cnA TC TM42 TM43 TM44 row_law rowD_flat 60
  exact law_ok FL sc41 rfl rfl rfl (by decide) (w41 (PySem.W.mg_of X G y_MAX_COUNT) (PySem.W.mg_of X G y_MAX_LAST) (PySem.W.mg_of X G y_MAX_LEAD) hf__law_agrees hf__law_cell hf__law_lowest hf__law_numbers hf__law_plain hf__law_refused (PySem.W.mg_none_of X G z_int) (PySem.W.mg_none_of X G z_len) (PySem.W.mg_none_of X G z_max) (PySem.W.mg_none_of X G z_min) (PySem.W.mg_none_of X G z_range)) pure_law
end My
open PySem PySem.W PyProof.Rows
set_option maxHeartbeats 0 in
theorem PySem.Challenge.cw_sandreckoner_k17_digits_of_plain_numbers_holds : PySem.Challenge.rw_sandreckoner_k17_digits_of_plain_numbers.Holds := by
  w_on; o_law; k_head; (case hw => w_witness2)
  k_fill
  refine L2.walk_of (l := PySem.Challenge.rw_sandreckoner_k17_digits_of_plain_numbers) (n := 63) (k := 61) (x := "_law_script") (CX := fun _ => L2.CX0) (sp := fun w => Rf.spLaw 63 _) rfl (by decide) rfl ⟨rfl, by decide, by decide⟩ (fun w h Y => PySem.W.kIn_of Y) ?F (fun _ _ a ns hl _ hS => ⟨a, ns, rfl, hS, hl, fun _ => rfl⟩) (fun _ _ _ _ _ h => h)
  case F =>
    intro w mg fa h KX G hmg
    refine' My.all_mk KX G hmg ?a0 ?l0 ?c0 ?k0 ?a1 ?l1 ?c1 ?k1 ?a2 ?l2 ?c2 ?k2 ?a3 ?l3 ?c3 ?k3 ?a4 ?l4 ?c4 ?k4 ?a5 ?l5 ?c5 ?k5 ?a6 ?l6 ?c6 ?k6 ?a7 ?l7 ?c7 ?k7 ?a8 ?l8 ?c8 ?k8 ?a9 ?l9 ?c9 ?k9 ?a10 ?l10 ?c10 ?k10 ?a11 ?l11 ?c11 ?k11 ?a12 ?l12 ?c12 ?k12 ?a13 ?l13 ?c13 ?k13 ?a14 ?l14 ?c14 ?k14 ?a15 ?l15 ?c15 ?k15 ?a16 ?l16 ?c16 ?k16 ?a17 ?l17 ?c17 ?k17 ?a18 ?l18 ?c18 ?k18 ?a19 ?l19 ?c19 ?k19 ?a20 ?l20 ?c20 ?k20 ?a21 ?l21 ?c21 ?k21 ?a22 ?l22 ?c22 ?k22 ?a23 ?l23 ?c23 ?k23 ?a24 ?l24 ?c24 ?k24 ?a25 ?l25 ?c25 ?k25 ?a26 ?l26 ?c26 ?k26 ?a27 ?l27 ?c27 ?k27 ?a28 ?l28 ?c28 ?k28 ?a29 ?l29 ?c29 ?k29 ?a30 ?l30 ?c30 ?k30 ?a31 ?l31 ?c31 ?k31 ?a32 ?l32 ?c32 ?k32 ?a33 ?l33 ?c33 ?k33 ?a34 ?l34 ?c34 ?k34 ?a35 ?l35 ?c35 ?k35 ?a36 ?l36 ?c36 ?k36 ?a37 ?l37 ?c37 ?k37 ?a38 ?l38 ?c38 ?k38 ?a39 ?l39 ?c39 ?k39 ?a40 ?l40 ?c40 ?k40 ?a41 ?l41 ?c41 ?k41 ?z_abs ?z_int ?z_isinstance ?z_len ?z_list ?z_max ?z_min ?z_range ?z_sum ?z_tuple ?z_zip ?aC ?cpg ?chd ?cpo ?csa ?cmk ?ckc ?cnA ?aI ?iI ?lI ?cI ?kI ?a42 ?i42 ?l42 ?c42 ?k42 ?a43 ?i43 ?l43 ?c43 ?k43 ?a44 ?i44 ?l44 ?c44 ?k44 ?y_MAX_BINARY ?y_MAX_COUNT ?y_MAX_DIGITS ?y_MAX_HEIGHT ?y_MAX_LAST ?y_MAX_LEAD ?y_MAX_MODULUS ?y_MAX_SIZE ?y_TENS ?qa_TENS ?xa0 ?xe0 ?xk0 ?xb0 ?xt0 ?xd0 ?xg0 ?xh0 ?xc0 ?xm0 ?xa1 ?xe1 ?xk1 ?xb1 ?xt1 ?xd1 ?xg1 ?xh1 ?xc1 ?xm1 ?xa2 ?xe2 ?xk2 ?xb2 ?xt2 ?xd2 ?xg2 ?xh2 ?xc2 ?xm2 ?xa3 ?xe3 ?xk3 ?xb3 ?xt3 ?xd3 ?xg3 ?xh3 ?xc3 ?xm3 ?xn ?xo ?uk_Missing_NotAllowed ?vk_Missing_NotAllowed ?uk_Missing_ReckonError ?uk_NotAllowed_Missing ?vk_NotAllowed_Missing ?uk_NotAllowed_ReckonError ?uk_NotAllowed_TooLarge ?vk_NotAllowed_TooLarge ?s_Missing_Missing ?s_Missing_NotAllowed ?s_NotAllowed_Missing ?s_NotAllowed_NotAllowed ?s_TooLarge_Missing ?s_TooLarge_NotAllowed
    (case a0 => k_is); (case l0 => k_is); (case c0 => k_is); (case k0 => k_is); (case a1 => k_is); (case l1 => k_is); (case c1 => k_is); (case k1 => k_is); (case a2 => k_is); (case l2 => k_is); (case c2 => k_is); (case k2 => k_is); (case a3 => k_is); (case l3 => k_is); (case c3 => k_is); (case k3 => k_is); (case a4 => k_is); (case l4 => k_is); (case c4 => k_is); (case k4 => k_is); (case a5 => k_is); (case l5 => k_is); (case c5 => k_is); (case k5 => k_is); (case a6 => k_is); (case l6 => k_is); (case c6 => k_is); (case k6 => k_is); (case a7 => k_is); (case l7 => k_is); (case c7 => k_is); (case k7 => k_is); (case a8 => k_is); (case l8 => k_is); (case c8 => k_is); (case k8 => k_is); (case a9 => k_is); (case l9 => k_is); (case c9 => k_is); (case k9 => k_is); (case a10 => k_is); (case l10 => k_is); (case c10 => k_is); (case k10 => k_is); (case a11 => k_is); (case l11 => k_is); (case c11 => k_is); (case k11 => k_is); (case a12 => k_is); (case l12 => k_is); (case c12 => k_is); (case k12 => k_is); (case a13 => k_is); (case l13 => k_is); (case c13 => k_is); (case k13 => k_is); (case a14 => k_is); (case l14 => k_is); (case c14 => k_is); (case k14 => k_is); (case a15 => k_is); (case l15 => k_is); (case c15 => k_is); (case k15 => k_is); (case a16 => k_is); (case l16 => k_is); (case c16 => k_is); (case k16 => k_is); (case a17 => k_is); (case l17 => k_is); (case c17 => k_is); (case k17 => k_is); (case a18 => k_is); (case l18 => k_is); (case c18 => k_is); (case k18 => k_is); (case a19 => k_is); (case l19 => k_is); (case c19 => k_is); (case k19 => k_is); (case a20 => k_is); (case l20 => k_is); (case c20 => k_is); (case k20 => k_is); (case a21 => k_is); (case l21 => k_is); (case c21 => k_is); (case k21 => k_is); (case a22 => k_is); (case l22 => k_is); (case c22 => k_is); (case k22 => k_is); (case a23 => k_is); (case l23 => k_is); (case c23 => k_is); (case k23 => k_is); (case a24 => k_is); (case l24 => k_is); (case c24 => k_is); (case k24 => k_is); (case a25 => k_is); (case l25 => k_is); (case c25 => k_is); (case k25 => k_is); (case a26 => k_is); (case l26 => k_is); (case c26 => k_is); (case k26 => k_is); (case a27 => k_is); (case l27 => k_is); (case c27 => k_is); (case k27 => k_is); (case a28 => k_is); (case l28 => k_is); (case c28 => k_is); (case k28 => k_is); (case a29 => k_is); (case l29 => k_is); (case c29 => k_is); (case k29 => k_is); (case a30 => k_is); (case l30 => k_is); (case c30 => k_is); (case k30 => k_is); (case a31 => k_is); (case l31 => k_is); (case c31 => k_is); (case k31 => k_is); (case a32 => k_is); (case l32 => k_is); (case c32 => k_is); (case k32 => k_is); (case a33 => k_is); (case l33 => k_is); (case c33 => k_is); (case k33 => k_is); (case a34 => k_is); (case l34 => k_is); (case c34 => k_is); (case k34 => k_is); (case a35 => k_is); (case l35 => k_is); (case c35 => k_is); (case k35 => k_is); (case a36 => k_is); (case l36 => k_is); (case c36 => k_is); (case k36 => k_is); (case a37 => k_is); (case l37 => k_is); (case c37 => k_is); (case k37 => k_is); (case a38 => k_is); (case l38 => k_is); (case c38 => k_is); (case k38 => k_is); (case a39 => k_is); (case l39 => k_is); (case c39 => k_is); (case k39 => k_is); (case a40 => k_is); (case l40 => k_is); (case c40 => k_is); (case k40 => k_is); (case a41 => k_is); (case l41 => k_is); (case c41 => k_is); (case k41 => k_is); (case z_abs => k_is); (case z_int => k_is); (case z_isinstance => k_is); (case z_len => k_is); (case z_list => k_is); (case z_max => k_is); (case z_min => k_is); (case z_range => k_is); (case z_sum => k_is); (case z_tuple => k_is); (case z_zip => k_is); (case aC => k_is); (case cpg => k_is); (case chd => k_is); (case cpo => k_is); (case csa => k_is); (case cmk => k_is); (case ckc => k_is); (case cnA => k_is); (case aI => k_is); (case iI => k_is); (case lI => k_is); (case cI => k_is); (case kI => k_is); (case a42 => k_is); (case i42 => k_is); (case l42 => k_is); (case c42 => k_is); (case k42 => k_is); (case a43 => k_is); (case i43 => k_is); (case l43 => k_is); (case c43 => k_is); (case k43 => k_is); (case a44 => k_is); (case i44 => k_is); (case l44 => k_is); (case c44 => k_is); (case k44 => k_is); (case y_MAX_BINARY => k_is); (case y_MAX_COUNT => k_is); (case y_MAX_DIGITS => k_is); (case y_MAX_HEIGHT => k_is); (case y_MAX_LAST => k_is); (case y_MAX_LEAD => k_is); (case y_MAX_MODULUS => k_is); (case y_MAX_SIZE => k_is); (case y_TENS => k_is); (case qa_TENS => k_is); (case xa0 => k_is); (case xe0 => k_exc); (case xk0 => k_is); (case xb0 => k_is); (case xt0 => k_is); (case xd0 => k_is); (case xg0 => k_is); (case xh0 => k_is); (case xc0 => k_is); (case xm0 => k_is); (case xa1 => k_is); (case xe1 => k_exc); (case xk1 => k_is); (case xb1 => k_is); (case xt1 => k_is); (case xd1 => k_is); (case xg1 => k_is); (case xh1 => k_is); (case xc1 => k_is); (case xm1 => k_is); (case xa2 => k_is); (case xe2 => k_exc); (case xk2 => k_is); (case xb2 => k_is); (case xt2 => k_is); (case xd2 => k_is); (case xg2 => k_is); (case xh2 => k_is); (case xc2 => k_is); (case xm2 => k_is); (case xa3 => k_is); (case xe3 => k_exc); (case xk3 => k_is); (case xb3 => k_is); (case xt3 => k_is); (case xd3 => k_is); (case xg3 => k_is); (case xh3 => k_is); (case xc3 => k_is); (case xm3 => k_is); (case xn => k_is); (case xo => k_is); (case uk_Missing_NotAllowed => k_is); (case vk_Missing_NotAllowed => rfl); (case uk_Missing_ReckonError => k_is); (case uk_NotAllowed_Missing => k_is); (case vk_NotAllowed_Missing => rfl); (case uk_NotAllowed_ReckonError => k_is); (case uk_NotAllowed_TooLarge => k_is); (case vk_NotAllowed_TooLarge => rfl); (case s_Missing_Missing => k_is); (case s_Missing_NotAllowed => k_is); (case s_NotAllowed_Missing => k_is); (case s_NotAllowed_NotAllowed => k_is); (case s_TooLarge_Missing => k_is); (case s_TooLarge_NotAllowed => k_is)
