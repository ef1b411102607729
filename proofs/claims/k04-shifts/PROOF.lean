import PyProof.Rows.All
import KE.KeyNested
import HandS.Dict
import HandS.ForMost
import HandS.Exc
import HandS.TryOnly
import HandS.TryMany
import HandS.ExcOwn
import HandS.WordsExc
import HandS.Style
import HandS.Wide
import HandS.WideBits
import HandS.WideMore
import HandS.More
import HandS.Conv
import HandS.Zip
import HandS.SortInts
import HandS.IsInst
import HandS.TupAny
import HandS.HotCalls
import HandS.Comp
import HandS.List
import HandS.ExcCtx
import HandS.ExcIs
import PySem.Challenge.RW_sandreckoner_k04_shifts
set_option Elab.async false
set_option linter.all false
set_option maxRecDepth 100000
set_option maxHeartbeats 1000000
/-! Rn, part A: a dict's look-up where the keys are tuples nested to any depth, no two of them with one hash. -/
namespace Rf
open PySem
section
variable {prog : Program} {w : World} {A : Around} {E : Value → Shared → Prop} {s : Shared}
/-- the question whether == is quiet has some answer, and changes nothing -/
def AnyQuiet (prog : Program) (w : World) (n : Nat) (s : Shared) (v : Value) : Prop :=
  ∀ (A : Around) (E : Value → Shared → Prop) (Q : Bool → Shared → Prop), (∀ b, Q b s) → wpAny (model prog w) A (eqIsQuiet n v) Q E s
theorem anyq_tup {n : Nat} {a : Addr} {o : Obj} {vs : Array Value} {m : Nat} (go : s.heap.get? a = some o) (gc : o.cls = .type "tuple") (gd : o.data = .seq vs m)
    (hall : ∀ k, n = k + 1 → ∀ v ∈ vs.toList, AnyQuiet prog w k s v) : AnyQuiet prog w n s (.ref a) := fun A E Q q => by
  have T : s.TypeIs (.ref a) "tuple" := ⟨o, go, gc⟩
  unfold eqIsQuiet
  refine wpAny_bind (wpAny_specialOf T F.slot_tuple_eq.lookup ?_)
  change wpAny _ _ (isInstance (.ref a) (.type "tuple") >>= _) _ _ s
  refine wpAny_bind (wpAny_isInstance T isSubtype_tuple_tuple ?_)
  simp only [Bool.not_true, Bool.false_eq_true, if_false]
  cases n with
  | zero => exact wpAny_pure (q false)
  | succ k =>
    refine wpAny_bind (wpAny_seqItems go gd ?_)
    refine wpAny_bind ?_
    change wpAny _ _ (forIn vs _ _) _ _ s
    rw [← Array.forIn_toList]
    refine wpAny_forIn_list _ (fun rest r t => (r.1 = none ∧ t = s) ∧ ∀ v ∈ rest, AnyQuiet prog w k s v) _ ?_ ?_ _ _ ⟨⟨rfl, rfl⟩, hall k rfl⟩
    · rintro v rest r t ⟨⟨hr, rfl⟩, al⟩
      refine wpAny_bind (al v List.mem_cons_self _ _ _ fun b => ?_)
      cases b with
      | true =>
        simp only [Bool.not_true, Bool.false_eq_true, if_false]
        exact wpAny_pure ⟨⟨rfl, rfl⟩, fun u hu => al u (List.mem_cons_of_mem _ hu)⟩
      | false =>
        simp only [Bool.not_false, if_true]
        exact wpAny_pure (wpAny_pure (q false))
    · rintro ⟨r1, r2⟩ t ⟨⟨hr, rfl⟩, _⟩
      simp only at hr
      subst hr
      exact wpAny_pure (q true)
mutual
theorem anyq_key : ∀ (k : NestedKey) (v : Value) (n : Nat), NestedIs s.heap k v → AnyQuiet prog w n s v
  | .none, _, n, x => by cases x; exact fun A E Q q => by rw [eqIsQuiet_byValue n rfl]; exact wpAny_pure (q true)
  | .num i, _, n, x => by cases x <;> exact fun A E Q q => by rw [eqIsQuiet_byValue n rfl]; exact wpAny_pure (q true)
  | .text y, _, n, x => by cases x; exact fun A E Q q => by rw [eqIsQuiet_byValue n rfl]; exact wpAny_pure (q true)
  | .tup ks, _, n, x => by
    cases x with
    | tup g1 g2 g3 g4 => exact anyq_tup g1 g2 g3 fun k _ => anyq_keys ks _ k g4
theorem anyq_keys : ∀ (ks : List NestedKey) (vs : List Value) (n : Nat), NestedAll s.heap ks vs → ∀ v ∈ vs, AnyQuiet prog w n s v
  | [], _, n, x, v, hv => by cases x; cases hv
  | k :: ks, _, n, x, v, hv => by
    cases x with
    | cons x1 x2 =>
      rcases List.mem_cons.mp hv with e | hv
      · rw [e]; exact anyq_key k _ n x1
      · exact anyq_keys ks _ n x2 v hv
end
theorem tells_any {a : Addr} {k : NestedKey} {stored : List Value} {Q : Bool → Shared → Prop} (hk : NestedIs s.heap k (.ref a)) (hs : ∀ v ∈ stored, ∃ k', NestedIs s.heap k' v) (q : ∀ b, Q b s) :
    wpAny (model prog w) A (tableMayTell (.ref a) stored) Q E s := by
  unfold tableMayTell
  split
  · exact wpAny_pure (q false)
  · refine wpAny_bind (anyq_key k _ 8 hk _ _ _ fun b => ?_)
    cases b with
    | false =>
      simp only [Bool.not_false, if_true]
      exact wpAny_pure (q true)
    | true =>
      simp only [Bool.not_true, Bool.false_eq_true, if_false]
      refine wpAny_bind ?_
      refine wpAny_forIn_list _ (fun rest r t => (t = s ∧ r = (none, ())) ∧ ∀ v ∈ rest, ∃ k', NestedIs s.heap k' v) _ ?_ ?_ _ _ ⟨⟨rfl, rfl⟩, hs⟩
      · rintro x rest r t ⟨⟨rfl, rfl⟩, al⟩
        obtain ⟨k', hk'⟩ := al x List.mem_cons_self
        refine wpAny_bind (anyq_key k' _ 8 hk' _ _ _ fun b => ?_)
        cases b with
        | false =>
          simp only [Bool.not_false, if_true]
          exact wpAny_pure (wpAny_pure (q true))
        | true =>
          simp only [Bool.not_true, Bool.false_eq_true, if_false]
          exact wpAny_pure ⟨⟨rfl, rfl⟩, fun v hv => al v (List.mem_cons_of_mem _ hv)⟩
      · rintro r t ⟨⟨rfl, rfl⟩, _⟩
        exact wpAny_pure (q false)
/-- an entry's key stands in the heap as a key with its hash -/
def EntOk (w : World) (h : Heap) (e : DictEntry) : Prop := ∃ (k : NestedKey) (b : Addr), e.key = .ref b ∧ NestedIs h k (.ref b) ∧ e.hash = k.hash w
/-- the places of a hash -/
abbrev spots (es : Array DictEntry) (h : Int) : List Nat := (List.range es.size).filter fun i => (es[i]?.map (·.hash)) == some h
theorem find_n {d a : Addr} {o : Obj} {es : Array DictEntry} {ep : Nat} {k0 : NestedKey} {Q : Option Nat → Shared → Prop} (ho : s.heap.get? d = some o) (hd : o.data = .dict es ep)
    (hes : ∀ e ∈ es, EntOk w s.heap e) (hk : NestedIs s.heap k0 (.ref a)) (hu : A.units + k0.depth < cLine)
    (hn : spots es (k0.hash w) = [] → Q none s)
    (h1 : ∀ j, spots es (k0.hash w) = [j] → ∃ e k b, es[j]? = some e ∧ e.key = .ref b ∧ NestedIs s.heap k (.ref b) ∧ e.hash = k0.hash w ∧ k = k0 ∧ Q (some j) s)
    (hfew : spots es (k0.hash w) = [] ∨ ∃ j, spots es (k0.hash w) = [j]) :
    wpAny (model prog w) A (dictFind d (.ref a) (k0.hash w)) Q E s := by
  have hany : ¬ (es.any fun e => e.key == Value.ref a && e.hash != k0.hash w) = true := by
    rw [← Array.any_toList, List.any_eq_true]
    rintro ⟨e, he, hc⟩
    obtain ⟨k, b, e1, e2, e3⟩ := hes e (Array.mem_toList_iff.mp he)
    rw [Bool.and_eq_true, e1, beq_iff_eq, bne_iff_ne] at hc
    obtain ⟨hba, hne⟩ := hc
    cases hba
    exact hne (by rw [e3, NestedIs.inj _ _ _ e2 hk])
  have hpl : placesWithHash es.size (fun i => es[i]?.map (·.hash)) (k0.hash w) = spots es (k0.hash w) := rfl
  unfold dictFind
  try with_reducible refine wpAny_holding ?_
  refine wpAny_bind (wpAny_dictEntries ho hd ?_)
  dsimp only
  rw [hpl]
  rw [if_neg (show ¬ ((Value.ref a :: (spots es (k0.hash w)).filterMap fun i => es[i]?.map (·.key)).all carriedByValue) = true by simp [carriedByValue])]
  rw [if_neg hany]
  generalize hst : (spots es (k0.hash w)).filterMap (fun i => es[i]?.map (·.key)) = stored
  generalize hsp : spots es (k0.hash w) = places at *
  rcases hfew with q0 | ⟨j, qj⟩
  · subst q0
    obtain rfl : stored = [] := hst.symm
    by_cases hone : (([] : List Value) == [Value.ref a]) = true
    · exact absurd hone (by simp)
    · rw [if_neg hone]
      refine wpAny_bind ?_
      unfold tableMayTell
      rw [if_pos (show ([] : List Value).isEmpty = true from rfl)]
      refine wpAny_pure ?_
      rw [if_neg (by simp)]
      refine wpAny_bind ?_
      simp only [List.forIn_nil]
      exact wpAny_pure (wpAny_pure (hn rfl))
  · obtain ⟨e, k, b, g1, g2, g3, g4, rfl, q⟩ := h1 j qj
    subst qj
    obtain rfl : stored = [Value.ref b] := by rw [← hst]; simp [g1, g2]
    have hs1 : ∀ v ∈ [Value.ref b], ∃ k', NestedIs s.heap k' v := fun v hv => by rw [List.mem_singleton] at hv; subst hv; exact ⟨_, g3⟩
    by_cases hone : ([Value.ref b] == [Value.ref a]) = true <;>
    (first | rw [if_pos hone] | rw [if_neg hone]) <;> (first | refine wpAny_bind (wpAny_pure ?_) | refine wpAny_bind (tells_any hk hs1 fun tells => ?_)) <;> (
      rw [if_neg (by simp)]
      refine wpAny_bind ?_
      simp only [List.forIn_cons, List.forIn_nil, g1]
      refine wpAny_bind ?_
      rw [if_pos (by rw [g4]; exact beq_self_eq_true _)]
      refine wpAny_bind (wpAny_dictEpoch ho hd (wpAny_bind ?_))
      rw [g2]
      refine eqAt_key k k A s _ _ g3 hk (by omega) _ _ _ _ ?_
      rw [NestedKey.beq_self]
      refine wpAny_bind (wpAny_dictEpoch ho hd ?_)
      rw [if_neg (by simp)]
      simp only [if_true, Option.isSome_none, Bool.false_eq_true, if_false]
      first | refine wpAny_bind (wpAny_pure ?_) | skip
      refine wpAny_bind (wpAny_rule ?_)
      split
      · exact wpAny_pure (wpAny_pure (wpAny_pure q))
      · rename_i hc; exact absurd (by simp) hc)
end
end Rf

set_option Elab.async false
set_option linter.all false
set_option maxRecDepth 100000
set_option maxHeartbeats 1000000
/-! Rn, part B: get and set at such a key. -/
namespace Rf
open PySem
section
variable {α : Type} (f : α → Int) (h : Int)
def spotL (l : List α) : List Nat := (List.range l.length).filter fun i => (l[i]?.map f) == some h
theorem spotL_snoc (l : List α) (x : α) : spotL f h (l ++ [x]) = spotL f h l ++ if f x == h then [l.length] else [] := by
  unfold spotL
  rw [List.length_append, List.length_singleton, List.range_succ, List.filter_append]
  congr 1
  · refine List.filter_congr fun i hi => ?_
    rw [List.getElem?_append_left (List.mem_range.mp hi)]
  · rw [List.filter_cons, List.filter_nil, List.getElem?_append_right (Nat.le_refl _), Nat.sub_self]
    simp
theorem spotL_rev : ∀ r : List α, (spotL f h r.reverse).map (fun i => r.reverse[i]?) = (r.reverse.filter fun x => f x == h).map some
  | [] => rfl
  | x :: r => by
    have ih := spotL_rev r
    rw [List.reverse_cons]
    generalize r.reverse = l at *
    rw [spotL_snoc, List.map_append, List.filter_append, List.map_append, ← ih]
    congr 1
    · refine List.map_congr_left fun i hi => ?_
      have : i < l.length := List.mem_range.mp (List.mem_filter.mp hi).1
      rw [List.getElem?_append_left this]
    · by_cases e : (f x == h) = true
      · rw [if_pos e, List.filter_cons, if_pos e]; simp
      · rw [if_neg e, List.filter_cons, if_neg e]; simp
theorem spotL_map (l : List α) : (spotL f h l).map (fun i => l[i]?) = (l.filter fun x => f x == h).map some := by
  have := spotL_rev f h l.reverse
  rw [List.reverse_reverse] at this
  exact this
theorem spotL_nil {l : List α} (e : l.filter (fun x => f x == h) = []) : spotL f h l = [] := by
  have := spotL_map f h l
  rw [e, List.map_nil, List.map_eq_nil_iff] at this
  exact this
theorem spotL_one {l : List α} {x : α} (e : l.filter (fun x => f x == h) = [x]) : ∃ j, spotL f h l = [j] ∧ l[j]? = some x := by
  have q := spotL_map f h l
  rw [e] at q
  cases hs : spotL f h l with
  | nil => rw [hs] at q; cases q
  | cons j r =>
    rw [hs] at q
    cases r with
    | nil => exact ⟨j, rfl, by simpa using q⟩
    | cons _ _ => simp at q
theorem modify_one {g : α → α} : ∀ {l : List α} {x : α} {j : Nat}, l.filter (fun x => f x == h) = [x] → l[j]? = some x → l.modify j g = l.map fun y => if f y == h then g y else y
  | [], _, _, e, _ => by simp at e
  | y :: l, x, j, e, hj => by
    have hx : (f x == h) = true := by
      have : x ∈ (y :: l).filter (fun x => f x == h) := by rw [e]; exact List.mem_singleton.mpr rfl
      exact (List.mem_filter.mp this).2
    by_cases hy : (f y == h) = true
    · rw [List.filter_cons, if_pos hy] at e
      injection e with e1 e2
      have none : ∀ z ∈ l, ¬ (f z == h) = true := fun z hz => by
        have := List.filter_eq_nil_iff.mp e2 z hz
        exact this
      have j0 : j = 0 := by
        cases j with
        | zero => rfl
        | succ k =>
          rw [List.getElem?_cons_succ] at hj
          exact absurd hx (none x (List.mem_of_getElem? hj))
      subst j0
      rw [List.modify_zero_cons, List.map_cons, if_pos hy]
      congr 1
      have : l.map (fun y => if f y == h then g y else y) = l.map id := List.map_congr_left fun z hz => by rw [if_neg (none z hz)]; rfl
      rw [this, List.map_id]
    · rw [List.filter_cons, if_neg hy] at e
      cases j with
      | zero =>
        rw [List.getElem?_cons_zero] at hj
        cases hj
        exact absurd hx hy
      | succ k =>
        rw [List.getElem?_cons_succ] at hj
        rw [List.modify_succ_cons, List.map_cons, if_neg hy, modify_one e hj]
end
section
variable {prog : Program} {w : World} {A : Around} {E : Value → Shared → Prop} {s : Shared}
theorem spots_list (es : Array DictEntry) (h : Int) : spots es h = spotL (·.hash) h es.toList := by
  unfold spots spotL
  rw [Array.length_toList]
  refine List.filter_congr fun i _ => ?_
  rw [Array.getElem?_toList]
/-- what the entries are at the key k0: none has its hash, or one, whose key it is -/
def FewAt (w : World) (h : Heap) (es : Array DictEntry) (k0 : NestedKey) : Prop :=
  es.toList.filter (fun e => e.hash == k0.hash w) = [] ∨ ∃ (e : DictEntry) (b : Addr), es.toList.filter (fun e => e.hash == k0.hash w) = [e] ∧ e.key = .ref b ∧ NestedIs h k0 (.ref b)
theorem find_few {d a : Addr} {o : Obj} {es : Array DictEntry} {ep : Nat} {k0 : NestedKey} {Q : Option Nat → Shared → Prop} (ho : s.heap.get? d = some o) (hd : o.data = .dict es ep)
    (hes : ∀ e ∈ es, EntOk w s.heap e) (hk : NestedIs s.heap k0 (.ref a)) (hu : A.units + k0.depth < cLine) (hf : FewAt w s.heap es k0)
    (q0 : es.toList.filter (fun e => e.hash == k0.hash w) = [] → Q none s) (q1 : ∀ j e, es.toList.filter (fun e => e.hash == k0.hash w) = [e] → es.toList[j]? = some e → Q (some j) s) :
    wpAny (model prog w) A (dictFind d (.ref a) (k0.hash w)) Q E s := by
  refine find_n ho hd hes hk hu (fun z => ?_) (fun j z => ?_) ?_
  · rcases hf with hf | ⟨e, b, hf, _⟩
    · exact q0 hf
    · obtain ⟨j, hj, _⟩ := spotL_one _ _ hf
      rw [spots_list, hj] at z; cases z
  · rcases hf with hf | ⟨e, b, hf, g1, g2⟩
    · rw [spots_list, spotL_nil _ _ hf] at z; cases z
    · obtain ⟨j', hj, gj⟩ := spotL_one _ _ hf
      rw [spots_list, hj] at z
      cases z
      have he : (e.hash == k0.hash w) = true := by
        have : e ∈ es.toList.filter (fun e => e.hash == k0.hash w) := by rw [hf]; exact List.mem_singleton.mpr rfl
        exact (List.mem_filter.mp this).2
      exact ⟨e, k0, b, by rw [← Array.getElem?_toList]; exact gj, g1, g2, by simpa using he, rfl, q1 _ e hf gj⟩
  · rcases hf with hf | ⟨e, b, hf, _⟩
    · exact .inl (by rw [spots_list, spotL_nil _ _ hf])
    · obtain ⟨j, hj, _⟩ := spotL_one _ _ hf
      exact .inr ⟨j, by rw [spots_list, hj]⟩
/-- d's value at the key -/
def valN (es : Array DictEntry) (h : Int) : Option Value := ((es.toList.filter fun e => e.hash == h).head?).map (·.val)
theorem dictGet_few {d a : Addr} {o : Obj} {es : Array DictEntry} {ep : Nat} {k0 : NestedKey} {Q : Option Value → Shared → Prop} (ho : s.heap.get? d = some o) (hd : o.data = .dict es ep)
    (hes : ∀ e ∈ es, EntOk w s.heap e) (hk : NestedIs s.heap k0 (.ref a)) (hu : A.units + k0.depth < cLine) (hf : FewAt w s.heap es k0)
    (q : Q (valN es (k0.hash w)) { s with toks := s.toks + k0.draws }) : wpAny (model prog w) A (dictGet d (.ref a)) Q E s := by
  unfold dictGet
  try with_reducible refine wpAny_holding ?_
  refine wpAny_bind (pyHash_key k0 _ A s _ hk hu (wpAny_bind (find_few (s := { s with toks := s.toks + k0.draws }) ho hd hes hk hu hf (fun z => ?_) fun j e z hj => ?_)))
  · unfold valN at q
    rw [z] at q
    exact wpAny_pure q
  · unfold valN at q
    rw [z] at q
    refine wpAny_bind (wpAny_dictEntries (s := { s with toks := s.toks + k0.draws }) ho hd ?_)
    rw [← Array.getElem?_toList, hj]
    exact wpAny_pure q
/-- the entries behind d[k] = v -/
def setN (l : List DictEntry) (h : Int) (a : Addr) (v : Value) : List DictEntry :=
  if (l.filter fun e => e.hash == h) = [] then l ++ [⟨h, .ref a, v⟩] else l.map fun e => if e.hash == h then { e with val := v } else e
theorem dictSet_few {d a : Addr} {o : Obj} {es : Array DictEntry} {ep : Nat} {k0 : NestedKey} {v : Value} {Q : Unit → Shared → Prop} (ho : s.heap.get? d = some o) (hx : o.ExactDict) (hd : o.data = .dict es ep)
    (hes : ∀ e ∈ es, EntOk w s.heap e) (hk : NestedIs s.heap k0 (.ref a)) (hu : A.units + k0.depth < cLine) (hf : FewAt w s.heap es k0) (hz : es.size ≤ sizeLine)
    (q : ∀ h' o' es' ep', h'.get? d = some o' → o'.ExactDict → o'.data = .dict es' ep' → es'.toList = setN es.toList (k0.hash w) a v → Heap.SameBut d s.heap h' → Q () { s with heap := h', toks := s.toks + k0.draws }) :
    wpAny (model prog w) A (dictSet d (.ref a) v) Q E s := by
  unfold dictSet
  try with_reducible refine wpAny_holding ?_
  refine wpAny_bind (pyHash_key k0 _ A s _ hk hu ?_)
  unfold dictSetHashed
  try with_reducible refine wpAny_holding ?_
  refine wpAny_bind (find_few (s := { s with toks := s.toks + k0.draws }) ho hd hes hk hu hf (fun z => ?_) fun j e z hj => ?_)
  · refine wpAny_bind (wpAny_rule (wpAny_updateDictKeys (hz := hz) (s := { s with toks := s.toks + k0.draws }) ho hd ?_))
    refine q _ _ _ _ (Heap.get?_update_self _ ho (Obj.isFreed_of_dict (Obj.data_mapDictKeys hd _))) (hx.mapDictKeys _) (Obj.data_mapDictKeys hd _) ?_ (Heap.SameBut.update ..)
    unfold setN
    rw [if_pos z]
    simp
  · refine wpAny_bind (wpAny_rule (wpAny_bind (wpAny_updateDict (s := { s with toks := s.toks + k0.draws }) ho hd (wpAny_point ?_))))
    refine q _ _ _ _ (Heap.get?_update_self _ ho (Obj.isFreed_of_dict (Obj.data_mapDict hd _))) (hx.mapDict _) (Obj.data_mapDict hd _) ?_ (Heap.SameBut.update ..)
    unfold setN
    rw [if_neg (by rw [z]; exact fun z => nomatch z), ← modify_one (·.hash) (k0.hash w) (g := fun e => { e with val := v }) z hj]
    obtain ⟨l⟩ := es
    simp
end
end Rf

set_option Elab.async false
set_option linter.all false
/-! Rf, part A: a small language over plain data (PyData), its evaluator. -/
namespace Rf
noncomputable section
open PySem

abbrev D := PyData

/-- what a slot of a def holds: nothing, a value, an own list or dict (that may be changed) -/
inductive Slot where
  | un
  | d (x : D)
  | ol (xs : List D)
  | od (kvs : List (D × D))
  | on (kvs : List (D × D))
  | rn (kvs : List (D × D))
  | ob (p : Nat)
abbrev Sl := List Slot

inductive Res (α : Type) where
  | ok (a : α)
  | ex (c : Nat)
  | stuck

def Res.bind {α β : Type} (r : Res α) (f : α → Res β) : Res β := match r with
  | .ok a => f a
  | .ex c => .ex c
  | .stuck => .stuck
@[simp] theorem Res.bind_ok {α β : Type} (a : α) (f : α → Res β) : (Res.ok a).bind f = f a := id rfl
@[simp] theorem Res.bind_ex {α β : Type} (c : Nat) (f : α → Res β) : (Res.ex c : Res α).bind f = .ex c := id rfl
@[simp] theorem Res.bind_stuck {α β : Type} (f : α → Res β) : (Res.stuck : Res α).bind f = .stuck := id rfl
def Res.of {α : Type} : Option α → Res α
  | some a => .ok a
  | none => .stuck
@[simp] theorem Res.of_some {α : Type} (a : α) : Res.of (some a) = .ok a := id rfl
@[simp] theorem Res.of_none {α : Type} : Res.of (none : Option α) = .stuck := id rfl

inductive BOp where
  | add | sub | mul | fdiv | mod | pow | rep | shl | shr | band
inductive COp where
  | eq | ne | lt | le | gt | ge | isin | notin | is | isnot
inductive Blt where
  | len | int | abs | sum | max | min | all | any | tuple | list | sorted | str | dict | isi (T : Nat)
inductive Mth where
  | get | bits | isalpha | islower | lower | upper | swapcase | join
inductive Tgt where
  | nm (i : Nat)
  | tp (ts : List Tgt)
inductive SrcK where
  | lst | tup | str | rng | zip

inductive Exp where
  | nop
  | var (i : Nat)
  | vw (i : Nat)
  | con (x : D)
  | bin (op : BOp) (a b : Exp)
  | cmp (op : COp) (a b : Exp)
  | chain (o1 o2 : COp) (a b c : Exp)
  | and (a b : Exp)
  | or (a b : Exp)
  | not (a : Exp)
  | neg (a : Exp)
  | ite (c a b : Exp)
  | tup (es : List Exp)
  | lst (es : List Exp)
  | emp
  | idx (a i : Exp)
  | sl (a lo hi : Exp)
  | rev (a : Exp)
  | revs (a : Exp)
  | call (f : Nat) (es : List Exp)
  | callv (f : Nat) (es : List Exp)
  | blt (b : Blt) (es : List Exp)
  | mth (m : Mth) (o : Exp) (es : List Exp)
  | dget (o k d : Exp)
  | nget (i : Nat) (k : Exp)
  | ngetd (i : Nat) (k z : Exp)
  | nkeys (i : Nat)
  | calln (f : Nat) (pre : List Exp) (i : Nat) (post : List Exp)
  | slf (i : Nat)
  | onew (f : Nat) (es : List Exp)
  | comp (elt : Exp) (t : Tgt) (k : SrcK) (srcs : List Exp) (ifs : List Exp)
  | dsp2 (k1 v1 k2 v2 : Exp)

def Exp.isNop : Exp → Bool
  | .nop => true
  | _ => false
/-! ### operations on data -/
def line : Nat := 1000000
abbrev S (l : List Nat) : Str := ⟨l.toArray⟩

def binD : BOp → D → D → Option D
  | .add, .int i, .int j => some (.int (i + j))
  | .add, .str x, .str y => if x.length + y.length ≤ line then some (.str (x ++ y)) else none
  | .add, .list xs, .list ys => if xs.length + ys.length ≤ line then some (.list (xs ++ ys)) else none
  | .add, .tuple (x :: xs), .tuple ys => if (x :: xs).length + ys.length ≤ line then some (.tuple (x :: xs ++ ys)) else none
  | .sub, .int i, .int j => some (.int (i - j))
  | .mul, .int i, .int j => if i.natAbs < 2 ^ 64 ∨ j.natAbs < 2 ^ 64 then some (.int (i * j)) else none
  | .fdiv, .int i, .int j => if 0 < j ∧ (j < 1073741824 ∨ j.natAbs < 2 ^ 3000) then some (.int (i / j)) else none
  | .mod, .int i, .int j => if 0 < j then some (.int (i % j)) else none
  | .pow, .int i, .int j => if 0 ≤ j ∧ j ≤ 1000000 ∧ i.natAbs < 2 ^ 64 then some (.int (i ^ j.toNat)) else none
  | .shl, .int i, .int j => if 0 ≤ j ∧ j ≤ 1000000 ∧ i.natAbs < 2 ^ 10000 then some (.int (i * 2 ^ j.toNat)) else none
  | .shr, .int i, .int j => if 0 ≤ j then some (.int (i / 2 ^ j.toNat)) else none
  | .band, .int i, .int j => some (.int (Builtin.bitAnd i j))
  | .rep, .str z, .int j => if z.length = 1 ∧ j ≤ 1000000 ∧ -1000000 ≤ j then some (.str (S (List.replicate j.toNat (z.cps.toList.headD 0)))) else none
  | _, _, _ => none

/-- a op= b of a name -/
def augD (op : BOp) (x y : D) : Option D := match op, x with
  | .rep, _ => none
  | .shl, _ => none
  | .shr, _ => none
  | .band, _ => none
  | _, .int _ => binD op x y
  | _, .str _ => binD op x y
  | _, _ => none
/-- may be compared by == -/
def eqOk (x y : D) : Bool := x.canLay0 && y.canLay0 && decide (min x.depth y.depth ≤ 190)
def flatD : D → Bool
  | .none => true
  | .bool _ => true
  | .int _ => true
  | .str _ => true
  | _ => false
/-- a dict's look-up (keys ints and texts) -/
def keyD : D → Option (Sum Int Str)
  | .int i => some (.inl i)
  | .str x => some (.inr x)
  | _ => none
def keysOk : List (D × D) → Bool
  | [] => true
  | (k, _) :: r => (keyD k).isSome && keysOk r
def lookD (kvs : List (D × D)) (k : D) : Option D := (kvs.find? fun p => PyData.eqv p.1 k).map (·.2)
def putD (kvs : List (D × D)) (k v : D) : List (D × D) :=
  if (lookD kvs k).isSome then kvs.map fun p => if PyData.eqv p.1 k then (p.1, v) else p else kvs ++ [(k, v)]

/-! dicts whose keys are tuples nested to any depth: ints and tuples -/
mutual
def hashN : D → Int
  | .int i => hashInt i
  | .tuple xs => reduceHash (Builtin.Tuple.tupleHashOf (hashNs xs))
  | _ => 0
def hashNs : List D → List Int
  | [] => []
  | x :: r => hashN x :: hashNs r
end
mutual
def nkeyI : D → Bool
  | .int _ => true
  | .tuple xs => nkeyIs xs
  | _ => false
def nkeyIs : List D → Bool
  | [] => true
  | x :: r => nkeyI x && nkeyIs r
end
def nkey : D → Bool
  | .tuple xs => nkeyIs xs && decide ((PyData.tuple xs).depth ≤ 180)
  | _ => false
/-- the entries with the hash of y -/
def withH (kvs : List (D × D)) (y : D) : List (D × D) := kvs.filter fun p => hashN p.1 == hashN y
/-- what a dict holds at y, if no other key has its hash -/
def nlook (kvs : List (D × D)) (y : D) : Option (Option D) := if nkey y then match withH kvs y with
    | [] => some none
    | [p] => if PyData.eqv p.1 y then some (some p.2) else none
    | _ => none
  else none
def nput (kvs : List (D × D)) (y v : D) : List (D × D) := if withH kvs y = [] then kvs ++ [(y, v)] else kvs.map fun p => if hashN p.1 == hashN y then (p.1, v) else p
def isIntD : D → Bool
  | .int _ => true
  | _ => false
def pairsN (kvs : List (D × D)) : D := .list (kvs.map fun p => .tuple [p.1, p.2])
def unpairs : List D → Option (List (D × D))
  | [] => some []
  | .tuple [a, b] :: r => (unpairs r).map ((a, b) :: ·)
  | _ => none
def inD (x y : D) : Option Bool := match y with
  | .list ys => if flatD x && ys.all flatD then some (ys.any fun y => PyData.eqv y x) else none
  | .tuple ys => if flatD x && ys.all flatD then some (ys.any fun y => PyData.eqv y x) else none
  | .str z => match x with
    | .str w => some (!(Builtin.Str.occurrences z w 0 z.length 1).isEmpty)
    | _ => none
  | .dict kvs => if (keyD x).isSome then some (lookD kvs x).isSome else none
  | _ => none

def cmpD : COp → D → D → Option Bool
  | .eq, x, y => if eqOk x y then some (PyData.eqv x y) else none
  | .ne, x, y => if eqOk x y then some (!PyData.eqv x y) else none
  | .lt, .int i, .int j => some (decide (i < j))
  | .le, .int i, .int j => some (decide (i ≤ j))
  | .gt, .int i, .int j => some (decide (j < i))
  | .ge, .int i, .int j => some (decide (j ≤ i))
  | .isin, x, y => inD x y
  | .notin, x, y => (inD x y).map not
  | .is, .bool a, .bool b => some (decide (a = b))
  | .is, .none, .none => some true
  | .is, .int _, .none => some false
  | .is, .bool _, .none => some false
  | .is, .str _, .none => some false
  | .is, .tuple _, .none => some false
  | .is, .list _, .none => some false
  | .isnot, .bool a, .bool b => some (!decide (a = b))
  | .isnot, .none, .none => some false
  | .isnot, .int _, .none => some true
  | .isnot, .bool _, .none => some true
  | .isnot, .str _, .none => some true
  | .isnot, .tuple _, .none => some true
  | .isnot, .list _, .none => some true
  | _, _, _ => none

def idxD : D → D → Option D
  | .list xs, .int i => L2.atI xs i
  | .tuple xs, .int i => L2.atI xs i
  | .str z, .int i => if z.length ≤ line then (L2.atI z.cps.toList i).map fun c => .str (S [c]) else none
  | .dict kvs, k => if (keyD k).isSome then lookD kvs k else none
  | _, _ => none

def cutD {α : Type} (xs : List α) (lo hi : Option Int) : List α := (xs.drop (HT.sIx xs.length 0 lo)).take (HT.sIx xs.length xs.length hi - HT.sIx xs.length 0 lo)
def partD : D → Res (Option Int)
  | .int i => .ok (some i)
  | _ => .stuck
def sliceD (x : D) (lo hi : Option Int) : Option D := match x with
  | .list xs => some (.list (cutD xs lo hi))
  | .tuple xs => some (.tuple (cutD xs lo hi))
  | .str z => if z.length ≤ line then some (.str (S (cutD z.cps.toList lo hi))) else none
  | _ => none
def revD : D → Option D
  | .list xs => some (.list xs.reverse)
  | _ => none
def revsD : D → Option D
  | .str z => if z.length ≤ line then some (.str (S z.cps.toList.reverse)) else none
  | _ => none

def allInts : List D → Option (List Int)
  | [] => some []
  | .int i :: r => (allInts r).map (i :: ·)
  | _ :: _ => none
def allBools : List D → Option (List Bool)
  | [] => some []
  | .bool i :: r => (allBools r).map (i :: ·)
  | _ :: _ => none
def allStrs : List D → Option (List Str)
  | [] => some []
  | .str i :: r => (allStrs r).map (i :: ·)
  | _ :: _ => none
def maxI : List Int → Int
  | [] => 0
  | [x] => x
  | x :: y :: r => max x (maxI (y :: r))
def minI : List Int → Int
  | [] => 0
  | [x] => x
  | x :: y :: r => min x (minI (y :: r))
/-- insertion sort -/
def insI (x : Int) : List Int → List Int
  | [] => [x]
  | y :: r => if x ≤ y then x :: y :: r else y :: insI x r
def sortI : List Int → List Int
  | [] => []
  | x :: r => insI x (sortI r)

def isiD (T : Nat) : D → Option Bool
  | .int _ => some (T == 0)
  | .bool _ => some (T == 0 || T == 1)
  | .str _ => some (T == 2)
  | .tuple _ => some (T == 3)
  | .list _ => some (T == 4)
  | .none => some false
  | _ => none

def bltD : Blt → List D → Option D
  | .len, [.list xs] => some (.int xs.length)
  | .len, [.tuple xs] => some (.int xs.length)
  | .len, [.str z] => if z.length ≤ line then some (.int z.length) else none
  | .len, [.dict kvs] => some (.int kvs.length)
  | .int, [.int i] => some (.int i)
  | .int, [.bool b] => some (.int (if b then 1 else 0))
  | .abs, [.int i] => some (.int (if i < 0 then -i else i))
  | .sum, [.list xs] => (allInts xs).map fun l => .int l.sum
  | .max, [.int i, .int j] => some (.int (if j > i then j else i))
  | .min, [.int i, .int j] => some (.int (if j < i then j else i))
  | .max, [.list xs] => if xs = [] then none else (allInts xs).map fun l => .int (maxI l)
  | .min, [.list xs] => if xs = [] then none else (allInts xs).map fun l => .int (minI l)
  | .all, [.list xs] => (allBools xs).map fun l => .bool (l.all id)
  | .any, [.list xs] => (allBools xs).map fun l => .bool (l.any id)
  | .tuple, [.list xs] => some (.tuple xs)
  | .tuple, [.tuple xs] => some (.tuple xs)
  | .list, [.list xs] => some (.list xs)
  | .list, [.tuple xs] => some (.list xs)
  | .sorted, [.list xs] => (allInts xs).map fun l => .list ((sortI l).map .int)
  | .sorted, [.dict kvs] => if kvs.length < 64 then (allInts (kvs.map (·.1))).map fun l => .list ((sortI l).map .int) else none
  | .dict, [.dict kvs] => some (.dict kvs)
  | .str, [.int i] => if i.natAbs.log2 < 1920 then some (.str (toString i)) else none
  | .isi T, [x] => (isiD T x).map .bool
  | _, _ => none

def strM (m : Mth) (z : Str) : Option D := match m with
  | .isalpha => some (.bool (Txt.isalpha z))
  | .islower => some (.bool (Txt.islower z))
  | .lower => if z.length ≤ line then some (.str (Txt.lower z)) else none
  | .upper => if z.length ≤ line then some (.str (Txt.upper z)) else none
  | .swapcase => if z.length ≤ line then some (.str (Txt.swapcase z)) else none
  | _ => none
def mthD : Mth → D → List D → Option D
  | .get, .dict kvs, [k, x] => if (keyD k).isSome then some ((lookD kvs k).getD x) else none
  | .bits, .int i, [] => some (.int ((Builtin.Int.intBits i : Nat) : Int))
  | .join, .str z, [.list xs] => (allStrs xs).bind fun ys => if (ys.map (·.length)).sum + ys.length * z.length ≤ line then some (.str (Txt.join z ys)) else none
  | m, .str z, [] => strM m z
  | _, _, _ => none

def zipD : List D → List D → List D
  | x :: xs, y :: ys => .tuple [x, y] :: zipD xs ys
  | _, _ => []
def rngD (lo : Int) (n : Nat) : List D := (List.range n).map fun (i : Nat) => .int (lo + (i : Int))
def srcD : SrcK → List D → Option (List D)
  | .lst, [.list xs] => some xs
  | .tup, [.tuple xs] => some xs
  | .str, [.str z] => some (z.cps.toList.map fun c => .str (S [c]))
  | .rng, [.int n] => if -(2 ^ 62) ≤ n ∧ n < 2 ^ 62 then some (rngD 0 n.toNat) else none
  | .rng, [.int a, .int b] => if -(2 ^ 62) ≤ a ∧ a < 2 ^ 62 ∧ -(2 ^ 62) ≤ b ∧ b < 2 ^ 62 then some (rngD a (b - a).toNat) else none
  | .zip, [.list xs, .list ys] => some (zipD xs ys)
  | .zip, [.tuple xs, .tuple ys] => some (zipD xs ys)
  | _, _ => none

mutual
/-- holds no list, no dict -/
def noLst : D → Bool
  | .list _ => false
  | .dict _ => false
  | .tuple xs => noLsts xs
  | .none => true
  | .bool _ => true
  | .int _ => true
  | .str _ => true
def noLsts : List D → Bool
  | [] => true
  | x :: r => noLst x && noLsts r
end

mutual
/-- holds no dict -/
def noDct : D → Bool
  | .dict _ => false
  | .list xs => noDcts xs
  | .tuple xs => noDcts xs
  | .none => true
  | .bool _ => true
  | .int _ => true
  | .str _ => true
def noDcts : List D → Bool
  | [] => true
  | x :: r => noDct x && noDcts r
end
/-- plain slots: no own ones, no dicts -/
def okS (e : Sl) : Bool := e.all fun s => match s with
  | .un => true
  | .ob _ => true
  | .d x => noDct x
  | _ => false

/-! ### binding -/
mutual
def bindT : Tgt → D → Sl → Option Sl
  | .nm i, x, e => if i < e.length then some (e.set i (.d x)) else none
  | .tp ts, x, e => match x with
    | .tuple xs => bindTs ts xs e
    | _ => none
def bindTs : List Tgt → List D → Sl → Option Sl
  | [], [], e => some e
  | t :: ts, x :: xs, e => (bindT t x e).bind fun e' => bindTs ts xs e'
  | _, _, _ => none
end

/-! the places of a target -/
mutual
def Tgt.ix : Tgt → List Nat
  | .nm i => [i]
  | .tp ts => Tgt.ixs ts
def Tgt.ixs : List Tgt → List Nat
  | [] => []
  | t :: r => t.ix ++ Tgt.ixs r
end
def wipeS (e : Sl) : List Nat → Sl
  | [] => e
  | v :: vs => (wipeS e vs).set v .un
def isOwn : Slot → Bool
  | .ol _ => true
  | .od _ => true
  | .on _ => true
  | _ => false
def freeOf (e : Sl) (vs : List Nat) : Bool := vs.all fun i => match e[i]? with
  | some s => !isOwn s
  | none => false

/-! ### expressions -/
/-- the turns of a comprehension -/
def compL (f : Sl → Res D) (g : Sl → Res Bool) (t : Tgt) : List D → Sl → Res (List D)
  | [], _ => .ok []
  | x :: xs, e => match bindT t x e with
    | none => .stuck
    | some e1 => (g e1).bind fun b =>
      if b then (f e1).bind fun y => (compL f g t xs e).bind fun ys => .ok (y :: ys) else compL f g t xs e
def noEx {α : Type} : Res α → Res α
  | .ok a => .ok a
  | _ => .stuck
abbrev FT := Nat → List D → Res D

open Classical in
/-- a method of a new object: alike at every place -/
def newK (Φ : FT) (f : Nat) (xs : List D) : Res D := if h : ∃ r, noDcts xs = true ∧ noLst r = true ∧ ∀ p : Nat, Φ f (.int (p : Nat) :: xs) = .ok r then .ok h.choose else .stuck
mutual
def ev (Φ : FT) : Exp → Sl → Res D
  | .nop, _ => .ok .none
  | .var i, e => match e[i]? with
    | some (.d x) => .ok x
    | _ => .stuck
  | .vw i, e => match e[i]? with
    | some (.d x) => .ok x
    | some (.ol xs) => .ok (.list xs)
    | some (.od kvs) => .ok (.dict kvs)
    | _ => .stuck
  | .con x, _ => .ok x
  | .bin op a b, e => (ev Φ a e).bind fun x => (ev Φ b e).bind fun y => .of (binD op x y)
  | .cmp op a b, e => (ev Φ a e).bind fun x => (ev Φ b e).bind fun y => .of ((cmpD op x y).map .bool)
  | .chain o1 o2 a b c, e => (ev Φ a e).bind fun x => (ev Φ b e).bind fun y => (Res.of (cmpD o1 x y)).bind fun k =>
      if k then (ev Φ c e).bind fun z => .of ((cmpD o2 y z).map .bool) else .ok (.bool false)
  | .and a b, e => (ev Φ a e).bind fun x => match x with
    | .bool true => ev Φ b e
    | .bool false => .ok (.bool false)
    | _ => .stuck
  | .or a b, e => (ev Φ a e).bind fun x => match x with
    | .bool true => .ok (.bool true)
    | .bool false => ev Φ b e
    | _ => .stuck
  | .not a, e => (ev Φ a e).bind fun x => match x with
    | .bool k => .ok (.bool (!k))
    | _ => .stuck
  | .neg a, e => (ev Φ a e).bind fun x => match x with
    | .int i => .ok (.int (-i))
    | _ => .stuck
  | .ite c a b, e => (ev Φ c e).bind fun x => match x with
    | .bool true => ev Φ a e
    | .bool false => ev Φ b e
    | _ => .stuck
  | .tup es, e => (evs Φ es e).bind fun xs => .ok (.tuple xs)
  | .lst es, e => (evs Φ es e).bind fun xs => .ok (.list xs)
  | .emp, _ => .ok (.dict [])
  | .dsp2 a b c d, e => (ev Φ a e).bind fun x => match x with
    | .int i => (ev Φ b e).bind fun y => match y with
      | .int u => (ev Φ c e).bind fun z => match z with
        | .int j => (ev Φ d e).bind fun w => match w with
          | .int v => .ok (.dict (if i = j then [(.int i, .int v)] else [(.int i, .int u), (.int j, .int v)]))
          | _ => .stuck
        | _ => .stuck
      | _ => .stuck
    | _ => .stuck
  | .idx a i, e => (ev Φ a e).bind fun x => (ev Φ i e).bind fun y => .of (idxD x y)
  | .sl a lo hi, e => (ev Φ a e).bind fun x => (if lo.isNop then .ok none else (ev Φ lo e).bind partD).bind fun l => (if hi.isNop then .ok none else (ev Φ hi e).bind partD).bind fun h => .of (sliceD x l h)
  | .rev a, e => (ev Φ a e).bind fun x => .of (revD x)
  | .revs a, e => (ev Φ a e).bind fun x => .of (revsD x)
  | .call f es, e => (evs Φ es e).bind fun xs => Φ f xs
  | .callv f es, e => (evs Φ es e).bind fun xs => (Φ f xs).bind fun y => if noLst y then .ok y else .stuck
  | .blt b es, e => (evs Φ es e).bind fun xs => .of (bltD b xs)
  | .mth m o es, e => (ev Φ o e).bind fun x => (evs Φ es e).bind fun xs => .of (mthD m x xs)
  | .slf i, e => match e[i]? with
    | some (.ob p) => .ok (.int (p : Nat))
    | _ => .stuck
  | .onew f es, e => (evs Φ es e).bind fun xs => newK Φ f xs
  | .nget i k, e => match e[i]? with
    | some (.on kvs) => (ev Φ k e).bind fun y => (Res.of (nlook kvs y)).bind .of
    | some (.rn kvs) => (ev Φ k e).bind fun y => (Res.of (nlook kvs y)).bind .of
    | _ => .stuck
  | .ngetd i k z, e => match e[i]? with
    | some (.on kvs) => (ev Φ k e).bind fun y => (ev Φ z e).bind fun x => if isIntD x then (Res.of (nlook kvs y)).bind fun o => .ok (o.getD x) else .stuck
    | some (.rn kvs) => (ev Φ k e).bind fun y => (ev Φ z e).bind fun x => if isIntD x then (Res.of (nlook kvs y)).bind fun o => .ok (o.getD x) else .stuck
    | _ => .stuck
  | .nkeys i, e => match e[i]? with
    | some (.on kvs) => .ok (.list (kvs.map (·.1)))
    | some (.rn kvs) => .ok (.list (kvs.map (·.1)))
    | _ => .stuck
  | .calln f pre i post, e => match e[i]? with
    | some (.on kvs) => (evs Φ pre e).bind fun xs => (evs Φ post e).bind fun ys => (Φ f (xs ++ pairsN kvs :: ys)).bind fun y => if noLst y then .ok y else .stuck
    | _ => .stuck
  | .dget o k d, e => (ev Φ o e).bind fun x => match x with
    | .dict kvs => (ev Φ k e).bind fun y => (ev Φ d e).bind fun z => .of (mthD .get (.dict kvs) [y, z])
    | _ => .stuck
  | .comp elt t k srcs ifs, e => (evs Φ srcs e).bind fun xs => (Res.of (srcD k xs)).bind fun its =>
      if freeOf e t.ix && decide (its.length ≤ line) then (noEx (compL (fun e' => ev Φ elt e') (fun e' => evt Φ ifs e') t its (wipeS e t.ix))).bind fun ys => .ok (.list ys) else .stuck
def evs (Φ : FT) : List Exp → Sl → Res (List D)
  | [], _ => .ok []
  | a :: r, e => (ev Φ a e).bind fun x => (evs Φ r e).bind fun xs => .ok (x :: xs)
def evt (Φ : FT) : List Exp → Sl → Res Bool
  | [], _ => .ok true
  | a :: r, e => (ev Φ a e).bind fun x => match x with
    | .bool true => evt Φ r e
    | .bool false => .ok false
    | _ => .stuck
end

/-! ### statements -/
inductive Stm where
  | asg (t : Tgt) (e : Exp)
  | par (i j : Nat) (a b : Exp)
  | aug (i : Nat) (op : BOp) (e : Exp)
  | own (i : Nat) (e : Exp)
  | app (i : Nat) (e : Exp)
  | ins (i : Nat) (j e : Exp)
  | pop (i : Nat)
  | popto (t i : Nat)
  | setl (i : Nat) (k e : Exp)
  | setd (i : Nat) (k e : Exp)
  | nowe (i : Nat)
  | nset (i : Nat) (k e : Exp)
  | objn (i : Nat)
  | give (i : Nat)
  | obj (i : Nat)
  | chk
  | stop
  | expr (e : Exp)
  | ret (e : Exp)
  | retn
  | ifs (c : Exp) (a b : List Stm)
  | for (t : Tgt) (k : SrcK) (srcs : List Exp) (body : List Stm)
  | ford (t : Tgt) (i : Nat) (body : List Stm)
  | whl (c : Exp) (body : List Stm)
  | brk
  | cnt
  | pas
  | rse (c : Nat)
  | tri (i : Nat) (body : List Stm) (ok : List Nat) (r : List (Nat × D))
  | tro (body : List Stm) (ok : List Nat) (r : List (Nat × D))
  | trx (i : Nat) (body : List Stm) (ok : List Nat) (r : List (Nat × Exp))

inductive Out where
  | nx (e : Sl)
  | ret (x : D)
  | bk (e : Sl)
  | ct (e : Sl)
  | ex (c : Nat) (e : Sl)
  | stuck

def Out.ofR {α : Type} (r : Res α) (e : Sl) (f : α → Out) : Out := match r with
  | .ok a => f a
  | .ex c => .ex c e
  | .stuck => .stuck
@[simp] theorem Out.ofR_ok {α : Type} (a : α) (e : Sl) (f : α → Out) : Out.ofR (.ok a) e f = f a := id rfl
@[simp] theorem Out.ofR_ex {α : Type} (c : Nat) (e : Sl) (f : α → Out) : Out.ofR (.ex c : Res α) e f = .ex c e := id rfl
@[simp] theorem Out.ofR_stuck {α : Type} (e : Sl) (f : α → Out) : Out.ofR (.stuck : Res α) e f = .stuck := id rfl
def Out.seq (o : Out) (f : Sl → Out) : Out := match o with
  | .nx e => f e
  | o => o
@[simp] theorem Out.seq_nx (e : Sl) (f : Sl → Out) : (Out.nx e).seq f = f e := id rfl
@[simp] theorem Out.seq_ret (x : D) (f : Sl → Out) : (Out.ret x).seq f = .ret x := id rfl
@[simp] theorem Out.seq_bk (e : Sl) (f : Sl → Out) : (Out.bk e).seq f = .bk e := id rfl
@[simp] theorem Out.seq_ct (e : Sl) (f : Sl → Out) : (Out.ct e).seq f = .ct e := id rfl
@[simp] theorem Out.seq_ex (c : Nat) (e : Sl) (f : Sl → Out) : (Out.ex c e).seq f = .ex c e := id rfl
@[simp] theorem Out.seq_stuck (f : Sl → Out) : Out.stuck.seq f = .stuck := id rfl
/-- what a loop's turn hands on -/
def Out.turn (o : Out) (f : Sl → Out) : Out := match o with
  | .nx e => f e
  | .ct e => f e
  | .bk e => .nx e
  | o => o
@[simp] theorem Out.turn_nx (e : Sl) (f : Sl → Out) : (Out.nx e).turn f = f e := id rfl
@[simp] theorem Out.turn_ret (x : D) (f : Sl → Out) : (Out.ret x).turn f = .ret x := id rfl
@[simp] theorem Out.turn_bk (e : Sl) (f : Sl → Out) : (Out.bk e).turn f = .nx e := id rfl
@[simp] theorem Out.turn_ct (e : Sl) (f : Sl → Out) : (Out.ct e).turn f = f e := id rfl
@[simp] theorem Out.turn_ex (c : Nat) (e : Sl) (f : Sl → Out) : (Out.ex c e).turn f = .ex c e := id rfl
@[simp] theorem Out.turn_stuck (f : Sl → Out) : Out.stuck.turn f = .stuck := id rfl

def forL (b : Sl → Out) (t : Tgt) : List D → Sl → Out
  | [], e => .nx e
  | x :: xs, e => match bindT t x e with
    | none => .stuck
    | some e1 => (b e1).turn fun e2 => forL b t xs e2
def whileF (c : Sl → Res D) (b : Sl → Out) : Nat → Sl → Out
  | 0, _ => .stuck
  | n + 1, e => Out.ofR (c e) e fun x => match x with
    | .bool true => (b e).turn fun e2 => whileF c b n e2
    | .bool false => .nx e
    | _ => .stuck
/-- no exception -/
def Out.calm : Out → Out
  | .ex _ _ => .stuck
  | o => o
@[simp] theorem Out.calm_nx (e : Sl) : (Out.nx e).calm = .nx e := id rfl
@[simp] theorem Out.calm_ret (x : D) : (Out.ret x).calm = .ret x := id rfl
def ownS : D → Option Slot
  | .list xs => some (.ol xs)
  | .dict kvs => if keysOk kvs then some (.od kvs) else none
  | _ => none

mutual
def exec (Φ : FT) (F : Nat) : Stm → Sl → Out
  | .asg t a, e => Out.ofR (ev Φ a e) e fun x => match bindT t x e with
    | some e' => .nx e'
    | none => .stuck
  | .par i j a b, e => Out.ofR (ev Φ a e) e fun x => Out.ofR (ev Φ b e) e fun y => if i < e.length ∧ j < e.length then .nx ((e.set i (.d x)).set j (.d y)) else .stuck
  | .aug i op a, e => match e[i]? with
    | some (.d x) => Out.ofR (ev Φ a e) e fun y => match augD op x y with
      | some z => .nx (e.set i (.d z))
      | none => .stuck
    | _ => .stuck
  | .own i a, e => Out.ofR (ev Φ a e) e fun x => match ownS x with
    | some s => if i < e.length then .nx (e.set i s) else .stuck
    | none => .stuck
  | .app i a, e => match e[i]? with
    | some (.ol xs) => Out.ofR (ev Φ a e) e fun x => if xs.length < line then .nx (e.set i (.ol (xs ++ [x]))) else .stuck
    | _ => .stuck
  | .ins i j a, e => match e[i]? with
    | some (.ol xs) => Out.ofR (ev Φ j e) e fun k => Out.ofR (ev Φ a e) e fun x => match k with
      | .int k => if 0 ≤ k ∧ k < 2 ^ 63 ∧ xs.length < line then .nx (e.set i (.ol (xs.take k.toNat ++ [x] ++ xs.drop k.toNat))) else .stuck
      | _ => .stuck
    | _ => .stuck
  | .pop i, e => match e[i]? with
    | some (.ol xs) => if xs = [] then .stuck else .nx (e.set i (.ol xs.dropLast))
    | _ => .stuck
  | .popto t i, e => match e[i]? with
    | some (.ol xs) => match xs[xs.length - 1]? with
      | some x => if t < e.length ∧ t ≠ i then .nx ((e.set i (.ol xs.dropLast)).set t (.d x)) else .stuck
      | none => .stuck
    | _ => .stuck
  | .setl i k a, e => match e[i]? with
    | some (.ol xs) => Out.ofR (ev Φ a e) e fun x => Out.ofR (ev Φ k e) e fun k => match k with
      | .int k => match L2.ixN xs.length k with
        | some j => .nx (e.set i (.ol (xs.set j x)))
        | none => .stuck
      | _ => .stuck
    | _ => .stuck
  | .setd i k a, e => match e[i]? with
    | some (.od kvs) => Out.ofR (ev Φ a e) e fun x => Out.ofR (ev Φ k e) e fun k => if (keyD k).isSome ∧ kvs.length < line then .nx (e.set i (.od (putD kvs k x))) else .stuck
    | _ => .stuck
  | .nowe i, e => if i < e.length then .nx (e.set i (.on [])) else .stuck
  | .nset i k a, e => match e[i]? with
    | some (.on kvs) => Out.ofR (ev Φ a e) e fun x => Out.ofR (ev Φ k e) e fun y => if isIntD x && (nlook kvs y).isSome && decide (kvs.length < line) then .nx (e.set i (.on (nput kvs y x))) else .stuck
    | _ => .stuck
  | .objn i, e => match e[i]? with
    | some (.d (.list xs)) => match unpairs xs with
      | some kvs => .nx (e.set i (.rn kvs))
      | none => .stuck
    | _ => .stuck
  | .give i, e => match e[i]? with
    | some (.ol xs) => .nx (e.set i (.d (.list xs)))
    | _ => .stuck
  | .obj i, e => match e[i]? with
    | some (.d (.int p)) => if 0 ≤ p then .nx (e.set i (.ob p.toNat)) else .stuck
    | _ => .stuck
  | .chk, e => if okS e then .nx e else .stuck
  | .stop, _ => .stuck
  | .expr a, e => Out.ofR (ev Φ a e) e fun _ => .nx e
  | .ret a, e => Out.ofR (ev Φ a e) e fun x => .ret x
  | .retn, _ => .ret .none
  | .ifs c a b, e => Out.ofR (ev Φ c e) e fun x => match x with
    | .bool true => execs Φ F a e
    | .bool false => execs Φ F b e
    | _ => .stuck
  | .for t k srcs body, e => Out.ofR (evs Φ srcs e) e fun xs => match srcD k xs with
    | some its => forL (fun e' => execs Φ F body e') t its e
    | none => .stuck
  | .ford t i body, e => match e[i]? with
    | some (.d (.dict kvs)) => (forL (fun e' => execs Φ F body e') t (kvs.map (·.1)) e).calm
    | _ => .stuck
  | .whl c body, e => whileF (fun e' => ev Φ c e') (fun e' => execs Φ F body e') F e
  | .brk, e => .bk e
  | .cnt, e => .ct e
  | .pas, e => .nx e
  | .rse c, e => .ex c e
  | .tro body ok r, e => match execs Φ F body e with
    | .ex c e' => match r.lookup c with
      | some x => .ret x
      | none => if ok.contains c then .ex c e' else .stuck
    | .nx e' => .nx e'
    | .ret x => .ret x
    | .bk e' => .bk e'
    | .ct e' => .ct e'
    | .stuck => .stuck
  | .tri i body ok r, e => match execs Φ F body e with
    | .ex c e' => match r.lookup c with
      | some x => if i < e'.length then .ret x else .stuck
      | none => if ok.contains c then .ex c e' else .stuck
    | o => o
  | .trx i body ok r, e => match execs Φ F body e with
    | .ex c e' => match r.lookup c with
      | some A => if i < e'.length then (match ev Φ A (e'.set i .un) with
        | .ok x => .ret x
        | _ => .stuck) else .stuck
      | none => if ok.contains c then .ex c e' else .stuck
    | o => o
def execs (Φ : FT) (F : Nat) : List Stm → Sl → Out
  | [], e => .nx e
  | s :: r, e => (exec Φ F s e).seq fun e' => execs Φ F r e'
end

/-- a def: its parameters' number, its slots, its body -/
structure Fdef where
  np : Nat
  ns : Nat
  body : List Stm
def Fdef.run (f : Fdef) (Φ : FT) (F : Nat) (args : List D) : Res D :=
  if args.length = f.np then
    match execs Φ F f.body (args.map .d ++ List.replicate (f.ns - f.np) .un) with
    | .ret x => .ok x
    | .nx _ => .ok .none
    | .ex c _ => .ex c
    | _ => .stuck
  else .stuck
/-- the program's defs, called n deep -/
def phi (T : List Fdef) (F : Nat) : Nat → FT
  | 0 => fun _ _ => .stuck
  | n + 1 => fun f args => match T[f]? with
    | some fn => fn.run (phi T F n) F args
    | none => .stuck
end
end Rf

set_option Elab.async false
set_option linter.all false
/-! Rf, part B: data in the abstract heap; what a reading is by the evaluator. -/
namespace Rf
noncomputable section
open PySem PySem.Spec PyProof.Rows L2

def keyOf : Key → D
  | .inl i => .int i
  | .inr x => .str x

/-- a list of the written part -/
def KLst (K : PySem.W.Frag) (a : Addr) (xs : List V) : Prop := ∃ (o : Obj) (its : Array Value) (n : Nat), K.lookup a = some o ∧ o.cls = .type "list" ∧ o.dict = none ∧ o.data = .seq its n ∧ its.size ≤ sizeLine ∧ Vals xs its.toList
mutual
/-- the value v is the data d; lists and dicts within are none that av tells of -/
inductive Den (K : PySem.W.Frag) (av : Addr → Prop) (H : Hp) : V → D → Prop
  | none : Den K av H .non .none
  | bool (b : Bool) : Den K av H (.bl b) (.bool b)
  | int (i : Int) : Den K av H (.int i) (.int i)
  | str (x : Str) : Den K av H (.str x) (.str x)
  | list {a : Addr} {xs : List V} {ds : List D} : SqL K H a xs → (¬ av a ∨ KLst K a xs) → Dens K av H xs ds → Den K av H (.ref a) (.list ds)
  | tuple {a : Addr} {xs : List V} {ds : List D} : SqT K H a xs → Dens K av H xs ds → Den K av H (.ref a) (.tuple ds)
  | dict {a : Addr} {ks : List (Key × V)} {ds : List (D × D)} : Rd H a (.dK ks) → ¬ av a → DenKs K av H ks ds → Den K av H (.ref a) (.dict ds)
inductive Dens (K : PySem.W.Frag) (av : Addr → Prop) (H : Hp) : List V → List D → Prop
  | nil : Dens K av H [] []
  | cons {v : V} {d : D} {vs : List V} {ds : List D} : Den K av H v d → Dens K av H vs ds → Dens K av H (v :: vs) (d :: ds)
inductive DenKs (K : PySem.W.Frag) (av : Addr → Prop) (H : Hp) : List (Key × V) → List (D × D) → Prop
  | nil : DenKs K av H [] []
  | cons {k : Key} {v : V} {d : D} {ks : List (Key × V)} {ds : List (D × D)} : Den K av H v d → DenKs K av H ks ds → DenKs K av H ((k, v) :: ks) ((keyOf k, d) :: ds)
end

section
variable {K : PySem.W.Frag} {av av' : Addr → Prop} {H H' : Hp}
theorem same_rd (s : Same H H') {a : Addr} {u : HO} (h : Rd H a u) : Rd H' a u := by
  rcases h with h | ⟨o, h⟩
  · exact .inl (s _ _ h)
  · exact .inr ⟨o, s _ _ h⟩
theorem same_sqT (s : Same H H') {a : Addr} {xs : List V} (h : SqT K H a xs) : SqT K H' a xs := by
  rcases h with h | h
  · exact .inl (same_rd s h)
  · exact .inr h
theorem rd_ne {a : Addr} {u : HO} (h : Rd H a u) : H a ≠ none := by
  rcases h with h | ⟨o, h⟩ <;> (rw [h]; exact fun z => nomatch z)
theorem nav_imp {H : Hp} {b b' : Addr → Prop} {a : Addr} {xs : List V} (h : SqL K H a xs) (n : ¬ b a ∨ KLst K a xs) (g : H a ≠ none → b' a → b a) : ¬ b' a ∨ KLst K a xs := n.elim (fun n => h.elim (fun r => .inl fun z => n (g (rd_ne r) z)) .inr) .inr
mutual
theorem Den.imp (f : ∀ a u, Rd H a u → Rd H' a u) (g : ∀ a, H a ≠ none → av' a → av a) : ∀ {v : V} {d : D}, Den K av H v d → Den K av' H' v d
  | _, _, .none => .none
  | _, _, .bool b => .bool b
  | _, _, .int i => .int i
  | _, _, .str x => .str x
  | _, _, .list h n t => .list (h.imp (f _ _) id) (nav_imp h n fun r z => g _ r z) (Dens.imp f g t)
  | _, _, .tuple h t => .tuple (h.imp (f _ _) id) (Dens.imp f g t)
  | _, _, .dict h n t => .dict (f _ _ h) (fun z => n (g _ (rd_ne h) z)) (DenKs.imp f g t)
theorem Dens.imp (f : ∀ a u, Rd H a u → Rd H' a u) (g : ∀ a, H a ≠ none → av' a → av a) : ∀ {v : List V} {d : List D}, Dens K av H v d → Dens K av' H' v d
  | _, _, .nil => .nil
  | _, _, .cons a b => .cons (Den.imp f g a) (Dens.imp f g b)
theorem DenKs.imp (f : ∀ a u, Rd H a u → Rd H' a u) (g : ∀ a, H a ≠ none → av' a → av a) : ∀ {v : List (Key × V)} {d : List (D × D)}, DenKs K av H v d → DenKs K av' H' v d
  | _, _, .nil => .nil
  | _, _, .cons a b => .cons (Den.imp f g a) (DenKs.imp f g b)
end
theorem Den.same (s : Same H H') {v : V} {d : D} (h : Den K av H v d) : Den K av H' v d := h.imp (fun _ _ => same_rd s) fun _ _ z => z
theorem Dens.same (s : Same H H') {v : List V} {d : List D} (h : Dens K av H v d) : Dens K av H' v d := h.imp (fun _ _ => same_rd s) fun _ _ z => z
theorem DenKs.same (s : Same H H') {v : List (Key × V)} {d : List (D × D)} (h : DenKs K av H v d) : DenKs K av H' v d := h.imp (fun _ _ => same_rd s) fun _ _ z => z
theorem Dens.length : ∀ {v : List V} {d : List D}, Dens K av H v d → v.length = d.length
  | _, _, .nil => rfl
  | _, _, .cons _ b => congrArg (· + 1) b.length
theorem Dens.get : ∀ {v : List V} {d : List D} {i : Nat} {x : V}, Dens K av H v d → v[i]? = some x → ∃ y, d[i]? = some y ∧ Den K av H x y
  | _, _, _, _, .nil, h => by simp at h
  | _, _, 0, _, .cons a _, h => by simp at h; subst h; exact ⟨_, rfl, a⟩
  | _, _, i + 1, x, .cons _ b, h => by
    obtain ⟨y, h1, h2⟩ := b.get (i := i) (x := x) (by simpa using h)
    exact ⟨y, by simpa using h1, h2⟩
theorem Dens.getD : ∀ {v : List V} {d : List D} {i : Nat} {y : D}, Dens K av H v d → d[i]? = some y → ∃ x, v[i]? = some x ∧ Den K av H x y
  | _, _, _, _, .nil, h => by simp at h
  | _, _, 0, _, .cons a _, h => by simp at h; subst h; exact ⟨_, rfl, a⟩
  | _, _, i + 1, x, .cons _ b, h => by
    obtain ⟨y, h1, h2⟩ := b.getD (i := i) (y := x) (by simpa using h)
    exact ⟨y, by simpa using h1, h2⟩
theorem Dens.append : ∀ {v w : List V} {d e : List D}, Dens K av H v d → Dens K av H w e → Dens K av H (v ++ w) (d ++ e)
  | _, _, _, _, .nil, h => h
  | _, _, _, _, .cons a b, h => .cons a (b.append h)
theorem Dens.take : ∀ {v : List V} {d : List D} (n : Nat), Dens K av H v d → Dens K av H (v.take n) (d.take n)
  | _, _, 0, _ => .nil
  | _, _, _ + 1, .nil => .nil
  | _, _, n + 1, .cons a b => .cons a (b.take n)
theorem Dens.drop : ∀ {v : List V} {d : List D} (n : Nat), Dens K av H v d → Dens K av H (v.drop n) (d.drop n)
  | _, _, 0, h => h
  | _, _, _ + 1, .nil => .nil
  | _, _, n + 1, .cons _ b => b.drop n
theorem Dens.reverse {v : List V} {d : List D} (h : Dens K av H v d) : Dens K av H v.reverse d.reverse := by
  induction d generalizing v with
  | nil => cases h; exact .nil
  | cons x d ih =>
    cases h with
    | cons a b =>
      rw [List.reverse_cons, List.reverse_cons]
      exact (ih b).append (.cons a .nil)
theorem Dens.set : ∀ {v : List V} {d : List D} (i : Nat) {x : V} {y : D}, Dens K av H v d → Den K av H x y → Dens K av H (v.set i x) (d.set i y)
  | _, _, _, _, _, .nil, _ => .nil
  | _, _, 0, _, _, .cons _ b, h => .cons h b
  | _, _, i + 1, _, _, .cons a b, h => .cons a (b.set i h)
theorem Dens.dropLast {v : List V} {d : List D} (h : Dens K av H v d) : Dens K av H v.dropLast d.dropLast := by
  rw [List.dropLast_eq_take, List.dropLast_eq_take, h.length]
  exact h.take _
theorem DenKs.length : ∀ {v : List (Key × V)} {d : List (D × D)}, DenKs K av H v d → v.length = d.length
  | _, _, .nil => rfl
  | _, _, .cons _ b => congrArg (· + 1) b.length

/-- the top avoids a0, what is within avoids a1 -/
def Den2 (K : PySem.W.Frag) (a0 a1 : Addr → Prop) (H : Hp) (v : V) : D → Prop
  | .list ds => ∃ a xs, v = .ref a ∧ SqL K H a xs ∧ (¬ a0 a ∨ KLst K a xs) ∧ Dens K a1 H xs ds
  | .dict ds => ∃ a ks, v = .ref a ∧ Rd H a (.dK ks) ∧ ¬ a0 a ∧ DenKs K a1 H ks ds
  | d => Den K a1 H v d
theorem Den.two {v : V} {d : D} (h : Den K av H v d) : Den2 K av av H v d := by
  cases h with
  | list h n t => exact ⟨_, _, rfl, h, n, t⟩
  | dict h n t => exact ⟨_, _, rfl, h, n, t⟩
  | none => exact .none
  | bool b => exact .bool b
  | int i => exact .int i
  | str x => exact .str x
  | tuple h t => exact .tuple h t
theorem Den2.one {v : V} {d : D} (h : Den2 K av av H v d) : Den K av H v d := by
  cases d with
  | list ds => obtain ⟨a, xs, rfl, h, n, t⟩ := h; exact .list h n t
  | dict ds => obtain ⟨a, xs, rfl, h, n, t⟩ := h; exact .dict h n t
  | _ => exact h
theorem Den2.same {a0 a1 : Addr → Prop} (s : Same H H') {v : V} {d : D} (h : Den2 K a0 a1 H v d) : Den2 K a0 a1 H' v d := by
  cases d with
  | list ds => obtain ⟨a, xs, rfl, h, n, t⟩ := h; exact ⟨a, xs, rfl, h.imp (same_rd s) id, n, t.same s⟩
  | dict ds => obtain ⟨a, xs, rfl, h, n, t⟩ := h; exact ⟨a, xs, rfl, same_rd s h, n, t.same s⟩
  | none => exact Den.same s h
  | bool _ => exact Den.same s h
  | int _ => exact Den.same s h
  | str _ => exact Den.same s h
  | tuple _ => exact Den.same s h
theorem Den2.mono {a0 a1 b0 b1 : Addr → Prop} (h0 : ∀ a, b0 a → a0 a) (h1 : ∀ a, b1 a → a1 a) {v : V} {d : D} (h : Den2 K a0 a1 H v d) : Den2 K b0 b1 H v d := by
  have f : ∀ a u, Rd H a u → Rd H a u := fun _ _ z => z
  cases d with
  | list ds => obtain ⟨a, xs, rfl, h, n, t⟩ := h; exact ⟨a, xs, rfl, h, n.imp (fun n z => n (h0 _ z)) id, t.imp f fun a _ => h1 a⟩
  | dict ds => obtain ⟨a, xs, rfl, h, n, t⟩ := h; exact ⟨a, xs, rfl, h, fun z => n (h0 _ z), t.imp f fun a _ => h1 a⟩
  | none => exact Den.imp f (fun a _ => h1 a) h
  | bool _ => exact Den.imp f (fun a _ => h1 a) h
  | int _ => exact Den.imp f (fun a _ => h1 a) h
  | str _ => exact Den.imp f (fun a _ => h1 a) h
  | tuple _ => exact Den.imp f (fun a _ => h1 a) h
mutual
theorem Den.noLst {H : Hp} : ∀ {d : D} {v : V}, Den K av H v d → noLst d = true → Den K av' H v d
  | _, _, .none, _ => .none
  | _, _, .bool b, _ => .bool b
  | _, _, .int i, _ => .int i
  | _, _, .str x, _ => .str x
  | _, _, .list _ _ _, h => by simp [Rf.noLst] at h
  | _, _, .dict _ _ _, h => by simp [Rf.noLst] at h
  | _, _, .tuple h t, n => .tuple h (Dens.noLst t (by simpa [Rf.noLst] using n))
theorem Dens.noLst {H : Hp} : ∀ {d : List D} {v : List V}, Dens K av H v d → noLsts d = true → Dens K av' H v d
  | _, _, .nil, _ => .nil
  | _, _, .cons a b, h => by
    simp only [noLsts, Bool.and_eq_true] at h
    exact .cons (Den.noLst a h.1) (Dens.noLst b h.2)
end
mutual
theorem Den.dp : ∀ {d : D} {v : V}, Den K av H v d → d.canLay0 = true → Dp K H v d
  | _, _, .none, _ => .non
  | _, _, .bool b, _ => .bl b
  | _, _, .int i, _ => .int i
  | _, _, .str x, _ => .str x
  | _, _, .list h _ t, c => .lst h (Dens.dp t (by simpa [PyData.canLay0] using c))
  | _, _, .tuple h t, c => .tup h (Dens.dp t (by simpa [PyData.canLay0] using c))
  | _, _, .dict _ _ _, c => by simp [PyData.canLay0] at c
theorem Dens.dp : ∀ {d : List D} {v : List V}, Dens K av H v d → PyData.canLayAll0 d = true → DpAll K H v d
  | _, _, .nil, _ => .nil
  | _, _, .cons a b, h => by
    simp only [PyData.canLayAll0, Bool.and_eq_true] at h
    exact .cons (Den.dp a h.1) (Dens.dp b h.2)
end
end

/-! ### dicts with nested keys -/
/-- an entry of the abstract dict: its hash, its key's address, its value -/
abbrev NE := Int × Addr × Int
/-- the dict at d has these entries -/
def DNP (d : Addr) (es : List NE) (h : Heap) : Prop := (d == sysModules) = false ∧ ∃ o arr ep, h.get? d = some o ∧ o.ExactDict ∧ o.data = .dict arr ep ∧
  Paired (fun (p : NE) (e : DictEntry) => e.hash = p.1 ∧ e.key = .ref p.2.1 ∧ ∃ t, e.val = .int p.2.2 t) es arr.toList
def DN (d : Addr) (es : List NE) : HO := .ext (DNP d es)
inductive DenNs (K : PySem.W.Frag) (av : Addr → Prop) (H : Hp) : List NE → List (D × D) → Prop
  | nil : DenNs K av H [] []
  | cons {a : Addr} {k : D} {i : Int} {es : List NE} {ds : List (D × D)} : Den K av H (.ref a) k → nkey k = true → DenNs K av H es ds → DenNs K av H ((hashN k, a, i) :: es) ((k, .int i) :: ds)
theorem DenNs.mp {K : PySem.W.Frag} {av av' : Addr → Prop} {H H' : Hp} (f : ∀ v d, Den K av H v d → Den K av' H' v d) : ∀ {v : List NE} {d : List (D × D)}, DenNs K av H v d → DenNs K av' H' v d
  | _, _, .nil => .nil
  | _, _, .cons a n b => .cons (f _ _ a) n (DenNs.mp f b)
theorem DenNs.same {K : PySem.W.Frag} {av : Addr → Prop} {H H' : Hp} (s : Same H H') {v : List NE} {d : List (D × D)} (h : DenNs K av H v d) : DenNs K av H' v d := h.mp fun _ _ q => q.same s
theorem DenNs.length {K : PySem.W.Frag} {av : Addr → Prop} {H : Hp} : ∀ {v : List NE} {d : List (D × D)}, DenNs K av H v d → v.length = d.length
  | _, _, .nil => rfl
  | _, _, .cons _ _ b => congrArg (· + 1) b.length

/-! ### slots -/
def SlotOk (K : PySem.W.Frag) (av : Addr → Prop) (H : Hp) : Slot → Option V → Prop
  | .un, _ => True
  | .d x, o => ∃ v, o = some v ∧ Den K av H v x
  | .ol xs, o => ∃ (a : Addr) (ys : List V), o = some (V.ref a) ∧ H a = some (.lst ys) ∧ Dens K av H ys xs
  | .od kvs, o => ∃ (a : Addr) (ks : List (Key × V)), o = some (V.ref a) ∧ H a = some (.dK ks) ∧ DenKs K av H ks kvs
  | .on kvs, o => ∃ (a : Addr) (es : List NE), o = some (V.ref a) ∧ H a = some (DN a es) ∧ es.length ≤ sizeLine ∧ DenNs K av H es kvs
  | .rn kvs, o => ∃ (a : Addr) (es : List NE), o = some (V.ref a) ∧ Rd H a (DN a es) ∧ es.length ≤ sizeLine ∧ ¬ av a ∧ DenNs K av H es kvs
  | .ob p, o => o = some (V.ref p)
/-- the address a is an own list or dict of a slot -/
def Owns (e : Sl) (σ : L2.St) (a : Addr) : Prop := ∃ (i : Nat) (s : Slot), e[i]? = some s ∧ isOwn s = true ∧ σ[i]? = some (some (V.ref a))
/-- what a body's proof carries: the written part, the heap at the entry, what results may not be, the wish about exceptions, the classes of exceptions -/
structure Pk where
  K : PySem.W.Frag
  H0 : Hp
  Av : Addr → Prop
  avok : ∀ a, Av a → H0 a ≠ none
  W : WX
  ca : Nat → Addr
def avo (P : Pk) (e : Sl) (σ : L2.St) : Addr → Prop := fun a => P.Av a ∨ Owns e σ a
structure Rel (P : Pk) (e : Sl) (σ : L2.St) (H : Hp) : Prop where
  len : σ.length = e.length
  slot : ∀ (i : Nat) (s : Slot) (o : Option V), e[i]? = some s → σ[i]? = some o → SlotOk P.K (avo P e σ) H s o
  inj : ∀ (i j : Nat) (s t : Slot) (a : Addr), e[i]? = some s → isOwn s = true → e[j]? = some t → isOwn t = true → σ[i]? = some (some (V.ref a)) → σ[j]? = some (some (V.ref a)) → i = j
  fr : Same P.H0 H
  new : ∀ a, Owns e σ a → P.H0 a = none
section
variable {P : Pk} {e : Sl} {σ : L2.St} {H H' : Hp}
theorem SlotOk.same {K : PySem.W.Frag} {av : Addr → Prop} (s : Same H H') : ∀ {x : Slot} {o : Option V}, SlotOk K av H x o → SlotOk K av H' x o
  | .un, _, _ => trivial
  | .d _, _, ⟨v, h, d⟩ => ⟨v, h, d.same s⟩
  | .ol _, _, ⟨a, ys, h, q, d⟩ => ⟨a, ys, h, s _ _ q, d.same s⟩
  | .od _, _, ⟨a, ys, h, q, d⟩ => ⟨a, ys, h, s _ _ q, d.same s⟩
  | .on _, _, ⟨a, ys, h, q, z, d⟩ => ⟨a, ys, h, s _ _ q, z, d.same s⟩
  | .rn _, _, ⟨a, ys, h, q, z, n, d⟩ => ⟨a, ys, h, same_rd s q, z, n, d.same s⟩
  | .ob _, _, h => h
theorem Rel.same (r : Rel P e σ H) (s : Same H H') : Rel P e σ H' := ⟨r.len, fun i x o h1 h2 => (r.slot i x o h1 h2).same s, r.inj, r.fr.trans s, r.new⟩
theorem Rel.at (r : Rel P e σ H) {i : Nat} {s : Slot} (h : e[i]? = some s) : ∃ o, σ[i]? = some o ∧ SlotOk P.K (avo P e σ) H s o := by
  have hl : i < σ.length := by rw [r.len]; exact (List.getElem?_eq_some_iff.mp h).1
  exact ⟨σ[i], List.getElem?_eq_getElem hl, r.slot i s _ h (List.getElem?_eq_getElem hl)⟩
theorem Rel.own_ne (r : Rel P e σ H) {a : Addr} (h : Owns e σ a) : H a ≠ none := by
  obtain ⟨i, s, h1, h2, h3⟩ := h
  have q := r.slot i s _ h1 h3
  cases s with
  | un => cases h2
  | ob _ => cases h2
  | d _ => cases h2
  | ol xs => obtain ⟨b, ys, e1, e2, _⟩ := q; cases e1; rw [e2]; exact fun z => nomatch z
  | od xs => obtain ⟨b, ys, e1, e2, _⟩ := q; cases e1; rw [e2]; exact fun z => nomatch z
  | on xs => obtain ⟨b, ys, e1, e2, _⟩ := q; cases e1; rw [e2]; exact fun z => nomatch z
  | rn _ => cases h2
theorem Rel.av_ne (r : Rel P e σ H) {a : Addr} (h : avo P e σ a) : H a ≠ none := by
  rcases h with h | h
  · intro z
    cases q : P.H0 a with
    | none => exact P.avok a h q
    | some o => rw [r.fr _ _ q] at z; cases z
  · exact r.own_ne h
theorem Rel.own_av (r : Rel P e σ H) {a : Addr} (h : Owns e σ a) : ¬ P.Av a := fun z => P.avok a z (r.new a h)
end

/-! ### readings -/
/-- the modes: 0 nothing but what results may not be is avoided, 1 the top may be an own list, 2 strong -/
def av0 (P : Pk) (e : Sl) (σ : L2.St) : Nat → Addr → Prop
  | 0 => P.Av
  | 1 => P.Av
  | _ => avo P e σ
def av1 (P : Pk) (e : Sl) (σ : L2.St) : Nat → Addr → Prop
  | 0 => P.Av
  | _ => avo P e σ
def DenM (P : Pk) (e : Sl) (σ : L2.St) (m : Nat) (H : Hp) (v : V) (d : D) : Prop := Den2 P.K (av0 P e σ m) (av1 P e σ m) H v d
def DenMs (P : Pk) (e : Sl) (σ : L2.St) (m : Nat) (H : Hp) : List V → List D → Prop
  | [], [] => True
  | v :: vs, d :: ds => DenM P e σ m H v d ∧ DenMs P e σ m H vs ds
  | _, _ => False
section
variable {P : Pk} {e : Sl} {σ : L2.St} {H H' : Hp} {v : V} {d : D} {m : Nat}
theorem DenM.same (s : Same H H') (h : DenM P e σ m H v d) : DenM P e σ m H' v d := Den2.same s h
theorem DenMs.same (s : Same H H') : ∀ {vs : List V} {ds : List D}, DenMs P e σ m H vs ds → DenMs P e σ m H' vs ds
  | [], [], _ => trivial
  | _ :: _, _ :: _, h => ⟨h.1.same s, DenMs.same s h.2⟩
  | [], _ :: _, h => h.elim
  | _ :: _, [], h => h.elim
theorem Den.m2 (h : Den P.K (avo P e σ) H v d) : DenM P e σ 2 H v d := h.two
theorem DenM.d2 (h : DenM P e σ 2 H v d) : Den P.K (avo P e σ) H v d := Den2.one h
theorem DenM.weak (h : DenM P e σ m H v d) : Den P.K P.Av H v d := by
  refine Den2.one (Den2.mono (fun a z => ?_) (fun a z => ?_) h)
  · match m with
    | 0 => exact z
    | 1 => exact z
    | _ + 2 => exact .inl z
  · match m with
    | 0 => exact z
    | _ + 1 => exact .inl z
theorem Den.mm (h : Den P.K (avo P e σ) H v d) : DenM P e σ m H v d := by
  refine Den2.mono (fun a z => ?_) (fun a z => ?_) h.two
  · match m with
    | 0 => exact .inl z
    | 1 => exact .inl z
    | _ + 2 => exact z
  · match m with
    | 0 => exact .inl z
    | _ + 1 => exact z
theorem DenM.flat (h : DenM P e σ m H v d) (f : noLst d = true) : Den P.K (avo P e σ) H v d := h.weak.noLst f
theorem DenMs.weak : ∀ {vs : List V} {ds : List D}, DenMs P e σ m H vs ds → Dens P.K P.Av H vs ds
  | [], [], _ => .nil
  | _ :: _, _ :: _, h => .cons h.1.weak (DenMs.weak h.2)
  | [], _ :: _, h => h.elim
  | _ :: _, [], h => h.elim
theorem DenMs.d2 : ∀ {vs : List V} {ds : List D}, DenMs P e σ 2 H vs ds → Dens P.K (avo P e σ) H vs ds
  | [], [], _ => .nil
  | _ :: _, _ :: _, h => .cons h.1.d2 (DenMs.d2 h.2)
  | [], _ :: _, h => h.elim
  | _ :: _, [], h => h.elim
end

/-- what is asked behind an evaluation -/
def Post (P : Pk) (e : Sl) (σ : L2.St) (m : Nat) (H : Hp) (Q : VK) : Res D → Prop
  | .ok d => ∀ v H', Same H H' → DenM P e σ m H' v d → Q v H'
  | .ex c => ∀ H', Same H H' → P.W (.ref (P.ca c)) none σ H'
  | .stuck => False
def PostT (P : Pk) (σ : L2.St) (H : Hp) (Q : Bool → Hp → Prop) : Res D → Prop
  | .ok (.bool b) => ∀ H', Same H H' → Q b H'
  | .ok _ => False
  | .ex c => ∀ H', Same H H' → P.W (.ref (P.ca c)) none σ H'
  | .stuck => False
def Posts (P : Pk) (e : Sl) (σ : L2.St) (m : Nat) (H : Hp) (Q : List V → Hp → Prop) : Res (List D) → Prop
  | .ok ds => ∀ vs H', Same H H' → DenMs P e σ m H' vs ds → Q vs H'
  | .ex c => ∀ H', Same H H' → P.W (.ref (P.ca c)) none σ H'
  | .stuck => False
def PostL (P : Pk) (e : Sl) (σ : L2.St) (H : Hp) (Q : VK) : Res D → Prop
  | .ok (.list ds) => ∀ p H' xs, Same H H' → H p = none → H' p = some (.lst xs) → Dens P.K (fun a => avo P e σ a ∨ a = p) H' xs ds → Q (.ref p) H'
  | .ok (.dict ds) => ∀ p H' ks, Same H H' → H p = none → H' p = some (.dK ks) → DenKs P.K (fun a => avo P e σ a ∨ a = p) H' ks ds → Q (.ref p) H'
  | .ok _ => False
  | .ex c => ∀ H', Same H H' → P.W (.ref (P.ca c)) none σ H'
  | .stuck => False
def lift (P : Pk) (m : Nat) (f : Sl → Res D) : L2.TE := fun σ H Q => ∃ e, Rel P e σ H ∧ Post P e σ m H Q (f e)
def liftT (P : Pk) (f : Sl → Res D) : L2.TT := fun σ H Q => ∃ e, Rel P e σ H ∧ PostT P σ H Q (f e)
def lifts (P : Pk) (m : Nat) (f : Sl → Res (List D)) : L2.TA := fun σ H Q => ∃ e, Rel P e σ H ∧ Posts P e σ m H Q (f e)
/-- a new list or dict -/
def liftL (P : Pk) (f : Sl → Res D) : L2.TE := fun σ H Q => ∃ e, Rel P e σ H ∧ PostL P e σ H Q (f e)

theorem PE.imp {X : Cx} {ex : Expr} {t t' : L2.TE} (h : PE X ex t) (i : ∀ σ H Q, t' σ H Q → t σ H Q) : PE X ex t' := ⟨fun pins s σ H Q I q => h.run pins s σ H Q I (i _ _ _ q)⟩
theorem PT.imp {X : Cx} {ex : Expr} {t t' : L2.TT} (h : PT X ex t) (i : ∀ σ H Q, t' σ H Q → t σ H Q) : PT X ex t' := ⟨fun pins s σ H Q I q => h.run pins s σ H Q I (i _ _ _ q)⟩
theorem PW.imp {X : Cx} {ex : Expr} {t t' : L2.TT} (h : PW X ex t) (i : ∀ σ H Q, t' σ H Q → t σ H Q) : PW X ex t' := ⟨fun wh pins s σ H Q I q => h.run wh pins s σ H Q I (i _ _ _ q)⟩
theorem PA.imp {X : Cx} {ex : List Expr} {t t' : L2.TA} (h : PA X ex t) (i : ∀ σ H Q, t' σ H Q → t σ H Q) : PA X ex t' := ⟨fun pos pins s σ H Q I q => h.run pos pins s σ H Q I (i _ _ _ q)⟩
theorem PS.imp {X : Cx} {st : Stmt} {t t' : L2.TS} (h : PS X st t) (i : ∀ D σ H, t' D σ H → t D σ H) : PS X st t' := ⟨fun pins s σ H D I q => h.run pins s σ H D I (i _ _ _ q)⟩
theorem PSs.imp {X : Cx} {st : List Stmt} {t t' : L2.TS} (h : PSs X st t) (i : ∀ D σ H, t' D σ H → t D σ H) : PSs X st t' := ⟨fun pins s σ H D I q => h.run pins s σ H D I (i _ _ _ q)⟩

section
variable {P : Pk} {e : Sl} {σ : L2.St} {H H' : Hp} {m n k : Nat} {Q : VK}
theorem Post.back (s : Same H H') : ∀ {r : Res D}, Post P e σ m H Q r → Post P e σ m H' Q r
  | .ok _, h => fun v H2 s2 d => h v H2 (s.trans s2) d
  | .ex _, h => fun H2 s2 => h H2 (s.trans s2)
  | .stuck, h => h
theorem Post.weaken {Q' : VK} : ∀ {r : Res D}, Post P e σ m H Q r → (∀ v H', Q v H' → Q' v H') → Post P e σ m H Q' r
  | .ok _, h, f => fun v H2 s2 d => f _ _ (h v H2 s2 d)
  | .ex _, h, _ => h
  | .stuck, h, _ => h
theorem Posts.weaken {Q Q' : List V → Hp → Prop} : ∀ {r : Res (List D)}, Posts P e σ m H Q r → (∀ v H', Q v H' → Q' v H') → Posts P e σ m H Q' r
  | .ok _, h, f => fun v H2 s2 d => f _ _ (h v H2 s2 d)
  | .ex _, h, _ => h
  | .stuck, h, _ => h
theorem Post.bind {F : D → Res D} : ∀ {r : Res D}, Post P e σ k H Q (r.bind F) → Post P e σ m H (fun v H1 => ∃ x, Same H H1 ∧ DenM P e σ m H1 v x ∧ Post P e σ k H1 Q (F x)) r
  | .ok x, h => fun v H1 s1 d1 => ⟨x, s1, d1, Post.back s1 h⟩
  | .ex _, h => h
  | .stuck, h => h
theorem Post.binds {F : List D → Res D} : ∀ {r : Res (List D)}, Post P e σ k H Q (r.bind F) → Posts P e σ m H (fun vs H1 => ∃ xs, Same H H1 ∧ DenMs P e σ m H1 vs xs ∧ Post P e σ k H1 Q (F xs)) r
  | .ok x, h => fun v H1 s1 d1 => ⟨x, s1, d1, Post.back s1 h⟩
  | .ex _, h => h
  | .stuck, h => h
theorem Post.ok {d : D} {v : V} (h : Post P e σ m H Q (.ok d)) (hd : DenM P e σ m H v d) : Q v H := h v H (Same.refl H) hd
theorem Post.ok' {d : D} {v : V} (h : Post P e σ m H Q (.ok d)) (s : Same H H') (hd : DenM P e σ m H' v d) : Q v H' := h v H' s hd
theorem Post.some {o : Option D} (h : Post P e σ m H Q (Res.of o)) : ∃ d, o = some d ∧ Post P e σ m H Q (.ok d) := by
  cases o with
  | none => exact h.elim
  | some d => exact ⟨d, rfl, h⟩
/-- a mode's weakening -/
theorem Post.mode (hm : ∀ H v d, DenM P e σ n H v d → DenM P e σ m H v d) : ∀ {r : Res D}, Post P e σ m H Q r → Post P e σ n H Q r
  | .ok _, h => fun v H2 s2 d => h v H2 s2 (hm _ _ _ d)
  | .ex _, h => h
  | .stuck, h => h
theorem lift_bind {f : Sl → Res D} {F : Sl → D → Res D} (h : lift P k (fun e => (f e).bind (F e)) σ H Q) :
    lift P m f σ H fun v H1 => ∃ e x, Rel P e σ H1 ∧ DenM P e σ m H1 v x ∧ Post P e σ k H1 Q (F e x) := by
  obtain ⟨e, R, h⟩ := h
  refine ⟨e, R, ?_⟩
  have q := Post.bind (m := m) (r := f e) h
  cases q2 : f e with
  | ok x =>
    rw [q2] at q
    intro v H1 s1 d1
    obtain ⟨y, s, d, p⟩ := q v H1 s1 d1
    exact ⟨e, y, R.same s, d, p⟩
  | ex c => rw [q2] at q; exact q
  | stuck => rw [q2] at q; exact q
theorem lift_binds {f : Sl → Res (List D)} {F : Sl → List D → Res D} (h : lift P k (fun e => (f e).bind (F e)) σ H Q) :
    lifts P m f σ H fun vs H1 => ∃ e xs, Rel P e σ H1 ∧ DenMs P e σ m H1 vs xs ∧ Post P e σ k H1 Q (F e xs) := by
  obtain ⟨e, R, h⟩ := h
  refine ⟨e, R, ?_⟩
  have q := Post.binds (m := m) (r := f e) h
  cases q2 : f e with
  | ok x =>
    rw [q2] at q
    intro v H1 s1 d1
    obtain ⟨y, s, d, p⟩ := q v H1 s1 d1
    exact ⟨e, y, R.same s, d, p⟩
  | ex c => rw [q2] at q; exact q
  | stuck => rw [q2] at q; exact q
/-- a further operand: e is known -/
theorem Post.then {g : Res D} {G : D → Res D} (R : Rel P e σ H) (h : Post P e σ k H Q (g.bind G)) : Post P e σ m H (fun v H1 => ∃ x, Rel P e σ H1 ∧ Same H H1 ∧ DenM P e σ m H1 v x ∧ Post P e σ k H1 Q (G x)) g := by
  have q := Post.bind (m := m) (r := g) h
  cases g with
  | ok x => exact fun v H1 s1 d1 => let ⟨y, s, d, p⟩ := q v H1 s1 d1; ⟨y, R.same s, s, d, p⟩
  | ex c => exact q
  | stuck => exact q
theorem Post.thens {g : Res (List D)} {G : List D → Res D} (R : Rel P e σ H) (h : Post P e σ k H Q (g.bind G)) : Posts P e σ m H (fun v H1 => ∃ x, Rel P e σ H1 ∧ Same H H1 ∧ DenMs P e σ m H1 v x ∧ Post P e σ k H1 Q (G x)) g := by
  have q := Post.binds (m := m) (r := g) h
  cases g with
  | ok x => exact fun v H1 s1 d1 => let ⟨y, s, d, p⟩ := q v H1 s1 d1; ⟨y, R.same s, s, d, p⟩
  | ex c => exact q
  | stuck => exact q
end
end
end Rf

set_option Elab.async false
set_option linter.all false
set_option maxRecDepth 100000
set_option maxHeartbeats 1000000
/-! Rf, part C: operations by values. -/
namespace Rf
noncomputable section
open PySem PySem.Spec PyProof.Rows L2

theorem line_le {n : Nat} (h : n ≤ line) : n ≤ sizeLine := Nat.le_trans h (by decide)
theorem line_lt {n : Nat} (h : n < line) : n < sizeLine := Nat.lt_of_lt_of_le h (by decide)

/-- z is the data d, a list or dict is a new one -/
def Fr2 (K : PySem.W.Frag) (a1 : Addr → Prop) (H : Hp) (z : V) (H' : Hp) : D → Prop
  | .list ds => ∃ p xs, z = .ref p ∧ H p = none ∧ H' p = some (.lst xs) ∧ Dens K (fun a => a1 a ∨ a = p) H' xs ds
  | .dict ds => ∃ p ks, z = .ref p ∧ H p = none ∧ H' p = some (.dK ks) ∧ DenKs K (fun a => a1 a ∨ a = p) H' ks ds
  | d => Den K a1 H' z d
theorem Fr2.two {K : PySem.W.Frag} {a1 c0 : Addr → Prop} {H H' : Hp} {z : V} {d : D} (h : Fr2 K a1 H z H' d) (hc : ∀ a, c0 a → H a ≠ none) : Den2 K c0 a1 H' z d := by
  cases d with
  | list ds => obtain ⟨p, xs, rfl, n, e, t⟩ := h; exact ⟨p, xs, rfl, .inl (.inl e), .inl fun z => hc p z n, t.imp (fun _ _ z => z) fun _ _ z => .inl z⟩
  | dict ds => obtain ⟨p, xs, rfl, n, e, t⟩ := h; exact ⟨p, xs, rfl, .inl e, fun z => hc p z n, t.imp (fun _ _ z => z) fun _ _ z => .inl z⟩
  | _ => exact h
theorem Fr2.back {K : PySem.W.Frag} {a1 : Addr → Prop} {H0 H H' : Hp} {z : V} {d : D} (s : Same H0 H) (h : Fr2 K a1 H z H' d) : Fr2 K a1 H0 z H' d := by
  have bk : ∀ p, H p = none → H0 p = none := fun p n => by
    cases q : H0 p with
    | none => rfl
    | some o => rw [s _ _ q] at n; cases n
  cases d with
  | list ds => obtain ⟨p, xs, e1, n, e, t⟩ := h; exact ⟨p, xs, e1, bk p n, e, t⟩
  | dict ds => obtain ⟨p, xs, e1, n, e, t⟩ := h; exact ⟨p, xs, e1, bk p n, e, t⟩
  | _ => exact h
/-- two values in, a value out -/
def RB (K : PySem.W.Frag) (r : D → D → Option D) : R2 := fun v w H Q => ∃ a0 b0 a1 x y d, Den2 K a0 a1 H v x ∧ Den2 K b0 a1 H w y ∧ r x y = some d ∧
  ∀ z H', Same H H' → Fr2 K a1 H z H' d → Q z H'
theorem same_upd {H : Hp} {p : Addr} {o : HO} (h : H p = none) : Same H (upd H p o) := fun b x e => by
  rw [upd_ne (ne_of_none e h)]
  exact e
section
variable {K : PySem.W.Frag} {a0 a1 : Addr → Prop} {H : Hp} {v : V}
theorem d2_none (h : Den2 K a0 a1 H v .none) : v = .non := by cases h; rfl
theorem d2_bool {b : Bool} (h : Den2 K a0 a1 H v (.bool b)) : v = .bl b := by cases h; rfl
theorem d2_int {i : Int} (h : Den2 K a0 a1 H v (.int i)) : v = .int i := by cases h; rfl
theorem d2_str {x : Str} (h : Den2 K a0 a1 H v (.str x)) : v = .str x := by cases h; rfl
theorem d2_tup {ds : List D} (h : Den2 K a0 a1 H v (.tuple ds)) : ∃ a xs, v = .ref a ∧ SqT K H a xs ∧ Dens K a1 H xs ds := by
  cases h with
  | tuple h t => exact ⟨_, _, rfl, h, t⟩
theorem d2_lst {ds : List D} (h : Den2 K a0 a1 H v (.list ds)) : ∃ a xs, v = .ref a ∧ SqL K H a xs ∧ Dens K a1 H xs ds := by
  obtain ⟨a, xs, e, r, _, t⟩ := h
  exact ⟨a, xs, e, r, t⟩
theorem d2_dct {ds : List (D × D)} (h : Den2 K a0 a1 H v (.dict ds)) : ∃ a xs, v = .ref a ∧ Rd H a (.dK xs) ∧ DenKs K a1 H xs ds := by
  obtain ⟨a, xs, e, r, _, t⟩ := h
  exact ⟨a, xs, e, r, t⟩
end
theorem den_int {K : PySem.W.Frag} {a0 a1 : Addr → Prop} {H : Hp} {i : Int} : Den2 K a0 a1 H (.int i) (.int i) := Den.int i
theorem den_bool {K : PySem.W.Frag} {a0 a1 : Addr → Prop} {H : Hp} {i : Bool} : Den2 K a0 a1 H (.bl i) (.bool i) := Den.bool i
theorem den_str {K : PySem.W.Frag} {a0 a1 : Addr → Prop} {H : Hp} {i : Str} : Den2 K a0 a1 H (.str i) (.str i) := Den.str i
theorem den_none {K : PySem.W.Frag} {a0 a1 : Addr → Prop} {H : Hp} : Den2 K a0 a1 H .non .none := Den.none
/-- a new list -/
theorem new_lst {K : PySem.W.Frag} {a1 : Addr → Prop} {H : Hp} {p : Addr} {xs : List V} {ds : List D} (hp : H p = none) (h : Dens K a1 H xs ds) :
    Fr2 K a1 H (.ref p) (upd H p (.lst xs)) (.list ds) := ⟨p, xs, rfl, hp, upd_same, h.imp (fun _ _ => same_rd (same_upd hp)) fun a ha z => z.elim id fun e => absurd (e ▸ hp) ha⟩
theorem new_dct {K : PySem.W.Frag} {a1 : Addr → Prop} {H : Hp} {p : Addr} {xs : List (Key × V)} {ds : List (D × D)} (hp : H p = none) (h : DenKs K a1 H xs ds) :
    Fr2 K a1 H (.ref p) (upd H p (.dK xs)) (.dict ds) := ⟨p, xs, rfl, hp, upd_same, h.imp (fun _ _ => same_rd (same_upd hp)) fun a ha z => z.elim id fun e => absurd (e ▸ hp) ha⟩
theorem new_tup {K : PySem.W.Frag} {a1 : Addr → Prop} {H : Hp} {p : Addr} {xs : List V} {ds : List D} (hp : H p = none) (h : Dens K a1 H xs ds) :
    Fr2 K a1 H (.ref p) (upd H p (.tup xs)) (.tuple ds) := Den.tuple (.inl (.inl upd_same)) (h.same (same_upd hp))
theorem fr_int {K : PySem.W.Frag} {a1 : Addr → Prop} {H H' : Hp} {i : Int} : Fr2 K a1 H (.int i) H' (.int i) := Den.int i
theorem fr_bool {K : PySem.W.Frag} {a1 : Addr → Prop} {H H' : Hp} {i : Bool} : Fr2 K a1 H (.bl i) H' (.bool i) := Den.bool i
theorem fr_str {K : PySem.W.Frag} {a1 : Addr → Prop} {H H' : Hp} {i : Str} : Fr2 K a1 H (.str i) H' (.str i) := Den.str i

section
variable {X : Cx}
theorem op_catR : OpR X (binaryOp .Add) (fun x y H Q => ∃ l b xs zs, x = .ref l ∧ y = .ref b ∧ SqL X.K H l xs ∧ SqL X.K H b zs ∧ xs.length + zs.length ≤ sizeLine ∧ ∀ p, H p = none → Q (.ref p) (upd H p (.lst (xs ++ zs)))) := by
  intro pins s σ H x y v u Q I rx ry h
  obtain ⟨l, b, xs, zs, rfl, rfl, hH, hB, hz, q⟩ := h
  cases rx
  cases ry
  obtain ⟨its, r, p, hz1⟩ := I.list hH
  obtain ⟨its2, r2, p2, hz2⟩ := I.list hB
  have hl := r.length
  have hl2 := r2.length
  obtain ⟨⟨c1, d1, da1, sl1⟩, g1, t1, n1, q1⟩ := id p.isList
  obtain ⟨⟨c2, d2, da2, sl2⟩, g2, t2, n2, q2⟩ := id p2.isList
  simp only at t1 q1 t2 q2
  subst t1 q1 t2 q2
  have ea : its.toArray ++ its2.toArray = (its ++ its2).toArray := by simp
  refine PySem.concat_meets ⟨_, g1, rfl⟩ ⟨_, g2, rfl⟩ PySem.noFill_list_add PySem.seq_list_add PySem.F.slot_list_add PySem.F.entry_list_add (PySem.F.args_list_add_2 _ _) (list_addW l b its.toArray its2.toArray n1 n2 d1 d2 sl1 sl2 (by rw [List.size_toArray, List.size_toArray]; omega)) ⟨g1, g2, ?_⟩
  rw [ea]
  exact ⟨.ref _, _, I.lnew (t' := s.toks) (r.append r2) (by rw [List.length_append]; omega), rfl, q _ I.fresh⟩

theorem op_addD : OpR X (binaryOp .Add) (RB X.K (binD .add)) := by
  intro pins s σ H v w v' w' Q I rv rw h
  obtain ⟨a0, b0, a1, x, y, d, hx, hy, hd, q⟩ := h
  cases x with
  | int i =>
    cases y <;> simp only [binD, reduceCtorEq] at hd
    rename_i j
    cases hd
    obtain rfl := d2_int hx
    obtain rfl := d2_int hy
    exact op_add pins s σ H _ _ _ _ Q I rv rw ⟨i, j, rfl, rfl, q _ _ (Same.refl H) fr_int⟩
  | str i =>
    cases y <;> simp only [binD, reduceCtorEq] at hd
    rename_i j
    split at hd
    · rename_i hl
      cases hd
      obtain rfl := d2_str hx
      obtain rfl := d2_str hy
      exact op_add_str pins s σ H _ _ _ _ Q I rv rw ⟨i, j, rfl, rfl, line_le hl, q _ _ (Same.refl H) fr_str⟩
    · cases hd
  | list xs =>
    cases y <;> simp only [binD, reduceCtorEq] at hd
    rename_i ys
    split at hd
    · rename_i hl
      cases hd
      obtain ⟨a, us, rfl, ra, da⟩ := d2_lst hx
      obtain ⟨b, ws, rfl, rb, db⟩ := d2_lst hy
      exact op_catR pins s σ H _ _ _ _ Q I rv rw ⟨a, b, us, ws, rfl, rfl, ra, rb, by rw [da.length, db.length]; exact line_le hl, fun p hp => q _ _ (same_upd hp) (new_lst hp (da.append db))⟩
    · cases hd
  | tuple xs =>
    cases y with
    | tuple ys =>
      cases xs with
      | nil => simp only [binD, reduceCtorEq] at hd
      | cons x xs =>
        simp only [binD] at hd
        split at hd
        · rename_i hl
          cases hd
          obtain ⟨a, us, rfl, ra, da⟩ := d2_tup hx
          obtain ⟨b, ws, rfl, rb, db⟩ := d2_tup hy
          have hu : us ≠ [] := fun z => by subst z; cases da
          refine op_catT pins s σ H _ _ _ _ Q I rv rw ⟨a, b, us, ws, rfl, rfl, ra, rb, hu, by rw [da.length, db.length]; exact line_le hl, fun z => ?_, fun z p hp => q _ _ (same_upd hp) (new_tup hp (da.append db))⟩
          subst z
          cases db
          refine q _ _ (Same.refl H) (Den.tuple ra ?_)
          rw [List.append_nil]
          exact da
        · cases hd
    | _ => cases xs <;> simp only [binD, reduceCtorEq] at hd
  | none => cases y <;> simp only [binD, reduceCtorEq] at hd
  | bool _ => cases y <;> simp only [binD, reduceCtorEq] at hd
  | dict _ => cases y <;> simp only [binD, reduceCtorEq] at hd
theorem mulOk {i j : Int} (h : i.natAbs < 2 ^ 64 ∨ j.natAbs < 2 ^ 64) : CMul i j := by
  rcases h with h | h
  · exact .inl (by omega)
  · exact .inr (by omega)
/-- an operation of ints by its rule -/
theorem op_intD {f : Value → Value → Sem Value} {C : Int → Int → Prop} {g : Int → Int → Int} {r : D → D → Option D} (h : OpR X f (rI C fun i j => .int (g i j)))
    (hr : ∀ x y d, r x y = some d → ∃ i j, x = .int i ∧ y = .int j ∧ C i j ∧ d = .int (g i j)) : OpR X f (RB X.K r) := by
  intro pins s σ H v w v' w' Q I rv rw hh
  obtain ⟨a0, b0, a1, x, y, d, hx, hy, hd, q⟩ := hh
  obtain ⟨i, j, rfl, rfl, c, rfl⟩ := hr x y d hd
  obtain rfl := d2_int hx
  obtain rfl := d2_int hy
  exact h pins s σ H _ _ _ _ Q I rv rw ⟨i, j, rfl, rfl, c, q _ _ (Same.refl H) fr_int⟩
theorem binI_sub {x y d : D} (h : binD .sub x y = some d) : ∃ i j, x = .int i ∧ y = .int j ∧ True ∧ d = .int (i - j) := by
  cases x <;> cases y <;> simp only [binD, reduceCtorEq, Option.some.injEq] at h
  exact ⟨_, _, rfl, rfl, trivial, h.symm⟩
theorem binI_mul {x y d : D} (h : binD .mul x y = some d) : ∃ i j, x = .int i ∧ y = .int j ∧ CMul i j ∧ d = .int (i * j) := by
  cases x <;> cases y <;> simp only [binD, reduceCtorEq] at h
  split at h
  · rename_i c
    cases h
    exact ⟨_, _, rfl, rfl, mulOk c, rfl⟩
  · cases h
theorem binI_fdiv {x y d : D} (h : binD .fdiv x y = some d) : ∃ i j, x = .int i ∧ y = .int j ∧ CDivW i j ∧ d = .int (i / j) := by
  cases x <;> cases y <;> simp only [binD, reduceCtorEq] at h
  split at h
  · rename_i c
    cases h
    refine ⟨_, _, rfl, rfl, ?_, rfl⟩
    obtain ⟨c0, c1 | c1⟩ := c
    · exact wide_div c0 (b := 30) (by omega) (by decide) (by decide)
    · exact wide_div c0 c1 (by decide) (by decide)
  · cases h
theorem binI_mod {x y d : D} (h : binD .mod x y = some d) : ∃ i j, x = .int i ∧ y = .int j ∧ 0 < j ∧ d = .int (i % j) := by
  cases x <;> cases y <;> simp only [binD, reduceCtorEq] at h
  split at h
  · rename_i c
    cases h
    exact ⟨_, _, rfl, rfl, c, rfl⟩
  · cases h
theorem binI_pow {x y d : D} (h : binD .pow x y = some d) : ∃ i j, x = .int i ∧ y = .int j ∧ CPow i j ∧ d = .int (i ^ j.toNat) := by
  cases x <;> cases y <;> simp only [binD, reduceCtorEq] at h
  split at h
  · rename_i c
    cases h
    exact ⟨_, _, rfl, rfl, c, rfl⟩
  · cases h
theorem rI_of {f : Value → Value → Sem Value} {g : Int → Int → Int} (h : OpR X f (rI0 fun i j => .int (g i j))) : OpR X f (rI (fun _ _ => True) fun i j => .int (g i j)) :=
  fun pins s σ H x y v u Q I rx ry ⟨i, j, e1, e2, _, q⟩ => h pins s σ H x y v u Q I rx ry ⟨i, j, e1, e2, q⟩
def bOp : BOp → Operator
  | .add => .Add
  | .sub => .Sub
  | .mul => .Mult
  | .fdiv => .FloorDiv
  | .mod => .Mod
  | .pow => .Pow
  | .rep => .Mult
  | .shl => .LShift
  | .shr => .RShift
  | .band => .BitAnd
theorem binI_shl {x y d : D} (h : binD .shl x y = some d) : ∃ i j, x = .int i ∧ y = .int j ∧ CShl i j ∧ d = .int (i * 2 ^ j.toNat) := by
  cases x <;> cases y <;> simp only [binD, reduceCtorEq] at h
  split at h
  · rename_i i j c
    cases h
    refine ⟨_, _, rfl, rfl, ?_, rfl⟩
    obtain ⟨h1, h2, h3⟩ := c
    obtain ⟨k, rfl⟩ := Int.eq_ofNat_of_zero_le h1
    exact L2.shl_ok h3 (by clear h3; omega)
  · cases h
theorem binI_shr {x y d : D} (h : binD .shr x y = some d) : ∃ i j, x = .int i ∧ y = .int j ∧ 0 ≤ j ∧ d = .int (i / 2 ^ j.toNat) := by
  cases x <;> cases y <;> simp only [binD, reduceCtorEq] at h
  split at h
  · rename_i c
    cases h
    exact ⟨_, _, rfl, rfl, c, rfl⟩
  · cases h
theorem binI_band {x y d : D} (h : binD .band x y = some d) : ∃ i j, x = .int i ∧ y = .int j ∧ True ∧ d = .int (Builtin.bitAnd i j) := by
  cases x <;> cases y <;> simp only [binD, reduceCtorEq] at h
  cases h
  exact ⟨_, _, rfl, rfl, trivial, rfl⟩
theorem flat_rep (c : Nat) : ∀ (n : Nat) (acc : Array Nat), (List.replicate n (#[c] : Array Nat)).foldl (· ++ ·) acc = acc ++ (List.replicate n c).toArray
  | 0, acc => by simp
  | n + 1, acc => by
    rw [List.replicate_succ, List.foldl_cons, flat_rep c n, List.replicate_succ]
    apply Array.ext'
    simp
theorem op_repD : OpR X (binaryOp .Mult) (RB X.K (binD .rep)) := by
  intro pins s σ H v w v' w' Q I rv rw' h
  obtain ⟨a0, b0, a1, x, y, d, hx, hy, hd, q⟩ := h
  cases x with
  | str z =>
    cases y with
    | int j =>
      simp only [binD] at hd
      by_cases hc : z.length = 1 ∧ j ≤ 1000000 ∧ -1000000 ≤ j
      · rw [if_pos hc] at hd
        cases hd
        obtain rfl := d2_str hx
        obtain rfl := d2_int hy
        obtain ⟨t, rfl⟩ := rv
        obtain ⟨u, rfl⟩ := rw'
        obtain ⟨h1, h2, h3⟩ := hc
        obtain ⟨c, rfl⟩ : ∃ c, z = S [c] := by
          obtain ⟨arr⟩ := z
          obtain ⟨l⟩ := arr
          match l, h1 with
          | [c], _ => exact ⟨c, rfl⟩
        have fin : ∀ tk, Q (.str (S (List.replicate j.toNat c))) H → EP X pins σ Q (.str (S (List.replicate j.toNat c)) tk) { s with toks := s.toks + 1 } := fun tk q => ⟨.str _, H, I.tok _, ⟨_, rfl⟩, q⟩
        have qq : Q (.str (S (List.replicate j.toNat c))) H := q _ _ (Same.refl H) fr_str
        refine PySem.P.mul_str ?_ (fun h4 h5 => ?_) (fun h4 h5 => ?_) ?_
        · rw [decide_eq_false (by omega), decide_eq_false (by omega)]; rfl
        · have : (1 : Int) ≤ (2 ^ 63 - 1) / j := by
            rw [Int.le_ediv_iff_mul_le (by omega)]
            omega
          show ¬ (((1 : Nat) : Int) > _)
          omega
        · show decide (1 * j.toNat > _) = false
          have : (1000000 : Nat) ≤ sizeLine := by decide
          rw [decide_eq_false]
          omega
        · by_cases h4 : j < 1
          · rw [if_pos h4]
            have e : j.toNat = 0 := by omega
            rw [e] at qq
            exact ⟨by decide, .str _, H, I.tok _, ⟨_, rfl⟩, qq⟩
          · rw [if_neg h4]
            by_cases h5 : j = 1
            · subst h5
              rw [if_pos (by rfl)]
              exact ⟨.str _, H, I, ⟨_, rfl⟩, qq⟩
            · rw [if_neg (by simp [h5, Str.length])]
              have e := flat_rep c j.toNat #[]
              rw [Array.empty_append] at e
              show Made.post (Made.str ⟨(List.replicate j.toNat (#[c] : Array Nat)).foldl (· ++ ·) #[]⟩) _ _
              rw [e]
              refine ⟨?_, .str _, H, I.tok _, ⟨_, rfl⟩, qq⟩
              show (List.replicate j.toNat c).toArray.size ≤ sizeLine
              simp
              have : (1000000 : Nat) ≤ sizeLine := by decide
              omega
      · rw [if_neg hc] at hd; cases hd
    | _ => simp only [binD, reduceCtorEq] at hd
  | _ => cases y <;> simp only [binD, reduceCtorEq] at hd
theorem op_binD : ∀ op : BOp, OpR X (binaryOp (bOp op)) (RB X.K (binD op))
  | .add => op_addD
  | .sub => op_intD (rI_of op_sub) fun _ _ _ h => binI_sub h
  | .mul => op_intD op_mul fun _ _ _ h => binI_mul h
  | .fdiv => op_intD op_fdivW fun _ _ _ h => binI_fdiv h
  | .mod => op_intD op_mod fun _ _ _ h => binI_mod h
  | .pow => op_intD op_pow fun _ _ _ h => binI_pow h
  | .rep => op_repD
  | .shl => op_intD op_shlW fun _ _ _ h => binI_shl h
  | .shr => op_intD op_shr fun _ _ _ h => binI_shr h
  | .band => op_intD (rI_of op_and) fun _ _ _ h => binI_band h
theorem aug_int {op : BOp} (ho : op ≠ .add) {x y d : D} (h : augD op x y = some d) : binD op x y = some d := by
  cases op <;> cases x <;> simp only [augD, reduceCtorEq] at h <;> exact h
theorem op_augD : ∀ op : BOp, op ≠ .pow → OpR X (inplaceOp (bOp op)) (RB X.K (augD op))
  | .add, _ => by
    intro pins s σ H v w v' w' Q I rv rw h
    obtain ⟨a0, b0, a1, x, y, d, hx, hy, hd, q⟩ := h
    cases x with
    | int i =>
      cases y <;> simp only [augD, binD, reduceCtorEq] at hd
      rename_i j
      cases hd
      obtain rfl := d2_int hx
      obtain rfl := d2_int hy
      exact iop_add pins s σ H _ _ _ _ Q I rv rw ⟨i, j, rfl, rfl, q _ _ (Same.refl H) fr_int⟩
    | str i =>
      cases y <;> simp only [augD, binD, reduceCtorEq] at hd
      rename_i j
      split at hd
      · rename_i hl
        cases hd
        obtain rfl := d2_str hx
        obtain rfl := d2_str hy
        exact iop_add_str pins s σ H _ _ _ _ Q I rv rw ⟨i, j, rfl, rfl, line_le hl, q _ _ (Same.refl H) fr_str⟩
      · cases hd
    | _ => simp only [augD, reduceCtorEq] at hd
  | .sub, _ => op_intD (rI_of iop_sub) fun _ _ _ h => binI_sub (aug_int (op := .sub) nofun h)
  | .mul, _ => op_intD iop_mul fun _ _ _ h => binI_mul (aug_int (op := .mul) nofun h)
  | .fdiv, _ => op_intD iop_fdivW fun _ _ _ h => binI_fdiv (aug_int (op := .fdiv) nofun h)
  | .mod, _ => op_intD iop_mod fun _ _ _ h => binI_mod (aug_int (op := .mod) nofun h)
  | .pow, h => absurd rfl h
  | .rep, _ => by
    intro pins s σ H v w v' w' Q I rv rw' h
    obtain ⟨a0, b0, a1, x, y, d, hx, hy, hd, q⟩ := h
    cases x <;> simp only [augD, reduceCtorEq] at hd
  | .shl, _ => by
    intro pins s σ H v w v' w' Q I rv rw' h
    obtain ⟨a0, b0, a1, x, y, d, hx, hy, hd, q⟩ := h
    cases x <;> simp only [augD, reduceCtorEq] at hd
  | .shr, _ => by
    intro pins s σ H v w v' w' Q I rv rw' h
    obtain ⟨a0, b0, a1, x, y, d, hx, hy, hd, q⟩ := h
    cases x <;> simp only [augD, reduceCtorEq] at hd
  | .band, _ => by
    intro pins s σ H v w v' w' Q I rv rw' h
    obtain ⟨a0, b0, a1, x, y, d, hx, hy, hd, q⟩ := h
    cases x <;> simp only [augD, reduceCtorEq] at hd

/-! ### comparisons -/
/-- two values in, a truth out -/
def RC (K : PySem.W.Frag) (r : D → D → Option Bool) : R2 := fun v w H Q => ∃ a0 b0 a1 x y d, Den2 K a0 a1 H v x ∧ Den2 K b0 a1 H w y ∧ r x y = some d ∧ Q (.bl d) H
theorem Den2.den {K : PySem.W.Frag} {a0 a1 : Addr → Prop} {H : Hp} {v : V} {d : D} (h : Den2 K a0 a1 H v d) : Den K (fun _ => False) H v d := (Den2.mono (fun _ z => z.elim) (fun _ z => z.elim) h).one
theorem op_eqD' (hu : X.A.units + 190 < cLine) : OpR X (compareOp .Eq) (RC X.K (cmpD .eq)) := by
  intro pins s σ H v w v' w' Q I rv rw h
  obtain ⟨a0, b0, a1, x, y, d, hx, hy, hd, q⟩ := h
  simp only [cmpD] at hd
  split at hd
  · rename_i c
    cases hd
    simp only [eqOk, Bool.and_eq_true, decide_eq_true_eq] at c
    obtain ⟨⟨c1, c2⟩, c3⟩ := c
    obtain ⟨as, r1⟩ := Dp.reads I x v v' (hx.den.dp c1) rv
    obtain ⟨bs, r2⟩ := Dp.reads I y w w' (hy.den.dp c2) rw
    exact SeqAt.compareEq_reads r1 r2 c1 c2 (by omega) ⟨.bl _, H, I, rfl, q⟩
  · cases hd
theorem op_neD' (hu : X.A.units + 190 < cLine) : OpR X (compareOp .NotEq) (RC X.K (cmpD .ne)) := by
  intro pins s σ H v w v' w' Q I rv rw h
  obtain ⟨a0, b0, a1, x, y, d, hx, hy, hd, q⟩ := h
  simp only [cmpD] at hd
  split at hd
  · rename_i c
    cases hd
    simp only [eqOk, Bool.and_eq_true, decide_eq_true_eq] at c
    obtain ⟨⟨c1, c2⟩, c3⟩ := c
    obtain ⟨as, r1⟩ := Dp.reads I x v v' (hx.den.dp c1) rv
    obtain ⟨bs, r2⟩ := Dp.reads I y w w' (hy.den.dp c2) rw
    exact SeqAt.compareNe_reads r1 r2 c1 c2 (by omega) ⟨.bl _, H, I, rfl, q⟩
  · cases hd
theorem op_ordD {f : Value → Value → Sem Value} {g : Int → Int → Bool} {r : D → D → Option Bool} (h : OpR X f (rI0 fun i j => .bl (g i j)))
    (hr : ∀ x y d, r x y = some d → ∃ i j, x = .int i ∧ y = .int j ∧ d = g i j) : OpR X f (RC X.K r) := by
  intro pins s σ H v w v' w' Q I rv rw hh
  obtain ⟨a0, b0, a1, x, y, d, hx, hy, hd, q⟩ := hh
  obtain ⟨i, j, rfl, rfl, rfl⟩ := hr x y d hd
  obtain rfl := d2_int hx
  obtain rfl := d2_int hy
  exact h pins s σ H _ _ _ _ Q I rv rw ⟨i, j, rfl, rfl, q⟩

/-! membership -/
theorem eqv_eqV {K : PySem.W.Frag} {av : Addr → Prop} {H : Hp} {v w : V} {x y : D} (hx : Den K av H v x) (hy : Den K av H w y) (fx : flatD x = true) (fy : flatD y = true) : flatV v = true ∧ flatV w = true ∧ eqV w v = PyData.eqv y x := by
  cases hx with
  | none => cases hy with
    | none => exact ⟨rfl, rfl, rfl⟩
    | bool b => exact ⟨rfl, rfl, rfl⟩
    | int i => exact ⟨rfl, rfl, rfl⟩
    | str z => exact ⟨rfl, rfl, rfl⟩
    | _ => cases fy
  | bool c => cases hy with
    | none => exact ⟨rfl, rfl, rfl⟩
    | bool b => exact ⟨rfl, rfl, rfl⟩
    | int i => exact ⟨rfl, rfl, rfl⟩
    | str z => exact ⟨rfl, rfl, rfl⟩
    | _ => cases fy
  | int c => cases hy with
    | none => exact ⟨rfl, rfl, rfl⟩
    | bool b => exact ⟨rfl, rfl, rfl⟩
    | int i => exact ⟨rfl, rfl, rfl⟩
    | str z => exact ⟨rfl, rfl, rfl⟩
    | _ => cases fy
  | str c => cases hy with
    | none => exact ⟨rfl, rfl, rfl⟩
    | bool b => exact ⟨rfl, rfl, rfl⟩
    | int i => exact ⟨rfl, rfl, rfl⟩
    | str z => exact ⟨rfl, rfl, rfl⟩
    | _ => cases fy
  | _ => cases fx
theorem in_of {K : PySem.W.Frag} {av : Addr → Prop} {H : Hp} {v : V} {x : D} (hx : Den K av H v x) (fx : flatD x = true) : ∀ {ws : List V} {ys : List D}, Dens K av H ws ys → ys.all flatD = true →
    ws.all flatV = true ∧ inV v ws = ys.any fun y => PyData.eqv y x
  | _, _, .nil, _ => ⟨rfl, rfl⟩
  | _, _, .cons a b, h => by
    rw [List.all_cons, Bool.and_eq_true] at h
    obtain ⟨h1, h2, h3⟩ := eqv_eqV hx a fx h.1
    obtain ⟨h4, h5⟩ := in_of hx fx b h.2
    refine ⟨by rw [List.all_cons, h2, h4]; rfl, ?_⟩
    show (eqV _ _ || inV v _) = _
    rw [List.any_cons, h3, h5]

/-! dicts -/
theorem keyD_of {k : D} {c : Key} (h : keyD k = some c) : k = keyOf c := by
  cases k <;> simp only [keyD, reduceCtorEq, Option.some.injEq] at h <;> subst h <;> rfl
theorem eqv_key {a b : Key} : PyData.eqv (keyOf a) (keyOf b) = decide (a = b) := by
  cases a with
  | inl i => cases b with
    | inl j => show (i == j) = _; rw [key_ll]
    | inr y => show false = _; rw [key_lr]
  | inr x => cases b with
    | inl j => show false = _; rw [key_rl]
    | inr y =>
      show (x == y) = _
      rw [key_rr, Bool.eq_iff_iff]
      simp
theorem keyV {K : PySem.W.Frag} {a0 a1 : Addr → Prop} {H : Hp} {v : V} {k : Key} (h : Den2 K a0 a1 H v (keyOf k)) : v = kV k := by
  cases k with
  | inl i => exact d2_int h
  | inr x => exact d2_str h
theorem look_of {K : PySem.W.Frag} {av : Addr → Prop} {H : Hp} (k : Key) : ∀ {ks : List (Key × V)} {ds : List (D × D)}, DenKs K av H ks ds →
    (lookD ds (keyOf k) = none ∧ valV ks k = none) ∨ ∃ x v, lookD ds (keyOf k) = some x ∧ valV ks k = some v ∧ Den K av H v x
  | _, _, .nil => .inl ⟨rfl, rfl⟩
  | _, _, .cons (k := c) (v := v) (d := d) (ks := ks) (ds := ds) a b => by
    by_cases e : c = k
    · subst e
      refine .inr ⟨d, v, ?_, valV_pos rfl, a⟩
      simp only [lookD, List.find?_cons, eqv_key, decide_true, Option.map_some]
    · rw [valV_neg e]
      have h1 : lookD ((keyOf c, d) :: ds) (keyOf k) = lookD ds (keyOf k) := by
        unfold lookD
        rw [List.find?_cons, eqv_key, decide_eq_false e]
      rw [h1]
      exact look_of k b
theorem DenKs.any {K : PySem.W.Frag} {av : Addr → Prop} {H : Hp} (k : Key) {ks : List (Key × V)} {ds : List (D × D)} (h : DenKs K av H ks ds) : (lookD ds (keyOf k)).isSome = (valV ks k).isSome := by
  rcases look_of k h with ⟨h1, h2⟩ | ⟨x, v, h1, h2, _⟩
  · rw [h1, h2]; rfl
  · rw [h1, h2]; rfl
theorem repl_of {K : PySem.W.Frag} {av : Addr → Prop} {H : Hp} (k : Key) {w : V} {y : D} (hw : Den K av H w y) : ∀ {ks : List (Key × V)} {ds : List (D × D)}, DenKs K av H ks ds →
    DenKs K av H (ks.map fun kv => if kv.1 = k then (kv.1, w) else kv) (ds.map fun p => if PyData.eqv p.1 (keyOf k) then (p.1, y) else p)
  | _, _, .nil => .nil
  | _, _, .cons (k := c) a b => by
    rw [List.map_cons, List.map_cons]
    by_cases e : c = k
    · subst e
      rw [if_pos rfl]
      simp only [eqv_key, decide_true, if_true]
      exact .cons hw (repl_of c hw b)
    · rw [if_neg e]
      simp only [eqv_key, decide_eq_false e, Bool.false_eq_true, if_false]
      exact .cons a (repl_of k hw b)
theorem DenKs.append {K : PySem.W.Frag} {av : Addr → Prop} {H : Hp} : ∀ {ks : List (Key × V)} {ds : List (D × D)} {ks' : List (Key × V)} {ds' : List (D × D)}, DenKs K av H ks ds → DenKs K av H ks' ds' → DenKs K av H (ks ++ ks') (ds ++ ds')
  | _, _, _, _, .nil, h => h
  | _, _, _, _, .cons a b, h => .cons a (b.append h)
theorem put_of {K : PySem.W.Frag} {av : Addr → Prop} {H : Hp} (k : Key) {w : V} {y : D} (hw : Den K av H w y) {ks : List (Key × V)} {ds : List (D × D)} (h : DenKs K av H ks ds) : DenKs K av H (putK ks k w) (putD ds (keyOf k) y) := by
  unfold putD
  rcases look_of k h with ⟨h1, h2⟩ | ⟨x, v, h1, h2, _⟩
  · rw [putK_new w h2, h1]
    exact h.append (.cons hw .nil)
  · have e : putK ks k w = ks.map fun kv => if kv.1 = k then (kv.1, w) else kv := by
      unfold putK
      rw [if_pos (by rw [valV_any, h2]; rfl)]
    rw [e, h1]
    exact repl_of k hw h
theorem op_inD' (hu : X.A.units + 1 < cLine) : OpR X (compareOp .In) (RC X.K (cmpD .isin)) := by
  intro pins s σ H v w v' w' Q I rv rw h
  obtain ⟨a0, b0, a1, x, y, d, hx, hy, hd, q⟩ := h
  have hd : inD x y = some d := hd
  cases y with
  | list ys =>
    simp only [inD] at hd
    split at hd
    · rename_i c
      cases hd
      rw [Bool.and_eq_true] at c
      obtain ⟨a, us, rfl, ra, da⟩ := d2_lst hy
      obtain ⟨fx, fs, ee⟩ := And.intro c.1 (in_of hx.den c.1 (da.imp (fun _ _ z => z) fun _ _ z => z.elim) c.2)
      obtain ⟨h1, -, -⟩ := eqv_eqV hx.den hx.den c.1 c.1
      exact op_in_seq pins s σ H _ _ _ _ Q I rv rw ⟨a, us, rfl, .inl ra, h1, fs, by rw [if_neg Bool.false_ne_true, ee]; exact q⟩
    · cases hd
  | tuple ys =>
    simp only [inD] at hd
    split at hd
    · rename_i c
      cases hd
      rw [Bool.and_eq_true] at c
      obtain ⟨a, us, rfl, ra, da⟩ := d2_tup hy
      obtain ⟨fx, fs, ee⟩ := And.intro c.1 (in_of hx.den c.1 (da.imp (fun _ _ z => z) fun _ _ z => z.elim) c.2)
      obtain ⟨h1, -, -⟩ := eqv_eqV hx.den hx.den c.1 c.1
      exact op_in_seq pins s σ H _ _ _ _ Q I rv rw ⟨a, us, rfl, .inr ra, h1, fs, by rw [if_neg Bool.false_ne_true, ee]; exact q⟩
    · cases hd
  | str z =>
    cases x <;> simp only [inD, reduceCtorEq, Option.some.injEq] at hd
    subst hd
    obtain rfl := d2_str hx
    obtain rfl := d2_str hy
    exact op_in_str pins s σ H _ _ _ _ Q I rv rw ⟨_, _, rfl, rfl, q⟩
  | dict kvs =>
    simp only [inD] at hd
    split at hd
    · rename_i c
      cases hd
      obtain ⟨k, hk⟩ := Option.isSome_iff_exists.mp c
      obtain rfl := keyD_of hk
      obtain rfl := keyV hx
      obtain ⟨a, us, rfl, ra, da⟩ := d2_dct hy
      rw [da.any] at q
      cases rw
      exact d_in hu I (.inl ⟨us, k, ra, rfl, rfl⟩) rv fun s' I' => ⟨.bl _, H, I', rfl, q⟩
    · cases hd
  | _ => simp only [inD, reduceCtorEq] at hd
theorem op_notinD' (hu : X.A.units + 1 < cLine) : OpR X (compareOp .NotIn) (RC X.K (cmpD .notin)) := by
  intro pins s σ H v w v' w' Q I rv rw h
  obtain ⟨a0, b0, a1, x, y, d, hx, hy, hd, q⟩ := h
  have h5 : (inD x y).map not = some d := hd
  clear hd
  obtain ⟨d, hd, rfl⟩ := Option.map_eq_some_iff.mp h5
  clear h5
  cases y with
  | list ys =>
    simp only [inD] at hd
    split at hd
    · rename_i c
      cases hd
      rw [Bool.and_eq_true] at c
      obtain ⟨a, us, rfl, ra, da⟩ := d2_lst hy
      obtain ⟨fx, fs, ee⟩ := And.intro c.1 (in_of hx.den c.1 (da.imp (fun _ _ z => z) fun _ _ z => z.elim) c.2)
      obtain ⟨h1, -, -⟩ := eqv_eqV hx.den hx.den c.1 c.1
      exact op_notIn_seq pins s σ H _ _ _ _ Q I rv rw ⟨a, us, rfl, .inl ra, h1, fs, by rw [if_pos rfl, ee]; exact q⟩
    · cases hd
  | tuple ys =>
    simp only [inD] at hd
    split at hd
    · rename_i c
      cases hd
      rw [Bool.and_eq_true] at c
      obtain ⟨a, us, rfl, ra, da⟩ := d2_tup hy
      obtain ⟨fx, fs, ee⟩ := And.intro c.1 (in_of hx.den c.1 (da.imp (fun _ _ z => z) fun _ _ z => z.elim) c.2)
      obtain ⟨h1, -, -⟩ := eqv_eqV hx.den hx.den c.1 c.1
      exact op_notIn_seq pins s σ H _ _ _ _ Q I rv rw ⟨a, us, rfl, .inr ra, h1, fs, by rw [if_pos rfl, ee]; exact q⟩
    · cases hd
  | str z =>
    cases x <;> simp only [inD, reduceCtorEq, Option.some.injEq] at hd
    subst hd
    obtain rfl := d2_str hx
    obtain rfl := d2_str hy
    exact op_notin_str pins s σ H _ _ _ _ Q I rv rw ⟨_, _, rfl, rfl, q⟩
  | dict kvs =>
    simp only [inD] at hd
    split at hd
    · rename_i c
      cases hd
      obtain ⟨k, hk⟩ := Option.isSome_iff_exists.mp c
      obtain rfl := keyD_of hk
      obtain rfl := keyV hx
      obtain ⟨a, us, rfl, ra, da⟩ := d2_dct hy
      rw [da.any] at q
      cases rw
      exact d_notIn hu I (.inl ⟨us, k, ra, rfl, rfl⟩) rv fun s' I' => ⟨.bl _, H, I', rfl, q⟩
    · cases hd
  | _ => simp only [inD, reduceCtorEq] at hd
theorem op_isD' : OpR X (compareOp .Is) (RC X.K (cmpD .is)) := by
  intro pins s σ H v w v' w' Q I rv rw h
  obtain ⟨a0, b0, a1, x, y, d, hx, hy, hd, q⟩ := h
  cases y with
  | none =>
    obtain rfl := d2_none hy
    have e : decide (v = .non) = d := by
      cases x <;> simp only [cmpD, reduceCtorEq, Option.some.injEq] at hd
      · subst hd; obtain rfl := d2_none hx; rfl
      · subst hd; obtain rfl := d2_bool hx; rfl
      · subst hd; obtain rfl := d2_int hx; rfl
      · subst hd; obtain rfl := d2_str hx; rfl
      · subst hd; obtain ⟨a, us, rfl, _⟩ := d2_lst hx; rfl
      · subst hd; obtain ⟨a, us, rfl, _⟩ := d2_tup hx; rfl
    exact op_isN pins s σ H _ _ _ _ Q I rv rw ⟨rfl, by rw [e]; exact q⟩
  | bool b =>
    cases x <;> simp only [cmpD, reduceCtorEq, Option.some.injEq] at hd
    subst hd
    obtain rfl := d2_bool hx
    obtain rfl := d2_bool hy
    exact op_isBl pins s σ H _ _ _ _ Q I rv rw ⟨_, _, rfl, rfl, q⟩
  | _ => cases x <;> simp only [cmpD, reduceCtorEq] at hd
theorem op_isnotD' : OpR X (compareOp .IsNot) (RC X.K (cmpD .isnot)) := by
  intro pins s σ H v w v' w' Q I rv rw h
  obtain ⟨a0, b0, a1, x, y, d, hx, hy, hd, q⟩ := h
  cases y with
  | none =>
    obtain rfl := d2_none hy
    have e : (!decide (v = .non)) = d := by
      cases x <;> simp only [cmpD, reduceCtorEq, Option.some.injEq] at hd
      · subst hd; obtain rfl := d2_none hx; rfl
      · subst hd; obtain rfl := d2_bool hx; rfl
      · subst hd; obtain rfl := d2_int hx; rfl
      · subst hd; obtain rfl := d2_str hx; rfl
      · subst hd; obtain ⟨a, us, rfl, _⟩ := d2_lst hx; rfl
      · subst hd; obtain ⟨a, us, rfl, _⟩ := d2_tup hx; rfl
    exact op_notN pins s σ H _ _ _ _ Q I rv rw ⟨rfl, by rw [e]; exact q⟩
  | bool b =>
    cases x <;> simp only [cmpD, reduceCtorEq, Option.some.injEq] at hd
    subst hd
    obtain rfl := d2_bool hx
    obtain rfl := d2_bool hy
    exact op_notBl pins s σ H _ _ _ _ Q I rv rw ⟨_, _, rfl, rfl, q⟩
  | _ => cases x <;> simp only [cmpD, reduceCtorEq] at hd
def cOp : COp → CmpOp
  | .eq => .Eq
  | .ne => .NotEq
  | .lt => .Lt
  | .le => .LtE
  | .gt => .Gt
  | .ge => .GtE
  | .isin => .In
  | .notin => .NotIn
  | .is => .Is
  | .isnot => .IsNot
theorem op_cmpD (hu : X.A.units + 190 < cLine) : ∀ op : COp, OpR X (compareOp (cOp op)) (RC X.K (cmpD op))
  | .eq => op_eqD' hu
  | .ne => op_neD' hu
  | .lt => op_ordD op_lt fun x y d h => by
    cases x <;> cases y <;> simp only [cmpD, reduceCtorEq, Option.some.injEq] at h
    exact ⟨_, _, rfl, rfl, h.symm⟩
  | .le => op_ordD op_le fun x y d h => by
    cases x <;> cases y <;> simp only [cmpD, reduceCtorEq, Option.some.injEq] at h
    exact ⟨_, _, rfl, rfl, h.symm⟩
  | .gt => op_ordD op_gt fun x y d h => by
    cases x <;> cases y <;> simp only [cmpD, reduceCtorEq, Option.some.injEq] at h
    exact ⟨_, _, rfl, rfl, h.symm⟩
  | .ge => op_ordD op_ge fun x y d h => by
    cases x <;> cases y <;> simp only [cmpD, reduceCtorEq, Option.some.injEq] at h
    exact ⟨_, _, rfl, rfl, h.symm⟩
  | .isin => op_inD' (by omega)
  | .notin => op_notinD' (by omega)
  | .is => op_isD'
  | .isnot => op_isnotD'
end
end
end Rf

set_option Elab.async false
set_option linter.all false
set_option maxRecDepth 100000
set_option maxHeartbeats 1000000
/-! Rf, part D: subscripts, slices, built-in functions and methods by values. -/
namespace Rf
noncomputable section
open PySem PySem.Spec PyProof.Rows L2

section
variable {X : Cx}
/-- a subscript -/
def RIx (K : PySem.W.Frag) : R2 := fun v w H Q => ∃ a0 b0 a1 b1 x y d, Den2 K a0 a1 H v x ∧ Den2 K b0 b1 H w y ∧ idxD x y = some d ∧ ∀ z, Den K a1 H z d → Q z H
theorem atI_len {α β : Type} {xs : List α} {ys : List β} (h : xs.length = ys.length) {i : Int} {y : β} (e : atI ys i = some y) : ∃ j : Nat, ys[j]? = some y ∧ ∀ x : α, xs[j]? = some x → atI xs i = some x := by
  unfold atI at e ⊢
  rw [h]
  cases q : ixN ys.length i with
  | none => rw [q] at e; cases e
  | some j => rw [q] at e; exact ⟨j, e, fun x hx => hx⟩
theorem ixD (hu : X.A.units + 1 < cLine) : IxR X (RIx X.K) := by
  intro value slice pins s σ H v w v' w' Q I rv rw h hs
  obtain ⟨a0, b0, a1, b1, x, y, d, hx, hy, hd, q⟩ := h
  cases x with
  | list xs =>
    cases y <;> simp only [idxD, reduceCtorEq] at hd
    obtain rfl := d2_int hy
    obtain ⟨a, us, rfl, ra, da⟩ := d2_lst hx
    obtain ⟨j, h1, h2⟩ := atI_len da.length hd
    obtain ⟨z, h3, h4⟩ := da.getD h1
    exact ix_list value slice pins s σ H _ _ _ _ Q I rv rw ⟨a, us, _, z, rfl, rfl, ra, h2 z h3, q z h4⟩ hs
  | tuple xs =>
    cases y <;> simp only [idxD, reduceCtorEq] at hd
    obtain rfl := d2_int hy
    obtain ⟨a, us, rfl, ra, da⟩ := d2_tup hx
    obtain ⟨j, h1, h2⟩ := atI_len da.length hd
    obtain ⟨z, h3, h4⟩ := da.getD h1
    exact ix_tup value slice pins s σ H _ _ _ _ Q I rv rw ⟨a, us, _, z, rfl, rfl, ra, h2 z h3, q z h4⟩ hs
  | str z =>
    cases y <;> simp only [idxD, reduceCtorEq] at hd
    split at hd
    · rename_i hl
      obtain rfl := d2_int hy
      obtain rfl := d2_str hx
      obtain ⟨c, hc, rfl⟩ := Option.map_eq_some_iff.mp hd
      exact ix_str value slice pins s σ H _ _ _ _ Q I rv rw ⟨z, _, c, rfl, rfl, line_le hl, hc, q _ (.str _)⟩ hs
    · cases hd
  | dict kvs =>
    simp only [idxD] at hd
    split at hd
    · rename_i c
      obtain ⟨k, hk⟩ := Option.isSome_iff_exists.mp c
      obtain rfl := keyD_of hk
      obtain rfl := keyV hy
      obtain ⟨a, us, rfl, ra, da⟩ := d2_dct hx
      rcases look_of k da with ⟨h1, h2⟩ | ⟨x, z, h1, h2, h3⟩
      · rw [h1] at hd; cases hd
      · rw [h1] at hd; cases hd
        cases rv
        have g : DGet H a (kV k) (some z) := .inl ⟨us, k, ra, rfl, h2.symm⟩
        exact tail_any (dict_typeIs I g) PySem.F.slot_dict_getitem.lookup (d_getItem hu I g rw fun w' s3 I3 rw' => ⟨z, H, I3, rw', q z h3⟩) hs
    · cases hd
  | _ => simp only [idxD, reduceCtorEq] at hd

/-! ### slices -/
def RSl (K : PySem.W.Frag) : V → Option Int → Option Int → Hp → VK → Prop := fun v lo hi H Q => ∃ a0 a1 x d, Den2 K a0 a1 H v x ∧ sliceD x lo hi = some d ∧ ∀ z H', Same H H' → Fr2 K a1 H z H' d → Q z H'
theorem Dens.cut {K : PySem.W.Frag} {av : Addr → Prop} {H : Hp} {us : List V} {xs : List D} (h : Dens K av H us xs) (lo hi : Option Int) : Dens K av H (cutV us lo hi) (cutD xs lo hi) := by
  unfold cutV cutD
  rw [h.length]
  exact (h.drop _).take _
theorem slD : SlR X (RSl X.K) := by
  intro pins s σ H v v' vl vu lo hi sl Q I rv hs pl pu h
  obtain ⟨a0, a1, x, d, hx, hd, q⟩ := h
  cases x with
  | list xs =>
    simp only [sliceD, Option.some.injEq] at hd
    subst hd
    obtain ⟨a, us, rfl, ra, da⟩ := d2_lst hx
    exact sl_list pins s σ H _ _ vl vu lo hi sl Q I rv hs pl pu ⟨a, us, rfl, ra, fun p hp => q _ _ (same_upd hp) (new_lst hp (da.cut lo hi))⟩
  | tuple xs =>
    simp only [sliceD, Option.some.injEq] at hd
    subst hd
    obtain ⟨a, us, rfl, ra, da⟩ := d2_tup hx
    refine sl_tupA pins s σ H _ _ vl vu lo hi sl Q I rv hs pl pu ⟨a, us, rfl, ra, fun c => ?_, fun _ p hp => q _ _ (same_upd hp) (new_tup hp (da.cut lo hi))⟩
    refine q _ _ (Same.refl H) (Den.tuple ra ?_)
    have e : cutD xs lo hi = xs := by
      unfold cutD
      rw [← da.length, c.1, c.2, List.drop_zero, Nat.sub_zero, da.length, List.take_length]
    rw [e]
    exact da
  | str z =>
    simp only [sliceD] at hd
    split at hd
    · rename_i hl
      cases hd
      obtain rfl := d2_str hx
      exact sl_str pins s σ H _ _ vl vu lo hi sl Q I rv hs pl pu ⟨z, rfl, line_le hl, q _ _ (Same.refl H) (by
        have e : cutS z lo hi = S (cutD z.cps.toList lo hi) := by
          unfold cutS cutD
          rw [show z.cps.toList.length = z.length by simp [Str.length]]
        rw [e]
        exact fr_str)⟩
    · cases hd
  | _ => simp only [sliceD, reduceCtorEq] at hd

/-! ### built-in functions -/
def DenA (K : PySem.W.Frag) (a1 : Addr → Prop) (H : Hp) : List V → List D → Prop
  | [], [] => True
  | v :: vs, d :: ds => (∃ a0, Den2 K a0 a1 H v d) ∧ DenA K a1 H vs ds
  | _, _ => False
def RCl (K : PySem.W.Frag) (f : List D → Option D) : List V → Hp → VK → Prop := fun vs H Q => ∃ a1 ds d, DenA K a1 H vs ds ∧ f ds = some d ∧ ∀ z H', Same H H' → Fr2 K a1 H z H' d → Q z H'
theorem denA1 {K : PySem.W.Frag} {a1 : Addr → Prop} {H : Hp} {vs : List V} {d : D} (h : DenA K a1 H vs [d]) : ∃ v a0, vs = [v] ∧ Den2 K a0 a1 H v d := by
  match vs, h with
  | [v], ⟨⟨a0, h⟩, _⟩ => exact ⟨v, a0, rfl, h⟩
theorem denA2 {K : PySem.W.Frag} {a1 : Addr → Prop} {H : Hp} {vs : List V} {d e : D} (h : DenA K a1 H vs [d, e]) : ∃ v w a0 b0, vs = [v, w] ∧ Den2 K a0 a1 H v d ∧ Den2 K b0 a1 H w e := by
  match vs, h with
  | [v, w], ⟨⟨a0, h⟩, ⟨b0, h2⟩, _⟩ => exact ⟨v, w, a0, b0, rfl, h, h2⟩
theorem allInts_of {K : PySem.W.Frag} {av : Addr → Prop} {H : Hp} : ∀ {us : List V} {xs : List D} {l : List Int}, Dens K av H us xs → allInts xs = some l → us = l.map V.int ∧ xs = l.map .int
  | _, _, l, .nil, h => by cases h; exact ⟨rfl, rfl⟩
  | _, _, l, .cons a b, h => by
    cases a <;> simp only [allInts, reduceCtorEq] at h
    obtain ⟨r, h1, rfl⟩ := Option.map_eq_some_iff.mp h
    obtain ⟨e1, e2⟩ := allInts_of b h1
    exact ⟨by rw [e1]; rfl, by rw [e2]; rfl⟩
theorem allBools_of {K : PySem.W.Frag} {av : Addr → Prop} {H : Hp} : ∀ {us : List V} {xs : List D} {l : List Bool}, Dens K av H us xs → allBools xs = some l → us = l.map V.bl
  | _, _, l, .nil, h => by cases h; exact rfl
  | _, _, l, .cons a b, h => by
    cases a <;> simp only [allBools, reduceCtorEq] at h
    obtain ⟨r, h1, rfl⟩ := Option.map_eq_some_iff.mp h
    rw [allBools_of b h1]; rfl
theorem allStrs_of {K : PySem.W.Frag} {av : Addr → Prop} {H : Hp} : ∀ {us : List V} {xs : List D} {l : List Str}, Dens K av H us xs → allStrs xs = some l → us = l.map V.str
  | _, _, l, .nil, h => by cases h; exact rfl
  | _, _, l, .cons a b, h => by
    cases a <;> simp only [allStrs, reduceCtorEq] at h
    obtain ⟨r, h1, rfl⟩ := Option.map_eq_some_iff.mp h
    rw [allStrs_of b h1]; rfl
theorem dens_ints {K : PySem.W.Frag} {av : Addr → Prop} {H : Hp} : ∀ l : List Int, Dens K av H (l.map V.int) (l.map .int)
  | [] => .nil
  | i :: l => .cons (.int i) (dens_ints l)
theorem maxI_mem : ∀ {l : List Int}, l ≠ [] → maxI l ∈ l ∧ ∀ y ∈ l, y ≤ maxI l
  | [], h => absurd rfl h
  | [x], _ => ⟨by simp [maxI], by simp [maxI]⟩
  | x :: y :: r, _ => by
    obtain ⟨h1, h2⟩ := maxI_mem (l := y :: r) (by simp)
    have e : maxI (x :: y :: r) = max x (maxI (y :: r)) := rfl
    rw [e]
    refine ⟨?_, fun z hz => ?_⟩
    · rcases Int.le_total x (maxI (y :: r)) with h | h
      · rw [Int.max_eq_right h]; exact List.mem_cons_of_mem _ h1
      · rw [Int.max_eq_left h]; exact List.mem_cons_self
    · rcases List.mem_cons.mp hz with rfl | hz
      · exact Int.le_max_left _ _
      · exact Int.le_trans (h2 z hz) (Int.le_max_right _ _)
theorem minI_mem : ∀ {l : List Int}, l ≠ [] → minI l ∈ l ∧ ∀ y ∈ l, minI l ≤ y
  | [], h => absurd rfl h
  | [x], _ => ⟨by simp [minI], by simp [minI]⟩
  | x :: y :: r, _ => by
    obtain ⟨h1, h2⟩ := minI_mem (l := y :: r) (by simp)
    have e : minI (x :: y :: r) = min x (minI (y :: r)) := rfl
    rw [e]
    refine ⟨?_, fun z hz => ?_⟩
    · rcases Int.le_total x (minI (y :: r)) with h | h
      · rw [Int.min_eq_left h]; exact List.mem_cons_self
      · rw [Int.min_eq_right h]; exact List.mem_cons_of_mem _ h1
    · rcases List.mem_cons.mp hz with rfl | hz
      · exact Int.min_le_left _ _
      · exact Int.le_trans (Int.min_le_right _ _) (h2 z hz)
theorem insI_perm (x : Int) : ∀ l : List Int, (insI x l).Perm (x :: l)
  | [] => .refl _
  | y :: r => by
    unfold insI
    split
    · exact .refl _
    · exact ((insI_perm x r).cons y).trans (List.Perm.swap x y r)
theorem sortI_perm : ∀ l : List Int, (sortI l).Perm l
  | [] => .refl _
  | x :: r => (insI_perm x (sortI r)).trans ((sortI_perm r).cons x)
theorem insI_sorted (x : Int) : ∀ {l : List Int}, l.Pairwise (· ≤ ·) → (insI x l).Pairwise (· ≤ ·)
  | [], _ => by simp [insI]
  | y :: r, h => by
    rw [List.pairwise_cons] at h
    unfold insI
    split
    · rename_i c
      rw [List.pairwise_cons]
      refine ⟨fun z hz => ?_, List.pairwise_cons.mpr h⟩
      rcases List.mem_cons.mp hz with rfl | hz
      · exact c
      · exact Int.le_trans c (h.1 z hz)
    · rename_i c
      rw [List.pairwise_cons]
      refine ⟨fun z hz => ?_, insI_sorted x h.2⟩
      rcases List.mem_cons.mp ((insI_perm x r).mem_iff.mp hz) with rfl | hz
      · omega
      · exact h.1 z hz
theorem sortI_sorted : ∀ l : List Int, (sortI l).Pairwise (· ≤ ·)
  | [] => .nil
  | x :: r => insI_sorted x (sortI_sorted r)
theorem sorted_uniq : ∀ {a b : List Int}, a.Perm b → a.Pairwise (· ≤ ·) → b.Pairwise (· ≤ ·) → a = b
  | [], b, p, _, _ => (List.nil_perm.mp p).symm
  | x :: a, [], p, _, _ => absurd p.symm (by simp)
  | x :: a, y :: b, p, h1, h2 => by
    rw [List.pairwise_cons] at h1 h2
    have hx : x ∈ y :: b := p.mem_iff.mp List.mem_cons_self
    have hy : y ∈ x :: a := p.mem_iff.mpr List.mem_cons_self
    have e : x = y := by
      rcases List.mem_cons.mp hx with h | h
      · exact h
      · rcases List.mem_cons.mp hy with h' | h'
        · exact h'.symm
        · have := h1.1 y h'
          have := h2.1 x h
          omega
    subst e
    rw [sorted_uniq (List.perm_cons x |>.mp p) h1.2 h2.2]
theorem keys_of {K : PySem.W.Frag} {av : Addr → Prop} {H : Hp} : ∀ {ks : List (Key × V)} {kvs : List (D × D)}, DenKs K av H ks kvs → Dens K av H (ks.map fun kv => kV kv.1) (kvs.map (·.1))
  | _, _, .nil => .nil
  | _, _, .cons (k := k) a b => by
    refine .cons ?_ (keys_of b)
    cases k
    · exact .int _
    · exact .str _
theorem keys_ints {K : PySem.W.Frag} {av : Addr → Prop} {H : Hp} : ∀ {ks : List (Key × V)} {kvs : List (D × D)} {l : List Int}, DenKs K av H ks kvs → allInts (kvs.map (·.1)) = some l → ks.map (·.1) = l.map Sum.inl
  | _, _, l, .nil, h => by cases h; rfl
  | _, _, l, .cons (k := k) a b, h => by
    cases k with
    | inl i =>
      rw [List.map_cons] at h
      simp only [keyOf, allInts] at h
      obtain ⟨r, h1, rfl⟩ := Option.map_eq_some_iff.mp h
      rw [List.map_cons, keys_ints b h1]; rfl
    | inr x => rw [List.map_cons] at h; simp only [keyOf, allInts, reduceCtorEq] at h

def bltV : Blt → Value
  | .len => .builtin "len"
  | .int => .type "int"
  | .abs => .builtin "abs"
  | .sum => .builtin "sum"
  | .max => .builtin "max"
  | .min => .builtin "min"
  | .all => .builtin "all"
  | .any => .builtin "any"
  | .tuple => .type "tuple"
  | .list => .type "list"
  | .sorted => .builtin "sorted"
  | .str => .type "str"
  | .dict => .type "dict"
  | .isi _ => .builtin "isinstance"
theorem cl_len (hc : X.calm = true) : CallR X (.builtin "len") (RCl X.K (bltD .len)) := by
  intro pins s σ H vs us Q I r h
  obtain ⟨a1, ds, d, hd, hf, q⟩ := h
  match ds, hf with
  | [.list xs], hf =>
    cases hf
    obtain ⟨v, a0, rfl, hv⟩ := denA1 hd
    obtain ⟨a, us', rfl, ra, da⟩ := d2_lst hv
    refine call_len pins s σ H _ _ Q I r ⟨_, us'.length, rfl, .inl ⟨us', ra, rfl⟩, ?_⟩
    rw [da.length]; exact q _ _ (Same.refl H) fr_int
  | [.tuple xs], hf =>
    cases hf
    obtain ⟨v, a0, rfl, hv⟩ := denA1 hd
    obtain ⟨a, us', rfl, ra, da⟩ := d2_tup hv
    refine call_len pins s σ H _ _ Q I r ⟨_, us'.length, rfl, .inr ⟨us', ra, rfl⟩, ?_⟩
    rw [da.length]; exact q _ _ (Same.refl H) fr_int
  | [.str z], hf =>
    simp only [bltD] at hf
    split at hf
    · rename_i hl
      cases hf
      obtain ⟨v, a0, rfl, hv⟩ := denA1 hd
      obtain rfl := d2_str hv
      exact call_len pins s σ H _ _ Q I r ⟨_, z.length, rfl, ⟨line_le hl, rfl⟩, q _ _ (Same.refl H) fr_int⟩
    · cases hf
  | [.dict kvs], hf =>
    cases hf
    obtain ⟨v, a0, rfl, hv⟩ := denA1 hd
    obtain ⟨a, us', rfl, ra, da⟩ := d2_dct hv
    rw [Vals.ref1 r]
    refine d_len I ra fun t s' I' => ⟨.int _, H, I', ⟨_, rfl⟩, ?_⟩
    rw [da.length]; exact q _ _ (Same.refl H) fr_int
theorem cl_int : CallR X (.type "int") (RCl X.K (bltD .int)) := by
  intro pins s σ H vs us Q I r h
  obtain ⟨a1, ds, d, hd, hf, q⟩ := h
  match ds, hf with
  | [.int i], hf =>
    cases hf
    obtain ⟨v, a0, rfl, hv⟩ := denA1 hd
    obtain rfl := d2_int hv
    exact call_int1 pins s σ H _ _ Q I r (.inl ⟨i, rfl, q _ _ (Same.refl H) fr_int⟩)
  | [.bool b], hf =>
    cases hf
    obtain ⟨v, a0, rfl, hv⟩ := denA1 hd
    obtain rfl := d2_bool hv
    exact call_int1 pins s σ H _ _ Q I r (.inr ⟨b, rfl, q _ _ (Same.refl H) fr_int⟩)
theorem cl_abs : CallR X (.builtin "abs") (RCl X.K (bltD .abs)) := by
  intro pins s σ H vs us Q I r h
  obtain ⟨a1, ds, d, hd, hf, q⟩ := h
  match ds, hf with
  | [.int i], hf =>
    cases hf
    obtain ⟨v, a0, rfl, hv⟩ := denA1 hd
    obtain rfl := d2_int hv
    exact call_abs pins s σ H _ _ Q I r ⟨i, rfl, q _ _ (Same.refl H) fr_int⟩
theorem cl_sum (hc : X.calm = true) : CallR X (.builtin "sum") (RCl X.K (bltD .sum)) := by
  intro pins s σ H vs us Q I r h
  obtain ⟨a1, ds, d, hd, hf, q⟩ := h
  match ds, hf with
  | [.list xs], hf =>
    obtain ⟨l, h1, rfl⟩ := Option.map_eq_some_iff.mp hf
    obtain ⟨v, a0, rfl, hv⟩ := denA1 hd
    obtain ⟨a, us', rfl, ra, da⟩ := d2_lst hv
    obtain ⟨rfl, _⟩ := allInts_of da h1
    exact cr_sum hc pins s σ H _ _ Q I r ⟨a, l, rfl, ra, q _ _ (Same.refl H) fr_int⟩
theorem ints_ne {xs : List D} {l : List Int} (h : xs = l.map PyData.int) (n : ¬ xs = []) : l ≠ [] := fun z => n (by rw [h, z]; rfl)
theorem cl_max (hc : X.calm = true) : CallR X (.builtin "max") (RCl X.K (bltD .max)) := by
  intro pins s σ H vs us Q I r h
  obtain ⟨a1, ds, d, hd, hf, q⟩ := h
  match ds, hf with
  | [.int i, .int j], hf =>
    cases hf
    obtain ⟨v, w, a0, b0, rfl, hv, hw⟩ := denA2 hd
    obtain rfl := d2_int hv
    obtain rfl := d2_int hw
    exact call_max2 hc pins s σ H _ _ Q I r ⟨i, j, rfl, q _ _ (Same.refl H) fr_int⟩
  | [.list xs], hf =>
    simp only [bltD] at hf
    split at hf
    · cases hf
    · rename_i hne
      obtain ⟨l, h1, rfl⟩ := Option.map_eq_some_iff.mp hf
      obtain ⟨v, a0, rfl, hv⟩ := denA1 hd
      obtain ⟨a, us', rfl, ra, da⟩ := d2_lst hv
      obtain ⟨rfl, e2⟩ := allInts_of da h1
      have hl := ints_ne e2 hne
      obtain ⟨m1, m2⟩ := maxI_mem hl
      refine cr_max hc pins s σ H _ _ Q I r ⟨a, l, rfl, ra, List.length_pos_iff.mpr hl, fun m k1 k2 => ?_⟩
      have e : m = maxI l := Int.le_antisymm (m2 m k1) (k2 _ m1)
      rw [e]; exact q _ _ (Same.refl H) fr_int
theorem cl_min (hc : X.calm = true) : CallR X (.builtin "min") (RCl X.K (bltD .min)) := by
  intro pins s σ H vs us Q I r h
  obtain ⟨a1, ds, d, hd, hf, q⟩ := h
  match ds, hf with
  | [.int i, .int j], hf =>
    cases hf
    obtain ⟨v, w, a0, b0, rfl, hv, hw⟩ := denA2 hd
    obtain rfl := d2_int hv
    obtain rfl := d2_int hw
    exact call_min2 hc pins s σ H _ _ Q I r ⟨i, j, rfl, q _ _ (Same.refl H) fr_int⟩
  | [.list xs], hf =>
    simp only [bltD] at hf
    split at hf
    · cases hf
    · rename_i hne
      obtain ⟨l, h1, rfl⟩ := Option.map_eq_some_iff.mp hf
      obtain ⟨v, a0, rfl, hv⟩ := denA1 hd
      obtain ⟨a, us', rfl, ra, da⟩ := d2_lst hv
      obtain ⟨rfl, e2⟩ := allInts_of da h1
      have hl := ints_ne e2 hne
      obtain ⟨m1, m2⟩ := minI_mem hl
      refine cr_min hc pins s σ H _ _ Q I r ⟨a, l, rfl, ra, List.length_pos_iff.mpr hl, fun m k1 k2 => ?_⟩
      have e : m = minI l := Int.le_antisymm (k2 _ m1) (m2 m k1)
      rw [e]; exact q _ _ (Same.refl H) fr_int
theorem cl_all (hc : X.calm = true) : CallR X (.builtin "all") (RCl X.K (bltD .all)) := by
  intro pins s σ H vs us Q I r h
  obtain ⟨a1, ds, d, hd, hf, q⟩ := h
  match ds, hf with
  | [.list xs], hf =>
    obtain ⟨l, h1, rfl⟩ := Option.map_eq_some_iff.mp hf
    obtain ⟨v, a0, rfl, hv⟩ := denA1 hd
    obtain ⟨a, us', rfl, ra, da⟩ := d2_lst hv
    obtain rfl := allBools_of da h1
    exact cr_all hc pins s σ H _ _ Q I r ⟨a, l, rfl, ra, q _ _ (Same.refl H) fr_bool⟩
theorem cl_any (hc : X.calm = true) : CallR X (.builtin "any") (RCl X.K (bltD .any)) := by
  intro pins s σ H vs us Q I r h
  obtain ⟨a1, ds, d, hd, hf, q⟩ := h
  match ds, hf with
  | [.list xs], hf =>
    obtain ⟨l, h1, rfl⟩ := Option.map_eq_some_iff.mp hf
    obtain ⟨v, a0, rfl, hv⟩ := denA1 hd
    obtain ⟨a, us', rfl, ra, da⟩ := d2_lst hv
    obtain rfl := allBools_of da h1
    exact cr_any hc pins s σ H _ _ Q I r ⟨a, l, rfl, ra, q _ _ (Same.refl H) fr_bool⟩
theorem cl_tuple : CallR X (.type "tuple") (RCl X.K (bltD .tuple)) := by
  intro pins s σ H vs us Q I r h
  obtain ⟨a1, ds, d, hd, hf, q⟩ := h
  match ds, hf with
  | [.list xs], hf =>
    cases hf
    obtain ⟨v, a0, rfl, hv⟩ := denA1 hd
    obtain ⟨a, us', rfl, ra, da⟩ := d2_lst hv
    exact call_tuple_of pins s σ H _ _ Q I r ⟨a, us', rfl, .inl ⟨ra, fun p hp => q _ _ (same_upd hp) (new_tup hp da)⟩⟩
  | [.tuple xs], hf =>
    cases hf
    obtain ⟨v, a0, rfl, hv⟩ := denA1 hd
    obtain ⟨a, us', rfl, ra, da⟩ := d2_tup hv
    exact call_tuple_of pins s σ H _ _ Q I r ⟨a, us', rfl, .inr ⟨ra, q _ _ (Same.refl H) (Den.tuple ra da)⟩⟩
theorem cl_list (hc : X.calm = true) : CallR X (.type "list") (RCl X.K (bltD .list)) := by
  intro pins s σ H vs us Q I r h
  obtain ⟨a1, ds, d, hd, hf, q⟩ := h
  match ds, hf with
  | [.list xs], hf =>
    cases hf
    obtain ⟨v, a0, rfl, hv⟩ := denA1 hd
    obtain ⟨a, us', rfl, ra, da⟩ := d2_lst hv
    exact call_list_of pins s σ H _ _ Q I r ⟨a, us', rfl, .inl ra, fun p hp => q _ _ (same_upd hp) (new_lst hp da)⟩
  | [.tuple xs], hf =>
    cases hf
    obtain ⟨v, a0, rfl, hv⟩ := denA1 hd
    obtain ⟨a, us', rfl, ra, da⟩ := d2_tup hv
    exact call_list_of pins s σ H _ _ Q I r ⟨a, us', rfl, .inr ra, fun p hp => q _ _ (same_upd hp) (new_lst hp da)⟩
theorem cl_sorted (hc : X.calm = true) : CallR X (.builtin "sorted") (RCl X.K (bltD .sorted)) := by
  intro pins s σ H vs us Q I r h
  obtain ⟨a1, ds, d, hd, hf, q⟩ := h
  match ds, hf with
  | [.list xs], hf =>
    obtain ⟨l, h1, rfl⟩ := Option.map_eq_some_iff.mp hf
    obtain ⟨v, a0, rfl, hv⟩ := denA1 hd
    obtain ⟨a, us', rfl, ra, da⟩ := d2_lst hv
    obtain ⟨rfl, _⟩ := allInts_of da h1
    refine cr_sortedI pins s σ H _ _ Q I r ⟨a, l, rfl, ra, fun ns' p k1 k2 hp => ?_⟩
    rw [sorted_uniq (k1.trans (sortI_perm l).symm) k2 (sortI_sorted l)]
    exact q _ _ (same_upd hp) (new_lst hp (dens_ints _))
  | [.dict kvs], hf =>
    simp only [bltD] at hf
    split at hf
    · rename_i h64
      obtain ⟨l, h1, rfl⟩ := Option.map_eq_some_iff.mp hf
      obtain ⟨v, a0, rfl, hv⟩ := denA1 hd
      obtain ⟨a, us', rfl, ra, da⟩ := d2_dct hv
      have e := keys_ints da h1
      refine call_sortedDI hc pins s σ H _ _ Q I r ⟨a, us', l, rfl, ra, e, ?_, fun ns' p k1 k2 hp => ?_⟩
      · have := congrArg List.length e
        rw [List.length_map, List.length_map, da.length] at this
        omega
      · rw [sorted_uniq (k1.trans (sortI_perm l).symm) k2 (sortI_sorted l)]
        exact q _ _ (same_upd hp) (new_lst hp (dens_ints _))
    · cases hf
theorem cl_str : CallR X (.type "str") (RCl X.K (bltD .str)) := by
  intro pins s σ H vs us Q I r h
  obtain ⟨a1, ds, d, hd, hf, q⟩ := h
  match ds, hf with
  | [.int i], hf =>
    simp only [bltD] at hf
    split at hf
    · rename_i hl
      cases hf
      obtain ⟨v, a0, rfl, hv⟩ := denA1 hd
      obtain rfl := d2_int hv
      exact call_str_int pins s σ H _ _ Q I r ⟨i, rfl, hl, q _ _ (Same.refl H) fr_str⟩
    · cases hf
theorem cl_dict : CallR X (.type "dict") (RCl X.K (bltD .dict)) := by
  intro pins s σ H vs us Q I r h
  obtain ⟨a1, ds, d, hd, hf, q⟩ := h
  match ds, hf with
  | [.dict kvs], hf =>
    cases hf
    obtain ⟨v, a0, rfl, hv⟩ := denA1 hd
    obtain ⟨a, us', rfl, ra, da⟩ := d2_dct hv
    rw [Vals.ref1 r]
    exact d_copyOf I ra fun p s' hp I' => ⟨.ref p, _, I', rfl, q _ _ (same_upd hp) (new_dct hp da)⟩

/-! isinstance -/
def tyN : Nat → String
  | 0 => "int"
  | 1 => "bool"
  | 2 => "str"
  | 3 => "tuple"
  | _ => "list"
def RIsi (K : PySem.W.Frag) (T : Nat) : List V → Hp → VK → Prop := fun vs H Q => ∃ v a0 a1 x b, vs = [v, .ty (tyN T)] ∧ Den2 K a0 a1 H v x ∧ isiD T x = some b ∧ Q (.bl b) H
theorem kitInt (K : PySem.W.Frag) : ∀ T : Nat, T < 5 → PySem.W.kitOne K (.type "int") (.type (tyN T)) = some (T == 0)
  | 0, _ => kit_ty (by decide +kernel)
  | 1, _ => kit_ty (by decide +kernel)
  | 2, _ => kit_ty (by decide +kernel)
  | 3, _ => kit_ty (by decide +kernel)
  | 4, _ => kit_ty (by decide +kernel)
theorem kitBool (K : PySem.W.Frag) : ∀ T : Nat, T < 5 → PySem.W.kitOne K (.type "bool") (.type (tyN T)) = some (T == 0 || T == 1)
  | 0, _ => kit_ty (by decide +kernel)
  | 1, _ => kit_ty (by decide +kernel)
  | 2, _ => kit_ty (by decide +kernel)
  | 3, _ => kit_ty (by decide +kernel)
  | 4, _ => kit_ty (by decide +kernel)
theorem kitStr (K : PySem.W.Frag) : ∀ T : Nat, T < 5 → PySem.W.kitOne K (.type "str") (.type (tyN T)) = some (T == 2)
  | 0, _ => kit_ty (by decide +kernel)
  | 1, _ => kit_ty (by decide +kernel)
  | 2, _ => kit_ty (by decide +kernel)
  | 3, _ => kit_ty (by decide +kernel)
  | 4, _ => kit_ty (by decide +kernel)
theorem kitTup (K : PySem.W.Frag) : ∀ T : Nat, T < 5 → PySem.W.kitOne K (.type "tuple") (.type (tyN T)) = some (T == 3)
  | 0, _ => kit_ty (by decide +kernel)
  | 1, _ => kit_ty (by decide +kernel)
  | 2, _ => kit_ty (by decide +kernel)
  | 3, _ => kit_ty (by decide +kernel)
  | 4, _ => kit_ty (by decide +kernel)
theorem kitLst (K : PySem.W.Frag) : ∀ T : Nat, T < 5 → PySem.W.kitOne K (.type "list") (.type (tyN T)) = some (T == 4)
  | 0, _ => kit_ty (by decide +kernel)
  | 1, _ => kit_ty (by decide +kernel)
  | 2, _ => kit_ty (by decide +kernel)
  | 3, _ => kit_ty (by decide +kernel)
  | 4, _ => kit_ty (by decide +kernel)
theorem kitNon (K : PySem.W.Frag) : ∀ T : Nat, T < 5 → PySem.W.kitOne K (.type "NoneType") (.type (tyN T)) = some false
  | 0, _ => kit_ty (by decide +kernel)
  | 1, _ => kit_ty (by decide +kernel)
  | 2, _ => kit_ty (by decide +kernel)
  | 3, _ => kit_ty (by decide +kernel)
  | 4, _ => kit_ty (by decide +kernel)
theorem cl_isi {T : Nat} (hT : T < 5) : CallR X (.builtin "isinstance") (RIsi X.K T) := by
  intro pins s σ H vs us Q I r h
  obtain ⟨v, a0, a1, x, b, rfl, hx, hb, q⟩ := h
  have go : ∀ {t : Value}, TyX X.K H v t → PySem.W.kitOne X.K t (.type (tyN T)) = some b → wpAny (model X.prog X.w) X.A (call (.builtin "isinstance") us) (EP X pins σ Q) X.xe s := fun {t} ty k =>
    call_isi pins s σ H _ _ Q I r ⟨v, .ty (tyN T), t, .type (tyN T), b, rfl, .ty _, ty, k, q⟩
  cases x <;> simp only [isiD, Option.some.injEq, reduceCtorEq] at hb
  · subst hb; obtain rfl := d2_none hx; exact go (.base .non) (kitNon _ T hT)
  · subst hb; obtain rfl := d2_bool hx; exact go (.base (.bl _)) (kitBool _ T hT)
  · subst hb; obtain rfl := d2_int hx; exact go (.base (.int _)) (kitInt _ T hT)
  · subst hb; obtain rfl := d2_str hx; exact go (.base (.str _)) (kitStr _ T hT)
  · subst hb
    obtain ⟨a, xs, rfl, h, _⟩ := d2_lst hx
    rcases h with (h | ⟨o, h⟩) | ⟨o, its, n, h, c, _⟩
    · exact go (.base (.lst h)) (kitLst _ T hT)
    · exact go (.base (.frz h)) (kitLst _ T hT)
    · exact go (.kList h c) (kitLst _ T hT)
  · subst hb
    obtain ⟨a, xs, rfl, h, _⟩ := d2_tup hx
    rcases h with (h | ⟨o, h⟩) | ⟨o, its, n, h, c, _⟩
    · exact go (.base (.tup h)) (kitTup _ T hT)
    · exact go (.fTuple h) (kitTup _ T hT)
    · exact go (.kTuple h c) (kitTup _ T hT)

/-! ### methods -/
def RMt (K : PySem.W.Frag) (m : Mth) : V → List V → Hp → VK → Prop := fun v vs H Q => ∃ z, v = .str z ∧ ∃ d, vs = [] ∧ strM m z = some d ∧ ∀ w, Den K (fun _ => False) H w d → Q w H
theorem Den.flat2 {K : PySem.W.Frag} {av av' : Addr → Prop} {H H' : Hp} {v : V} {d : D} (h : Den K av H v d) (f : flatD d = true) : Den K av' H' v d := by
  cases h with
  | none => exact .none
  | bool b => exact .bool b
  | int b => exact .int b
  | str b => exact .str b
  | _ => cases f
theorem strM_flat {m : Mth} {z : Str} {d : D} (h : strM m z = some d) : flatD d = true := by
  cases m <;> simp only [strM, reduceCtorEq, Option.some.injEq] at h
  · subst h; rfl
  · subst h; rfl
  · split at h
    · cases h; rfl
    · cases h
  · split at h
    · cases h; rfl
    · cases h
  · split at h
    · cases h; rfl
    · cases h
def mthN : Mth → Str
  | .get => "get"
  | .bits => "bit_length"
  | .isalpha => "isalpha"
  | .islower => "islower"
  | .lower => "lower"
  | .upper => "upper"
  | .swapcase => "swapcase"
  | .join => "join"
theorem mt_isalphaD : MtR X "str.isalpha" (RMt X.K .isalpha) := by
  intro pins s σ H x xs v us Q I rx rs h
  obtain ⟨z, rfl, d, rfl, hd, q⟩ := h
  cases hd
  exact mt_isalpha pins s σ H _ _ _ _ Q I rx rs ⟨z, rfl, rfl, trivial, q _ (.bool _)⟩
theorem mt_islowerD : MtR X "str.islower" (RMt X.K .islower) := by
  intro pins s σ H x xs v us Q I rx rs h
  obtain ⟨z, rfl, d, rfl, hd, q⟩ := h
  cases hd
  obtain ⟨t, rfl⟩ := rx
  cases rs
  exact PySem.SC.islower ⟨.bl _, H, I, rfl, q _ (.bool _)⟩
theorem mt_lowerD : MtR X "str.lower" (RMt X.K .lower) := by
  intro pins s σ H x xs v us Q I rx rs h
  obtain ⟨z, rfl, d, rfl, hd, q⟩ := h
  simp only [strM] at hd
  split at hd
  · rename_i hl
    cases hd
    exact mt_lower pins s σ H _ _ _ _ Q I rx rs ⟨z, rfl, rfl, Nat.le_trans hl (by decide), q _ (.str _)⟩
  · cases hd
theorem mt_upperD : MtR X "str.upper" (RMt X.K .upper) := by
  intro pins s σ H x xs v us Q I rx rs h
  obtain ⟨z, rfl, d, rfl, hd, q⟩ := h
  simp only [strM] at hd
  split at hd
  · rename_i hl
    cases hd
    exact mt_upper pins s σ H _ _ _ _ Q I rx rs ⟨z, rfl, rfl, Nat.le_trans hl (by decide), q _ (.str _)⟩
  · cases hd
theorem mt_swapcaseD : MtR X "str.swapcase" (RMt X.K .swapcase) := by
  intro pins s σ H x xs v us Q I rx rs h
  obtain ⟨z, rfl, d, rfl, hd, q⟩ := h
  simp only [strM] at hd
  split at hd
  · rename_i hl
    cases hd
    obtain ⟨t, rfl⟩ := rx
    cases rs
    exact PyProof.Rows.SCL.swapcase (Nat.le_trans hl (by decide)) fun _ => ⟨.str _, H, I.tok _, ⟨_, rfl⟩, q _ (.str _)⟩
  · cases hd
/-- o.m() of a text -/
theorem pe_str0 {o : Expr} {to : L2.TE} {apos pos : Pos} (m : Mth) (hm : m ≠ .get ∧ m ≠ .bits ∧ m ≠ .join) (ho : PE X o to) (hbase : attributeBase o (mthN m) X.env (eval o X.env) = eval o X.env) (hline : (apos.endLine == pos.line) = true) :
    PE X (.Call (.Attribute o (mthN m) apos) [] [] pos) (tM0 (RMt X.K m) to) := by
  cases m with
  | get => exact absurd rfl hm.1
  | bits => exact absurd rfl hm.2.1
  | join => exact absurd rfl hm.2.2
  | isalpha => exact pe_m0 PySem.F.slot_str_isalpha PySem.F.type_str_isalpha mt_isalphaD ho hbase hline
  | islower => exact pe_m0 PySem.F.slot_str_islower PySem.F.type_str_islower mt_islowerD ho hbase hline
  | lower => exact pe_m0 PySem.F.slot_str_lower PySem.F.type_str_lower mt_lowerD ho hbase hline
  | upper => exact pe_m0 PySem.F.slot_str_upper PySem.F.type_str_upper mt_upperD ho hbase hline
  | swapcase => exact pe_m0 PySem.F.slot_str_swapcase PySem.F.type_str_swapcase mt_swapcaseD ho hbase hline
end
end
end Rf

set_option Elab.async false
set_option linter.all false
set_option maxRecDepth 100000
set_option maxHeartbeats 1000000
/-! the end of a tuple's and of a list's iterator while an exception is handled -/
namespace HotX
open PySem PySem.Spec PyProof.Rows L2
section
variable {prog : Program} {w : World} {A : Around} {E : Value → Shared → Prop} {s : Shared}
theorem tup_end_hot {it x1 t : Addr} {i : Nat} {its : Array Value} {Q : Option Value → Shared → Prop} (hot : HotAt A x1 s.heap) (hne : x1 ≠ it)
    (hit : s.heap.IsTupleIter it t i) (ht : s.heap.IsTuple t its) (hx : its[i]? = none)
    (hQ : ∀ h', (∀ b o, b ≠ it → s.heap.get? b = some o → h'.get? b = some o) → Q none { s with heap := h' }) : wpAny (model prog w) A (pyNext (.ref it)) Q E s := by
  obtain ⟨hh, o1, v1, g1, d1, c1⟩ := hot
  obtain ⟨o, ho, hc, hd⟩ := id hit
  obtain ⟨ol, hol, _, nl, hdl⟩ := ht
  unfold pyNext
  refine wpAny_bind (wpAny_attempt (wpAny_callSpecial?_slot (name := Str.ofString "__next__") hit.typeIs F.slot_tuple_iterator_next (wpAny_call_entry F.slot_tuple_iterator_next hit.typeIs F.entry_tuple_iterator_next ?_ (F.args_tuple_iterator_next_1 _))))
  show wpAny _ _ (field (.ref it) 0 >>= _) _ _ s; refine wpAny_bind (wpAny_field ho hd (x := .ref t) rfl ?_)
  show wpAny _ _ (if (Value.ref t == Value.none) = true then _ else _) _ _ s; rw [if_neg (show ¬ ((Value.ref t == Value.none) = true) from Bool.false_ne_true)]
  show wpAny _ _ (field (.ref it) 1 >>= _) _ _ s; refine wpAny_bind (wpAny_field ho hd (x := .int i 0) rfl ?_)
  show wpAny _ _ (seqItems? (.ref t) >>= _) _ _ s; refine wpAny_bind (wpAny_seqItems hol hdl ?_)
  simp only [Int.toNat_natCast, hx]; refine wpAny_bind (wpAny_rule (wpAny_bind (wpAny_setField ho hd (by simp) ?_)))
  have up : ∀ {b : Addr} {u : Obj}, b ≠ it → s.heap.get? b = some u → (s.heap.update it (Obj.mapFields (·.setIfInBounds 0 Value.none))).get? b = some u := fun n q => by rw [Heap.get?_update_other _ _ (Ne.symm n)]; exact q
  show wpAny _ _ (newExc (.type "StopIteration") [] >>= _) _ _ _; refine wpAny_bind ?_
  simp only [newExc, newTuple]; refine wpAny_bind (wpAny_newObj_type ?_ (by size_fits))
  refine wpAny_bind (m := firstArgMember _ _) (wpAny_of_eq (a := Value.none) (by first | rfl | (simp only [firstArgMember]; rfl)) ?_); refine wpAny_newObj_type ?_ (by size_fits)
  have q1 := Heap.get?_push_of_some { cls := .type "tuple", data := .seq #[] } (up hne g1)
  refine raiseNew_hot ⟨hh, o1, v1, Heap.get?_push_of_some _ (Heap.get?_push_of_some _ (up hne g1)), d1, c1⟩ (Nat.ne_of_lt (Heap.lt_size (Heap.get?_push_of_some _ (up hne g1)))) (Heap.get?_push_size _ rfl) rfl (by first | (simp; done) | (simp; omega) | (simp only [Array.size_append]; simp; omega)) ?_
  refine wpAny_bind (wpAny_isInstance (T := "StopIteration") (b := true) ⟨_, Heap.get?_update_self _ (Heap.get?_push_size _ rfl) rfl, rfl⟩ isSubtype_stop ?_); refine wpAny_pure (hQ _ fun b u n q => ?_)
  rw [Heap.get?_update_other _ _ (Nat.ne_of_gt (Heap.lt_size (Heap.get?_push_of_some _ (up n q))))]; exact Heap.get?_push_of_some _ (Heap.get?_push_of_some _ (up n q))
theorem lst_end_hot {it x1 t : Addr} {i : Nat} {its : Array Value} {Q : Option Value → Shared → Prop} (hot : HotAt A x1 s.heap) (hne : x1 ≠ it)
    (hit : s.heap.IsListIter it t i) (ht : s.heap.IsList t its) (hx : its[i]? = none)
    (hQ : ∀ h', (∀ b o, b ≠ it → s.heap.get? b = some o → h'.get? b = some o) → Q none { s with heap := h' }) : wpAny (model prog w) A (pyNext (.ref it)) Q E s := by
  obtain ⟨hh, o1, v1, g1, d1, c1⟩ := hot
  obtain ⟨o, ho, hc, hd⟩ := id hit
  obtain ⟨ol, hol, _, nl, hdl⟩ := ht
  unfold pyNext
  refine wpAny_bind (wpAny_attempt (wpAny_callSpecial?_slot (name := Str.ofString "__next__") hit.typeIs slot_listiter_next (wpAny_call_entry slot_listiter_next hit.typeIs entry_listiter_next ?_ (args_listiter_next _))))
  show wpAny _ _ (field (.ref it) 0 >>= _) _ _ s; refine wpAny_bind (wpAny_field ho hd (x := .ref t) rfl ?_)
  show wpAny _ _ (if (Value.ref t == Value.none) = true then _ else _) _ _ s; rw [if_neg (show ¬ ((Value.ref t == Value.none) = true) from Bool.false_ne_true)]
  show wpAny _ _ (field (.ref it) 1 >>= _) _ _ s; refine wpAny_bind (wpAny_field ho hd (x := .int i 0) rfl ?_)
  show wpAny _ _ (seqItems? (.ref t) >>= _) _ _ s; refine wpAny_bind (wpAny_seqItems hol hdl ?_)
  simp only [Int.toNat_natCast, hx]; refine wpAny_bind (wpAny_rule (wpAny_bind (wpAny_setField ho hd (by simp) ?_)))
  have up : ∀ {b : Addr} {u : Obj}, b ≠ it → s.heap.get? b = some u → (s.heap.update it (Obj.mapFields (·.setIfInBounds 0 Value.none))).get? b = some u := fun n q => by rw [Heap.get?_update_other _ _ (Ne.symm n)]; exact q
  show wpAny _ _ (newExc (.type "StopIteration") [] >>= _) _ _ _; refine wpAny_bind ?_
  simp only [newExc, newTuple]; refine wpAny_bind (wpAny_newObj_type ?_ (by size_fits))
  refine wpAny_bind (m := firstArgMember _ _) (wpAny_of_eq (a := Value.none) (by first | rfl | (simp only [firstArgMember]; rfl)) ?_); refine wpAny_newObj_type ?_ (by size_fits)
  have q1 := Heap.get?_push_of_some { cls := .type "tuple", data := .seq #[] } (up hne g1)
  refine raiseNew_hot ⟨hh, o1, v1, Heap.get?_push_of_some _ (Heap.get?_push_of_some _ (up hne g1)), d1, c1⟩ (Nat.ne_of_lt (Heap.lt_size (Heap.get?_push_of_some _ (up hne g1)))) (Heap.get?_push_size _ rfl) rfl (by first | (simp; done) | (simp; omega) | (simp only [Array.size_append]; simp; omega)) ?_
  refine wpAny_bind (wpAny_isInstance (T := "StopIteration") (b := true) ⟨_, Heap.get?_update_self _ (Heap.get?_push_size _ rfl) rfl, rfl⟩ isSubtype_stop ?_); refine wpAny_pure (hQ _ fun b u n q => ?_)
  rw [Heap.get?_update_other _ _ (Nat.ne_of_gt (Heap.lt_size (Heap.get?_push_of_some _ (up n q))))]; exact Heap.get?_push_of_some _ (Heap.get?_push_of_some _ (up n q))
end
end HotX

set_option Elab.async false
set_option linter.all false
set_option maxRecDepth 100000
set_option maxHeartbeats 1000000
/-! a tuple's and a list's iterator, while an exception is handled -/
namespace HotX
open PySem PySem.Spec PyProof.Rows L2 L2H
theorem turnH_tup {P : Program} {w : World} {K : PySem.W.Frag} {tg : Expr} (a it : Addr) : TurnH P w K tg (Itt K a) [it] it (fun i h => h.IsTupleIter it a i) where
  mem := by simp
  obj := (turn_tuple (P := P) (w := w) (K := K) (tg := tg) a it).obj
  keep := (turn_tuple (P := P) (w := w) (K := K) (tg := tg) a it).keep
  item := by
    intro X hP hw hK hc i pins s σ H E I hf st hg
    subst hP hw hK
    obtain ⟨xs, x, hq, hx⟩ := hg
    obtain ⟨its, rv, p, hz⟩ := I.tuple hq
    obtain ⟨u, hu, ru⟩ := rv.get hx
    obtain ⟨f0, f1, f2, f3, f4, f5⟩ := hf it (by simp)
    refine wpAny_pyNext_tuple_item st (show s.heap.IsTuple a its.toArray from p) (x := u) (by simpa using hu) fun h2 st2 sb => ?_
    have I2 : Inv X pins σ H { s with heap := h2 } := I.turned (t' := s.toks) (fun b o hb e => (sb.2 b hb).trans e) f0 f1 f3 f4 f5
    obtain ⟨o, e, c, d⟩ := id st2
    exact ⟨u, rfl, go_of (s := { s with heap := h2 }) e c d (by decide) ⟨x, H, I2, ru, ⟨rfl, fun ys hy => by rw [I.tuple_inj hy hq]; exact hx⟩, st2, fun b hb => (hf b hb).1⟩⟩
  done := by
    intro X hP hw hK hc i pins s σ H E I hf st hg
    subst hP hw hK
    obtain ⟨xs, hq, hx⟩ := hg
    obtain ⟨its, rv, p, hz⟩ := I.tuple hq
    obtain ⟨f0, f1, f2, f3, f4, f5⟩ := hf it (by simp)
    have hl := rv.length
    obtain ⟨q, ⟨hh, v1, e1, c1⟩, hq2⟩ := hc
    have gq := (I.pin q (List.mem_append_left _ hq2)).1
    refine tup_end_hot ⟨hh, q.2, v1, gq, e1, c1⟩ (f5 q (List.mem_append_left _ hq2)) st (show s.heap.IsTuple a its.toArray from p) (by simp; omega) fun h2 eb => ⟨rfl, ?_⟩
    exact I.turned (t' := s.toks) (fun b o hb e => eb b o hb e) f0 f1 f3 f4 f5
  self := fun _ _ _ _ _ st h => wpAny_pyIter_tupleiter st h
end HotX

set_option Elab.async false
set_option linter.all false
set_option maxRecDepth 100000
set_option maxHeartbeats 1000000
/-! a tuple walked, and a comprehension's block begun, while an exception is handled -/
namespace HotX
open PySem PySem.Spec PyProof.Rows L2 L2H
section
variable {X : Cx} {tg : Expr} {pins : List (Addr × Obj)} {σ : List (Option V)} {H : Hp} {s : Shared} {q : Addr × Obj}
theorem piH_tup {l : Expr} {tl : TE} (hl : PE X l tl) : PIH X tg l (iTup X.K tl) where
  run := fun pins s σ H R I h => thn (hl.run pins s σ H _ I h) fun v s1 ⟨x, H1, J, r1, q1⟩ => by
    obtain ⟨a, rfl, ⟨xs, hq⟩, w⟩ := q1
    cases r1
    obtain ⟨its, rv, p, hz⟩ := J.tuple hq
    have new := Heap.get?_push_size s1.heap (o := { cls := .type "tuple_iterator", data := .fields #[.ref a, .int 0 0] }) rfl
    exact wpAny_pyIter_tuple (show s1.heap.IsTuple a its.toArray from p) ⟨s1.heap.objs.size, [s1.heap.objs.size], _, _, H1, rfl, J.kept (t' := s1.toks) (fun b o e => Heap.get?_push_of_some _ e), turnH_tup a _, ⟨_, new, rfl, rfl⟩, (fun b hb => by
      rw [List.mem_singleton] at hb
      subst hb
      exact J.fpOk (Nat.le_refl _) (J.hok.fresh (Nat.le_refl _))), w⟩
/-- the same context, with one pin of its own -/
abbrev pin1 (X : Cx) (q : Addr × Obj) : Cx := { X with pn := [q] }
theorem inv_to (h0 : X.pn = []) (I : Inv X (q :: pins) σ H s) : Inv (pin1 X q) pins σ H s :=
  ⟨⟨I.ok.mod, I.ok.kind, I.ok.glob, I.ok.blt, I.ok.above, I.ok.inj, I.ok.has, I.ok.cab, I.ok.hd, I.ok.frames, I.ok.stk, I.ok.exf, I.ok.bs, I.ok.bsz, I.ok.noex, I.ok.exfs, I.ok.funs, I.ok.frf⟩, I.os, I.bare, I.base, I.loc, I.cell, I.free, I.freeC, fun p hp => I.pin p (by rw [h0]; exact hp), I.hok, I.len⟩
theorem inv_add (I : Inv X pins σ H s) (h : s.heap.get? q.1 = some q.2 ∧ H q.1 = none ∧ q.1 ≠ X.env.locals ∧ q.1 ∉ X.fs ∧ ∀ v, q.2.data ≠ .cell v) : Inv X (q :: pins) σ H s :=
  ⟨I.ok, I.os, I.bare, I.base, I.loc, I.cell, I.free, I.freeC, fun p hp => by
    rcases List.mem_append.mp hp with a | a
    · exact I.pin p (List.mem_append_left _ a)
    · rcases List.mem_cons.mp a with rfl | a
      · exact h
      · exact I.pin p (List.mem_append_right _ a), I.hok, I.len⟩
/-- a block begun where q's exception is handled -/
theorem block_hot {scope : Scope} {own : List (Str × Nat)} {fp : List Addr} (I : Inv X pins σ H s) (hq : q ∈ X.pn) (ok : BlkOk X.N X.env.scope scope own) (hN : X.N.Nodup) (hfp : ∀ b ∈ fp, FpOk X pins H b ∧ b < s.heap.objs.size) :
    Inv (pin1 (X.blk s H scope (compEnvC scope (cellsFrom (s.heap.objs.size + 1) scope.names (cloFrom X.env.cells scope.names [])) s.heap.objs.size X.env) fp) q) [] (wipe σ (own.map (·.2))) H { s with heap := pushCells (s.heap.push { cls := .type "dict", data := .dict #[] }) scope.names } := by
  obtain ⟨a1, a2, a3, a4, a5⟩ := I.pin q (List.mem_append_left _ hq)
  refine inv_to rfl (inv_add (block_start I ok hN hfp) ⟨pushCells_keeps _ _ _ _ (Heap.get?_push_of_some _ a1), a2, ?_, ?_, a5⟩)
  · show q.1 ≠ s.heap.objs.size
    exact Nat.ne_of_lt (Heap.lt_size a1)
  · show q.1 ∉ frs X.stack
    rcases I.ok.stk with e | ⟨e, f⟩
    · rw [e]; exact a4
    · rw [e]
      intro hm
      obtain ⟨u, hu, g⟩ := List.mem_filterMap.mp hm
      rcases List.mem_cons.mp hu with rfl | hu
      · rw [f] at g; exact a3 (Option.some.inj g).symm
      · exact a4 (List.mem_filterMap.mpr ⟨u, hu, g⟩)
end
end HotX

set_option Elab.async false
set_option linter.all false
set_option maxRecDepth 100000
set_option maxHeartbeats 2000000
/-! a list comprehension over a tuple, while an exception is handled -/
namespace HotX
open PySem PySem.Spec PyProof.Rows L2 L2H
section
variable {X : Cx} {q : Addr × Obj}
theorem lcH {elt tg iter : Expr} {ifs : List Expr} {scope : Scope} {own : List (Str × Nat)} {pos : Pos} {wi : TI} {g : TG} {tt : TT} {te : TE} (hot : Hot1 X.A q) (hq : q ∈ X.pn) (hN : X.N.Nodup) (hi : PIH X tg iter wi) (ok : BlkOk X.N X.env.scope scope own)
    (hg : ∀ (s : Shared) (H : Hp) (C : Addr) (cl : List (Str × Addr)) (fp : List Addr), PG (pin1 (X.blk s H scope (compEnvC scope cl C X.env) fp) q) tg g) (ht : ∀ (s : Shared) (H : Hp) (C : Addr) (cl : List (Str × Addr)) (fp : List Addr), PTs (pin1 (X.blk s H scope (compEnvC scope cl C X.env) fp) q) ifs tt)
    (he : ∀ (s : Shared) (H : Hp) (C : Addr) (cl : List (Str × Addr)) (fp : List Addr), PE (pin1 (X.blk s H scope (compEnvC scope cl C X.env) fp) q) elt te) (hs : ∀ x, foldedSetIterable iter X.env x = pure x := by intro _; rfl) :
    PE X (.ListComp elt [⟨tg, iter, ifs, 0⟩] scope pos) (tLc wi g tt te (own.map (·.2))) := by
  refine ⟨fun pins s σ H Q I h => ?_⟩
  rw [eval_ListComp]
  have hfree : ∀ y ∈ scope.names, y.2 = .free → ∃ c, X.env.cells.lookup y.1 = some c := fun y hy e => (ok.free y hy e).elim (fun k => I.ok.has _ (.inl k)) fun k => I.ok.has _ (.inr k)
  refine wpAny_comprehension_free (use := none) rfl hs (closure_ok hfree) ok.kind (fun y hy e => by rw [ok.uniq y hy, e]) (thn (hi.run pins s σ H _ I h) fun xv u1 hx => thn hx fun itv u2 hy => ?_)
  obtain ⟨it, fp, tn, J, G2, rfl, K2, T, t2, f2, w⟩ := hy
  refine wpAny_newObj_type (newEnv_comp ?_) (by show 0 ≤ sizeLine; decide)
  have Dn : G2 u2.heap.objs.size = none := K2.hok.fresh (Nat.le_refl _)
  obtain ⟨W, ⟨m0, w0⟩, turn⟩ := w _ Dn
  generalize hD : u2.heap.objs.size = D at *
  generalize hu3 : ({ u2 with heap := u2.heap.push { cls := .type "list", data := .seq ([] : List Value).toArray } } : Shared) = u3
  have e3 : u3.heap = u2.heap.push { cls := .type "list", data := .seq ([] : List Value).toArray } := by rw [← hu3]
  have K3 : Inv X pins σ (upd G2 D (.lst [])) u3 := by
    rw [← hu3, ← hD]
    exact K2.laid (t' := u2.toks) (fun b o e => Heap.get?_push_of_some _ e) (Nat.le_refl _) ⟨Nat.zero_le _, [], 0, .nil, Heap.get?_push_size _ rfl⟩
  have f3 : ∀ b ∈ fp, FpOk X pins (upd G2 D (.lst [])) b ∧ b < u3.heap.objs.size := fun b hb => by
    obtain ⟨o, e, _⟩ := T.obj _ _ t2 b hb
    have lt := Heap.lt_size e
    refine ⟨⟨by rw [upd_ne (by rw [← hD]; exact Nat.ne_of_lt lt)]; exact (f2 b hb).1, (f2 b hb).2⟩, ?_⟩
    rw [e3, Heap.size_push]
    exact Nat.lt_succ_of_lt lt
  have t3 : tn 0 u3.heap := T.keep _ _ _ t2 fun b _ o e => by rw [e3]; exact Heap.get?_push_of_some _ e
  have K4 := block_hot K3 hq ok hN f3
  have pg := hg u3 (upd G2 D (.lst [])) u3.heap.objs.size (cellsFrom (u3.heap.objs.size + 1) scope.names (cloFrom X.env.cells scope.names [])) fp
  have pt := ht u3 (upd G2 D (.lst [])) u3.heap.objs.size (cellsFrom (u3.heap.objs.size + 1) scope.names (cloFrom X.env.cells scope.names [])) fp
  have pe := he u3 (upd G2 D (.lst [])) u3.heap.objs.size (cellsFrom (u3.heap.objs.size + 1) scope.names (cloFrom X.env.cells scope.names [])) fp
  have nfp : ∀ b ∈ fp, (upd G2 D (.lst [])) b = none := fun b hb => (f3 b hb).1.1
  show codeAny _ _ (.compStart (.ListComp elt [⟨tg, iter, ifs, 0⟩] scope pos) 0 (.ref it) (.ref D) (compEnvC scope (cellsFrom (u3.heap.objs.size + 1) scope.names (cloFrom X.env.cells scope.names [])) u3.heap.objs.size X.env)) (compPost (model X.prog X.w) X.A X.xe none _ (.ref D) u3.heap.objs.size) { u3 with heap := pushCells (u3.heap.push { cls := .type "dict", data := .dict #[] }) scope.names }
  generalize hce : compEnvC scope (cellsFrom (u3.heap.objs.size + 1) scope.names (cloFrom X.env.cells scope.names [])) u3.heap.objs.size X.env = ce at K4 pg pt pe ⊢
  have cL : ce.locals = u3.heap.objs.size := by subst hce; rfl
  generalize hG3 : upd G2 D (.lst []) = G3 at K3 K4 pg pt pe w0 nfp f3
  generalize hu4 : ({ u3 with heap := pushCells (u3.heap.push { cls := .type "dict", data := .dict #[] }) scope.names } : Shared) = u4 at K4 ⊢
  have t4 : tn 0 u4.heap := T.keep _ _ _ t3 fun b _ o e => by rw [← hu4]; exact pushCells_keeps _ _ _ _ (Heap.get?_push_of_some _ e)
  have hc : HotC (pin1 (X.blk u3 G3 scope ce fp) q) := ⟨q, hot, List.mem_singleton.mpr rfl⟩
  have nq : ∀ b ∈ fp, q.1 ≠ b := fun b hb => (f3 b hb).1.2.2.2.2.2 q (List.mem_append_left _ hq)
  have stat : ∀ {ρ : List (Option V)} {G : Hp} {u : Shared}, Inv (pin1 (X.blk u3 G3 scope ce fp) q) [] ρ G u → (∀ b ∈ fp, G b = none) → ∀ b ∈ fp, FpOk (pin1 (X.blk u3 G3 scope ce fp) q) [] G b := fun {ρ G u} Z hn b hb =>
    ⟨hn b hb, (Z.ok.exf b hb).1, Z.ok.exfs b hb, .inl hb, fun x c e => (Z.ok.exf b hb).2 x c e, fun p hp => by
      have e : p = q := by simpa using hp
      rw [e]; exact nq b hb⟩
  have loop : codeAny (model X.prog X.w) X.A (.compLoop (.ListComp elt [⟨tg, iter, ifs, 0⟩] scope pos) 0 (.ref it) (.ref D) ce) (compPost (model X.prog X.w) X.A X.xe none (fun v s1 => ∃ x H', Inv X pins σ H' s1 ∧ RelV x v ∧ Q x H') (.ref D) u3.heap.objs.size) u4 := by
    refine compLoop_any (fun n u => ∃ i G, Inv (pin1 (X.blk u3 G3 scope ce fp) q) [] (wipe σ (own.map (·.2))) G u ∧ tn i u.heap ∧ (∀ b ∈ fp, G b = none) ∧ W i n G) ?_ m0 ⟨0, G3, K4, t4, nfp, w0⟩
    rintro n u5 ⟨i, G5, K5, t5, n5, w5⟩
    rcases turn i n G5 w5 with ⟨stop, qq⟩ | ⟨go, Nx, hNx, step⟩
    · refine thnF (T.done (pin1 (X.blk u3 G3 scope ce fp) q) rfl rfl rfl hc i [] u5 _ G5 (fun _ _ => False) K5 (stat K5 n5) t5 stop) fun r u6 ⟨hr, K6⟩ => ?_
      subst hr
      have K7 : Inv X pins σ G5 u6 := K3.call' (ch := fp) K6.os K6.base K6.hok K6.bare fun b hb => ⟨(f3 b hb).1.2.2.2.1, (f3 b hb).1.2.1, (f3 b hb).1.2.2.2.2.1, (f3 b hb).1.2.2.2.2.2⟩
      have nC : G5 u3.heap.objs.size = none := by
        have z : G5 ce.locals = none := K6.free
        rwa [cL] at z
      obtain ⟨m, hn, _⟩ := K6.loc
      have hn : u6.heap.Ns ce.locals m := hn
      rw [cL] at hn
      obtain ⟨a0, a1, a2, a3, a4, a5⟩ := K3.fpOk (H' := G5) (Nat.le_refl _) nC
      exact ⟨m, hn, fun h2 sb => ⟨.ref D, G5, K7.turned (t' := u6.toks) (fun b o hb e => (sb.2 b hb).trans e) a0 a1 a3 a4 a5, rfl, qq⟩⟩
    · refine thnF (T.item (pin1 (X.blk u3 G3 scope ce fp) q) rfl rfl rfl hc i [] u5 _ G5 (fun _ _ => False) K5 (stat K5 n5) t5 go) fun r u6 ⟨v, hr, h6⟩ => ?_
      subst hr
      refine thnF h6 fun _ u7 ⟨x, G7, K7, r7, y7, t7, n7⟩ => ?_
      have P7 := K7.pinned (stat K7 n7) (T.obj _ _ t7)
      refine thnF (pg.run _ u7 _ G7 x v _ P7 r7 (step x G7 y7)) fun _ u8 ⟨ρ8, G8, K8, hw8, q8⟩ => ?_
      refine thnF (pt.run _ u8 ρ8 G8 _ K8 q8) fun b u9 ⟨G9, K9, q9⟩ => ?_
      have fin : ∀ {u : Shared} {G : Hp}, Inv (pin1 (X.blk u3 G3 scope ce fp) q) ([] ++ pinsAt fp u7.heap) ρ8 G u → Nx G → ∃ m, m < n ∧ ∃ i G, Inv (pin1 (X.blk u3 G3 scope ce fp) q) [] (wipe σ (own.map (·.2))) G u ∧ tn i u.heap ∧ (∀ b ∈ fp, G b = none) ∧ W i m G := fun {u G} Z nx => by
        obtain ⟨m2, hm, w2⟩ := hNx G nx
        have at_ : ∀ b ∈ fp, ∀ o, u7.heap.get? b = some o → u.heap.get? b = some o ∧ G b = none := fun b hb o e => ⟨(Z.pin (b, o) (List.mem_append_right _ (List.mem_append_right _ (mem_pinsAt hb e)))).1, (Z.pin (b, o) (List.mem_append_right _ (List.mem_append_right _ (mem_pinsAt hb e)))).2.1⟩
        refine ⟨m2, hm, i + 1, G, (Z.unpinned (pins := [])).weak (by rw [← hw8, wipe_length]) (fun j v e => ?_), T.keep _ _ _ t7 fun b hb o e => (at_ b hb o e).1, fun b hb => ?_, w2⟩
        · rw [← hw8] at e; exact (wipe_some e).1
        · obtain ⟨o, e, _⟩ := T.obj _ _ t7 b hb
          exact (at_ b hb o e).2
      cases b with
      | false => exact fin K9 (by simpa using q9)
      | true =>
        rw [if_pos (rfl : true = true)] at q9
        show wpAny _ _ _ _ _ _
        refine thnF (pe.run _ u9 ρ8 G9 _ K9 q9) fun z u10 ⟨yv, G10, K10, r10, acc, hD10, hz10, nx⟩ => ?_
        exact app_ok (X := pin1 (X.blk u3 G3 scope ce fp) q) K10 hD10 hz10 r10 fun u11 K11 => fin K11 nx
  exact codeAny_compStart_list loop (T.self X.A 0 _ _ _ t4 loop)
end
end HotX

set_option Elab.async false
set_option linter.all false
set_option maxRecDepth 100000
set_option maxHeartbeats 1000000
/-! a list of ints summed, and its greatest, while an exception is handled -/
namespace HotX
open PySem PySem.Spec PyProof.Rows L2
theorem hotAt_kept {A : Around} {x1 : Addr} {h h' : Heap} (hot : HotAt A x1 h) (k : ∀ o, h.get? x1 = some o → h'.get? x1 = some o) : HotAt A x1 h' := by
  obtain ⟨a, o, vs, g, d, c⟩ := hot
  exact ⟨a, o, vs, k o g, d, c⟩
theorem lst_ne {A : Around} {x1 l : Addr} {h : Heap} {its : Array Value} (hot : HotAt A x1 h) (hl : h.IsList l its) : x1 ≠ l := by
  intro e
  subst e
  obtain ⟨_, o, vs, g, d, _⟩ := hot
  obtain ⟨u, gu, _, n, du⟩ := hl
  rw [g] at gu
  cases gu
  rw [d] at du
  cases du
theorem walksHot {prog : Program} {w : World} {A : Around} (x1 it l : Addr) (h1 : l ≠ it) (h2 : x1 ≠ it) (xs : Array Value) :
    Walks prog w A it [it, l, x1] [it] xs.size (fun k u => xs[k]? = some u) (fun k g => g.IsListIter it l k ∧ g.IsList l xs ∧ HotAt A x1 g) where
  sub := fun b m => by simp at m; simp [m]
  frame := fun _ _ _ z k => ⟨z.1.at fun o => k it (by simp) o, z.2.1.at fun o => k l (by simp) o, hotAt_kept z.2.2 fun o => k x1 (by simp) o⟩
  item := fun k s Q E lt z f => by
    refine wpAny_pyNext_list_item z.1 z.2.1 (x := xs[k]) (by simp [lt]) fun g' z' sb => ?_
    exact f _ g' s.toks (by simp [lt]) ⟨z', z.2.1.extBut sb.extBut h1, hotAt_kept z.2.2 fun o e => sb.extBut x1 o h2 e⟩ fun b o m e => sb.extBut b o (fun c => m (by simp [c])) e
  done := fun s Q E z f => lst_end_hot z.2.2 h2 z.1 z.2.1 (by simp) fun g' k => f g' s.toks fun b o m e => k b o (fun c => m (by simp [c])) e
  self := fun _ _ _ _ z f => wpAny_pyIter_listiter z.1 f
section
variable {prog : Program} {w : World} {A : Around} {E : Value → Shared → Prop} {s : Shared} {x1 l : Addr} {xs : Array (Int × Tok)} {Q : Value → Shared → Prop}
theorem hot_new (hot : HotAt A x1 s.heap) : x1 ≠ s.heap.objs.size := by
  obtain ⟨_, o, vs, g, _, _⟩ := hot
  exact Nat.ne_of_lt (Heap.lt_size g)
theorem fp_new {o : Obj} (hot : HotAt A x1 s.heap) (f : ∀ b ∈ [s.heap.objs.size, l], b < (s.heap.push o).objs.size) : ∀ b ∈ [s.heap.objs.size, l, x1], b < (s.heap.push o).objs.size := fun b m => by
  simp only [List.mem_cons, List.not_mem_nil, or_false] at m
  rcases m with c | c | c
  · exact f b (by simp [c])
  · exact f b (by simp [c])
  · obtain ⟨_, o, vs, g, _, _⟩ := hot
    rw [c, Heap.size_push]
    exact Nat.lt_succ_of_lt (Heap.lt_size g)
theorem sum_hot (hot : HotAt A x1 s.heap) (hl : s.heap.IsList l (intItems xs))
    (f : ∀ h' tk t', (∀ b o, s.heap.get? b = some o → h'.get? b = some o) → Q (.int (preSum (numAt xs) xs.size) t') { s with heap := h', toks := tk }) :
    wpAny (model prog w) A (call (.builtin "sum") [.ref l]) Q E s := by
  refine call_sum_walkG (iter_intList hl fun s2 e st fp ne => ?_)
  subst e
  refine ⟨_, _, _, _, _, _, numAt xs, rfl, walksHot (A := A.in1) x1 _ l ne (hot_new hot) (intItems xs), ⟨st.1, st.2, hotAt_kept (A := A.in1) hot fun o e => Heap.get?_push_of_some _ e⟩, fp_new hot fp, (fun _ _ => intItems_at), fun h' tk t' k => ?_⟩
  have z := f h' tk t' (old_kept k)
  simpa [intItems] using z
theorem max_hot (hot : HotAt A x1 s.heap) (hl : s.heap.IsList l (intItems xs)) (pos : 0 < xs.size)
    (f : ∀ u h' tk, (intItems xs)[argBest (fun i j => decide (numAt xs i > numAt xs j)) (xs.size - 1)]? = some u → (∀ b o, s.heap.get? b = some o → h'.get? b = some o) → Q u { s with heap := h', toks := tk }) :
    wpAny (model prog w) A (call (.builtin "max") [.ref l]) Q E s := by
  refine call_max_walk (iter_intList hl fun s2 e st fp ne => ?_)
  subst e
  refine ⟨_, _, _, _, _, _, _, rfl, walksHot (A := A.in1) x1 _ l ne (hot_new hot) (intItems xs), ⟨st.1, st.2, hotAt_kept (A := A.in1) hot fun o e => Heap.get?_push_of_some _ e⟩, fp_new hot fp, by simpa [intItems] using pos, CmpOf.ints_gt (numAt xs) (fun _ _ => intItems_at), fun v h' tk p k => ?_⟩
  exact f v h' tk (by simpa [intItems] using p) (old_kept k)
end
end HotX

set_option Elab.async false
set_option linter.all false
set_option maxRecDepth 100000
set_option maxHeartbeats 1000000
/-! sum(xs) and max(xs) by values, while an exception is handled -/
namespace HotX
open PySem PySem.Spec PyProof.Rows L2 L2H
section
variable {X : Cx} {q : Addr × Obj} {pins : List (Addr × Obj)} {σ : List (Option V)} {H : Hp} {s : Shared}
theorem hotAt_inv (hot : Hot1 X.A q) (hq : q ∈ X.pn) (I : Inv X pins σ H s) : HotAt X.A q.1 s.heap := by
  obtain ⟨a, vs, d, c⟩ := hot
  exact ⟨a, q.2, vs, (I.pin q (List.mem_append_left _ hq)).1, d, c⟩
theorem cr_sumH (hot : Hot1 X.A q) (hq : q ∈ X.pn) : CallR X (.builtin "sum") (rSum X.K) := by
  intro pins s σ H vs us Q I r h
  obtain ⟨a, ns, e, z, f⟩ := h
  subst e
  obtain ⟨its, rv, p, _⟩ := I.list z
  rw [Vals.ref1 r]
  have g := p.isList
  obtain ⟨xs, ex⟩ := rv.ints.allInts.items
  have en : numsOf (intItems xs).toList = ns := by rw [← ex]; exact rv.ints.numsOf
  rw [nums_intItems] at en
  rw [ex] at g
  refine sum_hot (hotAt_inv hot hq I) g fun h' tk t' k => ⟨.int ns.sum, H, I.kept k, ⟨t', ?_⟩, f⟩
  rw [preSum_eq, List.take_of_length_le (by simp), en]
theorem cr_maxH (hot : Hot1 X.A q) (hq : q ∈ X.pn) : CallR X (.builtin "max") (rMax X.K) := by
  intro pins s σ H vs us Q I r h
  obtain ⟨a, ns, e, z, pos, f⟩ := h
  subst e
  obtain ⟨its, rv, p, _⟩ := I.list z
  rw [Vals.ref1 r]
  have g := p.isList
  obtain ⟨xs, ex⟩ := rv.ints.allInts.items
  have en : numsOf (intItems xs).toList = ns := by rw [← ex]; exact rv.ints.numsOf
  rw [nums_intItems] at en
  subst en
  rw [ex] at g
  refine max_hot (hotAt_inv hot hq I) g (by simpa using pos) fun u h' tk hu k => ?_
  obtain ⟨t, rfl⟩ := intItems_at hu
  obtain ⟨b1, b2⟩ := argBest_gt (numAt xs) (xs.size - 1)
  have lt0 : 0 < xs.size := by simpa using pos
  refine ⟨.int _, H, I.kept k, ⟨t, rfl⟩, f _ ?_ fun y hy => ?_⟩
  · rw [numAt_eq]
    exact PySem.getD_mem (by simp only [List.length_map, Array.length_toList]; omega)
  · obtain ⟨j, hj, rfl⟩ := mem_getD hy
    simp only [List.length_map, Array.length_toList] at hj
    rw [← numAt_eq]
    exact b2 j (by omega)
end
end HotX

set_option Elab.async false
set_option linter.all false
set_option maxRecDepth 100000
set_option maxHeartbeats 2000000
/-! A try with several clauses, each with the one name or with none. -/
namespace HotX
open PySem PySem.Spec PyProof.Rows L2N
open L2 hiding CX HdsOk MkP PMk St Takes XE mk_of passAt passes_call pmk_own ps_raise ps_try_as ps_try_many takes_of
open L2H
/-- what a clause asks: class, with the name or without it, the statement's wish -/
abbrev Clause := Value × Bool × (Addr → Value → Option Addr → TS)
/-- the ends behind a clause that had the name: slot i is empty -/
def gone (i : Nat) (D : Ends) : Ends := ⟨fun σ H => D.nx (σ.set i none) H, D.rt, fun σ H => D.bk (σ.set i none) H, fun σ H => D.ct (σ.set i none) H⟩
def wCl (K : PySem.W.Frag) (i : Nat) (Wo : WX) (D : Ends) : List Clause → WX
  | [] => Wo
  | (c, nm, ts) :: r => fun cls d σ H => ∃ b, PySem.W.exmOne K cls c = some b ∧
      (b = true → ∀ a, H a = none → ts a cls d (bif nm then gone i D else D) (bif nm then σ.set i (some (.ref a)) else σ) H) ∧ (b = false → wCl K i Wo D r cls d σ H)
inductive Cls (X : Cx) (n : Str) : List ExceptHandler → List Clause → Prop
  | nil : Cls X n [] []
  | named {x : Str} {c : Value} {ts : Addr → Value → Option Addr → TS} {b0 : Stmt} {su : List Stmt} {p p' : Pos} {hs : List ExceptHandler} {l : List Clause} (hc : Names X x c)
      (hb : ∀ (a : Addr) (oe : Obj) (cls : Value) (d : Option Addr) (pn : List (Addr × Obj)), Zn cls d oe → (∃ vs, oe.data = .fields vs) → PSs (X.suite a ((a, oe) :: pn)) (b0 :: su) (ts a cls d)) (r : Cls X n hs l) :
      Cls X n (.ExceptHandler (some (.Name x p)) (some n) (b0 :: su) p' :: hs) ((c, true, ts) :: l)
  | bare {x : Str} {c : Value} {ts : Addr → Value → Option Addr → TS} {b0 : Stmt} {su : List Stmt} {p p' : Pos} {hs : List ExceptHandler} {l : List Clause} (hc : Names X x c)
      (hb : ∀ (a : Addr) (oe : Obj) (cls : Value) (d : Option Addr) (pn : List (Addr × Obj)), Zn cls d oe → (∃ vs, oe.data = .fields vs) → PSs (X.suite a ((a, oe) :: pn)) (b0 :: su) (ts a cls d)) (r : Cls X n hs l) :
      Cls X n (.ExceptHandler (some (.Name x p)) none (b0 :: su) p' :: hs) ((c, false, ts) :: l)
/-- an exception that has come down before the clauses -/
structure Down (X : Cx) (pins : List (Addr × Obj)) (a : Addr) (B : Heap) (sI : Shared) (σ : L2.St) (H : Hp) (cls : Value) (d : Option Addr) (t : Shared) : Prop where
  inv : Inv X pins σ H sI
  nb : ∀ b o, sI.heap.get? b = some o → b ∉ frs X.stack → B.get? b = some o
  up : sI.heap.UpToSlots t.heap
  fl : HandSPX.FlyingZ B (X.env :: X.outer) a (Zn cls d) t.heap
  na : H a = none
  os : t.os = sI.os
  ag : AllBare t.gens
section
variable {X : Cx} {pins : List (Addr × Obj)} {a : Addr} {B : Heap} {sI t : Shared} {σ : L2.St} {H : Hp} {cls : Value} {d : Option Addr} {D : Ends}
theorem Down.there (w : Down X pins a B sI σ H cls d t) (hf : X.env.frame = some X.env.locals) :
    Inv X pins σ H t ∧ ∃ oe, t.heap.get? a = some oe ∧ Zn cls d oe ∧ (∃ vs, oe.data = .fields vs) ∧ Inv (X.suite a ((a, oe) :: (X.pn ++ pins))) [] σ H t := by
  obtain ⟨oe, vs, ho, hz, hd⟩ := w.fl.there
  have I3 : Inv X pins σ H t := w.inv.landed w.nb w.fl.1 w.up w.os w.ag
  have off : a ∉ frs (X.env :: X.outer) := fun m => by
    obtain ⟨_, o2, e2, no⟩ := w.fl.2.2.1.mem m
    have e3 := ho.symm.trans e2
    cases e3
    exact no _ hd
  refine ⟨I3, oe, ho, hz, ⟨vs, hd⟩, I3.suite ho hd w.na (fun z => off ?_) fun m => ?_⟩
  · exact List.mem_filterMap.mpr ⟨X.env, List.mem_cons_self .., by rw [hf, z]⟩
  · obtain ⟨e, me, q⟩ := List.mem_filterMap.mp m
    exact off (List.mem_filterMap.mpr ⟨e, .tail _ me, q⟩)
/-- the class of a clause is looked at -/
theorem Down.test (w : Down X pins a B sI σ H cls d t) (hf : X.env.frame = some X.env.locals) {x : Str} {p : Pos} {c : Value} {b : Bool} (hc : Names X x c) (hb : PySem.W.exmOne X.K cls c = some b) {Q : Bool → Shared → Prop} {E : Value → Shared → Prop} (q : Q b t) :
    wpAny (model X.prog X.w) (X.A.mark (some (.ref a))) (eval (.Name x p) X.env) (fun v s => wpAny (model X.prog X.w) (X.A.mark (some (.ref a))) (excMatches (.ref a) v) Q E s) E t := by
  obtain ⟨I3, oe, ho, hz, hd, S3⟩ := w.there hf
  have lk : PySem.W.Looks (model X.prog X.w) t.heap (typeOf (.ref a)) cls := fun A Q E s k q => wpAny_typeOf_ref (k _ _ ho) (by rw [hz.1]; exact q)
  have hm := PySem.W.exm_one (M := model X.prog X.w) I3.kIn lk hb
  have seen : ∀ {Q : Value → Shared → Prop} {E : Value → Shared → Prop}, Q c t → wpAny (model X.prog X.w) (X.A.mark (some (.ref a))) (eval (.Name x p) X.env) Q E t := fun {Q E} q => by
    obtain ⟨g, nd, m | ⟨m, v, nn⟩⟩ := hc
    · exact ld_glob (X := X.suite a ((a, oe) :: (X.pn ++ pins))) S3 g m q nd
    · exact ld_blt (X := X.suite a ((a, oe) :: (X.pn ++ pins))) S3 g m v q nn nd
  exact seen (hm.here q)
/-- the clause with the name -/
theorem Down.named (w : Down X pins a B sI σ H cls d t) (ok : X.Ok) (hf : X.env.frame = some X.env.locals) {i : Nat} {n : Str} {b0 : Stmt} {su : List Stmt} {p' : Pos} {ts : Addr → Value → Option Addr → TS} (hN : X.N.Nodup) (hi : X.N[i]? = some n) (hl : X.env.kindOf n = some .local)
    (hb : ∀ (a : Addr) (oe : Obj) (cls : Value) (d : Option Addr) (pn : List (Addr × Obj)), Zn cls d oe → (∃ vs, oe.data = .fields vs) → PSs (X.suite a ((a, oe) :: pn)) (b0 :: su) (ts a cls d)) (q : ts a cls d (gone i D) (σ.set i (some (.ref a))) H) :
    codeAny (model X.prog X.w) (X.A.mark (some (.ref a))) (.handlers (.ref a) [.ExceptHandler none (some n) (b0 :: su) p'] X.env)
      (fun r s => match r with | .ok f => wpAny (model X.prog X.w) X.A (do bindName X.env n .none; unbindBehindTheSuite X.env n p') (fun _ z => SP X pins D f z) X.xe s | .error x => cameBackBy (model X.prog X.w) X.A X.env X.xe x s) t := by
  refine codeAny_handlers_suite_as (HandSPX.lands_againZ w.fl fun h fl up => ?_)
  have w2 : Down X pins a B sI σ H cls d { t with heap := h } := ⟨w.inv, w.nb, w.up.trans up, fl, w.na, w.os, w.ag⟩
  obtain ⟨_, oe, ho, hz, hd, S⟩ := w2.there hf
  refine store_ok (X := X.suite a ((a, oe) :: (X.pn ++ pins))) (v := .ref a) S hN hi (.inl hl) rfl (fun s5 S5 => ?_) (.inr hl)
  refine wpAny_mono ((hb a oe cls d (X.pn ++ pins) hz hd).run [] s5 _ H _ S5 q) (fun f s6 z => ?_) fun _ _ z => False.elim z
  have back : ∀ {σ6 : L2.St} {H6 : Hp} {Q : Shared → Prop}, Inv (X.suite a ((a, oe) :: (X.pn ++ pins))) [] σ6 H6 s6 → (∀ s7, Inv X pins (σ6.set i none) H6 s7 → Q s7) →
      wpAny (model X.prog X.w) X.A (do bindName X.env n .none; unbindBehindTheSuite X.env n p') (fun _ s => Q s) X.xe s6 := fun S6 k => gone_ok (S6.unsuite ok) hN hi hl k
  match f with
  | .next => obtain ⟨_, _, S6, q6⟩ := z; exact back S6 fun _ J => ⟨_, _, J, q6⟩
  | .brk => obtain ⟨_, _, S6, q6⟩ := z; exact back S6 fun _ J => ⟨_, _, J, q6⟩
  | .cont => obtain ⟨_, _, S6, q6⟩ := z; exact back S6 fun _ J => ⟨_, _, J, q6⟩
  | .ret u => obtain ⟨_, _, _, S6, r6, q6⟩ := z; exact back S6 fun _ J => ⟨_, _, _, J, r6, q6⟩
/-- the clause without it -/
theorem Down.bare (w : Down X pins a B sI σ H cls d t) (ok : X.Ok) (hf : X.env.frame = some X.env.locals) {b0 : Stmt} {su : List Stmt} {p' : Pos} {ts : Addr → Value → Option Addr → TS}
    (hb : ∀ (a : Addr) (oe : Obj) (cls : Value) (d : Option Addr) (pn : List (Addr × Obj)), Zn cls d oe → (∃ vs, oe.data = .fields vs) → PSs (X.suite a ((a, oe) :: pn)) (b0 :: su) (ts a cls d)) (q : ts a cls d D σ H) :
    codeAny (model X.prog X.w) (X.A.mark (some (.ref a))) (.handlers (.ref a) [.ExceptHandler none none (b0 :: su) p'] X.env)
      (fun r s => match r with | .ok f => SP X pins D f s | .error x => cameBackBy (model X.prog X.w) X.A X.env X.xe x s) t := by
  refine codeAny_handlers_suite (HandSPX.lands_againZ w.fl fun h fl up => ?_)
  have w2 : Down X pins a B sI σ H cls d { t with heap := h } := ⟨w.inv, w.nb, w.up.trans up, fl, w.na, w.os, w.ag⟩
  obtain ⟨_, oe, ho, hz, hd, S⟩ := w2.there hf
  refine wpAny_mono ((hb a oe cls d (X.pn ++ pins) hz hd).run [] _ _ H _ S q) (fun f s6 z => ?_) fun _ _ z => False.elim z
  match f with
  | .next => obtain ⟨_, _, S6, q6⟩ := z; exact ⟨_, _, S6.unsuite ok, q6⟩
  | .brk => obtain ⟨_, _, S6, q6⟩ := z; exact ⟨_, _, S6.unsuite ok, q6⟩
  | .cont => obtain ⟨_, _, S6, q6⟩ := z; exact ⟨_, _, S6.unsuite ok, q6⟩
  | .ret u => obtain ⟨_, _, _, S6, r6, q6⟩ := z; exact ⟨_, _, _, S6.unsuite ok, r6, q6⟩
/-- no clause takes it -/
theorem Down.on {Wo : WX} (w : Down X pins a B sI σ H cls d t) (hs : X.stack = X.env :: X.outer) (hf : X.env.frame = some X.env.locals) (tk : Takes X Wo) (q : Wo cls d σ H) : wpAny (model X.prog X.w) X.A (handleBy (.ref a) X.env []) (SP X pins D) X.xe t := by
  refine wpAny_handleBy_nil ?_
  obtain ⟨_, _, _, oe, vs, T, oT, us, he, _, hd, h1, _⟩ := id w.fl
  unfold PySem.passOn
  refine wpAny_bind (wpAny_field he hd h1 ?_)
  rw [if_neg (show ¬ ((Value.ref T == Value.none) = true) from by simp)]
  have up : wpAny (model X.prog X.w) X.A (setFlight (.ref a) X.env.frame) (fun _ s => wpAny (model X.prog X.w) X.A (throw (.ref a) : Sem Flow) (SP X pins D) X.xe s) X.xe t := by
    rw [hf]
    exact HandSPX.setFlight_upZ w.fl fun h hh u => wpAny_throw (tk _ _ ⟨a, B, sI, pins, σ, H, cls, d, rfl, w.inv, w.nb, w.up.trans u, .inr (.inr (by rw [hs]; exact hh)), w.na, w.os, w.ag, q⟩)
  first
    | exact wpAny_bind (wpAny_pure (wpAny_bind up))
    | exact wpAny_bind up
theorem Down.all {Wo : WX} (w : Down X pins a B sI σ H cls d t) (ok : X.Ok) (hs : X.stack = X.env :: X.outer) (hf : X.env.frame = some X.env.locals) {i : Nat} {n : Str} (hN : X.N.Nodup) (hi : X.N[i]? = some n) (hl : X.env.kindOf n = some .local) (tk : Takes X Wo) {hds : List ExceptHandler} {l : List Clause}
    (c : Cls X n hds l) : wCl X.K i Wo D l cls d σ H → wpAny (model X.prog X.w) X.A (handleBy (.ref a) X.env hds) (SP X pins D) X.xe t := by
  induction c with
  | nil => exact fun q => w.on hs hf tk q
  | named hc hb r ih =>
    rintro ⟨b, hb1, yes, no⟩
    refine wpAny_handleBy_cons (codeAny_handlers_test ?_) (by intro z; cases z)
    refine w.test hf hc hb1 ?_
    cases b with
    | true => exact w.named ok hf hN hi hl hb (yes rfl a w.na)
    | false => exact ih (no rfl)
  | bare hc hb r ih =>
    rintro ⟨b, hb1, yes, no⟩
    refine wpAny_handleBy_cons (codeAny_handlers_test ?_) (by intro z; cases z)
    refine w.test hf hc hb1 ?_
    cases b with
    | true => exact w.bare ok hf hb (yes rfl a w.na)
    | false => exact ih (no rfl)
/-- try with clauses -/
theorem ps_clauses {i : Nat} {n : Str} {body : List Stmt} {h0 : ExceptHandler} {hds : List ExceptHandler} {l : List Clause} {pos : Pos} {tb : WX → TS} {Wo : WX} (hs : X.stack = X.env :: X.outer) (hf : X.env.frame = some X.env.locals) (hN : X.N.Nodup) (hi : X.N[i]? = some n) (hl : X.env.kindOf n = some .local) (tk : Takes X Wo)
    (hb : ∀ (W : WX) (pn : List (Addr × Obj)) (xe : Value → Shared → Prop), Takes (X.tr pn xe) W → PassesOwn (model X.prog X.w) X.A X.env xe → PSs (X.tr pn xe) body (tb W)) (c : Cls X n (h0 :: hds) l) :
    PS X (.Try body (h0 :: hds) [] [] pos) (fun D σ H => tb (wCl X.K i Wo D l) D σ H) := by
  refine ⟨fun pins s σ H D I h => ?_⟩
  have ok := I.ok
  refine wpAny_Try_except (wpAny_mono ((hb (wCl X.K i Wo D l) (X.pn ++ pins) (fun e s₁ => wpAny (model X.prog X.w) X.A (noteFrame e X.env) (fun _ s₂ => wpAny (model X.prog X.w) X.A (setFlight e none) (fun _ s₃ =>
    wpAny (model X.prog X.w) X.A (handleBy e X.env (h0 :: hds)) (SP X pins D) X.xe s₃) X.xe s₂) X.xe s₁) (fun u s' xx => ?_) PassesOwn.looking).run [] s σ H D (I.toTry _) h) (fun f s1 z => ?_) (fun e s1 z => z))
  · obtain ⟨a, B, sI, pins', σ', H', cls, d, rfl, J, nb, up, sky, na, os, ag, w⟩ := xx
    refine Sky.land Zn.steady (show X.A.frames = some (X.env :: X.outer) by rw [ok.frames, hs]) hf (by rw [← hs]; exact sky) fun h3 fl up3 => ?_
    exact Down.all (t := { s' with heap := h3 }) ⟨J.ofTry ok, nb, up.trans up3, fl, na, os, ag⟩ ok hs hf hN hi hl tk c w
  · match f with
    | .next => obtain ⟨_, _, J, q⟩ := z; exact wpAny_execs_nil ⟨_, _, J.ofTry ok, q⟩
    | .brk => obtain ⟨_, _, J, q⟩ := z; exact ⟨_, _, J.ofTry ok, q⟩
    | .cont => obtain ⟨_, _, J, q⟩ := z; exact ⟨_, _, J.ofTry ok, q⟩
    | .ret u => obtain ⟨_, _, _, J, r, q⟩ := z; exact ⟨_, _, _, J.ofTry ok, r, q⟩
end
end HotX

set_option Elab.async false
set_option linter.all false
set_option maxRecDepth 100000
set_option maxHeartbeats 1000000
/-! Rf, part E: expressions. -/
namespace Rf
noncomputable section
open PySem PySem.Spec PyProof.Rows L2N
open L2 hiding CX HdsOk MkP PMk St Takes XE mk_of passAt passes_call pmk_own ps_raise ps_try_as ps_try_many takes_of

def sub : Nat → Nat
  | 0 => 0
  | _ => 1
theorem av1_sub {P : Pk} {e : Sl} {σ : L2.St} (m : Nat) : av1 P e σ (sub m) = av1 P e σ m := by cases m <;> rfl
def PostN (P : Pk) (e : Sl) (σ : L2.St) (m : Nat) (H : Hp) (Q : VK) : Res D → Prop
  | .ok d => ∀ v H', Same H H' → Fr2 P.K (av1 P e σ m) H v H' d → Q v H'
  | .ex c => ∀ H', Same H H' → P.W (.ref (P.ca c)) none σ H'
  | .stuck => False
/-- a value whose list or dict is new -/
def liftN (P : Pk) (m : Nat) (f : Sl → Res D) : L2.TE := fun σ H Q => ∃ e, Rel P e σ H ∧ PostN P e σ m H Q (f e)

structure Gd {β : Type} (P : Pk) (σ : L2.St) (Z : Hp → Res β → Prop) : Prop where
  back : ∀ {H H' : Hp} {r : Res β}, Same H H' → Z H r → Z H' r
  ex : ∀ {H : Hp} {c : Nat}, Z H (.ex c) → ∀ H', Same H H' → P.W (.ref (P.ca c)) none σ H'
  no : ∀ {H : Hp}, Z H .stuck → False
section
variable {P : Pk} {e : Sl} {σ : L2.St} {H H' : Hp} {m n k : Nat} {Q : VK}
theorem gdPost : Gd P σ (fun H r => Post P e σ m H Q r) := ⟨fun s h => Post.back s h, fun h => h, fun h => h⟩
theorem gdPostN : Gd P σ (fun H r => PostN P e σ m H Q r) := ⟨fun {H H' r} s h => match r, h with
  | .ok _, h => fun v H2 s2 d => h v H2 (s.trans s2) (d.back s)
  | .ex _, h => fun H2 s2 => h H2 (s.trans s2)
  | .stuck, h => h, fun h => h, fun h => h⟩
theorem gdPostT {Q : Bool → Hp → Prop} : Gd P σ (fun H r => PostT P σ H Q r) := ⟨fun {H H' r} s h => match r, h with
  | .ok (.bool _), h => fun H2 s2 => h H2 (s.trans s2)
  | .ok .none, h => h
  | .ok (.int _), h => h
  | .ok (.str _), h => h
  | .ok (.list _), h => h
  | .ok (.tuple _), h => h
  | .ok (.dict _), h => h
  | .ex _, h => fun H2 s2 => h H2 (s.trans s2)
  | .stuck, h => h, fun h => h, fun h => h⟩
theorem gdPosts {Q : List V → Hp → Prop} : Gd P σ (fun H r => Posts P e σ m H Q r) := ⟨fun {H H' r} s h => match r, h with
  | .ok _, h => fun v H2 s2 d => h v H2 (s.trans s2) d
  | .ex _, h => fun H2 s2 => h H2 (s.trans s2)
  | .stuck, h => h, fun h => h, fun h => h⟩
theorem PostN.post (R : Rel P e σ H) : ∀ {r : Res D}, Post P e σ m H Q r → PostN P e σ m H Q r
  | .ok _, h => fun v H' s d => h v H' s (d.two fun a z => by
    match m with
    | 0 => exact R.av_ne (.inl z)
    | 1 => exact R.av_ne (.inl z)
    | _ + 2 => exact R.av_ne z)
  | .ex _, h => h
  | .stuck, h => h
theorem PE.new {X : Cx} {ex : Expr} {f : Sl → Res D} (h : PE X ex (liftN P m f)) : PE X ex (lift P m f) := PE.imp h fun σ H Q ⟨e, R, p⟩ => ⟨e, R, PostN.post R p⟩
theorem PE.own {X : Cx} {ex : Expr} {f : Sl → Res D} (h : PE X ex (liftN P 2 f)) : PE X ex (liftL P f) := PE.imp h fun σ H Q ⟨e, R, p⟩ => ⟨e, R, by
  cases q : f e with
  | ok d =>
    rw [q] at p
    cases d with
    | list ds => intro v H' s ⟨a, xs, h1, h2, h3, h4⟩; subst h1; exact p a H' xs s h2 h3 h4
    | dict ds => intro v H' s ⟨a, xs, h1, h2, h3, h4⟩; subst h1; exact p a H' xs s h2 h3 h4
    | _ => exact p.elim
  | ex c => rw [q] at p; exact p
  | stuck => rw [q] at p; exact p⟩
theorem PE.mode {X : Cx} {ex : Expr} {f : Sl → Res D} (h : PE X ex (lift P 2 f)) : PE X ex (lift P m f) := PE.imp h fun σ H Q ⟨e, R, p⟩ => ⟨e, R, Post.mode (fun H v d hd => hd.d2.mm) p⟩
/-- an operand is evaluated -/
theorem bindZ {α : Type} {β : Type} {Z : Hp → Res β → Prop} (gd : Gd P σ Z) (R : Rel P e σ H) {F : D → Res β} {r : Res D} (h : Z H (r.bind F)) :
    Post P e σ m H (fun v H1 => ∃ x, r = .ok x ∧ Same H H1 ∧ Rel P e σ H1 ∧ DenM P e σ m H1 v x ∧ Z H1 (F x)) r := by
  cases r with
  | ok x => exact fun v H1 s d => ⟨x, rfl, s, R.same s, d, gd.back s h⟩
  | ex c => exact gd.ex h
  | stuck => exact gd.no h
theorem bindZs {β : Type} {Z : Hp → Res β → Prop} (gd : Gd P σ Z) (R : Rel P e σ H) {F : List D → Res β} {r : Res (List D)} (h : Z H (r.bind F)) :
    Posts P e σ m H (fun v H1 => ∃ x, r = .ok x ∧ Same H H1 ∧ Rel P e σ H1 ∧ DenMs P e σ m H1 v x ∧ Z H1 (F x)) r := by
  cases r with
  | ok x => exact fun v H1 s d => ⟨x, rfl, s, R.same s, d, gd.back s h⟩
  | ex c => exact gd.ex h
  | stuck => exact gd.no h
end

/-- the facts of a body's context -/
structure Ctx (X : Cx) (P : Pk) (N : List Str) (sc : Scope) : Prop where
  hK : X.K = P.K
  hN : X.N = N
  nd : N.Nodup
  hs : X.env.scope = sc
  calm : X.calm = true
  un : X.A.units + 190 < cLine
  tk : Takes X P.W
  po : PassesOwn (model X.prog X.w) X.A X.env X.xe
theorem evs_len {Φ : FT} {e : Sl} : ∀ {ES : List Exp} {xs : List D}, evs Φ ES e = .ok xs → xs.length = ES.length
  | [], xs, h => by simp only [evs, Res.ok.injEq] at h; subst h; rfl
  | A :: ES, xs, h => by
    simp only [evs] at h
    cases q : ev Φ A e with
    | ok d =>
      rw [q] at h
      cases q2 : evs Φ ES e with
      | ok ys =>
        simp only [Res.bind_ok, q2, Res.ok.injEq] at h
        subst h
        rw [List.length_cons, List.length_cons, evs_len q2]
      | ex c => simp [q2] at h
      | stuck => simp [q2] at h
    | ex c => rw [q] at h; simp at h
    | stuck => rw [q] at h; simp at h
theorem noLsts_append : ∀ {xs ys : List D}, noLsts xs = true → noLsts ys = true → noLsts (xs ++ ys) = true
  | [], _, _, h => h
  | x :: xs, ys, h, h2 => by
    simp only [noLsts, Bool.and_eq_true] at h
    simp only [List.cons_append, noLsts, Bool.and_eq_true]
    exact ⟨h.1, noLsts_append h.2 h2⟩
/-- what a def promises -/
def spP (K : PySem.W.Frag) (ca : Nat → Addr) (φ : FT) (f : Nat) : L2.Sp := fun vs H Q E => ∃ (av : Addr → Prop) (ds : List D), (∀ a, av a → H a ≠ none) ∧ Dens K av H vs ds ∧ match φ f ds with
  | .ok d => ∀ v H', Same H H' → Den K av H' v d → Q v H'
  | .ex c => ∀ H', Same H H' → E (.ref (ca c)) none H'
  | .stuck => False
/-- a def that may be called -/
structure Fn1 (pr : Program) (w : World) (K : PySem.W.Frag) (mg : Str → Option Value) (base : Heap) (A : Around) (ca : Nat → Addr) (Φ : FT) (x : Str) (f : Nat) : Prop where
  ex : ∃ (k : Nat) (fA : Addr) (fd : FuncData) (ps : List Str), FnOk pr w K mg base (L2N.CX pr w) k fA fd ps (spP K ca Φ f) ∧ Room k A ∧ mg x = some (.ref fA) ∧ PySem.W.keepIn K (.ref fA) = true ∧ Binds K fd ps []

section
variable {X : Cx} {P : Pk} {N : List Str} {sc : Scope} {m : Nat} {Φ : FT} {f g : Sl → Res D} {A B E : Exp} {ES : List Exp} {a b c : Expr} {es : List Expr} {pos : Pos}
theorem Ctx.u1 (C : Ctx X P N sc) : X.A.units + 1 < cLine := by have := C.un; omega
theorem DenM.up {e : Sl} {σ : L2.St} {H : Hp} {v : V} {d : D} (h : Den P.K (av1 P e σ m) H v d) : DenM P e σ m H v d := by
  refine Den2.mono (fun a z => ?_) (fun a z => z) h.two
  match m with
  | 0 => exact z
  | 1 => exact .inl z
  | _ + 2 => exact z
/-! names, constants -/
theorem se_var (C : Ctx X P N sc) {i : Nat} {x : Str} (hN : N[i]? = some x) (hv : Vis sc x) (hd : (x == ("__debug__" : Str)) = false := by decide) (hcd : (x == ("__classdict__" : Str)) = false := by decide) : PE X (.Name x pos) (lift P m (ev Φ (.var i))) := by
  refine PE.imp (pe_var (i := i) (by rw [C.hN]; exact hN) (by rw [C.hs]; exact hv) hd hcd) fun σ H Q ⟨e, R, p⟩ => ?_
  simp only [ev] at p
  cases q : e[i]? with
  | none => rw [q] at p; exact p.elim
  | some s =>
    rw [q] at p
    obtain ⟨o, h1, h2⟩ := R.at q
    cases s with
    | d x =>
      obtain ⟨v, rfl, dd⟩ := h2
      exact ⟨v, h1, p v H (Same.refl H) dd.mm⟩
    | _ => exact p.elim
theorem se_vw (C : Ctx X P N sc) {i : Nat} {x : Str} (hN : N[i]? = some x) (hv : Vis sc x) (hm : m ≤ 1) (hd : (x == ("__debug__" : Str)) = false := by decide) (hcd : (x == ("__classdict__" : Str)) = false := by decide) : PE X (.Name x pos) (lift P m (ev Φ (.vw i))) := by
  refine PE.imp (pe_var (i := i) (by rw [C.hN]; exact hN) (by rw [C.hs]; exact hv) hd hcd) fun σ H Q ⟨e, R, p⟩ => ?_
  simp only [ev] at p
  have top : ∀ {a : Addr}, Owns e σ a → ¬ av0 P e σ m a := fun {a} ow z => by
    match m, hm with
    | 0, _ => exact R.own_av ow z
    | 1, _ => exact R.own_av ow z
  have in1 : ∀ a, av1 P e σ m a → avo P e σ a := fun a z => by
    match m with
    | 0 => exact .inl z
    | _ + 1 => exact z
  cases q : e[i]? with
  | none => rw [q] at p; exact p.elim
  | some s =>
    rw [q] at p
    obtain ⟨o, h1, h2⟩ := R.at q
    cases s with
    | d x =>
      obtain ⟨v, rfl, dd⟩ := h2
      exact ⟨v, h1, p v H (Same.refl H) dd.mm⟩
    | ol xs =>
      obtain ⟨a, ys, rfl, ha, dd⟩ := h2
      exact ⟨.ref a, h1, p _ H (Same.refl H) ⟨a, ys, rfl, .inl (.inl ha), .inl (top ⟨i, _, q, rfl, h1⟩), dd.imp (fun _ _ z => z) fun a _ => in1 a⟩⟩
    | od xs =>
      obtain ⟨a, ys, rfl, ha, dd⟩ := h2
      exact ⟨.ref a, h1, p _ H (Same.refl H) ⟨a, ys, rfl, .inl ha, top ⟨i, _, q, rfl, h1⟩, dd.imp (fun _ _ z => z) fun a _ => in1 a⟩⟩
    | un => exact p.elim
    | ob _ => exact p.elim
    | on _ => exact p.elim
    | rn _ => exact p.elim
theorem se_c {v : V} {d : D} (h : PE X a (tC v)) (hd : ∀ (av : Addr → Prop) (H : Hp), Den P.K av H v d) : PE X a (lift P m (ev Φ (.con d))) :=
  PE.imp h fun σ H Q ⟨e, R, p⟩ => by
    simp only [ev] at p
    exact p v H (Same.refl H) (DenM.up (hd _ _))
theorem se_int {i : Int} {j : Nat} : PE X (.Constant (.int i) j pos) (lift P m (ev Φ (.con (.int i)))) := se_c pe_int fun _ _ => .int i
theorem se_bl {i : Bool} {j : Nat} : PE X (.Constant (.bool i) j pos) (lift P m (ev Φ (.con (.bool i)))) := se_c pe_bl fun _ _ => .bool i
theorem se_non {j : Nat} : PE X (.Constant .none j pos) (lift P m (ev Φ (.con .none))) := se_c pe_non fun _ _ => .none
theorem se_str {i : Str} {j : Nat} : PE X (.Constant (.str i) j pos) (lift P m (ev Φ (.con (.str i)))) := se_c pe_str fun _ _ => .str i
theorem se_glob {v : V} {d : D} {u : Value} {x : Str} (hg : X.env.kindOf x = some .globalImplicit) (hm : X.mg x = some u) (r : L2.RelV v u) (hd : ∀ (av : Addr → Prop) (H : Hp), Den P.K av H v d) (hdb : (x == ("__debug__" : Str)) = false := by decide) : PE X (.Name x pos) (lift P m (ev Φ (.con d))) := se_c (pe_glob hg hm r hdb) hd

/-! operations -/
theorem se_bin (C : Ctx X P N sc) (op : BOp) (ha : PE X a (lift P (sub m) (ev Φ A))) (hb : PE X b (lift P (sub m) (ev Φ B))) :
    PE X (.BinOp a (bOp op) b pos) (liftN P m (ev Φ (.bin op A B))) := by
  have o := op_binD (X := X) op
  rw [C.hK] at o
  refine PE.imp (pe_op o ha hb) fun σ H Q ⟨e, R, p⟩ => ⟨e, R, ?_⟩
  simp only [ev] at p
  refine Post.weaken (bindZ (α := D) (m := sub m) gdPostN R p) fun v H1 ⟨x, _, s1, R1, d1, p1⟩ => ⟨e, R1, ?_⟩
  refine Post.weaken (bindZ (α := D) (m := sub m) gdPostN R1 p1) fun w H2 ⟨y, _, s2, R2, d2, p2⟩ => ?_
  cases q : binD op x y with
  | none => rw [q] at p2; exact p2.elim
  | some d =>
    rw [q] at p2
    have d1' := d1.same s2
    unfold DenM at d1' d2
    rw [av1_sub] at d1' d2
    exact ⟨_, _, _, x, y, d, d1', d2, q, fun z H' s hz => p2 z H' s hz⟩
theorem bl_m {e : Sl} {σ : L2.St} {H : Hp} {i : Bool} : DenM P e σ m H (.bl i) (.bool i) := DenM.up (.bool i)
theorem int_m {e : Sl} {σ : L2.St} {H : Hp} {i : Int} : DenM P e σ m H (.int i) (.int i) := DenM.up (.int i)
theorem se_cmp (C : Ctx X P N sc) (op : COp) (ha : PE X a (lift P 0 (ev Φ A))) (hb : PE X b (lift P 0 (ev Φ B))) (hm : behindInMarks (cOp op) b = false) :
    PE X (.Compare a [cOp op] [b] pos) (lift P m (ev Φ (.cmp op A B))) := by
  have o := op_cmpD (X := X) C.un op
  rw [C.hK] at o
  refine PE.imp (pe_cmpR o ha hb hm) fun σ H Q ⟨e, R, p⟩ => ⟨e, R, ?_⟩
  simp only [ev] at p
  refine Post.weaken (bindZ (α := D) (m := 0) gdPost R p) fun v H1 ⟨x, _, s1, R1, d1, p1⟩ => ⟨e, R1, ?_⟩
  refine Post.weaken (bindZ (α := D) (m := 0) gdPost R1 p1) fun w H2 ⟨y, _, s2, R2, d2, p2⟩ => ?_
  cases q : cmpD op x y with
  | none => rw [q] at p2; exact p2.elim
  | some d =>
    rw [q] at p2
    exact ⟨_, _, _, x, y, d, d1.same s2, d2, q, p2 _ H2 (Same.refl _) bl_m⟩
theorem st_cmp (C : Ctx X P N sc) (op : COp) (ha : PE X a (lift P 0 (ev Φ A))) (hb : PE X b (lift P 0 (ev Φ B))) (hm : behindInMarks (cOp op) b = false) :
    PT X (.Compare a [cOp op] [b] pos) (liftT P (ev Φ (.cmp op A B))) := by
  have o := op_cmpD (X := X) C.un op
  rw [C.hK] at o
  refine PT.imp (pt_cmpR o ha hb hm) fun σ H Q ⟨e, R, p⟩ => ⟨e, R, ?_⟩
  simp only [ev] at p
  refine Post.weaken (bindZ (α := D) (m := 0) gdPostT R p) fun v H1 ⟨x, _, s1, R1, d1, p1⟩ => ⟨e, R1, ?_⟩
  refine Post.weaken (bindZ (α := D) (m := 0) gdPostT R1 p1) fun w H2 ⟨y, _, s2, R2, d2, p2⟩ => ?_
  cases q : cmpD op x y with
  | none => rw [q] at p2; exact p2.elim
  | some d =>
    rw [q] at p2
    exact ⟨_, _, _, x, y, d, d1.same s2, d2, q, d, rfl, p2 H2 (Same.refl _)⟩
theorem se_chain (C : Ctx X P N sc) (o1 o2 : COp) (ha : PE X a (lift P 0 (ev Φ A))) (hb : PE X b (lift P 0 (ev Φ B))) (hc : PE X c (lift P 0 (ev Φ E))) (hm : lastMarks [cOp o1, cOp o2] [b, c] = false) :
    PE X (.Compare a [cOp o1, cOp o2] [b, c] pos) (lift P m (ev Φ (.chain o1 o2 A B E))) := by
  have w1 := op_cmpD (X := X) C.un o1
  have w2 := op_cmpD (X := X) C.un o2
  rw [C.hK] at w1 w2
  refine PE.imp (pe_chain w1 w2 ha hb hc hm) fun σ H Q ⟨e, R, p⟩ => ⟨e, R, ?_⟩
  simp only [ev] at p
  refine Post.weaken (bindZ (α := D) (m := 0) gdPost R p) fun v H1 ⟨x, _, s1, R1, d1, p1⟩ => ⟨e, R1, ?_⟩
  refine Post.weaken (bindZ (α := D) (m := 0) gdPost R1 p1) fun w H2 ⟨y, _, s2, R2, d2, p2⟩ => ?_
  cases q : cmpD o1 x y with
  | none => rw [q] at p2; exact p2.elim
  | some k =>
    rw [q] at p2
    refine ⟨_, _, _, x, y, k, d1.same s2, d2, q, k, rfl, ?_⟩
    cases k with
    | false => exact p2 _ H2 (Same.refl _) bl_m
    | true =>
      refine ⟨e, R2, ?_⟩
      refine Post.weaken (bindZ (α := D) (m := 0) gdPost R2 p2) fun u H3 ⟨z, _, s3, R3, d3, p3⟩ => ?_
      cases q3 : cmpD o2 y z with
      | none => rw [q3] at p3; exact p3.elim
      | some d =>
        rw [q3] at p3
        exact ⟨_, _, _, y, z, d, d2.same s3, d3, q3, p3 _ H3 (Same.refl _) bl_m⟩
/-- a bool's value as a test -/
theorem st_val {f : Sl → Res D} (h : PE X a (lift P 2 f)) (he : ∀ whole, PySem.isTrue a X.env whole = (do let v ← whole; standAt a.pos; holding [v] (truthy v)) := by intro _; rfl) : PT X a (liftT P f) :=
  PT.imp (pt_val h he) fun σ H Q ⟨e, R, p⟩ => ⟨e, R, by
    cases q : f e with
    | ok d =>
      rw [q] at p
      cases d with
      | bool k => exact fun v H' s hd => ⟨k, d2_bool hd, p H' s⟩
      | _ => exact p.elim
    | ex c => rw [q] at p; exact p
    | stuck => rw [q] at p; exact p⟩
theorem PostT.weaken {σ : L2.St} {H : Hp} {Q Q' : Bool → Hp → Prop} {r : Res D} (h : PostT P σ H Q r) (w : ∀ k H', Q k H' → Q' k H') : PostT P σ H Q' r := by
  cases r with
  | ok d => cases d with
    | bool k => exact fun H' s => w _ _ (h H' s)
    | _ => exact h.elim
  | ex c => exact h
  | stuck => exact h
/-- a test evaluated -/
theorem bindT' {β : Type} {Z : Hp → Res β → Prop} {e : Sl} {σ : L2.St} {H : Hp} (gd : Gd P σ Z) (R : Rel P e σ H) {F : D → Res β} {r : Res D} (hF : ∀ d, (∀ k, d ≠ .bool k) → F d = .stuck) (h : Z H (r.bind F)) :
    PostT P σ H (fun k H1 => r = .ok (.bool k) ∧ Same H H1 ∧ Rel P e σ H1 ∧ Z H1 (F (.bool k))) r := by
  cases r with
  | ok d =>
    cases d with
    | bool k => exact fun H1 s => ⟨rfl, s, R.same s, gd.back s h⟩
    | none => exact gd.no (by have := hF .none (fun _ z => nomatch z); rw [← this]; exact h)
    | int i => exact gd.no (by have := hF (.int i) (fun _ z => nomatch z); rw [← this]; exact h)
    | str i => exact gd.no (by have := hF (.str i) (fun _ z => nomatch z); rw [← this]; exact h)
    | list i => exact gd.no (by have := hF (.list i) (fun _ z => nomatch z); rw [← this]; exact h)
    | tuple i => exact gd.no (by have := hF (.tuple i) (fun _ z => nomatch z); rw [← this]; exact h)
    | dict i => exact gd.no (by have := hF (.dict i) (fun _ z => nomatch z); rw [← this]; exact h)
  | ex c => exact gd.ex h
  | stuck => exact gd.no h
theorem se_ite (hc : PT X c (liftT P (ev Φ E))) (ha : PE X a (lift P m (ev Φ A))) (hb : PE X b (lift P m (ev Φ B))) : PE X (.IfExp c a b pos) (lift P m (ev Φ (.ite E A B))) := by
  refine PE.imp (pe_ifExp hc ha hb) fun σ H Q ⟨e, R, p⟩ => ⟨e, R, ?_⟩
  simp only [ev] at p
  refine PostT.weaken (bindT' (gdPost (m := m)) R (fun d hd => ?_) p) fun k H1 ⟨_, s, R1, z⟩ => ?_
  · cases d with
    | bool k => exact absurd rfl (hd k)
    | _ => rfl
  · cases k with
    | true => exact ⟨e, R1, z⟩
    | false => exact ⟨e, R1, z⟩
theorem st_and {rest : List Expr} (ha : PT X a (liftT P (ev Φ A))) (hb : PW X (.BoolOp .And (b :: rest) pos) (liftT P (ev Φ B))) : PW X (.BoolOp .And (a :: b :: rest) pos) (liftT P (ev Φ (.and A B))) := by
  refine PW.imp (pw_and ha hb) fun σ H Q ⟨e, R, p⟩ => ⟨e, R, ?_⟩
  simp only [ev] at p
  refine PostT.weaken (bindT' (gdPostT) R (fun d hd => ?_) p) fun k H1 ⟨_, s, R1, z⟩ => ?_
  · cases d with
    | bool k => exact absurd rfl (hd k)
    | _ => rfl
  · cases k with
    | true => exact ⟨e, R1, z⟩
    | false => exact z H1 (Same.refl _)
theorem st_or {rest : List Expr} (ha : PT X a (liftT P (ev Φ A))) (hb : PW X (.BoolOp .Or (b :: rest) pos) (liftT P (ev Φ B))) : PW X (.BoolOp .Or (a :: b :: rest) pos) (liftT P (ev Φ (.or A B))) := by
  refine PW.imp (pw_or ha hb) fun σ H Q ⟨e, R, p⟩ => ⟨e, R, ?_⟩
  simp only [ev] at p
  refine PostT.weaken (bindT' (gdPostT) R (fun d hd => ?_) p) fun k H1 ⟨_, s, R1, z⟩ => ?_
  · cases d with
    | bool k => exact absurd rfl (hd k)
    | _ => rfl
  · cases k with
    | true => exact z H1 (Same.refl _)
    | false => exact ⟨e, R1, z⟩
theorem st_and1 {f : Sl → Res D} (ha : PT X a (liftT P f)) : PW X (.BoolOp .And [a] pos) (liftT P f) := pw_and1 ha
theorem st_or1 {f : Sl → Res D} (ha : PT X a (liftT P f)) : PW X (.BoolOp .Or [a] pos) (liftT P f) := pw_or1 ha
theorem se_one {op : BoolOp} {f : Sl → Res D} (ha : PE X a (lift P m f)) : PE X (.BoolOp op [a] pos) (lift P m f) := pe_one ha
theorem st_chain (C : Ctx X P N sc) (o1 o2 : COp) (ha : PE X a (lift P 0 (ev Φ A))) (hb : PE X b (lift P 0 (ev Φ B))) (hc : PE X c (lift P 0 (ev Φ E))) (hm : lastMarks [cOp o1, cOp o2] [b, c] = false) :
    PT X (.Compare a [cOp o1, cOp o2] [b, c] pos) (liftT P (ev Φ (.chain o1 o2 A B E))) := by
  have w1 := op_cmpD (X := X) C.un o1
  have w2 := op_cmpD (X := X) C.un o2
  rw [C.hK] at w1 w2
  refine PT.imp (pt_chain w1 w2 ha hb hc hm) fun σ H Q ⟨e, R, p⟩ => ⟨e, R, ?_⟩
  simp only [ev] at p
  refine Post.weaken (bindZ (α := D) (m := 0) gdPostT R p) fun v H1 ⟨x, _, s1, R1, d1, p1⟩ => ⟨e, R1, ?_⟩
  refine Post.weaken (bindZ (α := D) (m := 0) gdPostT R1 p1) fun w H2 ⟨y, _, s2, R2, d2, p2⟩ => ?_
  cases q : cmpD o1 x y with
  | none => rw [q] at p2; exact p2.elim
  | some k =>
    rw [q] at p2
    refine ⟨_, _, _, x, y, k, d1.same s2, d2, q, k, rfl, ?_⟩
    cases k with
    | false => exact ⟨false, rfl, p2 _ (Same.refl _)⟩
    | true =>
      refine ⟨e, R2, ?_⟩
      refine Post.weaken (bindZ (α := D) (m := 0) gdPostT R2 p2) fun u H3 ⟨z, _, s3, R3, d3, p3⟩ => ?_
      cases q3 : cmpD o2 y z with
      | none => rw [q3] at p3; exact p3.elim
      | some d =>
        rw [q3] at p3
        exact ⟨_, _, _, y, z, d, d2.same s3, d3, q3, d, rfl, p3 _ (Same.refl _)⟩
theorem st_not (ha : PT X a (liftT P (ev Φ A))) : PT X (.UnaryOp .Not a pos) (liftT P (ev Φ (.not A))) := by
  refine PT.imp (pt_not ha) fun σ H Q ⟨e, R, p⟩ => ⟨e, R, ?_⟩
  simp only [ev] at p
  refine PostT.weaken (bindT' (gdPostT) R (fun d hd => ?_) p) fun k H1 ⟨_, s, R1, z⟩ => ?_
  · cases d with
    | bool k => exact absurd rfl (hd k)
    | _ => rfl
  · exact z H1 (Same.refl _)
/-- a bool evaluated -/
theorem bindB {β : Type} {Z : Hp → Res β → Prop} {e : Sl} {σ : L2.St} {H : Hp} (gd : Gd P σ Z) (R : Rel P e σ H) {F : D → Res β} {r : Res D} (hF : ∀ d, (∀ k, d ≠ .bool k) → F d = .stuck) (h : Z H (r.bind F)) :
    Post P e σ m H (fun v H1 => ∃ k, v = .bl k ∧ Same H H1 ∧ Rel P e σ H1 ∧ Z H1 (F (.bool k))) r := by
  cases r with
  | ok d =>
    cases d with
    | bool k => exact fun v H1 s hd => ⟨k, d2_bool hd, s, R.same s, gd.back s h⟩
    | none => exact (gd.no (by have := hF .none (fun _ z => nomatch z); rw [← this]; exact h)).elim
    | int i => exact (gd.no (by have := hF (.int i) (fun _ z => nomatch z); rw [← this]; exact h)).elim
    | str i => exact (gd.no (by have := hF (.str i) (fun _ z => nomatch z); rw [← this]; exact h)).elim
    | list i => exact (gd.no (by have := hF (.list i) (fun _ z => nomatch z); rw [← this]; exact h)).elim
    | tuple i => exact (gd.no (by have := hF (.tuple i) (fun _ z => nomatch z); rw [← this]; exact h)).elim
    | dict i => exact (gd.no (by have := hF (.dict i) (fun _ z => nomatch z); rw [← this]; exact h)).elim
  | ex c => exact gd.ex h
  | stuck => exact gd.no h
theorem se_and {rest : List Expr} (ha : PE X a (lift P 0 (ev Φ A))) (hb : PE X (.BoolOp .And (b :: rest) pos) (lift P m (ev Φ B))) : PE X (.BoolOp .And (a :: b :: rest) pos) (lift P m (ev Φ (.and A B))) := by
  refine PE.imp (pe_and ha hb) fun σ H Q ⟨e, R, p⟩ => ⟨e, R, ?_⟩
  simp only [ev] at p
  refine Post.weaken (bindB (m := 0) (gdPost (m := m)) R (fun d hd => ?_) p) fun v H1 ⟨k, hv, s, R1, z⟩ => ⟨k, hv, ?_⟩
  · cases d with
    | bool k => exact absurd rfl (hd k)
    | _ => rfl
  · cases k with
    | true => exact ⟨e, R1, z⟩
    | false => exact z _ H1 (Same.refl _) bl_m
theorem se_or {rest : List Expr} (ha : PE X a (lift P 0 (ev Φ A))) (hb : PE X (.BoolOp .Or (b :: rest) pos) (lift P m (ev Φ B))) : PE X (.BoolOp .Or (a :: b :: rest) pos) (lift P m (ev Φ (.or A B))) := by
  refine PE.imp (pe_or ha hb) fun σ H Q ⟨e, R, p⟩ => ⟨e, R, ?_⟩
  simp only [ev] at p
  refine Post.weaken (bindB (m := 0) (gdPost (m := m)) R (fun d hd => ?_) p) fun v H1 ⟨k, hv, s, R1, z⟩ => ⟨k, hv, ?_⟩
  · cases d with
    | bool k => exact absurd rfl (hd k)
    | _ => rfl
  · cases k with
    | true => exact z _ H1 (Same.refl _) bl_m
    | false => exact ⟨e, R1, z⟩
theorem se_not (ha : PE X a (lift P 0 (ev Φ A))) : PE X (.UnaryOp .Not a pos) (lift P m (ev Φ (.not A))) := by
  refine PE.imp (pe_not ha) fun σ H Q ⟨e, R, p⟩ => ⟨e, R, ?_⟩
  simp only [ev] at p
  refine Post.weaken (bindB (m := 0) (gdPost (m := m)) R (fun d hd => ?_) p) fun v H1 ⟨k, hv, s, R1, z⟩ => ⟨k, hv, ?_⟩
  · cases d with
    | bool k => exact absurd rfl (hd k)
    | _ => rfl
  · exact z _ H1 (Same.refl _) bl_m
theorem se_neg (ha : PE X a (lift P 0 (ev Φ A))) : PE X (.UnaryOp .USub a pos) (lift P m (ev Φ (.neg A))) := by
  refine PE.imp (pe_un un_neg ha) fun σ H Q ⟨e, R, p⟩ => ⟨e, R, ?_⟩
  simp only [ev] at p
  refine Post.weaken (bindZ (α := D) (m := 0) gdPost R p) fun v H1 ⟨x, _, s1, R1, d1, p1⟩ => ?_
  cases x with
  | int i => exact ⟨i, d2_int d1, p1 _ H1 (Same.refl _) int_m⟩
  | _ => exact p1.elim

/-! ### argument lists, displays -/
theorem ses_nil : PA X [] (lifts P m (evs Φ [])) := PA.imp pa_nil fun σ H Q ⟨e, R, p⟩ => by
  simp only [evs] at p
  exact p [] H (Same.refl _) trivial
theorem ses_cons (ha : PE X a (lift P m (ev Φ A))) (hr : PA X es (lifts P m (evs Φ ES))) (hs : starEach (a :: es) X.env = (false, eval a X.env) :: starEach es X.env := by rfl) : PA X (a :: es) (lifts P m (evs Φ (A :: ES))) := by
  refine PA.imp (pa_cons ha hr hs) fun σ H Q ⟨e, R, p⟩ => ⟨e, R, ?_⟩
  simp only [evs] at p
  refine Post.weaken (bindZ (α := D) (m := m) (gdPosts (m := m)) R p) fun v H1 ⟨x, _, s1, R1, d1, p1⟩ => ⟨e, R1, ?_⟩
  refine Posts.weaken (bindZs (m := m) (gdPosts (m := m)) R1 p1) fun vs H2 ⟨xs, _, s2, R2, d2, p2⟩ => ?_
  exact p2 (v :: vs) H2 (Same.refl _) ⟨d1.same s2, d2⟩
theorem DenMs.len {e : Sl} {σ : L2.St} {H : Hp} : ∀ {vs : List V} {ds : List D}, DenMs P e σ m H vs ds → vs.length = ds.length
  | [], [], _ => rfl
  | _ :: _, _ :: _, h => congrArg (· + 1) (DenMs.len h.2)
  | [], _ :: _, h => h.elim
  | _ :: _, [], h => h.elim
/-- the items' mode of a display -/
def cm : Nat → Nat
  | 0 => 0
  | _ => 2
theorem cm_av1 {e : Sl} {σ : L2.St} : av1 P e σ (cm m) = av1 P e σ m := by cases m <;> rfl
theorem DenMs.dens {e : Sl} {σ : L2.St} {H : Hp} {vs : List V} {ds : List D} (h : DenMs P e σ (cm m) H vs ds) : Dens P.K (av1 P e σ m) H vs ds := by
  cases m with
  | zero => exact h.weak
  | succ n => exact h.d2
theorem DenMs.dena {e : Sl} {σ : L2.St} {H : Hp} : ∀ {vs : List V} {ds : List D}, DenMs P e σ m H vs ds → DenA P.K (av1 P e σ m) H vs ds
  | [], [], _ => trivial
  | _ :: _, _ :: _, h => ⟨⟨_, h.1⟩, DenMs.dena h.2⟩
  | [], _ :: _, h => h.elim
  | _ :: _, [], h => h.elim
theorem se_tup {k : Nat} (hn : ES.length ≤ 1000) (ha : PA X es (lifts P (cm m) (evs Φ ES))) : PE X (.Tuple es k pos) (lift P m (ev Φ (.tup ES))) := by
  refine PE.imp (pe_tup ha) fun σ H Q ⟨e, R, p⟩ => ⟨e, R, ?_⟩
  simp only [ev] at p
  refine Posts.weaken (bindZs (m := cm m) (gdPost (m := m)) R p) fun vs H1 ⟨xs, hx, s1, R1, d1, p1⟩ => ⟨?_, fun q no => ?_⟩
  · rw [d1.len, evs_len hx]
    exact Nat.le_trans hn (by decide)
  · exact p1 _ _ (same_upd no) (DenM.up (new_tup no d1.dens))
theorem se_lst (hn : ES.length ≤ 1000) (ha : PA X es (lifts P (cm m) (evs Φ ES))) : PE X (.List es pos) (liftN P m (ev Φ (.lst ES))) := by
  refine PE.imp (pe_lst ha) fun σ H Q ⟨e, R, p⟩ => ⟨e, R, ?_⟩
  simp only [ev] at p
  refine Posts.weaken (bindZs (m := cm m) (gdPostN (m := m)) R p) fun vs H1 ⟨xs, hx, s1, R1, d1, p1⟩ => ⟨?_, fun q no => ?_⟩
  · rw [d1.len, evs_len hx]
    exact Nat.le_trans hn (by decide)
  · exact p1 _ _ (same_upd no) (new_lst no d1.dens)
theorem se_emp : PE X (.Dict [] [] pos) (liftN P m (ev Φ .emp)) := by
  refine PE.imp pe_dnewK fun σ H Q ⟨e, R, p⟩ q no => ?_
  simp only [ev] at p
  exact p _ _ (same_upd no) (new_dct no .nil)
theorem lift_int {f : Sl → Res D} {σ : L2.St} {H : Hp} {Q : VK} {e : Sl} {i : Int} (R : Rel P e σ H) (q : f e = .ok (.int i)) (k : ∀ H', Same H H' → Rel P e σ H' → Q (.int i) H') : lift P 0 f σ H Q := ⟨e, R, by
  rw [q]
  intro v H' s d
  have d' : v = .int i := d2_int (a0 := av0 P e σ 0) (a1 := av1 P e σ 0) d
  rw [d']
  exact k H' s (R.same s)⟩
theorem lift_exc {f : Sl → Res D} {σ : L2.St} {H : Hp} {Q : VK} {e : Sl} {c : Nat} (R : Rel P e σ H) (q : f e = .ex c) (k : ∀ H', Same H H' → P.W (.ref (P.ca c)) none σ H') : lift P 0 f σ H Q := ⟨e, R, by
  rw [q]
  exact k⟩
/-- {a: b, c: d} over ints -/
theorem se_dsp2 {d : Expr} {A1 B1 C1 D1 : Exp} (ha : PE X a (lift P 0 (ev Φ A1))) (hb : PE X b (lift P 0 (ev Φ B1))) (hc : PE X c (lift P 0 (ev Φ C1))) (hd : PE X d (lift P 0 (ev Φ D1))) :
    PE X (.Dict [some a, some c] [b, d] pos) (liftN P m (ev Φ (.dsp2 A1 B1 C1 D1))) := by
  refine PE.imp (pe_disp (pps_cons ha hb (pps_cons hc hd pps_nil)) rfl rfl (by intro z; cases z) (by show 2 ≤ 15; decide)) fun σ H Q ⟨e, R, p⟩ p0 no => ?_
  have s0 : Same H (upd H p0 (.dK [])) := same_upd no
  have R0 : Rel P e σ (upd H p0 (.dK [])) := R.same s0
  simp only [ev] at p
  show lift P 0 (ev Φ A1) σ _ _
  cases qa : ev Φ A1 e with
  | stuck => simp only [qa, Res.bind_stuck] at p; exact p.elim
  | ex cc => simp only [qa, Res.bind_ex] at p; exact lift_exc R0 qa fun H1 s1 => p H1 (s0.trans s1)
  | ok x =>
  rw [qa] at p
  simp only [Res.bind_ok] at p
  cases x with
  | int i =>
    refine lift_int R0 qa fun H1 s1 R1 => ?_
    show lift P 0 (ev Φ B1) σ _ _
    cases qb : ev Φ B1 e with
    | stuck => simp only [qb, Res.bind_stuck] at p; exact p.elim
    | ex cc => simp only [qb, Res.bind_ex] at p; exact lift_exc R1 qb fun H2 s2 => p H2 ((s0.trans s1).trans s2)
    | ok y =>
    rw [qb] at p
    simp only [Res.bind_ok] at p
    cases y with
    | int u =>
      refine lift_int R1 qb fun H2 s2 R2 => ?_
      show lift P 0 (ev Φ C1) σ _ _
      cases qc : ev Φ C1 e with
      | stuck => simp only [qc, Res.bind_stuck] at p; exact p.elim
      | ex cc => simp only [qc, Res.bind_ex] at p; exact lift_exc R2 qc fun H3 s3 => p H3 (((s0.trans s1).trans s2).trans s3)
      | ok z =>
      rw [qc] at p
      simp only [Res.bind_ok] at p
      cases z with
      | int j =>
        refine lift_int R2 qc fun H3 s3 R3 => ?_
        show lift P 0 (ev Φ D1) σ _ _
        cases qd : ev Φ D1 e with
        | stuck => simp only [qd, Res.bind_stuck] at p; exact p.elim
        | ex cc => simp only [qd, Res.bind_ex] at p; exact lift_exc R3 qd fun H4 s4 => p H4 ((((s0.trans s1).trans s2).trans s3).trans s4)
        | ok w =>
        rw [qd] at p
        simp only [Res.bind_ok] at p
        cases w with
        | int v =>
          refine lift_int R3 qd fun H4 s4 R4 => ?_
          have s14 := ((s1.trans s2).trans s3).trans s4
          refine ⟨s14 _ _ upd_same, [(Sum.inl i, .int u), (Sum.inl j, .int v)], rfl, by show 2 ≤ 15; decide, ?_⟩
          refine p _ _ (fun b o hb => ?_) ⟨p0, _, rfl, no, upd_same, ?_⟩
          · have nb : b ≠ p0 := fun z => by rw [z, no] at hb; cases hb
            rw [upd_ne nb]
            exact s14 _ _ (by rw [upd_ne nb]; exact hb)
          · by_cases e1 : i = j
            · subst e1
              have z : mergeK [] [((Sum.inl i : Key), V.int u), (Sum.inl i, .int v)] = [(Sum.inl i, .int v)] := by simp [mergeK, putK]
              rw [z, if_pos rfl]
              exact .cons (.int v) .nil
            · have z : mergeK [] [((Sum.inl i : Key), V.int u), (Sum.inl j, .int v)] = [(Sum.inl i, .int u), (Sum.inl j, .int v)] := by simp [mergeK, putK, e1]
              rw [z, if_neg e1]
              exact .cons (.int u) (.cons (.int v) .nil)
        | _ => exact p.elim
      | _ => exact p.elim
    | _ => exact p.elim
  | _ => exact p.elim
theorem se_idx (C : Ctx X P N sc) (ha : PE X a (lift P (sub m) (ev Φ A))) (hb : PE X b (lift P 0 (ev Φ B))) (hp : PlainIx b) : PE X (.Subscript a b pos) (lift P m (ev Φ (.idx A B))) := by
  have o := ixD (X := X) C.u1
  rw [C.hK] at o
  refine PE.imp (pe_ix o ha hb hp) fun σ H Q ⟨e, R, p⟩ => ⟨e, R, ?_⟩
  simp only [ev] at p
  refine Post.weaken (bindZ (α := D) (m := sub m) gdPost R p) fun v H1 ⟨x, _, s1, R1, d1, p1⟩ => ⟨e, R1, ?_⟩
  refine Post.weaken (bindZ (α := D) (m := 0) gdPost R1 p1) fun w H2 ⟨y, _, s2, R2, d2, p2⟩ => ?_
  cases q : idxD x y with
  | none => rw [q] at p2; exact p2.elim
  | some d =>
    rw [q] at p2
    have d1' := d1.same s2
    unfold DenM at d1'
    rw [av1_sub] at d1'
    exact ⟨_, _, _, _, x, y, d, d1', d2, q, fun z hz => p2 z H2 (Same.refl _) (DenM.up hz)⟩
/-- a slice's bound -/
def evo (Φ : FT) (A : Exp) (e : Sl) : Res (Option Int) := if A.isNop then .ok none else (ev Φ A e).bind partD
def PostO (P : Pk) (σ : L2.St) (H : Hp) (Q : Option Int → Hp → Prop) : Res (Option Int) → Prop
  | .ok o => ∀ H', Same H H' → Q o H'
  | .ex c => ∀ H', Same H H' → P.W (.ref (P.ca c)) none σ H'
  | .stuck => False
def liftO (P : Pk) (f : Sl → Res (Option Int)) : L2.TO := fun σ H Q => ∃ e, Rel P e σ H ∧ PostO P σ H Q (f e)
theorem so_none : PO X none (liftO P (evo Φ .nop)) := ⟨fun pins s σ H Q I ⟨e, R, p⟩ => (po_none (X := X)).run pins s σ H Q I (p H (Same.refl _))⟩
theorem so_some (ha : PE X a (lift P 0 (ev Φ A))) (hA : A.isNop = false := by rfl) : PO X (some a) (liftO P (evo Φ A)) := ⟨fun pins s σ H Q I ⟨e, R, p⟩ => by
  refine (po_some ha).run pins s σ H Q I ⟨e, R, ?_⟩
  unfold evo at p
  rw [hA, if_neg (by decide)] at p
  cases q : ev Φ A e with
  | ok d =>
    rw [q] at p
    cases d with
    | int i => exact fun v H' s hd => ⟨i, d2_int hd, p H' s⟩
    | _ => exact p.elim
  | ex c => rw [q] at p; exact p
  | stuck => rw [q] at p; exact p⟩
theorem bindO {β : Type} {Z : Hp → Res β → Prop} {e : Sl} {σ : L2.St} {H : Hp} (gd : Gd P σ Z) (R : Rel P e σ H) {F : Option Int → Res β} {r : Res (Option Int)} (h : Z H (r.bind F)) :
    PostO P σ H (fun o H1 => Same H H1 ∧ Rel P e σ H1 ∧ Z H1 (F o)) r := by
  cases r with
  | ok d => exact fun H1 s => ⟨s, R.same s, gd.back s h⟩
  | ex c => exact gd.ex h
  | stuck => exact gd.no h
theorem PostO.weaken {σ : L2.St} {H : Hp} {Q Q' : Option Int → Hp → Prop} {r : Res (Option Int)} (h : PostO P σ H Q r) (w : ∀ k H', Q k H' → Q' k H') : PostO P σ H Q' r := by
  cases r with
  | ok d => exact fun H' s => w _ _ (h H' s)
  | ex c => exact h
  | stuck => exact h
theorem se_sl (C : Ctx X P N sc) {lo hi : Option Expr} {p2 : Pos} {L U : Exp} (ha : PE X a (lift P (sub m) (ev Φ A))) (hl : PO X lo (liftO P (evo Φ L))) (hh : PO X hi (liftO P (evo Φ U))) :
    PE X (.Subscript a (.Slice lo hi none p2) pos) (liftN P m (ev Φ (.sl A L U))) := by
  have o := slD (X := X)
  rw [C.hK] at o
  refine PE.imp (pe_slice o ha hl hh) fun σ H Q ⟨e, R, p⟩ => ⟨e, R, ?_⟩
  simp only [ev] at p
  refine Post.weaken (bindZ (α := D) (m := sub m) gdPostN R p) fun v H1 ⟨x, _, s1, R1, d1, p1⟩ => ⟨e, R1, ?_⟩
  refine PostO.weaken (bindO (r := evo Φ L e) gdPostN R1 p1) fun l H2 ⟨s2, R2, p2⟩ => ⟨e, R2, ?_⟩
  refine PostO.weaken (bindO (r := evo Φ U e) gdPostN R2 p2) fun u H3 ⟨s3, R3, p3⟩ => ?_
  cases q : sliceD x l u with
  | none => rw [q] at p3; exact p3.elim
  | some d =>
    rw [q] at p3
    have d1' := (d1.same s2).same s3
    unfold DenM at d1'
    rw [av1_sub] at d1'
    exact ⟨_, _, x, d, d1', q, fun z H' s hz => p3 z H' s hz⟩
/-! ### calls -/
theorem se_call (C : Ctx X P N sc) {x : Str} {F : Nat} {p : Pos} (fn : Fn1 X.prog X.w X.K X.mg X.base X.A P.ca Φ x F) (hg : X.env.kindOf x = some .globalImplicit) (ha : PA X (a :: es) (lifts P (cm m) (evs Φ ES))) (hdb : (x == ("__debug__" : Str)) = false := by decide)
    (he : starEach (a :: es) X.env = (false, eval a X.env) :: starEach es X.env := by rfl) (hpl : (backTo pos (starEach es X.env)).any (·.1) = false := by rfl) :
    PE X (.Call (.Name x p) (a :: es) [] pos) (lift P m (ev Φ (.call F ES))) := by
  obtain ⟨k, fA, fd, ps, ok, hr, hm, hk, hb⟩ := fn.ex
  refine PE.imp (pe_callS ok hr hg hm hk hb (fun σ => passAt C.tk σ) ha hdb he hpl) fun σ H Q ⟨e, R, p⟩ => ⟨e, R, ?_⟩
  simp only [ev] at p
  refine Posts.weaken (bindZs (m := cm m) (gdPost (m := m)) R p) fun vs H1 ⟨xs, hx, s1, R1, d1, p1⟩ => ?_
  refine ⟨av1 P e σ m, xs, fun a z => ?_, by rw [C.hK]; exact d1.dens, ?_⟩
  · match m with
    | 0 => exact R1.av_ne (.inl z)
    | _ + 1 => exact R1.av_ne z
  · cases q : Φ F xs with
    | ok d => rw [q] at p1; exact fun v H' s hd => p1 v H' s (DenM.up (by rw [C.hK] at hd; exact hd))
    | ex c => rw [q] at p1; exact p1
    | stuck => rw [q] at p1; exact p1.elim
theorem se_callv (C : Ctx X P N sc) {x : Str} {F : Nat} {p : Pos} (fn : Fn1 X.prog X.w X.K X.mg X.base X.A P.ca Φ x F) (hg : X.env.kindOf x = some .globalImplicit) (ha : PA X (a :: es) (lifts P 0 (evs Φ ES))) (hdb : (x == ("__debug__" : Str)) = false := by decide)
    (he : starEach (a :: es) X.env = (false, eval a X.env) :: starEach es X.env := by rfl) (hpl : (backTo pos (starEach es X.env)).any (·.1) = false := by rfl) :
    PE X (.Call (.Name x p) (a :: es) [] pos) (lift P m (ev Φ (.callv F ES))) := by
  refine PE.imp (se_call (m := 0) C fn hg ha hdb he hpl) fun σ H Q ⟨e, R, p⟩ => ⟨e, R, ?_⟩
  simp only [ev] at p ⊢
  cases q : evs Φ ES e with
  | ok xs =>
    simp only [q, Res.bind_ok] at p ⊢
    cases q2 : Φ F xs with
    | ok y =>
      simp only [q2, Res.bind_ok] at p ⊢
      cases q3 : noLst y with
      | true =>
        rw [q3, if_pos rfl] at p
        exact fun v H' s hd => p v H' s (hd.flat q3).mm
      | false => rw [q3, if_neg (by decide)] at p; exact p.elim
    | ex c => rw [q2] at p; exact p
    | stuck => rw [q2] at p; exact p.elim
  | ex c => rw [q] at p; exact p
  | stuck => rw [q] at p; exact p.elim
/-! ### built-ins -/
theorem tCB_of {σ : L2.St} {H : Hp} {Q : VK} {Bl : Blt} (h : liftN P m (ev Φ (.blt Bl ES)) σ H Q) : tCB (RCl P.K (bltD Bl)) (lifts P (sub m) (evs Φ ES)) σ H Q := by
  obtain ⟨e, R, p⟩ := h
  refine ⟨e, R, ?_⟩
  simp only [ev] at p
  refine Posts.weaken (bindZs (m := sub m) (gdPostN (m := m)) R p) fun vs H1 ⟨xs, hx, s1, R1, d1, p1⟩ => ?_
  cases q : bltD Bl xs with
  | none => rw [q] at p1; exact p1.elim
  | some d =>
    rw [q] at p1
    have da := d1.dena
    rw [av1_sub] at da
    exact ⟨_, xs, d, da, q, fun z H' s hz => p1 z H' s hz⟩
/-- a built-in function -/
theorem se_bltB (C : Ctx X P N sc) {x : Str} {p : Pos} {id : String} {Bl : Blt} (hc : CallR X (.builtin id) (RCl X.K (bltD Bl))) (hg : X.env.kindOf x = some .globalImplicit) (hm : X.mg x = none) (hv : bootBuiltins x = some (.builtin id))
    (ha : PA X (a :: es) (lifts P (sub m) (evs Φ ES))) (hn : x ≠ ("__name__" : Str) := by decide) (hdb : (x == ("__debug__" : Str)) = false := by decide)
    (he : starEach (a :: es) X.env = (false, eval a X.env) :: starEach es X.env := by rfl) (hpl : (backTo pos (starEach es X.env)).any (·.1) = false := by rfl) :
    PE X (.Call (.Name x p) (a :: es) [] pos) (liftN P m (ev Φ (.blt Bl ES))) := by
  rw [C.hK] at hc
  exact PE.imp (pe_callB hc hg hm hv ha hn hdb he hpl) fun σ H Q h => tCB_of h
/-- a built-in type -/
theorem se_bltT (C : Ctx X P N sc) {x : Str} {p : Pos} {T : String} {Bl : Blt} (hc : CallR X (.type T) (RCl X.K (bltD Bl))) (hg : X.env.kindOf x = some .globalImplicit) (hm : X.mg x = none) (hv : bootBuiltins x = some (.type T))
    (ha : PA X (a :: es) (lifts P (sub m) (evs Φ ES))) (hn : x ≠ ("__name__" : Str) := by decide) (hdb : (x == ("__debug__" : Str)) = false := by decide)
    (he : starEach (a :: es) X.env = (false, eval a X.env) :: starEach es X.env := by rfl) (hpl : (backTo pos (starEach es X.env)).any (·.1) = false := by rfl) :
    PE X (.Call (.Name x p) (a :: es) [] pos) (liftN P m (ev Φ (.blt Bl ES))) := by
  rw [C.hK] at hc
  exact PE.imp (pe_callTy hc hg hm hv ha hn hdb he hpl) fun σ H Q h => tCB_of h
/-- a result that holds no list is strong -/
theorem PE.flat {f : Sl → Res D} (hf : ∀ e d, f e = .ok d → noLst d = true) (h : PE X a (liftN P 0 f)) : PE X a (lift P m f) := Rf.PE.imp (Rf.PE.new h) fun σ H Q ⟨e, R, p⟩ => ⟨e, R, by
  cases q : f e with
  | ok d => rw [q] at p; exact fun v H' s hd => p v H' s (hd.flat (hf e d q)).mm
  | ex c => rw [q] at p; exact p
  | stuck => rw [q] at p; exact p⟩
def Blt.flat : Blt → Bool
  | .tuple => false
  | .list => false
  | .sorted => false
  | .dict => false
  | _ => true
theorem bltD_flat {Bl : Blt} (hB : Bl.flat = true) {ds : List D} {d : D} (h : bltD Bl ds = some d) : noLst d = true := by
  unfold bltD at h
  split at h <;> first
    | (exact absurd hB (by decide))
    | (simp only [Option.some.injEq] at h; subst h; rfl)
    | (split at h <;> first | (simp only [Option.some.injEq] at h; subst h; rfl) | (simp only [Option.map_eq_some_iff] at h; obtain ⟨_, _, rfl⟩ := h; rfl) | (exact absurd h (by simp)))
    | (simp only [Option.map_eq_some_iff] at h; obtain ⟨_, _, rfl⟩ := h; rfl)
    | (exact absurd h (by simp))
theorem se_flat {Bl : Blt} (hB : Bl.flat = true) (h : PE X a (liftN P 0 (ev Φ (.blt Bl ES)))) : PE X a (lift P m (ev Φ (.blt Bl ES))) := PE.flat (fun e d q => by
  simp only [ev] at q
  cases q1 : evs Φ ES e with
  | ok xs =>
    rw [q1] at q
    cases q2 : bltD Bl xs with
    | none => simp [q2] at q
    | some y =>
      simp only [Res.bind_ok, q2, Res.of_some, Res.ok.injEq] at q
      subst q
      exact bltD_flat hB q2
  | ex c => rw [q1] at q; simp at q
  | stuck => rw [q1] at q; simp at q) h
theorem binD_flat {op : BOp} {x y : D} (fx : noLst x = true) (fy : noLst y = true) {d : D} (h : binD op x y = some d) : noLst d = true := by
  unfold binD at h
  split at h <;> first
    | (simp only [Option.some.injEq] at h; subst h; rfl)
    | (simp [noLst] at fx; done)
    | (split at h <;> first
        | (simp only [Option.some.injEq] at h; subst h; rfl)
        | (simp only [Option.some.injEq] at h; subst h; simp only [noLst, noLsts, Bool.and_eq_true, List.cons_append] at fx fy ⊢; refine ⟨fx.1, ?_⟩; exact noLsts_append fx.2 fy)
        | (exact absurd h (by simp)))
    | (exact absurd h (by simp))
theorem se_isi (C : Ctx X P N sc) {x y : Str} {p py : Pos} {T : Nat} (hT : T < 5) (hx : x = "isinstance") (hg : X.env.kindOf x = some .globalImplicit) (hm : X.mg x = none)
    (hy : X.env.kindOf y = some .globalImplicit) (hmy : X.mg y = none) (hvy : bootBuiltins y = some (.type (tyN T))) (ha : PE X a (lift P 0 (ev Φ A)))
    (he : starEach [a, .Name y py] X.env = (false, eval a X.env) :: starEach [.Name y py] X.env := by rfl) (hpl : (backTo pos (starEach [.Name y py] X.env)).any (·.1) = false := by rfl)
    (he2 : starEach [.Name y py] X.env = (false, eval (.Name y py) X.env) :: starEach [] X.env := by rfl) (hn : y ≠ ("__name__" : Str) := by decide) (hdb : (y == ("__debug__" : Str)) = false := by decide) :
    PE X (.Call (.Name x p) [a, .Name y py] [] pos) (lift P m (ev Φ (.blt (.isi T) [A]))) := by
  subst hx
  have o := cl_isi (X := X) hT
  rw [C.hK] at o
  refine PE.imp (pe_callB o hg hm (by decide +kernel) (pa_cons ha (pa_cons (pe_bltn hy hmy hvy (v := .ty (tyN T)) rfl hn hdb) pa_nil he2) he) (by decide) (by decide) he hpl) fun σ H Q ⟨e, R, p⟩ => ⟨e, R, ?_⟩
  simp only [ev, evs] at p
  cases q : ev Φ A e with
  | ok d =>
    simp only [q, Res.bind_ok] at p
    refine fun v H1 s hd => ?_
    cases q2 : isiD T d with
    | none => simp only [bltD, q2, Option.map_none, Res.of_none] at p; exact p.elim
    | some b =>
      simp only [bltD, q2, Option.map_some, Res.of_some] at p
      exact ⟨v, _, _, d, b, rfl, hd, q2, p _ H1 s bl_m⟩
  | ex c => simp only [q, Res.bind_ex] at p; exact p
  | stuck => simp only [q, Res.bind_stuck] at p; exact p.elim

/-! ### methods -/
theorem se_m0 (C : Ctx X P N sc) (M : Mth) {o : Expr} {apos : Pos} (hM : M ≠ .get ∧ M ≠ .bits ∧ M ≠ .join) (ho : PE X o (lift P 0 (ev Φ A))) (hb : attributeBase o (mthN M) X.env (eval o X.env) = eval o X.env := by rfl) (hl : (apos.endLine == pos.line) = true := by rfl) :
    PE X (.Call (.Attribute o (mthN M) apos) [] [] pos) (lift P m (ev Φ (.mth M A []))) := by
  have w := pe_str0 (X := X) (pos := pos) M hM ho hb hl
  rw [C.hK] at w
  refine PE.imp w fun σ H Q ⟨e, R, p⟩ => ⟨e, R, ?_⟩
  simp only [ev, evs] at p
  refine Post.weaken (bindZ (α := D) (m := 0) gdPost R p) fun v H1 ⟨x, _, s1, R1, d1, p1⟩ => ?_
  simp only [Res.bind_ok] at p1
  cases x with
  | str z =>
    obtain rfl := d2_str d1
    have e1 : mthD M (.str z) [] = strM M z := by
      cases M with
      | get => exact absurd rfl hM.1
      | bits => exact absurd rfl hM.2.1
      | join => exact absurd rfl hM.2.2
      | _ => rfl
    rw [e1] at p1
    cases q : strM M z with
    | none => rw [q] at p1; exact p1.elim
    | some d => rw [q] at p1; exact ⟨⟨z, rfl⟩, z, rfl, d, rfl, q, fun w hw => p1 w H1 (Same.refl _) (DenM.up (hw.flat2 (strM_flat q)))⟩
  | _ =>
    cases M with
    | get => exact absurd rfl hM.1
    | bits => exact absurd rfl hM.2.1
    | join => exact absurd rfl hM.2.2
    | _ => exact p1.elim
theorem se_bits {o : Expr} {apos : Pos} (ho : PE X o (lift P 0 (ev Φ A))) (hb : attributeBase o "bit_length" X.env (eval o X.env) = eval o X.env := by rfl) (hl : (apos.endLine == pos.line) = true := by rfl) :
    PE X (.Call (.Attribute o "bit_length" apos) [] [] pos) (lift P m (ev Φ (.mth .bits A []))) := by
  refine PE.imp (pe_bits ho hb hl) fun σ H Q ⟨e, R, p⟩ => ⟨e, R, ?_⟩
  simp only [ev, evs] at p
  refine Post.weaken (bindZ (α := D) (m := 0) gdPost R p) fun v H1 ⟨x, _, s1, R1, d1, p1⟩ => ?_
  simp only [Res.bind_ok] at p1
  cases x with
  | int i => exact ⟨i, d2_int d1, p1 _ H1 (Same.refl _) int_m⟩
  | _ => exact p1.elim
theorem se_join (C : Ctx X P N sc) {o : Expr} {apos : Pos} {z : Str} (ho : PE X o (tC (.str z))) (ha : PE X a (lift P 0 (ev Φ B))) (he : starEach [a] X.env = [(false, eval a X.env)] := by rfl) (hb : attributeBase o "join" X.env (eval o X.env) = eval o X.env := by rfl) (hl : (apos.endLine == pos.line) = true := by rfl) :
    PE X (.Call (.Attribute o "join" apos) [a] [] pos) (lift P m (ev Φ (.mth .join (.con (.str z)) [B]))) := by
  refine PE.imp (pe_m1 PySem.F.slot_str_join PySem.F.type_str_join mt_join ho ha he hb hl) fun σ H Q ⟨e, R, p⟩ => ⟨⟨z, rfl⟩, e, R, ?_⟩
  simp only [ev, evs, Res.bind_ok] at p
  cases q : ev Φ B e with
  | ok y =>
    simp only [q, Res.bind_ok] at p
    intro w H2 s2 d2
    cases y with
    | list xs =>
      obtain ⟨b, ys, rfl, hr, dd⟩ := d2_lst d2
      simp only [mthD] at p
      cases q2 : allStrs xs with
      | none => simp only [q2, Option.bind_none, Res.of_none] at p; exact p.elim
      | some l =>
        simp only [q2, Option.bind_some] at p
        by_cases hz : (l.map (·.length)).sum + l.length * z.length ≤ line
        · rw [if_pos hz] at p
          rw [allStrs_of dd q2, ← C.hK] at hr
          exact ⟨z, b, l, rfl, rfl, .inl hr, Nat.le_trans hz (by decide), p _ H2 s2 (DenM.up (.str _))⟩
        · rw [if_neg hz] at p; exact p.elim
    | _ => exact p.elim
  | ex c => simp only [q, Res.bind_ex] at p; exact p
  | stuck => simp only [q, Res.bind_stuck] at p; exact p.elim
end
end
end Rf

set_option Elab.async false
set_option linter.all false
set_option maxRecDepth 100000
set_option maxHeartbeats 1000000
/-! Rf, part F: how the relation changes; targets, sources. -/
namespace Rf
noncomputable section
open PySem PySem.Spec PyProof.Rows L2N
open L2 hiding CX HdsOk MkP PMk St Takes XE mk_of passAt passes_call pmk_own ps_raise ps_try_as ps_try_many takes_of
section
variable {K : PySem.W.Frag} {av : Addr → Prop} {H : Hp} {a : Addr} {o : HO}
theorem upd_rd (hk : ∀ ys, H a ≠ some (.tup ys)) (hf : ∀ o u, H a ≠ some (.frz o u)) {b : Addr} {ys : List V} (h : Rd H b (.tup ys)) : Rd (upd H a o) b (.tup ys) := by
  have hb : b ≠ a := fun e => by
    subst e
    rcases h with h | ⟨o, h⟩
    · exact hk _ h
    · exact hf _ _ h
  rcases h with h | ⟨o, h⟩
  · exact .inl (by rw [upd_ne hb]; exact h)
  · exact .inr ⟨o, by rw [upd_ne hb]; exact h⟩
theorem upd_rd2 {b : Addr} {u : HO} (hb : b ≠ a) (h : Rd H b u) : Rd (upd H a o) b u := by
  rcases h with h | ⟨o, h⟩
  · exact .inl (by rw [upd_ne hb]; exact h)
  · exact .inr ⟨o, by rw [upd_ne hb]; exact h⟩
mutual
theorem Den.upd (hk : ∀ ys, H a ≠ some (.tup ys)) (hf : ∀ o u, H a ≠ some (.frz o u)) (ha : av a) : ∀ {v : V} {d : D}, Den K av H v d → Den K av (L2.upd H a o) v d
  | _, _, .none => .none
  | _, _, .bool b => .bool b
  | _, _, .int i => .int i
  | _, _, .str x => .str x
  | _, _, .list h n t => .list (n.elim (fun n => h.imp (upd_rd2 fun e => n (e ▸ ha)) id) .inr) n (Dens.upd hk hf ha t)
  | _, _, .tuple h t => .tuple (h.imp (upd_rd hk hf) id) (Dens.upd hk hf ha t)
  | _, _, .dict h n t => .dict (upd_rd2 (fun e => n (e ▸ ha)) h) n (DenKs.upd hk hf ha t)
theorem Dens.upd (hk : ∀ ys, H a ≠ some (.tup ys)) (hf : ∀ o u, H a ≠ some (.frz o u)) (ha : av a) : ∀ {v : List V} {d : List D}, Dens K av H v d → Dens K av (L2.upd H a o) v d
  | _, _, .nil => .nil
  | _, _, .cons x y => .cons (Den.upd hk hf ha x) (Dens.upd hk hf ha y)
theorem DenKs.upd (hk : ∀ ys, H a ≠ some (.tup ys)) (hf : ∀ o u, H a ≠ some (.frz o u)) (ha : av a) : ∀ {v : List (Key × V)} {d : List (D × D)}, DenKs K av H v d → DenKs K av (L2.upd H a o) v d
  | _, _, .nil => .nil
  | _, _, .cons x y => .cons (Den.upd hk hf ha x) (DenKs.upd hk hf ha y)
end
theorem SlotOk.imp {av' : Addr → Prop} (g : ∀ a, H a ≠ none → av' a → av a) : ∀ {s : Slot} {o : Option V}, SlotOk K av H s o → SlotOk K av' H s o
  | .un, _, _ => trivial
  | .d _, _, ⟨v, h, d⟩ => ⟨v, h, d.imp (fun _ _ z => z) g⟩
  | .ol _, _, ⟨a, ys, h, q, d⟩ => ⟨a, ys, h, q, d.imp (fun _ _ z => z) g⟩
  | .od _, _, ⟨a, ys, h, q, d⟩ => ⟨a, ys, h, q, d.imp (fun _ _ z => z) g⟩
  | .on _, _, ⟨a, ys, h, q, z, d⟩ => ⟨a, ys, h, q, z, d.mp fun _ _ z => z.imp (fun _ _ z => z) g⟩
  | .rn _, _, ⟨a, ys, h, q, z, n, d⟩ => ⟨a, ys, h, q, z, fun y => n (g _ (rd_ne q) y), d.mp fun _ _ z => z.imp (fun _ _ z => z) g⟩
  | .ob _, _, h => h
end

section
variable {P : Pk} {e : Sl} {σ : L2.St} {H H' : Hp} {i : Nat}
theorem own_set_d {a : Addr} {s : Slot} {o : Option V} (hs : isOwn s = false) (h : Owns (e.set i s) (σ.set i o) a) : Owns e σ a := by
  obtain ⟨j, t, h1, h2, h3⟩ := h
  by_cases hj : i = j
  · subst hj
    rw [List.getElem?_set_self'] at h1
    cases q : e[i]? with
    | none => rw [q] at h1; simp at h1
    | some x => rw [q] at h1; simp only [Option.map_eq_map, Option.map_some, Function.const_apply, Option.some.injEq] at h1; subst h1; rw [hs] at h2; cases h2
  · rw [List.getElem?_set_ne hj] at h1 h3
    exact ⟨j, t, h1, h2, h3⟩
/-- a slot that takes what is not own -/
theorem Rel.set (R : Rel P e σ H) {s : Slot} {o : Option V} (hs : isOwn s = false) (hd : SlotOk P.K (avo P e σ) H s o) : Rel P (e.set i s) (σ.set i o) H where
  len := by rw [List.length_set, List.length_set, R.len]
  slot := fun j t o' h1 h2 => by
    have mono : ∀ b, avo P (e.set i s) (σ.set i o) b → avo P e σ b := fun b z => z.imp id (own_set_d hs)
    by_cases hj : i = j
    · subst hj
      rw [List.getElem?_set_self'] at h1 h2
      cases q : e[i]? with
      | none => rw [q] at h1; simp at h1
      | some x =>
        cases q2 : σ[i]? with
        | none => rw [q2] at h2; simp at h2
        | some y =>
          rw [q] at h1
          rw [q2] at h2
          simp only [Option.map_eq_map, Option.map_some, Function.const_apply, Option.some.injEq] at h1 h2
          subst h1 h2
          exact hd.imp fun a _ => mono a
    · rw [List.getElem?_set_ne hj] at h1 h2
      exact (R.slot j t o' h1 h2).imp fun a _ => mono a
  inj := fun j k s1 s2 a h1 h2 h3 h4 h5 h6 => by
    have get : ∀ {j : Nat} {t : Slot} {p : Option V}, (e.set i s)[j]? = some t → isOwn t = true → (σ.set i o)[j]? = some p → e[j]? = some t ∧ σ[j]? = some p := fun {j t p} h1 h2 h3 => by
      by_cases hj : i = j
      · subst hj
        rw [List.getElem?_set_self'] at h1
        cases q : e[i]? with
        | none => rw [q] at h1; simp at h1
        | some x => rw [q] at h1; simp only [Option.map_eq_map, Option.map_some, Function.const_apply, Option.some.injEq] at h1; subst h1; rw [hs] at h2; cases h2
      · rw [List.getElem?_set_ne hj] at h1 h3
        exact ⟨h1, h3⟩
    obtain ⟨a1, a2⟩ := get h1 h2 h5
    obtain ⟨b1, b2⟩ := get h3 h4 h6
    exact R.inj j k s1 s2 a a1 h2 b1 h4 a2 b2
  fr := R.fr
  new := fun a h => R.new a (own_set_d hs h)
theorem Rel.setD (R : Rel P e σ H) {x : D} {v : V} (hd : Den P.K (avo P e σ) H v x) : Rel P (e.set i (.d x)) (σ.set i (some v)) H := R.set rfl ⟨v, rfl, hd⟩
theorem own_set_new {a p : Addr} {s : Slot} (h : Owns (e.set i s) (σ.set i (some (.ref p))) a) : Owns e σ a ∨ a = p := by
  obtain ⟨j, t, h1, h2, h3⟩ := h
  by_cases hj : i = j
  · subst hj
    rw [List.getElem?_set_self'] at h3
    cases q : σ[i]? with
    | none => rw [q] at h3; simp at h3
    | some x =>
      rw [q] at h3
      simp only [Option.map_eq_map, Option.map_some, Function.const_apply, Option.some.injEq, V.ref.injEq] at h3
      exact .inr h3.symm
  · rw [List.getElem?_set_ne hj] at h1 h3
    exact .inl ⟨j, t, h1, h2, h3⟩
/-- a slot that takes a new list or dict as its own -/
theorem Rel.setNew (R : Rel P e σ H) {s : Slot} {p : Addr} (hp : H p = none) (sm : Same H H') (hs : SlotOk P.K (fun a => avo P e σ a ∨ a = p) H' s (some (.ref p))) : Rel P (e.set i s) (σ.set i (some (.ref p))) H' where
  len := by rw [List.length_set, List.length_set, R.len]
  slot := fun j t o' h1 h2 => by
    have mono : ∀ b, avo P (e.set i s) (σ.set i (some (.ref p))) b → avo P e σ b ∨ b = p := fun b z => z.elim (fun z => .inl (.inl z)) fun z => (own_set_new z).imp .inr id
    by_cases hj : i = j
    · subst hj
      rw [List.getElem?_set_self'] at h1 h2
      cases q : e[i]? with
      | none => rw [q] at h1; simp at h1
      | some x =>
        cases q2 : σ[i]? with
        | none => rw [q2] at h2; simp at h2
        | some y =>
          rw [q] at h1
          rw [q2] at h2
          simp only [Option.map_eq_map, Option.map_some, Function.const_apply, Option.some.injEq] at h1 h2
          subst h1 h2
          exact hs.imp fun a _ => mono a
    · rw [List.getElem?_set_ne hj] at h1 h2
      refine ((R.slot j t o' h1 h2).imp fun a ha z => ?_).same sm
      exact (mono a z).elim id fun z => absurd (z ▸ hp) ha
  inj := fun j k s1 s2 a h1 h2 h3 h4 h5 h6 => by
    have get : ∀ {j : Nat} {t : Slot} {a : Addr}, (e.set i s)[j]? = some t → isOwn t = true → (σ.set i (some (.ref p)))[j]? = some (some (V.ref a)) → (i = j ∧ a = p) ∨ (i ≠ j ∧ e[j]? = some t ∧ σ[j]? = some (some (V.ref a)) ∧ a ≠ p) := fun {j t a} h1 h2 h3 => by
      by_cases hj : i = j
      · subst hj
        rw [List.getElem?_set_self'] at h3
        cases q : σ[i]? with
        | none => rw [q] at h3; simp at h3
        | some x => rw [q] at h3; simp only [Option.map_eq_map, Option.map_some, Function.const_apply, Option.some.injEq, V.ref.injEq] at h3; exact .inl ⟨rfl, h3.symm⟩
      · rw [List.getElem?_set_ne hj] at h1 h3
        exact .inr ⟨hj, h1, h3, fun z => R.own_ne ⟨j, t, h1, h2, h3⟩ (z ▸ hp)⟩
    rcases get h1 h2 h5 with ⟨r1, r2⟩ | ⟨r1, r2, r3, r4⟩ <;> rcases get h3 h4 h6 with ⟨q1, q2⟩ | ⟨q1, q2, q3, q4⟩
    · exact r1.symm.trans q1
    · exact absurd r2 q4
    · exact absurd q2 r4
    · exact R.inj j k s1 s2 a r2 h2 q2 h4 r3 q3
  fr := R.fr.trans sm
  new := fun a h => by
    rcases own_set_new h with h | rfl
    · exact R.new a h
    · cases q : P.H0 a with
      | none => rfl
      | some o => rw [R.fr _ _ q] at hp; cases hp
/-- an own list or dict is changed -/
theorem Rel.updOwn (R : Rel P e σ H) {s s' : Slot} {a : Addr} {o : HO} (h1 : e[i]? = some s) (hs : isOwn s = true) (hs' : isOwn s' = true) (h2 : σ[i]? = some (some (.ref a))) (hd : SlotOk P.K (avo P e σ) (upd H a o) s' (some (.ref a))) : Rel P (e.set i s') σ (upd H a o) := by
  have oa : Owns e σ a := ⟨i, s, h1, hs, h2⟩
  have hkk : (∃ ys, H a = some (.lst ys)) ∨ (∃ ks, H a = some (.dK ks)) ∨ ∃ es, H a = some (DN a es) := by
    have q := R.slot i s _ h1 h2
    cases s with
    | un => cases hs
    | ob _ => cases hs
    | d _ => cases hs
    | ol xs => obtain ⟨b, ys, e1, e2, _⟩ := q; cases e1; exact .inl ⟨_, e2⟩
    | od xs => obtain ⟨b, ys, e1, e2, _⟩ := q; cases e1; exact .inr (.inl ⟨_, e2⟩)
    | on xs => obtain ⟨b, ys, e1, e2, _⟩ := q; cases e1; exact .inr (.inr ⟨_, e2⟩)
    | rn _ => cases hs
  have hk : ∀ ys, H a ≠ some (.tup ys) := fun ys z => by rcases hkk with ⟨_, q⟩ | ⟨_, q⟩ | ⟨_, q⟩ <;> rw [q] at z <;> cases z
  have hf : ∀ o u, H a ≠ some (.frz o u) := fun o u z => by rcases hkk with ⟨_, q⟩ | ⟨_, q⟩ | ⟨_, q⟩ <;> rw [q] at z <;> cases z
  have own : ∀ b, Owns (e.set i s') σ b → Owns e σ b := fun b ⟨j, t, q1, q2, q3⟩ => by
    by_cases hj : i = j
    · subst hj; exact ⟨i, s, h1, hs, q3⟩
    · rw [List.getElem?_set_ne hj] at q1; exact ⟨j, t, q1, q2, q3⟩
  have mono : ∀ b, avo P (e.set i s') σ b → avo P e σ b := fun b z => z.imp id (own b)
  refine ⟨by rw [List.length_set]; exact R.len, fun j t o' q1 q2 => ?_, fun j k t1 t2 b q1 q2 q3 q4 q5 q6 => ?_, fun b x q => ?_, fun b z => R.new b (own b z)⟩
  · by_cases hj : i = j
    · subst hj
      rw [List.getElem?_set_self (by rw [← R.len]; exact (List.getElem?_eq_some_iff.mp h2).1)] at q1
      cases q1
      rw [h2] at q2
      cases q2
      exact hd.imp fun b _ => mono b
    · rw [List.getElem?_set_ne hj] at q1
      have q := R.slot j t o' q1 q2
      cases t with
      | un => trivial
      | ob _ => exact q
      | d x => obtain ⟨v, e1, dd⟩ := q; exact ⟨v, e1, (dd.upd hk hf (.inr oa)).imp (fun _ _ z => z) fun b _ => mono b⟩
      | ol x =>
        obtain ⟨b, ys, e1, e2, dd⟩ := q
        have nb : b ≠ a := fun z => hj (R.inj i j s _ a h1 hs q1 rfl h2 (by rw [q2, e1, z]))
        exact ⟨b, ys, e1, by rw [upd_ne nb]; exact e2, (dd.upd hk hf (.inr oa)).imp (fun _ _ z => z) fun b _ => mono b⟩
      | od x =>
        obtain ⟨b, ys, e1, e2, dd⟩ := q
        have nb : b ≠ a := fun z => hj (R.inj i j s _ a h1 hs q1 rfl h2 (by rw [q2, e1, z]))
        exact ⟨b, ys, e1, by rw [upd_ne nb]; exact e2, (dd.upd hk hf (.inr oa)).imp (fun _ _ z => z) fun b _ => mono b⟩
      | on x =>
        obtain ⟨b, ys, e1, e2, ez, dd⟩ := q
        have nb : b ≠ a := fun z => hj (R.inj i j s _ a h1 hs q1 rfl h2 (by rw [q2, e1, z]))
        exact ⟨b, ys, e1, by rw [upd_ne nb]; exact e2, ez, dd.mp fun _ _ z => (z.upd hk hf (.inr oa)).imp (fun _ _ z => z) fun b _ => mono b⟩
      | rn x =>
        obtain ⟨b, ys, e1, e2, ez, nv, dd⟩ := q
        have nb : b ≠ a := fun z => nv (z ▸ .inr oa)
        exact ⟨b, ys, e1, upd_rd2 nb e2, ez, fun z => nv (mono _ z), dd.mp fun _ _ z => (z.upd hk hf (.inr oa)).imp (fun _ _ z => z) fun b _ => mono b⟩
  · have get : ∀ {j : Nat} {t : Slot}, (e.set i s')[j]? = some t → isOwn t = true → ∃ t', e[j]? = some t' ∧ isOwn t' = true := fun {j t} q1 q2 => by
      by_cases hj : i = j
      · subst hj; exact ⟨s, h1, hs⟩
      · rw [List.getElem?_set_ne hj] at q1; exact ⟨t, q1, q2⟩
    obtain ⟨u1, a1, a2⟩ := get q1 q2
    obtain ⟨u2, b1, b2⟩ := get q3 q4
    exact R.inj j k u1 u2 b a1 a2 b1 b2 q5 q6
  · have nb : b ≠ a := fun z => by rw [z, R.new a oa] at q; cases q
    rw [upd_ne nb]
    exact R.fr _ _ q
/-- own no more -/
theorem Rel.give (R : Rel P e σ H) {xs : List D} (h1 : e[i]? = some (.ol xs)) : Rel P (e.set i (.d (.list xs))) σ H := by
  obtain ⟨o, h2, a, ys, rfl, ha, dd⟩ := R.at h1
  have own : ∀ b, Owns (e.set i (.d (.list xs))) σ b → Owns e σ b ∧ b ≠ a := fun b ⟨j, t, q1, q2, q3⟩ => by
    by_cases hj : i = j
    · subst hj
      rw [List.getElem?_set_self (List.getElem?_eq_some_iff.mp h1).1] at q1
      cases q1; cases q2
    · rw [List.getElem?_set_ne hj] at q1
      exact ⟨⟨j, t, q1, q2, q3⟩, fun z => hj (R.inj i j _ t a h1 rfl q1 q2 h2 (by rw [q3, z]))⟩
  have mono : ∀ b, avo P (e.set i (.d (.list xs))) σ b → avo P e σ b := fun b z => z.imp id fun z => (own b z).1
  refine ⟨by rw [List.length_set]; exact R.len, fun j t o' q1 q2 => ?_, fun j k t1 t2 b q1 q2 q3 q4 q5 q6 => ?_, R.fr, fun b z => R.new b (own b z).1⟩
  · by_cases hj : i = j
    · subst hj
      rw [List.getElem?_set_self (List.getElem?_eq_some_iff.mp h1).1] at q1
      cases q1
      rw [h2] at q2
      cases q2
      refine ⟨_, rfl, .list (.inl (.inl ha)) (.inl fun z => ?_) (dd.imp (fun _ _ z => z) fun b _ => mono b)⟩
      rcases z with z | z
      · exact R.own_av ⟨i, _, h1, rfl, h2⟩ z
      · exact (own _ z).2 rfl
    · rw [List.getElem?_set_ne hj] at q1
      exact (R.slot j t o' q1 q2).imp fun b _ => mono b
  · have get : ∀ {j : Nat} {t : Slot}, (e.set i (.d (.list xs)))[j]? = some t → isOwn t = true → e[j]? = some t := fun {j t} q1 q2 => by
      by_cases hj : i = j
      · subst hj
        rw [List.getElem?_set_self (List.getElem?_eq_some_iff.mp h1).1] at q1
        cases q1; cases q2
      · rw [List.getElem?_set_ne hj] at q1; exact q1
    exact R.inj j k t1 t2 b (get q1 q2) q2 (get q3 q4) q4 q5 q6
theorem wipeS_length : ∀ vs : List Nat, (wipeS e vs).length = e.length
  | [] => rfl
  | v :: vs => by unfold wipeS; rw [List.length_set, wipeS_length vs]
theorem Rel.wipe (R : Rel P e σ H) : ∀ vs : List Nat, Rel P (wipeS e vs) (L2.wipe σ vs) H
  | [] => R
  | v :: vs => (R.wipe vs).set rfl trivial
theorem wipeS_own : ∀ {vs : List Nat} {j : Nat} {t : Slot}, e[j]? = some t → isOwn t = true → freeOf e vs = true → (wipeS e vs)[j]? = some t ∧ (L2.wipe σ vs)[j]? = σ[j]?
  | [], _, _, h, _, _ => ⟨h, rfl⟩
  | v :: vs, j, t, h, ht, hf => by
    unfold freeOf at hf
    simp only [List.all_cons, Bool.and_eq_true] at hf
    obtain ⟨h1, h2⟩ := wipeS_own (vs := vs) h ht hf.2
    have hj : v ≠ j := fun z => by
      subst z
      rw [h] at hf
      simp only [ht] at hf
      exact absurd hf.1 (by decide)
    unfold wipeS L2.wipe
    rw [List.getElem?_set_ne hj, List.getElem?_set_ne hj]
    exact ⟨h1, h2⟩
theorem avo_wipe {vs : List Nat} (hf : freeOf e vs = true) {a : Addr} (h : avo P e σ a) : avo P (wipeS e vs) (L2.wipe σ vs) a := by
  refine h.imp id fun ⟨j, t, h1, h2, h3⟩ => ?_
  obtain ⟨q1, q2⟩ := wipeS_own (σ := σ) h1 h2 hf
  exact ⟨j, t, q1, h2, by rw [q2]; exact h3⟩

/-! ### a later base -/
@[reducible] def Pk.at (P : Pk) (h0 : Hp) (hav : ∀ a, P.Av a → h0 a ≠ none) : Pk := { P with H0 := h0, avok := hav }
open Classical in
/-- the heap without the own ones -/
def lessOwn (e : Sl) (σ : L2.St) (H : Hp) : Hp := fun a => if Owns e σ a then none else H a
theorem lessOwn_av (R : Rel P e σ H) : ∀ a, P.Av a → lessOwn e σ H a ≠ none := fun a h => by
  unfold lessOwn
  rw [if_neg fun z => R.own_av z h]
  exact R.av_ne (.inl h)
theorem Rel.into (R : Rel P e σ H) : Rel (P.at (lessOwn e σ H) (lessOwn_av R)) e σ H where
  len := R.len
  slot := R.slot
  inj := R.inj
  fr := fun b o h => by
    have h : lessOwn e σ H b = some o := h
    unfold lessOwn at h
    split at h
    · cases h
    · exact h
  new := fun a h => by
    show lessOwn e σ H a = none
    unfold lessOwn
    rw [if_pos h]
theorem base_same (R : Rel P e σ H) : Same P.H0 (lessOwn e σ H) := fun b o h => by
  unfold lessOwn
  rw [if_neg fun z => by rw [R.new b z] at h; cases h]
  exact R.fr _ _ h
theorem Rel.out (R : Rel P e σ H) {e' : Sl} {σ' : L2.St} (R' : Rel (P.at (lessOwn e σ H) (lessOwn_av R)) e' σ' H') : Rel P e' σ' H' where
  len := R'.len
  slot := R'.slot
  inj := R'.inj
  fr := (base_same R).trans R'.fr
  new := fun a h => by
    have q := R'.new a h
    cases q2 : P.H0 a with
    | none => rfl
    | some o => have := base_same R _ _ q2; rw [show lessOwn e σ H a = none from q] at this; cases this
end

/-! ### statements' ends -/
def PostS (P : Pk) (D : Ends) : Out → Prop
  | .nx e' => ∀ σ' H', Rel P e' σ' H' → D.nx σ' H'
  | .ret x => ∀ v H', Same P.H0 H' → Den P.K P.Av H' v x → D.rt v H'
  | .bk e' => ∀ σ' H', Rel P e' σ' H' → D.bk σ' H'
  | .ct e' => ∀ σ' H', Rel P e' σ' H' → D.ct σ' H'
  | .ex c e' => ∀ σ' H', Rel P e' σ' H' → P.W (.ref (P.ca c)) none σ' H'
  | .stuck => False
def liftS (P : Pk) (f : Sl → Out) : L2.TS := fun D σ H => ∃ e, Rel P e σ H ∧ PostS P D (f e)
theorem PostS.into {P : Pk} {e : Sl} {σ : L2.St} {H : Hp} (R : Rel P e σ H) {D : Ends} : ∀ {o : Out}, PostS P D o → PostS (P.at (lessOwn e σ H) (lessOwn_av R)) D o
  | .nx _, h => fun σ' H' r => h σ' H' (R.out r)
  | .ret _, h => fun v H' s d => h v H' ((base_same R).trans s) d
  | .bk _, h => fun σ' H' r => h σ' H' (R.out r)
  | .ct _, h => fun σ' H' r => h σ' H' (R.out r)
  | .ex _ _, h => fun σ' H' r => h σ' H' (R.out r)
  | .stuck, h => h
theorem gdS {P : Pk} {e : Sl} {σ : L2.St} {D : Ends} : Gd P σ (fun (H : Hp) (r : Res Out) => Rel P e σ H ∧ PostS P D (match r with | .ok o => o | .ex c => .ex c e | .stuck => .stuck)) where
  back := fun s h => ⟨h.1.same s, h.2⟩
  ex := fun h H' s => h.2 σ H' (h.1.same s)
  no := fun h => h.2
theorem PSs.ofAll {ι : Type} {X : Cx} {st : List Stmt} {t : ι → L2.TS} (h : ∀ i, PSs X st (t i)) : PSs X st (fun D σ H => ∃ i, t i D σ H) := ⟨fun pins s σ H D I ⟨i, q⟩ => (h i).run pins s σ H D I q⟩
theorem PE.ofAll {ι : Sort _} {X : Cx} {ex : Expr} {t : ι → L2.TE} (h : ∀ i, PE X ex (t i)) : PE X ex (fun σ H Q => ∃ i, t i σ H Q) := ⟨fun pins s σ H Q I ⟨i, q⟩ => (h i).run pins s σ H Q I q⟩
theorem PTs.ofAll {ι : Sort _} {X : Cx} {ex : List Expr} {t : ι → L2.TT} (h : ∀ i, PTs X ex (t i)) : PTs X ex (fun σ H Q => ∃ i, t i σ H Q) := ⟨fun pins s σ H Q I ⟨i, q⟩ => (h i).run pins s σ H Q I q⟩

/-! ### targets -/
/-- the same but for the places vs -/
def Agr (σ σ1 : L2.St) (vs : List Nat) : Prop := σ1.length = σ.length ∧ ∀ j, j ∉ vs → σ1[j]? = σ[j]?
theorem wipe_in {σ : L2.St} {j : Nat} : ∀ {vs : List Nat}, j ∈ vs → (L2.wipe σ vs)[j]? = if j < σ.length then some none else none
  | v :: vs, h => by
    unfold L2.wipe
    by_cases e : v = j
    · subst e
      rw [List.getElem?_set_self']
      by_cases hl : v < σ.length
      · rw [if_pos hl, List.getElem?_eq_getElem (by rw [L2.wipe_length]; exact hl)]
        rfl
      · rw [if_neg hl, List.getElem?_eq_none (by rw [L2.wipe_length]; omega)]
        rfl
    · rw [List.getElem?_set_ne e]
      exact wipe_in ((List.mem_cons.mp h).resolve_left fun z => e z.symm)
theorem Agr.wipe {σ σ1 : L2.St} {vs : List Nat} (h : Agr σ σ1 vs) : L2.wipe σ1 vs = L2.wipe σ vs := by
  apply List.ext_getElem?
  intro j
  by_cases hj : j ∈ vs
  · rw [wipe_in hj, wipe_in hj, h.1]
  · rw [wipe_out hj, wipe_out hj]
    exact h.2 j hj
mutual
theorem bindT_out : ∀ {t : Tgt} {d : D} {e e1 : Sl}, bindT t d e = some e1 → ∀ j, (j ∉ t.ix → e1[j]? = e[j]?) ∧ (j ∈ t.ix → ∃ x, e1[j]? = some (.d x))
  | .nm i, d, e, e1, h, j => by
    simp only [bindT] at h
    split at h
    · rename_i hl
      simp only [Option.some.injEq] at h
      subst h
      refine ⟨fun hj => ?_, fun hj => ?_⟩
      · rw [List.getElem?_set_ne]
        intro z; exact hj (by rw [z]; exact List.mem_cons_self ..)
      · have : j = i := by simpa [Tgt.ix] using hj
        subst this
        exact ⟨d, List.getElem?_set_self hl⟩
    · cases h
  | .tp ts, d, e, e1, h, j => by
    cases d with
    | tuple xs => exact bindTs_out (by simpa only [bindT] using h) j
    | _ => simp [bindT] at h
theorem bindTs_out : ∀ {ts : List Tgt} {ds : List D} {e e1 : Sl}, bindTs ts ds e = some e1 → ∀ j, (j ∉ Tgt.ixs ts → e1[j]? = e[j]?) ∧ (j ∈ Tgt.ixs ts → ∃ x, e1[j]? = some (.d x))
  | [], [], e, e1, h, j => by
    simp only [bindTs, Option.some.injEq] at h
    subst h
    exact ⟨fun _ => rfl, fun z => by simp [Tgt.ixs] at z⟩
  | t :: ts, x :: xs, e, e1, h, j => by
    simp only [bindTs] at h
    cases q : bindT t x e with
    | none => rw [q] at h; simp at h
    | some e' =>
      rw [q] at h
      have h : bindTs ts xs e' = some e1 := h
      have a := bindT_out q j
      have b := bindTs_out h j
      simp only [Tgt.ixs, List.mem_append, not_or]
      refine ⟨fun z => (b.1 z.2).trans (a.1 z.1), fun z => ?_⟩
      by_cases hj : j ∈ Tgt.ixs ts
      · exact b.2 hj
      · rw [b.1 hj]
        exact a.2 (z.resolve_right hj)
  | [], _ :: _, _, _, h, _ => by simp [bindTs] at h
  | _ :: _, [], _, _, h, _ => by simp [bindTs] at h
end
theorem avo_out {P : Pk} {e e1 : Sl} {σ σ1 : L2.St} {vs : List Nat} (g : Agr σ σ1 vs) (h1 : ∀ j, j ∉ vs → e1[j]? = e[j]?) (h2 : ∀ j, j ∈ vs → ∃ x, e1[j]? = some (.d x)) {a : Addr} (h : avo P e1 σ1 a) : avo P e σ a := by
  refine h.imp id fun ⟨j, t, q1, q2, q3⟩ => ?_
  by_cases hj : j ∈ vs
  · obtain ⟨x, z⟩ := h2 j hj
    rw [q1] at z
    cases z
    cases q2
  · exact ⟨j, t, by rw [← h1 j hj]; exact q1, q2, by rw [← g.2 j hj]; exact q3⟩
def liftG (K : PySem.W.Frag) (t : Tgt) : L2.TG := fun v σ H Q => ∃ (P : Pk) (e : Sl) (d : D) (e1 : Sl), P.K = K ∧ Rel P e σ H ∧ Den P.K (avo P e σ) H v d ∧ bindT t d e = some e1 ∧ ∀ σ1, Rel P e1 σ1 H → Agr σ σ1 t.ix → Q σ1 H
def liftGs (K : PySem.W.Frag) (ts : List Tgt) : L2.TGs := fun vs σ H Q => ∃ (P : Pk) (e : Sl) (ds : List D) (e1 : Sl), P.K = K ∧ Rel P e σ H ∧ Dens P.K (avo P e σ) H vs ds ∧ bindTs ts ds e = some e1 ∧ ∀ σ1, Rel P e1 σ1 H → Agr σ σ1 (Tgt.ixs ts) → Q σ1 H
theorem PG.imp {X : Cx} {ex : Expr} {t t' : L2.TG} (h : PG X ex t) (i : ∀ v σ H Q, t' v σ H Q → t v σ H Q) : PG X ex t' := ⟨fun pins s σ H v u Q I r q => h.run pins s σ H v u Q I r (i _ _ _ _ q)⟩
theorem PGs.imp {X : Cx} {ex : List Expr} {t t' : L2.TGs} (h : PGs X ex t) (i : ∀ v σ H Q, t' v σ H Q → t v σ H Q) : PGs X ex t' := ⟨fun pins s σ H v u Q I r q => h.run pins s σ H v u Q I r (i _ _ _ _ q)⟩
section
variable {X : Cx} {K : PySem.W.Frag} {N : List Str} {pos : Pos}
theorem sg_nm (hN : X.N = N) (nd : N.Nodup) {i : Nat} {x : Str} (hi : N[i]? = some x) (hx : Loc X.env.scope x) (hf : X.fn x = true ∨ X.env.scope.names.lookup x = some .local) : PG X (.Name x pos) (liftG K (.nm i)) := by
  refine PG.imp (pg_name (i := i) (by rw [hN]; exact nd) (by rw [hN]; exact hi) hx hf) fun v σ H Q ⟨P, e, d, e1, hK, R, hd, hb, q⟩ => ?_
  simp only [bindT] at hb
  split at hb
  · simp only [Option.some.injEq] at hb
    subst hb
    exact q _ (R.setD hd) ⟨List.length_set .., fun j hj => List.getElem?_set_ne fun z => hj (by rw [z]; exact List.mem_cons_self ..)⟩
  · cases hb
theorem sgs_nil : PGs X [] (liftGs K []) := PGs.imp pgs_nil fun vs σ H Q ⟨P, e, d, e1, hK, R, hd, hb, q⟩ => by
  cases d with
  | nil =>
    cases hd
    simp only [bindTs, Option.some.injEq] at hb
    subst hb
    exact ⟨rfl, q _ R ⟨rfl, fun _ _ => rfl⟩⟩
  | cons x d => simp [bindTs] at hb
theorem sgs_cons {a : Expr} {es : List Expr} {t : Tgt} {ts : List Tgt} (h1 : PG X a (liftG K t)) (h2 : PGs X es (liftGs K ts)) (hs : (assignEach (a :: es) X.env).map (·.2) = assign a X.env :: (assignEach es X.env).map (·.2) := by rfl) : PGs X (a :: es) (liftGs K (t :: ts)) := by
  refine PGs.imp (pgs_cons h1 h2 hs) fun vs σ H Q ⟨P, e, d, e1, hK, R, hd, hb, q⟩ => ?_
  cases hd with
  | nil => simp [bindTs] at hb
  | @cons v x vs xs hd hr =>
    simp only [bindTs] at hb
    cases q1 : bindT t x e with
    | none => rw [q1] at hb; simp at hb
    | some e' =>
      rw [q1] at hb
      have hb : bindTs ts xs e' = some e1 := hb
      refine ⟨_, _, rfl, P, e, x, e', hK, R, hd, q1, fun σ1 R1 g1 => ?_⟩
      have sm := bindT_out q1
      refine ⟨P, e', xs, e1, hK, R1, hr.imp (fun _ _ z => z) (fun b _ z => avo_out g1 (fun j => (sm j).1) (fun j => (sm j).2) z), hb, fun σ2 R2 g2 => q σ2 R2 ⟨g2.1.trans g1.1, fun j hj => ?_⟩⟩
      simp only [Tgt.ixs, List.mem_append, not_or] at hj
      exact (g2.2 j hj.2).trans (g1.2 j hj.1)
theorem bindTs_len : ∀ {ts : List Tgt} {ds : List D} {e e1 : Sl}, bindTs ts ds e = some e1 → ds.length = ts.length
  | [], [], _, _, _ => rfl
  | t :: ts, x :: xs, e, e1, h => by
    simp only [bindTs] at h
    cases q : bindT t x e with
    | none => rw [q] at h; simp at h
    | some e' => rw [q] at h; exact congrArg (· + 1) (bindTs_len (show bindTs ts xs e' = some e1 from h))
  | [], _ :: _, _, _, h => by simp [bindTs] at h
  | _ :: _, [], _, _, h => by simp [bindTs] at h
theorem sg_tp (hc : X.calm = true) (hK : X.K = K) {es : List Expr} {k : Nat} {ts : List Tgt} (h : PGs X es (liftGs K ts)) (hn : (assignEach es X.env).length = ts.length := by rfl) (hst : (assignEach es X.env).findIdx? (·.1) = none := by rfl) : PG X (.Tuple es k pos) (liftG K (.tp ts)) := by
  refine PG.imp (pg_tup hc h hn hst) fun v σ H Q ⟨P, e, d, e1, hK', R, hd, hb, q⟩ => ?_
  cases d with
  | tuple xs =>
    simp only [bindT] at hb
    cases hd with
    | tuple hq ht =>
      refine ⟨_, _, rfl, by rw [hK, ← hK']; exact hq, by rw [ht.length]; exact bindTs_len hb, P, e, xs, e1, hK', R, ht, hb, q⟩
  | _ => simp [bindT] at hb
end
end
end Rf

set_option Elab.async false
set_option linter.all false
set_option maxRecDepth 100000
set_option maxHeartbeats 1000000
/-! Rf, part G: what is walked; comprehensions. -/
namespace Rf
noncomputable section
open PySem PySem.Spec PyProof.Rows L2N
open L2 hiding CX HdsOk MkP PMk St Takes XE mk_of passAt passes_call pmk_own ps_raise ps_try_as ps_try_many takes_of
section
variable {K : PySem.W.Frag} {av ow : Addr → Prop} {H H' : Hp}
mutual
theorem Den.keep (hw : ∀ b, ow b → av b) (ht : ∀ b, ow b → (∀ ys, H b ≠ some (.tup ys)) ∧ ∀ o u, H b ≠ some (.frz o u)) (kp : ∀ b o, H b = some o → ¬ ow b → H' b = some o) : ∀ {v : V} {d : D}, Den K av H v d → Den K (fun a => av a ∨ H a = none) H' v d
  | _, _, .none => .none
  | _, _, .bool b => .bool b
  | _, _, .int i => .int i
  | _, _, .str x => .str x
  | _, _, .list h n t => .list (n.elim (fun n => h.imp (fun h => h.imp (fun q => kp _ _ q fun z => n (hw _ z)) fun ⟨o, q⟩ => ⟨o, kp _ _ q fun z => n (hw _ z)⟩) id) .inr) (n.elim (fun n => h.elim (fun h => .inl fun z => z.elim n (rd_ne h)) .inr) .inr) (Dens.keep hw ht kp t)
  | _, _, .tuple h t => .tuple (h.imp (fun h => h.imp (fun q => kp _ _ q fun z => (ht _ z).1 _ q) fun ⟨o, q⟩ => ⟨o, kp _ _ q fun z => (ht _ z).2 _ _ q⟩) id) (Dens.keep hw ht kp t)
  | _, _, .dict h n t => .dict (h.imp (fun q => kp _ _ q fun z => n (hw _ z)) fun ⟨o, q⟩ => ⟨o, kp _ _ q fun z => n (hw _ z)⟩) (fun z => z.elim n (rd_ne h)) (DenKs.keep hw ht kp t)
theorem Dens.keep (hw : ∀ b, ow b → av b) (ht : ∀ b, ow b → (∀ ys, H b ≠ some (.tup ys)) ∧ ∀ o u, H b ≠ some (.frz o u)) (kp : ∀ b o, H b = some o → ¬ ow b → H' b = some o) : ∀ {v : List V} {d : List D}, Dens K av H v d → Dens K (fun a => av a ∨ H a = none) H' v d
  | _, _, .nil => .nil
  | _, _, .cons x y => .cons (Den.keep hw ht kp x) (Dens.keep hw ht kp y)
theorem DenKs.keep (hw : ∀ b, ow b → av b) (ht : ∀ b, ow b → (∀ ys, H b ≠ some (.tup ys)) ∧ ∀ o u, H b ≠ some (.frz o u)) (kp : ∀ b o, H b = some o → ¬ ow b → H' b = some o) : ∀ {v : List (Key × V)} {d : List (D × D)}, DenKs K av H v d → DenKs K (fun a => av a ∨ H a = none) H' v d
  | _, _, .nil => .nil
  | _, _, .cons x y => .cons (Den.keep hw ht kp x) (DenKs.keep hw ht kp y)
end
/-- an iterator that walks its -/
def ItOk (K : PySem.W.Frag) (av ow : Addr → Prop) (H : Hp) (J : It) (its : List D) : Prop :=
  ∀ i H', (∀ b o, H b = some o → ¬ ow b → H' b = some o) → (i < its.length → J.go i H') ∧ (its.length ≤ i → J.stop i H') ∧ ∀ x H'', J.yld i H' x H'' → ∀ d, its[i]? = some d → Same H' H'' ∧ Den K (fun a => av a ∨ H a = none) H'' x d
end
theorem Rel.kinds {P : Pk} {e : Sl} {σ : L2.St} {H : Hp} (R : Rel P e σ H) : ∀ b, Owns e σ b → (∀ ys, H b ≠ some (.tup ys)) ∧ ∀ o u, H b ≠ some (.frz o u) := fun b ⟨i, s, h1, hs, h2⟩ => by
  have q := R.slot i s _ h1 h2
  cases s with
  | un => cases hs
  | ob _ => cases hs
  | d _ => cases hs
  | ol xs => obtain ⟨c, ys, e1, e2, _⟩ := q; cases e1; exact ⟨fun _ z => by (rw [e2] at z; cases z), fun _ _ z => by (rw [e2] at z; cases z)⟩
  | od xs => obtain ⟨c, ys, e1, e2, _⟩ := q; cases e1; exact ⟨fun _ z => by (rw [e2] at z; cases z), fun _ _ z => by (rw [e2] at z; cases z)⟩
  | on xs => obtain ⟨c, ys, e1, e2, _⟩ := q; cases e1; exact ⟨fun _ z => by (rw [e2] at z; cases z), fun _ _ z => by (rw [e2] at z; cases z)⟩
  | rn _ => cases hs
def PostI (P : Pk) (e : Sl) (σ : L2.St) (H : Hp) (Q : It → Hp → Prop) : Res (List D) → Prop
  | .ok its => ∀ J H', Same H H' → ItOk P.K (avo P e σ) (Owns e σ) H' J its → Q J H'
  | .ex c => ∀ H', Same H H' → P.W (.ref (P.ca c)) none σ H'
  | .stuck => False
def liftI (P : Pk) (f : Sl → Res (List D)) : L2.TI := fun σ H Q => ∃ e, Rel P e σ H ∧ PostI P e σ H Q (f e)
def srcs (Φ : FT) (k : SrcK) (ES : List Exp) (e : Sl) : Res (List D) := (evs Φ ES e).bind fun xs => Res.of (srcD k xs)
theorem PI.imp {X : Cx} {tg ex : Expr} {t t' : L2.TI} (h : PI X tg ex t) (i : ∀ σ H Q, t' σ H Q → t σ H Q) : PI X tg ex t' := ⟨fun pins s σ H Q I q => h.run pins s σ H Q I (i _ _ _ q)⟩
theorem gdI {P : Pk} {e : Sl} {σ : L2.St} {Q : It → Hp → Prop} : Gd P σ (fun H r => PostI P e σ H Q r) := ⟨fun {H H' r} s h => match r, h with
  | .ok _, h => fun v H2 s2 d => h v H2 (s.trans s2) d
  | .ex _, h => fun H2 s2 => h H2 (s.trans s2)
  | .stuck, h => h, fun h => h, fun h => h⟩
section
variable {X : Cx} {P : Pk} {N : List Str} {sc : Scope} {m : Nat} {Φ : FT} {A B E : Exp} {ES : List Exp} {a b c tg : Expr} {es : List Expr} {pos : Pos}
theorem rd_keep {ow : Addr → Prop} {H H' : Hp} {l : Addr} {u : HO} (kp : ∀ b o, H b = some o → ¬ ow b → H' b = some o) (n : ¬ ow l) (h : Rd H l u) : Rd H' l u := h.imp (fun q => kp _ _ q n) fun ⟨o, q⟩ => ⟨o, kp _ _ q n⟩
theorem sqt_keep {K : PySem.W.Frag} {ow : Addr → Prop} {H H' : Hp} {l : Addr} {us : List V} (ht : ∀ b, ow b → (∀ ys, H b ≠ some (.tup ys)) ∧ ∀ o u, H b ≠ some (.frz o u)) (kp : ∀ b o, H b = some o → ¬ ow b → H' b = some o) (h : SqT K H l us) : SqT K H' l us :=
  h.imp (fun h => h.imp (fun q => kp _ _ q fun z => (ht _ z).1 _ q) fun ⟨o, q⟩ => ⟨o, kp _ _ q fun z => (ht _ z).2 _ _ q⟩) id
theorem it_list {K : PySem.W.Frag} {av ow : Addr → Prop} {H : Hp} {l : Addr} {us : List V} {ds : List D} (hw : ∀ b, ow b → av b) (ht : ∀ b, ow b → (∀ ys, H b ≠ some (.tup ys)) ∧ ∀ o u, H b ≠ some (.frz o u)) (n : ¬ av l ∨ KLst K l us) (h : SqL K H l us) (hd : Dens K av H us ds) : ItOk K av ow H (Itl K l) ds := fun i H' kp => by
  have h' : SqL K H' l us := n.elim (fun n => h.imp (rd_keep kp fun z => n (hw _ z)) id) .inr
  have hl := hd.length
  refine ⟨fun hi => ⟨us, us[i], h', List.getElem?_eq_getElem (by omega)⟩, fun hi => ⟨us, h', by omega⟩, fun x H'' y d hdd => ?_⟩
  obtain ⟨rfl, y⟩ := y
  refine ⟨Same.refl _, ?_⟩
  obtain ⟨d', e1, e2⟩ := hd.get (y us h')
  rw [hdd] at e1
  cases e1
  exact e2.keep hw ht kp
theorem it_tup {K : PySem.W.Frag} {av ow : Addr → Prop} {H : Hp} {l : Addr} {us : List V} {ds : List D} (hw : ∀ b, ow b → av b) (ht : ∀ b, ow b → (∀ ys, H b ≠ some (.tup ys)) ∧ ∀ o u, H b ≠ some (.frz o u)) (h : SqT K H l us) (hd : Dens K av H us ds) : ItOk K av ow H (Itt K l) ds := fun i H' kp => by
  have h' := sqt_keep ht kp h
  have hl := hd.length
  refine ⟨fun hi => ⟨us, us[i], h', List.getElem?_eq_getElem (by omega)⟩, fun hi => ⟨us, h', by omega⟩, fun x H'' y d hdd => ?_⟩
  obtain ⟨rfl, y⟩ := y
  refine ⟨Same.refl _, ?_⟩
  obtain ⟨d', e1, e2⟩ := hd.get (y us h')
  rw [hdd] at e1
  cases e1
  exact e2.keep hw ht kp
theorem ow_av {e : Sl} {σ : L2.St} : ∀ b, Owns e σ b → avo P e σ b := fun _ z => .inr z
theorem si_lst (C : Ctx X P N sc) (ha : PE X a (lift P 2 (ev Φ A))) : PI X tg a (liftI P (srcs Φ .lst [A])) := by
  refine PI.imp (pi_list ha) fun σ H Q ⟨e, R, p⟩ => ⟨e, R, ?_⟩
  unfold srcs at p
  cases q : ev Φ A e with
  | ok d =>
    simp only [evs, q, Res.bind_ok] at p
    intro v H1 s hd
    cases d with
    | list ds =>
      obtain ⟨l, us, rfl, h1, h2, h3⟩ := hd
      exact ⟨l, rfl, ⟨us, by rw [C.hK]; exact h1⟩, by rw [C.hK]; exact p _ H1 s (it_list ow_av (R.same s).kinds h2 h1 h3)⟩
    | _ => exact p.elim
  | ex c => simp only [evs, q, Res.bind_ex] at p; exact p
  | stuck => simp only [evs, q, Res.bind_stuck] at p; exact p.elim
theorem si_tup (C : Ctx X P N sc) (ha : PE X a (lift P 2 (ev Φ A))) : PI X tg a (liftI P (srcs Φ .tup [A])) := by
  refine PI.imp (pi_tup ha) fun σ H Q ⟨e, R, p⟩ => ⟨e, R, ?_⟩
  unfold srcs at p
  cases q : ev Φ A e with
  | ok d =>
    simp only [evs, q, Res.bind_ok] at p
    intro v H1 s hd
    cases d with
    | tuple ds =>
      obtain ⟨l, us, rfl, h1, h3⟩ := d2_tup hd
      exact ⟨l, rfl, ⟨us, by rw [C.hK]; exact h1⟩, by rw [C.hK]; exact p _ H1 s (it_tup ow_av (R.same s).kinds h1 h3)⟩
    | _ => exact p.elim
  | ex c => simp only [evs, q, Res.bind_ex] at p; exact p
  | stuck => simp only [evs, q, Res.bind_stuck] at p; exact p.elim
theorem si_str (ha : PE X a (lift P 0 (ev Φ A))) : PI X tg a (liftI P (srcs Φ .str [A])) := by
  refine PI.imp (pi_str ha) fun σ H Q ⟨e, R, p⟩ => ⟨e, R, ?_⟩
  unfold srcs at p
  cases q : ev Φ A e with
  | ok d =>
    simp only [evs, q, Res.bind_ok] at p
    intro v H1 s hd
    cases d with
    | str z =>
      obtain rfl := d2_str hd
      refine ⟨z, rfl, p _ H1 s fun i H' kp => ?_⟩
      have hl : (z.cps.toList.map fun c => PyData.str (S [c])).length = z.cps.size := by simp
      refine ⟨fun hi => by rw [hl] at hi; exact hi, fun hi => by rw [hl] at hi; exact hi, fun x H'' y d hdd => ?_⟩
      obtain ⟨rfl, c, hc, rfl⟩ := y
      refine ⟨Same.refl _, ?_⟩
      rw [List.getElem?_map, Array.getElem?_toList, hc] at hdd
      simp only [Option.map_some, Option.some.injEq] at hdd
      subst hdd
      exact .str _
    | _ => exact p.elim
  | ex c => simp only [evs, q, Res.bind_ex] at p; exact p
  | stuck => simp only [evs, q, Res.bind_stuck] at p; exact p.elim
theorem it_rng {K : PySem.W.Frag} {av ow : Addr → Prop} {H : Hp} (lo : Int) (n : Nat) : ItOk K av ow H (Itr lo n) (rngD lo n) := fun i H' kp => by
  have hl : (rngD lo n).length = n := by simp [rngD]
  refine ⟨fun hi => by rw [hl] at hi; exact hi, fun hi => by rw [hl] at hi; exact hi, fun x H'' y d hdd => ?_⟩
  obtain ⟨rfl, rfl⟩ := y
  refine ⟨Same.refl _, ?_⟩
  unfold rngD at hdd
  rw [List.getElem?_map] at hdd
  cases q : (List.range n)[i]? with
  | none => rw [q] at hdd; cases hdd
  | some j =>
    rw [q] at hdd
    have : j = i := by
      have := List.getElem?_eq_some_iff.mp q
      obtain ⟨h, e⟩ := this
      rw [List.getElem_range] at e
      exact e.symm
    subst this
    simp only [Option.map_some, Option.some.injEq] at hdd
    subst hdd
    exact .int _
theorem si_rng1 {p pos : Pos} (hg : X.env.kindOf "range" = some .globalImplicit) (hm : X.mg "range" = none) (ha : PA X [a] (lifts P 0 (evs Φ [A]))) (hs : starEach [a] X.env = [(false, eval a X.env)] := by rfl) :
    PI X tg (.Call (.Name "range" p) [a] [] pos) (liftI P (srcs Φ .rng [A])) := by
  refine PI.imp (pi_range1 hg hm ha hs) fun σ H Q ⟨e, R, p⟩ => ⟨e, R, ?_⟩
  refine Posts.weaken (bindZs (m := 0) (gdI) R p) fun vs H1 ⟨xs, hx, s1, R1, d1, p1⟩ => ?_
  have hlen := evs_len hx
  match xs, hlen with
  | [x], _ =>
    match vs, d1 with
    | [v], d1 =>
      cases x with
      | int n =>
        simp only [srcD] at p1
        split at p1
        · rename_i hr
          obtain rfl := d2_int d1.1
          exact ⟨n, rfl, hr.1, hr.2, p1 _ H1 (Same.refl _) (it_rng 0 n.toNat)⟩
        · exact p1.elim
      | _ => exact p1.elim
theorem si_rng2 {p pos : Pos} (hg : X.env.kindOf "range" = some .globalImplicit) (hm : X.mg "range" = none) (ha : PA X [a, b] (lifts P 0 (evs Φ [A, B]))) (hs : starEach [a, b] X.env = [(false, eval a X.env), (false, eval b X.env)] := by rfl) (hs2 : starEach [b] X.env = [(false, eval b X.env)] := by rfl) :
    PI X tg (.Call (.Name "range" p) [a, b] [] pos) (liftI P (srcs Φ .rng [A, B])) := by
  refine PI.imp (pi_range2 hg hm ha hs hs2) fun σ H Q ⟨e, R, p⟩ => ⟨e, R, ?_⟩
  refine Posts.weaken (bindZs (m := 0) (gdI) R p) fun vs H1 ⟨xs, hx, s1, R1, d1, p1⟩ => ?_
  have hlen := evs_len hx
  match xs, hlen with
  | [x, y], _ =>
    match vs, d1 with
    | [v, w], d1 =>
      cases x with
      | int i =>
        cases y with
        | int j =>
          simp only [srcD] at p1
          split at p1
          · rename_i hr
            obtain rfl := d2_int d1.1
            obtain rfl := d2_int d1.2.1
            exact ⟨i, j, rfl, hr, p1 _ H1 (Same.refl _) (it_rng i (j - i).toNat)⟩
          · exact p1.elim
        | _ => exact p1.elim
      | _ => exact p1.elim

theorem zip_len : ∀ {xs ys : List D}, (zipD xs ys).length = min xs.length ys.length
  | [], _ => by simp [zipD]
  | _ :: _, [] => by simp [zipD]
  | x :: xs, y :: ys => by simp only [zipD, List.length_cons, zip_len]; omega
theorem zip_get : ∀ {xs ys : List D} {i : Nat} {d : D}, (zipD xs ys)[i]? = some d → ∃ x y, xs[i]? = some x ∧ ys[i]? = some y ∧ d = .tuple [x, y]
  | [], _, _, _, h => by simp [zipD] at h
  | _ :: _, [], _, _, h => by simp [zipD] at h
  | x :: xs, y :: ys, 0, d, h => by simp only [zipD, List.getElem?_cons_zero, Option.some.injEq] at h; exact ⟨x, y, rfl, rfl, h.symm⟩
  | x :: xs, y :: ys, i + 1, d, h => by simp only [zipD, List.getElem?_cons_succ] at h ⊢; exact zip_get h
theorem si_zip (C : Ctx X P N sc) {p tpos : Pos} {elts : List Expr} {kk : Nat} (hg : X.env.kindOf "zip" = some .globalImplicit) (hm : X.mg "zip" = none) (ha : PA X [a, b] (lifts P 2 (evs Φ [A, B]))) (hs : starEach [a, b] X.env = (false, eval a X.env) :: starEach [b] X.env := by rfl) (hpl : (backTo pos (starEach [b] X.env)).any (·.1) = false := by rfl) :
    PI X (.Tuple elts kk tpos) (.Call (.Name "zip" p) [a, b] [] pos) (liftI P (srcs Φ .zip [A, B])) := by
  refine PI.imp (RZ.pi_zipA hg hm ha hs hpl) fun σ H Q ⟨e, R, p⟩ => ⟨e, R, ?_⟩
  refine Posts.weaken (bindZs (m := 2) (gdI) R p) fun vs H1 ⟨xs, hx, s1, R1, d1, p1⟩ => ?_
  have hlen := evs_len hx
  match xs, hlen with
  | [x, y], _ =>
    match vs, d1 with
    | [v, w], d1 =>
      have fin : ∀ {T : Addr} {H' : Hp} {x1 y1 : V} {x2 y2 : D}, H' T = none → Den P.K (fun a => avo P e σ a ∨ H1 a = none) H' x1 x2 → Den P.K (fun a => avo P e σ a ∨ H1 a = none) H' y1 y2 → Same H' (upd H' T (.tup [x1, y1])) ∧ Den P.K (fun a => avo P e σ a ∨ H1 a = none) (upd H' T (.tup [x1, y1])) (.ref T) (.tuple [x2, y2]) := fun {T H' x1 y1 x2 y2} nT hx hy =>
        ⟨same_upd nT, .tuple (.inl (.inl upd_same)) (.cons (hx.same (same_upd nT)) (.cons (hy.same (same_upd nT)) .nil))⟩
      cases x with
      | list xs =>
        cases y with
        | list ys =>
          obtain ⟨l, us, rfl, h1, h2, h3⟩ := d1.1
          obtain ⟨k, ws, rfl, g1, g2, g3⟩ := d1.2.1
          suffices io : ItOk P.K (avo P e σ) (Owns e σ) H1 (Itz P.K l k) (zipD xs ys) from ⟨l, k, us, ws, rfl, .inl ⟨by rw [C.hK]; exact h1, by rw [C.hK]; exact g1, by rw [C.hK]; exact p1 _ H1 (Same.refl _) io⟩⟩
          intro i H' kp
          have h' : SqL P.K H' l us := h2.elim (fun n => h1.imp (rd_keep kp fun z => n (.inr z)) id) .inr
          have g' : SqL P.K H' k ws := g2.elim (fun n => g1.imp (rd_keep kp fun z => n (.inr z)) id) .inr
          have hl := h3.length
          have gl := g3.length
          refine ⟨fun hi => ?_, fun hi => ?_, fun x H'' y d hdd => ?_⟩
          · rw [zip_len] at hi
            exact ⟨us, ws, us[i], ws[i], h', g', List.getElem?_eq_getElem (by omega), List.getElem?_eq_getElem (by omega)⟩
          · rw [zip_len] at hi
            exact ⟨us, ws, h', g', by omega⟩
          · obtain ⟨T, x1, y1, rfl, nT, rfl, f1, f2⟩ := y
            obtain ⟨x2, y2, e1, e2, rfl⟩ := zip_get hdd
            obtain ⟨x2', r1, r2⟩ := h3.get (f1 us h')
            obtain ⟨y2', q1, q2⟩ := g3.get (f2 ws g')
            rw [e1] at r1; cases r1
            rw [e2] at q1; cases q1
            exact fin nT (r2.keep ow_av R1.kinds kp) (q2.keep ow_av R1.kinds kp)
        | _ => exact p1.elim
      | tuple xs =>
        cases y with
        | tuple ys =>
          obtain ⟨l, us, rfl, h1, h3⟩ := d2_tup d1.1
          obtain ⟨k, ws, rfl, g1, g3⟩ := d2_tup d1.2.1
          suffices io : ItOk P.K (avo P e σ) (Owns e σ) H1 (RZ.ItzT P.K l k) (zipD xs ys) from ⟨l, k, us, ws, rfl, .inr ⟨by rw [C.hK]; exact h1, by rw [C.hK]; exact g1, by rw [C.hK]; exact p1 _ H1 (Same.refl _) io⟩⟩
          intro i H' kp
          have h' := sqt_keep R1.kinds kp h1
          have g' := sqt_keep R1.kinds kp g1
          have hl := h3.length
          have gl := g3.length
          refine ⟨fun hi => ?_, fun hi => ?_, fun x H'' y d hdd => ?_⟩
          · rw [zip_len] at hi
            exact ⟨us, ws, us[i], ws[i], h', g', List.getElem?_eq_getElem (by omega), List.getElem?_eq_getElem (by omega)⟩
          · rw [zip_len] at hi
            exact ⟨us, ws, h', g', by omega⟩
          · obtain ⟨T, x1, y1, rfl, nT, rfl, f1, f2⟩ := y
            obtain ⟨x2, y2, e1, e2, rfl⟩ := zip_get hdd
            obtain ⟨x2', r1, r2⟩ := h3.get (f1 us h')
            obtain ⟨y2', q1, q2⟩ := g3.get (f2 ws g')
            rw [e1] at r1; cases r1
            rw [e2] at q1; cases q1
            exact fin nT (r2.keep ow_av R1.kinds kp) (q2.keep ow_av R1.kinds kp)
        | _ => exact p1.elim
      | _ => exact p1.elim

/-! ### comprehensions -/
/-- the pack of a block: Av more, no exception -/
@[reducible] def Pk.blk (P : Pk) (av : Addr → Prop) (h0 : Hp) (hav : ∀ a, av a → h0 a ≠ none) : Pk := { K := P.K, H0 := h0, Av := av, avok := hav, W := fun _ _ _ _ => False, ca := P.ca }
def liftTs (P : Pk) (f : Sl → Res Bool) : L2.TT := fun σ H Q => ∃ e, Rel P e σ H ∧ match f e with
  | .ok b => ∀ H', Same H H' → Q b H'
  | .ex c => ∀ H', Same H H' → P.W (.ref (P.ca c)) none σ H'
  | .stuck => False
theorem sf_nil : PTs X [] (liftTs P (evt Φ [])) := ⟨fun pins s σ H Q I ⟨e, R, p⟩ => by
  simp only [evt] at p
  exact (pts_nil (X := X)).run pins s σ H Q I (p H (Same.refl _))⟩
theorem sf_one (ha : PT X a (liftT P (ev Φ A))) : PTs X [a] (liftTs P (evt Φ [A])) := ⟨fun pins s σ H Q I ⟨e, R, p⟩ => (pts_one ha).run pins s σ H Q I ⟨e, R, by
  simp only [evt] at p
  cases q : ev Φ A e with
  | ok d =>
    simp only [q, Res.bind_ok] at p
    cases d with
    | bool k => cases k <;> exact p
    | _ => exact p.elim
  | ex c => simp only [q, Res.bind_ex] at p; exact p
  | stuck => simp only [q, Res.bind_stuck] at p⟩⟩
theorem compL_len {f : Sl → Res D} {g : Sl → Res Bool} {t : Tgt} {e : Sl} : ∀ {its zs : List D}, compL f g t its e = .ok zs → zs.length ≤ its.length
  | [], zs, h => by simp only [compL, Res.ok.injEq] at h; subst h; exact Nat.le_refl _
  | x :: its, zs, h => by
    simp only [compL] at h
    cases q1 : bindT t x e with
    | none => simp [q1] at h
    | some e1 =>
      simp only [q1] at h
      cases q2 : g e1 with
      | ok b =>
        simp only [q2, Res.bind_ok] at h
        cases b with
        | true =>
          rw [if_pos rfl] at h
          cases q3 : f e1 with
          | ok y =>
            simp only [q3, Res.bind_ok] at h
            cases q4 : compL f g t its e with
            | ok ys => simp only [q4, Res.bind_ok, Res.ok.injEq] at h; subst h; have := compL_len q4; simp only [List.length_cons]; omega
            | ex c => simp [q4] at h
            | stuck => simp [q4] at h
          | ex c => simp [q3] at h
          | stuck => simp [q3] at h
        | false => rw [if_neg (by decide)] at h; have := compL_len h; simp only [List.length_cons]; omega
      | ex c => simp [q2] at h
      | stuck => simp [q2] at h
/-- one turn -/
theorem compL_cons {f : Sl → Res D} {g : Sl → Res Bool} {t : Tgt} {e : Sl} {x : D} {its zs : List D} (h : compL f g t (x :: its) e = .ok zs) :
    ∃ e1 b, bindT t x e = some e1 ∧ g e1 = .ok b ∧ ((b = true ∧ ∃ y ys, f e1 = .ok y ∧ compL f g t its e = .ok ys ∧ zs = y :: ys) ∨ (b = false ∧ compL f g t its e = .ok zs)) := by
  simp only [compL] at h
  cases q1 : bindT t x e with
  | none => simp [q1] at h
  | some e1 =>
    simp only [q1] at h
    cases q2 : g e1 with
    | ok b =>
      simp only [q2, Res.bind_ok] at h
      cases b with
      | true =>
        rw [if_pos rfl] at h
        cases q3 : f e1 with
        | ok y =>
          simp only [q3, Res.bind_ok] at h
          cases q4 : compL f g t its e with
          | ok ys => simp only [q4, Res.bind_ok, Res.ok.injEq] at h; exact ⟨e1, true, rfl, q2, .inl ⟨rfl, y, ys, q3, rfl, h.symm⟩⟩
          | ex c => simp [q4] at h
          | stuck => simp [q4] at h
        | ex c => simp [q3] at h
        | stuck => simp [q3] at h
      | false => rw [if_neg (by decide)] at h; exact ⟨e1, false, rfl, q2, .inr ⟨rfl, h⟩⟩
    | ex c => simp [q2] at h
    | stuck => simp [q2] at h
theorem Dens.mono {K : PySem.W.Frag} {a1 b1 : Addr → Prop} {H : Hp} {vs : List V} {ds : List D} (h : Dens K a1 H vs ds) (f : ∀ a, H a ≠ none → b1 a → a1 a) : Dens K b1 H vs ds := h.imp (fun _ _ z => z) f
theorem tLc_of {own : List Nat} {t : Tgt} {k : SrcK} {IFS : List Exp} (hown : own = t.ix) {σ : L2.St} {H : Hp} {Q : VK} (h : liftN P 2 (ev Φ (.comp E t k ES IFS)) σ H Q) :
    tLc (liftI P (srcs Φ k ES)) (liftG P.K t) (fun σ H Q => ∃ i : ((av : Addr → Prop) ×' (h0 : Hp) ×' (∀ a, av a → h0 a ≠ none)), liftTs (P.blk i.1 i.2.1 i.2.2) (evt Φ IFS) σ H Q) (fun σ H Q => ∃ i : ((av : Addr → Prop) ×' (h0 : Hp) ×' (∀ a, av a → h0 a ≠ none)), lift (P.blk i.1 i.2.1 i.2.2) 2 (ev Φ E) σ H Q) own σ H Q := by
  subst hown
  obtain ⟨e, R, p⟩ := h
  refine ⟨e, R, ?_⟩
  simp only [ev] at p
  have p : PostN P e σ 2 H Q ((srcs Φ k ES e).bind fun its => if (freeOf e t.ix && decide (its.length ≤ line)) = true then (noEx (compL (fun e' => ev Φ E e') (fun e' => evt Φ IFS e') t its (wipeS e t.ix))).bind fun ys => .ok (.list ys) else .stuck) := by
    unfold srcs
    cases q : evs Φ ES e with
    | ok xs => simpa only [q, Res.bind_ok] using p
    | ex c => simpa only [q, Res.bind_ex] using p
    | stuck => simpa only [q, Res.bind_stuck] using p
  cases q : srcs Φ k ES e with
  | ex c => rw [q] at p; exact p
  | stuck => rw [q] at p; exact p
  | ok its =>
    rw [q] at p
    simp only [Res.bind_ok] at p
    intro J H1 s1 io D nD
    have R1 := R.same s1
    cases hf : (freeOf e t.ix && decide (its.length ≤ line)) with
    | false => rw [hf, if_neg (by decide)] at p; exact p.elim
    | true =>
      rw [hf, if_pos rfl] at p
      simp only [Bool.and_eq_true, decide_eq_true_eq] at hf
      cases hz : compL (fun e' => ev Φ E e') (fun e' => evt Φ IFS e') t its (wipeS e t.ix) with
      | ex c => rw [hz] at p; exact p.elim
      | stuck => rw [hz] at p; exact p.elim
      | ok zs =>
        rw [hz] at p
        simp only [noEx, Res.bind_ok] at p
        have zl : zs.length ≤ its.length := compL_len hz
        -- the block's relation, at any later heap
        let avD : Addr → Prop := fun a => P.Av a ∨ a = D
        refine ⟨fun i m H2 => m = its.length - i ∧ i ≤ its.length ∧ Same H1 H2 ∧ ∃ acc ys zs', H2 D = some (.lst acc) ∧ Dens P.K (fun a => avo P e σ a ∨ a = D) H2 acc ys ∧ compL (fun e' => ev Φ E e') (fun e' => evt Φ IFS e') t (its.drop i) (wipeS e t.ix) = .ok zs' ∧ zs = ys ++ zs',
          ⟨its.length, by omega, Nat.zero_le _, same_upd nD, [], [], zs, upd_same, .nil, by simpa using hz, rfl⟩, ?_⟩
        rintro i m H2 ⟨rfl, hi, s2, acc, ys, zs', hD, dn, hc, hzs⟩
        obtain ⟨hgo, hstop, hy⟩ := io i H2 fun b o q _ => s2 _ _ q
        by_cases hlt : i < its.length
        · refine .inr ⟨hgo hlt, fun H' => Same H1 H' ∧ ∃ acc ys zs', H' D = some (.lst acc) ∧ Dens P.K (fun a => avo P e σ a ∨ a = D) H' acc ys ∧ compL (fun e' => ev Φ E e') (fun e' => evt Φ IFS e') t (its.drop (i + 1)) (wipeS e t.ix) = .ok zs' ∧ zs = ys ++ zs', fun H' hN => ⟨its.length - (i + 1), by omega, rfl, by omega, hN⟩, fun x H3 y => ?_⟩
          rw [List.drop_eq_getElem_cons hlt] at hc
          obtain ⟨e1, b, hb, hg, hrest⟩ := compL_cons hc
          obtain ⟨s3, dx⟩ := hy x H3 y _ (List.getElem?_eq_getElem hlt)
          -- the relation in the block
          have noD : ¬ Owns (wipeS e t.ix) (L2.wipe σ t.ix) D := fun z => (R1.wipe t.ix).own_ne z nD
          have s13 : Same H1 H3 := s2.trans s3
          have hD3 : H3 D = some (.lst acc) := s3 _ _ hD
          have hav : ∀ a, avD a → lessOwn (wipeS e t.ix) (L2.wipe σ t.ix) H3 a ≠ none := fun a z => by
            unfold lessOwn
            rcases z with z | rfl
            · rw [if_neg fun w => (R1.wipe t.ix).own_av w z]
              exact ((R1.wipe t.ix).same s13).av_ne (.inl z)
            · rw [if_neg noD, hD3]
              exact fun z => nomatch z
          have RB : Rel (P.blk avD (lessOwn (wipeS e t.ix) (L2.wipe σ t.ix) H3) hav) (wipeS e t.ix) (L2.wipe σ t.ix) H3 := by
            have R3 := (R1.wipe t.ix)
            refine ⟨R3.len, fun j s o q1 q2 => ((R3.slot j s o q1 q2).imp fun a ha z => ?_).same s13, R3.inj, fun b o q => ?_, fun a z => ?_⟩
            · rcases z with (z | rfl) | z
              · exact .inl z
              · exact absurd nD ha
              · exact .inr z
            · have q : lessOwn (wipeS e t.ix) (L2.wipe σ t.ix) H3 b = some o := q
              unfold lessOwn at q
              split at q
              · cases q
              · exact q
            · show lessOwn (wipeS e t.ix) (L2.wipe σ t.ix) H3 a = none
              unfold lessOwn
              rw [if_pos z]
          have ownsub : ∀ b, Owns (wipeS e t.ix) (L2.wipe σ t.ix) b → Owns e σ b := fun b ⟨j, s, q1, q2, q3⟩ => by
            have : ∀ {vs : List Nat} {j : Nat} {s : Slot}, (wipeS e vs)[j]? = some s → isOwn s = true → e[j]? = some s := by
              intro vs
              induction vs with
              | nil => intro j s h _; exact h
              | cons v vs ih =>
                intro j s h hs
                unfold wipeS at h
                by_cases hv : v = j
                · subst hv
                  rw [List.getElem?_set_self'] at h
                  cases q : (wipeS e vs)[v]? with
                  | none => rw [q] at h; simp at h
                  | some w => rw [q] at h; simp only [Option.map_eq_map, Option.map_some, Function.const_apply, Option.some.injEq] at h; subst h; cases hs
                · rw [List.getElem?_set_ne hv] at h
                  exact ih h hs
            exact ⟨j, s, this q1 q2, q2, (wipe_some q3).1⟩
          refine ⟨P.blk avD _ hav, wipeS e t.ix, _, e1, rfl, RB, dx.imp (fun _ _ z => z) (fun b _ z => ?_), hb, fun σ2 R2 g2 => ⟨?_, ⟨avD, _, hav⟩, e1, R2, ?_⟩⟩
          · rcases z with (z | rfl) | z
            · exact .inl (.inl z)
            · exact .inr nD
            · exact .inl (.inr (ownsub b z))
          · rw [g2.wipe]
            apply List.ext_getElem?
            intro j
            by_cases hj : j ∈ t.ix
            · rw [wipe_in hj, wipe_in hj, wipe_length]
            · rw [wipe_out hj]
          · rw [hg]
            intro H4 s4
            rcases hrest with ⟨rfl, y', ys', hfy, hc', rfl⟩ | ⟨rfl, hc'⟩
            · rw [if_pos rfl]
              refine ⟨⟨avD, _, hav⟩, e1, R2.same s4, ?_⟩
              rw [hfy]
              intro v H5 s5 hv
              have s15 : Same H1 H5 := (s13.trans s4).trans s5
              have hD5 : H5 D = some (.lst acc) := s5 _ _ (s4 _ _ hD3)
              have sm := bindT_out hb
              have d5 : Den P.K (fun a => avo P e σ a ∨ a = D) H5 v y' := hv.d2.imp (fun _ _ z => z) fun a _ z => by
                rcases z with (z | z) | rfl
                · exact .inl (.inl z)
                · obtain ⟨j, s, q1, q2, q3⟩ := z
                  obtain ⟨r1, r2⟩ := wipeS_own (σ := σ) q1 q2 hf.1
                  have hj : j ∉ t.ix := fun hj => by
                    obtain ⟨x0, r⟩ := (sm j).2 hj
                    have := hf.1
                    unfold freeOf at this
                    rw [List.all_eq_true] at this
                    have := this j hj
                    rw [q1] at this
                    simp only [q2] at this
                    exact absurd this (by decide)
                  exact .inr ⟨j, s, by rw [(sm j).1 hj]; exact r1, q2, by rw [g2.2 j hj, r2]; exact q3⟩
                · exact .inl (.inr rfl)
              have hk5 : (∀ ys, H5 D ≠ some (.tup ys)) ∧ ∀ o u, H5 D ≠ some (.frz o u) := ⟨fun _ z => by (rw [hD5] at z; cases z), fun _ _ z => by (rw [hD5] at z; cases z)⟩
              have acl : acc.length < sizeLine := by
                have h1 := dn.length
                have h2 : zs.length = ys.length + (ys'.length + 1) := by rw [hzs, List.length_append, List.length_cons]
                exact line_lt (by have := hf.2; omega)
              refine ⟨acc, hD5, acl, fun b o q => ?_, acc ++ [v], ys ++ [y'], ys', upd_same, ?_, hc', by rw [hzs, List.append_assoc]; rfl⟩
              · rw [upd_ne (fun z => by rw [z, nD] at q; cases q)]
                exact s15 _ _ q
              · have d6 := ((dn.same s3).same s4).same s5
                exact (d6.append (.cons d5 .nil)).upd hk5.1 hk5.2 (.inr rfl)
            · rw [if_neg (by decide)]
              exact ⟨s13.trans s4, acc, ys, zs', s4 _ _ hD3, (dn.same s3).same s4, hc', hzs⟩
        · refine .inl ⟨hstop (by omega), ?_⟩
          rw [List.drop_of_length_le (by omega)] at hc
          simp only [compL, Res.ok.injEq] at hc
          subst hc
          rw [List.append_nil] at hzs
          subst hzs
          have nD0 : H D = none := by
            cases q : H D with
            | none => rfl
            | some o => rw [s1 _ _ q] at nD; cases nD
          exact p _ H2 (fun b o q => s2 _ _ (s1 _ _ q)) ⟨D, acc, rfl, nD0, hD, dn⟩
end
end
end Rf

set_option Elab.async false
set_option linter.all false
set_option maxRecDepth 100000
set_option maxHeartbeats 1000000
/-! Rf, part H: statements. -/
namespace Rf
noncomputable section
open PySem PySem.Spec PyProof.Rows L2N
open L2 hiding CX HdsOk MkP PMk St Takes XE mk_of passAt passes_call pmk_own ps_raise ps_try_as ps_try_many takes_of
/-- nothing wished, nothing raised -/
theorem takes0N {X : Cx} : Takes X (fun _ _ _ _ => False) := fun _ _ x => by
  obtain ⟨_, _, _, _, _, _, _, _, _, _, _, _, _, _, _, _, no⟩ := x
  exact no.elim
section
variable {X : Cx} {P : Pk} {N : List Str} {sc : Scope} {m : Nat} {Φ : FT} {F : Nat} {A B E : Exp} {ES IFS : List Exp} {a b c tg : Expr} {es : List Expr} {pos : Pos}
theorem Ctx.at (C : Ctx X P N sc) (h0 : Hp) (hav : ∀ a, P.Av a → h0 a ≠ none) : Ctx X (P.at h0 hav) N sc := ⟨C.hK, C.hN, C.nd, C.hs, C.calm, C.un, C.tk, C.po⟩
theorem Ctx.blk (C : Ctx X P N sc) {scope : Scope} (av : Addr → Prop) (h0 : Hp) (hav : ∀ a, av a → h0 a ≠ none) (s : Shared) (H : Hp) (Cl : Addr) (cl : List (Str × Addr)) (fp : List Addr) : Ctx (X.blk s H scope (compEnvC scope cl Cl X.env) fp) (P.blk av h0 hav) N (relS scope sc) :=
  ⟨C.hK, C.hN, C.nd, by rw [← C.hs]; rfl, C.calm, C.un, takes0N, PassesOwn.never⟩
/-- a comprehension -/
theorem se_comp (C : Ctx X P N sc) {scope : Scope} {own : List (Str × Nat)} {t : Tgt} {k : SrcK} {ifs : List Expr} {iter : Expr} (hi : PI X tg iter (liftI P (srcs Φ k ES))) (hown : own.map (·.2) = t.ix) (ok : BlkOk N sc scope own)
    (hg : ∀ (s : Shared) (H : Hp) (Cl : Addr) (cl : List (Str × Addr)) (fp : List Addr) (Pb : Pk), Ctx (X.blk s H scope (compEnvC scope cl Cl X.env) fp) Pb N (relS scope sc) → PG (X.blk s H scope (compEnvC scope cl Cl X.env) fp) tg (liftG P.K t))
    (ht : ∀ (s : Shared) (H : Hp) (Cl : Addr) (cl : List (Str × Addr)) (fp : List Addr) (av : Addr → Prop) (h0 : Hp) (hav : ∀ a, av a → h0 a ≠ none), Ctx (X.blk s H scope (compEnvC scope cl Cl X.env) fp) (P.blk av h0 hav) N (relS scope sc) → PTs (X.blk s H scope (compEnvC scope cl Cl X.env) fp) ifs (liftTs (P.blk av h0 hav) (evt Φ IFS)))
    (he : ∀ (s : Shared) (H : Hp) (Cl : Addr) (cl : List (Str × Addr)) (fp : List Addr) (av : Addr → Prop) (h0 : Hp) (hav : ∀ a, av a → h0 a ≠ none), Ctx (X.blk s H scope (compEnvC scope cl Cl X.env) fp) (P.blk av h0 hav) N (relS scope sc) → PE (X.blk s H scope (compEnvC scope cl Cl X.env) fp) a (lift (P.blk av h0 hav) 2 (ev Φ E)))
    (hs : ∀ x, foldedSetIterable iter X.env x = pure x := by intro _; rfl) :
    PE X (.ListComp a [⟨tg, iter, ifs, 0⟩] scope pos) (liftN P 2 (ev Φ (.comp E t k ES IFS))) :=
  PE.imp (pe_lc C.calm (by rw [C.hN]; exact C.nd) hi (by rw [C.hN, C.hs]; exact ok)
    (fun s H Cl cl fp => hg s H Cl cl fp (P.blk (fun _ => False) (fun _ => none) (fun _ z => z.elim)) (C.blk _ _ _ s H Cl cl fp))
    (fun s H Cl cl fp => PTs.ofAll fun i => ht s H Cl cl fp i.1 i.2.1 i.2.2 (C.blk _ _ _ s H Cl cl fp))
    (fun s H Cl cl fp => PE.ofAll fun i => he s H Cl cl fp i.1 i.2.1 i.2.2 (C.blk _ _ _ s H Cl cl fp)) hs) fun σ H Q h => tLc_of hown h
/-- name = a comprehension, in one row -/
theorem ss_lc {f : Sl → Out} (C : Ctx X P N sc) {y : Str} {py cpos : Pos} {i : Nat} {scope : Scope} {own : List (Str × Nat)} {t : Tgt} {k : SrcK} {ifs : List Expr} {iter : Expr} (hy : N[i]? = some y) (hyl : sc.names.lookup y = some .local)
    (hsw : swapsWith (.ListComp a [⟨tg, iter, ifs, 0⟩] scope cpos) (some (.Name y py)) pos.line X.env = pure true)
    (hi : PI X tg iter (liftI P (srcs Φ k ES))) (hown : own.map (·.2) = t.ix) (ok : BlkOk N sc scope own)
    (hg : ∀ (s : Shared) (H : Hp) (Cl : Addr) (cl : List (Str × Addr)) (fp : List Addr) (Pb : Pk), Ctx (X.blk s H scope (compEnvC scope cl Cl X.env) fp) Pb N (relS scope sc) → PG (X.blk s H scope (compEnvC scope cl Cl X.env) fp) tg (liftG P.K t))
    (ht : ∀ (s : Shared) (H : Hp) (Cl : Addr) (cl : List (Str × Addr)) (fp : List Addr) (av : Addr → Prop) (h0 : Hp) (hav : ∀ a, av a → h0 a ≠ none), Ctx (X.blk s H scope (compEnvC scope cl Cl X.env) fp) (P.blk av h0 hav) N (relS scope sc) → PTs (X.blk s H scope (compEnvC scope cl Cl X.env) fp) ifs (liftTs (P.blk av h0 hav) (evt Φ IFS)))
    (he : ∀ (s : Shared) (H : Hp) (Cl : Addr) (cl : List (Str × Addr)) (fp : List Addr) (av : Addr → Prop) (h0 : Hp) (hav : ∀ a, av a → h0 a ≠ none), Ctx (X.blk s H scope (compEnvC scope cl Cl X.env) fp) (P.blk av h0 hav) N (relS scope sc) → PE (X.blk s H scope (compEnvC scope cl Cl X.env) fp) a (lift (P.blk av h0 hav) 2 (ev Φ E)))
    (hf : ∀ D σ H, liftS P f D σ H → tAsg (liftN P 2 (ev Φ (.comp E t k ES IFS))) (gName i) D σ H)
    (hs : ∀ x, foldedSetIterable iter X.env x = pure x := by intro _; rfl) :
    PS X (.Assign [.Name y py] (.ListComp a [⟨tg, iter, ifs, 0⟩] scope cpos) pos) (liftS P f) :=
  PS.imp (ps_setLc C.calm (by rw [C.hN]; exact C.nd) (by rw [C.hN]; exact hy) (by rw [C.hs]; exact hyl) hsw hi (by rw [C.hN, C.hs]; exact ok)
    (fun s H Cl cl fp => hg s H Cl cl fp (P.blk (fun _ => False) (fun _ => none) (fun _ z => z.elim)) (C.blk _ _ _ s H Cl cl fp))
    (fun s H Cl cl fp => PTs.ofAll fun i => ht s H Cl cl fp i.1 i.2.1 i.2.2 (C.blk _ _ _ s H Cl cl fp))
    (fun s H Cl cl fp => PE.ofAll fun i => he s H Cl cl fp i.1 i.2.1 i.2.2 (C.blk _ _ _ s H Cl cl fp)) hs) fun D σ H h => tLc_of hown (hf D σ H h)

/-! ### assignments -/
theorem bindS {e : Sl} {σ : L2.St} {H : Hp} (R : Rel P e σ H) {D : Ends} {r : Res Rf.D} {G : Rf.D → Out} (h : PostS P D (Out.ofR r e G)) : Post P e σ m H (fun v H1 => ∃ x, r = .ok x ∧ Same H H1 ∧ Rel P e σ H1 ∧ DenM P e σ m H1 v x ∧ PostS P D (G x)) r := by
  cases r with
  | ok x => exact fun v H1 s d => ⟨x, rfl, s, R.same s, d, h⟩
  | ex c => exact fun H1 s => h σ H1 (R.same s)
  | stuck => exact h.elim
theorem bindSN {e : Sl} {σ : L2.St} {H : Hp} (R : Rel P e σ H) {D : Ends} {r : Res Rf.D} {G : Rf.D → Out} (h : PostS P D (Out.ofR r e G)) : PostN P e σ m H (fun v H1 => ∃ x, r = .ok x ∧ Same H H1 ∧ Rel P e σ H1 ∧ Fr2 P.K (av1 P e σ m) H v H1 x ∧ PostS P D (G x)) r := by
  cases r with
  | ok x => exact fun v H1 s d => ⟨x, rfl, s, R.same s, d, h⟩
  | ex c => exact fun H1 s => h σ H1 (R.same s)
  | stuck => exact h.elim
theorem bindST {e : Sl} {σ : L2.St} {H : Hp} (R : Rel P e σ H) {D : Ends} {r : Res Rf.D} {G : Rf.D → Out} (hG : ∀ d, (∀ k, d ≠ .bool k) → G d = .stuck) (h : PostS P D (Out.ofR r e G)) : PostT P σ H (fun k H1 => Same H H1 ∧ Rel P e σ H1 ∧ PostS P D (G (.bool k))) r := by
  cases r with
  | ok d =>
    cases d with
    | bool k => exact fun H1 s => ⟨s, R.same s, h⟩
    | none => have := hG .none (fun _ z => nomatch z); rw [Out.ofR_ok, this] at h; exact h.elim
    | int i => have := hG (.int i) (fun _ z => nomatch z); rw [Out.ofR_ok, this] at h; exact h.elim
    | str i => have := hG (.str i) (fun _ z => nomatch z); rw [Out.ofR_ok, this] at h; exact h.elim
    | list i => have := hG (.list i) (fun _ z => nomatch z); rw [Out.ofR_ok, this] at h; exact h.elim
    | tuple i => have := hG (.tuple i) (fun _ z => nomatch z); rw [Out.ofR_ok, this] at h; exact h.elim
    | dict i => have := hG (.dict i) (fun _ z => nomatch z); rw [Out.ofR_ok, this] at h; exact h.elim
  | ex c => exact fun H1 s => h σ H1 (R.same s)
  | stuck => exact h.elim
theorem PostN.weaken {e : Sl} {σ : L2.St} {H : Hp} {Q Q' : VK} {r : Res Rf.D} (h : PostN P e σ m H Q r) (w : ∀ v H', Q v H' → Q' v H') : PostN P e σ m H Q' r := by
  cases r with
  | ok d => exact fun v H' s hd => w _ _ (h v H' s hd)
  | ex c => exact h
  | stuck => exact h
theorem asg_of {i : Nat} {D : Ends} {σ : L2.St} {H : Hp} (h : liftS P (exec Φ F (.asg (.nm i) A)) D σ H) : tAsg (lift P 2 (ev Φ A)) (gName i) D σ H := by
  obtain ⟨e, R, p⟩ := h
  refine ⟨e, R, ?_⟩
  simp only [exec] at p
  refine Post.weaken (bindS (m := 2) R p) fun v H1 ⟨x, _, s, R1, hd, q⟩ => ?_
  simp only [bindT] at q
  split at q
  · rename_i e' hb
    split at hb
    · simp only [Option.some.injEq] at hb; subst hb; exact q _ H1 (R1.setD hd.d2)
    · cases hb
  · exact q.elim
theorem own_of {i : Nat} {D : Ends} {σ : L2.St} {H : Hp} (h : liftS P (exec Φ F (.own i A)) D σ H) : tAsg (liftN P 2 (ev Φ A)) (gName i) D σ H := by
  obtain ⟨e, R, p⟩ := h
  refine ⟨e, R, ?_⟩
  simp only [exec] at p
  refine PostN.weaken (bindSN (m := 2) R p) fun v H1 ⟨x, _, s, R1, hd, q⟩ => ?_
  cases x with
  | list xs =>
    obtain ⟨l, us, rfl, nl, hl, hx⟩ := hd
    simp only [ownS] at q
    split at q
    · exact q _ H1 (R.setNew nl s ⟨l, us, rfl, hl, hx⟩)
    · exact q.elim
  | dict kvs =>
    obtain ⟨l, us, rfl, nl, hl, hx⟩ := hd
    simp only [ownS] at q
    by_cases hk : keysOk kvs = true
    · rw [if_pos hk] at q
      simp only [] at q
      split at q
      · exact q _ H1 (R.setNew nl s ⟨l, us, rfl, hl, hx⟩)
      · exact q.elim
    · rw [if_neg hk] at q; exact q.elim
  | _ => exact q.elim
theorem ss_set (C : Ctx X P N sc) {i : Nat} {x : Str} {px : Pos} (hi : N[i]? = some x) (hx : Loc sc x) (he : PE X a (lift P 2 (ev Φ A))) (hs : swapsWith a (some (.Name x px)) pos.line X.env = pure false := by rfl) (hf : X.fn x = true ∨ X.env.scope.names.lookup x = some .local := by first | exact .inl rfl | exact .inr rfl) :
    PS X (.Assign [.Name x px] a pos) (liftS P (exec Φ F (.asg (.nm i) A))) :=
  PS.imp (ps_set (by rw [C.hN]; exact C.nd) (by rw [C.hN]; exact hi) (by rw [C.hs]; exact hx) he hs hf) fun D σ H h => asg_of h
theorem ss_own (C : Ctx X P N sc) {i : Nat} {x : Str} {px : Pos} (hi : N[i]? = some x) (hx : Loc sc x) (he : PE X a (liftN P 2 (ev Φ A))) (hs : swapsWith a (some (.Name x px)) pos.line X.env = pure false := by rfl) (hf : X.fn x = true ∨ X.env.scope.names.lookup x = some .local := by first | exact .inl rfl | exact .inr rfl) :
    PS X (.Assign [.Name x px] a pos) (liftS P (exec Φ F (.own i A))) :=
  PS.imp (ps_set (by rw [C.hN]; exact C.nd) (by rw [C.hN]; exact hi) (by rw [C.hs]; exact hx) he hs hf) fun D σ H h => own_of h
theorem asgN_of {i : Nat} {D : Ends} {σ : L2.St} {H : Hp} (h : liftS P (exec Φ F (.asg (.nm i) A)) D σ H) : tAsg (liftN P 2 (ev Φ A)) (gName i) D σ H := by
  obtain ⟨e, R, p⟩ := asg_of h
  exact ⟨e, R, PostN.post R p⟩
theorem ss_tgt (C : Ctx X P N sc) {t : Tgt} (hg : PG X tg (liftG P.K t)) (he : PE X a (lift P 2 (ev Φ A))) (hs : swapsWithSole [tg] a pos.line X.env = pure false := by rfl) (hw : swappedStores [tg] a X.env = pure none := by rfl) (h1 : (assignEach [tg] X.env).map (·.2) = [assign tg X.env] := by rfl) :
    PS X (.Assign [tg] a pos) (liftS P (exec Φ F (.asg t A))) := by
  refine PS.imp (ps_asg he hg hs hw h1) fun D σ H ⟨e, R, p⟩ => ⟨e, R, ?_⟩
  simp only [exec] at p
  refine Post.weaken (bindS (m := 2) R p) fun v H1 ⟨x, _, s, R1, hd, q⟩ => ?_
  cases hb : bindT t x e with
  | none => rw [hb] at q; exact q.elim
  | some e' => rw [hb] at q; exact ⟨P, e, x, e', rfl, R1, hd.d2, hb, fun σ1 R2 _ => q _ _ R2⟩
theorem ss_par (C : Ctx X P N sc) {i j : Nat} {x y : Str} {px py pt : Pos} {kt k2 : Nat} {pt2 : Pos} (hi : N[i]? = some x) (hj : N[j]? = some y) (hij : i ≠ j) (hx : sc.names.lookup x = some .local) (hy : sc.names.lookup y = some .local) (ha : PA X [a, b] (lifts P 2 (evs Φ [A, B])))
    (hw : swappedStores [.Tuple [.Name x px, .Name y py] kt pt] (.Tuple [a, b] k2 pt2) X.env = pure (some [x, y])) (hs : swapsWithSole [.Tuple [.Name x px, .Name y py] kt pt] (.Tuple [a, b] k2 pt2) pos.line X.env = pure false := by rfl) :
    PS X (.Assign [.Tuple [.Name x px, .Name y py] kt pt] (.Tuple [a, b] k2 pt2) pos) (liftS P (exec Φ F (.par i j A B))) := by
  refine PS.imp (ps_par C.calm (by rw [C.hN]; exact C.nd) (by rw [C.hN]; exact hi) (by rw [C.hN]; exact hj) hij (by rw [C.hs]; exact hx) (by rw [C.hs]; exact hy) ha hw hs) fun D σ H ⟨e, R, p⟩ => ⟨e, R, ?_⟩
  simp only [exec] at p
  cases q1 : ev Φ A e with
  | ex c => simp only [evs, q1, Res.bind_ex, Out.ofR_ex] at p ⊢; exact fun H1 s => p σ H1 (R.same s)
  | stuck => simp only [q1, Out.ofR_stuck] at p; exact p.elim
  | ok x1 =>
    cases q2 : ev Φ B e with
    | ex c => simp only [evs, q1, q2, Res.bind_ex, Res.bind_ok, Out.ofR_ex, Out.ofR_ok] at p ⊢; exact fun H1 s => p σ H1 (R.same s)
    | stuck => simp only [q1, q2, Out.ofR_stuck, Out.ofR_ok] at p; exact p.elim
    | ok y1 =>
      simp only [evs, q1, q2, Res.bind_ok, Out.ofR_ok] at p ⊢
      intro vs H1 s hd
      match vs, hd with
      | [v, w], hd =>
        refine ⟨v, w, rfl, ?_⟩
        split at p
        · have R1 := R.same s
          have r2 := R1.setD (i := i) hd.1.d2
          refine p _ H1 (r2.setD (hd.2.1.d2.imp (fun _ _ z => z) fun b _ z => z.imp id (own_set_d rfl)))
        · exact p.elim
theorem ss_aug (C : Ctx X P N sc) (op : BOp) (hop : op ≠ .pow) {i : Nat} {x : Str} {px : Pos} (hi : N[i]? = some x) (hx : Loc sc x) (he : PE X a (lift P 1 (ev Φ A))) (hf : X.fn x = true ∨ X.env.scope.names.lookup x = some .local := by first | exact .inl rfl | exact .inr rfl) :
    PS X (.AugAssign (.Name x px) (bOp op) a pos) (liftS P (exec Φ F (.aug i op A))) := by
  have o : PIp X (bOp op) (RB X.K (augD op)) := op_augD op hop
  rw [C.hK] at o
  refine PS.imp (ps_aug (by rw [C.hN]; exact C.nd) (by rw [C.hN]; exact hi) (by rw [C.hs]; exact hx) he o hf) fun D σ H ⟨e, R, p⟩ => ?_
  simp only [exec] at p
  cases q : e[i]? with
  | none => rw [q] at p; exact p.elim
  | some s =>
    rw [q] at p
    cases s with
    | d x1 =>
      obtain ⟨o1, h1, v, rfl, hd⟩ := R.at q
      refine ⟨v, h1, e, R, ?_⟩
      refine Post.weaken (bindS (m := 1) R p) fun w H1 ⟨y, _, s, R1, hy, q⟩ => ?_
      cases qz : augD op x1 y with
      | none => rw [qz] at q; exact q.elim
      | some z =>
        rw [qz] at q
        have R1 := R.same s
        refine ⟨_, _, _, x1, y, z, (hd.same s).mm (m := 1), hy, qz, fun u H2 s2 hz => q _ H2 ((R1.same s2).setD ?_)⟩
        exact (hz.two (c0 := avo P e σ) fun a z => R1.av_ne z).one
    | _ => exact p.elim

/-! ### own lists and dicts -/
theorem ss_app (C : Ctx X P N sc) {i : Nat} {x : Str} {px apos cpos : Pos} (hi : N[i]? = some x) (hv : Vis sc x) (he : PE X a (lift P 2 (ev Φ A)))
    (h1 : (((backTo cpos (starEach [a] X.env)).all fun x => !x.1) && (backToKw cpos (keywordEach [] X.env)).all (fun x => x.1.isSome) && decide (([a] : List Expr).length + ([] : List Keyword).length + (if ([] : List Keyword).isEmpty then 0 else 1) < 30)) = true := by rfl)
    (h2 : (apos.endLine == cpos.line) = true := by rfl) (h3 : starEach [a] X.env = (false, eval a X.env) :: starEach [] X.env := by rfl) (h4 : ((backTo cpos (starEach [] X.env)).any fun x => x.1) = false := by rfl) (hd : (x == ("__debug__" : Str)) = false := by decide) (hcd : (x == ("__classdict__" : Str)) = false := by decide)
    (hb : attributeBase (.Name x px) "append" X.env (eval (.Name x px) X.env) = eval (.Name x px) X.env := by rfl) (hs : swapsWith (.Call (.Attribute (.Name x px) "append" apos) [a] [] cpos) none pos.line X.env = pure false := by rfl) :
    PS X (.Expr (.Call (.Attribute (.Name x px) "append" apos) [a] [] cpos) pos) (liftS P (exec Φ F (.app i A))) := by
  refine PS.imp (ps_expr (pe_bm PySem.F.plainAttrs_list PySem.F.slot_list_append PySem.F.type_list_append mt_append (pe_var (i := i) (by rw [C.hN]; exact hi) (by rw [C.hs]; exact hv) hd hcd) (pa_cons he pa_nil h3) hb h1 h2 h3 h4) hs) fun D σ H ⟨e, R, p⟩ => ?_
  simp only [exec] at p
  cases q : e[i]? with
  | none => rw [q] at p; exact p.elim
  | some s =>
    rw [q] at p
    cases s with
    | ol xs =>
      obtain ⟨o1, h1, l, us, rfl, hl, dd⟩ := R.at q
      refine ⟨_, h1, .inl ⟨rfl, us, .inl (.inl hl)⟩, e, R, ?_⟩
      refine Post.weaken (bindS (m := 2) R p) fun w H1 ⟨y, _, s, R1, hy, p⟩ => ?_
      split at p
      · rename_i hz
        refine ⟨l, us, w, rfl, rfl, s _ _ hl, by rw [dd.length]; exact line_lt hz, p σ _ (R1.updOwn q rfl rfl h1 ⟨l, us ++ [w], rfl, upd_same, ?_⟩)⟩
        exact ((dd.same s).append (.cons hy.d2 .nil)).upd (R1.kinds _ ⟨i, _, q, rfl, h1⟩).1 (R1.kinds _ ⟨i, _, q, rfl, h1⟩).2 (.inr ⟨i, _, q, rfl, h1⟩)
      · exact p.elim
    | _ => exact p.elim
theorem ss_setl (C : Ctx X P N sc) {i : Nat} {x : Str} {px tp : Pos} (hi : N[i]? = some x) (hv : Vis sc x) (he : PE X a (lift P 2 (ev Φ A))) (hk : PE X b (lift P 0 (ev Φ B))) (hd : (x == ("__debug__" : Str)) = false := by decide) (hcd : (x == ("__classdict__" : Str)) = false := by decide)
    (ha : ∀ v, assign (.Subscript (.Name x px) b tp) X.env v = (do
      let ov ← holding [v] (eval (.Name x px) X.env)
      let iv ← holding [v, ov] (eval b X.env)
      standAt tp
      holding [v, ov, iv] (setItem ov iv v)
      release [v, ov, iv] []) := by intro _; rfl) (hs : swapsWithSole [.Subscript (.Name x px) b tp] a pos.line X.env = pure false := by rfl) (hw : swappedStores [.Subscript (.Name x px) b tp] a X.env = pure none := by rfl) (h1 : (assignEach [.Subscript (.Name x px) b tp] X.env).map (·.2) = [assign (.Subscript (.Name x px) b tp) X.env] := by rfl) :
    PS X (.Assign [.Subscript (.Name x px) b tp] a pos) (liftS P (exec Φ F (.setl i B A))) := by
  refine PS.imp (ps_asg he (pg_sub (pe_var (i := i) (by rw [C.hN]; exact hi) (by rw [C.hs]; exact hv) hd hcd) hk set_list ha) hs hw h1) fun D σ H ⟨e, R, p⟩ => ⟨e, R, ?_⟩
  simp only [exec] at p
  cases q : e[i]? with
  | none => rw [q] at p; exact p.elim
  | some s =>
    rw [q] at p
    cases s with
    | ol xs =>
      obtain ⟨o1, h1, l, us, rfl, hl, dd⟩ := R.at q
      refine Post.weaken (bindS (m := 2) R p) fun w H1 ⟨y, _, s, R1, hy, p⟩ => ⟨_, h1, e, R1, ?_⟩
      refine Post.weaken (bindS (m := 0) R1 p) fun k H2 ⟨k', _, s2, R2, hk', p⟩ => ?_
      cases k' with
      | int k' =>
        obtain rfl := d2_int hk'
        simp only [] at p
        cases qj : ixN xs.length k' with
        | none => rw [qj] at p; exact p.elim
        | some j =>
          rw [qj] at p
          refine ⟨l, us, k', j, rfl, rfl, s2 _ _ (s _ _ hl), by rw [dd.length]; exact qj, p σ _ (R2.updOwn q rfl rfl h1 ⟨l, us.set j w, rfl, upd_same, ?_⟩)⟩
          exact (((dd.same s).same s2).set j (hy.d2.same s2)).upd (R2.kinds _ ⟨i, _, q, rfl, h1⟩).1 (R2.kinds _ ⟨i, _, q, rfl, h1⟩).2 (.inr ⟨i, _, q, rfl, h1⟩)
      | _ => exact p.elim
    | _ => exact p.elim
theorem ss_setd (C : Ctx X P N sc) {i : Nat} {x : Str} {px tp : Pos} (hi : N[i]? = some x) (hv : Vis sc x) (he : PE X a (lift P 2 (ev Φ A))) (hk : PE X b (lift P 0 (ev Φ B))) (hd : (x == ("__debug__" : Str)) = false := by decide) (hcd : (x == ("__classdict__" : Str)) = false := by decide)
    (hs : swapsWith a (some (.Subscript (.Name x px) b tp)) pos.line X.env = pure false := by rfl) :
    PS X (.Assign [.Subscript (.Name x px) b tp] a pos) (liftS P (exec Φ F (.setd i B A))) := by
  refine PS.imp (ps_dput C.u1 (pe_var (i := i) (by rw [C.hN]; exact hi) (by rw [C.hs]; exact hv) hd hcd) hk he hs) fun D σ H ⟨e, R, p⟩ => ⟨e, R, ?_⟩
  simp only [exec] at p
  cases q : e[i]? with
  | none => rw [q] at p; exact p.elim
  | some s =>
    rw [q] at p
    cases s with
    | od xs =>
      obtain ⟨o1, h1, l, us, rfl, hl, dd⟩ := R.at q
      refine Post.weaken (bindS (m := 2) R p) fun w H1 ⟨y, _, s, R1, hy, p⟩ => ⟨_, h1, e, R1, ?_⟩
      refine Post.weaken (bindS (m := 0) R1 p) fun k H2 ⟨k', _, s2, R2, hk', p⟩ => ?_
      split at p
      · rename_i hz
        obtain ⟨hz1, hz2⟩ := hz
        obtain ⟨c, hc⟩ := Option.isSome_iff_exists.mp hz1
        obtain rfl := keyD_of hc
        obtain rfl := keyV hk'
        refine ⟨l, _, rfl, DPut.k (s2 _ _ (s _ _ hl)) (by rw [dd.length]; exact line_lt hz2), p σ _ (R2.updOwn q rfl rfl h1 ⟨l, _, rfl, upd_same, ?_⟩)⟩
        exact (put_of c (hy.d2.same s2) ((dd.same s).same s2)).upd (R2.kinds _ ⟨i, _, q, rfl, h1⟩).1 (R2.kinds _ ⟨i, _, q, rfl, h1⟩).2 (.inr ⟨i, _, q, rfl, h1⟩)
      · exact p.elim
    | _ => exact p.elim
theorem pop_of {i : Nat} {σ : L2.St} {H : Hp} {e : Sl} {xs : List D} {x : D} {Q : VK} (R : Rel P e σ H) (q : e[i]? = some (.ol xs)) (hx : xs[xs.length - 1]? = some x)
    (h : ∀ v H', Rel P (e.set i (.ol xs.dropLast)) σ H' → Den P.K (avo P (e.set i (.ol xs.dropLast)) σ) H' v x → Q v H') : tBM0 P.K "list" rPop (tVar i) σ H Q := by
  obtain ⟨o1, h1, l, us, rfl, hl, dd⟩ := R.at q
  have hlen := dd.length
  obtain ⟨v, hv, dv⟩ := dd.getD hx
  have ow : Owns e σ l := ⟨i, _, q, rfl, h1⟩
  refine ⟨_, h1, .inl ⟨rfl, us, .inl (.inl hl)⟩, l, us, v, rfl, rfl, hl, by rw [hlen]; exact hv, h _ _ ?_ ?_⟩
  · exact R.updOwn q rfl rfl h1 ⟨l, _, rfl, upd_same, dd.dropLast.upd (R.kinds _ ow).1 (R.kinds _ ow).2 (.inr ow)⟩
  · refine (dv.upd (R.kinds _ ow).1 (R.kinds _ ow).2 (.inr ow)).imp (fun _ _ z => z) fun b _ z => z.imp id fun ⟨j, t, q1, q2, q3⟩ => ?_
    by_cases hj : i = j
    · subst hj; exact ⟨i, _, q, rfl, q3⟩
    · rw [List.getElem?_set_ne hj] at q1; exact ⟨j, t, q1, q2, q3⟩
theorem ss_pop (C : Ctx X P N sc) {i : Nat} {x : Str} {px apos cpos : Pos} (hi : N[i]? = some x) (hv : Vis sc x)
    (h2 : (apos.endLine == cpos.line) = true := by rfl) (hd : (x == ("__debug__" : Str)) = false := by decide) (hcd : (x == ("__classdict__" : Str)) = false := by decide)
    (hb : attributeBase (.Name x px) "pop" X.env (eval (.Name x px) X.env) = eval (.Name x px) X.env := by rfl) (hs : swapsWith (.Call (.Attribute (.Name x px) "pop" apos) [] [] cpos) none pos.line X.env = pure false := by rfl) :
    PS X (.Expr (.Call (.Attribute (.Name x px) "pop" apos) [] [] cpos) pos) (liftS P (exec Φ F (.pop i))) := by
  refine PS.imp (ps_expr (pe_bm0 PySem.F.plainAttrs_list PySem.F.slot_list_pop PySem.F.type_list_pop mt_pop (pe_var (i := i) (by rw [C.hN]; exact hi) (by rw [C.hs]; exact hv) hd hcd) hb h2) hs) fun D σ H ⟨e, R, p⟩ => ?_
  simp only [exec] at p
  cases q : e[i]? with
  | none => rw [q] at p; exact p.elim
  | some s =>
    rw [q] at p
    cases s with
    | ol xs =>
      simp only [] at p
      split at p
      · exact p.elim
      · rename_i hx
        have hx : xs.length - 1 < xs.length := by
          cases xs with
          | nil => exact absurd rfl hx
          | cons _ _ => simp
        unfold tDrop
        rw [C.hK]
        exact pop_of R q (List.getElem?_eq_getElem hx) fun v H' R' _ => p σ H' R'
    | _ => exact p.elim
theorem ss_popto (C : Ctx X P N sc) {i t : Nat} {x y : Str} {px py apos cpos : Pos} (hi : N[i]? = some x) (hv : Vis sc x) (hy : N[t]? = some y) (hyl : Loc sc y)
    (h2 : (apos.endLine == cpos.line) = true := by rfl) (hd : (x == ("__debug__" : Str)) = false := by decide) (hcd : (x == ("__classdict__" : Str)) = false := by decide)
    (hb : attributeBase (.Name x px) "pop" X.env (eval (.Name x px) X.env) = eval (.Name x px) X.env := by rfl) (hs : swapsWith (.Call (.Attribute (.Name x px) "pop" apos) [] [] cpos) (some (.Name y py)) pos.line X.env = pure false := by rfl) (hf : X.fn y = true ∨ X.env.scope.names.lookup y = some .local := by first | exact .inl rfl | exact .inr rfl) :
    PS X (.Assign [.Name y py] (.Call (.Attribute (.Name x px) "pop" apos) [] [] cpos) pos) (liftS P (exec Φ F (.popto t i))) := by
  refine PS.imp (ps_set (i := t) (by rw [C.hN]; exact C.nd) (by rw [C.hN]; exact hy) (by rw [C.hs]; exact hyl) (pe_bm0 PySem.F.plainAttrs_list PySem.F.slot_list_pop PySem.F.type_list_pop mt_pop (pe_var (i := i) (by rw [C.hN]; exact hi) (by rw [C.hs]; exact hv) hd hcd) hb h2) hs hf) fun D σ H ⟨e, R, p⟩ => ?_
  simp only [exec] at p
  cases q : e[i]? with
  | none => rw [q] at p; exact p.elim
  | some s =>
    rw [q] at p
    cases s with
    | ol xs =>
      simp only [] at p
      cases hx : xs[xs.length - 1]? with
      | none => rw [hx] at p; exact p.elim
      | some x1 =>
        rw [hx] at p
        simp only [] at p
        split at p
        · unfold tAsg
          rw [C.hK]
          exact pop_of R q hx fun v H' R' dv => p _ H' (R'.setD dv)
        · exact p.elim
    | _ => exact p.elim

/-! ### flow -/
theorem ss_expr (he : PE X a (lift P 0 (ev Φ A))) (hs : swapsWith a none pos.line X.env = pure false := by rfl) : PS X (.Expr a pos) (liftS P (exec Φ F (.expr A))) := by
  refine PS.imp (ps_expr he hs) fun D σ H ⟨e, R, p⟩ => ⟨e, R, ?_⟩
  simp only [exec] at p
  exact Post.weaken (bindS (m := 0) R p) fun v H1 ⟨x, _, s, R1, hd, q⟩ => q σ H1 R1
theorem ss_ret (he : PE X a (lift P 0 (ev Φ A))) : PS X (.Return (some a) pos) (liftS P (exec Φ F (.ret A))) := by
  refine PS.imp (ps_ret he) fun D σ H ⟨e, R, p⟩ => ⟨e, R, ?_⟩
  simp only [exec] at p
  exact Post.weaken (bindS (m := 0) R p) fun v H1 ⟨x, _, s, R1, hd, q⟩ => q v H1 R1.fr hd.weak
theorem ss_retn : PS X (.Return none pos) (liftS P (exec Φ F .retn)) := PS.imp ps_retN fun D σ H ⟨e, R, p⟩ => by
  simp only [exec] at p
  exact p .non H R.fr .none
theorem ss_if {ba bb : List Stmt} {BA BB : List Stm} (hc : PT X c (liftT P (ev Φ E))) (ha : PSs X ba (liftS P (execs Φ F BA))) (hb : PSs X bb (liftS P (execs Φ F BB))) : PS X (.If c ba bb pos) (liftS P (exec Φ F (.ifs E BA BB))) := by
  refine PS.imp (ps_if hc ha hb) fun D σ H ⟨e, R, p⟩ => ⟨e, R, ?_⟩
  simp only [exec] at p
  refine PostT.weaken (bindST R (fun d hd => ?_) p) fun k H1 ⟨s, R1, q⟩ => ?_
  · cases d with
    | bool k => exact absurd rfl (hd k)
    | _ => rfl
  · cases k with
    | true => exact ⟨e, R1, q⟩
    | false => exact ⟨e, R1, q⟩
theorem ss_pass : PS X (.Pass pos) (liftS P (exec Φ F .pas)) := PS.imp ps_pass fun D σ H ⟨e, R, p⟩ => by
  simp only [exec] at p
  exact p σ H R
theorem ss_brk : PS X (.Break pos) (liftS P (exec Φ F .brk)) := PS.imp ps_break fun D σ H ⟨e, R, p⟩ => by
  simp only [exec] at p
  exact p σ H R
theorem ss_cnt : PS X (.Continue pos) (liftS P (exec Φ F .cnt)) := PS.imp ps_continue fun D σ H ⟨e, R, p⟩ => by
  simp only [exec] at p
  exact p σ H R
theorem sss_nil : PSs X [] (liftS P (execs Φ F [])) := PSs.imp pss_nil fun D σ H ⟨e, R, p⟩ => by
  simp only [execs] at p
  exact p σ H R
theorem sss_cons {st : Stmt} {r : List Stmt} {S1 : Stm} {SR : List Stm} (h1 : PS X st (liftS P (exec Φ F S1))) (h2 : PSs X r (liftS P (execs Φ F SR))) : PSs X (st :: r) (liftS P (execs Φ F (S1 :: SR))) := by
  refine PSs.imp (pss_cons h1 h2) fun D σ H ⟨e, R, p⟩ => ⟨e, R, ?_⟩
  simp only [execs] at p
  cases q : exec Φ F S1 e with
  | nx e' => rw [q] at p; exact fun σ' H' R' => ⟨e', R', p⟩
  | ret x => rw [q] at p; exact p
  | bk e' => rw [q] at p; exact p
  | ct e' => rw [q] at p; exact p
  | ex c e' => rw [q] at p; exact p
  | stuck => rw [q] at p; exact p
theorem sss_give {r : List Stmt} {SR : List Stm} {i : Nat} (h2 : PSs X r (liftS P (execs Φ F SR))) : PSs X r (liftS P (execs Φ F (.give i :: SR))) := PSs.imp h2 fun D σ H ⟨e, R, p⟩ => by
  simp only [execs, exec] at p
  cases q : e[i]? with
  | none => rw [q] at p; exact p.elim
  | some s =>
    rw [q] at p
    cases s with
    | ol xs => exact ⟨_, R.give q, p⟩
    | _ => exact p.elim
/-- a turn's end -/
theorem PostS.turn {D : Ends} {N : L2.St → Hp → Prop} {G : Sl → Out} (hN : ∀ e' σ' H', Rel P e' σ' H' → PostS P D (G e') → N σ' H') : ∀ {o : Out}, PostS P D (o.turn G) → PostS P { D with nx := N, ct := N, bk := D.nx } o
  | .nx e', h => fun σ' H' R => hN e' σ' H' R h
  | .ct e', h => fun σ' H' R => hN e' σ' H' R h
  | .bk _, h => h
  | .ret _, h => h
  | .ex _ _, h => h
  | .stuck, h => h
theorem ss_while {body : List Stmt} {BD : List Stm} (C : Ctx X P N sc) (hc : PT X c (liftT P (ev Φ E))) (hb : PSs X body (liftS P (execs Φ F BD))) : PS X (.While c body [] pos) (liftS P (exec Φ F (.whl E BD))) := by
  refine PS.imp (ps_while C.po hc hb) fun D σ H ⟨e, R, p⟩ => ?_
  simp only [exec] at p
  refine ⟨fun n σ H => ∃ e, Rel P e σ H ∧ PostS P D (whileF (fun e' => ev Φ E e') (fun e' => execs Φ F BD e') n e), ⟨F, e, R, p⟩, ?_⟩
  rintro n σ1 H1 ⟨e1, R1, p1⟩
  cases n with
  | zero => exact p1.elim
  | succ n =>
    refine ⟨e1, R1, ?_⟩
    simp only [whileF] at p1
    refine PostT.weaken (bindST R1 (fun d hd => ?_) p1) fun k H2 ⟨s, R2, q⟩ => ?_
    · cases d with
      | bool k => exact absurd rfl (hd k)
      | _ => rfl
    · cases k with
      | true =>
        rw [if_pos rfl]
        exact ⟨fun σ' H' => ∃ e, Rel P e σ' H' ∧ PostS P D (whileF (fun e' => ev Φ E e') (fun e' => execs Φ F BD e') n e), fun σ' H' z => ⟨n, Nat.lt_succ_self n, z⟩, e1, R2, PostS.turn (fun e' σ' H' R' z => ⟨e', R', z⟩) q⟩
      | false => rw [if_neg (by decide)]; exact q σ1 H2 R2
theorem ss_for {body : List Stmt} {BD : List Stm} {iter : Expr} {t : Tgt} {k : SrcK} (C : Ctx X P N sc) (hi : PI X tg iter (liftI P (srcs Φ k ES))) (hg : PG X tg (liftG P.K t)) (hb : ∀ (h0 : Hp) (hav : ∀ a, P.Av a → h0 a ≠ none), Ctx X (P.at h0 hav) N sc → PSs X body (liftS (P.at h0 hav) (execs Φ F BD)))
    (hs : ∀ x, foldedSetIterable iter X.env x = pure x := by intro _; rfl) : PS X (.For tg iter body [] pos) (liftS P (exec Φ F (.for t k ES BD))) := by
  refine PS.imp (ps_for C.po C.calm hi hg (PSs.ofAll (ι := { h0 : Hp // ∀ a, P.Av a → h0 a ≠ none }) fun i => hb i.1 i.2 (C.at i.1 i.2)) hs) fun D σ H ⟨e, R, p⟩ => ⟨e, R, ?_⟩
  simp only [exec] at p
  unfold srcs
  cases qx : evs Φ ES e with
  | ex c => rw [qx] at p; exact fun H1 s => p σ H1 (R.same s)
  | stuck => rw [qx] at p; exact p.elim
  | ok xs =>
    rw [qx] at p
    simp only [Out.ofR_ok] at p
    simp only [Res.bind_ok]
    cases qs : srcD k xs with
    | none => rw [qs] at p; exact p.elim
    | some its =>
      rw [qs] at p
      simp only [] at p
      intro J H1 s1 io
      have R1 := R.same s1
      refine ⟨fun i m σ2 H2 => m = its.length - i ∧ i ≤ its.length ∧ ∃ e2, Rel (P.at (lessOwn e σ H1) (lessOwn_av R1)) e2 σ2 H2 ∧ PostS (P.at (lessOwn e σ H1) (lessOwn_av R1)) D (forL (fun e' => execs Φ F BD e') t (its.drop i) e2), ⟨its.length, by omega, Nat.zero_le _, e, R1.into, PostS.into R1 (by simpa using p)⟩, ?_⟩
      rintro i m σ2 H2 ⟨rfl, hi, e2, R2, p2⟩
      obtain ⟨hgo, hstop, hy⟩ := io i H2 fun b o q n => R2.fr _ _ (show lessOwn e σ H1 b = some o by unfold lessOwn; rw [if_neg n]; exact q)
      by_cases hlt : i < its.length
      · refine .inr ⟨hgo hlt, fun σ' H' => ∃ e3, Rel (P.at (lessOwn e σ H1) (lessOwn_av R1)) e3 σ' H' ∧ PostS (P.at (lessOwn e σ H1) (lessOwn_av R1)) D (forL (fun e' => execs Φ F BD e') t (its.drop (i + 1)) e3), fun σ' H' z => ⟨its.length - (i + 1), by omega, rfl, by omega, z⟩, fun x H' y => ?_⟩
        rw [List.drop_eq_getElem_cons hlt] at p2
        simp only [forL] at p2
        cases qb : bindT t its[i] e2 with
        | none => rw [qb] at p2; exact p2.elim
        | some e3 =>
          rw [qb] at p2
          obtain ⟨s3, dx⟩ := hy x H' y _ (List.getElem?_eq_getElem hlt)
          have R3 := R2.same s3
          refine ⟨P.at (lessOwn e σ H1) (lessOwn_av R1), e2, _, e3, rfl, R3, dx.imp (fun _ _ z => z) (fun b _ z => ?_), qb, fun σ3 R4 _ => ⟨⟨lessOwn e σ H1, lessOwn_av R1⟩, e3, R4, PostS.turn (fun e' σ' H' R' z => ⟨e', R', z⟩) p2⟩⟩
          rcases z with z | z
          · exact .inl (.inl z)
          · have q := R2.new b z
            have q : lessOwn e σ H1 b = none := q
            unfold lessOwn at q
            split at q
            · rename_i w; exact .inl (.inr w)
            · exact .inr q
      · refine .inl ⟨hstop (by omega), ?_⟩
        rw [List.drop_of_length_le (by omega)] at p2
        simp only [forL] at p2
        exact p2 σ2 H2 R2
end
end
end Rf

set_option Elab.async false
set_option linter.all false
set_option maxRecDepth 100000
set_option maxHeartbeats 1000000
/-! Rf, part I: a def's promise; the program. -/
namespace Rf
noncomputable section
open PySem PySem.Spec PyProof.Rows L2N
open L2 hiding CX HdsOk MkP PMk St Takes XE mk_of passAt passes_call pmk_own ps_raise ps_try_as ps_try_many takes_of
/-- a def by its body's walk; its exceptions are those of L2N -/
theorem okXN {pr : Program} {w : World} {K : PySem.W.Frag} {mg : Str → Option Value} {base : Heap} {y z : Str} {d : Stmt} {g : Addr} {fd : FuncData} {N ps : List Str} {n : Nat} {sp : Sp} (G : Fun K y z d g fd) (S : FnScope N ps (defScope d))
    (lens : ∀ xs H Q E, sp xs H Q E → xs.length = ps.length)
    (walk : ∀ (cv : Value) (A : Around) (outer : List Env) (u : Shared) (H : Hp) (xs : List V) (Q : VK) (E : XK), Room n (A.deeper (envOfC z (defScope d) u.heap.objs.size g cv)) → sp xs H Q E →
      ∃ r, PSs (cxOf (L2N.CX pr w) pr w K mg base N z (defScope d) g cv A outer u H E) (defBody d) r ∧ r { nx := fun _ J => Q .non J, rt := Q } (start N xs) H) : FnOk pr w K mg base (L2N.CX pr w) (n + 1) g fd ps sp := by
  obtain ⟨o1, o2, o3, o4, o5, o6, cv, o7, o8, e, look, code⟩ := G.ex
  subst e
  exact fn_of look code S lens fun A outer u H xs Q E => walk cv A outer u H xs Q E
section
variable {pr : Program} {w : World} {K : PySem.W.Frag} {mg : Str → Option Value} {base : Heap} {ca : Nat → Addr}
/-- what the top has written of a def -/
structure Txt (K : PySem.W.Frag) (mg : Str → Option Value) (x q : Str) (st : Stmt) (ps : List Str) : Prop where
  ex : ∃ f fd, Fun K q q st f fd ∧ mg x = some (.ref f) ∧ Binds K fd ps []
/-- the def i, called n deep -/
structure Good (pr : Program) (w : World) (K : PySem.W.Frag) (mg : Str → Option Value) (base : Heap) (ca : Nat → Addr) (T : List Fdef) (F : Nat) (x : Str) (i n : Nat) : Prop where
  ex : ∃ f fd ps, FnOk pr w K mg base (L2N.CX pr w) n f fd ps (spP K ca (phi T F n) i) ∧ mg x = some (.ref f) ∧ PySem.W.keepIn K (.ref f) = true ∧ Binds K fd ps []
theorem Good.fn {T : List Fdef} {F : Nat} {x : Str} {i n : Nat} {A : Around} (g : Good pr w K mg base ca T F x i n) (hr : Room n A) : Fn1 pr w K mg base A ca (phi T F n) x i := by
  obtain ⟨f, fd, ps, ok, h1, h2, h3⟩ := g.ex
  exact ⟨n, f, fd, ps, ok, hr, h1, h2, h3⟩
theorem good_zero {T : List Fdef} {F : Nat} {x q : Str} {i : Nat} {st : Stmt} {ps : List Str} (t : Txt K mg x q st ps) : Good pr w K mg base ca T F x i 0 := by
  obtain ⟨f, fd, fn, h1, h2⟩ := t.ex
  refine ⟨f, fd, ps, ⟨fun vs H Q E h => ?_, fun A outer s H args us vs Q E hr he hb hv h => ?_⟩, h1, fn.kp, h2⟩ <;> (obtain ⟨av, ds, _, _, h⟩ := h; exact h.elim)
theorem start_get {N : List Str} {vs : List V} {i : Nat} {v : V} (h : vs[i]? = some v) : (L2.start N vs)[i]? = some (some v) := by
  unfold L2.start
  rw [List.getElem?_append_left (by rw [List.length_map]; exact (List.getElem?_eq_some_iff.mp h).1), List.getElem?_map, h]
  rfl
theorem rel_start {P : Pk} {N : List Str} {vs : List V} {ds : List D} (hd : Dens P.K P.Av P.H0 vs ds) (hl : ds.length ≤ N.length) : Rel P (ds.map .d ++ List.replicate (N.length - ds.length) .un) (L2.start N vs) P.H0 := by
  have hlen := hd.length
  have noOwn : ∀ (i : Nat) (s : Slot), (ds.map Slot.d ++ List.replicate (N.length - ds.length) Slot.un)[i]? = some s → isOwn s = false := fun i s h => by
    by_cases hi : i < ds.length
    · rw [List.getElem?_append_left (by rw [List.length_map]; exact hi), List.getElem?_map, List.getElem?_eq_getElem hi] at h
      simp only [Option.map_some, Option.some.injEq] at h
      subst h; rfl
    · rw [List.getElem?_append_right (by rw [List.length_map]; omega), List.getElem?_replicate] at h
      split at h
      · simp only [Option.some.injEq] at h; subst h; rfl
      · cases h
  have no : ∀ a, ¬ Owns (ds.map Slot.d ++ List.replicate (N.length - ds.length) Slot.un) (L2.start N vs) a := fun a ⟨i, s, h1, h2, _⟩ => by
    rw [noOwn i s h1] at h2; cases h2
  refine ⟨?_, fun i s o h1 h2 => ?_, fun i j s t a h1 h2 => ?_, Same.refl _, fun a h => absurd h (no a)⟩
  · unfold L2.start
    simp only [List.length_append, List.length_map, List.length_replicate]
    omega
  · by_cases hi : i < ds.length
    · rw [List.getElem?_append_left (by rw [List.length_map]; exact hi), List.getElem?_map, List.getElem?_eq_getElem hi] at h1
      simp only [Option.map_some, Option.some.injEq] at h1
      subst h1
      obtain ⟨v, hv, dv⟩ := hd.getD (List.getElem?_eq_getElem hi)
      rw [start_get hv] at h2
      simp only [Option.some.injEq] at h2
      subst h2
      exact ⟨v, rfl, dv.imp (fun _ _ z => z) fun a _ z => z.elim id fun z => absurd z (no a)⟩
    · rw [List.getElem?_append_right (by rw [List.length_map]; omega), List.getElem?_replicate] at h1
      split at h1
      · simp only [Option.some.injEq] at h1; subst h1; trivial
      · cases h1
  · rw [noOwn i s h1] at h2; cases h2
/-- the reading of a body, at the entry -/
theorem entry {P : Pk} {N : List Str} {vs : List V} {ds : List D} {fn : Fdef} {Φ : FT} {F : Nat} {Q : VK} {E : XK} (hd : Dens P.K P.Av P.H0 vs ds) (hns : fn.ns = N.length) (hnp : fn.np ≤ N.length) (hW : P.W = fun cls d _ H => E cls d H)
    (h : match fn.run Φ F ds with
      | .ok d => ∀ v H', Same P.H0 H' → Den P.K P.Av H' v d → Q v H'
      | .ex c => ∀ H', Same P.H0 H' → E (.ref (P.ca c)) none H'
      | .stuck => False) : liftS P (execs Φ F fn.body) { nx := fun _ H' => Q .non H', rt := Q } (L2.start N vs) P.H0 := by
  unfold Fdef.run at h
  by_cases hl : ds.length = fn.np
  · rw [if_pos hl, hns, ← hl] at h
    refine ⟨_, rel_start hd (by omega), ?_⟩
    cases q : execs Φ F fn.body (ds.map .d ++ List.replicate (N.length - ds.length) .un) with
    | ret x => rw [q] at h; exact h
    | nx e' => rw [q] at h; exact fun σ' H' R => h .non H' R.fr .none
    | ex c e' => rw [q] at h; exact fun σ' H' R => by rw [hW]; exact h H' R.fr
    | bk e' => rw [q] at h; exact h.elim
    | ct e' => rw [q] at h; exact h.elim
    | stuck => rw [q] at h; exact h.elim
  · rw [if_neg hl] at h; exact h.elim
/-- a body's context -/
@[reducible] def cxG (pr : Program) (w : World) (K : PySem.W.Frag) (mg : Str → Option Value) (base : Heap) (N : List Str) (x : Str) (st : Stmt) (A : Around) (s0 : Shared) (H0 : Hp) (a f : Addr) (cdv : Value) (outer : List Env) (xe : Value → Shared → Prop) : Cx :=
  { prog := pr, w := w, K := K, mg := mg, base := base, A := A, N := N, s_0 := s0, H_0 := H0, env := envOfC x (defScope st) a f cdv, outer := outer, stack := envOfC x (defScope st) a f cdv :: outer, ex := [], calm := true, fn := fun _ => true, pn := [], xe := xe }
/-- a body's walk -/
def Walk (pr : Program) (w : World) (K : PySem.W.Frag) (mg : Str → Option Value) (base : Heap) (ca : Nat → Addr) (N : List Str) (x : Str) (st : Stmt) (n : Nat) (f : Sl → Out) : Prop :=
  ∀ (A : Around) (s0 : Shared) (H0 : Hp) (a fA : Addr) (cdv : Value) (outer : List Env) (xe : Value → Shared → Prop) (h0 : Hp) (av : Addr → Prop) (avok : ∀ a, av a → h0 a ≠ none) (W : WX), Room n A →
    Ctx (cxG pr w K mg base N x st A s0 H0 a fA cdv outer xe) ⟨K, h0, av, avok, W, ca⟩ N (defScope st) → PSs (cxG pr w K mg base N x st A s0 H0 a fA cdv outer xe) (defBody st) (liftS ⟨K, h0, av, avok, W, ca⟩ f)
/-- a def keeps its promise -/
theorem good_succ {T : List Fdef} {F : Nat} {x q : Str} {i n : Nat} {st : Stmt} {N ps : List Str} {fn : Fdef} (t : Txt K mg x q st ps) (S : FnScope N ps (defScope st)) (hT : T[i]? = some fn) (hnp : fn.np = ps.length) (hns : fn.ns = N.length) (hle : ps.length ≤ N.length)
    (hb : Walk pr w K mg base ca N q st n (execs (phi T F n) F fn.body)) :
    Good pr w K mg base ca T F x i (n + 1) := by
  obtain ⟨f, fd, F0, h1, h2⟩ := t.ex
  refine ⟨f, fd, ps, okXN F0 S (fun vs H Q E h => ?_) (fun cdv A outer s H vs Q E hr h => ?_), h1, F0.kp, h2⟩
  · obtain ⟨av, ds, _, hd, h⟩ := h
    simp only [phi, hT] at h
    unfold Fdef.run at h
    by_cases hl : ds.length = fn.np
    · rw [hd.length, hl, hnp]
    · rw [if_neg hl] at h; exact h.elim
  · obtain ⟨av, ds, hav, hd, h⟩ := h
    simp only [phi, hT] at h
    refine ⟨_, hb (A.deeper (envOfC q (defScope st) s.heap.objs.size f cdv)) s H _ f cdv outer _ H av hav (fun cls d _ H => E cls d H) hr ⟨rfl, rfl, S.nd, rfl, rfl, ?_, takes_of rfl rfl rfl rfl, passes_of rfl⟩, entry hd hns (by rw [hnp]; exact hle) rfl h⟩
    have := hr.un
    show (A.deeper (envOfC q (defScope st) s.heap.objs.size f cdv)).units + 190 < cLine
    omega
/-- a def out of which no exception comes -/
theorem calm_ok {T : List Fdef} {F : Nat} {x : Str} {i n : Nat} {st : Stmt} {N ps : List Str} {fn : Fdef} {f : Addr} {fd : FuncData} {sp : Sp} (F0 : Fun K x x st f fd) (S : FnScope N ps (defScope st)) (hT : T[i]? = some fn) (hnp : fn.np = ps.length) (hns : fn.ns = N.length) (hle : ps.length ≤ N.length)
    (hb : Walk pr w K mg base ca N x st n (execs (phi T F n) F fn.body))
    (hsp : ∀ vs H Q E, sp vs H Q E → ∃ ds d, Dens K (fun _ => False) H vs ds ∧ phi T F (n + 1) i ds = .ok d ∧ ∀ v H', Same H H' → Den K (fun _ => False) H' v d → Q v H') : FnOk pr w K mg base L2.CX0 (n + 1) f fd ps sp := by
  refine F0.ok S (fun vs H Q E h => ?_) (fun cdv A outer s H vs Q E hr h => ?_)
  · obtain ⟨ds, d, hd, h, _⟩ := hsp vs H Q E h
    simp only [phi, hT] at h
    unfold Fdef.run at h
    by_cases hl : ds.length = fn.np
    · rw [hd.length, hl, hnp]
    · rw [if_neg hl] at h; cases h
  · obtain ⟨ds, d, hd, h, q⟩ := hsp vs H Q E h
    simp only [phi, hT] at h
    refine ⟨_, hb (A.deeper (envOfC x (defScope st) s.heap.objs.size f cdv)) s H _ f cdv outer (fun _ _ => False) H (fun _ => False) (fun _ z => z.elim) (fun _ _ _ _ => False) hr ⟨rfl, rfl, S.nd, rfl, rfl, ?_, takes0N, PassesOwn.never⟩, entry (E := fun _ _ _ => False) hd hns (by rw [hnp]; exact hle) rfl (by rw [h]; exact q)⟩
    have := hr.un
    show (A.deeper (envOfC x (defScope st) s.heap.objs.size f cdv)).units + 190 < cLine
    omega
/-- the law's own promise: at every script of at most k ints it answers True -/
def spLaw (k : Nat) (K : PySem.W.Frag) : Sp := fun vs H Q _ => ∃ (a : Addr) (ns : List Int), vs = [.ref a] ∧ SqL K H a (ns.map V.int) ∧ ns.length ≤ k ∧ ∀ H', Q (.bl true) H'
theorem law_ok {T : List Fdef} {F k : Nat} {x p : Str} {i n : Nat} {st : Stmt} {N : List Str} {fn : Fdef} {f : Addr} {fd : FuncData} (F0 : Fun K x x st f fd) (S : FnScope N [p] (defScope st)) (hT : T[i]? = some fn) (hnp : fn.np = 1) (hns : fn.ns = N.length) (hle : 1 ≤ N.length)
    (hb : Walk pr w K mg base ca N x st n (execs (phi T F n) F fn.body))
    (hm : ∀ ns : List Int, ns.length ≤ k → phi T F (n + 1) i [.list (ns.map .int)] = .ok (.bool true)) : FnOk pr w K mg base L2.CX0 (n + 1) f fd [p] (spLaw k K) :=
  calm_ok F0 S hT hnp hns hle hb fun vs H Q E ⟨a, ns, hv, hS, hl, q⟩ => ⟨[.list (ns.map .int)], .bool true, by rw [hv]; exact .cons (.list hS (.inl fun z => z) (dens_ints ns)) .nil, hm ns hl, fun v H' _ hd => by cases hd; exact q H'⟩
end
end
end Rf

set_option Elab.async false
set_option linter.all false
set_option maxRecDepth 100000
set_option maxHeartbeats 1000000
/-! Rf, part J: backwards. -/
namespace Rf
noncomputable section
open PySem PySem.Spec PyProof.Rows L2N
open L2 hiding CX HdsOk MkP PMk St Takes XE mk_of passAt passes_call pmk_own ps_raise ps_try_as ps_try_many takes_of
theorem rev_text (z : Str) (u : Tok) : Txt.sliceBy z none none (-1, u) = S z.cps.toList.reverse := by
  have h := step_rev_list z u
  have e : (Txt.sliceBy z none none (-1, u)).cps.toList = z.cps.toList.reverse := by
    rw [h]
    apply List.ext_getElem
    · simp [Str.length]
    · intro i h1 h2
      simp only [List.length_map, List.length_range] at h1
      simp only [List.getElem_map, List.getElem_range, List.getElem_reverse, Array.getElem_toList, Array.length_toList]
      have : z.length - 1 - i < z.cps.size := by show _ < z.length; omega
      rw [Array.getD_eq_getD_getElem?, Array.getElem?_eq_getElem this]
      rfl
  cases q : Txt.sliceBy z none none (-1, u) with
  | mk c =>
    rw [q] at e
    simp only at e
    rw [← e]
section
variable {X : Cx} {P : Pk} {N : List Str} {sc : Scope} {m : Nat} {Φ : FT} {A : Exp} {a : Expr} {pos : Pos}
theorem pe_revS {e : Expr} {te : L2.TE} {k : Nat} {p1 p2 p3 : Pos} (he : PE X e te) : PE X (.Subscript e (.Slice none none (some (.UnaryOp .USub (.Constant (.int 1) k p1) p2)) p3) pos) (fun σ H Q => te σ H fun x H1 => ∃ z, x = .str z ∧ z.length ≤ sizeLine ∧ Q (.str (S z.cps.toList.reverse)) H1) := by
  refine ⟨fun pins s σ H Q I h => ?_⟩
  refine Subscript_ (thn (he.run pins s σ H _ I h) fun v s1 ⟨x, H1, I1, r1, q1⟩ => ?_)
  obtain ⟨z, rfl, hz, q⟩ := q1
  obtain ⟨t, rfl⟩ := r1
  have third : PO X (some (.UnaryOp .USub (.Constant (.int 1) k p1) p2)) (tPart (tUn (rU fun i => .int (-i)) (tC (.int 1)))) := po_some (pe_un un_neg pe_int)
  refine wpAny_Slice (thn (po_none.run pins s1 σ H1 (fun o H2 => o = none ∧ H2 = H1) I1 ⟨rfl, rfl⟩) fun vl s2 ⟨l, H2, I2, pl, w1, w2⟩ => ?_)
  subst w1 w2
  refine thn (po_none.run pins s2 σ H2 (fun o H3 => o = none ∧ H3 = H2) I2 ⟨rfl, rfl⟩) fun vu s3 ⟨u, H3, I3, pu, w1, w2⟩ => ?_
  subst w1 w2
  refine thn (third.run pins s3 σ H3 (fun o H4 => o = some (-1) ∧ H4 = H3) I3 ⟨1, rfl, -1, rfl, rfl, rfl⟩) fun vs s4 ⟨o, H4, I4, ps, w1, w2⟩ => ?_
  subst w1 w2
  obtain ⟨l, rfl, hl⟩ := IsPart.raw pl
  obtain ⟨u, rfl, hu⟩ := IsPart.raw pu
  obtain ⟨st, rfl, hst⟩ := IsPart.raw ps
  have e1 : l = none := by cases l with | none => rfl | some _ => cases hl
  have e2 : u = none := by cases u with | none => rfl | some _ => cases hu
  subst e1 e2
  obtain ⟨tk, rfl⟩ : ∃ tk, st = some (-1, tk) := by
    cases st with
    | none => cases hst
    | some p => obtain ⟨i, tk⟩ := p; cases hst; exact ⟨tk, rfl⟩
  have I5 : Inv X pins σ H4 { s4 with heap := s4.heap.push { cls := .type "slice", data := .fields #[partValue none, partValue none, partValue (some (-1, tk))] } } := I4.kept (t' := s4.toks) fun b ob q => Heap.get?_push_of_some _ q
  show wpAny (model X.prog X.w) X.A (subscriptTail e (.Slice none none (some (.UnaryOp .USub (.Constant (.int 1) k p1) p2)) p3) (.str z t) (.ref s4.heap.objs.size)) (EP X pins σ Q) X.xe { s4 with heap := s4.heap.push { cls := .type "slice", data := .fields #[partValue none, partValue none, partValue (some (-1, tk))] } }
  refine tail_any (ops := [.ref s4.heap.objs.size, .str z t]) (typeIs_str _ z t) (PySem.F.slot_str_getitem.lookup) ?_ (by with_unfolding_all rfl)
  refine wpAny_getItem_str_slice (l := none) (u := none) (st := some (-1, tk)) ⟨_, Heap.get?_push_size _ rfl, rfl, rfl⟩ rfl ?_
  have c : ¬ (((((some ((-1 : Int), tk)).map (·.1)).getD 1 == 1) && ((slicePicked z none none (some (-1, tk))).length == z.length)) = true) := by
    have : ((((some ((-1 : Int), tk)).map (·.1)).getD 1 == 1)) = false := rfl
    rw [this]; simp
  have hs : sliceMade z t none none (some (-1, tk)) = .str (S z.cps.toList.reverse) := by
    rw [← rev_text z tk]
    unfold sliceMade Txt.sliceBy
    rw [if_neg c, if_neg c]
  rw [hs]
  refine ⟨?_, .str _, _, I5.tok _, ⟨_, rfl⟩, q⟩
  show (S z.cps.toList.reverse).cps.size ≤ sizeLine
  simpa [Str.length] using hz
theorem se_revS {k : Nat} {p1 p2 p3 : Pos} (ha : PE X a (lift P 0 (ev Φ A))) : PE X (.Subscript a (.Slice none none (some (.UnaryOp .USub (.Constant (.int 1) k p1) p2)) p3) pos) (lift P m (ev Φ (.revs A))) := by
  refine PE.imp (pe_revS ha) fun σ H Q ⟨e, R, p⟩ => ⟨e, R, ?_⟩
  simp only [ev] at p
  refine Post.weaken (bindZ (α := D) (m := 0) gdPost R p) fun v H1 ⟨x, _, s1, R1, d1, p1⟩ => ?_
  cases x with
  | str z =>
    obtain rfl := d2_str d1
    simp only [revsD] at p1
    split at p1
    · rename_i hz
      exact ⟨z, rfl, line_le hz, p1 _ H1 (Same.refl _) (DenM.up (.str _))⟩
    · exact p1.elim
  | _ => exact p1.elim
theorem se_revL (C : Ctx X P N sc) {k : Nat} {p1 p2 p3 : Pos} (ha : PE X a (lift P (sub m) (ev Φ A))) : PE X (.Subscript a (.Slice none none (some (.UnaryOp .USub (.Constant (.int 1) k p1) p2)) p3) pos) (liftN P m (ev Φ (.rev A))) := by
  refine PE.imp (pe_revL ha) fun σ H Q ⟨e, R, p⟩ => ⟨e, R, ?_⟩
  simp only [ev] at p
  refine Post.weaken (bindZ (α := D) (m := sub m) gdPostN R p) fun v H1 ⟨x, _, s1, R1, d1, p1⟩ => ?_
  cases x with
  | list xs =>
    unfold DenM at d1
    rw [av1_sub] at d1
    obtain ⟨l, us, rfl, h1, h2⟩ := d2_lst d1
    exact ⟨l, us, rfl, by rw [C.hK]; exact h1, fun p np => p1 _ _ (same_upd np) (new_lst np h2.reverse)⟩
  | _ => exact p1.elim
theorem Fr2.mono {K : PySem.W.Frag} {a1 b1 : Addr → Prop} {H H' : Hp} {z : V} {d : D} (f : ∀ a, b1 a → a1 a) (h : Fr2 K a1 H z H' d) : Fr2 K b1 H z H' d := by
  cases d with
  | list ds => obtain ⟨p, xs, e1, n, e, t⟩ := h; exact ⟨p, xs, e1, n, e, t.imp (fun _ _ z => z) fun a _ z => z.imp (f a) id⟩
  | dict ds => obtain ⟨p, xs, e1, n, e, t⟩ := h; exact ⟨p, xs, e1, n, e, t.imp (fun _ _ z => z) fun a _ z => z.imp (f a) id⟩
  | none => exact Den.imp (fun _ _ z => z) (fun a _ => f a) h
  | bool _ => exact Den.imp (fun _ _ z => z) (fun a _ => f a) h
  | int _ => exact Den.imp (fun _ _ z => z) (fun a _ => f a) h
  | str _ => exact Den.imp (fun _ _ z => z) (fun a _ => f a) h
  | tuple _ => exact Den.imp (fun _ _ z => z) (fun a _ => f a) h
theorem PE.modeN {f : Sl → Res D} (h : PE X a (liftN P 2 f)) : PE X a (liftN P m f) := Rf.PE.imp h fun σ H Q ⟨e, R, p⟩ => ⟨e, R, by
  cases q : f e with
  | ok d => rw [q] at p; exact fun v H' s hd => p v H' s (hd.mono fun a z => by
      match m with
      | 0 => exact .inl z
      | _ + 1 => exact z)
  | ex c => rw [q] at p; exact p
  | stuck => rw [q] at p; exact p⟩
theorem se_globI {x : Str} {i : Int} {t : Tok} (hg : X.env.kindOf x = some .globalImplicit) (hm : X.mg x = some (.int i t)) (hdb : (x == ("__debug__" : Str)) = false := by decide) : PE X (.Name x pos) (lift P m (ev Φ (.con (.int i)))) := se_glob (v := .int i) hg hm ⟨_, rfl⟩ (fun _ _ => .int i) hdb
theorem se_globS {x i : Str} {t : Tok} (hg : X.env.kindOf x = some .globalImplicit) (hm : X.mg x = some (.str i t)) (hdb : (x == ("__debug__" : Str)) = false := by decide) : PE X (.Name x pos) (lift P m (ev Φ (.con (.str i)))) := se_glob (v := .str i) hg hm ⟨_, rfl⟩ (fun _ _ => .str i) hdb
theorem se_globB {x : Str} {i : Bool} (hg : X.env.kindOf x = some .globalImplicit) (hm : X.mg x = some (.bool i)) (hdb : (x == ("__debug__" : Str)) = false := by decide) : PE X (.Name x pos) (lift P m (ev Φ (.con (.bool i)))) := se_glob (v := .bl i) hg hm rfl (fun _ _ => .bool i) hdb
end
end
end Rf

set_option Elab.async false
set_option linter.all false
set_option maxRecDepth 100000
set_option maxHeartbeats 1000000
/-! Rf, part L: raise; try with a clause that returns a constant. -/
namespace Rf
noncomputable section
open PySem PySem.Spec PyProof.Rows L2N
open L2 hiding CX HdsOk MkP PMk St Takes XE mk_of passAt passes_call pmk_own ps_raise ps_try_as ps_try_many takes_of
section
variable {X : Cx} {P : Pk} {N : List Str} {sc : Scope} {Φ : FT} {F : Nat} {a b : Expr} {pos : Pos}
theorem ss_raise (C : Ctx X P N sc) {c : Nat} (pm : PMk X a (fun _ H Q => Q (.ref (P.ca c)) none H)) : PS X (.Raise (some a) none pos) (liftS P (exec Φ F (.rse c))) :=
  PS.imp (ps_raise C.calm C.tk pm) fun D σ H ⟨e, R, p⟩ => by
    simp only [exec] at p
    exact p σ H R
/-- an own class of exceptions at A -/
structure XCls (K : PySem.W.Frag) (mg : Str → Option Value) (x : Str) (A : Addr) : Prop where
  g : mg x = some (.ref A)
  e : PySem.W.excIn K A [.type "ValueError", .type "Exception", .type "BaseException", .type "object"] "ValueError.__new__" = true
  k : PySem.W.keepIn K (.ref A) = true
  b : PySem.W.subIn K (.ref A) (.type "BaseException") = some true
  t : PySem.W.typeIn K (.ref A) = some (.type "type")
theorem pm_own {x m : Str} {j : Nat} {p p2 : Pos} {A : Addr} (h : XCls X.K X.mg x A) (hg : X.env.kindOf x = some .globalImplicit) (hdb : (x == ("__debug__" : Str)) = false := by decide) :
    PMk X (.Call (.Name x p) [.Constant (.str m) j p2] [] pos) (fun _ H Q => Q (.ref A) none H) :=
  pmk_own PySem.F.excBase_ValueError h.e h.g h.k (raises_own h.b h.t) hg hdb
/-- a value read while the error stands in slot i -/
def tK (i : Nat) (e : Addr) (v : V) : L2.TE := fun σ H Q => σ[i]? = some (some (.ref e)) ∧ ∀ H', Same H H' → Q v H'
theorem xk_c {i : Nat} {e : Addr} {v : V} (h : PE X a (tC v)) : PE X a (tK i e v) := PE.imp h fun σ H Q h => h.2 H (Same.refl H)
theorem xk_and {rest : List Expr} {i : Nat} {e : Addr} {k l : Bool} (ha : PE X a (tK i e (.bl k))) (hb : PE X (.BoolOp .And (b :: rest) pos) (tK i e (.bl l))) : PE X (.BoolOp .And (a :: b :: rest) pos) (tK i e (.bl (k && l))) :=
  PE.imp (pe_and ha hb) fun σ H Q h => ⟨h.1, fun H' s => ⟨k, rfl, by
    cases k with
    | true => exact ⟨h.1, fun H2 s2 => h.2 H2 (s.trans s2)⟩
    | false => exact h.2 H' s⟩⟩
theorem xk_one {op : BoolOp} {i : Nat} {e : Addr} {v : V} (ha : PE X a (tK i e v)) : PE X (.BoolOp op [a] pos) (tK i e v) := pe_one ha
theorem xk_not {i : Nat} {e : Addr} {k : Bool} (ha : PE X a (tK i e (.bl k))) : PE X (.UnaryOp .Not a pos) (tK i e (.bl (!k))) :=
  PE.imp (pe_not ha) fun σ H Q h => ⟨h.1, fun H' s => ⟨k, rfl, h.2 H' s⟩⟩
theorem xk_is {i : Nat} {e D A : Addr} {oe : Obj} {pn : List (Addr × Obj)} {n x : Str} {p pn' px : Pos} {k : Bool} (E : ExcC X.K D) (hz : Zc (.ref D) none oe) (hf : ∃ vs, oe.data = .fields vs) (hN : X.N[i]? = some n) (hv : Vis X.env.scope n)
    (hg : X.env.kindOf "isinstance" = some .globalImplicit) (hm : X.mg "isinstance" = none) (hgx : X.env.kindOf x = some .globalImplicit) (hmx : X.mg x = some (.ref A)) (hk : PySem.W.kitOne X.K (.ref D) (.ref A) = some k)
    (hd : (n == ("__debug__" : Str)) = false := by decide) (hcd : (n == ("__classdict__" : Str)) = false := by decide) (hdx : (x == ("__debug__" : Str)) = false := by decide) :
    PE (X.suite e ((e, oe) :: pn)) (.Call (.Name "isinstance" p) [.Name n pn', .Name x px] [] pos) (tK i e (.bl k)) :=
  PE.imp (pe_callB (call_isE E hz hf) hg hm (by decide +kernel) (pa_cons (pe_var (i := i) hN hv hd hcd) (pa_cons (pe_glob (v := .ref A) hgx hmx rfl hdx) pa_nil)) (by decide) (by decide)) fun σ H Q h =>
    ⟨.ref e, h.1, .ref A, .ref A, k, rfl, fun u hu => hu, hk, h.2 H (Same.refl H)⟩
/-- a clause that only returns -/
def tX (i : Nat) (e : Addr) (v : V) : L2.TS := fun D σ H => σ[i]? = some (some (.ref e)) ∧ ∀ H', Same H H' → D.rt v H'
/-- isinstance(e, (A, B)) -/
theorem call_isET {X : Cx} {a D : Addr} {oe : Obj} {pn : List (Addr × Obj)} (E : ExcC X.K D) (hz : Zc (.ref D) none oe) (hf : ∃ vs, oe.data = .fields vs) : CallR (X.suite a ((a, oe) :: pn)) (.builtin "isinstance") (fun xs H Q => ∃ (tp A B : Addr) (b : Bool), xs = [.ref a, .ref tp] ∧ H tp = some (.tup [.ref A, .ref B]) ∧ PySem.W.kitAny X.K (.ref D) [.ref A, .ref B] = some b ∧ Q (.bl b) H) := by
  intro pins s σ H xs us Q I r hyp
  obtain ⟨tp, A, B, b, rfl, hT, hk, fin⟩ := hyp
  obtain ⟨u1, u2, rfl, r1, r2⟩ := vals2 r
  obtain rfl : u1 = Value.ref a := r1
  obtain rfl : u2 = Value.ref tp := r2
  have there := (I.pin (a, oe) (List.mem_append.mpr (.inl List.mem_cons_self))).1
  have inst : PySem.W.InstAt s.heap a oe D none := by
    rcases oe with ⟨c1, c2, c3, c4⟩
    rcases hz with ⟨z1, z2⟩
    rcases hf with ⟨vs, hv⟩
    simp only at z1 z2 hv
    subst z1; subst z2; subst hv
    exact ⟨there, rfl, rfl, trivial⟩
  have tup : ObjOk X.prog X.w H s.heap tp (.tup [.ref A, .ref B]) := I.hok tp _ hT
  obtain ⟨_, its, rv, o, g1, g2, n, g3⟩ := tup
  have eits : its = [Value.ref A, Value.ref B] := by
    cases rv with
    | cons x1 rest =>
      cases rest with
      | cons x2 rest =>
        cases rest
        obtain rfl := x1
        obtain rfl := x2
        rfl
  subst eits
  rcases o with ⟨c1, c2, c3, c4⟩
  simp only at g2 g3
  subst g2; subst g3
  exact PySem.W.kia_tup (PySem.W.handS_kitx_exc E.hg E.hk E.hs E.hd E.ha E.hn E.ht E.hm) I.kIn inst g1 hk (fun z => nomatch z) fun tk => ⟨.bl b, H, I.kept (t' := tk) fun _ _ z => z, rfl, fin⟩
theorem xk_isT {i : Nat} {e D A B : Addr} {oe : Obj} {pn : List (Addr × Obj)} {n x y : Str} {p pn' px py pt : Pos} {k k2 b : Bool} {kk : Nat} (E : ExcC X.K D) (hz : Zc (.ref D) none oe) (hf : ∃ vs, oe.data = .fields vs) (hN : X.N[i]? = some n) (hv : Vis X.env.scope n)
    (hg : X.env.kindOf "isinstance" = some .globalImplicit) (hm : X.mg "isinstance" = none) (hgx : X.env.kindOf x = some .globalImplicit) (hmx : X.mg x = some (.ref A)) (hgy : X.env.kindOf y = some .globalImplicit) (hmy : X.mg y = some (.ref B)) (hk : PySem.W.kitOne X.K (.ref D) (.ref A) = some k) (hk2 : PySem.W.kitOne X.K (.ref D) (.ref B) = some k2) (hb : b = (k || k2))
    (hd : (n == ("__debug__" : Str)) = false := by decide) (hcd : (n == ("__classdict__" : Str)) = false := by decide) (hdx : (x == ("__debug__" : Str)) = false := by decide) (hdy : (y == ("__debug__" : Str)) = false := by decide) :
    PE (X.suite e ((e, oe) :: pn)) (.Call (.Name "isinstance" p) [.Name n pn', .Tuple [.Name x px, .Name y py] kk pt] [] pos) (tK i e (.bl b)) :=
  PE.imp (pe_callB (call_isET E hz hf) hg hm (by decide +kernel) (pa_cons (pe_var (i := i) hN hv hd hcd) (pa_cons (pe_tup (pa_cons (pe_glob (v := .ref A) hgx hmx rfl hdx) (pa_cons (pe_glob (v := .ref B) hgy hmy rfl hdy) pa_nil))) pa_nil)) (by decide) (by decide)) fun σ H Q h =>
    ⟨.ref e, h.1, (by show 2 ≤ sizeLine; decide), fun q nq => ⟨q, A, B, b, rfl, upd_same, kitAny_cons hk (fun e1 => kitAny_cons hk2 (fun e2 => by rw [kitAny_nil, hb, e1, e2]; rfl) (fun e2 => by rw [hb, e1, e2]; rfl)) (fun e1 => by rw [hb, e1]; rfl), h.2 _ (same_upd nq)⟩⟩
theorem xs_ret {i : Nat} {e : Addr} {v : V} (h : PE X a (tK i e v)) : PSs X [.Return (some a) pos] (tX i e v) := PSs.imp (pss_one (ps_ret h)) fun D σ H h => h
@[reducible] def Pk.wi (P : Pk) (W : WX) : Pk := { P with W := W }
theorem Rel.wi {P : Pk} {W : WX} {e : Sl} {σ : L2.St} {H : Hp} (R : Rel P e σ H) : Rel (P.wi W) e σ H := ⟨R.len, R.slot, R.inj, R.fr, R.new⟩
theorem Rel.iw {P : Pk} {W : WX} {e : Sl} {σ : L2.St} {H : Hp} (R : Rel (P.wi W) e σ H) : Rel P e σ H := ⟨R.len, R.slot, R.inj, R.fr, R.new⟩
/-- a flat value -/
def flV : D → Option V
  | .bool k => some (.bl k)
  | .none => some .non
  | .int i => some (.int i)
  | _ => none
theorem flV_den {K : PySem.W.Frag} {av : Addr → Prop} {H : Hp} {d : D} {v : V} (h : flV d = some v) : Den K av H v d := by
  cases d <;> simp only [flV, Option.some.injEq, reduceCtorEq] at h <;> subst h
  · exact .none
  · exact .bool _
  · exact .int _
theorem mem_lk : ∀ {r : List (Nat × D)} {c : Nat} {d : D}, r.lookup c = some d → (c, d) ∈ r
  | [], _, _, h => by simp at h
  | (k, v) :: r, c, d, h => by
    rw [List.lookup_cons] at h
    by_cases e : (c == k) = true
    · rw [e] at h
      have e2 : c = k := by simpa using e
      cases h
      rw [e2]
      exact List.mem_cons_self ..
    · rw [show (c == k) = false by simpa using e] at h
      exact List.mem_cons_of_mem _ (mem_lk h)
theorem ss_try (C : Ctx X P N sc) {x n : Str} {A : Addr} {i : Nat} {body suite : List Stmt} {b0 : Stmt} {np pos' : Pos} {B : List Stm} {ok : List Nat} {r : List (Nat × D)} (hs : X.stack = X.env :: X.outer) (hf : X.env.frame = some X.env.locals)
    (hi : N[i]? = some n) (hln : X.env.kindOf n = some .local) (hg : X.env.kindOf x = some .globalImplicit) (hm : X.mg x = some (.ref A))
    (hy : ∀ p ∈ r, PySem.W.exmOne P.K (.ref (P.ca p.1)) (.ref A) = some true ∧ ∃ v, flV p.2 = some v ∧ ∀ (a : Addr) (oe : Obj) (pn : List (Addr × Obj)), Zc (.ref (P.ca p.1)) none oe → (∃ vs, oe.data = .fields vs) → PSs (X.suite a ((a, oe) :: pn)) (b0 :: suite) (tX i a v))
    (hno : ∀ c ∈ ok, PySem.W.exmOne P.K (.ref (P.ca c)) (.ref A) = some false)
    (hb : ∀ (W : WX) (pn : List (Addr × Obj)) (xe : Value → Shared → Prop), Ctx (X.tr pn xe) (P.wi W) N sc → PSs (X.tr pn xe) body (liftS (P.wi W) (execs Φ F B))) (hdb : (x == ("__debug__" : Str)) = false := by decide) :
    PS X (.Try body [.ExceptHandler (some (.Name x np)) (some n) (b0 :: suite) pos'] [] [] pos) (liftS P (exec Φ F (.tri i B ok r))) := by
  have hyes : ∀ c d, r.lookup c = some d → PySem.W.exmOne P.K (.ref (P.ca c)) (.ref A) = some true ∧ ∃ v, flV d = some v ∧ ∀ (a : Addr) (oe : Obj) (pn : List (Addr × Obj)), Zc (.ref (P.ca c)) none oe → (∃ vs, oe.data = .fields vs) → PSs (X.suite a ((a, oe) :: pn)) (b0 :: suite) (tX i a v) := fun c d h => hy (c, d) (mem_lk h)
  refine PS.imp (ps_try_as (c := .ref A) (ts := fun a cls d => fun D σ H => ∃ c dd v, cls = .ref (P.ca c) ∧ d = none ∧ r.lookup c = some dd ∧ flV dd = some v ∧ tX i a v D σ H) (Wout := P.W) (tb := fun W => liftS (P.wi W) (execs Φ F B)) hs hf (by rw [C.hN]; exact C.nd) (by rw [C.hN]; exact hi) hln ⟨hg, hdb, .inl hm⟩ C.tk
    (fun W pn xe tk po => hb W pn xe ⟨C.hK, C.hN, C.nd, C.hs, C.calm, C.un, tk, po⟩)
    (fun a oe cls d pn hz hfl => ⟨fun pins s σ H D I h => ?_⟩)) fun D σ H ⟨e, R, p⟩ => ⟨e, R.wi, ?_⟩
  · obtain ⟨c, dd, v, rfl, rfl, hl, hv, h⟩ := h
    obtain ⟨_, v', hv', hp⟩ := hyes c dd hl
    rw [hv] at hv'
    cases hv'
    exact (hp a oe pn hz.zc hfl).run pins s σ H D I h
  · simp only [exec] at p
    cases q : execs Φ F B e with
    | nx e' => rw [q] at p; exact fun σ' H' R' => p σ' H' R'.iw
    | ret x => rw [q] at p; exact p
    | bk e' => rw [q] at p; exact fun σ' H' R' => p σ' H' R'.iw
    | ct e' => rw [q] at p; exact fun σ' H' R' => p σ' H' R'.iw
    | stuck => rw [q] at p; exact p
    | ex c e' =>
      rw [q] at p
      intro σ' H' R'
      cases ql : r.lookup c with
      | some dd =>
        simp only [ql] at p
        obtain ⟨he, v, hv, _⟩ := hyes c dd ql
        split at p
        · rename_i hlt
          refine ⟨true, by rw [C.hK]; exact he, fun _ a na => ⟨c, dd, v, rfl, rfl, ql, hv, ?_, ?_⟩, fun z => Bool.noConfusion z⟩
          · rw [List.getElem?_set_self]
            rw [R'.len]
            exact hlt
          · exact fun H2 s2 => p v H2 (R'.fr.trans s2) (flV_den hv)
        · exact p.elim
      | none =>
        simp only [ql] at p
        by_cases ho : ok.contains c = true
        · rw [if_pos ho] at p
          exact ⟨false, by rw [C.hK]; exact hno c (by simpa using ho), fun z => Bool.noConfusion z, fun _ => p σ' H' R'.iw⟩
        · rw [if_neg ho] at p; exact p.elim
def tX0 (v : V) : L2.TS := fun D _ H => ∀ H', Same H H' → D.rt v H'
theorem xs_ret0 {v : V} (h : PE X a (tC v)) : PSs X [.Return (some a) pos] (tX0 v) := PSs.imp (pss_one (ps_ret h)) fun D σ H h => h H (Same.refl H)
theorem se_globK {x : Str} {A : Addr} {d : D} {m : Nat} (hg : X.env.kindOf x = some .globalImplicit) (hm : X.mg x = some (.ref A)) (hd : ∀ (av : Addr → Prop) (H : Hp), Den P.K av H (.ref A) d) (hdb : (x == ("__debug__" : Str)) = false := by decide) : PE X (.Name x pos) (lift P m (ev Φ (.con d))) := se_glob (v := .ref A) hg hm rfl hd hdb
/-- the facts of a class for the clauses that name it, and for its instances -/
structure XFull (K : PySem.W.Frag) (mg : Str → Option Value) (x : Str) (A : Addr) : Prop extends XCls K mg x A where
  hd : PySem.W.hasDictIn K A = true
  ex : ExcC K A
theorem XFull.exm {K : PySem.W.Frag} {mg : Str → Option Value} {x : Str} {A : Addr} {cls : Value} {k : Bool} (h : XFull K mg x A) (s : PySem.W.subIn K cls (.ref A) = some k) : PySem.W.exmOne K cls (.ref A) = some k := PySem.W.exm_ref h.b h.hd h.t s
theorem kit_c {K : PySem.W.Frag} {D A : Addr} {k : Bool} (hd : PySem.W.hasDictIn K A = true) (ht : PySem.W.typeIn K (.ref A) = some (.type "type")) (hs : PySem.W.subIn K (.ref D) (.ref A) = some k) : PySem.W.kitCls K (.ref D) (.ref A) = some k := by
  obtain ⟨cd, hc, _⟩ := PySem.W.any_some hd
  have e2 : ((PySem.W.clsIn K A).isSome && PySem.W.typeIn K (.ref A) == some (.type "type")) = true := by rw [hc, ht] <;> rfl
  show (if ((PySem.W.clsIn K A).isSome && PySem.W.typeIn K (.ref A) == some (.type "type")) = true then PySem.W.subIn K (.ref D) (.ref A) else none) = some k
  rw [if_pos e2]
  exact hs
theorem kit_t {K : PySem.W.Frag} {D A : Addr} (hd : PySem.W.hasDictIn K A = true) (ht : PySem.W.typeIn K (.ref A) = some (.type "type")) (hs : PySem.W.subIn K (.ref D) (.ref A) = some true) : PySem.W.kitOne K (.ref D) (.ref A) = some true := by
  unfold PySem.W.kitOne
  split
  · rfl
  · exact kit_c hd ht hs
theorem kit_f {K : PySem.W.Frag} {D A : Addr} (hd : PySem.W.hasDictIn K A = true) (ht : PySem.W.typeIn K (.ref A) = some (.type "type")) (hs : PySem.W.subIn K (.ref D) (.ref A) = some false) (hn : (Value.ref D == Value.ref A) = false) : PySem.W.kitOne K (.ref D) (.ref A) = some false := by
  unfold PySem.W.kitOne
  rw [if_neg (by rw [hn]; exact Bool.false_ne_true)]
  exact kit_c hd ht hs
end
end
end Rf

set_option Elab.async false
set_option linter.all false
set_option maxRecDepth 100000
set_option maxHeartbeats 1000000
/-! Rf, part M: d.get(k, x); for k in d. -/
namespace Rf
noncomputable section
open PySem PySem.Spec PyProof.Rows L2N
open L2 hiding CX HdsOk MkP PMk St Takes XE mk_of passAt passes_call pmk_own ps_raise ps_try_as ps_try_many takes_of
section
variable {X : Cx} {P : Pk} {N : List Str} {sc : Scope} {m F : Nat} {Φ : FT} {A B E : Exp} {ES : List Exp} {a b c tg : Expr} {es : List Expr} {pos : Pos}
theorem se_get (C : Ctx X P N sc) {apos : Pos} (ha : PE X a (lift P (sub m) (ev Φ A))) (hb : PE X b (lift P 0 (ev Φ B))) (hc : PE X c (lift P m (ev Φ E))) (m2 : M2 X a "get" apos b c pos := by exact ⟨rfl, rfl, rfl, rfl⟩) :
    PE X (.Call (.Attribute a "get" apos) [b, c] [] pos) (lift P m (ev Φ (.dget A B E))) := by
  refine PE.imp (pe_dget2 C.u1 ha hb hc m2) fun σ H Q ⟨e, R, p⟩ => ⟨e, R, ?_⟩
  simp only [ev] at p
  refine Post.weaken (bindZ (α := D) (m := sub m) gdPost R p) fun v H1 ⟨x, _, s1, R1, d1, p1⟩ => ?_
  cases x with
  | dict kvs =>
    obtain ⟨l, ks, rfl, h1, h2, h3⟩ := d1
    rw [av1_sub] at h3
    refine ⟨l, rfl, .inl ⟨ks, h1⟩, e, R1, ?_⟩
    simp only [] at p1
    refine Post.weaken (bindZ (α := D) (m := 0) gdPost R1 p1) fun w H2 ⟨y, _, s2, R2, d2, p2⟩ => ⟨e, R2, ?_⟩
    refine Post.weaken (bindZ (α := D) (m := m) gdPost R2 p2) fun u H3 ⟨z, _, s3, R3, d3, p3⟩ => ?_
    simp only [mthD] at p3
    split at p3
    · rename_i hk
      obtain ⟨k, hk⟩ := Option.isSome_iff_exists.mp hk
      obtain rfl := keyD_of hk
      obtain rfl := keyV d2
      have h1' := same_rd (s2.trans s3) h1
      have h3' := h3.same (s2.trans s3)
      rcases look_of k h3' with ⟨g1, g2⟩ | ⟨x', v', g1, g2, g3⟩
      · rw [g1] at p3
        exact ⟨none, .inl ⟨ks, k, h1', rfl, g2.symm⟩, p3 _ H3 (Same.refl _) d3⟩
      · rw [g1] at p3
        exact ⟨some v', .inl ⟨ks, k, h1', rfl, g2.symm⟩, p3 _ H3 (Same.refl _) (DenM.up g3)⟩
    · exact p3.elim
  | _ => exact p1.elim
end

/-! ### a dict walked -/
section
variable {K : PySem.W.Frag} {av : Addr → Prop} {H H' : Hp}
def NotF (u : HO) : Prop := ∀ o u', u ≠ .frz o u'
theorem notF_lst {xs : List V} : NotF (.lst xs) := fun _ _ z => nomatch z
theorem notF_tup {xs : List V} : NotF (.tup xs) := fun _ _ z => nomatch z
theorem notF_dK {xs : List (Key × V)} : NotF (.dK xs) := fun _ _ z => nomatch z
mutual
theorem Den.impR (f : ∀ a u, NotF u → Rd H a u → Rd H' a u) : ∀ {v : V} {d : D}, Den K av H v d → Den K av H' v d
  | _, _, .none => .none
  | _, _, .bool b => .bool b
  | _, _, .int i => .int i
  | _, _, .str x => .str x
  | _, _, .list h n t => .list (h.imp (f _ _ notF_lst) id) n (Dens.impR f t)
  | _, _, .tuple h t => .tuple (h.imp (f _ _ notF_tup) id) (Dens.impR f t)
  | _, _, .dict h n t => .dict (f _ _ notF_dK h) n (DenKs.impR f t)
theorem Dens.impR (f : ∀ a u, NotF u → Rd H a u → Rd H' a u) : ∀ {v : List V} {d : List D}, Dens K av H v d → Dens K av H' v d
  | _, _, .nil => .nil
  | _, _, .cons a b => .cons (Den.impR f a) (Dens.impR f b)
theorem DenKs.impR (f : ∀ a u, NotF u → Rd H a u → Rd H' a u) : ∀ {v : List (Key × V)} {d : List (D × D)}, DenKs K av H v d → DenKs K av H' v d
  | _, _, .nil => .nil
  | _, _, .cons a b => .cons (Den.impR f a) (DenKs.impR f b)
end
theorem rd_lock {d : Addr} {u : HO} {od : Obj} (h : H d = some u) (mu : NotF u) : ∀ a w, NotF w → Rd H a w → Rd (upd H d (.frz od u)) a w := fun a w hw r => by
  by_cases e : a = d
  · subst e
    rcases r with r | ⟨o, r⟩
    · rw [h] at r; cases r; exact .inr ⟨od, upd_same⟩
    · rw [h] at r; cases r; exact absurd rfl (mu o w)
  · exact r.imp (fun r => by rw [upd_ne e]; exact r) fun ⟨o, r⟩ => ⟨o, by rw [upd_ne e]; exact r⟩
theorem rd_unlock {d : Addr} {u : HO} {od : Obj} (h : H d = some (.frz od u)) : ∀ a w, NotF w → Rd H a w → Rd (upd H d u) a w := fun a w hw r => by
  by_cases e : a = d
  · subst e
    rcases r with r | ⟨o, r⟩
    · rw [h] at r; cases r; exact absurd rfl (hw od u)
    · rw [h] at r; cases r; exact .inl upd_same
  · exact r.imp (fun r => by rw [upd_ne e]; exact r) fun ⟨o, r⟩ => ⟨o, by rw [upd_ne e]; exact r⟩
theorem SlotOk.impR (f : ∀ a u, NotF u → Rd H a u → Rd H' a u) : ∀ {s : Slot} {o : Option V}, (∀ b, isOwn s = true → o = some (.ref b) → H' b = H b) → SlotOk K av H s o → SlotOk K av H' s o
  | .un, _, _, _ => trivial
  | .d _, _, _, ⟨v, h, d⟩ => ⟨v, h, d.impR f⟩
  | .ol _, _, g, ⟨b, ys, h, q, d⟩ => ⟨b, ys, h, by rw [g b rfl h]; exact q, d.impR f⟩
  | .od _, _, g, ⟨b, ys, h, q, d⟩ => ⟨b, ys, h, by rw [g b rfl h]; exact q, d.impR f⟩
  | .on _, _, g, ⟨b, ys, h, q, z, d⟩ => ⟨b, ys, h, by rw [g b rfl h]; exact q, z, d.mp fun _ _ y => y.impR f⟩
  | .rn _, _, _, ⟨b, ys, h, q, z, n, d⟩ => ⟨b, ys, h, f _ _ (fun _ _ z => nomatch z) q, z, n, d.mp fun _ _ y => y.impR f⟩
  | .ob _, _, _, h => h
end
section
variable {P : Pk} {e : Sl} {σ : L2.St} {H : Hp}
theorem Rel.lock (R : Rel P e σ H) {d : Addr} {u : HO} {od : Obj} (h : H d = some u) (mu : NotF u) (no : ¬ Owns e σ d) : ∃ hav : ∀ a, P.Av a → lessOwn e σ (upd H d (.frz od u)) a ≠ none, Rel (P.blk P.Av (lessOwn e σ (upd H d (.frz od u))) hav) e σ (upd H d (.frz od u)) := by
  have hav : ∀ a, P.Av a → lessOwn e σ (upd H d (.frz od u)) a ≠ none := fun a z => by
    unfold lessOwn
    rw [if_neg fun w => R.own_av w z]
    by_cases ed : a = d
    · rw [ed, upd_same]; exact fun z => nomatch z
    · rw [upd_ne ed]; exact R.av_ne (.inl z)
  refine ⟨hav, R.len, fun i s o h1 h2 => ?_, R.inj, fun b o q => ?_, fun b z => ?_⟩
  · refine SlotOk.impR (rd_lock h mu) (fun b hs hb => ?_) (R.slot i s o h1 h2)
    subst hb
    exact upd_ne fun z => no ⟨i, s, h1, hs, by rw [← z]; exact h2⟩
  · have q : lessOwn e σ (upd H d (.frz od u)) b = some o := q
    unfold lessOwn at q
    split at q
    · cases q
    · exact q
  · show lessOwn e σ (upd H d (.frz od u)) b = none
    unfold lessOwn
    rw [if_pos z]
theorem base_lock (R : Rel P e σ H) {d : Addr} {u : HO} {od : Obj} {H' : Hp} (h : H d = some u) (s : Same (lessOwn e σ (upd H d (.frz od u))) H') : Same P.H0 (upd H' d u) := fun b o q => by
  have q1 := R.fr _ _ q
  by_cases ed : b = d
  · subst ed
    rw [upd_same]
    rw [h] at q1
    exact q1
  · rw [upd_ne ed]
    refine s _ _ ?_
    unfold lessOwn
    rw [if_neg (fun z => by rw [R.new b z] at q; cases q), upd_ne ed]
    exact q1
theorem base_frz (R : Rel P e σ H) {d : Addr} {u : HO} {od : Obj} {H' : Hp} (no : ¬ Owns e σ d) (s : Same (lessOwn e σ (upd H d (.frz od u))) H') : H' d = some (.frz od u) := by
  refine s _ _ ?_
  unfold lessOwn
  rw [if_neg no, upd_same]
theorem Rel.unlock (R : Rel P e σ H) {d : Addr} {u : HO} {od : Obj} (h : H d = some u) (no : ¬ Owns e σ d) {hav : ∀ a, P.Av a → lessOwn e σ (upd H d (.frz od u)) a ≠ none} {e' : Sl} {σ' : L2.St} {H' : Hp} (R' : Rel (P.blk P.Av (lessOwn e σ (upd H d (.frz od u))) hav) e' σ' H') :
    H' d = some (.frz od u) ∧ Rel P e' σ' (upd H' d u) := by
  have hd := base_frz R no R'.fr
  refine ⟨hd, R'.len, fun i s o h1 h2 => ?_, R'.inj, base_lock R h R'.fr, fun b z => ?_⟩
  · have so := R'.slot i s o h1 h2
    refine SlotOk.impR (rd_unlock hd) (fun b hs hb => ?_) so
    subst hb
    refine upd_ne fun z => ?_
    subst z
    exact (R'.kinds b ⟨i, s, h1, hs, h2⟩).2 _ _ hd
  · have q : lessOwn e σ (upd H d (.frz od u)) b = none := R'.new b z
    cases q2 : P.H0 b with
    | none => rfl
    | some o =>
      exfalso
      unfold lessOwn at q
      split at q
      · rename_i w; rw [R.new b w] at q2; cases q2
      · by_cases ed : b = d
        · rw [ed, upd_same] at q; cases q
        · rw [upd_ne ed, R.fr _ _ q2] at q; cases q
theorem PostS.lock (R : Rel P e σ H) {d : Addr} {u : HO} {od : Obj} (h : H d = some u) (no : ¬ Owns e σ d) {hav : ∀ a, P.Av a → lessOwn e σ (upd H d (.frz od u)) a ≠ none} {D : Ends} : ∀ {o : Out}, PostS P D o.calm →
    PostS (P.blk P.Av (lessOwn e σ (upd H d (.frz od u))) hav) ⟨fun σ' H' => H' d = some (.frz od u) ∧ D.nx σ' (upd H' d u), fun v H' => H' d = some (.frz od u) ∧ D.rt v (upd H' d u), fun σ' H' => H' d = some (.frz od u) ∧ D.bk σ' (upd H' d u), fun σ' H' => H' d = some (.frz od u) ∧ D.ct σ' (upd H' d u)⟩ o
  | .nx _, p => fun σ' H' r => let ⟨q1, q2⟩ := R.unlock h no r; ⟨q1, p _ _ q2⟩
  | .ret _, p => fun v H' s dd => ⟨base_frz R no s, p v _ (base_lock R h s) (Den.impR (rd_unlock (base_frz R no s)) dd)⟩
  | .bk _, p => fun σ' H' r => let ⟨q1, q2⟩ := R.unlock h no r; ⟨q1, p _ _ q2⟩
  | .ct _, p => fun σ' H' r => let ⟨q1, q2⟩ := R.unlock h no r; ⟨q1, p _ _ q2⟩
  | .ex _ _, p => p.elim
  | .stuck, p => p.elim
theorem PostS.intob (R : Rel P e σ H) {hav : ∀ a, P.Av a → lessOwn e σ H a ≠ none} {D : Ends} : ∀ {o : Out}, PostS P D o.calm → PostS (P.blk P.Av (lessOwn e σ H) hav) D o
  | .nx _, h => fun σ' H' r => h σ' H' ⟨r.len, r.slot, r.inj, (base_same R).trans r.fr, (R.out ⟨r.len, r.slot, r.inj, r.fr, r.new⟩).new⟩
  | .ret _, h => fun v H' s d => h v H' ((base_same R).trans s) d
  | .bk _, h => fun σ' H' r => h σ' H' ⟨r.len, r.slot, r.inj, (base_same R).trans r.fr, (R.out ⟨r.len, r.slot, r.inj, r.fr, r.new⟩).new⟩
  | .ct _, h => fun σ' H' r => h σ' H' ⟨r.len, r.slot, r.inj, (base_same R).trans r.fr, (R.out ⟨r.len, r.slot, r.inj, r.fr, r.new⟩).new⟩
  | .ex _ _, h => h.elim
  | .stuck, h => h
end
section
variable {X : Cx} {P : Pk} {N : List Str} {sc : Scope} {m F : Nat} {Φ : FT} {tg : Expr} {pos : Pos}
theorem keys_get {K : PySem.W.Frag} {av : Addr → Prop} {H : Hp} : ∀ {ks : List (Key × V)} {kvs : List (Rf.D × Rf.D)}, DenKs K av H ks kvs → ∀ {i : Nat} {k : Key} {v : V} {d : Rf.D}, ks[i]? = some (k, v) → (kvs.map (·.1))[i]? = some d → d = keyOf k
  | _, _, .nil, i, k, v, d, h, _ => by simp at h
  | _, _, .cons a b, 0, k, v, d, h, g => by
    simp only [List.getElem?_cons_zero, Option.some.injEq, Prod.mk.injEq] at h
    simp only [List.map_cons, List.getElem?_cons_zero, Option.some.injEq] at g
    rw [← g, h.1]
  | _, _, .cons a b, i + 1, k, v, d, h, g => keys_get b (i := i) (by simpa using h) (by simpa using g)
theorem den_key {K : PySem.W.Frag} {av : Addr → Prop} {H : Hp} (k : Key) : Den K av H (kV k) (keyOf k) := by
  cases k with
  | inl i => exact .int i
  | inr x => exact .str x
theorem it_keys {K : PySem.W.Frag} {av ow : Addr → Prop} {H : Hp} {d : Addr} {od : Obj} {ks : List (Key × V)} {kvs : List (Rf.D × Rf.D)} (h : H d = some (.frz od (.dK ks))) (n : ¬ ow d) (hd : DenKs K av H ks kvs) : ItOk K av ow H (Itk d od ks) (kvs.map (·.1)) := fun i H' kp => by
  have hl := hd.length
  have h' := kp _ _ h n
  refine ⟨fun hi => ⟨h', by rw [List.length_map] at hi; omega⟩, fun hi => ⟨h', by rw [List.length_map] at hi; omega⟩, fun x H'' y dd hdd => ?_⟩
  obtain ⟨rfl, k, v, e1, rfl⟩ := y
  refine ⟨Same.refl _, ?_⟩
  rw [keys_get hd e1 hdd]
  exact den_key k
/-- the loop over a dict that stands still -/
def tFd (P : Pk) (Φ : FT) (F : Nat) (t : Tgt) (i : Nat) (BD : List Stm) : L2.TS := fun D σ H => ∃ (h0 : Hp) (hav : ∀ a, P.Av a → h0 a ≠ none) (e : Sl) (d : Addr) (od : Obj) (ks : List (Key × V)) (kvs : List (Rf.D × Rf.D)),
  Rel (P.blk P.Av h0 hav) e σ H ∧ h0 d = some (.frz od (.dK ks)) ∧ σ[i]? = some (some (V.ref d)) ∧ DenKs P.K (avo P e σ) H ks kvs ∧ PostS (P.blk P.Av h0 hav) D (forL (fun e' => execs Φ F BD e') t (kvs.map (·.1)) e)
theorem Ctx.blk0 (C : Ctx X P N sc) (h0 : Hp) (hav : ∀ a, P.Av a → h0 a ≠ none) : Ctx X (P.blk P.Av h0 hav) N sc := ⟨C.hK, C.hN, C.nd, C.hs, C.calm, C.un, takes0N, C.po⟩
theorem fd_in {body : List Stmt} {BD : List Stm} {t : Tgt} {i : Nat} {x : Str} {px : Pos} (C : Ctx X P N sc) (hN : N[i]? = some x) (hv : Vis sc x) (hg : PG X tg (liftG P.K t)) (hb : ∀ (h0 : Hp) (hav : ∀ a, P.Av a → h0 a ≠ none), Ctx X (P.blk P.Av h0 hav) N sc → PSs X body (liftS (P.blk P.Av h0 hav) (execs Φ F BD)))
    (hd : (x == ("__debug__" : Str)) = false := by decide) (hcd : (x == ("__classdict__" : Str)) = false := by decide) (hs : ∀ y, foldedSetIterable (.Name x px) X.env y = pure y := by intro _; rfl) : PS X (.For tg (.Name x px) body [] pos) (tFd P Φ F t i BD) := by
  refine PS.imp (ps_for C.po C.calm (pi_keys (pe_var (i := i) (by rw [C.hN]; exact hN) (by rw [C.hs]; exact hv) hd hcd)) hg (PSs.ofAll (ι := { h0 : Hp // ∀ a, P.Av a → h0 a ≠ none }) fun i => hb i.1 i.2 (C.blk0 i.1 i.2)) hs) fun D σ H ⟨h0, hav, e, d, od, ks, kvs, R, h0d, hσ, dn, p⟩ => ?_
  have hd := R.fr _ _ h0d
  refine ⟨_, hσ, d, od, rfl, .inl ⟨ks, hd, ?_⟩⟩
  have no : ∀ {e2 : Sl} {σ2 : L2.St} {H2 : Hp}, Rel (P.blk P.Av h0 hav) e2 σ2 H2 → ¬ Owns e2 σ2 d := fun R2 z => by
    have := R2.new d z
    have this : h0 d = none := this
    rw [h0d] at this; cases this
  let its := kvs.map (·.1)
  have hl : ks.length = its.length := by rw [List.length_map]; exact dn.length
  have key : ∀ {j : Nat} {k : Key} {v : V} {y : Rf.D}, ks[j]? = some (k, v) → its[j]? = some y → y = keyOf k := fun h1 h2 => keys_get dn h1 h2
  refine ⟨fun i m σ2 H2 => m = its.length - i ∧ i ≤ its.length ∧ ∃ e2, Rel (P.blk P.Av h0 hav) e2 σ2 H2 ∧ PostS (P.blk P.Av h0 hav) D (forL (fun e' => execs Φ F BD e') t (its.drop i) e2), ⟨its.length, by omega, Nat.zero_le _, e, R, by simpa using p⟩, ?_⟩
  rintro i m σ2 H2 ⟨rfl, hi, e2, R2, p2⟩
  have hd2 := R2.fr _ _ h0d
  by_cases hlt : i < its.length
  · refine .inr ⟨⟨hd2, by omega⟩, fun σ' H' => ∃ e3, Rel (P.blk P.Av h0 hav) e3 σ' H' ∧ PostS (P.blk P.Av h0 hav) D (forL (fun e' => execs Φ F BD e') t (its.drop (i + 1)) e3), fun σ' H' z => ⟨its.length - (i + 1), by omega, rfl, by omega, z⟩, fun y H' yy => ?_⟩
    rw [List.drop_eq_getElem_cons hlt] at p2
    simp only [forL] at p2
    cases qb : bindT t its[i] e2 with
    | none => rw [qb] at p2; exact p2.elim
    | some e3 =>
      rw [qb] at p2
      obtain ⟨rfl, k, v, e1, rfl⟩ := yy
      have ek := key e1 (List.getElem?_eq_getElem hlt)
      refine ⟨P.blk P.Av h0 hav, e2, _, e3, rfl, R2, by rw [ek]; exact den_key k, qb, fun σ3 R4 _ => ⟨⟨h0, hav⟩, e3, R4, PostS.turn (fun e' σ' H' R' z => ⟨e', R', z⟩) p2⟩⟩
  · refine .inl ⟨⟨hd2, by omega⟩, ?_⟩
    rw [List.drop_of_length_le (by omega)] at p2
    simp only [forL] at p2
    exact p2 σ2 H2 R2
theorem PS.or {st : Stmt} {t t' : L2.TS} (h : PS X st t) (h' : PS X st t') : PS X st (fun D σ H => t D σ H ∨ t' D σ H) := ⟨fun pins s σ H D I q => q.elim (h.run pins s σ H D I) (h'.run pins s σ H D I)⟩
theorem ss_ford {body : List Stmt} {BD : List Stm} {t : Tgt} {i : Nat} {x : Str} {px : Pos} (C : Ctx X P N sc) (hN : N[i]? = some x) (hv : Vis sc x) (hg : PG X tg (liftG P.K t)) (hb : ∀ (h0 : Hp) (hav : ∀ a, P.Av a → h0 a ≠ none), Ctx X (P.blk P.Av h0 hav) N sc → PSs X body (liftS (P.blk P.Av h0 hav) (execs Φ F BD)))
    (hd : (x == ("__debug__" : Str)) = false := by decide) (hcd : (x == ("__classdict__" : Str)) = false := by decide) (hs : ∀ y, foldedSetIterable (.Name x px) X.env y = pure y := by intro _; rfl) : PS X (.For tg (.Name x px) body [] pos) (liftS P (exec Φ F (.ford t i BD))) := by
  have base := fd_in (F := F) (pos := pos) C hN hv hg hb hd hcd hs
  refine PS.imp (PS.or base (ps_lock base)) fun D σ H ⟨e, R, p⟩ => ?_
  simp only [exec] at p
  cases q : e[i]? with
  | none => rw [q] at p; exact p.elim
  | some s =>
    rw [q] at p
    obtain ⟨o, h1, h2⟩ := R.at q
    cases s with
    | d x =>
      cases x with
      | dict kvs =>
        obtain ⟨v, rfl, dd⟩ := h2
        simp only [] at p
        cases dd with
        | dict rd na dn =>
          rename_i l ks
          have no : ¬ Owns e σ l := fun z => na (.inr z)
          rcases rd with hh | ⟨od, hh⟩
          · refine .inr ⟨l, .dK ks, hh, trivial, fun od => ?_⟩
            obtain ⟨hav, R2⟩ := R.lock (od := od) hh (fun _ _ z => nomatch z) no
            refine ⟨_, hav, e, l, od, ks, kvs, R2, ?_, h1, DenKs.impR (rd_lock hh fun _ _ z => nomatch z) dn, PostS.lock R hh no p⟩
            unfold lessOwn
            rw [if_neg no, upd_same]
          · refine .inl ⟨lessOwn e σ H, lessOwn_av R, e, l, od, ks, kvs, ⟨R.into.len, R.into.slot, R.into.inj, R.into.fr, R.into.new⟩, ?_, h1, dn, PostS.intob R p⟩
            unfold lessOwn
            rw [if_neg no]
            exact hh
      | _ => exact p.elim
    | _ => exact p.elim
end
end
end Rf

set_option Elab.async false
set_option linter.all false
set_option maxRecDepth 100000
set_option maxHeartbeats 1000000
/-! Rf, part N: dicts whose keys are tuples nested to any depth. -/
namespace Rf
noncomputable section
open PySem PySem.Spec PyProof.Rows L2N
open L2 hiding CX HdsOk MkP PMk St Takes XE mk_of passAt passes_call pmk_own ps_raise ps_try_as ps_try_many takes_of
/-! ### data as keys -/
mutual
def nk : D → NestedKey
  | .int i => .num i
  | .tuple xs => .tup (nks xs)
  | _ => .none
def nks : List D → List NestedKey
  | [] => []
  | x :: r => nk x :: nks r
end
mutual
theorem nk_hash {w : World} : ∀ {x : D}, nkeyI x = true → (nk x).hash w = hashN x
  | .int i, _ => by simp only [nk, NestedKey.hash, hashN]
  | .tuple xs, h => by
    simp only [nk, NestedKey.hash, hashN]
    rw [nks_hash (by simpa [nkeyI] using h)]
  | .none, h => by simp [nkeyI] at h
  | .bool _, h => by simp [nkeyI] at h
  | .str _, h => by simp [nkeyI] at h
  | .list _, h => by simp [nkeyI] at h
  | .dict _, h => by simp [nkeyI] at h
theorem nks_hash {w : World} : ∀ {x : List D}, nkeyIs x = true → NestedKey.hashes w (nks x) = hashNs x
  | [], _ => by simp only [nks, NestedKey.hashes, hashNs]
  | x :: r, h => by
    simp only [nkeyIs, Bool.and_eq_true] at h
    simp only [nks, NestedKey.hashes, hashNs]
    rw [nk_hash h.1, nks_hash h.2]
end
mutual
theorem nk_depth : ∀ {x : D}, (nk x).depth ≤ x.depth
  | .int i => by simp [nk, NestedKey.depth]
  | .tuple xs => by
    simp only [nk, NestedKey.depth, PyData.depth]
    have := nks_depth (x := xs)
    omega
  | .none => by simp [nk, NestedKey.depth]
  | .bool _ => by simp [nk, NestedKey.depth]
  | .str _ => by simp [nk, NestedKey.depth]
  | .list _ => by simp [nk, NestedKey.depth]
  | .dict _ => by simp [nk, NestedKey.depth]
theorem nks_depth : ∀ {x : List D}, NestedKey.depthAll (nks x) ≤ PyData.depthAll x
  | [] => by simp [nks, NestedKey.depthAll]
  | x :: r => by
    simp only [nks, NestedKey.depthAll, PyData.depthAll]
    have a := nk_depth (x := x)
    have b := nks_depth (x := r)
    omega
end
mutual
theorem nk_eqv : ∀ {x y : D}, nkeyI x = true → nkeyI y = true → PyData.eqv x y = true → nk x = nk y
  | .int i, .int j, _, _, e => by
    simp only [PyData.eqv, beq_iff_eq] at e
    rw [e]
  | .tuple xs, .tuple ys, h, g, e => by
    simp only [PyData.eqv] at e
    simp only [nk]
    rw [nks_eqv (by simpa [nkeyI] using h) (by simpa [nkeyI] using g) e]
  | .int _, .tuple _, _, _, e => by simp [PyData.eqv] at e
  | .tuple _, .int _, _, _, e => by simp [PyData.eqv] at e
  | .none, _, h, _, _ => by simp [nkeyI] at h
  | .bool _, _, h, _, _ => by simp [nkeyI] at h
  | .str _, _, h, _, _ => by simp [nkeyI] at h
  | .list _, _, h, _, _ => by simp [nkeyI] at h
  | .dict _, _, h, _, _ => by simp [nkeyI] at h
  | _, .none, _, h, _ => by simp [nkeyI] at h
  | _, .bool _, _, h, _ => by simp [nkeyI] at h
  | _, .str _, _, h, _ => by simp [nkeyI] at h
  | _, .list _, _, h, _ => by simp [nkeyI] at h
  | _, .dict _, _, h, _ => by simp [nkeyI] at h
theorem nks_eqv : ∀ {x y : List D}, nkeyIs x = true → nkeyIs y = true → PyData.eqvAll x y = true → nks x = nks y
  | [], [], _, _, _ => rfl
  | [], _ :: _, _, _, e => by simp [PyData.eqvAll] at e
  | _ :: _, [], _, _, e => by simp [PyData.eqvAll] at e
  | x :: xs, y :: ys, h, g, e => by
    simp only [nkeyIs, Bool.and_eq_true] at h g
    simp only [PyData.eqvAll, Bool.and_eq_true] at e
    simp only [nks]
    rw [nk_eqv h.1 g.1 e.1, nks_eqv h.2 g.2 e.2]
end
mutual
theorem nkI_lst : ∀ {x : D}, nkeyI x = true → noLst x = true
  | .int _, _ => rfl
  | .tuple xs, h => by
    simp only [noLst]
    exact nkIs_lst (by simpa [nkeyI] using h)
  | .none, _ => rfl
  | .bool _, _ => rfl
  | .str _, _ => rfl
  | .list _, h => by simp [nkeyI] at h
  | .dict _, h => by simp [nkeyI] at h
theorem nkIs_lst : ∀ {x : List D}, nkeyIs x = true → noLsts x = true
  | [], _ => rfl
  | x :: r, h => by
    simp only [nkeyIs, Bool.and_eq_true] at h
    simp only [noLsts, nkI_lst h.1, nkIs_lst h.2]
    rfl
end
theorem nkey_tup {x : D} (h : nkey x = true) : ∃ xs, x = .tuple xs ∧ nkeyI x = true ∧ x.depth ≤ 180 := by
  cases x <;> simp only [nkey, Bool.and_eq_true, decide_eq_true_eq, Bool.false_eq_true] at h
  exact ⟨_, rfl, by simp only [nkeyI]; exact h.1, h.2⟩
theorem nkey_lst {x : D} (h : nkey x = true) : noLst x = true := let ⟨_, _, a, _⟩ := nkey_tup h; nkI_lst a
section
variable {K : PySem.W.Frag} {av : Addr → Prop} {H : Hp} {h : Heap} {pr : Program} {w : World}
theorem tup_at {a : Addr} {xs : List V} (hok : HOk pr w H h) (hk : K.In h) (q : SqT K H a xs) : ∃ (its : List Value) (o : Obj) (n : Nat), Vals xs its ∧ h.get? a = some o ∧ o.cls = .type "tuple" ∧ o.data = .seq its.toArray n := by
  rcases q with q | ⟨o, its, n, e, c, d, _, r⟩
  · obtain ⟨_, its, r, o, e, c, n, d⟩ := (show ObjOk pr w H h a (.tup xs) from q.ok hok)
    exact ⟨its, o, n, r, e, c, d⟩
  · exact ⟨its.toList, o, n, r, hk _ _ e, c, by simp [d]⟩
mutual
theorem nested_of (hok : HOk pr w H h) (hk : K.In h) : ∀ {d : D} {v : V} {u : Value}, Den K av H v d → nkeyI d = true → RelV v u → NestedIs h (nk d) u
  | .int i, _, _, .int _, _, r => by
    obtain ⟨t, rfl⟩ := (show ∃ t, _ = Value.int i t from r)
    exact .int i t
  | .tuple xs, _, _, .tuple hs t, n, r => by
    obtain rfl := (show _ = Value.ref _ from r)
    obtain ⟨its, o, m, rv, e, ec, ed⟩ := tup_at hok hk hs
    exact .tup e ec ed (by simpa using nesteds_of hok hk t (by simpa [nkeyI] using n) rv)
  | .none, _, _, _, n, _ => by simp [nkeyI] at n
  | .bool _, _, _, _, n, _ => by simp [nkeyI] at n
  | .str _, _, _, _, n, _ => by simp [nkeyI] at n
  | .list _, _, _, _, n, _ => by simp [nkeyI] at n
  | .dict _, _, _, _, n, _ => by simp [nkeyI] at n
theorem nesteds_of (hok : HOk pr w H h) (hk : K.In h) : ∀ {d : List D} {v : List V} {u : List Value}, Dens K av H v d → nkeyIs d = true → Vals v u → NestedAll h (nks d) u
  | [], _, _, .nil, _, r => by cases r; exact .nil
  | x :: xs, _, _, .cons a b, n, r => by
    simp only [nkeyIs, Bool.and_eq_true] at n
    cases r with
    | cons r1 r2 => exact .cons (nested_of hok hk a n.1 r1) (nesteds_of hok hk b n.2 r2)
end
end
/-! ### entries -/
theorem paired_filt {α β : Type} {R : α → β → Prop} {p : α → Bool} {q : β → Bool} (h : ∀ a b, R a b → p a = q b) : ∀ {l : List α} {m : List β}, Paired R l m → Paired R (l.filter p) (m.filter q)
  | _, _, .nil => .nil
  | _, _, .cons (a := a) (b := b) r t => by
    rw [List.filter_cons, List.filter_cons, h a b r]
    split
    · exact .cons r (paired_filt h t)
    · exact paired_filt h t
theorem paired_map {α β : Type} {R : α → β → Prop} {f : α → α} {g : β → β} (h : ∀ a b, R a b → R (f a) (g b)) : ∀ {l : List α} {m : List β}, Paired R l m → Paired R (l.map f) (m.map g)
  | _, _, .nil => .nil
  | _, _, .cons r t => .cons (h _ _ r) (paired_map h t)
abbrev EntR (p : NE) (e : DictEntry) : Prop := e.hash = p.1 ∧ e.key = .ref p.2.1 ∧ ∃ t, e.val = .int p.2.2 t
def valE (es : List NE) (h : Int) : Option Int := ((es.filter fun p => p.1 == h).head?).map (·.2.2)
def putE (es : List NE) (h : Int) (b : Addr) (v : Int) : List NE := if (es.filter fun p => p.1 == h) = [] then es ++ [(h, b, v)] else es.map fun p => if p.1 == h then (p.1, p.2.1, v) else p
theorem putE_len {es : List NE} {h : Int} {b : Addr} {v : Int} : (putE es h b v).length ≤ es.length + 1 := by
  unfold putE
  split
  · simp
  · simp
theorem ent_filt {es : List NE} {l : List DictEntry} (h : Int) (r : Paired EntR es l) : Paired EntR (es.filter fun p => p.1 == h) (l.filter fun e => e.hash == h) :=
  paired_filt (fun a b q => by rw [q.1]) r
theorem ent_val {es : List NE} {arr : Array DictEntry} {h : Int} (r : Paired EntR es arr.toList) : (valE es h = none ∧ valN arr h = none) ∨ ∃ v t, valE es h = some v ∧ valN arr h = some (.int v t) := by
  have q := ent_filt h r
  unfold valE valN
  generalize es.filter (fun p => p.1 == h) = a at *
  generalize arr.toList.filter (fun e => e.hash == h) = b at *
  cases q with
  | nil => exact .inl ⟨rfl, rfl⟩
  | cons r1 _ =>
    obtain ⟨_, _, t, e⟩ := r1
    exact .inr ⟨_, t, rfl, by simp [e]⟩
theorem ent_set {es : List NE} {l : List DictEntry} {h : Int} {b : Addr} {v : Int} {t : Tok} (r : Paired EntR es l) : Paired EntR (putE es h b v) (setN l h b (.int v t)) := by
  have q := ent_filt h r
  unfold putE setN
  by_cases e : (es.filter fun p => p.1 == h) = []
  · have e2 : (l.filter fun e => e.hash == h) = [] := by
      rw [e] at q
      cases hl : l.filter (fun e => e.hash == h) with
      | nil => rfl
      | cons _ _ => rw [hl] at q; cases q
    rw [if_pos e, if_pos e2]
    exact Paired.snoc r ⟨rfl, rfl, t, rfl⟩
  · have e2 : ¬ (l.filter fun e => e.hash == h) = [] := fun z => by
      rw [z] at q
      cases hl : es.filter (fun p => p.1 == h) with
      | nil => exact e hl
      | cons _ _ => rw [hl] at q; cases q
    rw [if_neg e, if_neg e2]
    refine paired_map (fun a b q => ?_) r
    by_cases z : (a.1 == h) = true
    · have z2 : (b.hash == h) = true := by rw [q.1]; exact z
      rw [if_pos z, if_pos z2]
      exact ⟨q.1, q.2.1, t, rfl⟩
    · have z2 : ¬ (b.hash == h) = true := by rw [q.1]; exact z
      rw [if_neg z, if_neg z2]
      exact q
section
variable {K : PySem.W.Frag} {av : Addr → Prop} {H : Hp}
theorem DenNs.filt (h : Int) : ∀ {es : List NE} {ds : List (D × D)}, DenNs K av H es ds → DenNs K av H (es.filter fun p => p.1 == h) (ds.filter fun p => hashN p.1 == h)
  | _, _, .nil => .nil
  | _, _, .cons (a := a) (k := k) (i := i) d n t => by
    rw [List.filter_cons, List.filter_cons]
    by_cases e : (hashN k == h) = true
    · rw [if_pos e, if_pos e]; exact .cons d n (DenNs.filt h t)
    · rw [if_neg e, if_neg e]; exact DenNs.filt h t
theorem DenNs.append : ∀ {a c : List NE} {b d : List (D × D)}, DenNs K av H a b → DenNs K av H c d → DenNs K av H (a ++ c) (b ++ d)
  | _, _, _, _, .nil, h => h
  | _, _, _, _, .cons a n b, h => .cons a n (b.append h)
theorem DenNs.repl (h v : Int) : ∀ {es : List NE} {ds : List (D × D)}, DenNs K av H es ds → DenNs K av H (es.map fun p => if p.1 == h then (p.1, p.2.1, v) else p) (ds.map fun p => if hashN p.1 == h then (p.1, .int v) else p)
  | _, _, .nil => .nil
  | _, _, .cons (a := a) (k := k) (i := i) d n t => by
    rw [List.map_cons, List.map_cons]
    by_cases e : (hashN k == h) = true
    · simp only [e, if_true]; exact .cons d n (DenNs.repl h v t)
    · simp only [e, if_false]; exact .cons d n (DenNs.repl h v t)
theorem DenNs.put {es : List NE} {ds : List (D × D)} {k : D} {b : Addr} {v : Int} (r : DenNs K av H es ds) (hk : Den K av H (.ref b) k) (n : nkey k = true) : DenNs K av H (putE es (hashN k) b v) (nput ds k (.int v)) := by
  have q := r.filt (hashN k)
  unfold putE nput withH
  by_cases e : (es.filter fun p => p.1 == hashN k) = []
  · have e2 : (ds.filter fun p => hashN p.1 == hashN k) = [] := by
      rw [e] at q
      cases hl : ds.filter (fun p => hashN p.1 == hashN k) with
      | nil => rfl
      | cons _ _ => rw [hl] at q; cases q
    rw [if_pos e, if_pos e2]
    exact r.append (.cons hk n .nil)
  · have e2 : ¬ (ds.filter fun p => hashN p.1 == hashN k) = [] := fun z => by
      rw [z] at q
      cases hl : es.filter (fun p => p.1 == hashN k) with
      | nil => exact e hl
      | cons _ _ => rw [hl] at q; cases q
    rw [if_neg e, if_neg e2]
    exact r.repl (hashN k) v
/-- a key and the dict's entries -/
structure NKey (K : PySem.W.Frag) (av : Addr → Prop) (H : Hp) (es : List NE) (y : V) (k : D) (ds : List (D × D)) : Prop where
  den : Den K av H y k
  nk : nkey k = true
  dn : DenNs K av H es ds
  few : withH ds k = [] ∨ ∃ p, withH ds k = [p] ∧ PyData.eqv p.1 k = true
  len : es.length ≤ sizeLine
theorem nlook_few {ds : List (D × D)} {k : D} {o : Option D} (h : nlook ds k = some o) : nkey k = true ∧ ((withH ds k = [] ∧ o = none) ∨ ∃ p, withH ds k = [p] ∧ PyData.eqv p.1 k = true ∧ o = some p.2) := by
  unfold nlook at h
  by_cases n : nkey k = true
  · rw [if_pos n] at h
    refine ⟨n, ?_⟩
    generalize withH ds k = l at *
    match l, h with
    | [], h => exact .inl ⟨rfl, by simpa using h.symm⟩
    | [p], h =>
      simp only [] at h
      split at h
      · rename_i e; exact .inr ⟨p, rfl, e, by simpa using h.symm⟩
      · cases h
    | _ :: _ :: _, h => cases h
  · rw [if_neg n] at h; cases h
/-- what nlook tells, told of the entries -/
theorem nlook_val {es : List NE} {ds : List (D × D)} {k : D} {o : Option D} (r : DenNs K av H es ds) (h : nlook ds k = some o) : (valE es (hashN k) = none ∧ o = none) ∨ ∃ v, valE es (hashN k) = some v ∧ o = some (.int v) := by
  have q := r.filt (hashN k)
  unfold valE
  obtain ⟨_, g⟩ := nlook_few h
  clear h
  rcases g with ⟨g, rfl⟩ | ⟨p, g, _, rfl⟩
  · have g : ds.filter (fun p => hashN p.1 == hashN k) = [] := g
    rw [g] at q
    cases hl : es.filter (fun p => p.1 == hashN k) with
    | nil => exact .inl ⟨rfl, rfl⟩
    | cons _ _ => rw [hl] at q; cases q
  · have g : ds.filter (fun p => hashN p.1 == hashN k) = [p] := g
    rw [g] at q
    cases hl : es.filter (fun p => p.1 == hashN k) with
    | nil => rw [hl] at q; cases q
    | cons x r =>
      rw [hl] at q
      cases q with
      | cons _ _ _ => exact .inr ⟨_, rfl, rfl⟩
theorem NKey.of {es : List NE} {ds : List (D × D)} {k : D} {o : Option D} {y : V} (r : DenNs K av H es ds) (hy : Den K av H y k) (hl : es.length ≤ sizeLine) (h : nlook ds k = some o) : NKey K av H es y k ds := by
  obtain ⟨n, h⟩ := nlook_few h
  exact ⟨hy, n, r, h.imp (·.1) fun ⟨p, a, b, _⟩ => ⟨p, a, b⟩, hl⟩
end
end
end Rf

set_option Elab.async false
set_option linter.all false
set_option maxRecDepth 100000
set_option maxHeartbeats 1000000
/-! Rf, part O: the operations of such dicts. -/
namespace Rf
noncomputable section
open PySem PySem.Spec PyProof.Rows L2N
open L2 hiding CX HdsOk MkP PMk St Takes XE mk_of passAt passes_call pmk_own ps_raise ps_try_as ps_try_many takes_of
section
variable {X : Cx} {pins : List (Addr × Obj)} {σ : L2.St} {H : Hp} {s : Shared} {a : Addr} {es : List NE} {y : V} {u : Value} {k : D} {ds : List (D × D)} {av : Addr → Prop} {A : Around} {E : Value → Shared → Prop}
theorem ents_ok (I : Inv X pins σ H s) : ∀ {es : List NE} {ds : List (D × D)} {l : List DictEntry}, DenNs X.K av H es ds → Paired EntR es l → ∀ e ∈ l, EntOk X.w s.heap e
  | _, _, _, .nil, r, e, he => by cases r; cases he
  | _, _, _, .cons (a := b) (k := kd) d n t, r, e, he => by
    cases r with
    | cons r1 r2 =>
      rcases List.mem_cons.mp he with rfl | he
      · obtain ⟨_, _, n2, _⟩ := nkey_tup n
        exact ⟨nk kd, b, r1.2.1, nested_of I.hok I.kIn d n2 rfl, by rw [nk_hash n2]; exact r1.1⟩
      · exact ents_ok I t r2 e he
structure KF (X : Cx) (s : Shared) (a : Addr) (es : List NE) (k : D) (b : Addr) (o : Obj) (arr : Array DictEntry) (ep : Nat) : Prop where
  get : s.heap.get? a = some o
  ex : o.ExactDict
  dat : o.data = .dict arr ep
  nos : (a == sysModules) = false
  rel : Paired EntR es arr.toList
  ents : ∀ e ∈ arr, EntOk X.w s.heap e
  key : NestedIs s.heap (nk k) (.ref b)
  hash : (nk k).hash X.w = hashN k
  dep : (nk k).depth ≤ 180
  few : FewAt X.w s.heap arr (nk k)
  size : arr.size ≤ sizeLine
theorem dn_at {P : Program} {w : World} {h : Heap} (hok : HOk P w H h) (hd : Rd H a (DN a es)) : DNP a es h := (show ObjOk P w H h a (DN a es) from hd.ok hok).1
theorem key_facts (I : Inv X pins σ H s) (hd : Rd H a (DN a es)) (g : NKey X.K av H es y k ds) (ry : RelV y u) : ∃ b o arr ep, u = .ref b ∧ y = .ref b ∧ KF X s a es k b o arr ep := by
  obtain ⟨nos, o, arr, ep, e1, e2, e3, r⟩ := dn_at I.hok hd
  obtain ⟨xs, rfl, n2, dp⟩ := nkey_tup g.nk
  have gd := g.den
  obtain ⟨b, rfl⟩ : ∃ b, y = .ref b := by cases gd; exact ⟨_, rfl⟩
  have hh : (nk (.tuple xs)).hash X.w = hashN (.tuple xs) := nk_hash n2
  refine ⟨b, o, arr, ep, ry, rfl, e1, e2, e3, nos, r, fun e he => ents_ok I g.dn r e (Array.mem_toList_iff.mpr he), nested_of I.hok I.kIn g.den n2 rfl, hh, Nat.le_trans nk_depth dp, ?_, ?_⟩
  · unfold FewAt
    rw [hh]
    have q1 := g.dn.filt (hashN (.tuple xs))
    have q2 := ent_filt (hashN (.tuple xs)) r
    rcases g.few with z | ⟨p, z, ev⟩
    · have z : ds.filter (fun p => hashN p.1 == hashN (.tuple xs)) = [] := z
      rw [z] at q1
      generalize es.filter (fun p => p.1 == hashN (.tuple xs)) = l1 at *
      generalize arr.toList.filter (fun e => e.hash == hashN (.tuple xs)) = l2 at *
      cases q1
      cases q2
      exact .inl rfl
    · have z : ds.filter (fun p => hashN p.1 == hashN (.tuple xs)) = [p] := z
      rw [z] at q1
      generalize es.filter (fun p => p.1 == hashN (.tuple xs)) = l1 at *
      generalize arr.toList.filter (fun e => e.hash == hashN (.tuple xs)) = l2 at *
      cases q1 with
      | cons d n t =>
        cases t
        cases q2 with
        | cons r1 r2 =>
          cases r2
          obtain ⟨_, _, n3, _⟩ := nkey_tup n
          refine .inr ⟨_, _, rfl, r1.2.1, ?_⟩
          have := nested_of I.hok I.kIn d n3 rfl
          rw [nk_eqv n3 n2 ev] at this
          exact this
  · have l1 := Paired.length r
    have l2 := g.len
    rw [← Array.length_toList (xs := arr)]
    omega
theorem kf_type {b : Addr} {o : Obj} {arr : Array DictEntry} {ep : Nat} (f : KF X s a es k b o arr ep) : s.TypeIs (.ref a) "dict" := ⟨o, f.get, f.ex.1⟩
/-- d[k], there -/
theorem dn_getItem {v : Int} {Q : Value → Shared → Prop} (hu : A.units + 190 < cLine) (I : Inv X pins σ H s) (hd : Rd H a (DN a es)) (g : NKey X.K av H es y k ds) (ry : RelV y u) (hv : valE es (hashN k) = some v) (q : ∀ t s', Inv X pins σ H s' → Q (.int v t) s') :
    wpAny (model X.prog X.w) A (getItem (.ref a) u) Q E s := by
  obtain ⟨b, o, arr, ep, rfl, rfl, f⟩ := key_facts I hd g ry
  have dp := f.dep
  rcases ent_val (h := hashN k) f.rel with ⟨z, _⟩ | ⟨v', t, z, vn⟩
  · rw [hv] at z; cases z
  rw [hv] at z
  cases z
  unfold getItem
  try with_reducible refine wpAny_holding ?_
  refine wpAny_bind (wpAny_sequenceKey (kf_type f) (by decide) ?_)
  refine wpAny_bind (wpAny_callSpecial?_slot (name := Str.ofString "__getitem__") (kf_type f) slot_dict_getitem (wpAny_call_entry slot_dict_getitem (kf_type f) entry_dict_getitem ?_ (args_dict_getitem _ _)))
  change wpAny _ _ (dictGet a (.ref b) >>= _) _ _ s
  refine wpAny_bind (dictGet_few f.get f.dat f.ents f.key (by simp only [Around.in1_units]; omega) f.few ?_)
  rw [f.hash, vn]
  exact wpAny_pure ⟨_, rfl, wpAny_pure (q t _ (I.tok _))⟩
theorem meets_nget (b : Addr) (dflt : Value) : MeetsIn X.prog X.w (Builtin.«dict.get» ⟨[.ref a, .ref b, dflt], []⟩) (fun A R s => A.units + 190 < cLine ∧ ∃ es k o arr ep, KF X s a es k b o arr ep ∧
      ∀ t, R (.ok (.ret ((valN arr (hashN k)).getD dflt))) { s with toks := t }) :=
  .of_wp fun A R s ⟨hu, es, k, o, arr, ep, f, q⟩ => by
    have dp := f.dep
    change wpAny _ _ (dictGet a (.ref b) >>= _) _ _ s
    refine wpAny_bind (dictGet_few f.get f.dat f.ents f.key (by simp only [Around.in1_units]; omega) f.few ?_)
    rw [f.hash]
    cases z : valN arr (hashN k) with
    | some v =>
      rw [z] at q
      exact wpAny_pure ⟨v, rfl, q _⟩
    | none =>
      rw [z] at q
      change wpAny _ _ (Builtin.Dict.missed a (.ref b) >>= _) _ _ _
      exact wpAny_bind (wpAny_missed_other f.nos (wpAny_pure ⟨dflt, rfl, q _⟩))
/-- d.get(k, i) -/
theorem dn_get2 {i : Int} {r : Value} {Q : Value → Shared → Prop} (hu : A.units + 190 < cLine) (I : Inv X pins σ H s) (hd : Rd H a (DN a es)) (g : NKey X.K av H es y k ds) (ry : RelV y u) (rr : RelV (.int i) r) (q : ∀ t s', Inv X pins σ H s' → Q (.int ((valE es (hashN k)).getD i) t) s') :
    wpAny (model X.prog X.w) A (call (.builtin "dict.get") [.ref a, u, r]) Q E s := by
  obtain ⟨b, o, arr, ep, rfl, rfl, f⟩ := key_facts I hd g ry
  obtain ⟨t0, rfl⟩ := (show ∃ t, r = Value.int i t from rr)
  refine call_meetsIn PySem.F.slot_dict_get (kf_type f) PySem.F.entry_dict_get (PySem.F.args_dict_get_3 _ _ _) (meets_nget (X := X) b (.int i t0)) ⟨hu, es, k, o, arr, ep, f, fun t => ?_⟩
  rcases ent_val (h := hashN k) f.rel with ⟨z1, z2⟩ | ⟨v, t1, z1, z2⟩
  · rw [z2]
    have := q t0 _ (I.tok t)
    rw [z1] at this
    exact this
  · rw [z2]
    have := q t1 _ (I.tok t)
    rw [z1] at this
    exact this
/-- d[k] = i -/
theorem dn_setItem {i : Int} {r : Value} {Q : Unit → Shared → Prop} (hu : A.units + 190 < cLine) (I : Inv X pins σ H s) (hd : H a = some (DN a es)) (g : NKey X.K av H es y k ds) (ry : RelV y u) (rr : RelV (.int i) r)
    (q : ∀ b s', y = .ref b → Inv X pins σ (L2.upd H a (DN a (putE es (hashN k) b i))) s' → Q () s') : wpAny (model X.prog X.w) A (setItem (.ref a) u r) Q E s := by
  obtain ⟨b, o, arr, ep, rfl, rfl, f⟩ := key_facts I (.inl hd) g ry
  have dp := f.dep
  obtain ⟨t0, rfl⟩ := (show ∃ t, r = Value.int i t from rr)
  unfold setItem
  try with_reducible refine wpAny_holding ?_
  refine wpAny_bind (wpAny_sequenceKey (kf_type f) (by decide) ?_)
  refine wpAny_bind (wpAny_callSpecial?_slot (name := Str.ofString "__setitem__") (kf_type f) slot_dict_setitem (wpAny_call_entry slot_dict_setitem (kf_type f) entry_dict_setitem ?_ (args_dict_setitem _ _ _)))
  change wpAny _ _ (Builtin.Dict.notOrdered "__setitem__" ⟨[.ref a, .ref b, .int i t0], []⟩ >>= _) _ _ s
  refine wpAny_bind (wpAny_notOrdered_dict (kf_type f) ?_)
  change wpAny _ _ (dictSet a (.ref b) (.int i t0) >>= _) _ _ s
  refine wpAny_bind (dictSet_few f.get f.ex f.dat f.ents f.key (by simp only [Around.in1_units]; omega) f.few f.size fun h' o' es' ep' g1 g2 g3 g4 g5 => ?_)
  refine wpAny_pure ⟨.none, rfl, wpAny_pure (q b _ rfl (d_write I (by rw [hd]; exact True.intro) g5 ⟨_, g1⟩ ?_))⟩
  refine ⟨⟨f.nos, o', es', ep', g1, g2, g3, ?_⟩, ⟨_, g1⟩, fun h1 h2 z kp => ?_⟩
  · rw [g4, f.hash]
    exact ent_set f.rel
  · obtain ⟨n, o, arr, ep, e, r⟩ := z
    exact ⟨n, o, arr, ep, kp _ e, r⟩
theorem dn_empty (h : Heap) (hb : sysModules < h.objs.size) {P : Program} {w : World} : ObjOk P w H (h.push { cls := .type "dict", data := .dict #[] }) h.objs.size (DN h.objs.size []) := by
  refine ⟨⟨beq_eq_false_iff_ne.mpr (Ne.symm (Nat.ne_of_lt hb)), _, #[], 0, Heap.get?_push_size _ rfl, ⟨rfl, rfl, rfl⟩, rfl, .nil⟩, ⟨_, Heap.get?_push_size _ rfl⟩, fun h1 h2 z kp => ?_⟩
  obtain ⟨n, o, arr, ep, e, r⟩ := z
  exact ⟨n, o, arr, ep, kp _ e, r⟩
end
/-! ### readings -/
def tNNew : L2.TE := fun _ H Q => ∀ p, H p = none → Q (.ref p) (L2.upd H p (DN p []))
theorem pe_nnew {X : Cx} {pos : Pos} : PE X (.Dict [] [] pos) tNNew := ⟨fun pins s σ H Q I h =>
  wpAny_Dict_empty ⟨.ref s.heap.objs.size, _, I.laid (a := s.heap.objs.size) (o := DN s.heap.objs.size []) (t' := s.toks) (fun _ _ q => Heap.get?_push_of_some _ q) (Nat.le_refl _) (dn_empty s.heap I.big), rfl, h _ (I.hok.fresh (Nat.le_refl _))⟩⟩
def tNGet (K : PySem.W.Frag) (td ty : L2.TE) : L2.TE := fun σ H Q => td σ H fun x H1 => ty σ H1 fun y H2 => ∃ a es k ds av v, x = .ref a ∧ Rd H2 a (DN a es) ∧ NKey K av H2 es y k ds ∧ valE es (hashN k) = some v ∧ Q (.int v) H2
def tNGetD (K : PySem.W.Frag) (td ty tz : L2.TE) : L2.TE := fun σ H Q => td σ H fun x H1 => ∃ a es, x = .ref a ∧ Rd H1 a (DN a es) ∧ ty σ H1 fun y H2 => tz σ H2 fun z H3 => ∃ k ds av i, z = .int i ∧ Rd H3 a (DN a es) ∧ NKey K av H3 es y k ds ∧ Q (.int ((valE es (hashN k)).getD i)) H3
def sNPut (K : PySem.W.Frag) (td ty tv : L2.TE) : L2.TS := fun D σ H => tv σ H fun v H1 => td σ H1 fun x H2 => ty σ H2 fun y H3 => ∃ a es k ds av i, x = .ref a ∧ v = .int i ∧ H3 a = some (DN a es) ∧ NKey K av H3 es y k ds ∧
  ∀ b, y = .ref b → D.nx σ (L2.upd H3 a (DN a (putE es (hashN k) b i)))
section
variable {X : Cx} {o i e f value : Expr} {pos pos' apos : Pos} {td ty tz tv : L2.TE}
theorem pe_nget (hu : X.A.units + 190 < cLine) (ho : PE X o td) (hi : PE X i ty) (hs : NoSl i) : PE X (.Subscript o i pos) (tNGet X.K td ty) := by
  refine ⟨fun pins s σ H Q I h => ?_⟩
  refine subD_of PySem.F.slot_dict_getitem.lookup hs (thn (ho.run pins s σ H _ I h) fun u s1 ⟨x, H1, I1, rx, q1⟩ => thn (hi.run pins s1 σ H1 _ I1 q1) fun iv s2 ⟨y, H2, I2, ry, a, es, k, ds, av, v, ex, hd, g, hv, q2⟩ => ?_)
  subst ex
  obtain rfl := (show u = Value.ref a from rx)
  obtain ⟨b, o, arr, ep, _, _, kf⟩ := key_facts I2 hd g ry
  exact ⟨kf_type kf, dn_getItem hu I2 hd g ry hv fun t s3 I3 => ⟨.int v, H2, I3, ⟨t, rfl⟩, q2⟩⟩
theorem pe_ngetd (hu : X.A.units + 190 < cLine) (ho : PE X o td) (he : PE X e ty) (hf : PE X f tz) (m : M2 X o "get" apos e f pos) : PE X (.Call (.Attribute o "get" apos) [e, f] [] pos) (tNGetD X.K td ty tz) := by
  refine ⟨fun pins s σ H Q I h => ?_⟩
  refine wpAny_Call_method m.base m.few m.line PySem.F.plainAttrs_dict PySem.F.slot_dict_get PySem.F.type_dict_get (thn (ho.run pins s σ H _ I h) fun u s1 ⟨x, H1, I1, rx, a, es, ex, hd, q1⟩ => ?_)
  subst ex
  obtain rfl := (show u = Value.ref a from rx)
  obtain ⟨_, ob, arr, ep, e1, e2, e3, _⟩ := dn_at I1.hok hd
  refine ⟨⟨ob, e1, e2.1⟩, fun b z => ?_, ?_⟩
  · cases z
    exact ⟨ob, e1, e2.2.1⟩
  rw [m.trees]
  refine Calls.callWith_builtin rfl (Calls.evalArgs_plain (Calls.spliced_cons (thn (he.run pins s1 σ H1 _ I1 q1) fun ev s2 ⟨y, H2, I2, ry, q2⟩ => Calls.spliced_cons (thn (hf.run pins s2 σ H2 _ I2 q2) fun fv s3 ⟨z, H3, I3, rz, k, ds, av, i, ez, hd3, g, q3⟩ => Calls.spliced_nil ?_))))
  subst ez
  exact dn_get2 hu I3 hd3 g ry rz fun t s4 I4 => ⟨.int _, H3, I4, ⟨t, rfl⟩, q3⟩
theorem ps_nput (hu : X.A.units + 190 < cLine) (ho : PE X o td) (hi : PE X i ty) (hv : PE X value tv) (hs : swapsWith value (some (.Subscript o i pos')) pos.line X.env = pure false) :
    PS X (.Assign [.Subscript o i pos'] value pos) (sNPut X.K td ty tv) := by
  refine ⟨fun pins s σ H D I h => ?_⟩
  refine wpAny_Assign_Subscript (thn (hv.run pins s σ H _ I h) fun r s1 ⟨v, H1, I1, rv, q1⟩ => thn (ho.run pins s1 σ H1 _ I1 q1) fun u s2 ⟨x, H2, I2, rx, q2⟩ => thn (hi.run pins s2 σ H2 _ I2 q2) fun iv s3 ⟨y, H3, I3, ry, a, es, k, ds, av, i, ex, ev, hd, g, q3⟩ => ?_) hs
  subst ex ev
  obtain rfl := (show u = Value.ref a from rx)
  exact dn_setItem hu I3 hd g ry rv fun b s4 eb I4 => ⟨σ, _, I4, q3 b eb⟩
/-- list(d): the keys, in order -/
theorem call_list_dn (hc : X.calm = true) : CallR X (.type "list") (fun xs H Q => ∃ d es, xs = [V.ref d] ∧ Rd H d (DN d es) ∧ es.length ≤ sizeLine ∧ ∀ p, H p = none → Q (.ref p) (L2.upd H p (.lst (es.map fun e => V.ref e.2.1)))) := by
  intro pins s σ H xs us Q I r h
  obtain ⟨d, es, rfl, hd, hl, q⟩ := h
  obtain ⟨u, rfl, rx⟩ := r.one
  cases rx
  obtain ⟨nos, o, arr, ep, e1, e2, e3, rel⟩ := dn_at I.hok hd
  have lz : arr.size = es.length := by rw [← Array.length_toList, Paired.length rel]
  refine PySem.W.kdl_call (kdl_raw nos e2 e3) (I.ok.hd hc) e1 (by omega) fun h' tk acc c kp ep2 it => ?_
  have eq : acc.toList = (es.map fun e => e.2.1).map Value.ref := by
    have hlen : acc.toList.length = es.length := by rw [Array.length_toList, it.1, lz]
    apply List.ext_getElem?
    intro j
    rw [List.getElem?_map, List.getElem?_map]
    by_cases hj : j < es.length
    · rw [List.getElem?_eq_getElem hj]
      obtain ⟨v, hv⟩ : ∃ v, acc.toList[j]? = some v := ⟨_, List.getElem?_eq_getElem (by omega)⟩
      rw [hv]
      obtain ⟨en, hen, rfl⟩ := it.2 j v (by rw [← Array.getElem?_toList]; exact hv)
      have : ∀ {l : List NE} {m : List DictEntry} {j : Nat} {p : NE} {e : DictEntry}, Paired EntR l m → l[j]? = some p → m[j]? = some e → EntR p e := by
        intro l m j p e r
        induction r generalizing j with
        | nil => intro z; simp at z
        | cons r1 _ ih =>
          intro z1 z2
          cases j with
          | zero => simp at z1 z2; subst z1; subst z2; exact r1
          | succ j => exact ih (by simpa using z1) (by simpa using z2)
      have := this rel (List.getElem?_eq_getElem hj) (by rw [Array.getElem?_toList]; exact hen)
      rw [this.2.1]
      rfl
    · rw [List.getElem?_eq_none (by omega), List.getElem?_eq_none (by omega)]
      rfl
  have rv : Vals (es.map fun e => V.ref e.2.1) acc.toList := by
    rw [eq]
    have := vals_refs (es.map fun e => e.2.1)
    rw [List.map_map] at this
    exact this
  refine ⟨.ref s.heap.objs.size, _, I.laid (t' := tk) (o := .lst (es.map fun e => V.ref e.2.1)) kp (Nat.le_refl _) ?_, rfl, q _ (I.hok.fresh (Nat.le_refl _))⟩
  exact ⟨by rw [List.length_map]; exact hl, acc.toList, c, rv, by rw [Array.toArray_toList]; exact ep2⟩
end
end
end Rf

set_option Elab.async false
set_option linter.all false
set_option maxRecDepth 100000
set_option maxHeartbeats 1000000
/-! Rf, part R: statements and expressions over such dicts; insert; a def that takes such a dict; a try whose clause returns an expression. -/
namespace Rf
noncomputable section
open PySem PySem.Spec PyProof.Rows L2N
open L2 hiding CX HdsOk MkP PMk St Takes XE mk_of passAt passes_call pmk_own ps_raise ps_try_as ps_try_many takes_of
section
variable {X : Cx} {P : Pk} {N : List Str} {sc : Scope} {m F : Nat} {Φ : FT} {A B E : Exp} {ES : List Exp} {a b c tg : Expr} {es : List Expr} {pos : Pos}
theorem Ctx.u190 (C : Ctx X P N sc) : X.A.units + 190 < cLine := C.un
theorem denM_key {e : Sl} {σ : L2.St} {H : Hp} {v : V} {k : D} (h : DenM P e σ m H v k) (n : nkey k = true) : Den P.K (fun _ => False) H v k := h.weak.noLst (nkey_lst n)
theorem DenNs.flat {K : PySem.W.Frag} {av av' : Addr → Prop} {H : Hp} : ∀ {ns : List NE} {kvs : List (D × D)}, DenNs K av H ns kvs → DenNs K av' H ns kvs
  | _, _, .nil => .nil
  | _, _, .cons d n t => .cons (d.noLst (nkey_lst n)) n (DenNs.flat t)
/-- a slot with such a dict -/
theorem slot_n {e : Sl} {σ : L2.St} {H : Hp} {i : Nat} {kvs : List (D × D)} (R : Rel P e σ H) (q : e[i]? = some (.on kvs) ∨ e[i]? = some (.rn kvs)) :
    ∃ l ns, σ[i]? = some (some (.ref l)) ∧ Rd H l (DN l ns) ∧ ns.length ≤ sizeLine ∧ DenNs P.K (fun _ => False) H ns kvs := by
  rcases q with q | q
  · obtain ⟨o, h1, l, ns, rfl, h2, h3, h4⟩ := R.at q
    exact ⟨l, ns, h1, .inl h2, h3, h4.flat⟩
  · obtain ⟨o, h1, l, ns, rfl, h2, h3, _, h4⟩ := R.at q
    exact ⟨l, ns, h1, h2, h3, h4.flat⟩
theorem nget_of {e : Sl} {i : Nat} {kvs : List (D × D)} (q : e[i]? = some (.on kvs) ∨ e[i]? = some (.rn kvs)) : ev Φ (.nget i B) e = (ev Φ B e).bind fun y => (Res.of (nlook kvs y)).bind .of := by
  simp only [ev]
  rcases q with q | q <;> rw [q]
theorem ngetd_of {e : Sl} {i : Nat} {kvs : List (D × D)} (q : e[i]? = some (.on kvs) ∨ e[i]? = some (.rn kvs)) : ev Φ (.ngetd i A B) e = (ev Φ A e).bind fun y => (ev Φ B e).bind fun x => if isIntD x then (Res.of (nlook kvs y)).bind fun o => .ok (o.getD x) else .stuck := by
  simp only [ev]
  rcases q with q | q <;> rw [q]
theorem nkeys_of {e : Sl} {i : Nat} {kvs : List (D × D)} (q : e[i]? = some (.on kvs) ∨ e[i]? = some (.rn kvs)) : ev Φ (.nkeys i) e = .ok (.list (kvs.map (·.1))) := by
  simp only [ev]
  rcases q with q | q <;> rw [q]
theorem slot_case {e : Sl} {i : Nat} {f : List (D × D) → Res D} {r : Res D} (hr : r = match e[i]? with
    | some (.on kvs) => f kvs
    | some (.rn kvs) => f kvs
    | _ => .stuck) : r = .stuck ∨ ∃ kvs, (e[i]? = some (.on kvs) ∨ e[i]? = some (.rn kvs)) := by
  cases q : e[i]? with
  | none => rw [q] at hr; exact .inl hr
  | some s =>
    cases s with
    | on kvs => exact .inr ⟨kvs, .inl rfl⟩
    | rn kvs => exact .inr ⟨kvs, .inr rfl⟩
    | _ => rw [q] at hr; exact .inl hr
theorem nget_case {e : Sl} {i : Nat} : ev Φ (.nget i B) e = .stuck ∨ ∃ kvs, (e[i]? = some (.on kvs) ∨ e[i]? = some (.rn kvs)) := slot_case (f := fun kvs => (ev Φ B e).bind fun y => (Res.of (nlook kvs y)).bind .of) (by simp only [ev] <;> rfl)
theorem ngetd_case {e : Sl} {i : Nat} : ev Φ (.ngetd i A B) e = .stuck ∨ ∃ kvs, (e[i]? = some (.on kvs) ∨ e[i]? = some (.rn kvs)) := slot_case (f := fun kvs => (ev Φ A e).bind fun y => (ev Φ B e).bind fun x => if isIntD x then (Res.of (nlook kvs y)).bind fun o => .ok (o.getD x) else .stuck) (by simp only [ev] <;> rfl)
theorem nkeys_case {e : Sl} {i : Nat} : ev Φ (.nkeys i) e = .stuck ∨ ∃ kvs, (e[i]? = some (.on kvs) ∨ e[i]? = some (.rn kvs)) := slot_case (f := fun kvs => .ok (.list (kvs.map (·.1)))) (by simp only [ev] <;> rfl)
theorem se_nget (C : Ctx X P N sc) {i : Nat} {x : Str} {px : Pos} (hi : N[i]? = some x) (hv : Vis sc x) (hb : PE X b (lift P 0 (ev Φ B))) (hp : NoSl b) (hd : (x == ("__debug__" : Str)) = false := by decide) (hcd : (x == ("__classdict__" : Str)) = false := by decide) :
    PE X (.Subscript (.Name x px) b pos) (lift P m (ev Φ (.nget i B))) := by
  refine PE.imp (pe_nget C.u190 (pe_var (i := i) (by rw [C.hN]; exact hi) (by rw [C.hs]; exact hv) hd hcd) hb hp) fun σ H Q ⟨e, R, p⟩ => ?_
  rcases nget_case (Φ := Φ) (B := B) (e := e) (i := i) with z | ⟨kvs, q⟩
  · rw [z] at p; exact p.elim
  obtain ⟨l, ns, h1, hd, hl, dn⟩ := slot_n R q
  rw [nget_of q] at p
  refine ⟨_, h1, e, R, ?_⟩
  refine Post.weaken (bindZ (α := D) (m := 0) gdPost R p) fun v H1 ⟨y, _, s1, R1, d1, p1⟩ => ?_
  cases z : nlook kvs y with
  | none => rw [z] at p1; exact p1.elim
  | some o =>
    rw [z] at p1
    obtain ⟨n, _⟩ := nlook_few z
    have dn1 := dn.same s1
    have g : NKey P.K _ H1 ns v y kvs := NKey.of dn1 (denM_key d1 n) hl z
    rcases nlook_val dn1 z with ⟨_, rfl⟩ | ⟨i, zv, rfl⟩
    · exact p1.elim
    · exact ⟨l, ns, y, kvs, _, i, rfl, same_rd s1 hd, by rw [C.hK]; exact g, zv, p1 _ H1 (Same.refl _) (DenM.up (.int i))⟩
theorem se_ngetd (C : Ctx X P N sc) {i : Nat} {x : Str} {px apos : Pos} (hi : N[i]? = some x) (hv : Vis sc x) (hb : PE X b (lift P 0 (ev Φ B))) (hc : PE X c (lift P 0 (ev Φ E))) (m2 : M2 X (.Name x px) "get" apos b c pos := by exact ⟨rfl, rfl, rfl, rfl⟩)
    (hd : (x == ("__debug__" : Str)) = false := by decide) (hcd : (x == ("__classdict__" : Str)) = false := by decide) :
    PE X (.Call (.Attribute (.Name x px) "get" apos) [b, c] [] pos) (lift P m (ev Φ (.ngetd i B E))) := by
  refine PE.imp (pe_ngetd C.u190 (pe_var (i := i) (by rw [C.hN]; exact hi) (by rw [C.hs]; exact hv) hd hcd) hb hc m2) fun σ H Q ⟨e, R, p⟩ => ?_
  rcases ngetd_case (Φ := Φ) (A := B) (B := E) (e := e) (i := i) with z | ⟨kvs, q⟩
  · rw [z] at p; exact p.elim
  obtain ⟨l, ns, h1, hd, hl, dn⟩ := slot_n R q
  rw [ngetd_of q] at p
  refine ⟨_, h1, l, ns, rfl, hd, e, R, ?_⟩
  refine Post.weaken (bindZ (α := D) (m := 0) gdPost R p) fun v H1 ⟨y, _, s1, R1, d1, p1⟩ => ⟨e, R1, ?_⟩
  refine Post.weaken (bindZ (α := D) (m := 0) gdPost R1 p1) fun w H2 ⟨z, _, s2, R2, d2, p2⟩ => ?_
  cases z with
  | int k =>
    obtain rfl : w = .int k := by cases d2; rfl
    simp only [isIntD, if_true] at p2
    cases z : nlook kvs y with
    | none => rw [z] at p2; exact p2.elim
    | some o =>
      rw [z] at p2
      obtain ⟨n, _⟩ := nlook_few z
      have dn2 := (dn.same s1).same s2
      have g : NKey P.K _ H2 ns v y kvs := NKey.of dn2 ((denM_key d1 n).same s2) hl z
      refine ⟨y, kvs, _, k, rfl, same_rd s2 (same_rd s1 hd), by rw [C.hK]; exact g, ?_⟩
      rcases nlook_val dn2 z with ⟨zv, rfl⟩ | ⟨i, zv, rfl⟩
      · rw [zv]; exact p2 _ H2 (Same.refl _) (DenM.up (.int _))
      · rw [zv]; exact p2 _ H2 (Same.refl _) (DenM.up (.int _))
  | _ => exact p2.elim
theorem dens_keys {K : PySem.W.Frag} {H : Hp} {av : Addr → Prop} : ∀ {ns : List NE} {kvs : List (D × D)}, DenNs K (fun _ => False) H ns kvs → Dens K av H (ns.map fun e => V.ref e.2.1) (kvs.map (·.1))
  | _, _, .nil => .nil
  | _, _, .cons d n t => .cons (d.noLst (nkey_lst n)) (dens_keys t)
theorem se_nkeys (C : Ctx X P N sc) {i : Nat} {x f : Str} {px pf : Pos} (hi : N[i]? = some x) (hv : Vis sc x) (hg : X.env.kindOf f = some .globalImplicit) (hm : X.mg f = none) (hbf : bootBuiltins f = some (.type "list")) (hn : f ≠ ("__name__" : Str) := by decide)
    (hdb : (f == ("__debug__" : Str)) = false := by decide) (he : starEach [.Name x px] X.env = (false, eval (.Name x px) X.env) :: starEach [] X.env := by rfl) (hpl : (backTo pos (starEach [] X.env)).any (·.1) = false := by rfl)
    (hd : (x == ("__debug__" : Str)) = false := by decide) (hcd : (x == ("__classdict__" : Str)) = false := by decide) :
    PE X (.Call (.Name f pf) [.Name x px] [] pos) (liftN P m (ev Φ (.nkeys i))) := by
  refine PE.imp (pe_callTy (call_list_dn C.calm) hg hm hbf (pa_cons (pe_var (i := i) (by rw [C.hN]; exact hi) (by rw [C.hs]; exact hv) hd hcd) pa_nil he) hn hdb he hpl) fun σ H Q ⟨e, R, p⟩ => ?_
  rcases nkeys_case (Φ := Φ) (e := e) (i := i) with z | ⟨kvs, q⟩
  · rw [z] at p; exact p.elim
  obtain ⟨l, ns, h1, hd, hl, dn⟩ := slot_n R q
  rw [nkeys_of q] at p
  exact ⟨_, h1, l, ns, rfl, hd, hl, fun p' hp => p _ _ (same_upd hp) (new_lst hp (dens_keys dn))⟩
theorem ss_nowe (C : Ctx X P N sc) {i : Nat} {x : Str} {px dp : Pos} (hi : N[i]? = some x) (hx : Loc sc x) (hs : swapsWith (.Dict [] [] dp) (some (.Name x px)) pos.line X.env = pure false := by rfl) (hf : X.fn x = true ∨ X.env.scope.names.lookup x = some .local := by first | exact .inl rfl | exact .inr rfl) :
    PS X (.Assign [.Name x px] (.Dict [] [] dp) pos) (liftS P (exec Φ F (.nowe i))) := by
  refine PS.imp (ps_set (by rw [C.hN]; exact C.nd) (by rw [C.hN]; exact hi) (by rw [C.hs]; exact hx) pe_nnew hs hf) fun D σ H ⟨e, R, p⟩ => ?_
  simp only [exec] at p
  split at p
  · exact fun p' hp => p _ _ (R.setNew hp (same_upd hp) ⟨p', [], rfl, upd_same, Nat.zero_le _, .nil⟩)
  · exact p.elim
theorem ss_nset (C : Ctx X P N sc) {i : Nat} {x : Str} {px tp : Pos} (hi : N[i]? = some x) (hv : Vis sc x) (he : PE X a (lift P 2 (ev Φ A))) (hk : PE X b (lift P 0 (ev Φ B))) (hd : (x == ("__debug__" : Str)) = false := by decide) (hcd : (x == ("__classdict__" : Str)) = false := by decide)
    (hs : swapsWith a (some (.Subscript (.Name x px) b tp)) pos.line X.env = pure false := by rfl) :
    PS X (.Assign [.Subscript (.Name x px) b tp] a pos) (liftS P (exec Φ F (.nset i B A))) := by
  refine PS.imp (ps_nput C.u190 (pe_var (i := i) (by rw [C.hN]; exact hi) (by rw [C.hs]; exact hv) hd hcd) hk he hs) fun D σ H ⟨e, R, p⟩ => ⟨e, R, ?_⟩
  simp only [exec] at p
  cases q : e[i]? with
  | none => rw [q] at p; exact p.elim
  | some s =>
    rw [q] at p
    cases s with
    | on xs =>
      obtain ⟨o1, h1, l, ns, rfl, hl, hz, dd⟩ := R.at q
      refine Post.weaken (bindS (m := 2) R p) fun w H1 ⟨y, _, s, R1, hy, p⟩ => ⟨_, h1, e, R1, ?_⟩
      refine Post.weaken (bindS (m := 0) R1 p) fun k H2 ⟨k', _, s2, R2, hk', p⟩ => ?_
      split at p
      · rename_i hc
        simp only [Bool.and_eq_true, decide_eq_true_eq] at hc
        obtain ⟨⟨c1, c2⟩, c3⟩ := hc
        obtain ⟨o, z⟩ := Option.isSome_iff_exists.mp c2
        obtain ⟨n, _⟩ := nlook_few z
        cases y with
        | int j =>
          obtain rfl : w = .int j := by cases hy; rfl
          have dd2 := (dd.same s).same s2
          have kd := denM_key hk' n
          have ow : Owns e σ l := ⟨i, _, q, rfl, h1⟩
          refine ⟨l, ns, k', xs, (fun _ => False), j, rfl, rfl, s2 _ _ (s _ _ hl), ?_, fun b eb => ?_⟩
          · rw [C.hK]
            exact NKey.of dd2.flat kd hz z
          · subst eb
            refine p σ _ (R2.updOwn q rfl rfl h1 ⟨l, _, rfl, upd_same, ?_, ?_⟩)
            · have := putE_len (es := ns) (h := hashN k') (b := b) (v := j)
              have c4 := dd.length
              have := line_lt c3
              omega
            · exact (dd2.put (kd.noLst (nkey_lst n)) n).mp fun _ _ y => y.upd (R2.kinds _ ow).1 (R2.kinds _ ow).2 (.inr ow)
        | _ => simp [isIntD] at c1
      · exact p.elim
    | _ => exact p.elim
/-- l.insert(i, x) -/
theorem ss_ins (C : Ctx X P N sc) {i : Nat} {x : Str} {px apos cpos : Pos} (hi : N[i]? = some x) (hv : Vis sc x) (hk : PE X b (lift P 2 (ev Φ B))) (he : PE X a (lift P 2 (ev Φ A)))
    (h1 : (((backTo cpos (starEach [b, a] X.env)).all fun x => !x.1) && (backToKw cpos (keywordEach [] X.env)).all (fun x => x.1.isSome) && decide (([b, a] : List Expr).length + ([] : List Keyword).length + (if ([] : List Keyword).isEmpty then 0 else 1) < 30)) = true := by rfl)
    (h2 : (apos.endLine == cpos.line) = true := by rfl) (h3 : starEach [b, a] X.env = (false, eval b X.env) :: starEach [a] X.env := by rfl) (h3b : starEach [a] X.env = (false, eval a X.env) :: starEach [] X.env := by rfl) (h4 : ((backTo cpos (starEach [a] X.env)).any fun x => x.1) = false := by rfl) (hd : (x == ("__debug__" : Str)) = false := by decide) (hcd : (x == ("__classdict__" : Str)) = false := by decide)
    (hb : attributeBase (.Name x px) "insert" X.env (eval (.Name x px) X.env) = eval (.Name x px) X.env := by rfl) (hs : swapsWith (.Call (.Attribute (.Name x px) "insert" apos) [b, a] [] cpos) none pos.line X.env = pure false := by rfl) :
    PS X (.Expr (.Call (.Attribute (.Name x px) "insert" apos) [b, a] [] cpos) pos) (liftS P (exec Φ F (.ins i B A))) := by
  refine PS.imp (ps_expr (pe_bm PySem.F.plainAttrs_list PySem.F.slot_list_insert PySem.F.type_list_insert mt_insert (pe_var (i := i) (by rw [C.hN]; exact hi) (by rw [C.hs]; exact hv) hd hcd) (pa_cons hk (pa_cons he pa_nil h3b) h3) hb h1 h2 h3 h4) hs) fun D σ H ⟨e, R, p⟩ => ?_
  simp only [exec] at p
  cases q : e[i]? with
  | none => rw [q] at p; exact p.elim
  | some s =>
    rw [q] at p
    cases s with
    | ol xs =>
      obtain ⟨o1, h1, l, us, rfl, hl, dd⟩ := R.at q
      refine ⟨_, h1, .inl ⟨rfl, us, .inl (.inl hl)⟩, e, R, ?_⟩
      refine Post.weaken (bindS (m := 2) R p) fun j H1 ⟨k, _, s1, R1, hj, p⟩ => ⟨e, R1, ?_⟩
      refine Post.weaken (bindS (m := 2) R1 p) fun w H2 ⟨y, _, s2, R2, hy, p⟩ => ?_
      cases k with
      | int k =>
        obtain rfl : j = .int k := by cases hj; rfl
        simp only [] at p
        split at p
        · rename_i hz
          have ow : Owns e σ l := ⟨i, _, q, rfl, h1⟩
          have dd2 := (dd.same s1).same s2
          refine ⟨l, us, k, w, rfl, rfl, s2 _ _ (s1 _ _ hl), by rw [dd.length]; exact line_lt hz.2.2, hz.1, hz.2.1, p σ _ (R2.updOwn q rfl rfl h1 ⟨l, _, rfl, upd_same, ?_⟩)⟩
          exact (((dd2.take k.toNat).append (.cons hy.d2 .nil)).append (dd2.drop k.toNat)).upd (R2.kinds _ ow).1 (R2.kinds _ ow).2 (.inr ow)
        · exact p.elim
      | _ => exact p.elim
    | _ => exact p.elim
/-! ### a def that takes such a dict as its third argument -/
/-- its promise -/
def spN (K : PySem.W.Frag) (ca : Nat → Addr) (φ : FT) (f : Nat) : L2.Sp := fun vs H Q E => ∃ (av : Addr → Prop) (v1 v2 v4 : V) (l : Addr) (ns : List NE) (d1 d2 d4 : D) (kvs : List (D × D)), vs = [v1, v2, .ref l, v4] ∧ (∀ a, av a → H a ≠ none) ∧
  Den K av H v1 d1 ∧ Den K av H v2 d2 ∧ Den K av H v4 d4 ∧ H l = some (DN l ns) ∧ ns.length ≤ sizeLine ∧ ¬ av l ∧ DenNs K (fun _ => False) H ns kvs ∧ match φ f [d1, d2, pairsN kvs, d4] with
  | .ok d => ∀ v H', Same H H' → Den K av H' v d → Q v H'
  | .ex c => ∀ H', Same H H' → E (.ref (ca c)) none H'
  | .stuck => False
structure FnN (pr : Program) (w : World) (K : PySem.W.Frag) (mg : Str → Option Value) (base : Heap) (A : Around) (ca : Nat → Addr) (Φ : FT) (x : Str) (f : Nat) : Prop where
  ex : ∃ (k : Nat) (fA : Addr) (fd : FuncData) (ps : List Str), FnOk pr w K mg base (L2N.CX pr w) k fA fd ps (spN K ca Φ f) ∧ Room k A ∧ mg x = some (.ref fA) ∧ PySem.W.keepIn K (.ref fA) = true ∧ Binds K fd ps []
structure GoodN (pr : Program) (w : World) (K : PySem.W.Frag) (mg : Str → Option Value) (base : Heap) (ca : Nat → Addr) (T : List Fdef) (F : Nat) (x : Str) (i n : Nat) : Prop where
  ex : ∃ f fd ps, FnOk pr w K mg base (L2N.CX pr w) n f fd ps (spN K ca (phi T F n) i) ∧ mg x = some (.ref f) ∧ PySem.W.keepIn K (.ref f) = true ∧ Binds K fd ps []
section
variable {pr : Program} {w : World} {K : PySem.W.Frag} {mg : Str → Option Value} {base : Heap} {ca : Nat → Addr}
theorem GoodN.fn {T : List Fdef} {F : Nat} {x : Str} {i n : Nat} {A : Around} (g : GoodN pr w K mg base ca T F x i n) (hr : Room n A) : FnN pr w K mg base A ca (phi T F n) x i := by
  obtain ⟨f, fd, ps, ok, h1, h2, h3⟩ := g.ex
  exact ⟨n, f, fd, ps, ok, hr, h1, h2, h3⟩
theorem goodN_zero {T : List Fdef} {F : Nat} {x q : Str} {i : Nat} {st : Stmt} {ps : List Str} (t : Txt K mg x q st ps) : GoodN pr w K mg base ca T F x i 0 := by
  obtain ⟨f, fd, fn, h1, h2⟩ := t.ex
  refine ⟨f, fd, ps, ⟨fun vs H Q E h => ?_, fun A outer s H args us vs Q E hr he hb hv h => ?_⟩, h1, fn.kp, h2⟩ <;> (obtain ⟨av, v1, v2, v4, l, ns, d1, d2, d4, kvs, _, _, _, _, _, _, _, _, _, h⟩ := h; exact h.elim)
theorem unpairs_of : ∀ {kvs : List (D × D)}, unpairs (kvs.map fun p => .tuple [p.1, p.2]) = some kvs
  | [] => rfl
  | (a, b) :: r => by
    rw [List.map_cons]
    simp only [unpairs, unpairs_of (kvs := r), Option.map_some]
theorem rel_startN {P : Pk} {N : List Str} {v1 v2 v4 : V} {l : Addr} {ns : List NE} {d1 d2 d4 : D} {kvs : List (D × D)} (h1 : Den P.K P.Av P.H0 v1 d1) (h2 : Den P.K P.Av P.H0 v2 d2) (h4 : Den P.K P.Av P.H0 v4 d4) (h3 : P.H0 l = some (DN l ns)) (hz : ns.length ≤ sizeLine) (nav : ¬ P.Av l) (hd : DenNs P.K (fun _ => False) P.H0 ns kvs) (hl : 4 ≤ N.length) :
    Rel P ([.d d1, .d d2, .rn kvs, .d d4] ++ List.replicate (N.length - 4) .un) (L2.start N [v1, v2, .ref l, v4]) P.H0 := by
  have noOwn : ∀ (i : Nat) (s : Slot), ([Slot.d d1, .d d2, .rn kvs, .d d4] ++ List.replicate (N.length - 4) Slot.un)[i]? = some s → isOwn s = false := fun i s h => by
    match i, h with
    | 0, h => cases h; rfl
    | 1, h => cases h; rfl
    | 2, h => cases h; rfl
    | 3, h => cases h; rfl
    | i + 4, h =>
      rw [List.getElem?_append_right (by simp), List.getElem?_replicate] at h
      split at h
      · simp only [Option.some.injEq] at h; subst h; rfl
      · cases h
  have no : ∀ a, ¬ Owns ([Slot.d d1, .d d2, .rn kvs, .d d4] ++ List.replicate (N.length - 4) Slot.un) (L2.start N [v1, v2, .ref l, v4]) a := fun a ⟨i, s, h1, h2, _⟩ => by
    rw [noOwn i s h1] at h2; cases h2
  have up : ∀ {v : V} {d : D}, Den P.K P.Av P.H0 v d → Den P.K (avo P ([Slot.d d1, .d d2, .rn kvs, .d d4] ++ List.replicate (N.length - 4) Slot.un) (L2.start N [v1, v2, .ref l, v4])) P.H0 v d := fun h => h.imp (fun _ _ z => z) fun a _ z => z.elim id fun z => absurd z (no a)
  refine ⟨?_, fun i s o g1 g2 => ?_, fun i j s t a h1 h2 => ?_, Same.refl _, fun a h => absurd h (no a)⟩
  · unfold L2.start
    simp only [List.length_append, List.length_map, List.length_replicate, List.length_cons, List.length_nil] <;> omega
  · match i, g1, g2 with
    | 0, g1, g2 => cases g1; rw [start_get (v := v1) rfl] at g2; cases g2; exact ⟨v1, rfl, up h1⟩
    | 1, g1, g2 => cases g1; rw [start_get (v := v2) rfl] at g2; cases g2; exact ⟨v2, rfl, up h2⟩
    | 2, g1, g2 =>
      cases g1
      rw [start_get (v := .ref l) rfl] at g2
      cases g2
      exact ⟨l, ns, rfl, .inl h3, hz, fun z => z.elim nav fun z => absurd z (no l), hd.flat⟩
    | 3, g1, g2 => cases g1; rw [start_get (v := v4) rfl] at g2; cases g2; exact ⟨v4, rfl, up h4⟩
    | i + 4, g1, g2 =>
      rw [List.getElem?_append_right (by simp), List.getElem?_replicate] at g1
      split at g1
      · simp only [Option.some.injEq] at g1; subst g1; trivial
      · cases g1
  · rw [noOwn i s h1] at h2; cases h2
theorem entryN {P : Pk} {N : List Str} {v1 v2 v4 : V} {l : Addr} {ns : List NE} {d1 d2 d4 : D} {kvs : List (D × D)} {body : List Stm} {Φ : FT} {F : Nat} {Q : VK} {E : XK} (h1 : Den P.K P.Av P.H0 v1 d1) (h2 : Den P.K P.Av P.H0 v2 d2) (h4 : Den P.K P.Av P.H0 v4 d4) (h3 : P.H0 l = some (DN l ns)) (hz : ns.length ≤ sizeLine) (nav : ¬ P.Av l) (hd : DenNs P.K (fun _ => False) P.H0 ns kvs) (hl : 4 ≤ N.length) (hW : P.W = fun cls d _ H => E cls d H)
    (h : match Fdef.run ⟨4, N.length, .objn 2 :: body⟩ Φ F [d1, d2, pairsN kvs, d4] with
      | .ok d => ∀ v H', Same P.H0 H' → Den P.K P.Av H' v d → Q v H'
      | .ex c => ∀ H', Same P.H0 H' → E (.ref (P.ca c)) none H'
      | .stuck => False) : liftS P (execs Φ F body) { nx := fun _ H' => Q .non H', rt := Q } (L2.start N [v1, v2, .ref l, v4]) P.H0 := by
  unfold Fdef.run at h
  rw [if_pos (show [d1, d2, pairsN kvs, d4].length = 4 from rfl)] at h
  refine ⟨_, rel_startN h1 h2 h4 h3 hz nav hd hl, ?_⟩
  have e0 : execs Φ F (.objn 2 :: body) ([d1, d2, pairsN kvs, d4].map Slot.d ++ List.replicate (N.length - 4) .un) = execs Φ F body ([.d d1, .d d2, .rn kvs, .d d4] ++ List.replicate (N.length - 4) .un) := by
    simp only [execs, exec, List.map_cons, List.map_nil, List.cons_append, List.getElem?_cons_succ, List.getElem?_cons_zero, pairsN, unpairs_of, Out.seq_nx, List.set_cons_succ, List.set_cons_zero, List.nil_append]
  simp only [e0] at h
  cases q : execs Φ F body ([.d d1, .d d2, .rn kvs, .d d4] ++ List.replicate (N.length - 4) .un) with
  | ret x => rw [q] at h; exact h
  | nx e' => rw [q] at h; exact fun σ' H' R => h .non H' R.fr .none
  | ex c e' => rw [q] at h; exact fun σ' H' R => by rw [hW]; exact h H' R.fr
  | bk e' => rw [q] at h; exact h.elim
  | ct e' => rw [q] at h; exact h.elim
  | stuck => rw [q] at h; exact h.elim
theorem goodN_succ {T : List Fdef} {F : Nat} {x q : Str} {i n ns : Nat} {st : Stmt} {N ps : List Str} {body : List Stm} (t : Txt K mg x q st ps) (S : FnScope N ps (defScope st)) (hT : T[i]? = some ⟨4, ns, .objn 2 :: body⟩) (hnp : ps.length = 4) (hns : ns = N.length) (hle : ps.length ≤ N.length)
    (hb : Walk pr w K mg base ca N q st n (execs (phi T F n) F body)) : GoodN pr w K mg base ca T F x i (n + 1) := by
  obtain ⟨f, fd, F0, h1, h2⟩ := t.ex
  subst hns
  refine ⟨f, fd, ps, okXN F0 S (fun vs H Q E h => ?_) (fun cdv A outer s H vs Q E hr h => ?_), h1, F0.kp, h2⟩
  · obtain ⟨av, v1, v2, v4, l, es, d1, d2, d4, kvs, rfl, _⟩ := h
    rw [hnp]; rfl
  · obtain ⟨av, v1, v2, v4, l, es, d1, d2, d4, kvs, rfl, hav, g1, g2, g4, g3, gz, gn, gd, h⟩ := h
    simp only [phi, hT] at h
    refine ⟨_, hb (A.deeper (envOfC q (defScope st) s.heap.objs.size f cdv)) s H _ f cdv outer _ H av hav (fun cls d _ H => E cls d H) hr ⟨rfl, rfl, S.nd, rfl, rfl, ?_, takes_of rfl rfl rfl rfl, passes_of rfl⟩, entryN g1 g2 g4 g3 gz gn gd (by omega) rfl h⟩
    have := hr.un
    show (A.deeper (envOfC q (defScope st) s.heap.objs.size f cdv)).units + 190 < cLine
    omega
end
/-- its call -/
theorem se_calln (C : Ctx X P N sc) {x y : Str} {i G : Nat} {p py : Pos} (fn : FnN X.prog X.w X.K X.mg X.base X.A P.ca Φ x G) (hg : X.env.kindOf x = some .globalImplicit) (hi : N[i]? = some y) (hv : Vis sc y) (ha : PE X a (lift P 0 (ev Φ A))) (hb : PE X b (lift P 0 (ev Φ B))) (hc : PE X c (lift P 0 (ev Φ E))) (hdb : (x == ("__debug__" : Str)) = false := by decide)
    (hd : (y == ("__debug__" : Str)) = false := by decide) (hcd : (y == ("__classdict__" : Str)) = false := by decide)
    (he : starEach [a, b, .Name y py, c] X.env = (false, eval a X.env) :: starEach [b, .Name y py, c] X.env := by rfl) (he2 : starEach [b, .Name y py, c] X.env = (false, eval b X.env) :: starEach [.Name y py, c] X.env := by rfl) (he3 : starEach [.Name y py, c] X.env = (false, eval (.Name y py) X.env) :: starEach [c] X.env := by rfl) (he4 : starEach [c] X.env = (false, eval c X.env) :: starEach [] X.env := by rfl)
    (hpl : (backTo pos (starEach [b, .Name y py, c] X.env)).any (·.1) = false := by rfl) :
    PE X (.Call (.Name x p) [a, b, .Name y py, c] [] pos) (lift P m (ev Φ (.calln G [A, B] i [E]))) := by
  obtain ⟨k, fA, fd, ps, ok, hr, hm, hk, hb0⟩ := fn.ex
  refine PE.imp (pe_callS ok hr hg hm hk hb0 (fun σ => passAt C.tk σ) (pa_cons ha (pa_cons hb (pa_cons (pe_var (i := i) (by rw [C.hN]; exact hi) (by rw [C.hs]; exact hv) hd hcd) (pa_cons hc pa_nil he4) he3) he2) he) hdb he hpl) fun σ H Q ⟨e, R, p⟩ => ?_
  simp only [ev] at p
  cases q : e[i]? with
  | none => rw [q] at p; exact p.elim
  | some s =>
    rw [q] at p
    cases s with
    | on kvs =>
      simp only [evs] at p
      obtain ⟨o1, h1, l, ns, rfl, hl, hz, dd⟩ := R.at q
      have ow : Owns e σ l := ⟨i, _, q, rfl, h1⟩
      have bass : ∀ {α β γ : Type} {r : Res α} {f : α → Res β} {g : β → Res γ}, (r.bind f).bind g = r.bind fun x => (f x).bind g := fun {α β γ r f g} => by cases r <;> rfl
      simp only [bass, Res.bind_ok] at p
      refine ⟨e, R, ?_⟩
      refine Post.weaken (bindZ (α := D) (m := 0) gdPost R p) fun v1 H1 ⟨x1, _, s1, R1, k1, p1⟩ => ⟨e, R1, ?_⟩
      refine Post.weaken (bindZ (α := D) (m := 0) gdPost R1 p1) fun v2 H2 ⟨x2, _, s2, R2, k2, p2⟩ => ⟨_, h1, e, R2, ?_⟩
      refine Post.weaken (bindZ (α := D) (m := 0) gdPost R2 p2) fun v4 H3 ⟨x4, _, s3, R3, k4, p3⟩ => ?_
      refine ⟨P.Av, v1, v2, v4, l, ns, x1, x2, x4, kvs, rfl, fun a z => R3.av_ne (.inl z), ?_, ?_, ?_, s3 _ _ (s2 _ _ (s1 _ _ hl)), hz, R.own_av ow, ?_, ?_⟩
      · rw [C.hK]; exact ((k1.same s2).same s3).weak
      · rw [C.hK]; exact (k2.same s3).weak
      · rw [C.hK]; exact k4.weak
      · rw [C.hK]; exact (((dd.same s1).same s2).same s3).flat
      · have ea : [x1, x2] ++ pairsN kvs :: [x4] = [x1, x2, pairsN kvs, x4] := rfl
        simp only [ea] at p3
        cases q2 : Φ G [x1, x2, pairsN kvs, x4] with
        | ok d =>
          rw [q2] at p3
          simp only [Res.bind_ok] at p3
          cases q3 : noLst d with
          | true =>
            rw [q3, if_pos rfl] at p3
            exact fun v H' s hd => p3 v H' s (DenM.up (by rw [C.hK] at hd; exact hd.noLst q3))
          | false => rw [q3, if_neg (by decide)] at p3; exact p3.elim
        | ex c => rw [q2] at p3; exact p3
        | stuck => rw [q2] at p3; exact p3.elim
    | _ => exact p.elim
end
end
end Rf

set_option Elab.async false
set_option linter.all false
set_option maxRecDepth 100000
set_option maxHeartbeats 1000000
/-! Rf, part S: try with a clause `except X as n: return E`, E over slots and isinstance(n, ..). -/
namespace Rf
noncomputable section
open PySem PySem.Spec PyProof.Rows L2N
open L2 hiding CX HdsOk MkP PMk St Takes XE mk_of passAt passes_call pmk_own ps_raise ps_try_as ps_try_many takes_of
section
variable {X : Cx} {P : Pk} {N : List Str} {sc : Scope} {F : Nat} {Φ : FT} {A B : Exp} {a b : Expr} {pos : Pos} {i : Nat} {w : Addr} {pn : List (Addr × Obj)} {f g : Sl → Res D}
/-- a reading in the clause: the error stands in slot i -/
def tL (P : Pk) (i : Nat) (w : Addr) (f : Sl → Res D) : L2.TE := fun σ H Q => σ[i]? = some (some (.ref w)) ∧ ∃ e, Rel P e σ H ∧ ∃ d, f e = .ok d ∧ ∀ v H', Same H H' → DenM P e σ 0 H' v d → Q v H'
def tXL (P : Pk) (i : Nat) (w : Addr) (f : Sl → Res D) : L2.TS := fun D σ H => σ[i]? = some (some (.ref w)) ∧ ∃ e, Rel P e σ H ∧ ∃ d, f e = .ok d ∧ ∀ v H', Same P.H0 H' → Den P.K P.Av H' v d → D.rt v H'
theorem xl_k {k : Bool} (h : PE X a (tK i w (.bl k))) : PE X a (tL P i w (ev Φ (.con (.bool k)))) := PE.imp h fun σ H Q ⟨h1, e, R, d, q, p⟩ => ⟨h1, fun H' s => by
  simp only [ev, Res.ok.injEq] at q
  subst q
  exact p _ H' s (DenM.up (.bool k))⟩
theorem xl_con {i0 : Bool} {j : Nat} : PE X (.Constant (.bool i0) j pos) (tL P i w (ev Φ (.con (.bool i0)))) := xl_k (xk_c pe_bl)
theorem xl_var (C : Ctx X P N sc) {j : Nat} {x : Str} (hN : N[j]? = some x) (hv : Vis sc x) (hd : (x == ("__debug__" : Str)) = false := by decide) (hcd : (x == ("__classdict__" : Str)) = false := by decide) : PE (X.suite w pn) (.Name x pos) (tL P i w (ev Φ (.var j))) := by
  refine PE.imp (pe_var (X := X.suite w pn) (i := j) (by show X.N[j]? = _; rw [C.hN]; exact hN) (by show Vis X.env.scope x; rw [C.hs]; exact hv) hd hcd) fun σ H Q ⟨h1, e, R, d, q, p⟩ => ?_
  simp only [ev] at q
  cases z : e[j]? with
  | none => rw [z] at q; cases q
  | some s =>
    rw [z] at q
    obtain ⟨o, g1, g2⟩ := R.at z
    cases s with
    | d x =>
      obtain ⟨v, rfl, dd⟩ := g2
      cases q
      exact ⟨v, g1, p v H (Same.refl H) dd.mm⟩
    | _ => cases q
theorem xl_not (ha : PE X a (tL P i w (ev Φ A))) : PE X (.UnaryOp .Not a pos) (tL P i w (ev Φ (.not A))) := by
  refine PE.imp (pe_not ha) fun σ H Q ⟨h1, e, R, d, q, p⟩ => ⟨h1, e, R, ?_⟩
  simp only [ev] at q
  cases z : ev Φ A e with
  | ok x =>
    rw [z] at q
    cases x with
    | bool k =>
      simp only [Res.bind_ok, Res.ok.injEq] at q
      subst q
      refine ⟨_, rfl, fun v H' s dv => ⟨k, ?_, p _ H' s (DenM.up (.bool _))⟩⟩
      cases dv; rfl
    | _ => cases q
  | _ => rw [z] at q; cases q
theorem xl_one {op : BoolOp} (ha : PE X a (tL P i w f)) : PE X (.BoolOp op [a] pos) (tL P i w f) := pe_one ha
theorem xl_and {rest : List Expr} (ha : PE X a (tL P i w (ev Φ A))) (hb : PE X (.BoolOp .And (b :: rest) pos) (tL P i w (ev Φ B))) : PE X (.BoolOp .And (a :: b :: rest) pos) (tL P i w (ev Φ (.and A B))) := by
  refine PE.imp (pe_and ha hb) fun σ H Q ⟨h1, e, R, d, q, p⟩ => ⟨h1, e, R, ?_⟩
  simp only [ev] at q
  cases z : ev Φ A e with
  | ok x =>
    rw [z] at q
    cases x with
    | bool k =>
      refine ⟨_, rfl, fun v H' s dv => ⟨k, ?_, ?_⟩⟩
      · cases dv; rfl
      · cases k with
        | true => exact ⟨h1, e, R.same s, d, q, fun v H2 s2 => p v H2 (s.trans s2)⟩
        | false =>
          simp only [Res.bind_ok, Res.ok.injEq] at q
          subst q
          exact p _ H' s (DenM.up (.bool false))
    | _ => cases q
  | _ => rw [z] at q; cases q
/-- x == c, both ints -/
theorem xl_eqI (C : Ctx X P N sc) {k : Int} {j : Nat} {p2 : Pos} (ha : PE (X.suite w pn) a (tL P i w (ev Φ A))) (hm : behindInMarks .Eq (.Constant (.int k) j p2) = false := by rfl) :
    PE (X.suite w pn) (.Compare a [.Eq] [.Constant (.int k) j p2] pos) (tL P i w (ev Φ (.cmp .eq A (.con (.int k))))) := by
  have o := op_cmpD (X := X.suite w pn) (show (X.suite w pn).A.units + 190 < cLine from C.un) .eq
  rw [show (X.suite w pn).K = P.K from C.hK] at o
  refine PE.imp (pe_cmpR o ha pe_int hm) fun σ H Q ⟨h1, e, R, d, q, p⟩ => ⟨h1, e, R, ?_⟩
  simp only [ev] at q
  cases z : ev Φ A e with
  | ok x =>
    rw [z] at q
    simp only [Res.bind_ok] at q
    cases z2 : cmpD .eq x (.int k) with
    | none => rw [z2] at q; cases q
    | some c =>
      rw [z2] at q
      simp only [Option.map_some, Res.of_some, Res.ok.injEq] at q
      subst q
      exact ⟨x, rfl, fun v H' s dv => ⟨av0 P e σ 0, av0 P e σ 0, _, x, .int k, c, dv, den_int, z2, p _ H' s (DenM.up (.bool c))⟩⟩
  | _ => rw [z] at q; cases q
theorem xls_ret (h : PE X a (tL P i w f)) : PSs X [.Return (some a) pos] (tXL P i w f) := PSs.imp (pss_one (ps_ret h)) fun D σ H ⟨h1, e, R, d, q, p⟩ => ⟨h1, e, R, d, q, fun v H' s dv => p v H' (R.fr.trans s) dv.weak⟩
theorem mem_lkE : ∀ {r : List (Nat × Exp)} {c : Nat} {d : Exp}, r.lookup c = some d → (c, d) ∈ r
  | [], _, _, h => by simp at h
  | (k, v) :: r, c, d, h => by
    rw [List.lookup_cons] at h
    by_cases e : (c == k) = true
    · rw [e] at h
      have e2 : c = k := by simpa using e
      cases h
      rw [e2]
      exact List.mem_cons_self ..
    · rw [show (c == k) = false by simpa using e] at h
      exact List.mem_cons_of_mem _ (mem_lkE h)
theorem ss_trx (C : Ctx X P N sc) {x n : Str} {A : Addr} {body suite : List Stmt} {b0 : Stmt} {np pos' : Pos} {B : List Stm} {ok : List Nat} {r : List (Nat × Exp)} (hs : X.stack = X.env :: X.outer) (hf : X.env.frame = some X.env.locals)
    (hi : N[i]? = some n) (hln : X.env.kindOf n = some .local) (hg : X.env.kindOf x = some .globalImplicit) (hm : X.mg x = some (.ref A))
    (hy : ∀ p ∈ r, PySem.W.exmOne P.K (.ref (P.ca p.1)) (.ref A) = some true ∧ ∀ (w : Addr) (oe : Obj) (pn : List (Addr × Obj)), Zc (.ref (P.ca p.1)) none oe → (∃ vs, oe.data = .fields vs) → PSs (X.suite w ((w, oe) :: pn)) (b0 :: suite) (tXL P i w (ev Φ p.2)))
    (hno : ∀ c ∈ ok, PySem.W.exmOne P.K (.ref (P.ca c)) (.ref A) = some false)
    (hb : ∀ (W : WX) (pn : List (Addr × Obj)) (xe : Value → Shared → Prop), Ctx (X.tr pn xe) (P.wi W) N sc → PSs (X.tr pn xe) body (liftS (P.wi W) (execs Φ F B))) (hdb : (x == ("__debug__" : Str)) = false := by decide) :
    PS X (.Try body [.ExceptHandler (some (.Name x np)) (some n) (b0 :: suite) pos'] [] [] pos) (liftS P (exec Φ F (.trx i B ok r))) := by
  have hyes : ∀ c d, r.lookup c = some d → PySem.W.exmOne P.K (.ref (P.ca c)) (.ref A) = some true ∧ ∀ (w : Addr) (oe : Obj) (pn : List (Addr × Obj)), Zc (.ref (P.ca c)) none oe → (∃ vs, oe.data = .fields vs) → PSs (X.suite w ((w, oe) :: pn)) (b0 :: suite) (tXL P i w (ev Φ d)) := fun c d h => hy (c, d) (mem_lkE h)
  refine PS.imp (ps_try_as (c := .ref A) (ts := fun a cls d => fun D σ H => ∃ c dd, cls = .ref (P.ca c) ∧ d = none ∧ r.lookup c = some dd ∧ tXL P i a (ev Φ dd) D σ H) (Wout := P.W) (tb := fun W => liftS (P.wi W) (execs Φ F B)) hs hf (by rw [C.hN]; exact C.nd) (by rw [C.hN]; exact hi) hln ⟨hg, hdb, .inl hm⟩ C.tk
    (fun W pn xe tk po => hb W pn xe ⟨C.hK, C.hN, C.nd, C.hs, C.calm, C.un, tk, po⟩)
    (fun a oe cls d pn hz hfl => ⟨fun pins s σ H D I h => ?_⟩)) fun D σ H ⟨e, R, p⟩ => ⟨e, R.wi, ?_⟩
  · obtain ⟨c, dd, rfl, rfl, hl, h⟩ := h
    obtain ⟨_, hp⟩ := hyes c dd hl
    exact (hp a oe pn hz.zc hfl).run pins s σ H D I h
  · simp only [exec] at p
    cases q : execs Φ F B e with
    | nx e' => rw [q] at p; exact fun σ' H' R' => p σ' H' R'.iw
    | ret x => rw [q] at p; exact p
    | bk e' => rw [q] at p; exact fun σ' H' R' => p σ' H' R'.iw
    | ct e' => rw [q] at p; exact fun σ' H' R' => p σ' H' R'.iw
    | stuck => rw [q] at p; exact p
    | ex c e' =>
      rw [q] at p
      intro σ' H' R'
      cases ql : r.lookup c with
      | some dd =>
        simp only [ql] at p
        obtain ⟨he, _⟩ := hyes c dd ql
        split at p
        · rename_i hlt
          cases qe : ev Φ dd (e'.set i .un) with
          | ok x =>
            rw [qe] at p
            refine ⟨true, by rw [C.hK]; exact he, fun _ a na => ⟨c, dd, rfl, rfl, ql, ?_, e'.set i .un, R'.iw.set rfl trivial, x, qe, p⟩, fun z => Bool.noConfusion z⟩
            rw [List.getElem?_set_self]
            rw [R'.len]
            exact hlt
          | ex _ => rw [qe] at p; exact p.elim
          | stuck => rw [qe] at p; exact p.elim
        · exact p.elim
      | none =>
        simp only [ql] at p
        by_cases ho : ok.contains c = true
        · rw [if_pos ho] at p
          exact ⟨false, by rw [C.hK]; exact hno c (by simpa using ho), fun z => Bool.noConfusion z, fun _ => p σ' H' R'.iw⟩
        · rw [if_neg ho] at p; exact p.elim
end
end
end Rf

set_option Elab.async false
set_option linter.all false
set_option maxRecDepth 100000
set_option maxHeartbeats 1000000
/-! Rf, part P: an object that remembers rows (the class Powers): its methods' promises, the walks of their bodies. -/
namespace Rf
noncomputable section
open PySem PySem.Spec PyProof.Rows L2N
open L2 hiding CX HdsOk MkP PMk St Takes XE mk_of passAt passes_call pmk_own ps_raise ps_try_as ps_try_many takes_of
/-- the heap grows; the dict at d may change -/
def SB (d : Addr) (H H' : Hp) : Prop := ∀ b o, b ≠ d → H b = some o → H' b = some o
theorem SB.of {d : Addr} {H H' : Hp} (s : Same H H') : SB d H H' := fun b o _ q => s b o q
theorem SB.trans {d : Addr} {H H' H2 : Hp} (s : SB d H H') (t : SB d H' H2) : SB d H H2 := fun b o n q => t b o n (s b o n q)
section
variable {K : PySem.W.Frag} {av : Addr → Prop} {H H' : Hp} {d0 : Addr} {ks0 : List (Key × V)}
theorem rd_sb {a : Addr} {u : HO} (h0 : H d0 = some (.dK ks0)) (hn : ∀ z, u ≠ .dK z) (s : SB d0 H H') (h : Rd H a u) : Rd H' a u := by
  have ne : a ≠ d0 := fun e => by
    subst e
    rcases h with h | ⟨o, h⟩
    · rw [h] at h0; cases h0; exact hn _ rfl
    · rw [h] at h0; cases h0
  exact h.imp (fun q => s _ _ ne q) fun ⟨o, q⟩ => ⟨o, s _ _ ne q⟩
theorem nk_lst {xs : List V} : ∀ z, HO.lst xs ≠ .dK z := fun _ z => nomatch z
theorem nk_tup {xs : List V} : ∀ z, HO.tup xs ≠ .dK z := fun _ z => nomatch z
mutual
theorem Den.sb (h0 : H d0 = some (.dK ks0)) (s : SB d0 H H') : ∀ {x : D} {v : V}, noDct x = true → Den K av H v x → Den K av H' v x
  | _, _, _, .none => .none
  | _, _, _, .bool b => .bool b
  | _, _, _, .int i => .int i
  | _, _, _, .str x => .str x
  | .list _, _, n, .list h m t => .list (h.imp (rd_sb h0 nk_lst s) id) m (Dens.sb h0 s (by simpa [noDct] using n) t)
  | .tuple _, _, n, .tuple h t => .tuple (h.imp (rd_sb h0 nk_tup s) id) (Dens.sb h0 s (by simpa [noDct] using n) t)
  | .dict _, _, n, .dict _ _ _ => by simp [noDct] at n
theorem Dens.sb (h0 : H d0 = some (.dK ks0)) (s : SB d0 H H') : ∀ {x : List D} {v : List V}, noDcts x = true → Dens K av H v x → Dens K av H' v x
  | _, _, _, .nil => .nil
  | _ :: _, _, n, .cons a b => by
    simp only [noDcts, Bool.and_eq_true] at n
    exact .cons (Den.sb h0 s n.1 a) (Dens.sb h0 s n.2 b)
end
end
theorem noDcts_mem : ∀ {xs : List D}, (∀ x ∈ xs, noDct x = true) → noDcts xs = true
  | [], _ => rfl
  | x :: r, h => by simp only [noDcts, h x (List.mem_cons_self ..), noDcts_mem fun y hy => h y (List.mem_cons_of_mem _ hy), Bool.and_self]
abbrev noAv : Addr → Prop := fun _ => False
/-- the object at p, its dict of rows at d -/
structure PwAt (K : PySem.W.Frag) (C : Addr) (rv : Int → D) (H : Hp) (p d : Addr) (kvs : List (Key × V)) : Prop where
  ob : ∃ dx, H p = some (.ins C dx [("rows", .ref d)])
  dc : H d = some (.dK kvs)
  nd : (kvs.map (·.1)).Nodup
  ok : ∀ kv ∈ kvs, ∃ m : Int, kv.1 = .inl m ∧ 1 ≤ m ∧ m ≤ 10000 ∧ Den K noAv H kv.2 (rv m)
section
variable {K : PySem.W.Frag} {C : Addr} {rv : Int → D} {H H' : Hp} {p d : Addr} {kvs : List (Key × V)}
theorem PwAt.same (h : PwAt K C rv H p d kvs) (s : Same H H') : PwAt K C rv H' p d kvs := by
  obtain ⟨dx, e⟩ := h.ob
  exact ⟨⟨dx, s _ _ e⟩, s _ _ h.dc, h.nd, fun kv hk => let ⟨m, a, b, c, q⟩ := h.ok kv hk; ⟨m, a, b, c, q.same s⟩⟩
theorem PwAt.ne (h : PwAt K C rv H p d kvs) : p ≠ d := by
  obtain ⟨dx, e⟩ := h.ob
  exact ne_of e h.dc (fun z => nomatch z)
theorem nodup_len : ∀ (N : Nat) {l : List Int}, l.Nodup → (∀ x ∈ l, 1 ≤ x ∧ x ≤ (N : Nat)) → l.length ≤ N
  | 0, l, _, h => by
    cases l with
    | nil => exact Nat.le_refl _
    | cons a r => have := h a (List.mem_cons_self ..); omega
  | N + 1, l, nd, h => by
    have h1 := nodup_len N (l := l.filter (· ≠ ((N + 1 : Nat) : Int))) (nd.sublist (List.filter_sublist ..)) fun x hx => by
      rw [List.mem_filter] at hx
      have := h x hx.1
      have h2 : x ≠ ((N + 1 : Nat) : Int) := by simpa using hx.2
      omega
    have h2 : ∀ {l : List Int}, l.Nodup → l.length ≤ (l.filter (· ≠ ((N + 1 : Nat) : Int))).length + 1 := by
      intro l
      induction l with
      | nil => intro _; simp
      | cons a r ih =>
        intro nd
        rw [List.nodup_cons] at nd
        by_cases e : a = ((N + 1 : Nat) : Int)
        · subst e
          have : r.filter (· ≠ ((N + 1 : Nat) : Int)) = r := by
            rw [List.filter_eq_self]
            intro x hx
            have : x ≠ ((N + 1 : Nat) : Int) := fun z => nd.1 (z ▸ hx)
            simpa using this
          rw [List.filter_cons_of_neg (by simp), this]
          simp
        · rw [List.filter_cons_of_pos (by simpa using e)]
          have := ih nd.2
          simp only [List.length_cons]; omega
    have := h2 nd
    omega
def keyI : Key → Int
  | .inl m => m
  | .inr _ => 0
theorem PwAt.len (h : PwAt K C rv H p d kvs) : kvs.length ≤ 10000 := by
  have h1 : ((kvs.map (·.1)).map keyI).length ≤ 10000 := by
    refine nodup_len 10000 ?_ fun x hx => ?_
    · have nd := h.nd
      have al : ∀ k ∈ kvs.map (·.1), ∃ m : Int, k = .inl m := fun k hk => by
        obtain ⟨kv, h1, rfl⟩ := List.mem_map.mp hk
        obtain ⟨m, e, _⟩ := h.ok kv h1
        exact ⟨m, e⟩
      revert nd al
      generalize kvs.map (·.1) = l
      intro nd al
      induction l with
      | nil => simp
      | cons a r ih =>
        rw [List.nodup_cons] at nd
        rw [List.map_cons, List.nodup_cons]
        refine ⟨fun hx => ?_, ih nd.2 fun k hk => al k (List.mem_cons_of_mem _ hk)⟩
        obtain ⟨k, h1, h2⟩ := List.mem_map.mp hx
        obtain ⟨m, rfl⟩ := al a (List.mem_cons_self ..)
        obtain ⟨m', rfl⟩ := al k (List.mem_cons_of_mem _ h1)
        have : m' = m := h2
        subst this
        exact nd.1 h1
    · obtain ⟨k, h1, rfl⟩ := List.mem_map.mp hx
      obtain ⟨kv, h3, rfl⟩ := List.mem_map.mp h1
      obtain ⟨m, e, a, b, _⟩ := h.ok kv h3
      rw [e]
      exact ⟨a, b⟩
  simpa using h1
/-- the dict with a row more -/
theorem PwAt.put (h : PwAt K C rv H p d kvs) (s : Same H H') {m : Int} {v : V} (m1 : 1 ≤ m) (m2 : m ≤ 10000) (hn : valV kvs (.inl m) = none) (hrv : ∀ m, noDct (rv m) = true) (hv : Den K noAv H' v (rv m)) :
    PwAt K C rv (upd H' d (.dK (putK kvs (.inl m) v))) p d (putK kvs (.inl m) v) ∧ SB d H (upd H' d (.dK (putK kvs (.inl m) v))) := by
  have h' := h.same s
  have sb : SB d H' (upd H' d (.dK (putK kvs (.inl m) v))) := fun b o n q => by rw [upd_ne n]; exact q
  have e : putK kvs (.inl m) v = kvs ++ [(.inl m, v)] := putK_new _ hn
  refine ⟨⟨?_, upd_same, ?_, fun kv hk => ?_⟩, (SB.of s).trans sb⟩
  · obtain ⟨dx, q⟩ := h'.ob
    exact ⟨dx, by rw [upd_ne h.ne]; exact q⟩
  · rw [e]
    rw [List.map_append, List.nodup_append]
    refine ⟨h.nd, by simp, fun a ha b hb => ?_⟩
    simp at hb
    subst hb
    intro z
    subst z
    obtain ⟨kv, h1, h2⟩ := List.mem_map.mp ha
    have : ∀ {l : List (Key × V)}, valV l (.inl m) = none → ∀ kv ∈ l, kv.1 ≠ .inl m := by
      intro l
      induction l with
      | nil => intro _ kv h; simp at h
      | cons x r ih =>
        intro hn kv hk
        by_cases e : x.1 = .inl m
        · rw [show x = (x.1, x.2) from rfl, valV_pos e] at hn; cases hn
        · rw [show x = (x.1, x.2) from rfl, valV_neg e] at hn
          rcases List.mem_cons.mp hk with rfl | hk
          · exact e
          · exact ih hn kv hk
    exact this hn kv h1 h2
  · rw [e] at hk
    rcases List.mem_append.mp hk with hk | hk
    · obtain ⟨m', a, b, c, q⟩ := h'.ok kv hk
      exact ⟨m', a, b, c, q.sb h'.dc sb (hrv m')⟩
    · simp at hk
      subst hk
      exact ⟨m, rfl, m1, m2, hv.sb h'.dc sb (hrv m)⟩
end
/-! ### the methods' promise -/
def spM (K : PySem.W.Frag) (C : Addr) (rv : Int → D) (Φ : FT) (i : Nat) : L2.Sp := fun vs H Q _ => ∃ (p d : Addr) (kvs : List (Key × V)) (vs' : List V) (ds : List D) (x : D), vs = .ref p :: vs' ∧ PwAt K C rv H p d kvs ∧ Dens K noAv H vs' ds ∧ noDcts ds = true ∧ Φ i (.int (p : Nat) :: ds) = .ok x ∧
  ∀ v H' kvs', SB d H H' → PwAt K C rv H' p d kvs' → Den K noAv H' v x → Q v H'
@[reducible] def PO (K : PySem.W.Frag) (ca : Nat → Addr) (h0 : Hp) : Pk := { K := K, H0 := h0, Av := noAv, avok := fun _ z => z.elim, W := fun _ _ _ _ => False, ca := ca }
structure RO (K : PySem.W.Frag) (ca : Nat → Addr) (C : Addr) (rv : Int → D) (e : Sl) (σ : L2.St) (H : Hp) (p d : Addr) (kvs : List (Key × V)) : Prop where
  rel : ∃ h0, Rel (PO K ca h0) e σ H
  pw : PwAt K C rv H p d kvs
  slf : e[0]? = some (.ob p)
section
variable {K : PySem.W.Frag} {ca : Nat → Addr} {C : Addr} {rv : Int → D} {e : Sl} {σ : L2.St} {H H' : Hp} {p d : Addr} {kvs kvs' : List (Key × V)}
theorem okS_get (h : okS e = true) {i : Nat} {s : Slot} (hi : e[i]? = some s) : s = .un ∨ (∃ q, s = .ob q) ∨ ∃ x, s = .d x ∧ noDct x = true := by
  have := List.all_eq_true.mp h s (List.mem_of_getElem? hi)
  cases s with
  | un => exact .inl rfl
  | ob q => exact .inr (.inl ⟨q, rfl⟩)
  | d x => exact .inr (.inr ⟨x, rfl, this⟩)
  | ol _ => cases this
  | od _ => cases this
  | on _ => cases this
  | rn _ => cases this
theorem okS_own (h : okS e = true) {a : Addr} : ¬ Owns e σ a := fun ⟨i, s, h1, h2, _⟩ => by
  rcases okS_get h h1 with rfl | ⟨q, rfl⟩ | ⟨x, rfl, _⟩ <;> cases h2
/-- the relation at a later heap -/
theorem rel_to {h0 : Hp} (R : Rel (PO K ca h0) e σ H) (ok : okS e = true) {dc : List (Key × V)} (h0d : H d = some (.dK dc)) (s : SB d H H') : Rel (PO K ca H') e σ H' := by
  refine ⟨R.len, fun i t o h1 h2 => ?_, R.inj, Same.refl _, fun a z => absurd z (okS_own ok)⟩
  have q := R.slot i t o h1 h2
  rcases okS_get ok h1 with rfl | ⟨q, rfl⟩ | ⟨x, rfl, n⟩
  · trivial
  · exact q
  · obtain ⟨v, rfl, dn⟩ := q
    exact ⟨v, rfl, dn.sb h0d s n⟩
theorem RO.move (R : RO K ca C rv e σ H p d kvs) (ok : okS e = true) (s : SB d H H') (w : PwAt K C rv H' p d kvs') : RO K ca C rv e σ H' p d kvs' := ⟨let ⟨_, r⟩ := R.rel; ⟨_, rel_to r ok R.pw.dc s⟩, w, R.slf⟩
theorem rel_base {h0 : Hp} (R : Rel (PO K ca h0) e σ H) (no : ∀ a, ¬ Owns e σ a) : Rel (PO K ca H) e σ H := ⟨R.len, R.slot, R.inj, Same.refl _, fun a z => absurd z (no a)⟩
theorem avo_no {h0 : Hp} (no : ∀ a, ¬ Owns e σ a) {v : V} {x : D} (h : Den K noAv H v x) : Den K (avo (PO K ca h0) e σ) H v x := h.imp (fun _ _ z => z) fun a _ z => z.elim id (no a)
def PostW (K : PySem.W.Frag) (ca : Nat → Addr) (C : Addr) (rv : Int → D) (D : Ends) (H : Hp) (p d : Addr) : Out → Prop
  | .nx e' => ∀ σ' H' kvs', SB d H H' → RO K ca C rv e' σ' H' p d kvs' → D.nx σ' H'
  | .ret x => ∀ v H' kvs', SB d H H' → PwAt K C rv H' p d kvs' → Den K noAv H' v x → D.rt v H'
  | .bk e' => ∀ σ' H' kvs', SB d H H' → RO K ca C rv e' σ' H' p d kvs' → D.bk σ' H'
  | .ct e' => ∀ σ' H' kvs', SB d H H' → RO K ca C rv e' σ' H' p d kvs' → D.ct σ' H'
  | _ => False
def liftW (K : PySem.W.Frag) (ca : Nat → Addr) (C : Addr) (rv : Int → D) (f : Sl → Out) : L2.TS := fun D σ H => ∃ e p d kvs, RO K ca C rv e σ H p d kvs ∧ PostW K ca C rv D H p d (f e)
theorem PostW.back {D : Ends} (s : SB d H H') : ∀ {o : Out}, PostW K ca C rv D H p d o → PostW K ca C rv D H' p d o
  | .nx _, h => fun σ' H2 k t => h σ' H2 k (s.trans t)
  | .ret _, h => fun σ' H2 k t => h σ' H2 k (s.trans t)
  | .bk _, h => fun σ' H2 k t => h σ' H2 k (s.trans t)
  | .ct _, h => fun σ' H2 k t => h σ' H2 k (s.trans t)
  | .ex _ _, h => h
  | .stuck, h => h
theorem PostW.seq {D : Ends} {g : Sl → Out} : ∀ {o : Out}, PostW K ca C rv D H p d (o.seq g) → PostW K ca C rv { D with nx := liftW K ca C rv g D } H p d o
  | .nx e', h => fun σ' H2 k t R => ⟨e', p, d, k, R, PostW.back t h⟩
  | .ret _, h => h
  | .bk _, h => h
  | .ct _, h => h
  | .ex _ _, h => h
  | .stuck, h => h
end
section
variable {X : Cx} {K : PySem.W.Frag} {ca : Nat → Addr} {C : Addr} {rv : Int → D} {N : List Str} {sc : Scope} {Φ : FT} {F : Nat}
theorem PE.any {ι : Type} {ex : Expr} {t : ι → L2.TE} (h : ∀ i, PE X ex (t i)) : PE X ex (fun σ H Q => ∃ i, t i σ H Q) := ⟨fun pins s σ H Q I ⟨i, q⟩ => (h i).run pins s σ H Q I q⟩
theorem PS.any {ι : Type} {st : Stmt} {t : ι → L2.TS} (h : ∀ i, PS X st (t i)) : PS X st (fun D σ H => ∃ i, t i D σ H) := ⟨fun pins s σ H D I ⟨i, q⟩ => (h i).run pins s σ H D I q⟩
theorem so_nil : PSs X [] (liftW K ca C rv (execs Φ F [])) := PSs.imp pss_nil fun D σ H ⟨e, p, d, kvs, R, h⟩ => by
  simp only [execs] at h
  exact h σ H kvs (fun _ _ _ q => q) R
/-- with plain slots -/
def liftC (K : PySem.W.Frag) (ca : Nat → Addr) (C : Addr) (rv : Int → D) (f : Sl → Out) : L2.TS := fun D σ H => ∃ e p d kvs, RO K ca C rv e σ H p d kvs ∧ okS e = true ∧ PostW K ca C rv D H p d (f e)
theorem so_cons {st : Stmt} {rest : List Stmt} {S : Stm} {r : List Stm} (h : PS X st (liftC K ca C rv (exec Φ F S))) (g : PSs X rest (liftW K ca C rv (execs Φ F r))) : PSs X (st :: rest) (liftW K ca C rv (execs Φ F (.chk :: S :: r))) :=
  PSs.imp (pss_cons h g) fun D σ H ⟨e, p, d, kvs, R, q⟩ => by
    simp only [execs, exec] at q
    by_cases ok : okS e = true
    · rw [if_pos ok] at q
      exact ⟨e, p, d, kvs, R, ok, PostW.seq q⟩
    · rw [if_neg ok] at q; exact q.elim
/-- a statement that does not touch the object -/
theorem so_pure {st : Stmt} {S : Stm} (hS : ∀ h0 : Hp, PS X st (liftS (PO K ca h0) (exec Φ F S))) (h0 : ∀ e e', exec Φ F S e = .nx e' → e'[0]? = e[0]?) (hbc : ∀ e e', exec Φ F S e ≠ .bk e' ∧ exec Φ F S e ≠ .ct e') : PS X st (liftC K ca C rv (exec Φ F S)) :=
  PS.imp (PS.any hS) fun D σ H ⟨e, p, d, kvs, R, ok, q⟩ => ⟨H, e, let ⟨_, r⟩ := R.rel; rel_base r fun a => okS_own ok, by
    cases q2 : exec Φ F S e with
    | nx e' =>
      rw [q2] at q
      exact fun σ' H' R' => q σ' H' kvs (.of R'.fr) ⟨⟨_, R'⟩, R.pw.same R'.fr, by rw [h0 e e' q2]; exact R.slf⟩
    | ret x =>
      rw [q2] at q
      exact fun v H' s dn => q v H' kvs (.of s) (R.pw.same s) dn
    | bk e' => exact absurd q2 (hbc e e').1
    | ct e' => exact absurd q2 (hbc e e').2
    | ex c e' => rw [q2] at q; exact q.elim
    | stuck => rw [q2] at q; exact q.elim⟩
/-- a method that may be called -/
structure MetX (X : Cx) (K : PySem.W.Frag) (C : Addr) (rv : Int → D) (Φ : FT) (i : Nat) (m : Str) : Prop where
  ex : ∃ (k : Nat) (f : Addr) (fd : FuncData) (ps : List Str), FnOk X.prog X.w X.K X.mg X.base L2.CX0 k f fd ps (spM K C rv Φ i) ∧ Room k X.A ∧ Binds X.K fd ps [] ∧ Meth X.K C m f ∧ Cls X.K C
theorem pe_mx {i : Nat} {m : Str} {o a : Expr} {es : List Expr} {ta : L2.TE} {t : L2.TA} {apos pos : Pos} {pl : Sem Bool} (M : MetX X K C rv Φ i m) (h0 : PE X o ta) (ha : PA X (a :: es) t)
    (hst : starEach (a :: es) X.env = (false, eval a X.env) :: starEach es X.env := by rfl) (hpl : (backTo pos (starEach es X.env)).any (·.1) = false := by rfl)
    (ht : eval (.Call (.Attribute o m apos) (a :: es) [] pos) X.env = (do
      let ov ← eval o X.env
      standAt apos.atName
      let (f, first) ← holding [ov] (getMethod ov m pl)
      callWith pos f first (backTo pos (starEach (a :: es) X.env)) (backToKw pos (keywordEach [] X.env))) := by rfl) :
    PE X (.Call (.Attribute o m apos) (a :: es) [] pos) (tMeth C m (spM K C rv Φ i) [] E0 ta t) := by
  obtain ⟨k, f, fd, ps, ok, hr, hb, hm, hc⟩ := M.ex
  exact pe_meth h0 hc hm ok hr hb .nil pass0 ha hst hpl ht
theorem bind_ok {α β : Type} {r : Res α} {f : α → Res β} {x : β} (h : r.bind f = .ok x) : ∃ a, r = .ok a ∧ f a = .ok x := by
  cases r with
  | ok a => exact ⟨a, rfl, h⟩
  | ex c => cases h
  | stuck => cases h
theorem of_ok' {α : Type} {o : Option α} {x : α} (h : Res.of o = .ok x) : o = some x := by
  cases o with
  | none => cases h
  | some a => cases h; rfl
theorem var_ok {i : Nat} {e : Sl} {x : D} (h : ev Φ (.var i) e = .ok x) : e[i]? = some (.d x) := by
  simp only [ev] at h
  cases q : e[i]? with
  | none => rw [q] at h; cases h
  | some s =>
    rw [q] at h
    cases s with
    | d y => cases h; rfl
    | _ => cases h
theorem slf_ok {e : Sl} {p : Nat} {x : D} (h0 : e[0]? = some (.ob p)) (h : ev Φ (.slf 0) e = .ok x) : x = .int (p : Nat) := by
  simp only [ev, h0] at h
  cases h; rfl
theorem evs1 {A : Exp} {e : Sl} {xs : List D} (h : evs Φ [A] e = .ok xs) : ∃ x, ev Φ A e = .ok x ∧ xs = [x] := by
  simp only [evs] at h
  obtain ⟨x, h1, h2⟩ := bind_ok h
  simp only [Res.bind_ok, Res.ok.injEq] at h2
  exact ⟨x, h1, h2.symm⟩
theorem evs2 {A B : Exp} {e : Sl} {xs : List D} (h : evs Φ [A, B] e = .ok xs) : ∃ x y, ev Φ A e = .ok x ∧ ev Φ B e = .ok y ∧ xs = [x, y] := by
  rw [evs] at h
  obtain ⟨x, h1, h2⟩ := bind_ok h
  obtain ⟨ys, h3, h4⟩ := bind_ok h2
  obtain ⟨y, h5, rfl⟩ := evs1 h3
  cases h4
  exact ⟨x, y, h1, h5, rfl⟩
theorem evs3 {A B E : Exp} {e : Sl} {xs : List D} (h : evs Φ [A, B, E] e = .ok xs) : ∃ x y z, ev Φ A e = .ok x ∧ ev Φ B e = .ok y ∧ ev Φ E e = .ok z ∧ xs = [x, y, z] := by
  rw [evs] at h
  obtain ⟨x, h1, h2⟩ := bind_ok h
  obtain ⟨ys, h3, h4⟩ := bind_ok h2
  obtain ⟨y, z, h5, h6, rfl⟩ := evs2 h3
  cases h4
  exact ⟨x, y, z, h1, h5, h6, rfl⟩
section
variable {e : Sl} {σ : L2.St} {H : Hp} {p d : Addr} {kvs : List (Key × V)}
theorem RO.s0 (R : RO K ca C rv e σ H p d kvs) : σ[0]? = some (some (V.ref p)) := by
  obtain ⟨h0, r⟩ := R.rel
  obtain ⟨o, h1, h2⟩ := r.at R.slf
  have h2 : o = some (V.ref p) := h2
  rw [h1, h2]
theorem RO.val (R : RO K ca C rv e σ H p d kvs) {i : Nat} {x : D} (h : e[i]? = some (.d x)) : ∃ v, σ[i]? = some (some v) ∧ Den K noAv H v x := by
  obtain ⟨h0, r⟩ := R.rel
  obtain ⟨o, h1, v, rfl, dn⟩ := r.at h
  exact ⟨v, h1, dn.imp (fun _ _ z => z) fun a _ z => z.elim⟩
theorem ok_d (h : okS e = true) {i : Nat} {x : D} (hi : e[i]? = some (.d x)) : noDct x = true := by
  rcases okS_get h hi with z | ⟨q, z⟩ | ⟨y, z, n⟩
  · cases z
  · cases z
  · cases z; exact n
theorem read_m (R : RO K ca C rv e σ H p d kvs) (ok : okS e = true) {i : Nat} {m : Str} (hm : ¬ ("rows" : Str) = m) {vs' : List V} {ds : List D} {x : D} (hd : Dens K noAv H vs' ds) (hn : noDcts ds = true) (hx : Φ i (.int (p : Nat) :: ds) = .ok x) {E : XK} {Q : VK}
    {t : L2.TA} (ht : ∀ Q', Q' vs' H → t σ H Q') (q : ∀ v H' kvs', SB d H H' → RO K ca C rv e σ H' p d kvs' → Den K noAv H' v x → Q v H') : tMeth C m (spM K C rv Φ i) [] E (tVar 0) t σ H Q := by
  obtain ⟨dx, h1⟩ := R.pw.ob
  refine ⟨_, R.s0, p, dx, _, rfl, h1, ?_, ht _ ?_⟩
  · rw [List.lookup_cons]
    rw [show (m == ("rows" : Str)) = false from by
      cases q : (m == ("rows" : Str)) with
      | false => rfl
      | true => exact absurd (by simpa using q : m = "rows").symm hm]
    rfl
  · rw [List.append_nil]
    exact ⟨p, d, kvs, vs', ds, x, rfl, R.pw, hd, hn, hx, fun v H' kvs' s w dn => q v H' kvs' s (R.move ok s w) dn⟩
end
/-- row, lead = self.row(m) -/
theorem so_asgm {tg : Expr} {T : Tgt} {i j : Nat} {m x0 xm : Str} {p0 pm apos cpos pos : Pos} {pl : Sem Bool} (M : MetX X K C rv Φ i m) (hm : ¬ ("rows" : Str) = m) (he0 : PE X (.Name x0 p0) (tVar 0)) (he1 : PE X (.Name xm pm) (tVar j)) (hg : PG X tg (liftG K T)) (hT : 0 ∉ T.ix)
    (hs : swapsWithSole [tg] (.Call (.Attribute (.Name x0 p0) m apos) [.Name xm pm] [] cpos) pos.line X.env = pure false := by rfl) (hw : swappedStores [tg] (.Call (.Attribute (.Name x0 p0) m apos) [.Name xm pm] [] cpos) X.env = pure none := by rfl) (h1 : (assignEach [tg] X.env).map (·.2) = [assign tg X.env] := by rfl)
    (hst : starEach [.Name xm pm] X.env = [(false, eval (.Name xm pm) X.env)] := by rfl)
    (ht : eval (.Call (.Attribute (.Name x0 p0) m apos) [.Name xm pm] [] cpos) X.env = (do
      let ov ← eval (.Name x0 p0) X.env
      standAt apos.atName
      let (f, first) ← holding [ov] (getMethod ov m pl)
      callWith cpos f first (backTo cpos (starEach [.Name xm pm] X.env)) (backToKw cpos (keywordEach [] X.env))) := by rfl) :
    PS X (.Assign [tg] (.Call (.Attribute (.Name x0 p0) m apos) [.Name xm pm] [] cpos) pos) (liftC K ca C rv (exec Φ F (.asg T (.call i [.slf 0, .var j])))) := by
  refine PS.imp (ps_asg (pe_mx (pl := pl) M he0 (pa_cons he1 pa_nil hst) hst rfl ht) hg hs hw h1) fun D σ H ⟨e, p, d, kvs, R, ok, q⟩ => ?_
  simp only [exec, ev] at q
  cases q1 : evs Φ [.slf 0, .var j] e with
  | ex c => rw [q1] at q; exact q.elim
  | stuck => rw [q1] at q; exact q.elim
  | ok xs =>
    obtain ⟨a, b, ha, hb, rfl⟩ := evs2 q1
    rw [q1] at q
    obtain rfl := slf_ok R.slf ha
    have hj := var_ok hb
    simp only [Res.bind_ok] at q
    cases q2 : Φ i [.int (p : Nat), b] with
    | ex c => rw [q2] at q; exact q.elim
    | stuck => rw [q2] at q; exact q.elim
    | ok x =>
      rw [q2] at q
      simp only [Out.ofR_ok] at q
      cases q3 : bindT T x e with
      | none => rw [q3] at q; exact q.elim
      | some e1 =>
        rw [q3] at q
        obtain ⟨v, hv, dv⟩ := R.val hj
        refine read_m R ok hm (vs' := [v]) (ds := [b]) (.cons dv .nil) (by simp only [noDcts, ok_d ok hj, Bool.and_self]) q2 (fun Q' h => ⟨v, hv, h⟩) fun u H' kvs' s R' du => ?_
        obtain ⟨h0, r⟩ := R'.rel
        refine ⟨PO K ca h0, e, x, e1, rfl, r, avo_no (fun a => okS_own ok) du, q3, fun σ1 r1 _ => q σ1 H' kvs' s ⟨⟨_, r1⟩, R'.pw, ?_⟩⟩
        rw [(bindT_out q3 0).1 hT]
        exact R'.slf
/-- a read of a row: return row[lead + (self.number(exponent, period) - lead) % period] -/
theorem so_retm {i jr jl je jp : Nat} {m x0 xr xl xe xp : Str} {p0 pr pl1 pl2 pe1 pp1 pp2 apos cpos bp1 bp2 bp3 sp pos : Pos} {pl : Sem Bool} (hu : X.A.units + 1 < cLine) (hK : X.K = K) (M : MetX X K C rv Φ i m) (hm : ¬ ("rows" : Str) = m) (he0 : PE X (.Name x0 p0) (tVar 0)) (her : PE X (.Name xr pr) (tVar jr)) (hel : PE X (.Name xl pl1) (tVar jl)) (hel2 : PE X (.Name xl pl2) (tVar jl)) (hee : PE X (.Name xe pe1) (tVar je)) (hep : PE X (.Name xp pp1) (tVar jp)) (hep2 : PE X (.Name xp pp2) (tVar jp))
    (hst : starEach [.Name xe pe1, .Name xp pp1] X.env = (false, eval (.Name xe pe1) X.env) :: starEach [.Name xp pp1] X.env := by rfl) (hst2 : starEach [.Name xp pp1] X.env = [(false, eval (.Name xp pp1) X.env)] := by rfl) (hpl : (backTo cpos (starEach [.Name xp pp1] X.env)).any (·.1) = false := by rfl)
    (ht : eval (.Call (.Attribute (.Name x0 p0) m apos) [.Name xe pe1, .Name xp pp1] [] cpos) X.env = (do
      let ov ← eval (.Name x0 p0) X.env
      standAt apos.atName
      let (f, first) ← holding [ov] (getMethod ov m pl)
      callWith cpos f first (backTo cpos (starEach [.Name xe pe1, .Name xp pp1] X.env)) (backToKw cpos (keywordEach [] X.env))) := by rfl)
    (hp : PlainIx (.BinOp (.Name xl pl1) .Add (.BinOp (.BinOp (.Call (.Attribute (.Name x0 p0) m apos) [.Name xe pe1, .Name xp pp1] [] cpos) .Sub (.Name xl pl2) bp1) .Mod (.Name xp pp2) bp2) bp3) := by exact fun _ _ => rfl) :
    PS X (.Return (some (.Subscript (.Name xr pr) (.BinOp (.Name xl pl1) .Add (.BinOp (.BinOp (.Call (.Attribute (.Name x0 p0) m apos) [.Name xe pe1, .Name xp pp1] [] cpos) .Sub (.Name xl pl2) bp1) .Mod (.Name xp pp2) bp2) bp3) sp)) pos)
      (liftC K ca C rv (exec Φ F (.ret (.idx (.var jr) (.bin .add (.var jl) (.bin .mod (.bin .sub (.call i [.slf 0, .var je, .var jp]) (.var jl)) (.var jp))))))) := by
  have o := ixD (X := X) hu
  have os := op_binD (X := X) .sub
  have om := op_binD (X := X) .mod
  have oa := op_binD (X := X) .add
  rw [hK] at o os om oa
  refine PS.imp (ps_ret (pe_ix o her (pe_op oa hel (pe_op om (pe_op os (pe_mx (pl := pl) M he0 (pa_cons hee (pa_cons hep pa_nil hst2) hst) hst hpl ht) hel2) hep2)) hp)) fun D σ H ⟨e, p, d, kvs, R, ok, q⟩ => ?_
  simp only [exec] at q
  cases q1 : ev Φ (.idx (.var jr) (.bin .add (.var jl) (.bin .mod (.bin .sub (.call i [.slf 0, .var je, .var jp]) (.var jl)) (.var jp)))) e with
  | ex c => rw [q1] at q; exact q.elim
  | stuck => rw [q1] at q; exact q.elim
  | ok r =>
    rw [q1] at q
    simp only [Out.ofR_ok] at q
    rw [ev] at q1
    obtain ⟨dr, r1, q1⟩ := bind_ok q1
    obtain ⟨di, r2, r3⟩ := bind_ok q1
    rw [ev] at r2
    obtain ⟨dl, l1, r2⟩ := bind_ok r2
    obtain ⟨dm, m1, m2⟩ := bind_ok r2
    rw [ev] at m1
    obtain ⟨dsb, s1, m1⟩ := bind_ok m1
    obtain ⟨dp, p1, m3⟩ := bind_ok m1
    rw [ev] at s1
    obtain ⟨dc, c1, s1⟩ := bind_ok s1
    obtain ⟨dl2, l2, s2⟩ := bind_ok s1
    rw [l1] at l2
    cases l2
    rw [ev] at c1
    obtain ⟨xs, c2, c3⟩ := bind_ok c1
    obtain ⟨a, b, b2, ha, hb, hb2, rfl⟩ := evs3 c2
    obtain rfl := slf_ok R.slf ha
    rw [p1] at hb2
    cases hb2
    have jr1 := var_ok r1
    have jl1 := var_ok l1
    have je1 := var_ok hb
    have jp1 := var_ok p1
    obtain ⟨vr, hr1, hr2⟩ := R.val jr1
    obtain ⟨vl, hl1, hl2⟩ := R.val jl1
    obtain ⟨ve, hv1, hv2⟩ := R.val je1
    obtain ⟨vp, hp1, hp2⟩ := R.val jp1
    refine ⟨vr, hr1, vl, hl1, ?_⟩
    refine read_m R ok hm (vs' := [ve, vp]) (ds := [b, dp]) (.cons hv2 (.cons hp2 .nil)) (by simp only [noDcts, ok_d ok je1, ok_d ok jp1, Bool.and_self]) c3 (fun Q' h => ⟨ve, hv1, vp, hp1, h⟩) fun u H' kvs' s R' du => ?_
    obtain ⟨vl', hl1', hl2'⟩ := R'.val jl1
    obtain ⟨vp', hp1', hp2'⟩ := R'.val jp1
    refine ⟨vl', hl1', noAv, noAv, noAv, dc, dl, dsb, du.two, hl2'.two, of_ok' s2, fun z1 H1 sm1 f1 => ?_⟩
    refine ⟨vp', hp1', noAv, noAv, noAv, dsb, dp, dm, (f1.two fun a z => z.elim), (hp2'.same sm1).two, of_ok' m3, fun z2 H2 sm2 f2 => ?_⟩
    have hlH : Den K noAv H' vl dl := hl2.sb R.pw.dc s (ok_d ok jl1)
    refine ⟨noAv, noAv, noAv, dl, dm, di, (hlH.same (sm1.trans sm2)).two, (f2.two fun a z => z.elim), of_ok' m2, fun z3 H3 sm3 f3 => ?_⟩
    have hrH : Den K noAv H' vr dr := hr2.sb R.pw.dc s (ok_d ok jr1)
    refine ⟨noAv, noAv, noAv, noAv, dr, di, r, (hrH.same ((sm1.trans sm2).trans sm3)).two, (f3.two fun a z => z.elim), of_ok' r3, fun z4 d4 => ?_⟩
    have sm := (sm1.trans sm2).trans sm3
    exact q z4 H3 kvs' (s.trans (.of sm)) (R'.pw.same sm) d4
/-- total += sign * self.power(exponent, m) -/
theorem so_augm {i jt js je jm : Nat} {m x0 xt xs xe xm : Str} {p0 pt ps1 pe1 pm1 apos cpos bp pos : Pos} {pl : Sem Bool} (hK : X.K = K) (hNd : X.N.Nodup) (hi : X.N[jt]? = some xt) (hx : Loc X.env.scope xt) (M : MetX X K C rv Φ i m) (hm : ¬ ("rows" : Str) = m) (hj : jt ≠ 0) (he0 : PE X (.Name x0 p0) (tVar 0)) (hes : PE X (.Name xs ps1) (tVar js)) (hee : PE X (.Name xe pe1) (tVar je)) (hem : PE X (.Name xm pm1) (tVar jm))
    (hst : starEach [.Name xe pe1, .Name xm pm1] X.env = (false, eval (.Name xe pe1) X.env) :: starEach [.Name xm pm1] X.env := by rfl) (hst2 : starEach [.Name xm pm1] X.env = [(false, eval (.Name xm pm1) X.env)] := by rfl) (hpl : (backTo cpos (starEach [.Name xm pm1] X.env)).any (·.1) = false := by rfl)
    (ht : eval (.Call (.Attribute (.Name x0 p0) m apos) [.Name xe pe1, .Name xm pm1] [] cpos) X.env = (do
      let ov ← eval (.Name x0 p0) X.env
      standAt apos.atName
      let (f, first) ← holding [ov] (getMethod ov m pl)
      callWith cpos f first (backTo cpos (starEach [.Name xe pe1, .Name xm pm1] X.env)) (backToKw cpos (keywordEach [] X.env))) := by rfl)
    (hf : X.fn xt = true ∨ X.env.scope.names.lookup xt = some .local := by first | exact .inl rfl | exact .inr rfl) :
    PS X (.AugAssign (.Name xt pt) .Add (.BinOp (.Name xs ps1) .Mult (.Call (.Attribute (.Name x0 p0) m apos) [.Name xe pe1, .Name xm pm1] [] cpos) bp) pos)
      (liftC K ca C rv (exec Φ F (.aug jt .add (.bin .mul (.var js) (.call i [.slf 0, .var je, .var jm]))))) := by
  have om := op_binD (X := X) .mul
  have oa : PIp X .Add (RB X.K (augD .add)) := op_augD .add nofun
  rw [hK] at om oa
  refine PS.imp (ps_aug hNd hi hx (pe_op om hes (pe_mx (pl := pl) M he0 (pa_cons hee (pa_cons hem pa_nil hst2) hst) hst hpl ht)) oa hf) fun D σ H ⟨e, p, d, kvs, R, ok, q⟩ => ?_
  simp only [exec] at q
  cases qt : e[jt]? with
  | none => rw [qt] at q; exact q.elim
  | some st =>
    rw [qt] at q
    cases st with
    | d dt =>
      simp only [] at q
      cases q1 : ev Φ (.bin .mul (.var js) (.call i [.slf 0, .var je, .var jm])) e with
      | ex c => rw [q1] at q; exact q.elim
      | stuck => rw [q1] at q; exact q.elim
      | ok y =>
        rw [q1] at q
        simp only [Out.ofR_ok] at q
        cases q2 : augD .add dt y with
        | none => rw [q2] at q; exact q.elim
        | some z =>
          rw [q2] at q
          rw [ev] at q1
          obtain ⟨dsg, s1, q1⟩ := bind_ok q1
          obtain ⟨dc, c1, m3⟩ := bind_ok q1
          rw [ev] at c1
          obtain ⟨xs, c2, c3⟩ := bind_ok c1
          obtain ⟨a, b, b2, ha, hb, hb2, rfl⟩ := evs3 c2
          obtain rfl := slf_ok R.slf ha
          have js1 := var_ok s1
          have je1 := var_ok hb
          have jm1 := var_ok hb2
          obtain ⟨vt, ht1, ht2⟩ := R.val qt
          obtain ⟨vs, hs1, hs2⟩ := R.val js1
          obtain ⟨ve, hv1, hv2⟩ := R.val je1
          obtain ⟨vm, hm1, hm2⟩ := R.val jm1
          refine ⟨vt, ht1, vs, hs1, ?_⟩
          refine read_m R ok hm (vs' := [ve, vm]) (ds := [b, b2]) (.cons hv2 (.cons hm2 .nil)) (by simp only [noDcts, ok_d ok je1, ok_d ok jm1, Bool.and_self]) c3 (fun Q' h => ⟨ve, hv1, vm, hm1, h⟩) fun u H' kvs' s R' du => ?_
          have hsH : Den K noAv H' vs dsg := hs2.sb R.pw.dc s (ok_d ok js1)
          have htH : Den K noAv H' vt dt := ht2.sb R.pw.dc s (ok_d ok qt)
          refine ⟨noAv, noAv, noAv, dsg, dc, y, hsH.two, du.two, of_ok' m3, fun z1 H1 sm1 f1 => ?_⟩
          refine ⟨noAv, noAv, noAv, dt, y, z, (htH.same sm1).two, (f1.two fun a z => z.elim), q2, fun z2 H2 sm2 f2 => ?_⟩
          have sm := sm1.trans sm2
          have R2 : RO K ca C rv e σ H2 p d kvs' := ⟨let ⟨h0, r⟩ := R'.rel; ⟨h0, r.same sm⟩, R'.pw.same sm, R'.slf⟩
          obtain ⟨h0, r2⟩ := R2.rel
          have dz : Den K noAv H2 z2 z := (f2.two (c0 := noAv) fun a z => z.elim).one
          exact q _ H2 kvs' (s.trans (.of sm)) ⟨⟨h0, r2.setD (avo_no (fun a => okS_own ok) dz)⟩, R2.pw, by rw [List.getElem?_set_ne hj]; exact R2.slf⟩
    | _ => exact q.elim
/-! loops -/
theorem so_end : PSs X [] (liftW K ca C rv (execs Φ F [.chk])) := PSs.imp pss_nil fun D σ H ⟨e, p, d, kvs, R, h⟩ => by
  simp only [execs, exec] at h
  by_cases ok : okS e = true
  · rw [if_pos ok] at h; exact h σ H kvs (fun _ _ _ q => q) R
  · rw [if_neg ok] at h; exact h.elim
theorem PostW.turn {D : Ends} {M : L2.St → Hp → Prop} {G : Sl → Out} {H : Hp} {p d : Addr} {o : Out} (hN : ∀ e' σ' H' kvs', (o = .nx e' ∨ o = .ct e') → SB d H H' → RO K ca C rv e' σ' H' p d kvs' → PostW K ca C rv D H p d (G e') → M σ' H') (h : PostW K ca C rv D H p d (o.turn G)) : PostW K ca C rv { D with nx := M, ct := M, bk := D.nx } H p d o := by
  cases o with
  | nx e' => exact fun σ' H' k s R => hN e' σ' H' k (.inl rfl) s R h
  | ct e' => exact fun σ' H' k s R => hN e' σ' H' k (.inr rfl) s R h
  | bk _ => exact h
  | ret _ => exact h
  | ex _ _ => exact h
  | stuck => exact h
theorem chk_end {S : Stm} (hS : ∀ e e', exec Φ F S e ≠ .ct e') {e e' : Sl} (h : execs Φ F [.chk, S, .chk] e = .nx e' ∨ execs Φ F [.chk, S, .chk] e = .ct e') : okS e' = true := by
  simp only [execs, exec] at h
  by_cases ok : okS e = true
  · rw [if_pos ok] at h
    simp only [Out.seq_nx] at h
    cases q : exec Φ F S e with
    | nx e2 =>
      rw [q] at h
      simp only [Out.seq_nx] at h
      by_cases ok2 : okS e2 = true
      · rw [if_pos ok2] at h
        simp only [Out.seq_nx] at h
        rcases h with h | h
        · cases h; exact ok2
        · cases h
      · rw [if_neg ok2] at h
        rcases h with h | h <;> cases h
    | ct e2 => exact absurd q (hS e e2)
    | _ => rw [q] at h; rcases h with h | h <;> cases h
  · rw [if_neg ok] at h
    rcases h with h | h <;> cases h
theorem so_for {tg : Expr} {T : Tgt} {j : Nat} {xn : Str} {pn pos : Pos} {body : List Stmt} {BD : List Stm} (hp : PassesOwn (model X.prog X.w) X.A X.env X.xe) (hc : X.calm = true) (hK : X.K = K) (he : PE X (.Name xn pn) (tVar j)) (hg : PG X tg (liftG K T)) (hT : 0 ∉ T.ix) (hb : PSs X body (liftW K ca C rv (execs Φ F BD)))
    (hok : ∀ e e', (execs Φ F BD e = .nx e' ∨ execs Φ F BD e = .ct e') → okS e' = true) (hs : ∀ x, foldedSetIterable (.Name xn pn) X.env x = pure x := by intro _; rfl) :
    PS X (.For tg (.Name xn pn) body [] pos) (liftC K ca C rv (exec Φ F (.for T .tup [.var j] BD))) := by
  refine PS.imp (ps_for hp hc (pi_tup he) hg hb hs) fun D σ H ⟨e, p, d, kvs, R, ok, q⟩ => ?_
  simp only [exec] at q
  cases q1 : evs Φ [.var j] e with
  | ex c => rw [q1] at q; exact q.elim
  | stuck => rw [q1] at q; exact q.elim
  | ok xs =>
    obtain ⟨x, hx, rfl⟩ := evs1 q1
    rw [q1] at q
    simp only [Out.ofR_ok] at q
    have hj := var_ok hx
    cases x with
    | tuple its =>
      simp only [srcD] at q
      obtain ⟨v, hv, dv⟩ := R.val hj
      cases dv with
      | tuple sq dn =>
        rename_i a us
        have hnd : noDcts its = true := by have := ok_d ok hj; simpa [noDct] using this
        have hlen := dn.length
        refine ⟨_, hv, a, rfl, ⟨us, by rw [hK]; exact sq⟩, fun i m σ2 H2 => m = its.length - i ∧ i ≤ its.length ∧ ∃ e2 k2, RO K ca C rv e2 σ2 H2 p d k2 ∧ okS e2 = true ∧ SqT K H2 a us ∧ Dens K noAv H2 us its ∧ PostW K ca C rv D H2 p d (forL (fun e' => execs Φ F BD e') T (its.drop i) e2), ⟨its.length, by omega, Nat.zero_le _, e, kvs, R, ok, sq, dn, by simpa using q⟩, ?_⟩
        rintro i m σ2 H2 ⟨rfl, hi, e2, k2, R2, ok2, sq2, dn2, p2⟩
        by_cases hlt : i < its.length
        · refine .inr ⟨⟨us, us[i], by rw [hK]; exact sq2, List.getElem?_eq_getElem (by omega)⟩, fun σ' H' => ∃ e3 k3, RO K ca C rv e3 σ' H' p d k3 ∧ okS e3 = true ∧ SqT K H' a us ∧ Dens K noAv H' us its ∧ PostW K ca C rv D H' p d (forL (fun e' => execs Φ F BD e') T (its.drop (i + 1)) e3), fun σ' H' z => ⟨its.length - (i + 1), by omega, rfl, by omega, z⟩, fun y H' yy => ?_⟩
          rw [List.drop_eq_getElem_cons hlt] at p2
          simp only [forL] at p2
          obtain ⟨rfl, yy⟩ := yy
          have hy := yy us (by rw [hK]; exact sq2)
          cases qb : bindT T its[i] e2 with
          | none => rw [qb] at p2; exact p2.elim
          | some e3 =>
            rw [qb] at p2
            obtain ⟨d', h1, h2⟩ := dn2.get hy
            rw [List.getElem?_eq_getElem hlt] at h1
            cases h1
            obtain ⟨h0, r2⟩ := R2.rel
            refine ⟨PO K ca h0, e2, its[i], e3, rfl, r2, avo_no (fun a => okS_own ok2) h2, qb, fun σ3 r3 _ => ⟨e3, p, d, k2, ⟨⟨_, r3⟩, R2.pw, by rw [(bindT_out qb 0).1 hT]; exact R2.slf⟩, PostW.turn (fun e' σ' H3 k3 ho s3 R3 z => ⟨e', k3, R3, hok _ _ ho, ?_, dn2.sb R2.pw.dc s3 hnd, PostW.back s3 z⟩) p2⟩⟩
            exact sq2.imp (rd_sb R2.pw.dc nk_tup s3) id
        · refine .inl ⟨⟨us, by rw [hK]; exact sq2, by omega⟩, ?_⟩
          rw [List.drop_of_length_le (by omega)] at p2
          simp only [forL] at p2
          exact p2 σ2 H2 k2 (fun _ _ _ q => q) R2
    | _ => exact q.elim
end
/-! ### the methods as defs -/
section
variable {pr : Program} {w : World} {K : PySem.W.Frag} {mg : Str → Option Value} {base : Heap} {ca : Nat → Addr} {C : Addr} {rv : Int → D}
structure GoodM (pr : Program) (w : World) (K : PySem.W.Frag) (mg : Str → Option Value) (base : Heap) (C : Addr) (rv : Int → D) (T : List Fdef) (F : Nat) (m : Str) (i n : Nat) : Prop where
  ex : ∃ f fd ps, FnOk pr w K mg base L2.CX0 n f fd ps (spM K C rv (phi T F n) i) ∧ Binds K fd ps [] ∧ Meth K C m f
theorem GoodM.met {T : List Fdef} {F : Nat} {m : Str} {i n : Nat} {X : Cx} (g : GoodM X.prog X.w X.K X.mg X.base C rv T F m i n) (hc : Cls X.K C) (hr : Room n X.A) : MetX X X.K C rv (phi T F n) i m := by
  obtain ⟨f, fd, ps, ok, h1, h2⟩ := g.ex
  exact ⟨n, f, fd, ps, ok, hr, h1, h2, hc⟩
/-- what the top has written of a method -/
structure TxtM (K : PySem.W.Frag) (C : Addr) (m q : Str) (st : Stmt) (ps : List Str) : Prop where
  ex : ∃ f fd, Fun K m q st f fd ∧ Binds K fd ps [] ∧ Meth K C m f
theorem goodM_zero {T : List Fdef} {F : Nat} {m q : Str} {i : Nat} {st : Stmt} {ps : List Str} (t : TxtM K C m q st ps) : GoodM pr w K mg base C rv T F m i 0 := by
  obtain ⟨f, fd, fn, h1, h2⟩ := t.ex
  refine ⟨f, fd, ps, ⟨fun vs H Q E h => ?_, fun A outer s H args us vs Q E hr he hb hv h => ?_⟩, h1, h2⟩ <;> (obtain ⟨p, d, kvs, vs', ds, x, _, _, _, _, h, _⟩ := h; cases h)
theorem rel_startO {N : List Str} {p : Addr} {vs : List V} {ds : List D} {H : Hp} (hd : Dens K noAv H vs ds) (hl : ds.length + 1 ≤ N.length) : Rel (PO K ca H) (.ob p :: (ds.map .d ++ List.replicate (N.length - (ds.length + 1)) .un)) (L2.start N (.ref p :: vs)) H := by
  have hlen := hd.length
  have get0 : (L2.start N (V.ref p :: vs))[0]? = some (some (V.ref p)) := start_get rfl
  have noOwn : ∀ (i : Nat) (s : Slot), (Slot.ob p :: (ds.map Slot.d ++ List.replicate (N.length - (ds.length + 1)) Slot.un))[i]? = some s → isOwn s = false := fun i s h => by
    cases i with
    | zero => simp only [List.getElem?_cons_zero, Option.some.injEq] at h; subst h; rfl
    | succ i =>
      rw [List.getElem?_cons_succ] at h
      by_cases hi : i < ds.length
      · rw [List.getElem?_append_left (by rw [List.length_map]; exact hi), List.getElem?_map, List.getElem?_eq_getElem hi] at h
        simp only [Option.map_some, Option.some.injEq] at h
        subst h; rfl
      · rw [List.getElem?_append_right (by rw [List.length_map]; omega), List.getElem?_replicate] at h
        split at h
        · simp only [Option.some.injEq] at h; subst h; rfl
        · cases h
  have no : ∀ a, ¬ Owns (Slot.ob p :: (ds.map Slot.d ++ List.replicate (N.length - (ds.length + 1)) Slot.un)) (L2.start N (V.ref p :: vs)) a := fun a ⟨i, s, h1, h2, _⟩ => by
    rw [noOwn i s h1] at h2; cases h2
  refine ⟨?_, fun i s o h1 h2 => ?_, fun i j s t a h1 h2 => ?_, Same.refl _, fun a h => absurd h (no a)⟩
  · unfold L2.start
    simp only [List.length_append, List.length_map, List.length_replicate, List.length_cons]
    omega
  · cases i with
    | zero =>
      simp only [List.getElem?_cons_zero, Option.some.injEq] at h1
      subst h1
      rw [get0] at h2
      cases h2
      rfl
    | succ i =>
      rw [List.getElem?_cons_succ] at h1
      by_cases hi : i < ds.length
      · rw [List.getElem?_append_left (by rw [List.length_map]; exact hi), List.getElem?_map, List.getElem?_eq_getElem hi] at h1
        simp only [Option.map_some, Option.some.injEq] at h1
        subst h1
        obtain ⟨v, hv, dv⟩ := hd.getD (List.getElem?_eq_getElem hi)
        rw [start_get (show (V.ref p :: vs)[i + 1]? = some v by rw [List.getElem?_cons_succ]; exact hv)] at h2
        simp only [Option.some.injEq] at h2
        subst h2
        exact ⟨v, rfl, dv.imp (fun _ _ z => z) fun a _ z => z.elim id fun z => absurd z (no a)⟩
      · rw [List.getElem?_append_right (by rw [List.length_map]; omega), List.getElem?_replicate] at h1
        split at h1
        · simp only [Option.some.injEq] at h1; subst h1; trivial
        · cases h1
  · rw [noOwn i s h1] at h2; cases h2
/-- a method's walk -/
def WalkO (pr : Program) (w : World) (K : PySem.W.Frag) (mg : Str → Option Value) (base : Heap) (ca : Nat → Addr) (C : Addr) (rv : Int → D) (N : List Str) (q : Str) (st : Stmt) (n : Nat) (f : Sl → Out) : Prop :=
  ∀ (A : Around) (s0 : Shared) (H0 : Hp) (a fA : Addr) (cdv : Value) (outer : List Env) (xe : Value → Shared → Prop), Room n A → (∀ h0, Ctx (cxG pr w K mg base N q st A s0 H0 a fA cdv outer xe) (PO K ca h0) N (defScope st)) → PSs (cxG pr w K mg base N q st A s0 H0 a fA cdv outer xe) (defBody st) (liftW K ca C rv f)
theorem goodM_succ {T : List Fdef} {F : Nat} {m q : Str} {i n : Nat} {st : Stmt} {N ps : List Str} {np ns : Nat} {body : List Stm} (t : TxtM K C m q st ps) (S : FnScope N ps (defScope st)) (hT : T[i]? = some ⟨np, ns, .obj 0 :: body⟩) (hnp : np = ps.length) (hns : ns = N.length) (hle : ps.length ≤ N.length)
    (hb : WalkO pr w K mg base ca C rv N q st n (execs (phi T F n) F body)) : GoodM pr w K mg base C rv T F m i (n + 1) := by
  obtain ⟨f, fd, F0, h1, h2⟩ := t.ex
  refine ⟨f, fd, ps, F0.ok S (fun vs H Q E h => ?_) (fun cdv A outer s H vs Q E hr h => ?_), h1, h2⟩
  · obtain ⟨p, d, kvs, vs', ds, x, rfl, _, hd, _, h, _⟩ := h
    simp only [phi, hT] at h
    unfold Fdef.run at h
    by_cases hl : (PyData.int (p : Nat) :: ds).length = np
    · rw [List.length_cons, hd.length, ← hnp, ← hl]; rfl
    · rw [if_neg hl] at h; cases h
  · obtain ⟨p, d, kvs, vs', ds, x, rfl, pw, hd, hn, h, qq⟩ := h
    refine ⟨_, hb (A.deeper (envOfC q (defScope st) s.heap.objs.size f cdv)) s H _ f cdv outer (fun _ _ => False) hr (fun h0 => ⟨rfl, rfl, S.nd, rfl, rfl, ?_, takes0N, PassesOwn.never⟩), ?_⟩
    · have := hr.un
      show (A.deeper (envOfC q (defScope st) s.heap.objs.size f cdv)).units + 190 < cLine
      omega
    · simp only [phi, hT] at h
      unfold Fdef.run at h
      by_cases hl : (PyData.int (p : Nat) :: ds).length = np
      · rw [if_pos hl] at h
        have hl2 : ds.length + 1 ≤ N.length := by rw [← hl] at hnp; rw [List.length_cons] at hnp; omega
        have es : ((PyData.int (p : Nat) :: ds).map Slot.d ++ List.replicate (ns - np) Slot.un) = .d (.int (p : Nat)) :: (ds.map .d ++ List.replicate (N.length - (ds.length + 1)) .un) := by
          rw [hns, ← hl]; rfl
        have eo : exec (phi T F n) F (.obj 0) (.d (.int (p : Nat)) :: (ds.map .d ++ List.replicate (N.length - (ds.length + 1)) .un)) = .nx (.ob p :: (ds.map .d ++ List.replicate (N.length - (ds.length + 1)) .un)) := by
          simp only [exec, List.getElem?_cons_zero]
          rw [if_pos (Int.natCast_nonneg p)]
          rfl
        simp only [es, execs, eo, Out.seq_nx] at h
        refine ⟨_, p, d, kvs, ⟨⟨_, rel_startO hd hl2⟩, pw, rfl⟩, ?_⟩
        cases q2 : execs (phi T F n) F body (.ob p :: (ds.map .d ++ List.replicate (N.length - (ds.length + 1)) .un)) with
        | ret y => rw [q2] at h; cases h; exact fun v H' k s w dn => qq v H' k s w dn
        | nx e' => rw [q2] at h; cases h; exact fun σ' H' k s R => qq .non H' k s R.pw .none
        | ex c e' => rw [q2] at h; cases h
        | bk e' => rw [q2] at h; cases h
        | ct e' => rw [q2] at h; cases h
        | stuck => rw [q2] at h; cases h
      · rw [if_neg hl] at h; cases h
/-- __init__'s promise -/
def spInit (C : Addr) : L2.Sp := fun vs H Q _ => ∃ (p dx : Addr), vs = [.ref p] ∧ H p = some (.ins C dx []) ∧ ∀ (d : Addr) (H' : Hp), H d = none → H' p = some (.ins C dx [("rows", .ref d)]) → H' d = some (.dK []) → (∀ b o, H b = some o → b ≠ p → H' b = some o) → Q .non H'
/-- a new object's method that may be called -/
structure NewI (X : Cx) (K : PySem.W.Frag) (C : Addr) (rv : Int → D) (c m : Str) where
  k : Nat
  f : Addr
  fI : Addr
  fd : FuncData
  fdI : FuncData
  ps : List Str
  Φ' : FT
  i' : Nat
  ok : FnOk X.prog X.w X.K X.mg X.base L2.CX0 k f fd ps (spM K C rv Φ' i')
  hr : Room k X.A
  hb : Binds X.K fd ps []
  hm : Meth X.K C m f
  cl : Cls X.K C
  okI : FnOk X.prog X.w X.K X.mg X.base L2.CX0 1 fI fdI ["self"] (spInit C)
  hr2 : Room 2 X.A
  hbI : Binds X.K fdI ["self"] []
  mkr : Mk X.K C fI
  mgC : X.mg c = some (.ref C)
structure NewX (X : Cx) (K : PySem.W.Frag) (C : Addr) (rv : Int → D) (Φ : FT) (i : Nat) (c m : Str) : Prop where
  ex : ∀ xs r, (∀ p : Nat, Φ i (.int (p : Nat) :: xs) = .ok r) → ∃ j : NewI X K C rv c m, ∀ p : Nat, j.Φ' j.i' (.int (p : Nat) :: xs) = .ok r
end
section
variable {X : Cx} {P : Pk} {N : List Str} {sc : Scope} {Φ : FT} {F mo : Nat} {Cl : Addr} {rv : Int → D}
theorem se_new (C0 : Ctx X P N sc) {i j1 j2 : Nat} {c m x1 x2 : Str} {pc p0 p1 p2 apos pos : Pos} {pl : Sem Bool} (Nw : NewX X P.K Cl rv Φ i c m) (hm : ¬ ("rows" : Str) = m) (hg : X.env.kindOf c = some .globalImplicit) (he1 : PE X (.Name x1 p1) (tVar j1)) (he2 : PE X (.Name x2 p2) (tVar j2)) (hdb : (c == ("__debug__" : Str)) = false := by decide)
    (hst : starEach [.Name x1 p1, .Name x2 p2] X.env = (false, eval (.Name x1 p1) X.env) :: starEach [.Name x2 p2] X.env := by rfl) (hst2 : starEach [.Name x2 p2] X.env = [(false, eval (.Name x2 p2) X.env)] := by rfl) (hpl : (backTo pos (starEach [.Name x2 p2] X.env)).any (·.1) = false := by rfl)
    (ht : eval (.Call (.Attribute (.Call (.Name c pc) [] [] p0) m apos) [.Name x1 p1, .Name x2 p2] [] pos) X.env = (do
      let ov ← eval (.Call (.Name c pc) [] [] p0) X.env
      standAt apos.atName
      let (f, first) ← holding [ov] (getMethod ov m pl)
      callWith pos f first (backTo pos (starEach [.Name x1 p1, .Name x2 p2] X.env)) (backToKw pos (keywordEach [] X.env))) := by rfl) :
    PE X (.Call (.Attribute (.Call (.Name c pc) [] [] p0) m apos) [.Name x1 p1, .Name x2 p2] [] pos) (lift P mo (ev Φ (.onew i [.var j1, .var j2]))) := by
  refine PE.imp (PE.any fun j : NewI X P.K Cl rv c m => pe_meth (pl := pl) (pe_make0 j.mkr j.okI j.hr2 hg j.mgC j.hbI .nil pass0 hdb) j.cl j.hm j.ok j.hr j.hb .nil pass0 (pa_cons he1 (pa_cons he2 pa_nil hst2) hst) hst hpl ht) fun σ H Q ⟨e, R, p⟩ => ?_
  simp only [ev] at p
  cases q1 : evs Φ [.var j1, .var j2] e with
  | stuck => rw [q1] at p; exact p.elim
  | ex cc =>
    exfalso
    have vx : ∀ k, (∃ x, ev Φ (.var k) e = .ok x) ∨ ev Φ (.var k) e = .stuck := fun k => by
      simp only [ev]
      cases e[k]? with
      | none => exact .inr rfl
      | some s => cases s <;> first | exact .inl ⟨_, rfl⟩ | exact .inr rfl
    simp only [evs] at q1
    rcases vx j1 with ⟨x, h1⟩ | h1
    · rcases vx j2 with ⟨y, h2⟩ | h2
      · rw [h1, h2] at q1; cases q1
      · rw [h1, h2] at q1; cases q1
    · rw [h1] at q1; cases q1
  | ok xs =>
    rw [q1] at p
    simp only [Res.bind_ok] at p
    obtain ⟨x, y, hx, hy, rfl⟩ := evs2 q1
    unfold newK at p
    split at p
    · rename_i h
      obtain ⟨hn, hf, hall⟩ := h.choose_spec
      revert p hf hall
      generalize h.choose = r
      intro p hf hall
      obtain ⟨j, hj⟩ := Nw.ex [x, y] r hall
      obtain ⟨o1, s1, v1, rfl, d1⟩ := R.at (var_ok hx)
      obtain ⟨o2, s2, v2, rfl, d2⟩ := R.at (var_ok hy)
      refine ⟨j, fun a dx na ndx nex => ⟨a, dx, rfl, upd_same, fun d H' nd h1 h2 h3 => ⟨rfl, a, dx, _, rfl, h1, ?_, v1, s1, v2, s2, ?_⟩⟩⟩
      · rw [List.lookup_cons]
        rw [show (m == ("rows" : Str)) = false from by
          cases q : (m == ("rows" : Str)) with
          | false => rfl
          | true => exact absurd (by simpa using q : m = "rows").symm hm]
        rfl
      · have sm : Same H H' := fun b o q => by
          have n1 : b ≠ a := fun z => by rw [z, na] at q; cases q
          have n2 : b ≠ dx := fun z => by rw [z, ndx] at q; cases q
          exact h3 b o (by rw [upd_ne n1, upd_ne n2]; exact q) n1
        have hd0 : H d = none := by
          cases q : H d with
          | none => rfl
          | some o =>
            exfalso
            have n1 : d ≠ a := fun z => by rw [z, na] at q; cases q
            have n2 : d ≠ dx := fun z => by rw [z, ndx] at q; cases q
            rw [upd_ne n1, upd_ne n2, q] at nd
            cases nd
        refine ⟨a, d, [], [v1, v2], [x, y], r, rfl, ⟨⟨dx, h1⟩, h2, List.nodup_nil, fun kv hk => by simp at hk⟩, .cons (((d1.imp (fun _ _ z => z) fun a _ z => z.elim)).same sm) (.cons (((d2.imp (fun _ _ z => z) fun a _ z => z.elim)).same sm) .nil), hn, hj a, fun v H2 kvs' s w dn => ?_⟩
        exact p v H2 (fun b o q => s b o (fun z => by rw [z, hd0] at q; cases q) (sm _ _ q)) (Den.mm (dn.noLst hf))
    · exact p.elim
end
/-! statements that do not touch the object -/
structure PureS (Φ : FT) (F : Nat) (S : Stm) : Prop where
  h0 : ∀ e e', exec Φ F S e = .nx e' → e'[0]? = e[0]?
  bc : ∀ e e', exec Φ F S e ≠ .bk e' ∧ exec Φ F S e ≠ .ct e'
section
variable {Φ : FT} {F : Nat}
theorem ofR_cases {α : Type} {r : Res α} {e : Sl} {f : α → Out} {o : Out} (h : Out.ofR r e f = o) : (∃ a, r = .ok a ∧ f a = o) ∨ (∃ c, o = .ex c e) ∨ o = .stuck := by
  cases r with
  | ok a => exact .inl ⟨a, rfl, h⟩
  | ex c => exact .inr (.inl ⟨c, h.symm⟩)
  | stuck => exact .inr (.inr h.symm)
theorem PureS.ret {A : Exp} : PureS Φ F (.ret A) := by
  refine ⟨fun e e' h => ?_, fun e e' => ⟨fun h => ?_, fun h => ?_⟩⟩ <;> (simp only [exec] at h; rcases ofR_cases h with ⟨a, _, h⟩ | ⟨c, h⟩ | h <;> cases h)
theorem PureS.asg {A : Exp} {j : Nat} (hj : j ≠ 0) : PureS Φ F (.asg (.nm j) A) := by
  have key : ∀ e o, exec Φ F (.asg (.nm j) A) e = o → (∃ x, o = .nx (e.set j (.d x))) ∨ (∃ c, o = .ex c e) ∨ o = .stuck := fun e o h => by
    simp only [exec] at h
    rcases ofR_cases h with ⟨a, _, h⟩ | h | h
    · simp only [bindT] at h
      split at h
      · rename_i e1 q
        split at q
        · cases q; exact .inl ⟨a, h.symm⟩
        · cases q
      · exact .inr (.inr h.symm)
    · exact .inr (.inl h)
    · exact .inr (.inr h)
  refine ⟨fun e e' h => ?_, fun e e' => ⟨fun h => ?_, fun h => ?_⟩⟩
  · rcases key e _ h with ⟨x, q⟩ | ⟨c, q⟩ | q
    · cases q; exact List.getElem?_set_ne hj
    · cases q
    · cases q
  · rcases key e _ h with ⟨x, q⟩ | ⟨c, q⟩ | q <;> cases q
  · rcases key e _ h with ⟨x, q⟩ | ⟨c, q⟩ | q <;> cases q
theorem PureS.ifret {A B : Exp} : PureS Φ F (.ifs A [.ret B] []) := by
  have key : ∀ e o, exec Φ F (.ifs A [.ret B] []) e = o → o = .nx e ∨ (∃ x, o = .ret x) ∨ (∃ c, o = .ex c e) ∨ o = .stuck := fun e o h => by
    simp only [exec] at h
    rcases ofR_cases h with ⟨a, _, h⟩ | h | h
    · split at h
      · simp only [execs, exec] at h
        cases q : ev Φ B e with
        | ok x => rw [q] at h; exact .inr (.inl ⟨x, h.symm⟩)
        | ex c => rw [q] at h; exact .inr (.inr (.inl ⟨c, h.symm⟩))
        | stuck => rw [q] at h; exact .inr (.inr (.inr h.symm))
      · simp only [execs] at h; exact .inl h.symm
      · exact .inr (.inr (.inr h.symm))
    · exact .inr (.inr (.inl h))
    · exact .inr (.inr (.inr h))
  refine ⟨fun e e' h => ?_, fun e e' => ⟨fun h => ?_, fun h => ?_⟩⟩
  · rcases key e _ h with q | ⟨x, q⟩ | ⟨c, q⟩ | q <;> cases q
    rfl
  · rcases key e _ h with q | ⟨x, q⟩ | ⟨c, q⟩ | q <;> cases q
  · rcases key e _ h with q | ⟨x, q⟩ | ⟨c, q⟩ | q <;> cases q
theorem aug_ct {i : Nat} {op : BOp} {A : Exp} (e e' : Sl) : exec Φ F (.aug i op A) e ≠ .ct e' := fun h => by
  simp only [exec] at h
  cases q : e[i]? with
  | none => rw [q] at h; cases h
  | some s =>
    rw [q] at h
    cases s with
    | d x =>
      rcases ofR_cases h with ⟨a, _, h⟩ | ⟨c, h⟩ | h
      · split at h <;> cases h
      · cases h
      · cases h
    | _ => cases h
end
/-! a method of a new object, by levels -/
section
variable {pr : Program} {w : World} {K : PySem.W.Frag} {mg : Str → Option Value} {base : Heap} {C : Addr} {rv : Int → D}
structure NewG (pr : Program) (w : World) (K : PySem.W.Frag) (mg : Str → Option Value) (base : Heap) (C : Addr) (rv : Int → D) (T : List Fdef) (F : Nat) (c m : Str) (i n : Nat) : Prop where
  at_ : ∀ X : Cx, X.prog = pr → X.w = w → X.K = K → X.mg = mg → X.base = base → Room n X.A → NewX X K C rv (phi T F n) i c m
/-- what the top has written of the class -/
structure TxtC (pr : Program) (w : World) (K : PySem.W.Frag) (mg : Str → Option Value) (base : Heap) (C : Addr) (c : Str) : Prop where
  cl : Cls K C
  ex : ∃ fI fdI, FnOk pr w K mg base L2.CX0 1 fI fdI ["self"] (spInit C) ∧ Binds K fdI ["self"] [] ∧ Mk K C fI
  mgC : mg c = some (.ref C)
theorem phi_s {T : List Fdef} {F n i : Nat} {fn : Fdef} {args : List Rf.D} (h : T[i]? = some fn) : phi T F (n + 1) i args = fn.run (phi T F n) F args := by simp only [phi, h]
theorem newG_of {T : List Fdef} {F : Nat} {c m : Str} {i iw n : Nat} (tc : TxtC pr w K mg base C c) (hT : T[iw]? = some ⟨3, 3, [.ret (.call i [.var 0, .var 1, .var 2])]⟩) (g : ∀ j, j ≤ n → GoodM pr w K mg base C rv T F m i j) : NewG pr w K mg base C rv T F c m iw n := ⟨fun X e1 e2 e3 e4 e5 hr => ⟨fun xs r h => by
  subst e1; subst e2; subst e3; subst e4; subst e5
  match n, g, hr, h with
  | 0, _, _, h => have := h 0; cases this
  | 1, _, _, h =>
    exfalso
    have := h 0
    rw [phi_s hT] at this
    unfold Fdef.run at this
    split at this
    · rename_i hl
      obtain ⟨a, b, rfl⟩ : ∃ a b, xs = [a, b] := by
        match xs, hl with
        | [a, b], _ => exact ⟨a, b, rfl⟩
      simp [execs, exec, ev, evs, phi] at this
    · cases this
  | k + 2, g, hr, h =>
    obtain ⟨f, fd, ps, ok, hb, hm⟩ := (g (k + 1) (by omega)).ex
    obtain ⟨fI, fdI, okI, hbI, mk⟩ := tc.ex
    refine ⟨⟨k + 1, f, fI, fd, fdI, ps, phi T F (k + 1), i, ok, hr.mono (by omega), hb, hm, tc.cl, okI, hr.mono (by omega), hbI, mk, tc.mgC⟩, fun p => ?_⟩
    have := h p
    rw [phi_s hT] at this
    unfold Fdef.run at this
    split at this
    · rename_i hl
      obtain ⟨a, b, rfl⟩ : ∃ a b, xs = [a, b] := by
        match xs, hl with
        | [a, b], _ => exact ⟨a, b, rfl⟩
      have e3 : execs (phi T F (k + 1)) F [.ret (.call i [.var 0, .var 1, .var 2])] [.d (.int (p : Nat)), .d a, .d b] = Out.ofR (phi T F (k + 1) i [.int (p : Nat), a, b]) [.d (.int (p : Nat)), .d a, .d b] .ret := by
        simp only [execs, exec, ev, evs, List.getElem?_cons_zero, List.getElem?_cons_succ, Res.bind_ok]
        cases phi T F (k + 1) i [.int (p : Nat), a, b] <;> rfl
      rw [show ([PyData.int (p : Nat), a, b].map Slot.d ++ List.replicate (3 - 3) Slot.un) = [.d (.int (p : Nat)), .d a, .d b] from rfl, e3] at this
      show phi T F (k + 1) i [.int (p : Nat), a, b] = .ok r
      cases q : phi T F (k + 1) i [.int (p : Nat), a, b] with
      | ok x => rw [q] at this; exact this
      | ex c => rw [q] at this; cases this
      | stuck => rw [q] at this; cases this
    · cases this⟩⟩
end
/-! row, without the object -/
def bodyR (i2 : Nat) : List Stm := [.obj 0, .ifs (.chain .le .le (.con (.int 1)) (.var 1) (.con (.int 10000))) [.ret (.call i2 [.var 1])] [.brk]]
theorem row_inv {T : List Fdef} {F n iR i2 : Nat} {p : Nat} {ds : List D} {x : D} (hT : T[iR]? = some ⟨2, 2, bodyR i2⟩) (h : phi T F (n + 1) iR (.int (p : Nat) :: ds) = .ok x) : ∃ m : Int, ds = [.int m] ∧ 1 ≤ m ∧ m ≤ 10000 ∧ phi T F n i2 [.int m] = .ok x := by
  rw [phi_s hT] at h
  unfold Fdef.run at h
  split at h
  · rename_i hl
    obtain ⟨y, rfl⟩ : ∃ y, ds = [y] := by
      match ds, hl with
      | [y], _ => exact ⟨y, rfl⟩
    have e0 : ([PyData.int (p : Nat), y].map Slot.d ++ List.replicate (2 - 2) Slot.un) = [.d (.int (p : Nat)), .d y] := rfl
    have eo : exec (phi T F n) F (.obj 0) [.d (.int (p : Nat)), .d y] = .nx [.ob p, .d y] := by
      simp only [exec, List.getElem?_cons_zero]
      rw [if_pos (Int.natCast_nonneg p)]
      rfl
    simp only [e0] at h
    unfold bodyR at h
    rw [execs, eo, Out.seq_nx, execs] at h
    cases y with
    | int m =>
      by_cases h1 : 1 ≤ m
      · by_cases h2 : m ≤ 10000
        · refine ⟨m, rfl, h1, h2, ?_⟩
          have c1 : cmpD .le (.int 1) (.int m) = some true := by show some (decide _) = _; rw [decide_eq_true h1]
          have c2 : cmpD .le (.int m) (.int 10000) = some true := by show some (decide _) = _; rw [decide_eq_true h2]
          have e3 : exec (phi T F n) F (.ifs (.chain .le .le (.con (.int 1)) (.var 1) (.con (.int 10000))) [.ret (.call i2 [.var 1])] [.brk]) [.ob p, .d (.int m)] = Out.ofR (phi T F n i2 [.int m]) [.ob p, .d (.int m)] .ret := by
            simp only [exec, execs, ev, evs, List.getElem?_cons_zero, List.getElem?_cons_succ, Res.bind_ok, c1, c2, Res.of_some, if_true, Option.map_some, Out.ofR_ok]
            cases phi T F n i2 [.int m] <;> rfl
          rw [e3] at h
          cases q : phi T F n i2 [.int m] with
          | ok z => rw [q] at h; exact h
          | ex c => rw [q] at h; cases h
          | stuck => rw [q] at h; cases h
        · exfalso
          have c1 : cmpD .le (.int 1) (.int m) = some true := by show some (decide _) = _; rw [decide_eq_true h1]
          have c2 : cmpD .le (.int m) (.int 10000) = some false := by show some (decide _) = _; rw [decide_eq_false h2]
          simp [exec, execs, ev, c1, c2] at h
      · exfalso
        have c1 : cmpD .le (.int 1) (.int m) = some false := by show some (decide _) = _; rw [decide_eq_false h1]
        simp [exec, execs, ev, c1] at h
    | _ => exfalso; simp [exec, execs, ev, cmpD] at h
  · cases h
/-- what row answers -/
theorem row_len {K : PySem.W.Frag} {H : Hp} {vs : List V} {m : Int} (h : Dens K noAv H vs [.int m]) : vs = [.int m] := by
  cases h with
  | cons a b => cases b; cases a; rfl
theorem rows_look : ([(("rows" : Str), v)] : List (Str × V)).lookup ("rows" : Str) = some v := by
  rw [List.lookup_cons]
  simp
theorem valV_mem {k : Key} {v : V} : ∀ {kvs : List (Key × V)}, valV kvs k = some v → ∃ kv ∈ kvs, kv.1 = k ∧ kv.2 = v
  | [], h => by simp [valV] at h
  | x :: r, h => by
    by_cases e : x.1 = k
    · rw [show x = (x.1, x.2) from rfl, valV_pos e] at h
      exact ⟨x, List.mem_cons_self .., e, Option.some.inj h⟩
    · rw [show x = (x.1, x.2) from rfl, valV_neg e] at h
      obtain ⟨kv, h1, h2⟩ := valV_mem h
      exact ⟨kv, List.mem_cons_of_mem _ h1, h2⟩
theorem valV_new {k : Key} {v : V} : ∀ {kvs : List (Key × V)}, valV kvs k = none → valV (putK kvs k v) k = some v := fun {kvs} h => by
  rw [putK_new _ h]
  induction kvs with
  | nil => exact valV_pos rfl
  | cons x r ih =>
    by_cases e : x.1 = k
    · rw [show x = (x.1, x.2) from rfl, valV_pos e] at h; cases h
    · rw [show x = (x.1, x.2) from rfl, valV_neg e] at h
      rw [List.cons_append, show x = (x.1, x.2) from rfl, valV_neg e]
      exact ih h
theorem rowR {K : PySem.W.Frag} {ca : Nat → Addr} {H : Hp} {p : Addr} {m : Int} : Rel (PO K ca H) [.un, .d (.int m)] (L2.start ["self", "m"] [.ref p, .int m]) H := by
  have no : ∀ a, ¬ Owns [.un, .d (.int m)] (L2.start ["self", "m"] [.ref p, .int m]) a := fun a ⟨i, s, h1, h2, _⟩ => by
    match i with
    | 0 => simp at h1; subst h1; cases h2
    | 1 => simp at h1; subst h1; cases h2
    | i + 2 => simp at h1
  refine ⟨rfl, fun i s o h1 h2 => ?_, fun i j s t a h1 h2 => ?_, Same.refl _, fun a z => absurd z (no a)⟩
  · match i with
    | 0 => simp at h1; subst h1; trivial
    | 1 =>
      simp at h1; subst h1
      rw [start_get (show [V.ref p, V.int m][1]? = some (.int m) from rfl)] at h2
      cases h2
      exact ⟨_, rfl, .int m⟩
    | i + 2 => simp at h1
  · match i with
    | 0 => simp at h1; subst h1; cases h2
    | 1 => simp at h1; subst h1; cases h2
    | i + 2 => simp at h1
end
end Rf

set_option Elab.async false
set_option linter.all false
set_option maxRecDepth 100000
set_option maxHeartbeats 1000000
/-! Rf, part K: tools for the evaluator. -/
namespace Rf
noncomputable section
open PySem
section
variable {Φ : FT} {F : Nat} {e : Sl}
@[simp] theorem e_nop : ev Φ .nop e = .ok .none := by simp only [ev]
@[simp] theorem e_con {x : D} : ev Φ (.con x) e = .ok x := by simp only [ev]
def varK : Option Slot → Res D
  | some (.d x) => .ok x
  | _ => .stuck
def vwK : Option Slot → Res D
  | some (.d x) => .ok x
  | some (.ol xs) => .ok (.list xs)
  | some (.od kvs) => .ok (.dict kvs)
  | _ => .stuck
@[simp] theorem varK_d {x : D} : varK (some (.d x)) = .ok x := id rfl
@[simp] theorem vwK_d {x : D} : vwK (some (.d x)) = .ok x := id rfl
@[simp] theorem vwK_l {x : List D} : vwK (some (.ol x)) = .ok (.list x) := id rfl
@[simp] theorem vwK_k {x : List (D × D)} : vwK (some (.od x)) = .ok (.dict x) := id rfl
@[simp] theorem e_var {i : Nat} : ev Φ (.var i) e = varK e[i]? := by simp only [ev]; cases e[i]? with
  | none => rfl
  | some s => cases s <;> rfl
@[simp] theorem e_vw {i : Nat} : ev Φ (.vw i) e = vwK e[i]? := by simp only [ev]; cases e[i]? with
  | none => rfl
  | some s => cases s <;> rfl
def binK (op : BOp) (x y : D) : Res D := .of (binD op x y)
def cmpK (op : COp) (x y : D) : Res D := .of ((cmpD op x y).map .bool)
def andK (Φ : FT) (b : Exp) (e : Sl) : D → Res D
  | .bool true => ev Φ b e
  | .bool false => .ok (.bool false)
  | _ => .stuck
def orK (Φ : FT) (b : Exp) (e : Sl) : D → Res D
  | .bool true => .ok (.bool true)
  | .bool false => ev Φ b e
  | _ => .stuck
def notK : D → Res D
  | .bool k => .ok (.bool (!k))
  | _ => .stuck
def negK : D → Res D
  | .int k => .ok (.int (-k))
  | _ => .stuck
def iteK (Φ : FT) (a b : Exp) (e : Sl) : D → Res D
  | .bool true => ev Φ a e
  | .bool false => ev Φ b e
  | _ => .stuck
def chK2 (o2 : COp) (y z : D) : Res D := .of ((cmpD o2 y z).map .bool)
def chK (Φ : FT) (o2 : COp) (c : Exp) (e : Sl) (y : D) : Bool → Res D
  | true => (ev Φ c e).bind (chK2 o2 y)
  | false => .ok (.bool false)
@[simp] theorem andK_t {b : Exp} : andK Φ b e (.bool true) = ev Φ b e := id rfl
@[simp] theorem andK_f {b : Exp} : andK Φ b e (.bool false) = .ok (.bool false) := id rfl
@[simp] theorem orK_t {b : Exp} : orK Φ b e (.bool true) = .ok (.bool true) := id rfl
@[simp] theorem orK_f {b : Exp} : orK Φ b e (.bool false) = ev Φ b e := id rfl
@[simp] theorem notK_b {b : Bool} : notK (.bool b) = .ok (.bool (!b)) := id rfl
@[simp] theorem negK_i {b : Int} : negK (.int b) = .ok (.int (-b)) := id rfl
@[simp] theorem iteK_t {a b : Exp} : iteK Φ a b e (.bool true) = ev Φ a e := id rfl
@[simp] theorem iteK_f {a b : Exp} : iteK Φ a b e (.bool false) = ev Φ b e := id rfl
@[simp] theorem chK_t {o2 : COp} {c : Exp} {y : D} : chK Φ o2 c e y true = (ev Φ c e).bind (chK2 o2 y) := id rfl
@[simp] theorem chK_f {o2 : COp} {c : Exp} {y : D} : chK Φ o2 c e y false = .ok (.bool false) := id rfl
@[simp] theorem e_bin {op : BOp} {a b : Exp} : ev Φ (.bin op a b) e = (ev Φ a e).bind fun x => (ev Φ b e).bind (binK op x) := by simp only [ev]; rfl
@[simp] theorem e_cmp {op : COp} {a b : Exp} : ev Φ (.cmp op a b) e = (ev Φ a e).bind fun x => (ev Φ b e).bind (cmpK op x) := by simp only [ev]; rfl
@[simp] theorem e_chain {o1 o2 : COp} {a b c : Exp} : ev Φ (.chain o1 o2 a b c) e = (ev Φ a e).bind fun x => (ev Φ b e).bind fun y => (Res.of (cmpD o1 x y)).bind (chK Φ o2 c e y) := by
  simp only [ev]
  congr 1; funext x; congr 1; funext y; congr 1; funext k
  cases k <;> rfl
@[simp] theorem e_and {a b : Exp} : ev Φ (.and a b) e = (ev Φ a e).bind (andK Φ b e) := by simp only [ev]; rfl
@[simp] theorem e_or {a b : Exp} : ev Φ (.or a b) e = (ev Φ a e).bind (orK Φ b e) := by simp only [ev]; rfl
@[simp] theorem e_not {a : Exp} : ev Φ (.not a) e = (ev Φ a e).bind notK := by simp only [ev]; rfl
@[simp] theorem e_neg {a : Exp} : ev Φ (.neg a) e = (ev Φ a e).bind negK := by simp only [ev]; rfl
@[simp] theorem e_ite {c a b : Exp} : ev Φ (.ite c a b) e = (ev Φ c e).bind (iteK Φ a b e) := by simp only [ev]; rfl
@[simp] theorem e_tup {es : List Exp} : ev Φ (.tup es) e = (evs Φ es e).bind fun xs => .ok (.tuple xs) := by simp only [ev]
@[simp] theorem e_lst {es : List Exp} : ev Φ (.lst es) e = (evs Φ es e).bind fun xs => .ok (.list xs) := by simp only [ev]
@[simp] theorem e_emp : ev Φ .emp e = .ok (.dict []) := by simp only [ev]
def idxK (x y : D) : Res D := .of (idxD x y)
@[simp] theorem e_idx {a b : Exp} : ev Φ (.idx a b) e = (ev Φ a e).bind fun x => (ev Φ b e).bind (idxK x) := by simp only [ev]; rfl
def slK (x : D) (l h : Option Int) : Res D := .of (sliceD x l h)
@[simp] theorem e_sl {a l h : Exp} : ev Φ (.sl a l h) e = (ev Φ a e).bind fun x => (evo Φ l e).bind fun l => (evo Φ h e).bind (slK x l) := by simp only [ev]; rfl
@[simp] theorem evo_nop : evo Φ .nop e = .ok none := id rfl
theorem evo_of {a : Exp} {i : Int} (h : a.isNop = false) (h2 : ev Φ a e = .ok (.int i)) : evo Φ a e = .ok (some i) := by unfold evo; rw [h, if_neg (by decide), h2]; rfl
def partK : D → Res (Option Int) := partD
@[simp] theorem partK_i {i : Int} : partK (.int i) = .ok (some i) := id rfl
@[simp] theorem evo_con {x : D} : evo Φ (.con x) e = partK x := id rfl
@[simp] theorem evo_var {i : Nat} : evo Φ (.var i) e = (varK e[i]?).bind partK := by rw [← e_var (Φ := Φ)]; rfl
@[simp] theorem evo_bin {op : BOp} {a b : Exp} : evo Φ (.bin op a b) e = (ev Φ (.bin op a b) e).bind partK := id rfl
@[simp] theorem evo_idx {a b : Exp} : evo Φ (.idx a b) e = (ev Φ (.idx a b) e).bind partK := id rfl
@[simp] theorem evo_neg {a : Exp} : evo Φ (.neg a) e = (ev Φ (.neg a) e).bind partK := id rfl
@[simp] theorem evo_call {f : Nat} {a : List Exp} : evo Φ (.call f a) e = (ev Φ (.call f a) e).bind partK := id rfl
@[simp] theorem evo_blt {f : Blt} {a : List Exp} : evo Φ (.blt f a) e = (ev Φ (.blt f a) e).bind partK := id rfl
@[simp] theorem e_rev {a : Exp} : ev Φ (.rev a) e = (ev Φ a e).bind fun x => .of (revD x) := by simp only [ev]
@[simp] theorem e_revs {a : Exp} : ev Φ (.revs a) e = (ev Φ a e).bind fun x => .of (revsD x) := by simp only [ev]
@[simp] theorem e_call {f : Nat} {es : List Exp} : ev Φ (.call f es) e = (evs Φ es e).bind (Φ f) := by simp only [ev]
def flK (y : D) : Res D := if noLst y then .ok y else .stuck
@[simp] theorem e_callv {f : Nat} {es : List Exp} : ev Φ (.callv f es) e = (evs Φ es e).bind fun xs => (Φ f xs).bind flK := by simp only [ev]; rfl
@[simp] theorem flK_i {i : Int} : flK (.int i) = .ok (.int i) := id rfl
@[simp] theorem flK_b {i : Bool} : flK (.bool i) = .ok (.bool i) := id rfl
@[simp] theorem flK_s {i : Str} : flK (.str i) = .ok (.str i) := id rfl
@[simp] theorem flK_n : flK .none = .ok .none := id rfl
def bltK (b : Blt) (xs : List D) : Res D := .of (bltD b xs)
@[simp] theorem e_blt {b : Blt} {es : List Exp} : ev Φ (.blt b es) e = (evs Φ es e).bind (bltK b) := by simp only [ev]; rfl
def mthK (m : Mth) (x : D) (xs : List D) : Res D := .of (mthD m x xs)
@[simp] theorem e_mth {m : Mth} {o : Exp} {es : List Exp} : ev Φ (.mth m o es) e = (ev Φ o e).bind fun x => (evs Φ es e).bind (mthK m x) := by simp only [ev]; rfl
def compK (Φ : FT) (elt : Exp) (t : Tgt) (ifs : List Exp) (e : Sl) (its : List D) : Res D :=
  if freeOf e t.ix && decide (its.length ≤ line) then (noEx (compL (ev Φ elt) (evt Φ ifs) t its (wipeS e t.ix))).bind fun ys => .ok (.list ys) else .stuck
def srcK (k : SrcK) (xs : List D) : Res (List D) := .of (srcD k xs)
def dgetV (kvs : List (D × D)) (y z : D) : Res D := .of (mthD .get (.dict kvs) [y, z])
def dgetK (Φ : FT) (k d : Exp) (e : Sl) : D → Res D
  | .dict kvs => (ev Φ k e).bind fun y => (ev Φ d e).bind (dgetV kvs y)
  | _ => .stuck
@[simp] theorem dgetK_d {k d : Exp} {kvs : List (D × D)} : dgetK Φ k d e (.dict kvs) = (ev Φ k e).bind fun y => (ev Φ d e).bind (dgetV kvs y) := id rfl
@[simp] theorem dgetV_i {kvs : List (D × D)} {i : Int} {z : D} : dgetV kvs (.int i) z = .ok ((lookD kvs (.int i)).getD z) := id rfl
theorem e_dsp2 {a b c d : Exp} {i u j v : Int} (h1 : ev Φ a e = .ok (.int i)) (h2 : ev Φ b e = .ok (.int u)) (h3 : ev Φ c e = .ok (.int j)) (h4 : ev Φ d e = .ok (.int v)) :
    ev Φ (.dsp2 a b c d) e = .ok (.dict (if i = j then [(.int i, .int v)] else [(.int i, .int u), (.int j, .int v)])) := by
  simp only [ev, h1, h2, h3, h4, Res.bind_ok]
@[simp] theorem e_dget {o k d : Exp} : ev Φ (.dget o k d) e = (ev Φ o e).bind (dgetK Φ k d e) := by
  simp only [ev]
  cases ev Φ o e with
  | ok x => cases x <;> rfl
  | ex c => rfl
  | stuck => rfl
@[simp] theorem e_comp {elt : Exp} {t : Tgt} {k : SrcK} {es ifs : List Exp} : ev Φ (.comp elt t k es ifs) e = (evs Φ es e).bind fun xs => (srcK k xs).bind (compK Φ elt t ifs e) := by simp only [ev]; rfl
@[simp] theorem srcK_l {xs : List D} : srcK .lst [.list xs] = .ok xs := id rfl
@[simp] theorem srcK_t {xs : List D} : srcK .tup [.tuple xs] = .ok xs := id rfl
@[simp] theorem srcK_s {z : Str} : srcK .str [.str z] = .ok (z.cps.toList.map fun c => .str (S [c])) := id rfl
theorem srcK_r1 {n : Int} (h : n ≤ 4611686018427387903) (h0 : 0 ≤ n) : srcK .rng [.int n] = .ok (rngD 0 n.toNat) := by
  have h1 : -(2 ^ 62) ≤ n ∧ n < 2 ^ 62 := ⟨by omega, by omega⟩
  simp only [srcK, srcD, if_pos h1, Res.of_some]
theorem srcK_rn {n : Nat} (h : n ≤ 1000000) : srcK .rng [.int (n : Int)] = .ok (rngD 0 n) := srcK_r1 (by omega) (by omega)
@[simp] theorem srcK_z {xs ys : List D} : srcK .zip [.list xs, .list ys] = .ok (zipD xs ys) := id rfl
@[simp] theorem srcK_zt {xs ys : List D} : srcK .zip [.tuple xs, .tuple ys] = .ok (zipD xs ys) := id rfl
@[simp] theorem es_nil : evs Φ [] e = .ok [] := by simp only [evs]
@[simp] theorem es_cons {a : Exp} {r : List Exp} : evs Φ (a :: r) e = (ev Φ a e).bind fun x => (evs Φ r e).bind fun xs => .ok (x :: xs) := by simp only [evs]
@[simp] theorem et_nil : evt Φ [] e = .ok true := by simp only [evt]
/-! what the operations give -/
@[simp] theorem binK_add {i j : Int} : binK .add (.int i) (.int j) = .ok (.int (i + j)) := id rfl
@[simp] theorem binK_sub {i j : Int} : binK .sub (.int i) (.int j) = .ok (.int (i - j)) := id rfl
theorem binK_mul {i j : Int} (h : i.natAbs < 18446744073709551616 ∨ j.natAbs < 18446744073709551616) : binK .mul (.int i) (.int j) = .ok (.int (i * j)) := by
  have h1 : i.natAbs < 2 ^ 64 ∨ j.natAbs < 2 ^ 64 := h
  simp only [binK, binD, if_pos h1, Res.of_some]
@[simp] theorem binK_mulr {i j : Int} (h : j.natAbs < 18446744073709551616) : binK .mul (.int i) (.int j) = .ok (.int (i * j)) := binK_mul (.inr h)
@[simp] theorem binK_mull {i j : Int} (h : i.natAbs < 18446744073709551616) : binK .mul (.int i) (.int j) = .ok (.int (i * j)) := binK_mul (.inl h)
@[simp] theorem binK_div {i j : Int} (h : 0 < j) (h2 : j < 1073741824) : binK .fdiv (.int i) (.int j) = .ok (.int (i / j)) := by simp only [binK, binD, if_pos (And.intro h (Or.inl h2 : j < 1073741824 ∨ j.natAbs < 2 ^ 3000)), Res.of_some]
theorem binK_divW {i j : Int} (h : 0 < j) (h2 : j.natAbs < 2 ^ 3000) : binK .fdiv (.int i) (.int j) = .ok (.int (i / j)) := by simp only [binK, binD, if_pos (And.intro h (Or.inr h2 : j < 1073741824 ∨ j.natAbs < 2 ^ 3000)), Res.of_some]
@[simp] theorem binK_mod {i j : Int} (h : 0 < j) : binK .mod (.int i) (.int j) = .ok (.int (i % j)) := by simp only [binK, binD, if_pos h, Res.of_some]
theorem binK_shlW {i : Int} {j : Nat} (h : j ≤ 1000000) (h2 : i.natAbs < 2 ^ 10000) : binK .shl (.int i) (.int (j : Nat)) = .ok (.int (i * 2 ^ j)) := by
  have h1 : 0 ≤ ((j : Nat) : Int) ∧ ((j : Nat) : Int) ≤ 1000000 ∧ i.natAbs < 2 ^ 10000 := ⟨Int.natCast_nonneg _, by clear h2; omega, h2⟩
  simp only [binK, binD, if_pos h1, Res.of_some, Int.toNat_natCast]
theorem binK_shr {i : Int} {j : Nat} : binK .shr (.int i) (.int (j : Nat)) = .ok (.int (i / 2 ^ j)) := by
  simp only [binK, binD, if_pos (Int.natCast_nonneg j), Res.of_some, Int.toNat_natCast]
@[simp] theorem binK_band {i j : Int} : binK .band (.int i) (.int j) = .ok (.int (Builtin.bitAnd i j)) := id rfl
@[simp] theorem binK_pow {i j : Int} (h : 0 ≤ j) (h2 : j ≤ 1000000) (h3 : i.natAbs < 18446744073709551616) : binK .pow (.int i) (.int j) = .ok (.int (i ^ j.toNat)) := by
  have h1 : 0 ≤ j ∧ j ≤ 1000000 ∧ i.natAbs < 2 ^ 64 := ⟨h, h2, h3⟩
  simp only [binK, binD, if_pos h1, Res.of_some]
theorem binK_str {x y : Str} (h : x.length + y.length ≤ 1000000) : binK .add (.str x) (.str y) = .ok (.str (x ++ y)) := by
  simp only [binK, binD]
  rw [if_pos (show _ ≤ line from h)]
  rfl
theorem binK_lst {x y : List D} (h : x.length + y.length ≤ 1000000) : binK .add (.list x) (.list y) = .ok (.list (x ++ y)) := by
  simp only [binK, binD]
  rw [if_pos (show _ ≤ line from h)]
  rfl
@[simp] theorem cmpK_lt {i j : Int} : cmpK .lt (.int i) (.int j) = .ok (.bool (decide (i < j))) := id rfl
@[simp] theorem cmpK_le {i j : Int} : cmpK .le (.int i) (.int j) = .ok (.bool (decide (i ≤ j))) := id rfl
@[simp] theorem cmpK_gt {i j : Int} : cmpK .gt (.int i) (.int j) = .ok (.bool (decide (j < i))) := id rfl
@[simp] theorem cmpK_ge {i j : Int} : cmpK .ge (.int i) (.int j) = .ok (.bool (decide (j ≤ i))) := id rfl
@[simp] theorem cmpK_eqI {i j : Int} : cmpK .eq (.int i) (.int j) = .ok (.bool (decide (i = j))) := by
  simp [cmpK, cmpD, eqOk, PyData.canLay0, PyData.depth, PyData.eqv, Bool.beq_eq_decide_eq]
@[simp] theorem cmpK_neI {i j : Int} : cmpK .ne (.int i) (.int j) = .ok (.bool (!decide (i = j))) := by
  simp [cmpK, cmpD, eqOk, PyData.canLay0, PyData.depth, PyData.eqv, Bool.beq_eq_decide_eq]
@[simp] theorem cmpK_eqS {i j : Str} (h : PyData.strOk i = true) (h2 : PyData.strOk j = true) : cmpK .eq (.str i) (.str j) = .ok (.bool (i == j)) := by
  simp [cmpK, cmpD, eqOk, PyData.canLay0, PyData.depth, PyData.eqv, h, h2]
@[simp] theorem cmpK_neS {i j : Str} (h : PyData.strOk i = true) (h2 : PyData.strOk j = true) : cmpK .ne (.str i) (.str j) = .ok (.bool (!(i == j))) := by
  simp [cmpK, cmpD, eqOk, PyData.canLay0, PyData.depth, PyData.eqv, h, h2]
@[simp] theorem cmpK_eqB {i j : Bool} : cmpK .eq (.bool i) (.bool j) = .ok (.bool (decide (i = j))) := by
  cases i <;> cases j <;> rfl
@[simp] theorem cmpK_neB {i j : Bool} : cmpK .ne (.bool i) (.bool j) = .ok (.bool (!decide (i = j))) := by
  cases i <;> cases j <;> rfl
@[simp] theorem cmpK_isnotB {i j : Bool} : cmpK .isnot (.bool i) (.bool j) = .ok (.bool (!decide (i = j))) := id rfl
@[simp] theorem cmpK_isB {i j : Bool} : cmpK .is (.bool i) (.bool j) = .ok (.bool (decide (i = j))) := id rfl
@[simp] theorem bltK_lenL {xs : List D} : bltK .len [.list xs] = .ok (.int xs.length) := id rfl
@[simp] theorem bltK_lenT {xs : List D} : bltK .len [.tuple xs] = .ok (.int xs.length) := id rfl
@[simp] theorem bltK_lenD {xs : List (D × D)} : bltK .len [.dict xs] = .ok (.int xs.length) := id rfl
theorem bltK_lenS {z : Str} (h : z.length ≤ 1000000) : bltK .len [.str z] = .ok (.int z.length) := by
  simp only [bltK, bltD]
  rw [if_pos (show _ ≤ line from h)]
  rfl
@[simp] theorem bltK_int {i : Int} : bltK .int [.int i] = .ok (.int i) := id rfl
@[simp] theorem bltK_intB {b : Bool} : bltK .int [.bool b] = .ok (.int (if b then 1 else 0)) := id rfl
@[simp] theorem bltK_abs {i : Int} : bltK .abs [.int i] = .ok (.int (if i < 0 then -i else i)) := id rfl
@[simp] theorem bltK_max {i j : Int} : bltK .max [.int i, .int j] = .ok (.int (if j > i then j else i)) := id rfl
@[simp] theorem bltK_min {i j : Int} : bltK .min [.int i, .int j] = .ok (.int (if j < i then j else i)) := id rfl
@[simp] theorem bltK_tupL {xs : List D} : bltK .tuple [.list xs] = .ok (.tuple xs) := id rfl
@[simp] theorem bltK_tupT {xs : List D} : bltK .tuple [.tuple xs] = .ok (.tuple xs) := id rfl
@[simp] theorem bltK_lstL {xs : List D} : bltK .list [.list xs] = .ok (.list xs) := id rfl
@[simp] theorem bltK_isi {T : Nat} {x : D} : bltK (.isi T) [x] = .of ((isiD T x).map .bool) := by unfold bltK bltD; cases x <;> rfl
@[simp] theorem isi_i {T : Nat} {i : Int} : isiD T (.int i) = some (T == 0) := id rfl
@[simp] theorem isi_b {T : Nat} {i : Bool} : isiD T (.bool i) = some (T == 0 || T == 1) := id rfl
@[simp] theorem isi_s {T : Nat} {i : Str} : isiD T (.str i) = some (T == 2) := id rfl
@[simp] theorem isi_t {T : Nat} {i : List D} : isiD T (.tuple i) = some (T == 3) := id rfl
@[simp] theorem isi_l {T : Nat} {i : List D} : isiD T (.list i) = some (T == 4) := id rfl
/-! statements -/
def asgK (t : Tgt) (e : Sl) (x : D) : Out := match bindT t x e with
  | some e' => .nx e'
  | none => .stuck
def ifK (Φ : FT) (F : Nat) (a b : List Stm) (e : Sl) : D → Out
  | .bool true => execs Φ F a e
  | .bool false => execs Φ F b e
  | _ => .stuck
@[simp] theorem ifK_t {a b : List Stm} : ifK Φ F a b e (.bool true) = execs Φ F a e := id rfl
@[simp] theorem ifK_f {a b : List Stm} : ifK Φ F a b e (.bool false) = execs Φ F b e := id rfl
@[simp] theorem asgK_nm {i : Nat} {x : D} (h : i < e.length) : asgK (.nm i) e x = .nx (e.set i (.d x)) := by unfold asgK bindT; rw [if_pos h]
@[simp] theorem x_nil : execs Φ F [] e = .nx e := by simp only [execs]
@[simp] theorem x_cons {s : Stm} {r : List Stm} : execs Φ F (s :: r) e = (exec Φ F s e).seq (execs Φ F r) := by simp only [execs]
@[simp] theorem seq_nil {o : Out} : o.seq (execs Φ F []) = o := by cases o <;> first | rfl | exact x_nil
@[simp] theorem slK_l {xs : List D} {lo hi : Option Int} : slK (.list xs) lo hi = .ok (.list (cutD xs lo hi)) := id rfl
@[simp] theorem slK_t {xs : List D} {lo hi : Option Int} : slK (.tuple xs) lo hi = .ok (.tuple (cutD xs lo hi)) := id rfl
theorem slK_s {z : Str} {lo hi : Option Int} (h : z.length ≤ line) : slK (.str z) lo hi = .ok (.str (S (cutD z.cps.toList lo hi))) := by
  simp only [slK, sliceD]
  rw [if_pos h]
  rfl
theorem cut_to {α : Type} {xs : List α} {n : Nat} : cutD xs none (some (n : Int)) = xs.take n := by
  unfold cutD
  rw [HT.sIx_none, HT.sIx_nat, Nat.sub_zero, List.drop_zero]
  by_cases h : n ≤ xs.length
  · rw [Nat.min_eq_left h]
  · rw [Nat.min_eq_right (by omega), List.take_length, List.take_of_length_le (by omega)]
theorem cut_from {α : Type} {xs : List α} {n : Nat} : cutD xs (some (n : Int)) none = xs.drop n := by
  unfold cutD
  rw [HT.sIx_none, HT.sIx_nat]
  by_cases h : n ≤ xs.length
  · rw [Nat.min_eq_left h, List.take_of_length_le (by rw [List.length_drop]; omega)]
  · rw [Nat.min_eq_right (by omega), Nat.sub_self, List.take_zero, List.drop_of_length_le (by omega)]
theorem cut_mid {α : Type} {xs : List α} {n m : Nat} (h : n ≤ m) (h2 : m ≤ xs.length) : cutD xs (some (n : Int)) (some (m : Int)) = (xs.drop n).take (m - n) := by
  unfold cutD
  rw [HT.sIx_nat, HT.sIx_nat, Nat.min_eq_left h2, Nat.min_eq_left (by omega)]
@[simp] theorem x_asg {t : Tgt} {a : Exp} : exec Φ F (.asg t a) e = Out.ofR (ev Φ a e) e (asgK t e) := by simp only [exec]; rfl
@[simp] theorem x_ifs {c : Exp} {a b : List Stm} : exec Φ F (.ifs c a b) e = Out.ofR (ev Φ c e) e (ifK Φ F a b e) := by simp only [exec]; rfl
@[simp] theorem x_ret {a : Exp} : exec Φ F (.ret a) e = Out.ofR (ev Φ a e) e .ret := by simp only [exec]
@[simp] theorem x_retn : exec Φ F .retn e = .ret .none := by simp only [exec]
@[simp] theorem x_brk : exec Φ F .brk e = .bk e := by simp only [exec]
@[simp] theorem x_cnt : exec Φ F .cnt e = .ct e := by simp only [exec]
@[simp] theorem x_pas : exec Φ F .pas e = .nx e := by simp only [exec]
def ownK (i : Nat) (e : Sl) (x : D) : Out := match ownS x with
  | some s => if i < e.length then .nx (e.set i s) else .stuck
  | none => .stuck
@[simp] theorem ownK_l {i : Nat} {xs : List D} (h : i < e.length) : ownK i e (.list xs) = .nx (e.set i (.ol xs)) := by simp only [ownK, ownS, if_pos h]
@[simp] theorem ownK_e {i : Nat} (h : i < e.length) : ownK i e (.dict []) = .nx (e.set i (.od [])) := by simp only [ownK, ownS, keysOk, if_pos h, if_true]
@[simp] theorem x_own {i : Nat} {a : Exp} : exec Φ F (.own i a) e = Out.ofR (ev Φ a e) e (ownK i e) := by simp only [exec]; rfl
def appK (Φ : FT) (i : Nat) (a : Exp) (e : Sl) : Option Slot → Out
  | some (.ol xs) => Out.ofR (ev Φ a e) e fun x => if xs.length < line then .nx (e.set i (.ol (xs ++ [x]))) else .stuck
  | _ => .stuck
theorem appK_l {i : Nat} {a : Exp} {xs : List D} : appK Φ i a e (some (.ol xs)) = Out.ofR (ev Φ a e) e fun x => if xs.length < line then .nx (e.set i (.ol (xs ++ [x]))) else .stuck := rfl
@[simp] theorem appK_ok {i : Nat} {a : Exp} {xs : List D} (h : xs.length < line) : appK Φ i a e (some (.ol xs)) = Out.ofR (ev Φ a e) e fun x => .nx (e.set i (.ol (xs ++ [x]))) := by
  rw [appK_l]; congr 1; funext x; rw [if_pos h]
@[simp] theorem x_app {i : Nat} {a : Exp} : exec Φ F (.app i a) e = appK Φ i a e e[i]? := by simp only [exec]; cases e[i]? with
  | none => rfl
  | some s => cases s <;> rfl
@[simp] theorem x_for {t : Tgt} {k : SrcK} {es : List Exp} {b : List Stm} : exec Φ F (.for t k es b) e = Out.ofR ((evs Φ es e).bind (srcK k)) e fun its => forL (execs Φ F b) t its e := by
  simp only [exec]
  cases evs Φ es e with
  | ok xs =>
    simp only [Out.ofR_ok, Res.bind_ok]
    unfold srcK
    cases srcD k xs <;> rfl
  | ex c => rfl
  | stuck => rfl
def setdK (i : Nat) (e : Sl) (kvs : List (D × D)) (x : D) (k : D) : Out := if (keyD k).isSome ∧ kvs.length < line then .nx (e.set i (.od (putD kvs k x))) else .stuck
def setdS (Φ : FT) (i : Nat) (k a : Exp) (e : Sl) : Option Slot → Out
  | some (.od kvs) => Out.ofR (ev Φ a e) e fun x => Out.ofR (ev Φ k e) e (setdK i e kvs x)
  | _ => .stuck
@[simp] theorem setdS_d {i : Nat} {k a : Exp} {kvs : List (D × D)} : setdS Φ i k a e (some (.od kvs)) = Out.ofR (ev Φ a e) e fun x => Out.ofR (ev Φ k e) e (setdK i e kvs x) := id rfl
theorem setdK_i {i : Nat} {kvs : List (D × D)} {x : D} {k : Int} (h : kvs.length < line) : setdK i e kvs x (.int k) = .nx (e.set i (.od (putD kvs (.int k) x))) := by
  unfold setdK
  rw [if_pos ⟨rfl, h⟩]
@[simp] theorem x_setd {i : Nat} {k a : Exp} : exec Φ F (.setd i k a) e = setdS Φ i k a e e[i]? := by
  simp only [exec]
  cases e[i]? with
  | none => rfl
  | some s => cases s <;> rfl
@[simp] theorem bltK_dict {kvs : List (D × D)} : bltK .dict [.dict kvs] = .ok (.dict kvs) := id rfl
def fordK (Φ : FT) (F : Nat) (t : Tgt) (b : List Stm) (e : Sl) : Option Slot → Out
  | some (.d (.dict kvs)) => (forL (execs Φ F b) t (kvs.map (·.1)) e).calm
  | _ => .stuck
@[simp] theorem fordK_d {t : Tgt} {b : List Stm} {kvs : List (D × D)} : fordK Φ F t b e (some (.d (.dict kvs))) = (forL (execs Φ F b) t (kvs.map (·.1)) e).calm := id rfl
@[simp] theorem x_ford {t : Tgt} {i : Nat} {b : List Stm} : exec Φ F (.ford t i b) e = fordK Φ F t b e e[i]? := by
  simp only [exec]
  cases e[i]? with
  | none => rfl
  | some s => cases s with
    | d x => cases x <;> rfl
    | _ => rfl
def giveK (i : Nat) (e : Sl) : Option Slot → Out
  | some (.ol xs) => .nx (e.set i (.d (.list xs)))
  | _ => .stuck
@[simp] theorem giveK_l {i : Nat} {xs : List D} : giveK i e (some (.ol xs)) = .nx (e.set i (.d (.list xs))) := id rfl
@[simp] theorem x_give {i : Nat} : exec Φ F (.give i) e = giveK i e e[i]? := by simp only [exec]; cases e[i]? with
  | none => rfl
  | some s => cases s <;> rfl
@[simp] theorem x_par {i j : Nat} {a b : Exp} : exec Φ F (.par i j a b) e = Out.ofR (ev Φ a e) e fun x => Out.ofR (ev Φ b e) e fun y => if i < e.length ∧ j < e.length then .nx ((e.set i (.d x)).set j (.d y)) else .stuck := by simp only [exec]
theorem forL_nil {b : Sl → Out} {t : Tgt} : forL b t [] e = .nx e := by simp only [forL]
theorem forL_cons {b : Sl → Out} {t : Tgt} {x : D} {xs : List D} {e1 : Sl} (h : bindT t x e = some e1) : forL b t (x :: xs) e = (b e1).turn fun e2 => forL b t xs e2 := by simp only [forL, h]
/-- a loop that only goes on -/
theorem forL_inv {b : Sl → Out} {t : Tgt} (I : Nat → Sl → Prop) : ∀ (its : List D) (e : Sl) (k : Nat), I k e → (∀ i x e, its[i]? = some x → I (k + i) e → ∃ e1 e2, bindT t x e = some e1 ∧ (b e1 = .nx e2 ∨ b e1 = .ct e2) ∧ I (k + i + 1) e2) → ∃ e', forL b t its e = .nx e' ∧ I (k + its.length) e'
  | [], e, k, h0, _ => ⟨e, forL_nil, h0⟩
  | x :: xs, e, k, h0, hs => by
    obtain ⟨e1, e2, h1, h2, h3⟩ := hs 0 x e rfl h0
    obtain ⟨e', q1, q2⟩ := forL_inv I xs e2 (k + 1) h3 fun i x e hi h => by
      have := hs (i + 1) x e (by simpa using hi) (by rw [show k + (i + 1) = k + 1 + i by omega]; exact h)
      rw [show k + (i + 1) + 1 = k + 1 + i + 1 by omega] at this
      exact this
    refine ⟨e', ?_, by rw [show k + (x :: xs).length = k + 1 + xs.length by simp only [List.length_cons]; omega]; exact q2⟩
    rw [forL_cons h1]
    rcases h2 with h2 | h2 <;> rw [h2] <;> exact q1
/-- a loop whose turns may also break or return; what is asked of the end -/
theorem forL_post {b : Sl → Out} {t : Tgt} (I : Nat → Sl → Prop) (Q : Out → Prop) : ∀ (its : List D) (e : Sl) (k : Nat), I k e → (∀ i x e, its[i]? = some x → I (k + i) e → ∃ e1, bindT t x e = some e1 ∧ ((∃ e2, (b e1 = .nx e2 ∨ b e1 = .ct e2) ∧ I (k + i + 1) e2) ∨ (∃ e2, b e1 = .bk e2 ∧ Q (.nx e2)) ∨ (∃ x, b e1 = .ret x ∧ Q (.ret x)))) → (∀ e, I (k + its.length) e → Q (.nx e)) → Q (forL b t its e)
  | [], e, k, h0, _, hd => by rw [forL_nil]; exact hd e h0
  | x :: xs, e, k, h0, hs, hd => by
    obtain ⟨e1, h1, h2⟩ := hs 0 x e rfl h0
    rw [forL_cons h1]
    rcases h2 with ⟨e2, h2, h3⟩ | ⟨e2, h2, h3⟩ | ⟨r, h2, h3⟩
    · have := forL_post I Q xs e2 (k + 1) h3 (fun i x e hi h => by
        have := hs (i + 1) x e (by simpa using hi) (by rw [show k + (i + 1) = k + 1 + i by omega]; exact h)
        rw [show k + (i + 1) + 1 = k + 1 + i + 1 by omega] at this
        exact this) (fun e h => hd e (by rw [show k + (x :: xs).length = k + 1 + xs.length by simp only [List.length_cons]; omega]; exact h))
      rcases h2 with h2 | h2 <;> rw [h2] <;> exact this
    · rw [h2]; exact h3
    · rw [h2]; exact h3
theorem compL_all {f : Sl → Res D} {g : Sl → Res Bool} {t : Tgt} {h : D → D} (hg : ∀ e, g e = .ok true) : ∀ (its : List D), (∀ x ∈ its, ∃ e1, bindT t x e = some e1 ∧ f e1 = .ok (h x)) → compL f g t its e = .ok (its.map h)
  | [], _ => by simp only [compL, List.map_nil]
  | x :: xs, hs => by
    obtain ⟨e1, h1, h2⟩ := hs x (List.mem_cons_self ..)
    have ih := compL_all hg xs fun y hy => hs y (List.mem_cons_of_mem _ hy)
    simp only [compL, h1, hg, Res.bind_ok, if_pos, h2, ih, List.map_cons]
theorem rng_get {lo : Int} {n i : Nat} {x : D} (h : (rngD lo n)[i]? = some x) : i < n ∧ x = .int (lo + i) := by
  unfold rngD at h
  rw [List.getElem?_map] at h
  cases q : (List.range n)[i]? with
  | none => rw [q] at h; cases h
  | some j =>
    rw [q] at h
    obtain ⟨hi, e⟩ := List.getElem?_eq_some_iff.mp q
    rw [List.getElem_range] at e
    subst e
    simp only [Option.map_some, Option.some.injEq] at h
    exact ⟨by simpa using hi, h.symm⟩
@[simp] theorem rng_len {lo : Int} {n : Nat} : (rngD lo n).length = n := by simp [rngD]
/-- a list's item at a nat -/
theorem atI_at {α : Type} {xs : List α} {i : Int} {x : α} (h0 : 0 ≤ i) (h : xs[i.toNat]? = some x) : L2.atI xs i = some x := by
  obtain ⟨n, rfl⟩ := Int.eq_ofNat_of_zero_le h0
  exact L2.atI_nat (by simpa using h)
theorem get_ints {l : List Int} {i : Nat} (h : i < l.length) : (l.map PyData.int)[i]? = some (.int l[i]) := by rw [List.getElem?_map, List.getElem?_eq_getElem h]; rfl
end
/-! ### what is asked of an end -/
structure Is (Q : Out → Prop) (o : Out) : Prop where
  mk :: (out : Q o)
theorem is_eq {Q : Out → Prop} {o : Out} : Is Q o = Q o := propext ⟨fun h => h.out, fun h => ⟨h⟩⟩
/-- a loop's turn -/
def turnB (b : Sl → Out) (t : Tgt) (x : D) (e : Sl) : Out := match bindT t x e with
  | some e1 => b e1
  | none => .stuck
/-- what a turn is to reach -/
def Turn (Q : Out → Prop) (I : Sl → Prop) (f : Sl → Out) : Out → Prop
  | .nx e => I e
  | .ct e => I e
  | .bk e => Is Q (f e)
  | .ret x => Q (.ret x)
  | _ => False
@[simp] theorem Turn_nx {Q : Out → Prop} {I : Sl → Prop} {f : Sl → Out} {e : Sl} : Is (Turn Q I f) (.nx e) = I e := is_eq
@[simp] theorem Turn_ct {Q : Out → Prop} {I : Sl → Prop} {f : Sl → Out} {e : Sl} : Is (Turn Q I f) (.ct e) = I e := is_eq
@[simp] theorem Turn_bk {Q : Out → Prop} {I : Sl → Prop} {f : Sl → Out} {e : Sl} : Is (Turn Q I f) (.bk e) = Is Q (f e) := is_eq
@[simp] theorem Turn_ret {Q : Out → Prop} {I : Sl → Prop} {f : Sl → Out} {x : D} : Is (Turn Q I f) (.ret x) = Q (.ret x) := is_eq
theorem Is.for {Q : Out → Prop} {b : Sl → Out} {t : Tgt} {its : List D} {e : Sl} {f : Sl → Out} (I : Nat → Sl → Prop) (h0 : I 0 e) (hs : ∀ i x e, its[i]? = some x → I i e → Is (Turn Q (I (i + 1)) f) (turnB b t x e)) (hd : ∀ e, I its.length e → Is Q (f e)) : Is Q ((forL b t its e).seq f) := by
  refine forL_post (fun i e => I i e) (fun o => Is Q (o.seq f)) its e 0 h0 (fun i x e hx hi => ?_) (fun e h => hd e (by rw [Nat.zero_add] at h; exact h))
  rw [Nat.zero_add] at hi ⊢
  have h := (hs i x e hx hi).out
  unfold turnB at h
  cases q : bindT t x e with
  | none => rw [q] at h; exact h.elim
  | some e1 =>
    rw [q] at h
    refine ⟨e1, rfl, ?_⟩
    simp only [] at h
    cases q2 : b e1 with
    | nx e2 => rw [q2] at h; exact .inl ⟨e2, .inl rfl, h⟩
    | ct e2 => rw [q2] at h; exact .inl ⟨e2, .inr rfl, h⟩
    | bk e2 => rw [q2] at h; exact .inr (.inl ⟨e2, rfl, h⟩)
    | ret x => rw [q2] at h; exact .inr (.inr ⟨x, rfl, ⟨h⟩⟩)
    | ex c e2 => rw [q2] at h; exact h.elim
    | stuck => rw [q2] at h; exact h.elim
theorem Is.ford {Q : Out → Prop} {b : Sl → Out} {t : Tgt} {its : List D} {e : Sl} {f : Sl → Out} (I : Nat → Sl → Prop) (h0 : I 0 e) (hs : ∀ i x e, its[i]? = some x → I i e → Is (Turn Q (I (i + 1)) f) (turnB b t x e)) (hd : ∀ e, I its.length e → Is Q (f e)) : Is Q ((forL b t its e).calm.seq f) := by
  refine forL_post (fun i e => I i e) (fun o => Is Q (o.calm.seq f)) its e 0 h0 (fun i x e hx hi => ?_) (fun e h => hd e (by rw [Nat.zero_add] at h; exact h))
  rw [Nat.zero_add] at hi ⊢
  have h := (hs i x e hx hi).out
  unfold turnB at h
  cases q : bindT t x e with
  | none => rw [q] at h; exact h.elim
  | some e1 =>
    rw [q] at h
    refine ⟨e1, rfl, ?_⟩
    simp only [] at h
    cases q2 : b e1 with
    | nx e2 => rw [q2] at h; exact .inl ⟨e2, .inl rfl, h⟩
    | ct e2 => rw [q2] at h; exact .inl ⟨e2, .inr rfl, h⟩
    | bk e2 => rw [q2] at h; exact .inr (.inl ⟨e2, rfl, h⟩)
    | ret x => rw [q2] at h; exact .inr (.inr ⟨x, rfl, ⟨h⟩⟩)
    | ex c e2 => rw [q2] at h; exact h.elim
    | stuck => rw [q2] at h; exact h.elim
/-- a loop that stands last -/
theorem Is.forE {Q : Out → Prop} {b : Sl → Out} {t : Tgt} {its : List D} {e : Sl} (I : Nat → Sl → Prop) (h0 : I 0 e) (hs : ∀ i x e, its[i]? = some x → I i e → Is (Turn Q (I (i + 1)) .nx) (turnB b t x e)) (hd : ∀ e, I its.length e → Is Q (.nx e)) : Is Q (forL b t its e) := by
  have := Is.for (f := .nx) I h0 hs hd
  have e2 : ∀ o : Out, o.seq .nx = o := fun o => by cases o <;> rfl
  rw [e2] at this
  exact this
/-- a while loop, by a measure -/
theorem Is.whl {Q : Out → Prop} {c : Sl → Res D} {b : Sl → Out} {f : Sl → Out} (I : Nat → Sl → Prop) (hs : ∀ n e, I n e → (c e = .ok (.bool false) ∧ Is Q (f e)) ∨ (c e = .ok (.bool true) ∧ Is (Turn Q (fun e' => ∃ m, m < n ∧ I m e') f) (b e))) : ∀ (F : Nat) (e : Sl) (n : Nat), I n e → n < F → Is Q ((whileF c b F e).seq f)
  | 0, _, _, _, h => absurd h (Nat.not_lt_zero _)
  | F + 1, e, n, h0, hn => by
    rcases hs n e h0 with ⟨h1, h2⟩ | ⟨h1, h2⟩
    · have : whileF c b (F + 1) e = .nx e := by simp only [whileF, h1, Out.ofR_ok]
      rw [this]; exact h2
    · have : whileF c b (F + 1) e = (b e).turn fun e2 => whileF c b F e2 := by simp only [whileF, h1, Out.ofR_ok]
      rw [this]
      replace h2 := h2.out
      cases q : b e with
      | nx e2 => rw [q] at h2; obtain ⟨m, hm, hi⟩ := h2; exact Is.whl I hs F e2 m hi (by omega)
      | ct e2 => rw [q] at h2; obtain ⟨m, hm, hi⟩ := h2; exact Is.whl I hs F e2 m hi (by omega)
      | bk e2 => rw [q] at h2; exact h2
      | ret x => rw [q] at h2; exact ⟨h2⟩
      | ex c e2 => rw [q] at h2; exact h2.elim
      | stuck => rw [q] at h2; exact h2.elim
@[simp] theorem x_whl {c : Exp} {b : List Stm} {Φ : FT} {F : Nat} {e : Sl} : exec Φ F (.whl c b) e = whileF (ev Φ c) (execs Φ F b) F e := by simp only [exec]
def augK (i : Nat) (op : BOp) (e : Sl) (x y : D) : Out := match augD op x y with
  | some z => .nx (e.set i (.d z))
  | none => .stuck
def augS (Φ : FT) (i : Nat) (op : BOp) (a : Exp) (e : Sl) : Option Slot → Out
  | some (.d x) => Out.ofR (ev Φ a e) e (augK i op e x)
  | _ => .stuck
@[simp] theorem augS_d {Φ : FT} {i : Nat} {op : BOp} {a : Exp} {e : Sl} {x : D} : augS Φ i op a e (some (.d x)) = Out.ofR (ev Φ a e) e (augK i op e x) := id rfl
@[simp] theorem x_aug {Φ : FT} {F i : Nat} {op : BOp} {a : Exp} {e : Sl} : exec Φ F (.aug i op a) e = augS Φ i op a e e[i]? := by
  simp only [exec]
  cases e[i]? with
  | none => rfl
  | some s => cases s <;> rfl
@[simp] theorem augK_add {i : Nat} {e : Sl} {x y : Int} : augK i .add e (.int x) (.int y) = .nx (e.set i (.d (.int (x + y)))) := id rfl
@[simp] theorem augK_sub {i : Nat} {e : Sl} {x y : Int} : augK i .sub e (.int x) (.int y) = .nx (e.set i (.d (.int (x - y)))) := id rfl
@[simp] theorem augK_div {i : Nat} {e : Sl} {x y : Int} (h : 0 < y) (h2 : y < 1073741824) : augK i .fdiv e (.int x) (.int y) = .nx (e.set i (.d (.int (x / y)))) := by
  simp only [augK, augD, binD, if_pos (And.intro h (Or.inl h2 : y < 1073741824 ∨ y.natAbs < 2 ^ 3000))]
@[simp] theorem x_rse {Φ : FT} {F c : Nat} {e : Sl} : exec Φ F (.rse c) e = .ex c e := by simp only [exec]
/-- what is asked of the run of a def that may raise -/
def RetX (Q : D → Prop) (X : Nat → Prop) : Out → Prop
  | .ret x => Q x
  | .ex c _ => X c
  | _ => False
@[simp] theorem RetX_ret {Q : D → Prop} {X : Nat → Prop} {x : D} : Is (RetX Q X) (.ret x) = Q x := is_eq
@[simp] theorem RetX_ex {Q : D → Prop} {X : Nat → Prop} {c : Nat} {e : Sl} : Is (RetX Q X) (.ex c e) = X c := is_eq
theorem Is.run {fn : Fdef} {Φ : FT} {F : Nat} {args : List D} {Q : Res D → Prop} (hl : args.length = fn.np) (h : Is (fun o => match o with | .ret x => Q (.ok x) | .nx _ => Q (.ok .none) | .ex c _ => Q (.ex c) | _ => False) (execs Φ F fn.body (args.map .d ++ List.replicate (fn.ns - fn.np) .un))) : Q (fn.run Φ F args) := by
  unfold Fdef.run
  rw [if_pos hl]
  replace h := h.out
  cases q : execs Φ F fn.body (args.map .d ++ List.replicate (fn.ns - fn.np) .un) <;> rw [q] at h <;> first | exact h | exact h.elim
def Ret (Q : D → Prop) : Out → Prop
  | .ret x => Q x
  | _ => False
@[simp] theorem Ret_ret {Q : D → Prop} {x : D} : Is (Ret Q) (.ret x) = Q x := is_eq
/-- a def that ends with return -/
theorem run_of {fn : Fdef} {Φ : FT} {F : Nat} {args : List D} {Q : D → Prop} (hl : args.length = fn.np) (h : Is (Ret Q) (execs Φ F fn.body (args.map .d ++ List.replicate (fn.ns - fn.np) .un))) : ∃ x, fn.run Φ F args = .ok x ∧ Q x := by
  unfold Fdef.run
  rw [if_pos hl]
  replace h := h.out
  cases q : execs Φ F fn.body (args.map .d ++ List.replicate (fn.ns - fn.np) .un) with
  | ret x => rw [q] at h; exact ⟨x, rfl, h⟩
  | _ => rw [q] at h; exact h.elim
/-- the run of a def -/
theorem phi_succ {T : List Fdef} {F n i : Nat} {fn : Fdef} {args : List D} (h : T[i]? = some fn) : phi T F (n + 1) i args = fn.run (phi T F n) F args := by simp only [phi, h]
theorem run_ret {fn : Fdef} {Φ : FT} {F : Nat} {args : List D} {x : D} (hl : args.length = fn.np) (h : execs Φ F fn.body (args.map .d ++ List.replicate (fn.ns - fn.np) .un) = .ret x) : fn.run Φ F args = .ok x := by
  unfold Fdef.run
  rw [if_pos hl, h]
end
/-! dicts with nested keys, insert, try -/
noncomputable section
variable {Φ : FT} {F : Nat} {e : Sl}
def nlK (kvs : List (D × D)) (y : D) : Res D := (Res.of (nlook kvs y)).bind .of
def nldK (kvs : List (D × D)) (y x : D) : Res D := if isIntD x then (Res.of (nlook kvs y)).bind fun o => .ok (o.getD x) else .stuck
def ngetK (Φ : FT) (k : Exp) (e : Sl) : Option Slot → Res D
  | some (.on kvs) => (ev Φ k e).bind (nlK kvs)
  | some (.rn kvs) => (ev Φ k e).bind (nlK kvs)
  | _ => .stuck
def ngetdK (Φ : FT) (k z : Exp) (e : Sl) : Option Slot → Res D
  | some (.on kvs) => (ev Φ k e).bind fun y => (ev Φ z e).bind (nldK kvs y)
  | some (.rn kvs) => (ev Φ k e).bind fun y => (ev Φ z e).bind (nldK kvs y)
  | _ => .stuck
def nkeysK : Option Slot → Res D
  | some (.on kvs) => .ok (.list (kvs.map (·.1)))
  | some (.rn kvs) => .ok (.list (kvs.map (·.1)))
  | _ => .stuck
@[simp] theorem ngetK_on {k : Exp} {kvs : List (D × D)} : ngetK Φ k e (some (.on kvs)) = (ev Φ k e).bind (nlK kvs) := id rfl
@[simp] theorem ngetK_rn {k : Exp} {kvs : List (D × D)} : ngetK Φ k e (some (.rn kvs)) = (ev Φ k e).bind (nlK kvs) := id rfl
@[simp] theorem ngetdK_on {k z : Exp} {kvs : List (D × D)} : ngetdK Φ k z e (some (.on kvs)) = (ev Φ k e).bind fun y => (ev Φ z e).bind (nldK kvs y) := id rfl
@[simp] theorem ngetdK_rn {k z : Exp} {kvs : List (D × D)} : ngetdK Φ k z e (some (.rn kvs)) = (ev Φ k e).bind fun y => (ev Φ z e).bind (nldK kvs y) := id rfl
@[simp] theorem nkeysK_on {kvs : List (D × D)} : nkeysK (some (.on kvs)) = .ok (.list (kvs.map (·.1))) := id rfl
@[simp] theorem nkeysK_rn {kvs : List (D × D)} : nkeysK (some (.rn kvs)) = .ok (.list (kvs.map (·.1))) := id rfl
@[simp] theorem e_nget {i : Nat} {k : Exp} : ev Φ (.nget i k) e = ngetK Φ k e e[i]? := by
  simp only [ev]
  cases e[i]? with
  | none => rfl
  | some s => cases s <;> rfl
@[simp] theorem e_ngetd {i : Nat} {k z : Exp} : ev Φ (.ngetd i k z) e = ngetdK Φ k z e e[i]? := by
  simp only [ev]
  cases e[i]? with
  | none => rfl
  | some s => cases s <;> rfl
@[simp] theorem e_nkeys {i : Nat} : ev Φ (.nkeys i) e = nkeysK e[i]? := by
  simp only [ev]
  cases e[i]? with
  | none => rfl
  | some s => cases s <;> rfl
def callnK (Φ : FT) (f : Nat) (pre post : List Exp) (e : Sl) : Option Slot → Res D
  | some (.on kvs) => (evs Φ pre e).bind fun xs => (evs Φ post e).bind fun ys => (Φ f (xs ++ pairsN kvs :: ys)).bind flK
  | _ => .stuck
@[simp] theorem callnK_on {f : Nat} {pre post : List Exp} {kvs : List (D × D)} : callnK Φ f pre post e (some (.on kvs)) = (evs Φ pre e).bind fun xs => (evs Φ post e).bind fun ys => (Φ f (xs ++ pairsN kvs :: ys)).bind flK := id rfl
@[simp] theorem e_calln {f i : Nat} {pre post : List Exp} : ev Φ (.calln f pre i post) e = callnK Φ f pre post e e[i]? := by
  simp only [ev]
  cases e[i]? with
  | none => rfl
  | some s => cases s <;> rfl
@[simp] theorem x_nowe {i : Nat} (h : i < e.length) : exec Φ F (.nowe i) e = .nx (e.set i (.on [])) := by simp only [exec, if_pos h]
def nsetK (i : Nat) (e : Sl) (kvs : List (D × D)) (x y : D) : Out := if isIntD x && (nlook kvs y).isSome && decide (kvs.length < line) then .nx (e.set i (.on (nput kvs y x))) else .stuck
def nsetS (Φ : FT) (i : Nat) (k a : Exp) (e : Sl) : Option Slot → Out
  | some (.on kvs) => Out.ofR (ev Φ a e) e fun x => Out.ofR (ev Φ k e) e (nsetK i e kvs x)
  | _ => .stuck
@[simp] theorem nsetS_on {i : Nat} {k a : Exp} {kvs : List (D × D)} : nsetS Φ i k a e (some (.on kvs)) = Out.ofR (ev Φ a e) e fun x => Out.ofR (ev Φ k e) e (nsetK i e kvs x) := id rfl
theorem nsetK_ok {i : Nat} {kvs : List (D × D)} {y : D} {x : Int} (h : (nlook kvs y).isSome = true) (hl : kvs.length < line) : nsetK i e kvs (.int x) y = .nx (e.set i (.on (nput kvs y (.int x)))) := by
  unfold nsetK
  rw [h, decide_eq_true hl]
  rfl
@[simp] theorem x_nset {i : Nat} {k a : Exp} : exec Φ F (.nset i k a) e = nsetS Φ i k a e e[i]? := by
  simp only [exec]
  cases e[i]? with
  | none => rfl
  | some s => cases s <;> rfl
theorem unpairs_eq : ∀ {kvs : List (D × D)}, unpairs (kvs.map fun p => .tuple [p.1, p.2]) = some kvs
  | [] => rfl
  | (a, b) :: r => by
    rw [List.map_cons]
    simp only [unpairs, unpairs_eq (kvs := r), Option.map_some]
theorem x_objn {i : Nat} {kvs : List (D × D)} (h : e[i]? = some (.d (pairsN kvs))) : exec Φ F (.objn i) e = .nx (e.set i (.rn kvs)) := by
  simp only [exec, h, pairsN, unpairs_eq]
def insK (i : Nat) (e : Sl) (xs : List D) (k x : D) : Out := match k with
  | .int k => if 0 ≤ k ∧ k < 2 ^ 63 ∧ xs.length < line then .nx (e.set i (.ol (xs.take k.toNat ++ [x] ++ xs.drop k.toNat))) else .stuck
  | _ => .stuck
def insS (Φ : FT) (i : Nat) (j a : Exp) (e : Sl) : Option Slot → Out
  | some (.ol xs) => Out.ofR (ev Φ j e) e fun k => Out.ofR (ev Φ a e) e (insK i e xs k)
  | _ => .stuck
@[simp] theorem insS_ol {i : Nat} {j a : Exp} {xs : List D} : insS Φ i j a e (some (.ol xs)) = Out.ofR (ev Φ j e) e fun k => Out.ofR (ev Φ a e) e (insK i e xs k) := id rfl
theorem insK_ok {i n : Nat} {xs : List D} {x : D} (h : n ≤ 1000000) (hl : xs.length < line) : insK i e xs (.int (n : Nat)) x = .nx (e.set i (.ol (xs.take n ++ [x] ++ xs.drop n))) := by
  unfold insK
  simp only []
  rw [if_pos ⟨by omega, by omega, hl⟩, Int.toNat_natCast]
@[simp] theorem x_ins {i : Nat} {j a : Exp} : exec Φ F (.ins i j a) e = insS Φ i j a e e[i]? := by
  simp only [exec]
  cases e[i]? with
  | none => rfl
  | some s => cases s <;> rfl
theorem x_trx {i : Nat} {body : List Stm} {ok : List Nat} {r : List (Nat × Exp)} {e2 : Sl} {c : Nat} {A : Exp} {x : D} (h : execs Φ F body e = .ex c e2) (hr : r.lookup c = some A) (hl : i < e2.length) (hx : ev Φ A (e2.set i .un) = .ok x) : exec Φ F (.trx i body ok r) e = .ret x := by
  simp only [exec, h, hr, if_pos hl, hx]
theorem x_trxN {i : Nat} {body : List Stm} {ok : List Nat} {r : List (Nat × Exp)} {e2 : Sl} (h : execs Φ F body e = .nx e2) : exec Φ F (.trx i body ok r) e = .nx e2 := by
  simp only [exec, h]
end
end Rf

set_option Elab.async false
set_option linter.all false
set_option maxRecDepth 100000
set_option maxHeartbeats 1000000
/-! Rf, part X: a body while an exception is handled. -/
namespace Rf
noncomputable section
open PySem PySem.Spec PyProof.Rows L2N
open L2 hiding CX HdsOk MkP PMk St Takes XE mk_of passAt passes_call pmk_own ps_raise ps_try_as ps_try_many takes_of
open L2H HotX
/-- a body's facts, whether or not an exception is handled -/
structure Ct0 (X : Cx) (P : Pk) (N : List Str) (sc : Scope) : Prop where
  hK : X.K = P.K
  hN : X.N = N
  nd : N.Nodup
  hs : X.env.scope = sc
  un : X.A.units + 190 < cLine
  tk : Takes X P.W
  po : PassesOwn (model X.prog X.w) X.A X.env X.xe
/-- a def that may be called while an exception is handled -/
structure Fn1H (pr : Program) (w : World) (K : PySem.W.Frag) (mg : Str → Option Value) (base : Heap) (A : Around) (ca : Nat → Addr) (Φ : FT) (x : Str) (f : Nat) : Prop where
  ex : ∃ (k : Nat) (fA : Addr) (fd : FuncData) (ps : List Str), FnH pr w K mg base (L2N.CX pr w) k fA fd ps (spP K ca Φ f) ∧ RoomH k A ∧ mg x = some (.ref fA) ∧ PySem.W.keepIn K (.ref fA) = true ∧ Binds K fd ps []
section
variable {X : Cx} {P : Pk} {N : List Str} {sc : Scope} {m : Nat} {Φ : FT} {f g : Sl → Res D} {A B E : Exp} {ES : List Exp} {a b c : Expr} {es : List Expr} {pos : Pos}
theorem Ct0.u1 (C : Ct0 X P N sc) : X.A.units + 1 < cLine := by have := C.un; omega
theorem se_var0 (C : Ct0 X P N sc) {i : Nat} {x : Str} (hN : N[i]? = some x) (hv : Vis sc x) (hd : (x == ("__debug__" : Str)) = false := by decide) (hcd : (x == ("__classdict__" : Str)) = false := by decide) : PE X (.Name x pos) (lift P m (ev Φ (.var i))) := by
  refine PE.imp (pe_var (i := i) (by rw [C.hN]; exact hN) (by rw [C.hs]; exact hv) hd hcd) fun σ H Q ⟨e, R, p⟩ => ?_
  simp only [ev] at p
  cases q : e[i]? with
  | none => rw [q] at p; exact p.elim
  | some s =>
    rw [q] at p
    obtain ⟨o, h1, h2⟩ := R.at q
    cases s with
    | d x =>
      obtain ⟨v, rfl, dd⟩ := h2
      exact ⟨v, h1, p v H (Same.refl H) dd.mm⟩
    | _ => exact p.elim
theorem se_bin0 (C : Ct0 X P N sc) (op : BOp) (ha : PE X a (lift P (sub m) (ev Φ A))) (hb : PE X b (lift P (sub m) (ev Φ B))) :
    PE X (.BinOp a (bOp op) b pos) (liftN P m (ev Φ (.bin op A B))) := by
  have o := op_binD (X := X) op
  rw [C.hK] at o
  refine PE.imp (pe_op o ha hb) fun σ H Q ⟨e, R, p⟩ => ⟨e, R, ?_⟩
  simp only [ev] at p
  refine Post.weaken (bindZ (α := D) (m := sub m) gdPostN R p) fun v H1 ⟨x, _, s1, R1, d1, p1⟩ => ⟨e, R1, ?_⟩
  refine Post.weaken (bindZ (α := D) (m := sub m) gdPostN R1 p1) fun w H2 ⟨y, _, s2, R2, d2, p2⟩ => ?_
  cases q : binD op x y with
  | none => rw [q] at p2; exact p2.elim
  | some d =>
    rw [q] at p2
    have d1' := d1.same s2
    unfold DenM at d1' d2
    rw [av1_sub] at d1' d2
    exact ⟨_, _, _, x, y, d, d1', d2, q, fun z H' s hz => p2 z H' s hz⟩
theorem se_cmp0 (C : Ct0 X P N sc) (op : COp) (ha : PE X a (lift P 0 (ev Φ A))) (hb : PE X b (lift P 0 (ev Φ B))) (hm : behindInMarks (cOp op) b = false) :
    PE X (.Compare a [cOp op] [b] pos) (lift P m (ev Φ (.cmp op A B))) := by
  have o := op_cmpD (X := X) C.un op
  rw [C.hK] at o
  refine PE.imp (pe_cmpR o ha hb hm) fun σ H Q ⟨e, R, p⟩ => ⟨e, R, ?_⟩
  simp only [ev] at p
  refine Post.weaken (bindZ (α := D) (m := 0) gdPost R p) fun v H1 ⟨x, _, s1, R1, d1, p1⟩ => ⟨e, R1, ?_⟩
  refine Post.weaken (bindZ (α := D) (m := 0) gdPost R1 p1) fun w H2 ⟨y, _, s2, R2, d2, p2⟩ => ?_
  cases q : cmpD op x y with
  | none => rw [q] at p2; exact p2.elim
  | some d =>
    rw [q] at p2
    exact ⟨_, _, _, x, y, d, d1.same s2, d2, q, p2 _ H2 (Same.refl _) bl_m⟩
theorem se_idx0 (C : Ct0 X P N sc) (ha : PE X a (lift P (sub m) (ev Φ A))) (hb : PE X b (lift P 0 (ev Φ B))) (hp : PlainIx b) : PE X (.Subscript a b pos) (lift P m (ev Φ (.idx A B))) := by
  have o := ixD (X := X) C.u1
  rw [C.hK] at o
  refine PE.imp (pe_ix o ha hb hp) fun σ H Q ⟨e, R, p⟩ => ⟨e, R, ?_⟩
  simp only [ev] at p
  refine Post.weaken (bindZ (α := D) (m := sub m) gdPost R p) fun v H1 ⟨x, _, s1, R1, d1, p1⟩ => ⟨e, R1, ?_⟩
  refine Post.weaken (bindZ (α := D) (m := 0) gdPost R1 p1) fun w H2 ⟨y, _, s2, R2, d2, p2⟩ => ?_
  cases q : idxD x y with
  | none => rw [q] at p2; exact p2.elim
  | some d =>
    rw [q] at p2
    have d1' := d1.same s2
    unfold DenM at d1'
    rw [av1_sub] at d1'
    exact ⟨_, _, _, _, x, y, d, d1', d2, q, fun z hz => p2 z H2 (Same.refl _) (DenM.up hz)⟩
theorem se_bltB0 (C : Ct0 X P N sc) {x : Str} {p : Pos} {id : String} {Bl : Blt} (hc : CallR X (.builtin id) (RCl X.K (bltD Bl))) (hg : X.env.kindOf x = some .globalImplicit) (hm : X.mg x = none) (hv : bootBuiltins x = some (.builtin id))
    (ha : PA X (a :: es) (lifts P (sub m) (evs Φ ES))) (hn : x ≠ ("__name__" : Str) := by decide) (hdb : (x == ("__debug__" : Str)) = false := by decide)
    (he : starEach (a :: es) X.env = (false, eval a X.env) :: starEach es X.env := by rfl) (hpl : (backTo pos (starEach es X.env)).any (·.1) = false := by rfl) :
    PE X (.Call (.Name x p) (a :: es) [] pos) (liftN P m (ev Φ (.blt Bl ES))) := by
  rw [C.hK] at hc
  exact PE.imp (pe_callB hc hg hm hv ha hn hdb he hpl) fun σ H Q h => tCB_of h
theorem se_callH (C : Ct0 X P N sc) (hh : HotC X) {x : Str} {F : Nat} {p : Pos} (fn : Fn1H X.prog X.w X.K X.mg X.base X.A P.ca Φ x F) (hg : X.env.kindOf x = some .globalImplicit) (ha : PA X (a :: es) (lifts P (cm m) (evs Φ ES))) (hdb : (x == ("__debug__" : Str)) = false := by decide)
    (he : starEach (a :: es) X.env = (false, eval a X.env) :: starEach es X.env := by rfl) (hpl : (backTo pos (starEach es X.env)).any (·.1) = false := by rfl) :
    PE X (.Call (.Name x p) (a :: es) [] pos) (lift P m (ev Φ (.call F ES))) := by
  obtain ⟨k, fA, fd, ps, ok, hr, hm, hk, hb⟩ := fn.ex
  refine PE.imp (pe_callH ok hr hh hg hm hk hb (fun σ => passAt C.tk σ) ha hdb he hpl) fun σ H Q ⟨e, R, p⟩ => ⟨e, R, ?_⟩
  simp only [ev] at p
  refine Posts.weaken (bindZs (m := cm m) (gdPost (m := m)) R p) fun vs H1 ⟨xs, hx, s1, R1, d1, p1⟩ => ?_
  refine ⟨av1 P e σ m, xs, fun a z => ?_, by rw [C.hK]; exact d1.dens, ?_⟩
  · match m with
    | 0 => exact R1.av_ne (.inl z)
    | _ + 1 => exact R1.av_ne z
  · cases q : Φ F xs with
    | ok d => rw [q] at p1; exact fun v H' s hd => p1 v H' s (DenM.up (by rw [C.hK] at hd; exact hd))
    | ex c => rw [q] at p1; exact p1
    | stuck => rw [q] at p1; exact p1.elim
end
section
variable {X : Cx} {P : Pk} {N : List Str} {sc : Scope} {m : Nat} {Φ : FT} {A B E : Exp} {ES IFS : List Exp} {a b c tg l : Expr} {es : List Expr} {pos : Pos} {q : Addr × Obj} {wi wj : TI}
theorem PIH.imp (h : PIH X tg l wi) (k : ∀ σ H R, wj σ H R → wi σ H R) : PIH X tg l wj := ⟨fun pins s σ H R I z => h.run pins s σ H R I (k σ H R z)⟩
theorem si_tupH (C : Ct0 X P N sc) (ha : PE X a (lift P 2 (ev Φ A))) : PIH X tg a (liftI P (srcs Φ .tup [A])) := by
  refine PIH.imp (piH_tup ha) fun σ H Q ⟨e, R, p⟩ => ⟨e, R, ?_⟩
  unfold srcs at p
  cases q : ev Φ A e with
  | ok d =>
    simp only [evs, q, Res.bind_ok] at p
    intro v H1 s hd
    cases d with
    | tuple ds =>
      obtain ⟨l, us, rfl, h1, h3⟩ := d2_tup hd
      exact ⟨l, rfl, ⟨us, by rw [C.hK]; exact h1⟩, by rw [C.hK]; exact p _ H1 s (it_tup ow_av (R.same s).kinds h1 h3)⟩
    | _ => exact p.elim
  | ex c => simp only [evs, q, Res.bind_ex] at p; exact p
  | stuck => simp only [evs, q, Res.bind_stuck] at p; exact p.elim
theorem Ct0.blkH (C : Ct0 X P N sc) {scope : Scope} (av : Addr → Prop) (h0 : Hp) (hav : ∀ a, av a → h0 a ≠ none) (s : Shared) (H : Hp) (Cl : Addr) (cl : List (Str × Addr)) (fp : List Addr) : Ct0 (pin1 (X.blk s H scope (compEnvC scope cl Cl X.env) fp) q) (P.blk av h0 hav) N (relS scope sc) :=
  ⟨C.hK, C.hN, C.nd, by rw [← C.hs]; rfl, C.un, takes0N, PassesOwn.never⟩
theorem se_compH (C : Ct0 X P N sc) (hot : Hot1 X.A q) (hq : q ∈ X.pn) {scope : Scope} {own : List (Str × Nat)} {t : Tgt} {k : SrcK} {ifs : List Expr} {iter : Expr} (hi : PIH X tg iter (liftI P (srcs Φ k ES))) (hown : own.map (·.2) = t.ix) (ok : BlkOk N sc scope own)
    (hg : ∀ (s : Shared) (H : Hp) (Cl : Addr) (cl : List (Str × Addr)) (fp : List Addr) (Pb : Pk), Ct0 (pin1 (X.blk s H scope (compEnvC scope cl Cl X.env) fp) q) Pb N (relS scope sc) → PG (pin1 (X.blk s H scope (compEnvC scope cl Cl X.env) fp) q) tg (liftG P.K t))
    (ht : ∀ (s : Shared) (H : Hp) (Cl : Addr) (cl : List (Str × Addr)) (fp : List Addr) (av : Addr → Prop) (h0 : Hp) (hav : ∀ a, av a → h0 a ≠ none), Ct0 (pin1 (X.blk s H scope (compEnvC scope cl Cl X.env) fp) q) (P.blk av h0 hav) N (relS scope sc) → PTs (pin1 (X.blk s H scope (compEnvC scope cl Cl X.env) fp) q) ifs (liftTs (P.blk av h0 hav) (evt Φ IFS)))
    (he : ∀ (s : Shared) (H : Hp) (Cl : Addr) (cl : List (Str × Addr)) (fp : List Addr) (av : Addr → Prop) (h0 : Hp) (hav : ∀ a, av a → h0 a ≠ none), Ct0 (pin1 (X.blk s H scope (compEnvC scope cl Cl X.env) fp) q) (P.blk av h0 hav) N (relS scope sc) → PE (pin1 (X.blk s H scope (compEnvC scope cl Cl X.env) fp) q) a (lift (P.blk av h0 hav) 2 (ev Φ E)))
    (hs : ∀ x, foldedSetIterable iter X.env x = pure x := by intro _; rfl) :
    PE X (.ListComp a [⟨tg, iter, ifs, 0⟩] scope pos) (liftN P 2 (ev Φ (.comp E t k ES IFS))) :=
  PE.imp (lcH hot hq (by rw [C.hN]; exact C.nd) hi (by rw [C.hN, C.hs]; exact ok)
    (fun s H Cl cl fp => hg s H Cl cl fp (P.blk (fun _ => False) (fun _ => none) (fun _ z => z.elim)) (C.blkH _ _ _ s H Cl cl fp))
    (fun s H Cl cl fp => PTs.ofAll fun i => ht s H Cl cl fp i.1 i.2.1 i.2.2 (C.blkH _ _ _ s H Cl cl fp))
    (fun s H Cl cl fp => PE.ofAll fun i => he s H Cl cl fp i.1 i.2.1 i.2.2 (C.blkH _ _ _ s H Cl cl fp)) hs) fun σ H Q h => tLc_of hown h
end
/-! sum and max, while an exception is handled -/
/-- a built-in's table, at one argument alone -/
def only1 (Bl : Blt) : List D → Option D := fun ds => if ds.length = 1 then bltD Bl ds else none
section
variable {X : Cx} {P : Pk} {N : List Str} {sc : Scope} {m : Nat} {Φ : FT} {A B E : Exp} {a b c : Expr} {pos : Pos} {q : Addr × Obj}
theorem tCB1_of {σ : L2.St} {H : Hp} {Q : VK} {Bl : Blt} (h : liftN P m (ev Φ (.blt Bl [A])) σ H Q) : tCB (RCl P.K (only1 Bl)) (lifts P (sub m) (evs Φ [A])) σ H Q := by
  obtain ⟨e, R, p⟩ := h
  refine ⟨e, R, ?_⟩
  simp only [ev] at p
  refine Posts.weaken (bindZs (m := sub m) (gdPostN (m := m)) R p) fun vs H1 ⟨xs, hx, s1, R1, d1, p1⟩ => ?_
  cases q : bltD Bl xs with
  | none => rw [q] at p1; exact p1.elim
  | some d =>
    rw [q] at p1
    have da := d1.dena
    rw [av1_sub] at da
    refine ⟨_, xs, d, da, ?_, fun z H' s hz => p1 z H' s hz⟩
    show (if xs.length = 1 then bltD Bl xs else none) = _
    rw [if_pos (by rw [evs_len hx]; rfl), q]
theorem se_bltB1 (C : Ct0 X P N sc) {x : Str} {p : Pos} {id : String} {Bl : Blt} (hc : CallR X (.builtin id) (RCl X.K (only1 Bl))) (hg : X.env.kindOf x = some .globalImplicit) (hm : X.mg x = none) (hv : bootBuiltins x = some (.builtin id))
    (ha : PA X [a] (lifts P (sub m) (evs Φ [A]))) (hn : x ≠ ("__name__" : Str) := by decide) (hdb : (x == ("__debug__" : Str)) = false := by decide)
    (he : starEach [a] X.env = (false, eval a X.env) :: starEach [] X.env := by rfl) (hpl : (backTo pos (starEach [] X.env)).any (·.1) = false := by rfl) :
    PE X (.Call (.Name x p) [a] [] pos) (liftN P m (ev Φ (.blt Bl [A]))) := by
  rw [C.hK] at hc
  exact PE.imp (pe_callB hc hg hm hv ha hn hdb he hpl) fun σ H Q h => tCB1_of h
theorem only1_some {Bl : Blt} {ds : List D} {d : D} (h : only1 Bl ds = some d) : ∃ x, ds = [x] ∧ bltD Bl [x] = some d := by
  match ds, h with
  | [], h => exact nomatch (show (none : Option D) = some d from h)
  | [x], h => exact ⟨x, rfl, h⟩
  | _ :: _ :: _, h =>
    unfold only1 at h
    rw [if_neg (by simp)] at h
    cases h
theorem cl_sumH (hot : Hot1 X.A q) (hq : q ∈ X.pn) : CallR X (.builtin "sum") (RCl X.K (only1 .sum)) := by
  intro pins s σ H vs us Q I r h
  obtain ⟨a1, ds, d, hd, hf, k⟩ := h
  obtain ⟨x, rfl, hf⟩ := only1_some hf
  match x, hf with
  | .list xs, hf =>
    obtain ⟨l, h1, rfl⟩ := Option.map_eq_some_iff.mp hf
    obtain ⟨v, a0, rfl, hv⟩ := denA1 hd
    obtain ⟨a, us', rfl, ra, da⟩ := d2_lst hv
    obtain ⟨rfl, _⟩ := allInts_of da h1
    exact cr_sumH hot hq pins s σ H _ _ Q I r ⟨a, l, rfl, ra, k _ _ (Same.refl H) fr_int⟩
theorem cl_maxH (hot : Hot1 X.A q) (hq : q ∈ X.pn) : CallR X (.builtin "max") (RCl X.K (only1 .max)) := by
  intro pins s σ H vs us Q I r h
  obtain ⟨a1, ds, d, hd, hf, k⟩ := h
  obtain ⟨x, rfl, hf⟩ := only1_some hf
  match x, hf with
  | .list xs, hf =>
    have hf : bltD .max [.list xs] = some d := hf
    simp only [bltD] at hf
    split at hf
    · cases hf
    · rename_i hne
      obtain ⟨l, h1, rfl⟩ := Option.map_eq_some_iff.mp hf
      obtain ⟨v, a0, rfl, hv⟩ := denA1 hd
      obtain ⟨a, us', rfl, ra, da⟩ := d2_lst hv
      obtain ⟨rfl, e2⟩ := allInts_of da h1
      have hl := ints_ne e2 hne
      obtain ⟨m1, m2⟩ := maxI_mem hl
      refine cr_maxH hot hq pins s σ H _ _ Q I r ⟨a, l, rfl, ra, List.length_pos_iff.mpr hl, fun m k1 k2 => ?_⟩
      have e : m = maxI l := Int.le_antisymm (m2 m k1) (k2 _ m1)
      rw [e]; exact k _ _ (Same.refl H) fr_int
end
/-! a def's promise, while an exception is handled -/
section
variable {pr : Program} {w : World} {K : PySem.W.Frag} {mg : Str → Option Value} {base : Heap} {ca : Nat → Addr}
structure GoodH (pr : Program) (w : World) (K : PySem.W.Frag) (mg : Str → Option Value) (base : Heap) (ca : Nat → Addr) (T : List Fdef) (F : Nat) (x : Str) (i n : Nat) : Prop where
  ex : ∃ f fd ps, FnH pr w K mg base (L2N.CX pr w) n f fd ps (spP K ca (phi T F n) i) ∧ mg x = some (.ref f) ∧ PySem.W.keepIn K (.ref f) = true ∧ Binds K fd ps []
theorem GoodH.fn {T : List Fdef} {F : Nat} {x : Str} {i n : Nat} {A : Around} (g : GoodH pr w K mg base ca T F x i n) (hr : RoomH n A) : Fn1H pr w K mg base A ca (phi T F n) x i := by
  obtain ⟨f, fd, ps, ok, h1, h2, h3⟩ := g.ex
  exact ⟨n, f, fd, ps, ok, hr, h1, h2, h3⟩
theorem goodH_zero {T : List Fdef} {F : Nat} {x q : Str} {i : Nat} {st : Stmt} {ps : List Str} (t : Txt K mg x q st ps) : GoodH pr w K mg base ca T F x i 0 := by
  obtain ⟨f, fd, fn, h1, h2⟩ := t.ex
  refine ⟨f, fd, ps, ⟨fun vs H Q E h => ?_, fun A outer s H args us vs Q E p hr hot hp he hb hv h => ?_⟩, h1, fn.kp, h2⟩ <;> (obtain ⟨av, ds, _, _, h⟩ := h; exact h.elim)
@[reducible] def cxGH (pr : Program) (w : World) (K : PySem.W.Frag) (mg : Str → Option Value) (base : Heap) (N : List Str) (x : Str) (st : Stmt) (A : Around) (s0 : Shared) (H0 : Hp) (a f : Addr) (cdv : Value) (outer : List Env) (xe : Value → Shared → Prop) (q : Addr × Obj) : Cx :=
  { prog := pr, w := w, K := K, mg := mg, base := base, A := A, N := N, s_0 := s0, H_0 := H0, env := envOfC x (defScope st) a f cdv, outer := outer, stack := envOfC x (defScope st) a f cdv :: outer, ex := [], calm := false, fn := fun _ => true, pn := [q], xe := xe }
/-- a body's walk -/
def WalkH (pr : Program) (w : World) (K : PySem.W.Frag) (mg : Str → Option Value) (base : Heap) (ca : Nat → Addr) (N : List Str) (x : Str) (st : Stmt) (n : Nat) (f : Sl → Out) : Prop :=
  ∀ (A : Around) (s0 : Shared) (H0 : Hp) (a fA : Addr) (cdv : Value) (outer : List Env) (xe : Value → Shared → Prop) (h0 : Hp) (av : Addr → Prop) (avok : ∀ a, av a → h0 a ≠ none) (W : WX) (q : Addr × Obj), RoomH n A → Hot1 A q →
    Ct0 (cxGH pr w K mg base N x st A s0 H0 a fA cdv outer xe q) ⟨K, h0, av, avok, W, ca⟩ N (defScope st) → PSs (cxGH pr w K mg base N x st A s0 H0 a fA cdv outer xe q) (defBody st) (liftS ⟨K, h0, av, avok, W, ca⟩ f)
theorem goodH_succ {T : List Fdef} {F : Nat} {x q : Str} {i n : Nat} {st : Stmt} {N ps : List Str} {fn : Fdef} (t : Txt K mg x q st ps) (S : FnScope N ps (defScope st)) (hT : T[i]? = some fn) (hnp : fn.np = ps.length) (hns : fn.ns = N.length) (hle : ps.length ≤ N.length)
    (hb : WalkH pr w K mg base ca N q st n (execs (phi T F n) F fn.body)) :
    GoodH pr w K mg base ca T F x i (n + 1) := by
  obtain ⟨f, fd, F0, h1, h2⟩ := t.ex
  refine ⟨f, fd, ps, ?_, h1, F0.kp, h2⟩
  obtain ⟨oc, od, kV, doc, pm, an, cdv, ct, osl, rfl, lk, hcd⟩ := F0.ex
  refine fn_ofH lk hcd S (fun vs H Q E h => ?_) fun A outer s H vs Q E p hot hr h => ?_
  · obtain ⟨av, ds, _, hd, h⟩ := h
    simp only [phi, hT] at h
    unfold Fdef.run at h
    by_cases hl : ds.length = fn.np
    · rw [hd.length, hl, hnp]
    · rw [if_neg hl] at h; exact h.elim
  · obtain ⟨av, ds, hav, hd, h⟩ := h
    simp only [phi, hT] at h
    refine ⟨_, hb (A.deeper (envOfC q (defScope st) s.heap.objs.size f cdv)) s H _ f cdv outer _ H av hav (fun cls d _ H => E cls d H) p hr hot ⟨rfl, rfl, S.nd, rfl, ?_, takes_of rfl rfl rfl rfl, passes_of rfl⟩, entry hd hns (by rw [hnp]; exact hle) rfl h⟩
    have := hr.un
    show (A.deeper (envOfC q (defScope st) s.heap.objs.size f cdv)).units + 190 < cLine
    omega
end
end
end Rf

set_option Elab.async false
set_option linter.all false
set_option maxRecDepth 100000
set_option maxHeartbeats 1000000
/-! Rf over L2N, part Y: an except clause's context. -/
namespace Rf
noncomputable section
open PySem PySem.Spec PyProof.Rows L2N
open L2 hiding CX HdsOk MkP PMk St Takes XE mk_of passAt passes_call pmk_own ps_raise ps_try_as ps_try_many takes_of
open L2H HotX
section
variable {X : Cx} {P : Pk} {N : List Str} {sc : Scope} {a : Addr} {oe : Obj} {cls : Value} {d : Option Addr} {pn : List (Addr × Obj)}
theorem hot_suite (hz : Zn cls d oe) (hf : ∃ vs, oe.data = .fields vs) : Hot1 (X.suite a ((a, oe) :: pn)).A (a, oe) := by
  obtain ⟨vs, e⟩ := hf
  exact ⟨rfl, vs, e, hz.2.2 vs e⟩
theorem hotC_suite (hz : Zn cls d oe) (hf : ∃ vs, oe.data = .fields vs) : HotC (X.suite a ((a, oe) :: pn)) := ⟨(a, oe), hot_suite hz hf, List.mem_cons_self ..⟩
end
end
end Rf

set_option Elab.async false
set_option linter.all false
set_option maxRecDepth 100000
set_option maxHeartbeats 1000000
/-! Rf over L2N, part Z: a try whose clauses return expressions with calls. -/
namespace Rf
noncomputable section
open PySem PySem.Spec PyProof.Rows L2N
open L2 hiding CX HdsOk MkP PMk St Takes XE mk_of passAt passes_call pmk_own ps_raise ps_try_as ps_try_many takes_of
open L2H HotX
section
variable {X : Cx} {P : Pk} {N : List Str} {sc : Scope} {Φ : FT} {F : Nat} {A B : Exp} {a b : Expr} {pos : Pos} {i m : Nat} {w : Addr} {oe : Obj} {pn : List (Addr × Obj)} {f : Sl → Res D}
/-- nothing is raised in a clause -/
@[reducible] def Pk.q (P : Pk) : Pk := { P with W := fun _ _ _ _ => False }
/-- a clause's context -/
theorem Ctx.inClause (C : Ctx X P N sc) : Ct0 (X.suite w pn) P.q N sc := ⟨C.hK, C.hN, C.nd, C.hs, C.un, takes0N, PassesOwn.never⟩
/-- a reading in a clause: the error stands in slot i -/
def lW (i : Nat) (w : Addr) (t : L2.TE) : L2.TE := fun σ H Q => σ[i]? = some (some (.ref w)) ∧ t σ H Q
theorem xw_of {t : L2.TE} (h : PE X a t) : PE X a (lW i w t) := PE.imp h fun _ _ _ z => z.2
theorem xw_k {k : Bool} (h : PE X a (tK i w (.bl k))) : PE X a (lW i w (lift P m (ev Φ (.con (.bool k))))) := PE.imp h fun σ H Q ⟨h1, e, R, p⟩ => ⟨h1, fun H' s => by
  simp only [ev] at p
  exact p _ H' s bl_m⟩
theorem xw_not (ha : PE X a (lW i w (lift P 0 (ev Φ A)))) : PE X (.UnaryOp .Not a pos) (lW i w (lift P m (ev Φ (.not A)))) := by
  refine PE.imp (pe_not ha) fun σ H Q ⟨h1, e, R, p⟩ => ⟨h1, e, R, ?_⟩
  simp only [ev] at p
  refine Post.weaken (bindB (m := 0) (gdPost (m := m)) R (fun d hd => ?_) p) fun v H1 ⟨k, hv, s, R1, z⟩ => ⟨k, hv, ?_⟩
  · cases d with
    | bool k => exact absurd rfl (hd k)
    | _ => rfl
  · exact z _ H1 (Same.refl _) bl_m
theorem xw_one {op : BoolOp} {t : L2.TE} (ha : PE X a (lW i w t)) : PE X (.BoolOp op [a] pos) (lW i w t) := pe_one ha
theorem xw_and {rest : List Expr} (ha : PE X a (lW i w (lift P 0 (ev Φ A)))) (hb : PE X (.BoolOp .And (b :: rest) pos) (lW i w (lift P m (ev Φ B)))) : PE X (.BoolOp .And (a :: b :: rest) pos) (lW i w (lift P m (ev Φ (.and A B)))) := by
  refine PE.imp (pe_and ha hb) fun σ H Q ⟨h1, e, R, p⟩ => ⟨h1, e, R, ?_⟩
  simp only [ev] at p
  refine Post.weaken (bindB (m := 0) (gdPost (m := m)) R (fun d hd => ?_) p) fun v H1 ⟨k, hv, s, R1, z⟩ => ⟨k, hv, ?_⟩
  · cases d with
    | bool k => exact absurd rfl (hd k)
    | _ => rfl
  · cases k with
    | true => exact ⟨h1, e, R1, z⟩
    | false => exact z _ H1 (Same.refl _) bl_m
/-- a clause that only returns, with its name -/
theorem xws_ret (h : PE X a (lW i w (lift P.q 0 (ev Φ A)))) : PSs X [.Return (some a) pos] (tXL P i w (ev Φ A)) := PSs.imp (pss_one (ps_ret h)) fun D σ H ⟨h1, e, R, d, q, p⟩ => ⟨h1, e, R.wi, by
  rw [q]
  exact fun v H' s dv => p v H' (R.fr.trans s) dv.weak⟩
/-- and without -/
def tXB (P : Pk) (f : Sl → Res D) : L2.TS := fun D σ H => ∃ e, Rel P e σ H ∧ ∃ d, f e = .ok d ∧ ∀ v H', Same P.H0 H' → Den P.K P.Av H' v d → D.rt v H'
theorem xbs_ret (h : PE X a (lift P.q 0 (ev Φ A))) : PSs X [.Return (some a) pos] (tXB P (ev Φ A)) := PSs.imp (pss_one (ps_ret h)) fun D σ H ⟨e, R, d, q, p⟩ => ⟨e, R.wi, by
  rw [q]
  exact fun v H' s dv => p v H' (R.fr.trans s) dv.weak⟩
theorem Rel.drop {e : Sl} {σ : L2.St} {H : Hp} (R : Rel P e σ H) (i : Nat) : Rel P (e.set i .un) σ H := by
  by_cases hl : i < σ.length
  · have z : σ.set i σ[i] = σ := by simp
    have R2 : Rel P (e.set i .un) (σ.set i σ[i]) H := R.set (o := σ[i]) rfl trivial
    rwa [z] at R2
  · rw [List.set_eq_of_length_le (by rw [← R.len]; omega)]
    exact R
/-- the clauses of a try: r what the classes are answered by, ok those that pass -/
inductive RCs (X : Cx) (P : Pk) (Φ : FT) (i : Nat) (n : Str) (ok : List Nat) : List ExceptHandler → List (Nat × Exp) → List Clause → Prop
  | nil : RCs X P Φ i n ok [] [] []
  | named {x : Str} {A : Addr} {b0 : Stmt} {su : List Stmt} {p p' : Pos} {hs : List ExceptHandler} {r r2 : List (Nat × Exp)} {l : List Clause} (hg : X.env.kindOf x = some .globalImplicit) (hd : (x == ("__debug__" : Str)) = false) (hm : X.mg x = some (.ref A))
      (hy : ∀ p ∈ r, PySem.W.exmOne P.K (.ref (P.ca p.1)) (.ref A) = some true ∧ ∀ (w : Addr) (oe : Obj) (pn : List (Addr × Obj)), Zn (.ref (P.ca p.1)) none oe → (∃ vs, oe.data = .fields vs) → PSs (X.suite w ((w, oe) :: pn)) (b0 :: su) (tXL P i w (ev Φ p.2)))
      (hn : ∀ c ∈ r2.map (·.1) ++ ok, PySem.W.exmOne P.K (.ref (P.ca c)) (.ref A) = some false) (rest : RCs X P Φ i n ok hs r2 l) :
      RCs X P Φ i n ok (.ExceptHandler (some (.Name x p)) (some n) (b0 :: su) p' :: hs) (r ++ r2) ((.ref A, true, fun a cls d D σ H => ∃ c E, (c, E) ∈ r ∧ cls = .ref (P.ca c) ∧ d = none ∧ tXL P i a (ev Φ E) D σ H) :: l)
  | bare {x : Str} {A : Addr} {b0 : Stmt} {su : List Stmt} {p p' : Pos} {hs : List ExceptHandler} {r r2 : List (Nat × Exp)} {l : List Clause} (hg : X.env.kindOf x = some .globalImplicit) (hd : (x == ("__debug__" : Str)) = false) (hm : X.mg x = some (.ref A))
      (hy : ∀ p ∈ r, PySem.W.exmOne P.K (.ref (P.ca p.1)) (.ref A) = some true ∧ ∀ (w : Addr) (oe : Obj) (pn : List (Addr × Obj)), Zn (.ref (P.ca p.1)) none oe → (∃ vs, oe.data = .fields vs) → PSs (X.suite w ((w, oe) :: pn)) (b0 :: su) (tXB P (ev Φ p.2)))
      (hn : ∀ c ∈ r2.map (·.1) ++ ok, PySem.W.exmOne P.K (.ref (P.ca c)) (.ref A) = some false) (rest : RCs X P Φ i n ok hs r2 l) :
      RCs X P Φ i n ok (.ExceptHandler (some (.Name x p)) none (b0 :: su) p' :: hs) (r ++ r2) ((.ref A, false, fun a cls d D σ H => ∃ c E, (c, E) ∈ r ∧ cls = .ref (P.ca c) ∧ d = none ∧ tXB P (ev Φ E) D σ H) :: l)
theorem RCs.cls {n : Str} {ok : List Nat} {hs : List ExceptHandler} {r : List (Nat × Exp)} {l : List Clause} (h : RCs X P Φ i n ok hs r l) : Cls X n hs l := by
  induction h with
  | nil => exact .nil
  | named hg hd hm hy hn rest ih =>
    refine .named ⟨hg, hd, .inl hm⟩ (fun a oe cls d pn hz hf => ⟨fun pins s σ H D I h => ?_⟩) ih
    obtain ⟨c, E, m, rfl, rfl, h⟩ := h
    exact ((hy _ m).2 a oe pn hz hf).run pins s σ H D I h
  | bare hg hd hm hy hn rest ih =>
    refine .bare ⟨hg, hd, .inl hm⟩ (fun a oe cls d pn hz hf => ⟨fun pins s σ H D I h => ?_⟩) ih
    obtain ⟨c, E, m, rfl, rfl, h⟩ := h
    exact ((hy _ m).2 a oe pn hz hf).run pins s σ H D I h
theorem lkE_app {r r2 : List (Nat × Exp)} {c : Nat} {E : Exp} (h : (r ++ r2).lookup c = some E) : (c, E) ∈ r ∨ (r2.lookup c = some E) := by
  rw [List.lookup_append] at h
  cases q : r.lookup c with
  | none => rw [q] at h; exact .inr h
  | some z => rw [q] at h; cases h; exact .inl (mem_lkE q)
theorem lkE_none {r r2 : List (Nat × Exp)} {c : Nat} (h : (r ++ r2).lookup c = none) : r2.lookup c = none := by
  rw [List.lookup_append] at h
  cases q : r.lookup c with
  | none => rw [q] at h; exact h
  | some z => rw [q] at h; cases h
/-- a class that a clause answers -/
theorem RCs.yes {n : Str} {ok : List Nat} {hs : List ExceptHandler} {r : List (Nat × Exp)} {l : List Clause} (h : RCs X P Φ i n ok hs r l) (hK : X.K = P.K) {e : Sl} {σ : L2.St} {H : Hp} {D : Ends} {Wo : WX} (R : Rel P e σ H) (hl : i < e.length) {c : Nat} {E : Exp} {x : Rf.D}
    (hc : r.lookup c = some E) (hx : ev Φ E (e.set i .un) = .ok x) (q : ∀ v H', Same P.H0 H' → Den P.K P.Av H' v x → D.rt v H') : wCl X.K i Wo D l (.ref (P.ca c)) none σ H := by
  induction h with
  | nil => cases hc
  | named hg hd hm hy hn rest ih =>
    rcases lkE_app hc with m | m
    · refine ⟨true, by rw [hK]; exact (hy _ m).1, fun _ a na => ⟨c, E, m, rfl, rfl, ?_, e.set i .un, R.set rfl trivial, x, hx, q⟩, fun z => Bool.noConfusion z⟩
      rw [cond_true, List.getElem?_set_self]
      rw [R.len]
      exact hl
    · exact ⟨false, by rw [hK]; exact hn c (List.mem_append_left _ (List.mem_map.mpr ⟨_, mem_lkE m, rfl⟩)), fun z => Bool.noConfusion z, fun _ => ih m⟩
  | bare hg hd hm hy hn rest ih =>
    rcases lkE_app hc with m | m
    · exact ⟨true, by rw [hK]; exact (hy _ m).1, fun _ a na => ⟨c, E, m, rfl, rfl, e.set i .un, R.drop i, x, hx, q⟩, fun z => Bool.noConfusion z⟩
    · exact ⟨false, by rw [hK]; exact hn c (List.mem_append_left _ (List.mem_map.mpr ⟨_, mem_lkE m, rfl⟩)), fun z => Bool.noConfusion z, fun _ => ih m⟩
theorem RCs.no {n : Str} {ok : List Nat} {hs : List ExceptHandler} {r : List (Nat × Exp)} {l : List Clause} (h : RCs X P Φ i n ok hs r l) (hK : X.K = P.K) {σ : L2.St} {H : Hp} {D : Ends} {Wo : WX} {c : Nat} (hc : r.lookup c = none) (ho : c ∈ ok) (q : Wo (.ref (P.ca c)) none σ H) : wCl X.K i Wo D l (.ref (P.ca c)) none σ H := by
  induction h with
  | nil => exact q
  | named hg hd hm hy hn rest ih => exact ⟨false, by rw [hK]; exact hn c (List.mem_append_right _ ho), fun z => Bool.noConfusion z, fun _ => ih (lkE_none hc)⟩
  | bare hg hd hm hy hn rest ih => exact ⟨false, by rw [hK]; exact hn c (List.mem_append_right _ ho), fun z => Bool.noConfusion z, fun _ => ih (lkE_none hc)⟩
theorem ss_trh (C : Ctx X P N sc) {n : Str} {body : List Stmt} {h0 : ExceptHandler} {hds : List ExceptHandler} {B : List Stm} {ok : List Nat} {r : List (Nat × Exp)} {l : List Clause} (hs : X.stack = X.env :: X.outer) (hf : X.env.frame = some X.env.locals)
    (hi : N[i]? = some n) (hln : X.env.kindOf n = some .local) (hc : RCs X P Φ i n ok (h0 :: hds) r l)
    (hb : ∀ (W : WX) (pn : List (Addr × Obj)) (xe : Value → Shared → Prop), Ctx (X.tr pn xe) (P.wi W) N sc → PSs (X.tr pn xe) body (liftS (P.wi W) (execs Φ F B))) :
    PS X (.Try body (h0 :: hds) [] [] pos) (liftS P (exec Φ F (.trx i B ok r))) := by
  refine PS.imp (ps_clauses (i := i) (Wo := P.W) (tb := fun W => liftS (P.wi W) (execs Φ F B)) hs hf (by rw [C.hN]; exact C.nd) (by rw [C.hN]; exact hi) hln C.tk (fun W pn xe tk po => hb W pn xe ⟨C.hK, C.hN, C.nd, C.hs, C.calm, C.un, tk, po⟩) hc.cls) fun D σ H ⟨e, R, p⟩ => ⟨e, R.wi, ?_⟩
  simp only [exec] at p
  cases q : execs Φ F B e with
  | nx e' => rw [q] at p; exact fun σ' H' R' => p σ' H' R'.iw
  | ret x => rw [q] at p; exact p
  | bk e' => rw [q] at p; exact fun σ' H' R' => p σ' H' R'.iw
  | ct e' => rw [q] at p; exact fun σ' H' R' => p σ' H' R'.iw
  | stuck => rw [q] at p; exact p
  | ex c e' =>
    rw [q] at p
    intro σ' H' R'
    cases ql : r.lookup c with
    | some E =>
      simp only [ql] at p
      split at p
      · rename_i hlt
        cases qe : ev Φ E (e'.set i .un) with
        | ok x =>
          rw [qe] at p
          exact hc.yes C.hK R'.iw hlt ql qe p
        | ex _ => rw [qe] at p; exact p.elim
        | stuck => rw [qe] at p; exact p.elim
      · exact p.elim
    | none =>
      simp only [ql] at p
      by_cases ho : ok.contains c = true
      · rw [if_pos ho] at p
        exact hc.no C.hK ql (by simpa using ho) (p σ' H' R'.iw)
      · rw [if_neg ho] at p; exact p.elim
end
end
end Rf

set_option maxRecDepth 100000
set_option maxHeartbeats 2000000
namespace My
open PySem PySem.Spec PyProof.Rows L2 L2H HotX Rf
/-! ### the text of the law -/
def topS (i : Nat) : Stmt := PySem.Challenge.pw_sandreckoner_k04_shifts.main.body.getD i (.Pass ⟨0, 0, 0, 0⟩)
abbrev s0 : Stmt := topS 8
abbrev N0 : List Str := ["number", "_", "exponent"]
abbrev p0 : List Str := ["number"]
def x0_1 : Exp := (.call 0 [(.var 2)])
/-- size_of -/
def b0 : List Stm := [(.ret (.bin .add (.con (.int 1)) (.blt .sum [(.comp x0_1 (.tp [(.nm 1), (.nm 2)]) .tup [(.var 0)] [])])))]
abbrev s1 : Stmt := topS 9
abbrev N1 : List Str := ["number", "_", "exponent"]
abbrev p1 : List Str := ["number"]
def x1_1 : Exp := (.call 1 [(.var 2)])
/-- height_of -/
def b1 : List Stm := [(.ifs (.cmp .eq (.blt .len [(.var 0)]) (.con (.int 0))) [(.ret (.con (.int 0)))] []), (.ret (.bin .add (.con (.int 1)) (.blt .max [(.comp x1_1 (.tp [(.nm 1), (.nm 2)]) .tup [(.var 0)] [])])))]
abbrev s2 : Stmt := topS 10
abbrev N2 : List Str := ["first", "second", "sign", "exponent", "other_sign", "other", "order"]
abbrev p2 : List Str := ["first", "second"]
def b2_1 : List Stm := [(.ifs (.cmp .ne (.var 2) (.var 4)) [(.ret (.var 2))] []), (.asg (.nm 6) (.call 2 [(.var 3), (.var 5)])), (.ifs (.cmp .ne (.var 6) (.con (.int 0))) [(.ret (.bin .mul (.var 6) (.var 2)))] [])]
/-- compare -/
def b2 : List Stm := [(.ifs (.cmp .eq (.var 0) (.var 1)) [(.ret (.con (.int 0)))] []), (.for (.tp [(.tp [(.nm 2), (.nm 3)]), (.tp [(.nm 4), (.nm 5)])]) .zip [(.var 0), (.var 1)] b2_1), (.ifs (.cmp .gt (.blt .len [(.var 0)]) (.blt .len [(.var 1)])) [(.ret (.idx (.idx (.var 0) (.blt .len [(.var 1)])) (.con (.int 0))))] []), (.ret (.neg (.idx (.idx (.var 1) (.blt .len [(.var 0)])) (.con (.int 0)))))]
abbrev s3 : Stmt := topS 11
abbrev N3 : List Str := ["number"]
abbrev p3 : List Str := ["number"]
/-- sign_of -/
def b3 : List Stm := [(.ifs (.cmp .eq (.blt .len [(.var 0)]) (.con (.int 0))) [(.ret (.con (.int 0)))] []), (.ret (.idx (.idx (.var 0) (.con (.int 0))) (.con (.int 0))))]
abbrev s4 : Stmt := topS 12
abbrev N4 : List Str := ["numbers", "found", "number", "low", "high", "middle"]
abbrev p4 : List Str := ["numbers"]
def b4_1 : List Stm := [(.asg (.nm 5) (.bin .fdiv (.bin .add (.var 3) (.var 4)) (.con (.int 2)))), (.ifs (.cmp .lt (.call 2 [(.idx (.vw 1) (.var 5)), (.var 2)]) (.con (.int 0))) [(.asg (.nm 3) (.bin .add (.var 5) (.con (.int 1))))] [(.asg (.nm 4) (.var 5))])]
def x4_2 : Exp := (.cmp .lt (.var 3) (.var 4))
def b4_3 : List Stm := [(.asg (.nm 3) (.con (.int 0))), (.asg (.nm 4) (.blt .len [(.vw 1)])), (.whl x4_2 b4_1), (.ins 1 (.var 3) (.var 2))]
/-- in_order -/
def b4 : List Stm := [(.own 1 (.lst [])), (.for (.nm 2) .lst [(.var 0)] b4_3), (.ret (.vw 1))]
abbrev s5 : Stmt := topS 13
abbrev N5 : List Str := ["pairs", "counts", "count", "exponent", "waiting", "terms", "sign"]
abbrev p5 : List Str := ["pairs"]
def b5_1 : List Stm := [(.nset 1 (.var 3) (.bin .add (.ngetd 1 (.var 3) (.con (.int 0))) (.var 2)))]
def b5_2 : List Stm := [(.ifs (.and (.cmp .gt (.blt .len [(.vw 4)]) (.con (.int 0))) (.or (.cmp .eq (.var 2) (.con (.int 0))) (.cmp .eq (.idx (.vw 4) (.neg (.con (.int 1)))) (.var 3)))) [(.popto 3 4), (.aug 2 .add (.nget 1 (.var 3)))] []), (.ifs (.cmp .eq (.bin .mod (.var 2) (.con (.int 2))) (.con (.int 1))) [(.asg (.nm 6) (.calln 6 [(.var 2), (.var 3)] 1 [(.vw 4)])), (.app 5 (.tup [(.var 6), (.var 3)])), (.aug 2 .sub (.var 6))] []), (.ifs (.cmp .ne (.var 2) (.con (.int 0))) [(.aug 2 .fdiv (.con (.int 2))), (.asg (.nm 3) (.call 7 [(.var 3)]))] [])]
def x5_3 : Exp := (.or (.cmp .gt (.blt .len [(.vw 4)]) (.con (.int 0))) (.cmp .ne (.var 2) (.con (.int 0))))
/-- gathered -/
def b5 : List Stm := [(.nowe 1), (.for (.tp [(.nm 2), (.nm 3)]) .lst [(.var 0)] b5_1), (.own 4 (.rev (.call 4 [(.nkeys 1)]))), (.own 5 (.lst [])), (.asg (.nm 2) (.con (.int 0))), (.asg (.nm 3) (.tup [])), (.whl x5_3 b5_2), (.ret (.blt .tuple [(.rev (.vw 5))]))]
abbrev s6 : Stmt := topS 14
abbrev N6 : List Str := ["count", "exponent", "counts", "waiting"]
abbrev p6 : List Str := ["count", "exponent", "counts", "waiting"]
def bw6 : List Stm := [(.ifs (.and (.cmp .gt (.blt .len [(.var 3)]) (.con (.int 0))) (.cmp .eq (.idx (.var 3) (.neg (.con (.int 1)))) (.call 7 [(.var 1)]))) [(.aug 0 .add (.bin .mul (.con (.int 2)) (.nget 2 (.idx (.var 3) (.neg (.con (.int 1)))))))] []), (.ifs (.cmp .eq (.bin .mod (.var 0) (.con (.int 4))) (.con (.int 1))) [(.ret (.con (.int 1)))] []), (.ret (.neg (.con (.int 1))))]
/-- sign_at -/
def b6 : List Stm := .objn 2 :: bw6
abbrev s7 : Stmt := topS 15
abbrev N7 : List Str := ["number"]
abbrev p7 : List Str := ["number"]
/-- next_of -/
def b7 : List Stm := [(.ret (.call 5 [(.bin .add (.blt .list [(.var 0)]) (.lst [(.tup [(.con (.int 1)), (.tup [])])]))]))]
abbrev s8 : Stmt := topS 16
abbrev N8 : List Str := ["number"]
abbrev p8 : List Str := ["number"]
/-- is_allowed -/
def b8 : List Stm := [(.ret (.and (.cmp .le (.call 0 [(.var 0)]) (.con (.int 300))) (.cmp .le (.call 1 [(.var 0)]) (.con (.int 40)))))]
abbrev s9 : Stmt := topS 17
abbrev N9 : List Str := ["number"]
abbrev p9 : List Str := ["number"]
/-- allowed -/
def b9 : List Stm := [(.ifs (.not (.call 8 [(.var 0)])) [(.rse 3)] []), (.ret (.var 0))]
abbrev s10 : Stmt := topS 19
abbrev N10 : List Str := ["first", "second"]
abbrev p10 : List Str := ["first", "second"]
/-- plus -/
def b10 : List Stm := [(.ret (.call 5 [(.bin .add (.blt .list [(.var 0)]) (.blt .list [(.var 1)]))]))]
abbrev s11 : Stmt := topS 21
abbrev N11 : List Str := ["number", "places", "terms", "sign", "exponent"]
abbrev p11 : List Str := ["number", "places"]
def x11_1 : Exp := (.tup [(.var 3), (.call 10 [(.var 4), (.var 1)])])
/-- shifted -/
def b11 : List Stm := [(.asg (.nm 2) (.comp x11_1 (.tp [(.nm 3), (.nm 4)]) .tup [(.var 0)] [])), (.ifs (.and (.cmp .gt (.blt .len [(.var 2)]) (.con (.int 0))) (.cmp .lt (.call 3 [(.idx (.idx (.var 2) (.neg (.con (.int 1)))) (.con (.int 1)))]) (.con (.int 0)))) [(.rse 2)] []), (.ret (.blt .tuple [(.var 2)]))]
abbrev s12 : Stmt := topS 22
abbrev N12 : List Str := ["number", "places"]
abbrev p12 : List Str := ["number", "places"]
/-- shift -/
def b12 : List Stm := [(.ret (.call 9 [(.call 11 [(.var 0), (.var 1)])]))]
abbrev s13 : Stmt := topS 24
abbrev N13 : List Str := ["_law_script", "_law_numbers", "_law_cell", "_law_rest", "_law_k", "_law_mixed"]
abbrev p13 : List Str := ["_law_script"]
def b13_1 : List Stm := [(.app 1 (.bin .mod (.blt .int [(.var 3)]) (.con (.int 1009)))), (.asg (.nm 3) (.bin .fdiv (.var 3) (.con (.int 1009)))), (.ifs (.cmp .eq (.var 3) (.con (.int 0))) [.brk] [])]
def b13_2 : List Stm := [(.asg (.nm 5) (.bin .mod (.blt .int [(.bin .add (.bin .add (.bin .mul (.var 5) (.con (.int 48271))) (.bin .mul (.con (.int 7)) (.var 4))) (.con (.int 11)))]) (.con (.int 2147483647)))), (.app 1 (.bin .mod (.bin .mod (.blt .int [(.bin .add (.bin .mul (.var 5) (.con (.int 69621))) (.var 4))]) (.con (.int 2147483629))) (.con (.int 1009))))]
def b13_3 : List Stm := [(.asg (.nm 3) (.blt .int [(.var 2)])), (.ifs (.cmp .ge (.var 3) (.bin .pow (.con (.int 10)) (.con (.int 18)))) [(.for (.nm 4) .rng [(.con (.int 60))] b13_1)] [(.asg (.nm 5) (.bin .mod (.blt .int [(.var 3)]) (.con (.int 2147483647)))), (.for (.nm 4) .rng [(.con (.int 10))] b13_2)])]
/-- stream -/
def b13 : List Stm := [(.own 1 (.lst [])), (.for (.nm 2) .lst [(.sl (.var 0) .nop (.con (.int 63)))] b13_3), (.ifs (.cmp .eq (.blt .len [(.vw 1)]) (.con (.int 0))) [(.app 1 (.con (.int 0)))] []), (.ret (.vw 1))]
abbrev s14 : Stmt := topS 25
abbrev N14 : List Str := ["_law_numbers", "_law_at", "_law_many"]
abbrev p14 : List Str := ["_law_numbers", "_law_at", "_law_many"]
/-- pick -/
def b14 : List Stm := [(.ret (.bin .mod (.blt .int [(.idx (.var 0) (.bin .mod (.var 1) (.blt .len [(.var 0)])))]) (.var 2)))]
abbrev s15 : Stmt := topS 26
abbrev N15 : List Str := ["_law_count", "_law_value", "_law_k"]
abbrev p15 : List Str := ["_law_count"]
def b15_1 : List Stm := [(.asg (.nm 1) (.bin .mul (.var 1) (.con (.int 2))))]
/-- two -/
def b15 : List Stm := [(.asg (.nm 1) (.con (.int 1))), (.for (.nm 2) .rng [(.var 0)] b15_1), (.ret (.var 1))]
abbrev s16 : Stmt := topS 27
abbrev N16 : List Str := ["_law_value", "_law_terms", "_law_place", "_law_rest", "_law_k", "_law_sign"]
abbrev p16 : List Str := ["_law_value"]
def b16_1 : List Stm := [(.ifs (.cmp .eq (.var 3) (.con (.int 0))) [.brk] []), (.ifs (.cmp .eq (.bin .mod (.blt .int [(.var 3)]) (.con (.int 2))) (.con (.int 1))) [(.asg (.nm 5) (.bin .sub (.con (.int 2)) (.bin .mod (.blt .int [(.var 3)]) (.con (.int 4))))), (.app 1 (.tup [(.var 5), (.call 16 [(.var 2)])])), (.asg (.nm 3) (.bin .sub (.var 3) (.var 5)))] []), (.asg (.nm 3) (.bin .fdiv (.var 3) (.con (.int 2)))), (.asg (.nm 2) (.bin .add (.var 2) (.con (.int 1))))]
def x16_2 : Exp := (.idx (.vw 1) (.bin .sub (.bin .sub (.blt .len [(.vw 1)]) (.con (.int 1))) (.var 4)))
/-- of -/
def b16 : List Stm := [(.own 1 (.lst [])), (.asg (.nm 2) (.con (.int 0))), (.asg (.nm 3) (.var 0)), (.for (.nm 4) .rng [(.con (.int 3100))] b16_1), (.ret (.blt .tuple [(.comp x16_2 (.nm 4) .rng [(.blt .len [(.vw 1)])] [])]))]
abbrev s17 : Stmt := topS 28
abbrev N17 : List Str := ["_law_number_here", "_law_term"]
abbrev p17 : List Str := ["_law_number_here"]
def x17_1 : Exp := (.call 17 [(.idx (.var 1) (.con (.int 1)))])
/-- size -/
def b17 : List Stm := [(.ret (.bin .add (.con (.int 1)) (.blt .sum [(.comp x17_1 (.nm 1) .tup [(.var 0)] [])])))]
abbrev s18 : Stmt := topS 29
abbrev N18 : List Str := ["_law_number_here", "_law_term"]
abbrev p18 : List Str := ["_law_number_here"]
def x18_1 : Exp := (.bin .add (.con (.int 1)) (.call 18 [(.idx (.var 1) (.con (.int 1)))]))
/-- height -/
def b18 : List Stm := [(.ret (.blt .max [(.bin .add (.lst [(.con (.int 0))]) (.comp x18_1 (.nm 1) .tup [(.var 0)] []))]))]
abbrev s19 : Stmt := topS 30
abbrev N19 : List Str := ["_law_number_here"]
abbrev p19 : List Str := ["_law_number_here"]
/-- fits -/
def b19 : List Stm := [(.ret (.and (.cmp .le (.call 17 [(.var 0)]) (.con (.int 300))) (.cmp .le (.call 18 [(.var 0)]) (.con (.int 40)))))]
abbrev s20 : Stmt := topS 31
abbrev N20 : List Str := ["_law_numbers", "_law_at", "_law_way", "_law_low", "_law_high"]
abbrev p20 : List Str := ["_law_numbers", "_law_at"]
/-- exponent -/
def b20 : List Stm := [(.asg (.nm 2) (.call 14 [(.var 0), (.var 1), (.con (.int 6))])), (.asg (.nm 3) (.call 14 [(.var 0), (.bin .add (.var 1) (.con (.int 1))), (.con (.int 41))])), (.ifs (.cmp .lt (.var 2) (.con (.int 3))) [(.ret (.var 3))] []), (.asg (.nm 4) (.call 15 [(.bin .add (.con (.int 6)) (.call 14 [(.var 0), (.bin .add (.var 1) (.con (.int 2))), (.con (.int 90))]))])), (.ifs (.cmp .eq (.var 2) (.con (.int 3))) [(.ret (.bin .add (.var 4) (.var 3)))] []), (.ifs (.cmp .eq (.var 2) (.con (.int 4))) [(.ret (.bin .sub (.var 4) (.var 3)))] []), (.ret (.bin .sub (.bin .add (.var 4) (.call 15 [(.call 14 [(.var 0), (.bin .add (.var 1) (.con (.int 3))), (.con (.int 30))])])) (.bin .mod (.var 3) (.con (.int 3)))))]
abbrev s21 : Stmt := topS 32
abbrev N21 : List Str := ["_law_numbers", "_law_at", "_law_many", "_law_counts", "_law_k", "_law_exponent_here"]
abbrev p21 : List Str := ["_law_numbers", "_law_at", "_law_many"]
def b21_1 : List Stm := [(.asg (.nm 5) (.blt .max [(.con (.int 0)), (.call 20 [(.var 0), (.bin .add (.var 1) (.bin .mul (.con (.int 5)) (.var 4)))])])), (.setd 3 (.var 5) (.bin .add (.dget (.vw 3) (.var 5) (.con (.int 0))) (.idx (.lst [(.con (.int 1)), (.neg (.con (.int 1))), (.con (.int 1)), (.con (.int 2)), (.neg (.con (.int 3)))]) (.call 14 [(.var 0), (.bin .add (.bin .add (.var 1) (.bin .mul (.con (.int 5)) (.var 4))) (.con (.int 4))), (.con (.int 5))]))))]
/-- model -/
def b21 : List Stm := [(.own 3 .emp), (.for (.nm 4) .rng [(.var 2)] b21_1), (.ret (.vw 3))]
abbrev s22 : Stmt := topS 33
abbrev N22 : List Str := ["_law_counts", "_law_waiting", "_law_rows_here", "_law_count", "_law_exponent_here", "_law_at", "_law_k", "_law_more", "_law_sign"]
abbrev p22 : List Str := ["_law_counts"]
def b22_1 : List Stm := [(.ifs (.and (.cmp .eq (.var 5) (.blt .len [(.var 1)])) (.cmp .eq (.var 3) (.con (.int 0)))) [.brk] []), (.ifs (.and (.cmp .lt (.var 5) (.blt .len [(.var 1)])) (.or (.cmp .eq (.var 3) (.con (.int 0))) (.cmp .eq (.idx (.var 1) (.var 5)) (.var 4)))) [(.asg (.nm 4) (.idx (.var 1) (.var 5))), (.asg (.nm 3) (.bin .add (.var 3) (.idx (.var 0) (.var 4)))), (.asg (.nm 5) (.bin .add (.var 5) (.con (.int 1))))] []), (.ifs (.cmp .eq (.bin .mod (.blt .int [(.var 3)]) (.con (.int 2))) (.con (.int 1))) [(.asg (.nm 7) (.con (.int 0))), (.ifs (.and (.cmp .lt (.var 5) (.blt .len [(.var 1)])) (.cmp .eq (.idx (.var 1) (.var 5)) (.bin .add (.var 4) (.con (.int 1))))) [(.asg (.nm 7) (.idx (.var 0) (.bin .add (.var 4) (.con (.int 1)))))] []), (.asg (.nm 8) (.bin .sub (.con (.int 2)) (.bin .mod (.blt .int [(.bin .add (.var 3) (.bin .mul (.con (.int 2)) (.var 7)))]) (.con (.int 4))))), (.app 2 (.tup [(.var 8), (.var 4)])), (.asg (.nm 3) (.bin .sub (.var 3) (.var 8)))] []), (.asg (.nm 3) (.bin .fdiv (.var 3) (.con (.int 2)))), (.asg (.nm 4) (.bin .add (.var 4) (.con (.int 1))))]
def x22_2 : Exp := (.idx (.vw 2) (.bin .sub (.bin .sub (.blt .len [(.vw 2)]) (.con (.int 1))) (.var 6)))
/-- rows -/
def b22 : List Stm := [(.asg (.nm 1) (.blt .sorted [(.var 0)])), (.own 2 (.lst [])), (.asg (.nm 3) (.con (.int 0))), (.asg (.nm 4) (.con (.int 0))), (.asg (.nm 5) (.con (.int 0))), (.for (.nm 6) .rng [(.con (.int 9000))] b22_1), (.ret (.comp x22_2 (.nm 6) .rng [(.blt .len [(.vw 2)])] []))]
abbrev s23 : Stmt := topS 34
abbrev N23 : List Str := ["_law_counts", "_law_row"]
abbrev p23 : List Str := ["_law_counts"]
def x23_1 : Exp := (.tup [(.idx (.var 1) (.con (.int 0))), (.call 16 [(.idx (.var 1) (.con (.int 1)))])])
/-- number -/
def b23 : List Stm := [(.ret (.blt .tuple [(.comp x23_1 (.nm 1) .lst [(.call 22 [(.var 0)])] [])]))]
abbrev s24 : Stmt := topS 36
abbrev N24 : List Str := ["_law_numbers", "_law_counts", "_law_way", "_law_rows_here", "_law_least"]
abbrev p24 : List Str := ["_law_numbers", "_law_counts"]
/-- places -/
def b24 : List Stm := [(.asg (.nm 2) (.call 14 [(.var 0), (.con (.int 80)), (.con (.int 6))])), (.ifs (.cmp .eq (.var 2) (.con (.int 0))) [(.ret (.bin .sub (.call 14 [(.var 0), (.con (.int 81)), (.con (.int 1009))]) (.con (.int 504))))] []), (.ifs (.cmp .eq (.var 2) (.con (.int 1))) [(.ret (.bin .mul (.idx (.lst [(.con (.int 1)), (.neg (.con (.int 1)))]) (.call 14 [(.var 0), (.con (.int 81)), (.con (.int 2))])) (.bin .add (.call 15 [(.call 14 [(.var 0), (.con (.int 82)), (.con (.int 100))])]) (.call 14 [(.var 0), (.con (.int 83)), (.con (.int 9))]))))] []), (.asg (.nm 3) (.call 22 [(.var 1)])), (.ifs (.cmp .eq (.blt .len [(.var 3)]) (.con (.int 0))) [(.ret (.bin .sub (.con (.int 0)) (.call 15 [(.call 14 [(.var 0), (.con (.int 82)), (.con (.int 100))])])))] []), (.asg (.nm 4) (.idx (.idx (.var 3) (.bin .sub (.blt .len [(.var 3)]) (.con (.int 1)))) (.con (.int 1)))), (.ret (.idx (.lst [(.bin .sub (.con (.int 0)) (.var 4)), (.bin .sub (.con (.int 1)) (.var 4)), (.bin .sub (.bin .sub (.con (.int 0)) (.var 4)) (.con (.int 1))), (.var 4)]) (.bin .sub (.var 2) (.con (.int 2)))))]
abbrev s25 : Stmt := topS 37
abbrev N25 : List Str := ["_law_number_here", "_law_places_here", "_law_due", "_law_whole", "_law_told_here", "e"]
abbrev p25 : List Str := ["_law_number_here", "_law_places_here", "_law_due", "_law_whole"]
/-- told -/
def b25 : List Stm := [(.trx 5 [(.asg (.nm 4) (.call 12 [(.var 0), (.var 1)]))] [] [(2, (.and (.not (.var 3)) (.and (.con (.bool true)) (.not (.con (.bool false)))))), (3, (.and (.var 3) (.not (.call 19 [(.var 2)]))))]), (.ret (.and (.var 3) (.and (.call 19 [(.var 2)]) (.and (.blt (.isi 3) [(.var 4)]) (.cmp .eq (.var 4) (.var 2))))))]
abbrev s26 : Stmt := topS 38
abbrev N26 : List Str := ["_law_script", "_law_numbers", "_law_counts", "_law_k", "_law_places_here", "_law_rows_here", "_law_number_here", "_law_other", "_law_moved", "_law_whole", "_law_sign", "_law_exponent_here", "_law_due", "_law_value", "_law_many"]
abbrev p26 : List Str := ["_law_script"]
def b26_1 : List Stm := [(.setd 8 (.blt .max [(.con (.int 0)), (.bin .add (.var 11) (.var 4))]) (.var 10)), (.asg (.nm 9) (.and (.var 9) (.cmp .ge (.bin .add (.var 11) (.var 4)) (.con (.int 0)))))]
def b26_2 : List Stm := [(.asg (.nm 4) (.call 24 [(.var 1), (.var 2)])), (.asg (.nm 5) (.call 22 [(.var 2)])), (.asg (.nm 6) (.call 23 [(.var 2)])), (.asg (.nm 7) (.call 16 [(.var 4)])), (.own 8 .emp), (.asg (.nm 9) (.con (.bool true))), (.for (.tp [(.nm 10), (.nm 11)]) .lst [(.var 5)] b26_1), (.asg (.nm 12) (.tup [])), (.ifs (.var 9) [(.asg (.nm 12) (.callv 23 [(.vw 8)]))] []), (.ifs (.and (.call 19 [(.var 6)]) (.call 19 [(.var 7)])) [(.ifs (.not (.call 25 [(.var 6), (.var 7), (.var 12), (.var 9)])) [(.ret (.con (.bool false)))] []), (.ifs (.and (.var 9) (.and (.call 19 [(.var 12)]) (.cmp .ne (.call 12 [(.var 12), (.call 16 [(.bin .sub (.con (.int 0)) (.var 4))])]) (.var 6)))) [(.ret (.con (.bool false)))] []), (.ifs (.or (.cmp .ne (.call 12 [(.tup []), (.var 7)]) (.tup [])) (.cmp .ne (.call 12 [(.var 6), (.tup [])]) (.var 6))) [(.ret (.con (.bool false)))] [])] []), (.asg (.nm 2) (.dsp2 (.con (.int 0)) (.bin .add (.con (.int 1)) (.call 14 [(.var 1), (.con (.int 1)), (.con (.int 1009))])) (.call 14 [(.var 1), (.con (.int 2)), (.con (.int 20))]) (.idx (.lst [(.con (.int 1)), (.neg (.con (.int 1)))]) (.call 14 [(.var 1), (.con (.int 3)), (.con (.int 2))]))))]
/-- law -/
def b26 : List Stm := [(.asg (.nm 1) (.call 13 [(.var 0)])), (.asg (.nm 2) (.call 21 [(.var 1), (.con (.int 9)), (.call 14 [(.var 1), (.con (.int 0)), (.con (.int 6))])])), (.for (.nm 3) .rng [(.con (.int 2))] b26_2), (.asg (.nm 13) (.bin .mul (.call 14 [(.var 1), (.con (.int 4)), (.con (.int 1009))]) (.con (.int 991)))), (.asg (.nm 14) (.call 14 [(.var 1), (.con (.int 5)), (.con (.int 40))])), (.ifs (.cmp .ne (.call 12 [(.call 16 [(.var 13)]), (.call 16 [(.var 14)])]) (.call 16 [(.bin .mul (.var 13) (.call 15 [(.var 14)]))])) [(.ret (.con (.bool false)))] []), (.ret (.cmp .eq (.call 12 [(.call 16 [(.bin .mul (.var 13) (.call 15 [(.var 14)]))]), (.call 16 [(.bin .sub (.con (.int 0)) (.var 14))])]) (.call 16 [(.var 13)])))]
def TB : List Fdef := [⟨1, 3, b0⟩, ⟨1, 3, b1⟩, ⟨2, 7, b2⟩, ⟨1, 1, b3⟩, ⟨1, 6, b4⟩, ⟨1, 7, b5⟩, ⟨4, 4, b6⟩, ⟨1, 1, b7⟩, ⟨1, 1, b8⟩, ⟨1, 1, b9⟩, ⟨2, 2, b10⟩, ⟨2, 5, b11⟩, ⟨2, 2, b12⟩, ⟨1, 6, b13⟩, ⟨3, 3, b14⟩, ⟨1, 3, b15⟩, ⟨1, 6, b16⟩, ⟨1, 2, b17⟩, ⟨1, 2, b18⟩, ⟨1, 1, b19⟩, ⟨2, 5, b20⟩, ⟨3, 6, b21⟩, ⟨1, 9, b22⟩, ⟨1, 2, b23⟩, ⟨2, 5, b24⟩, ⟨4, 6, b25⟩, ⟨1, 15, b26⟩]
end My

set_option maxRecDepth 100000
set_option maxHeartbeats 2000000
namespace My
open PySem PySem.Spec PyProof.Rows L2 L2H HotX Rf
theorem n0_0 : N0[0]? = some ("number" : Str) := by decide +kernel
theorem l0_0 : (defScope s0).names.lookup ("number" : Str) = some .local := by decide +kernel
theorem n0_1 : N0[1]? = some ("_" : Str) := by decide +kernel
theorem n0_2 : N0[2]? = some ("exponent" : Str) := by decide +kernel
theorem g0_sum : (defScope s0).names.lookup ("sum" : Str) = some .globalImplicit := by decide +kernel
theorem sc0 : FnScope N0 p0 (defScope s0) := ⟨rfl, rfl, rfl, by decide +kernel, rfl, by decide +kernel, by decide +kernel⟩
theorem n1_0 : N1[0]? = some ("number" : Str) := by decide +kernel
theorem l1_0 : (defScope s1).names.lookup ("number" : Str) = some .local := by decide +kernel
theorem g1_len : (defScope s1).names.lookup ("len" : Str) = some .globalImplicit := by decide +kernel
theorem n1_1 : N1[1]? = some ("_" : Str) := by decide +kernel
theorem n1_2 : N1[2]? = some ("exponent" : Str) := by decide +kernel
theorem g1_max : (defScope s1).names.lookup ("max" : Str) = some .globalImplicit := by decide +kernel
theorem sc1 : FnScope N1 p1 (defScope s1) := ⟨rfl, rfl, rfl, by decide +kernel, rfl, by decide +kernel, by decide +kernel⟩
theorem n2_0 : N2[0]? = some ("first" : Str) := by decide +kernel
theorem l2_0 : (defScope s2).names.lookup ("first" : Str) = some .local := by decide +kernel
theorem n2_1 : N2[1]? = some ("second" : Str) := by decide +kernel
theorem l2_1 : (defScope s2).names.lookup ("second" : Str) = some .local := by decide +kernel
theorem g2_zip : (defScope s2).names.lookup ("zip" : Str) = some .globalImplicit := by decide +kernel
theorem n2_2 : N2[2]? = some ("sign" : Str) := by decide +kernel
theorem l2_2 : (defScope s2).names.lookup ("sign" : Str) = some .local := by decide +kernel
theorem n2_3 : N2[3]? = some ("exponent" : Str) := by decide +kernel
theorem l2_3 : (defScope s2).names.lookup ("exponent" : Str) = some .local := by decide +kernel
theorem n2_4 : N2[4]? = some ("other_sign" : Str) := by decide +kernel
theorem l2_4 : (defScope s2).names.lookup ("other_sign" : Str) = some .local := by decide +kernel
theorem n2_5 : N2[5]? = some ("other" : Str) := by decide +kernel
theorem l2_5 : (defScope s2).names.lookup ("other" : Str) = some .local := by decide +kernel
theorem g2_compare : (defScope s2).names.lookup ("compare" : Str) = some .globalImplicit := by decide +kernel
theorem n2_6 : N2[6]? = some ("order" : Str) := by decide +kernel
theorem l2_6 : (defScope s2).names.lookup ("order" : Str) = some .local := by decide +kernel
theorem g2_len : (defScope s2).names.lookup ("len" : Str) = some .globalImplicit := by decide +kernel
theorem sc2 : FnScope N2 p2 (defScope s2) := ⟨rfl, rfl, rfl, by decide +kernel, rfl, by decide +kernel, by decide +kernel⟩
theorem n3_0 : N3[0]? = some ("number" : Str) := by decide +kernel
theorem l3_0 : (defScope s3).names.lookup ("number" : Str) = some .local := by decide +kernel
theorem g3_len : (defScope s3).names.lookup ("len" : Str) = some .globalImplicit := by decide +kernel
theorem sc3 : FnScope N3 p3 (defScope s3) := ⟨rfl, rfl, rfl, by decide +kernel, rfl, by decide +kernel, by decide +kernel⟩
theorem n4_1 : N4[1]? = some ("found" : Str) := by decide +kernel
theorem l4_1 : (defScope s4).names.lookup ("found" : Str) = some .local := by decide +kernel
theorem n4_0 : N4[0]? = some ("numbers" : Str) := by decide +kernel
theorem l4_0 : (defScope s4).names.lookup ("numbers" : Str) = some .local := by decide +kernel
theorem n4_2 : N4[2]? = some ("number" : Str) := by decide +kernel
theorem l4_2 : (defScope s4).names.lookup ("number" : Str) = some .local := by decide +kernel
theorem n4_3 : N4[3]? = some ("low" : Str) := by decide +kernel
theorem l4_3 : (defScope s4).names.lookup ("low" : Str) = some .local := by decide +kernel
theorem g4_len : (defScope s4).names.lookup ("len" : Str) = some .globalImplicit := by decide +kernel
theorem n4_4 : N4[4]? = some ("high" : Str) := by decide +kernel
theorem l4_4 : (defScope s4).names.lookup ("high" : Str) = some .local := by decide +kernel
theorem n4_5 : N4[5]? = some ("middle" : Str) := by decide +kernel
theorem l4_5 : (defScope s4).names.lookup ("middle" : Str) = some .local := by decide +kernel
theorem g4_compare : (defScope s4).names.lookup ("compare" : Str) = some .globalImplicit := by decide +kernel
theorem sc4 : FnScope N4 p4 (defScope s4) := ⟨rfl, rfl, rfl, by decide +kernel, rfl, by decide +kernel, by decide +kernel⟩
theorem n5_1 : N5[1]? = some ("counts" : Str) := by decide +kernel
theorem l5_1 : (defScope s5).names.lookup ("counts" : Str) = some .local := by decide +kernel
theorem n5_0 : N5[0]? = some ("pairs" : Str) := by decide +kernel
theorem l5_0 : (defScope s5).names.lookup ("pairs" : Str) = some .local := by decide +kernel
theorem n5_2 : N5[2]? = some ("count" : Str) := by decide +kernel
theorem l5_2 : (defScope s5).names.lookup ("count" : Str) = some .local := by decide +kernel
theorem n5_3 : N5[3]? = some ("exponent" : Str) := by decide +kernel
theorem l5_3 : (defScope s5).names.lookup ("exponent" : Str) = some .local := by decide +kernel
theorem g5_list : (defScope s5).names.lookup ("list" : Str) = some .globalImplicit := by decide +kernel
theorem g5_in_order : (defScope s5).names.lookup ("in_order" : Str) = some .globalImplicit := by decide +kernel
theorem n5_4 : N5[4]? = some ("waiting" : Str) := by decide +kernel
theorem l5_4 : (defScope s5).names.lookup ("waiting" : Str) = some .local := by decide +kernel
theorem n5_5 : N5[5]? = some ("terms" : Str) := by decide +kernel
theorem l5_5 : (defScope s5).names.lookup ("terms" : Str) = some .local := by decide +kernel
theorem g5_len : (defScope s5).names.lookup ("len" : Str) = some .globalImplicit := by decide +kernel
theorem g5_sign_at : (defScope s5).names.lookup ("sign_at" : Str) = some .globalImplicit := by decide +kernel
theorem n5_6 : N5[6]? = some ("sign" : Str) := by decide +kernel
theorem l5_6 : (defScope s5).names.lookup ("sign" : Str) = some .local := by decide +kernel
theorem g5_next_of : (defScope s5).names.lookup ("next_of" : Str) = some .globalImplicit := by decide +kernel
theorem g5_tuple : (defScope s5).names.lookup ("tuple" : Str) = some .globalImplicit := by decide +kernel
theorem sc5 : FnScope N5 p5 (defScope s5) := ⟨rfl, rfl, rfl, by decide +kernel, rfl, by decide +kernel, by decide +kernel⟩
theorem n6_3 : N6[3]? = some ("waiting" : Str) := by decide +kernel
theorem l6_3 : (defScope s6).names.lookup ("waiting" : Str) = some .local := by decide +kernel
theorem g6_len : (defScope s6).names.lookup ("len" : Str) = some .globalImplicit := by decide +kernel
theorem n6_1 : N6[1]? = some ("exponent" : Str) := by decide +kernel
theorem l6_1 : (defScope s6).names.lookup ("exponent" : Str) = some .local := by decide +kernel
theorem g6_next_of : (defScope s6).names.lookup ("next_of" : Str) = some .globalImplicit := by decide +kernel
theorem n6_2 : N6[2]? = some ("counts" : Str) := by decide +kernel
theorem l6_2 : (defScope s6).names.lookup ("counts" : Str) = some .local := by decide +kernel
theorem n6_0 : N6[0]? = some ("count" : Str) := by decide +kernel
theorem l6_0 : (defScope s6).names.lookup ("count" : Str) = some .local := by decide +kernel
theorem sc6 : FnScope N6 p6 (defScope s6) := ⟨rfl, rfl, rfl, by decide +kernel, rfl, by decide +kernel, by decide +kernel⟩
theorem n7_0 : N7[0]? = some ("number" : Str) := by decide +kernel
theorem l7_0 : (defScope s7).names.lookup ("number" : Str) = some .local := by decide +kernel
theorem g7_list : (defScope s7).names.lookup ("list" : Str) = some .globalImplicit := by decide +kernel
theorem g7_gathered : (defScope s7).names.lookup ("gathered" : Str) = some .globalImplicit := by decide +kernel
theorem sc7 : FnScope N7 p7 (defScope s7) := ⟨rfl, rfl, rfl, by decide +kernel, rfl, by decide +kernel, by decide +kernel⟩
theorem n8_0 : N8[0]? = some ("number" : Str) := by decide +kernel
theorem l8_0 : (defScope s8).names.lookup ("number" : Str) = some .local := by decide +kernel
theorem g8_size_of : (defScope s8).names.lookup ("size_of" : Str) = some .globalImplicit := by decide +kernel
theorem g8_MAX_SIZE : (defScope s8).names.lookup ("MAX_SIZE" : Str) = some .globalImplicit := by decide +kernel
theorem g8_height_of : (defScope s8).names.lookup ("height_of" : Str) = some .globalImplicit := by decide +kernel
theorem g8_MAX_HEIGHT : (defScope s8).names.lookup ("MAX_HEIGHT" : Str) = some .globalImplicit := by decide +kernel
theorem sc8 : FnScope N8 p8 (defScope s8) := ⟨rfl, rfl, rfl, by decide +kernel, rfl, by decide +kernel, by decide +kernel⟩
theorem n9_0 : N9[0]? = some ("number" : Str) := by decide +kernel
theorem l9_0 : (defScope s9).names.lookup ("number" : Str) = some .local := by decide +kernel
theorem g9_is_allowed : (defScope s9).names.lookup ("is_allowed" : Str) = some .globalImplicit := by decide +kernel
theorem g9_TooLarge : (defScope s9).names.lookup ("TooLarge" : Str) = some .globalImplicit := by decide +kernel
theorem sc9 : FnScope N9 p9 (defScope s9) := ⟨rfl, rfl, rfl, by decide +kernel, rfl, by decide +kernel, by decide +kernel⟩
theorem n10_0 : N10[0]? = some ("first" : Str) := by decide +kernel
theorem l10_0 : (defScope s10).names.lookup ("first" : Str) = some .local := by decide +kernel
theorem g10_list : (defScope s10).names.lookup ("list" : Str) = some .globalImplicit := by decide +kernel
theorem n10_1 : N10[1]? = some ("second" : Str) := by decide +kernel
theorem l10_1 : (defScope s10).names.lookup ("second" : Str) = some .local := by decide +kernel
theorem g10_gathered : (defScope s10).names.lookup ("gathered" : Str) = some .globalImplicit := by decide +kernel
theorem sc10 : FnScope N10 p10 (defScope s10) := ⟨rfl, rfl, rfl, by decide +kernel, rfl, by decide +kernel, by decide +kernel⟩
theorem n11_0 : N11[0]? = some ("number" : Str) := by decide +kernel
theorem l11_0 : (defScope s11).names.lookup ("number" : Str) = some .local := by decide +kernel
theorem n11_3 : N11[3]? = some ("sign" : Str) := by decide +kernel
theorem n11_4 : N11[4]? = some ("exponent" : Str) := by decide +kernel
theorem n11_1 : N11[1]? = some ("places" : Str) := by decide +kernel
theorem n11_2 : N11[2]? = some ("terms" : Str) := by decide +kernel
theorem l11_2 : (defScope s11).names.lookup ("terms" : Str) = some .local := by decide +kernel
theorem g11_len : (defScope s11).names.lookup ("len" : Str) = some .globalImplicit := by decide +kernel
theorem g11_sign_of : (defScope s11).names.lookup ("sign_of" : Str) = some .globalImplicit := by decide +kernel
theorem g11_BadRange : (defScope s11).names.lookup ("BadRange" : Str) = some .globalImplicit := by decide +kernel
theorem g11_tuple : (defScope s11).names.lookup ("tuple" : Str) = some .globalImplicit := by decide +kernel
theorem sc11 : FnScope N11 p11 (defScope s11) := ⟨rfl, rfl, rfl, by decide +kernel, rfl, by decide +kernel, by decide +kernel⟩
theorem n12_0 : N12[0]? = some ("number" : Str) := by decide +kernel
theorem l12_0 : (defScope s12).names.lookup ("number" : Str) = some .local := by decide +kernel
theorem n12_1 : N12[1]? = some ("places" : Str) := by decide +kernel
theorem l12_1 : (defScope s12).names.lookup ("places" : Str) = some .local := by decide +kernel
theorem g12_shifted : (defScope s12).names.lookup ("shifted" : Str) = some .globalImplicit := by decide +kernel
theorem g12_allowed : (defScope s12).names.lookup ("allowed" : Str) = some .globalImplicit := by decide +kernel
theorem sc12 : FnScope N12 p12 (defScope s12) := ⟨rfl, rfl, rfl, by decide +kernel, rfl, by decide +kernel, by decide +kernel⟩
theorem n13_1 : N13[1]? = some ("_law_numbers" : Str) := by decide +kernel
theorem l13_1 : (defScope s13).names.lookup ("_law_numbers" : Str) = some .local := by decide +kernel
theorem n13_0 : N13[0]? = some ("_law_script" : Str) := by decide +kernel
theorem l13_0 : (defScope s13).names.lookup ("_law_script" : Str) = some .local := by decide +kernel
theorem n13_2 : N13[2]? = some ("_law_cell" : Str) := by decide +kernel
theorem l13_2 : (defScope s13).names.lookup ("_law_cell" : Str) = some .local := by decide +kernel
theorem g13_int : (defScope s13).names.lookup ("int" : Str) = some .globalImplicit := by decide +kernel
theorem n13_3 : N13[3]? = some ("_law_rest" : Str) := by decide +kernel
theorem l13_3 : (defScope s13).names.lookup ("_law_rest" : Str) = some .local := by decide +kernel
theorem g13_range : (defScope s13).names.lookup ("range" : Str) = some .globalImplicit := by decide +kernel
theorem n13_4 : N13[4]? = some ("_law_k" : Str) := by decide +kernel
theorem l13_4 : (defScope s13).names.lookup ("_law_k" : Str) = some .local := by decide +kernel
theorem n13_5 : N13[5]? = some ("_law_mixed" : Str) := by decide +kernel
theorem l13_5 : (defScope s13).names.lookup ("_law_mixed" : Str) = some .local := by decide +kernel
theorem g13_len : (defScope s13).names.lookup ("len" : Str) = some .globalImplicit := by decide +kernel
theorem sc13 : FnScope N13 p13 (defScope s13) := ⟨rfl, rfl, rfl, by decide +kernel, rfl, by decide +kernel, by decide +kernel⟩
theorem n14_0 : N14[0]? = some ("_law_numbers" : Str) := by decide +kernel
theorem l14_0 : (defScope s14).names.lookup ("_law_numbers" : Str) = some .local := by decide +kernel
theorem n14_1 : N14[1]? = some ("_law_at" : Str) := by decide +kernel
theorem l14_1 : (defScope s14).names.lookup ("_law_at" : Str) = some .local := by decide +kernel
theorem g14_len : (defScope s14).names.lookup ("len" : Str) = some .globalImplicit := by decide +kernel
theorem g14_int : (defScope s14).names.lookup ("int" : Str) = some .globalImplicit := by decide +kernel
theorem n14_2 : N14[2]? = some ("_law_many" : Str) := by decide +kernel
theorem l14_2 : (defScope s14).names.lookup ("_law_many" : Str) = some .local := by decide +kernel
theorem sc14 : FnScope N14 p14 (defScope s14) := ⟨rfl, rfl, rfl, by decide +kernel, rfl, by decide +kernel, by decide +kernel⟩
theorem n15_1 : N15[1]? = some ("_law_value" : Str) := by decide +kernel
theorem l15_1 : (defScope s15).names.lookup ("_law_value" : Str) = some .local := by decide +kernel
theorem n15_0 : N15[0]? = some ("_law_count" : Str) := by decide +kernel
theorem l15_0 : (defScope s15).names.lookup ("_law_count" : Str) = some .local := by decide +kernel
theorem g15_range : (defScope s15).names.lookup ("range" : Str) = some .globalImplicit := by decide +kernel
theorem n15_2 : N15[2]? = some ("_law_k" : Str) := by decide +kernel
theorem l15_2 : (defScope s15).names.lookup ("_law_k" : Str) = some .local := by decide +kernel
theorem sc15 : FnScope N15 p15 (defScope s15) := ⟨rfl, rfl, rfl, by decide +kernel, rfl, by decide +kernel, by decide +kernel⟩
theorem n16_1 : N16[1]? = some ("_law_terms" : Str) := by decide +kernel
theorem l16_1 : (defScope s16).names.lookup ("_law_terms" : Str) = some .cell := by decide +kernel
theorem n16_2 : N16[2]? = some ("_law_place" : Str) := by decide +kernel
theorem l16_2 : (defScope s16).names.lookup ("_law_place" : Str) = some .local := by decide +kernel
theorem n16_0 : N16[0]? = some ("_law_value" : Str) := by decide +kernel
theorem l16_0 : (defScope s16).names.lookup ("_law_value" : Str) = some .local := by decide +kernel
theorem n16_3 : N16[3]? = some ("_law_rest" : Str) := by decide +kernel
theorem l16_3 : (defScope s16).names.lookup ("_law_rest" : Str) = some .local := by decide +kernel
theorem g16_range : (defScope s16).names.lookup ("range" : Str) = some .globalImplicit := by decide +kernel
theorem n16_4 : N16[4]? = some ("_law_k" : Str) := by decide +kernel
theorem l16_4 : (defScope s16).names.lookup ("_law_k" : Str) = some .local := by decide +kernel
theorem g16_int : (defScope s16).names.lookup ("int" : Str) = some .globalImplicit := by decide +kernel
theorem n16_5 : N16[5]? = some ("_law_sign" : Str) := by decide +kernel
theorem l16_5 : (defScope s16).names.lookup ("_law_sign" : Str) = some .local := by decide +kernel
theorem g16__law_of : (defScope s16).names.lookup ("_law_of" : Str) = some .globalImplicit := by decide +kernel
theorem g16_len : (defScope s16).names.lookup ("len" : Str) = some .globalImplicit := by decide +kernel
theorem g16_tuple : (defScope s16).names.lookup ("tuple" : Str) = some .globalImplicit := by decide +kernel
theorem sc16 : FnScope N16 p16 (defScope s16) := ⟨rfl, rfl, rfl, by decide +kernel, rfl, by decide +kernel, by decide +kernel⟩
theorem n17_0 : N17[0]? = some ("_law_number_here" : Str) := by decide +kernel
theorem l17_0 : (defScope s17).names.lookup ("_law_number_here" : Str) = some .local := by decide +kernel
theorem n17_1 : N17[1]? = some ("_law_term" : Str) := by decide +kernel
theorem g17_sum : (defScope s17).names.lookup ("sum" : Str) = some .globalImplicit := by decide +kernel
theorem sc17 : FnScope N17 p17 (defScope s17) := ⟨rfl, rfl, rfl, by decide +kernel, rfl, by decide +kernel, by decide +kernel⟩
theorem n18_0 : N18[0]? = some ("_law_number_here" : Str) := by decide +kernel
theorem l18_0 : (defScope s18).names.lookup ("_law_number_here" : Str) = some .local := by decide +kernel
theorem n18_1 : N18[1]? = some ("_law_term" : Str) := by decide +kernel
theorem g18_max : (defScope s18).names.lookup ("max" : Str) = some .globalImplicit := by decide +kernel
theorem sc18 : FnScope N18 p18 (defScope s18) := ⟨rfl, rfl, rfl, by decide +kernel, rfl, by decide +kernel, by decide +kernel⟩
theorem n19_0 : N19[0]? = some ("_law_number_here" : Str) := by decide +kernel
theorem l19_0 : (defScope s19).names.lookup ("_law_number_here" : Str) = some .local := by decide +kernel
theorem g19__law_size : (defScope s19).names.lookup ("_law_size" : Str) = some .globalImplicit := by decide +kernel
theorem g19__law_height : (defScope s19).names.lookup ("_law_height" : Str) = some .globalImplicit := by decide +kernel
theorem sc19 : FnScope N19 p19 (defScope s19) := ⟨rfl, rfl, rfl, by decide +kernel, rfl, by decide +kernel, by decide +kernel⟩
theorem n20_0 : N20[0]? = some ("_law_numbers" : Str) := by decide +kernel
theorem l20_0 : (defScope s20).names.lookup ("_law_numbers" : Str) = some .local := by decide +kernel
theorem n20_1 : N20[1]? = some ("_law_at" : Str) := by decide +kernel
theorem l20_1 : (defScope s20).names.lookup ("_law_at" : Str) = some .local := by decide +kernel
theorem g20__law_pick : (defScope s20).names.lookup ("_law_pick" : Str) = some .globalImplicit := by decide +kernel
theorem n20_2 : N20[2]? = some ("_law_way" : Str) := by decide +kernel
theorem l20_2 : (defScope s20).names.lookup ("_law_way" : Str) = some .local := by decide +kernel
theorem n20_3 : N20[3]? = some ("_law_low" : Str) := by decide +kernel
theorem l20_3 : (defScope s20).names.lookup ("_law_low" : Str) = some .local := by decide +kernel
theorem g20__law_two : (defScope s20).names.lookup ("_law_two" : Str) = some .globalImplicit := by decide +kernel
theorem n20_4 : N20[4]? = some ("_law_high" : Str) := by decide +kernel
theorem l20_4 : (defScope s20).names.lookup ("_law_high" : Str) = some .local := by decide +kernel
theorem sc20 : FnScope N20 p20 (defScope s20) := ⟨rfl, rfl, rfl, by decide +kernel, rfl, by decide +kernel, by decide +kernel⟩
theorem n21_3 : N21[3]? = some ("_law_counts" : Str) := by decide +kernel
theorem l21_3 : (defScope s21).names.lookup ("_law_counts" : Str) = some .local := by decide +kernel
theorem n21_2 : N21[2]? = some ("_law_many" : Str) := by decide +kernel
theorem l21_2 : (defScope s21).names.lookup ("_law_many" : Str) = some .local := by decide +kernel
theorem g21_range : (defScope s21).names.lookup ("range" : Str) = some .globalImplicit := by decide +kernel
theorem n21_4 : N21[4]? = some ("_law_k" : Str) := by decide +kernel
theorem l21_4 : (defScope s21).names.lookup ("_law_k" : Str) = some .local := by decide +kernel
theorem n21_0 : N21[0]? = some ("_law_numbers" : Str) := by decide +kernel
theorem l21_0 : (defScope s21).names.lookup ("_law_numbers" : Str) = some .local := by decide +kernel
theorem n21_1 : N21[1]? = some ("_law_at" : Str) := by decide +kernel
theorem l21_1 : (defScope s21).names.lookup ("_law_at" : Str) = some .local := by decide +kernel
theorem g21__law_exponent : (defScope s21).names.lookup ("_law_exponent" : Str) = some .globalImplicit := by decide +kernel
theorem g21_max : (defScope s21).names.lookup ("max" : Str) = some .globalImplicit := by decide +kernel
theorem n21_5 : N21[5]? = some ("_law_exponent_here" : Str) := by decide +kernel
theorem l21_5 : (defScope s21).names.lookup ("_law_exponent_here" : Str) = some .local := by decide +kernel
theorem g21__law_pick : (defScope s21).names.lookup ("_law_pick" : Str) = some .globalImplicit := by decide +kernel
theorem sc21 : FnScope N21 p21 (defScope s21) := ⟨rfl, rfl, rfl, by decide +kernel, rfl, by decide +kernel, by decide +kernel⟩
theorem n22_0 : N22[0]? = some ("_law_counts" : Str) := by decide +kernel
theorem l22_0 : (defScope s22).names.lookup ("_law_counts" : Str) = some .local := by decide +kernel
theorem g22_sorted : (defScope s22).names.lookup ("sorted" : Str) = some .globalImplicit := by decide +kernel
theorem n22_1 : N22[1]? = some ("_law_waiting" : Str) := by decide +kernel
theorem l22_1 : (defScope s22).names.lookup ("_law_waiting" : Str) = some .local := by decide +kernel
theorem n22_2 : N22[2]? = some ("_law_rows_here" : Str) := by decide +kernel
theorem l22_2 : (defScope s22).names.lookup ("_law_rows_here" : Str) = some .cell := by decide +kernel
theorem n22_3 : N22[3]? = some ("_law_count" : Str) := by decide +kernel
theorem l22_3 : (defScope s22).names.lookup ("_law_count" : Str) = some .local := by decide +kernel
theorem n22_4 : N22[4]? = some ("_law_exponent_here" : Str) := by decide +kernel
theorem l22_4 : (defScope s22).names.lookup ("_law_exponent_here" : Str) = some .local := by decide +kernel
theorem n22_5 : N22[5]? = some ("_law_at" : Str) := by decide +kernel
theorem l22_5 : (defScope s22).names.lookup ("_law_at" : Str) = some .local := by decide +kernel
theorem g22_range : (defScope s22).names.lookup ("range" : Str) = some .globalImplicit := by decide +kernel
theorem n22_6 : N22[6]? = some ("_law_k" : Str) := by decide +kernel
theorem l22_6 : (defScope s22).names.lookup ("_law_k" : Str) = some .local := by decide +kernel
theorem g22_len : (defScope s22).names.lookup ("len" : Str) = some .globalImplicit := by decide +kernel
theorem g22_int : (defScope s22).names.lookup ("int" : Str) = some .globalImplicit := by decide +kernel
theorem n22_7 : N22[7]? = some ("_law_more" : Str) := by decide +kernel
theorem l22_7 : (defScope s22).names.lookup ("_law_more" : Str) = some .local := by decide +kernel
theorem n22_8 : N22[8]? = some ("_law_sign" : Str) := by decide +kernel
theorem l22_8 : (defScope s22).names.lookup ("_law_sign" : Str) = some .local := by decide +kernel
theorem sc22 : FnScope N22 p22 (defScope s22) := ⟨rfl, rfl, rfl, by decide +kernel, rfl, by decide +kernel, by decide +kernel⟩
theorem n23_0 : N23[0]? = some ("_law_counts" : Str) := by decide +kernel
theorem l23_0 : (defScope s23).names.lookup ("_law_counts" : Str) = some .local := by decide +kernel
theorem g23__law_rows : (defScope s23).names.lookup ("_law_rows" : Str) = some .globalImplicit := by decide +kernel
theorem n23_1 : N23[1]? = some ("_law_row" : Str) := by decide +kernel
theorem g23_tuple : (defScope s23).names.lookup ("tuple" : Str) = some .globalImplicit := by decide +kernel
theorem sc23 : FnScope N23 p23 (defScope s23) := ⟨rfl, rfl, rfl, by decide +kernel, rfl, by decide +kernel, by decide +kernel⟩
theorem n24_0 : N24[0]? = some ("_law_numbers" : Str) := by decide +kernel
theorem l24_0 : (defScope s24).names.lookup ("_law_numbers" : Str) = some .local := by decide +kernel
theorem g24__law_pick : (defScope s24).names.lookup ("_law_pick" : Str) = some .globalImplicit := by decide +kernel
theorem n24_2 : N24[2]? = some ("_law_way" : Str) := by decide +kernel
theorem l24_2 : (defScope s24).names.lookup ("_law_way" : Str) = some .local := by decide +kernel
theorem g24__law_two : (defScope s24).names.lookup ("_law_two" : Str) = some .globalImplicit := by decide +kernel
theorem n24_1 : N24[1]? = some ("_law_counts" : Str) := by decide +kernel
theorem l24_1 : (defScope s24).names.lookup ("_law_counts" : Str) = some .local := by decide +kernel
theorem g24__law_rows : (defScope s24).names.lookup ("_law_rows" : Str) = some .globalImplicit := by decide +kernel
theorem n24_3 : N24[3]? = some ("_law_rows_here" : Str) := by decide +kernel
theorem l24_3 : (defScope s24).names.lookup ("_law_rows_here" : Str) = some .local := by decide +kernel
theorem g24_len : (defScope s24).names.lookup ("len" : Str) = some .globalImplicit := by decide +kernel
theorem n24_4 : N24[4]? = some ("_law_least" : Str) := by decide +kernel
theorem l24_4 : (defScope s24).names.lookup ("_law_least" : Str) = some .local := by decide +kernel
theorem sc24 : FnScope N24 p24 (defScope s24) := ⟨rfl, rfl, rfl, by decide +kernel, rfl, by decide +kernel, by decide +kernel⟩
theorem n25_0 : N25[0]? = some ("_law_number_here" : Str) := by decide +kernel
theorem l25_0 : (defScope s25).names.lookup ("_law_number_here" : Str) = some .local := by decide +kernel
theorem n25_1 : N25[1]? = some ("_law_places_here" : Str) := by decide +kernel
theorem l25_1 : (defScope s25).names.lookup ("_law_places_here" : Str) = some .local := by decide +kernel
theorem g25_shift : (defScope s25).names.lookup ("shift" : Str) = some .globalImplicit := by decide +kernel
theorem n25_4 : N25[4]? = some ("_law_told_here" : Str) := by decide +kernel
theorem l25_4 : (defScope s25).names.lookup ("_law_told_here" : Str) = some .local := by decide +kernel
theorem n25_3 : N25[3]? = some ("_law_whole" : Str) := by decide +kernel
theorem l25_3 : (defScope s25).names.lookup ("_law_whole" : Str) = some .local := by decide +kernel
theorem n25_5 : N25[5]? = some ("e" : Str) := by decide +kernel
theorem l25_5 : (defScope s25).names.lookup ("e" : Str) = some .local := by decide +kernel
theorem g25_isinstance : (defScope s25).names.lookup ("isinstance" : Str) = some .globalImplicit := by decide +kernel
theorem g25_ReckonError : (defScope s25).names.lookup ("ReckonError" : Str) = some .globalImplicit := by decide +kernel
theorem g25_NotAllowed : (defScope s25).names.lookup ("NotAllowed" : Str) = some .globalImplicit := by decide +kernel
theorem g25_TooLarge : (defScope s25).names.lookup ("TooLarge" : Str) = some .globalImplicit := by decide +kernel
theorem n25_2 : N25[2]? = some ("_law_due" : Str) := by decide +kernel
theorem l25_2 : (defScope s25).names.lookup ("_law_due" : Str) = some .local := by decide +kernel
theorem g25__law_fits : (defScope s25).names.lookup ("_law_fits" : Str) = some .globalImplicit := by decide +kernel
theorem g25_BadRange : (defScope s25).names.lookup ("BadRange" : Str) = some .globalImplicit := by decide +kernel
theorem g25_tuple : (defScope s25).names.lookup ("tuple" : Str) = some .globalImplicit := by decide +kernel
theorem sc25 : FnScope N25 p25 (defScope s25) := ⟨rfl, rfl, rfl, by decide +kernel, rfl, by decide +kernel, by decide +kernel⟩
theorem n26_0 : N26[0]? = some ("_law_script" : Str) := by decide +kernel
theorem l26_0 : (defScope s26).names.lookup ("_law_script" : Str) = some .local := by decide +kernel
theorem g26__law_stream : (defScope s26).names.lookup ("_law_stream" : Str) = some .globalImplicit := by decide +kernel
theorem n26_1 : N26[1]? = some ("_law_numbers" : Str) := by decide +kernel
theorem l26_1 : (defScope s26).names.lookup ("_law_numbers" : Str) = some .local := by decide +kernel
theorem g26__law_pick : (defScope s26).names.lookup ("_law_pick" : Str) = some .globalImplicit := by decide +kernel
theorem g26__law_model : (defScope s26).names.lookup ("_law_model" : Str) = some .globalImplicit := by decide +kernel
theorem n26_2 : N26[2]? = some ("_law_counts" : Str) := by decide +kernel
theorem l26_2 : (defScope s26).names.lookup ("_law_counts" : Str) = some .local := by decide +kernel
theorem g26_range : (defScope s26).names.lookup ("range" : Str) = some .globalImplicit := by decide +kernel
theorem n26_3 : N26[3]? = some ("_law_k" : Str) := by decide +kernel
theorem l26_3 : (defScope s26).names.lookup ("_law_k" : Str) = some .local := by decide +kernel
theorem g26__law_places : (defScope s26).names.lookup ("_law_places" : Str) = some .globalImplicit := by decide +kernel
theorem n26_4 : N26[4]? = some ("_law_places_here" : Str) := by decide +kernel
theorem l26_4 : (defScope s26).names.lookup ("_law_places_here" : Str) = some .local := by decide +kernel
theorem g26__law_rows : (defScope s26).names.lookup ("_law_rows" : Str) = some .globalImplicit := by decide +kernel
theorem n26_5 : N26[5]? = some ("_law_rows_here" : Str) := by decide +kernel
theorem l26_5 : (defScope s26).names.lookup ("_law_rows_here" : Str) = some .local := by decide +kernel
theorem g26__law_number : (defScope s26).names.lookup ("_law_number" : Str) = some .globalImplicit := by decide +kernel
theorem n26_6 : N26[6]? = some ("_law_number_here" : Str) := by decide +kernel
theorem l26_6 : (defScope s26).names.lookup ("_law_number_here" : Str) = some .local := by decide +kernel
theorem g26__law_of : (defScope s26).names.lookup ("_law_of" : Str) = some .globalImplicit := by decide +kernel
theorem n26_7 : N26[7]? = some ("_law_other" : Str) := by decide +kernel
theorem l26_7 : (defScope s26).names.lookup ("_law_other" : Str) = some .local := by decide +kernel
theorem n26_8 : N26[8]? = some ("_law_moved" : Str) := by decide +kernel
theorem l26_8 : (defScope s26).names.lookup ("_law_moved" : Str) = some .local := by decide +kernel
theorem n26_9 : N26[9]? = some ("_law_whole" : Str) := by decide +kernel
theorem l26_9 : (defScope s26).names.lookup ("_law_whole" : Str) = some .local := by decide +kernel
theorem n26_10 : N26[10]? = some ("_law_sign" : Str) := by decide +kernel
theorem l26_10 : (defScope s26).names.lookup ("_law_sign" : Str) = some .local := by decide +kernel
theorem n26_11 : N26[11]? = some ("_law_exponent_here" : Str) := by decide +kernel
theorem l26_11 : (defScope s26).names.lookup ("_law_exponent_here" : Str) = some .local := by decide +kernel
theorem g26_max : (defScope s26).names.lookup ("max" : Str) = some .globalImplicit := by decide +kernel
theorem n26_12 : N26[12]? = some ("_law_due" : Str) := by decide +kernel
theorem l26_12 : (defScope s26).names.lookup ("_law_due" : Str) = some .local := by decide +kernel
theorem g26__law_fits : (defScope s26).names.lookup ("_law_fits" : Str) = some .globalImplicit := by decide +kernel
theorem g26__law_told : (defScope s26).names.lookup ("_law_told" : Str) = some .globalImplicit := by decide +kernel
theorem g26_shift : (defScope s26).names.lookup ("shift" : Str) = some .globalImplicit := by decide +kernel
theorem n26_13 : N26[13]? = some ("_law_value" : Str) := by decide +kernel
theorem l26_13 : (defScope s26).names.lookup ("_law_value" : Str) = some .local := by decide +kernel
theorem n26_14 : N26[14]? = some ("_law_many" : Str) := by decide +kernel
theorem l26_14 : (defScope s26).names.lookup ("_law_many" : Str) = some .local := by decide +kernel
theorem g26__law_two : (defScope s26).names.lookup ("_law_two" : Str) = some .globalImplicit := by decide +kernel
theorem sc26 : FnScope N26 p26 (defScope s26) := ⟨rfl, rfl, rfl, by decide +kernel, rfl, by decide +kernel, by decide +kernel⟩
section
variable {pr : Program} {w : World} {K : PySem.W.Frag} {mg : Str → Option Value} {base : Heap} {ca : Nat → Addr} {F n : Nat}
theorem w0 (hf_size_of : Good pr w K mg base ca TB F "size_of" 0 n) (z_sum : mg "sum" = none) : Walk pr w K mg base ca N0 "size_of" s0 n (execs (phi TB F n) F b0) := fun A sA HA a fA cdv outer xe h0 av avok W hr C =>
    (sss_cons (ss_ret (Rf.PE.new (se_bin C .add se_int (se_flat rfl (se_bltB C (cl_sum C.calm) g0_sum z_sum (by decide +kernel) (ses_cons (Rf.PE.new (Rf.PE.modeN (se_comp C (own := [("_", 1), ("exponent", 2)]) (si_tup C (se_var C n0_0 (Or.inl l0_0))) rfl (blkOk_by (N := N0) (sc := defScope s0) (by decide +kernel)) (fun _ _ _ _ _ _ C => (sg_tp C.calm rfl (sgs_cons (sg_nm C.hN C.nd n0_1 (by first | exact Or.inl rfl | exact Or.inr rfl) (by first | exact .inl rfl | exact .inr rfl)) (sgs_cons (sg_nm C.hN C.nd n0_2 (by first | exact Or.inl rfl | exact Or.inr rfl) (by first | exact .inl rfl | exact .inr rfl)) sgs_nil)))) (fun _ _ _ _ _ _ _ _ C => sf_nil) (fun _ _ _ _ _ _ _ _ C => (se_call C (hf_size_of.fn hr) (by rfl) (ses_cons (se_var C n0_2 (by first | exact Or.inl rfl | exact Or.inr (Or.inl rfl) | exact Or.inr (Or.inr rfl))) ses_nil)))))) ses_nil))))))
      sss_nil)
theorem w1 (hf_height_of : Good pr w K mg base ca TB F "height_of" 1 n) (z_len : mg "len" = none) (z_max : mg "max" = none) : Walk pr w K mg base ca N1 "height_of" s1 n (execs (phi TB F n) F b1) := fun A sA HA a fA cdv outer xe h0 av avok W hr C =>
    (sss_cons (ss_if (st_cmp C .eq (se_flat rfl (se_bltB C (cl_len C.calm) g1_len z_len (by decide +kernel) (ses_cons (se_var C n1_0 (Or.inl l1_0)) ses_nil))) se_int (by first | rfl | with_unfolding_all rfl)) (sss_cons (ss_ret se_int)
      sss_nil) sss_nil)
      (sss_cons (ss_ret (Rf.PE.new (se_bin C .add se_int (se_flat rfl (se_bltB C (cl_max C.calm) g1_max z_max (by decide +kernel) (ses_cons (Rf.PE.new (Rf.PE.modeN (se_comp C (own := [("_", 1), ("exponent", 2)]) (si_tup C (se_var C n1_0 (Or.inl l1_0))) rfl (blkOk_by (N := N1) (sc := defScope s1) (by decide +kernel)) (fun _ _ _ _ _ _ C => (sg_tp C.calm rfl (sgs_cons (sg_nm C.hN C.nd n1_1 (by first | exact Or.inl rfl | exact Or.inr rfl) (by first | exact .inl rfl | exact .inr rfl)) (sgs_cons (sg_nm C.hN C.nd n1_2 (by first | exact Or.inl rfl | exact Or.inr rfl) (by first | exact .inl rfl | exact .inr rfl)) sgs_nil)))) (fun _ _ _ _ _ _ _ _ C => sf_nil) (fun _ _ _ _ _ _ _ _ C => (se_call C (hf_height_of.fn hr) (by rfl) (ses_cons (se_var C n1_2 (by first | exact Or.inl rfl | exact Or.inr (Or.inl rfl) | exact Or.inr (Or.inr rfl))) ses_nil)))))) ses_nil))))))
      sss_nil))
theorem w2 (hf_compare : Good pr w K mg base ca TB F "compare" 2 n) (z_len : mg "len" = none) (z_zip : mg "zip" = none) : Walk pr w K mg base ca N2 "compare" s2 n (execs (phi TB F n) F b2) := fun A sA HA a fA cdv outer xe h0 av avok W hr C =>
    (sss_cons (ss_if (st_cmp C .eq (se_var C n2_0 (Or.inl l2_0)) (se_var C n2_1 (Or.inl l2_1)) (by first | rfl | with_unfolding_all rfl)) (sss_cons (ss_ret se_int)
      sss_nil) sss_nil)
      (sss_cons (ss_for C (si_zip C g2_zip z_zip (ses_cons (se_var C n2_0 (Or.inl l2_0)) (ses_cons (se_var C n2_1 (Or.inl l2_1)) ses_nil))) (sg_tp C.calm rfl (sgs_cons (sg_tp C.calm rfl (sgs_cons (sg_nm C.hN C.nd n2_2 (Or.inl l2_2) (by first | exact .inl rfl | exact .inr rfl)) (sgs_cons (sg_nm C.hN C.nd n2_3 (Or.inl l2_3) (by first | exact .inl rfl | exact .inr rfl)) sgs_nil))) (sgs_cons (sg_tp C.calm rfl (sgs_cons (sg_nm C.hN C.nd n2_4 (Or.inl l2_4) (by first | exact .inl rfl | exact .inr rfl)) (sgs_cons (sg_nm C.hN C.nd n2_5 (Or.inl l2_5) (by first | exact .inl rfl | exact .inr rfl)) sgs_nil))) sgs_nil))) (fun _ _ C => (sss_cons (ss_if (st_cmp C .ne (se_var C n2_2 (Or.inl l2_2)) (se_var C n2_4 (Or.inl l2_4)) (by first | rfl | with_unfolding_all rfl)) (sss_cons (ss_ret (se_var C n2_2 (Or.inl l2_2)))
      sss_nil) sss_nil)
      (sss_cons (ss_set C n2_6 (Or.inl l2_6) (se_call C (hf_compare.fn hr) g2_compare (ses_cons (se_var C n2_3 (Or.inl l2_3)) (ses_cons (se_var C n2_5 (Or.inl l2_5)) ses_nil))))
      (sss_cons (ss_if (st_cmp C .ne (se_var C n2_6 (Or.inl l2_6)) se_int (by first | rfl | with_unfolding_all rfl)) (sss_cons (ss_ret (Rf.PE.new (se_bin C .mul (se_var C n2_6 (Or.inl l2_6)) (se_var C n2_2 (Or.inl l2_2)))))
      sss_nil) sss_nil)
      sss_nil)))))
      (sss_cons (ss_if (st_cmp C .gt (se_flat rfl (se_bltB C (cl_len C.calm) g2_len z_len (by decide +kernel) (ses_cons (se_var C n2_0 (Or.inl l2_0)) ses_nil))) (se_flat rfl (se_bltB C (cl_len C.calm) g2_len z_len (by decide +kernel) (ses_cons (se_var C n2_1 (Or.inl l2_1)) ses_nil))) (by first | rfl | with_unfolding_all rfl)) (sss_cons (ss_ret (se_idx C (se_idx C (se_var C n2_0 (Or.inl l2_0)) (se_flat rfl (se_bltB C (cl_len C.calm) g2_len z_len (by decide +kernel) (ses_cons (se_var C n2_1 (Or.inl l2_1)) ses_nil))) (fun _ _ => rfl)) se_int (fun _ _ => rfl)))
      sss_nil) sss_nil)
      (sss_cons (ss_ret (se_neg (se_idx C (se_idx C (se_var C n2_1 (Or.inl l2_1)) (se_flat rfl (se_bltB C (cl_len C.calm) g2_len z_len (by decide +kernel) (ses_cons (se_var C n2_0 (Or.inl l2_0)) ses_nil))) (fun _ _ => rfl)) se_int (fun _ _ => rfl))))
      sss_nil))))
theorem w3 (z_len : mg "len" = none) : Walk pr w K mg base ca N3 "sign_of" s3 n (execs (phi TB F n) F b3) := fun A sA HA a fA cdv outer xe h0 av avok W hr C =>
    (sss_cons (ss_if (st_cmp C .eq (se_flat rfl (se_bltB C (cl_len C.calm) g3_len z_len (by decide +kernel) (ses_cons (se_var C n3_0 (Or.inl l3_0)) ses_nil))) se_int (by first | rfl | with_unfolding_all rfl)) (sss_cons (ss_ret se_int)
      sss_nil) sss_nil)
      (sss_cons (ss_ret (se_idx C (se_idx C (se_var C n3_0 (Or.inl l3_0)) se_int (fun _ _ => rfl)) se_int (fun _ _ => rfl)))
      sss_nil))
theorem w4 (hf_compare : Good pr w K mg base ca TB F "compare" 2 n) (z_len : mg "len" = none) : Walk pr w K mg base ca N4 "in_order" s4 n (execs (phi TB F n) F b4) := fun A sA HA a fA cdv outer xe h0 av avok W hr C =>
    (sss_cons (ss_own C n4_1 (Or.inl l4_1) (se_lst (by decide) ses_nil))
      (sss_cons (ss_for C (si_lst C (se_var C n4_0 (Or.inl l4_0))) (sg_nm C.hN C.nd n4_2 (Or.inl l4_2) (by first | exact .inl rfl | exact .inr rfl)) (fun _ _ C => (sss_cons (ss_set C n4_3 (Or.inl l4_3) se_int)
      (sss_cons (ss_set C n4_4 (Or.inl l4_4) (se_flat rfl (se_bltB C (cl_len C.calm) g4_len z_len (by decide +kernel) (ses_cons (se_vw C n4_1 (Or.inl l4_1) (by decide)) ses_nil))))
      (sss_cons (ss_while C (st_cmp C .lt (se_var C n4_3 (Or.inl l4_3)) (se_var C n4_4 (Or.inl l4_4)) (by first | rfl | with_unfolding_all rfl)) (sss_cons (ss_set C n4_5 (Or.inl l4_5) (Rf.PE.new (se_bin C .fdiv (Rf.PE.new (se_bin C .add (se_var C n4_3 (Or.inl l4_3)) (se_var C n4_4 (Or.inl l4_4)))) se_int)))
      (sss_cons (ss_if (st_cmp C .lt (se_call C (hf_compare.fn hr) g4_compare (ses_cons (se_idx C (se_vw C n4_1 (Or.inl l4_1) (by decide)) (se_var C n4_5 (Or.inl l4_5)) (fun _ _ => rfl)) (ses_cons (se_var C n4_2 (Or.inl l4_2)) ses_nil))) se_int (by first | rfl | with_unfolding_all rfl)) (sss_cons (ss_set C n4_3 (Or.inl l4_3) (Rf.PE.new (se_bin C .add (se_var C n4_5 (Or.inl l4_5)) se_int)))
      sss_nil) (sss_cons (ss_set C n4_4 (Or.inl l4_4) (se_var C n4_5 (Or.inl l4_5)))
      sss_nil))
      sss_nil)))
      (sss_cons (ss_ins C n4_1 (Or.inl l4_1) (se_var C n4_3 (Or.inl l4_3)) (se_var C n4_2 (Or.inl l4_2)))
      sss_nil))))))
      (sss_cons (ss_ret (se_vw C n4_1 (Or.inl l4_1) (by decide)))
      sss_nil)))
theorem w5 (hf_in_order : Good pr w K mg base ca TB F "in_order" 4 n) (hf_next_of : Good pr w K mg base ca TB F "next_of" 7 n) (hf_sign_at : GoodN pr w K mg base ca TB F "sign_at" 6 n) (z_len : mg "len" = none) (z_list : mg "list" = none) (z_tuple : mg "tuple" = none) : Walk pr w K mg base ca N5 "gathered" s5 n (execs (phi TB F n) F b5) := fun A sA HA a fA cdv outer xe h0 av avok W hr C =>
    (sss_cons (ss_nowe C n5_1 (Or.inl l5_1))
      (sss_cons (ss_for C (si_lst C (se_var C n5_0 (Or.inl l5_0))) (sg_tp C.calm rfl (sgs_cons (sg_nm C.hN C.nd n5_2 (Or.inl l5_2) (by first | exact .inl rfl | exact .inr rfl)) (sgs_cons (sg_nm C.hN C.nd n5_3 (Or.inl l5_3) (by first | exact .inl rfl | exact .inr rfl)) sgs_nil))) (fun _ _ C => (sss_cons (ss_nset C n5_1 (Or.inl l5_1) (Rf.PE.new (se_bin C .add (se_ngetd C n5_1 (Or.inl l5_1) (se_var C n5_3 (Or.inl l5_3)) se_int) (se_var C n5_2 (Or.inl l5_2)))) (se_var C n5_3 (Or.inl l5_3)))
      sss_nil)))
      (sss_cons (ss_own C n5_4 (Or.inl l5_4) (se_revL C (se_call C (hf_in_order.fn hr) g5_in_order (ses_cons (Rf.PE.new (se_nkeys C n5_1 (Or.inl l5_1) g5_list z_list (by decide +kernel))) ses_nil))))
      (sss_cons (ss_own C n5_5 (Or.inl l5_5) (se_lst (by decide) ses_nil))
      (sss_cons (ss_set C n5_2 (Or.inl l5_2) se_int)
      (sss_cons (ss_set C n5_3 (Or.inl l5_3) (se_tup (by decide) ses_nil))
      (sss_cons (ss_while C (PW.pt (st_or (st_cmp C .gt (se_flat rfl (se_bltB C (cl_len C.calm) g5_len z_len (by decide +kernel) (ses_cons (se_vw C n5_4 (Or.inl l5_4) (by decide)) ses_nil))) se_int (by first | rfl | with_unfolding_all rfl)) (st_or1 (st_cmp C .ne (se_var C n5_2 (Or.inl l5_2)) se_int (by first | rfl | with_unfolding_all rfl))))) (sss_cons (ss_if (PW.pt (st_and (st_cmp C .gt (se_flat rfl (se_bltB C (cl_len C.calm) g5_len z_len (by decide +kernel) (ses_cons (se_vw C n5_4 (Or.inl l5_4) (by decide)) ses_nil))) se_int (by first | rfl | with_unfolding_all rfl)) (st_and1 (PW.pt (st_or (st_cmp C .eq (se_var C n5_2 (Or.inl l5_2)) se_int (by first | rfl | with_unfolding_all rfl)) (st_or1 (st_cmp C .eq (se_idx C (se_vw C n5_4 (Or.inl l5_4) (by decide)) (se_neg se_int) (fun _ _ => rfl)) (se_var C n5_3 (Or.inl l5_3)) (by first | rfl | with_unfolding_all rfl)))))))) (sss_cons (ss_popto C n5_4 (Or.inl l5_4) n5_3 (Or.inl l5_3))
      (sss_cons (ss_aug C .add nofun n5_2 (Or.inl l5_2) (se_nget C n5_1 (Or.inl l5_1) (se_var C n5_3 (Or.inl l5_3)) (fun _ _ => rfl)))
      sss_nil)) sss_nil)
      (sss_cons (ss_if (st_cmp C .eq (Rf.PE.new (se_bin C .mod (se_var C n5_2 (Or.inl l5_2)) se_int)) se_int (by first | rfl | with_unfolding_all rfl)) (sss_cons (ss_set C n5_6 (Or.inl l5_6) (se_calln C (hf_sign_at.fn hr) g5_sign_at n5_1 (Or.inl l5_1) (se_var C n5_2 (Or.inl l5_2)) (se_var C n5_3 (Or.inl l5_3)) (se_vw C n5_4 (Or.inl l5_4) (by decide))))
      (sss_cons (ss_app C n5_5 (Or.inl l5_5) (se_tup (by decide) (ses_cons (se_var C n5_6 (Or.inl l5_6)) (ses_cons (se_var C n5_3 (Or.inl l5_3)) ses_nil))))
      (sss_cons (ss_aug C .sub nofun n5_2 (Or.inl l5_2) (se_var C n5_6 (Or.inl l5_6)))
      sss_nil))) sss_nil)
      (sss_cons (ss_if (st_cmp C .ne (se_var C n5_2 (Or.inl l5_2)) se_int (by first | rfl | with_unfolding_all rfl)) (sss_cons (ss_aug C .fdiv nofun n5_2 (Or.inl l5_2) se_int)
      (sss_cons (ss_set C n5_3 (Or.inl l5_3) (se_call C (hf_next_of.fn hr) g5_next_of (ses_cons (se_var C n5_3 (Or.inl l5_3)) ses_nil)))
      sss_nil)) sss_nil)
      sss_nil))))
      (sss_cons (ss_ret (Rf.PE.new (se_bltT C (cl_tuple) g5_tuple z_tuple (by decide +kernel) (ses_cons (Rf.PE.new (se_revL C (se_vw C n5_5 (Or.inl l5_5) (by decide)))) ses_nil))))
      sss_nil))))))))
theorem w6 (hf_next_of : Good pr w K mg base ca TB F "next_of" 7 n) (z_len : mg "len" = none) : Walk pr w K mg base ca N6 "sign_at" s6 n (execs (phi TB F n) F bw6) := fun A sA HA a fA cdv outer xe h0 av avok W hr C =>
    (sss_cons (ss_if (PW.pt (st_and (st_cmp C .gt (se_flat rfl (se_bltB C (cl_len C.calm) g6_len z_len (by decide +kernel) (ses_cons (se_var C n6_3 (Or.inl l6_3)) ses_nil))) se_int (by first | rfl | with_unfolding_all rfl)) (st_and1 (st_cmp C .eq (se_idx C (se_var C n6_3 (Or.inl l6_3)) (se_neg se_int) (fun _ _ => rfl)) (se_call C (hf_next_of.fn hr) g6_next_of (ses_cons (se_var C n6_1 (Or.inl l6_1)) ses_nil)) (by first | rfl | with_unfolding_all rfl))))) (sss_cons (ss_aug C .add nofun n6_0 (Or.inl l6_0) (Rf.PE.new (se_bin C .mul se_int (se_nget C n6_2 (Or.inl l6_2) (se_idx C (se_var C n6_3 (Or.inl l6_3)) (se_neg se_int) (fun _ _ => rfl)) (fun _ _ => rfl)))))
      sss_nil) sss_nil)
      (sss_cons (ss_if (st_cmp C .eq (Rf.PE.new (se_bin C .mod (se_var C n6_0 (Or.inl l6_0)) se_int)) se_int (by first | rfl | with_unfolding_all rfl)) (sss_cons (ss_ret se_int)
      sss_nil) sss_nil)
      (sss_cons (ss_ret (se_neg se_int))
      sss_nil)))
theorem w7 (hf_gathered : Good pr w K mg base ca TB F "gathered" 5 n) (z_list : mg "list" = none) : Walk pr w K mg base ca N7 "next_of" s7 n (execs (phi TB F n) F b7) := fun A sA HA a fA cdv outer xe h0 av avok W hr C =>
    (sss_cons (ss_ret (se_call C (hf_gathered.fn hr) g7_gathered (ses_cons (Rf.PE.new (se_bin C .add (Rf.PE.new (se_bltT C (cl_list C.calm) g7_list z_list (by decide +kernel) (ses_cons (se_var C n7_0 (Or.inl l7_0)) ses_nil))) (Rf.PE.new (se_lst (by decide) (ses_cons (se_tup (by decide) (ses_cons se_int (ses_cons (se_tup (by decide) ses_nil) ses_nil))) ses_nil))))) ses_nil)))
      sss_nil)
theorem w8 {k_MAX_HEIGHT : Tok} (c_MAX_HEIGHT : mg "MAX_HEIGHT" = some (.int 40 k_MAX_HEIGHT)) {k_MAX_SIZE : Tok} (c_MAX_SIZE : mg "MAX_SIZE" = some (.int 300 k_MAX_SIZE)) (hf_height_of : Good pr w K mg base ca TB F "height_of" 1 n) (hf_size_of : Good pr w K mg base ca TB F "size_of" 0 n) : Walk pr w K mg base ca N8 "is_allowed" s8 n (execs (phi TB F n) F b8) := fun A sA HA a fA cdv outer xe h0 av avok W hr C =>
    (sss_cons (ss_ret (se_and (se_cmp C .le (se_call C (hf_size_of.fn hr) g8_size_of (ses_cons (se_var C n8_0 (Or.inl l8_0)) ses_nil)) (se_globI g8_MAX_SIZE c_MAX_SIZE) (by first | rfl | with_unfolding_all rfl)) (se_one (se_cmp C .le (se_call C (hf_height_of.fn hr) g8_height_of (ses_cons (se_var C n8_0 (Or.inl l8_0)) ses_nil)) (se_globI g8_MAX_HEIGHT c_MAX_HEIGHT) (by first | rfl | with_unfolding_all rfl)))))
      sss_nil)
theorem w9 (hf_is_allowed : Good pr w K mg base ca TB F "is_allowed" 8 n) (x_TooLarge : XFull K mg "TooLarge" (ca 3)) : Walk pr w K mg base ca N9 "allowed" s9 n (execs (phi TB F n) F b9) := fun A sA HA a fA cdv outer xe h0 av avok W hr C =>
    (sss_cons (ss_if (st_not (st_val (se_call C (hf_is_allowed.fn hr) g9_is_allowed (ses_cons (se_var C n9_0 (Or.inl l9_0)) ses_nil)))) (sss_cons (ss_raise C (pm_own x_TooLarge.toXCls g9_TooLarge))
      sss_nil) sss_nil)
      (sss_cons (ss_ret (se_var C n9_0 (Or.inl l9_0)))
      sss_nil))
theorem w10 (hf_gathered : Good pr w K mg base ca TB F "gathered" 5 n) (z_list : mg "list" = none) : Walk pr w K mg base ca N10 "plus" s10 n (execs (phi TB F n) F b10) := fun A sA HA a fA cdv outer xe h0 av avok W hr C =>
    (sss_cons (ss_ret (se_call C (hf_gathered.fn hr) g10_gathered (ses_cons (Rf.PE.new (se_bin C .add (Rf.PE.new (se_bltT C (cl_list C.calm) g10_list z_list (by decide +kernel) (ses_cons (se_var C n10_0 (Or.inl l10_0)) ses_nil))) (Rf.PE.new (se_bltT C (cl_list C.calm) g10_list z_list (by decide +kernel) (ses_cons (se_var C n10_1 (Or.inl l10_1)) ses_nil))))) ses_nil)))
      sss_nil)
theorem w11 (hf_plus : Good pr w K mg base ca TB F "plus" 10 n) (hf_sign_of : Good pr w K mg base ca TB F "sign_of" 3 n) (x_BadRange : XFull K mg "BadRange" (ca 2)) (z_len : mg "len" = none) (z_tuple : mg "tuple" = none) : Walk pr w K mg base ca N11 "shifted" s11 n (execs (phi TB F n) F b11) := fun A sA HA a fA cdv outer xe h0 av avok W hr C =>
    (sss_cons (by first | exact ss_lc C n11_2 l11_2 (by exact sw_true rfl rfl rfl (by decide +kernel)) (own := [("sign", 3), ("exponent", 4)]) (si_tup C (se_var C n11_0 (Or.inl l11_0))) rfl (blkOk_by (N := N11) (sc := defScope s11) (by decide +kernel)) (fun _ _ _ _ _ _ C => (sg_tp C.calm rfl (sgs_cons (sg_nm C.hN C.nd n11_3 (by first | exact Or.inl rfl | exact Or.inr rfl) (by first | exact .inl rfl | exact .inr rfl)) (sgs_cons (sg_nm C.hN C.nd n11_4 (by first | exact Or.inl rfl | exact Or.inr rfl) (by first | exact .inl rfl | exact .inr rfl)) sgs_nil)))) (fun _ _ _ _ _ _ _ _ C => sf_nil) (fun _ _ _ _ _ _ _ _ C => (se_tup (by decide) (ses_cons (se_var C n11_3 (by first | exact Or.inl rfl | exact Or.inr (Or.inl rfl) | exact Or.inr (Or.inr rfl))) (ses_cons (se_call C (hf_plus.fn hr) (by rfl) (ses_cons (se_var C n11_4 (by first | exact Or.inl rfl | exact Or.inr (Or.inl rfl) | exact Or.inr (Or.inr rfl))) (ses_cons (se_var C n11_1 (by first | exact Or.inl rfl | exact Or.inr (Or.inl rfl) | exact Or.inr (Or.inr rfl))) ses_nil))) ses_nil)))) (fun _ _ _ h => asgN_of h) | exact ss_set C n11_2 (Or.inl l11_2) (Rf.PE.new (se_comp C (own := [("sign", 3), ("exponent", 4)]) (si_tup C (se_var C n11_0 (Or.inl l11_0))) rfl (blkOk_by (N := N11) (sc := defScope s11) (by decide +kernel)) (fun _ _ _ _ _ _ C => (sg_tp C.calm rfl (sgs_cons (sg_nm C.hN C.nd n11_3 (by first | exact Or.inl rfl | exact Or.inr rfl) (by first | exact .inl rfl | exact .inr rfl)) (sgs_cons (sg_nm C.hN C.nd n11_4 (by first | exact Or.inl rfl | exact Or.inr rfl) (by first | exact .inl rfl | exact .inr rfl)) sgs_nil)))) (fun _ _ _ _ _ _ _ _ C => sf_nil) (fun _ _ _ _ _ _ _ _ C => (se_tup (by decide) (ses_cons (se_var C n11_3 (by first | exact Or.inl rfl | exact Or.inr (Or.inl rfl) | exact Or.inr (Or.inr rfl))) (ses_cons (se_call C (hf_plus.fn hr) (by rfl) (ses_cons (se_var C n11_4 (by first | exact Or.inl rfl | exact Or.inr (Or.inl rfl) | exact Or.inr (Or.inr rfl))) (ses_cons (se_var C n11_1 (by first | exact Or.inl rfl | exact Or.inr (Or.inl rfl) | exact Or.inr (Or.inr rfl))) ses_nil))) ses_nil)))))))
      (sss_cons (ss_if (PW.pt (st_and (st_cmp C .gt (se_flat rfl (se_bltB C (cl_len C.calm) g11_len z_len (by decide +kernel) (ses_cons (se_var C n11_2 (Or.inl l11_2)) ses_nil))) se_int (by first | rfl | with_unfolding_all rfl)) (st_and1 (st_cmp C .lt (se_call C (hf_sign_of.fn hr) g11_sign_of (ses_cons (se_idx C (se_idx C (se_var C n11_2 (Or.inl l11_2)) (se_neg se_int) (fun _ _ => rfl)) se_int (fun _ _ => rfl)) ses_nil)) se_int (by first | rfl | with_unfolding_all rfl))))) (sss_cons (ss_raise C (pm_own x_BadRange.toXCls g11_BadRange))
      sss_nil) sss_nil)
      (sss_cons (ss_ret (Rf.PE.new (se_bltT C (cl_tuple) g11_tuple z_tuple (by decide +kernel) (ses_cons (se_var C n11_2 (Or.inl l11_2)) ses_nil))))
      sss_nil)))
theorem w12 (hf_allowed : Good pr w K mg base ca TB F "allowed" 9 n) (hf_shifted : Good pr w K mg base ca TB F "shifted" 11 n) : Walk pr w K mg base ca N12 "shift" s12 n (execs (phi TB F n) F b12) := fun A sA HA a fA cdv outer xe h0 av avok W hr C =>
    (sss_cons (ss_ret (se_call C (hf_allowed.fn hr) g12_allowed (ses_cons (se_call C (hf_shifted.fn hr) g12_shifted (ses_cons (se_var C n12_0 (Or.inl l12_0)) (ses_cons (se_var C n12_1 (Or.inl l12_1)) ses_nil))) ses_nil)))
      sss_nil)
theorem w13 (z_int : mg "int" = none) (z_len : mg "len" = none) (z_range : mg "range" = none) : Walk pr w K mg base ca N13 "_law_stream" s13 n (execs (phi TB F n) F b13) := fun A sA HA a fA cdv outer xe h0 av avok W hr C =>
    (sss_cons (ss_own C n13_1 (Or.inl l13_1) (se_lst (by decide) ses_nil))
      (sss_cons (ss_for C (si_lst C (Rf.PE.new (se_sl C (se_var C n13_0 (Or.inl l13_0)) so_none (so_some se_int)))) (sg_nm C.hN C.nd n13_2 (Or.inl l13_2) (by first | exact .inl rfl | exact .inr rfl)) (fun _ _ C => (sss_cons (ss_set C n13_3 (Or.inl l13_3) (se_flat rfl (se_bltT C (cl_int) g13_int z_int (by decide +kernel) (ses_cons (se_var C n13_2 (Or.inl l13_2)) ses_nil))))
      (sss_cons (ss_if (st_cmp C .ge (se_var C n13_3 (Or.inl l13_3)) (Rf.PE.new (se_bin C .pow se_int se_int)) (by first | rfl | with_unfolding_all rfl)) (sss_cons (ss_for C (si_rng1 g13_range z_range (ses_cons se_int ses_nil)) (sg_nm C.hN C.nd n13_4 (Or.inl l13_4) (by first | exact .inl rfl | exact .inr rfl)) (fun _ _ C => (sss_cons (ss_app C n13_1 (Or.inl l13_1) (Rf.PE.new (se_bin C .mod (se_flat rfl (se_bltT C (cl_int) g13_int z_int (by decide +kernel) (ses_cons (se_var C n13_3 (Or.inl l13_3)) ses_nil))) se_int)))
      (sss_cons (ss_set C n13_3 (Or.inl l13_3) (Rf.PE.new (se_bin C .fdiv (se_var C n13_3 (Or.inl l13_3)) se_int)))
      (sss_cons (ss_if (st_cmp C .eq (se_var C n13_3 (Or.inl l13_3)) se_int (by first | rfl | with_unfolding_all rfl)) (sss_cons ss_brk
      sss_nil) sss_nil)
      sss_nil)))))
      sss_nil) (sss_cons (ss_set C n13_5 (Or.inl l13_5) (Rf.PE.new (se_bin C .mod (se_flat rfl (se_bltT C (cl_int) g13_int z_int (by decide +kernel) (ses_cons (se_var C n13_3 (Or.inl l13_3)) ses_nil))) se_int)))
      (sss_cons (ss_for C (si_rng1 g13_range z_range (ses_cons se_int ses_nil)) (sg_nm C.hN C.nd n13_4 (Or.inl l13_4) (by first | exact .inl rfl | exact .inr rfl)) (fun _ _ C => (sss_cons (ss_set C n13_5 (Or.inl l13_5) (Rf.PE.new (se_bin C .mod (se_flat rfl (se_bltT C (cl_int) g13_int z_int (by decide +kernel) (ses_cons (Rf.PE.new (se_bin C .add (Rf.PE.new (se_bin C .add (Rf.PE.new (se_bin C .mul (se_var C n13_5 (Or.inl l13_5)) se_int)) (Rf.PE.new (se_bin C .mul se_int (se_var C n13_4 (Or.inl l13_4)))))) se_int)) ses_nil))) se_int)))
      (sss_cons (ss_app C n13_1 (Or.inl l13_1) (Rf.PE.new (se_bin C .mod (Rf.PE.new (se_bin C .mod (se_flat rfl (se_bltT C (cl_int) g13_int z_int (by decide +kernel) (ses_cons (Rf.PE.new (se_bin C .add (Rf.PE.new (se_bin C .mul (se_var C n13_5 (Or.inl l13_5)) se_int)) (se_var C n13_4 (Or.inl l13_4)))) ses_nil))) se_int)) se_int)))
      sss_nil))))
      sss_nil)))
      sss_nil))))
      (sss_cons (ss_if (st_cmp C .eq (se_flat rfl (se_bltB C (cl_len C.calm) g13_len z_len (by decide +kernel) (ses_cons (se_vw C n13_1 (Or.inl l13_1) (by decide)) ses_nil))) se_int (by first | rfl | with_unfolding_all rfl)) (sss_cons (ss_app C n13_1 (Or.inl l13_1) se_int)
      sss_nil) sss_nil)
      (sss_cons (ss_ret (se_vw C n13_1 (Or.inl l13_1) (by decide)))
      sss_nil))))
theorem w14 (z_int : mg "int" = none) (z_len : mg "len" = none) : Walk pr w K mg base ca N14 "_law_pick" s14 n (execs (phi TB F n) F b14) := fun A sA HA a fA cdv outer xe h0 av avok W hr C =>
    (sss_cons (ss_ret (Rf.PE.new (se_bin C .mod (se_flat rfl (se_bltT C (cl_int) g14_int z_int (by decide +kernel) (ses_cons (se_idx C (se_var C n14_0 (Or.inl l14_0)) (Rf.PE.new (se_bin C .mod (se_var C n14_1 (Or.inl l14_1)) (se_flat rfl (se_bltB C (cl_len C.calm) g14_len z_len (by decide +kernel) (ses_cons (se_var C n14_0 (Or.inl l14_0)) ses_nil))))) (fun _ _ => rfl)) ses_nil))) (se_var C n14_2 (Or.inl l14_2)))))
      sss_nil)
theorem w15 (z_range : mg "range" = none) : Walk pr w K mg base ca N15 "_law_two" s15 n (execs (phi TB F n) F b15) := fun A sA HA a fA cdv outer xe h0 av avok W hr C =>
    (sss_cons (ss_set C n15_1 (Or.inl l15_1) se_int)
      (sss_cons (ss_for C (si_rng1 g15_range z_range (ses_cons (se_var C n15_0 (Or.inl l15_0)) ses_nil)) (sg_nm C.hN C.nd n15_2 (Or.inl l15_2) (by first | exact .inl rfl | exact .inr rfl)) (fun _ _ C => (sss_cons (ss_set C n15_1 (Or.inl l15_1) (Rf.PE.new (se_bin C .mul (se_var C n15_1 (Or.inl l15_1)) se_int)))
      sss_nil)))
      (sss_cons (ss_ret (se_var C n15_1 (Or.inl l15_1)))
      sss_nil)))
theorem w16 (hf__law_of : Good pr w K mg base ca TB F "_law_of" 16 n) (z_int : mg "int" = none) (z_len : mg "len" = none) (z_range : mg "range" = none) (z_tuple : mg "tuple" = none) : Walk pr w K mg base ca N16 "_law_of" s16 n (execs (phi TB F n) F b16) := fun A sA HA a fA cdv outer xe h0 av avok W hr C =>
    (sss_cons (ss_own C n16_1 (Or.inr l16_1) (se_lst (by decide) ses_nil))
      (sss_cons (ss_set C n16_2 (Or.inl l16_2) se_int)
      (sss_cons (ss_set C n16_3 (Or.inl l16_3) (se_var C n16_0 (Or.inl l16_0)))
      (sss_cons (ss_for C (si_rng1 g16_range z_range (ses_cons se_int ses_nil)) (sg_nm C.hN C.nd n16_4 (Or.inl l16_4) (by first | exact .inl rfl | exact .inr rfl)) (fun _ _ C => (sss_cons (ss_if (st_cmp C .eq (se_var C n16_3 (Or.inl l16_3)) se_int (by first | rfl | with_unfolding_all rfl)) (sss_cons ss_brk
      sss_nil) sss_nil)
      (sss_cons (ss_if (st_cmp C .eq (Rf.PE.new (se_bin C .mod (se_flat rfl (se_bltT C (cl_int) g16_int z_int (by decide +kernel) (ses_cons (se_var C n16_3 (Or.inl l16_3)) ses_nil))) se_int)) se_int (by first | rfl | with_unfolding_all rfl)) (sss_cons (ss_set C n16_5 (Or.inl l16_5) (Rf.PE.new (se_bin C .sub se_int (Rf.PE.new (se_bin C .mod (se_flat rfl (se_bltT C (cl_int) g16_int z_int (by decide +kernel) (ses_cons (se_var C n16_3 (Or.inl l16_3)) ses_nil))) se_int)))))
      (sss_cons (ss_app C n16_1 (Or.inr (Or.inl l16_1)) (se_tup (by decide) (ses_cons (se_var C n16_5 (Or.inl l16_5)) (ses_cons (se_call C (hf__law_of.fn hr) g16__law_of (ses_cons (se_var C n16_2 (Or.inl l16_2)) ses_nil)) ses_nil))))
      (sss_cons (ss_set C n16_3 (Or.inl l16_3) (Rf.PE.new (se_bin C .sub (se_var C n16_3 (Or.inl l16_3)) (se_var C n16_5 (Or.inl l16_5)))))
      sss_nil))) sss_nil)
      (sss_cons (ss_set C n16_3 (Or.inl l16_3) (Rf.PE.new (se_bin C .fdiv (se_var C n16_3 (Or.inl l16_3)) se_int)))
      (sss_cons (ss_set C n16_2 (Or.inl l16_2) (Rf.PE.new (se_bin C .add (se_var C n16_2 (Or.inl l16_2)) se_int)))
      sss_nil))))))
      (sss_cons (ss_ret (Rf.PE.new (se_bltT C (cl_tuple) g16_tuple z_tuple (by decide +kernel) (ses_cons (Rf.PE.new (Rf.PE.modeN (se_comp C (own := [("_law_k", 4)]) (si_rng1 g16_range z_range (ses_cons (se_flat rfl (se_bltB C (cl_len C.calm) g16_len z_len (by decide +kernel) (ses_cons (se_vw C n16_1 (Or.inr (Or.inl l16_1)) (by decide)) ses_nil))) ses_nil)) rfl (blkOk_by (N := N16) (sc := defScope s16) (by decide +kernel)) (fun _ _ _ _ _ _ C => (sg_nm C.hN C.nd n16_4 (by first | exact Or.inl rfl | exact Or.inr rfl) (by first | exact .inl rfl | exact .inr rfl))) (fun _ _ _ _ _ _ _ _ C => sf_nil) (fun _ _ _ _ _ _ _ _ C => (se_idx C (se_vw C n16_1 (by first | exact Or.inl rfl | exact Or.inr (Or.inl rfl) | exact Or.inr (Or.inr rfl)) (by decide)) (Rf.PE.new (se_bin C .sub (Rf.PE.new (se_bin C .sub (se_flat rfl (se_bltB C (cl_len C.calm) (by rfl) z_len (by decide +kernel) (ses_cons (se_vw C n16_1 (by first | exact Or.inl rfl | exact Or.inr (Or.inl rfl) | exact Or.inr (Or.inr rfl)) (by decide)) ses_nil))) se_int)) (se_var C n16_4 (by first | exact Or.inl rfl | exact Or.inr (Or.inl rfl) | exact Or.inr (Or.inr rfl))))) (fun _ _ => rfl)))))) ses_nil))))
      sss_nil)))))
theorem w17 (hf__law_size : Good pr w K mg base ca TB F "_law_size" 17 n) (z_sum : mg "sum" = none) : Walk pr w K mg base ca N17 "_law_size" s17 n (execs (phi TB F n) F b17) := fun A sA HA a fA cdv outer xe h0 av avok W hr C =>
    (sss_cons (ss_ret (Rf.PE.new (se_bin C .add se_int (se_flat rfl (se_bltB C (cl_sum C.calm) g17_sum z_sum (by decide +kernel) (ses_cons (Rf.PE.new (Rf.PE.modeN (se_comp C (own := [("_law_term", 1)]) (si_tup C (se_var C n17_0 (Or.inl l17_0))) rfl (blkOk_by (N := N17) (sc := defScope s17) (by decide +kernel)) (fun _ _ _ _ _ _ C => (sg_nm C.hN C.nd n17_1 (by first | exact Or.inl rfl | exact Or.inr rfl) (by first | exact .inl rfl | exact .inr rfl))) (fun _ _ _ _ _ _ _ _ C => sf_nil) (fun _ _ _ _ _ _ _ _ C => (se_call C (hf__law_size.fn hr) (by rfl) (ses_cons (se_idx C (se_var C n17_1 (by first | exact Or.inl rfl | exact Or.inr (Or.inl rfl) | exact Or.inr (Or.inr rfl))) se_int (fun _ _ => rfl)) ses_nil)))))) ses_nil))))))
      sss_nil)
theorem w18 (hf__law_height : Good pr w K mg base ca TB F "_law_height" 18 n) (z_max : mg "max" = none) : Walk pr w K mg base ca N18 "_law_height" s18 n (execs (phi TB F n) F b18) := fun A sA HA a fA cdv outer xe h0 av avok W hr C =>
    (sss_cons (ss_ret (se_flat rfl (se_bltB C (cl_max C.calm) g18_max z_max (by decide +kernel) (ses_cons (Rf.PE.new (se_bin C .add (Rf.PE.new (se_lst (by decide) (ses_cons se_int ses_nil))) (Rf.PE.new (Rf.PE.modeN (se_comp C (own := [("_law_term", 1)]) (si_tup C (se_var C n18_0 (Or.inl l18_0))) rfl (blkOk_by (N := N18) (sc := defScope s18) (by decide +kernel)) (fun _ _ _ _ _ _ C => (sg_nm C.hN C.nd n18_1 (by first | exact Or.inl rfl | exact Or.inr rfl) (by first | exact .inl rfl | exact .inr rfl))) (fun _ _ _ _ _ _ _ _ C => sf_nil) (fun _ _ _ _ _ _ _ _ C => (Rf.PE.new (se_bin C .add se_int (se_call C (hf__law_height.fn hr) (by rfl) (ses_cons (se_idx C (se_var C n18_1 (by first | exact Or.inl rfl | exact Or.inr (Or.inl rfl) | exact Or.inr (Or.inr rfl))) se_int (fun _ _ => rfl)) ses_nil)))))))))) ses_nil))))
      sss_nil)
theorem w19 (hf__law_height : Good pr w K mg base ca TB F "_law_height" 18 n) (hf__law_size : Good pr w K mg base ca TB F "_law_size" 17 n) : Walk pr w K mg base ca N19 "_law_fits" s19 n (execs (phi TB F n) F b19) := fun A sA HA a fA cdv outer xe h0 av avok W hr C =>
    (sss_cons (ss_ret (se_and (se_cmp C .le (se_call C (hf__law_size.fn hr) g19__law_size (ses_cons (se_var C n19_0 (Or.inl l19_0)) ses_nil)) se_int (by first | rfl | with_unfolding_all rfl)) (se_one (se_cmp C .le (se_call C (hf__law_height.fn hr) g19__law_height (ses_cons (se_var C n19_0 (Or.inl l19_0)) ses_nil)) se_int (by first | rfl | with_unfolding_all rfl)))))
      sss_nil)
theorem w20 (hf__law_pick : Good pr w K mg base ca TB F "_law_pick" 14 n) (hf__law_two : Good pr w K mg base ca TB F "_law_two" 15 n) : Walk pr w K mg base ca N20 "_law_exponent" s20 n (execs (phi TB F n) F b20) := fun A sA HA a fA cdv outer xe h0 av avok W hr C =>
    (sss_cons (ss_set C n20_2 (Or.inl l20_2) (se_call C (hf__law_pick.fn hr) g20__law_pick (ses_cons (se_var C n20_0 (Or.inl l20_0)) (ses_cons (se_var C n20_1 (Or.inl l20_1)) (ses_cons se_int ses_nil)))))
      (sss_cons (ss_set C n20_3 (Or.inl l20_3) (se_call C (hf__law_pick.fn hr) g20__law_pick (ses_cons (se_var C n20_0 (Or.inl l20_0)) (ses_cons (Rf.PE.new (se_bin C .add (se_var C n20_1 (Or.inl l20_1)) se_int)) (ses_cons se_int ses_nil)))))
      (sss_cons (ss_if (st_cmp C .lt (se_var C n20_2 (Or.inl l20_2)) se_int (by first | rfl | with_unfolding_all rfl)) (sss_cons (ss_ret (se_var C n20_3 (Or.inl l20_3)))
      sss_nil) sss_nil)
      (sss_cons (ss_set C n20_4 (Or.inl l20_4) (se_call C (hf__law_two.fn hr) g20__law_two (ses_cons (Rf.PE.new (se_bin C .add se_int (se_call C (hf__law_pick.fn hr) g20__law_pick (ses_cons (se_var C n20_0 (Or.inl l20_0)) (ses_cons (Rf.PE.new (se_bin C .add (se_var C n20_1 (Or.inl l20_1)) se_int)) (ses_cons se_int ses_nil)))))) ses_nil)))
      (sss_cons (ss_if (st_cmp C .eq (se_var C n20_2 (Or.inl l20_2)) se_int (by first | rfl | with_unfolding_all rfl)) (sss_cons (ss_ret (Rf.PE.new (se_bin C .add (se_var C n20_4 (Or.inl l20_4)) (se_var C n20_3 (Or.inl l20_3)))))
      sss_nil) sss_nil)
      (sss_cons (ss_if (st_cmp C .eq (se_var C n20_2 (Or.inl l20_2)) se_int (by first | rfl | with_unfolding_all rfl)) (sss_cons (ss_ret (Rf.PE.new (se_bin C .sub (se_var C n20_4 (Or.inl l20_4)) (se_var C n20_3 (Or.inl l20_3)))))
      sss_nil) sss_nil)
      (sss_cons (ss_ret (Rf.PE.new (se_bin C .sub (Rf.PE.new (se_bin C .add (se_var C n20_4 (Or.inl l20_4)) (se_call C (hf__law_two.fn hr) g20__law_two (ses_cons (se_call C (hf__law_pick.fn hr) g20__law_pick (ses_cons (se_var C n20_0 (Or.inl l20_0)) (ses_cons (Rf.PE.new (se_bin C .add (se_var C n20_1 (Or.inl l20_1)) se_int)) (ses_cons se_int ses_nil)))) ses_nil)))) (Rf.PE.new (se_bin C .mod (se_var C n20_3 (Or.inl l20_3)) se_int)))))
      sss_nil)))))))
theorem w21 (hf__law_exponent : Good pr w K mg base ca TB F "_law_exponent" 20 n) (hf__law_pick : Good pr w K mg base ca TB F "_law_pick" 14 n) (z_max : mg "max" = none) (z_range : mg "range" = none) : Walk pr w K mg base ca N21 "_law_model" s21 n (execs (phi TB F n) F b21) := fun A sA HA a fA cdv outer xe h0 av avok W hr C =>
    (sss_cons (ss_own C n21_3 (Or.inl l21_3) se_emp)
      (sss_cons (ss_for C (si_rng1 g21_range z_range (ses_cons (se_var C n21_2 (Or.inl l21_2)) ses_nil)) (sg_nm C.hN C.nd n21_4 (Or.inl l21_4) (by first | exact .inl rfl | exact .inr rfl)) (fun _ _ C => (sss_cons (ss_set C n21_5 (Or.inl l21_5) (se_flat rfl (se_bltB C (cl_max C.calm) g21_max z_max (by decide +kernel) (ses_cons se_int (ses_cons (se_call C (hf__law_exponent.fn hr) g21__law_exponent (ses_cons (se_var C n21_0 (Or.inl l21_0)) (ses_cons (Rf.PE.new (se_bin C .add (se_var C n21_1 (Or.inl l21_1)) (Rf.PE.new (se_bin C .mul se_int (se_var C n21_4 (Or.inl l21_4)))))) ses_nil))) ses_nil)))))
      (sss_cons (ss_setd C n21_3 (Or.inl l21_3) (Rf.PE.new (se_bin C .add (se_get C (se_vw C n21_3 (Or.inl l21_3) (by decide)) (se_var C n21_5 (Or.inl l21_5)) se_int) (se_idx C (Rf.PE.new (se_lst (by decide) (ses_cons se_int (ses_cons (se_neg se_int) (ses_cons se_int (ses_cons se_int (ses_cons (se_neg se_int) ses_nil))))))) (se_call C (hf__law_pick.fn hr) g21__law_pick (ses_cons (se_var C n21_0 (Or.inl l21_0)) (ses_cons (Rf.PE.new (se_bin C .add (Rf.PE.new (se_bin C .add (se_var C n21_1 (Or.inl l21_1)) (Rf.PE.new (se_bin C .mul se_int (se_var C n21_4 (Or.inl l21_4)))))) se_int)) (ses_cons se_int ses_nil)))) (fun _ _ => rfl)))) (se_var C n21_5 (Or.inl l21_5)))
      sss_nil))))
      (sss_cons (ss_ret (se_vw C n21_3 (Or.inl l21_3) (by decide)))
      sss_nil)))
theorem w22 (z_int : mg "int" = none) (z_len : mg "len" = none) (z_range : mg "range" = none) (z_sorted : mg "sorted" = none) : Walk pr w K mg base ca N22 "_law_rows" s22 n (execs (phi TB F n) F b22) := fun A sA HA a fA cdv outer xe h0 av avok W hr C =>
    (sss_cons (ss_set C n22_1 (Or.inl l22_1) (Rf.PE.new (se_bltB C (cl_sorted C.calm) g22_sorted z_sorted (by decide +kernel) (ses_cons (se_var C n22_0 (Or.inl l22_0)) ses_nil))))
      (sss_cons (ss_own C n22_2 (Or.inr l22_2) (se_lst (by decide) ses_nil))
      (sss_cons (ss_set C n22_3 (Or.inl l22_3) se_int)
      (sss_cons (ss_set C n22_4 (Or.inl l22_4) se_int)
      (sss_cons (ss_set C n22_5 (Or.inl l22_5) se_int)
      (sss_cons (ss_for C (si_rng1 g22_range z_range (ses_cons se_int ses_nil)) (sg_nm C.hN C.nd n22_6 (Or.inl l22_6) (by first | exact .inl rfl | exact .inr rfl)) (fun _ _ C => (sss_cons (ss_if (PW.pt (st_and (st_cmp C .eq (se_var C n22_5 (Or.inl l22_5)) (se_flat rfl (se_bltB C (cl_len C.calm) g22_len z_len (by decide +kernel) (ses_cons (se_var C n22_1 (Or.inl l22_1)) ses_nil))) (by first | rfl | with_unfolding_all rfl)) (st_and1 (st_cmp C .eq (se_var C n22_3 (Or.inl l22_3)) se_int (by first | rfl | with_unfolding_all rfl))))) (sss_cons ss_brk
      sss_nil) sss_nil)
      (sss_cons (ss_if (PW.pt (st_and (st_cmp C .lt (se_var C n22_5 (Or.inl l22_5)) (se_flat rfl (se_bltB C (cl_len C.calm) g22_len z_len (by decide +kernel) (ses_cons (se_var C n22_1 (Or.inl l22_1)) ses_nil))) (by first | rfl | with_unfolding_all rfl)) (st_and1 (PW.pt (st_or (st_cmp C .eq (se_var C n22_3 (Or.inl l22_3)) se_int (by first | rfl | with_unfolding_all rfl)) (st_or1 (st_cmp C .eq (se_idx C (se_var C n22_1 (Or.inl l22_1)) (se_var C n22_5 (Or.inl l22_5)) (fun _ _ => rfl)) (se_var C n22_4 (Or.inl l22_4)) (by first | rfl | with_unfolding_all rfl)))))))) (sss_cons (ss_set C n22_4 (Or.inl l22_4) (se_idx C (se_var C n22_1 (Or.inl l22_1)) (se_var C n22_5 (Or.inl l22_5)) (fun _ _ => rfl)))
      (sss_cons (ss_set C n22_3 (Or.inl l22_3) (Rf.PE.new (se_bin C .add (se_var C n22_3 (Or.inl l22_3)) (se_idx C (se_var C n22_0 (Or.inl l22_0)) (se_var C n22_4 (Or.inl l22_4)) (fun _ _ => rfl)))))
      (sss_cons (ss_set C n22_5 (Or.inl l22_5) (Rf.PE.new (se_bin C .add (se_var C n22_5 (Or.inl l22_5)) se_int)))
      sss_nil))) sss_nil)
      (sss_cons (ss_if (st_cmp C .eq (Rf.PE.new (se_bin C .mod (se_flat rfl (se_bltT C (cl_int) g22_int z_int (by decide +kernel) (ses_cons (se_var C n22_3 (Or.inl l22_3)) ses_nil))) se_int)) se_int (by first | rfl | with_unfolding_all rfl)) (sss_cons (ss_set C n22_7 (Or.inl l22_7) se_int)
      (sss_cons (ss_if (PW.pt (st_and (st_cmp C .lt (se_var C n22_5 (Or.inl l22_5)) (se_flat rfl (se_bltB C (cl_len C.calm) g22_len z_len (by decide +kernel) (ses_cons (se_var C n22_1 (Or.inl l22_1)) ses_nil))) (by first | rfl | with_unfolding_all rfl)) (st_and1 (st_cmp C .eq (se_idx C (se_var C n22_1 (Or.inl l22_1)) (se_var C n22_5 (Or.inl l22_5)) (fun _ _ => rfl)) (Rf.PE.new (se_bin C .add (se_var C n22_4 (Or.inl l22_4)) se_int)) (by first | rfl | with_unfolding_all rfl))))) (sss_cons (ss_set C n22_7 (Or.inl l22_7) (se_idx C (se_var C n22_0 (Or.inl l22_0)) (Rf.PE.new (se_bin C .add (se_var C n22_4 (Or.inl l22_4)) se_int)) (fun _ _ => rfl)))
      sss_nil) sss_nil)
      (sss_cons (ss_set C n22_8 (Or.inl l22_8) (Rf.PE.new (se_bin C .sub se_int (Rf.PE.new (se_bin C .mod (se_flat rfl (se_bltT C (cl_int) g22_int z_int (by decide +kernel) (ses_cons (Rf.PE.new (se_bin C .add (se_var C n22_3 (Or.inl l22_3)) (Rf.PE.new (se_bin C .mul se_int (se_var C n22_7 (Or.inl l22_7)))))) ses_nil))) se_int)))))
      (sss_cons (ss_app C n22_2 (Or.inr (Or.inl l22_2)) (se_tup (by decide) (ses_cons (se_var C n22_8 (Or.inl l22_8)) (ses_cons (se_var C n22_4 (Or.inl l22_4)) ses_nil))))
      (sss_cons (ss_set C n22_3 (Or.inl l22_3) (Rf.PE.new (se_bin C .sub (se_var C n22_3 (Or.inl l22_3)) (se_var C n22_8 (Or.inl l22_8)))))
      sss_nil))))) sss_nil)
      (sss_cons (ss_set C n22_3 (Or.inl l22_3) (Rf.PE.new (se_bin C .fdiv (se_var C n22_3 (Or.inl l22_3)) se_int)))
      (sss_cons (ss_set C n22_4 (Or.inl l22_4) (Rf.PE.new (se_bin C .add (se_var C n22_4 (Or.inl l22_4)) se_int)))
      sss_nil)))))))
      (sss_cons (ss_ret (Rf.PE.new (Rf.PE.modeN (se_comp C (own := [("_law_k", 6)]) (si_rng1 g22_range z_range (ses_cons (se_flat rfl (se_bltB C (cl_len C.calm) g22_len z_len (by decide +kernel) (ses_cons (se_vw C n22_2 (Or.inr (Or.inl l22_2)) (by decide)) ses_nil))) ses_nil)) rfl (blkOk_by (N := N22) (sc := defScope s22) (by decide +kernel)) (fun _ _ _ _ _ _ C => (sg_nm C.hN C.nd n22_6 (by first | exact Or.inl rfl | exact Or.inr rfl) (by first | exact .inl rfl | exact .inr rfl))) (fun _ _ _ _ _ _ _ _ C => sf_nil) (fun _ _ _ _ _ _ _ _ C => (se_idx C (se_vw C n22_2 (by first | exact Or.inl rfl | exact Or.inr (Or.inl rfl) | exact Or.inr (Or.inr rfl)) (by decide)) (Rf.PE.new (se_bin C .sub (Rf.PE.new (se_bin C .sub (se_flat rfl (se_bltB C (cl_len C.calm) (by rfl) z_len (by decide +kernel) (ses_cons (se_vw C n22_2 (by first | exact Or.inl rfl | exact Or.inr (Or.inl rfl) | exact Or.inr (Or.inr rfl)) (by decide)) ses_nil))) se_int)) (se_var C n22_6 (by first | exact Or.inl rfl | exact Or.inr (Or.inl rfl) | exact Or.inr (Or.inr rfl))))) (fun _ _ => rfl)))))))
      sss_nil)))))))
theorem w23 (hf__law_of : Good pr w K mg base ca TB F "_law_of" 16 n) (hf__law_rows : Good pr w K mg base ca TB F "_law_rows" 22 n) (z_tuple : mg "tuple" = none) : Walk pr w K mg base ca N23 "_law_number" s23 n (execs (phi TB F n) F b23) := fun A sA HA a fA cdv outer xe h0 av avok W hr C =>
    (sss_cons (ss_ret (Rf.PE.new (se_bltT C (cl_tuple) g23_tuple z_tuple (by decide +kernel) (ses_cons (Rf.PE.new (Rf.PE.modeN (se_comp C (own := [("_law_row", 1)]) (si_lst C (se_call C (hf__law_rows.fn hr) g23__law_rows (ses_cons (se_var C n23_0 (Or.inl l23_0)) ses_nil))) rfl (blkOk_by (N := N23) (sc := defScope s23) (by decide +kernel)) (fun _ _ _ _ _ _ C => (sg_nm C.hN C.nd n23_1 (by first | exact Or.inl rfl | exact Or.inr rfl) (by first | exact .inl rfl | exact .inr rfl))) (fun _ _ _ _ _ _ _ _ C => sf_nil) (fun _ _ _ _ _ _ _ _ C => (se_tup (by decide) (ses_cons (se_idx C (se_var C n23_1 (by first | exact Or.inl rfl | exact Or.inr (Or.inl rfl) | exact Or.inr (Or.inr rfl))) se_int (fun _ _ => rfl)) (ses_cons (se_call C (hf__law_of.fn hr) (by rfl) (ses_cons (se_idx C (se_var C n23_1 (by first | exact Or.inl rfl | exact Or.inr (Or.inl rfl) | exact Or.inr (Or.inr rfl))) se_int (fun _ _ => rfl)) ses_nil)) ses_nil))))))) ses_nil))))
      sss_nil)
theorem w24 (hf__law_pick : Good pr w K mg base ca TB F "_law_pick" 14 n) (hf__law_rows : Good pr w K mg base ca TB F "_law_rows" 22 n) (hf__law_two : Good pr w K mg base ca TB F "_law_two" 15 n) (z_len : mg "len" = none) : Walk pr w K mg base ca N24 "_law_places" s24 n (execs (phi TB F n) F b24) := fun A sA HA a fA cdv outer xe h0 av avok W hr C =>
    (sss_cons (ss_set C n24_2 (Or.inl l24_2) (se_call C (hf__law_pick.fn hr) g24__law_pick (ses_cons (se_var C n24_0 (Or.inl l24_0)) (ses_cons se_int (ses_cons se_int ses_nil)))))
      (sss_cons (ss_if (st_cmp C .eq (se_var C n24_2 (Or.inl l24_2)) se_int (by first | rfl | with_unfolding_all rfl)) (sss_cons (ss_ret (Rf.PE.new (se_bin C .sub (se_call C (hf__law_pick.fn hr) g24__law_pick (ses_cons (se_var C n24_0 (Or.inl l24_0)) (ses_cons se_int (ses_cons se_int ses_nil)))) se_int)))
      sss_nil) sss_nil)
      (sss_cons (ss_if (st_cmp C .eq (se_var C n24_2 (Or.inl l24_2)) se_int (by first | rfl | with_unfolding_all rfl)) (sss_cons (ss_ret (Rf.PE.new (se_bin C .mul (se_idx C (Rf.PE.new (se_lst (by decide) (ses_cons se_int (ses_cons (se_neg se_int) ses_nil)))) (se_call C (hf__law_pick.fn hr) g24__law_pick (ses_cons (se_var C n24_0 (Or.inl l24_0)) (ses_cons se_int (ses_cons se_int ses_nil)))) (fun _ _ => rfl)) (Rf.PE.new (se_bin C .add (se_call C (hf__law_two.fn hr) g24__law_two (ses_cons (se_call C (hf__law_pick.fn hr) g24__law_pick (ses_cons (se_var C n24_0 (Or.inl l24_0)) (ses_cons se_int (ses_cons se_int ses_nil)))) ses_nil)) (se_call C (hf__law_pick.fn hr) g24__law_pick (ses_cons (se_var C n24_0 (Or.inl l24_0)) (ses_cons se_int (ses_cons se_int ses_nil)))))))))
      sss_nil) sss_nil)
      (sss_cons (ss_set C n24_3 (Or.inl l24_3) (se_call C (hf__law_rows.fn hr) g24__law_rows (ses_cons (se_var C n24_1 (Or.inl l24_1)) ses_nil)))
      (sss_cons (ss_if (st_cmp C .eq (se_flat rfl (se_bltB C (cl_len C.calm) g24_len z_len (by decide +kernel) (ses_cons (se_var C n24_3 (Or.inl l24_3)) ses_nil))) se_int (by first | rfl | with_unfolding_all rfl)) (sss_cons (ss_ret (Rf.PE.new (se_bin C .sub se_int (se_call C (hf__law_two.fn hr) g24__law_two (ses_cons (se_call C (hf__law_pick.fn hr) g24__law_pick (ses_cons (se_var C n24_0 (Or.inl l24_0)) (ses_cons se_int (ses_cons se_int ses_nil)))) ses_nil)))))
      sss_nil) sss_nil)
      (sss_cons (ss_set C n24_4 (Or.inl l24_4) (se_idx C (se_idx C (se_var C n24_3 (Or.inl l24_3)) (Rf.PE.new (se_bin C .sub (se_flat rfl (se_bltB C (cl_len C.calm) g24_len z_len (by decide +kernel) (ses_cons (se_var C n24_3 (Or.inl l24_3)) ses_nil))) se_int)) (fun _ _ => rfl)) se_int (fun _ _ => rfl)))
      (sss_cons (ss_ret (se_idx C (Rf.PE.new (se_lst (by decide) (ses_cons (Rf.PE.new (se_bin C .sub se_int (se_var C n24_4 (Or.inl l24_4)))) (ses_cons (Rf.PE.new (se_bin C .sub se_int (se_var C n24_4 (Or.inl l24_4)))) (ses_cons (Rf.PE.new (se_bin C .sub (Rf.PE.new (se_bin C .sub se_int (se_var C n24_4 (Or.inl l24_4)))) se_int)) (ses_cons (se_var C n24_4 (Or.inl l24_4)) ses_nil)))))) (Rf.PE.new (se_bin C .sub (se_var C n24_2 (Or.inl l24_2)) se_int)) (fun _ _ => rfl)))
      sss_nil)))))))
theorem w25 (hf__law_fits : Good pr w K mg base ca TB F "_law_fits" 19 n) (hf_shift : Good pr w K mg base ca TB F "shift" 12 n) (hj__law_fits : GoodH pr w K mg base ca TB F "_law_fits" 19 n) (k_BadRange_NotAllowed : PySem.W.kitOne K (.ref (ca 2)) (.ref (ca 1)) = some false) (k_BadRange_ReckonError : PySem.W.kitOne K (.ref (ca 2)) (.ref (ca 0)) = some true) (k_BadRange_TooLarge : PySem.W.kitOne K (.ref (ca 2)) (.ref (ca 3)) = some false) (s_BadRange_BadRange : PySem.W.subIn K (.ref (ca 2)) (.ref (ca 2)) = some true) (s_TooLarge_BadRange : PySem.W.subIn K (.ref (ca 3)) (.ref (ca 2)) = some false) (s_TooLarge_TooLarge : PySem.W.subIn K (.ref (ca 3)) (.ref (ca 3)) = some true) (x_BadRange : XFull K mg "BadRange" (ca 2)) (x_NotAllowed : XFull K mg "NotAllowed" (ca 1)) (x_ReckonError : XFull K mg "ReckonError" (ca 0)) (x_TooLarge : XFull K mg "TooLarge" (ca 3)) (z_isinstance : mg "isinstance" = none) (z_tuple : mg "tuple" = none) : Walk pr w K mg base ca N25 "_law_told" s25 n (execs (phi TB F n) F b25) := fun A sA HA a fA cdv outer xe h0 av avok W hr C =>
    (sss_cons (ss_trh C rfl rfl n25_5 l25_5 (.named (r := [(2, (.and (.not (.var 3)) (.and (.con (.bool true)) (.not (.con (.bool false))))))]) (r2 := [(3, (.and (.var 3) (.not (.call 19 [(.var 2)]))))]) g25_BadRange (by decide) x_BadRange.g (List.forall_mem_cons.mpr ⟨⟨x_BadRange.exm s_BadRange_BadRange, fun ea oe pn hz hf => have hot := hot_suite (X := cxG pr w K mg base N25 "_law_told" s25 A sA HA a fA cdv outer xe) (a := ea) (pn := pn) hz hf; have hrh := roomH_of hr; have C := C.inClause (w := ea) (pn := (ea, oe) :: pn); xws_ret (xw_and (xw_of (se_not (se_var0 C n25_3 (Or.inl l25_3)))) (xw_and (xw_k (xk_is (X := cxG pr w K mg base N25 "_law_told" s25 A sA HA a fA cdv outer xe) x_BadRange.ex hz.zc hf n25_5 (Or.inl l25_5) g25_isinstance z_isinstance g25_ReckonError x_ReckonError.g k_BadRange_ReckonError)) (xw_one (xw_not (xw_k (xk_isT (X := cxG pr w K mg base N25 "_law_told" s25 A sA HA a fA cdv outer xe) x_BadRange.ex hz.zc hf n25_5 (Or.inl l25_5) g25_isinstance z_isinstance g25_NotAllowed x_NotAllowed.g g25_TooLarge x_TooLarge.g k_BadRange_NotAllowed k_BadRange_TooLarge rfl))))))⟩, fun _ z => nomatch z⟩) (List.forall_mem_cons.mpr ⟨x_BadRange.exm s_TooLarge_BadRange, fun _ z => nomatch z⟩) (.bare (r := [(3, (.and (.var 3) (.not (.call 19 [(.var 2)]))))]) (r2 := []) g25_TooLarge (by decide) x_TooLarge.g (List.forall_mem_cons.mpr ⟨⟨x_TooLarge.exm s_TooLarge_TooLarge, fun ea oe pn hz hf => have hot := hot_suite (X := cxG pr w K mg base N25 "_law_told" s25 A sA HA a fA cdv outer xe) (a := ea) (pn := pn) hz hf; have hrh := roomH_of hr; have C := C.inClause (w := ea) (pn := (ea, oe) :: pn); xbs_ret (se_and (se_var0 C n25_3 (Or.inl l25_3)) (se_one (se_not (se_callH C ⟨_, hot, (by first | exact List.mem_singleton.mpr rfl | exact List.mem_cons_self ..)⟩ (hj__law_fits.fn ⟨hrh.dp, hrh.un⟩) g25__law_fits (ses_cons (se_var0 C n25_2 (Or.inl l25_2)) ses_nil)))))⟩, fun _ z => nomatch z⟩) (fun _ z => nomatch z) .nil)) (fun W pn xe C => (sss_cons (ss_set C n25_4 (Or.inl l25_4) (se_call C (hf_shift.fn hr) g25_shift (ses_cons (se_var C n25_0 (Or.inl l25_0)) (ses_cons (se_var C n25_1 (Or.inl l25_1)) ses_nil))))
      sss_nil)))
      (sss_cons (ss_ret (se_and (se_var C n25_3 (Or.inl l25_3)) (se_and (se_call C (hf__law_fits.fn hr) g25__law_fits (ses_cons (se_var C n25_2 (Or.inl l25_2)) ses_nil)) (se_and (se_isi C (T := 3) (by decide) rfl g25_isinstance z_isinstance g25_tuple z_tuple (by decide +kernel) (se_var C n25_4 (Or.inl l25_4))) (se_one (se_cmp C .eq (se_var C n25_4 (Or.inl l25_4)) (se_var C n25_2 (Or.inl l25_2)) (by first | rfl | with_unfolding_all rfl)))))))
      sss_nil))
theorem w26 (hf__law_fits : Good pr w K mg base ca TB F "_law_fits" 19 n) (hf__law_model : Good pr w K mg base ca TB F "_law_model" 21 n) (hf__law_number : Good pr w K mg base ca TB F "_law_number" 23 n) (hf__law_of : Good pr w K mg base ca TB F "_law_of" 16 n) (hf__law_pick : Good pr w K mg base ca TB F "_law_pick" 14 n) (hf__law_places : Good pr w K mg base ca TB F "_law_places" 24 n) (hf__law_rows : Good pr w K mg base ca TB F "_law_rows" 22 n) (hf__law_stream : Good pr w K mg base ca TB F "_law_stream" 13 n) (hf__law_told : Good pr w K mg base ca TB F "_law_told" 25 n) (hf__law_two : Good pr w K mg base ca TB F "_law_two" 15 n) (hf_shift : Good pr w K mg base ca TB F "shift" 12 n) (z_max : mg "max" = none) (z_range : mg "range" = none) : Walk pr w K mg base ca N26 "law" s26 n (execs (phi TB F n) F b26) := fun A sA HA a fA cdv outer xe h0 av avok W hr C =>
    (sss_cons (ss_set C n26_1 (Or.inl l26_1) (se_call C (hf__law_stream.fn hr) g26__law_stream (ses_cons (se_var C n26_0 (Or.inl l26_0)) ses_nil)))
      (sss_cons (ss_set C n26_2 (Or.inl l26_2) (se_call C (hf__law_model.fn hr) g26__law_model (ses_cons (se_var C n26_1 (Or.inl l26_1)) (ses_cons se_int (ses_cons (se_call C (hf__law_pick.fn hr) g26__law_pick (ses_cons (se_var C n26_1 (Or.inl l26_1)) (ses_cons se_int (ses_cons se_int ses_nil)))) ses_nil)))))
      (sss_cons (ss_for C (si_rng1 g26_range z_range (ses_cons se_int ses_nil)) (sg_nm C.hN C.nd n26_3 (Or.inl l26_3) (by first | exact .inl rfl | exact .inr rfl)) (fun _ _ C => (sss_cons (ss_set C n26_4 (Or.inl l26_4) (se_call C (hf__law_places.fn hr) g26__law_places (ses_cons (se_var C n26_1 (Or.inl l26_1)) (ses_cons (se_var C n26_2 (Or.inl l26_2)) ses_nil))))
      (sss_cons (ss_set C n26_5 (Or.inl l26_5) (se_call C (hf__law_rows.fn hr) g26__law_rows (ses_cons (se_var C n26_2 (Or.inl l26_2)) ses_nil)))
      (sss_cons (ss_set C n26_6 (Or.inl l26_6) (se_call C (hf__law_number.fn hr) g26__law_number (ses_cons (se_var C n26_2 (Or.inl l26_2)) ses_nil)))
      (sss_cons (ss_set C n26_7 (Or.inl l26_7) (se_call C (hf__law_of.fn hr) g26__law_of (ses_cons (se_var C n26_4 (Or.inl l26_4)) ses_nil)))
      (sss_cons (ss_own C n26_8 (Or.inl l26_8) se_emp)
      (sss_cons (ss_set C n26_9 (Or.inl l26_9) se_bl)
      (sss_cons (ss_for C (si_lst C (se_var C n26_5 (Or.inl l26_5))) (sg_tp C.calm rfl (sgs_cons (sg_nm C.hN C.nd n26_10 (Or.inl l26_10) (by first | exact .inl rfl | exact .inr rfl)) (sgs_cons (sg_nm C.hN C.nd n26_11 (Or.inl l26_11) (by first | exact .inl rfl | exact .inr rfl)) sgs_nil))) (fun _ _ C => (sss_cons (ss_setd C n26_8 (Or.inl l26_8) (se_var C n26_10 (Or.inl l26_10)) (se_flat rfl (se_bltB C (cl_max C.calm) g26_max z_max (by decide +kernel) (ses_cons se_int (ses_cons (Rf.PE.new (se_bin C .add (se_var C n26_11 (Or.inl l26_11)) (se_var C n26_4 (Or.inl l26_4)))) ses_nil)))))
      (sss_cons (ss_set C n26_9 (Or.inl l26_9) (se_and (se_var C n26_9 (Or.inl l26_9)) (se_one (se_cmp C .ge (Rf.PE.new (se_bin C .add (se_var C n26_11 (Or.inl l26_11)) (se_var C n26_4 (Or.inl l26_4)))) se_int (by first | rfl | with_unfolding_all rfl)))))
      sss_nil))))
      (sss_cons (ss_set C n26_12 (Or.inl l26_12) (se_tup (by decide) ses_nil))
      (sss_cons (ss_if (st_val (se_var C n26_9 (Or.inl l26_9))) (sss_cons (ss_set C n26_12 (Or.inl l26_12) (se_callv C (hf__law_number.fn hr) g26__law_number (ses_cons (se_vw C n26_8 (Or.inl l26_8) (by decide)) ses_nil)))
      sss_nil) sss_nil)
      (sss_cons (ss_if (PW.pt (st_and (st_val (se_call C (hf__law_fits.fn hr) g26__law_fits (ses_cons (se_var C n26_6 (Or.inl l26_6)) ses_nil))) (st_and1 (st_val (se_call C (hf__law_fits.fn hr) g26__law_fits (ses_cons (se_var C n26_7 (Or.inl l26_7)) ses_nil)))))) (sss_cons (ss_if (st_not (st_val (se_call C (hf__law_told.fn hr) g26__law_told (ses_cons (se_var C n26_6 (Or.inl l26_6)) (ses_cons (se_var C n26_7 (Or.inl l26_7)) (ses_cons (se_var C n26_12 (Or.inl l26_12)) (ses_cons (se_var C n26_9 (Or.inl l26_9)) ses_nil))))))) (sss_cons (ss_ret se_bl)
      sss_nil) sss_nil)
      (sss_cons (ss_if (PW.pt (st_and (st_val (se_var C n26_9 (Or.inl l26_9))) (st_and (st_val (se_call C (hf__law_fits.fn hr) g26__law_fits (ses_cons (se_var C n26_12 (Or.inl l26_12)) ses_nil))) (st_and1 (st_cmp C .ne (se_call C (hf_shift.fn hr) g26_shift (ses_cons (se_var C n26_12 (Or.inl l26_12)) (ses_cons (se_call C (hf__law_of.fn hr) g26__law_of (ses_cons (Rf.PE.new (se_bin C .sub se_int (se_var C n26_4 (Or.inl l26_4)))) ses_nil)) ses_nil))) (se_var C n26_6 (Or.inl l26_6)) (by first | rfl | with_unfolding_all rfl)))))) (sss_cons (ss_ret se_bl)
      sss_nil) sss_nil)
      (sss_cons (ss_if (PW.pt (st_or (st_cmp C .ne (se_call C (hf_shift.fn hr) g26_shift (ses_cons (se_tup (by decide) ses_nil) (ses_cons (se_var C n26_7 (Or.inl l26_7)) ses_nil))) (se_tup (by decide) ses_nil) (by first | rfl | with_unfolding_all rfl)) (st_or1 (st_cmp C .ne (se_call C (hf_shift.fn hr) g26_shift (ses_cons (se_var C n26_6 (Or.inl l26_6)) (ses_cons (se_tup (by decide) ses_nil) ses_nil))) (se_var C n26_6 (Or.inl l26_6)) (by first | rfl | with_unfolding_all rfl))))) (sss_cons (ss_ret se_bl)
      sss_nil) sss_nil)
      sss_nil))) sss_nil)
      (sss_cons (ss_set C n26_2 (Or.inl l26_2) (Rf.PE.new (se_dsp2 se_int (Rf.PE.new (se_bin C .add se_int (se_call C (hf__law_pick.fn hr) g26__law_pick (ses_cons (se_var C n26_1 (Or.inl l26_1)) (ses_cons se_int (ses_cons se_int ses_nil)))))) (se_call C (hf__law_pick.fn hr) g26__law_pick (ses_cons (se_var C n26_1 (Or.inl l26_1)) (ses_cons se_int (ses_cons se_int ses_nil)))) (se_idx C (Rf.PE.new (se_lst (by decide) (ses_cons se_int (ses_cons (se_neg se_int) ses_nil)))) (se_call C (hf__law_pick.fn hr) g26__law_pick (ses_cons (se_var C n26_1 (Or.inl l26_1)) (ses_cons se_int (ses_cons se_int ses_nil)))) (fun _ _ => rfl)))))
      sss_nil)))))))))))))
      (sss_cons (ss_set C n26_13 (Or.inl l26_13) (Rf.PE.new (se_bin C .mul (se_call C (hf__law_pick.fn hr) g26__law_pick (ses_cons (se_var C n26_1 (Or.inl l26_1)) (ses_cons se_int (ses_cons se_int ses_nil)))) se_int)))
      (sss_cons (ss_set C n26_14 (Or.inl l26_14) (se_call C (hf__law_pick.fn hr) g26__law_pick (ses_cons (se_var C n26_1 (Or.inl l26_1)) (ses_cons se_int (ses_cons se_int ses_nil)))))
      (sss_cons (ss_if (st_cmp C .ne (se_call C (hf_shift.fn hr) g26_shift (ses_cons (se_call C (hf__law_of.fn hr) g26__law_of (ses_cons (se_var C n26_13 (Or.inl l26_13)) ses_nil)) (ses_cons (se_call C (hf__law_of.fn hr) g26__law_of (ses_cons (se_var C n26_14 (Or.inl l26_14)) ses_nil)) ses_nil))) (se_call C (hf__law_of.fn hr) g26__law_of (ses_cons (Rf.PE.new (se_bin C .mul (se_var C n26_13 (Or.inl l26_13)) (se_call C (hf__law_two.fn hr) g26__law_two (ses_cons (se_var C n26_14 (Or.inl l26_14)) ses_nil)))) ses_nil)) (by first | rfl | with_unfolding_all rfl)) (sss_cons (ss_ret se_bl)
      sss_nil) sss_nil)
      (sss_cons (ss_ret (se_cmp C .eq (se_call C (hf_shift.fn hr) g26_shift (ses_cons (se_call C (hf__law_of.fn hr) g26__law_of (ses_cons (Rf.PE.new (se_bin C .mul (se_var C n26_13 (Or.inl l26_13)) (se_call C (hf__law_two.fn hr) g26__law_two (ses_cons (se_var C n26_14 (Or.inl l26_14)) ses_nil)))) ses_nil)) (ses_cons (se_call C (hf__law_of.fn hr) g26__law_of (ses_cons (Rf.PE.new (se_bin C .sub se_int (se_var C n26_14 (Or.inl l26_14)))) ses_nil)) ses_nil))) (se_call C (hf__law_of.fn hr) g26__law_of (ses_cons (se_var C n26_13 (Or.inl l26_13)) ses_nil)) (by first | rfl | with_unfolding_all rfl)))
      sss_nil)))))))
theorem wH17 (hj__law_size : GoodH pr w K mg base ca TB F "_law_size" 17 n) (z_sum : mg "sum" = none) : WalkH pr w K mg base ca N17 "_law_size" s17 n (execs (phi TB F n) F b17) := fun A sA HA a fA cdv outer xe h0 av avok W q hr hot C =>
    (sss_cons (ss_ret (Rf.PE.new (se_bin0 C .add se_int (se_flat rfl (se_bltB1 C (cl_sumH hot (by first | exact List.mem_singleton.mpr rfl | exact List.mem_cons_self ..)) g17_sum z_sum (by decide +kernel) (ses_cons (Rf.PE.new (Rf.PE.modeN (se_compH C hot (by first | exact List.mem_singleton.mpr rfl | exact List.mem_cons_self ..) (own := [("_law_term", 1)]) (si_tupH C (se_var0 C n17_0 (Or.inl l17_0))) rfl (blkOk_by (N := N17) (sc := defScope s17) (by decide +kernel)) (fun _ _ _ _ _ _ C => (sg_nm C.hN C.nd n17_1 (by first | exact Or.inl rfl | exact Or.inr rfl) (by first | exact .inl rfl | exact .inr rfl))) (fun _ _ _ _ _ _ _ _ C => sf_nil) (fun _ _ _ _ _ _ _ _ C => (se_callH C ⟨_, hot, (by first | exact List.mem_singleton.mpr rfl | exact List.mem_cons_self ..)⟩ (hj__law_size.fn ⟨hr.dp, hr.un⟩) (by rfl) (ses_cons (se_idx0 C (se_var0 C n17_1 (by first | exact Or.inl rfl | exact Or.inr (Or.inl rfl) | exact Or.inr (Or.inr rfl))) se_int (fun _ _ => rfl)) ses_nil)))))) ses_nil))))))
      sss_nil)
theorem wH18 (hj__law_height : GoodH pr w K mg base ca TB F "_law_height" 18 n) (z_max : mg "max" = none) : WalkH pr w K mg base ca N18 "_law_height" s18 n (execs (phi TB F n) F b18) := fun A sA HA a fA cdv outer xe h0 av avok W q hr hot C =>
    (sss_cons (ss_ret (se_flat rfl (se_bltB1 C (cl_maxH hot (by first | exact List.mem_singleton.mpr rfl | exact List.mem_cons_self ..)) g18_max z_max (by decide +kernel) (ses_cons (Rf.PE.new (se_bin0 C .add (Rf.PE.new (se_lst (by decide) (ses_cons se_int ses_nil))) (Rf.PE.new (Rf.PE.modeN (se_compH C hot (by first | exact List.mem_singleton.mpr rfl | exact List.mem_cons_self ..) (own := [("_law_term", 1)]) (si_tupH C (se_var0 C n18_0 (Or.inl l18_0))) rfl (blkOk_by (N := N18) (sc := defScope s18) (by decide +kernel)) (fun _ _ _ _ _ _ C => (sg_nm C.hN C.nd n18_1 (by first | exact Or.inl rfl | exact Or.inr rfl) (by first | exact .inl rfl | exact .inr rfl))) (fun _ _ _ _ _ _ _ _ C => sf_nil) (fun _ _ _ _ _ _ _ _ C => (Rf.PE.new (se_bin0 C .add se_int (se_callH C ⟨_, hot, (by first | exact List.mem_singleton.mpr rfl | exact List.mem_cons_self ..)⟩ (hj__law_height.fn ⟨hr.dp, hr.un⟩) (by rfl) (ses_cons (se_idx0 C (se_var0 C n18_1 (by first | exact Or.inl rfl | exact Or.inr (Or.inl rfl) | exact Or.inr (Or.inr rfl))) se_int (fun _ _ => rfl)) ses_nil)))))))))) ses_nil))))
      sss_nil)
theorem wH19 (hj__law_height : GoodH pr w K mg base ca TB F "_law_height" 18 n) (hj__law_size : GoodH pr w K mg base ca TB F "_law_size" 17 n) : WalkH pr w K mg base ca N19 "_law_fits" s19 n (execs (phi TB F n) F b19) := fun A sA HA a fA cdv outer xe h0 av avok W q hr hot C =>
    (sss_cons (ss_ret (se_and (se_cmp0 C .le (se_callH C ⟨_, hot, (by first | exact List.mem_singleton.mpr rfl | exact List.mem_cons_self ..)⟩ (hj__law_size.fn ⟨hr.dp, hr.un⟩) g19__law_size (ses_cons (se_var0 C n19_0 (Or.inl l19_0)) ses_nil)) se_int (by first | rfl | with_unfolding_all rfl)) (se_one (se_cmp0 C .le (se_callH C ⟨_, hot, (by first | exact List.mem_singleton.mpr rfl | exact List.mem_cons_self ..)⟩ (hj__law_height.fn ⟨hr.dp, hr.un⟩) g19__law_height (ses_cons (se_var0 C n19_0 (Or.inl l19_0)) ses_nil)) se_int (by first | rfl | with_unfolding_all rfl)))))
      sss_nil)
/-- every def of the program, n deep -/
theorem all_good (z_int : mg "int" = none) (z_isinstance : mg "isinstance" = none) (z_len : mg "len" = none) (z_list : mg "list" = none) (z_max : mg "max" = none) (z_range : mg "range" = none) (z_sorted : mg "sorted" = none) (z_sum : mg "sum" = none) (z_tuple : mg "tuple" = none) (z_zip : mg "zip" = none) {k_MAX_HEIGHT : Tok} (c_MAX_HEIGHT : mg "MAX_HEIGHT" = some (.int 40 k_MAX_HEIGHT)) {k_MAX_SIZE : Tok} (c_MAX_SIZE : mg "MAX_SIZE" = some (.int 300 k_MAX_SIZE)) (x_BadRange : XFull K mg "BadRange" (ca 2)) (x_NotAllowed : XFull K mg "NotAllowed" (ca 1)) (x_ReckonError : XFull K mg "ReckonError" (ca 0)) (x_TooLarge : XFull K mg "TooLarge" (ca 3)) (k_BadRange_NotAllowed : PySem.W.kitOne K (.ref (ca 2)) (.ref (ca 1)) = some false) (k_BadRange_ReckonError : PySem.W.kitOne K (.ref (ca 2)) (.ref (ca 0)) = some true) (k_BadRange_TooLarge : PySem.W.kitOne K (.ref (ca 2)) (.ref (ca 3)) = some false) (s_BadRange_BadRange : PySem.W.subIn K (.ref (ca 2)) (.ref (ca 2)) = some true) (s_TooLarge_BadRange : PySem.W.subIn K (.ref (ca 3)) (.ref (ca 2)) = some false) (s_TooLarge_TooLarge : PySem.W.subIn K (.ref (ca 3)) (.ref (ca 3)) = some true) (t0 : Txt K mg "size_of" "size_of" s0 p0) (t1 : Txt K mg "height_of" "height_of" s1 p1) (t2 : Txt K mg "compare" "compare" s2 p2) (t3 : Txt K mg "sign_of" "sign_of" s3 p3) (t4 : Txt K mg "in_order" "in_order" s4 p4) (t5 : Txt K mg "gathered" "gathered" s5 p5) (t6 : Txt K mg "sign_at" "sign_at" s6 p6) (t7 : Txt K mg "next_of" "next_of" s7 p7) (t8 : Txt K mg "is_allowed" "is_allowed" s8 p8) (t9 : Txt K mg "allowed" "allowed" s9 p9) (t10 : Txt K mg "plus" "plus" s10 p10) (t11 : Txt K mg "shifted" "shifted" s11 p11) (t12 : Txt K mg "shift" "shift" s12 p12) (t13 : Txt K mg "_law_stream" "_law_stream" s13 p13) (t14 : Txt K mg "_law_pick" "_law_pick" s14 p14) (t15 : Txt K mg "_law_two" "_law_two" s15 p15) (t16 : Txt K mg "_law_of" "_law_of" s16 p16) (t17 : Txt K mg "_law_size" "_law_size" s17 p17) (t18 : Txt K mg "_law_height" "_law_height" s18 p18) (t19 : Txt K mg "_law_fits" "_law_fits" s19 p19) (t20 : Txt K mg "_law_exponent" "_law_exponent" s20 p20) (t21 : Txt K mg "_law_model" "_law_model" s21 p21) (t22 : Txt K mg "_law_rows" "_law_rows" s22 p22) (t23 : Txt K mg "_law_number" "_law_number" s23 p23) (t24 : Txt K mg "_law_places" "_law_places" s24 p24) (t25 : Txt K mg "_law_told" "_law_told" s25 p25) : ∀ n, Good pr w K mg base ca TB F "size_of" 0 n ∧ Good pr w K mg base ca TB F "height_of" 1 n ∧ Good pr w K mg base ca TB F "compare" 2 n ∧ Good pr w K mg base ca TB F "sign_of" 3 n ∧ Good pr w K mg base ca TB F "in_order" 4 n ∧ Good pr w K mg base ca TB F "gathered" 5 n ∧ GoodN pr w K mg base ca TB F "sign_at" 6 n ∧ Good pr w K mg base ca TB F "next_of" 7 n ∧ Good pr w K mg base ca TB F "is_allowed" 8 n ∧ Good pr w K mg base ca TB F "allowed" 9 n ∧ Good pr w K mg base ca TB F "plus" 10 n ∧ Good pr w K mg base ca TB F "shifted" 11 n ∧ Good pr w K mg base ca TB F "shift" 12 n ∧ Good pr w K mg base ca TB F "_law_stream" 13 n ∧ Good pr w K mg base ca TB F "_law_pick" 14 n ∧ Good pr w K mg base ca TB F "_law_two" 15 n ∧ Good pr w K mg base ca TB F "_law_of" 16 n ∧ Good pr w K mg base ca TB F "_law_size" 17 n ∧ Good pr w K mg base ca TB F "_law_height" 18 n ∧ Good pr w K mg base ca TB F "_law_fits" 19 n ∧ Good pr w K mg base ca TB F "_law_exponent" 20 n ∧ Good pr w K mg base ca TB F "_law_model" 21 n ∧ Good pr w K mg base ca TB F "_law_rows" 22 n ∧ Good pr w K mg base ca TB F "_law_number" 23 n ∧ Good pr w K mg base ca TB F "_law_places" 24 n ∧ Good pr w K mg base ca TB F "_law_told" 25 n ∧ GoodH pr w K mg base ca TB F "_law_size" 17 n ∧ GoodH pr w K mg base ca TB F "_law_height" 18 n ∧ GoodH pr w K mg base ca TB F "_law_fits" 19 n
  | 0 => ⟨good_zero t0, good_zero t1, good_zero t2, good_zero t3, good_zero t4, good_zero t5, goodN_zero t6, good_zero t7, good_zero t8, good_zero t9, good_zero t10, good_zero t11, good_zero t12, good_zero t13, good_zero t14, good_zero t15, good_zero t16, good_zero t17, good_zero t18, good_zero t19, good_zero t20, good_zero t21, good_zero t22, good_zero t23, good_zero t24, good_zero t25, goodH_zero t17, goodH_zero t18, goodH_zero t19⟩
  | n + 1 => by
    obtain ⟨hf_size_of, hf_height_of, hf_compare, hf_sign_of, hf_in_order, hf_gathered, hf_sign_at, hf_next_of, hf_is_allowed, hf_allowed, hf_plus, hf_shifted, hf_shift, hf__law_stream, hf__law_pick, hf__law_two, hf__law_of, hf__law_size, hf__law_height, hf__law_fits, hf__law_exponent, hf__law_model, hf__law_rows, hf__law_number, hf__law_places, hf__law_told, hj__law_size, hj__law_height, hj__law_fits⟩ := all_good z_int z_isinstance z_len z_list z_max z_range z_sorted z_sum z_tuple z_zip c_MAX_HEIGHT c_MAX_SIZE x_BadRange x_NotAllowed x_ReckonError x_TooLarge k_BadRange_NotAllowed k_BadRange_ReckonError k_BadRange_TooLarge s_BadRange_BadRange s_TooLarge_BadRange s_TooLarge_TooLarge t0 t1 t2 t3 t4 t5 t6 t7 t8 t9 t10 t11 t12 t13 t14 t15 t16 t17 t18 t19 t20 t21 t22 t23 t24 t25 n
    exact ⟨good_succ t0 sc0 rfl rfl rfl (by decide) (w0 hf_size_of z_sum), good_succ t1 sc1 rfl rfl rfl (by decide) (w1 hf_height_of z_len z_max), good_succ t2 sc2 rfl rfl rfl (by decide) (w2 hf_compare z_len z_zip), good_succ t3 sc3 rfl rfl rfl (by decide) (w3 z_len), good_succ t4 sc4 rfl rfl rfl (by decide) (w4 hf_compare z_len), good_succ t5 sc5 rfl rfl rfl (by decide) (w5 hf_in_order hf_next_of hf_sign_at z_len z_list z_tuple), goodN_succ t6 sc6 rfl rfl rfl (by decide) (w6 hf_next_of z_len), good_succ t7 sc7 rfl rfl rfl (by decide) (w7 hf_gathered z_list), good_succ t8 sc8 rfl rfl rfl (by decide) (w8 c_MAX_HEIGHT c_MAX_SIZE hf_height_of hf_size_of), good_succ t9 sc9 rfl rfl rfl (by decide) (w9 hf_is_allowed x_TooLarge), good_succ t10 sc10 rfl rfl rfl (by decide) (w10 hf_gathered z_list), good_succ t11 sc11 rfl rfl rfl (by decide) (w11 hf_plus hf_sign_of x_BadRange z_len z_tuple), good_succ t12 sc12 rfl rfl rfl (by decide) (w12 hf_allowed hf_shifted), good_succ t13 sc13 rfl rfl rfl (by decide) (w13 z_int z_len z_range), good_succ t14 sc14 rfl rfl rfl (by decide) (w14 z_int z_len), good_succ t15 sc15 rfl rfl rfl (by decide) (w15 z_range), good_succ t16 sc16 rfl rfl rfl (by decide) (w16 hf__law_of z_int z_len z_range z_tuple), good_succ t17 sc17 rfl rfl rfl (by decide) (w17 hf__law_size z_sum), good_succ t18 sc18 rfl rfl rfl (by decide) (w18 hf__law_height z_max), good_succ t19 sc19 rfl rfl rfl (by decide) (w19 hf__law_height hf__law_size), good_succ t20 sc20 rfl rfl rfl (by decide) (w20 hf__law_pick hf__law_two), good_succ t21 sc21 rfl rfl rfl (by decide) (w21 hf__law_exponent hf__law_pick z_max z_range), good_succ t22 sc22 rfl rfl rfl (by decide) (w22 z_int z_len z_range z_sorted), good_succ t23 sc23 rfl rfl rfl (by decide) (w23 hf__law_of hf__law_rows z_tuple), good_succ t24 sc24 rfl rfl rfl (by decide) (w24 hf__law_pick hf__law_rows hf__law_two z_len), good_succ t25 sc25 rfl rfl rfl (by decide) (w25 hf__law_fits hf_shift hj__law_fits k_BadRange_NotAllowed k_BadRange_ReckonError k_BadRange_TooLarge s_BadRange_BadRange s_TooLarge_BadRange s_TooLarge_TooLarge x_BadRange x_NotAllowed x_ReckonError x_TooLarge z_isinstance z_tuple), goodH_succ t17 sc17 rfl rfl rfl (by decide) (wH17 hj__law_size z_sum), goodH_succ t18 sc18 rfl rfl rfl (by decide) (wH18 hj__law_height z_max), goodH_succ t19 sc19 rfl rfl rfl (by decide) (wH19 hj__law_height hj__law_size)⟩
end
end My

set_option Elab.async false
set_option linter.all false
set_option maxRecDepth 100000
set_option maxHeartbeats 4000000
namespace My
open PySem PySem.Spec PyProof.Rows L2 Rf
/-! ### signed binary numbers, no two neighbours -/
abbrev Tm := Int × Nat
def val : List Tm → Int
  | [] => 0
  | t :: r => t.1 * 2 ^ t.2 + val r
def Nf : List Tm → Prop
  | [] => True
  | t :: r => (t.1 = 1 ∨ t.1 = -1) ∧ (∀ u ∈ r.head?, u.2 + 2 ≤ t.2) ∧ Nf r
def sgn (x : Int) : Int := if 0 < x then 1 else if x < 0 then -1 else 0
theorem two_pos (n : Nat) : (0 : Int) < 2 ^ n := Int.pow_pos (by decide)
theorem two_add (n k : Nat) : (2 : Int) ^ (n + k) = 2 ^ n * 2 ^ k := Int.pow_add ..
theorem two_le {n k : Nat} (h : n + 2 ≤ k) : 4 * (2 : Int) ^ n ≤ 2 ^ k := by
  obtain ⟨j, rfl⟩ : ∃ j, k = n + 2 + j := ⟨k - (n + 2), by omega⟩
  have := two_pos j
  have h2 := two_pos n
  rw [two_add, two_add, show (2 : Int) ^ 2 = 4 by decide]
  generalize (2 : Int) ^ n = x at *
  generalize (2 : Int) ^ j = y at *
  have : x * 4 * 1 ≤ x * 4 * y := Int.mul_le_mul_of_nonneg_left (by omega) (by omega)
  omega
theorem two_lt {n k : Nat} (h : n < k) : 2 * (2 : Int) ^ n ≤ 2 ^ k := by
  obtain ⟨j, rfl⟩ : ∃ j, k = n + 1 + j := ⟨k - (n + 1), by omega⟩
  have := two_pos j
  have h2 := two_pos n
  rw [two_add, two_add, show (2 : Int) ^ 1 = 2 by decide]
  generalize (2 : Int) ^ n = x at *
  generalize (2 : Int) ^ j = y at *
  have : x * 2 * 1 ≤ x * 2 * y := Int.mul_le_mul_of_nonneg_left (by omega) (by omega)
  omega
theorem bnd : ∀ {r : List Tm} {t : Tm}, Nf (t :: r) → 2 * 2 ^ t.2 < 3 * (t.1 * val (t :: r)) ∧ 3 * (t.1 * val (t :: r)) < 4 * 2 ^ t.2
  | [], t, h => by
    have p := two_pos t.2
    simp only [val]
    rcases h.1 with e | e <;> rw [e] <;> generalize (2 : Int) ^ t.2 = x at * <;> constructor <;> omega
  | u :: r, t, h => by
    have p := two_pos t.2
    have q := two_le (h.2.1 u rfl)
    have b := bnd h.2.2
    rw [show val (t :: u :: r) = t.1 * 2 ^ t.2 + val (u :: r) from rfl]
    generalize val (u :: r) = v at *
    generalize (2 : Int) ^ t.2 = x at *
    generalize (2 : Int) ^ u.2 = y at *
    rcases h.2.2.1 with e | e <;> rcases h.1 with e2 | e2 <;> rw [e] at b <;> rw [e2] <;> constructor <;> omega
theorem sgn_cons {t : Tm} {r : List Tm} (h : Nf (t :: r)) : sgn (val (t :: r)) = t.1 := by
  have b := bnd h
  have p := two_pos t.2
  generalize val (t :: r) = v at *
  generalize (2 : Int) ^ t.2 = x at *
  unfold sgn
  rcases h.1 with e | e <;> rw [e] at b ⊢
  · rw [if_pos (by omega)]
  · rw [if_neg (by omega), if_pos (by omega)]
def cmpL : List Tm → List Tm → Int
  | [], [] => 0
  | t :: _, [] => t.1
  | [], u :: _ => -u.1
  | t :: r, u :: s => if t.1 ≠ u.1 then t.1 else if u.2 < t.2 then t.1 else if t.2 < u.2 then -t.1 else cmpL r s
theorem sgn_neg (x : Int) : sgn (-x) = -sgn x := by
  unfold sgn
  by_cases h : 0 < x
  · rw [if_neg (by omega), if_pos (by omega), if_pos h]
  · by_cases h2 : x < 0
    · rw [if_pos (by omega), if_neg h, if_pos h2]; rfl
    · rw [if_neg (by omega), if_neg (by omega), if_neg h, if_neg h2]; rfl
theorem cmp_val : ∀ {a b : List Tm}, Nf a → Nf b → cmpL a b = sgn (val a - val b)
  | [], [], _, _ => rfl
  | t :: r, [], h, _ => by
    rw [show val [] = 0 from rfl, Int.sub_zero, sgn_cons h]; rfl
  | [], u :: s, _, h => by
    rw [show val [] = 0 from rfl, Int.zero_sub, sgn_neg, sgn_cons h]; rfl
  | t :: r, u :: s, h, g => by
    have b1 := bnd h
    have b2 := bnd g
    have p1 := two_pos t.2
    have p2 := two_pos u.2
    simp only [cmpL]
    by_cases e : t.1 ≠ u.1
    · rw [if_pos e]
      generalize val (t :: r) = v at *
      generalize val (u :: s) = w at *
      generalize (2 : Int) ^ t.2 = x at *
      generalize (2 : Int) ^ u.2 = y at *
      unfold sgn
      rcases h.1 with e1 | e1 <;> rcases g.1 with e2 | e2 <;> rw [e1] at b1 e ⊢ <;> rw [e2] at b2 e
      · exact absurd rfl e
      · rw [if_pos (by omega)]
      · rw [if_neg (by omega), if_pos (by omega)]
      · exact absurd rfl e
    · rw [if_neg e]
      have e : t.1 = u.1 := by simpa using e
      by_cases lt : u.2 < t.2
      · rw [if_pos lt]
        have q := two_lt lt
        generalize val (t :: r) = v at *
        generalize val (u :: s) = w at *
        generalize (2 : Int) ^ t.2 = x at *
        generalize (2 : Int) ^ u.2 = y at *
        rw [← e] at b2
        unfold sgn
        rcases h.1 with e1 | e1 <;> rw [e1] at b1 b2 ⊢
        · rw [if_pos (by omega)]
        · rw [if_neg (by omega), if_pos (by omega)]
      · rw [if_neg lt]
        by_cases lt2 : t.2 < u.2
        · rw [if_pos lt2]
          have q := two_lt lt2
          generalize val (t :: r) = v at *
          generalize val (u :: s) = w at *
          generalize (2 : Int) ^ t.2 = x at *
          generalize (2 : Int) ^ u.2 = y at *
          rw [← e] at b2
          unfold sgn
          rcases h.1 with e1 | e1 <;> rw [e1] at b1 b2 ⊢
          · rw [if_neg (by omega), if_pos (by omega)]
          · rw [if_pos (by omega)]; rfl
        · rw [if_neg lt2, cmp_val h.2.2 g.2.2]
          have e2 : t.2 = u.2 := by omega
          congr 1
          show _ = t.1 * 2 ^ t.2 + val r - (u.1 * 2 ^ u.2 + val s)
          rw [e, e2]
          generalize u.1 * 2 ^ u.2 = z
          omega
theorem cmp_eq : ∀ {a b : List Tm}, Nf a → Nf b → cmpL a b = 0 → a = b
  | [], [], _, _, _ => rfl
  | t :: r, [], h, _, z => by
    have z : t.1 = 0 := z
    rcases h.1 with e | e <;> omega
  | [], u :: s, _, h, z => by
    have z : -u.1 = 0 := z
    rcases h.1 with e | e <;> omega
  | t :: r, u :: s, h, g, z => by
    simp only [cmpL] at z
    split at z
    · rcases h.1 with e | e <;> omega
    · rename_i e
      have e : t.1 = u.1 := by simpa using e
      split at z
      · rcases h.1 with e | e <;> omega
      · split at z
        · rcases h.1 with e | e <;> omega
        · have e2 : t.2 = u.2 := by omega
          rw [cmp_eq h.2.2 g.2.2 z]
          congr 1
          exact Prod.ext e e2
theorem val_eq {a b : List Tm} (h : Nf a) (g : Nf b) (e : val a = val b) : a = b := cmp_eq h g (by rw [cmp_val h g, e, Int.sub_self]; rfl)
/-! ### numbers as data -/
abbrev T3 := Int × Nat × Rf.D
def tm (t : T3) : Tm := (t.1, t.2.1)
def tD (t : T3) : Rf.D := .tuple [.int t.1, t.2.2]
inductive Fm : Rf.D → Int → Prop
  | mk (ts : List T3) : Nf (ts.map tm) → (∀ t ∈ ts, Fm t.2.2 (t.2.1 : Nat)) → Fm (.tuple (ts.map tD)) (val (ts.map tm))
theorem Fm.inv {x : Rf.D} {v : Int} (h : Fm x v) : ∃ ts : List T3, x = .tuple (ts.map tD) ∧ v = val (ts.map tm) ∧ Nf (ts.map tm) ∧ ∀ t ∈ ts, Fm t.2.2 (t.2.1 : Nat) := by
  cases h with
  | mk ts h1 h2 => exact ⟨ts, rfl, rfl, h1, h2⟩
theorem tm_of_tD : ∀ {a b : List T3}, (∀ t ∈ a, ∀ w, Fm t.2.2 w → (t.2.1 : Int) = w) → (∀ t ∈ b, Fm t.2.2 (t.2.1 : Nat)) → a.map tD = b.map tD → a.map tm = b.map tm
  | [], [], _, _, _ => rfl
  | [], u :: s, _, _, h => by simp at h
  | t :: r, [], _, _, h => by simp at h
  | t :: r, u :: s, h1, h2, h => by
    simp only [List.map_cons, List.cons.injEq] at h ⊢
    obtain ⟨e, h⟩ := h
    refine ⟨?_, tm_of_tD (fun t ht => h1 t (List.mem_cons_of_mem _ ht)) (fun t ht => h2 t (List.mem_cons_of_mem _ ht)) h⟩
    unfold tD at e
    simp only [PyData.tuple.injEq, List.cons.injEq, PyData.int.injEq, and_true] at e
    have q := h1 t (List.mem_cons_self ..) (u.2.1 : Nat) (by rw [e.2]; exact h2 u (List.mem_cons_self ..))
    unfold tm
    rw [e.1, show t.2.1 = u.2.1 by omega]
theorem Fm.det {x : Rf.D} {v : Int} (h : Fm x v) : ∀ w, Fm x w → v = w := by
  induction h with
  | mk ts h1 h2 ih =>
    intro w h
    obtain ⟨us, e1, e2, e3, e4⟩ := h.inv
    rw [e2, tm_of_tD ih e4 (by simpa using e1)]
theorem tD_of_tm : ∀ {a b : List T3}, (∀ t ∈ a, ∀ y, Fm y (t.2.1 : Nat) → t.2.2 = y) → (∀ t ∈ b, Fm t.2.2 (t.2.1 : Nat)) → a.map tm = b.map tm → a.map tD = b.map tD
  | [], [], _, _, _ => rfl
  | [], u :: s, _, _, h => by simp at h
  | t :: r, [], _, _, h => by simp at h
  | t :: r, u :: s, h1, h2, h => by
    simp only [List.map_cons, List.cons.injEq] at h ⊢
    obtain ⟨e, h⟩ := h
    refine ⟨?_, tD_of_tm (fun t ht => h1 t (List.mem_cons_of_mem _ ht)) (fun t ht => h2 t (List.mem_cons_of_mem _ ht)) h⟩
    unfold tm at e
    simp only [Prod.mk.injEq] at e
    have q := h1 t (List.mem_cons_self ..) u.2.2 (by rw [e.2]; exact h2 u (List.mem_cons_self ..))
    unfold tD
    rw [e.1, q]
theorem Fm.uniq {x : Rf.D} {v : Int} (h : Fm x v) : ∀ y, Fm y v → x = y := by
  induction h with
  | mk ts h1 h2 ih =>
    intro y h
    obtain ⟨us, rfl, e2, e3, e4⟩ := h.inv
    rw [tD_of_tm ih e4 (val_eq h1 e3 e2)]
/-! equality of such data -/
mutual
def pl : Rf.D → Bool
  | .int _ => true
  | .tuple xs => pls xs
  | _ => false
def pls : List Rf.D → Bool
  | [] => true
  | x :: r => pl x && pls r
end
mutual
theorem pl_lay : ∀ {x : Rf.D}, pl x = true → x.canLay0 = true
  | .int _, _ => by simp only [PyData.canLay0]
  | .tuple xs, h => by simp only [PyData.canLay0]; exact pls_lay (by simpa [pl] using h)
  | .none, h => by simp [pl] at h
  | .bool _, h => by simp [pl] at h
  | .str _, h => by simp [pl] at h
  | .list _, h => by simp [pl] at h
  | .dict _, h => by simp [pl] at h
theorem pls_lay : ∀ {x : List Rf.D}, pls x = true → PyData.canLayAll0 x = true
  | [], _ => by simp only [PyData.canLayAll0]
  | x :: r, h => by
    simp only [pls, Bool.and_eq_true] at h
    simp only [PyData.canLayAll0, pl_lay h.1, pls_lay h.2, Bool.and_self]
end
mutual
theorem eqv_pl : ∀ {x y : Rf.D}, pl x = true → pl y = true → PyData.eqv x y = true → x = y
  | .int i, .int j, _, _, h => by simp [PyData.eqv] at h; rw [h]
  | .tuple xs, .tuple ys, h1, h2, h => by
    exact congrArg PyData.tuple (eqvs_pl (by simpa [pl] using h1) (by simpa [pl] using h2) (by simpa [PyData.eqv] using h))
  | .int _, .tuple _, _, _, h => by simp [PyData.eqv] at h
  | .tuple _, .int _, _, _, h => by simp [PyData.eqv] at h
  | .none, _, h, _, _ => by simp [pl] at h
  | .bool _, _, h, _, _ => by simp [pl] at h
  | .str _, _, h, _, _ => by simp [pl] at h
  | .list _, _, h, _, _ => by simp [pl] at h
  | .dict _, _, h, _, _ => by simp [pl] at h
  | .int _, .none, _, h, _ => by simp [pl] at h
  | .int _, .bool _, _, h, _ => by simp [pl] at h
  | .int _, .str _, _, h, _ => by simp [pl] at h
  | .int _, .list _, _, h, _ => by simp [pl] at h
  | .int _, .dict _, _, h, _ => by simp [pl] at h
  | .tuple _, .none, _, h, _ => by simp [pl] at h
  | .tuple _, .bool _, _, h, _ => by simp [pl] at h
  | .tuple _, .str _, _, h, _ => by simp [pl] at h
  | .tuple _, .list _, _, h, _ => by simp [pl] at h
  | .tuple _, .dict _, _, h, _ => by simp [pl] at h
theorem eqvs_pl : ∀ {x y : List Rf.D}, pls x = true → pls y = true → PyData.eqvAll x y = true → x = y
  | [], [], _, _, _ => rfl
  | x :: r, y :: s, h1, h2, h => by
    simp only [pls, Bool.and_eq_true] at h1 h2
    simp only [PyData.eqvAll, Bool.and_eq_true] at h
    rw [eqv_pl h1.1 h2.1 h.1, eqvs_pl h1.2 h2.2 h.2]
  | [], _ :: _, _, _, h => by simp [PyData.eqvAll] at h
  | _ :: _, [], _, _, h => by simp [PyData.eqvAll] at h
end
theorem eqv_no {x y : Rf.D} (h : pl x = true) (g : pl y = true) (e : x ≠ y) : PyData.eqv x y = false := by
  cases q : PyData.eqv x y with
  | false => rfl
  | true => exact absurd (eqv_pl h g q) e
theorem pls_all : ∀ {ts : List T3}, (∀ t ∈ ts, pl t.2.2 = true) → pls (ts.map tD) = true
  | [], _ => rfl
  | t :: r, h => by
    simp only [List.map_cons, pls, pls_all fun u hu => h u (List.mem_cons_of_mem _ hu), Bool.and_true]
    simp only [tD, pl, pls, Bool.and_true, Bool.true_and]
    exact h t (List.mem_cons_self ..)
theorem Fm.pl {x : Rf.D} {v : Int} (h : Fm x v) : My.pl x = true := by
  induction h with
  | mk ts h1 h2 ih =>
    simp only [My.pl]
    exact pls_all ih
theorem eqOk_pl {x y : Rf.D} (h : pl x = true) (g : pl y = true) (d : x.depth ≤ 190) : eqOk x y = true := by
  unfold eqOk; rw [pl_lay h, pl_lay g, decide_eq_true (by omega)]; rfl
theorem eqD_no {x y : Rf.D} (h : pl x = true) (g : pl y = true) (d : x.depth ≤ 190) (n : x ≠ y) : cmpK .eq x y = .ok (.bool false) := by
  have e : cmpD .eq x y = some false := by
    show (if eqOk x y then some (PyData.eqv x y) else none) = _
    rw [if_pos (eqOk_pl h g d), eqv_no h g n]
  rw [cmpK, e]; rfl
theorem eqD_self {x : Rf.D} (h : pl x = true) (d : x.depth ≤ 190) : cmpK .eq x x = .ok (.bool true) := by
  have e : cmpD .eq x x = some true := by
    show (if eqOk x x then some (PyData.eqv x x) else none) = _
    rw [if_pos (eqOk_pl h h d), PySem.SeqAt.eqv_refl _ (pl_lay h)]
  rw [cmpK, e]; rfl
theorem dep_all : ∀ {ts : List T3} {t : T3}, t ∈ ts → t.2.2.depth + 1 ≤ PyData.depthAll (ts.map tD)
  | u :: r, t, h => by
    simp only [List.map_cons, PyData.depthAll]
    rcases List.mem_cons.mp h with rfl | h
    · simp only [tD, PyData.depth, PyData.depthAll]; omega
    · have := dep_all h; omega
theorem dep_le : ∀ {ts : List T3} {n : Nat}, (∀ t ∈ ts, t.2.2.depth ≤ n) → PyData.depthAll (ts.map tD) ≤ n + 1
  | [], _, _ => by simp [PyData.depthAll]
  | u :: r, n, h => by
    have h1 := h u (List.mem_cons_self ..)
    have h2 := dep_le fun t ht => h t (List.mem_cons_of_mem _ ht)
    simp only [List.map_cons, PyData.depthAll, tD, PyData.depth]
    omega
end My

set_option Elab.async false
set_option linter.all false
set_option maxRecDepth 100000
set_option maxHeartbeats 4000000
namespace My
open PySem PySem.Spec PyProof.Rows L2 Rf
section
variable {Φ : FT} {F : Nat}
/-! ### compare -/
abbrev tgC : Tgt := .tp [(.tp [(.nm 2), (.nm 3)]), (.tp [(.nm 4), (.nm 5)])]
theorem mul_sgn {z s : Int} : binK .mul (.int (sgn z)) (.int s) = .ok (.int (sgn z * s)) := binK_mul (.inl (by unfold sgn; split; decide; split <;> decide))
def CEnd (a b : List T3) : Prop := (b.length < a.length ∧ ∃ t, a[b.length]? = some t ∧ cmpL (a.map tm) (b.map tm) = t.1) ∨ (a.length < b.length ∧ ∃ u, b[a.length]? = some u ∧ cmpL (a.map tm) (b.map tm) = -u.1) ∨ a.map tD = b.map tD
theorem cmp_loop {x y : Slot} : ∀ {a b : List T3}, Nf (a.map tm) → Nf (b.map tm) → (∀ t ∈ a, Fm t.2.2 (t.2.1 : Nat)) → (∀ t ∈ b, Fm t.2.2 (t.2.1 : Nat)) → (∀ t ∈ a, ∀ u ∈ b, Φ 2 [t.2.2, u.2.2] = .ok (.int (sgn ((t.2.1 : Int) - (u.2.1 : Int))))) → ∀ s2 s3 s4 s5 s6 : Slot,
    forL (Rf.execs Φ F b2_1) tgC (zipD (a.map tD) (b.map tD)) [x, y, s2, s3, s4, s5, s6] = .ret (.int (cmpL (a.map tm) (b.map tm))) ∨
    (∃ r2 r3 r4 r5 r6 : Slot, forL (Rf.execs Φ F b2_1) tgC (zipD (a.map tD) (b.map tD)) [x, y, s2, s3, s4, s5, s6] = .nx [x, y, r2, r3, r4, r5, r6] ∧ CEnd a b)
  | [], [], _, _, _, _, _, s2, s3, s4, s5, s6 => .inr ⟨_, _, _, _, _, forL_nil, .inr (.inr rfl)⟩
  | t :: r, [], _, _, _, _, _, s2, s3, s4, s5, s6 => .inr ⟨_, _, _, _, _, forL_nil, .inl ⟨by simp, t, rfl, rfl⟩⟩
  | [], u :: s, _, _, _, _, _, s2, s3, s4, s5, s6 => .inr ⟨_, _, _, _, _, forL_nil, .inr (.inl ⟨by simp, u, rfl, rfl⟩)⟩
  | t :: r, u :: s, h, g, f1, f2, ih, s2, s3, s4, s5, s6 => by
    have hb : bindT tgC (.tuple [tD t, tD u]) [x, y, s2, s3, s4, s5, s6] = some [x, y, .d (.int t.1), .d t.2.2, .d (.int u.1), .d u.2.2, s6] := rfl
    have e0 : zipD ((t :: r).map tD) ((u :: s).map tD) = .tuple [tD t, tD u] :: zipD (r.map tD) (s.map tD) := rfl
    rw [e0, forL_cons hb]
    have hc := ih t (List.mem_cons_self ..) u (List.mem_cons_self ..)
    have e1 : cmpL ((t :: r).map tm) ((u :: s).map tm) = if t.1 ≠ u.1 then t.1 else if u.2.1 < t.2.1 then t.1 else if t.2.1 < u.2.1 then -t.1 else cmpL (r.map tm) (s.map tm) := rfl
    by_cases e : t.1 = u.1
    · rw [if_neg (by simpa using e)] at e1
      by_cases lt : u.2.1 < t.2.1
      · rw [if_pos lt] at e1
        have hz : sgn ((t.2.1 : Int) - (u.2.1 : Int)) = 1 := by unfold sgn; rw [if_pos (by omega)]
        rw [hz] at hc
        refine .inl ?_
        rw [e1]
        simp [b2_1, e, hc]
      · rw [if_neg lt] at e1
        by_cases lt2 : t.2.1 < u.2.1
        · rw [if_pos lt2] at e1
          have hz : sgn ((t.2.1 : Int) - (u.2.1 : Int)) = -1 := by unfold sgn; rw [if_neg (by omega), if_pos (by omega)]
          rw [hz] at hc
          refine .inl ?_
          rw [e1]
          simp [b2_1, e, hc]
        · rw [if_neg lt2] at e1
          have hz : sgn ((t.2.1 : Int) - (u.2.1 : Int)) = 0 := by unfold sgn; rw [if_neg (by omega), if_neg (by omega)]
          rw [hz] at hc
          have hbody : Rf.execs Φ F b2_1 [x, y, .d (.int t.1), .d t.2.2, .d (.int u.1), .d u.2.2, s6] = .nx [x, y, .d (.int t.1), .d t.2.2, .d (.int u.1), .d u.2.2, .d (.int 0)] := by
            simp [b2_1, e, hc]
          rw [hbody, Out.turn_nx]
          have e2 : t.2.1 = u.2.1 := by omega
          have e3 : t.2.2 = u.2.2 := (f1 t (List.mem_cons_self ..)).uniq _ (by rw [e2]; exact f2 u (List.mem_cons_self ..))
          have e4 : tD t = tD u := by unfold tD; rw [e, e3]
          rcases cmp_loop (x := x) (y := y) h.2.2 g.2.2 (fun t ht => f1 t (List.mem_cons_of_mem _ ht)) (fun t ht => f2 t (List.mem_cons_of_mem _ ht)) (fun t ht u hu => ih t (List.mem_cons_of_mem _ ht) u (List.mem_cons_of_mem _ hu)) (.d (.int t.1)) (.d t.2.2) (.d (.int u.1)) (.d u.2.2) (.d (.int 0)) with q | ⟨r2, r3, r4, r5, r6, q, c⟩
          · exact .inl (by rw [q, e1])
          · refine .inr ⟨r2, r3, r4, r5, r6, q, ?_⟩
            rcases c with ⟨c1, w, c2, c3⟩ | ⟨c1, w, c2, c3⟩ | c
            · exact .inl ⟨by simpa using c1, w, by simpa using c2, by rw [e1]; exact c3⟩
            · exact .inr (.inl ⟨by simpa using c1, w, by simpa using c2, by rw [e1]; exact c3⟩)
            · exact .inr (.inr (by simp only [List.map_cons, e4, c]))
    · rw [if_pos e] at e1
      refine .inl ?_
      rw [e1]
      simp [b2_1, e]
theorem idx_tD {a : List T3} {n : Nat} {t : T3} (h : a[n]? = some t) : idxK (.tuple (a.map tD)) (.int (n : Int)) = .ok (tD t) := by
  have e : idxD (.tuple (a.map tD)) (.int (n : Int)) = some (tD t) := by
    show L2.atI _ _ = _
    refine atI_at (by omega) ?_
    rw [List.getElem?_map]
    simp [h]
  rw [idxK, e]; rfl
theorem idx_sg {t : T3} : idxK (tD t) (.int 0) = .ok (.int t.1) := rfl
theorem compare_run {x y : Rf.D} {v w : Int} (hx : Fm x v) (hy : Fm y w) (hd : x.depth ≤ 190) (ih : ∀ d e n m, Fm d n → Fm e m → d.depth + 2 ≤ x.depth → Φ 2 [d, e] = .ok (.int (sgn (n - m)))) :
    Fdef.run ⟨2, 7, b2⟩ Φ F [x, y] = .ok (.int (sgn (v - w))) := by
  by_cases e : x = y
  · subst e
    rw [hx.det _ hy, Int.sub_self]
    have c := eqD_self hx.pl hd
    refine run_ret rfl ?_
    simp [b2, c, sgn]
  · have c := eqD_no hx.pl hy.pl hd e
    obtain ⟨a, rfl, rfl, n1, f1⟩ := hx.inv
    obtain ⟨b, rfl, rfl, n2, f2⟩ := hy.inv
    rw [← cmp_val n1 n2]
    have hl := cmp_loop (Φ := Φ) (F := F) (x := .d (.tuple (a.map tD))) (y := .d (.tuple (b.map tD))) n1 n2 f1 f2 (fun t ht u hu => ih _ _ _ _ (f1 t ht) (f2 u hu) (by
      have := dep_all ht
      simp only [PyData.depth]
      omega)) .un .un .un .un .un
    rcases hl with q | ⟨r2, r3, r4, r5, r6, q, c1⟩
    · refine run_ret rfl ?_
      simp [b2, c, q]
    · rcases c1 with ⟨c1, t, c2, c3⟩ | ⟨c1, t, c2, c3⟩ | c1
      · rw [c3]
        have i1 := idx_tD c2
        refine run_ret rfl ?_
        have l1 : (b.length : Int) < (a.length : Int) := by omega
        simp [b2, c, q, l1, c1, i1, idx_sg]
      · rw [c3]
        have i1 := idx_tD c2
        refine run_ret rfl ?_
        have l1 : ¬ (b.length : Int) < (a.length : Int) := by omega
        simp [b2, c, q, l1, show ¬ b.length < a.length by omega, i1, idx_sg]
      · exact absurd (congrArg PyData.tuple c1) e
theorem compare_ok : ∀ (n : Nat) {x y : Rf.D} {v w : Int}, Fm x v → Fm y w → x.depth ≤ 190 → x.depth ≤ 2 * n → phi TB F n 2 [x, y] = .ok (.int (sgn (v - w)))
  | 0, x, y, v, w, hx, _, _, h => by
    obtain ⟨a, rfl, _⟩ := hx.inv
    simp [PyData.depth] at h
  | n + 1, x, y, v, w, hx, hy, hd, h => (phi_succ rfl).trans (compare_run hx hy hd fun d e p q hp hq hh => compare_ok n hp hq (by omega) (by omega))
theorem sign_run {x : Rf.D} {v : Int} (hx : Fm x v) : Fdef.run ⟨1, 1, b3⟩ Φ F [x] = .ok (.int (sgn v)) := by
  obtain ⟨a, rfl, rfl, n1, f1⟩ := hx.inv
  cases a with
  | nil =>
    refine run_ret rfl ?_
    simp [b3]
    rfl
  | cons t r =>
    have i1 := idx_tD (a := t :: r) (n := 0) rfl
    have i1 : idxK (.tuple (tD t :: r.map tD)) (.int 0) = .ok (tD t) := i1
    have e : sgn (val ((t :: r).map tm)) = t.1 := sgn_cons n1
    rw [e]
    refine run_ret rfl ?_
    have l1 : ¬ ((r.length : Int) + 1 = 0) := by omega
    simp [b3, l1, i1, idx_sg]
end
end My

set_option Elab.async false
set_option linter.all false
set_option maxRecDepth 100000
set_option maxHeartbeats 4000000
namespace My
open PySem PySem.Spec PyProof.Rows L2 Rf
/-! ### the law of gathered -/
abbrev Ky := Nat × Rf.D
abbrev CL := List (Nat × Rf.D × Int)
def cget (C : CL) (k : Nat) : Int := ((C.find? fun p => p.1 == k).map (·.2.2)).getD 0
def wsum (C : CL) : List Ky → Int
  | [] => 0
  | k :: r => cget C k.1 * 2 ^ k.1 + wsum C r
def wmu (C : CL) : List Ky → Nat
  | [] => 0
  | k :: r => 2 * (cget C k.1).natAbs + 4 + wmu C r
def pend (C : CL) (c : Int) (e : Nat) (ws : List Ky) (p : Nat) : Int := (if c ≠ 0 ∧ e = p then c else 0) + (match ws with
  | [] => 0
  | k :: _ => if k.1 = p then cget C p else 0)
structure Gs (C : CL) (V : Int) (c : Int) (e : Nat) (ws : List Ky) (acc : List T3) : Prop where
  asc : ws.Pairwise fun a b => a.1 < b.1
  ge : c ≠ 0 → ∀ k ∈ ws, e ≤ k.1
  tot : val (acc.map tm) + c * 2 ^ e + wsum C ws = V
  nf : Nf (acc.reverse.map tm)
  fm : ∀ t ∈ acc, Fm t.2.2 (t.2.1 : Nat)
  s1 : ∀ t, acc.getLast? = some t → c ≠ 0 → t.2.1 + 1 ≤ e
  s2 : ∀ t, acc.getLast? = some t → ∀ k ∈ ws, t.2.1 + 1 ≤ k.1
  ev : ∀ t, acc.getLast? = some t → pend C c e ws (t.2.1 + 1) % 2 = 0
structure Gp (C : CL) (V : Int) (c : Int) (e : Nat) (ws : List Ky) (acc : List T3) : Prop where
  asc : ws.Pairwise fun a b => a.1 < b.1
  gt : ∀ k ∈ ws, e < k.1
  tot : val (acc.map tm) + c * 2 ^ e + wsum C ws = V
  nf : Nf (acc.reverse.map tm)
  fm : ∀ t ∈ acc, Fm t.2.2 (t.2.1 : Nat)
  s1 : ∀ t, acc.getLast? = some t → t.2.1 + 1 ≤ e
  ev : ∀ t, acc.getLast? = some t → e = t.2.1 + 1 → c % 2 = 0
section
variable {C : CL} {V c : Int} {e : Nat} {ws r : List Ky} {acc : List T3} {k : Ky} {x : Rf.D}
theorem Gs.pop1 (h : Gs C V c e (k :: r) acc) (hc : c = 0 ∨ k.1 = e) : Gp C V (c + cget C k.1) k.1 r acc where
  asc := (List.pairwise_cons.mp h.asc).2
  gt := (List.pairwise_cons.mp h.asc).1
  tot := by
    have t := h.tot
    simp only [wsum] at t
    rw [Int.add_mul]
    rcases hc with rfl | rfl
    · rw [Int.zero_mul] at t ⊢
      omega
    · omega
  nf := h.nf
  fm := h.fm
  s1 := fun t ht => h.s2 t ht k (List.mem_cons_self ..)
  ev := fun t ht he => by
    have q := h.ev t ht
    unfold pend at q
    simp only [he, if_true] at q
    rcases hc with rfl | rfl
    · simpa [he] using q
    · rw [he] at q ⊢
      by_cases z : c = 0
      · subst z; simpa using q
      · simpa [z] using q
theorem Gs.pop0 (h : Gs C V c e ws acc) (hc : c ≠ 0) (hk : ∀ k, ws.head? = some k → k.1 ≠ e) : Gp C V c e ws acc where
  asc := h.asc
  gt := fun k hm => by
    have g := h.ge hc
    cases ws with
    | nil => cases hm
    | cons k0 r =>
      have h0 := hk k0 rfl
      have h1 := g k0 (List.mem_cons_self ..)
      rcases List.mem_cons.mp hm with rfl | hm
      · omega
      · have := (List.pairwise_cons.mp h.asc).1 k hm; omega
  tot := h.tot
  nf := h.nf
  fm := h.fm
  s1 := fun t ht => h.s1 t ht hc
  ev := fun t ht he => by
    have q := h.ev t ht
    unfold pend at q
    rw [if_pos ⟨hc, he⟩] at q
    cases ws with
    | nil => simpa using q
    | cons k0 r =>
      have h0 := hk k0 rfl
      simp only [if_neg (show ¬ k0.1 = t.2.1 + 1 by omega)] at q
      simpa using q
theorem val_snoc {l : List Tm} {t : Tm} : val (l ++ [t]) = val l + t.1 * 2 ^ t.2 := by
  induction l with
  | nil => simp [val]
  | cons u l ih => simp only [List.cons_append, val, ih]; omega
def nxt (C : CL) (e : Nat) : List Ky → Int
  | [] => 0
  | k :: _ => if k.1 = e + 1 then cget C (e + 1) else 0
def sgnAt (c n : Int) : Int := if (c + 2 * n) % 4 = 1 then 1 else -1
theorem sgnAt_or {c n : Int} : sgnAt c n = 1 ∨ sgnAt c n = -1 := by unfold sgnAt; split; exact .inl rfl; exact .inr rfl
theorem sgnAt_mod {c n : Int} (h : c % 2 = 1) : (c - sgnAt c n) % 2 = 0 ∧ ((c - sgnAt c n) / 2 + n) % 2 = 0 := by
  unfold sgnAt
  split <;> omega
theorem pend_nxt {d : Int} {e : Nat} : pend C d (if d = 0 then e else e + 1) ws (e + 1) = d + nxt C e ws := by
  unfold pend nxt
  by_cases z : d = 0
  · subst z; simp
  · simp [z]
theorem half_tot {c2 : Int} (h : c2 % 2 = 0) {e : Nat} : c2 / 2 * 2 ^ (if c2 / 2 = 0 then e else e + 1) = c2 * 2 ^ e := by
  by_cases z : c2 / 2 = 0
  · rw [z, show c2 = 0 by omega]; simp
  · rw [if_neg z, Int.pow_succ]
    rw [show c2 / 2 * (2 ^ e * 2) = (c2 / 2 * 2) * 2 ^ e by rw [Int.mul_comm (2 ^ e) 2, ← Int.mul_assoc]]
    congr 1
    omega
theorem Gp.odd (h : Gp C V c e ws acc) (hc : c % 2 = 1) (hx : Fm x (e : Nat)) {s : Int} (hs : s = sgnAt c (nxt C e ws)) : Gs C V ((c - s) / 2) (if (c - s) / 2 = 0 then e else e + 1) ws (acc ++ [(s, e, x)]) := by
  have so : s = 1 ∨ s = -1 := hs ▸ sgnAt_or
  obtain ⟨m1, m2⟩ := sgnAt_mod (n := nxt C e ws) hc
  rw [← hs] at m1 m2
  have gl : ∀ t, (acc ++ [(s, e, x)]).getLast? = some t → t = (s, e, x) := fun t ht => by
    rw [List.getLast?_append] at ht
    simpa using ht.symm
  refine ⟨h.asc, fun _ k hk => ?_, ?_, ?_, fun t ht => ?_, fun t ht z => ?_, fun t ht k hk => ?_, fun t ht => ?_⟩
  · have := h.gt k hk
    split <;> omega
  · have t := h.tot
    rw [List.map_append, List.map_cons, List.map_nil, val_snoc, half_tot m1, Int.sub_mul]
    show val (acc.map tm) + s * 2 ^ e + (c * 2 ^ e - s * 2 ^ e) + _ = V
    omega
  · rw [List.reverse_append, List.reverse_cons, List.reverse_nil, List.nil_append, List.cons_append, List.map_cons, List.nil_append]
    refine ⟨so, fun u hu => ?_, h.nf⟩
    rw [List.head?_map, List.head?_reverse] at hu
    cases q : acc.getLast? with
    | none => rw [q] at hu; simp at hu
    | some t =>
      rw [q] at hu
      have hu : tm t = u := by simpa using hu
      subst hu
      have a := h.s1 t q
      have b := h.ev t q
      show t.2.1 + 2 ≤ e
      by_cases z : e = t.2.1 + 1
      · have := b z; omega
      · omega
  · rcases List.mem_append.mp ht with ht | ht
    · exact h.fm t ht
    · rw [List.mem_singleton.mp ht]; exact hx
  · rw [gl t ht]
    show e + 1 ≤ _
    rw [if_neg z]
    exact Nat.le_refl _
  · rw [gl t ht]
    have := h.gt k hk
    show e + 1 ≤ _
    omega
  · rw [gl t ht]
    show pend C _ _ ws (e + 1) % 2 = 0
    rw [pend_nxt]
    exact m2
theorem Gp.even (h : Gp C V c e ws acc) (hc : c % 2 = 0) : Gs C V (c / 2) (if c / 2 = 0 then e else e + 1) ws acc := by
  refine ⟨h.asc, fun _ k hk => ?_, ?_, h.nf, h.fm, fun t ht z => ?_, fun t ht k hk => ?_, fun t ht => ?_⟩
  · have := h.gt k hk
    split <;> omega
  · rw [half_tot hc]; exact h.tot
  · have := h.s1 t ht
    rw [if_neg z]; omega
  · have := h.gt k hk
    have := h.s1 t ht
    omega
  · have a := h.s1 t ht
    unfold pend
    have e1 : ¬ (c / 2 ≠ 0 ∧ (if c / 2 = 0 then e else e + 1) = t.2.1 + 1) := fun ⟨z1, z2⟩ => by
      rw [if_neg z1] at z2
      omega
    rw [if_neg e1]
    cases ws with
    | nil => rfl
    | cons k r =>
      have := h.gt k (List.mem_cons_self ..)
      simp only [if_neg (show ¬ k.1 = t.2.1 + 1 by omega)]
      rfl
/-! measure -/
def mu (C : CL) (c : Int) (e : Nat) (ws : List Ky) : Nat := wmu C ws + 2 * c.natAbs + if c ≠ 0 ∧ (∀ k, ws.head? = some k → k.1 ≠ e) then 1 else 0
theorem mu_le {c : Int} {e : Nat} : mu C c e ws ≤ wmu C ws + 2 * c.natAbs + 1 := by
  unfold mu; split <;> omega
theorem half_abs {c s : Int} (hs : s = 1 ∨ s = -1 ∨ s = 0) (h2 : (c - s) % 2 = 0) : 2 * ((c - s) / 2).natAbs ≤ c.natAbs + 1 := by
  rcases hs with rfl | rfl | rfl <;> omega
theorem mu_pop {c' : Int} {e' : Nat} (h : 2 * c'.natAbs ≤ (c + cget C k.1).natAbs + 1) : mu C c' e' r < mu C c e (k :: r) := by
  have a := mu_le (C := C) (c := c') (e := e') (ws := r)
  have b : wmu C (k :: r) + 2 * c.natAbs ≤ mu C c e (k :: r) := by unfold mu; omega
  simp only [wmu] at b
  omega
theorem mu_odd (hc : c % 2 = 1) (hk : ∀ k, ws.head? = some k → k.1 ≠ e) {s : Int} (hs : s = sgnAt c (nxt C e ws)) : mu C ((c - s) / 2) (if (c - s) / 2 = 0 then e else e + 1) ws < mu C c e ws := by
  have so : s = 1 ∨ s = -1 := hs ▸ sgnAt_or
  have h1 := half_abs (c := c) (s := s) (by rcases so with h | h; exact .inl h; exact .inr (.inl h)) (by omega)
  have a : mu C c e ws = wmu C ws + 2 * c.natAbs + 1 := by unfold mu; rw [if_pos ⟨by omega, hk⟩]
  rw [a]
  have b := mu_le (C := C) (c := (c - s) / 2) (e := if (c - s) / 2 = 0 then e else e + 1) (ws := ws)
  by_cases h2 : c.natAbs ≥ 2
  · omega
  · by_cases z : (c - s) / 2 = 0
    · rw [z]
      have : mu C 0 (if (0 : Int) = 0 then e else e + 1) ws = wmu C ws := by unfold mu; simp
      rw [this]
      omega
    · -- the next one is popped
      have hn : nxt C e ws ≠ 0 := fun hn => by
        rw [hn] at hs
        unfold sgnAt at hs
        split at hs <;> omega
      have : mu C ((c - s) / 2) (if (c - s) / 2 = 0 then e else e + 1) ws = wmu C ws + 2 * ((c - s) / 2).natAbs := by
        unfold mu
        rw [if_neg z]
        have : ¬ ((c - s) / 2 ≠ 0 ∧ ∀ k, ws.head? = some k → k.1 ≠ e + 1) := fun ⟨_, q⟩ => by
          cases ws with
          | nil => exact hn rfl
          | cons k r =>
            have := q k rfl
            exact hn (if_neg this)
        rw [if_neg this]
        omega
      omega
theorem mu_even (hc : c % 2 = 0) (h0 : c ≠ 0) (hk : ∀ k, ws.head? = some k → k.1 ≠ e) {e' : Nat} : mu C (c / 2) e' ws < mu C c e ws := by
  have a : mu C c e ws = wmu C ws + 2 * c.natAbs + 1 := by unfold mu; rw [if_pos ⟨h0, hk⟩]
  have b := mu_le (C := C) (c := c / 2) (e := e') (ws := ws)
  omega
/-! the top -/
theorem val_rev {l : List Tm} : val l.reverse = val l := by
  induction l with
  | nil => rfl
  | cons t l ih => rw [List.reverse_cons, val_snoc, ih]; simp only [val]; omega
theorem mul_big {c P : Int} (hP : 0 < P) : (1 ≤ c → P ≤ c * P) ∧ (2 ≤ c → 2 * P ≤ c * P) ∧ (c ≤ -1 → c * P ≤ -P) ∧ (c ≤ -2 → c * P ≤ -(2 * P)) := by
  refine ⟨fun h => ?_, fun h => ?_, fun h => ?_, fun h => ?_⟩
  · have := Int.mul_le_mul_of_nonneg_right h (show 0 ≤ P by omega); omega
  · have := Int.mul_le_mul_of_nonneg_right h (show 0 ≤ P by omega); omega
  · have := Int.mul_le_mul_of_nonneg_right h (show 0 ≤ P by omega); omega
  · have := Int.mul_le_mul_of_nonneg_right h (show 0 ≤ P by omega); omega
theorem Gs.top (h : Gs C V c e [] acc) (hc : c ≠ 0) : 2 * (2 : Int) ^ e < 3 * V ∨ 3 * V < -(2 * 2 ^ e) := by
  have t := h.tot
  have P := two_pos e
  have M := mul_big (c := c) P
  simp only [wsum, Int.add_zero] at t
  cases q : acc.getLast? with
  | none =>
    have : acc = [] := by simpa using q
    subst this
    simp only [List.map_nil, val, Int.zero_add] at t
    generalize (2 : Int) ^ e = p at *
    generalize c * p = z at *
    omega
  | some u =>
    have n := h.nf
    obtain ⟨l0, e0⟩ := List.getLast?_eq_some_iff.mp q
    have e1 : acc.reverse = u :: l0.reverse := by rw [e0]; simp
    rw [e1, List.map_cons] at n
    have b := bnd n
    rw [← List.map_cons, ← e1, List.map_reverse, val_rev] at b
    have s := h.s1 u q hc
    have ev := h.ev u q
    have su : u.1 = 1 ∨ u.1 = -1 := n.1
    have b : 2 * 2 ^ u.2.1 < 3 * (u.1 * val (acc.map tm)) ∧ 3 * (u.1 * val (acc.map tm)) < 4 * 2 ^ u.2.1 := b
    by_cases z : e = u.2.1 + 1
    · have ev : c % 2 = 0 := by
        unfold pend at ev
        rw [if_pos ⟨hc, z⟩] at ev
        simpa using ev
      subst z
      rw [Int.pow_succ] at *
      generalize val (acc.map tm) = v at *
      generalize (2 : Int) ^ u.2.1 = y at *
      generalize c * (y * 2) = w at *
      rcases su with su | su <;> rw [su] at b <;> omega
    · have l := two_le (show u.2.1 + 2 ≤ e by omega)
      generalize val (acc.map tm) = v at *
      generalize (2 : Int) ^ u.2.1 = y at *
      generalize (2 : Int) ^ e = p at *
      generalize c * p = w at *
      rcases su with su | su <;> rw [su] at b <;> omega
end
end My

set_option Elab.async false
set_option linter.all false
set_option maxRecDepth 100000
set_option maxHeartbeats 4000000
namespace My
open PySem PySem.Spec PyProof.Rows L2 Rf
section
variable {Φ : FT} {F n : Nat}
/-! ### depth -/
theorem two_mono {i j : Nat} (h : i ≤ j) : (2 : Int) ^ i ≤ 2 ^ j := by
  obtain ⟨k, rfl⟩ : ∃ k, j = i + k := ⟨j - i, by omega⟩
  rw [two_add]
  have a := two_pos i
  have b := two_pos k
  have := Int.mul_le_mul_of_nonneg_left (show 1 ≤ (2 : Int) ^ k by omega) (show (0 : Int) ≤ 2 ^ i by omega)
  omega
theorem head_le : ∀ {r : List Tm} {t : Tm}, Nf (t :: r) → ∀ u ∈ r, u.2 ≤ t.2
  | [], _, _, u, hu => by simp at hu
  | w :: r, t, h, u, hu => by
    have a := h.2.1 w rfl
    rcases List.mem_cons.mp hu with rfl | hu
    · omega
    · have := head_le h.2.2 u hu; omega
theorem exp_le {l : List Tm} (h : Nf l) {k : Nat} (hv : val l ≤ 2 ^ k ∧ -(2 ^ k) ≤ val l) : ∀ t ∈ l, t.2 ≤ k := by
  cases l with
  | nil => intro t ht; simp at ht
  | cons u r =>
    have b := bnd h
    have hu : u.2 ≤ k := by
      refine Nat.le_of_not_lt fun lt => ?_
      have := two_lt lt
      generalize val (u :: r) = v at *
      generalize (2 : Int) ^ u.2 = x at *
      generalize (2 : Int) ^ k = y at *
      rcases h.1 with e | e <;> rw [e] at b <;> omega
    intro t ht
    rcases List.mem_cons.mp ht with rfl | ht
    · exact hu
    · have := head_le h t ht; omega
def dl : Nat → Nat
  | 0 => 0
  | 1 => 0
  | 2 => 1
  | 3 => 2
  | 4 => 4
  | 5 => 16
  | _ => 10000
theorem dl_step : ∀ {n : Nat}, n ≤ 5 → ∀ {e : Nat}, e ≤ dl (n + 1) → (n = 0 → e = 0) ∧ (e : Int) ≤ 2 ^ dl n := fun {n} hn {e} he => by
  match n, hn with
  | 0, _ => exact ⟨fun _ => Nat.le_zero.mp he, by have : e ≤ 0 := he; show (e : Int) ≤ 1; omega⟩
  | 1, _ => exact ⟨nofun, by have : e ≤ 1 := he; show (e : Int) ≤ 1; omega⟩
  | 2, _ => exact ⟨nofun, by have : e ≤ 2 := he; show (e : Int) ≤ 2; omega⟩
  | 3, _ => exact ⟨nofun, by have : e ≤ 4 := he; show (e : Int) ≤ 4; omega⟩
  | 4, _ => exact ⟨nofun, by have : e ≤ 16 := he; show (e : Int) ≤ 16; omega⟩
  | 5, _ => exact ⟨nofun, by have : e ≤ 10000 := he; show (e : Int) ≤ 65536; omega⟩
theorem dep_fm : ∀ {n : Nat}, n ≤ 6 → ∀ {x : Rf.D} {v : Int}, Fm x v → (n = 0 → v = 0) → v ≤ 2 ^ dl n → -(2 ^ dl n) ≤ v → x.depth ≤ 2 * n + 1
  | 0, _, x, v, hx, hz, _, _ => by
    have e := hz rfl
    subst e
    have : Fm (.tuple []) 0 := Fm.mk [] trivial fun t ht => by simp at ht
    rw [hx.uniq _ this]
    decide
  | n + 1, hn, x, v, hx, _, h1, h2 => by
    obtain ⟨ts, rfl, rfl, nf, fm⟩ := hx.inv
    have ex := exp_le nf ⟨h1, h2⟩
    have : PyData.depthAll (ts.map tD) ≤ 2 * n + 1 + 1 := dep_le fun t ht => by
      obtain ⟨a, b⟩ := dl_step (n := n) (by omega) (ex (tm t) (List.mem_map.mpr ⟨t, ht, rfl⟩))
      refine dep_fm (n := n) (by omega) (fm t ht) (fun z => by rw [show t.2.1 = 0 from a z]; rfl) b ?_
      have := two_pos (dl n)
      omega
    simp only [PyData.depth]
    omega
theorem dep13 {x : Rf.D} {v : Int} (hx : Fm x v) (h1 : v ≤ 2 ^ 10000) (h2 : -(2 ^ 10000) ≤ v) : x.depth ≤ 13 := dep_fm (n := 6) (by decide) hx nofun h1 h2
theorem depN {x : Rf.D} {e : Nat} (hx : Fm x (e : Nat)) (h : e ≤ 100000) : x.depth ≤ 13 := dep13 hx (by
  have := two_mono (i := 17) (j := 10000) (by decide)
  omega) (by have := two_pos 10000; omega)
/-! ### keys -/
mutual
theorem pl_nk : ∀ {x : Rf.D}, pl x = true → nkeyI x = true
  | .int _, _ => rfl
  | .tuple xs, h => by
    simp only [nkeyI]
    exact pls_nk (by simpa [pl] using h)
  | .none, h => by simp [pl] at h
  | .bool _, h => by simp [pl] at h
  | .str _, h => by simp [pl] at h
  | .list _, h => by simp [pl] at h
  | .dict _, h => by simp [pl] at h
theorem pls_nk : ∀ {x : List Rf.D}, pls x = true → nkeyIs x = true
  | [], _ => rfl
  | x :: r, h => by
    simp only [pls, Bool.and_eq_true] at h
    simp only [nkeyIs, pl_nk h.1, pls_nk h.2]
    rfl
end
theorem fm_nkey {x : Rf.D} {v : Int} (hx : Fm x v) (hd : x.depth ≤ 180) : nkey x = true := by
  obtain ⟨ts, rfl, _⟩ := hx.inv
  have := pl_nk hx.pl
  simp only [nkeyI] at this
  simp only [nkey, this, decide_eq_true hd]
  rfl
def HInj (S : Nat → Prop) : Prop := ∀ a b x y, S a → S b → Fm x (a : Nat) → Fm y (b : Nat) → hashN x = hashN y → a = b
def repN (C : CL) : List (Rf.D × Rf.D) := C.map fun p => (p.2.1, .int p.2.2)
structure COk (S : Nat → Prop) (C : CL) : Prop where
  fm : ∀ p ∈ C, Fm p.2.1 (p.1 : Nat)
  s : ∀ p ∈ C, S p.1
  nd : C.Pairwise fun a b => a.1 ≠ b.1
theorem withH_rep {S : Nat → Prop} (hS : HInj S) {y : Rf.D} {k : Nat} (hy : Fm y (k : Nat)) (sk : S k) : ∀ {C : CL}, COk S C → withH (repN C) y = repN (C.filter fun p => p.1 == k)
  | [], _ => rfl
  | p :: C, h => by
    have ih := withH_rep hS hy sk (C := C) ⟨fun q hq => h.fm q (List.mem_cons_of_mem _ hq), fun q hq => h.s q (List.mem_cons_of_mem _ hq), (List.pairwise_cons.mp h.nd).2⟩
    unfold withH repN at ih ⊢
    rw [List.map_cons, List.filter_cons, List.filter_cons, ih]
    have f := h.fm p (List.mem_cons_self ..)
    by_cases e : p.1 = k
    · rw [e] at f
      have fe := f.uniq _ hy
      rw [if_pos (by rw [fe]; exact beq_self_eq_true _), if_pos (by simpa using e), List.map_cons]
    · have ne : ¬ hashN p.2.1 = hashN y := fun z => e (hS _ _ _ _ (h.s p (List.mem_cons_self ..)) sk f hy z)
      rw [if_neg (by simpa using ne), if_neg (by simpa using e)]
theorem filt_one : ∀ {C : CL} {k : Nat}, (C.Pairwise fun a b => a.1 ≠ b.1) → (C.filter (fun p => p.1 == k) = [] ∧ C.find? (fun p => p.1 == k) = none) ∨ ∃ p, C.filter (fun p => p.1 == k) = [p] ∧ C.find? (fun p => p.1 == k) = some p ∧ p.1 = k ∧ p ∈ C
  | [], _, _ => .inl ⟨rfl, rfl⟩
  | p :: C, k, h => by
    obtain ⟨h1, h2⟩ := List.pairwise_cons.mp h
    by_cases e : p.1 = k
    · have : C.filter (fun q => q.1 == k) = [] := List.filter_eq_nil_iff.mpr fun q hq z => h1 q hq (by rw [e]; exact (by simpa using z : q.1 = k).symm)
      refine .inr ⟨p, ?_, ?_, e, List.mem_cons_self ..⟩
      · rw [List.filter_cons, if_pos (by simpa using e), this]
      · rw [List.find?_cons]; simp [e]
    · have e' : (p.1 == k) = false := by simpa using e
      rcases filt_one (k := k) h2 with ⟨a, b⟩ | ⟨q, a, b, c, d⟩
      · refine .inl ⟨?_, ?_⟩
        · rw [List.filter_cons, if_neg (by simpa using e), a]
        · rw [List.find?_cons, e']; exact b
      · refine .inr ⟨q, ?_, ?_, c, List.mem_cons_of_mem _ d⟩
        · rw [List.filter_cons, if_neg (by simpa using e), a]
        · rw [List.find?_cons, e']; exact b
theorem nlook_rep {S : Nat → Prop} (hS : HInj S) {y : Rf.D} {k : Nat} (hy : Fm y (k : Nat)) (sk : S k) (hd : y.depth ≤ 180) {C : CL} (h : COk S C) : nlook (repN C) y = some ((C.find? fun p => p.1 == k).map fun p => .int p.2.2) := by
  unfold nlook
  rw [if_pos (fm_nkey hy hd), withH_rep hS hy sk h]
  rcases filt_one (k := k) h.nd with ⟨a, b⟩ | ⟨p, a, b, c, d⟩
  · rw [a, b]; rfl
  · rw [a, b]
    have f := h.fm p d
    rw [c] at f
    show (if PyData.eqv p.2.1 y = true then _ else _) = _
    rw [f.uniq _ hy, if_pos (PySem.SeqAt.eqv_refl _ (pl_lay hy.pl))]
    rfl
def cadd (C : CL) (k : Nat) (x : Rf.D) (c : Int) : CL := match C.find? fun p => p.1 == k with
  | none => C ++ [(k, x, c)]
  | some _ => C.map fun p => if p.1 == k then (p.1, p.2.1, p.2.2 + c) else p
theorem nput_rep {S : Nat → Prop} (hS : HInj S) {y : Rf.D} {k : Nat} {c : Int} (hy : Fm y (k : Nat)) (sk : S k) {C : CL} (h : COk S C) : nput (repN C) y (.int (cget C k + c)) = repN (cadd C k y c) := by
  unfold nput cadd cget
  rw [withH_rep hS hy sk h]
  rcases filt_one (k := k) h.nd with ⟨a, b⟩ | ⟨p, a, b, c2, d⟩
  · rw [a, b]
    simp [repN]
  · rw [a, b]
    simp only [repN, List.map_cons, List.map_nil, Option.map_some, Option.getD_some, List.map_map]
    rw [if_neg (by simp)]
    refine List.map_congr_left fun q hq => ?_
    have f := h.fm q hq
    by_cases e : q.1 = k
    · have : q = p := by
        have : q ∈ C.filter fun p => p.1 == k := List.mem_filter.mpr ⟨hq, by simpa using e⟩
        rw [a] at this
        exact List.mem_singleton.mp this
      subst this
      rw [e] at f
      simp [e, f.uniq _ hy]
    · have ne : ¬ hashN q.2.1 = hashN y := fun z => e (hS _ _ _ _ (h.s q hq) sk f hy z)
      simp [e, ne]
def csum : CL → Int
  | [] => 0
  | p :: r => p.2.2 * 2 ^ p.1 + csum r
def cw : CL → Nat
  | [] => 0
  | p :: r => 2 * p.2.2.natAbs + 4 + cw r
theorem csum_app : ∀ {a b : CL}, csum (a ++ b) = csum a + csum b
  | [], b => by simp [csum]
  | p :: a, b => by simp only [List.cons_append, csum, csum_app (a := a)]; omega
theorem cw_app : ∀ {a b : CL}, cw (a ++ b) = cw a + cw b
  | [], b => by simp [cw]
  | p :: a, b => by simp only [List.cons_append, cw, cw_app (a := a)]; omega
theorem cadd_map : ∀ {C : CL} {k : Nat} {c : Int}, (C.Pairwise fun a b => a.1 ≠ b.1) → (∃ p ∈ C, p.1 = k) →
    csum (C.map fun p => if p.1 == k then (p.1, p.2.1, p.2.2 + c) else p) = csum C + c * 2 ^ k ∧ cw (C.map fun p => if p.1 == k then (p.1, p.2.1, p.2.2 + c) else p) ≤ cw C + 2 * c.natAbs
  | [], _, _, _, ⟨p, hp, _⟩ => by simp at hp
  | p :: C, k, c, h, ⟨q, hq, hk⟩ => by
    obtain ⟨h1, h2⟩ := List.pairwise_cons.mp h
    rw [List.map_cons]
    by_cases e : p.1 = k
    · have : C.map (fun p => if p.1 == k then (p.1, p.2.1, p.2.2 + c) else p) = C := by
        conv => rhs; rw [← List.map_id C]
        refine List.map_congr_left fun q hq => ?_
        have : ¬ q.1 = k := fun z => h1 q hq (e.trans z.symm)
        simp [this]
      rw [this, if_pos (by simpa using e)]
      simp only [csum, cw]
      rw [e, Int.add_mul]
      omega
    · rcases List.mem_cons.mp hq with rfl | hq
      · exact absurd hk e
      · obtain ⟨a, b⟩ := cadd_map (c := c) h2 ⟨q, hq, hk⟩
        rw [if_neg (by simpa using e)]
        simp only [csum, cw]
        omega
theorem cadd_ok {S : Nat → Prop} {y : Rf.D} {k : Nat} {c : Int} (hy : Fm y (k : Nat)) (sk : S k) {C : CL} (h : COk S C) : COk S (cadd C k y c) ∧ csum (cadd C k y c) = csum C + c * 2 ^ k ∧ cw (cadd C k y c) ≤ cw C + (2 * c.natAbs + 4) ∧ (cadd C k y c).length ≤ C.length + 1 := by
  unfold cadd
  rcases filt_one (k := k) h.nd with ⟨a, b⟩ | ⟨p, a, b, c2, d⟩
  · rw [b]
    simp only [csum_app, cw_app, csum, cw, List.length_append, List.length_singleton]
    refine ⟨⟨fun q hq => ?_, fun q hq => ?_, ?_⟩, by omega, by omega, by omega⟩
    · rcases List.mem_append.mp hq with hq | hq
      · exact h.fm q hq
      · rw [List.mem_singleton.mp hq]; exact hy
    · rcases List.mem_append.mp hq with hq | hq
      · exact h.s q hq
      · rw [List.mem_singleton.mp hq]; exact sk
    · refine List.pairwise_append.mpr ⟨h.nd, List.pairwise_singleton _ _, fun q hq r hr => ?_⟩
      rw [List.mem_singleton.mp hr]
      intro z
      have : q ∈ C.filter fun p => p.1 == k := List.mem_filter.mpr ⟨hq, by simpa using z⟩
      rw [a] at this
      cases this
  · rw [b]
    obtain ⟨m1, m2⟩ := cadd_map (c := c) h.nd ⟨p, d, c2⟩
    refine ⟨⟨fun q hq => ?_, fun q hq => ?_, ?_⟩, m1, Nat.le_trans m2 (by omega), by simp⟩
    · obtain ⟨r, hr, rfl⟩ := List.mem_map.mp hq
      have := h.fm r hr
      split <;> exact this
    · obtain ⟨r, hr, rfl⟩ := List.mem_map.mp hq
      have := h.s r hr
      split <;> exact this
    · rw [List.pairwise_map]
      refine h.nd.imp fun {a b} hab => ?_
      split <;> split <;> exact hab
end
end My

set_option Elab.async false
set_option linter.all false
set_option maxRecDepth 100000
set_option maxHeartbeats 4000000
namespace My
open PySem PySem.Spec PyProof.Rows L2 Rf
section
variable {Φ : FT} {F n : Nat}
/-! ### in_order -/
def kin (k : Ky) : List Ky → List Ky
  | [] => [k]
  | y :: r => if y.1 < k.1 then y :: kin k r else k :: y :: r
def below (e : Nat) (l : List Ky) : Nat := (l.takeWhile fun y => decide (y.1 < e)).length
theorem kin_eq {k : Ky} : ∀ {l : List Ky}, kin k l = l.take (below k.1 l) ++ [k] ++ l.drop (below k.1 l)
  | [] => rfl
  | y :: r => by
    unfold kin below
    rw [List.takeWhile_cons]
    by_cases h : y.1 < k.1
    · rw [if_pos h, if_pos (by simpa using h), kin_eq]
      simp [below]
    · rw [if_neg h, if_neg (by simpa using h)]
      simp
theorem below_le {e : Nat} {l : List Ky} : below e l ≤ l.length := by
  unfold below
  exact List.Sublist.length_le (List.takeWhile_sublist _)
theorem below_lt {e : Nat} : ∀ {l : List Ky} {j : Nat} {y : Ky}, (l.Pairwise fun a b => a.1 < b.1) → l[j]? = some y → (y.1 < e ↔ j < below e l)
  | [], j, y, _, h => by simp at h
  | z :: r, j, y, hp, h => by
    obtain ⟨h1, h2⟩ := List.pairwise_cons.mp hp
    unfold below
    rw [List.takeWhile_cons]
    by_cases hz : z.1 < e
    · rw [if_pos (by simpa using hz), List.length_cons]
      cases j with
      | zero => simp only [List.getElem?_cons_zero, Option.some.injEq] at h; subst h; exact ⟨fun _ => Nat.zero_lt_succ _, fun _ => hz⟩
      | succ j =>
        rw [List.getElem?_cons_succ] at h
        have := below_lt (e := e) h2 h
        unfold below at this
        rw [this]
        omega
    · rw [if_neg (by simpa using hz)]
      have : ¬ y.1 < e := by
        cases j with
        | zero => simp only [List.getElem?_cons_zero, Option.some.injEq] at h; subst h; exact hz
        | succ j =>
          rw [List.getElem?_cons_succ] at h
          have := h1 y (List.mem_of_getElem? h)
          omega
      simp [this]
theorem idx_ks {l : List Ky} {j : Nat} {y : Ky} (h : l[j]? = some y) : idxK (.list (l.map (·.2))) (.int (j : Nat)) = .ok y.2 := by
  have e : idxD (.list (l.map (·.2))) (.int (j : Nat)) = some y.2 := by
    show L2.atI _ _ = _
    refine atI_at (by omega) ?_
    rw [show ((j : Nat) : Int).toNat = j from rfl, List.getElem?_map, h]
    rfl
  rw [idxK, e]; rfl
def JB (b : Nat) (nums x : Rf.D) (l : List Ky) (d : Nat) (e : Sl) : Prop := ∃ (lo hi : Nat) (s5 : Slot), e = [.d nums, .ol (l.map (·.2)), .d x, .d (.int (lo : Nat)), .d (.int (hi : Nat)), s5] ∧ lo ≤ b ∧ b ≤ hi ∧ hi ≤ l.length ∧ d = hi - lo
theorem sgn_neg_iff {a b : Nat} : sgn ((a : Int) - b) < 0 ↔ a < b := by
  unfold sgn
  split
  · constructor <;> omega
  · split
    · constructor <;> omega
    · constructor <;> omega
theorem ins_turn {nums x : Rf.D} {k : Nat} {l : List Ky} (hF : 1000 ≤ F) (hx : Fm x (k : Nat)) (hl : ∀ y ∈ l, Fm y.2 (y.1 : Nat)) (hp : l.Pairwise fun a b => a.1 < b.1) (hn : l.length ≤ 900) (hc : ∀ y ∈ l, Φ 2 [y.2, x] = .ok (.int (sgn ((y.1 : Int) - k)))) (s2 s3 s4 s5 : Slot) :
    ∃ r3 r4 r5, turnB (Rf.execs Φ F b4_3) (.nm 2) x [.d nums, .ol (l.map (·.2)), s2, s3, s4, s5] = .nx [.d nums, .ol ((kin (k, x) l).map (·.2)), .d x, r3, r4, r5] := by
  have key : Is (fun o => ∃ r3 r4 r5, o = .nx [.d nums, .ol ((kin (k, x) l).map (·.2)), .d x, r3, r4, r5]) (turnB (Rf.execs Φ F b4_3) (.nm 2) x [.d nums, .ol (l.map (·.2)), s2, s3, s4, s5]) := by
    simp only [turnB, bindT, List.length_cons, List.length_nil, Nat.reduceAdd, Nat.reduceLT, if_true, List.set_cons_succ, List.set_cons_zero]
    simp [b4_3]
    refine Is.whl (fun d e => JB (below k l) nums x l d e) (fun d e hh => ?_) F _ l.length ⟨0, l.length, _, rfl, Nat.zero_le _, below_le, Nat.le_refl _, rfl⟩ (by omega)
    obtain ⟨lo, hi, s5, rfl, b1, b2, b3, b4⟩ := hh
    by_cases h : lo < hi
    · refine .inr ⟨by simp [x4_2, h], ?_⟩
      have hm : (lo + hi) / 2 < l.length := by omega
      have hy := List.getElem?_eq_getElem hm
      generalize l[(lo + hi) / 2] = y at hy
      have ix := idx_ks hy
      rw [show (((lo + hi) / 2 : Nat) : Int) = ((lo : Int) + (hi : Int)) / 2 by omega] at ix
      have cc := hc y (List.mem_of_getElem? hy)
      have bl := below_lt (e := k) hp hy
      by_cases g : y.1 < k
      · have g2 : sgn ((y.1 : Int) - k) < 0 := sgn_neg_iff.mpr g
        simp [b4_1, ix, cc, g2]
        exact ⟨_, by have := bl.mp g; omega, (lo + hi) / 2 + 1, hi, .d (.int (((lo : Int) + (hi : Int)) / 2)), by simp, by have := bl.mp g; omega, b2, b3, rfl⟩
      · have g2 : ¬ sgn ((y.1 : Int) - k) < 0 := fun z => g (sgn_neg_iff.mp z)
        simp [b4_1, ix, cc, g2]
        exact ⟨_, by omega, lo, (lo + hi) / 2, .d (.int (((lo : Int) + (hi : Int)) / 2)), by simp, b1, by have : ¬ (lo + hi) / 2 < below k l := fun z => g (bl.mpr z); omega, by omega, rfl⟩
    · have e1 : lo = below k l := by omega
      subst e1
      refine .inl ⟨by simp [x4_2]; omega, ?_⟩
      have ik := fun e => insK_ok (i := 1) (n := below k l) (xs := l.map (·.2)) (x := x) (e := e) (by have := below_le (e := k) (l := l); omega) (by rw [List.length_map]; unfold line; omega)
      simp [ik]
      refine ⟨.d (.int (below k l : Nat)), .d (.int (hi : Nat)), s5, ?_⟩
      rw [kin_eq]
      simp
  exact key.out
def kall : List Ky → List Ky → List Ky
  | [], l => l
  | k :: r, l => kall r (kin k l)
theorem kin_mem {k y : Ky} : ∀ {l : List Ky}, y ∈ kin k l ↔ y = k ∨ y ∈ l
  | [] => by simp [kin]
  | z :: r => by
    unfold kin
    split
    · rw [List.mem_cons, kin_mem, List.mem_cons]
      constructor
      · rintro (h | h | h); exact .inr (.inl h); exact .inl h; exact .inr (.inr h)
      · rintro (h | h | h); exact .inr (.inl h); exact .inl h; exact .inr (.inr h)
    · rw [List.mem_cons]
theorem kin_len {k : Ky} : ∀ {l : List Ky}, (kin k l).length = l.length + 1
  | [] => rfl
  | z :: r => by
    unfold kin
    split
    · rw [List.length_cons, kin_len, List.length_cons]
    · rfl
theorem kin_sorted {k : Ky} : ∀ {l : List Ky}, (l.Pairwise fun a b => a.1 < b.1) → (∀ y ∈ l, y.1 ≠ k.1) → (kin k l).Pairwise fun a b => a.1 < b.1
  | [], _, _ => List.pairwise_singleton _ _
  | z :: r, h, hn => by
    obtain ⟨h1, h2⟩ := List.pairwise_cons.mp h
    unfold kin
    split
    · rename_i hz
      refine List.pairwise_cons.mpr ⟨fun y hy => ?_, kin_sorted h2 fun y hy => hn y (List.mem_cons_of_mem _ hy)⟩
      rcases kin_mem.mp hy with rfl | hy
      · exact hz
      · exact h1 y hy
    · rename_i hz
      have hne : ¬ z.1 = k.1 := hn z (List.mem_cons_self ..)
      have hlt : k.1 < z.1 := by omega
      refine List.pairwise_cons.mpr ⟨fun y hy => ?_, h⟩
      rcases List.mem_cons.mp hy with e | hy
      · rw [e]; exact hlt
      · exact Nat.lt_trans hlt (h1 y hy)
theorem kin_sum {C : CL} {k : Ky} : ∀ {l : List Ky}, wsum C (kin k l) = cget C k.1 * 2 ^ k.1 + wsum C l ∧ wmu C (kin k l) = 2 * (cget C k.1).natAbs + 4 + wmu C l
  | [] => by simp [kin, wsum, wmu]
  | z :: r => by
    unfold kin
    split
    · obtain ⟨a, b⟩ := kin_sum (C := C) (k := k) (l := r)
      simp only [wsum, wmu, a, b]
      omega
    · exact ⟨rfl, rfl⟩
structure KAll (C : CL) (ks l r : List Ky) : Prop where
  asc : r.Pairwise fun a b => a.1 < b.1
  mem : ∀ y, y ∈ r → y ∈ ks ∨ y ∈ l
  len : r.length = ks.length + l.length
  sum : wsum C r = wsum C ks + wsum C l
  mu : wmu C r = wmu C ks + wmu C l
theorem kall_ok {C : CL} : ∀ {ks l : List Ky}, (l.Pairwise fun a b => a.1 < b.1) → (ks.Pairwise fun a b => a.1 ≠ b.1) → (∀ k ∈ ks, ∀ y ∈ l, y.1 ≠ k.1) → KAll C ks l (kall ks l)
  | [], l, h, _, _ => ⟨h, fun y hy => .inr hy, by simp [kall], by simp [kall, wsum], by simp [kall, wmu]⟩
  | k :: ks, l, h, hp, hn => by
    obtain ⟨h1, h2⟩ := List.pairwise_cons.mp hp
    have q := kall_ok (C := C) (ks := ks) (kin_sorted h (hn k (List.mem_cons_self ..))) h2 fun j hj y hy => by
      rcases kin_mem.mp hy with rfl | hy
      · exact h1 j hj
      · exact hn j (List.mem_cons_of_mem _ hj) y hy
    obtain ⟨s1, s2⟩ := kin_sum (C := C) (k := k) (l := l)
    refine ⟨q.asc, fun y hy => ?_, ?_, ?_, ?_⟩
    · rcases q.mem y hy with hy | hy
      · exact .inl (List.mem_cons_of_mem _ hy)
      · rcases kin_mem.mp hy with rfl | hy
        · exact .inl (List.mem_cons_self ..)
        · exact .inr hy
    · show (kall ks (kin k l)).length = _
      rw [q.len, kin_len]
      simp only [List.length_cons]
      omega
    · show wsum C (kall ks (kin k l)) = _
      rw [q.sum, s1]
      simp only [wsum]
      omega
    · show wmu C (kall ks (kin k l)) = _
      rw [q.mu, s2]
      simp only [wmu]
      omega
theorem in_loop (hF : 1000 ≤ F) {nums : Rf.D} : ∀ {ks l : List Ky}, (∀ k ∈ ks, Fm k.2 (k.1 : Nat)) → (∀ y ∈ l, Fm y.2 (y.1 : Nat)) → (l.Pairwise fun a b => a.1 < b.1) → (ks.Pairwise fun a b => a.1 ≠ b.1) → (∀ k ∈ ks, ∀ y ∈ l, y.1 ≠ k.1) → ks.length + l.length ≤ 900 →
    (∀ k ∈ ks, ∀ y : Ky, (y ∈ ks ∨ y ∈ l) → Φ 2 [y.2, k.2] = .ok (.int (sgn ((y.1 : Int) - k.1)))) → ∀ s2 s3 s4 s5 : Slot,
    ∃ r2 r3 r4 r5, forL (Rf.execs Φ F b4_3) (.nm 2) (ks.map (·.2)) [.d nums, .ol (l.map (·.2)), s2, s3, s4, s5] = .nx [.d nums, .ol ((kall ks l).map (·.2)), r2, r3, r4, r5]
  | [], l, _, _, _, _, _, _, _, s2, s3, s4, s5 => ⟨s2, s3, s4, s5, forL_nil⟩
  | k :: ks, l, h1, h2, h3, h4, h5, h6, h7, s2, s3, s4, s5 => by
    obtain ⟨p1, p2⟩ := List.pairwise_cons.mp h4
    obtain ⟨r3, r4, r5, e⟩ := ins_turn (Φ := Φ) (nums := nums) hF (h1 k (List.mem_cons_self ..)) h2 h3 (by simp only [List.length_cons] at h6; omega) (fun y hy => h7 k (List.mem_cons_self ..) y (.inr hy)) s2 s3 s4 s5
    obtain ⟨q2, q3, q4, q5, e2⟩ := in_loop hF (nums := nums) (ks := ks) (l := kin k l) (fun j hj => h1 j (List.mem_cons_of_mem _ hj)) (fun y hy => by
        rcases kin_mem.mp hy with rfl | hy
        · exact h1 _ (List.mem_cons_self ..)
        · exact h2 y hy) (kin_sorted h3 (h5 k (List.mem_cons_self ..))) p2 (fun j hj y hy => by
        rcases kin_mem.mp hy with rfl | hy
        · exact p1 j hj
        · exact h5 j (List.mem_cons_of_mem _ hj) y hy) (by rw [kin_len]; simp only [List.length_cons] at h6; omega) (fun j hj y hy => h7 j (List.mem_cons_of_mem _ hj) y (by
        rcases hy with hy | hy
        · exact .inl (List.mem_cons_of_mem _ hy)
        · rcases kin_mem.mp hy with rfl | hy
          · exact .inl (List.mem_cons_self ..)
          · exact .inr hy)) (.d k.2) r3 r4 r5
    refine ⟨q2, q3, q4, q5, ?_⟩
    rw [List.map_cons]
    have hb : ∀ e : Sl, 2 < e.length → bindT (.nm 2) k.2 e = some (e.set 2 (.d k.2)) := fun e he => by unfold bindT; rw [if_pos he]
    rw [forL_cons (hb _ (by simp))]
    simp only [turnB, hb [.d nums, .ol (l.map (·.2)), s2, s3, s4, s5] (by simp)] at e
    rw [e, Out.turn_nx, e2]
    rfl
theorem in_run (hF : 1000 ≤ F) {ks : List Ky} (h1 : ∀ k ∈ ks, Fm k.2 (k.1 : Nat)) (h4 : ks.Pairwise fun a b => a.1 ≠ b.1) (h6 : ks.length ≤ 900) (h7 : ∀ k ∈ ks, ∀ y ∈ ks, Φ 2 [y.2, k.2] = .ok (.int (sgn ((y.1 : Int) - k.1)))) :
    Fdef.run ⟨1, 6, b4⟩ Φ F [.list (ks.map (·.2))] = .ok (.list ((kall ks []).map (·.2))) := by
  refine run_ret rfl ?_
  obtain ⟨r2, r3, r4, r5, e⟩ := in_loop (Φ := Φ) hF (nums := .list (ks.map (·.2))) (ks := ks) (l := []) h1 (fun y hy => by simp at hy) .nil h4 (fun k hk y hy => by simp at hy) (by simpa using h6) (fun k hk y hy => h7 k hk y (by simpa using hy)) .un .un .un .un
  simp only [List.map_nil] at e
  simp [b4, e]
end
end My

set_option Elab.async false
set_option linter.all false
set_option maxRecDepth 100000
set_option maxHeartbeats 4000000
namespace My
open PySem PySem.Spec PyProof.Rows L2 Rf
section
variable {Φ : FT} {F n : Nat}
/-! ### counts -/
theorem cget_find {C : CL} {k : Nat} : (C.find? fun p => p.1 == k).map (fun p => (PyData.int p.2.2)) = none ∧ cget C k = 0 ∨ (C.find? fun p => p.1 == k).map (fun p => (PyData.int p.2.2)) = some (.int (cget C k)) := by
  unfold cget
  cases C.find? fun p => p.1 == k with
  | none => exact .inl ⟨rfl, rfl⟩
  | some p => exact .inr rfl
theorem cget_mem {C : CL} {p : Nat × Rf.D × Int} (nd : C.Pairwise fun a b => a.1 ≠ b.1) (hp : p ∈ C) : cget C p.1 = p.2.2 ∧ (C.find? fun q => q.1 == p.1) = some p := by
  unfold cget
  rcases filt_one (k := p.1) nd with ⟨a, _⟩ | ⟨q, a, b, _, _⟩
  · have : p ∈ C.filter fun q => q.1 == p.1 := List.mem_filter.mpr ⟨hp, by simp⟩
    rw [a] at this
    cases this
  · have : p ∈ C.filter fun q => q.1 == p.1 := List.mem_filter.mpr ⟨hp, by simp⟩
    rw [a] at this
    obtain rfl := List.mem_singleton.mp this
    rw [b]
    exact ⟨rfl, rfl⟩
def cacc : List T3 → CL → CL
  | [], C => C
  | t :: r, C => cacc r (cadd C t.2.1 t.2.2 t.1)
def pw2 : List T3 → Nat
  | [] => 0
  | t :: r => 2 * t.1.natAbs + 4 + pw2 r
theorem cacc_ok {S : Nat → Prop} : ∀ {ps : List T3} {C : CL}, (∀ t ∈ ps, Fm t.2.2 (t.2.1 : Nat) ∧ S t.2.1) → COk S C → COk S (cacc ps C) ∧ csum (cacc ps C) = csum C + val (ps.map tm) ∧ cw (cacc ps C) ≤ cw C + pw2 ps ∧ (cacc ps C).length ≤ C.length + ps.length
  | [], C, _, h => ⟨h, by simp [cacc, val], by simp [cacc, pw2], by simp [cacc]⟩
  | t :: ps, C, hp, h => by
    obtain ⟨f, s⟩ := hp t (List.mem_cons_self ..)
    obtain ⟨a, b, c, d⟩ := cadd_ok (c := t.1) f s h
    obtain ⟨a2, b2, c2, d2⟩ := cacc_ok (ps := ps) (fun u hu => hp u (List.mem_cons_of_mem _ hu)) a
    refine ⟨a2, ?_, ?_, ?_⟩
    · show csum (cacc ps _) = _
      rw [b2, b, List.map_cons]
      simp only [val, tm]
      omega
    · show cw (cacc ps _) ≤ _
      simp only [pw2]
      omega
    · show (cacc ps _).length ≤ _
      simp only [List.length_cons]
      omega
abbrev tg5 : Tgt := .tp [(.nm 2), (.nm 3)]
theorem cnt_turn {S : Nat → Prop} (hS : HInj S) {pairs : Rf.D} {t : T3} (f : Fm t.2.2 (t.2.1 : Nat)) (s : S t.2.1) (hd : t.2.2.depth ≤ 180) {C : CL} (h : COk S C) (hl : C.length ≤ 900) (s2 s3 s4 s5 s6 : Slot) :
    turnB (Rf.execs Φ F b5_1) tg5 (tD t) [.d pairs, .on (repN C), s2, s3, s4, s5, s6] = .nx [.d pairs, .on (repN (cadd C t.2.1 t.2.2 t.1)), .d (.int t.1), .d t.2.2, s4, s5, s6] := by
  have hb : bindT tg5 (tD t) [.d pairs, .on (repN C), s2, s3, s4, s5, s6] = some [.d pairs, .on (repN C), .d (.int t.1), .d t.2.2, s4, s5, s6] := rfl
  have nl := nlook_rep hS f s hd h
  have g1 : nldK (repN C) t.2.2 (.int 0) = .ok (.int (cget C t.2.1)) := by
    unfold nldK
    rw [if_pos (show isIntD (.int 0) = true from rfl), nl]
    rcases cget_find (C := C) (k := t.2.1) with ⟨a, b⟩ | a
    · rw [a, b]; rfl
    · rw [a]; rfl
  have g2 := fun e => nsetK_ok (i := 1) (e := e) (kvs := repN C) (y := t.2.2) (x := cget C t.2.1 + t.1) (by rw [nl]; rfl) (by unfold repN line; rw [List.length_map]; omega)
  rw [nput_rep hS f s h] at g2
  simp only [turnB, hb]
  simp [b5_1, g1, g2]
theorem cnt_loop {S : Nat → Prop} (hS : HInj S) {pairs : Rf.D} : ∀ {ps : List T3} {C : CL}, (∀ t ∈ ps, Fm t.2.2 (t.2.1 : Nat) ∧ S t.2.1 ∧ t.2.2.depth ≤ 180) → COk S C → C.length + ps.length ≤ 900 → ∀ (s2 s3 s4 s5 s6 : Slot),
    ∃ r2 r3, forL (Rf.execs Φ F b5_1) tg5 (ps.map tD) [.d pairs, .on (repN C), s2, s3, s4, s5, s6] = .nx [.d pairs, .on (repN (cacc ps C)), r2, r3, s4, s5, s6]
  | [], C, _, _, _, s2, s3, s4, s5, s6 => ⟨s2, s3, forL_nil⟩
  | t :: ps, C, hp, h, hl, s2, s3, s4, s5, s6 => by
    obtain ⟨f, s, d⟩ := hp t (List.mem_cons_self ..)
    simp only [List.length_cons] at hl
    have e := cnt_turn (Φ := Φ) (F := F) hS (pairs := pairs) f s d h (by omega) s2 s3 s4 s5 s6
    obtain ⟨a, _, _, c4⟩ := cadd_ok (c := t.1) f s h
    obtain ⟨r2, r3, e2⟩ := cnt_loop hS (pairs := pairs) (ps := ps) (fun u hu => hp u (List.mem_cons_of_mem _ hu)) a (by omega) (.d (.int t.1)) (.d t.2.2) s4 s5 s6
    refine ⟨r2, r3, ?_⟩
    rw [List.map_cons, forL_cons (e1 := [.d pairs, .on (repN C), .d (.int t.1), .d t.2.2, s4, s5, s6]) rfl]
    have e : Rf.execs Φ F b5_1 [.d pairs, .on (repN C), .d (.int t.1), .d t.2.2, s4, s5, s6] = _ := e
    rw [e, Out.turn_nx, e2]
    rfl
/-! ### sign_at -/
abbrev wD (ws : List Ky) : List Rf.D := (ws.map (·.2)).reverse
def Kin (C : CL) (ws : List Ky) : Prop := ∀ k ∈ ws, ∃ p ∈ C, p.1 = k.1 ∧ p.2.1 = k.2
theorem wD_last {k : Ky} {r : List Ky} : idxK (.list (wD (k :: r))) (.int (-1)) = .ok k.2 := by
  have e : idxD (.list (wD (k :: r))) (.int (-1)) = some k.2 := by
    show L2.atI _ _ = _
    unfold L2.atI L2.ixN
    have hl : (wD (k :: r)).length = r.length + 1 := by simp [wD]
    rw [hl, if_neg (by decide), if_pos (by omega)]
    show (wD (k :: r))[(-1 + ((r.length + 1 : Nat) : Int)).toNat]? = _
    rw [show (-1 + ((r.length + 1 : Nat) : Int)).toNat = r.length by omega]
    unfold wD
    rw [List.map_cons, List.reverse_cons, List.getElem?_append_right (by simp)]
    simp
  rw [idxK, e]; rfl
theorem nl_key {S : Nat → Prop} (hS : HInj S) {C : CL} (h : COk S C) {k : Ky} {ws : List Ky} (hk : Kin C ws) (hm : k ∈ ws) (hd : k.2.depth ≤ 180) : nlK (repN C) k.2 = .ok (.int (cget C k.1)) ∧ Fm k.2 (k.1 : Nat) := by
  obtain ⟨p, hp, e1, e2⟩ := hk k hm
  have f := h.fm p hp
  rw [e1, e2] at f
  obtain ⟨c1, c2⟩ := cget_mem h.nd hp
  refine ⟨?_, f⟩
  unfold nlK
  rw [nlook_rep hS f (by rw [← e1]; exact h.s p hp) hd h, ← e1, c2, c1]
  rfl
theorem sign_run2 {S : Nat → Prop} (hS : HInj S) {C : CL} (h : COk S C) {c : Int} {e : Nat} {x : Rf.D} {ws : List Ky} (hk : Kin C ws) (hd : ∀ k ∈ ws, k.2.depth ≤ 180) (hn : ws ≠ [] → ∃ y, Φ 7 [x] = .ok y ∧ Fm y ((e + 1 : Nat) : Int)) :
    Fdef.run ⟨4, 4, b6⟩ Φ F [.int c, x, pairsN (repN C), .list (wD ws)] = .ok (.int (sgnAt c (nxt C e ws))) := by
  have go : Rf.execs Φ F bw6 [.d (.int c), .d x, .rn (repN C), .d (.list (wD ws))] = .ret (.int (sgnAt c (nxt C e ws))) := by
    cases ws with
    | nil =>
      have l0 : bltK .len [.list (wD [])] = .ok (.int 0) := rfl
      unfold sgnAt nxt
      simp only [Int.mul_zero, Int.add_zero]
      by_cases hc : c % 4 = 1
      · simp [bw6, hc, l0, -bltK_lenL]
      · simp [bw6, hc, l0, -bltK_lenL]
    | cons k r =>
      obtain ⟨y, hy, fy⟩ := hn (by simp)
      have la := wD_last (k := k) (r := r)
      have l0 : bltK .len [.list (wD (k :: r))] = .ok (.int ((r.length : Int) + 1)) := by
        rw [bltK_lenL]
        simp [wD]
      have d1 := hd k (List.mem_cons_self ..)
      obtain ⟨nl, fk⟩ := nl_key hS h hk (List.mem_cons_self ..) d1
      have lp : (0 : Int) < (r.length : Int) + 1 := by omega
      unfold sgnAt nxt
      by_cases he : k.1 = e + 1
      · have : k.2 = y := by rw [he] at fk; exact fk.uniq _ fy
        have eq : cmpK .eq k.2 y = .ok (.bool true) := by rw [← this]; exact eqD_self fk.pl (by omega)
        simp only [if_pos he]
        rw [he] at nl
        have mu2 : binK .mul (.int 2) (.int (cget C (e + 1))) = .ok (.int (2 * cget C (e + 1))) := binK_mul (.inl (by decide))
        generalize wD (k :: r) = W at *
        by_cases hc : (c + 2 * cget C (e + 1)) % 4 = 1
        · simp [bw6, hc, l0, lp, la, hy, eq, nl, mu2, -bltK_lenL]
        · simp [bw6, hc, l0, lp, la, hy, eq, nl, mu2, -bltK_lenL]
      · have ne : k.2 ≠ y := fun z => he (by rw [z] at fk; have := fk.det _ fy; omega)
        have eq := eqD_no fk.pl fy.pl (by omega) ne
        simp only [if_neg he, Int.mul_zero, Int.add_zero]
        generalize wD (k :: r) = W at *
        by_cases hc : c % 4 = 1
        · simp [bw6, hc, l0, lp, la, hy, eq, -bltK_lenL]
        · simp [bw6, hc, l0, lp, la, hy, eq, -bltK_lenL]
  refine run_ret rfl ?_
  have ob : Rf.exec Φ F (.objn 2) [.d (.int c), .d x, .d (pairsN (repN C)), .d (.list (wD ws))] = .nx [.d (.int c), .d x, .rn (repN C), .d (.list (wD ws))] := x_objn rfl
  show Rf.execs Φ F (.objn 2 :: bw6) [.d (.int c), .d x, .d (pairsN (repN C)), .d (.list (wD ws))] = _
  rw [x_cons, ob, Out.seq_nx, go]
end
end My

set_option Elab.async false
set_option linter.all false
set_option maxRecDepth 100000
set_option maxHeartbeats 4000000
namespace My
open PySem PySem.Spec PyProof.Rows L2 Rf
section
variable {Φ : FT} {F n : Nat}
theorem x_popto {t i : Nat} {e : Sl} {xs : List Rf.D} {x : Rf.D} (h : e[i]? = some (.ol (xs ++ [x]))) (ht : t < e.length) (hti : t ≠ i) : Rf.exec Φ F (.popto t i) e = .nx ((e.set i (.ol xs)).set t (.d x)) := by
  have h1 : (xs ++ [x])[(xs ++ [x]).length - 1]? = some x := by simp
  have h2 : (xs ++ [x]).dropLast = xs := by simp
  simp only [Rf.exec, h, h1, h2]
  rw [if_pos ⟨ht, hti⟩]
abbrev G1 : Stm := b5_2.getD 0 .pas
abbrev G2 : Stm := b5_2.getD 1 .pas
abbrev G3 : Stm := b5_2.getD 2 .pas
theorem b5_2_eq : b5_2 = [G1, G2, G3] := rfl
theorem wD_cons {k : Ky} {r : List Ky} : wD (k :: r) = wD r ++ [k.2] := by simp [wD]
theorem len_wD {ws : List Ky} : bltK .len [.list (wD ws)] = .ok (.int (ws.length : Nat)) := by
  rw [bltK_lenL]
  simp [wD]
theorem g1_pop {S : Nat → Prop} (hS : HInj S) {C : CL} (h : COk S C) {pairs x : Rf.D} {c : Int} {e : Nat} {k : Ky} {r : List Ky} {A s6 : Slot} (hx : Fm x (e : Nat)) (hk : Kin C (k :: r)) (hd : k.2.depth ≤ 180) (hc : c = 0 ∨ k.1 = e) :
    Rf.exec Φ F G1 [.d pairs, .on (repN C), .d (.int c), .d x, .ol (wD (k :: r)), A, s6] = .nx [.d pairs, .on (repN C), .d (.int (c + cget C k.1)), .d k.2, .ol (wD r), A, s6] := by
  obtain ⟨nl, fk⟩ := nl_key hS h hk (List.mem_cons_self ..) hd
  have la := wD_last (k := k) (r := r)
  have l0 : bltK .len [.list (wD (k :: r))] = .ok (.int ((r.length : Int) + 1)) := by rw [len_wD]; simp
  have lp : (0 : Int) < (r.length : Int) + 1 := by omega
  have po : ∀ A s6 : Slot, Rf.exec Φ F (.popto 3 4) [.d pairs, .on (repN C), .d (.int c), .d x, .ol (wD (k :: r)), A, s6] = .nx [.d pairs, .on (repN C), .d (.int c), .d k.2, .ol (wD r), A, s6] := fun A s6 => by
    rw [wD_cons]
    rw [x_popto (xs := wD r) (x := k.2) rfl (by simp) (by decide)]
    rfl
  generalize wD (k :: r) = W at *
  by_cases h0 : c = 0
  · subst h0
    simp [G1, b5_2, l0, lp, po, nl, -bltK_lenL]
  · have e1 : k.1 = e := hc.resolve_left h0
    have e2 : k.2 = x := by rw [e1] at fk; exact fk.uniq _ hx
    have eq : cmpK .eq k.2 x = .ok (.bool true) := by rw [← e2]; exact eqD_self fk.pl (by omega)
    simp [G1, b5_2, l0, lp, h0, la, eq, po, nl, -bltK_lenL]
theorem g1_no {S : Nat → Prop} (hS : HInj S) {C : CL} (h : COk S C) {pairs x : Rf.D} {c : Int} {e : Nat} {ws : List Ky} {A s6 : Slot} (hx : Fm x (e : Nat)) (hk : Kin C ws) (hd : ∀ k ∈ ws, k.2.depth ≤ 180) (hc : c ≠ 0) (hn : ∀ k, ws.head? = some k → k.1 ≠ e) :
    Rf.exec Φ F G1 [.d pairs, .on (repN C), .d (.int c), .d x, .ol (wD ws), A, s6] = .nx [.d pairs, .on (repN C), .d (.int c), .d x, .ol (wD ws), A, s6] := by
  cases ws with
  | nil =>
    have l0 : bltK .len [.list (wD [])] = .ok (.int 0) := rfl
    simp [G1, b5_2, l0, -bltK_lenL]
  | cons k r =>
    obtain ⟨nl, fk⟩ := nl_key hS h hk (List.mem_cons_self ..) (hd k (List.mem_cons_self ..))
    have la := wD_last (k := k) (r := r)
    have l0 : bltK .len [.list (wD (k :: r))] = .ok (.int ((r.length : Int) + 1)) := by rw [len_wD]; simp
    have lp : (0 : Int) < (r.length : Int) + 1 := by omega
    have ne : k.2 ≠ x := fun z => hn k rfl (by rw [z] at fk; have := fk.det _ hx; omega)
    have d1 := hd k (List.mem_cons_self ..)
    have eq := eqD_no fk.pl hx.pl (by omega) ne
    generalize wD (k :: r) = W at *
    simp [G1, b5_2, l0, lp, hc, la, eq, -bltK_lenL]
theorem g2_odd {pairs x : Rf.D} {kvs : List (Rf.D × Rf.D)} {c s : Int} {W : List Rf.D} {acc : List T3} {e : Nat} {s6 : Slot} (hc : c % 2 = 1) (hs : Φ 6 [.int c, x, pairsN kvs, .list W] = .ok (.int s)) (hl : acc.length < line) :
    Rf.exec Φ F G2 [.d pairs, .on kvs, .d (.int c), .d x, .ol W, .ol (acc.map tD), s6] = .nx [.d pairs, .on kvs, .d (.int (c - s)), .d x, .ol W, .ol ((acc ++ [(s, e, x)]).map tD), .d (.int s)] := by
  have hl2 : (acc.map tD).length < line := by rw [List.length_map]; exact hl
  simp [G2, b5_2, hc, hs, hl2, hl]
  rfl
theorem g2_even {pairs x : Rf.D} {kvs : List (Rf.D × Rf.D)} {c : Int} {W : List Rf.D} {A s6 : Slot} (hc : c % 2 = 0) :
    Rf.exec Φ F G2 [.d pairs, .on kvs, .d (.int c), .d x, .ol W, A, s6] = .nx [.d pairs, .on kvs, .d (.int c), .d x, .ol W, A, s6] := by
  simp [G2, b5_2, hc]
theorem g3_go {pairs x y : Rf.D} {c : Int} {B W A s6 : Slot} (hc : c ≠ 0) (hy : Φ 7 [x] = .ok y) :
    Rf.exec Φ F G3 [.d pairs, B, .d (.int c), .d x, W, A, s6] = .nx [.d pairs, B, .d (.int (c / 2)), .d y, W, A, s6] := by
  simp [G3, b5_2, hc, hy]
theorem g3_no {pairs x : Rf.D} {B W A s6 : Slot} :
    Rf.exec Φ F G3 [.d pairs, B, .d (.int 0), .d x, W, A, s6] = .nx [.d pairs, B, .d (.int 0), .d x, W, A, s6] := by
  simp [G3, b5_2]
structure Nx (Φ : FT) (C : CL) (V : Int) (m : Nat) : Prop where
  next : ∀ e x, Fm x ((e : Nat) : Int) → (e + 1 ≤ m ∨ 2 * (2 : Int) ^ (e + 1) < 3 * V ∨ 3 * V < -(2 * 2 ^ (e + 1))) → ∃ y, Φ 7 [x] = .ok y ∧ Fm y ((e + 1 : Nat) : Int)
  sign : ∀ c e x ws, Fm x ((e : Nat) : Int) → Kin C ws → (∀ k ∈ ws, e < k.1 ∧ k.1 ≤ m) → Φ 6 [.int c, x, pairsN (repN C), .list (wD ws)] = .ok (.int (sgnAt c (nxt C e ws)))
def JG (C : CL) (V : Int) (m L : Nat) (pairs : Rf.D) (d : Nat) (sl : Sl) : Prop := ∃ (c : Int) (e : Nat) (x : Rf.D) (ws : List Ky) (acc : List T3) (s6 : Slot),
  sl = [.d pairs, .on (repN C), .d (.int c), .d x, .ol (wD ws), .ol (acc.map tD), s6] ∧ Fm x (e : Nat) ∧ Gs C V c e ws acc ∧ Kin C ws ∧ (∀ k ∈ ws, k.1 ≤ m) ∧ d = mu C c e ws ∧ acc.length + d ≤ L
theorem g_rest {C : CL} {V : Int} {m L : Nat} (nx : Nx Φ C V m) {pairs x : Rf.D} {c : Int} {e : Nat} {ws : List Ky} {acc : List T3} {s6 : Slot} (hL : acc.length < line) (hx : Fm x (e : Nat)) (g : Gp C V c e ws acc) (hk : Kin C ws) (hm : ∀ k ∈ ws, k.1 ≤ m) {d : Nat}
    (h1 : c % 2 = 1 → mu C ((c - sgnAt c (nxt C e ws)) / 2) (if (c - sgnAt c (nxt C e ws)) / 2 = 0 then e else e + 1) ws < d) (h0 : c % 2 = 0 → mu C (c / 2) (if c / 2 = 0 then e else e + 1) ws < d) (hl : acc.length + d ≤ L) :
    ∃ sl d', Rf.execs Φ F [G2, G3] [.d pairs, .on (repN C), .d (.int c), .d x, .ol (wD ws), .ol (acc.map tD), s6] = .nx sl ∧ d' < d ∧ JG C V m L pairs d' sl := by
  have adv : ∀ {c2 : Int} {acc2 : List T3}, c2 % 2 = 0 → Gs C V (c2 / 2) (if c2 / 2 = 0 then e else e + 1) ws acc2 → c2 ≠ 0 → ∃ y, Φ 7 [x] = .ok y ∧ Fm y ((e + 1 : Nat) : Int) := fun {c2 acc2} hc g hz => by
    refine nx.next e x hx ?_
    cases ws with
    | nil =>
      have z : c2 / 2 ≠ 0 := by omega
      have t := g.top z
      rw [if_neg z] at t
      exact .inr t
    | cons k r =>
      have a := hm k (List.mem_cons_self ..)
      have b := g.ge (show c2 / 2 ≠ 0 by omega) k (List.mem_cons_self ..)
      rw [if_neg (by omega)] at b
      exact .inl (by omega)
  by_cases hc : c % 2 = 1
  · have sg := nx.sign c e x ws hx hk fun k hk => ⟨g.gt k hk, hm k hk⟩
    have e2 := g2_odd (Φ := Φ) (F := F) (pairs := pairs) (kvs := repN C) (W := wD ws) (e := e) (s6 := s6) hc sg hL
    have gs := g.odd hc hx rfl
    have hlt := h1 hc
    obtain ⟨m1, _⟩ := sgnAt_mod (n := nxt C e ws) hc
    rw [x_cons, e2, Out.seq_nx, x_cons]
    generalize hsd : sgnAt c (nxt C e ws) = s at *
    by_cases hz : c - s = 0
    · rw [hz, g3_no, Out.seq_nx, x_nil]
      refine ⟨_, _, rfl, hlt, 0, e, x, ws, _, _, rfl, hx, ?_, hk, hm, ?_, ?_⟩
      · rw [hz] at gs
        exact gs
      · rw [hz]; rfl
      · rw [List.length_append, List.length_singleton]; omega
    · obtain ⟨y, hy, fy⟩ := adv m1 gs hz
      rw [g3_go hz hy, Out.seq_nx, x_nil]
      have nz : ¬ (c - s) / 2 = 0 := by omega
      rw [if_neg nz] at gs hlt
      refine ⟨_, _, rfl, hlt, (c - s) / 2, e + 1, y, ws, _, _, rfl, fy, gs, hk, hm, rfl, ?_⟩
      rw [List.length_append, List.length_singleton]; omega
  · have hc0 : c % 2 = 0 := by omega
    have gs := g.even hc0
    have hlt := h0 hc0
    rw [x_cons, g2_even hc0, Out.seq_nx, x_cons]
    by_cases hz : c = 0
    · subst hz
      rw [g3_no, Out.seq_nx, x_nil]
      exact ⟨_, _, rfl, hlt, 0, e, x, ws, _, _, rfl, hx, gs, hk, hm, rfl, by omega⟩
    · obtain ⟨y, hy, fy⟩ := adv hc0 gs hz
      rw [g3_go hz hy, Out.seq_nx, x_nil]
      have nz : ¬ c / 2 = 0 := by omega
      rw [if_neg nz] at gs hlt
      exact ⟨_, _, rfl, hlt, c / 2, e + 1, y, ws, _, _, rfl, fy, gs, hk, hm, rfl, by omega⟩
theorem g_turn {S : Nat → Prop} (hS : HInj S) {C : CL} (h : COk S C) {V : Int} {m L : Nat} (hL : L ≤ 900000) (nx : Nx Φ C V m) (hdC : ∀ p ∈ C, p.2.1.depth ≤ 180) {pairs : Rf.D} {d : Nat} {sl : Sl} (hj : JG C V m L pairs d sl) :
    (ev Φ x5_3 sl = .ok (.bool false) ∧ ∃ (acc : List T3) (x : Rf.D) (s6 : Slot), sl = [.d pairs, .on (repN C), .d (.int 0), .d x, .ol [], .ol (acc.map tD), s6] ∧ val (acc.map tm) = V ∧ Nf (acc.reverse.map tm) ∧ ∀ t ∈ acc, Fm t.2.2 (t.2.1 : Nat)) ∨
    (ev Φ x5_3 sl = .ok (.bool true) ∧ ∃ sl2 d', Rf.execs Φ F b5_2 sl = .nx sl2 ∧ d' < d ∧ JG C V m L pairs d' sl2) := by
  obtain ⟨c, e, x, ws, acc, s6, rfl, hx, g, hk, hm, rfl, hl⟩ := hj
  have hd : ∀ k ∈ ws, k.2.depth ≤ 180 := fun k hk2 => by
    obtain ⟨p, hp, _, e2⟩ := hk k hk2
    rw [← e2]; exact hdC p hp
  have hlen : acc.length < line := by unfold line; omega
  have lw := len_wD (ws := ws)
  cases ws with
  | nil =>
    by_cases hc : c = 0
    · subst hc
      refine .inl ⟨by simp [x5_3, lw, -bltK_lenL], acc, x, s6, rfl, ?_, g.nf, g.fm⟩
      have := g.tot
      simp only [wsum, Int.zero_mul, Int.add_zero] at this
      exact this
    · refine .inr ⟨by simp [x5_3, lw, hc, -bltK_lenL], ?_⟩
      have gp := g.pop0 hc fun k hk => by cases hk
      rw [b5_2_eq, x_cons, g1_no hS h hx hk hd hc (fun k hk => by cases hk), Out.seq_nx]
      exact g_rest nx hlen hx gp hk hm (fun q => mu_odd q (fun k hk => by cases hk) rfl) (fun q => mu_even q hc (fun k hk => by cases hk)) hl
  | cons k r =>
    have lp : (0 : Int) < (r.length : Int) + 1 := by omega
    refine .inr ⟨by simp [x5_3, lw, lp, -bltK_lenL], ?_⟩
    have hk' : Kin C r := fun j hj => hk j (List.mem_cons_of_mem _ hj)
    have hm' : ∀ j ∈ r, j.1 ≤ m := fun j hj => hm j (List.mem_cons_of_mem _ hj)
    by_cases hp : c = 0 ∨ k.1 = e
    · have gp := g.pop1 hp
      obtain ⟨_, fk⟩ := nl_key hS h hk (List.mem_cons_self ..) (hd k (List.mem_cons_self ..))
      rw [b5_2_eq, x_cons, g1_pop hS h hx hk (hd k (List.mem_cons_self ..)) hp, Out.seq_nx]
      refine g_rest nx hlen fk gp hk' hm' (fun q => ?_) (fun q => ?_) hl
      · refine mu_pop ?_
        obtain ⟨m1, _⟩ := sgnAt_mod (n := nxt C k.1 r) q
        exact half_abs (by rcases sgnAt_or (c := c + cget C k.1) (n := nxt C k.1 r) with z | z; exact .inl z; exact .inr (.inl z)) m1
      · exact mu_pop (by omega)
    · have hc : c ≠ 0 := fun z => hp (.inl z)
      have hke : ∀ j, (k :: r).head? = some j → j.1 ≠ e := fun j hj z => hp (.inr (by cases hj; exact z))
      have gp := g.pop0 hc hke
      rw [b5_2_eq, x_cons, g1_no hS h hx hk hd hc hke, Out.seq_nx]
      exact g_rest nx hlen hx gp hk hm (fun q => mu_odd q hke rfl) (fun q => mu_even q hc hke) hl
end
end My

set_option Elab.async false
set_option linter.all false
set_option maxRecDepth 100000
set_option maxHeartbeats 4000000
namespace My
open PySem PySem.Spec PyProof.Rows L2 Rf
/-! ### the terms of a number; its hash -/
def sg4 (v : Int) : Int := 2 - v % 4
def wt : Nat → Int → Nat
  | 0, _ => 0
  | k + 1, v => if v % 2 = 0 then wt k (v / 2) else 1 + wt k ((v - sg4 v) / 2)
theorem wt_even {k : Nat} {v : Int} (h : v % 2 = 0) : wt (k + 1) v = wt k (v / 2) := by simp only [wt, if_pos h]
theorem wt_odd {k : Nat} {v : Int} (h : v % 2 = 1) : wt (k + 1) v = 1 + wt k ((v - sg4 v) / 2) := by simp only [wt, if_neg (show ¬ v % 2 = 0 by omega)]
structure WS (k : Nat) (v : Int) : Prop where
  a : wt k (v + 1) ≤ wt k v + 1
  b : wt k v ≤ wt k (v + 1) + 1
  c : v % 2 = 1 → wt k (v + 1) ≤ wt k v
  d : v % 2 = 0 → wt k v ≤ wt k (v + 1)
theorem ws : ∀ (k : Nat) (v : Int), WS k v
  | 0, v => ⟨by simp [wt], by simp [wt], fun _ => by simp [wt], fun _ => by simp [wt]⟩
  | k + 1, v => by
    by_cases h : v % 2 = 0
    · have e1 := wt_even (k := k) h
      have e2 := wt_odd (k := k) (v := v + 1) (by omega)
      have i := ws k (v / 2)
      by_cases h4 : v % 4 = 0
      · have e3 : (v + 1 - sg4 (v + 1)) / 2 = v / 2 := by unfold sg4; omega
        rw [e3] at e2
        exact ⟨by omega, by omega, fun z => by omega, fun _ => by omega⟩
      · have e3 : (v + 1 - sg4 (v + 1)) / 2 = v / 2 + 1 := by unfold sg4; omega
        rw [e3] at e2
        have := i.c (by omega)
        have := i.b
        exact ⟨by omega, by omega, fun z => by omega, fun _ => by omega⟩
    · have e1 := wt_odd (k := k) (v := v) (by omega)
      have e2 := wt_even (k := k) (v := v + 1) (by omega)
      by_cases h4 : v % 4 = 1
      · have e3 : (v - sg4 v) / 2 = (v - 1) / 2 := by unfold sg4; omega
        have e4 : (v + 1) / 2 = (v - 1) / 2 + 1 := by omega
        rw [e3] at e1
        rw [e4] at e2
        have i := ws k ((v - 1) / 2)
        have := i.d (by omega)
        have := i.a
        exact ⟨by omega, by omega, fun _ => by omega, fun z => by omega⟩
      · have e3 : (v - sg4 v) / 2 = (v + 1) / 2 := by unfold sg4; omega
        rw [e3] at e1
        exact ⟨by omega, by omega, fun _ => by omega, fun z => by omega⟩
theorem wt_near (k : Nat) (v : Int) : ∀ c : Nat, wt k (v + c) ≤ wt k v + c ∧ wt k (v - c) ≤ wt k v + c
  | 0 => by simp
  | c + 1 => by
    have ih := wt_near k v c
    have a := (ws k (v + c)).a
    have b := (ws k (v - (c + 1 : Nat))).b
    rw [show v + ((c + 1 : Nat) : Int) = v + c + 1 by omega]
    rw [show v - ((c + 1 : Nat) : Int) + 1 = v - c by omega] at b
    omega
theorem wt_pow : ∀ (p k : Nat) (v : Int), wt k (v + 2 ^ p) ≤ wt k v + 1 ∧ wt k (v - 2 ^ p) ≤ wt k v + 1
  | 0, k, v => by
    have := wt_near k v 1
    simpa using this
  | p + 1, 0, v => by simp [wt]
  | p + 1, k + 1, v => by
    have e : (2 : Int) ^ (p + 1) = 2 * 2 ^ p := by rw [two_add, Int.mul_comm]; rfl
    rw [e]
    by_cases h : v % 2 = 0
    · rw [wt_even h, wt_even (v := v + 2 * 2 ^ p) (by omega), wt_even (v := v - 2 * 2 ^ p) (by omega)]
      have ih := wt_pow p k (v / 2)
      rw [show (v + 2 * 2 ^ p) / 2 = v / 2 + 2 ^ p by omega, show (v - 2 * 2 ^ p) / 2 = v / 2 - 2 ^ p by omega]
      exact ih
    · rw [wt_odd (v := v) (by omega), wt_odd (v := v + 2 * 2 ^ p) (by omega), wt_odd (v := v - 2 * 2 ^ p) (by omega)]
      cases p with
      | succ p =>
        have ih := wt_pow (p + 1) k ((v - sg4 v) / 2)
        have e2 : (2 : Int) ^ (p + 1) = 2 * 2 ^ p := by rw [two_add, Int.mul_comm]; rfl
        rw [e2] at ih ⊢
        generalize (2 : Int) ^ p = x at *
        have s1 : sg4 (v + 2 * (2 * x)) = sg4 v := by unfold sg4; omega
        have s2 : sg4 (v - 2 * (2 * x)) = sg4 v := by unfold sg4; omega
        have dv : (v - sg4 v) % 2 = 0 := by unfold sg4; omega
        rw [s1, s2, show (v + 2 * (2 * x) - sg4 v) / 2 = (v - sg4 v) / 2 + 2 * x by omega, show (v - 2 * (2 * x) - sg4 v) / 2 = (v - sg4 v) / 2 - 2 * x by omega]
        omega
      | zero =>
        rw [show (2 : Int) * 2 ^ 0 = 2 by decide]
        by_cases h4 : v % 4 = 1
        · rw [show (v - sg4 v) / 2 = 2 * ((v - 1) / 4) by unfold sg4; omega, show (v + 2 - sg4 (v + 2)) / 2 = 2 * ((v - 1) / 4 + 1) by unfold sg4; omega, show (v - 2 - sg4 (v - 2)) / 2 = 2 * ((v - 1) / 4) by unfold sg4; omega]
          cases k with
          | zero => simp [wt]
          | succ k =>
            rw [wt_even (v := 2 * ((v - 1) / 4)) (by omega), wt_even (v := 2 * ((v - 1) / 4 + 1)) (by omega)]
            have := (ws k ((v - 1) / 4)).a
            rw [show 2 * ((v - 1) / 4) / 2 = (v - 1) / 4 by omega, show 2 * ((v - 1) / 4 + 1) / 2 = (v - 1) / 4 + 1 by omega]
            omega
        · rw [show (v - sg4 v) / 2 = 2 * ((v + 1) / 4) by unfold sg4; omega, show (v + 2 - sg4 (v + 2)) / 2 = 2 * ((v + 1) / 4) by unfold sg4; omega, show (v - 2 - sg4 (v - 2)) / 2 = 2 * ((v + 1) / 4 - 1) by unfold sg4; omega]
          cases k with
          | zero => simp [wt]
          | succ k =>
            rw [wt_even (v := 2 * ((v + 1) / 4)) (by omega), wt_even (v := 2 * ((v + 1) / 4 - 1)) (by omega)]
            have := (ws k ((v + 1) / 4 - 1)).b
            rw [show (v + 1) / 4 - 1 + 1 = (v + 1) / 4 by omega] at this
            rw [show 2 * ((v + 1) / 4) / 2 = (v + 1) / 4 by omega, show 2 * ((v + 1) / 4 - 1) / 2 = (v + 1) / 4 - 1 by omega]
            omega
/-! the terms of a number -/
def nfl : Nat → Int → Nat → List Tm
  | 0, _, _ => []
  | k + 1, v, p => if v % 2 = 0 then nfl k (v / 2) (p + 1) else nfl k ((v - sg4 v) / 2) (p + 1) ++ [(sg4 v, p)]
theorem val_app : ∀ {a b : List Tm}, val (a ++ b) = val a + val b
  | [], b => by simp [val]
  | t :: a, b => by simp only [List.cons_append, val, val_app]; omega
theorem nf_snoc : ∀ {l : List Tm} {t : Tm}, Nf l → (∀ u ∈ l, t.2 + 2 ≤ u.2) → (t.1 = 1 ∨ t.1 = -1) → Nf (l ++ [t])
  | [], t, _, _, h => ⟨h, fun u hu => by simp at hu, trivial⟩
  | u :: r, t, nf, hu, h => by
    refine ⟨nf.1, fun w hw => ?_, nf_snoc nf.2.2 (fun w hw => hu w (List.mem_cons_of_mem _ hw)) h⟩
    cases r with
    | nil => simp at hw; subst hw; exact hu u (List.mem_cons_self ..)
    | cons a r => exact nf.2.1 w hw
structure NfOk (k : Nat) (v : Int) (p : Nat) : Prop where
  vl : val (nfl k v p) = v * 2 ^ p
  nf : Nf (nfl k v p)
  ge : ∀ t ∈ nfl k v p, p ≤ t.2
  ev : v % 2 = 0 → ∀ t ∈ nfl k v p, p + 1 ≤ t.2
  ln : (nfl k v p).length = wt k v
theorem nfl_ok : ∀ (k : Nat) (v : Int) (p : Nat), -(2 ^ k) ≤ v → v ≤ 2 ^ k → NfOk (k + 1) v p
  | k, v, p, h1, h2 => by
    have e2 : (2 : Int) ^ (p + 1) = 2 * 2 ^ p := by rw [two_add, Int.mul_comm]; rfl
    by_cases h : v % 2 = 0
    · have en : nfl (k + 1) v p = nfl k (v / 2) (p + 1) := by simp only [nfl, if_pos h]
      have ew := wt_even (k := k) h
      cases k with
      | zero =>
        have : v = 0 := by
          have h1 : -1 ≤ v := h1
          have h2 : v ≤ 1 := h2
          omega
        subst this
        exact ⟨by simp [nfl, val], trivial, fun t ht => by simp [nfl] at ht, fun _ t ht => by simp [nfl] at ht, by simp [nfl, wt]⟩
      | succ k =>
        have e3 : (2 : Int) ^ (k + 1) = 2 * 2 ^ k := by rw [two_add, Int.mul_comm]; rfl
        rw [e3] at h1 h2
        have ih := nfl_ok k (v / 2) (p + 1) (by generalize (2 : Int) ^ k = x at *; omega) (by generalize (2 : Int) ^ k = x at *; omega)
        refine ⟨?_, by rw [en]; exact ih.nf, fun t ht => ?_, fun _ t ht => ?_, by rw [en, ih.ln, ew]⟩
        · rw [en, ih.vl, e2, ← Int.mul_assoc, show v / 2 * 2 = v by omega]
        · rw [en] at ht; have := ih.ge t ht; omega
        · rw [en] at ht; exact ih.ge t ht
    · have en : nfl (k + 1) v p = nfl k ((v - sg4 v) / 2) (p + 1) ++ [(sg4 v, p)] := by simp only [nfl, if_neg h]
      have ew := wt_odd (k := k) (v := v) (by omega)
      have s1 : sg4 v = 1 ∨ sg4 v = -1 := by unfold sg4; omega
      have dv : (v - sg4 v) % 2 = 0 := by unfold sg4; omega
      have dv2 : (v - sg4 v) / 2 % 2 = 0 := by unfold sg4; omega
      have fin : NfOk k ((v - sg4 v) / 2) (p + 1) → NfOk (k + 1) v p := fun ih => by
        refine ⟨?_, ?_, fun t ht => ?_, fun z => absurd z h, ?_⟩
        · rw [en, val_app, ih.vl, e2, ← Int.mul_assoc, show (v - sg4 v) / 2 * 2 = v - sg4 v by omega, Int.sub_mul]
          simp only [val]
          omega
        · rw [en]
          exact nf_snoc ih.nf (fun u hu => ih.ev dv2 u hu) s1
        · rw [en] at ht
          rcases List.mem_append.mp ht with ht | ht
          · have := ih.ge t ht; omega
          · simp at ht; subst ht; exact Nat.le_refl _
        · rw [en, List.length_append, ih.ln, ew, List.length_singleton, Nat.add_comm]
      cases k with
      | zero =>
        have : v = 1 ∨ v = -1 := by
          have h1 : -1 ≤ v := h1
          have h2 : v ≤ 1 := h2
          omega
        have e0 : (v - sg4 v) / 2 = 0 := by rcases this with rfl | rfl <;> decide
        rw [e0] at fin
        exact fin ⟨by simp [nfl, val], trivial, fun t ht => by simp [nfl] at ht, fun _ t ht => by simp [nfl] at ht, by simp [nfl, wt]⟩
      | succ k =>
        have e3 : (2 : Int) ^ (k + 1) = 2 * 2 ^ k := by rw [two_add, Int.mul_comm]; rfl
        rw [e3] at h1 h2
        exact fin (nfl_ok k ((v - sg4 v) / 2) (p + 1) (by generalize (2 : Int) ^ k = x at *; omega) (by generalize (2 : Int) ^ k = x at *; omega))
theorem nf_is {l : List Tm} (h : Nf l) {k : Nat} (h1 : -(2 ^ k) ≤ val l) (h2 : val l ≤ 2 ^ k) : l = nfl (k + 1) (val l) 0 := by
  have q := nfl_ok k (val l) 0 h1 h2
  refine val_eq h q.nf ?_
  rw [q.vl]
  simp


def tH (l : List Int) : Int := reduceHash (Builtin.Tuple.tupleHashOf l)
def hsG (T : List Int → Int) (I : Int → Int) : Nat → Nat → Int
  | 0, _ => T []
  | d + 1, e => T ((nfl 17 (e : Int) 0).map fun t => T [I t.1, hsG T I d t.2])
mutual
def hnG (T : List Int → Int) (I : Int → Int) : Rf.D → Int
  | .int i => I i
  | .tuple xs => T (hnGs T I xs)
  | _ => 0
def hnGs (T : List Int → Int) (I : Int → Int) : List Rf.D → List Int
  | [] => []
  | x :: r => hnG T I x :: hnGs T I r
end
mutual
theorem hashN_G : ∀ {x : Rf.D}, nkeyI x = true → hashN x = hnG tH hashInt x
  | .int i, _ => by simp only [hashN, hnG]
  | .tuple xs, h => by
    simp only [hashN, hnG]
    rw [hashNs_G (by simpa [nkeyI] using h)]
    simp only [tH]
  | .none, h => by simp [nkeyI] at h
  | .bool _, h => by simp [nkeyI] at h
  | .str _, h => by simp [nkeyI] at h
  | .list _, h => by simp [nkeyI] at h
  | .dict _, h => by simp [nkeyI] at h
theorem hashNs_G : ∀ {x : List Rf.D}, nkeyIs x = true → hashNs x = hnGs tH hashInt x
  | [], _ => by simp only [hashNs, hnGs]
  | x :: r, h => by
    simp only [nkeyIs, Bool.and_eq_true] at h
    simp only [hashNs, hnGs]
    rw [hashN_G h.1, hashNs_G h.2]
end
section
variable {T : List Int → Int} {I : Int → Int}
theorem hnG_tD {t : T3} : hnG T I (tD t) = T [I t.1, hnG T I t.2.2] := by simp only [tD, hnG, hnGs]
theorem hnGs_map : ∀ {ts : List T3}, hnGs T I (ts.map tD) = ts.map fun t => T [I t.1, hnG T I t.2.2]
  | [] => by simp only [List.map_nil, hnGs]
  | t :: r => by simp only [List.map_cons, hnGs, hnGs_map, hnG_tD]
theorem hash_G : ∀ (d : Nat) {x : Rf.D} {e : Nat}, Fm x (e : Nat) → x.depth ≤ 2 * d + 1 → e ≤ 65536 → hnG T I x = hsG T I d e := by
  intro d
  induction d with
  | zero =>
    intro x e hx hd _
    obtain ⟨ts, rfl, _⟩ := hx.inv
    cases ts with
    | nil => simp only [List.map_nil, hnG, hnGs, hsG]
    | cons t r =>
      simp only [List.map_cons, PyData.depth, PyData.depthAll, tD] at hd
      omega
  | succ d ih =>
    intro x e hx hd he
    obtain ⟨ts, rfl, hv, nf, fs⟩ := hx.inv
    have hl := nf_is nf (k := 16) (by rw [← hv]; omega) (by rw [← hv]; omega)
    rw [← hv] at hl
    simp only [hnG, hnGs_map, hsG]
    rw [← hl, List.map_map]
    refine congrArg T (List.map_congr_left fun t ht => ?_)
    have dp := dep_all ht
    simp only [PyData.depth] at hd
    have hb := exp_le nf (k := 16) (by rw [← hv]; constructor <;> omega) (tm t) (List.mem_map.mpr ⟨t, ht, rfl⟩)
    have hb : t.2.1 ≤ 16 := hb
    have := ih (fs t ht) (by omega) (by omega)
    show T [I t.1, hnG T I t.2.2] = T [I t.1, hsG T I d t.2.1]
    rw [this]
end
def hsF (d e : Nat) : Int := hsG tH hashInt d e
theorem hash_fm (d : Nat) {x : Rf.D} {e : Nat} (hx : Fm x (e : Nat)) (hd : x.depth ≤ 2 * d + 1) (he : e ≤ 65536) : hashN x = hsF d e := (hashN_G (pl_nk hx.pl)).trans (hash_G d hx hd he)
def noDupB : List Int → Bool
  | [] => true
  | x :: r => r.all (fun y => !decide (x = y)) && noDupB r
theorem noDupB_ok : ∀ {l : List Int}, noDupB l = true → l.Pairwise (· ≠ ·)
  | [], _ => .nil
  | x :: r, h => by
    simp only [noDupB, Bool.and_eq_true, List.all_eq_true] at h
    refine List.pairwise_cons.mpr ⟨fun y hy z => ?_, noDupB_ok h.2⟩
    have := h.1 y hy
    simp [z] at this
def HM : Nat := 127
theorem hash_tab : noDupB ((List.range 128).map (hsF 6)) = true := by decide +kernel
theorem hinj : HInj (fun e => e ≤ 127) := fun a b x y ha hb fx fy e => by
  have h1 := hash_fm 6 fx (by have := depN fx (by omega); omega) (by omega)
  have h2 := hash_fm 6 fy (by have := depN fy (by omega); omega) (by omega)
  rw [h1, h2] at e
  have p := noDupB_ok hash_tab
  rw [List.pairwise_map] at p
  rcases Nat.lt_trichotomy a b with q | q | q
  · have hp := List.pairwise_iff_getElem.mp p a b (by simpa using (by omega : a < 128)) (by simpa using (by omega : b < 128)) q
    rw [List.getElem_range, List.getElem_range] at hp
    exact absurd e hp
  · exact q
  · have hp := List.pairwise_iff_getElem.mp p b a (by simpa using (by omega : b < 128)) (by simpa using (by omega : a < 128)) q
    rw [List.getElem_range, List.getElem_range] at hp
    exact absurd e.symm hp
end My

set_option Elab.async false
set_option linter.all false
set_option maxRecDepth 100000
set_option maxHeartbeats 4000000
namespace My
open PySem PySem.Spec PyProof.Rows L2 Rf
section
variable {Φ : FT} {F n : Nat}
/-! ### gathered -/
def kyOf (C : CL) : List Ky := C.map fun p => (p.1, p.2.1)
theorem kyOf_sum {C : CL} (nd : C.Pairwise fun a b => a.1 ≠ b.1) : ∀ {D : CL}, (∀ p ∈ D, p ∈ C) → wsum C (kyOf D) = csum D ∧ wmu C (kyOf D) = cw D
  | [], _ => ⟨rfl, rfl⟩
  | p :: D, h => by
    obtain ⟨a, b⟩ := kyOf_sum nd (D := D) fun q hq => h q (List.mem_cons_of_mem _ hq)
    obtain ⟨c, _⟩ := cget_mem nd (h p (List.mem_cons_self ..))
    have e : kyOf (p :: D) = (p.1, p.2.1) :: kyOf D := rfl
    rw [e]
    simp only [wsum, wmu, csum, cw, a, b, c]
    exact ⟨trivial, trivial⟩
theorem fm0 : Fm (.tuple []) ((0 : Nat) : Int) := Fm.mk [] trivial fun t ht => by simp at ht
theorem keys_rep {C : CL} : (repN C).map (·.1) = (kyOf C).map (·.2) := by unfold repN kyOf; rw [List.map_map, List.map_map]; rfl
theorem gath_run (hF : 4000 ≤ F) {S : Nat → Prop} (hS : HInj S) {ps : List T3} {m : Nat} (hp : ∀ t ∈ ps, Fm t.2.2 (t.2.1 : Nat) ∧ S t.2.1 ∧ t.2.2.depth ≤ 180) (hl : ps.length ≤ 500) (hw : pw2 ps < F) (hw2 : pw2 ps ≤ 900000) (hm : ∀ p ∈ cacc ps [], p.1 ≤ m)
    (ho : Φ 4 [.list ((kyOf (cacc ps [])).map (·.2))] = .ok (.list ((kall (kyOf (cacc ps [])) []).map (·.2)))) (nx : Nx Φ (cacc ps []) (val (ps.map tm)) m) : ∃ x, Fdef.run ⟨1, 7, b5⟩ Φ F [.list (ps.map tD)] = .ok x ∧ Fm x (val (ps.map tm)) := by
  have cok0 : COk S [] := ⟨fun p hp => by simp at hp, fun p hp => by simp at hp, .nil⟩
  obtain ⟨cok, cs, cwl, cl⟩ := cacc_ok (ps := ps) (C := []) (fun t ht => ⟨(hp t ht).1, (hp t ht).2.1⟩) cok0
  simp only [csum, cw, Int.zero_add, Nat.zero_add, List.length_nil] at cs cwl cl
  refine run_of rfl ?_
  obtain ⟨r2, r3, el⟩ := cnt_loop (Φ := Φ) (F := F) hS (pairs := .list (ps.map tD)) hp cok0 (by simp only [List.length_nil]; omega) .un .un .un .un .un
  have el : forL (Rf.execs Φ F b5_1) tg5 (ps.map tD) [.d (.list (ps.map tD)), .on [], .un, .un, .un, .un, .un] = _ := el
  generalize hC : cacc ps [] = C at *
  have cdep : ∀ p ∈ C, p.2.1.depth ≤ 180 := by
    have : ∀ {ps : List T3} {D : CL}, (∀ t ∈ ps, t.2.2.depth ≤ 180) → (∀ p ∈ D, p.2.1.depth ≤ 180) → ∀ p ∈ cacc ps D, p.2.1.depth ≤ 180 := by
      intro ps
      induction ps with
      | nil => intro D _ h; exact h
      | cons t ps ih =>
        intro D h1 h2
        refine ih (fun u hu => h1 u (List.mem_cons_of_mem _ hu)) fun p hp => ?_
        unfold cadd at hp
        split at hp
        · rcases List.mem_append.mp hp with hp | hp
          · exact h2 p hp
          · rw [List.mem_singleton.mp hp]; exact h1 t (List.mem_cons_self ..)
        · obtain ⟨q, hq, rfl⟩ := List.mem_map.mp hp
          have := h2 q hq
          split <;> exact this
    rw [← hC]
    exact this (fun t ht => (hp t ht).2.2) fun p hp => by simp at hp
  have kp : (kyOf C).Pairwise fun a b => a.1 ≠ b.1 := by unfold kyOf; rw [List.pairwise_map]; exact cok.nd
  have ka := kall_ok (C := C) (ks := kyOf C) (l := []) .nil kp fun k _ y hy => by simp at hy
  obtain ⟨s1, s2⟩ := kyOf_sum cok.nd (D := C) fun p hp => hp
  have rv : revD (.list ((kall (kyOf C) []).map (·.2))) = some (.list (wD (kall (kyOf C) []))) := rfl
  show Is _ (Rf.execs Φ F b5 [.d (.list (ps.map tD)), .un, .un, .un, .un, .un, .un])
  simp only [b5, x_cons]
  rw [x_nowe (by simp)]
  simp only [Out.seq_nx, x_cons, x_for, es_cons, es_nil, e_var, List.set_cons_succ, List.set_cons_zero, List.getElem?_cons_zero, varK_d, Res.bind_ok, srcK_l, Out.ofR_ok, el]
  simp only [x_own, e_rev, e_call, es_cons, es_nil, e_nkeys, List.getElem?_cons_succ, List.getElem?_cons_zero, nkeysK_on, Res.bind_ok, keys_rep, ho, rv, Res.of_some, Out.ofR_ok]
  rw [ownK_l (by simp)]
  simp only [Out.seq_nx, x_cons, x_own, e_lst, es_nil, Res.bind_ok, Out.ofR_ok, List.set_cons_succ, List.set_cons_zero]
  rw [ownK_l (by simp)]
  simp only [Out.seq_nx, x_cons, x_asg, e_con, Out.ofR_ok, List.set_cons_succ, List.set_cons_zero]
  rw [asgK_nm (by simp)]
  simp only [Out.seq_nx, x_cons, x_asg, e_tup, es_nil, Res.bind_ok, Out.ofR_ok, List.set_cons_succ, List.set_cons_zero]
  rw [asgK_nm (by simp)]
  simp only [Out.seq_nx, x_cons, x_whl, List.set_cons_succ, List.set_cons_zero]
  refine Is.whl (fun d e => JG C (val (ps.map tm)) m 900000 (.list (ps.map tD)) d e) (fun d e hh => ?_) F _ (mu C 0 0 (kall (kyOf C) [])) ?_ ?_
  · rcases g_turn hS cok (Nat.le_refl _) nx cdep hh with ⟨t1, acc, x, s6, rfl, a1, a2, a3⟩ | ⟨t1, sl2, d', e2, lt, hj⟩
    · refine .inl ⟨t1, ?_⟩
      have rv2 : revD (.list (acc.map tD)) = some (.list (acc.reverse.map tD)) := by simp [revD]
      simp only [x_cons, x_ret, e_blt, es_cons, es_nil, e_rev, e_vw, List.getElem?_cons_succ, List.getElem?_cons_zero, vwK_l, Res.bind_ok, rv2, Res.of_some, bltK_tupL, Out.ofR_ok, Out.seq_ret]
      rw [Ret_ret]
      have f := Fm.mk acc.reverse a2 fun t ht => a3 t (by simpa using ht)
      have e : val (acc.reverse.map tm) = val (ps.map tm) := by rw [List.map_reverse (f := tm), val_rev, a1]
      rw [e] at f
      exact f
    · exact .inr ⟨t1, by rw [e2, Turn_nx]; exact ⟨d', lt, hj⟩⟩
  · refine ⟨0, 0, .tuple [], kall (kyOf C) [], [], _, rfl, fm0, ⟨ka.asc, fun z => absurd rfl z, ?_, trivial, fun t ht => by simp at ht, fun t ht => by simp at ht, fun t ht => by simp at ht, fun t ht => by simp at ht⟩, fun k hk => ?_, fun k hk => ?_, rfl, ?_⟩
    · rw [ka.sum, s1, cs]
      simp [val, wsum]
    · rcases ka.mem k hk with h | h
      · obtain ⟨p, hp, rfl⟩ := List.mem_map.mp h
        exact ⟨p, hp, rfl, rfl⟩
      · simp at h
    · rcases ka.mem k hk with h | h
      · obtain ⟨p, hp, rfl⟩ := List.mem_map.mp h
        exact hm p hp
      · simp at h
    · have e1 : mu C 0 0 (kall (kyOf C) []) = wmu C (kall (kyOf C) []) := by unfold mu; simp
      rw [e1, ka.mu, s2]
      simp only [wmu, List.length_nil]
      omega
  · have e1 : mu C 0 0 (kall (kyOf C) []) = wmu C (kall (kyOf C) []) := by unfold mu; simp
    rw [e1, ka.mu, s2]
    simp only [wmu]
    omega
def NextOk (F m : Nat) (V : Int) (d : Nat) : Prop := ∀ e x, Fm x ((e : Nat) : Int) → (e + 1 ≤ m ∨ 2 * (2 : Int) ^ (e + 1) < 3 * V ∨ 3 * V < -(2 * 2 ^ (e + 1))) → ∀ q, d ≤ q → ∃ y, phi TB F q 7 [x] = .ok y ∧ Fm y ((e + 1 : Nat) : Int)
theorem cacc_mem : ∀ {ps : List T3} {D : CL} {p : Nat × Rf.D × Int}, p ∈ cacc ps D → (∃ t ∈ ps, t.2.1 = p.1 ∧ t.2.2 = p.2.1) ∨ ∃ q ∈ D, q.1 = p.1 ∧ q.2.1 = p.2.1
  | [], D, p, h => .inr ⟨p, h, rfl, rfl⟩
  | t :: ps, D, p, h => by
    rcases cacc_mem (ps := ps) h with ⟨u, hu, e⟩ | ⟨q, hq, e1, e2⟩
    · exact .inl ⟨u, List.mem_cons_of_mem _ hu, e⟩
    · unfold cadd at hq
      split at hq
      · rcases List.mem_append.mp hq with hq | hq
        · exact .inr ⟨q, hq, e1, e2⟩
        · rw [List.mem_singleton.mp hq] at e1 e2
          exact .inl ⟨t, List.mem_cons_self .., e1, e2⟩
      · obtain ⟨r, hr, rfl⟩ := List.mem_map.mp hq
        refine .inr ⟨r, hr, ?_, ?_⟩
        · rw [← e1]; split <;> rfl
        · rw [← e2]; split <;> rfl
theorem gath_ok (hF : 4000 ≤ F) (hn : 8 ≤ n) {S : Nat → Prop} (hS : HInj S) {ps : List T3} {m : Nat} (hp : ∀ t ∈ ps, Fm t.2.2 (t.2.1 : Nat) ∧ S t.2.1 ∧ t.2.2.depth ≤ 13 ∧ t.2.1 ≤ m) (hl : ps.length ≤ 500) (hw : pw2 ps < F) (hw2 : pw2 ps ≤ 900000)
    (H : NextOk F m (val (ps.map tm)) (n - 1)) : ∃ x, phi TB F (n + 1) 5 [.list (ps.map tD)] = .ok x ∧ Fm x (val (ps.map tm)) := by
  have cok0 : COk S [] := ⟨fun p hp => by simp at hp, fun p hp => by simp at hp, .nil⟩
  obtain ⟨cok, cs, cwl, cl⟩ := cacc_ok (ps := ps) (C := []) (fun t ht => ⟨(hp t ht).1, (hp t ht).2.1⟩) cok0
  simp only [List.length_nil, Nat.zero_add] at cl
  have hm : ∀ p ∈ cacc ps [], p.1 ≤ m ∧ p.2.1.depth ≤ 13 := fun p hpm => by
    rcases cacc_mem hpm with ⟨t, ht, e1, e2⟩ | ⟨q, hq, _⟩
    · rw [← e1, ← e2]; exact ⟨(hp t ht).2.2.2, (hp t ht).2.2.1⟩
    · simp at hq
  obtain ⟨k, rfl⟩ : ∃ k, n = k + 1 := ⟨n - 1, by omega⟩
  have fk : ∀ y ∈ kyOf (cacc ps []), Fm y.2 (y.1 : Nat) ∧ y.2.depth ≤ 13 := fun y hy => by
    obtain ⟨p, hp, rfl⟩ := List.mem_map.mp hy
    exact ⟨cok.fm p hp, (hm p hp).2⟩
  have ho : phi TB F (k + 1) 4 [.list ((kyOf (cacc ps [])).map (·.2))] = .ok (.list ((kall (kyOf (cacc ps [])) []).map (·.2))) := by
    refine (phi_succ rfl).trans (in_run (by omega) (fun y hy => (fk y hy).1) ?_ ?_ fun j hj y hy => ?_)
    · unfold kyOf; rw [List.pairwise_map]; exact cok.nd
    · unfold kyOf; rw [List.length_map]; omega
    · have d := (fk y hy).2
      exact compare_ok (F := F) k (fk y hy).1 (fk j hj).1 (by omega) (by omega)
  obtain ⟨x, e, f⟩ := gath_run (Φ := phi TB F (k + 1)) hF hS (m := m) (fun t ht => ⟨(hp t ht).1, (hp t ht).2.1, by have := (hp t ht).2.2.1; omega⟩) hl hw hw2 (fun p hp => (hm p hp).1) ho
    ⟨fun e x hx nd => H e x hx nd (k + 1) (by omega), fun c e x ws hx hk hg => (phi_succ rfl).trans (sign_run2 hS cok hk (fun j hj => by
      obtain ⟨p, hp, _, e2⟩ := hk j hj
      have := (hm p hp).2
      rw [e2] at this
      omega) fun hne => by
        obtain ⟨j, r, rfl⟩ := List.exists_cons_of_ne_nil hne
        obtain ⟨a, b⟩ := hg j (List.mem_cons_self ..)
        exact H e x hx (.inl (by omega)) k (by omega))⟩
  exact ⟨x, (phi_succ rfl).trans e, f⟩
/-! ### next_of -/
def limN : Nat → Nat
  | 0 => 0
  | 1 => 1
  | 2 => 4
  | 3 => 41
  | _ => 100000
def mN : Nat → Nat
  | 0 => 0
  | 1 => 0
  | 2 => 2
  | 3 => 5
  | _ => 17
theorem pow_lt_of {t k : Nat} {c : Int} (h : 2 * (2 : Int) ^ t < c) (hk : c ≤ 2 * 2 ^ (k + 1)) : t ≤ k := by
  refine Nat.le_of_not_lt fun lt => ?_
  have := two_mono (show k + 1 ≤ t by omega)
  omega
theorem top_exp {l : List Tm} (h : Nf l) {k : Nat} {B : Int} (h0 : 0 ≤ val l) (hv : 3 * val l ≤ B) (hk : B ≤ 2 * 2 ^ (k + 1)) : ∀ t ∈ l, t.2 ≤ k := by
  cases l with
  | nil => intro t ht; simp at ht
  | cons u r =>
    have b := bnd h
    have P := two_pos u.2
    have hu : u.2 ≤ k := by
      refine pow_lt_of (c := B) ?_ hk
      generalize val (u :: r) = v at *
      generalize (2 : Int) ^ u.2 = x at *
      rcases h.1 with e | e <;> rw [e] at b <;> omega
    intro t ht
    rcases List.mem_cons.mp ht with rfl | ht
    · exact hu
    · have := head_le h t ht; omega
theorem len_exp : ∀ {l : List Tm} {k : Nat}, Nf l → (∀ t ∈ l, t.2 ≤ k) → l.length ≤ k + 1
  | [], _, _, _ => Nat.zero_le _
  | [t], _, _, _ => by simp
  | t :: u :: r, k, h, hk => by
    have a := h.2.1 u rfl
    have b := hk t (List.mem_cons_self ..)
    have := len_exp (l := u :: r) (k := k - 2) h.2.2 fun w hw => by
      have : w.2 ≤ u.2 := by
        rcases List.mem_cons.mp hw with rfl | hw
        · exact Nat.le_refl _
        · exact head_le h.2.2 w hw
      omega
    simp only [List.length_cons] at this ⊢
    omega
theorem pw_app : ∀ {a b : List T3}, pw2 (a ++ b) = pw2 a + pw2 b
  | [], b => by simp [pw2]
  | t :: a, b => by simp only [List.cons_append, pw2, pw_app (a := a)]; omega
theorem pw_nf : ∀ {ts : List T3}, Nf (ts.map tm) → pw2 ts = 6 * ts.length
  | [], _ => rfl
  | t :: r, h => by
    have e := pw_nf (ts := r) h.2.2
    have : t.1 = 1 ∨ t.1 = -1 := h.1
    simp only [pw2, List.length_cons, e]
    omega
theorem next_step (hF : 4000 ≤ F) {x : Rf.D} {v : Nat} (hx : Fm x (v : Nat)) {m : Nat} (hm : m ≤ 20) (hb : 3 * (v : Int) ≤ 2 * 2 ^ (m + 1)) (hv : v ≤ 100000) {d : Nat} (hd : 12 ≤ d) (H : NextOk F m ((v + 1 : Nat) : Int) (d - 3)) : ∃ y, phi TB F d 7 [x] = .ok y ∧ Fm y ((v + 1 : Nat) : Int) := by
  obtain ⟨ts, rfl, hvv, nf, fs⟩ := hx.inv
  obtain ⟨k, rfl⟩ : ∃ k, d = k + 3 := ⟨d - 3, by omega⟩
  have ex := top_exp nf (k := m) (B := 3 * (v : Int)) (by omega) (by omega) hb
  have ln := len_exp nf ex
  rw [List.length_map] at ln
  have e1 : ((v + 1 : Nat) : Int) = val ((ts ++ [(1, 0, PyData.tuple [])]).map tm) := by
    rw [List.map_append, val_app, ← hvv]
    rfl
  rw [e1] at H ⊢
  obtain ⟨y, hy, fy⟩ := gath_ok (F := F) (n := k + 1) (m := m) hF (by omega) hinj (ps := ts ++ [(1, 0, PyData.tuple [])]) (fun t ht => by
    rcases List.mem_append.mp ht with ht | ht
    · have e := ex (tm t) (List.mem_map.mpr ⟨t, ht, rfl⟩)
      have e : t.2.1 ≤ m := e
      exact ⟨fs t ht, by show t.2.1 ≤ 127; omega, depN (fs t ht) (by omega), e⟩
    · rw [List.mem_singleton.mp ht]
      exact ⟨fm0, by decide, by decide, Nat.zero_le _⟩) (by rw [List.length_append, List.length_singleton]; omega) (by rw [pw_app, pw_nf nf]; simp only [pw2]; omega) (by rw [pw_app, pw_nf nf]; simp only [pw2]; omega) H
  refine ⟨y, (phi_succ rfl).trans (run_ret rfl ?_), fy⟩
  have hl : binK .add (.list (ts.map tD)) (.list [.tuple [.int 1, .tuple []]]) = .ok (.list ((ts ++ [(1, 0, PyData.tuple [])]).map tD)) := by
    rw [binK_lst (by rw [List.length_map, List.length_singleton]; omega), List.map_append]
    rfl
  have hli : bltK .list [.tuple (ts.map tD)] = .ok (.list (ts.map tD)) := rfl
  show Rf.execs _ F b7 [.d (.tuple (ts.map tD))] = _
  simp only [b7, x_cons, x_ret, e_call, es_cons, es_nil, e_bin, e_blt, e_var, e_lst, e_tup, e_con, List.getElem?_cons_zero, varK_d, Res.bind_ok, hli, hl, hy, Out.ofR_ok, Out.seq_ret]
theorem next_ok (hF : 4000 ≤ F) : ∀ (l : Nat), l ≤ 4 → ∀ {v : Nat} {x : Rf.D}, v ≤ limN l → Fm x (v : Nat) → ∀ d, 3 * l + 12 ≤ d → ∃ y, phi TB F d 7 [x] = .ok y ∧ Fm y ((v + 1 : Nat) : Int)
  | 0, _, v, x, hv, hx, d, hd => by
    have hv : v = 0 := Nat.le_zero.mp hv
    subst hv
    refine next_step hF hx (m := 0) (by decide) (by decide) (by decide) (by omega) fun e x hx nd => ?_
    have := two_pos (e + 1)
    have := two_mono (i := 1) (j := e + 1) (by omega)
    omega
  | l + 1, hl, v, x, hv, hx, d, hd => by
    have key : v ≤ 100000 ∧ 3 * (v : Int) ≤ 2 * 2 ^ (mN (l + 1) + 1) ∧ mN (l + 1) ≤ 20 ∧ mN (l + 1) ≤ limN l + 1 ∧ 3 * ((v + 1 : Nat) : Int) ≤ 2 * 2 ^ (limN l + 1 + 1) := by
      match l, hl with
      | 0, _ => have : v ≤ 1 := hv; simp only [mN, limN]; refine ⟨by omega, ?_, by omega, by omega, ?_⟩ <;> omega
      | 1, _ => have : v ≤ 4 := hv; simp only [mN, limN]; refine ⟨by omega, ?_, by omega, by omega, ?_⟩ <;> omega
      | 2, _ => have : v ≤ 41 := hv; simp only [mN, limN]; refine ⟨by omega, ?_, by omega, by omega, ?_⟩ <;> omega
      | 3, _ => have : v ≤ 100000 := hv; simp only [mN, limN]; refine ⟨by omega, ?_, by omega, by omega, ?_⟩ <;> omega
    obtain ⟨k1, k2, k3, k4, k5⟩ := key
    refine next_step hF hx k3 k2 k1 (by omega) fun e x hx nd q hq => next_ok hF l (by omega) ?_ hx q (by omega)
    rcases nd with h | h | h
    · omega
    · have := pow_lt_of (t := e + 1) (k := limN l + 1) h k5
      omega
    · have := two_pos (e + 1)
      omega
end
end My

set_option Elab.async false
set_option linter.all false
set_option maxRecDepth 100000
set_option maxHeartbeats 4000000
namespace My
open PySem PySem.Spec PyProof.Rows L2 Rf
section
variable {Φ : FT} {F : Nat}
theorem rev_comp {f : Sl → Res Rf.D} {g : Sl → Res Bool} {t : Tgt} {e : Sl} {xs : List Rf.D} (hg : ∀ e, g e = .ok true) (hf : ∀ (j : Nat) y, xs.reverse[j]? = some y → ∃ e1, bindT t (.int (j : Nat)) e = some e1 ∧ f e1 = .ok y) : compL f g t (rngD 0 xs.length) e = .ok xs.reverse := by
  have h := compL_all (e := e) (f := f) (g := g) (t := t) (h := fun x => match x with
    | .int j => xs.reverse[j.toNat]?.getD .none
    | _ => .none) hg (rngD 0 xs.length) fun x hx => by
      obtain ⟨j, hj, rfl⟩ := List.mem_map.mp hx
      rw [List.mem_range] at hj
      have hl : j < xs.reverse.length := by simpa using hj
      obtain ⟨e1, h1, h2⟩ := hf j _ (List.getElem?_eq_getElem hl)
      refine ⟨e1, by rw [Int.zero_add]; exact h1, ?_⟩
      rw [h2]
      simp [List.getElem?_eq_getElem hl]
  rw [h]
  congr 1
  apply List.ext_getElem?
  intro i
  unfold rngD
  rw [List.map_map, List.getElem?_map]
  by_cases hi : i < xs.length
  · rw [List.getElem?_range hi]
    have hl : i < xs.reverse.length := by simpa using hi
    simp [List.getElem?_eq_getElem hl]
  · rw [List.getElem?_eq_none (by simpa using hi), List.getElem?_eq_none (by simpa using hi)]
    rfl
/-! ### _law_of -/
def OkT (m dd : Nat) (t : T3) : Prop := t.2.1 ≤ m ∧ Fm t.2.2 (t.2.1 : Nat) ∧ t.2.2.depth ≤ dd
structure OI (v : Int) (m dd i : Nat) (acc : List T3) (rest : Int) : Prop where
  nf : Nf (acc.reverse.map tm)
  hd : ∀ t ∈ (acc.reverse.map tm).head?, t.2 + 1 ≤ i ∧ (t.2 + 1 = i → rest % 2 = 0)
  vl : val (acc.reverse.map tm) + rest * 2 ^ i = v
  tm : ∀ t ∈ acc, OkT m dd t
  sm : (i ≤ m ∧ -(2 ^ (m - i)) ≤ rest ∧ rest ≤ 2 ^ (m - i)) ∨ rest = 0
theorem tmap {acc : List T3} {s : Int} {p : Nat} {d : Rf.D} : acc.map tD ++ [.tuple [.int s, d]] = (acc ++ [(s, p, d)]).map tD := by simp [tD]
theorem half_sm {m i : Nat} {rest r2 : Int} (h : (i ≤ m ∧ -(2 ^ (m - i)) ≤ rest ∧ rest ≤ 2 ^ (m - i)) ∨ rest = 0) (h0 : rest ≠ 0) (hr : r2 = rest / 2 ∧ rest % 2 = 0 ∨ (r2 = (rest - 1) / 2 ∧ rest % 4 = 1) ∨ (r2 = (rest + 1) / 2 ∧ rest % 4 = 3)) : (i + 1 ≤ m ∧ -(2 ^ (m - (i + 1))) ≤ r2 ∧ r2 ≤ 2 ^ (m - (i + 1))) ∨ r2 = 0 := by
  rcases h with ⟨h1, h2, h3⟩ | h
  · by_cases e : i = m
    · subst e
      rw [Nat.sub_self, show (2 : Int) ^ 0 = 1 from rfl] at h2 h3
      right
      omega
    · left
      have e2 : m - i = m - (i + 1) + 1 := by omega
      rw [e2, two_add, show (2 : Int) ^ 1 = 2 from rfl] at h2 h3
      generalize (2 : Int) ^ (m - (i + 1)) = x at *
      refine ⟨by omega, ?_, ?_⟩ <;> omega
  · exact absurd h h0
theorem OI.even {v : Int} {m dd i : Nat} {acc : List T3} {rest : Int} (h : OI v m dd i acc rest) (h0 : rest ≠ 0) (he : rest % 2 = 0) : OI v m dd (i + 1) acc (rest / 2) := by
  refine ⟨h.nf, fun t ht => ?_, ?_, h.tm, half_sm h.sm h0 (.inl ⟨rfl, he⟩)⟩
  · have := h.hd t ht; exact ⟨by omega, fun z => by omega⟩
  · have := h.vl
    rw [two_add, show (2 : Int) ^ 1 = 2 from rfl, show (2 : Int) ^ i * 2 = 2 * 2 ^ i from Int.mul_comm .., ← Int.mul_assoc, show rest / 2 * 2 = rest by omega]
    exact this
theorem OI.odd {v : Int} {m dd i : Nat} {acc : List T3} {rest s : Int} {d : Rf.D} (h : OI v m dd i acc rest) (h0 : rest ≠ 0) (ho : rest % 2 = 1) (hs : s = 2 - rest % 4) (hd : OkT m dd (s, i, d)) : OI v m dd (i + 1) (acc ++ [(s, i, d)]) ((rest - s) / 2) := by
  have hs2 : s = 1 ∨ s = -1 := by omega
  refine ⟨?_, fun t ht => ?_, ?_, fun t ht => ?_, half_sm h.sm h0 (by omega)⟩
  · rw [List.reverse_append]
    refine ⟨hs2, fun u hu => ?_, h.nf⟩
    have := h.hd u hu
    by_cases e : u.2 + 1 = i
    · have := this.2 e; omega
    · show u.2 + 2 ≤ i
      have := this.1
      omega
  · rw [List.reverse_append] at ht
    have : t = (s, i) := by simpa [My.tm] using ht.symm
    subst this
    exact ⟨Nat.le_refl _, fun _ => by show (rest - s) / 2 % 2 = 0; omega⟩
  · have := h.vl
    rw [List.reverse_append]
    show s * 2 ^ i + val (acc.reverse.map My.tm) + (rest - s) / 2 * 2 ^ (i + 1) = v
    rw [two_add, show (2 : Int) ^ 1 = 2 from rfl, show (2 : Int) ^ i * 2 = 2 * 2 ^ i from Int.mul_comm .., ← Int.mul_assoc, show (rest - s) / 2 * 2 = rest - s by omega, Int.sub_mul]
    omega
  · rcases List.mem_append.mp ht with ht | ht
    · exact h.tm t ht
    · simp at ht; subst ht; exact hd
def JO (v : Int) (m dd : Nat) (i : Nat) (e : Sl) : Prop := ∃ (acc : List T3) (rest : Int) (s4 s5 : Slot), e = [.d (.int v), .ol (acc.map tD), .d (.int (i : Nat)), .d (.int rest), s4, s5] ∧ OI v m dd i acc rest ∧ acc.length ≤ i ∧ isOwn s4 = false
theorem of_run {m dd : Nat} (hm : m ≤ 3000) {v : Int} (h1 : -(2 ^ m) ≤ v) (h2 : v ≤ 2 ^ m) (ih : v ≠ 0 → ∀ p : Nat, p ≤ m → ∃ d, Φ 16 [.int (p : Nat)] = .ok d ∧ Fm d (p : Nat) ∧ d.depth ≤ dd) :
    ∃ x, Fdef.run ⟨1, 6, b16⟩ Φ F [.int v] = .ok x ∧ (Fm x v ∧ x.depth ≤ dd + 2) := by
  refine run_of rfl ?_
  have fin : ∀ (acc : List T3) (i : Nat) (s2 s4 s5 : Slot), OI v m dd i acc 0 → acc.length ≤ 3100 → isOwn s4 = false → Is (Ret fun x => Fm x v ∧ x.depth ≤ dd + 2) (Rf.execs Φ F (b16.drop 4) [.d (.int v), .ol (acc.map tD), s2, .d (.int 0), s4, s5]) := fun acc i s2 s4 s5 h hl ho => by
    have sr := srcK_rn (n := acc.length) (by omega)
    have hcomp : compK Φ x16_2 (.nm 4) [] [.d (.int v), .ol (acc.map tD), s2, .d (.int 0), s4, s5] (rngD 0 acc.length) = .ok (.list (acc.map tD).reverse) := by
      have := rev_comp (f := ev Φ x16_2) (g := evt Φ []) (t := .nm 4) (e := wipeS [.d (.int v), .ol (acc.map tD), s2, .d (.int 0), s4, s5] (Tgt.nm 4).ix) (xs := acc.map tD) (fun e => et_nil) fun j y hy => by
        refine ⟨_, rfl, ?_⟩
        have hj : j < acc.length := by
          have := (List.getElem?_eq_some_iff.mp hy).1
          simpa using this
        rw [List.getElem?_reverse (by simpa using hj)] at hy
        have ix : idxK (.list (acc.map tD)) (.int ((acc.length : Int) - 1 - (j : Int))) = .ok y := by
          have e : idxD (.list (acc.map tD)) (.int ((acc.length : Int) - 1 - (j : Int))) = some y := by
            show L2.atI _ _ = _
            refine atI_at (by omega) ?_
            rw [show ((acc.length : Int) - 1 - (j : Int)).toNat = (acc.map tD).length - 1 - j by rw [List.length_map]; omega]
            exact hy
          rw [idxK, e]; rfl
        simp [x16_2, wipeS, Tgt.ix, ix]
      rw [List.length_map] at this
      unfold compK
      rw [this]
      have hz : decide ((rngD 0 acc.length).length ≤ line) = true := decide_eq_true (by rw [rng_len]; unfold line; omega)
      have hf : Rf.freeOf [.d (.int v), .ol (acc.map tD), s2, .d (.int 0), s4, s5] (Tgt.nm 4).ix = true := by
        simp [Rf.freeOf, Tgt.ix, ho]
      rw [hz, hf]
      rfl
    have hF : Fm (.tuple (acc.map tD).reverse) v := by
      have := Fm.mk acc.reverse h.nf fun t ht => (h.tm t (List.mem_reverse.mp ht)).2.1
      have hv := h.vl
      rw [Int.zero_mul, Int.add_zero] at hv
      rw [hv] at this
      rw [← List.map_reverse]
      exact this
    have hD : (PyData.tuple (acc.map tD).reverse).depth ≤ dd + 2 := by
      have := dep_le (ts := acc.reverse) (n := dd) fun t ht => (h.tm t (List.mem_reverse.mp ht)).2.2
      rw [List.map_reverse] at this
      simp only [PyData.depth]
      omega
    simp only [b16, List.drop_succ_cons, List.drop_zero]
    simp [sr, hcomp]
    exact ⟨hF, hD⟩
  have hs := srcK_rn (n := 3100) (by decide)
  have hs : srcK .rng [.int 3100] = .ok (rngD 0 3100) := hs
  have e5 : Rf.execs Φ F b16 [.d (.int v), .un, .un, .un, .un, .un] = (forL (Rf.execs Φ F b16_1) (.nm 4) (rngD 0 3100) [.d (.int v), .ol [], .d (.int 0), .d (.int v), .un, .un]).seq (Rf.execs Φ F (b16.drop 4)) := by
    simp only [b16, List.drop_succ_cons, List.drop_zero]
    simp [hs]
  show Is _ (Rf.execs Φ F b16 [.d (.int v), .un, .un, .un, .un, .un])
  rw [e5]
  refine Is.for (fun i e => JO v m dd i e) ⟨[], v, .un, .un, rfl, ⟨trivial, fun t ht => by simp at ht, by simp [val], fun t ht => by simp at ht, .inl ⟨Nat.zero_le _, h1, h2⟩⟩, Nat.le_refl _, rfl⟩ ?_ ?_
  · rintro i x e hx ⟨acc, rest, s4, s5, rfl, h, hl, ho⟩
    obtain ⟨hi, rfl⟩ := rng_get hx
    rw [Int.zero_add]
    simp only [turnB, bindT, List.length_cons, List.length_nil, Nat.reduceAdd, Nat.reduceLT, if_true, List.set_cons_succ, List.set_cons_zero]
    by_cases h0 : rest = 0
    · subst h0
      have hb : Rf.execs Φ F b16_1 [.d (.int v), .ol (acc.map tD), .d (.int (i : Nat)), .d (.int 0), .d (.int (i : Nat)), s5] = .bk [.d (.int v), .ol (acc.map tD), .d (.int (i : Nat)), .d (.int 0), .d (.int (i : Nat)), s5] := by
        simp [b16_1]
      rw [hb, Turn_bk]
      exact fin acc i _ _ _ h (by omega) rfl
    · have hm2 : i ≤ m := by
        rcases h.sm with q | q
        · exact q.1
        · exact absurd q h0
      have hz : acc.length < line := by unfold line; omega
      by_cases hp : rest % 2 = 1
      · have hv0 : v ≠ 0 := fun z => by
          subst z
          have hv := h.vl
          have : 0 < i ∨ i = 0 := by omega
          have nn : ∀ (l : List Tm), Nf l → val l + rest * 2 ^ i = 0 → (∀ t ∈ l.head?, t.2 + 1 ≤ i) → False := fun l nl e hh => by
            have p := two_pos i
            cases l with
            | nil =>
              simp only [val, Int.zero_add] at e
              rcases Int.mul_eq_zero.mp e with e | e
              · exact h0 e
              · omega
            | cons t r =>
              have b := bnd nl
              have le := two_lt (n := t.2) (k := i) (by have := hh t rfl; omega)
              have p2 := two_pos t.2
              have ee : val (t :: r) = -(rest * 2 ^ i) := by omega
              rw [ee] at b
              have r1 : rest ≤ -1 ∨ 1 ≤ rest := by omega
              have big : 2 ^ i ≤ rest * 2 ^ i ∨ rest * 2 ^ i ≤ -(2 ^ i) := by
                rcases r1 with r1 | r1
                · right
                  have := Int.mul_le_mul_of_nonneg_right r1 (Int.le_of_lt p)
                  omega
                · left
                  have := Int.mul_le_mul_of_nonneg_right r1 (Int.le_of_lt p)
                  omega
              generalize rest * 2 ^ i = z at *
              generalize (2 : Int) ^ i = x at *
              generalize (2 : Int) ^ t.2 = y at *
              rcases nl.1 with e1 | e1 <;> rw [e1] at b <;> omega
          exact nn _ h.nf hv fun t ht => (h.hd t ht).1
        obtain ⟨d, c1, c2, c3⟩ := ih hv0 i hm2
        have ok : OkT m dd (2 - rest % 4, i, d) := ⟨hm2, c2, c3⟩
        have h' := h.odd h0 hp rfl ok
        have hb : Rf.execs Φ F b16_1 [.d (.int v), .ol (acc.map tD), .d (.int (i : Nat)), .d (.int rest), .d (.int (i : Nat)), s5] = .nx [.d (.int v), .ol ((acc ++ [(2 - rest % 4, i, d)]).map tD), .d (.int ((i + 1 : Nat) : Int)), .d (.int ((rest - (2 - rest % 4)) / 2)), .d (.int (i : Nat)), .d (.int (2 - rest % 4))] := by
          rw [← tmap]
          simp [b16_1, h0, hp, c1, hz]
        rw [hb, Turn_nx]
        exact ⟨_, _, _, _, rfl, h', by simp; omega, rfl⟩
      · have he : rest % 2 = 0 := by omega
        have h' := h.even h0 he
        have hb : Rf.execs Φ F b16_1 [.d (.int v), .ol (acc.map tD), .d (.int (i : Nat)), .d (.int rest), .d (.int (i : Nat)), s5] = .nx [.d (.int v), .ol (acc.map tD), .d (.int ((i + 1 : Nat) : Int)), .d (.int (rest / 2)), .d (.int (i : Nat)), s5] := by
          simp [b16_1, h0, he]
        rw [hb, Turn_nx]
        exact ⟨_, _, _, _, rfl, h', by omega, rfl⟩
  · rintro e ⟨acc, rest, s4, s5, rfl, h, hl, ho⟩
    rw [rng_len] at h hl
    have : rest = 0 := by
      rcases h.sm with q | q
      · omega
      · exact q
    subst this
    exact fin acc 3100 _ _ _ h hl ho
def lev : Nat → Nat
  | 0 => 0
  | 1 => 0
  | 2 => 1
  | 3 => 2
  | 4 => 4
  | 5 => 16
  | _ => 3000
theorem of_ok : ∀ (n : Nat) {v : Int}, n ≤ 6 → (n = 0 → v = 0) → -(2 ^ lev n) ≤ v → v ≤ 2 ^ lev n → ∀ k, ∃ x, phi TB F (n + k + 1) 16 [.int v] = .ok x ∧ Fm x v ∧ x.depth ≤ 2 * n + 1
  | 0, v, _, hz, h1, h2, k => by
    obtain ⟨x, r, hx⟩ := of_run (Φ := phi TB F (0 + k)) (F := F) (m := 0) (dd := 0) (v := v) (by decide) h1 h2 fun z => absurd (hz rfl) z
    have hv := hz rfl
    subst hv
    have : x = .tuple [] := by
      have := Fm.mk [] trivial fun t ht => by simp at ht
      exact hx.1.uniq _ this
    refine ⟨x, (phi_succ rfl).trans r, hx.1, ?_⟩
    rw [this]
    decide
  | n + 1, v, hn, _, h1, h2, k => by
    obtain ⟨x, r, hx⟩ := of_run (Φ := phi TB F (n + 1 + k)) (F := F) (m := lev (n + 1)) (dd := 2 * n + 1) (v := v) (by
      match n, hn with
      | 0, _ => decide
      | 1, _ => decide
      | 2, _ => decide
      | 3, _ => decide
      | 4, _ => decide
      | 5, _ => decide) h1 h2 fun _ p hp => by
        have key : (n = 0 → p = 0) ∧ (p : Int) ≤ 2 ^ lev n := by
          match n, hn with
          | 0, _ => exact ⟨fun _ => by simpa [lev] using hp, by simp [lev] at hp ⊢; omega⟩
          | 1, _ => exact ⟨fun z => by omega, by simp [lev] at hp ⊢; omega⟩
          | 2, _ => exact ⟨fun z => by omega, by simp [lev] at hp ⊢; omega⟩
          | 3, _ => exact ⟨fun z => by omega, by simp [lev] at hp ⊢; omega⟩
          | 4, _ => exact ⟨fun z => by omega, by simp [lev] at hp ⊢; omega⟩
          | 5, _ => exact ⟨fun z => by omega, by simp [lev] at hp ⊢; omega⟩
        have pos := two_pos (lev n)
        obtain ⟨d, d1, d2, d3⟩ := of_ok n (v := (p : Int)) (by omega) (fun z => by rw [key.1 z]; rfl) (by omega) key.2 k
        refine ⟨d, ?_, d2, d3⟩
        rw [show n + 1 + k = n + k + 1 by omega]
        exact d1
    exact ⟨x, (phi_succ rfl).trans r, hx.1, by omega⟩
end
end My

set_option Elab.async false
set_option linter.all false
set_option maxRecDepth 100000
set_option maxHeartbeats 4000000
namespace My
open PySem PySem.Spec PyProof.Rows L2 Rf
/-! ### counts of exponents -/
abbrev Ct := Nat × Int
def dv : List Ct → Int
  | [] => 0
  | w :: r => w.2 * 2 ^ w.1 + dv r
def rep (L : List Ct) : List (Rf.D × Rf.D) := L.map fun w => (.int (w.1 : Nat), .int w.2)
def insP (x : Ct) : List Ct → List Ct
  | [] => [x]
  | y :: r => if x.1 ≤ y.1 then x :: y :: r else y :: insP x r
def sortP : List Ct → List Ct
  | [] => []
  | x :: r => insP x (sortP r)
theorem insP_keys {x : Ct} : ∀ {l : List Ct}, (insP x l).map (fun w => (w.1 : Int)) = insI (x.1 : Int) (l.map fun w => (w.1 : Int))
  | [] => rfl
  | y :: r => by
    simp only [insP, List.map_cons, insI]
    by_cases h : x.1 ≤ y.1
    · rw [if_pos h, if_pos (by omega)]; rfl
    · rw [if_neg h, if_neg (by omega)]; simp only [List.map_cons, insP_keys]
theorem sortP_keys : ∀ {l : List Ct}, (sortP l).map (fun w => (w.1 : Int)) = sortI (l.map fun w => (w.1 : Int))
  | [] => rfl
  | x :: r => by simp only [sortP, List.map_cons, sortI, insP_keys, sortP_keys]
theorem insP_dv {x : Ct} : ∀ {l : List Ct}, dv (insP x l) = x.2 * 2 ^ x.1 + dv l
  | [] => rfl
  | y :: r => by
    simp only [insP]
    by_cases h : x.1 ≤ y.1
    · rw [if_pos h]; rfl
    · rw [if_neg h]; simp only [dv, insP_dv]; omega
theorem sortP_dv : ∀ {l : List Ct}, dv (sortP l) = dv l
  | [] => rfl
  | x :: r => by simp only [sortP, insP_dv, sortP_dv, dv]
theorem insP_mem {x z : Ct} : ∀ {l : List Ct}, z ∈ insP x l ↔ z = x ∨ z ∈ l
  | [] => by simp [insP]
  | y :: r => by
    simp only [insP]
    by_cases h : x.1 ≤ y.1
    · rw [if_pos h]; simp
    · rw [if_neg h, List.mem_cons, insP_mem, List.mem_cons]
      constructor
      · rintro (h | h | h)
        · exact .inr (.inl h)
        · exact .inl h
        · exact .inr (.inr h)
      · rintro (h | h | h)
        · exact .inr (.inl h)
        · exact .inl h
        · exact .inr (.inr h)
theorem sortP_mem {z : Ct} : ∀ {l : List Ct}, z ∈ sortP l ↔ z ∈ l
  | [] => by simp [sortP]
  | x :: r => by simp only [sortP, insP_mem, sortP_mem, List.mem_cons]
theorem insP_len {x : Ct} : ∀ {l : List Ct}, (insP x l).length = l.length + 1
  | [] => rfl
  | y :: r => by
    simp only [insP]
    by_cases h : x.1 ≤ y.1
    · rw [if_pos h]; rfl
    · rw [if_neg h]; simp only [List.length_cons, insP_len]
theorem sortP_len : ∀ {l : List Ct}, (sortP l).length = l.length
  | [] => rfl
  | x :: r => by simp only [sortP, insP_len, sortP_len, List.length_cons]
def Asc (l : List Ct) : Prop := l.Pairwise fun a b => a.1 < b.1
def Nd (l : List Ct) : Prop := l.Pairwise fun a b => a.1 ≠ b.1
theorem insP_asc {x : Ct} : ∀ {l : List Ct}, Asc l → (∀ y ∈ l, x.1 ≠ y.1) → Asc (insP x l)
  | [], _, _ => by simp [insP, Asc]
  | y :: r, h, hn => by
    simp only [insP]
    unfold Asc at h
    rw [List.pairwise_cons] at h
    have hxy := hn y (List.mem_cons_self ..)
    by_cases hh : x.1 ≤ y.1
    · rw [if_pos hh]
      unfold Asc
      rw [List.pairwise_cons]
      refine ⟨fun z hz => ?_, by rw [List.pairwise_cons]; exact h⟩
      rcases List.mem_cons.mp hz with rfl | hz
      · omega
      · have := h.1 z hz; omega
    · rw [if_neg hh]
      unfold Asc
      rw [List.pairwise_cons]
      refine ⟨fun z hz => ?_, insP_asc h.2 fun z hz => hn z (List.mem_cons_of_mem _ hz)⟩
      rcases insP_mem.mp hz with rfl | hz
      · omega
      · exact h.1 z hz
theorem sortP_asc : ∀ {l : List Ct}, Nd l → Asc (sortP l)
  | [], _ => by simp [sortP, Asc]
  | x :: r, h => by
    unfold Nd at h
    rw [List.pairwise_cons] at h
    exact insP_asc (sortP_asc h.2) fun y hy => h.1 y (sortP_mem.mp hy)
theorem look_rep : ∀ {L : List Ct}, Nd L → ∀ {w : Ct}, w ∈ L → lookD (rep L) (.int (w.1 : Nat)) = some (.int w.2)
  | x :: r, h, w, hw => by
    unfold Nd at h
    rw [List.pairwise_cons] at h
    rcases List.mem_cons.mp hw with rfl | hw
    · simp [lookD, rep, PyData.eqv]
    · have ne := h.1 w hw
      have ih := look_rep h.2 hw
      unfold lookD at ih ⊢
      unfold rep at ih ⊢
      rw [List.map_cons, List.find?_cons]
      have : PyData.eqv (.int (x.1 : Nat)) (.int (w.1 : Nat)) = false := by
        simp only [PyData.eqv, beq_eq_false_iff_ne, ne_eq]
        omega
      simp only [this]
      exact ih
theorem dv_drop {W : List Ct} {i : Nat} {w : Ct} (h : W[i]? = some w) : dv (W.drop i) = w.2 * 2 ^ w.1 + dv (W.drop (i + 1)) := by
  obtain ⟨hl, e⟩ := List.getElem?_eq_some_iff.mp h
  rw [List.drop_eq_getElem_cons hl, e]
  rfl
theorem asc_get {W : List Ct} (h : Asc W) {i : Nat} {a b : Ct} (ha : W[i]? = some a) (hb : W[i + 1]? = some b) : a.1 < b.1 := by
  obtain ⟨h1, e1⟩ := List.getElem?_eq_some_iff.mp ha
  obtain ⟨h2, e2⟩ := List.getElem?_eq_some_iff.mp hb
  have := List.pairwise_iff_getElem.mp h i (i + 1) h1 h2 (by omega)
  rw [e1, e2] at this
  exact this
/-! ### the walk of _law_rows -/
structure RI (T : Int) (W : List Ct) (B Kx i : Nat) (at_ ex : Nat) (cnt : Int) (acc : List Tm) : Prop where
  le : at_ ≤ W.length
  nf : Nf acc.reverse
  hd : ∀ t ∈ acc.reverse.head?, t.2 + 1 ≤ ex ∧ (t.2 + 1 = ex → (cnt + (match W[at_]? with | some w => if w.1 = ex then w.2 else 0 | none => 0)) % 2 = 0)
  vl : val acc.reverse + cnt * 2 ^ ex + dv (W.drop at_) = T
  ge : ∀ w ∈ W[at_]?, ex ≤ w.1
  cb : cnt.natAbs ≤ B + 1
  xb : ex ≤ Kx + i
  tb : ∀ t ∈ acc, t.2 ≤ Kx + 9000
  ln : acc.length ≤ i
def flag (W : List Ct) (at_ ex : Nat) : Nat := match W[at_]? with | some w => if w.1 = ex then 0 else 1 | none => 1
def muR (W : List Ct) (B at_ ex : Nat) (cnt : Int) : Nat := 2 * (B + 3) * (W.length - at_) + 2 * cnt.natAbs + flag W at_ ex
structure MI (T : Int) (W : List Ct) (B Kx i : Nat) (m0 : Nat) (at_ ex : Nat) (cnt : Int) (acc : List Tm) : Prop where
  le : at_ ≤ W.length
  nf : Nf acc.reverse
  hd : ∀ t ∈ acc.reverse.head?, t.2 + 1 ≤ ex ∧ (cnt % 2 = 1 → t.2 + 2 ≤ ex)
  vl : val acc.reverse + cnt * 2 ^ ex + dv (W.drop at_) = T
  gt : ∀ w ∈ W[at_]?, ex < w.1
  cb : cnt.natAbs ≤ 2 * B + 1
  xb : ex ≤ Kx + i
  tb : ∀ t ∈ acc, t.2 ≤ Kx + 9000
  ln : acc.length ≤ i
  m : (2 * (B + 3) * (W.length - at_) + 2 * (B + 3) ≤ m0) ∨ (cnt ≠ 0 ∧ cnt.natAbs ≤ B + 1 ∧ m0 = 2 * (B + 3) * (W.length - at_) + 2 * cnt.natAbs + 1)
section
variable {T : Int} {W : List Ct} {B Kx i : Nat} {at_ ex : Nat} {cnt : Int} {acc : List Tm}
theorem RI.take (h : RI T W B Kx i at_ ex cnt acc) (asc : Asc W) (hB : ∀ w ∈ W, w.2.natAbs ≤ B ∧ w.1 ≤ Kx) {w : Ct} (hw : W[at_]? = some w) (hc : cnt = 0 ∨ w.1 = ex) : MI T W B Kx i (muR W B at_ ex cnt) (at_ + 1) w.1 (cnt + w.2) acc := by
  obtain ⟨hl, e⟩ := List.getElem?_eq_some_iff.mp hw
  have hm : w ∈ W := by rw [← e]; exact List.getElem_mem hl
  obtain ⟨b1, b13⟩ := hB w hm
  have g := h.ge w hw
  refine ⟨by omega, h.nf, fun t ht => ?_, ?_, fun u hu => asc_get asc hw hu, ?_, by omega, h.tb, h.ln, .inl ?_⟩
  · have := h.hd t ht
    rw [hw] at this
    simp only [] at this
    by_cases e2 : w.1 = ex
    · rw [if_pos e2] at this
      refine ⟨by omega, fun z => ?_⟩
      by_cases e3 : t.2 + 1 = ex
      · have := this.2 e3; omega
      · omega
    · exact ⟨by omega, fun _ => by omega⟩
  · have v := h.vl
    rw [dv_drop hw] at v
    rw [Int.add_mul]
    rcases hc with hc | hc
    · subst hc; rw [Int.zero_mul] at v ⊢; omega
    · rw [← hc] at v; omega
  · have := h.cb; omega
  · unfold muR
    have e5 : W.length - at_ = W.length - (at_ + 1) + 1 := by omega
    have : 2 * (B + 3) * (W.length - at_) = 2 * (B + 3) * (W.length - (at_ + 1)) + 2 * (B + 3) := by rw [e5, Nat.mul_add (2 * (B + 3)) (W.length - (at_ + 1)) 1, Nat.mul_one]
    rw [this]
    omega
theorem RI.stay (h : RI T W B Kx i at_ ex cnt acc) (hc : cnt ≠ 0) (hw : ∀ w ∈ W[at_]?, w.1 ≠ ex) : MI T W B Kx i (muR W B at_ ex cnt) at_ ex cnt acc := by
  have hf : flag W at_ ex = 1 := by
    unfold flag
    cases q : W[at_]? with
    | none => rfl
    | some w => simp only []; rw [if_neg (hw w q)]
  refine ⟨h.le, h.nf, fun t ht => ?_, h.vl, fun w hh => ?_, by have := h.cb; omega, h.xb, h.tb, h.ln, .inr ⟨hc, h.cb, by unfold muR; rw [hf]⟩⟩
  · have := h.hd t ht
    have hn : (match W[at_]? with | some w => if w.1 = ex then w.2 else 0 | none => 0) = 0 := by
      cases q : W[at_]? with
      | none => rfl
      | some w => simp only []; rw [if_neg (hw w q)]
    rw [hn] at this
    refine ⟨this.1, fun z => ?_⟩
    by_cases e3 : t.2 + 1 = ex
    · have := this.2 e3; omega
    · omega
  · have := h.ge w hh
    have := hw w hh
    omega
theorem muR_le (B at_ ex : Nat) (cnt : Int) (W : List Ct) : muR W B at_ ex cnt ≤ 2 * (B + 3) * (W.length - at_) + 2 * cnt.natAbs + 1 := by
  unfold muR flag
  split
  · split <;> omega
  · omega
theorem MI.even {m0 : Nat} (h : MI T W B Kx i m0 at_ ex cnt acc) (he : cnt % 2 = 0) : RI T W B Kx (i + 1) at_ (ex + 1) (cnt / 2) acc ∧ muR W B at_ (ex + 1) (cnt / 2) < m0 := by
  refine ⟨⟨h.le, h.nf, fun t ht => ?_, ?_, fun w hw => by have := h.gt w hw; omega, by have := h.cb; omega, by have := h.xb; omega, h.tb, by have := h.ln; omega⟩, ?_⟩
  · have := (h.hd t ht).1
    exact ⟨by omega, fun z => by omega⟩
  · have v := h.vl
    rw [two_add, show (2 : Int) ^ 1 = 2 from rfl, show (2 : Int) ^ ex * 2 = 2 * 2 ^ ex from Int.mul_comm .., ← Int.mul_assoc, show cnt / 2 * 2 = cnt by omega]
    exact v
  · have := muR_le B at_ (ex + 1) (cnt / 2) W
    have cb := h.cb
    rcases h.m with m | ⟨m1, m2, m3⟩ <;> omega
theorem MI.odd {m0 : Nat} (h : MI T W B Kx i m0 at_ ex cnt acc) (hi : i < 9000) (ho : cnt % 2 = 1) {more s : Int} (hmore : more = match W[at_]? with | some w => if w.1 = ex + 1 then w.2 else 0 | none => 0) (hs : s = 2 - (cnt + 2 * more) % 4) :
    RI T W B Kx (i + 1) at_ (ex + 1) ((cnt - s) / 2) (acc ++ [(s, ex)]) ∧ muR W B at_ (ex + 1) ((cnt - s) / 2) < m0 := by
  have hs2 : s = 1 ∨ s = -1 := by omega
  refine ⟨⟨h.le, ?_, fun t ht => ?_, ?_, fun w hw => by have := h.gt w hw; omega, by have := h.cb; omega, by have := h.xb; omega, fun t ht => ?_, by have := h.ln; simp; omega⟩, ?_⟩
  · rw [List.reverse_append]
    exact ⟨hs2, fun u hu => (h.hd u hu).2 ho, h.nf⟩
  · rw [List.reverse_append] at ht
    have : t = (s, ex) := by simpa using ht.symm
    subst this
    refine ⟨Nat.le_refl _, fun _ => ?_⟩
    rw [← hmore]
    omega
  · have v := h.vl
    rw [List.reverse_append]
    show s * 2 ^ ex + val acc.reverse + (cnt - s) / 2 * 2 ^ (ex + 1) + dv (W.drop at_) = T
    rw [two_add, show (2 : Int) ^ 1 = 2 from rfl, show (2 : Int) ^ ex * 2 = 2 * 2 ^ ex from Int.mul_comm .., ← Int.mul_assoc, show (cnt - s) / 2 * 2 = cnt - s by omega, Int.sub_mul]
    omega
  · rcases List.mem_append.mp ht with ht | ht
    · exact h.tb t ht
    · simp at ht; subst ht
      have := h.xb
      show ex ≤ _
      omega
  · have ml := muR_le B at_ (ex + 1) ((cnt - s) / 2) W
    have cb := h.cb
    rcases h.m with m | ⟨m1, m2, m3⟩
    · omega
    · by_cases e : cnt.natAbs = 1
      · by_cases e0 : (cnt - s) / 2 = 0
        · rw [e0] at ml ⊢
          omega
        · -- more is not 0: the flag falls
          have hm : more ≠ 0 := fun z => by subst z; omega
          have hf : flag W at_ (ex + 1) = 0 := by
            unfold flag
            cases q : W[at_]? with
            | none => rw [q] at hmore; exact absurd hmore hm
            | some w =>
              rw [q] at hmore
              simp only [] at hmore ⊢
              by_cases e5 : w.1 = ex + 1
              · rw [if_pos e5]
              · rw [if_neg e5] at hmore; exact absurd hmore hm
          unfold muR
          rw [hf]
          omega
      · omega
end
end My

set_option Elab.async false
set_option linter.all false
set_option maxRecDepth 100000
set_option maxHeartbeats 4000000
namespace My
open PySem PySem.Spec PyProof.Rows L2 Rf
section
variable {Φ : FT} {F : Nat}
def rD (t : Tm) : Rf.D := .tuple [.int t.1, .int (t.2 : Nat)]
abbrev kD (W : List Ct) : List Rf.D := W.map fun w => .int (w.1 : Nat)
abbrev st21 (L W : List Ct) (acc : List Tm) (cnt : Int) (ex at_ : Nat) (s6 s7 s8 : Slot) : Sl := [.d (.dict (rep L)), .d (.list (kD W)), .ol (acc.map rD), .d (.int cnt), .d (.int (ex : Nat)), .d (.int (at_ : Nat)), s6, s7, s8]
theorem idx_k {W : List Ct} {i : Nat} {w : Ct} (h : W[i]? = some w) : idxK (.list (kD W)) (.int (i : Nat)) = .ok (.int (w.1 : Nat)) := by
  have e : idxD (.list (kD W)) (.int (i : Nat)) = some (.int (w.1 : Nat)) := by
    show L2.atI _ _ = _
    refine atI_at (by omega) ?_
    rw [List.getElem?_map]
    simp [h]
  rw [idxK, e]; rfl
theorem idx_d {L : List Ct} (nd : Nd L) {w : Ct} (h : w ∈ L) : idxK (.dict (rep L)) (.int (w.1 : Nat)) = .ok (.int w.2) := by
  have e : idxD (.dict (rep L)) (.int (w.1 : Nat)) = some (.int w.2) := by
    show (if (keyD (.int (w.1 : Nat))).isSome then lookD (rep L) (.int (w.1 : Nat)) else none) = _
    rw [if_pos (show (keyD (PyData.int (w.1 : Nat))).isSome = true from rfl), look_rep nd h]
  rw [idxK, e]; rfl
abbrev A8 : List Stm := b22_1.take 2
abbrev B8 : List Stm := b22_1.drop 2
theorem b1111 : b22_1 = A8 ++ B8 := rfl
theorem execs_app : ∀ {a b : List Stm} {e : Sl}, Rf.execs Φ F (a ++ b) e = (Rf.execs Φ F a e).seq (Rf.execs Φ F b)
  | [], b, e => by simp
  | s :: a, b, e => by
    rw [List.cons_append, x_cons, x_cons]
    cases Rf.exec Φ F s e with
    | nx e' => simp [execs_app (a := a)]
    | _ => rfl
variable {T : Int} {L W : List Ct} {B Kx i : Nat} {at_ ex : Nat} {cnt : Int} {acc : List Tm} {s6 s7 s8 : Slot}
theorem stA (h : RI T W B Kx i at_ ex cnt acc) (asc : Asc W) (hB : ∀ w ∈ W, w.2.natAbs ≤ B ∧ w.1 ≤ Kx) (nd : Nd L) (hm : ∀ w ∈ W, w ∈ L) :
    (at_ = W.length ∧ cnt = 0 ∧ Rf.execs Φ F A8 (st21 L W acc cnt ex at_ s6 s7 s8) = .bk (st21 L W acc cnt ex at_ s6 s7 s8)) ∨
    ∃ (at1 ex1 : Nat) (cnt1 : Int), Rf.execs Φ F A8 (st21 L W acc cnt ex at_ s6 s7 s8) = .nx (st21 L W acc cnt1 ex1 at1 s6 s7 s8) ∧ MI T W B Kx i (muR W B at_ ex cnt) at1 ex1 cnt1 acc := by
  by_cases hl : at_ = W.length
  · by_cases hc : cnt = 0
    · subst hc
      refine .inl ⟨hl, rfl, ?_⟩
      simp [A8, B8, st21, b22_1, hl]
    · refine .inr ⟨at_, ex, cnt, ?_, h.stay hc fun w hw => ?_⟩
      · simp [A8, B8, st21, b22_1, hl, hc]
      · rw [List.getElem?_eq_none (by omega)] at hw
        simp at hw
  · have le := h.le
    have hlt : at_ < W.length := by omega
    obtain ⟨w, hw⟩ : ∃ w, W[at_]? = some w := ⟨_, List.getElem?_eq_getElem hlt⟩
    have ix := idx_k hw
    have dx := idx_d nd (hm w (by
      obtain ⟨h1, h2⟩ := List.getElem?_eq_some_iff.mp hw
      rw [← h2]; exact List.getElem_mem h1))
    have hlt2 : (at_ : Int) < (W.length : Int) := by omega
    have hl3 : ¬ (at_ : Int) = (W.length : Int) := by omega
    by_cases hc : cnt = 0
    · refine .inr ⟨at_ + 1, w.1, cnt + w.2, ?_, h.take asc hB hw (.inl hc)⟩
      subst hc
      simp [A8, B8, st21, b22_1, hl, hl3, hlt, hlt2, ix, dx]
    · by_cases he : w.1 = ex
      · refine .inr ⟨at_ + 1, w.1, cnt + w.2, ?_, h.take asc hB hw (.inr he)⟩
        subst he
        simp [A8, B8, st21, b22_1, hl, hl3, hlt, hlt2, ix, dx, hc]
      · refine .inr ⟨at_, ex, cnt, ?_, h.stay hc fun u hu => ?_⟩
        · simp [A8, B8, st21, b22_1, hl, hl3, hlt, hlt2, ix, dx, hc, he, show ¬ ((w.1 : Nat) : Int) = (ex : Int) by omega]
        · have hu : W[at_]? = some u := hu
          rw [hw] at hu; cases hu; exact he
theorem rmap {acc : List Tm} {s : Int} {p : Nat} : acc.map rD ++ [.tuple [.int s, .int (p : Nat)]] = (acc ++ [(s, p)]).map rD := by simp [rD]
theorem stB {m0 : Nat} (h : MI T W B Kx i m0 at_ ex cnt acc) (hi : i < 9000) (nd : Nd L) (hm : ∀ w ∈ W, w ∈ L) :
    ∃ (cnt1 : Int) (acc1 : List Tm) (s7' s8' : Slot), Rf.execs Φ F B8 (st21 L W acc cnt ex at_ s6 s7 s8) = .nx (st21 L W acc1 cnt1 (ex + 1) at_ s6 s7' s8') ∧ RI T W B Kx (i + 1) at_ (ex + 1) cnt1 acc1 ∧ muR W B at_ (ex + 1) cnt1 < m0 := by
  by_cases ho : cnt % 2 = 1
  · have hz : acc.length < line := by have := h.ln; unfold line; omega
    obtain ⟨more, hmore⟩ : ∃ more : Int, more = (match W[at_]? with | some w => if w.1 = ex + 1 then w.2 else 0 | none => 0) := ⟨_, rfl⟩
    obtain ⟨r1, r2⟩ := h.odd hi ho hmore rfl
    refine ⟨_, _, .d (.int more), .d (.int (2 - (cnt + 2 * more) % 4)), ?_, r1, r2⟩
    unfold st21
    rw [← rmap]
    have le := h.le
    by_cases hl : at_ < W.length
    · obtain ⟨w, hw⟩ : ∃ w, W[at_]? = some w := ⟨_, List.getElem?_eq_getElem hl⟩
      have ix := idx_k hw
      have dx := idx_d nd (hm w (by
        obtain ⟨h1, h2⟩ := List.getElem?_eq_some_iff.mp hw
        rw [← h2]; exact List.getElem_mem h1))
      have hlt2 : (at_ : Int) < (W.length : Int) := by omega
      rw [hw] at hmore
      simp only [] at hmore
      by_cases e : w.1 = ex + 1
      · rw [if_pos e] at hmore
        rw [← hmore] at dx
        have e2 : ((w.1 : Nat) : Int) = (ex : Int) + 1 := by omega
        rw [e2] at ix dx
        simp [A8, B8, st21, b22_1, ho, hl, hlt2, ix, dx, hz]
      · rw [if_neg e] at hmore
        subst hmore
        have e2 : ¬ ((w.1 : Nat) : Int) = (ex : Int) + 1 := by omega
        simp [A8, B8, st21, b22_1, ho, hl, hlt2, ix, e2, hz]
    · rw [List.getElem?_eq_none (by omega)] at hmore
      simp only [] at hmore
      subst hmore
      have hlt2 : ¬ (at_ : Int) < (W.length : Int) := by omega
      simp [A8, B8, st21, b22_1, ho, hl, hlt2, hz]
  · have he : cnt % 2 = 0 := by omega
    obtain ⟨r1, r2⟩ := h.even he
    refine ⟨_, _, s7, s8, ?_, r1, r2⟩
    simp [A8, B8, st21, b22_1, he]
def J8 (T : Int) (L W : List Ct) (B Kx : Nat) (i : Nat) (e : Sl) : Prop := ∃ (acc : List Tm) (cnt : Int) (ex at_ : Nat) (s6 s7 s8 : Slot), e = st21 L W acc cnt ex at_ s6 s7 s8 ∧ RI T W B Kx i at_ ex cnt acc ∧ muR W B at_ ex cnt + i < 9000 ∧ isOwn s6 = false
theorem sorted_rep {L : List Ct} (hl : L.length < 64) : bltK .sorted [.dict (rep L)] = .ok (.list (kD (sortP L))) := by
  have a : ∀ l : List Ct, allInts ((rep l).map (·.1)) = some (l.map fun w => (w.1 : Int)) := by
    intro l
    induction l with
    | nil => rfl
    | cons x r ih =>
      unfold rep at ih ⊢
      simp only [List.map_cons, allInts, ih, Option.map_some]
  have e : bltD .sorted [.dict (rep L)] = some (.list (kD (sortP L))) := by
    show (if (rep L).length < 64 then (allInts ((rep L).map (·.1))).map fun l => PyData.list ((sortI l).map .int) else none) = _
    rw [if_pos (by unfold rep; rw [List.length_map]; exact hl), a, Option.map_some, ← sortP_keys, List.map_map]
    rfl
  rw [bltK, e]; rfl
theorem rows_run {L : List Ct} (nd : Nd L) (hl : L.length ≤ 60) {B Kx : Nat} (hb : 2 * (B + 3) * L.length ≤ 8120) (hB : ∀ w ∈ L, w.2.natAbs ≤ B ∧ w.1 ≤ Kx) :
    ∃ x, Fdef.run ⟨1, 9, b22⟩ Φ F [.dict (rep L)] = .ok x ∧ ∃ l : List Tm, x = .list (l.map rD) ∧ Nf l ∧ val l = dv L ∧ l.length ≤ 9000 ∧ ∀ t ∈ l, t.2 ≤ Kx + 9000 := by
  refine run_of rfl ?_
  have asc := sortP_asc nd
  have hm : ∀ w ∈ sortP L, w ∈ L := fun w hw => sortP_mem.mp hw
  have hB' : ∀ w ∈ sortP L, w.2.natAbs ≤ B ∧ w.1 ≤ Kx := fun w hw => hB w (hm w hw)
  have hT : dv (sortP L) = dv L := sortP_dv
  have hlen : (sortP L).length ≤ 60 := by rw [sortP_len]; exact hl
  have hlq : (sortP L).length = L.length := sortP_len
  have so := sorted_rep (L := L) (by omega)
  generalize sortP L = W at *
  have fin : ∀ (acc : List Tm) (ex at_ i : Nat) (s6 s7 s8 : Slot), RI (dv L) W B Kx i at_ ex 0 acc → at_ = W.length → i ≤ 9000 → isOwn s6 = false → Is (Ret fun x => ∃ l : List Tm, x = .list (l.map rD) ∧ Nf l ∧ val l = dv L ∧ l.length ≤ 9000 ∧ ∀ t ∈ l, t.2 ≤ Kx + 9000) (Rf.execs Φ F (b22.drop 6) (st21 L W acc 0 ex at_ s6 s7 s8)) := fun acc ex at_ i s6 s7 s8 h he hi ho => by
    have ln := h.ln
    have sr := srcK_rn (n := acc.length) (by omega)
    have hcomp : compK Φ x22_2 (.nm 6) [] (st21 L W acc 0 ex at_ s6 s7 s8) (rngD 0 acc.length) = .ok (.list (acc.map rD).reverse) := by
      have := rev_comp (f := ev Φ x22_2) (g := evt Φ []) (t := .nm 6) (e := wipeS (st21 L W acc 0 ex at_ s6 s7 s8) (Tgt.nm 6).ix) (xs := acc.map rD) (fun e => et_nil) fun j y hy => by
        refine ⟨_, rfl, ?_⟩
        have hj : j < acc.length := by
          have := (List.getElem?_eq_some_iff.mp hy).1
          simpa using this
        rw [List.getElem?_reverse (by simpa using hj)] at hy
        have ix : idxK (.list (acc.map rD)) (.int ((acc.length : Int) - 1 - (j : Int))) = .ok y := by
          have e : idxD (.list (acc.map rD)) (.int ((acc.length : Int) - 1 - (j : Int))) = some y := by
            show L2.atI _ _ = _
            refine atI_at (by omega) ?_
            rw [show ((acc.length : Int) - 1 - (j : Int)).toNat = (acc.map rD).length - 1 - j by rw [List.length_map]; omega]
            exact hy
          rw [idxK, e]; rfl
        simp [x22_2, wipeS, Tgt.ix, ix]
      rw [List.length_map] at this
      unfold compK
      rw [this]
      have hz : decide ((rngD 0 acc.length).length ≤ line) = true := decide_eq_true (by rw [rng_len]; unfold line; omega)
      have hf : Rf.freeOf (st21 L W acc 0 ex at_ s6 s7 s8) (Tgt.nm 6).ix = true := by
        simp [Rf.freeOf, Tgt.ix, ho]
      rw [hz, hf]
      rfl
    have vl := h.vl
    rw [he, List.drop_length] at vl
    simp only [b22, List.drop_succ_cons, List.drop_zero]
    simp [sr, hcomp]
    refine ⟨acc.reverse, by rw [List.map_reverse], h.nf, ?_, by simp; omega, fun s e ht => h.tb _ (List.mem_reverse.mp ht)⟩
    rw [Int.zero_mul] at vl
    simp only [dv] at vl
    omega
  have hs : srcK .rng [.int 9000] = .ok (rngD 0 9000) := srcK_rn (n := 9000) (by decide)
  have e8 : Rf.execs Φ F b22 [.d (.dict (rep L)), .un, .un, .un, .un, .un, .un, .un, .un] = (forL (Rf.execs Φ F b22_1) (.nm 6) (rngD 0 9000) (st21 L W [] 0 0 0 .un .un .un)).seq (Rf.execs Φ F (b22.drop 6)) := by
    simp only [b22, List.drop_succ_cons, List.drop_zero]
    simp [so, hs]
    rfl
  show Is _ (Rf.execs Φ F b22 [.d (.dict (rep L)), .un, .un, .un, .un, .un, .un, .un, .un])
  rw [e8]
  refine Is.for (fun i e => J8 (dv L) L W B Kx i e) ⟨[], 0, 0, 0, .un, .un, .un, rfl, ⟨Nat.zero_le _, trivial, fun t ht => by simp at ht, by simp [val, hT], fun w hw => Nat.zero_le _, by simp, Nat.zero_le _, fun t ht => by simp at ht, Nat.le_refl _⟩, ?_, rfl⟩ ?_ ?_
  · have := muR_le B 0 0 0 W
    have h1 : 2 * (B + 3) * (W.length - 0) ≤ 8120 := by rw [Nat.sub_zero, hlq]; exact hb
    simp only [Int.natAbs_zero] at this
    omega
  · rintro i x e hx ⟨acc, cnt, ex, at_, s6, s7, s8, rfl, h, hmu, ho⟩
    obtain ⟨hi, rfl⟩ := rng_get hx
    rw [Int.zero_add]
    have hb : turnB (Rf.execs Φ F b22_1) (.nm 6) (.int (i : Nat)) (st21 L W acc cnt ex at_ s6 s7 s8) = Rf.execs Φ F b22_1 (st21 L W acc cnt ex at_ (.d (.int (i : Nat))) s7 s8) := rfl
    rw [hb, b1111, execs_app]
    rcases stA (Φ := Φ) (F := F) (s6 := .d (.int (i : Nat))) (s7 := s7) (s8 := s8) h asc hB' nd hm with ⟨c1, c2, c3⟩ | ⟨at1, ex1, cnt1, c1, c2⟩
    · rw [c3]
      simp only [Out.seq_bk, Turn_bk]
      subst c2
      exact fin acc ex at_ i _ _ _ h c1 (by omega) rfl
    · rw [c1, Out.seq_nx]
      obtain ⟨cnt2, acc2, s7', s8', d1, d2, d3⟩ := stB (Φ := Φ) (F := F) (s6 := .d (.int (i : Nat))) (s7 := s7) (s8 := s8) c2 hi nd hm
      rw [d1, Turn_nx]
      exact ⟨acc2, cnt2, ex1 + 1, at1, _, s7', s8', rfl, d2, by omega, rfl⟩
  · rintro e ⟨acc, cnt, ex, at_, s6, s7, s8, rfl, h, hmu, ho⟩
    rw [rng_len] at hmu
    omega
end
end My

set_option Elab.async false
set_option linter.all false
set_option maxRecDepth 100000
set_option maxHeartbeats 4000000
namespace My
open PySem PySem.Spec PyProof.Rows L2 Rf
/-! ### dicts of counts -/
def get (L : List Ct) (k : Nat) : Int := match L with
  | [] => 0
  | w :: r => if w.1 = k then w.2 else get r k
def has (L : List Ct) (k : Nat) : Bool := match L with
  | [] => false
  | w :: r => if w.1 = k then true else has r k
def put (L : List Ct) (k : Nat) (c : Int) : List Ct := if has L k then L.map fun w => if w.1 = k then (w.1, c) else w else L ++ [(k, c)]
theorem eqv_n {a b : Nat} : PyData.eqv (.int (a : Nat)) (.int (b : Nat)) = decide (a = b) := by
  simp only [PyData.eqv]
  by_cases h : a = b
  · subst h; simp
  · rw [decide_eq_false h, beq_eq_false_iff_ne]; omega
theorem lookD_rep {k : Nat} : ∀ {L : List Ct}, lookD (rep L) (.int (k : Nat)) = if has L k then some (.int (get L k)) else none
  | [] => rfl
  | w :: r => by
    have ih := lookD_rep (k := k) (L := r)
    unfold lookD rep at ih ⊢
    rw [List.map_cons, List.find?_cons, eqv_n]
    by_cases h : w.1 = k
    · rw [decide_eq_true h]; simp [has, get, h]
    · rw [decide_eq_false h]
      simp only [has, get, if_neg h]
      exact ih
theorem get_no {k : Nat} : ∀ {L : List Ct}, has L k = false → get L k = 0
  | [], _ => rfl
  | w :: r, h => by
    simp only [has] at h
    split at h
    · cases h
    · rename_i e
      simp only [get, if_neg e]; exact get_no h
theorem getD_rep {L : List Ct} {k : Nat} : (lookD (rep L) (.int (k : Nat))).getD (.int 0) = .int (get L k) := by
  rw [lookD_rep]
  split
  · rfl
  · rename_i h
    rw [get_no (by simpa using h)]; rfl
theorem putD_rep {L : List Ct} {k : Nat} {c : Int} : putD (rep L) (.int (k : Nat)) (.int c) = rep (put L k c) := by
  unfold putD put
  rw [lookD_rep]
  cases h : has L k with
  | true =>
    simp only [if_true, Option.isSome_some]
    unfold rep
    rw [List.map_map, List.map_map]
    refine List.map_congr_left fun w _ => ?_
    simp only [Function.comp, eqv_n]
    by_cases e : w.1 = k
    · rw [decide_eq_true e, if_pos rfl, if_pos e]
    · rw [decide_eq_false e, if_neg (by decide), if_neg e]
  | false =>
    simp only [Bool.false_eq_true, if_false, Option.isSome_none]
    unfold rep
    rw [List.map_append]
    rfl
theorem has_mem {k : Nat} : ∀ {L : List Ct}, has L k = true ↔ ∃ w ∈ L, w.1 = k
  | [] => by simp [has]
  | w :: r => by
    simp only [has]
    by_cases e : w.1 = k
    · rw [if_pos e]; exact ⟨fun _ => ⟨w, List.mem_cons_self .., e⟩, fun _ => rfl⟩
    · rw [if_neg e, has_mem]
      constructor
      · rintro ⟨u, h1, h2⟩; exact ⟨u, List.mem_cons_of_mem _ h1, h2⟩
      · rintro ⟨u, h1, h2⟩
        rcases List.mem_cons.mp h1 with rfl | h1
        · exact absurd h2 e
        · exact ⟨u, h1, h2⟩
theorem put_keys {L : List Ct} {k : Nat} {c : Int} (h : has L k = true) : (put L k c).map (·.1) = L.map (·.1) := by
  unfold put
  rw [if_pos h, List.map_map]
  refine List.map_congr_left fun w _ => ?_
  simp only [Function.comp]
  split <;> rfl
theorem nd_keys {L : List Ct} : Nd L ↔ (L.map (·.1)).Pairwise (· ≠ ·) := by
  unfold Nd
  rw [List.pairwise_map]
theorem put_nd {L : List Ct} {k : Nat} {c : Int} (h : Nd L) : Nd (put L k c) := by
  cases q : has L k with
  | true => rw [nd_keys, put_keys q, ← nd_keys]; exact h
  | false =>
    unfold put
    rw [q, if_neg (by decide)]
    unfold Nd at h ⊢
    rw [List.pairwise_append]
    refine ⟨h, List.pairwise_singleton .., fun a ha b hb => ?_⟩
    rw [List.mem_singleton] at hb
    subst hb
    intro e
    have : has L k = true := has_mem.mpr ⟨a, ha, e⟩
    rw [q] at this; cases this
theorem put_len {L : List Ct} {k : Nat} {c : Int} : (put L k c).length ≤ L.length + 1 := by
  unfold put
  split
  · rw [List.length_map]; omega
  · rw [List.length_append]; simp
theorem put_mem {L : List Ct} {k : Nat} {c : Int} {w : Ct} (h : w ∈ put L k c) : w = (k, c) ∨ w ∈ L := by
  unfold put at h
  split at h
  · obtain ⟨u, h1, h2⟩ := List.mem_map.mp h
    split at h2
    · rename_i e
      left; rw [← h2, e]
    · right; rw [← h2]; exact h1
  · rcases List.mem_append.mp h with h | h
    · exact .inr h
    · exact .inl (by simpa using h)
theorem dv_map {k : Nat} {c : Int} : ∀ {L : List Ct}, Nd L → has L k = true → dv (L.map fun w => if w.1 = k then (w.1, c) else w) = dv L + (c - get L k) * 2 ^ k
  | [], _, h => by simp [has] at h
  | w :: r, nd, h => by
    unfold Nd at nd
    rw [List.pairwise_cons] at nd
    by_cases e : w.1 = k
    · have hr : r.map (fun w => if w.1 = k then (w.1, c) else w) = r := by
        conv => rhs; rw [← List.map_id r]
        refine List.map_congr_left fun u hu => ?_
        have := nd.1 u hu
        rw [if_neg (by omega)]; rfl
      rw [List.map_cons, hr, if_pos e]
      simp only [dv, get]
      rw [if_pos e, e, Int.sub_mul]
      omega
    · simp only [has, if_neg e] at h
      simp only [List.map_cons, if_neg e, dv, get, dv_map nd.2 h]
      omega
theorem dv_app : ∀ {L M : List Ct}, dv (L ++ M) = dv L + dv M
  | [], _ => by simp [dv]
  | w :: r, M => by simp only [List.cons_append, dv, dv_app]; omega
theorem put_dv {L : List Ct} {k : Nat} {c : Int} (h : Nd L) : dv (put L k c) = dv L + (c - get L k) * 2 ^ k := by
  cases q : has L k with
  | true =>
    have := dv_map (c := c) h q
    unfold put
    rw [q, if_pos rfl]; exact this
  | false =>
    unfold put
    rw [q, if_neg (by decide), dv_app, get_no q]
    simp [dv]
theorem get_bd {L : List Ct} {B : Nat} (h : ∀ w ∈ L, w.2.natAbs ≤ B) (k : Nat) : (get L k).natAbs ≤ B := by
  cases q : has L k with
  | false => rw [get_no q]; simp
  | true =>
    have : ∀ {L : List Ct}, has L k = true → ∃ w ∈ L, w.2 = get L k := by
      intro L
      induction L with
      | nil => intro h; simp [has] at h
      | cons w r ih =>
        intro h
        by_cases e : w.1 = k
        · exact ⟨w, List.mem_cons_self .., by simp [get, e]⟩
        · simp only [has, if_neg e] at h
          obtain ⟨u, h1, h2⟩ := ih h
          exact ⟨u, List.mem_cons_of_mem _ h1, by simp [get, e, h2]⟩
    obtain ⟨w, h1, h2⟩ := this q
    rw [← h2]; exact h w h1
structure Dc (L : List Ct) (n B Kx : Nat) : Prop where
  nd : Nd L
  len : L.length ≤ n
  bd : ∀ w ∈ L, w.2.natAbs ≤ B ∧ w.1 ≤ Kx
theorem Dc.put {L : List Ct} {n B Kx B' : Nat} (h : Dc L n B Kx) {k : Nat} {c : Int} (hk : k ≤ Kx) (hB : B ≤ B') (hc : c.natAbs ≤ B') : Dc (put L k c) (n + 1) B' Kx :=
  ⟨put_nd h.nd, Nat.le_trans put_len (by have := h.len; omega), fun w hw => by
    rcases put_mem hw with rfl | hw
    · exact ⟨hc, hk⟩
    · have := h.bd w hw; exact ⟨by omega, this.2⟩⟩
theorem Dc.get {L : List Ct} {n B Kx : Nat} (h : Dc L n B Kx) (k : Nat) : (My.get L k).natAbs ≤ B := get_bd (fun w hw => (h.bd w hw).1) k
theorem Dc.mono {L : List Ct} {n B Kx n' B' : Nat} (h : Dc L n B Kx) (hn : n ≤ n') (hB : B ≤ B') : Dc L n' B' Kx := ⟨h.nd, by have := h.len; omega, fun w hw => ⟨by have := (h.bd w hw).1; omega, (h.bd w hw).2⟩⟩
theorem keysOk_rep : ∀ {L : List Ct}, keysOk (rep L) = true
  | [] => rfl
  | w :: r => by
    have := keysOk_rep (L := r)
    unfold rep at this ⊢
    simp only [List.map_cons, keysOk, keyD, Option.isSome_some, Bool.true_and]
    exact this
section
variable {Φ : FT} {F n : Nat}
theorem ownK_rep {L : List Ct} {i : Nat} {e : Sl} (h : i < e.length) : ownK i e (.dict (rep L)) = .nx (e.set i (.od (rep L))) := by
  simp only [ownK, ownS, if_pos keysOk_rep, if_pos h]
theorem setd_rep {L : List Ct} {i k : Nat} {c : Int} {e : Sl} (h : L.length < line) : setdK i e (rep L) (.int c) (.int (k : Nat)) = .nx (e.set i (.od (rep (put L k c)))) := by
  rw [setdK_i (by unfold rep; rw [List.length_map]; exact h), putD_rep]
theorem dget_rep {L : List Ct} {k : Nat} : dgetV (rep L) (.int (k : Nat)) (.int 0) = .ok (.int (get L k)) := by
  rw [dgetV_i, getD_rep]
/-! ### _law_stream -/
abbrev il (l : List Int) : List Rf.D := l.map .int
def Sm (l : List Int) : Prop := ∀ x ∈ l, 0 ≤ x ∧ x < 1009
theorem Sm.snoc {l : List Int} (h : Sm l) {y : Int} (h1 : 0 ≤ y) (h2 : y < 1009) : Sm (l ++ [y]) := fun x hx => by
  rcases List.mem_append.mp hx with hx | hx
  · exact h x hx
  · simp at hx; omega
theorem il_snoc {l : List Int} {x : Int} : il l ++ [.int x] = il (l ++ [x]) := by simp
def K1 (sc cell : Rf.D) (s5 : Slot) (m : Nat) (i : Nat) (e : Sl) : Prop := ∃ (l : List Int) (c : Int) (s4 : Slot), e = [.d sc, .ol (il l), .d cell, .d (.int c), s4, s5] ∧ l.length ≤ m + i ∧ Sm l
def K2 (sc cell : Rf.D) (s3 : Slot) (m : Nat) (i : Nat) (e : Sl) : Prop := ∃ (l : List Int) (c : Int) (s4 : Slot), e = [.d sc, .ol (il l), .d cell, s3, s4, .d (.int c)] ∧ l.length ≤ m + i ∧ Sm l
def K3 (sc : Rf.D) (i : Nat) (e : Sl) : Prop := ∃ (l : List Int) (s2 s3 s4 s5 : Slot), e = [.d sc, .ol (il l), s2, s3, s4, s5] ∧ l.length ≤ 60 * i ∧ Sm l
theorem row1 {sc cell : Rf.D} {m i : Nat} (hm : m + i < 100000) {l : List Int} {c x : Int} {s4 s5 : Slot} (h1 : l.length ≤ m + i) (h2 : Sm l) {Q : Out → Prop} {f : Sl → Out} (hf : ∀ e, (∃ j, j ≤ i + 1 ∧ K1 sc cell s5 m j e) → Is Q (f e)) :
    Is (Turn Q (K1 sc cell s5 m (i + 1)) f) (turnB (Rf.execs Φ F b13_1) (.nm 4) (.int x) [.d sc, .ol (il l), .d cell, .d (.int c), s4, s5]) := by
  have hz : l.length < line := by unfold line; omega
  have q1 : 0 ≤ c % 1009 := by omega
  have q2 : c % 1009 < 1009 := by omega
  by_cases hc : c / 1009 = 0
  · simp [turnB, bindT, b13_1, hz, hc]
    exact hf _ ⟨i + 1, Nat.le_refl _, l ++ [c % 1009], 0, _, by rw [il_snoc], by simp; omega, h2.snoc q1 q2⟩
  · simp [turnB, bindT, b13_1, hz, hc]
    exact ⟨l ++ [c % 1009], c / 1009, _, by rw [il_snoc], by simp; omega, h2.snoc q1 q2⟩
theorem row2 {sc cell : Rf.D} {m i : Nat} (hm : m + i < 100000) {l : List Int} {c x : Int} {s3 s4 : Slot} (h1 : l.length ≤ m + i) (h2 : Sm l) {Q : Out → Prop} {f : Sl → Out} :
    Is (Turn Q (K2 sc cell s3 m (i + 1)) f) (turnB (Rf.execs Φ F b13_2) (.nm 4) (.int x) [.d sc, .ol (il l), .d cell, s3, s4, .d (.int c)]) := by
  have hz : l.length < line := by unfold line; omega
  simp [turnB, bindT, b13_2, hz]
  exact ⟨l ++ [_], _, _, by rw [il_snoc], by simp; omega, h2.snoc (Int.emod_nonneg _ (by decide)) (Int.emod_lt_of_pos _ (by decide))⟩
theorem row3 {sc : Rf.D} {i : Nat} {cell : Int} (hi : i < 63) {l : List Int} {s2 s3 s4 s5 : Slot} (h1 : l.length ≤ 60 * i) (h2 : Sm l) {Q : Out → Prop} {f : Sl → Out} :
    Is (Turn Q (K3 sc (i + 1)) f) (turnB (Rf.execs Φ F b13_3) (.nm 2) (.int cell) [.d sc, .ol (il l), s2, s3, s4, s5]) := by
  have r1 : srcK .rng [.int 60] = .ok (rngD 0 60) := srcK_rn (n := 60) (by decide)
  have r2 : srcK .rng [.int 10] = .ok (rngD 0 10) := srcK_rn (n := 10) (by decide)
  simp only [turnB, bindT, List.length_cons, List.length_nil, Nat.reduceAdd, Nat.reduceLT, if_true, List.set_cons_succ, List.set_cons_zero]
  by_cases hb : (1000000000000000000 : Int) ≤ cell
  · simp [b13_3, hb, r1]
    refine Is.forE (fun j e => K1 sc (.int cell) s5 l.length j e) ⟨l, cell, s4, rfl, by omega, h2⟩ ?_ ?_
    · rintro j x e hx ⟨l', c', s4', rfl, g1, g2⟩
      obtain ⟨hj, rfl⟩ := rng_get hx
      refine row1 (by omega) g1 g2 ?_
      rintro e ⟨j2, hj2, l2, c2, s42, rfl, f1, f2⟩
      rw [Turn_nx]
      exact ⟨l2, _, _, _, _, rfl, by omega, f2⟩
    · rintro e ⟨l', c', s4', rfl, g1, g2⟩
      rw [Turn_nx]
      rw [rng_len] at g1
      exact ⟨l', _, _, _, _, rfl, by omega, g2⟩
  · simp [b13_3, hb, r2]
    refine Is.forE (fun j e => K2 sc (.int cell) (.d (.int cell)) l.length j e) ⟨l, _, s4, rfl, by omega, h2⟩ ?_ ?_
    · rintro j x e hx ⟨l', c', s4', rfl, g1, g2⟩
      obtain ⟨hj, rfl⟩ := rng_get hx
      exact row2 (by omega) g1 g2
    · rintro e ⟨l', c', s4', rfl, g1, g2⟩
      rw [Turn_nx]
      rw [rng_len] at g1
      exact ⟨l', _, _, _, _, rfl, by omega, g2⟩
def RR (x : Rf.D) : Prop := ∃ l : List Int, x = .list (il l) ∧ l ≠ [] ∧ l.length ≤ 4000 ∧ Sm l
theorem stream_run (ns : List Int) (hn : ns.length ≤ 63) : ∃ x, Fdef.run ⟨1, 6, b13⟩ Φ F [.list (il ns)] = .ok x ∧ RR x := by
  refine run_of rfl ?_
  have hcut : Rf.cutD (il ns) none (some (63 : Int)) = il ns := by
    rw [show (63 : Int) = ((63 : Nat) : Int) from rfl, cut_to, List.take_of_length_le (by simpa using hn)]
  simp only [b13, x_cons, x_own, e_lst, es_nil, Res.bind_ok, Out.ofR_ok, List.map_cons, List.map_nil, List.replicate_succ, List.replicate_zero, Nat.reduceSub, List.cons_append, List.nil_append]
  rw [ownK_l (by simp)]
  simp [hcut]
  refine Is.for (fun i e => K3 (.list (il ns)) i e) ⟨[], _, _, _, _, rfl, by simp, fun x h => by simp at h⟩ ?_ ?_
  · rintro i x e hx ⟨l', s2, s3, s4, s5, rfl, h1, h2⟩
    have hi := (List.getElem?_eq_some_iff.mp hx).1
    rw [List.length_map] at hi
    rw [get_ints hi] at hx
    cases hx
    exact row3 (by omega) h1 h2
  · rintro e ⟨l', s2, s3, s4, s5, rfl, h1, h2⟩
    rw [List.length_map] at h1
    cases l' with
    | nil =>
      simp [line]
      exact ⟨[0], rfl, by simp, by simp, fun x hx => by simp at hx; omega⟩
    | cons a r =>
      have e1 : ¬ ((r.length : Int) + 1 = 0) := by omega
      simp [e1]
      exact ⟨a :: r, rfl, by simp, by simp at h1 ⊢; omega, h2⟩
theorem c_stream (ns : List Int) (hn : ns.length ≤ 63) : ∃ l : List Int, phi TB F (n + 1) 13 [.list (il ns)] = .ok (.list (il l)) ∧ l ≠ [] ∧ l.length ≤ 4000 ∧ Sm l := by
  obtain ⟨x, h, l, rfl, h2⟩ := stream_run (Φ := phi TB F n) (F := F) ns hn
  exact ⟨l, (phi_succ rfl).trans h, h2⟩
/-! ### _law_pick, _law_two, _law_exponent -/
theorem c_pick {l : List Int} (hl : l ≠ []) (hs : Sm l) {a many : Int} (hm : 0 < many) : ∃ p : Int, 0 ≤ p ∧ p < many ∧ phi TB F (n + 1) 14 [.list (il l), .int a, .int many] = .ok (.int p) := by
  have pos : 0 < l.length := List.length_pos_iff.mpr hl
  have pos2 : (0 : Int) < (l.length : Int) := by omega
  have q0 : 0 ≤ a % (l.length : Int) := Int.emod_nonneg _ (by omega)
  have q1 : a % (l.length : Int) < (l.length : Int) := Int.emod_lt_of_pos _ pos2
  have hi : (a % (l.length : Int)).toNat < l.length := by omega
  have ix : idxK (.list (il l)) (.int (a % (l.length : Int))) = .ok (.int l[(a % (l.length : Int)).toNat]) := by
    have e : idxD (.list (il l)) (.int (a % (l.length : Int))) = some (.int l[(a % (l.length : Int)).toNat]) := by
      show L2.atI _ _ = _
      exact atI_at q0 (get_ints hi)
    rw [idxK, e]; rfl
  refine ⟨l[(a % (l.length : Int)).toNat] % many, Int.emod_nonneg _ (by omega), Int.emod_lt_of_pos _ hm, (phi_succ rfl).trans (run_ret rfl ?_)⟩
  have o1 := binK_mod (i := a) pos2
  simp [b14, o1, ix, hm]
def K4 (m : Nat) (i : Nat) (e : Sl) : Prop := ∃ s2 : Slot, e = [.d (.int (m : Nat)), .d (.int (2 ^ i)), s2]
theorem two_run {m : Nat} (hm : m ≤ 100000) : ∃ x, Fdef.run ⟨1, 3, b15⟩ Φ F [.int (m : Nat)] = .ok x ∧ x = .int (2 ^ m) := by
  refine run_of (Q := fun x => x = .int (2 ^ m)) rfl ?_
  have hs := srcK_rn (n := m) (by omega)
  simp [b15, hs]
  refine Is.for (fun i e => K4 m i e) ⟨_, rfl⟩ ?_ ?_
  · rintro i x e hx ⟨s2, rfl⟩
    obtain ⟨hi, rfl⟩ := rng_get hx
    have hb : turnB (Rf.execs Φ F b15_1) (.nm 2) (.int (0 + (i : Int))) [.d (.int (m : Nat)), .d (.int (2 ^ i)), s2] = .nx [.d (.int (m : Nat)), .d (.int (2 ^ (i + 1))), .d (.int (0 + (i : Int)))] := by
      rw [two_add]
      simp [turnB, bindT, b15_1]
    rw [hb, Turn_nx]
    exact ⟨_, rfl⟩
  · rintro e ⟨s2, rfl⟩
    rw [rng_len]
    simp
theorem c_twoZ {p : Int} (h0 : 0 ≤ p) (h : p ≤ 100000) : phi TB F (n + 1) 15 [.int p] = .ok (.int (2 ^ p.toNat)) := by
  obtain ⟨m, rfl⟩ := Int.eq_ofNat_of_zero_le h0
  obtain ⟨x, h1, rfl⟩ := two_run (Φ := phi TB F n) (F := F) (m := m) (by omega)
  exact (phi_succ rfl).trans h1
theorem c_exp {l : List Int} (hl : l ≠ []) (hs : Sm l) {a : Int} : ∃ p : Int, 0 ≤ p ∧ p ≤ 2 ^ 96 ∧ phi TB F (n + 2) 20 [.list (il l), .int a] = .ok (.int p) := by
  obtain ⟨way, w0, w1, w2⟩ := c_pick (F := F) (n := n) hl hs (a := a) (many := 6) (by decide)
  obtain ⟨low, l0, l1, l2⟩ := c_pick (F := F) (n := n) hl hs (a := a + 1) (many := 41) (by decide)
  obtain ⟨hp, h0, h1, h2⟩ := c_pick (F := F) (n := n) hl hs (a := a + 2) (many := 90) (by decide)
  obtain ⟨g, g0, g1, g2⟩ := c_pick (F := F) (n := n) hl hs (a := a + 3) (many := 30) (by decide)
  have t1 := c_twoZ (F := F) (n := n) (p := 6 + hp) (by omega) (by omega)
  have t2 := c_twoZ (F := F) (n := n) (p := g) (by omega) (by omega)
  have b1 : (2 : Int) ^ 6 ≤ 2 ^ (6 + hp).toNat := two_mono (by omega)
  have b13 : (2 : Int) ^ (6 + hp).toNat ≤ 2 ^ 95 := two_mono (by omega)
  have b14 : (2 : Int) ^ g.toNat ≤ 2 ^ 30 := two_mono (by omega)
  have b15 := two_pos g.toNat
  generalize (2 : Int) ^ (6 + hp).toNat = x at *
  generalize (2 : Int) ^ g.toNat = y at *
  have run : ∀ r : Int, Rf.execs (phi TB F (n + 1)) F b20 [.d (.list (il l)), .d (.int a), .un, .un, .un] = .ret (.int r) → phi TB F (n + 2) 20 [.list (il l), .int a] = .ok (.int r) := fun r h => (phi_succ rfl).trans (run_ret rfl h)
  by_cases c1 : way < 3
  · refine ⟨low, l0, by omega, run _ ?_⟩
    simp [b20, w2, l2, c1]
  · by_cases c2 : way = 3
    · subst c2
      refine ⟨x + low, by omega, by omega, run _ ?_⟩
      simp [b20, w2, l2, h2, t1]
    · by_cases c3 : way = 4
      · subst c3
        refine ⟨x - low, by omega, by omega, run _ ?_⟩
        simp [b20, w2, l2, h2, t1]
      · refine ⟨x + y - low % 3, by omega, by omega, run _ ?_⟩
        simp [b20, w2, l2, h2, t1, c1, c2, c3, g2, t2]
end
end My

set_option Elab.async false
set_option linter.all false
set_option maxRecDepth 100000
set_option maxHeartbeats 4000000
namespace My
open PySem PySem.Spec PyProof.Rows L2 Rf
section
variable {Φ : FT} {F n : Nat}
/-! ### _law_model -/
theorem pick5 {p : Int} (h0 : 0 ≤ p) (h1 : p < 5) : ∃ c : Int, c.natAbs ≤ 3 ∧ idxK (.list [.int 1, .int (-1), .int 1, .int 2, .int (-3)]) (.int p) = .ok (.int c) := by
  have : p = 0 ∨ p = 1 ∨ p = 2 ∨ p = 3 ∨ p = 4 := by omega
  rcases this with rfl | rfl | rfl | rfl | rfl
  · exact ⟨1, by decide, rfl⟩
  · exact ⟨-1, by decide, rfl⟩
  · exact ⟨1, by decide, rfl⟩
  · exact ⟨2, by decide, rfl⟩
  · exact ⟨-3, by decide, rfl⟩
theorem pick2 {p : Int} (h0 : 0 ≤ p) (h1 : p < 2) : ∃ c : Int, c.natAbs ≤ 1 ∧ idxK (.list [.int 1, .int (-1)]) (.int p) = .ok (.int c) := by
  have : p = 0 ∨ p = 1 := by omega
  rcases this with rfl | rfl
  · exact ⟨1, by decide, rfl⟩
  · exact ⟨-1, by decide, rfl⟩
abbrev KX : Nat := 2 ^ 96
/-! ### _law_number, _law_sign -/
theorem idx_0 {x : Rf.D} {xs : List Rf.D} : idxK (.list (x :: xs)) (.int 0) = .ok x := by
  have e : idxD (.list (x :: xs)) (.int 0) = some x := by
    show L2.atI _ _ = _
    exact atI_at (by decide) rfl
  rw [idxK, e]; rfl
theorem c_rows {L : List Ct} {n2 B Kx : Nat} (dc : Dc L n2 B Kx) (hn : n2 ≤ 60) (hB : 2 * (B + 3) * n2 ≤ 8120) : ∃ l : List Tm, phi TB F (n + 1) 22 [.dict (rep L)] = .ok (.list (l.map rD)) ∧ Nf l ∧ val l = dv L ∧ l.length ≤ 9000 ∧ ∀ t ∈ l, t.2 ≤ Kx + 9000 := by
  obtain ⟨x, h, l, rfl, h2⟩ := rows_run (Φ := phi TB F n) (F := F) dc.nd (by have := dc.len; omega) (Nat.le_trans (Nat.mul_le_mul_left _ dc.len) hB) dc.bd
  exact ⟨l, (phi_succ rfl).trans h, h2⟩
abbrev KY : Nat := 2 ^ 103
theorem big97 {p : Nat} (h : p ≤ KY + 9000) : (p : Int) ≤ 2 ^ 3000 := by
  have h2 : (2 : Int) ^ 104 ≤ 2 ^ 3000 := two_mono (by decide)
  have : (p : Int) ≤ 2 ^ 104 := by unfold KY at h; omega
  omega
theorem c_of {p : Int} (h1 : -(2 ^ 3000) ≤ p) (h2 : p ≤ 2 ^ 3000) : ∃ d, phi TB F (n + 7) 16 [.int p] = .ok d ∧ Fm d p ∧ d.depth ≤ 13 := by
  obtain ⟨d, d1, d2, d3⟩ := of_ok (F := F) 6 (v := p) (by decide) (fun z => by omega) h1 h2 n
  exact ⟨d, by rw [show n + 7 = 6 + n + 1 by omega]; exact d1, d2, d3⟩
theorem comp_num {s0 : Slot} : ∀ {l : List Tm}, (∀ t ∈ l, t.2 ≤ KY + 9000) → ∃ ts : List T3, ts.map tm = l ∧ (∀ t ∈ ts, Fm t.2.2 (t.2.1 : Nat) ∧ t.2.2.depth ≤ 13) ∧ compL (ev (phi TB F (n + 7)) x23_1) (evt (phi TB F (n + 7)) []) (.nm 1) (l.map rD) [s0, .un] = .ok (ts.map tD)
  | [], _ => ⟨[], rfl, fun t ht => by simp at ht, by simp only [List.map_nil, compL]⟩
  | t :: r, h => by
    obtain ⟨ts, h1, h2, h3⟩ := comp_num (s0 := s0) (l := r) fun u hu => h u (List.mem_cons_of_mem _ hu)
    have hb := big97 (h t (List.mem_cons_self ..))
    have pos := two_pos 3000
    generalize hG : (2 : Int) ^ 3000 = G at hb pos
    obtain ⟨d, d1, d2, d3⟩ := c_of (F := F) (n := n) (p := (t.2 : Nat)) (by rw [hG]; omega) (by rw [hG]; exact hb)
    refine ⟨(t.1, t.2, d) :: ts, by simp only [List.map_cons, h1, tm], fun u hu => ?_, ?_⟩
    · rcases List.mem_cons.mp hu with rfl | hu
      · exact ⟨d2, d3⟩
      · exact h2 u hu
    · have i0 : idxK (rD t) (.int 0) = .ok (.int t.1) := rfl
      have i1 : idxK (rD t) (.int 1) = .ok (.int (t.2 : Nat)) := rfl
      have e1 : ev (phi TB F (n + 7)) x23_1 [s0, .d (rD t)] = .ok (tD (t.1, t.2, d)) := by
        simp [x23_1, i0, i1, d1, tD]
      have hbt : bindT (.nm 1) (rD t) [s0, .un] = some [s0, .d (rD t)] := rfl
      simp only [List.map_cons, compL, hbt, et_nil, Res.bind_ok, if_true, e1, h3]
theorem c_number {L : List Ct} {n2 B : Nat} (dc : Dc L n2 B KY) (hn : n2 ≤ 60) (hB : 2 * (B + 3) * n2 ≤ 8120) : ∃ x, phi TB F (n + 8) 23 [.dict (rep L)] = .ok x ∧ Fm x (dv L) ∧ x.depth ≤ 15 := by
  obtain ⟨l, h1, h2, h3, h4, h5⟩ := c_rows (F := F) (n := n + 6) dc hn hB
  obtain ⟨ts, t1, t2, t3⟩ := comp_num (F := F) (n := n) (s0 := .d (.dict (rep L))) h5
  have hc : compK (phi TB F (n + 7)) x23_1 (.nm 1) [] [.d (.dict (rep L)), .un] (l.map rD) = .ok (.list (ts.map tD)) := by
    have hz : decide ((l.map rD).length ≤ line) = true := decide_eq_true (by rw [List.length_map]; unfold line; omega)
    have hf : Rf.freeOf [.d (.dict (rep L)), .un] (Tgt.nm 1).ix = true := rfl
    have hw : wipeS [.d (.dict (rep L)), .un] (Tgt.nm 1).ix = [.d (.dict (rep L)), .un] := rfl
    unfold compK
    rw [hw, t3, hz, hf]
    rfl
  refine ⟨.tuple (ts.map tD), (phi_succ rfl).trans (run_ret rfl ?_), ?_, ?_⟩
  · simp [b23, h1, hc]
  · have := Fm.mk ts (by rw [t1]; exact h2) fun t ht => (t2 t ht).1
    rw [t1, h3] at this
    exact this
  · have := dep_le (ts := ts) (n := 13) fun t ht => (t2 t ht).2
    simp only [PyData.depth]
    omega
/-! ### _law_joined -/
end
section
variable {Φ : FT} {F n : Nat}
theorem sgn_cases (x : Int) : sgn x = 1 ∨ sgn x = -1 ∨ sgn x = 0 := by
  unfold sgn
  split
  · exact .inl rfl
  · split
    · exact .inr (.inl rfl)
    · exact .inr (.inr rfl)
theorem Fm.one {d : Rf.D} {s : Int} {m : Nat} (h : Fm d (m : Nat)) (hs : s = 1 ∨ s = -1) : Fm (.tuple [.tuple [.int s, d]]) (s * 2 ^ m) := by
  have := Fm.mk [(s, m, d)] ⟨hs, fun u hu => by simp at hu, trivial⟩ fun t ht => by
    rw [List.mem_singleton] at ht; subst ht; exact h
  have e : val ([(s, m, d)].map tm) = s * 2 ^ m := by simp [val, tm]
  rw [e] at this
  exact this
theorem Fm.zero : Fm (.tuple []) 0 := Fm.mk [] trivial fun t ht => by simp at ht
end
end My

set_option Elab.async false
set_option linter.all false
set_option maxRecDepth 100000
set_option maxHeartbeats 4000000
namespace My
open PySem PySem.Spec PyProof.Rows L2 Rf
/-! ### sizes and heights -/
mutual
def szD : Rf.D → Nat
  | .tuple xs => 1 + szL xs
  | _ => 0
def szL : List Rf.D → Nat
  | [] => 0
  | x :: r => szT x + szL r
def szT : Rf.D → Nat
  | .tuple xs => szS xs
  | _ => 0
def szS : List Rf.D → Nat
  | [] => 0
  | _ :: r => szH r
def szH : List Rf.D → Nat
  | [] => 0
  | x :: _ => szD x
end
theorem szL_map : ∀ {ts : List T3}, szL (ts.map tD) = (ts.map fun t => szD t.2.2).sum
  | [] => rfl
  | t :: r => by
    simp only [List.map_cons, szL, List.sum_cons, szL_map]
    rfl
def SZ : Nat → Nat → Nat
  | 0, _ => 1
  | d + 1, e => 1 + ((nfl 15 (e : Int) 0).map fun t => SZ d t.2).sum
theorem sz_fm : ∀ (d : Nat) {x : Rf.D} {e : Nat}, Fm x (e : Nat) → x.depth ≤ 2 * d + 1 → e ≤ 16384 → szD x = SZ d e := by
  intro d
  induction d with
  | zero =>
    intro x e hx hd _
    obtain ⟨ts, rfl, _⟩ := hx.inv
    cases ts with
    | nil => rfl
    | cons t r =>
      simp only [List.map_cons, PyData.depth, PyData.depthAll, tD] at hd
      omega
  | succ d ih =>
    intro x e hx hd he
    obtain ⟨ts, rfl, hv, nf, fs⟩ := hx.inv
    have hl := nf_is nf (k := 14) (by rw [← hv]; omega) (by rw [← hv]; omega)
    rw [← hv] at hl
    simp only [szD, szL_map, SZ]
    congr 1
    rw [← hl, List.map_map]
    congr 1
    refine List.map_congr_left fun t ht => ?_
    have dp := dep_all ht
    simp only [PyData.depth] at hd
    have hb := exp_le nf (k := 14) (by rw [← hv]; constructor <;> omega) (tm t) (List.mem_map.mpr ⟨t, ht, rfl⟩)
    have hb : t.2.1 ≤ 14 := hb
    exact ih (fs t ht) (by omega) (by omega)
/-! the sizes of the exponents, by the kernel -/
mutual
def htD : Rf.D → Int
  | .tuple xs => htL xs
  | _ => 0
def htL : List Rf.D → Int
  | [] => 0
  | x :: r => max (1 + htT x) (htL r)
def htT : Rf.D → Int
  | .tuple xs => htS xs
  | _ => 0
def htS : List Rf.D → Int
  | [] => 0
  | _ :: r => htH r
def htH : List Rf.D → Int
  | [] => 0
  | x :: _ => htD x
end
section
variable {Φ : FT} {F n : Nat}
theorem allInts_map : ∀ {l : List Int}, allInts (l.map .int) = some l
  | [] => rfl
  | x :: r => by simp only [List.map_cons, allInts, allInts_map, Option.map_some]
theorem sum_ints {l : List Int} : bltK .sum [.list (l.map .int)] = .ok (.int l.sum) := by
  have e : bltD .sum [.list (l.map .int)] = some (.int l.sum) := by
    show (allInts (l.map .int)).map (fun l => PyData.int l.sum) = _
    rw [allInts_map]; rfl
  rw [bltK, e]; rfl
theorem max_ints {l : List Int} (h : l ≠ []) : bltK .max [.list (l.map .int)] = .ok (.int (maxI l)) := by
  have e : bltD .max [.list (l.map .int)] = some (.int (maxI l)) := by
    show (if l.map PyData.int = [] then none else (allInts (l.map .int)).map fun l => PyData.int (maxI l)) = _
    rw [if_neg (by simpa using h), allInts_map]; rfl
  rw [bltK, e]; rfl
theorem maxI_le {c : Int} : ∀ {l : List Int}, l ≠ [] → (∀ x ∈ l, x ≤ c) → maxI l ≤ c
  | [], h, _ => absurd rfl h
  | [x], _, h => h x (List.mem_cons_self ..)
  | x :: y :: r, _, h => by
    have h1 := h x (List.mem_cons_self ..)
    have h2 := maxI_le (l := y :: r) (by simp) fun z hz => h z (List.mem_cons_of_mem _ hz)
    show max x (maxI (y :: r)) ≤ c
    omega
theorem maxI_ge : ∀ {l : List Int}, l ≠ [] → (∀ x ∈ l, 0 ≤ x) → 0 ≤ maxI l
  | [], h, _ => absurd rfl h
  | [x], _, h => h x (List.mem_cons_self ..)
  | x :: y :: r, _, h => by
    have h1 := h x (List.mem_cons_self ..)
    show 0 ≤ max x (maxI (y :: r))
    omega
theorem natsum {l : List T3} {g : T3 → Nat} : ((l.map fun t => ((g t : Nat) : Int))).sum = ((l.map g).sum : Nat) := by
  induction l with
  | nil => rfl
  | cons t r ih => simp only [List.map_cons, List.sum_cons, ih]; omega
theorem comp_ts {E : Exp} {t : Tgt} {e : Sl} {ts : List T3} (h : T3 → Rf.D) (hw : wipeS e t.ix = e) (hf : Rf.freeOf e t.ix = true) (hl : ts.length ≤ 900000) (hh : ∀ u ∈ ts, ∃ e1, bindT t (tD u) e = some e1 ∧ ev Φ E e1 = .ok (h u)) :
    compK Φ E t [] e (ts.map tD) = .ok (.list (ts.map h)) := by
  have hc : ∀ us : List T3, (∀ u ∈ us, ∃ e1, bindT t (tD u) e = some e1 ∧ ev Φ E e1 = .ok (h u)) → compL (ev Φ E) (evt Φ []) t (us.map tD) e = .ok (us.map h) := by
    intro us
    induction us with
    | nil => intro _; simp only [List.map_nil, compL]
    | cons u r ih =>
      intro hh
      obtain ⟨e1, a, b⟩ := hh u (List.mem_cons_self ..)
      simp only [List.map_cons, compL, a, et_nil, Res.bind_ok, if_true, b, ih fun w hw => hh w (List.mem_cons_of_mem _ hw)]
  have hz : decide ((ts.map tD).length ≤ line) = true := decide_eq_true (by rw [List.length_map]; unfold line; omega)
  unfold compK
  rw [hw, hc ts hh, hz, hf]
  rfl
mutual
theorem htD_nn : ∀ {x : Rf.D}, 0 ≤ htD x
  | .tuple xs => by simp only [htD]; exact htL_n0
  | .none => Int.le_refl _
  | .bool _ => Int.le_refl _
  | .int _ => Int.le_refl _
  | .str _ => Int.le_refl _
  | .list _ => Int.le_refl _
  | .dict _ => Int.le_refl _
theorem htL_n0 : ∀ {xs : List Rf.D}, 0 ≤ htL xs
  | [] => Int.le_refl _
  | x :: r => by
    have := htL_n0 (xs := r)
    simp only [htL]
    omega
end
theorem htL_cons {t : T3} {r : List T3} : htL ((t :: r).map tD) = max (1 + htD t.2.2) (htL (r.map tD)) := by
  rw [List.map_cons, htL]
  rfl
theorem htL_nn : ∀ {ts : List T3}, 0 ≤ htL (ts.map tD)
  | [] => by simp only [List.map_nil, htL]; exact Int.le_refl _
  | t :: r => by
    rw [htL_cons]
    have := htL_nn (ts := r)
    omega
theorem mx_cons (a : Int) : ∀ (l : List Int), maxI (0 :: a :: l) = max a (maxI (0 :: l))
  | [] => by show max 0 a = max a 0; omega
  | b :: r => by
    show max 0 (max a (maxI (b :: r))) = max a (max 0 (maxI (b :: r)))
    omega
theorem htL_max : ∀ {ts : List T3}, htL (ts.map tD) = maxI (0 :: ts.map fun t => 1 + htD t.2.2)
  | [] => rfl
  | t :: r => by rw [htL_cons, htL_max (ts := r), List.map_cons, mx_cons]
theorem htL_one : ∀ {ts : List T3}, ts ≠ [] → htL (ts.map tD) = 1 + maxI (ts.map fun t => htD t.2.2)
  | [], h => absurd rfl h
  | [t], _ => by
    rw [htL_cons]
    show max (1 + htD t.2.2) (htL []) = 1 + htD t.2.2
    have := htL_nn (ts := [])
    have : 0 ≤ htD t.2.2 := htD_nn
    simp only [htL]
    omega
  | t :: u :: r, _ => by
    rw [htL_cons, htL_one (ts := u :: r) (by simp)]
    show _ = 1 + max (htD t.2.2) (maxI ((u :: r).map fun t => htD t.2.2))
    omega
def TD : Nat → Rf.D → Prop
  | 0, x => x = .tuple []
  | h + 1, x => ∃ ts : List T3, x = .tuple (ts.map tD) ∧ ts.length ≤ 100000 ∧ ∀ t ∈ ts, TD h t.2.2
theorem TD.ts {h : Nat} {x : Rf.D} (d : TD h x) : ∃ ts : List T3, x = .tuple (ts.map tD) ∧ ts.length ≤ 100000 ∧ ∀ t ∈ ts, ∃ k, k + 1 = h ∧ TD k t.2.2 := by
  cases h with
  | zero => exact ⟨[], d, by decide, fun t ht => by simp at ht⟩
  | succ h =>
    obtain ⟨ts, h1, h2, h3⟩ := d
    exact ⟨ts, h1, h2, fun t ht => ⟨h, rfl, h3 t ht⟩⟩
theorem size_ok : ∀ (h : Nat) {x : Rf.D}, TD h x → ∀ q, h ≤ q → phi TB F (q + 1) 0 [x] = .ok (.int (szD x : Nat)) ∧ phi TB F (q + 1) 17 [x] = .ok (.int (szD x : Nat)) := by
  intro h
  induction h with
  | zero =>
    intro x d q _
    have d : x = .tuple [] := d
    subst d
    have s := sum_ints (l := [])
    have s : bltK .sum [.list []] = .ok (.int 0) := s
    constructor
    · refine (phi_succ rfl).trans (run_ret rfl ?_)
      have cm := comp_ts (Φ := phi TB F q) (E := x0_1) (t := .tp [(.nm 1), (.nm 2)]) (e := [.d (.tuple []), .un, .un]) (ts := []) (fun t => .none) rfl rfl (by decide) fun u hu => by simp at hu
      simp only [List.map_nil] at cm
      simp [b0, cm, s, szD, szL]
    · refine (phi_succ rfl).trans (run_ret rfl ?_)
      have cm := comp_ts (Φ := phi TB F q) (E := x17_1) (t := .nm 1) (e := [.d (.tuple []), .un]) (ts := []) (fun t => .none) rfl rfl (by decide) fun u hu => by simp at hu
      simp only [List.map_nil] at cm
      simp [b17, cm, s, szD, szL]
  | succ h ih =>
    rintro x ⟨ts, rfl, hl, hs⟩ q hq
    obtain ⟨p, rfl⟩ : ∃ p, q = p + 1 := ⟨q - 1, by omega⟩
    have s := sum_ints (l := ts.map fun t => ((szD t.2.2 : Nat) : Int))
    rw [natsum, List.map_map] at s
    have e : szD (.tuple (ts.map tD)) = 1 + (ts.map fun t => szD t.2.2).sum := by simp only [szD, szL_map]
    rw [e]
    constructor
    · refine (phi_succ rfl).trans (run_ret rfl ?_)
      have cm := comp_ts (Φ := phi TB F (p + 1)) (E := x0_1) (t := .tp [(.nm 1), (.nm 2)]) (e := [.d (.tuple (ts.map tD)), .un, .un]) (ts := ts) (fun t => .int (szD t.2.2 : Nat)) rfl rfl (by omega) fun u hu => ⟨[.d (.tuple (ts.map tD)), .d (.int u.1), .d u.2.2], rfl, by simp [x0_1, (ih (hs u hu) p (by omega)).1]⟩
      have s : bltK .sum [.list (ts.map fun t => PyData.int ((szD t.2.2 : Nat) : Int))] = .ok (.int ((ts.map fun t => szD t.2.2).sum : Nat)) := s
      generalize (ts.map fun t => szD t.2.2).sum = S at *
      generalize (ts.map fun t => PyData.int ((szD t.2.2 : Nat) : Int)) = L at *
      show Rf.execs _ F b0 [.d (.tuple (ts.map tD)), .un, .un] = _
      simp only [b0, x_cons, x_ret, e_bin, e_con, e_blt, es_cons, es_nil, e_comp, e_var, List.getElem?_cons_zero, varK_d, Res.bind_ok, srcK_t, cm, s, binK_add, Out.ofR_ok, Out.seq_ret, Int.natCast_add]
      rfl
    · refine (phi_succ rfl).trans (run_ret rfl ?_)
      have cm := comp_ts (Φ := phi TB F (p + 1)) (E := x17_1) (t := .nm 1) (e := [.d (.tuple (ts.map tD)), .un]) (ts := ts) (fun t => .int (szD t.2.2 : Nat)) rfl rfl (by omega) fun u hu => ⟨[.d (.tuple (ts.map tD)), .d (tD u)], rfl, by
        have i1 : idxK (tD u) (.int 1) = .ok u.2.2 := rfl
        simp [x17_1, i1, (ih (hs u hu) p (by omega)).2]⟩
      have s : bltK .sum [.list (ts.map fun t => PyData.int ((szD t.2.2 : Nat) : Int))] = .ok (.int ((ts.map fun t => szD t.2.2).sum : Nat)) := s
      generalize (ts.map fun t => szD t.2.2).sum = S at *
      generalize (ts.map fun t => PyData.int ((szD t.2.2 : Nat) : Int)) = L at *
      show Rf.execs _ F b17 [.d (.tuple (ts.map tD)), .un] = _
      simp only [b17, x_cons, x_ret, e_bin, e_con, e_blt, es_cons, es_nil, e_comp, e_var, List.getElem?_cons_zero, varK_d, Res.bind_ok, srcK_t, cm, s, binK_add, Out.ofR_ok, Out.seq_ret, Int.natCast_add]
      rfl
theorem height_ok : ∀ (h : Nat) {x : Rf.D}, TD h x → ∀ q, h ≤ q → phi TB F (q + 1) 1 [x] = .ok (.int (htD x)) ∧ phi TB F (q + 1) 18 [x] = .ok (.int (htD x)) := by
  intro h
  induction h with
  | zero =>
    intro x d q _
    have d : x = .tuple [] := d
    subst d
    have s := max_ints (l := [0]) (by simp)
    have s : bltK .max [.list [.int 0]] = .ok (.int 0) := s
    constructor
    · refine (phi_succ rfl).trans (run_ret rfl ?_)
      simp [b1, htD, htL]
    · refine (phi_succ rfl).trans (run_ret rfl ?_)
      have cm := comp_ts (Φ := phi TB F q) (E := x18_1) (t := .nm 1) (e := [.d (.tuple []), .un]) (ts := []) (fun t => .none) rfl rfl (by decide) fun u hu => by simp at hu
      simp only [List.map_nil] at cm
      have ap : binK .add (.list [.int 0]) (.list []) = .ok (.list [.int 0]) := rfl
      simp [b18, cm, ap, s, htD, htL]
  | succ h ih =>
    rintro x ⟨ts, rfl, hl, hs⟩ q hq
    obtain ⟨p, rfl⟩ : ∃ p, q = p + 1 := ⟨q - 1, by omega⟩
    have e : htD (.tuple (ts.map tD)) = htL (ts.map tD) := by simp only [htD]
    rw [e]
    constructor
    · refine (phi_succ rfl).trans (run_ret rfl ?_)
      cases ts with
      | nil => simp [b1, htL]
      | cons t r =>
        have s := max_ints (l := (t :: r).map fun t => htD t.2.2) (by simp)
        rw [List.map_map] at s
        have s : bltK .max [.list ((t :: r).map fun t => PyData.int (htD t.2.2))] = .ok (.int (maxI ((t :: r).map fun t => htD t.2.2))) := s
        have cm := comp_ts (Φ := phi TB F (p + 1)) (E := x1_1) (t := .tp [(.nm 1), (.nm 2)]) (e := [.d (.tuple ((t :: r).map tD)), .un, .un]) (ts := t :: r) (fun t => .int (htD t.2.2)) rfl rfl (by omega) fun u hu => ⟨[.d (.tuple ((t :: r).map tD)), .d (.int u.1), .d u.2.2], rfl, by simp [x1_1, (ih (hs u hu) p (by omega)).1]⟩
        rw [htL_one (by simp)]
        generalize maxI ((t :: r).map fun t => htD t.2.2) = M at *
        generalize ((t :: r).map fun t => PyData.int (htD t.2.2)) = L at *
        have ln : bltK .len [.tuple ((t :: r).map tD)] = .ok (.int ((r.length + 1 : Nat) : Int)) := by rw [bltK_lenT, List.length_map, List.length_cons]
        have n0 : ¬ ((r.length + 1 : Nat) : Int) = 0 := by omega
        show Rf.execs _ F b1 [.d (.tuple ((t :: r).map tD)), .un, .un] = _
        generalize (t :: r).map tD = X at *
        generalize ((r.length + 1 : Nat) : Int) = m at *
        simp [b1, ln, n0, cm, s]
    · refine (phi_succ rfl).trans (run_ret rfl ?_)
      have s := max_ints (l := 0 :: ts.map fun t => 1 + htD t.2.2) (by simp)
      rw [← htL_max, List.map_cons, List.map_map] at s
      have s : bltK .max [.list (.int 0 :: ts.map fun t => PyData.int (1 + htD t.2.2))] = .ok (.int (htL (ts.map tD))) := s
      have cm := comp_ts (Φ := phi TB F (p + 1)) (E := x18_1) (t := .nm 1) (e := [.d (.tuple (ts.map tD)), .un]) (ts := ts) (fun t => .int (1 + htD t.2.2)) rfl rfl (by omega) fun u hu => ⟨[.d (.tuple (ts.map tD)), .d (tD u)], rfl, by
        have i1 : idxK (tD u) (.int 1) = .ok u.2.2 := rfl
        simp [x18_1, i1, (ih (hs u hu) p (by omega)).2]⟩
      have ap : binK .add (.list [.int 0]) (.list (ts.map fun t => PyData.int (1 + htD t.2.2))) = .ok (.list (.int 0 :: ts.map fun t => PyData.int (1 + htD t.2.2))) := by
        rw [binK_lst (by simp; omega)]; rfl
      generalize htL (ts.map tD) = M at *
      generalize (ts.map fun t => PyData.int (1 + htD t.2.2)) = L at *
      show Rf.execs _ F b18 [.d (.tuple (ts.map tD)), .un] = _
      generalize ts.map tD = X at *
      simp [b18, cm, ap, s]
theorem allowed_ok {h : Nat} {x : Rf.D} (d : TD h x) {q : Nat} (hq : h ≤ q) : phi TB F (q + 2) 8 [x] = .ok (.bool (decide ((szD x : Nat) ≤ 300) && decide (htD x ≤ 40))) ∧ phi TB F (q + 2) 19 [x] = .ok (.bool (decide ((szD x : Nat) ≤ 300) && decide (htD x ≤ 40))) := by
  obtain ⟨s1, s2⟩ := size_ok (F := F) h d q hq
  obtain ⟨h1, h2⟩ := height_ok (F := F) h d q hq
  constructor
  · refine (phi_succ rfl).trans (run_ret rfl ?_)
    by_cases c : szD x ≤ 300
    · simp [b8, s1, h1, c, show ((szD x : Nat) : Int) ≤ 300 by omega]
    · simp [b8, s1, h1, c, show ¬ ((szD x : Nat) : Int) ≤ 300 by omega]
  · refine (phi_succ rfl).trans (run_ret rfl ?_)
    by_cases c : szD x ≤ 300
    · simp [b19, s2, h2, c, show ((szD x : Nat) : Int) ≤ 300 by omega]
    · simp [b19, s2, h2, c, show ¬ ((szD x : Nat) : Int) ≤ 300 by omega]
end
section
variable {Φ : FT} {F n : Nat}
theorem neD_self {x : Rf.D} (h : pl x = true) (d : x.depth ≤ 190) : cmpK .ne x x = .ok (.bool false) := by
  have e : cmpD .ne x x = some false := by
    show (if eqOk x x then some (!PyData.eqv x x) else none) = _
    rw [if_pos (eqOk_pl h h d), PySem.SeqAt.eqv_refl _ (pl_lay h)]; rfl
  rw [cmpK, e]; rfl
theorem next_step5 (hF : 4000 ≤ F) {x : Rf.D} {v : Nat} (hx : Fm x (v : Nat)) {m : Nat} (hm : m ≤ 110) (hb : 3 * (v : Int) ≤ 2 * 2 ^ (m + 1)) {d : Nat} (hd : 12 ≤ d) (H : NextOk F m ((v + 1 : Nat) : Int) (d - 3)) : ∃ y, phi TB F d 7 [x] = .ok y ∧ Fm y ((v + 1 : Nat) : Int) := by
  obtain ⟨ts, rfl, hvv, nf, fs⟩ := hx.inv
  obtain ⟨k, rfl⟩ : ∃ k, d = k + 3 := ⟨d - 3, by omega⟩
  have ex := top_exp nf (k := m) (B := 3 * (v : Int)) (by omega) (by omega) hb
  have ln := len_exp nf ex
  rw [List.length_map] at ln
  have e1 : ((v + 1 : Nat) : Int) = val ((ts ++ [(1, 0, PyData.tuple [])]).map tm) := by
    rw [List.map_append, val_app, ← hvv]
    rfl
  rw [e1] at H ⊢
  obtain ⟨y, hy, fy⟩ := gath_ok (F := F) (n := k + 1) (m := m) hF (by omega) hinj (ps := ts ++ [(1, 0, PyData.tuple [])]) (fun t ht => by
    rcases List.mem_append.mp ht with ht | ht
    · have e := ex (tm t) (List.mem_map.mpr ⟨t, ht, rfl⟩)
      have e : t.2.1 ≤ m := e
      exact ⟨fs t ht, by show t.2.1 ≤ 127; omega, depN (fs t ht) (by omega), e⟩
    · rw [List.mem_singleton.mp ht]
      exact ⟨fm0, by decide, by decide, Nat.zero_le _⟩) (by rw [List.length_append, List.length_singleton]; omega) (by rw [pw_app, pw_nf nf]; simp only [pw2]; omega) (by rw [pw_app, pw_nf nf]; simp only [pw2]; omega) H
  refine ⟨y, (phi_succ rfl).trans (run_ret rfl ?_), fy⟩
  have hl : binK .add (.list (ts.map tD)) (.list [.tuple [.int 1, .tuple []]]) = .ok (.list ((ts ++ [(1, 0, PyData.tuple [])]).map tD)) := by
    rw [binK_lst (by rw [List.length_map, List.length_singleton]; omega), List.map_append]
    rfl
  have hli : bltK .list [.tuple (ts.map tD)] = .ok (.list (ts.map tD)) := rfl
  show Rf.execs _ F b7 [.d (.tuple (ts.map tD))] = _
  simp only [b7, x_cons, x_ret, e_call, es_cons, es_nil, e_bin, e_blt, e_var, e_lst, e_tup, e_con, List.getElem?_cons_zero, varK_d, Res.bind_ok, hli, hl, hy, Out.ofR_ok, Out.seq_ret]
theorem next5_ok (hF : 4000 ≤ F) {v : Nat} {x : Rf.D} (hv : (v : Int) ≤ 2 ^ 98) (hx : Fm x (v : Nat)) {d : Nat} (hd : 30 ≤ d) : ∃ y, phi TB F d 7 [x] = .ok y ∧ Fm y ((v + 1 : Nat) : Int) := by
  refine next_step5 hF hx (m := 100) (by decide) (by have := two_mono (i := 98) (j := 101) (by decide); have e : (2 : Int) ^ 101 = 8 * 2 ^ 98 := by decide
                                                     omega) (by omega) fun e x hx nd q hq => next_ok hF 4 (by decide) ?_ hx q (by omega)
  show e ≤ 100000
  have e2 : (2 : Int) ^ 101 = 8 * 2 ^ 98 := by decide
  rcases nd with h | h | h
  · omega
  · have := pow_lt_of (t := e + 1) (k := 100) h (by omega)
    omega
  · have := two_pos (e + 1)
    omega
theorem sg_ok {x : Rf.D} {e : Nat} (hx : Fm x (e : Nat)) : ∃ c : Int, phi TB F (n + 1) 3 [x] = .ok (.int c) ∧ ¬ c < 0 := by
  have s : phi TB F (n + 1) 3 [x] = .ok (.int (sgn (e : Nat))) := (phi_succ rfl).trans (sign_run hx)
  exact ⟨_, s, by unfold sgn; split; decide; split; omega; decide⟩
theorem nf_gap : ∀ {ts : List T3}, Nf (ts.map tm) → ∀ (j : Nat) (t u : T3), ts[j]? = some t → ts[j + 1]? = some u → u.2.1 + 2 ≤ t.2.1
  | [], _, j, t, u, h, _ => by simp at h
  | [w], _, j, t, u, _, h => by simp at h
  | w :: y :: r, nf, 0, t, u, h, g => by
    simp at h g
    subst h; subst g
    exact nf.2.1 (tm y) rfl
  | w :: y :: r, nf, j + 1, t, u, h, g => nf_gap (ts := y :: r) nf.2.2 j t u (by simpa using h) (by simpa using g)
end
section
variable {Φ : FT} {F n : Nat}
theorem c_ofN {v : Int} (h1 : -(2 ^ 3000) ≤ v) (h2 : v ≤ 2 ^ 3000) : ∃ x, phi TB F (n + 7) 16 [.int v] = .ok x ∧ Fm x v ∧ x.depth ≤ 13 := by
  obtain ⟨x, a, b, c⟩ := of_ok (F := F) 6 (v := v) (by decide) (by omega) h1 h2 n
  rw [show 6 + n + 1 = n + 7 by omega] at a
  exact ⟨x, a, b, c⟩
theorem c_two {m : Nat} (hm : m ≤ 100000) : phi TB F (n + 1) 15 [.int (m : Nat)] = .ok (.int (2 ^ m)) := by
  have : ∃ x, Fdef.run ⟨1, 3, b15⟩ (phi TB F n) F [.int (m : Nat)] = .ok x ∧ x = .int (2 ^ m) := by
    refine run_of rfl ?_
    have r := srcK_rn (n := m) (by omega)
    simp [b15, r]
    refine Is.for (fun i e => ∃ s2 : Slot, e = [.d (.int (m : Nat)), .d (.int (2 ^ i)), s2]) ⟨_, rfl⟩ ?_ ?_
    · rintro i x e hx ⟨s2, rfl⟩
      obtain ⟨hi, rfl⟩ := rng_get hx
      simp [turnB, bindT, b15_1, Int.pow_succ]
    · rintro e ⟨s2, rfl⟩
      rw [rng_len]
      simp
  obtain ⟨x, h, rfl⟩ := this
  exact (phi_succ rfl).trans h
theorem is_none {x : Rf.D} (h : x ≠ .none) (h2 : flatD x = true) : cmpK .is x .none = .ok (.bool false) := by
  cases x <;> first | rfl | exact absurd rfl h | (simp [flatD] at h2)
theorem sg_of : ∀ {l : List T3}, Nf (l.map tm) → ∀ t ∈ l, t.1 = 1 ∨ t.1 = -1
  | [], _, t, h => by simp at h
  | w :: r, nf, t, h => by
    rcases List.mem_cons.mp h with rfl | h
    · exact nf.1
    · exact sg_of nf.2.2 t h
end
section
variable {Φ : FT} {F n : Nat}
theorem run_nx {fn : Fdef} {Φ : FT} {F : Nat} {args : List Rf.D} {e : Sl} (hl : args.length = fn.np) (h : Rf.execs Φ F fn.body (args.map .d ++ List.replicate (fn.ns - fn.np) .un) = .nx e) : fn.run Φ F args = .ok .none := by
  unfold Fdef.run
  rw [if_pos hl, h]
theorem run_ex {fn : Fdef} {Φ : FT} {F : Nat} {args : List Rf.D} {c : Nat} {e : Sl} (hl : args.length = fn.np) (h : Rf.execs Φ F fn.body (args.map .d ++ List.replicate (fn.ns - fn.np) .un) = .ex c e) : fn.run Φ F args = .ex c := by
  unfold Fdef.run
  rw [if_pos hl, h]
theorem td_ht : ∀ (h : Nat) {x : Rf.D}, TD h x → htD x ≤ (h : Nat)
  | 0, x, d => by
    have d : x = .tuple [] := d
    subst d
    simp only [htD, htL]; omega
  | h + 1, x, d => by
    obtain ⟨ts, rfl, hl, hs⟩ := d
    simp only [htD]
    clear hl
    induction ts with
    | nil => simp only [List.map_nil, htL]; omega
    | cons t r ih =>
      rw [htL_cons]
      have a := td_ht h (hs t (List.mem_cons_self ..))
      have b := ih fun u hu => hs u (List.mem_cons_of_mem _ hu)
      omega
theorem td_fm : ∀ {k : Nat}, k ≤ 6 → ∀ {x : Rf.D} {v : Int}, Fm x v → (k = 0 → v = 0) → v ≤ 2 ^ dl k → -(2 ^ dl k) ≤ v → TD k x
  | 0, _, x, v, hx, hz, _, _ => by
    have e := hz rfl
    subst e
    exact hx.uniq _ (Fm.mk [] trivial fun t ht => by simp at ht)
  | k + 1, hk, x, v, hx, _, h1, h2 => by
    obtain ⟨ts, rfl, rfl, nf, fm⟩ := hx.inv
    have ex := exp_le nf ⟨h1, h2⟩
    have le : dl (k + 1) ≤ 10000 := by
      match k, hk with
      | 0, _ => decide
      | 1, _ => decide
      | 2, _ => decide
      | 3, _ => decide
      | 4, _ => decide
      | 5, _ => decide
    have ln := len_exp nf ex
    rw [List.length_map] at ln
    refine ⟨ts, rfl, by omega, fun t ht => ?_⟩
    obtain ⟨a, b⟩ := dl_step (n := k) (by omega) (ex (tm t) (List.mem_map.mpr ⟨t, ht, rfl⟩))
    exact td_fm (k := k) (by omega) (fm t ht) (fun z => by rw [show t.2.1 = 0 from a z]; rfl) b (by have := two_pos (dl k); omega)
theorem td_big {x : Rf.D} {v : Int} (hx : Fm x v) (h1 : -(2 ^ 98) ≤ v) (h2 : v ≤ 2 ^ 98) : TD 6 x := by
  have m : (2 : Int) ^ 98 ≤ 2 ^ dl 6 := two_mono (by decide)
  exact td_fm (k := 6) (by decide) hx nofun (by omega) (by omega)
theorem td_num {ts : List T3} (hl : ts.length ≤ 100000) (fs : ∀ t ∈ ts, ∃ v : Int, Fm t.2.2 v ∧ -(2 ^ 98) ≤ v ∧ v ≤ 2 ^ 98) : TD 7 (.tuple (ts.map tD)) := ⟨ts, rfl, hl, fun t ht => let ⟨v, a, b, c⟩ := fs t ht; td_big a b c⟩
end
end My

set_option Elab.async false
set_option linter.all false
set_option maxRecDepth 100000
set_option maxHeartbeats 4000000
namespace My
open PySem PySem.Spec PyProof.Rows L2 Rf
section
variable {Φ : FT} {F n : Nat}
/-! ### plus -/
theorem next_big (hF : 4000 ≤ F) {m : Nat} (hm : m ≤ 1000) {V : Int} (h1 : -(2 ^ m) ≤ V) (h2 : V ≤ 2 ^ m) {d : Nat} (hd : 24 ≤ d) : NextOk F m V d := fun e x hx nd q hq => next_ok hF 4 (by decide) (by
  show e ≤ 100000
  have e2 : (2 : Int) ^ (m + 1) = 2 * 2 ^ m := by rw [two_add, Int.mul_comm]; rfl
  rcases nd with h | h | h
  · omega
  · have := pow_lt_of (t := e + 1) (k := m) h (by omega)
    omega
  · have := pow_lt_of (t := e + 1) (k := m) (c := 3 * -V) (by omega) (by omega)
    omega) hx q (by omega)
theorem fm_low {x : Rf.D} {v : Int} (hx : Fm x v) {m : Nat} (h1 : -(2 ^ m) ≤ v) (h2 : v ≤ 2 ^ m) : ∃ ts : List T3, x = .tuple (ts.map tD) ∧ v = val (ts.map tm) ∧ Nf (ts.map tm) ∧ (∀ t ∈ ts, Fm t.2.2 (t.2.1 : Nat) ∧ t.2.1 ≤ m) ∧ ts.length ≤ m + 1 := by
  obtain ⟨ts, rfl, hv, nf, fs⟩ := hx.inv
  have ex := exp_le nf (k := m) (by rw [← hv]; exact ⟨h2, h1⟩)
  have ln := len_exp nf ex
  rw [List.length_map] at ln
  exact ⟨ts, rfl, hv, nf, fun t ht => ⟨fs t ht, ex (tm t) (List.mem_map.mpr ⟨t, ht, rfl⟩)⟩, ln⟩
theorem c_plus (hF : 4000 ≤ F) {a b : Rf.D} {v w : Int} (ha : Fm a v) (hb : Fm b w) (a1 : -(2 ^ 110) ≤ v) (a2 : v ≤ 2 ^ 110) (b1 : -(2 ^ 110) ≤ w) (b2 : w ≤ 2 ^ 110) : ∃ y, phi TB F (n + 30) 10 [a, b] = .ok y ∧ Fm y (v + w) := by
  obtain ⟨ts, rfl, hv, nf, fs, ln⟩ := fm_low ha a1 a2
  obtain ⟨us, rfl, hw, nf2, fs2, ln2⟩ := fm_low hb b1 b2
  have e1 : v + w = val ((ts ++ us).map tm) := by rw [List.map_append, val_app, ← hv, ← hw]
  have e111 : (2 : Int) ^ 111 = 2 * 2 ^ 110 := by rw [show 111 = 110 + 1 from rfl, two_add, Int.mul_comm]; rfl
  have nx : NextOk F 111 (val ((ts ++ us).map tm)) 27 := next_big hF (by decide) (by rw [← e1]; generalize (2 : Int) ^ 110 = g at *; omega) (by rw [← e1]; generalize (2 : Int) ^ 110 = g at *; omega) (by decide)
  obtain ⟨y, hy, fy⟩ := gath_ok (F := F) (n := n + 28) (m := 111) hF (by omega) hinj (ps := ts ++ us) (fun t ht => by
    rcases List.mem_append.mp ht with ht | ht
    · have := fs t ht
      exact ⟨this.1, by show t.2.1 ≤ 127; omega, depN this.1 (by omega), by omega⟩
    · have := fs2 t ht
      exact ⟨this.1, by show t.2.1 ≤ 127; omega, depN this.1 (by omega), by omega⟩) (by rw [List.length_append]; omega) (by rw [pw_app, pw_nf nf, pw_nf nf2]; omega) (by rw [pw_app, pw_nf nf, pw_nf nf2]; omega)
    (fun e x hx nd q hq => nx e x hx nd q (by omega))
  refine ⟨y, (phi_succ rfl).trans (run_ret rfl ?_), by rw [e1]; exact fy⟩
  have hl : binK .add (.list (ts.map tD)) (.list (us.map tD)) = .ok (.list ((ts ++ us).map tD)) := by
    rw [binK_lst (by rw [List.length_map, List.length_map]; omega), List.map_append]
  have hli : ∀ zs : List Rf.D, zs.length ≤ 1000 → bltK .list [.tuple zs] = .ok (.list zs) := fun zs _ => rfl
  show Rf.execs _ F b10 [.d (.tuple (ts.map tD)), .d (.tuple (us.map tD))] = _
  have l1 := hli (ts.map tD) (by rw [List.length_map]; omega)
  have l2 := hli (us.map tD) (by rw [List.length_map]; omega)
  simp only [b10, x_cons, x_ret, e_call, es_cons, es_nil, e_bin, e_blt, e_var, List.getElem?_cons_succ, List.getElem?_cons_zero, varK_d, Res.bind_ok, l1, l2, hl, hy, Out.ofR_ok, Out.seq_ret]
/-! ### shifted -/
abbrev Q3 := Int × Int × Rf.D
def qD (q : Q3) : Rf.D := .tuple [.int q.1, q.2.2]
def qe (q : Q3) : Int × Int := (q.1, q.2.1)
abbrev tgQ : Tgt := .tp [(.nm 3), (.nm 4)]
theorem sh_comp {y : Rf.D} {p : Int} {s0 : Slot} : ∀ {ts : List T3}, (∀ t ∈ ts, ∃ d, Φ 10 [t.2.2, y] = .ok d ∧ Fm d (t.2.1 + p)) → ∃ qs : List Q3, qs.map qe = ts.map (fun t => (t.1, (t.2.1 : Int) + p)) ∧ (∀ q ∈ qs, Fm q.2.2 q.2.1) ∧
    compL (ev Φ x11_1) (evt Φ []) tgQ (ts.map tD) [s0, .d y, .un, .un, .un] = .ok (qs.map qD)
  | [], _ => ⟨[], rfl, fun q hq => by simp at hq, by simp only [List.map_nil, compL]⟩
  | t :: r, h => by
    obtain ⟨d, d1, d2⟩ := h t (List.mem_cons_self ..)
    obtain ⟨qs, h1, h2, h3⟩ := sh_comp (s0 := s0) (ts := r) fun u hu => h u (List.mem_cons_of_mem _ hu)
    refine ⟨(t.1, (t.2.1 : Int) + p, d) :: qs, by simp only [List.map_cons, h1, qe], fun q hq => ?_, ?_⟩
    · rcases List.mem_cons.mp hq with rfl | hq
      · exact d2
      · exact h2 q hq
    · have hbt : bindT tgQ (tD t) [s0, .d y, .un, .un, .un] = some [s0, .d y, .un, .d (.int t.1), .d t.2.2] := rfl
      have e1 : ev Φ x11_1 [s0, .d y, .un, .d (.int t.1), .d t.2.2] = .ok (qD (t.1, (t.2.1 : Int) + p, d)) := by
        simp [x11_1, d1, qD]
      simp only [List.map_cons, compL, hbt, et_nil, Res.bind_ok, if_true, e1, h3]
theorem last_ix {xs : List Rf.D} {z : Rf.D} (hl : xs.length ≤ 100000) : idxK (.list (xs ++ [z])) (.int (-1)) = .ok z := by
  have e : idxD (.list (xs ++ [z])) (.int (-1)) = some z := by
    show L2.atI _ _ = _
    unfold L2.atI L2.ixN
    have hl2 : (xs ++ [z]).length = xs.length + 1 := by simp
    rw [hl2, if_neg (by decide), if_pos (by omega)]
    show (xs ++ [z])[(-1 + ((xs.length + 1 : Nat) : Int)).toNat]? = _
    rw [show (-1 + ((xs.length + 1 : Nat) : Int)).toNat = xs.length by omega, List.getElem?_append_right (Nat.le_refl _), Nat.sub_self]
    rfl
  rw [idxK, e]; rfl
theorem qD_ix {q : Q3} : idxK (qD q) (.int 1) = .ok q.2.2 := rfl
theorem shifted_run {ts : List T3} {y : Rf.D} {p : Int} (hl : ts.length ≤ 100000) (h : ∀ t ∈ ts, ∃ d, Φ 10 [t.2.2, y] = .ok d ∧ Fm d (t.2.1 + p)) (sg : ∀ d (w : Int), Fm d w → Φ 3 [d] = .ok (.int (sgn w))) :
    ∃ qs : List Q3, qs.map qe = ts.map (fun t => (t.1, (t.2.1 : Int) + p)) ∧ (∀ q ∈ qs, Fm q.2.2 q.2.1) ∧ Fdef.run ⟨2, 5, b11⟩ Φ F [.tuple (ts.map tD), y] = match qs.getLast? with
      | some q => if q.2.1 < 0 then .ex 2 else .ok (.tuple (qs.map qD))
      | none => .ok (.tuple []) := by
  obtain ⟨qs, h1, h2, h3⟩ := sh_comp (Φ := Φ) (s0 := .d (.tuple (ts.map tD))) h
  refine ⟨qs, h1, h2, ?_⟩
  have hlq : qs.length = ts.length := by have := congrArg List.length h1; simpa using this
  have hc : compK Φ x11_1 tgQ [] [.d (.tuple (ts.map tD)), .d y, .un, .un, .un] (ts.map tD) = .ok (.list (qs.map qD)) := by
    have hz : decide ((ts.map tD).length ≤ line) = true := decide_eq_true (by rw [List.length_map]; unfold line; omega)
    have hf : Rf.freeOf [.d (.tuple (ts.map tD)), .d y, .un, .un, .un] tgQ.ix = true := rfl
    have hw : wipeS [.d (.tuple (ts.map tD)), .d y, .un, .un, .un] tgQ.ix = [.d (.tuple (ts.map tD)), .d y, .un, .un, .un] := rfl
    unfold compK
    rw [hw, h3, hz, hf]
    rfl
  rcases List.eq_nil_or_concat qs with e | ⟨r, q, e⟩
  · subst e
    rw [List.getLast?_nil]
    exact run_ret rfl (by simp [b11, hc])
  · rw [List.concat_eq_append] at e
    subst e
    rw [List.getLast?_concat]
    have fq := h2 q (List.mem_append_right _ (List.mem_singleton.mpr rfl))
    have s1 := sg _ _ fq
    have hrl : r.length ≤ 100000 := by rw [List.length_append] at hlq; omega
    have ix : idxK (.list (r.map qD ++ [qD q])) (.int (-1)) = .ok (qD q) := last_ix (by rw [List.length_map]; exact hrl)
    have mp : (r ++ [q]).map qD = r.map qD ++ [qD q] := by rw [List.map_append]; rfl
    rw [mp] at hc ⊢
    have pos : (0 : Int) < ((r.map qD ++ [qD q]).length : Nat) := by rw [List.length_append, List.length_singleton]; omega
    have hlen : bltK .len [.list (r.map qD ++ [qD q])] = .ok (.int ((r.map qD ++ [qD q]).length : Nat)) := by rw [bltK_lenL]
    generalize r.map qD ++ [qD q] = Z at *
    generalize ((Z.length : Nat) : Int) = zl at *
    show _ = if q.2.1 < 0 then Res.ex 2 else Res.ok (PyData.tuple Z)
    by_cases c : q.2.1 < 0
    · rw [if_pos c]
      have s2 : sgn q.2.1 = -1 := by unfold sgn; rw [if_neg (by omega), if_pos c]
      rw [s2] at s1
      exact run_ex rfl (e := [.d (.tuple (ts.map tD)), .d y, .d (.list Z), .un, .un]) (by simp [b11, hc, hlen, -bltK_lenL, pos, ix, qD_ix, s1])
    · rw [if_neg c]
      have s2 : ¬ sgn q.2.1 < 0 := by unfold sgn; split <;> (try split) <;> omega
      exact run_ret rfl (by simp [b11, hc, hlen, -bltK_lenL, pos, ix, qD_ix, s1, s2])
end
end My

set_option Elab.async false
set_option linter.all false
set_option maxRecDepth 100000
set_option maxHeartbeats 4000000
namespace My
open PySem PySem.Spec PyProof.Rows L2 Rf
section
variable {Φ : FT} {F n : Nat}
/-! ### shift -/
def sh (p : Int) (l : List Tm) : List Tm := l.map fun t => (t.1, ((t.2 : Int) + p).toNat)
theorem nf_sh {p : Int} : ∀ {l : List Tm}, Nf l → (∀ t ∈ l, 0 ≤ (t.2 : Int) + p) → Nf (sh p l)
  | [], _, _ => trivial
  | t :: r, h, h0 => by
    refine ⟨h.1, fun u hu => ?_, nf_sh h.2.2 fun u hu => h0 u (List.mem_cons_of_mem _ hu)⟩
    cases r with
    | nil => simp [sh] at hu
    | cons w r =>
      have : u = (w.1, ((w.2 : Int) + p).toNat) := by simpa [sh] using hu.symm
      subst this
      have a := h.2.1 w rfl
      have b := h0 w (by simp)
      have c := h0 t (by simp)
      show ((w.2 : Int) + p).toNat + 2 ≤ ((t.2 : Int) + p).toNat
      omega
theorem nf_last : ∀ {l : List Tm}, Nf l → ∀ {z : Tm}, l.getLast? = some z → ∀ t ∈ l, z.2 ≤ t.2
  | [], _, z, hz, t, ht => by simp at ht
  | a :: r, h, z, hz, t, ht => by
    cases r with
    | nil =>
      rw [List.getLast?_singleton] at hz
      cases hz
      rw [List.mem_singleton.mp ht]
      exact Nat.le_refl _
    | cons b r =>
      rw [List.getLast?_cons_cons] at hz
      rcases List.mem_cons.mp ht with rfl | ht
      · exact head_le h z (List.mem_of_getLast? hz)
      · exact nf_last h.2.2 hz t ht
abbrev fitB (x : Rf.D) : Bool := decide ((szD x : Nat) ≤ 300) && decide (htD x ≤ 40)
theorem td_v {x : Rf.D} {v : Int} (hx : Fm x v) (h1 : -(2 ^ 3000) ≤ v) (h2 : v ≤ 2 ^ 3000) : TD 6 x := by
  have := two_mono (i := 3000) (j := dl 6) (by decide)
  exact td_fm (k := 6) (by decide) hx nofun (by generalize (2 : Int) ^ 3000 = g at *; omega) (by generalize (2 : Int) ^ 3000 = g at *; omega)
theorem td_ts {ts : List T3} (hl : ts.length ≤ 100000) (fs : ∀ t ∈ ts, Fm t.2.2 (t.2.1 : Nat) ∧ ((t.2.1 : Nat) : Int) ≤ 2 ^ 106) : TD 7 (.tuple (ts.map tD)) := ⟨ts, rfl, hl, fun t ht => by
  have g := two_mono (i := 106) (j := 3000) (by decide)
  have p := two_pos 106
  have q := (fs t ht).2
  refine td_v (fs t ht).1 ?_ ?_
  · generalize (2 : Int) ^ 3000 = g at *; generalize (2 : Int) ^ 106 = g1 at *; omega
  · generalize (2 : Int) ^ 3000 = g at *; generalize (2 : Int) ^ 106 = g1 at *; omega⟩
theorem c_allow {h : Nat} {x : Rf.D} (d : TD h x) {q : Nat} (hq : h ≤ q) : phi TB F (q + 3) 9 [x] = if fitB x then .ok x else .ex 3 := by
  have a := (allowed_ok (F := F) d hq).1
  by_cases c : fitB x = true
  · rw [if_pos c]
    have c : phi TB F (q + 2) 8 [x] = .ok (.bool true) := by rw [a]; exact congrArg (fun b => Res.ok (PyData.bool b)) c
    exact (phi_succ rfl).trans (run_ret rfl (by simp [b9, c]))
  · rw [if_neg c]
    have c : phi TB F (q + 2) 8 [x] = .ok (.bool false) := by rw [a]; exact congrArg (fun b => Res.ok (PyData.bool b)) (Bool.eq_false_iff.mpr c)
    exact (phi_succ rfl).trans (run_ex rfl (e := [.d x]) (by simp [b9, c]))
theorem c_sign {x : Rf.D} {v : Int} (hx : Fm x v) : phi TB F (n + 1) 3 [x] = .ok (.int (sgn v)) := (phi_succ rfl).trans (sign_run hx)
structure SArg (ts : List T3) (y : Rf.D) (p : Int) : Prop where
  nf : Nf (ts.map tm)
  fs : ∀ t ∈ ts, Fm t.2.2 (t.2.1 : Nat) ∧ ((t.2.1 : Nat) : Int) ≤ 2 ^ 104
  ln : ts.length ≤ 1000
  hy : Fm y p
  h1 : -(2 ^ 104) ≤ p
  h2 : p ≤ 2 ^ 104
theorem shifted_ok (hF : 4000 ≤ F) {ts : List T3} {y : Rf.D} {p : Int} (a : SArg ts y p) : ∃ qs : List Q3, qs.map qe = ts.map (fun t => (t.1, (t.2.1 : Int) + p)) ∧ (∀ q ∈ qs, Fm q.2.2 q.2.1) ∧ phi TB F (n + 39) 11 [.tuple (ts.map tD), y] = match qs.getLast? with
      | some q => if q.2.1 < 0 then .ex 2 else .ok (.tuple (qs.map qD))
      | none => .ok (.tuple []) := by
  have g := two_mono (i := 104) (j := 110) (by decide)
  obtain ⟨qs, h1, h2, h3⟩ := shifted_run (Φ := phi TB F (n + 38)) (F := F) (ts := ts) (y := y) (p := p) (by have := a.ln; omega) (fun t ht => by
    have q := a.fs t ht
    have b1 := a.h1
    have b2 := a.h2
    have q2 := q.2
    exact c_plus (F := F) (n := n + 8) hF q.1 a.hy (by have := two_pos 110; omega) (by omega) (by omega) (by omega)) fun d w hd => c_sign hd
  exact ⟨qs, h1, h2, (phi_succ rfl).trans h3⟩
theorem shift_neg (hF : 4000 ≤ F) {ts : List T3} {y : Rf.D} {p : Int} (a : SArg ts y p) (hn : ∃ t ∈ ts, ((t.2.1 : Nat) : Int) + p < 0) : phi TB F (n + 40) 12 [.tuple (ts.map tD), y] = .ex 2 := by
  obtain ⟨qs, h1, h2, h3⟩ := shifted_ok (n := n) hF a
  obtain ⟨t, ht, hlt⟩ := hn
  have hg : (qs.getLast?).map qe = (ts.getLast?).map fun t => (t.1, (t.2.1 : Int) + p) := by rw [← List.getLast?_map, ← List.getLast?_map, h1]
  cases ez : ts.getLast? with
  | none =>
    rw [List.getLast?_eq_none_iff] at ez
    subst ez
    simp at ht
  | some z =>
    rw [ez] at hg
    cases eq : qs.getLast? with
    | none => rw [eq] at hg; simp at hg
    | some q =>
      rw [eq] at hg h3
      have e2 : q.2.1 = (z.2.1 : Int) + p := by
        have : qe q = (z.1, (z.2.1 : Int) + p) := by simpa using hg
        exact congrArg Prod.snd this
      have lz := nf_last a.nf (z := tm z) (by rw [List.getLast?_map, ez]; rfl) (tm t) (List.mem_map.mpr ⟨t, ht, rfl⟩)
      have lz : z.2.1 ≤ t.2.1 := lz
      have c : q.2.1 < 0 := by omega
      have h3 : phi TB F (n + 39) 11 [.tuple (ts.map tD), y] = .ex 2 := by rw [h3]; exact if_pos c
      exact (phi_succ rfl).trans (run_ex rfl (e := [.d (.tuple (ts.map tD)), .d y]) (by simp [b12, h3]))
theorem shift_ok (hF : 4000 ≤ F) {ts : List T3} {y : Rf.D} {p : Int} (a : SArg ts y p) (hn : ∀ t ∈ ts, 0 ≤ ((t.2.1 : Nat) : Int) + p) : ∃ us : List T3, us.map tm = sh p (ts.map tm) ∧ Nf (us.map tm) ∧ (∀ u ∈ us, Fm u.2.2 (u.2.1 : Nat)) ∧
    phi TB F (n + 40) 12 [.tuple (ts.map tD), y] = if fitB (.tuple (us.map tD)) then .ok (.tuple (us.map tD)) else .ex 3 := by
  obtain ⟨qs, h1, h2, h3⟩ := shifted_ok (n := n) hF a
  have hq : ∀ q ∈ qs, 0 ≤ q.2.1 ∧ q.2.1 ≤ 2 ^ 105 := fun q hq => by
    have m : qe q ∈ ts.map (fun t => (t.1, (t.2.1 : Int) + p)) := by rw [← h1]; exact List.mem_map.mpr ⟨q, hq, rfl⟩
    obtain ⟨t, ht, e⟩ := List.mem_map.mp m
    have e2 : (t.2.1 : Int) + p = q.2.1 := congrArg Prod.snd e
    have q1 := (a.fs t ht).2
    have q2 := a.h2
    have q3 := hn t ht
    have e105 : (2 : Int) ^ 105 = 2 * 2 ^ 104 := by rw [show 105 = 104 + 1 from rfl, two_add, Int.mul_comm]; rfl
    generalize (2 : Int) ^ 104 = g at *
    omega
  have hlq : qs.length = ts.length := by have := congrArg List.length h1; simpa using this
  have e1 : (qs.map fun q => ((q.1, q.2.1.toNat, q.2.2) : T3)).map tD = qs.map qD := by rw [List.map_map]; rfl
  have e2 : (qs.map fun q => ((q.1, q.2.1.toNat, q.2.2) : T3)).map tm = sh p (ts.map tm) := by
    have : (qs.map qe).map (fun w => ((w.1, w.2.toNat) : Tm)) = sh p (ts.map tm) := by
      rw [h1, sh, List.map_map, List.map_map]
      rfl
    rw [← this, List.map_map, List.map_map]
    rfl
  have nf : Nf (sh p (ts.map tm)) := nf_sh a.nf fun t ht => by
    obtain ⟨u, hu, rfl⟩ := List.mem_map.mp ht
    exact hn u hu
  have fs : ∀ u ∈ (qs.map fun q => ((q.1, q.2.1.toNat, q.2.2) : T3)), Fm u.2.2 (u.2.1 : Nat) ∧ ((u.2.1 : Nat) : Int) ≤ 2 ^ 106 := fun u hu => by
    obtain ⟨q, hqm, rfl⟩ := List.mem_map.mp hu
    have b := hq q hqm
    have g := two_mono (i := 105) (j := 106) (by decide)
    have e : ((q.2.1.toNat : Nat) : Int) = q.2.1 := Int.toNat_of_nonneg b.1
    show Fm q.2.2 ((q.2.1.toNat : Nat) : Int) ∧ ((q.2.1.toNat : Nat) : Int) ≤ 2 ^ 106
    rw [e]
    exact ⟨h2 q hqm, by omega⟩
  refine ⟨qs.map fun q => (q.1, q.2.1.toNat, q.2.2), e2, by rw [e2]; exact nf, fun u hu => (fs u hu).1, ?_⟩
  have h4 : phi TB F (n + 39) 11 [.tuple (ts.map tD), y] = .ok (.tuple (qs.map qD)) := by
    rw [h3]
    cases eq : qs.getLast? with
    | none =>
      rw [List.getLast?_eq_none_iff] at eq
      subst eq
      rfl
    | some q => exact if_neg (by have := hq q (List.mem_of_getLast? eq); omega)
  have al := c_allow (F := F) (td_ts (by rw [List.length_map, hlq]; have := a.ln; omega) fs) (q := n + 36) (by omega)
  rw [e1] at al ⊢
  have al : phi TB F (n + 39) 9 [.tuple (qs.map qD)] = if fitB (.tuple (qs.map qD)) then .ok (.tuple (qs.map qD)) else .ex 3 := al
  refine (phi_succ rfl).trans ?_
  by_cases c : fitB (.tuple (qs.map qD)) = true
  · rw [if_pos c] at al ⊢
    exact run_ret rfl (by simp [b12, h4, al])
  · rw [if_neg c] at al ⊢
    exact run_ex rfl (e := [.d (.tuple (ts.map tD)), .d y]) (by simp [b12, h4, al])
end
end My

set_option Elab.async false
set_option linter.all false
set_option maxRecDepth 100000
set_option maxHeartbeats 4000000
namespace My
open PySem PySem.Spec PyProof.Rows L2 Rf
section
variable {Φ : FT} {F n : Nat}
/-! ### few terms -/
theorem wt_nat (k : Nat) (v : Int) (p : Nat) : ∀ c : Nat, wt k (v + c * 2 ^ p) ≤ wt k v + c ∧ wt k (v - c * 2 ^ p) ≤ wt k v + c
  | 0 => by simp
  | c + 1 => by
    have ih := wt_nat k v p c
    have a := (wt_pow p k (v + c * 2 ^ p)).1
    have b := (wt_pow p k (v - c * 2 ^ p)).2
    have e : ((c + 1 : Nat) : Int) * 2 ^ p = c * 2 ^ p + 2 ^ p := by rw [Int.natCast_add, Int.add_mul]; simp
    rw [e]
    generalize (c : Int) * 2 ^ p = x at *
    generalize (2 : Int) ^ p = y at *
    rw [show v + (x + y) = v + x + y by omega, show v - (x + y) = v - x - y by omega]
    omega
theorem wt_mul (k : Nat) (v : Int) (p : Nat) (c : Int) : wt k (v + c * 2 ^ p) ≤ wt k v + c.natAbs := by
  rcases Int.natAbs_eq c with e | e
  · have := (wt_nat k v p c.natAbs).1
    rw [← e] at this
    exact this
  · have := (wt_nat k v p c.natAbs).2
    have e2 : v - ((c.natAbs : Nat) : Int) * 2 ^ p = v + c * 2 ^ p := by
      have : c = -((c.natAbs : Nat) : Int) := e
      generalize ((c.natAbs : Nat) : Int) = z at *
      subst this
      rw [Int.neg_mul]; omega
    rw [e2] at this
    exact this
theorem wt_zero : ∀ k : Nat, wt k 0 = 0
  | 0 => rfl
  | k + 1 => by rw [wt_even (by decide)]; exact wt_zero k
theorem len_wt {l : List Tm} (h : Nf l) : ∃ k, l.length = wt k (val l) := by
  have p : ((val l).natAbs : Int) ≤ 2 ^ (val l).natAbs := by
    have : ((2 ^ (val l).natAbs : Nat) : Int) = 2 ^ (val l).natAbs := by rw [Int.natCast_pow]; rfl
    rw [← this]
    exact Int.ofNat_le.mpr (Nat.le_of_lt Nat.lt_two_pow_self)
  generalize hk : (val l).natAbs = k at *
  have h1 : -(2 ^ k) ≤ val l := by omega
  have h2 : val l ≤ 2 ^ k := by omega
  have e := nf_is h h1 h2
  have q := (nfl_ok k (val l) 0 h1 h2).ln
  exact ⟨k + 1, by rw [← q, ← e]⟩
/-- a model: few terms, each in bounds -/
structure CA (L : List Ct) : Prop where
  ex : ∃ n2 B, Dc L n2 B KX ∧ n2 ≤ 60 ∧ 2 * (B + 3) * n2 ≤ 8120
  ln : ∀ l, Nf l → val l = dv L → l.length ≤ 50
def KM (l : List Int) (a many : Int) (i : Nat) (e : Sl) : Prop := ∃ (L : List Ct) (s4 s5 : Slot), e = [.d (.list (il l)), .d (.int a), .d (.int many), .od (rep L), s4, s5] ∧ Dc L i (3 * i) KX ∧ ∀ k, wt k (dv L) ≤ 3 * i
theorem c_model {l : List Int} (hl : l ≠ []) (hs : Sm l) {a many : Int} (h0 : 0 ≤ many) (hm : many ≤ 5) : ∃ L, phi TB F (n + 3) 21 [.list (il l), .int a, .int many] = .ok (.dict (rep L)) ∧ CA L := by
  obtain ⟨m, rfl⟩ := Int.eq_ofNat_of_zero_le h0
  have : ∃ x, Fdef.run ⟨3, 6, b21⟩ (phi TB F (n + 2)) F [.list (il l), .int a, .int (m : Nat)] = .ok x ∧ ∃ L, x = .dict (rep L) ∧ CA L := by
    refine run_of rfl ?_
    have hr := srcK_rn (n := m) (by omega)
    simp [b21, hr]
    refine Is.for (fun i e => KM l a m i e) ⟨[], _, _, rfl, ⟨by simp [Nd], by simp, fun w hw => by simp at hw⟩, fun k => by rw [show dv [] = 0 from rfl, wt_zero]; exact Nat.zero_le _⟩ ?_ ?_
    · rintro i x e hx ⟨L, s4, s5, rfl, dc, fw⟩
      obtain ⟨hi, rfl⟩ := rng_get hx
      rw [Int.zero_add]
      obtain ⟨p, p0, p1, p2⟩ := c_exp (F := F) (n := n) hl hs (a := a + 5 * (i : Int))
      obtain ⟨q, q0, q1, q2⟩ := c_pick (F := F) (n := n + 1) hl hs (a := a + 5 * (i : Int) + 4) (many := 5) (by decide)
      obtain ⟨c, c1, c2⟩ := pick5 q0 q1
      obtain ⟨p, rfl⟩ := Int.eq_ofNat_of_zero_le p0
      have mx : bltK .max [.int 0, .int (p : Nat)] = .ok (.int (p : Nat)) := by
        have e : (if (p : Int) > 0 then (p : Int) else 0) = (p : Int) := by split <;> omega
        rw [bltK_max, e]
      have hpk : p ≤ KX := by
        have : (p : Int) ≤ ((2 ^ 96 : Nat) : Int) := p1
        exact Int.ofNat_le.mp this
      have dg := dget_rep (L := L) (k := p)
      have hln : L.length < line := by have := dc.len; unfold line; omega
      have gb := dc.get p
      have hb : turnB (Rf.execs (phi TB F (n + 2)) F b21_1) (.nm 4) (.int (i : Nat)) [.d (.list (il l)), .d (.int a), .d (.int (m : Nat)), .od (rep L), s4, s5] = .nx [.d (.list (il l)), .d (.int a), .d (.int (m : Nat)), .od (rep (put L p (My.get L p + c))), .d (.int (i : Nat)), .d (.int (p : Nat))] := by
        have sd := fun e => setd_rep (L := L) (i := 3) (k := p) (c := My.get L p + c) (e := e) hln
        simp only [turnB, bindT, List.length_cons, List.length_nil, Nat.reduceAdd, Nat.reduceLT, if_true, List.set_cons_succ, List.set_cons_zero]
        simp [b21_1, p2, mx, dg, q2, c2, sd, -bltK_max, -dgetV_i]
      rw [hb, Turn_nx]
      refine ⟨_, _, _, rfl, dc.put (B' := 3 * (i + 1)) hpk (by omega) (by omega), fun k => ?_⟩
      rw [put_dv dc.nd, show My.get L p + c - My.get L p = c by omega]
      have := wt_mul k (dv L) p c
      have := fw k
      omega
    · rintro e ⟨L, s4, s5, rfl, dc, fw⟩
      rw [rng_len] at dc fw
      simp
      exact ⟨L, rfl, ⟨5, 15, dc.mono (by omega) (by omega), by decide, by decide⟩, fun l nf e => by
        obtain ⟨k, h⟩ := len_wt nf
        have := fw k
        rw [h, e]
        omega⟩
  obtain ⟨x, h, L, rfl, dc⟩ := this
  exact ⟨L, (phi_succ rfl).trans h, dc⟩
/-! ### rows and number of a model -/
theorem Dc.up {L : List Ct} {n2 B Kx Ky : Nat} (h : Dc L n2 B Kx) (hk : Kx ≤ Ky) : Dc L n2 B Ky := ⟨h.nd, h.len, fun w hw => ⟨(h.bd w hw).1, Nat.le_trans (h.bd w hw).2 hk⟩⟩
structure Num (F : Nat) (L : List Ct) (Kx : Nat) (ts : List T3) : Prop where
  nf : Nf (ts.map tm)
  vl : val (ts.map tm) = dv L
  fs : ∀ t ∈ ts, Fm t.2.2 (t.2.1 : Nat) ∧ t.2.1 ≤ Kx + 9000
  rows : ∀ n, phi TB F (n + 1) 22 [.dict (rep L)] = .ok (.list ((ts.map tm).map rD))
  num : ∀ n, phi TB F (n + 8) 23 [.dict (rep L)] = .ok (.tuple (ts.map tD))
theorem Num.fm {F : Nat} {L : List Ct} {Kx : Nat} {ts : List T3} (h : Num F L Kx ts) : Fm (.tuple (ts.map tD)) (dv L) := by
  have := Fm.mk ts h.nf fun t ht => (h.fs t ht).1
  rw [h.vl] at this
  exact this
theorem num_ok {L : List Ct} {n2 B Kx : Nat} (dc : Dc L n2 B Kx) (hk : Kx ≤ KY) (hn : n2 ≤ 60) (hB : 2 * (B + 3) * n2 ≤ 8120) : ∃ ts, Num F L Kx ts := by
  obtain ⟨x, x1, x2, x3⟩ := c_number (F := F) (n := 0) (dc.up hk) hn hB
  obtain ⟨ts, rfl, hv, nf, fs⟩ := x2.inv
  have rw_ : ∀ n, ∃ l : List Tm, phi TB F (n + 1) 22 [.dict (rep L)] = .ok (.list (l.map rD)) ∧ l = ts.map tm ∧ ∀ t ∈ l, t.2 ≤ Kx + 9000 := fun n => by
    obtain ⟨l, l1, l2, l3, l4, l5⟩ := c_rows (F := F) (n := n) dc hn hB
    exact ⟨l, l1, val_eq l2 nf (by rw [l3, hv]), l5⟩
  refine ⟨ts, nf, hv.symm, fun t ht => ⟨fs t ht, ?_⟩, fun n => ?_, fun n => ?_⟩
  · obtain ⟨l, _, e, b⟩ := rw_ 0
    subst e
    exact b (tm t) (List.mem_map.mpr ⟨t, ht, rfl⟩)
  · obtain ⟨l, h, e, _⟩ := rw_ n
    rw [h, e]
  · obtain ⟨y, y1, y2, _⟩ := c_number (F := F) (n := n) (dc.up hk) hn hB
    rw [y1, y2.uniq _ x2]
/-! ### _law_told -/
abbrev TO : Stm := .trx 5 [(.asg (.nm 4) (.call 12 [(.var 0), (.var 1)]))] [] [(2, (.and (.not (.var 3)) (.and (.con (.bool true)) (.not (.con (.bool false)))))), (3, (.and (.var 3) (.not (.call 19 [(.var 2)]))))]
theorem told_neg {x y : Rf.D} (h : Φ 12 [x, y] = .ex 2) : Fdef.run ⟨4, 6, b25⟩ Φ F [x, y, .tuple [], .bool false] = .ok (.bool true) := by
  refine run_ret rfl ?_
  have t : Rf.exec Φ F TO [.d x, .d y, .d (.tuple []), .d (.bool false), .un, .un] = .ret (.bool true) := x_trx (c := 2) (e2 := [.d x, .d y, .d (.tuple []), .d (.bool false), .un, .un]) (by simp [h]) rfl (by simp) (by simp)
  simp [b25, t]
theorem told_pos {x y : Rf.D} {us : List Rf.D} {b : Bool} (es : cmpK .eq (.tuple us) (.tuple us) = .ok (.bool true)) (h : Φ 12 [x, y] = if b then .ok (.tuple us) else .ex 3) (h2 : Φ 19 [.tuple us] = .ok (.bool b)) : Fdef.run ⟨4, 6, b25⟩ Φ F [x, y, .tuple us, .bool true] = .ok (.bool true) := by
  refine run_ret rfl ?_
  cases b with
  | true =>
    rw [if_pos rfl] at h
    have t : Rf.exec Φ F TO [.d x, .d y, .d (.tuple us), .d (.bool true), .un, .un] = .nx [.d x, .d y, .d (.tuple us), .d (.bool true), .d (.tuple us), .un] := x_trxN (by simp [h])
    simp [b25, t, h2, es]
  | false =>
    rw [if_neg (by decide)] at h
    have t : Rf.exec Φ F TO [.d x, .d y, .d (.tuple us), .d (.bool true), .un, .un] = .ret (.bool true) := x_trx (c := 3) (e2 := [.d x, .d y, .d (.tuple us), .d (.bool true), .un, .un]) (by simp [h]) rfl (by simp) (by simp [h2])
    simp [b25, t]
end
end My

set_option Elab.async false
set_option linter.all false
set_option maxRecDepth 100000
set_option maxHeartbeats 4000000
namespace My
open PySem PySem.Spec PyProof.Rows L2 Rf
section
variable {Φ : FT} {F n : Nat}
/-! ### _law_places -/
theorem ix_last {xs : List Rf.D} {z : Rf.D} {m : Nat} (h : xs.length = m) : idxK (.list (xs ++ [z])) (.int ((m + 1 : Nat) - 1 : Int)) = .ok z := by
  have e : idxD (.list (xs ++ [z])) (.int ((m + 1 : Nat) - 1 : Int)) = some z := by
    show L2.atI _ _ = _
    refine atI_at (by omega) ?_
    rw [show (((m + 1 : Nat) : Int) - 1).toNat = xs.length by omega, List.getElem?_append_right (Nat.le_refl _), Nat.sub_self]
    rfl
  rw [idxK, e]; rfl
theorem four_ix {a b c d w : Int} (h0 : 0 ≤ w) (h1 : w < 4) : ∃ v, (v = a ∨ v = b ∨ v = c ∨ v = d) ∧ idxK (.list [.int a, .int b, .int c, .int d]) (.int w) = .ok (.int v) := by
  have : w = 0 ∨ w = 1 ∨ w = 2 ∨ w = 3 := by omega
  rcases this with rfl | rfl | rfl | rfl
  · exact ⟨a, by simp, rfl⟩
  · exact ⟨b, by simp, rfl⟩
  · exact ⟨c, by simp, rfl⟩
  · exact ⟨d, by simp, rfl⟩
theorem c_places {l : List Int} (hl : l ≠ []) (hs : Sm l) {L : List Ct} {ts : List T3} (nu : Num F L KX ts) : ∃ p : Int, -(2 ^ 101) ≤ p ∧ p ≤ 2 ^ 101 ∧ phi TB F (n + 3) 24 [.list (il l), .dict (rep L)] = .ok (.int p) := by
  obtain ⟨way, w0, w1, w2⟩ := c_pick (F := F) (n := n + 1) hl hs (a := 80) (many := 6) (by decide)
  obtain ⟨q1, a0, a1, a2⟩ := c_pick (F := F) (n := n + 1) hl hs (a := 81) (many := 1009) (by decide)
  obtain ⟨sp, s0, s1, s2⟩ := c_pick (F := F) (n := n + 1) hl hs (a := 81) (many := 2) (by decide)
  obtain ⟨c, c1, c2⟩ := pick2 s0 s1
  obtain ⟨q2, b0, b1, b2⟩ := c_pick (F := F) (n := n + 1) hl hs (a := 82) (many := 100) (by decide)
  obtain ⟨q3, d0, d1, d2⟩ := c_pick (F := F) (n := n + 1) hl hs (a := 83) (many := 9) (by decide)
  have t2 := c_twoZ (F := F) (n := n + 1) (p := q2) b0 (by omega)
  have g1 : (2 : Int) ^ q2.toNat ≤ 2 ^ 100 := two_mono (by omega)
  have g2 := two_pos q2.toNat
  have e100 : (2 : Int) ^ 100 = 1267650600228229401496703205376 := rfl
  have e101 : (2 : Int) ^ 101 = 2535301200456458802993406410752 := rfl
  generalize (2 : Int) ^ q2.toNat = Y at *
  have rows := nu.rows (n + 1)
  have run : ∀ r : Int, -(2 ^ 101) ≤ r → r ≤ 2 ^ 101 → Rf.execs (phi TB F (n + 2)) F b24 [.d (.list (il l)), .d (.dict (rep L)), .un, .un, .un] = .ret (.int r) → ∃ p : Int, -(2 ^ 101) ≤ p ∧ p ≤ 2 ^ 101 ∧ phi TB F (n + 3) 24 [.list (il l), .dict (rep L)] = .ok (.int p) := fun r h1 h2 h => ⟨r, h1, h2, (phi_succ rfl).trans (run_ret rfl h)⟩
  by_cases e0 : way = 0
  · subst e0
    exact run (q1 - 504) (by omega) (by omega) (by simp [b24, w2, a2])
  by_cases e1 : way = 1
  · subst e1
    have ml : binK .mul (.int c) (.int (Y + q3)) = .ok (.int (c * (Y + q3))) := binK_mull (by omega)
    have : c = 0 ∨ c = 1 ∨ c = -1 := by omega
    refine run (c * (Y + q3)) ?_ ?_ (by simp [b24, w2, s2, c2, b2, t2, d2, ml])
    · rcases this with rfl | rfl | rfl
      · omega
      · rw [Int.one_mul]; omega
      · rw [Int.neg_mul, Int.one_mul]; omega
    · rcases this with rfl | rfl | rfl
      · omega
      · rw [Int.one_mul]; omega
      · rw [Int.neg_mul, Int.one_mul]; omega
  · have fs := nu.fs
    rcases List.eq_nil_or_concat ts with e | ⟨r, z, e⟩
    · subst e
      exact run (0 - Y) (by omega) (by omega) (by simp [b24, w2, e0, e1, rows, b2, t2])
    · rw [List.concat_eq_append] at e
      subst e
      have fz := (fs z (by simp)).2
      have kx : ((z.2.1 : Nat) : Int) ≤ 79228162514264337593543950336 + 9000 := by
        have : KX = 79228162514264337593543950336 := rfl
        omega
      have mp : ((r ++ [z]).map tm).map rD = (r.map tm).map rD ++ [rD (tm z)] := by simp
      rw [mp] at rows
      have hlen : bltK .len [.list ((r.map tm).map rD ++ [rD (tm z)])] = .ok (.int ((r.length + 1 : Nat) : Int)) := by
        rw [bltK_lenL]; simp
      have ix := ix_last (xs := (r.map tm).map rD) (z := rD (tm z)) (m := r.length) (by simp)
      have i1 : idxK (rD (tm z)) (.int 1) = .ok (.int (z.2.1 : Nat)) := rfl
      have nz : ¬ ((r.length + 1 : Nat) : Int) = 0 := by omega
      generalize ((r.length + 1 : Nat) : Int) = N at *
      generalize (r.map tm).map rD ++ [rD (tm z)] = Z at *
      have E0 : 0 ≤ ((z.2.1 : Nat) : Int) := by omega
      generalize ((z.2.1 : Nat) : Int) = E at *
      obtain ⟨v, v1, v2⟩ := four_ix (a := 0 - E) (b := 1 - E) (c := 0 - E - 1) (d := E) (w := way - 2) (by omega) (by omega)
      refine run v (by rcases v1 with h | h | h | h <;> omega) (by rcases v1 with h | h | h | h <;> omega) ?_
      rw [Int.zero_sub] at v2
      simp [b24, w2, e0, e1, rows, hlen, -bltK_lenL, nz, ix, i1, v2]
end
end My

set_option Elab.async false
set_option linter.all false
set_option maxRecDepth 100000
set_option maxHeartbeats 4000000
namespace My
open PySem PySem.Spec PyProof.Rows L2 Rf
section
variable {Φ : FT} {F n : Nat}
/-! ### the terms moved -/
abbrev tgR : Tgt := .tp [(.nm 10), (.nm 11)]
theorem max_0 {z : Int} : bltK .max [.int 0, .int z] = .ok (.int ((z.toNat : Nat) : Int)) := by
  have e : (if z > 0 then z else 0) = ((z.toNat : Nat) : Int) := by split <;> omega
  rw [bltK_max, e]
theorem mv_loop {s0 s1 s2 s3 s5 s6 s7 s12 s13 s14 : Slot} {p : Int} : ∀ (l : List Tm) (M : List Ct) (b : Bool) (k : Nat) (s10 s11 : Slot), (∀ t ∈ l, t.1 = 1 ∨ t.1 = -1) → (l.Pairwise fun a b => a.2 ≠ b.2) → Dc M k 1 KY → k + l.length ≤ 60 → (∀ t ∈ l, ((t.2 : Int) + p).toNat ≤ KY) → (b = true → ∀ w ∈ M, ∀ t ∈ l, ((w.1 : Nat) : Int) ≠ t.2 + p) →
    ∃ (M' : List Ct) (b' : Bool) (r10 r11 : Slot), forL (Rf.execs Φ F b26_1) tgR (l.map rD) [s0, s1, s2, s3, .d (.int p), s5, s6, s7, .od (rep M), .d (.bool b), s10, s11, s12, s13, s14] = .nx [s0, s1, s2, s3, .d (.int p), s5, s6, s7, .od (rep M'), .d (.bool b'), r10, r11, s12, s13, s14] ∧
      Dc M' (k + l.length) 1 KY ∧ (b' = true ↔ b = true ∧ ∀ t ∈ l, 0 ≤ (t.2 : Int) + p) ∧ (b' = true → dv M' = dv M + val (sh p l))
  | [], M, b, k, s10, s11, _, _, dc, _, _, _ => ⟨M, b, s10, s11, rfl, dc, ⟨fun h => ⟨h, fun t ht => by simp at ht⟩, fun h => h.1⟩, fun _ => by simp [sh, val]⟩
  | t :: r, M, b, k, s10, s11, h1, h2, dc, hk, hy, hd => by
    have hk' : k + 1 + r.length ≤ 60 := by simp only [List.length_cons] at hk; omega
    have ht := h1 t (List.mem_cons_self ..)
    have pw := List.pairwise_cons.mp h2
    have ty := hy t (List.mem_cons_self ..)
    have hln : M.length < line := by have := dc.len; unfold line; omega
    have dc' : Dc (put M ((t.2 : Int) + p).toNat t.1) (k + 1) 1 KY := dc.put (B' := 1) ty (Nat.le_refl _) (by rcases ht with e | e <;> rw [e] <;> decide)
    have hd' : (b && decide (0 ≤ (t.2 : Int) + p)) = true → ∀ w ∈ put M ((t.2 : Int) + p).toNat t.1, ∀ u ∈ r, ((w.1 : Nat) : Int) ≠ u.2 + p := fun hb w hw u hu => by
      rw [Bool.and_eq_true, decide_eq_true_eq] at hb
      rcases put_mem hw with rfl | hw
      · have := pw.1 u hu
        show (((t.2 : Int) + p).toNat : Int) ≠ _
        omega
      · exact hd hb.1 w hw u (List.mem_cons_of_mem _ hu)
    obtain ⟨M', b', r10, r11, e1, e2, e3, e4⟩ := mv_loop (s0 := s0) (s1 := s1) (s2 := s2) (s3 := s3) (s5 := s5) (s6 := s6) (s7 := s7) (s12 := s12) (s13 := s13) (s14 := s14) r (put M ((t.2 : Int) + p).toNat t.1) (b && decide (0 ≤ (t.2 : Int) + p)) (k + 1) (.d (.int t.1)) (.d (.int (t.2 : Nat))) (fun u hu => h1 u (List.mem_cons_of_mem _ hu)) pw.2 dc' hk' (fun u hu => hy u (List.mem_cons_of_mem _ hu)) hd'
    refine ⟨M', b', r10, r11, ?_, ?_, ?_, fun hb' => ?_⟩
    · have hb : bindT tgR (rD t) [s0, s1, s2, s3, .d (.int p), s5, s6, s7, .od (rep M), .d (.bool b), s10, s11, s12, s13, s14] = some [s0, s1, s2, s3, .d (.int p), s5, s6, s7, .od (rep M), .d (.bool b), .d (.int t.1), .d (.int (t.2 : Nat)), s12, s13, s14] := rfl
      have sd := fun e => setd_rep (L := M) (i := 8) (k := ((t.2 : Int) + p).toNat) (c := t.1) (e := e) hln
      have hbody : Rf.execs Φ F b26_1 [s0, s1, s2, s3, .d (.int p), s5, s6, s7, .od (rep M), .d (.bool b), .d (.int t.1), .d (.int (t.2 : Nat)), s12, s13, s14] = .nx [s0, s1, s2, s3, .d (.int p), s5, s6, s7, .od (rep (put M ((t.2 : Int) + p).toNat t.1)), .d (.bool (b && decide (0 ≤ (t.2 : Int) + p))), .d (.int t.1), .d (.int (t.2 : Nat)), s12, s13, s14] := by
        have mx := max_0 (z := (t.2 : Int) + p)
        generalize ((t.2 : Int) + p).toNat = K at *
        cases b with
        | true => simp [b26_1, mx, sd, -bltK_max]
        | false => simp [b26_1, mx, sd, -bltK_max]
      rw [List.map_cons, forL_cons hb, hbody, Out.turn_nx, e1]
    · rw [List.length_cons, show k + (r.length + 1) = k + 1 + r.length by omega]
      exact e2
    · rw [e3, Bool.and_eq_true, decide_eq_true_eq]
      constructor
      · rintro ⟨⟨a1, a2⟩, a3⟩
        exact ⟨a1, fun u hu => by
          rcases List.mem_cons.mp hu with rfl | hu
          · exact a2
          · exact a3 u hu⟩
      · rintro ⟨a1, a2⟩
        exact ⟨⟨a1, a2 t (List.mem_cons_self ..)⟩, fun u hu => a2 u (List.mem_cons_of_mem _ hu)⟩
    · have bb := (e3.mp hb').1
      rw [Bool.and_eq_true, decide_eq_true_eq] at bb
      have no : has M ((t.2 : Int) + p).toNat = false := by
        refine Bool.eq_false_iff.mpr fun z => ?_
        obtain ⟨w, hw, e⟩ := has_mem.mp z
        exact hd bb.1 w hw t (List.mem_cons_self ..) (by omega)
      rw [e4 hb', put_dv dc.nd, get_no no]
      show _ = dv M + (t.1 * 2 ^ ((t.2 : Int) + p).toNat + val (sh p r))
      rw [Int.sub_zero]
      omega
/-! ### a turn of the law -/
mutual
theorem pl_nl : ∀ {x : Rf.D}, pl x = true → noLst x = true
  | .int _, _ => rfl
  | .tuple xs, h => by simp only [noLst]; exact pls_nl (by simpa [pl] using h)
  | .none, h => by simp [pl] at h
  | .bool _, h => by simp [pl] at h
  | .str _, h => by simp [pl] at h
  | .list _, h => by simp [pl] at h
  | .dict _, h => by simp [pl] at h
theorem pls_nl : ∀ {x : List Rf.D}, pls x = true → noLsts x = true
  | [], _ => rfl
  | x :: r, h => by
    simp only [pls, Bool.and_eq_true] at h
    simp only [noLsts, pl_nl h.1, pls_nl h.2, Bool.and_self]
end
theorem iter_run {X5 X6 C C' k : Rf.D} {s4 s5 s6 s7 s8 s9 s10 s11 s12 r10 r11 : Slot} {p : Int} {R : List Rf.D} {x y y' due : Rf.D} {M : List Ct} {b fx fy fd : Bool}
    (h24 : Φ 24 [X6, C] = .ok (.int p)) (h22 : Φ 22 [C] = .ok (.list R)) (h23 : Φ 23 [C] = .ok x) (h16 : Φ 16 [.int p] = .ok y)
    (hloop : forL (Rf.execs Φ F b26_1) tgR R [.d X5, .d X6, .d C, .d k, .d (.int p), .d (.list R), .d x, .d y, .od [], .d (.bool true), s10, s11, s12, .un, .un] = .nx [.d X5, .d X6, .d C, .d k, .d (.int p), .d (.list R), .d x, .d y, .od (rep M), .d (.bool b), r10, r11, s12, .un, .un])
    (hdue : b = true → Φ 23 [.dict (rep M)] = .ok due) (hdue0 : b = false → due = .tuple [])
    (h19x : Φ 19 [x] = .ok (.bool fx)) (h19y : Φ 19 [y] = .ok (.bool fy)) (h25 : Φ 25 [x, y, due, .bool b] = .ok (.bool true)) (h19d : Φ 19 [due] = .ok (.bool fd)) (hfl : flK due = .ok due) (h16n : Φ 16 [.int (-p)] = .ok y')
    (hback : fx = true → b = true → fd = true → Φ 12 [due, y'] = .ok x) (h0 : Φ 12 [.tuple [], y] = .ok (.tuple [])) (h1 : fx = true → Φ 12 [x, .tuple []] = .ok x) (nx : cmpK .ne x x = .ok (.bool false))
    (hd : ∀ s4 s5 s6 s7 s8 s9 s10 s11 s12 : Slot, ev Φ (.dsp2 (.con (.int 0)) (.bin .add (.con (.int 1)) (.call 14 [(.var 1), (.con (.int 1)), (.con (.int 1009))])) (.call 14 [(.var 1), (.con (.int 2)), (.con (.int 20))]) (.idx (.lst [(.con (.int 1)), (.neg (.con (.int 1)))]) (.call 14 [(.var 1), (.con (.int 3)), (.con (.int 2))]))) [.d X5, .d X6, .d C, .d k, s4, s5, s6, s7, s8, s9, s10, s11, s12, .un, .un] = .ok C') :
    ∃ t4 t5 t6 t7 t8 t9 t10 t11 t12 : Slot, Rf.execs Φ F b26_2 [.d X5, .d X6, .d C, .d k, s4, s5, s6, s7, s8, s9, s10, s11, s12, .un, .un] = .nx [.d X5, .d X6, .d C', .d k, t4, t5, t6, t7, t8, t9, t10, t11, t12, .un, .un] := by
  have ne0 : cmpK .ne (.tuple []) (.tuple []) = .ok (.bool false) := rfl
  have eL : ∀ xs : List Rf.D, srcK .lst [.list xs] = .ok xs := fun xs => rfl
  have ow : ∀ e : Sl, 8 < e.length → ownK 8 e (.dict []) = .nx (e.set 8 (.od [])) := fun e h => ownK_rep (L := []) h
  refine ⟨.d (.int p), .d (.list R), .d x, .d y, .od (rep M), .d (.bool b), r10, r11, .d due, ?_⟩
  cases b with
  | true =>
    have hdue := hdue rfl
    cases fx with
    | false => simp [b26_2, h24, h22, h23, h16, eL, ow, hloop, hdue, hfl, h19x, hd]
    | true =>
      cases fy with
      | false => simp [b26_2, h24, h22, h23, h16, eL, ow, hloop, hdue, hfl, h19x, h19y, hd]
      | true =>
        have h1 := h1 rfl
        cases fd with
        | false => simp [b26_2, h24, h22, h23, h16, eL, ow, hloop, hdue, hfl, h19x, h19y, h25, h19d, h0, h1, nx, ne0, hd]
        | true =>
          have hback := hback rfl rfl rfl
          simp [b26_2, h24, h22, h23, h16, eL, ow, hloop, hdue, hfl, h19x, h19y, h25, h19d, h16n, hback, h0, h1, nx, ne0, hd]
  | false =>
    have hdue0 := hdue0 rfl
    subst hdue0
    cases fx with
    | false => simp [b26_2, h24, h22, h23, h16, eL, ow, hloop, h19x, hd]
    | true =>
      cases fy with
      | false => simp [b26_2, h24, h22, h23, h16, eL, ow, hloop, h19x, h19y, hd]
      | true =>
        have h1 := h1 rfl
        simp [b26_2, h24, h22, h23, h16, eL, ow, hloop, h19x, h19y, h25, h0, h1, nx, ne0, hd]
end
end My

set_option Elab.async false
set_option linter.all false
set_option maxRecDepth 100000
set_option maxHeartbeats 4000000
namespace My
open PySem PySem.Spec PyProof.Rows L2 Rf
section
variable {Φ : FT} {F n : Nat}
theorem sh_sh {p : Int} {l : List Tm} (h : ∀ t ∈ l, 0 ≤ (t.2 : Int) + p) : sh (-p) (sh p l) = l := by
  unfold sh
  rw [List.map_map]
  refine (List.map_congr_left fun t ht => ?_).trans (List.map_id l)
  have := h t ht
  show (t.1, ((((t.2 : Int) + p).toNat : Int) + -p).toNat) = t
  rw [show ((((t.2 : Int) + p).toNat : Int) + -p).toNat = t.2 by omega]
theorem sh_zero {l : List Tm} : sh 0 l = l := by
  unfold sh
  refine (List.map_congr_left fun t ht => ?_).trans (List.map_id l)
  show (t.1, ((t.2 : Int) + 0).toNat) = t
  rw [show ((t.2 : Int) + 0).toNat = t.2 by omega]
theorem val_sh {m : Nat} : ∀ {l : List Tm}, val (sh (m : Nat) l) = val l * 2 ^ m
  | [] => by simp [sh, val]
  | t :: r => by
    have ih := val_sh (m := m) (l := r)
    show t.1 * 2 ^ (((t.2 : Int) + (m : Nat)).toNat) + val (sh (m : Nat) r) = (t.1 * 2 ^ t.2 + val r) * 2 ^ m
    rw [ih, show ((t.2 : Int) + (m : Nat)).toNat = t.2 + m by omega, two_add, Int.add_mul, Int.mul_assoc]
theorem nf_pw : ∀ {l : List Tm}, Nf l → l.Pairwise fun a b => a.2 ≠ b.2
  | [], _ => .nil
  | t :: r, h => by
    refine List.pairwise_cons.mpr ⟨fun u hu => ?_, nf_pw h.2.2⟩
    cases r with
    | nil => simp at hu
    | cons w r =>
      have a := h.2.1 w rfl
      rcases List.mem_cons.mp hu with rfl | hu
      · omega
      · have := head_le h.2.2 u hu
        omega
theorem fm_ts {ts : List T3} (nf : Nf (ts.map tm)) (fs : ∀ t ∈ ts, Fm t.2.2 (t.2.1 : Nat)) : Fm (.tuple (ts.map tD)) (val (ts.map tm)) := Fm.mk ts nf fs
theorem ts_eq {ts us : List T3} (nf : Nf (ts.map tm)) (fs : ∀ t ∈ ts, Fm t.2.2 (t.2.1 : Nat)) (nf2 : Nf (us.map tm)) (fs2 : ∀ t ∈ us, Fm t.2.2 (t.2.1 : Nat)) (e : ts.map tm = us.map tm) : PyData.tuple (ts.map tD) = .tuple (us.map tD) := by
  have a := fm_ts nf fs
  rw [e] at a
  exact a.uniq _ (fm_ts nf2 fs2)
/-! ### small numbers are allowed -/
theorem sz_all : (List.range 64).all (fun e => decide (SZ 5 e ≤ 21)) = true := by decide +kernel
theorem sz_small {x : Rf.D} {e : Nat} (hx : Fm x (e : Nat)) (h : e ≤ 63) : szD x ≤ 21 := by
  have d : x.depth ≤ 11 := dep_fm (n := 5) (by decide) hx nofun (by have := two_mono (i := 6) (j := dl 5) (by decide); omega) (by have := two_pos (dl 5); omega)
  rw [sz_fm 5 hx (by omega) (by omega)]
  have := List.all_eq_true.mp sz_all e (List.mem_range.mpr (by omega))
  rwa [decide_eq_true_eq] at this
theorem sz_sum : ∀ {ts : List T3}, (∀ t ∈ ts, szD t.2.2 ≤ 21) → (ts.map fun t => szD t.2.2).sum ≤ 21 * ts.length
  | [], _ => by simp
  | t :: r, h => by
    have h1 := h t (List.mem_cons_self ..)
    have h2 := sz_sum fun u hu => h u (List.mem_cons_of_mem _ hu)
    simp only [List.map_cons, List.sum_cons, List.length_cons, Nat.mul_add]; omega
theorem len_low : ∀ {b : List Tm} {t : Tm}, Nf (t :: b) → 2 * b.length ≤ t.2
  | [], _, _ => Nat.zero_le _
  | u :: b, t, h => by
    have := len_low h.2.2
    have := h.2.1 u rfl
    simp only [List.length_cons]; omega
theorem fit_small {ts : List T3} (fs : ∀ t ∈ ts, Fm t.2.2 (t.2.1 : Nat) ∧ t.2.1 ≤ 63) (ln : ts.length ≤ 12) : fitB (.tuple (ts.map tD)) = true := by
  have td := td_ts (ts := ts) (by omega) fun t ht => ⟨(fs t ht).1, by
    have e : (2 : Int) ^ 106 = 81129638414606681695789005144064 := rfl
    have := (fs t ht).2
    omega⟩
  have h := td_ht 7 td
  have s : szD (.tuple (ts.map tD)) ≤ 300 := by
    have := sz_sum (ts := ts) fun t ht => sz_small (fs t ht).1 (fs t ht).2
    simp only [szD, szL_map]
    omega
  unfold fitB
  rw [decide_eq_true s, decide_eq_true (show htD (.tuple (ts.map tD)) ≤ 40 by omega)]
  rfl
/-! ### a turn -/
theorem fit0 : fitB (.tuple []) = true := rfl
theorem c_fit {h : Nat} {x : Rf.D} (d : TD h x) (hh : h ≤ 97) : phi TB F 99 19 [x] = .ok (.bool (fitB x)) ∧ phi TB F 100 19 [x] = .ok (.bool (fitB x)) := ⟨(allowed_ok (F := F) d (q := 97) hh).2, (allowed_ok (F := F) d (q := 98) (by omega)).2⟩
theorem big104 {z : Nat} (h : z ≤ KY + 9000) : ((z : Nat) : Int) ≤ 2 ^ 104 := by
  have e : (2 : Int) ^ 104 = 20282409603651670423947251286016 := rfl
  have k : KY = 10141204801825835211973625643008 := rfl
  omega
theorem turn_ok {l : List Int} (hl : l ≠ []) (hs : Sm l) {L : List Ct} (ca : CA L) {X5 k : Rf.D} {s4 s5 s6 s7 s8 s9 s10 s11 s12 : Slot} :
    ∃ (L' : List Ct) (t4 t5 t6 t7 t8 t9 t10 t11 t12 : Slot), CA L' ∧ Rf.execs (phi TB 20000 100) 20000 b26_2 [.d X5, .d (.list (il l)), .d (.dict (rep L)), .d k, s4, s5, s6, s7, s8, s9, s10, s11, s12, .un, .un] = .nx [.d X5, .d (.list (il l)), .d (.dict (rep L')), .d k, t4, t5, t6, t7, t8, t9, t10, t11, t12, .un, .un] := by
  have hF : 4000 ≤ 20000 := by decide
  obtain ⟨n2, B, dc, dn, dB⟩ := ca.ex
  have kxy : KX ≤ KY := by decide
  obtain ⟨ts, nu⟩ := num_ok (F := 20000) dc kxy dn dB
  have lnt := ca.ln _ nu.nf nu.vl
  rw [List.length_map] at lnt
  obtain ⟨p, p1, p2, h24⟩ := c_places (n := 97) hl hs nu
  have h24 : phi TB 20000 100 24 [.list (il l), .dict (rep L)] = .ok (.int p) := h24
  have e101 : (2 : Int) ^ 101 = 2535301200456458802993406410752 := rfl
  have e104 : (2 : Int) ^ 104 = 20282409603651670423947251286016 := rfl
  have kx : KX = 79228162514264337593543950336 := rfl
  have ky : KY = 10141204801825835211973625643008 := rfl
  have G := two_mono (i := 104) (j := 3000) (by decide)
  have pb1 : -(2 ^ 3000) ≤ p := by generalize (2 : Int) ^ 3000 = g at *; omega
  have pb2 : p ≤ 2 ^ 3000 := by generalize (2 : Int) ^ 3000 = g at *; omega
  obtain ⟨y, y1, y2, y3⟩ := c_ofN (F := 20000) (n := 93) pb1 pb2
  have y1 : phi TB 20000 100 16 [.int p] = .ok y := y1
  obtain ⟨y', z1, z2, z3⟩ := c_ofN (F := 20000) (n := 93) (v := -p) (by generalize (2 : Int) ^ 3000 = g at *; omega) (by generalize (2 : Int) ^ 3000 = g at *; omega)
  have z1 : phi TB 20000 100 16 [.int (-p)] = .ok y' := z1
  have fsx : ∀ t ∈ ts, Fm t.2.2 (t.2.1 : Nat) ∧ ((t.2.1 : Nat) : Int) ≤ 2 ^ 104 := fun t ht => ⟨(nu.fs t ht).1, by have := (nu.fs t ht).2; omega⟩
  have A : SArg ts y p := ⟨nu.nf, fsx, by omega, y2, by omega, by omega⟩
  have tdx := td_ts (ts := ts) (by omega) fun t ht => ⟨(fsx t ht).1, by have := (fsx t ht).2; have e : (2 : Int) ^ 106 = 81129638414606681695789005144064 := rfl; omega⟩
  have fx := (c_fit (F := 20000) tdx (by decide)).2
  have fy := (c_fit (F := 20000) (td_v y2 pb1 pb2) (by decide)).2
  have dep15 : (PyData.tuple (ts.map tD)).depth ≤ 15 := by
    have := dep_le (ts := ts) (n := 13) fun t ht => dep13 (nu.fs t ht).1 (by have := (fsx t ht).2; have := two_mono (i := 104) (j := 10000) (by decide); generalize (2 : Int) ^ 10000 = g at *; omega) (by have := two_pos 10000; generalize (2 : Int) ^ 10000 = g at *; omega)
    simp only [PyData.depth]; omega
  have nx := neD_self nu.fm.pl (by omega : (PyData.tuple (ts.map tD)).depth ≤ 190)
  -- the loop
  obtain ⟨M, b, r10, r11, lp, lM, lb, lv⟩ := mv_loop (Φ := phi TB 20000 100) (F := 20000) (s0 := .d X5) (s1 := .d (.list (il l))) (s2 := .d (.dict (rep L))) (s3 := .d k) (s5 := .d (.list ((ts.map tm).map rD))) (s6 := .d (.tuple (ts.map tD))) (s7 := .d y) (s12 := s12) (s13 := .un) (s14 := .un) (p := p) (ts.map tm) [] true 0 s10 s11
    (fun t ht => by obtain ⟨u, hu, rfl⟩ := List.mem_map.mp ht; exact sg_of nu.nf u hu) (nf_pw nu.nf) ⟨by simp [Nd], by simp, fun w hw => by simp at hw⟩ (by rw [List.length_map]; omega)
    (fun t ht => by
      obtain ⟨u, hu, rfl⟩ := List.mem_map.mp ht
      have := (nu.fs u hu).2
      show ((u.2.1 : Int) + p).toNat ≤ KY
      omega) (fun _ w hw => by simp at hw)
  rw [List.length_map, Nat.zero_add] at lM
  -- shifts of and by nothing
  have h0 : phi TB 20000 100 12 [.tuple [], y] = .ok (.tuple []) := by
    obtain ⟨us, u1, u2, u3, u4⟩ := shift_ok (n := 60) hF (ts := []) (y := y) (p := p) ⟨trivial, fun t ht => by simp at ht, by decide, y2, by omega, by omega⟩ fun t ht => by simp at ht
    have : us = [] := by
      have := congrArg List.length u1
      simp [sh] at this
      exact this
    subst this
    rw [show fitB (.tuple (([] : List T3).map tD)) = true from fit0, if_pos rfl] at u4
    exact u4
  have h1 : fitB (.tuple (ts.map tD)) = true → phi TB 20000 100 12 [.tuple (ts.map tD), .tuple []] = .ok (.tuple (ts.map tD)) := fun hf => by
    obtain ⟨us, u1, u2, u3, u4⟩ := shift_ok (n := 60) hF (ts := ts) (y := .tuple []) (p := 0) ⟨nu.nf, fsx, by omega, Fm.zero, by decide, by decide⟩ fun t ht => by omega
    rw [sh_zero] at u1
    rw [ts_eq u2 u3 nu.nf (fun t ht => (nu.fs t ht).1) u1, if_pos hf] at u4
    exact u4
  -- the next model
  obtain ⟨c1, v0, v1, v2⟩ := c_pick (F := 20000) (n := 99) hl hs (a := 1) (many := 1009) (by decide)
  obtain ⟨c2, w0, w1, w2⟩ := c_pick (F := 20000) (n := 99) hl hs (a := 2) (many := 20) (by decide)
  obtain ⟨c3, x0, x1, x2⟩ := c_pick (F := 20000) (n := 99) hl hs (a := 3) (many := 2) (by decide)
  have v2 : phi TB 20000 100 14 [.list (il l), .int 1, .int 1009] = .ok (.int c1) := v2
  have w2 : phi TB 20000 100 14 [.list (il l), .int 2, .int 20] = .ok (.int c2) := w2
  have x2 : phi TB 20000 100 14 [.list (il l), .int 3, .int 2] = .ok (.int c3) := x2
  obtain ⟨c, g1, g2⟩ := pick2 x0 x1
  obtain ⟨m, rfl⟩ := Int.eq_ofNat_of_zero_le w0
  have hd : ∃ L' : List Ct, CA L' ∧ ∀ s4 s5 s6 s7 s8 s9 s10 s11 s12 : Slot, ev (phi TB 20000 100) (.dsp2 (.con (.int 0)) (.bin .add (.con (.int 1)) (.call 14 [(.var 1), (.con (.int 1)), (.con (.int 1009))])) (.call 14 [(.var 1), (.con (.int 2)), (.con (.int 20))]) (.idx (.lst [(.con (.int 1)), (.neg (.con (.int 1)))]) (.call 14 [(.var 1), (.con (.int 3)), (.con (.int 2))]))) [.d X5, .d (.list (il l)), .d (.dict (rep L)), .d k, s4, s5, s6, s7, s8, s9, s10, s11, s12, .un, .un] = .ok (.dict (rep L')) := by
    have ds := fun s4 s5 s6 s7 s8 s9 s10 s11 s12 : Slot => e_dsp2 (Φ := phi TB 20000 100) (a := .con (.int 0)) (b := .bin .add (.con (.int 1)) (.call 14 [(.var 1), (.con (.int 1)), (.con (.int 1009))])) (c := .call 14 [(.var 1), (.con (.int 2)), (.con (.int 20))]) (d := .idx (.lst [(.con (.int 1)), (.neg (.con (.int 1)))]) (.call 14 [(.var 1), (.con (.int 3)), (.con (.int 2))]))
      (e := [.d X5, .d (.list (il l)), .d (.dict (rep L)), .d k, s4, s5, s6, s7, s8, s9, s10, s11, s12, .un, .un]) (i := ((0 : Nat) : Int)) (u := 1 + c1) (j := ((m : Nat) : Int)) (v := c) (by simp) (by simp [v2]) (by simp [w2]) (by simp [x2, g2])
    have len : ∀ (v : Int), -(2 ^ 21) ≤ v → v ≤ 2 ^ 21 → ∀ l, Nf l → val l = v → l.length ≤ 50 := fun v h1 h2 l nf e => by
      have := len_exp nf (exp_le nf (k := 21) (by rw [e]; exact ⟨h2, h1⟩))
      omega
    have e21 : (2 : Int) ^ 21 = 2097152 := rfl
    have pm : (2 : Int) ^ m ≤ 2 ^ 20 := two_mono (by omega)
    have e20 : (2 : Int) ^ 20 = 1048576 := rfl
    have pp := two_pos m
    have cc : c = 0 ∨ c = 1 ∨ c = -1 := by omega
    by_cases hm : ((0 : Nat) : Int) = ((m : Nat) : Int)
    · rw [if_pos hm] at ds
      have hm0 : m = 0 := by omega
      subst hm0
      refine ⟨[(0, c)], ⟨⟨2, 1009, ⟨by simp [Nd], by simp, fun w hw => ?_⟩, by decide, by decide⟩, len _ ?_ ?_⟩, ds⟩
      · rw [List.mem_singleton] at hw
        subst hw
        exact ⟨by show c.natAbs ≤ 1009; omega, Nat.zero_le _⟩
      · simp only [dv]; rw [show (2 : Int) ^ 0 = 1 from rfl]; omega
      · simp only [dv]; rw [show (2 : Int) ^ 0 = 1 from rfl]; omega
    · rw [if_neg hm] at ds
      refine ⟨[(0, 1 + c1), (m, c)], ⟨⟨2, 1009, ⟨?_, by simp, fun w hw => ?_⟩, by decide, by decide⟩, len _ ?_ ?_⟩, ds⟩
      · unfold Nd
        refine List.pairwise_cons.mpr ⟨fun w hw => ?_, List.pairwise_singleton ..⟩
        rw [List.mem_singleton] at hw
        subst hw
        show 0 ≠ m
        omega
      · rcases List.mem_cons.mp hw with rfl | hw
        · exact ⟨by show (1 + c1).natAbs ≤ 1009; omega, Nat.zero_le _⟩
        · rw [List.mem_singleton] at hw
          subst hw
          exact ⟨by show c.natAbs ≤ 1009; omega, by show m ≤ KX; omega⟩
      · simp only [dv]; rw [show (2 : Int) ^ 0 = 1 from rfl]
        generalize (2 : Int) ^ m = P at *
        rcases cc with rfl | rfl | rfl <;> omega
      · simp only [dv]; rw [show (2 : Int) ^ 0 = 1 from rfl]
        generalize (2 : Int) ^ m = P at *
        rcases cc with rfl | rfl | rfl <;> omega
  obtain ⟨L', ca', hd⟩ := hd
  refine ⟨L', ?_⟩
  have fin : ∀ (due : Rf.D) (fd : Bool), (b = true → phi TB 20000 100 23 [.dict (rep M)] = .ok due) → (b = false → due = .tuple []) → phi TB 20000 100 25 [.tuple (ts.map tD), y, due, .bool b] = .ok (.bool true) → phi TB 20000 100 19 [due] = .ok (.bool fd) → flK due = .ok due → (fitB (.tuple (ts.map tD)) = true → b = true → fd = true → phi TB 20000 100 12 [due, y'] = .ok (.tuple (ts.map tD))) → ∃ t4 t5 t6 t7 t8 t9 t10 t11 t12 : Slot, CA L' ∧ Rf.execs (phi TB 20000 100) 20000 b26_2 [.d X5, .d (.list (il l)), .d (.dict (rep L)), .d k, s4, s5, s6, s7, s8, s9, s10, s11, s12, .un, .un] = .nx [.d X5, .d (.list (il l)), .d (.dict (rep L')), .d k, t4, t5, t6, t7, t8, t9, t10, t11, t12, .un, .un] := fun due fd d1 d2 d3 d4 d5 d6 => by
    obtain ⟨t4, t5, t6, t7, t8, t9, t10, t11, t12, h⟩ := iter_run (Φ := phi TB 20000 100) (F := 20000) (X5 := X5) (X6 := .list (il l)) (C := .dict (rep L)) (C' := .dict (rep L')) (k := k) (s4 := s4) (s5 := s5) (s6 := s6) (s7 := s7) (s8 := s8) (s9 := s9) (s10 := s10) (s11 := s11) (s12 := s12) (p := p) (R := (ts.map tm).map rD) (x := .tuple (ts.map tD)) (y := y) (y' := y') (due := due) (M := M) (b := b) (fd := fd)
      h24 (nu.rows 99) (nu.num 92) y1 lp d1 d2 fx fy d3 d4 d5 z1 d6 h0 h1 nx hd
    exact ⟨t4, t5, t6, t7, t8, t9, t10, t11, t12, ca', h⟩
  cases b with
  | true =>
    have al := (lb.mp rfl).2
    have al : ∀ t ∈ ts, 0 ≤ ((t.2.1 : Nat) : Int) + p := fun t ht => al (tm t) (List.mem_map.mpr ⟨t, ht, rfl⟩)
    obtain ⟨us, u1, u2, u3, u4⟩ := shift_ok (n := 59) hF A al
    obtain ⟨ts', nu'⟩ := num_ok (F := 20000) lM (Nat.le_refl _) (by omega) (by omega)
    have e1 : ts'.map tm = us.map tm := val_eq nu'.nf u2 (by rw [nu'.vl, lv rfl, u1]; simp [dv])
    have e2 := ts_eq nu'.nf (fun t ht => (nu'.fs t ht).1) u2 u3 e1
    have d1 := nu'.num 92
    rw [e2] at d1
    have usb : ∀ u ∈ us, Fm u.2.2 (u.2.1 : Nat) ∧ ((u.2.1 : Nat) : Int) ≤ 2 ^ 104 := fun u hu => ⟨u3 u hu, by
      have m : tm u ∈ sh p (ts.map tm) := by rw [← u1]; exact List.mem_map.mpr ⟨u, hu, rfl⟩
      obtain ⟨t, ht, e⟩ := List.mem_map.mp m
      obtain ⟨t0, ht0, rfl⟩ := List.mem_map.mp ht
      have e : ((t0.2.1 : Int) + p).toNat = u.2.1 := congrArg Prod.snd e
      have := (nu.fs t0 ht0).2
      omega⟩
    have lus : us.length = ts.length := by have := congrArg List.length u1; simpa [sh] using this
    have tdu := td_ts (ts := us) (by omega) fun t ht => ⟨(usb t ht).1, by have := (usb t ht).2; have e : (2 : Int) ^ 106 = 81129638414606681695789005144064 := rfl; omega⟩
    have fd := c_fit (F := 20000) tdu (by decide)
    have fmu := fm_ts u2 u3
    have depu : (PyData.tuple (us.map tD)).depth ≤ 15 := by
      have := dep_le (ts := us) (n := 13) fun t ht => dep13 (usb t ht).1 (by have := (usb t ht).2; have := two_mono (i := 104) (j := 10000) (by decide); generalize (2 : Int) ^ 10000 = g at *; omega) (by have := two_pos 10000; generalize (2 : Int) ^ 10000 = g at *; omega)
      simp only [PyData.depth]; omega
    refine fin (.tuple (us.map tD)) _ (fun _ => d1) nofun ?_ fd.2 (by unfold flK; rw [pl_nl fmu.pl]; rfl) fun hf _ _ => ?_
    · exact (phi_succ rfl).trans (told_pos (eqD_self fmu.pl (by omega)) u4 fd.1)
    · obtain ⟨vs, q1, q2, q3, q4⟩ := shift_ok (n := 60) hF (ts := us) (y := y') (p := -p) ⟨u2, usb, by omega, z2, by omega, by omega⟩ fun u hu => by
        have m : tm u ∈ sh p (ts.map tm) := by rw [← u1]; exact List.mem_map.mpr ⟨u, hu, rfl⟩
        obtain ⟨t, ht, e⟩ := List.mem_map.mp m
        obtain ⟨t0, ht0, rfl⟩ := List.mem_map.mp ht
        have e : ((t0.2.1 : Int) + p).toNat = u.2.1 := congrArg Prod.snd e
        have := al t0 ht0
        omega
      rw [u1, sh_sh (fun t ht => by obtain ⟨u, hu, rfl⟩ := List.mem_map.mp ht; exact al u hu)] at q1
      rw [ts_eq q2 q3 nu.nf (fun t ht => (nu.fs t ht).1) q1, if_pos hf] at q4
      exact q4
  | false =>
    have ng : ∃ t ∈ ts, ((t.2.1 : Nat) : Int) + p < 0 := by
      refine Classical.byContradiction fun z => ?_
      have : false = true := lb.mpr ⟨rfl, fun t ht => by
        obtain ⟨u, hu, rfl⟩ := List.mem_map.mp ht
        refine Int.not_lt.mp fun q => z ⟨u, hu, q⟩⟩
      cases this
    have sn := shift_neg (n := 59) hF A ng
    refine fin (.tuple []) (fitB (.tuple [])) nofun (fun _ => rfl) ((phi_succ rfl).trans (told_neg sn)) ?_ rfl nofun
    exact (c_fit (F := 20000) (h := 7) (td_ts (ts := []) (by decide) fun t ht => by simp at ht) (by decide)).2
end
end My

set_option Elab.async false
set_option linter.all false
set_option maxRecDepth 100000
set_option maxHeartbeats 4000000
namespace My
open PySem PySem.Spec PyProof.Rows L2 Rf
section
variable {Φ : FT} {F n : Nat}
/-! ### the law -/
def KL (X5 X6 : Rf.D) (i : Nat) (e : Sl) : Prop := ∃ (L : List Ct) (s3 s4 s5 s6 s7 s8 s9 s10 s11 s12 : Slot), e = [.d X5, .d X6, .d (.dict (rep L)), s3, s4, s5, s6, s7, s8, s9, s10, s11, s12, .un, .un] ∧ CA L
theorem plain_ts {x : Rf.D} {v : Int} (hx : Fm x v) {k : Nat} (hk : k ≤ 60) (h1 : -(2 ^ k) ≤ v) (h2 : v ≤ 2 ^ k) : ∃ ts : List T3, x = .tuple (ts.map tD) ∧ v = val (ts.map tm) ∧ Nf (ts.map tm) ∧ (∀ t ∈ ts, Fm t.2.2 (t.2.1 : Nat) ∧ t.2.1 ≤ k) := by
  obtain ⟨ts, e, hv, nf, fs, _⟩ := fm_low hx h1 h2
  exact ⟨ts, e, hv, nf, fs⟩
theorem len12 {ts : List T3} (nf : Nf (ts.map tm)) (h : ∀ t ∈ ts, t.2.1 ≤ 21) : ts.length ≤ 12 := by
  cases ts with
  | nil => decide
  | cons t r =>
    have := len_low (b := r.map tm) (t := tm t) nf
    have q := h t (List.mem_cons_self ..)
    rw [List.length_map] at this
    have this : 2 * r.length ≤ t.2.1 := this
    simp only [List.length_cons]; omega
theorem last_ok {v : Int} {m : Nat} (v0 : 0 ≤ v) (v1 : v ≤ 2 ^ 20) (hm : m < 40) : ∃ a b y z : Rf.D, phi TB 20000 100 16 [.int v] = .ok a ∧ phi TB 20000 100 16 [.int (m : Nat)] = .ok y ∧ phi TB 20000 100 16 [.int (v * 2 ^ m)] = .ok b ∧ phi TB 20000 100 12 [a, y] = .ok b ∧ phi TB 20000 100 16 [.int (-(m : Nat))] = .ok z ∧ phi TB 20000 100 12 [b, z] = .ok a ∧
    cmpK .ne b b = .ok (.bool false) ∧ cmpK .eq a a = .ok (.bool true) := by
  have hF : 4000 ≤ 20000 := by decide
  have e20 : (2 : Int) ^ 20 = 1048576 := rfl
  have G := two_mono (i := 60) (j := 3000) (by decide)
  have G2 := two_mono (i := 20) (j := 60) (by decide)
  have pm := two_pos m
  have pm2 : (2 : Int) ^ m ≤ 2 ^ 39 := two_mono (by omega)
  have vm0 : 0 ≤ v * 2 ^ m := Int.mul_nonneg v0 (Int.le_of_lt pm)
  have vm1 : v * 2 ^ m ≤ 2 ^ 59 := by
    have := Int.mul_le_mul v1 pm2 (Int.le_of_lt pm) (Int.le_of_lt (two_pos 20))
    rw [← two_add] at this
    exact this
  have G3 := two_mono (i := 59) (j := 60) (by decide)
  have P := two_pos 3000
  have e60 : (2 : Int) ^ 60 = 1152921504606846976 := rfl
  have e59 : (2 : Int) ^ 59 = 576460752303423488 := rfl
  have e104 : (2 : Int) ^ 104 = 20282409603651670423947251286016 := rfl
  obtain ⟨a, a1, a2, a3⟩ := c_ofN (F := 20000) (n := 93) (v := v) (by generalize (2 : Int) ^ 3000 = g at *; omega) (by generalize (2 : Int) ^ 3000 = g at *; omega)
  obtain ⟨y, y1, y2, y3⟩ := c_ofN (F := 20000) (n := 93) (v := (m : Nat)) (by generalize (2 : Int) ^ 3000 = g at *; omega) (by generalize (2 : Int) ^ 3000 = g at *; omega)
  obtain ⟨z, z1, z2, z3⟩ := c_ofN (F := 20000) (n := 93) (v := -(m : Nat)) (by generalize (2 : Int) ^ 3000 = g at *; omega) (by generalize (2 : Int) ^ 3000 = g at *; omega)
  obtain ⟨b, b1, b2, b3⟩ := c_ofN (F := 20000) (n := 93) (v := v * 2 ^ m) (by generalize (2 : Int) ^ 3000 = g at *; generalize v * 2 ^ m = w at *; omega) (by generalize (2 : Int) ^ 3000 = g at *; generalize v * 2 ^ m = w at *; omega)
  have p20 := two_pos 20
  have p59 := two_pos 59
  obtain ⟨ts, rfl, av, anf, afs⟩ := plain_ts a2 (k := 20) (by decide) (by omega) v1
  obtain ⟨us, rfl, bv, bnf, bfs⟩ := plain_ts b2 (k := 59) (by decide) (by omega) vm1
  have lts := len12 anf fun t ht => by have := (afs t ht).2; omega
  have ue : us.map tm = sh (m : Nat) (ts.map tm) := val_eq bnf (nf_sh anf fun t _ => by omega) (by rw [← bv, val_sh, ← av])
  have lus : us.length = ts.length := by have := congrArg List.length ue; simpa [sh] using this
  have fa := fit_small (ts := ts) (fun t ht => ⟨(afs t ht).1, by have := (afs t ht).2; omega⟩) lts
  have fb := fit_small (ts := us) (fun t ht => ⟨(bfs t ht).1, by have := (bfs t ht).2; omega⟩) (by omega)
  obtain ⟨ws, s1, s2, s3, s4⟩ := shift_ok (n := 60) hF (ts := ts) (y := y) (p := (m : Nat)) ⟨anf, fun t ht => ⟨(afs t ht).1, by have := (afs t ht).2; omega⟩, by omega, y2, by omega, by omega⟩ fun t _ => by omega
  rw [ts_eq s2 s3 bnf (fun t ht => (bfs t ht).1) (s1.trans ue.symm), if_pos fb] at s4
  obtain ⟨qs, q1, q2, q3, q4⟩ := shift_ok (n := 60) hF (ts := us) (y := z) (p := -(m : Nat)) ⟨bnf, fun t ht => ⟨(bfs t ht).1, by have := (bfs t ht).2; omega⟩, by omega, z2, by omega, by omega⟩ fun t ht => by
    have mm : tm t ∈ sh (m : Nat) (ts.map tm) := by rw [← ue]; exact List.mem_map.mpr ⟨t, ht, rfl⟩
    obtain ⟨u, hu, e⟩ := List.mem_map.mp mm
    have e : ((u.2 : Int) + (m : Nat)).toNat = t.2.1 := congrArg Prod.snd e
    omega
  rw [ue, sh_sh (fun t _ => by omega)] at q1
  rw [ts_eq q2 q3 anf (fun t ht => (afs t ht).1) q1, if_pos fa] at q4
  exact ⟨_, _, y, z, a1, y1, b1, s4, z1, q4, neD_self b2.pl (by omega), eqD_self a2.pl (by omega)⟩
theorem law_run (ns : List Int) (hn : ns.length ≤ 63) : Fdef.run ⟨1, 15, b26⟩ (phi TB 20000 100) 20000 [.list (il ns)] = .ok (.bool true) := by
  obtain ⟨l, hl, l1, l2, l3⟩ := c_stream (F := 20000) (n := 99) ns hn
  have hl : phi TB 20000 100 13 [.list (il ns)] = .ok (.list (il l)) := hl
  obtain ⟨p0, a0, a1, q0⟩ := c_pick (F := 20000) (n := 99) l1 l3 (a := 0) (many := 6) (by decide)
  obtain ⟨p4, b0, b1, q4⟩ := c_pick (F := 20000) (n := 99) l1 l3 (a := 4) (many := 1009) (by decide)
  obtain ⟨p5, d0, d1, q5⟩ := c_pick (F := 20000) (n := 99) l1 l3 (a := 5) (many := 40) (by decide)
  have q0 : phi TB 20000 100 14 [.list (il l), .int 0, .int 6] = .ok (.int p0) := q0
  have q4 : phi TB 20000 100 14 [.list (il l), .int 4, .int 1009] = .ok (.int p4) := q4
  have q5 : phi TB 20000 100 14 [.list (il l), .int 5, .int 40] = .ok (.int p5) := q5
  obtain ⟨L, m1, m2⟩ := c_model (F := 20000) (n := 97) l1 l3 (a := 9) (many := p0) a0 (by omega)
  have m1 : phi TB 20000 100 21 [.list (il l), .int 9, .int p0] = .ok (.dict (rep L)) := m1
  obtain ⟨m, rfl⟩ := Int.eq_ofNat_of_zero_le d0
  have e20 : (2 : Int) ^ 20 = 1048576 := rfl
  obtain ⟨a, b, y, z, g1, g2, g3, g4, g5, g6, g7, g8⟩ := last_ok (v := p4 * 991) (m := m) (by omega) (by omega) (by omega)
  have t := c_two (F := 20000) (n := 99) (m := m) (by omega)
  have t : phi TB 20000 100 15 [.int (m : Nat)] = .ok (.int (2 ^ m)) := t
  have ml : binK .mul (.int (p4 * 991)) (.int (2 ^ m)) = .ok (.int (p4 * 991 * 2 ^ m)) := binK_mull (by omega)
  have hh : ∃ z, Fdef.run ⟨1, 15, b26⟩ (phi TB 20000 100) 20000 [.list (il ns)] = .ok z ∧ z = .bool true := by
    refine run_of (Q := fun z => z = .bool true) rfl ?_
    have hr : srcK .rng [.int 2] = .ok (rngD 0 2) := srcK_rn (n := 2) (by decide)
    have e5 : Rf.execs (phi TB 20000 100) 20000 b26 [.d (.list (il ns)), .un, .un, .un, .un, .un, .un, .un, .un, .un, .un, .un, .un, .un, .un] = (forL (Rf.execs (phi TB 20000 100) 20000 b26_2) (.nm 3) (rngD 0 2) [.d (.list (il ns)), .d (.list (il l)), .d (.dict (rep L)), .un, .un, .un, .un, .un, .un, .un, .un, .un, .un, .un, .un]).seq (Rf.execs (phi TB 20000 100) 20000 (b26.drop 3)) := by
      simp only [b26, List.drop_succ_cons, List.drop_zero]
      simp [hl, q0, m1, hr]
    show Is _ (Rf.execs _ _ b26 [.d (.list (il ns)), .un, .un, .un, .un, .un, .un, .un, .un, .un, .un, .un, .un, .un, .un])
    rw [e5]
    refine Is.for (fun i e => KL (.list (il ns)) (.list (il l)) i e) ⟨L, _, _, _, _, _, _, _, _, _, _, rfl, m2⟩ ?_ ?_
    · rintro i w e hw ⟨L, s3, s4, s5, s6, s7, s8, s9, s10, s11, s12, rfl, ca⟩
      obtain ⟨hi, rfl⟩ := rng_get hw
      rw [Int.zero_add]
      simp only [turnB, bindT, List.length_cons, List.length_nil, Nat.reduceAdd, Nat.reduceLT, if_true, List.set_cons_succ, List.set_cons_zero]
      obtain ⟨L', t4, t5, t6, t7, t8, t9, t10, t11, t12, ca', h⟩ := turn_ok l1 l3 ca (X5 := .list (il ns)) (k := .int (i : Nat)) (s4 := s4) (s5 := s5) (s6 := s6) (s7 := s7) (s8 := s8) (s9 := s9) (s10 := s10) (s11 := s11) (s12 := s12)
      rw [h, Turn_nx]
      exact ⟨L', _, _, _, _, _, _, _, _, _, _, rfl, ca'⟩
    · rintro e ⟨L, s3, s4, s5, s6, s7, s8, s9, s10, s11, s12, rfl, ca⟩
      generalize il ns = Z5 at *
      generalize il l = Z6 at *
      simp only [b26, List.drop_succ_cons, List.drop_zero]
      generalize p4 * 991 * 2 ^ m = W at *
      have m4 : binK .mul (.int p4) (.int 991) = .ok (.int (p4 * 991)) := binK_mulr (by decide)
      generalize p4 * 991 = W0 at *
      simp [q4, q5, m4, g1, g2, g3, g4, g5, g6, g7, g8, t, ml]
  obtain ⟨z, h, rfl⟩ := hh
  exact h
theorem pure_gen (ns : List Int) (hl : ns.length ≤ 63) {m : Nat} (h : m = 100) : phi TB 20000 (m + 1) 26 [.list (il ns)] = .ok (.bool true) := by
  subst h
  exact (phi_succ rfl).trans (law_run ns hl)
theorem pure_law (ns : List Int) (hl : ns.length ≤ 63) : phi TB 20000 (100 + 1) 26 [.list (ns.map .int)] = .ok (.bool true) := pure_gen ns hl rfl
end
end My

set_option maxRecDepth 100000
set_option maxHeartbeats 2000000
namespace My
open PySem PySem.Spec PyProof.Rows L2 L2H HotX Rf
theorem all_mk {l : PySem.W.OpenLaw} {w : World} {K : PySem.W.Frag} {h : Heap} {mg : Str → Option Value} {fa f0 f1 f2 f3 f4 f5 f6 f7 f8 f9 f10 f11 f12 f13 f14 f15 f16 f17 f18 f19 f20 f21 f22 f23 f24 f25 f26 : Addr} (X : K.In h) (G : h.Ns mainGlobals mg) (hfa : mg "law" = some (.ref fa))
    {od0 an0 od1 an1 od2 an2 od3 an3 od4 an4 od5 an5 od6 an6 od7 an7 od8 an8 od9 an9 od10 an10 od11 an11 od12 an12 od13 an13 od14 an14 od15 an15 od16 an16 od17 an17 od18 an18 od19 an19 od20 an20 od21 an21 od22 an22 od23 an23 od24 an24 od25 an25 od26 an26 : Option Addr} {sl0 sl1 sl2 sl3 sl4 sl5 sl6 sl7 sl8 sl9 sl10 sl11 sl12 sl13 sl14 sl15 sl16 sl17 sl18 sl19 sl20 sl21 sl22 sl23 sl24 sl25 sl26 : Array (Option Value)} {oc0 kV0 dc0 pm0 cd0 ct0 oc1 kV1 dc1 pm1 cd1 ct1 oc2 kV2 dc2 pm2 cd2 ct2 oc3 kV3 dc3 pm3 cd3 ct3 oc4 kV4 dc4 pm4 cd4 ct4 oc5 kV5 dc5 pm5 cd5 ct5 oc6 kV6 dc6 pm6 cd6 ct6 oc7 kV7 dc7 pm7 cd7 ct7 oc8 kV8 dc8 pm8 cd8 ct8 oc9 kV9 dc9 pm9 cd9 ct9 oc10 kV10 dc10 pm10 cd10 ct10 oc11 kV11 dc11 pm11 cd11 ct11 oc12 kV12 dc12 pm12 cd12 ct12 oc13 kV13 dc13 pm13 cd13 ct13 oc14 kV14 dc14 pm14 cd14 ct14 oc15 kV15 dc15 pm15 cd15 ct15 oc16 kV16 dc16 pm16 cd16 ct16 oc17 kV17 dc17 pm17 cd17 ct17 oc18 kV18 dc18 pm18 cd18 ct18 oc19 kV19 dc19 pm19 cd19 ct19 oc20 kV20 dc20 pm20 cd20 ct20 oc21 kV21 dc21 pm21 cd21 ct21 oc22 kV22 dc22 pm22 cd22 ct22 oc23 kV23 dc23 pm23 cd23 ct23 oc24 kV24 dc24 pm24 cd24 ct24 oc25 kV25 dc25 pm25 cd25 ct25 oc26 kV26 dc26 pm26 cd26 ct26 : Value}
    (a0 : PySem.W.nsIn K mainGlobals "size_of" = some (some (.ref f0))) (l0 : K.lookup f0 = some ⟨oc0, od0, .func (PySem.W.fnOf "size_of" "size_of" (defArgs s0) (defBody s0) (defScope s0) .none kV0 dc0 pm0 an0 cd0 ct0), sl0⟩) (c0 : PySem.W.codeIn K cd0 "size_of" = true) (k0 : PySem.W.keepIn K (.ref f0) = true)
    (a1 : PySem.W.nsIn K mainGlobals "height_of" = some (some (.ref f1))) (l1 : K.lookup f1 = some ⟨oc1, od1, .func (PySem.W.fnOf "height_of" "height_of" (defArgs s1) (defBody s1) (defScope s1) .none kV1 dc1 pm1 an1 cd1 ct1), sl1⟩) (c1 : PySem.W.codeIn K cd1 "height_of" = true) (k1 : PySem.W.keepIn K (.ref f1) = true)
    (a2 : PySem.W.nsIn K mainGlobals "compare" = some (some (.ref f2))) (l2 : K.lookup f2 = some ⟨oc2, od2, .func (PySem.W.fnOf "compare" "compare" (defArgs s2) (defBody s2) (defScope s2) .none kV2 dc2 pm2 an2 cd2 ct2), sl2⟩) (c2 : PySem.W.codeIn K cd2 "compare" = true) (k2 : PySem.W.keepIn K (.ref f2) = true)
    (a3 : PySem.W.nsIn K mainGlobals "sign_of" = some (some (.ref f3))) (l3 : K.lookup f3 = some ⟨oc3, od3, .func (PySem.W.fnOf "sign_of" "sign_of" (defArgs s3) (defBody s3) (defScope s3) .none kV3 dc3 pm3 an3 cd3 ct3), sl3⟩) (c3 : PySem.W.codeIn K cd3 "sign_of" = true) (k3 : PySem.W.keepIn K (.ref f3) = true)
    (a4 : PySem.W.nsIn K mainGlobals "in_order" = some (some (.ref f4))) (l4 : K.lookup f4 = some ⟨oc4, od4, .func (PySem.W.fnOf "in_order" "in_order" (defArgs s4) (defBody s4) (defScope s4) .none kV4 dc4 pm4 an4 cd4 ct4), sl4⟩) (c4 : PySem.W.codeIn K cd4 "in_order" = true) (k4 : PySem.W.keepIn K (.ref f4) = true)
    (a5 : PySem.W.nsIn K mainGlobals "gathered" = some (some (.ref f5))) (l5 : K.lookup f5 = some ⟨oc5, od5, .func (PySem.W.fnOf "gathered" "gathered" (defArgs s5) (defBody s5) (defScope s5) .none kV5 dc5 pm5 an5 cd5 ct5), sl5⟩) (c5 : PySem.W.codeIn K cd5 "gathered" = true) (k5 : PySem.W.keepIn K (.ref f5) = true)
    (a6 : PySem.W.nsIn K mainGlobals "sign_at" = some (some (.ref f6))) (l6 : K.lookup f6 = some ⟨oc6, od6, .func (PySem.W.fnOf "sign_at" "sign_at" (defArgs s6) (defBody s6) (defScope s6) .none kV6 dc6 pm6 an6 cd6 ct6), sl6⟩) (c6 : PySem.W.codeIn K cd6 "sign_at" = true) (k6 : PySem.W.keepIn K (.ref f6) = true)
    (a7 : PySem.W.nsIn K mainGlobals "next_of" = some (some (.ref f7))) (l7 : K.lookup f7 = some ⟨oc7, od7, .func (PySem.W.fnOf "next_of" "next_of" (defArgs s7) (defBody s7) (defScope s7) .none kV7 dc7 pm7 an7 cd7 ct7), sl7⟩) (c7 : PySem.W.codeIn K cd7 "next_of" = true) (k7 : PySem.W.keepIn K (.ref f7) = true)
    (a8 : PySem.W.nsIn K mainGlobals "is_allowed" = some (some (.ref f8))) (l8 : K.lookup f8 = some ⟨oc8, od8, .func (PySem.W.fnOf "is_allowed" "is_allowed" (defArgs s8) (defBody s8) (defScope s8) .none kV8 dc8 pm8 an8 cd8 ct8), sl8⟩) (c8 : PySem.W.codeIn K cd8 "is_allowed" = true) (k8 : PySem.W.keepIn K (.ref f8) = true)
    (a9 : PySem.W.nsIn K mainGlobals "allowed" = some (some (.ref f9))) (l9 : K.lookup f9 = some ⟨oc9, od9, .func (PySem.W.fnOf "allowed" "allowed" (defArgs s9) (defBody s9) (defScope s9) .none kV9 dc9 pm9 an9 cd9 ct9), sl9⟩) (c9 : PySem.W.codeIn K cd9 "allowed" = true) (k9 : PySem.W.keepIn K (.ref f9) = true)
    (a10 : PySem.W.nsIn K mainGlobals "plus" = some (some (.ref f10))) (l10 : K.lookup f10 = some ⟨oc10, od10, .func (PySem.W.fnOf "plus" "plus" (defArgs s10) (defBody s10) (defScope s10) .none kV10 dc10 pm10 an10 cd10 ct10), sl10⟩) (c10 : PySem.W.codeIn K cd10 "plus" = true) (k10 : PySem.W.keepIn K (.ref f10) = true)
    (a11 : PySem.W.nsIn K mainGlobals "shifted" = some (some (.ref f11))) (l11 : K.lookup f11 = some ⟨oc11, od11, .func (PySem.W.fnOf "shifted" "shifted" (defArgs s11) (defBody s11) (defScope s11) .none kV11 dc11 pm11 an11 cd11 ct11), sl11⟩) (c11 : PySem.W.codeIn K cd11 "shifted" = true) (k11 : PySem.W.keepIn K (.ref f11) = true)
    (a12 : PySem.W.nsIn K mainGlobals "shift" = some (some (.ref f12))) (l12 : K.lookup f12 = some ⟨oc12, od12, .func (PySem.W.fnOf "shift" "shift" (defArgs s12) (defBody s12) (defScope s12) .none kV12 dc12 pm12 an12 cd12 ct12), sl12⟩) (c12 : PySem.W.codeIn K cd12 "shift" = true) (k12 : PySem.W.keepIn K (.ref f12) = true)
    (a13 : PySem.W.nsIn K mainGlobals "_law_stream" = some (some (.ref f13))) (l13 : K.lookup f13 = some ⟨oc13, od13, .func (PySem.W.fnOf "_law_stream" "_law_stream" (defArgs s13) (defBody s13) (defScope s13) .none kV13 dc13 pm13 an13 cd13 ct13), sl13⟩) (c13 : PySem.W.codeIn K cd13 "_law_stream" = true) (k13 : PySem.W.keepIn K (.ref f13) = true)
    (a14 : PySem.W.nsIn K mainGlobals "_law_pick" = some (some (.ref f14))) (l14 : K.lookup f14 = some ⟨oc14, od14, .func (PySem.W.fnOf "_law_pick" "_law_pick" (defArgs s14) (defBody s14) (defScope s14) .none kV14 dc14 pm14 an14 cd14 ct14), sl14⟩) (c14 : PySem.W.codeIn K cd14 "_law_pick" = true) (k14 : PySem.W.keepIn K (.ref f14) = true)
    (a15 : PySem.W.nsIn K mainGlobals "_law_two" = some (some (.ref f15))) (l15 : K.lookup f15 = some ⟨oc15, od15, .func (PySem.W.fnOf "_law_two" "_law_two" (defArgs s15) (defBody s15) (defScope s15) .none kV15 dc15 pm15 an15 cd15 ct15), sl15⟩) (c15 : PySem.W.codeIn K cd15 "_law_two" = true) (k15 : PySem.W.keepIn K (.ref f15) = true)
    (a16 : PySem.W.nsIn K mainGlobals "_law_of" = some (some (.ref f16))) (l16 : K.lookup f16 = some ⟨oc16, od16, .func (PySem.W.fnOf "_law_of" "_law_of" (defArgs s16) (defBody s16) (defScope s16) .none kV16 dc16 pm16 an16 cd16 ct16), sl16⟩) (c16 : PySem.W.codeIn K cd16 "_law_of" = true) (k16 : PySem.W.keepIn K (.ref f16) = true)
    (a17 : PySem.W.nsIn K mainGlobals "_law_size" = some (some (.ref f17))) (l17 : K.lookup f17 = some ⟨oc17, od17, .func (PySem.W.fnOf "_law_size" "_law_size" (defArgs s17) (defBody s17) (defScope s17) .none kV17 dc17 pm17 an17 cd17 ct17), sl17⟩) (c17 : PySem.W.codeIn K cd17 "_law_size" = true) (k17 : PySem.W.keepIn K (.ref f17) = true)
    (a18 : PySem.W.nsIn K mainGlobals "_law_height" = some (some (.ref f18))) (l18 : K.lookup f18 = some ⟨oc18, od18, .func (PySem.W.fnOf "_law_height" "_law_height" (defArgs s18) (defBody s18) (defScope s18) .none kV18 dc18 pm18 an18 cd18 ct18), sl18⟩) (c18 : PySem.W.codeIn K cd18 "_law_height" = true) (k18 : PySem.W.keepIn K (.ref f18) = true)
    (a19 : PySem.W.nsIn K mainGlobals "_law_fits" = some (some (.ref f19))) (l19 : K.lookup f19 = some ⟨oc19, od19, .func (PySem.W.fnOf "_law_fits" "_law_fits" (defArgs s19) (defBody s19) (defScope s19) .none kV19 dc19 pm19 an19 cd19 ct19), sl19⟩) (c19 : PySem.W.codeIn K cd19 "_law_fits" = true) (k19 : PySem.W.keepIn K (.ref f19) = true)
    (a20 : PySem.W.nsIn K mainGlobals "_law_exponent" = some (some (.ref f20))) (l20 : K.lookup f20 = some ⟨oc20, od20, .func (PySem.W.fnOf "_law_exponent" "_law_exponent" (defArgs s20) (defBody s20) (defScope s20) .none kV20 dc20 pm20 an20 cd20 ct20), sl20⟩) (c20 : PySem.W.codeIn K cd20 "_law_exponent" = true) (k20 : PySem.W.keepIn K (.ref f20) = true)
    (a21 : PySem.W.nsIn K mainGlobals "_law_model" = some (some (.ref f21))) (l21 : K.lookup f21 = some ⟨oc21, od21, .func (PySem.W.fnOf "_law_model" "_law_model" (defArgs s21) (defBody s21) (defScope s21) .none kV21 dc21 pm21 an21 cd21 ct21), sl21⟩) (c21 : PySem.W.codeIn K cd21 "_law_model" = true) (k21 : PySem.W.keepIn K (.ref f21) = true)
    (a22 : PySem.W.nsIn K mainGlobals "_law_rows" = some (some (.ref f22))) (l22 : K.lookup f22 = some ⟨oc22, od22, .func (PySem.W.fnOf "_law_rows" "_law_rows" (defArgs s22) (defBody s22) (defScope s22) .none kV22 dc22 pm22 an22 cd22 ct22), sl22⟩) (c22 : PySem.W.codeIn K cd22 "_law_rows" = true) (k22 : PySem.W.keepIn K (.ref f22) = true)
    (a23 : PySem.W.nsIn K mainGlobals "_law_number" = some (some (.ref f23))) (l23 : K.lookup f23 = some ⟨oc23, od23, .func (PySem.W.fnOf "_law_number" "_law_number" (defArgs s23) (defBody s23) (defScope s23) .none kV23 dc23 pm23 an23 cd23 ct23), sl23⟩) (c23 : PySem.W.codeIn K cd23 "_law_number" = true) (k23 : PySem.W.keepIn K (.ref f23) = true)
    (a24 : PySem.W.nsIn K mainGlobals "_law_places" = some (some (.ref f24))) (l24 : K.lookup f24 = some ⟨oc24, od24, .func (PySem.W.fnOf "_law_places" "_law_places" (defArgs s24) (defBody s24) (defScope s24) .none kV24 dc24 pm24 an24 cd24 ct24), sl24⟩) (c24 : PySem.W.codeIn K cd24 "_law_places" = true) (k24 : PySem.W.keepIn K (.ref f24) = true)
    (a25 : PySem.W.nsIn K mainGlobals "_law_told" = some (some (.ref f25))) (l25 : K.lookup f25 = some ⟨oc25, od25, .func (PySem.W.fnOf "_law_told" "_law_told" (defArgs s25) (defBody s25) (defScope s25) .none kV25 dc25 pm25 an25 cd25 ct25), sl25⟩) (c25 : PySem.W.codeIn K cd25 "_law_told" = true) (k25 : PySem.W.keepIn K (.ref f25) = true)
    (a26 : PySem.W.nsIn K mainGlobals "law" = some (some (.ref f26))) (l26 : K.lookup f26 = some ⟨oc26, od26, .func (PySem.W.fnOf "law" "law" (defArgs s26) (defBody s26) (defScope s26) .none kV26 dc26 pm26 an26 cd26 ct26), sl26⟩) (c26 : PySem.W.codeIn K cd26 "law" = true) (k26 : PySem.W.keepIn K (.ref f26) = true)
    (z_int : PySem.W.nsIn K mainGlobals "int" = some none)
    (z_isinstance : PySem.W.nsIn K mainGlobals "isinstance" = some none)
    (z_len : PySem.W.nsIn K mainGlobals "len" = some none)
    (z_list : PySem.W.nsIn K mainGlobals "list" = some none)
    (z_max : PySem.W.nsIn K mainGlobals "max" = some none)
    (z_range : PySem.W.nsIn K mainGlobals "range" = some none)
    (z_sorted : PySem.W.nsIn K mainGlobals "sorted" = some none)
    (z_sum : PySem.W.nsIn K mainGlobals "sum" = some none)
    (z_tuple : PySem.W.nsIn K mainGlobals "tuple" = some none)
    (z_zip : PySem.W.nsIn K mainGlobals "zip" = some none)
    {k_MAX_HEIGHT : Tok} (y_MAX_HEIGHT : PySem.W.nsIn K mainGlobals "MAX_HEIGHT" = some (some (.int 40 k_MAX_HEIGHT)))
    {k_MAX_SIZE : Tok} (y_MAX_SIZE : PySem.W.nsIn K mainGlobals "MAX_SIZE" = some (some (.int 300 k_MAX_SIZE)))
    {A0 : Addr} (xa0 : PySem.W.nsIn K mainGlobals "ReckonError" = some (some (.ref A0))) (xe0 : PySem.W.excIn K A0 [.type "ValueError", .type "Exception", .type "BaseException", .type "object"] "ValueError.__new__" = true) (xk0 : PySem.W.keepIn K (.ref A0) = true) (xb0 : PySem.W.subIn K (.ref A0) (.type "BaseException") = some true) (xt0 : PySem.W.typeIn K (.ref A0) = some (.type "type")) (xd0 : PySem.W.hasDictIn K A0 = true)
    (xg0 : PySem.W.findIn K (.ref A0) "__getattribute__" = some (some (.builtin "BaseException.__getattribute__"))) (xh0 : PySem.W.findIn K (.ref A0) "__getattr__" = some none) (xc0 : PySem.W.findIn K (.ref A0) "__class__" = some (some (.builtin "object.__class__"))) (xm0 : PySem.W.mroIn K A0 (.type "object") = some true)
    {A1 : Addr} (xa1 : PySem.W.nsIn K mainGlobals "NotAllowed" = some (some (.ref A1))) (xe1 : PySem.W.excIn K A1 [.type "ValueError", .type "Exception", .type "BaseException", .type "object"] "ValueError.__new__" = true) (xk1 : PySem.W.keepIn K (.ref A1) = true) (xb1 : PySem.W.subIn K (.ref A1) (.type "BaseException") = some true) (xt1 : PySem.W.typeIn K (.ref A1) = some (.type "type")) (xd1 : PySem.W.hasDictIn K A1 = true)
    (xg1 : PySem.W.findIn K (.ref A1) "__getattribute__" = some (some (.builtin "BaseException.__getattribute__"))) (xh1 : PySem.W.findIn K (.ref A1) "__getattr__" = some none) (xc1 : PySem.W.findIn K (.ref A1) "__class__" = some (some (.builtin "object.__class__"))) (xm1 : PySem.W.mroIn K A1 (.type "object") = some true)
    {A2 : Addr} (xa2 : PySem.W.nsIn K mainGlobals "BadRange" = some (some (.ref A2))) (xe2 : PySem.W.excIn K A2 [.type "ValueError", .type "Exception", .type "BaseException", .type "object"] "ValueError.__new__" = true) (xk2 : PySem.W.keepIn K (.ref A2) = true) (xb2 : PySem.W.subIn K (.ref A2) (.type "BaseException") = some true) (xt2 : PySem.W.typeIn K (.ref A2) = some (.type "type")) (xd2 : PySem.W.hasDictIn K A2 = true)
    (xg2 : PySem.W.findIn K (.ref A2) "__getattribute__" = some (some (.builtin "BaseException.__getattribute__"))) (xh2 : PySem.W.findIn K (.ref A2) "__getattr__" = some none) (xc2 : PySem.W.findIn K (.ref A2) "__class__" = some (some (.builtin "object.__class__"))) (xm2 : PySem.W.mroIn K A2 (.type "object") = some true)
    {A3 : Addr} (xa3 : PySem.W.nsIn K mainGlobals "TooLarge" = some (some (.ref A3))) (xe3 : PySem.W.excIn K A3 [.type "ValueError", .type "Exception", .type "BaseException", .type "object"] "ValueError.__new__" = true) (xk3 : PySem.W.keepIn K (.ref A3) = true) (xb3 : PySem.W.subIn K (.ref A3) (.type "BaseException") = some true) (xt3 : PySem.W.typeIn K (.ref A3) = some (.type "type")) (xd3 : PySem.W.hasDictIn K A3 = true)
    (xg3 : PySem.W.findIn K (.ref A3) "__getattribute__" = some (some (.builtin "BaseException.__getattribute__"))) (xh3 : PySem.W.findIn K (.ref A3) "__getattr__" = some none) (xc3 : PySem.W.findIn K (.ref A3) "__class__" = some (some (.builtin "object.__class__"))) (xm3 : PySem.W.mroIn K A3 (.type "object") = some true)
    (xn : PySem.W.specialIn K (.builtin "object.__class__") "__get__" = some (some (.builtin "getset_descriptor.__get__"))) (xo : PySem.W.takesIn K (.builtin "object.__class__") = some true)
    (uk_BadRange_NotAllowed : PySem.W.subIn K (.ref A2) (.ref A1) = some false)
    (vk_BadRange_NotAllowed : (Value.ref A2 == Value.ref A1) = false)
    (uk_BadRange_ReckonError : PySem.W.subIn K (.ref A2) (.ref A0) = some true)
    (uk_BadRange_TooLarge : PySem.W.subIn K (.ref A2) (.ref A3) = some false)
    (vk_BadRange_TooLarge : (Value.ref A2 == Value.ref A3) = false)
    (s_BadRange_BadRange : PySem.W.subIn K (.ref A2) (.ref A2) = some true)
    (s_TooLarge_BadRange : PySem.W.subIn K (.ref A3) (.ref A2) = some false)
    (s_TooLarge_TooLarge : PySem.W.subIn K (.ref A3) (.ref A3) = some true)
    : ∃ fd : FuncData, (∀ (s : Shared) (v : Value), BindsTo s fd ⟨[v], []⟩ [("_law_script", v)]) ∧ ∀ base : Heap, K.In base → base.Ns mainGlobals mg → FnOk l.prog w K mg base CX0 101 fa fd ["_law_script"] (spLaw 63 K) := by
  have e := hfa.symm.trans (PySem.W.mg_of X G a26)
  cases e
  have F0 := fun_mk (st := s0) l0 c0 k0
  have T0 : Txt K mg "size_of" "size_of" s0 p0 := ⟨_, _, F0, PySem.W.mg_of X G a0, F0.binds (ps := p0) fun _ _ _ _ _ _ us hl => match us, hl with | [_], _ => rfl⟩
  have F1 := fun_mk (st := s1) l1 c1 k1
  have T1 : Txt K mg "height_of" "height_of" s1 p1 := ⟨_, _, F1, PySem.W.mg_of X G a1, F1.binds (ps := p1) fun _ _ _ _ _ _ us hl => match us, hl with | [_], _ => rfl⟩
  have F2 := fun_mk (st := s2) l2 c2 k2
  have T2 : Txt K mg "compare" "compare" s2 p2 := ⟨_, _, F2, PySem.W.mg_of X G a2, F2.binds (ps := p2) fun _ _ _ _ _ _ us hl => match us, hl with | [_, _], _ => rfl⟩
  have F3 := fun_mk (st := s3) l3 c3 k3
  have T3 : Txt K mg "sign_of" "sign_of" s3 p3 := ⟨_, _, F3, PySem.W.mg_of X G a3, F3.binds (ps := p3) fun _ _ _ _ _ _ us hl => match us, hl with | [_], _ => rfl⟩
  have F4 := fun_mk (st := s4) l4 c4 k4
  have T4 : Txt K mg "in_order" "in_order" s4 p4 := ⟨_, _, F4, PySem.W.mg_of X G a4, F4.binds (ps := p4) fun _ _ _ _ _ _ us hl => match us, hl with | [_], _ => rfl⟩
  have F5 := fun_mk (st := s5) l5 c5 k5
  have T5 : Txt K mg "gathered" "gathered" s5 p5 := ⟨_, _, F5, PySem.W.mg_of X G a5, F5.binds (ps := p5) fun _ _ _ _ _ _ us hl => match us, hl with | [_], _ => rfl⟩
  have F6 := fun_mk (st := s6) l6 c6 k6
  have T6 : Txt K mg "sign_at" "sign_at" s6 p6 := ⟨_, _, F6, PySem.W.mg_of X G a6, F6.binds (ps := p6) fun _ _ _ _ _ _ us hl => match us, hl with | [_, _, _, _], _ => rfl⟩
  have F7 := fun_mk (st := s7) l7 c7 k7
  have T7 : Txt K mg "next_of" "next_of" s7 p7 := ⟨_, _, F7, PySem.W.mg_of X G a7, F7.binds (ps := p7) fun _ _ _ _ _ _ us hl => match us, hl with | [_], _ => rfl⟩
  have F8 := fun_mk (st := s8) l8 c8 k8
  have T8 : Txt K mg "is_allowed" "is_allowed" s8 p8 := ⟨_, _, F8, PySem.W.mg_of X G a8, F8.binds (ps := p8) fun _ _ _ _ _ _ us hl => match us, hl with | [_], _ => rfl⟩
  have F9 := fun_mk (st := s9) l9 c9 k9
  have T9 : Txt K mg "allowed" "allowed" s9 p9 := ⟨_, _, F9, PySem.W.mg_of X G a9, F9.binds (ps := p9) fun _ _ _ _ _ _ us hl => match us, hl with | [_], _ => rfl⟩
  have F10 := fun_mk (st := s10) l10 c10 k10
  have T10 : Txt K mg "plus" "plus" s10 p10 := ⟨_, _, F10, PySem.W.mg_of X G a10, F10.binds (ps := p10) fun _ _ _ _ _ _ us hl => match us, hl with | [_, _], _ => rfl⟩
  have F11 := fun_mk (st := s11) l11 c11 k11
  have T11 : Txt K mg "shifted" "shifted" s11 p11 := ⟨_, _, F11, PySem.W.mg_of X G a11, F11.binds (ps := p11) fun _ _ _ _ _ _ us hl => match us, hl with | [_, _], _ => rfl⟩
  have F12 := fun_mk (st := s12) l12 c12 k12
  have T12 : Txt K mg "shift" "shift" s12 p12 := ⟨_, _, F12, PySem.W.mg_of X G a12, F12.binds (ps := p12) fun _ _ _ _ _ _ us hl => match us, hl with | [_, _], _ => rfl⟩
  have F13 := fun_mk (st := s13) l13 c13 k13
  have T13 : Txt K mg "_law_stream" "_law_stream" s13 p13 := ⟨_, _, F13, PySem.W.mg_of X G a13, F13.binds (ps := p13) fun _ _ _ _ _ _ us hl => match us, hl with | [_], _ => rfl⟩
  have F14 := fun_mk (st := s14) l14 c14 k14
  have T14 : Txt K mg "_law_pick" "_law_pick" s14 p14 := ⟨_, _, F14, PySem.W.mg_of X G a14, F14.binds (ps := p14) fun _ _ _ _ _ _ us hl => match us, hl with | [_, _, _], _ => rfl⟩
  have F15 := fun_mk (st := s15) l15 c15 k15
  have T15 : Txt K mg "_law_two" "_law_two" s15 p15 := ⟨_, _, F15, PySem.W.mg_of X G a15, F15.binds (ps := p15) fun _ _ _ _ _ _ us hl => match us, hl with | [_], _ => rfl⟩
  have F16 := fun_mk (st := s16) l16 c16 k16
  have T16 : Txt K mg "_law_of" "_law_of" s16 p16 := ⟨_, _, F16, PySem.W.mg_of X G a16, F16.binds (ps := p16) fun _ _ _ _ _ _ us hl => match us, hl with | [_], _ => rfl⟩
  have F17 := fun_mk (st := s17) l17 c17 k17
  have T17 : Txt K mg "_law_size" "_law_size" s17 p17 := ⟨_, _, F17, PySem.W.mg_of X G a17, F17.binds (ps := p17) fun _ _ _ _ _ _ us hl => match us, hl with | [_], _ => rfl⟩
  have F18 := fun_mk (st := s18) l18 c18 k18
  have T18 : Txt K mg "_law_height" "_law_height" s18 p18 := ⟨_, _, F18, PySem.W.mg_of X G a18, F18.binds (ps := p18) fun _ _ _ _ _ _ us hl => match us, hl with | [_], _ => rfl⟩
  have F19 := fun_mk (st := s19) l19 c19 k19
  have T19 : Txt K mg "_law_fits" "_law_fits" s19 p19 := ⟨_, _, F19, PySem.W.mg_of X G a19, F19.binds (ps := p19) fun _ _ _ _ _ _ us hl => match us, hl with | [_], _ => rfl⟩
  have F20 := fun_mk (st := s20) l20 c20 k20
  have T20 : Txt K mg "_law_exponent" "_law_exponent" s20 p20 := ⟨_, _, F20, PySem.W.mg_of X G a20, F20.binds (ps := p20) fun _ _ _ _ _ _ us hl => match us, hl with | [_, _], _ => rfl⟩
  have F21 := fun_mk (st := s21) l21 c21 k21
  have T21 : Txt K mg "_law_model" "_law_model" s21 p21 := ⟨_, _, F21, PySem.W.mg_of X G a21, F21.binds (ps := p21) fun _ _ _ _ _ _ us hl => match us, hl with | [_, _, _], _ => rfl⟩
  have F22 := fun_mk (st := s22) l22 c22 k22
  have T22 : Txt K mg "_law_rows" "_law_rows" s22 p22 := ⟨_, _, F22, PySem.W.mg_of X G a22, F22.binds (ps := p22) fun _ _ _ _ _ _ us hl => match us, hl with | [_], _ => rfl⟩
  have F23 := fun_mk (st := s23) l23 c23 k23
  have T23 : Txt K mg "_law_number" "_law_number" s23 p23 := ⟨_, _, F23, PySem.W.mg_of X G a23, F23.binds (ps := p23) fun _ _ _ _ _ _ us hl => match us, hl with | [_], _ => rfl⟩
  have F24 := fun_mk (st := s24) l24 c24 k24
  have T24 : Txt K mg "_law_places" "_law_places" s24 p24 := ⟨_, _, F24, PySem.W.mg_of X G a24, F24.binds (ps := p24) fun _ _ _ _ _ _ us hl => match us, hl with | [_, _], _ => rfl⟩
  have F25 := fun_mk (st := s25) l25 c25 k25
  have T25 : Txt K mg "_law_told" "_law_told" s25 p25 := ⟨_, _, F25, PySem.W.mg_of X G a25, F25.binds (ps := p25) fun _ _ _ _ _ _ us hl => match us, hl with | [_, _, _, _], _ => rfl⟩
  have FL := fun_mk (st := s26) l26 c26 k26
  refine ⟨PySem.W.fnOf "law" "law" (defArgs s26) (defBody s26) (defScope s26) .none kV26 dc26 pm26 an26 cd26 ct26, fun s v => .of_eq rfl, fun base _ _ => ?_⟩
  obtain ⟨hf_size_of, hf_height_of, hf_compare, hf_sign_of, hf_in_order, hf_gathered, hf_sign_at, hf_next_of, hf_is_allowed, hf_allowed, hf_plus, hf_shifted, hf_shift, hf__law_stream, hf__law_pick, hf__law_two, hf__law_of, hf__law_size, hf__law_height, hf__law_fits, hf__law_exponent, hf__law_model, hf__law_rows, hf__law_number, hf__law_places, hf__law_told, hj__law_size, hj__law_height, hj__law_fits⟩ := all_good (pr := l.prog) (w := w) (K := K) (mg := mg) (base := base) (ca := fun i => [A0, A1, A2, A3].getD i 0) (F := 20000) (PySem.W.mg_none_of X G z_int) (PySem.W.mg_none_of X G z_isinstance) (PySem.W.mg_none_of X G z_len) (PySem.W.mg_none_of X G z_list) (PySem.W.mg_none_of X G z_max) (PySem.W.mg_none_of X G z_range) (PySem.W.mg_none_of X G z_sorted) (PySem.W.mg_none_of X G z_sum) (PySem.W.mg_none_of X G z_tuple) (PySem.W.mg_none_of X G z_zip) (PySem.W.mg_of X G y_MAX_HEIGHT) (PySem.W.mg_of X G y_MAX_SIZE) ⟨⟨PySem.W.mg_of X G xa2, xe2, xk2, xb2, xt2⟩, xd2, ⟨xg2, xh2, xb2, xd2, xc2, xn, xo, xm2⟩⟩ ⟨⟨PySem.W.mg_of X G xa1, xe1, xk1, xb1, xt1⟩, xd1, ⟨xg1, xh1, xb1, xd1, xc1, xn, xo, xm1⟩⟩ ⟨⟨PySem.W.mg_of X G xa0, xe0, xk0, xb0, xt0⟩, xd0, ⟨xg0, xh0, xb0, xd0, xc0, xn, xo, xm0⟩⟩ ⟨⟨PySem.W.mg_of X G xa3, xe3, xk3, xb3, xt3⟩, xd3, ⟨xg3, xh3, xb3, xd3, xc3, xn, xo, xm3⟩⟩ (kit_f xd1 xt1 uk_BadRange_NotAllowed vk_BadRange_NotAllowed) (kit_t xd0 xt0 uk_BadRange_ReckonError) (kit_f xd3 xt3 uk_BadRange_TooLarge vk_BadRange_TooLarge) s_BadRange_BadRange s_TooLarge_BadRange s_TooLarge_TooLarge T0 T1 T2 T3 T4 T5 T6 T7 T8 T9 T10 T11 T12 T13 T14 T15 T16 T17 T18 T19 T20 T21 T22 T23 T24 T25 100
  exact law_ok FL sc26 rfl rfl rfl (by decide) (w26 hf__law_fits hf__law_model hf__law_number hf__law_of hf__law_pick hf__law_places hf__law_rows hf__law_stream hf__law_told hf__law_two hf_shift (PySem.W.mg_none_of X G z_max) (PySem.W.mg_none_of X G z_range)) pure_law
end My
open PySem PySem.W PyProof.Rows
set_option maxHeartbeats 0 in
theorem PySem.Challenge.cw_sandreckoner_k04_shifts_holds : PySem.Challenge.rw_sandreckoner_k04_shifts.Holds := by
  w_on; o_law; k_head; (case hw => w_witness2)
  k_fill
  refine L2.walk_of (l := PySem.Challenge.rw_sandreckoner_k04_shifts) (n := 63) (k := 101) (x := "_law_script") (CX := fun _ => L2.CX0) (sp := fun w => Rf.spLaw 63 _) rfl (by decide) rfl ⟨rfl, by decide, by decide⟩ (fun w h Y => PySem.W.kIn_of Y) ?F (fun _ _ a ns hl _ hS => ⟨a, ns, rfl, hS, hl, fun _ => rfl⟩) (fun _ _ _ _ _ h => h)
  case F =>
    intro w mg fa h KX G hmg
    refine' My.all_mk KX G hmg ?a0 ?l0 ?c0 ?k0 ?a1 ?l1 ?c1 ?k1 ?a2 ?l2 ?c2 ?k2 ?a3 ?l3 ?c3 ?k3 ?a4 ?l4 ?c4 ?k4 ?a5 ?l5 ?c5 ?k5 ?a6 ?l6 ?c6 ?k6 ?a7 ?l7 ?c7 ?k7 ?a8 ?l8 ?c8 ?k8 ?a9 ?l9 ?c9 ?k9 ?a10 ?l10 ?c10 ?k10 ?a11 ?l11 ?c11 ?k11 ?a12 ?l12 ?c12 ?k12 ?a13 ?l13 ?c13 ?k13 ?a14 ?l14 ?c14 ?k14 ?a15 ?l15 ?c15 ?k15 ?a16 ?l16 ?c16 ?k16 ?a17 ?l17 ?c17 ?k17 ?a18 ?l18 ?c18 ?k18 ?a19 ?l19 ?c19 ?k19 ?a20 ?l20 ?c20 ?k20 ?a21 ?l21 ?c21 ?k21 ?a22 ?l22 ?c22 ?k22 ?a23 ?l23 ?c23 ?k23 ?a24 ?l24 ?c24 ?k24 ?a25 ?l25 ?c25 ?k25 ?a26 ?l26 ?c26 ?k26 ?z_int ?z_isinstance ?z_len ?z_list ?z_max ?z_range ?z_sorted ?z_sum ?z_tuple ?z_zip ?y_MAX_HEIGHT ?y_MAX_SIZE ?xa0 ?xe0 ?xk0 ?xb0 ?xt0 ?xd0 ?xg0 ?xh0 ?xc0 ?xm0 ?xa1 ?xe1 ?xk1 ?xb1 ?xt1 ?xd1 ?xg1 ?xh1 ?xc1 ?xm1 ?xa2 ?xe2 ?xk2 ?xb2 ?xt2 ?xd2 ?xg2 ?xh2 ?xc2 ?xm2 ?xa3 ?xe3 ?xk3 ?xb3 ?xt3 ?xd3 ?xg3 ?xh3 ?xc3 ?xm3 ?xn ?xo ?uk_BadRange_NotAllowed ?vk_BadRange_NotAllowed ?uk_BadRange_ReckonError ?uk_BadRange_TooLarge ?vk_BadRange_TooLarge ?s_BadRange_BadRange ?s_TooLarge_BadRange ?s_TooLarge_TooLarge
    (case a0 => k_is); (case l0 => k_is); (case c0 => k_is); (case k0 => k_is); (case a1 => k_is); (case l1 => k_is); (case c1 => k_is); (case k1 => k_is); (case a2 => k_is); (case l2 => k_is); (case c2 => k_is); (case k2 => k_is); (case a3 => k_is); (case l3 => k_is); (case c3 => k_is); (case k3 => k_is); (case a4 => k_is); (case l4 => k_is); (case c4 => k_is); (case k4 => k_is); (case a5 => k_is); (case l5 => k_is); (case c5 => k_is); (case k5 => k_is); (case a6 => k_is); (case l6 => k_is); (case c6 => k_is); (case k6 => k_is); (case a7 => k_is); (case l7 => k_is); (case c7 => k_is); (case k7 => k_is); (case a8 => k_is); (case l8 => k_is); (case c8 => k_is); (case k8 => k_is); (case a9 => k_is); (case l9 => k_is); (case c9 => k_is); (case k9 => k_is); (case a10 => k_is); (case l10 => k_is); (case c10 => k_is); (case k10 => k_is); (case a11 => k_is); (case l11 => k_is); (case c11 => k_is); (case k11 => k_is); (case a12 => k_is); (case l12 => k_is); (case c12 => k_is); (case k12 => k_is); (case a13 => k_is); (case l13 => k_is); (case c13 => k_is); (case k13 => k_is); (case a14 => k_is); (case l14 => k_is); (case c14 => k_is); (case k14 => k_is); (case a15 => k_is); (case l15 => k_is); (case c15 => k_is); (case k15 => k_is); (case a16 => k_is); (case l16 => k_is); (case c16 => k_is); (case k16 => k_is); (case a17 => k_is); (case l17 => k_is); (case c17 => k_is); (case k17 => k_is); (case a18 => k_is); (case l18 => k_is); (case c18 => k_is); (case k18 => k_is); (case a19 => k_is); (case l19 => k_is); (case c19 => k_is); (case k19 => k_is); (case a20 => k_is); (case l20 => k_is); (case c20 => k_is); (case k20 => k_is); (case a21 => k_is); (case l21 => k_is); (case c21 => k_is); (case k21 => k_is); (case a22 => k_is); (case l22 => k_is); (case c22 => k_is); (case k22 => k_is); (case a23 => k_is); (case l23 => k_is); (case c23 => k_is); (case k23 => k_is); (case a24 => k_is); (case l24 => k_is); (case c24 => k_is); (case k24 => k_is); (case a25 => k_is); (case l25 => k_is); (case c25 => k_is); (case k25 => k_is); (case a26 => k_is); (case l26 => k_is); (case c26 => k_is); (case k26 => k_is); (case z_int => k_is); (case z_isinstance => k_is); (case z_len => k_is); (case z_list => k_is); (case z_max => k_is); (case z_range => k_is); (case z_sorted => k_is); (case z_sum => k_is); (case z_tuple => k_is); (case z_zip => k_is); (case y_MAX_HEIGHT => k_is); (case y_MAX_SIZE => k_is); (case xa0 => k_is); (case xe0 => k_exc); (case xk0 => k_is); (case xb0 => k_is); (case xt0 => k_is); (case xd0 => k_is); (case xg0 => k_is); (case xh0 => k_is); (case xc0 => k_is); (case xm0 => k_is); (case xa1 => k_is); (case xe1 => k_exc); (case xk1 => k_is); (case xb1 => k_is); (case xt1 => k_is); (case xd1 => k_is); (case xg1 => k_is); (case xh1 => k_is); (case xc1 => k_is); (case xm1 => k_is); (case xa2 => k_is); (case xe2 => k_exc); (case xk2 => k_is); (case xb2 => k_is); (case xt2 => k_is); (case xd2 => k_is); (case xg2 => k_is); (case xh2 => k_is); (case xc2 => k_is); (case xm2 => k_is); (case xa3 => k_is); (case xe3 => k_exc); (case xk3 => k_is); (case xb3 => k_is); (case xt3 => k_is); (case xd3 => k_is); (case xg3 => k_is); (case xh3 => k_is); (case xc3 => k_is); (case xm3 => k_is); (case xn => k_is); (case xo => k_is); (case uk_BadRange_NotAllowed => k_is); (case vk_BadRange_NotAllowed => rfl); (case uk_BadRange_ReckonError => k_is); (case uk_BadRange_TooLarge => k_is); (case vk_BadRange_TooLarge => rfl); (case s_BadRange_BadRange => k_is); (case s_TooLarge_BadRange => k_is); (case s_TooLarge_TooLarge => k_is)
