import PyProof.Rows.All
import Wide.All
import OpenK.AllK
import Wide.FinOn
import KE.KDictKeyed
import KE.SortData
import HandS.ForMost
import HandS.Evl
import HandS.DictComp
import HandS.TupAny
import HandS.TupSets
import HandS.IsInst
import HandS.Zip
import HandS.Conv
import HandS.Deep
import HandS.Flow
import HandS.Style
import HandS.Walk
import HandS.Strs
import HandS.Exc
import HandS.SetFor
import KE.GoesEnumKw
import PyProof.Draws
import PyProof.EnumMake
import HandS.NoneIn
import PySem.Challenge.RW_leavefirst_k82_whole_every_regime_come_t
set_option Elab.async false
set_option linter.all false
set_option maxRecDepth 100000
set_option maxHeartbeats 4000000
/-! Dicts whose keys are None or nested tuples: the model's own level. -/
namespace K82
open PySem PySem.Spec PyProof.Rows

abbrev NK := NestedKey

/-- the value u, None or a tuple, is the key k -/
def KeyAt (h : Heap) (k : NK) (u : Value) : Prop := NestedIs h k u ∧ k.depth ≤ 8 ∧ (u = .none ∨ ∃ a, u = .ref a)

def GPair (w : World) (x : Value × NK) (en : DictEntry) : Prop := en.hash = x.2.hash w ∧ en.key = x.1

def GDict (w : World) (h : Heap) (d : Addr) (ks : List (Value × NK)) : Prop :=
  ∃ o es ep, h.get? d = some o ∧ o.ExactDict ∧ o.data = .dict es ep ∧ Paired (GPair w) ks es.toList ∧ (ks.map (·.2)).Nodup

theorem paired_at {α β : Type} {G : α → β → Prop} {l : List α} {m : List β} (p : Paired G l m) (i : Nat) : (l[i]? = none ∧ m[i]? = none) ∨ ∃ a b, l[i]? = some a ∧ m[i]? = some b ∧ G a b := by
  induction p generalizing i with
  | nil => left; simp
  | cons r t ih =>
    cases i with
    | zero => right; exact ⟨_, _, rfl, rfl, r⟩
    | succ j => simpa using ih j

section
variable {prog : Program} {w : World} {A : Around} {E : Value → Shared → Prop} {s : Shared} {d : Addr} {k : NK} {u : Value} {ks : List (Value × NK)} {o : Obj} {es : Array DictEntry} {ep : Nat}

theorem quiet_at {v : Value} {j : NK} (x : KeyAt s.heap j v) {Q : Bool → Shared → Prop} (h : Q true s) : wpAny (model prog w) A (eqIsQuiet 8 v) Q E s := quiet_key j v 8 s x.1 x.2.1 A E Q h

theorem tells_not (x : KeyAt s.heap k u) {st : List Value} (hst : ∀ v ∈ st, ∃ j, KeyAt s.heap j v) {Q : Bool → Shared → Prop} (h : Q false s) : wpAny (model prog w) A (tableMayTell u st) Q E s := by
  unfold tableMayTell
  split
  · exact wpAny_pure h
  · refine wpAny_bind (quiet_at x ?_)
    simp only [Bool.not_true, Bool.false_eq_true, if_false]
    refine wpAny_bind ?_
    refine wpAny_forIn_list _ (fun rest r s' => s' = s ∧ r = (none, ()) ∧ ∀ v ∈ rest, ∃ j, KeyAt s.heap j v) _ ?_ ?_ _ _ ⟨rfl, rfl, hst⟩
    · rintro y rest r s' ⟨rfl, rfl, hr⟩
      obtain ⟨j, hj⟩ := hr y List.mem_cons_self
      refine wpAny_bind (quiet_at hj ?_)
      simp only [Bool.not_true, Bool.false_eq_true, if_false]
      exact wpAny_pure ⟨rfl, rfl, fun v hv => hr v (List.mem_cons_of_mem _ hv)⟩
    · rintro r s' ⟨rfl, rfl, _⟩
      exact wpAny_pure h

/-- what the search has seen so far -/
def Seen (ks : List (Value × NK)) (k : NK) (i : Nat) (hit : Option Nat) : Prop :=
  (hit = none ∧ ∀ (j : Nat) (x : Value × NK), j < i → ks[j]? = some x → x.2 ≠ k) ∨ ∃ (j : Nat) (x : Value × NK), hit = some j ∧ j < i ∧ ks[j]? = some x ∧ x.2 = k

theorem key_once (hn : (ks.map (·.2)).Nodup) {i j : Nat} {x y : Value × NK} (hi : ks[i]? = some x) (hj : ks[j]? = some y) (e : x.2 = y.2) : i = j := by
  have h1 : (ks.map (·.2))[i]? = some x.2 := by rw [List.getElem?_map, hi]; rfl
  have h2 : (ks.map (·.2))[j]? = some x.2 := by rw [List.getElem?_map, hj, e]; rfl
  exact (List.getElem?_inj (List.getElem?_eq_some_iff.mp h1).1 hn).mp (h1.trans h2.symm)

theorem find_g (hu : A.units + 8 < cLine) (hk : KeyAt s.heap k u) (ho : s.heap.get? d = some o) (hd : o.data = .dict es ep) (he : Paired (GPair w) ks es.toList) (his : ∀ x ∈ ks, KeyAt s.heap x.2 x.1) (hn : (ks.map (·.2)).Nodup)
    {Q : Option Nat → Shared → Prop} (hnone : (∀ (j : Nat) (x : Value × NK), ks[j]? = some x → x.2 ≠ k) → Q none s) (hsome : ∀ (j : Nat) (x : Value × NK), ks[j]? = some x → x.2 = k → Q (some j) s) :
    wpAny (model prog w) A (dictFind d u (k.hash w)) Q E s := by
  have hsz : es.size = ks.length := by have := Paired.length he; rw [Array.length_toList] at this; exact this.symm
  have at_ : ∀ i : Nat, i < es.size → ∃ x en, ks[i]? = some x ∧ es[i]? = some en ∧ en.hash = x.2.hash w ∧ en.key = x.1 := fun i hi => by
    rcases paired_at he i with ⟨h1, _⟩ | ⟨x, en, h1, h2, h3, h4⟩
    · have := List.getElem?_eq_none_iff.mp h1; omega
    · exact ⟨x, en, h1, by rw [← Array.getElem?_toList]; exact h2, h3, h4⟩
  have hstored : ∀ v ∈ (placesWithHash es.size (fun i => es[i]?.map (·.hash)) (k.hash w)).filterMap (fun i => es[i]?.map (·.key)), ∃ j, KeyAt s.heap j v := by
    intro v hv
    obtain ⟨i, _, hi⟩ := List.mem_filterMap.mp hv
    cases q : es[i]? with
    | none => rw [q] at hi; cases hi
    | some e =>
      rw [q] at hi
      obtain rfl : e.key = v := by simpa using hi
      obtain ⟨x, en, h1, h2, _, h4⟩ := at_ i (by obtain ⟨z, _⟩ := Array.getElem?_eq_some_iff.mp q; exact z)
      rw [q] at h2; cases h2
      rw [h4]
      exact ⟨x.2, his x (List.mem_of_getElem? h1)⟩
  have notstr : ∀ z t, u ≠ .str z t := fun z t e => by
    rcases hk.2.2 with q | ⟨a, q⟩ <;> rw [q] at e <;> cases e
  -- one turn's question
  have asks : ∀ {x : Value × NK} {R : Bool → Shared → Prop}, x ∈ ks → R (decide (x.2 = k)) s → wpAny (model prog w) A (eqBool x.1 u) R E s := fun {x R} hx q =>
    eqAt_key x.2 k A s x.1 u (his x hx).1 hk.1 (by have := hk.2.1; omega) prog w E R (by rw [← NestedKey.decide_eq]; exact q)
  have haskey : ∀ (j : Nat) (x : Value × NK), ks[j]? = some x → x.2 = k → ((es[j]?.map (·.hash)) == some (k.hash w)) = true := by
    intro j x hj e
    have hlt : j < es.size := by rw [hsz]; exact (List.getElem?_eq_some_iff.mp hj).1
    obtain ⟨y, en, h1, h2, h3, _⟩ := at_ j hlt
    rw [hj] at h1; cases h1
    rw [h2, Option.map_some, h3, e]; simp
  unfold dictFind
  try with_reducible refine wpAny_holding ?_
  refine wpAny_bind (wpAny_dictEntries ho hd ?_)
  have start : Seen ks k 0 none := .inl ⟨rfl, fun _ _ h => absurd h (Nat.not_lt_zero _)⟩
  have ending : ∀ {i : Nat} {hit : Option Nat}, Seen ks k i hit → (∀ j, i ≤ j → j < es.size → ((es[j]?.map (·.hash)) == some (k.hash w)) = false) → Q hit s := fun {i hit} S hall => by
    rcases S with ⟨rfl, hno⟩ | ⟨j, x, rfl, _, hj, e⟩
    · refine hnone fun j x hj e => ?_
      rcases Nat.lt_or_ge j i with q | q
      · exact hno j x q hj e
      · have hlt : j < es.size := by rw [hsz]; exact (List.getElem?_eq_some_iff.mp hj).1
        have := hall j q hlt
        rw [haskey j x hj e] at this
        cases this
    · exact hsome j x hj e
  have skip : ∀ {i j : Nat} {hit : Option Nat}, Seen ks k i hit → i ≤ j → (∀ l, i ≤ l → l < j → ((es[l]?.map (·.hash)) == some (k.hash w)) = false) → Seen ks k j hit := fun {i j hit} S hij hs => by
    rcases S with ⟨h0, hno⟩ | ⟨l, x, h1, hl, hx, e⟩
    · refine .inl ⟨h0, fun l x hl hx e => ?_⟩
      rcases Nat.lt_or_ge l i with q | q
      · exact hno l x q hx e
      · have := hs l q hl
        rw [haskey l x hx e] at this
        cases this
    · exact .inr ⟨l, x, h1, by omega, hx, e⟩
  have stay : ∀ {i : Nat} {hit : Option Nat} {x : Value × NK}, Seen ks k i hit → ks[i]? = some x → x.2 ≠ k → Seen ks k (i + 1) hit := fun {i hit x} S hx ne => by
    rcases S with ⟨h0, hno⟩ | ⟨l, y, h1, hl, hy, e⟩
    · refine .inl ⟨h0, fun l y hl hy e => ?_⟩
      rcases Nat.lt_or_ge l i with q | q
      · exact hno l y q hy e
      · have : l = i := by omega
        subst this
        rw [hx] at hy; cases hy
        exact ne e
    · exact .inr ⟨l, y, h1, by omega, hy, e⟩
  have hany : ∀ a : Addr, u = .ref a → ¬ (es.any fun e => e.key == Value.ref a && e.hash != k.hash w) = true := fun a ua => by
    subst ua
    rw [← Array.any_toList, List.any_eq_true]
    rintro ⟨e, hin, hc⟩
    obtain ⟨i, hi⟩ := List.mem_iff_getElem?.mp hin
    rcases paired_at he i with ⟨_, z⟩ | ⟨x, en, h1, h2, h3, h4⟩
    · rw [hi] at z; cases z
    · rw [hi] at h2; cases h2
      simp only [Bool.and_eq_true, beq_iff_eq, bne_iff_ne, ne_eq] at hc
      refine hc.2 ?_
      have q := (his x (List.mem_of_getElem? h1)).1
      rw [← h4, hc.1] at q
      rw [h3, NestedIs.inj _ _ _ q hk.1]
  by_cases hplain : ((u :: (placesWithHash es.size (fun i => es[i]?.map (·.hash)) (k.hash w)).filterMap (fun i => es[i]?.map (·.key))).all carriedByValue) = true
  · have tail : wpAny (model prog w) A (dictWalkPlain d u (k.hash w) es (placesWithHash es.size (fun i => es[i]?.map (·.hash)) (k.hash w))) Q E s := by
      unfold dictWalkPlain
      refine wpAny_bind ?_
      refine wpAny_forIn_list _
        (fun rest b s' => s' = s ∧ b = (none, ()) ∧ ∃ i, rest = (List.range' i (es.size - i)).filter (fun i => (es[i]?.map (·.hash)) == some (k.hash w)) ∧ i ≤ es.size ∧ Seen ks k i none) _ ?_ ?_ _ _
        ⟨rfl, rfl, 0, by rw [placesWithHash, List.range_eq_range', Nat.sub_zero], Nat.zero_le _, start⟩
      · rintro x rest b s' ⟨rfl, rfl, i, hr, hi, S⟩
        obtain ⟨hix, hxn, hpx, hskip, hrest⟩ := filter_range'_cons _ _ _ _ _ hr.symm
        have hlt : x < es.size := by omega
        have hrest' : rest = (List.range' (x + 1) (es.size - (x + 1))).filter (fun i => (es[i]?.map (·.hash)) == some (k.hash w)) := by rw [hrest]; congr 2; omega
        obtain ⟨y, en, h1, h2, h3, h4⟩ := at_ x hlt
        have S' := skip S hix hskip
        rw [h2]
        dsimp only
        by_cases hh : (en.hash == k.hash w) = true
        · rw [if_pos hh]
          refine wpAny_bind (wpAny_dictEpoch ho hd (wpAny_bind ?_))
          rw [h4]
          refine asks (List.mem_of_getElem? h1) (wpAny_bind (wpAny_dictEpoch ho hd ?_))
          rw [if_neg (show ¬ ((ep != ep) = true) by simp)]
          by_cases hkk : y.2 = k
          · rw [decide_eq_true hkk, if_pos rfl]
            exact wpAny_bind (wpAny_rule (wpAny_pure (wpAny_pure (hsome x y h1 hkk))))
          · rw [decide_eq_false hkk, if_neg Bool.false_ne_true]
            exact wpAny_bind (wpAny_rule (wpAny_pure ⟨rfl, rfl, x + 1, hrest', hlt, stay S' h1 hkk⟩))
        · rw [if_neg hh]
          refine wpAny_pure ⟨rfl, rfl, x + 1, hrest', hlt, stay S' h1 fun e => hh ?_⟩
          rw [h3, e]; simp
      · rintro b s' ⟨rfl, rfl, i, hr, hi, S⟩
        refine wpAny_pure (ending S fun j h1 h2 => ?_)
        have := List.filter_eq_nil_iff.mp hr.symm j (List.mem_range'_1.mpr ⟨h1, by omega⟩)
        simpa using this
    rcases hk.2.2 with rfl | ⟨a, rfl⟩
    · dsimp only
      rw [if_pos hplain]
      exact tail
    · dsimp only
      rw [if_pos hplain]
      exact tail
  · obtain ⟨u', hu'⟩ : ∃ u', u' = u := ⟨u, rfl⟩
    rcases hk.2.2 with rfl | ⟨a, rfl⟩
    all_goals
      dsimp only
      rw [if_neg hplain]
      try rw [if_neg (hany _ rfl)]
      by_cases hone : (((placesWithHash es.size (fun i => es[i]?.map (·.hash)) (k.hash w)).filterMap (fun i => es[i]?.map (·.key))) == [u']) = true
      all_goals rw [hu'] at hone
      all_goals
        first
          | (rw [if_pos hone]; refine wpAny_bind (wpAny_pure ?_))
          | (rw [if_neg hone]; refine wpAny_bind (tells_not hk hstored ?_))
        rw [if_neg (by simp)]
        refine wpAny_bind ?_
        refine wpAny_forIn_list _
          (fun rest b s' => s' = s ∧ b.1 = none ∧ ∃ i, rest = (List.range' i (es.size - i)).filter (fun i => (es[i]?.map (·.hash)) == some (k.hash w)) ∧ i ≤ es.size ∧ Seen ks k i b.2) _ ?_ ?_ _ _
          ⟨rfl, rfl, 0, by rw [placesWithHash, List.range_eq_range', Nat.sub_zero], Nat.zero_le _, start⟩
        · rintro x rest ⟨b1, hit⟩ s' ⟨rfl, hb, i, hr, hi, S⟩
          obtain rfl : b1 = none := hb
          have S : Seen ks k i hit := S
          obtain ⟨hix, hxn, hpx, hskip, hrest⟩ := filter_range'_cons _ _ _ _ _ hr.symm
          have hlt : x < es.size := by omega
          have hrest' : rest = (List.range' (x + 1) (es.size - (x + 1))).filter (fun i => (es[i]?.map (·.hash)) == some (k.hash w)) := by rw [hrest]; congr 2; omega
          obtain ⟨y, en, h1, h2, h3, h4⟩ := at_ x hlt
          have S' := skip S hix hskip
          rw [h2]
          dsimp only
          by_cases hh : (en.hash == k.hash w) = true
          · rw [if_pos hh]
            refine wpAny_bind (wpAny_dictEpoch ho hd (wpAny_bind ?_))
            rw [h4]
            refine asks (List.mem_of_getElem? h1) (wpAny_bind (wpAny_dictEpoch ho hd ?_))
            rw [if_neg (show ¬ ((ep != ep) = true) by simp)]
            by_cases hkk : y.2 = k
            · rw [decide_eq_true hkk, if_pos rfl]
              have hnot : hit = none := by
                rcases S' with ⟨z, _⟩ | ⟨j, z, _, hj, hz, e⟩
                · exact z
                · exact absurd (key_once hn hz h1 (e.trans hkk.symm)) (by omega)
              subst hnot
              rw [if_neg (by simp)]
              refine wpAny_bind (wpAny_rule ?_)
              split
              · exact wpAny_pure (wpAny_pure (hsome x y h1 hkk))
              · exact wpAny_pure ⟨rfl, rfl, x + 1, hrest', hlt, .inr ⟨x, y, rfl, Nat.lt_succ_self x, h1, hkk⟩⟩
            · rw [decide_eq_false hkk, if_neg Bool.false_ne_true]
              refine wpAny_bind (wpAny_rule ?_)
              rw [if_neg (by simp)]
              exact wpAny_pure ⟨rfl, rfl, x + 1, hrest', hlt, stay S' h1 hkk⟩
          · rw [if_neg hh]
            refine wpAny_pure ⟨rfl, rfl, x + 1, hrest', hlt, stay S' h1 fun e => hh ?_⟩
            rw [h3, e]; simp
        · rintro ⟨b1, hit⟩ s' ⟨rfl, hb, i, hr, hi, S⟩
          obtain rfl : b1 = none := hb
          refine wpAny_pure (ending S fun j h1 h2 => ?_)
          have := List.filter_eq_nil_iff.mp hr.symm j (List.mem_range'_1.mpr ⟨h1, by omega⟩)
          simpa using this
end
end K82
namespace K82
open PySem PySem.Spec PyProof.Rows

section
variable {prog : Program} {w : World} {A : Around} {E : Value → Shared → Prop} {s : Shared} {d : Addr} {k : NK} {u : Value} {ks : List (Value × NK)}

theorem GDict.typeIs {s : Shared} (g : GDict w s.heap d ks) : s.TypeIs (.ref d) "dict" := let ⟨o, _, _, ho, hc, _⟩ := g; ⟨o, ho, hc.1⟩

theorem mem_keys {j : Nat} {x : Value × NK} (h : ks[j]? = some x) : x.2 ∈ ks.map (·.2) := List.mem_map.mpr ⟨x, List.mem_of_getElem? h, rfl⟩
theorem not_keys (h : ∀ (j : Nat) (x : Value × NK), ks[j]? = some x → x.2 ≠ k) : k ∉ ks.map (·.2) := fun m => by
  obtain ⟨x, hx, e⟩ := List.mem_map.mp m
  obtain ⟨j, hj⟩ := List.mem_iff_getElem?.mp hx
  exact h j x hj e

/-- a look-up, told by whether it finds -/
theorem get_g (hu : A.units + 8 < cLine) (hk : KeyAt s.heap k u) (g : GDict w s.heap d ks) (his : ∀ x ∈ ks, KeyAt s.heap x.2 x.1) {Q : Option Value → Shared → Prop}
    (h : ∀ r : Option Value, r.isSome = decide (k ∈ ks.map (·.2)) → Q r { s with toks := s.toks + k.draws }) : wpAny (model prog w) A (dictGet d u) Q E s := by
  obtain ⟨o, es, ep, ho, _, hd, he, hn⟩ := g
  unfold dictGet
  try with_reducible refine wpAny_holding ?_
  refine wpAny_bind (pyHash_key k u A s _ hk.1 (by have := hk.2.1; omega) (wpAny_bind (find_g (s := { s with toks := s.toks + k.draws }) hu hk ho hd he his hn ?_ ?_)))
  · intro hno
    exact wpAny_pure (h none (by rw [decide_eq_false (not_keys hno)]; rfl))
  · intro j x hj e
    refine wpAny_bind (wpAny_dictEntries (s := { s with toks := s.toks + k.draws }) ho hd ?_)
    rcases paired_at he j with ⟨z, _⟩ | ⟨y, en, h1, h2, _⟩
    · rw [hj] at z; cases z
    · rw [show es[j]? = some en by rw [← Array.getElem?_toList]; exact h2]
      exact wpAny_pure (h (some en.val) (by rw [decide_eq_true (e ▸ mem_keys hj)]; rfl))

theorem has_g (hu : A.units + 9 < cLine) (hk : KeyAt s.heap k u) (hs : (d == sysModules) = false) (g : GDict w s.heap d ks) (his : ∀ x ∈ ks, KeyAt s.heap x.2 x.1) {Q : Bool → Shared → Prop}
    (h : Q (decide (k ∈ ks.map (·.2))) { s with toks := s.toks + k.draws }) : wpAny (model prog w) A (contains (.ref d) u) Q E s := by
  refine wpAny_contains_slot g.typeIs PySem.F.slot_dict_contains ?_
  refine call_meetsIn PySem.F.slot_dict_contains g.typeIs PySem.F.entry_dict_contains (PySem.F.args_dict_contains_2 _ _) (S := fun A' R s' => A' = A ∧ s' = s ∧ R (.ok (.ret (.bool (decide (k ∈ ks.map (·.2)))))) { s with toks := s.toks + k.draws }) (fun A' R s' hS => ?_) ⟨rfl, rfl, wpAny_truthy_bool h⟩
  obtain ⟨rfl, rfl, hq⟩ := hS
  show wpAny _ _ (dictGet d u >>= _) _ _ _
  refine wpAny_bind (get_g (by show A'.units + 1 + 8 < cLine; omega) hk g his fun r hr => ?_)
  cases r with
  | some p =>
    rw [← hr] at hq
    show wpAny _ _ (ret (.bool true)) _ _ _
    exact wpAny_pure hq
  | none =>
    rw [← hr] at hq
    show wpAny _ _ (Builtin.Dict.pendingKey? d u >>= _) _ _ _
    exact wpAny_bind (wpAny_pendingKey_other hs (wpAny_pure hq))
theorem in_g (hu : A.units + 9 < cLine) (hk : KeyAt s.heap k u) (hs : (d == sysModules) = false) (g : GDict w s.heap d ks) (his : ∀ x ∈ ks, KeyAt s.heap x.2 x.1) {Q : Value → Shared → Prop}
    (h : Q (.bool (decide (k ∈ ks.map (·.2)))) { s with toks := s.toks + k.draws }) : wpAny (model prog w) A (compareOp .In u (.ref d)) Q E s := by
  show wpAny _ _ (do return .bool (← contains (.ref d) u)) Q E s
  exact wpAny_bind (has_g hu hk hs g his (wpAny_pure h))
theorem notIn_g (hu : A.units + 9 < cLine) (hk : KeyAt s.heap k u) (hs : (d == sysModules) = false) (g : GDict w s.heap d ks) (his : ∀ x ∈ ks, KeyAt s.heap x.2 x.1) {Q : Value → Shared → Prop}
    (h : Q (.bool (!decide (k ∈ ks.map (·.2)))) { s with toks := s.toks + k.draws }) : wpAny (model prog w) A (compareOp .NotIn u (.ref d)) Q E s := by
  show wpAny _ _ (do return .bool (!(← contains (.ref d) u))) Q E s
  exact wpAny_bind (has_g hu hk hs g his (wpAny_pure h))

/-- the keys behind a store -/
def putG (ks : List (Value × NK)) (u : Value) (k : NK) : List (Value × NK) := if k ∈ ks.map (·.2) then ks else ks ++ [(u, k)]

theorem paired_modify {α β : Type} {G : α → β → Prop} {f : β → β} (hf : ∀ a b, G a b → G a (f b)) {l : List α} {m : List β} (p : Paired G l m) : ∀ j : Nat, Paired G l (m.modify j f) := by
  induction p with
  | nil => intro j; simp; exact .nil
  | cons r t ih =>
    intro j
    cases j with
    | zero => simpa using Paired.cons (hf _ _ r) t
    | succ j => simpa using Paired.cons r (ih j)
theorem paired_snoc {α β : Type} {G : α → β → Prop} {a : α} {b : β} (r : G a b) {l : List α} {m : List β} (p : Paired G l m) : Paired G (l ++ [a]) (m ++ [b]) := by
  induction p with
  | nil => exact .cons r .nil
  | cons q t ih => exact .cons q ih

theorem put_g {v : Value} (hu : A.units + 8 < cLine) (hk : KeyAt s.heap k u) (g : GDict w s.heap d ks) (his : ∀ x ∈ ks, KeyAt s.heap x.2 x.1) (hz : ks.length ≤ sizeLine) {Q : Unit → Shared → Prop}
    (h : ∀ h', GDict w h' d (putG ks u k) → Heap.SameBut d s.heap h' → Q () { s with heap := h', toks := s.toks + k.draws }) : wpAny (model prog w) A (dictSet d u v) Q E s := by
  obtain ⟨o, es, ep, ho, hc, hd, he, hn⟩ := g
  have hl : es.size = ks.length := by have := Paired.length he; rw [Array.length_toList] at this; exact this.symm
  unfold dictSet
  try with_reducible refine wpAny_holding ?_
  refine wpAny_bind (pyHash_key k u A s _ hk.1 (by have := hk.2.1; omega) ?_)
  unfold dictSetHashed
  try with_reducible refine wpAny_holding ?_
  refine wpAny_bind (find_g (s := { s with toks := s.toks + k.draws }) hu hk ho hd he his hn ?_ ?_)
  · intro hno
    have hnot := not_keys hno
    refine wpAny_bind (wpAny_rule (wpAny_updateDictKeys (hz := by omega) (s := { s with toks := s.toks + k.draws }) ho hd (h _ ⟨_, _, ep + 1, Heap.get?_update_self _ ho (Obj.isFreed_of_dict (Obj.data_mapDictKeys hd _)), hc.mapDictKeys _, Obj.data_mapDictKeys hd _, ?_, ?_⟩ (Heap.SameBut.update ..))))
    · unfold putG
      rw [if_neg hnot, Array.toList_push]
      exact paired_snoc ⟨rfl, rfl⟩ he
    · unfold putG
      rw [if_neg hnot, List.map_append]
      refine List.nodup_append.mpr ⟨hn, by simp, fun x hx y hy e => ?_⟩
      simp only [List.map_cons, List.map_nil, List.mem_singleton] at hy
      exact hnot (by rw [← hy, ← e]; exact hx)
  · intro j x hj e
    refine wpAny_bind (wpAny_rule (wpAny_bind (wpAny_updateDict (s := { s with toks := s.toks + k.draws }) ho hd (wpAny_point (h _ ⟨_, _, ep, Heap.get?_update_self _ ho (Obj.isFreed_of_dict (Obj.data_mapDict hd _)), hc.mapDict _, Obj.data_mapDict hd _, ?_, ?_⟩ (Heap.SameBut.update ..))))))
    · unfold putG
      rw [if_pos (e ▸ mem_keys hj), Array.toList_modify]
      exact paired_modify (fun a b r => ⟨r.1, r.2⟩) he j
    · unfold putG
      rw [if_pos (e ▸ mem_keys hj)]
      exact hn

theorem setItem_g {v : Value} (hu : A.units + 9 < cLine) (hk : KeyAt s.heap k u) (g : GDict w s.heap d ks) (his : ∀ x ∈ ks, KeyAt s.heap x.2 x.1) (hz : ks.length ≤ sizeLine) {Q : Unit → Shared → Prop}
    (h : ∀ h', GDict w h' d (putG ks u k) → Heap.SameBut d s.heap h' → Q () { s with heap := h', toks := s.toks + k.draws }) : wpAny (model prog w) A (setItem (.ref d) u v) Q E s := by
  unfold setItem
  try with_reducible refine wpAny_holding ?_
  refine wpAny_bind (wpAny_sequenceKey g.typeIs (by decide) ?_)
  refine wpAny_bind (wpAny_callSpecial?_slot (name := Str.ofString "__setitem__") g.typeIs slot_dict_setitem
    (wpAny_call_entry slot_dict_setitem g.typeIs entry_dict_setitem ?_ (args_dict_setitem _ _ _)))
  show wpAny _ _ (Builtin.Dict.notOrdered "__setitem__" ⟨[.ref d, u, v], []⟩ >>= _) _ _ s
  refine wpAny_bind (wpAny_notOrdered_dict g.typeIs ?_)
  show wpAny _ _ (dictSet d u v >>= _) _ _ s
  exact wpAny_bind (put_g (by show A.units + 1 + 8 < cLine; omega) hk g his hz fun h' g' hs => wpAny_pure ⟨.none, rfl, wpAny_pure (h h' g' hs)⟩)
theorem GDict.new (h : Heap) : GDict w (h.push { cls := .type "dict", data := .dict #[] }) h.objs.size [] := ⟨_, #[], 0, Heap.get?_push_size _ rfl, ⟨rfl, rfl, rfl⟩, rfl, .nil, List.nodup_nil⟩
end
end K82
/-! Data of the hand layer: None, numbers, texts and tuples of such, at any depth; dicts that such data key. -/
namespace K82
open PySem PySem.Spec PyProof.Rows L2 Evl

mutual
inductive Is (H : Hp) : V → NK → Prop
  | non : Is H .non .none
  | num (i : Int) : Is H (.int i) (.num i)
  | text (x : Str) : Is H (.str x) (.text x)
  | tup {a : Addr} {xs : List V} {ks : List NK} : H a = some (.tup xs) → IsAll H xs ks → Is H (.ref a) (.tup ks)
inductive IsAll (H : Hp) : List V → List NK → Prop
  | nil : IsAll H [] []
  | cons {v : V} {vs : List V} {k : NK} {ks : List NK} : Is H v k → IsAll H vs ks → IsAll H (v :: vs) (k :: ks)
end

/-- every tuple stays -/
def Tk (H H' : Hp) : Prop := ∀ a xs, H a = some (.tup xs) → H' a = some (.tup xs)
theorem Tk.refl (H : Hp) : Tk H H := fun _ _ h => h
theorem Tk.trans {H H1 H2 : Hp} (a : Tk H H1) (b : Tk H1 H2) : Tk H H2 := fun x xs h => b x xs (a x xs h)
theorem Tk.ex {H H' : Hp} (e : Ex H H') : Tk H H' := fun a xs h => e a _ h
/-- only d has another content -/
def Chg (d : Addr) (H H' : Hp) : Prop := ∀ b, b ≠ d → H' b = H b
theorem Chg.upd {d : Addr} {H : Hp} {o : HO} : Chg d H (upd H d o) := fun b hb => upd_ne hb
theorem Chg.tk {d : Addr} {H H' : Hp} (c : Chg d H H') (h : ∀ xs, H d ≠ some (.tup xs)) : Tk H H' := fun a xs e => by
  rw [c a (fun z => h xs (z ▸ e))]; exact e
theorem Chg.ex {d : Addr} {H0 H H' : Hp} (c : Chg d H H') (e : Ex H0 H) (h : H0 d = none) : Ex H0 H' := fun a o q => by
  rw [c a (ne_of_none q h)]; exact e a o q
theorem Chg.tku {d : Addr} {H : Hp} {o : HO} (h : ∀ xs, H d ≠ some (.tup xs)) : Tk H (L2.upd H d o) := Chg.tk Chg.upd h

section
variable {H H' : Hp}
mutual
theorem Is.tk (t : Tk H H') : ∀ (k : NK) (v : V), Is H v k → Is H' v k
  | .none, _, h => by cases h; exact .non
  | .num i, _, h => by cases h; exact .num _
  | .text x, _, h => by cases h; exact .text _
  | .tup ks, _, h => by
    cases h with
    | tup h1 h2 => exact .tup (t _ _ h1) (IsAll.tk t ks _ h2)
theorem IsAll.tk (t : Tk H H') : ∀ (ks : List NK) (vs : List V), IsAll H vs ks → IsAll H' vs ks
  | [], _, h => by cases h; exact .nil
  | k :: ks, _, h => by
    cases h with
    | cons h1 h2 => exact .cons (Is.tk t k _ h1) (IsAll.tk t ks _ h2)
end
theorem Is.mv {k : NK} {v : V} (h : Is H v k) (t : Tk H H') : Is H' v k := Is.tk t k v h
theorem IsAll.mv {ks : List NK} {vs : List V} (h : IsAll H vs ks) (t : Tk H H') : IsAll H' vs ks := IsAll.tk t ks vs h
theorem Is.ex {k : NK} {v : V} (h : Is H v k) (e : Ex H H') : Is H' v k := h.mv (Tk.ex e)
theorem IsAll.ex {ks : List NK} {vs : List V} (h : IsAll H vs ks) (e : Ex H H') : IsAll H' vs ks := h.mv (Tk.ex e)
theorem IsAll.length : ∀ {ks : List NK} {vs : List V}, IsAll H vs ks → vs.length = ks.length
  | [], _, h => by cases h; rfl
  | _ :: ks, _, h => by
    cases h with
    | cons _ t => rw [List.length_cons, List.length_cons, IsAll.length t]
theorem IsAll.get : ∀ {ks : List NK} {vs : List V} {i : Nat} {v : V}, IsAll H vs ks → vs[i]? = some v → ∃ k, ks[i]? = some k ∧ Is H v k
  | [], _, _, _, h, e => by cases h; simp at e
  | k :: ks, _, i, v, h, e => by
    cases h with
    | cons h1 t =>
      cases i with
      | zero => simp at e; subst e; exact ⟨k, rfl, h1⟩
      | succ j => simpa using IsAll.get t (by simpa using e)
theorem IsAll.at_ : ∀ {ks : List NK} {vs : List V} {i : Nat} {k : NK}, IsAll H vs ks → ks[i]? = some k → ∃ v, vs[i]? = some v ∧ Is H v k
  | [], _, _, _, h, e => by simp at e
  | k :: ks, _, i, j, h, e => by
    cases h with
    | @cons v _ _ _ h1 t =>
      cases i with
      | zero => simp at e; subst e; exact ⟨v, rfl, h1⟩
      | succ l => simpa using IsAll.at_ t (by simpa using e)
theorem IsAll.append : ∀ {ks js : List NK} {vs us : List V}, IsAll H vs ks → IsAll H us js → IsAll H (vs ++ us) (ks ++ js)
  | [], _, _, _, h, g => by cases h; exact g
  | _ :: _, _, _, _, h, g => by
    cases h with
    | cons h1 t => exact .cons h1 (IsAll.append t g)
theorem IsAll.one {k : NK} {v : V} (h : Is H v k) : IsAll H [v] [k] := .cons h .nil
theorem IsAll.of_mem : ∀ {es : List (V × NK)}, (∀ e ∈ es, Is H e.1 e.2) → IsAll H (es.map (·.1)) (es.map (·.2))
  | [], _ => .nil
  | e :: es, h => .cons (h e List.mem_cons_self) (IsAll.of_mem fun x hx => h x (List.mem_cons_of_mem _ hx))
theorem IsAll.pair : ∀ {ks : List NK} {vs : List V}, IsAll H vs ks → ∃ es : List (V × NK), es.map (·.1) = vs ∧ es.map (·.2) = ks ∧ ∀ e ∈ es, Is H e.1 e.2
  | [], _, h => by cases h; exact ⟨[], rfl, rfl, fun _ z => nomatch z⟩
  | k :: ks, _, h => by
    cases h with
    | @cons v vs _ _ h1 t =>
      obtain ⟨es, e1, e2, e3⟩ := IsAll.pair t
      refine ⟨(v, k) :: es, by rw [List.map_cons, e1], by rw [List.map_cons, e2], fun e he => ?_⟩
      rcases List.mem_cons.mp he with rfl | he
      · exact h1
      · exact e3 e he
/-- the data are what they are -/
theorem Is.num_inv {v : V} {i : Int} (h : Is H v (.num i)) : v = .int i := by cases h; rfl
theorem Is.tup_inv {v : V} {ks : List NK} (h : Is H v (.tup ks)) : ∃ a xs, v = .ref a ∧ H a = some (.tup xs) ∧ IsAll H xs ks := by
  cases h with
  | tup h1 h2 => exact ⟨_, _, rfl, h1, h2⟩
end

section
variable {X : Cx} {pins : List (Addr × Obj)} {σ : L2.St} {H : Hp} {s : Shared}
mutual
theorem Is.nested (I : Inv X pins σ H s) : ∀ (k : NK) (v : V) (u : Value), Is H v k → RelV v u → NestedIs s.heap k u
  | .none, _, _, h, r => by cases h; cases r; exact .none
  | .num i, _, _, h, r => by cases h; obtain ⟨t, rfl⟩ := r; exact .int _ _
  | .text x, _, _, h, r => by cases h; obtain ⟨t, rfl⟩ := r; exact .text _ _
  | .tup ks, _, _, h, r => by
    cases h with
    | @tup a xs _ h1 h2 =>
      cases r
      obtain ⟨_, its, rv, o, ho, hc, n, hd⟩ := (show ObjOk X.prog X.w H s.heap a (.tup xs) from I.hok a _ h1)
      exact .tup ho hc hd (IsAll.nested I ks _ _ h2 (by simpa using rv))
theorem IsAll.nested (I : Inv X pins σ H s) : ∀ (ks : List NK) (vs : List V) (us : List Value), IsAll H vs ks → Vals vs us → NestedAll s.heap ks us
  | [], _, _, h, r => by cases h; cases r; exact .nil
  | k :: ks, _, _, h, r => by
    cases h with
    | cons h1 t =>
      cases r with
      | cons r1 rt => exact .cons (Is.nested I k _ _ h1 r1) (IsAll.nested I ks _ _ t rt)
end
mutual
theorem Is.dp {K : PySem.W.Frag} : ∀ (k : NK) (v : V), Is H v k → Dp K H v k.data
  | .none, _, h => by cases h; exact .non
  | .num i, _, h => by cases h; exact .int _
  | .text x, _, h => by cases h; exact .str _
  | .tup ks, _, h => by
    cases h with
    | tup h1 h2 => exact .tup (SqT.of h1) (IsAll.dp ks _ h2)
theorem IsAll.dp {K : PySem.W.Frag} : ∀ (ks : List NK) (vs : List V), IsAll H vs ks → DpAll K H vs (NestedKey.datas ks)
  | [], _, h => by cases h; exact .nil
  | k :: ks, _, h => by
    cases h with
    | cons h1 t => exact .cons (Is.dp k _ h1) (IsAll.dp ks _ t)
end
end

/-! ### equality of data -/
mutual
theorem eqv_data : ∀ a b : NK, PyData.eqv a.data b.data = NestedKey.beq a b
  | .none, .none => rfl
  | .none, .num _ => rfl
  | .none, .text _ => rfl
  | .none, .tup _ => rfl
  | .num _, .none => rfl
  | .num i, .num j => by
    show (i == j) = decide (i = j)
    rw [Bool.beq_eq_decide_eq]
  | .num _, .text _ => rfl
  | .num _, .tup _ => rfl
  | .text _, .none => rfl
  | .text _, .num _ => rfl
  | .text x, .text y => by
    show (x == y) = decide (x = y)
    rw [Bool.beq_eq_decide_eq]
  | .text _, .tup _ => rfl
  | .tup _, .none => rfl
  | .tup _, .num _ => rfl
  | .tup _, .text _ => rfl
  | .tup a, .tup b => eqv_datas a b
theorem eqv_datas : ∀ a b : List NK, PyData.eqvAll (NestedKey.datas a) (NestedKey.datas b) = NestedKey.beqAll a b
  | [], [] => rfl
  | [], _ :: _ => rfl
  | _ :: _, [] => rfl
  | a :: as, b :: bs => by
    show (PyData.eqv a.data b.data && PyData.eqvAll (NestedKey.datas as) (NestedKey.datas bs)) = (NestedKey.beq a b && NestedKey.beqAll as bs)
    rw [eqv_data a b, eqv_datas as bs]
end
/-- no text within -/
def plainK : NK → Bool
  | .none => true
  | .num _ => true
  | .text _ => false
  | .tup ks => plainKs ks
where plainKs : List NK → Bool
  | [] => true
  | k :: ks => plainK k && plainKs ks
mutual
theorem lay_data : ∀ k : NK, plainK k = true → k.data.canLay0 = true
  | .none, _ => rfl
  | .num _, _ => rfl
  | .text _, h => nomatch h
  | .tup ks, h => lay_datas ks h
theorem lay_datas : ∀ ks : List NK, plainK.plainKs ks = true → PyData.canLayAll0 (NestedKey.datas ks) = true
  | [], _ => rfl
  | k :: ks, h => by
    obtain ⟨h1, h2⟩ := Bool.and_eq_true_iff.mp (show (plainK k && plainK.plainKs ks) = true from h)
    show (k.data.canLay0 && PyData.canLayAll0 (NestedKey.datas ks)) = true
    rw [lay_data k h1, lay_datas ks h2]; rfl
end
mutual
theorem depth_data : ∀ k : NK, k.data.depth = k.depth
  | .none => rfl
  | .num _ => rfl
  | .text _ => rfl
  | .tup ks => by
    have := depth_datas ks
    show PyData.depth (.tuple (NestedKey.datas ks)) = NestedKey.depthAll ks + 1
    simp only [PyData.depth]; omega
theorem depth_datas : ∀ ks : List NK, PyData.depthAll (NestedKey.datas ks) = NestedKey.depthAll ks
  | [] => rfl
  | k :: ks => by
    have h1 := depth_data k
    have h2 := depth_datas ks
    show PyData.depthAll (k.data :: NestedKey.datas ks) = max k.depth (NestedKey.depthAll ks)
    simp only [PyData.depthAll]; omega
end
theorem shaped_data {k : NK} (h : plainK k = true) (hd : k.depth ≤ 60) : SeqAt.shaped k.data = true := by
  unfold SeqAt.shaped
  rw [lay_data k h, depth_data, decide_eq_true (by omega)]; rfl
theorem datas_map : ∀ ks : List NK, NestedKey.datas ks = ks.map NestedKey.data
  | [] => rfl
  | k :: ks => by rw [List.map_cons, ← datas_map ks]; rfl
theorem shaped_list {ks : List NK} (h : plainK.plainKs ks = true) (hd : NestedKey.depthAll ks ≤ 60) : SeqAt.shaped (.list (NestedKey.datas ks)) = true := by
  unfold SeqAt.shaped
  have e : (PyData.list (NestedKey.datas ks)).canLay0 = true := lay_datas ks h
  have e2 : (PyData.list (NestedKey.datas ks)).depth ≤ 64 := by
    have := depth_datas ks
    simp only [PyData.depth]; omega
  rw [e, decide_eq_true e2]; rfl
theorem eqv_k {a b : NK} : PyData.eqv a.data b.data = decide (a = b) := by rw [eqv_data, NestedKey.decide_eq]
theorem eqv_list {a b : List NK} : PyData.eqv (.list (NestedKey.datas a)) (.list (NestedKey.datas b)) = decide (a = b) := by
  show PyData.eqvAll (NestedKey.datas a) (NestedKey.datas b) = _
  rw [eqv_datas]
  cases h : NestedKey.beqAll a b with
  | true => exact (decide_eq_true (NestedKey.eq_of_beqAll a b h)).symm
  | false => exact (decide_eq_false fun e => by rw [e, NestedKey.beqAll_self] at h; cases h).symm
end K82
/-! Dicts keyed by data: the layer's rules. -/
namespace K82
open PySem PySem.Spec PyProof.Rows L2 Evl

def KeyV (v : V) : Prop := v = .non ∨ ∃ a, v = .ref a
theorem KeyV.val {v : V} {u : Value} (h : KeyV v) (r : RelV v u) : u = .none ∨ ∃ a, u = .ref a := by
  rcases h with rfl | ⟨a, rfl⟩
  · exact .inl r
  · exact .inr ⟨a, r⟩
/-- the dict at d, its keys as values and as data -/
def gO (w : World) (d : Addr) (es : List (V × NK)) : HO := .ext fun h => (d == sysModules) = false ∧ es.length ≤ sizeLine ∧ ∃ ks : List (Value × NK), Paired (fun e x => RelV e.1 x.1 ∧ e.2 = x.2) es ks ∧ GDict w h d ks

theorem gO_ok {P : Program} {w : World} {H : Hp} {h : Heap} {d : Addr} {es : List (V × NK)} {ks : List (Value × NK)} (hs : (d == sysModules) = false) (hz : es.length ≤ sizeLine) (p : Paired (fun e x => RelV e.1 x.1 ∧ e.2 = x.2) es ks) (g : GDict w h d ks) :
    ObjOk P w H h d (gO w d es) := by
  obtain ⟨o, es', ep, ho, r⟩ := id g
  refine ⟨⟨hs, hz, ks, p, g⟩, ⟨o, ho⟩, fun h1 h2 q k => ?_⟩
  obtain ⟨a, b, ks', p', o', es'', ep', ho', r'⟩ := q
  exact ⟨a, b, ks', p', o', es'', ep', k _ ho', r'⟩

structure DK (w : World) (H : Hp) (d : Addr) (L : List NK) : Prop where
  ex : ∃ es : List (V × NK), H d = some (gO w d es) ∧ es.map (·.2) = L ∧ ∀ e ∈ es, Is H e.1 e.2 ∧ KeyV e.1 ∧ e.2.depth ≤ 8
theorem DK.ne_tup {w : World} {H : Hp} {d : Addr} {L : List NK} (g : DK w H d L) : ∀ xs, H d ≠ some (.tup xs) := fun xs e => by
  obtain ⟨es, h, _⟩ := g.ex
  rw [h] at e; cases e
theorem DK.mv {w : World} {H H' : Hp} {d : Addr} {L : List NK} (g : DK w H d L) (t : Tk H H') (e : H' d = H d) : DK w H' d L := by
  obtain ⟨es, h1, h2, h3⟩ := g.ex
  exact ⟨es, e.trans h1, h2, fun x hx => ⟨(h3 x hx).1.mv t, (h3 x hx).2⟩⟩
theorem DK.ext {w : World} {H H' : Hp} {d : Addr} {L : List NK} (g : DK w H d L) (e : Ex H H') : DK w H' d L := by
  obtain ⟨es, h1, h2, h3⟩ := g.ex
  exact ⟨es, e d _ h1, h2, fun x hx => ⟨(h3 x hx).1.ex e, (h3 x hx).2⟩⟩
theorem DK.chg {w : World} {H H' : Hp} {d b : Addr} {L : List NK} (g : DK w H d L) (c : Chg b H H') (hne : d ≠ b) (hb : ∀ xs, H b ≠ some (.tup xs)) : DK w H' d L := g.mv (c.tk hb) (c d hne)

theorem paired_map2 {es : List (V × NK)} {ks : List (Value × NK)} (p : Paired (fun e x => RelV e.1 x.1 ∧ e.2 = x.2) es ks) : es.map (·.2) = ks.map (·.2) := by
  induction p with
  | nil => rfl
  | cons r t ih => rw [List.map_cons, List.map_cons, ih, r.2]
theorem paired_mem {α β : Type} {G : α → β → Prop} {l : List α} {m : List β} (p : Paired G l m) {b : β} (hb : b ∈ m) : ∃ a ∈ l, G a b := by
  induction p with
  | nil => cases hb
  | cons r t ih =>
    rcases List.mem_cons.mp hb with rfl | hb
    · exact ⟨_, List.mem_cons_self, r⟩
    · obtain ⟨a, ha, g⟩ := ih hb
      exact ⟨a, List.mem_cons_of_mem _ ha, g⟩

section
variable {X : Cx} {pins : List (Addr × Obj)} {σ : L2.St} {H : Hp} {s : Shared} {d : Addr} {es : List (V × NK)}
/-- what the model's rules ask -/
theorem gO_get (I : Inv X pins σ H s) (h : H d = some (gO X.w d es)) (hk : ∀ e ∈ es, Is H e.1 e.2 ∧ KeyV e.1 ∧ e.2.depth ≤ 8) : (d == sysModules) = false ∧ es.length ≤ sizeLine ∧ ∃ ks : List (Value × NK),
    Paired (fun e x => RelV e.1 x.1 ∧ e.2 = x.2) es ks ∧ GDict X.w s.heap d ks ∧ ks.length = es.length ∧ ks.map (·.2) = es.map (·.2) ∧ ∀ x ∈ ks, KeyAt s.heap x.2 x.1 := by
  obtain ⟨⟨hs, hz, ks, p, g⟩, _⟩ := (show ObjOk X.prog X.w H s.heap d (gO X.w d es) from I.hok d _ h)
  refine ⟨hs, hz, ks, p, g, (Paired.length p).symm, (paired_map2 p).symm, fun x hx => ?_⟩
  obtain ⟨e, he, r, q⟩ := paired_mem p hx
  obtain ⟨k1, k2, k3⟩ := hk e he
  rw [← q]
  exact ⟨Is.nested I _ _ _ k1 r, k3, k2.val r⟩

/-- k in d | k not in d -/
def rInG (w : World) : R2 := fun y x H Q => ∃ (d : Addr) (L : List NK) (k : NK), x = .ref d ∧ DK w H d L ∧ Is H y k ∧ KeyV y ∧ k.depth ≤ 8 ∧ Q (.bl (decide (k ∈ L))) H
def rNinG (w : World) : R2 := fun y x H Q => ∃ (d : Addr) (L : List NK) (k : NK), x = .ref d ∧ DK w H d L ∧ Is H y k ∧ KeyV y ∧ k.depth ≤ 8 ∧ Q (.bl (!decide (k ∈ L))) H
theorem op_inG (hu : X.A.units + 9 < cLine) : OpR X (compareOp .In) (rInG X.w) := by
  intro pins s σ H y x v u Q I ry rx h
  obtain ⟨d, L, k, rfl, ⟨es, h1, h2, h3⟩, hk, hv, hd, q⟩ := h
  cases rx
  obtain ⟨hs, hz, ks, p, g, _, hm, hks⟩ := gO_get I h1 h3
  refine in_g hu ⟨Is.nested I k y v hk ry, hd, hv.val ry⟩ hs g hks ?_
  rw [hm, h2]
  exact ⟨.bl _, H, I.tok _, rfl, q⟩
theorem op_ninG (hu : X.A.units + 9 < cLine) : OpR X (compareOp .NotIn) (rNinG X.w) := by
  intro pins s σ H y x v u Q I ry rx h
  obtain ⟨d, L, k, rfl, ⟨es, h1, h2, h3⟩, hk, hv, hd, q⟩ := h
  cases rx
  obtain ⟨hs, hz, ks, p, g, _, hm, hks⟩ := gO_get I h1 h3
  refine notIn_g hu ⟨Is.nested I k y v hk ry, hd, hv.val ry⟩ hs g hks ?_
  rw [hm, h2]
  exact ⟨.bl _, H, I.tok _, rfl, q⟩

def insK (L : List NK) (k : NK) : List NK := if k ∈ L then L else L ++ [k]
theorem insK_len (L : List NK) (k : NK) : (insK L k).length ≤ L.length + 1 := by
  unfold insK; split
  · omega
  · simp
theorem mem_insK {L : List NK} {k j : NK} : j ∈ insK L k ↔ j ∈ L ∨ j = k := by
  unfold insK
  split
  · rename_i h
    exact ⟨.inl, fun q => q.elim id fun e => e ▸ h⟩
  · simp

/-- the state behind a store, whatever way it was made -/
theorem stored_g {k : NK} {y : V} {u : Value} (I : Inv X pins σ H s) (h1 : H d = some (gO X.w d es)) (h3 : ∀ e ∈ es, Is H e.1 e.2 ∧ KeyV e.1 ∧ e.2.depth ≤ 8) (hk : Is H y k) (hv : KeyV y) (hd : k.depth ≤ 8) (ry : RelV y u) (hl : es.length < sizeLine)
    {ks : List (Value × NK)} (p : Paired (fun e x => RelV e.1 x.1 ∧ e.2 = x.2) es ks) (hs : (d == sysModules) = false) {h' : Heap} {tk : Nat} (g : GDict X.w h' d (putG ks u k)) (sb : Heap.SameBut d s.heap h') :
    ∃ H', Inv X pins σ H' { s with heap := h', toks := tk } ∧ Chg d H H' ∧ DK X.w H' d (insK (es.map (·.2)) k) := by
  have em := paired_map2 p
  have mu : Mut (H d) := by rw [h1]; trivial
  have he : ∃ q, h'.get? d = some q := let ⟨q, _, _, hq, _⟩ := g; ⟨q, hq⟩
  have tk0 : ∀ o, Tk H (upd H d o) := fun o => Chg.tku fun xs e => by rw [h1] at e; cases e
  by_cases hm : k ∈ es.map (·.2)
  · have hm' : k ∈ ks.map (·.2) := em ▸ hm
    unfold putG at g
    rw [if_pos hm'] at g
    refine ⟨upd H d (gO X.w d es), d_write I mu sb he (gO_ok hs (Nat.le_of_lt hl) p g), Chg.upd, es, upd_same, ?_, fun e hx => ⟨(h3 e hx).1.mv (tk0 _), (h3 e hx).2⟩⟩
    unfold insK
    rw [if_pos hm]
  · have hm' : ¬ k ∈ ks.map (·.2) := em ▸ hm
    unfold putG at g
    rw [if_neg hm'] at g
    refine ⟨upd H d (gO X.w d (es ++ [(y, k)])), d_write I mu sb he (gO_ok hs (by rw [List.length_append]; exact hl) (paired_snoc ⟨ry, rfl⟩ p) g), Chg.upd, es ++ [(y, k)], upd_same, ?_, fun e hx => ?_⟩
    · unfold insK
      rw [if_neg hm, List.map_append]; rfl
    · rcases List.mem_append.mp hx with hx | hx
      · exact ⟨(h3 e hx).1.mv (tk0 _), (h3 e hx).2⟩
      · obtain rfl := List.mem_singleton.mp hx
        exact ⟨hk.mv (tk0 _), hv, hd⟩
/-- d[k] = v -/
def rSetG (w : World) : TSet := fun o i v H Q => ∃ (d : Addr) (L : List NK) (k : NK), o = .ref d ∧ DK w H d L ∧ Is H i k ∧ KeyV i ∧ k.depth ≤ 8 ∧ L.length < 100000 ∧ ∀ H', Chg d H H' → DK w H' d (insK L k) → Q H'
theorem set_G (hu : X.A.units + 9 < cLine) : PSet X (rSetG X.w) := by
  intro pins s σ H o i v ov iv u Q I ro ri rv h
  obtain ⟨d, L, k, rfl, ⟨es, h1, h2, h3⟩, hk, hv, hd, hl, q⟩ := h
  cases ro
  obtain ⟨hs, hz, ks, p, g, hn, hm, hks⟩ := gO_get I h1 h3
  have hle : es.length < sizeLine := by rw [← h2, List.length_map] at hl; exact sz_lt hl
  refine setItem_g hu ⟨Is.nested I k i iv hk ri, hd, hv.val ri⟩ g hks (by omega) fun h' g' sb => ?_
  obtain ⟨H', I', c, dk⟩ := stored_g (tk := s.toks + k.draws) I h1 h3 hk hv hd ri hle p hs g' sb
  exact ⟨H', I', q H' c (h2 ▸ dk)⟩
/-- .. by a comprehension or a display -/
theorem dset_G {k : NK} {y : V} {u r : Value} {L : List NK} {E : Value → Shared → Prop} {Q : Unit → Shared → Prop} (hu : X.A.units + 8 < cLine) (I : Inv X pins σ H s) (g : DK X.w H d L) (hk : Is H y k) (hv : KeyV y) (hd : k.depth ≤ 8) (hl : L.length < 100000) (ry : RelV y u)
    (q : ∀ s' H', Inv X pins σ H' s' → Chg d H H' → DK X.w H' d (insK L k) → Q () s') : wpAny (model X.prog X.w) X.A (dictSet d u r) Q E s := by
  obtain ⟨es, h1, h2, h3⟩ := g.ex
  obtain ⟨hs, hz, ks, p, g, hn, hm, hks⟩ := gO_get I h1 h3
  have hle : es.length < sizeLine := by rw [← h2, List.length_map] at hl; exact sz_lt hl
  refine put_g hu ⟨Is.nested I k y u hk ry, hd, hv.val ry⟩ g hks (by omega) fun h' g' sb => ?_
  obtain ⟨H', I', c, dk⟩ := stored_g (tk := s.toks + k.draws) I h1 h3 hk hv hd ry hle p hs g' sb
  exact q _ H' I' c (h2 ▸ dk)
end

theorem gO_empty {P : Program} {w : World} {H : Hp} (h : Heap) (hb : sysModules < h.objs.size) : ObjOk P w H (h.push { cls := .type "dict", data := .dict #[] }) h.objs.size (gO w h.objs.size []) :=
  gO_ok (ks := []) (beq_eq_false_iff_ne.mpr (Ne.symm (Nat.ne_of_lt hb))) (Nat.zero_le _) .nil (GDict.new h)
theorem DK.empty {w : World} {H : Hp} {d : Addr} : DK w (upd H d (gO w d [])) d [] := ⟨[], upd_same, rfl, fun _ z => nomatch z⟩
section
variable {X : Cx} {pos : Pos}
/-- {} -/
def tGNew (w : World) : TE := fun _ H Q => ∀ p H', H p = none → Chg p H H' → DK w H' p [] → Q (.ref p) H'
theorem pe_gnew : PE X (.Dict [] [] pos) (tGNew X.w) := ⟨fun pins s σ H Q I h =>
  wpAny_Dict_empty ⟨.ref s.heap.objs.size, _, I.laid (t' := s.toks) (fun _ _ q => Heap.get?_push_of_some _ q) (Nat.le_refl _) (gO_empty s.heap I.big), rfl, h _ _ (I.hok.fresh (Nat.le_refl _)) Chg.upd DK.empty⟩⟩
/-- {k: v} -/
def tGOne (w : World) (tk tv : TE) : TE := fun σ H Q => ∀ p H0, H p = none → Chg p H H0 → DK w H0 p [] → tk σ H0 fun y H1 => tv σ H1 fun _ H2 => ∃ k, DK w H2 p [] ∧ Is H2 y k ∧ KeyV y ∧ k.depth ≤ 8 ∧ ∀ H3, Chg p H2 H3 → DK w H3 p [k] → Q (.ref p) H3
theorem pe_gone {k v : Expr} {tk tv : TE} (hu : X.A.units + 8 < cLine) (hk : PE X k tk) (hv : PE X v tv) : PE X (.Dict [some k] [v] pos) (tGOne X.w tk tv) := by
  refine ⟨fun pins s σ H Q I h => ?_⟩
  rw [arm_eval_Dict]
  have shape : (evalEachOpt [some k] X.env).zip ((evalEach [v] X.env).map fun v => do let x ← v; standAt pos; pure x) = [(eval k X.env, (do let x ← eval v X.env; standAt pos; pure x))].map fun p => (some p.1, p.2) := by rfl
  rw [shape, dictDisplay_pairs _ (by simp) (by show 1 < 17; decide)]
  refine wpAny_bind (wpAny_standAt (wpAny_bind ?_))
  unfold subDict
  refine wpAny_bind (wpAny_alloc ?_)
  refine wpAny_bind (wpAny_holding ?_)
  rw [if_pos (show _ ≤ 15 by show 1 ≤ 15; decide)]
  have hn := I.hok.fresh (Nat.le_refl s.heap.objs.size)
  have I1 := I.laid (a := s.heap.objs.size) (o := gO X.w s.heap.objs.size []) (t' := s.toks) (fun _ _ q => Heap.get?_push_of_some _ q) (Nat.le_refl _) (gO_empty s.heap I.big)
  have q := h _ _ hn Chg.upd (DK.empty (w := X.w))
  refine wpAny_bind ?_
  unfold evalPairs
  refine wpAny_bind (thn (hk.run pins _ σ _ _ I1 q) fun u s1 ⟨y, H1, I2, ry, q1⟩ => ?_)
  refine wpAny_bind (wpAny_holding (wpAny_bind (thn (hv.run pins s1 σ H1 _ I2 q1) fun u2 s2 ⟨z, H2, I3, rz, j, g, hj, kv, hd, q2⟩ => wpAny_bind (wpAny_standAt (wpAny_pure ?_)))))
  unfold evalPairs
  refine wpAny_bind (wpAny_holding (wpAny_pure (wpAny_pure ?_)))
  refine wpAny_holding ?_
  refine wpAny_bind ?_
  rw [List.forIn_cons]
  refine wpAny_bind (wpAny_bind (dset_G hu I3 g hj kv hd (by show 0 < 100000; decide) ry fun s4 H4 I4 c4 g4 => wpAny_pure ?_))
  dsimp only
  rw [List.forIn_nil]
  exact wpAny_pure (wpAny_pure (wpAny_pure (wpAny_pure ⟨.ref s.heap.objs.size, H4, I4, rfl, q2 H4 c4 g4⟩)))
end
end K82
/-! Walks, lists, sorts, truth of dicts keyed by data. -/
namespace K82
open PySem PySem.Spec PyProof.Rows L2 Evl

section
variable {X : Cx} {pins : List (Addr × Obj)} {σ : L2.St} {H : Hp} {s : Shared} {d : Addr} {o : Obj} {es : List (V × NK)}
theorem frzG (I : Inv X pins σ H s) (h : H d = some (.frz o (gO X.w d es))) :
    (d == sysModules) = false ∧ s.heap.get? d = some o ∧ o.ExactDict ∧ ∃ (en : Array DictEntry) (ep : Nat), o.data = .dict en ep ∧ en.size = es.length ∧ ∀ (i : Nat) (e : V × NK), es[i]? = some e → ∃ x : DictEntry, en[i]? = some x ∧ RelV e.1 x.key := by
  obtain ⟨hg, ⟨hs, hz, ks, p, o', en, ep, ho, hx, hd, pe, hn⟩, _⟩ := I.hok d _ h
  rw [hg] at ho; cases ho
  have l1 := Paired.length p
  have l2 := Paired.length pe
  have l3 : en.toList.length = en.size := Array.length_toList
  refine ⟨hs, hg, hx, en, ep, hd, by omega, fun i e he => ?_⟩
  rcases paired_at p i with ⟨z, _⟩ | ⟨a, b, h1, h2, h3, h4⟩
  · rw [he] at z; cases z
  · rw [he] at h1; cases h1
    rcases paired_at pe i with ⟨z, _⟩ | ⟨a, x, g1, g2, g3, g4⟩
    · rw [h2] at z; cases z
    · rw [h2] at g1; cases g1
      exact ⟨x, by rw [← Array.getElem?_toList]; exact g2, by rw [g4]; exact h3⟩
end
/-- the keys of the locked dict at d -/
def ItG (w : World) (d : Addr) (o : Obj) (es : List (V × NK)) : It :=
  ⟨fun i H => H d = some (.frz o (gO w d es)) ∧ i < es.length, fun i H x H' => H' = H ∧ ∃ k, es[i]? = some (x, k), fun i H => H d = some (.frz o (gO w d es)) ∧ es.length ≤ i⟩
theorem walk_G {w : World} {d : Addr} {o : Obj} {es : List (V × NK)} : Walk (ItG w d o es) es.length (fun H => H d = some (.frz o (gO w d es))) (fun i H x H' => H' = H ∧ ∃ k, es[i]? = some (x, k)) :=
  ⟨fun _ _ hi q => ⟨q, hi⟩, fun _ q => ⟨q, Nat.le_refl _⟩, fun _ _ _ _ _ _ y => y⟩
theorem turn_G {P : Program} {w : World} {K : PySem.W.Frag} {tg : Expr} {d : Addr} {o : Obj} {es : List (V × NK)} {en : Array DictEntry} {ep : Nat} (it : Addr) (hod : o.data = .dict en ep) : Turn P w K tg (ItG w d o es) [it] it (fun i h => h.IsKeyIter it d i es.length ep) where
  mem := by simp
  obj := fun i h st b hb => by
    obtain rfl : b = it := by simpa using hb
    obtain ⟨oi, e, c, dd⟩ := st
    exact ⟨oi, e, fun v z => by rw [dd] at z; cases z⟩
  keep := fun i h h' st k => st.at fun oi e => k it (by simp) oi e
  item := by
    intro X hP hw hK hc i pins s σ H E I hf st hg
    subst hP hw hK
    obtain ⟨hd, hi⟩ := hg
    obtain ⟨f0, f1, f2, f3, f4, f5⟩ := hf it (by simp)
    obtain ⟨hs, hgd, hx, en', ep', hdt, hsz, ent⟩ := frzG I hd
    obtain ⟨rfl, rfl⟩ := dict_ep hod hdt
    obtain ⟨⟨v, k⟩, hkv⟩ : ∃ p, es[i]? = some p := ⟨es[i], List.getElem?_eq_getElem hi⟩
    obtain ⟨x, hen, rk⟩ := ent i _ hkv
    refine next_key_item st hgd hdt hsz hen fun h' st' sb => ?_
    have I1 : Inv X pins σ H { s with heap := h' } := I.turned (t' := s.toks) (fun b ob hb e => (sb.2 b hb).trans e) f0 f1 f3 f4 f5
    obtain ⟨oi, e, c, dd⟩ := id st'
    exact ⟨x.key, rfl, go_of (s := { s with heap := h' }) e c dd (by decide) ⟨v, H, I1, rk, ⟨rfl, k, hkv⟩, st', fun b hb => (hf b hb).1⟩⟩
  done := by
    intro X hP hw hK hc i pins s σ H E I hf st hg
    subst hP hw hK
    obtain ⟨hd, hi⟩ := hg
    obtain ⟨f0, f1, f2, f3, f4, f5⟩ := hf it (by simp)
    obtain ⟨hs, hgd, hx, en', ep', hdt, hsz, ent⟩ := frzG I hd
    obtain ⟨rfl, rfl⟩ := dict_ep hod hdt
    exact next_key_end (I.ok.hd hc) st hgd hdt hsz hi fun h' eb => ⟨rfl, I.turned (t' := s.toks) (fun b ob hb e => eb b ob hb e) f0 f1 f3 f4 f5⟩
  self := fun A i s Q E st h => by
    refine wpAny_pyIter_slot st.typeIs PySem.F.slot_dict_keyiterator_iter (wpAny_call_entry PySem.F.slot_dict_keyiterator_iter st.typeIs PySem.F.entry_dict_keyiterator_iter ?_ (PySem.F.args_dict_keyiterator_iter_1 _))
    show wpAny _ _ (ret (.ref it)) _ _ s
    exact wpAny_pure ⟨_, rfl, "dict_keyiterator", _, st.typeIs, PySem.F.slot_dict_keyiterator_next.lookup, h⟩
/-- for x in d, d locked -/
def iG (w : World) (td : TE) : TI := fun σ H R => td σ H fun x H1 => ∃ d o es, x = .ref d ∧ H1 d = some (.frz o (gO w d es)) ∧ R (ItG w d o es) H1
theorem pi_G {X : Cx} {tg e : Expr} {td : TE} (he : PE X e td) : PI X tg e (iG X.w td) := by
  refine ⟨fun pins s σ H R I h => ?_⟩
  refine thn (he.run pins s σ H _ I h) fun u s1 ⟨x, H1, I1, rx, d, o, es, ex, hd, q⟩ => ?_
  subst ex
  obtain rfl : u = Value.ref d := rx
  obtain ⟨hs, hgd, hx, en, ep, hdt, hsz, ent⟩ := frzG I1 hd
  refine iter_keys hs hgd hx hdt (pi_one (tk := s1.toks) I1 _ (turn_G _ hdt) ⟨_, Heap.get?_push_size _ rfl, rfl, ?_⟩ q)
  rw [hsz] <;> rfl

/-! ### list(d) -/
theorem vals_at : ∀ {xs : List V} {us : List Value}, xs.length = us.length → (∀ (j : Nat) (u : Value), us[j]? = some u → ∃ x, xs[j]? = some x ∧ RelV x u) → Vals xs us
  | [], [], _, _ => .nil
  | [], _ :: _, h, _ => by simp at h
  | _ :: _, [], h, _ => by simp at h
  | x :: xs, u :: us, h, f => by
    obtain ⟨y, h1, r⟩ := f 0 u rfl
    cases h1
    exact .cons r (vals_at (by simpa using h) fun j w hj => by simpa using f (j + 1) w (by simpa using hj))
section
variable {X : Cx} {pins : List (Addr × Obj)} {σ : L2.St} {H : Hp} {s : Shared} {d : Addr} {es : List (V × NK)}
/-- what is drawn from the dict's keys, in order -/
theorem drawn_vals (I : Inv X pins σ H s) (h : H d = some (gO X.w d es)) : ∃ (o : Obj) (en : Array DictEntry) (ep : Nat), (d == sysModules) = false ∧ s.heap.get? d = some o ∧ o.ExactDict ∧ o.data = .dict en ep ∧ en.size = es.length ∧ es.length ≤ sizeLine ∧
    ∀ acc : Array Value, ItemsOf (fun i v => ∃ x : DictEntry, en[i]? = some x ∧ v = x.key) acc en.size → Vals (es.map (·.1)) acc.toList := by
  obtain ⟨⟨hs, hz, ks, p, o, en, ep, ho, hx, hd, pe, hn⟩, _⟩ := (show ObjOk X.prog X.w H s.heap d (gO X.w d es) from I.hok d _ h)
  have l1 := Paired.length p
  have l2 := Paired.length pe
  have l3 : en.toList.length = en.size := Array.length_toList
  refine ⟨o, en, ep, hs, ho, hx, hd, by omega, hz, fun acc it => vals_at ?_ fun j u hu => ?_⟩
  · have l4 : acc.toList.length = acc.size := Array.length_toList
    rw [List.length_map, l4, it.1]; omega
  · obtain ⟨x, hx, rfl⟩ := it.2 j u (by rw [← Array.getElem?_toList]; exact hu)
    rcases paired_at pe j with ⟨_, z⟩ | ⟨a, y, g1, g2, g3, g4⟩
    · rw [Array.getElem?_toList, hx] at z; cases z
    · rw [Array.getElem?_toList, hx] at g2; cases g2
      rcases paired_at p j with ⟨_, z⟩ | ⟨b, c, e1, e2, e3, e4⟩
      · rw [g1] at z; cases z
      · rw [g1] at e2; cases e2
        exact ⟨b.1, by rw [List.getElem?_map, e1]; rfl, by rw [g4]; exact e3⟩
def rListG (w : World) : List V → Hp → VK → Prop := fun vs H Q => ∃ d L, vs = [.ref d] ∧ DK w H d L ∧ ∀ p xs H', H p = none → Chg p H H' → H' p = some (.lst xs) → IsAll H' xs L → Q (.ref p) H'
theorem call_listG (hc : X.calm = true) : CallR X (.type "list") (rListG X.w) := by
  intro pins s σ H vs us Q I r h
  obtain ⟨d, L, rfl, ⟨es, h1, rfl, h3⟩, q⟩ := h
  obtain ⟨u, rfl, rx⟩ := r.one
  cases rx
  obtain ⟨o, en, ep, hs, ho, hx, hd, hl, hz, dv⟩ := drawn_vals I h1
  refine PySem.W.kdl_call (kdl_raw hs hx hd) (I.ok.hd hc) ho (by omega) fun h' tk acc c' kp e it => ?_
  have hn := I.hok.fresh (Nat.le_refl s.heap.objs.size)
  have rv := dv acc it
  have hlen : (es.map (·.1)).length ≤ sizeLine := by rw [List.length_map]; exact hz
  refine ⟨.ref s.heap.objs.size, upd H s.heap.objs.size (.lst (es.map (·.1))), I.laid (t' := tk) kp (Nat.le_refl _) ⟨hlen, acc.toList, c', rv, by rw [Array.toArray_toList]; exact e⟩, rfl, q _ _ _ hn Chg.upd upd_same ?_⟩
  exact IsAll.of_mem fun x hx => (h3 x hx).1.ex (Ex.new hn)
end
/-! ### sorted -/
section
variable {β : Type}
structure Sorts (enc : β → NK) (bs : List β) : Prop where
  alike : PySem.W.AllAlike (bs.map fun b => (enc b).data)
  able : PySem.W.Sortable (bs.map fun b => (enc b).data)
  deep : ∀ b ∈ bs, (enc b).depth ≤ 40
def sortB (enc : β → NK) (bs : List β) : List β := bs.mergeSort (PySem.W.dataLe false fun b => (enc b).data)
theorem each_out {H : Hp} {enc : β → NK} : ∀ {us : List Value} {bs : List β}, PySem.W.EachIs (fun u b => ∃ x, RelV x u ∧ Is H x (enc b)) us bs → ∃ xs, Vals xs us ∧ IsAll H xs (bs.map enc)
  | _, _, .nil => ⟨[], .nil, .nil⟩
  | _, _, .cons ⟨x, r, h⟩ t => by
    obtain ⟨xs, h1, h2⟩ := each_out t
    exact ⟨x :: xs, .cons r h1, .cons h h2⟩
theorem each_in {H : Hp} {enc : β → NK} : ∀ {xs : List V} {us : List Value} {bs : List β}, Vals xs us → IsAll H xs (bs.map enc) → PySem.W.EachIs (fun u b => ∃ x, RelV x u ∧ Is H x (enc b)) us bs
  | _, _, [], r, h => by cases h; cases r; exact .nil
  | _, _, b :: bs, r, h => by
    cases h with
    | cons h1 t =>
      cases r with
      | cons r1 rt => exact .cons ⟨_, r1, h1⟩ (each_in rt t)
variable {X : Cx} {pins : List (Addr × Obj)} {σ : L2.St} {H : Hp} {s : Shared}
theorem each_reads (I : Inv X pins σ H s) {enc : β → NK} {us : List Value} {bs : List β} (e : PySem.W.EachIs (fun u b => ∃ x, RelV x u ∧ Is H x (enc b)) us bs) : PySem.W.EachIs (fun u b => ∃ as, Reads s.heap u (enc b).data as) us bs :=
  e.mono fun _ _ ⟨x, r, h⟩ => Dp.reads I _ x _ h.dp r
def rSortB (K : PySem.W.Frag) (enc : β → NK) : List V → Hp → VK → Prop := fun vs H Q => ∃ a xs bs, vs = [.ref a] ∧ SqL K H a xs ∧ IsAll H xs (bs.map enc) ∧ Sorts enc bs ∧ bs.length ≤ 100000 ∧
  ∀ p ys H', H p = none → Chg p H H' → H' p = some (.lst ys) → IsAll H' ys ((sortB enc bs).map enc) → Q (.ref p) H'
theorem call_sortB (hu : X.A.units + 100 < cLine) (enc : β → NK) : CallR X (.builtin "sorted") (rSortB X.K enc) := by
  intro pins s σ H vs us Q I r h
  obtain ⟨a, xs, bs, rfl, hx, hI, S, hz, q⟩ := h
  obtain ⟨u, rfl, rx⟩ := r.one
  cases rx
  obtain ⟨its, rv, pl, hz'⟩ := I.list hx
  have ei := each_in rv hI
  refine PySem.W.sorted_data (enc := fun b => (enc b).data) pl.isList ei (each_reads I ei) S.alike S.able (sz_of hz) (fun b hb => by have := S.deep b hb; rw [depth_data]; omega) fun out hl eo => ?_
  obtain ⟨ys, hv, hy⟩ := each_out eo
  obtain ⟨c, hc⟩ := sortedAll_at s.heap its (List.toArray out)
  have hn : H (s.heap.objs.size + 1) = none := I.hok.fresh (Nat.le_succ _)
  have hlen : ys.length ≤ sizeLine := by rw [hv.length, hl]; exact sz_of hz
  refine ⟨.ref (s.heap.objs.size + 1), upd H (s.heap.objs.size + 1) (.lst ys), I.laid (t' := s.toks) (fun b o e => sortedAll_old e) (Nat.le_succ _) ⟨hlen, out, c, hv, hc⟩, rfl, q _ ys _ hn Chg.upd upd_same ?_⟩
  exact hy.ex (Ex.new hn)
end
end K82
namespace K82
open PySem PySem.Spec PyProof.Rows L2 Evl

section
variable {β : Type} {X : Cx}
/-- sorted(d): its keys -/
def rSortD (w : World) (enc : β → NK) : List V → Hp → VK → Prop := fun vs H Q => ∃ d bs, vs = [.ref d] ∧ DK w H d (bs.map enc) ∧ Sorts enc bs ∧ bs.length ≤ 100000 ∧
  ∀ p ys H', H p = none → Chg p H H' → H' p = some (.lst ys) → IsAll H' ys ((sortB enc bs).map enc) → Q (.ref p) H'
theorem reads_keeps {h h' : Heap} (k : ∀ b o, h.get? b = some o → h'.get? b = some o) {enc : β → NK} {us : List Value} {bs : List β} (e : PySem.W.EachIs (fun u b => ∃ as, Reads h u (enc b).data as) us bs) : PySem.W.EachIs (fun u b => ∃ as, Reads h' u (enc b).data as) us bs :=
  e.mono fun _ _ ⟨as, r⟩ => ⟨as, PyProof.Rows.Reads.keeps k r⟩
mutual
theorem reads_not {h : Heap} {a : Addr} (ha : ∀ o, h.get? a = some o → o.cls = .type "list") : ∀ (d : NK) (v : Value) (as : List Addr), Reads h v d.data as → a ∉ as
  | .none, _, _, r => by cases r; simp
  | .num _, _, _, r => by cases r; simp
  | .text _, _, _, r => by cases r; simp
  | .tup ks, _, _, r => by
    have r' : Reads h _ (.tuple (NestedKey.datas ks)) _ := r
    cases r' with
    | tuple h1 h2 h3 h4 => exact reads_nots ha ks _ _ h4
theorem reads_nots {h : Heap} {a : Addr} (ha : ∀ o, h.get? a = some o → o.cls = .type "list") : ∀ (ds : List NK) (vs : List Value) (as : List Addr), ReadsAll h vs (NestedKey.datas ds) as → a ∉ as
  | [], _, _, r => by
    have r' : ReadsAll h _ [] _ := r
    cases r'; simp
  | d :: ds, _, _, r => by
    have r' : ReadsAll h _ (d.data :: NestedKey.datas ds) _ := r
    cases r' with
    | cons h1 h2 => exact fun m => (List.mem_append.mp m).elim (reads_not ha d _ _ h1) (reads_nots ha ds _ _ h2)
end
theorem call_sortD (hc : X.calm = true) (hu : X.A.units + 100 < cLine) (enc : β → NK) : CallR X (.builtin "sorted") (rSortD X.w enc) := by
  intro pins s σ H vs us Q I r h
  obtain ⟨d, bs, rfl, ⟨es, h1, h2, h3⟩, S, hz, q⟩ := h
  obtain ⟨u, rfl, rx⟩ := r.one
  cases rx
  obtain ⟨o, en, ep, hs, ho, hx, hd, hl, hz', dv⟩ := drawn_vals I h1
  refine Calls.call_function_entry PyProof.Rows.kind_sorted PyProof.Rows.plain_sorted PyProof.Rows.entry_sorted (PyProof.Rows.args_sorted1 _) ?_
  unfold Builtin.«sorted»
  refine wpAny_bind (m := checkCount "sorted" 1 1 _) (wpAny_pure ?_)
  refine wpAny_bind (PySem.W.kdu_collect (A := X.A.in1) (kdl_raw hs hx hd) (I.ok.hd hc) ho (by omega) fun h' tk acc hk it => ?_)
  have rv := dv acc it
  have hI : IsAll H (es.map (·.1)) (bs.map enc) := h2 ▸ IsAll.of_mem fun x hx => (h3 x hx).1
  have ei := each_in rv hI
  have I1 : Inv X pins σ H { s with heap := h', toks := tk } := I.kept hk
  have er := each_reads I1 ei
  have hal : acc.toList.length = bs.length := ei.length
  refine wpAny_bind (wpAny_newList ?_ (by rw [hal]; exact sz_of hz))
  have hoL : (h'.push (seqObj "list" acc.toList.toArray 0)).get? h'.objs.size = some (seqObj "list" acc.toList.toArray 0) := Heap.get?_push_size _ rfl
  have er2 : PySem.W.EachIs (fun u b => ∃ as, Reads (h'.push (seqObj "list" acc.toList.toArray 0)) u (enc b).data as ∧ h'.objs.size ∉ as) acc.toList bs :=
    (reads_keeps (fun b o e => Heap.get?_push_of_some _ e) er).mono fun u b ⟨as, r⟩ => ⟨as, r, reads_not (fun o e => by rw [hoL] at e; cases e; rfl) (enc b) u as r⟩
  show wpAny _ _ _ _ _ { s with heap := h'.push (seqObj "list" acc.toList.toArray 0), toks := tk }
  refine wpAny_bind (wpAny_holding ?_)
  refine PySem.W.list_sort_data (s := { s with heap := h'.push (seqObj "list" acc.toList.toArray 0), toks := tk }) (enc := fun b => (enc b).data) hoL ei er2 S.alike S.able (sz_of hz) (fun b hb => by have := S.deep b hb; rw [depth_data]; show X.A.units + 1 + 1 + _ < cLine; omega) fun out hl eo => ?_
  obtain ⟨ys, hv, hy⟩ := each_out eo
  obtain ⟨c, hc'⟩ := PyProof.Rows.sortedHeap_at (vs := acc.toList) (out := out.toArray) hoL
  have hlen : ys.length ≤ sizeLine := by rw [hv.length, hl]; exact sz_of hz
  have hn : H h'.objs.size = none := I1.hok.fresh (Nat.le_refl _)
  refine wpAny_pure ⟨_, rfl, .ref h'.objs.size, upd H h'.objs.size (.lst ys), I1.laid (t' := tk) (fun b u e => ?_) (Nat.le_refl _) ⟨hlen, out, c, hv, hc'⟩, rfl, q _ ys _ hn Chg.upd upd_same (hy.ex (Ex.new hn))⟩
  have hb : b < h'.objs.size := Heap.lt_size e
  rw [PyProof.Rows.sortedHeap_old (Nat.ne_of_lt hb) (by rw [PyProof.Rows.size_push']; exact Nat.lt_succ_of_lt hb)]
  exact Heap.get?_push_of_some _ e
end

/-! ### the truth of a dict keyed by data -/
theorem truthy_raw {prog : Program} {w : World} {A : Around} {E : Value → Shared → Prop} {s : Shared} {d : Addr} {o : Obj} {en : Array DictEntry} {ep : Nat} {Q : Bool → Shared → Prop} (hs : (d == sysModules) = false) (ho : s.heap.get? d = some o) (hx : o.ExactDict) (hd : o.data = .dict en ep) (hz : en.size ≤ sizeLine)
    (h : ∀ tk, Q (decide (en.size ≠ 0)) { s with toks := tk }) : wpAny (model prog w) A (truthy (.ref d)) Q E s := by
  have hT : s.TypeIs (.ref d) "dict" := ⟨o, ho, hx.1⟩
  have hne : ((en.size : Int) != 0) = decide (en.size ≠ 0) := by
    by_cases e : en.size = 0
    · rw [e]; rfl
    · have : ¬ (en.size : Int) = 0 := by omega
      simp [e, this]
  have hz2 : en.size ≤ 16777216 := by rw [← sizeLine_eq]; exact hz
  have key : wpAny (model prog w) A (runValue (.builtin "len" ⟨[.ref d], []⟩)) (fun r s' => r = .int en.size (s.toks + 1) ∧ Q (decide (en.size ≠ 0)) s') E s := by
    refine wpAny_runValue (codeAny_builtin PySem.entry_len ?_)
    rw [Around.under_plainId PySem.plain_len _]
    unfold Builtin.«len»
    refine wpAny_bind (m := oneArg "len" _) (wpAny_pure ?_)
    refine wpAny_bind (m := callSpecial? (.ref d) (Str.ofString "__len__")) (wpAny_callSpecial?_slot (name := Str.ofString "__len__") hT PySem.F.slot_dict_len (call_len_raw hs ⟨o, ho, hx, hd⟩ ?_))
    show wpAny _ _ _ _ _ { s with toks := s.toks + 1 }
    refine wpAny_bind (wpAny_holding (wpAny_pure ?_))
    refine wpAny_bind (wpAny_letGo ?_)
    show wpAny _ _ (if ((en.size : Nat) : Int) < 0 then _ else _) _ _ _
    rw [if_neg (by omega)]
    show wpAny _ _ (if ((en.size : Nat) : Int) ≥ 2 ^ 63 then _ else _) _ _ _
    rw [if_neg (by omega)]
    exact wpAny_bind (wpAny_mkInt (wpAny_pure ⟨rfl, h _⟩))
  unfold truthy
  first
    | refine wpAny_bind (wpAny_callSpecial?_none (name := Str.ofString "__bool__") hT noBool_dict ?_)
    | refine wpAny_bind (wpAny_pure (wpAny_bind (wpAny_callSpecial?_none (name := Str.ofString "__bool__") hT noBool_dict ?_)))
  first
    | refine wpAny_bind (wpAny_specialOf (name := Str.ofString "__len__") hT PySem.F.slot_dict_len.lookup ?_)
    | refine wpAny_bind (wpAny_pure (wpAny_bind (wpAny_specialOf (name := Str.ofString "__len__") hT PySem.F.slot_dict_len.lookup ?_)))
  first
    | exact wpAny_bind (wpAny_mono key (fun r s' h' => by obtain ⟨rfl, hq⟩ := h'; exact wpAny_pure (hne ▸ hq)) fun _ _ e => e)
    | exact wpAny_bind (wpAny_pure (wpAny_bind (wpAny_mono key (fun r s' h' => by obtain ⟨rfl, hq⟩ := h'; exact wpAny_pure (hne ▸ hq)) fun _ _ e => e)))

/-- d or y, d a dict keyed by data that is not empty -/
def tOrG (w : World) (ta : TE) : TE := fun σ H Q => ta σ H fun x H1 => ∃ d L, x = .ref d ∧ DK w H1 d L ∧ L ≠ [] ∧ Q x H1
theorem pe_orG {X : Cx} {a b : Expr} {ta : TE} {rest : List Expr} {pos : Pos} (ha : PE X a ta) : PE X (.BoolOp .Or (a :: b :: rest) pos) (tOrG X.w ta) := by
  refine ⟨fun pins s σ H Q I h => ?_⟩
  refine BoolOp_or (thn (ha.run pins s σ H _ I h) fun v s1 ⟨x, H1, I1, r1, d, L, e, ⟨es, h1, h2, h3⟩, hne, q1⟩ => ?_)
  subst e
  cases r1
  obtain ⟨o, en, ep, hs, ho, hx, hd, hl, hz, _⟩ := drawn_vals I1 h1
  refine truthy_raw hs ho hx hd (by omega) fun tk => ?_
  have e0 : en.size ≠ 0 := fun z => hne (by rw [← h2]; have : es = [] := List.eq_nil_of_length_eq_zero (by omega); rw [this]; rfl)
  rw [decide_eq_true e0]
  exact ⟨.ref d, H1, I1.tok tk, rfl, q1⟩

/-! ### set(xs) of a list of ints -/
section
variable {P : Program} {w : World} {A : Around} {E : Value → Shared → Prop} {s : Shared}
abbrev newSet (w : World) : Obj := { cls := .type "set", dict := none, data := .set #[] 0 (.fresh 0 0 (!w.params.followText "set-order")) }
theorem call_set_ints {l : Addr} {items : Array Value} (ns : List Int) {Q : Value → Shared → Prop} (hh : A.handled = none) (hl : s.heap.IsList l items) (hit : IntsAre items.toList ns) (hb : ns.length + 1 < scanBound)
    (h : ∀ (h' : Heap) (tk c : Nat), SetR w h' s.heap.objs.size (fun j => decide (j ∈ ns)) c → c ≤ ns.length → (∀ b o, s.heap.get? b = some o → h'.get? b = some o) → Q (.ref s.heap.objs.size) { s with heap := h', toks := tk }) :
    wpAny (model P w) A (call (.type "set") [.ref l]) Q E s := by
  have hisz : items.size = ns.length := by
    have q := IntsAre.length hit
    rw [Array.length_toList] at q
    exact q
  obtain ⟨c, tl, hmro⟩ := PySem.F.called_set.mro
  have hmade := PySem.F.called_set.made
  have hsub := PySem.F.called_set.sub
  refine wpAny_call (codeAny_of_tree ?_)
  show wpAny _ _ (callAny (.type "set") _) _ _ _
  refine wpAny_pure ⟨Code.quiet_builtin _ (by decide +kernel), codeAny_builtin PySem.F.entry_type_call ?_⟩
  rw [Around.under_plain (weight_type_call_type "set" [.ref l] []) rfl]
  have h1 := PySem.F.called_set.notType
  have h2 := PySem.F.called_set.canCreate
  have hct := PySem.F.typeCall_set_1 (.ref l)
  repeat (any_goals (first | assumption | wp_step))
  refine codeAny_mono (code_set_led1 (.ref l) (E := E) (Q₁ := fun obj s₁ => obj = .ref s.heap.objs.size ∧ s₁ = { s with heap := s.heap.push (newSet w) }) ⟨rfl, rfl⟩) fun r s₁ hr => ?_
  cases r with
  | error e => exact hr
  | ok fl =>
    cases fl with
    | ret obj =>
      obtain ⟨rfl, rfl⟩ := hr
      have hS : (s.heap.push (newSet w)).get? s.heap.objs.size = some (newSet w) := Heap.get?_push_size _ rfl
      have hT : Shared.TypeIs { s with heap := s.heap.push (newSet w) } (.ref s.heap.objs.size) "set" := ⟨_, hS, rfl⟩
      have hli := PySem.F.called_set.init.lookup
      have hbi := PySem.F.called_set.init.bind (.ref s.heap.objs.size)
      repeat (any_goals (first | assumption | wp_step))
      refine codeAny_mono (codeAny_call_builtin (R := wants (fun r s₂ => r = .none ∧ ∃ h' tk c, s₂ = { s with heap := h', toks := tk } ∧ SetR w h' s.heap.objs.size (fun j => decide (j ∈ ns)) c ∧ c ≤ ns.length ∧
          (∀ b o, s.heap.get? b = some o → h'.get? b = some o)) E) PySem.F.called_set.init.plain PySem.F.entry_set_init (check_set_init_1 hT ?_)) fun r₂ s₂ hr₂ => ?_
      · have hl1 : (s.heap.push (newSet w)).IsList l items := hl.push _
        obtain ⟨ol, hol, hcl, nl, hdl⟩ := hl
        obtain ⟨ocls, odict, odata, oslots⟩ := ol
        simp only at hcl hdl
        subst hcl; subst hdl
        have hol' : (s.heap.push (newSet w)).get? l = some { cls := .type "list", dict := odict, data := .seq items nl, slots := oslots } := Heap.get?_push_of_some _ hol
        have hsls := PySem.F.sub_list_set
        have hslf := PySem.F.sub_list_frozenset
        have hne : (Value.type "list" == Value.type "dict") = false := by decide
        unfold Builtin.«set.__init__» noKeywords Builtin.Frozenset.updateFrom
        generalize hPI : pyIter = PI
        wp_walk
        subst hPI
        refine wpAny_pyIter_list hl1 ?_
        refine wpAny_bind (wpAny_runValue ?_)
        have hlS : l < s.heap.objs.size := Heap.lt_size hol
        have hh3 : A.in1.in1.in1.handled = none := by simp [hh]
        have hz1 : (s.heap.push (newSet w)).objs.size = s.heap.objs.size + 1 := Heap.size_push ..
        have hneI : l ≠ (s.heap.push (newSet w)).objs.size := by rw [Heap.size_push]; exact Nat.ne_of_lt (Nat.lt_succ_of_lt hlS)
        have hSf : s.heap.objs.size ∉ [(s.heap.push (newSet w)).objs.size, l] := by
          rw [Heap.size_push]; simp only [List.mem_cons, List.mem_singleton, List.not_mem_nil, or_false, not_or]
          exact ⟨Nat.ne_of_lt (Nat.lt_succ_self _), Nat.ne_of_gt hlS⟩
        have hval : ∀ (i : Nat) (v : Value), items[i]? = some v → ∃ k t, ns[i]? = some k ∧ v = .int k t := fun i v hv => by
          have hi : i < ns.length := by rw [← hisz]; exact (Array.getElem?_eq_some_iff.mp hv).1
          obtain ⟨t, e⟩ := PyProof.Rows.IntsAre.int_at hit i v (by rw [Array.getElem?_toList]; exact hv)
          refine ⟨ns[i], t, List.getElem?_eq_getElem hi, ?_⟩
          rw [e, List.getD_eq_getElem?_getD, List.getElem?_eq_getElem hi] <;> rfl
        refine set_update_ints ((Walks.list hh3 _ l hneI items).toS) s.heap.objs.size hSf ns hisz hb hval (items.size - 0) 0 _ (by omega) (Nat.zero_le _)
          ⟨⟨_, Heap.get?_push_size _ rfl, rfl, rfl⟩, (hl1.push _)⟩ ?hS0 ?hR
        case hS0 =>
          have hget : ((s.heap.push (newSet w)).push { cls := .type "list_iterator", data := .fields #[.ref l, .int 0 0] }).get? s.heap.objs.size = some (newSet w) := Heap.get?_push_of_some _ hS
          exact ⟨0, Nat.le_refl 0, setR_new_at hget⟩
        case hR =>
          intro s' c' hm hc' hS'
          obtain ⟨h', g2, d', tk', os'⟩ := s'
          obtain rfl : g2 = s.gens := hm.gens
          obtain rfl : d' = s.drawn := hm.drawn
          obtain rfl : os' = s.os := hm.os
          show wpAny _ _ _ _ _ _
          refine wpAny_pure ?_
          show wpAny _ _ (ret Value.none) _ _ _
          rw [hisz] at hc'
          refine wpAny_pure ⟨rfl, h', tk', c', rfl, hS', hc', fun b o e => ?_⟩
          have hb0 : b < s.heap.objs.size := Heap.lt_size e
          have hb1 : b ≠ s.heap.objs.size := Nat.ne_of_lt hb0
          have hb2 : b ≠ (s.heap.push (newSet w)).objs.size := by rw [Heap.size_push]; exact Nat.ne_of_lt (Nat.lt_succ_of_lt hb0)
          exact hm.heap b o (by simp only [List.mem_cons, List.mem_singleton, List.not_mem_nil, or_false, not_or]; exact ⟨hb1, hb2⟩) (Heap.get?_push_of_some _ (Heap.get?_push_of_some _ e))
      · cases r₂ with
        | error e => exact hr₂
        | ok fl₂ =>
          cases fl₂ with
          | ret r =>
            obtain ⟨rfl, h', tk, c', rfl, hS', hc', hk'⟩ := hr₂
            repeat (any_goals (first | assumption | wp_step))
            exact h _ _ _ hS' hc' hk'
          | _ => exact hr₂.elim
    | _ => exact hr.elim
end
/-- set(xs) -/
def rSetI (w : World) (K : PySem.W.Frag) : List V → Hp → VK → Prop := fun vs H Q => ∃ (l : Addr) (ns : List Int), vs = [V.ref l] ∧ SqL K H l (ns.map V.int) ∧ ns.length < 60 ∧
  ∀ (p : Addr) (c : Nat), H p = none → c ≤ ns.length → Q (.ref p) (upd H p (SetO w p (fun j => decide (j ∈ ns)) c))
theorem call_setI {X : Cx} (hc : X.calm = true) : CallR X (.type "set") (rSetI X.w X.K) := by
  intro pins s σ H vs us Q I r h
  obtain ⟨l, ns, rfl, hx, hz, q⟩ := h
  obtain ⟨u, rfl, rx⟩ := r.one
  cases rx
  obtain ⟨its, rv, pl, _⟩ := I.list hx
  refine call_set_ints ns (I.ok.hd hc) pl.isList (by simpa using Vals.ints rv) (by show ns.length + 1 < scanBound; have : scanBound = 4096 := rfl; omega) fun h' tk c R hc' k => ?_
  exact ⟨.ref s.heap.objs.size, _, I.laid (t' := tk) k (Nat.le_refl _) (setO_new R), rfl, q _ c (I.hok.fresh (Nat.le_refl _)) hc'⟩
end K82
/-! A dict comprehension whose keys are data. -/
namespace K82
open PySem PySem.Spec PyProof.Rows L2 Evl

section
variable {X : Cx}
def tGc (w : World) (wi : TI) (g : TG) (tt : TT) (tk tv : TE) (vs : List Nat) : TE := fun σ H Q => wi σ H fun J H1 => ∀ D H0, H1 D = none → Chg D H1 H0 → DK w H0 D [] → ∃ W : Nat → Nat → Hp → Prop, (∃ m, W 0 m H0) ∧ ∀ i m H, W i m H →
  (J.stop i H ∧ Q (.ref D) H) ∨ (J.go i H ∧ ∃ Nx : Hp → Prop, (∀ H', Nx H' → ∃ m', m' < m ∧ W (i + 1) m' H') ∧ ∀ x H', J.yld i H x H' → g x (wipe σ vs) H' fun σ2 H2 => wipe σ2 vs = wipe σ vs ∧ tt σ2 H2 fun b H3 =>
    if b = true then tk σ2 H3 fun y H4 => tv σ2 H4 fun _ H5 => ∃ L k, DK w H5 D L ∧ Is H5 y k ∧ KeyV y ∧ k.depth ≤ 8 ∧ L.length < 100000 ∧ ∀ H6, Chg D H5 H6 → DK w H6 D (insK L k) → Nx H6 else Nx H3)
theorem gc_core {pins : List (Addr × Obj)} {s : Shared} {σ : L2.St} {H : Hp} {Q : VK} {kx vx tg iter : Expr} {ifs : List Expr} {scope : Scope} {own : List (Str × Nat)} {pos pos' : Pos} {wi : TI} {g : TG} {tt : TT} {tk tv : TE} {use : Option (Value → Sem Unit)} {Qf : Value → Shared → Prop}
    (hu : X.A.units + 8 < cLine) (hc : X.calm = true) (hN : X.N.Nodup) (I : Inv X pins σ H s) (hi : PI X tg iter wi) (ok : BlkOk X.N X.env.scope scope own)
    (hg : ∀ (s : Shared) (H : Hp) (C : Addr) (cl : List (Str × Addr)) (fp : List Addr), PG (X.blk s H scope (compEnvC scope cl C X.env) fp) tg g) (ht : ∀ (s : Shared) (H : Hp) (C : Addr) (cl : List (Str × Addr)) (fp : List Addr), PTs (X.blk s H scope (compEnvC scope cl C X.env) fp) ifs tt)
    (hk : ∀ (s : Shared) (H : Hp) (C : Addr) (cl : List (Str × Addr)) (fp : List Addr), PE (X.blk s H scope (compEnvC scope cl C X.env) fp) kx tk)
    (he : ∀ (s : Shared) (H : Hp) (C : Addr) (cl : List (Str × Addr)) (fp : List Addr), PE (X.blk s H scope (compEnvC scope cl C X.env) fp) vx tv) (hs : ∀ x, foldedSetIterable iter X.env x = pure x)
    (h : tGc X.w wi g tt tk tv (own.map (·.2)) σ H Q)
    (hRR : ∀ D C s' m H', Inv X pins σ H' s' → Q (.ref D) H' → s'.heap.Ns C m → FpOk X pins H' C → compPost (model X.prog X.w) X.A X.xe use Qf (.ref D) C (.ok .next) s') :
    wpAny (model X.prog X.w) X.A (comprehension (.DictComp kx vx [⟨tg, iter, ifs, 0⟩] scope pos) scope X.env pos' newDict false (eval iter X.env) use) Qf X.xe s := by
  have hfree : ∀ y ∈ scope.names, y.2 = .free → ∃ c, X.env.cells.lookup y.1 = some c := fun y hy e => by
    rcases ok.free y hy e with k | k
    · exact I.ok.has _ (.inl k)
    · exact I.ok.has _ (.inr k)
  refine wpAny_comprehension_free (use := use) rfl hs (closure_ok hfree) ok.kind (fun y hy e => by rw [ok.uniq y hy, e]) (thn (hi.run pins s σ H _ I h) fun xv s1 hx => thn hx fun itv s2 h2 => ?_)
  obtain ⟨it, fp, tn, J, H2, e, I2, T, st2, f2, q⟩ := h2
  subst e
  refine wpAny_newObj_type (newEnv_comp ?_)
  generalize hD : s2.heap.objs.size = D
  have hDn : H2 D = none := I2.hok.fresh (Nat.le_of_eq hD)
  obtain ⟨W, ⟨m0, w0⟩, turn⟩ := q D (upd H2 D (gO X.w D [])) hDn Chg.upd DK.empty
  generalize hs3 : ({ s2 with heap := s2.heap.push { cls := .type "dict", data := .dict #[] } } : Shared) = s3
  have I3 : Inv X pins σ (upd H2 D (gO X.w D [])) s3 := by
    rw [← hs3]
    refine I2.laid (t' := s2.toks) (fun b o e => Heap.get?_push_of_some _ e) (Nat.le_of_eq hD) ?_
    rw [← hD]
    exact gO_empty s2.heap I2.big
  have h3 : s3.heap = s2.heap.push { cls := .type "dict", data := .dict #[] } := by rw [← hs3]
  have sz : ∀ b ∈ fp, b < s2.heap.objs.size := fun b hb => by
    obtain ⟨o, e, _⟩ := T.obj _ _ st2 b hb
    exact Heap.lt_size e
  have f3 : ∀ b ∈ fp, FpOk X pins (upd H2 D (gO X.w D [])) b ∧ b < s3.heap.objs.size := fun b hb => by
    have hlt := sz b hb
    refine ⟨⟨?_, (f2 b hb).2⟩, by rw [h3, Heap.size_push]; exact Nat.lt_succ_of_lt hlt⟩
    rw [upd_ne (by rw [← hD]; exact Nat.ne_of_lt hlt)]
    exact (f2 b hb).1
  have st3 : tn 0 s3.heap := T.keep _ _ _ st2 fun b _ o e => by rw [h3]; exact Heap.get?_push_of_some _ e
  have I4 := block_start I3 ok hN f3
  have nfp : ∀ b ∈ fp, (upd H2 D (gO X.w D [])) b = none := fun b hb => (f3 b hb).1.1
  generalize hH3 : upd H2 D (gO X.w D []) = H3 at I3 I4 w0 nfp f3
  have pg := hg s3 H3 s3.heap.objs.size (cellsFrom (s3.heap.objs.size + 1) scope.names (cloFrom X.env.cells scope.names [])) fp
  have pt := ht s3 H3 s3.heap.objs.size (cellsFrom (s3.heap.objs.size + 1) scope.names (cloFrom X.env.cells scope.names [])) fp
  have pk := hk s3 H3 s3.heap.objs.size (cellsFrom (s3.heap.objs.size + 1) scope.names (cloFrom X.env.cells scope.names [])) fp
  have pe := he s3 H3 s3.heap.objs.size (cellsFrom (s3.heap.objs.size + 1) scope.names (cloFrom X.env.cells scope.names [])) fp
  show codeAny _ _ (.compStart (.DictComp kx vx [⟨tg, iter, ifs, 0⟩] scope pos) 0 (.ref it) (.ref D) (compEnvC scope (cellsFrom (s3.heap.objs.size + 1) scope.names (cloFrom X.env.cells scope.names [])) s3.heap.objs.size X.env)) (compPost (model X.prog X.w) X.A X.xe use Qf (.ref D) s3.heap.objs.size) { s3 with heap := pushCells (s3.heap.push { cls := .type "dict", data := .dict #[] }) scope.names }
  generalize hce : compEnvC scope (cellsFrom (s3.heap.objs.size + 1) scope.names (cloFrom X.env.cells scope.names [])) s3.heap.objs.size X.env = ce at I4 pg pt pk pe ⊢
  have cL : ce.locals = s3.heap.objs.size := by subst hce; rfl
  generalize hs4 : ({ s3 with heap := pushCells (s3.heap.push { cls := .type "dict", data := .dict #[] }) scope.names } : Shared) = s4 at I4 ⊢
  have st4 : tn 0 s4.heap := T.keep _ _ _ st3 fun b _ o e => by rw [← hs4]; exact pushCells_keeps _ _ _ _ (Heap.get?_push_of_some _ e)
  have stat : ∀ {σ' : L2.St} {H' : Hp} {s' : Shared}, Inv (X.blk s3 H3 scope ce fp) [] σ' H' s' → (∀ b ∈ fp, H' b = none) → ∀ b ∈ fp, FpOk (X.blk s3 H3 scope ce fp) [] H' b := fun {σ' H' s'} I' hn b hb =>
    ⟨hn b hb, (I'.ok.exf b hb).1, I'.ok.exfs b hb, .inl hb, fun x c e => (I'.ok.exf b hb).2 x c e, fun p hp => absurd (show p ∈ ([] : List (Addr × Obj)) ++ [] from hp) (by simp)⟩
  have loop : codeAny (model X.prog X.w) X.A (.compLoop (.DictComp kx vx [⟨tg, iter, ifs, 0⟩] scope pos) 0 (.ref it) (.ref D) ce) (compPost (model X.prog X.w) X.A X.xe use Qf (.ref D) s3.heap.objs.size) s4 := by
    refine compLoop_anyD (fun n s' => ∃ i H', Inv (X.blk s3 H3 scope ce fp) [] (wipe σ (own.map (·.2))) H' s' ∧ tn i s'.heap ∧ (∀ b ∈ fp, H' b = none) ∧ W i n H') ?_ m0 ⟨0, H3, I4, st4, nfp, w0⟩
    rintro n s5 ⟨i, H5, I5, st5, n5, w5⟩
    rcases turn i n H5 w5 with ⟨stop, qq⟩ | ⟨go, Nx, hNx, step⟩
    · have td := T.done (X.blk s3 H3 scope ce fp) rfl rfl rfl hc i [] s5 _ H5 (fun _ _ => False) I5 (stat I5 n5) st5 stop
      refine thnF td fun r s6 ⟨hr, I6⟩ => ?_
      subst hr
      have I7 : Inv X pins σ H5 s6 := I3.call' (ch := fp) I6.os I6.base I6.hok I6.bare fun b hb => ⟨(f3 b hb).1.2.2.2.1, (f3 b hb).1.2.1, (f3 b hb).1.2.2.2.2.1, (f3 b hb).1.2.2.2.2.2⟩
      have nC : H5 s3.heap.objs.size = none := by
        have z : H5 ce.locals = none := I6.free
        rw [cL] at z
        exact z
      obtain ⟨m, hn, _⟩ := I6.loc
      have hn : s6.heap.Ns ce.locals m := hn
      rw [cL] at hn
      exact hRR D s3.heap.objs.size s6 m H5 I7 qq hn (I3.fpOk (Nat.le_refl _) nC)
    · have ti := T.item (X.blk s3 H3 scope ce fp) rfl rfl rfl hc i [] s5 _ H5 (fun _ _ => False) I5 (stat I5 n5) st5 go
      refine thnF ti fun r s6 ⟨u, hr, h6⟩ => ?_
      subst hr
      refine thnF h6 fun _ s7 ⟨x, H7, I7, r7, y7, st7, n7⟩ => ?_
      have I7' := I7.pinned (stat I7 n7) (T.obj _ _ st7)
      refine thnF (pg.run _ s7 _ H7 x u _ I7' r7 (step x H7 y7)) fun _ s8 ⟨σ8, H8, I8, hw8, q8⟩ => ?_
      refine thnF (pt.run _ s8 σ8 H8 _ I8 q8) fun b s9 ⟨H9, I9, q9⟩ => ?_
      have fin : ∀ {s' : Shared} {H' : Hp}, Inv (X.blk s3 H3 scope ce fp) ([] ++ pinsAt fp s7.heap) σ8 H' s' → Nx H' → ∃ m, m < n ∧ ∃ i H', Inv (X.blk s3 H3 scope ce fp) [] (wipe σ (own.map (·.2))) H' s' ∧ tn i s'.heap ∧ (∀ b ∈ fp, H' b = none) ∧ W i m H' := fun {s' H'} I' nx => by
        obtain ⟨m', hm, w'⟩ := hNx H' nx
        have pin' : ∀ b ∈ fp, ∀ o, s7.heap.get? b = some o → s'.heap.get? b = some o ∧ H' b = none := fun b hb o e =>
          let z := I'.pin (b, o) (List.mem_append_right _ (List.mem_append_right _ (mem_pinsAt hb e)))
          ⟨z.1, z.2.1⟩
        have hl : (wipe σ (own.map (·.2))).length = σ8.length := by rw [← hw8, wipe_length]
        refine ⟨m', hm, i + 1, H', (I'.unpinned (pins := [])).weak hl (fun j v e => ?_), T.keep _ _ _ st7 fun b hb o e => (pin' b hb o e).1, fun b hb => ?_, w'⟩
        · rw [← hw8] at e
          exact (wipe_some e).1
        · obtain ⟨o, e, _⟩ := T.obj _ _ st7 b hb
          exact (pin' b hb o e).2
      cases b with
      | false =>
        simp only [Bool.false_eq_true, if_false] at q9 ⊢
        exact fin I9 q9
      | true =>
        simp only [if_true] at q9 ⊢
        refine thnF (pk.run _ s9 σ8 H9 _ I9 q9) fun z s10 ⟨yk, H10, I10, r10, q10⟩ => ?_
        refine thnF (pe.run _ s10 σ8 H10 _ I10 q10) fun z2 s11 ⟨yv, H11, I11, r11, L, k, g11, hk11, kv11, hd11, hz11, nx⟩ => ?_
        exact dset_G (X := X.blk s3 H3 scope ce fp) hu I11 g11 hk11 kv11 hd11 hz11 r10 fun s12 H12 I12 c12 g12 => fin I12 (nx H12 c12 g12)
  exact codeAny_compStart_dict loop (T.self X.A 0 _ _ _ st4 loop)
theorem pe_gc {kx vx tg iter : Expr} {ifs : List Expr} {scope : Scope} {own : List (Str × Nat)} {pos : Pos} {wi : TI} {g : TG} {tt : TT} {tk tv : TE} (hu : X.A.units + 8 < cLine) (hc : X.calm = true) (hN : X.N.Nodup) (hi : PI X tg iter wi) (ok : BlkOk X.N X.env.scope scope own)
    (hg : ∀ (s : Shared) (H : Hp) (C : Addr) (cl : List (Str × Addr)) (fp : List Addr), PG (X.blk s H scope (compEnvC scope cl C X.env) fp) tg g) (ht : ∀ (s : Shared) (H : Hp) (C : Addr) (cl : List (Str × Addr)) (fp : List Addr), PTs (X.blk s H scope (compEnvC scope cl C X.env) fp) ifs tt)
    (hk : ∀ (s : Shared) (H : Hp) (C : Addr) (cl : List (Str × Addr)) (fp : List Addr), PE (X.blk s H scope (compEnvC scope cl C X.env) fp) kx tk)
    (he : ∀ (s : Shared) (H : Hp) (C : Addr) (cl : List (Str × Addr)) (fp : List Addr), PE (X.blk s H scope (compEnvC scope cl C X.env) fp) vx tv) (hs : ∀ x, foldedSetIterable iter X.env x = pure x := by intro _; rfl) :
    PE X (.DictComp kx vx [⟨tg, iter, ifs, 0⟩] scope pos) (tGc X.w wi g tt tk tv (own.map (·.2))) := by
  refine ⟨fun pins s σ H Q I h => ?_⟩
  rw [arm_eval_DictComp]
  refine gc_core hu hc hN I hi ok hg ht hk he hs h fun D C s' m H' I' q hn f => ⟨m, hn, fun h'' sb => ?_⟩
  obtain ⟨f0, f1, f2, f3, f4, f5⟩ := f
  exact ⟨.ref D, H', I'.turned (t' := s'.toks) (fun b o hb e => (sb.2 b hb).trans e) f0 f1 f3 f4 f5, rfl, q⟩
/-- name = {k: v for ..} on one line, the name a plain local -/
theorem ps_setGc {i : Nat} {y : Str} {py : Pos} {kx vx tg iter : Expr} {ifs : List Expr} {scope : Scope} {own : List (Str × Nat)} {pos spos : Pos} {wi : TI} {g : TG} {tt : TT} {tk tv : TE} (hu : X.A.units + 8 < cLine) (hc : X.calm = true) (hN : X.N.Nodup) (hy : X.N[i]? = some y) (hyl : X.env.scope.names.lookup y = some .local)
    (hsw : swapsWith (.DictComp kx vx [⟨tg, iter, ifs, 0⟩] scope pos) (some (.Name y py)) spos.line X.env = pure true) (hi : PI X tg iter wi) (ok : BlkOk X.N X.env.scope scope own)
    (hg : ∀ (s : Shared) (H : Hp) (C : Addr) (cl : List (Str × Addr)) (fp : List Addr), PG (X.blk s H scope (compEnvC scope cl C X.env) fp) tg g) (ht : ∀ (s : Shared) (H : Hp) (C : Addr) (cl : List (Str × Addr)) (fp : List Addr), PTs (X.blk s H scope (compEnvC scope cl C X.env) fp) ifs tt)
    (hk : ∀ (s : Shared) (H : Hp) (C : Addr) (cl : List (Str × Addr)) (fp : List Addr), PE (X.blk s H scope (compEnvC scope cl C X.env) fp) kx tk)
    (he : ∀ (s : Shared) (H : Hp) (C : Addr) (cl : List (Str × Addr)) (fp : List Addr), PE (X.blk s H scope (compEnvC scope cl C X.env) fp) vx tv) (hs : ∀ x, foldedSetIterable iter X.env x = pure x := by intro _; rfl) :
    PS X (.Assign [.Name y py] (.DictComp kx vx [⟨tg, iter, ifs, 0⟩] scope pos) spos) (tAsg (tGc X.w wi g tt tk tv (own.map (·.2))) (gName i)) := by
  refine ⟨fun pins s σ H D I h => ?_⟩
  rw [exec_Assign_Name_used _ _ _ _ hsw]
  refine wpAny_bind (wpAny_standAt (wpAny_bind ?_))
  show wpAny _ X.A (do let _ ← comprehension (.DictComp kx vx [⟨tg, iter, ifs, 0⟩] scope pos) scope X.env (firstIterPos [⟨tg, iter, ifs, 0⟩] pos) newDict false (eval iter X.env) (some (assign (.Name y py) X.env))) _ _ s
  have h : tGc X.w wi g tt tk tv (own.map (·.2)) σ H (fun x H1 => gName i x σ H1 D.nx) := h
  refine wpAny_bind (thn (gc_core (Qf := fun _ s' => SP X pins D .next s') hu hc hN I hi ok hg ht hk he hs h fun L C s' m H' I' q hn f => ?_) fun _ s' hq => wpAny_pure (wpAny_pure hq))
  show wpAny _ _ (assign (.Name y py) X.env (.ref L)) _ _ _
  refine wpAny_assign_Name (store_ok2 (v := V.ref L) I' hN hy (.inl hyl) rfl (fun s2 I2 ⟨a, sb, ha⟩ => ?_) (.inr hyl))
  obtain ⟨f0, f1, f2, f3, f4, f5⟩ := f
  have haC : C ≠ a := by
    rcases ha with z | z
    · rw [z]; exact f1
    · exact fun e => f4 y a z e.symm
  refine ⟨m, hn.sameBut sb haC, fun h3 sb3 => ?_⟩
  exact ⟨_, H', I2.turned (t' := s2.toks) (fun b o hb e => (sb3.2 b hb).trans e) f0 f1 f3 f4 f5, q⟩
theorem sw_trueG {kx vx : Expr} {gs : List Comprehension} {scope : Scope} {pos py : Pos} {y : Str} {l : Nat} {env : Env} (hk : env.scope.kind = .function) (hy : env.scope.names.lookup y = some .local) (hl : (py.line == pos.line) = true)
    (ha : (scope.names.any fun (n, k) => n == y && (k == .local || k == .cell)) = false) : swapsWith (.DictComp kx vx gs scope pos) (some (.Name y py)) l env = pure true := by
  have ky : env.kindOf y = some .local := hy
  have hb : env.blockKind = .function := by unfold Env.blockKind; rw [hk]; rfl
  unfold swapsWith
  simp only [hb, ky, ha, Expr.pos, hl]
  rfl
end
end K82
/-! zip(a, b, strict=True) of two tuples of one length, in the model. -/
namespace K82
open PySem PySem.Spec PyProof.Rows L2 Evl RZ

abbrev ZipS (h : Heap) (z TI TO : Addr) (f0 : Value) : Prop := h.get? z = some { cls := .type "zip", dict := none, data := .fields #[f0, .bool false, .bool true, .ref TI, .ref TO], slots := #[] }

section
variable {prog : Program} {w : World} {A : Around} {E : Value → Shared → Prop} {s : Shared}

theorem orEnd_item {it l : Addr} {i : Nat} {items : Array Value} {x : Value} {Q : Option Value → Shared → Prop} (hit : s.heap.IsTupleIter it l i) (hl : s.heap.IsTuple l items) (hx : items[i]? = some x)
    (hQ : ∀ h', h'.IsTupleIter it l (i + 1) → Heap.SameBut it s.heap h' → Q (some x) { s with heap := h' }) : wpAny (model prog w) A (Builtin.SmallTypes.nextOrEnd (.ref it)) Q E s := by
  unfold Builtin.SmallTypes.nextOrEnd
  exact wpAny_bind (wpAny_attempt (nextOf_tuple_item hit hl hx fun h' a b => wpAny_pure (hQ h' a b)))
theorem orEnd_end {it l : Addr} {i : Nat} {items : Array Value} {Q : Option Value → Shared → Prop} (hh : A.handled = none) (hit : s.heap.IsTupleIter it l i) (hl : s.heap.IsTuple l items) (hx : items[i]? = none)
    (hQ : ∀ h', Heap.ExtBut it s.heap h' → Q none { s with heap := h' }) : wpAny (model prog w) A (Builtin.SmallTypes.nextOrEnd (.ref it)) Q E s := by
  unfold Builtin.SmallTypes.nextOrEnd
  refine wpAny_bind (wpAny_attempt (nextOf_tuple_end hh hit hl hx fun h' e he hx' => ?_))
  obtain ⟨o, ho, hc⟩ := hx'
  refine wpAny_bind (wpAny_isInstance (T := "StopIteration") (b := true) ⟨o, ho, hc⟩ isSubtype_stop ?_)
  exact wpAny_pure (hQ _ he)

theorem zipS_item {z TI TO i1 i2 l1 l2 : Addr} {k1 k2 : Nat} {xs ys : Array Value} {x y a b : Value} {Q : Value → Shared → Prop} (D : ZipApart z TI TO i1 i2 l1 l2)
    (hz : ZipS s.heap z TI TO .none) (hTI : IsPair s.heap TI (.ref i1) (.ref i2)) (hTO : IsPair s.heap TO a b)
    (h1 : s.heap.IsTupleIter i1 l1 k1) (h2 : s.heap.IsTupleIter i2 l2 k2) (hl1 : s.heap.IsTuple l1 xs) (hl2 : s.heap.IsTuple l2 ys) (hx : xs[k1]? = some x) (hy : ys[k2]? = some y)
    (hQ : ∀ h', ZipS h' z TI TO (rawInt s.heap.objs.size) → IsPair h' TO x y → h'.IsTupleIter i1 l1 (k1 + 1) → h'.IsTupleIter i2 l2 (k2 + 1) → IsPair h' s.heap.objs.size x y → h'.objs.size = s.heap.objs.size + 1 →
      (∀ c o, c ≠ z → c ≠ TO → c ≠ i1 → c ≠ i2 → s.heap.get? c = some o → h'.get? c = some o) → Q (.ref s.heap.objs.size) { s with heap := h' }) :
    wpAny (model prog w) A (Builtin.«zip.__next__» ⟨[.ref z], []⟩) (fun fin s' => ∃ v, fin = .done (.ret v) ∧ Q v s') E s := by
  show wpAny _ _ (field (.ref z) 2 >>= _) _ _ _
  refine wpAny_bind (wpAny_field hz rfl (x := .bool true) rfl ?_)
  show wpAny _ _ (field (.ref z) 3 >>= _) _ _ _
  refine wpAny_bind (wpAny_field hz rfl (x := .ref TI) rfl ?_)
  refine wpAny_bind (wpAny_seqItems hTI rfl ?_)
  show wpAny _ _ (Builtin.SmallTypes.ownedTupleIsFree (.ref z) >>= _) _ _ _
  refine wpAny_bind ?_
  unfold Builtin.SmallTypes.ownedTupleIsFree
  refine wpAny_bind (wpAny_field hz rfl (x := .none) rfl (wpAny_pure ?_))
  simp only [if_true]
  refine wpAny_bind (wpAny_rule ?_)
  refine wpAny_bind (wpAny_field hz rfl (x := .ref TO) rfl ?_)
  refine wpAny_bind (wpAny_setField_rec hz (by simp) fun h₁ hz₁ hs₁ => ?_)
  replace hz₁ : ZipS h₁ z TI TO .ellipsis := hz₁
  refine wpAny_bind ?_
  simp only [List.zipIdx_cons, List.zipIdx_nil, List.forIn_cons, List.forIn_nil]
  refine wpAny_bind (wpAny_bind (wpAny_onRaise ?_))
  show wpAny _ _ (Builtin.SmallTypes.nextOrEnd (.ref i1)) _ _ _
  refine orEnd_item (h1.extBut hs₁.extBut D.i1z) (hl1.extBut hs₁.extBut D.l1z) hx fun h₂ h1₂ hs₂ => ?_
  have hTO₂ : IsPair h₂ TO a b := hs₂.extBut _ _ D.TOi1 (hs₁.extBut _ _ D.TOz hTO)
  refine wpAny_bind (wpAny_seqItems hTO₂ rfl ?_)
  refine wpAny_bind (wpAny_updateSeq_pair hTO₂ fun h₃ hTO₃ hs₃ => ?_)
  replace hTO₃ : IsPair h₃ TO x b := hTO₃
  refine wpAny_bind (wpAny_letGo (wpAny_pure ?_))
  refine wpAny_bind (wpAny_bind (wpAny_onRaise ?_))
  show wpAny _ _ (Builtin.SmallTypes.nextOrEnd (.ref i2)) _ _ _
  refine orEnd_item (((h2.extBut hs₁.extBut D.i2z).extBut hs₂.extBut D.i12.symm).extBut hs₃.extBut D.TOi2.symm)
    (((hl2.extBut hs₁.extBut D.l2z).extBut hs₂.extBut D.l2i1).extBut hs₃.extBut D.l2TO) hy fun h₄ h2₄ hs₄ => ?_
  have hTO₄ : IsPair h₄ TO x b := hs₄.extBut _ _ D.TOi2 hTO₃
  refine wpAny_bind (wpAny_seqItems hTO₄ rfl ?_)
  refine wpAny_bind (wpAny_updateSeq_pair hTO₄ fun h₅ hTO₅ hs₅ => ?_)
  replace hTO₅ : IsPair h₅ TO x y := hTO₅
  refine wpAny_bind (wpAny_letGo (wpAny_pure (wpAny_pure ?_)))
  refine wpAny_bind (wpAny_seqItems hTO₅ rfl ?_)
  refine wpAny_bind (wpAny_newTuple ?_)
  have hsz : h₅.objs.size = s.heap.objs.size := by rw [hs₅.1, hs₄.1, hs₃.1, hs₂.1, hs₁.1]
  have hz₅ : ZipS h₅ z TI TO .ellipsis := hs₅.extBut _ _ D.TOz.symm (hs₄.extBut _ _ D.i2z.symm (hs₃.extBut _ _ D.TOz.symm (hs₂.extBut _ _ D.i1z.symm hz₁)))
  have hk₅ : ∀ c o, c ≠ z → c ≠ TO → c ≠ i1 → c ≠ i2 → s.heap.get? c = some o → h₅.get? c = some o := fun c o c1 c2 c3 c4 e =>
    hs₅.extBut _ _ c2 (hs₄.extBut _ _ c4 (hs₃.extBut _ _ c2 (hs₂.extBut _ _ c3 (hs₁.extBut _ _ c1 e))))
  have h1₅ : h₅.IsTupleIter i1 l1 (k1 + 1) := ((h1₂.extBut hs₃.extBut D.TOi1.symm).extBut hs₄.extBut D.i12).extBut hs₅.extBut D.TOi1.symm
  have h2₅ : h₅.IsTupleIter i2 l2 (k2 + 1) := h2₄.extBut hs₅.extBut D.TOi2.symm
  have hzlt : z < h₅.objs.size := Heap.lt_size hz₅
  show wpAny _ _ (Builtin.SmallTypes.ownedTupleHandOut (.ref z) (.ref h₅.objs.size) >>= _) _ _ _
  refine wpAny_bind ?_
  unfold Builtin.SmallTypes.ownedTupleHandOut
  have hz₆ : ZipS (h₅.push { cls := .type "tuple", data := .seq #[x, y] }) z TI TO .ellipsis := Heap.get?_push_of_some _ hz₅
  refine wpAny_bind (wpAny_setField_rec hz₆ (by simp) fun h₇ hz₇ hs₇ => ?_)
  replace hz₇ : ZipS h₇ z TI TO (rawInt h₅.objs.size) := hz₇
  refine wpAny_setField_rec hz₇ (by simp) fun h₈ hz₈ hs₈ => ?_
  replace hz₈ : ZipS h₈ z TI TO (rawInt h₅.objs.size) := hz₈
  have up : ∀ c o, c ≠ z → h₅.get? c = some o → h₈.get? c = some o := fun c o c1 e => hs₈.extBut _ _ c1 (hs₇.extBut _ _ c1 (Heap.get?_push_of_some _ e))
  have hT₈ : IsPair h₈ h₅.objs.size x y := hs₈.extBut _ _ (Nat.ne_of_gt hzlt) (hs₇.extBut _ _ (Nat.ne_of_gt hzlt) (Heap.get?_push_size _ rfl))
  have hz8 : h₈.objs.size = h₅.objs.size + 1 := by rw [hs₈.1, hs₇.1, Heap.size_push]
  rw [hsz] at hz₈ hT₈ hz8
  refine wpAny_pure ⟨_, rfl, ?_⟩
  show Q (.ref h₅.objs.size) _
  rw [hsz]
  exact hQ h₈ hz₈ (up _ _ D.TOz hTO₅) (h1₅.at fun o e => up _ o D.i1z e) (h2₅.at fun o e => up _ o D.i2z e) hT₈ hz8 fun c o c1 c2 c3 c4 e => up c o c1 (hk₅ c o c1 c2 c3 c4 e)

theorem zipS_end {z TI TO i1 i2 l1 l2 : Addr} {k : Nat} {xs ys : Array Value} {a b : Value} {Q : Fin → Shared → Prop} (hh : A.handled = none) (D : ZipApart z TI TO i1 i2 l1 l2)
    (hz : ZipS s.heap z TI TO .none) (hTI : IsPair s.heap TI (.ref i1) (.ref i2)) (hTO : IsPair s.heap TO a b)
    (h1 : s.heap.IsTupleIter i1 l1 k) (h2 : s.heap.IsTupleIter i2 l2 k) (hl1 : s.heap.IsTuple l1 xs) (hl2 : s.heap.IsTuple l2 ys) (hx : xs[k]? = none) (hy : ys[k]? = none)
    (hE : ∀ h' e, (∀ c o, c ≠ z → c ≠ TO → c ≠ i1 → c ≠ i2 → s.heap.get? c = some o → h'.get? c = some o) → (∃ o, h'.get? e = some o ∧ o.cls = .type "StopIteration") → E (.ref e) { s with heap := h' }) :
    wpAny (model prog w) A (Builtin.«zip.__next__» ⟨[.ref z], []⟩) Q E s := by
  show wpAny _ _ (field (.ref z) 2 >>= _) _ _ _
  refine wpAny_bind (wpAny_field hz rfl (x := .bool true) rfl ?_)
  show wpAny _ _ (field (.ref z) 3 >>= _) _ _ _
  refine wpAny_bind (wpAny_field hz rfl (x := .ref TI) rfl ?_)
  refine wpAny_bind (wpAny_seqItems hTI rfl ?_)
  show wpAny _ _ (Builtin.SmallTypes.ownedTupleIsFree (.ref z) >>= _) _ _ _
  refine wpAny_bind ?_
  unfold Builtin.SmallTypes.ownedTupleIsFree
  refine wpAny_bind (wpAny_field hz rfl (x := .none) rfl (wpAny_pure ?_))
  simp only [if_true]
  refine wpAny_bind (wpAny_rule ?_)
  refine wpAny_bind (wpAny_field hz rfl (x := .ref TO) rfl ?_)
  refine wpAny_bind (wpAny_setField_rec hz (by simp) fun h₁ hz₁ hs₁ => ?_)
  replace hz₁ : ZipS h₁ z TI TO .ellipsis := hz₁
  refine wpAny_bind ?_
  simp only [List.zipIdx_cons, List.zipIdx_nil, List.forIn_cons, List.forIn_nil]
  refine wpAny_bind (wpAny_bind (wpAny_onRaise ?_))
  show wpAny _ _ (Builtin.SmallTypes.nextOrEnd (.ref i1)) _ _ _
  refine orEnd_end hh (h1.extBut hs₁.extBut D.i1z) (hl1.extBut hs₁.extBut D.l1z) hx fun h₂ hs₂ => ?_
  have hz₂ : ZipS h₂ z TI TO .ellipsis := hs₂ _ _ D.i1z.symm hz₁
  refine wpAny_bind (wpAny_setField_rec hz₂ (by simp) fun h₃ hz₃ hs₃ => ?_)
  have k3 : ∀ c o, c ≠ z → c ≠ i1 → s.heap.get? c = some o → h₃.get? c = some o := fun c o c1 c3 x => hs₃.extBut _ _ c1 (hs₂ _ _ c3 (hs₁.extBut _ _ c1 x))
  have h2₃ : h₃.IsTupleIter i2 l2 k := ((h2.extBut hs₁.extBut D.i2z).extBut hs₂ D.i12.symm).extBut hs₃.extBut D.i2z
  have hl2₃ : h₃.IsTuple l2 ys := ((hl2.extBut hs₁.extBut D.l2z).extBut hs₂ D.l2i1).extBut hs₃.extBut D.l2z
  refine wpAny_bind ?_
  show wpAny _ _ (forIn [(Value.ref i2, 1)] PUnit.unit _ >>= fun _ => (rule "zip.__next__.all-ended" >>= fun _ => Builtin.SmallTypes.stopIteration)) _ _ _
  refine wpAny_bind ?_
  rw [List.forIn_cons]
  refine wpAny_bind ?_
  dsimp only
  refine wpAny_bind (orEnd_end hh h2₃ hl2₃ hy fun h₄ hs₄ => ?_)
  rw [if_neg (by simp)]
  refine wpAny_pure ?_
  dsimp only
  rw [List.forIn_nil]
  refine wpAny_pure (wpAny_bind (wpAny_rule ?_))
  have hh' : A.handled = none := hh
  unfold Builtin.SmallTypes.stopIteration
  refine wpAny_bind ?_
  simp only [newExc, newTuple]
  refine wpAny_bind (wpAny_newObj_type ?_ (by size_fits))
  refine wpAny_bind (m := firstArgMember _ _) (wpAny_of_eq (a := Value.none) (by first | rfl | (simp only [firstArgMember]; rfl)) ?_)
  refine wpAny_newObj_type ?_ (by size_fits)
  simp only [raiseNew]
  refine wpAny_bind (wpAny_handled ?_)
  first | rw [show A.in1.handled = none from hh] | rw [hh]
  refine wpAny_bind (wpAny_pure (wpAny_throw ?_))
  refine hE _ _ (fun c o c1 c2 c3 c4 e => ?_) ⟨_, Heap.get?_push_size _ rfl, rfl⟩
  exact Heap.get?_push_of_some _ (Heap.get?_push_of_some _ (hs₄ _ _ c4 (k3 c o c1 c3 e)))

theorem next_zipS_item {z TI TO i1 i2 l1 l2 : Addr} {k1 k2 : Nat} {xs ys : Array Value} {x y a b : Value} {Q : Option Value → Shared → Prop} (D : ZipApart z TI TO i1 i2 l1 l2)
    (hz : ZipS s.heap z TI TO .none) (hTI : IsPair s.heap TI (.ref i1) (.ref i2)) (hTO : IsPair s.heap TO a b)
    (h1 : s.heap.IsTupleIter i1 l1 k1) (h2 : s.heap.IsTupleIter i2 l2 k2) (hl1 : s.heap.IsTuple l1 xs) (hl2 : s.heap.IsTuple l2 ys) (hx : xs[k1]? = some x) (hy : ys[k2]? = some y)
    (hQ : ∀ h', ZipS h' z TI TO (rawInt s.heap.objs.size) → IsPair h' TO x y → h'.IsTupleIter i1 l1 (k1 + 1) → h'.IsTupleIter i2 l2 (k2 + 1) → IsPair h' s.heap.objs.size x y → h'.objs.size = s.heap.objs.size + 1 →
      (∀ c o, c ≠ z → c ≠ TO → c ≠ i1 → c ≠ i2 → s.heap.get? c = some o → h'.get? c = some o) → Q (some (.ref s.heap.objs.size)) { s with heap := h' }) :
    wpAny (model prog w) A (pyNext (.ref z)) Q E s := by
  have hT : s.TypeIs (.ref z) "zip" := ⟨_, hz, rfl⟩
  unfold pyNext
  exact wpAny_bind (wpAny_attempt (wpAny_callSpecial?_slot (name := Str.ofString "__next__") hT PySem.F.slot_zip_next (wpAny_call_entry PySem.F.slot_zip_next hT PySem.F.entry_zip_next
    (zipS_item D hz hTI hTO h1 h2 hl1 hl2 hx hy fun h' a1 a2 a3 a4 a5 a6 a7 => wpAny_pure (hQ h' a1 a2 a3 a4 a5 a6 a7)) (PySem.F.args_zip_next_1 _))))
theorem next_zipS_end {z TI TO i1 i2 l1 l2 : Addr} {k : Nat} {xs ys : Array Value} {a b : Value} {Q : Option Value → Shared → Prop} (hh : A.handled = none) (D : ZipApart z TI TO i1 i2 l1 l2)
    (hz : ZipS s.heap z TI TO .none) (hTI : IsPair s.heap TI (.ref i1) (.ref i2)) (hTO : IsPair s.heap TO a b)
    (h1 : s.heap.IsTupleIter i1 l1 k) (h2 : s.heap.IsTupleIter i2 l2 k) (hl1 : s.heap.IsTuple l1 xs) (hl2 : s.heap.IsTuple l2 ys) (hx : xs[k]? = none) (hy : ys[k]? = none)
    (hQ : ∀ h', (∀ c o, c ≠ z → c ≠ TO → c ≠ i1 → c ≠ i2 → s.heap.get? c = some o → h'.get? c = some o) → Q none { s with heap := h' }) : wpAny (model prog w) A (pyNext (.ref z)) Q E s := by
  have hT : s.TypeIs (.ref z) "zip" := ⟨_, hz, rfl⟩
  unfold pyNext
  refine wpAny_bind (wpAny_attempt (wpAny_callSpecial?_slot (name := Str.ofString "__next__") hT PySem.F.slot_zip_next (wpAny_call_entry PySem.F.slot_zip_next hT PySem.F.entry_zip_next (zipS_end hh D hz hTI hTO h1 h2 hl1 hl2 hx hy fun h' e hk he => ?_) (PySem.F.args_zip_next_1 _))))
  obtain ⟨o, ho, hc⟩ := he
  refine wpAny_bind (wpAny_isInstance (T := "StopIteration") (b := true) ⟨o, ho, hc⟩ isSubtype_stop ?_)
  exact wpAny_pure (hQ _ hk)
theorem owned_zipS {elts : List Expr} {x1} {pos : Pos} {z TI TO T : Addr} {Q : Unit → Shared → Prop} (hz : ZipS s.heap z TI TO (rawInt T))
    (hQ : ∀ h', ZipS h' z TI TO .none → Heap.SameBut z s.heap h' → Q () { s with heap := h' }) : wpAny (model prog w) A (letOwnedTupleGo (.Tuple elts x1 pos) (.ref z) (.ref T)) Q E s := by
  unfold letOwnedTupleGo
  refine wpAny_bind (wpAny_load hz ?_)
  show wpAny _ _ (if (["enumerate", "zip", "dict_itemiterator", "dict_reverseitemiterator", "odict_iterator", "itertools.zip_longest", "itertools.pairwise"].contains "zip" && (#[rawInt T, .bool false, .bool true, .ref TI, .ref TO] : Array Value)[0]? == some (rawInt T)) = true then _ else _) Q E s
  rw [if_pos (by simp)]
  refine wpAny_bind (wpAny_rule ?_)
  show wpAny _ _ (setField (.ref z) 0 .none) Q E s
  exact wpAny_setField_rec hz (by simp) fun h' hz' hs' => hQ h' hz' hs'
theorem iter_zipS {z TI TO : Addr} {f0 : Value} {Q : Value → Shared → Prop} (hz : ZipS s.heap z TI TO f0) (h : Q (.ref z) s) : wpAny (model prog w) A (pyIter (.ref z)) Q E s := by
  have hT : s.TypeIs (.ref z) "zip" := ⟨_, hz, rfl⟩
  refine wpAny_pyIter_slot hT PySem.F.slot_zip_iter (wpAny_call_entry PySem.F.slot_zip_iter hT PySem.F.entry_zip_iter ?_ (PySem.F.args_zip_iter_1 _))
  show wpAny _ _ (ret (.ref z)) _ _ s
  exact wpAny_pure ⟨_, rfl, "zip", _, hT, PySem.F.slot_zip_next.lookup, h⟩
end

/-! ### the call zip(a, b, strict=True) -/
abbrev strictKw : List (Str × Value) := [(Str.ofString "strict", Value.bool true)]
theorem typeCall_zipS (a b : Value) : checkTypeCall "zip" ⟨[a, b], strictKw⟩ = pure () := by kernel_rfl
theorem newCall_zipS (a b : Value) : checkBuiltinCall "zip.__new__" ⟨[.type "zip", a, b], strictKw⟩ = pure () := by kernel_rfl
theorem initArgs_zipS (obj a b : Value) : argsOk "object.__init__" ⟨[obj, a, b], strictKw⟩ := by unfold argsOk; kernel_rfl
abbrev zS5 (h : Heap) (l1 l2 : Addr) : Heap := (zipTH4 h l1 l2).push { cls := .type "zip", data := .fields #[.none, .bool false, .bool true, .ref (zipTH2 h l1 l2).objs.size, .ref (zipTH3 h l1 l2).objs.size] }
theorem meets_zipS_new (l1 l2 : Addr) (xs ys : Array Value) :
    Meets (Builtin.«zip.__new__» ⟨[.type "zip", .ref l1, .ref l2], strictKw⟩) (fun _ R s => s.heap.IsTuple l1 xs ∧ s.heap.IsTuple l2 ys ∧
      R (.ok (.ret (.ref (zipTH4 s.heap l1 l2).objs.size))) { s with heap := zS5 s.heap l1 l2 }) :=
  .of_wp fun prog w A R s h => by
    obtain ⟨hp, g, d, tk, os⟩ := s; obtain ⟨hl1, hl2, h⟩ := h
    have hsub := sub_zip
    have hL1 : Heap.IsTuple (Shared.heap ⟨hp, g, d, tk, os⟩) l1 xs := hl1
    have hL2 : Heap.IsTuple (Shared.heap ⟨hp.push { cls := .type "tuple_iterator", data := .fields #[.ref l1, .int 0 0] }, g, d, tk, os⟩) l2 ys := Heap.IsTuple.push hl2 _
    have e2 : (Str.ofString "strict" != ("strict" : Str)) = false := by decide +kernel
    wp_walk using wpAny_pyIter_tuple hL1, wpAny_pyIter_tuple hL2, wpAny_truthy_bool
    exact ⟨_, rfl, h⟩
section
variable {prog : Program} {w : World} {A : Around} {E : Value → Shared → Prop} {s : Shared}
theorem call_zipS {l1 l2 : Addr} {xs ys : Array Value} {Q : Value → Shared → Prop} (hl1 : s.heap.IsTuple l1 xs) (hl2 : s.heap.IsTuple l2 ys)
    (h : ∀ h', ZipS h' (s.heap.objs.size + 4) (s.heap.objs.size + 2) (s.heap.objs.size + 3) .none → IsPair h' (s.heap.objs.size + 2) (.ref s.heap.objs.size) (.ref (s.heap.objs.size + 1)) →
      IsPair h' (s.heap.objs.size + 3) .none .none → h'.IsTupleIter s.heap.objs.size l1 0 → h'.IsTupleIter (s.heap.objs.size + 1) l2 0 → h'.objs.size = s.heap.objs.size + 5 →
      (∀ c o, s.heap.get? c = some o → h'.get? c = some o) → Q (.ref (s.heap.objs.size + 4)) { s with heap := h' }) :
    wpAny (model prog w) A (call (.type "zip") [.ref l1, .ref l2] strictKw) Q E s := by
  refine callType_newKw PySem.F.called_zip (by decide) (typeCall_zipS _ _) (newCall_zipS _ _) (fun obj => initArgs_zipS obj _ _) PySem.F.entry_zip_new (meets_zipS_new l1 l2 xs ys) ⟨hl1, hl2, ?_⟩
  have z1 : (zipTH1 s.heap l1).objs.size = s.heap.objs.size + 1 := Heap.size_push ..
  have z2 : (zipTH2 s.heap l1 l2).objs.size = s.heap.objs.size + 2 := by rw [Heap.size_push, z1]
  have z3 : (zipTH3 s.heap l1 l2).objs.size = s.heap.objs.size + 3 := by rw [Heap.size_push, z2]
  have z4 : (zipTH4 s.heap l1 l2).objs.size = s.heap.objs.size + 4 := by rw [Heap.size_push, z3]
  have z5 : (zS5 s.heap l1 l2).objs.size = s.heap.objs.size + 5 := by rw [Heap.size_push, z4]
  have g5 : (zS5 s.heap l1 l2).get? (zipTH4 s.heap l1 l2).objs.size = some _ := Heap.get?_push_size _ rfl
  have g4 : (zS5 s.heap l1 l2).get? (zipTH3 s.heap l1 l2).objs.size = some _ := Heap.get?_push_of_some _ (Heap.get?_push_size _ rfl)
  have g3 : (zS5 s.heap l1 l2).get? (zipTH2 s.heap l1 l2).objs.size = some _ := Heap.get?_push_of_some _ (Heap.get?_push_of_some _ (Heap.get?_push_size _ rfl))
  have g2 : (zS5 s.heap l1 l2).get? (zipTH1 s.heap l1).objs.size = some _ := Heap.get?_push_of_some _ (Heap.get?_push_of_some _ (Heap.get?_push_of_some _ (Heap.get?_push_size _ rfl)))
  have g1 : (zS5 s.heap l1 l2).get? s.heap.objs.size = some _ := Heap.get?_push_of_some _ (Heap.get?_push_of_some _ (Heap.get?_push_of_some _ (Heap.get?_push_of_some _ (Heap.get?_push_size _ rfl))))
  show _ ∧ _
  rw [z2, z3, z4] at g5
  rw [z1, z2] at g3
  rw [z3] at g4
  rw [z1] at g2
  rw [z4]
  exact ⟨⟨_, g5, rfl⟩, h _ g5 g3 g4 ⟨_, g1, rfl, rfl⟩ ⟨_, g2, rfl, rfl⟩ z5 fun c o x =>
    Heap.get?_push_of_some _ (Heap.get?_push_of_some _ (Heap.get?_push_of_some _ (Heap.get?_push_of_some _ (Heap.get?_push_of_some _ x))))⟩
end
end K82
/-! zip(a, b, strict=True) and enumerate(t) of tuples: what a loop walks. -/
namespace K82
open PySem PySem.Spec PyProof.Rows L2 Evl RZ

section
variable {M : Model} {A : Around} {E : Value → Shared → Prop} {s : Shared} {env : Env}
theorem callWith_typeKw {pos : Pos} {T : String} {first : List Value} {args : List (Bool × Sem Value)} {keywords : List (Option Str × Sem Value)} {Q : Value → Shared → Prop} (hplain : args.any (·.1) = false) (hkw : keywords.any (·.1.isNone) = false)
    (h : wpAny M A (evalArgs (.type T) true args keywords) (fun a s₁ => wpAny M A (call (.type T) (first ++ a.pos) a.kw) Q E s₁) E s) : wpAny M A (callWith pos (.type T) first args keywords) Q E s := by
  unfold callWith
  refine wpAny_bind (wpAny_holding (wpAny_mono h (fun a s₁ h₁ => wpAny_bind (wpAny_standAt ?_)) fun _ _ x => x))
  simp only [hplain, hkw, Bool.or_false]
  refine wpAny_bind (wpAny_pure ?_)
  exact wpAny_bind (wpAny_mono h₁ (fun r s₂ hr => wpAny_bind (wpAny_holding (wpAny_point (wpAny_pure hr)))) fun _ _ x => x)
theorem callWith_tkw {pos : Pos} {T : String} {e : Expr} {rest : List Expr} {kws : List Keyword} {Q : Value → Shared → Prop}
    (h : wpAny M A (spliced (backTo pos (starEach (e :: rest) env))) (fun vs s₁ => wpAny M A (evalAll ((backToKw pos (keywordEach kws env)).map (·.2)))
      (fun kvs s₂ => wpAny M A (call (.type T) vs (((backToKw pos (keywordEach kws env)).filterMap (·.1)).zip kvs)) Q E s₂) E s₁) E s)
    (he : backTo pos (starEach (e :: rest) env) = (false, eval e env) :: backTo pos (starEach rest env) := by rfl)
    (hplain : (backTo pos (starEach (e :: rest) env)).any (·.1) = false := by rfl)
    (hall : (backToKw pos (keywordEach kws env)).all (·.1.isSome) = true := by rfl)
    (hkw : (backToKw pos (keywordEach kws env)).any (·.1.isNone) = false := by rfl) :
    wpAny M A (callWith pos (.type T) [] (backTo pos (starEach (e :: rest) env)) (backToKw pos (keywordEach kws env))) Q E s := by
  refine callWith_typeKw hplain hkw ?_
  rw [he] at h ⊢
  exact evalArgs_kwB hall h
end

theorem turn_zipS {P : Program} {w : World} {K : PySem.W.Frag} {elts : List Expr} {kk : Nat} {tpos : Pos} {a b z TI TO i1 i2 : Addr} (D : ZipApart z TI TO i1 i2 a b) (n : Nat) :
    Turn P w K (.Tuple elts kk tpos) ⟨fun i H => i < n ∧ ∃ (xs ys : List V), SqT K H a xs ∧ SqT K H b ys ∧ xs.length = n ∧ ys.length = n, (ItzT K a b).yld, fun i H => n ≤ i ∧ ∃ xs ys : List V, SqT K H a xs ∧ SqT K H b ys ∧ xs.length = n ∧ ys.length = n⟩ [z, TI, TO, i1, i2] z
      (fun i h => ZipS h z TI TO .none ∧ IsPair h TI (.ref i1) (.ref i2) ∧ (∃ x y, IsPair h TO x y) ∧ h.IsTupleIter i1 a i ∧ h.IsTupleIter i2 b i) where
  mem := by simp
  obj := fun i h st c hc => by
    obtain ⟨hz, hTI, ⟨x, y, hTO⟩, ⟨o1, e1, _, d1⟩, ⟨o2, e2, _, d2⟩⟩ := st
    have e' : c = z ∨ c = TI ∨ c = TO ∨ c = i1 ∨ c = i2 := by simpa using hc
    rcases e' with rfl | rfl | rfl | rfl | rfl
    · exact ⟨_, hz, fun v q => nomatch q⟩
    · exact ⟨_, hTI, fun v q => nomatch q⟩
    · exact ⟨_, hTO, fun v q => nomatch q⟩
    · exact ⟨o1, e1, fun v q => by rw [d1] at q; cases q⟩
    · exact ⟨o2, e2, fun v q => by rw [d2] at q; cases q⟩
  keep := fun i h h' st k => by
    obtain ⟨hz, hTI, ⟨x, y, hTO⟩, h1, h2⟩ := st
    exact ⟨k z (by simp) _ hz, k TI (by simp) _ hTI, ⟨x, y, k TO (by simp) _ hTO⟩, h1.at fun o q => k i1 (by simp) o q, h2.at fun o q => k i2 (by simp) o q⟩
  item := by
    intro X hP hw hK hc i pins s σ H E I hf st hg
    subst hP hw hK
    obtain ⟨hz, hTI, ⟨x0, y0, hTO⟩, h1, h2⟩ := st
    obtain ⟨hi, xs, ys, hqx, hqy, lx, ly⟩ := hg
    obtain ⟨x, hx⟩ : ∃ x, xs[i]? = some x := ⟨xs[i], List.getElem?_eq_getElem (by omega)⟩
    obtain ⟨y, hy⟩ : ∃ y, ys[i]? = some y := ⟨ys[i], List.getElem?_eq_getElem (by omega)⟩
    obtain ⟨its, rv, p, _⟩ := I.tuple hqx
    obtain ⟨its2, rv2, p2, _⟩ := I.tuple hqy
    obtain ⟨u, hu, ru⟩ := rv.get hx
    obtain ⟨u2, hu2, ru2⟩ := rv2.get hy
    have hzl : z < s.heap.objs.size := Heap.lt_size hz
    refine next_zipS_item D hz hTI hTO h1 h2 p p2 (x := u) (y := u2) (by simpa using hu) (by simpa using hu2) fun h' z' TO' h1' h2' hT hsz hk => ?_
    refine ⟨_, rfl, owned_zipS (s := { s with heap := h' }) z' fun h'' z'' sb => ?_⟩
    have hT2 : h''.get? s.heap.objs.size = some { cls := .type "tuple", data := .seq #[u, u2] } := (sb.2 _ (Nat.ne_of_gt hzl)).trans hT
    have new : ObjOk X.prog X.w (upd H s.heap.objs.size (.tup [x, y])) h'' s.heap.objs.size (.tup [x, y]) :=
      ⟨by show 2 ≤ sizeLine; decide, [u, u2], .cons ru (.cons ru2 .nil), ⟨_, hT2, rfl, _, rfl⟩⟩
    have I1 : Inv X pins σ (upd H s.heap.objs.size (.tup [x, y])) { s with heap := h'' } :=
      I.turnedNew (t' := s.toks) (ch := [z, TI, TO, i1, i2]) (fun c o hb q => (sb.2 c (fun q' => hb (by simp [q']))).trans (hk c o (fun q' => hb (by simp [q'])) (fun q' => hb (by simp [q'])) (fun q' => hb (by simp [q'])) (fun q' => hb (by simp [q'])) q)) hf (Nat.le_refl _) new
    refine ⟨.ref s.heap.objs.size, _, I1, rfl, ⟨_, x, y, rfl, I.hok.fresh (Nat.le_refl _), rfl, fun l hl => by rw [I.tuple_inj hl hqx]; exact hx, fun l hl => by rw [I.tuple_inj hl hqy]; exact hy⟩, ⟨z'', ?_, ⟨u, u2, ?_⟩, ?_, ?_⟩, fun c hcm => ?_⟩
    · exact (sb.2 _ D.TIz).trans (hk _ _ D.TIz D.TITO D.TIi1 D.TIi2 hTI)
    · exact (sb.2 _ D.TOz).trans TO'
    · exact h1'.at fun o q => (sb.2 _ D.i1z).trans q
    · exact h2'.at fun o q => (sb.2 _ D.i2z).trans q
    · have hlt : c < s.heap.objs.size := by
        have e' : c = z ∨ c = TI ∨ c = TO ∨ c = i1 ∨ c = i2 := by simpa using hcm
        rcases e' with q | q | q | q | q
        · rw [q]; exact hzl
        · rw [q]; exact Heap.lt_size hTI
        · rw [q]; exact Heap.lt_size hTO
        · rw [q]; obtain ⟨_, e1, _⟩ := h1; exact Heap.lt_size e1
        · rw [q]; obtain ⟨_, e2, _⟩ := h2; exact Heap.lt_size e2
      rw [upd_ne (Nat.ne_of_lt hlt)]
      exact (hf c hcm).1
  done := by
    intro X hP hw hK hc i pins s σ H E I hf st hg
    subst hP hw hK
    obtain ⟨hz, hTI, ⟨x0, y0, hTO⟩, h1, h2⟩ := st
    obtain ⟨hi, xs, ys, hqx, hqy, lx, ly⟩ := hg
    obtain ⟨its, rv, p, _⟩ := I.tuple hqx
    obtain ⟨its2, rv2, p2, _⟩ := I.tuple hqy
    have l1 := rv.length
    have l2 := rv2.length
    exact next_zipS_end (I.ok.hd hc) D hz hTI hTO h1 h2 p p2 (by simp; omega) (by simp; omega) fun h' hk => ⟨rfl, I.turnedL (t' := s.toks) (ch := [z, TI, TO, i1, i2]) (fun c o hb q =>
      hk c o (fun q' => hb (by simp [q'])) (fun q' => hb (by simp [q'])) (fun q' => hb (by simp [q'])) (fun q' => hb (by simp [q'])) q) hf⟩
  self := fun A i s Q E st h => iter_zipS st.1 h

def ItS (K : PySem.W.Frag) (a b : Addr) (n : Nat) : It := ⟨fun i H => i < n ∧ ∃ (xs ys : List V), SqT K H a xs ∧ SqT K H b ys ∧ xs.length = n ∧ ys.length = n, (ItzT K a b).yld, fun i H => n ≤ i ∧ ∃ xs ys : List V, SqT K H a xs ∧ SqT K H b ys ∧ xs.length = n ∧ ys.length = n⟩
theorem walk_S {K : PySem.W.Frag} {a b : Addr} {xs ys : List V} {n : Nat} (lx : xs.length = n) (ly : ys.length = n) : Walk (ItS K a b n) n (fun H => SqT K H a xs ∧ SqT K H b ys) (YPair (fun i => xs[i]?) (fun i => ys[i]?)) := by
  refine ⟨fun i _ hi q => ⟨hi, xs, ys, q.1, q.2, lx, ly⟩, fun _ q => ⟨Nat.le_refl _, xs, ys, q.1, q.2, lx, ly⟩, fun i H v H' _ q y => ?_⟩
  obtain ⟨T, x, z, h1, h2, h3, h4, h5⟩ := y
  exact ⟨T, x, z, h1, h2, h3, h4 xs q.1, h5 ys q.2⟩
def iZipS (K : PySem.W.Frag) (ta : TA) : TI := fun σ H R => ta σ H fun vs H1 => ∃ a b xs ys, vs = [.ref a, .ref b] ∧ SqT K H1 a xs ∧ SqT K H1 b ys ∧ xs.length = ys.length ∧ R (ItS K a b xs.length) H1
theorem pi_zipS {X : Cx} {e e2 : Expr} {ta : TA} {p pos tpos kp cp : Pos} {elts : List Expr} {kk cc : Nat} (hg : Gl X "zip") (hm : X.mg "zip" = none) (ha : PA X [e, e2] ta)
    (he : ∀ q, backTo q (starEach [e, e2] X.env) = (false, eval e X.env) :: backTo q (starEach [e2] X.env) := by intro _; rfl) (hpl : ∀ q, (backTo q (starEach [e, e2] X.env)).any (·.1) = false := by intro _; rfl) :
    PI X (.Tuple elts kk tpos) (.Call (.Name "zip" p) [e, e2] [⟨some "strict", .Constant (.bool true) cc cp, kp⟩] pos) (iZipS X.K ta) := by
  refine ⟨fun pins s σ H R I h => ?_⟩
  refine wpAny_Call_Name_kw (ld_blt I hg hm PyProof.Rows.boot_zip ?_)
  refine callWith_tkw (thn (ha.run pos pins s σ H _ I h) fun us s1 ⟨vs, H1, I1, r1, a, b, xs, ys, ex, hqx, hqy, hl, q⟩ => ?_) (he pos) (hpl pos)
  refine kws_cons (Constant_bool (kws_nil ?_))
  subst ex
  obtain ⟨u1, u2, rfl, r1, r2⟩ := Vals.two r1
  cases r1
  cases r2
  obtain ⟨its, rv, p1, _⟩ := I1.tuple hqx
  obtain ⟨its2, rv2, p2, _⟩ := I1.tuple hqy
  obtain ⟨o1, ho1, _⟩ := id p1
  obtain ⟨o2, ho2, _⟩ := id p2
  have fresh5 : ∀ c, c ∈ [s1.heap.objs.size + 4, s1.heap.objs.size + 2, s1.heap.objs.size + 3, s1.heap.objs.size, s1.heap.objs.size + 1] → FpOk X pins H1 c := fun c hcm => by
    have e' : c = s1.heap.objs.size + 4 ∨ c = s1.heap.objs.size + 2 ∨ c = s1.heap.objs.size + 3 ∨ c = s1.heap.objs.size ∨ c = s1.heap.objs.size + 1 := by simpa using hcm
    have hle : s1.heap.objs.size ≤ c := by
      rcases e' with z | z | z | z | z
      · rw [z]; exact Nat.le_add_right _ _
      · rw [z]; exact Nat.le_add_right _ _
      · rw [z]; exact Nat.le_add_right _ _
      · rw [z]; exact Nat.le_refl _
      · rw [z]; exact Nat.le_add_right _ _
    exact I1.fpOk hle (I1.hok.fresh hle)
  refine call_zipS (show s1.heap.IsTuple a its.toArray from p1) (show s1.heap.IsTuple b its2.toArray from p2) fun h' hz hTI hTO h1 h2 hsz hk => iter_zipS hz ?_
  have I2 : Inv X pins σ H1 { s1 with heap := h' } := I1.kept (t' := s1.toks) hk
  exact ⟨s1.heap.objs.size + 4, [s1.heap.objs.size + 4, s1.heap.objs.size + 2, s1.heap.objs.size + 3, s1.heap.objs.size, s1.heap.objs.size + 1], _, _, H1, rfl, I2, turn_zipS (PySem.W.ktu_apart s1.heap.objs.size a b (Heap.lt_size ho1) (Heap.lt_size ho2)) xs.length, ⟨hz, hTI, ⟨_, _, hTO⟩, h1, h2⟩, fresh5, q⟩

/-! ### enumerate(t), t a tuple -/
set_option maxHeartbeats 4000000 in
theorem meets_enumT {v : Value} {o : Obj} {H : Heap → Prop} (B : Begins v o H) :
    Meets (Builtin.«enumerate.__new__» ⟨[.type "enumerate", v], []⟩) (fun _ R s => H s.heap ∧
      R (.ok (.ret (.ref (s.heap.push o).objs.size))) { s with heap := (s.heap.push o).push { cls := .type "enumerate", data := .fields #[.none, .bool false, .ref s.heap.objs.size, rawInt 0, .none, .none] } }) :=
  .of_wp fun prog w A R s h => by
    obtain ⟨hp, g, d, tk, os⟩ := s; obtain ⟨h1, h⟩ := h
    have hsub := sub_enumerate
    have q1 : ∀ {A' : Around} {E : Value → Shared → Prop} {Q : Value → Shared → Prop}, Q (.ref hp.objs.size) ⟨hp.push o, g, d, tk, os⟩ → wpAny (model prog w) A' (pyIter v) Q E ⟨hp, g, d, tk, os⟩ :=
      fun q => B.iter prog w _ _ ⟨hp, g, d, tk, os⟩ _ h1 q
    wp_walk using q1
    refine wpAny_stack_any fun st => wpAny_pure ?_
    split
    · rename_i c _ _ _ _ _
      cases (c == Value.type "enumerate")
      · wp_walk using q1
        exact ⟨_, rfl, h⟩
      · wp_walk using q1
        exact ⟨_, rfl, h⟩
    · wp_walk using q1
      exact ⟨_, rfl, h⟩
theorem call_enumT {prog : Program} {w : World} {A : Around} {E : Value → Shared → Prop} {s : Shared} {v : Value} {o : Obj} {H : Heap → Prop} {Q : Value → Shared → Prop} (B : Begins v o H) (h1 : H s.heap)
    (h : ∀ h', IsEnum h' (s.heap.objs.size + 1) s.heap.objs.size 0 .none → h'.get? s.heap.objs.size = some o → h'.objs.size = s.heap.objs.size + 2 →
      (∀ b o, s.heap.get? b = some o → h'.get? b = some o) → Q (.ref (s.heap.objs.size + 1)) { s with heap := h' }) :
    wpAny (model prog w) A (call (.type "enumerate") [v]) Q E s := by
  refine callType_new PySem.F.called_enumerate (by decide) (PySem.F.typeCall_enumerate_1 _) (PySem.F.newCall_enumerate_1 _) (fun obj => PySem.F.args_object_init_2 obj _) PySem.F.entry_enumerate_new (meets_enumT B) ⟨h1, ?_⟩
  have hz : (s.heap.push o).objs.size = s.heap.objs.size + 1 := Heap.size_push ..
  show _ ∧ _
  rw [hz]
  have he : IsEnum ((s.heap.push o).push { cls := .type "enumerate", data := .fields #[.none, .bool false, .ref s.heap.objs.size, rawInt 0, .none, .none] }) (s.heap.objs.size + 1) s.heap.objs.size 0 .none := by
    have := Heap.get?_push_size (s.heap.push o) (o := { cls := .type "enumerate", data := .fields #[.none, .bool false, .ref s.heap.objs.size, rawInt 0, .none, .none] }) rfl
    rw [hz] at this; exact this
  exact ⟨⟨_, he, rfl⟩, h _ he (Heap.get?_push_of_some _ (Heap.get?_push_size _ B.free)) (by rw [Heap.size_push, hz]) fun b o x => Heap.get?_push_of_some _ (Heap.get?_push_of_some _ x)⟩
/-- the tuple at a, each item in a new pair -/
def ItE (K : PySem.W.Frag) (a : Addr) : It :=
  ⟨fun i H => ∃ (xs : List V) (x : V), SqT K H a xs ∧ xs[i]? = some x, fun i H v H' => ∃ T x, v = .ref T ∧ H T = none ∧ H' = upd H T (.tup [.int (i : Nat), x]) ∧ ∀ xs, SqT K H a xs → xs[i]? = some x, fun i H => ∃ xs : List V, SqT K H a xs ∧ xs.length = i⟩
theorem walk_E {K : PySem.W.Frag} {a : Addr} {xs : List V} : Walk (ItE K a) xs.length (fun H => SqT K H a xs) (YPair (fun i => some (.int (i : Nat))) (fun i => xs[i]?)) := by
  refine ⟨fun i _ hi q => ⟨xs, xs[i], q, by simp [hi]⟩, fun _ q => ⟨xs, q, rfl⟩, fun i H v H' _ q y => ?_⟩
  obtain ⟨T, x, h1, h2, h3, h4⟩ := y
  exact ⟨T, .int (i : Nat), x, h1, h2, h3, rfl, h4 xs q⟩
theorem turn_E {P : Program} {w : World} {K : PySem.W.Frag} {elts : List Expr} {kk : Nat} {tpos : Pos} (a e it : Addr) (hai : a ≠ it) (hea : e ≠ a) :
    Turn P w K (.Tuple elts kk tpos) (ItE K a) [e, it] e (fun i h => (∃ old, IsEnum h e it ((i : Nat) : Int) old) ∧ h.IsTupleIter it a i ∧ e ≠ it) where
  mem := by simp
  obj := fun i h st b hb => by
    obtain ⟨⟨old, he⟩, ⟨o, ho, hc, hd⟩, _⟩ := st
    have e' : b = e ∨ b = it := by simpa using hb
    rcases e' with z | z
    · rw [z]; exact ⟨_, he, fun v q => nomatch q⟩
    · rw [z]; exact ⟨o, ho, fun v q => by rw [hd] at q; cases q⟩
  keep := fun i h h' st k => let ⟨⟨old, he⟩, hi, hne⟩ := st; ⟨⟨old, k e (by simp) _ he⟩, hi.at fun o q => k it (by simp) o q, hne⟩
  item := by
    intro X hP hw hK hc i pins s σ H E I hf st hg
    subst hP hw hK
    obtain ⟨⟨old, he⟩, hit, hne⟩ := st
    obtain ⟨xs, x, hq, hx⟩ := hg
    obtain ⟨its, rv, p, hz⟩ := I.tuple hq
    obtain ⟨u, hu, ru⟩ := rv.get hx
    have hel : e < s.heap.objs.size := Heap.lt_size he
    have hil : it < s.heap.objs.size := by obtain ⟨_, q, _⟩ := hit; exact Heap.lt_size q
    have hlt : i < its.toArray.size := by have := (List.getElem?_eq_some_iff.mp hx).1; have := rv.length; simp; omega
    refine wpAny_pyNext_enum_itemD (Draws.tuple (prog := X.prog) (w := X.w) (A := X.A.in1) (show X.A.in1.handled = none from I.ok.hd hc) it a hai its.toArray) he (⟨hit, p⟩ : s.heap.IsTupleIter it a i ∧ s.heap.IsTuple a its.toArray) hlt hne (by simp [hne, hea]) fun x' h' tk hx' ho hst' hT hsz hk => ?_
    have ex : x' = u := by
      have h1 : its.toArray[i]? = some u := by simpa using hu
      have h2 : its.toArray[i]? = some x' := hx'
      rw [h1] at h2; cases h2; rfl
    subst ex
    refine ⟨_, rfl, wpAny_letOwnedTupleGo_enum (s := { s with heap := h', toks := tk + 1 }) ho fun h'' he' sb => ?_⟩
    have hT2 : h''.get? s.heap.objs.size = some { cls := .type "tuple", data := .seq #[.int i tk, x'] } := (sb.2 _ (Nat.ne_of_gt hel)).trans hT
    have new : ObjOk X.prog X.w (upd H s.heap.objs.size (.tup [.int (i : Nat), x])) h'' s.heap.objs.size (.tup [.int (i : Nat), x]) :=
      ⟨by show 2 ≤ sizeLine; decide, [.int i tk, x'], .cons ⟨_, rfl⟩ (.cons ru .nil), ⟨_, hT2, rfl, _, rfl⟩⟩
    have I1 : Inv X pins σ (upd H s.heap.objs.size (.tup [.int (i : Nat), x])) { s with heap := h'', toks := tk + 1 } :=
      I.turnedNew (ch := [e, it]) (fun b ob hb q => (sb.2 b (fun z => hb (by simp [z]))).trans (hk b ob (fun z => hb (by simp [z])) (fun z => hb (by simp [z])) q)) hf (Nat.le_refl _) new
    refine ⟨.ref s.heap.objs.size, _, I1, rfl, ⟨_, x, rfl, I.hok.fresh (Nat.le_refl _), rfl, fun ys hy => by rw [I.tuple_inj hy hq]; exact hx⟩, ⟨⟨x', ?_⟩, hst'.1.at fun o q => (sb.2 it (Ne.symm hne)).trans q, hne⟩, fun b hb => ?_⟩
    · have e1 : ((i + 1 : Nat) : Int) = (i : Int) + 1 := by omega
      rw [e1]; exact he'
    · have hb' : b < s.heap.objs.size := by
        have e' : b = e ∨ b = it := by simpa using hb
        rcases e' with z | z
        · rw [z]; exact hel
        · rw [z]; exact hil
      rw [upd_ne (Nat.ne_of_lt hb')]
      exact (hf b hb).1
  done := by
    intro X hP hw hK hc i pins s σ H E I hf st hg
    subst hP hw hK
    obtain ⟨⟨old, he⟩, hit, hne⟩ := st
    obtain ⟨xs, hq, hx⟩ := hg
    obtain ⟨its, rv, p, hz⟩ := I.tuple hq
    obtain ⟨f0, f1, f2, f3, f4, f5⟩ := hf it (by simp)
    have hl := rv.length
    have hn : i = its.toArray.size := by simp; omega
    exact wpAny_pyNext_enum_endD (Draws.tuple (prog := X.prog) (w := X.w) (A := X.A.in1) (show X.A.in1.handled = none from I.ok.hd hc) it a hai its.toArray) he (by rw [← hn]; exact ⟨hit, p⟩) fun h' eb => ⟨rfl, I.turned (t' := s.toks) (fun b o hb q => eb b o hb q) f0 f1 f3 f4 f5⟩
  self := fun A i s Q E st h => let ⟨⟨_, he⟩, _⟩ := st; wpAny_pyIter_enum he h
def iEnumT (K : PySem.W.Frag) (ta : TA) : TI := fun σ H R => ta σ H fun vs H1 => ∃ a xs, vs = [.ref a] ∧ SqT K H1 a xs ∧ R (ItE K a) H1
theorem pi_enumT {X : Cx} {e : Expr} {ta : TA} {p pos tpos : Pos} {elts : List Expr} {kk : Nat} (hg : Gl X "enumerate") (hm : X.mg "enumerate" = none) (ha : PA X [e] ta) (hs : starEach [e] X.env = [(false, eval e X.env)] := by rfl) :
    PI X (.Tuple elts kk tpos) (.Call (.Name "enumerate" p) [e] [] pos) (iEnumT X.K ta) := by
  refine ⟨fun pins s σ H R I h => ?_⟩
  refine Call_ (ld_blt I hg hm boot_enumerate (PyProof.Rows.callWith_type1 (thn (ha.run pos pins s σ H _ I h) fun us s1 ⟨vs, H1, I1, r1, q1⟩ => ?_) hs rfl))
  obtain ⟨a, xs, ex, hq, q⟩ := q1
  subst ex
  cases r1 with
  | cons r rr =>
    cases rr
    cases r
    obtain ⟨its, rv, p', hz⟩ := I1.tuple hq
    obtain ⟨oo, hoo, _⟩ := id p'
    have hlt := Heap.lt_size hoo
    refine call_enumT (begins_tuple a its.toArray) p' fun h' he hit hsz hk => wpAny_pyIter_enum he ?_
    have I2 : Inv X pins σ H1 { s1 with heap := h' } := I1.kept (t' := s1.toks) hk
    refine ⟨s1.heap.objs.size + 1, [s1.heap.objs.size + 1, s1.heap.objs.size], _, _, H1, rfl, I2, turn_E a (s1.heap.objs.size + 1) s1.heap.objs.size (Nat.ne_of_lt hlt) (Nat.ne_of_gt (Nat.lt_succ_of_lt hlt)), ⟨⟨.none, he⟩, ⟨_, hit, rfl, rfl⟩, Nat.succ_ne_self _⟩, fun b hb => ?_, q⟩
    have e' : b = s1.heap.objs.size + 1 ∨ b = s1.heap.objs.size := by simpa using hb
    have hle : s1.heap.objs.size ≤ b := by
      rcases e' with z | z
      · rw [z]; exact Nat.le_add_right _ _
      · rw [z]; exact Nat.le_refl _
    exact I1.fpOk hle (I1.hok.fresh hle)
end K82
/-! The mathematics: relations on ten names as masks of a hundred bits; regimes; which are closed; where more leads. -/
namespace K82
open PySem

def bt (x y : Nat) : Nat := 1 <<< (10 * x + y)
def rel (m x y : Nat) : Bool := m.testBit (10 * x + y)
def grid : List (Nat × Nat) := (List.range 10).flatMap fun x => (List.range 10).map fun y => (x, y)
def prs (m : Nat) : List (Nat × Nat) := grid.filter fun p => rel m p.1 p.2
def maskL (l : List (Nat × Nat)) : Nat := l.foldl (fun m p => m ||| bt p.1 p.2) 0
def mkL (l : List (Nat × Nat)) (f : Nat × Nat → Bool) : Nat := maskL (l.filter f)
def sq (ns : List Nat) : List (Nat × Nat) := ns.flatMap fun x => ns.map fun y => (x, y)
def namesOf (rows : List (List Nat)) : List Nat := (List.range 10).filter fun n => rows.any fun r => r.contains n
def steps (rows : List (List Nat)) : List (Nat × Nat) := rows.flatMap fun r => r.zip r.tail
def dirM (rows : List (List Nat)) (w d : Nat) : Nat := w ||| (d ||| maskL (steps rows))
/-- one more name on the way -/
def stepM (m mid : Nat) : Nat :=
  let r := (m >>> (10 * mid)) &&& 1023
  if r = 0 then m else (List.range 10).foldl (fun k x => if rel m x mid then k ||| (r <<< (10 * x)) else k) m
def cloM (m : Nat) : Nat := (List.range 10).foldl stepM m
def acyc (c : Nat) : Bool := (List.range 10).all fun x => !rel c x x
def reach (c x y : Nat) : Bool := x == y || rel c x y
def ordM (ns : List Nat) (c : Nat) : Nat := mkL (sq ns) fun p => rel c p.1 p.2
def drM (ns : List Nat) (c : Nat) (ds : List (Nat × Nat)) : Nat := mkL (sq ns) fun p => ds.any fun q => reach c p.1 q.1 && reach c q.2 p.2
def regC (ns : List Nat) (c d : Nat) : Nat × Nat := (ordM ns c, drM ns c ((sq ns).filter fun p => rel d p.1 p.2))
def regM (rows : List (List Nat)) (w d : Nat) : Nat × Nat := regC (namesOf rows) (cloM (dirM rows w d)) d
def acR (rows : List (List Nat)) (w d : Nat) : Bool := acyc (cloM (dirM rows w d))
def signOf (rows : List (List Nat)) (x : Nat) : Nat := rows.findIdx fun r => r.contains x
def offs (rows : List (List Nat)) : List (Nat × Nat) := (sq (namesOf rows)).filter fun p => p.1 != p.2
def tryM (rows : List (List Nat)) (w d : Nat) : Option (Nat × Nat) := if acR rows w d then some (regM rows w d) else none
def moreO (rows : List (List Nat)) (r : Nat × Nat) : List (Option (Nat × Nat)) := (offs rows).flatMap fun p =>
  (if signOf rows p.1 != signOf rows p.2 then [tryM rows (r.1 ||| bt p.1 p.2) r.2] else []) ++ [tryM rows r.1 (r.2 ||| bt p.1 p.2)]
def moreM (rows : List (List Nat)) (r : Nat × Nat) : List (Nat × Nat) := (moreO rows r).filterMap fun o => o.bind fun l => if l = r then none else some l
/-- the law's own reading -/
def lawReg (rows : List (List Nat)) (w d : Nat) : Option (Nat × Nat) :=
  let c := cloM (dirM rows w d)
  if acyc c then some (ordM (namesOf rows) c, mkL (sq (namesOf rows)) fun p => rel c p.1 p.2 && ((sq (namesOf rows)).filter fun q => rel d q.1 q.2).any fun q => reach c p.1 q.1 && reach c q.2 p.2) else none
def someL : List (Nat × Nat) → List (List (Nat × Nat)) := fun l => l.foldl (fun f p => f ++ f.map fun s => s ++ [p]) [[]]
def allC (rows : List (List Nat)) : List (Nat × Nat) := (someL (offs rows)).flatMap fun o =>
  if o.length ≤ 3 ∧ lawReg rows (maskL o) 0 = some (maskL o, 0) then (someL o).filterMap fun d => if lawReg rows (maskL o) (maskL d) = some (maskL o, maskL d) then some (maskL o, maskL d) else none else []
def within (r g : Nat × Nat) : Bool := (r.1 &&& g.1 == r.1) && (r.2 &&& g.2 == r.2)
def rank (rows : List (List Nat)) (r : Nat × Nat) : Nat := ((sq (namesOf rows)).filter fun p => rel r.1 p.1 p.2).length + ((sq (namesOf rows)).filter fun p => rel r.2 p.1 p.2).length
def rowsAt (a at_ : Nat) : List (List Nat) :=
  let b := (a + 3) % 10
  let c := (a + 6) % 10
  match at_ with
  | 0 => [[a]]
  | 1 => [[a], [b]]
  | 2 => [[a, b]]
  | 3 => [[a, b, c]]
  | 4 => [[a, b], [c]]
  | _ => [[a], [b], [c]]
def numAt : Nat → Nat
  | 0 => 1
  | 1 => 5
  | 2 => 2
  | 3 => 5
  | 4 => 25
  | _ => 67
def factsB (rows : List (List Nat)) (n : Nat) : Bool :=
  let C := allC rows
  (C.length == n) && decide C.Nodup && acR rows 0 0 && C.contains (regM rows 0 0) && C.all fun r =>
    acR rows r.1 r.2 && (regM rows r.1 r.2 == r) && within (regM rows 0 0) r && decide (rank rows r ≤ 6) && (moreM rows r).all (fun l => C.contains l && within r l && decide (rank rows r < rank rows l)) &&
    C.all fun g => !(within r g) || r == g || (moreM rows r).any fun l => within l g
end K82
/-! What the walks share: facts of a def, evaluation to data, comprehensions of data. -/
namespace K82
open PySem PySem.Spec PyProof.Rows L2 Evl

/-- a def of the top that keeps its promise and may be called by its name -/
structure Df (P : Program) (w : World) (K : PySem.W.Frag) (mg : Str → Option Value) (base : Heap) (x : Str) (k : Nat) (ps : List Str) (sp : Sp) : Prop where
  ex : ∃ f fd, FnOk P w K mg base CX0 k f fd ps sp ∧ mg x = some (.ref f) ∧ PySem.W.keepIn K (.ref f) = true ∧ Binds K fd ps []
theorem pe_df {X : Cx} {x : Str} {k j : Nat} {ps : List Str} {sp : Sp} {e : Expr} {es : List Expr} {t : TA} {p pos : Pos} (D : Df X.prog X.w X.K X.mg X.base x k ps sp) (hr : Room j X.A) (hk : k ≤ j) (hg : Gl X x)
    (ha : PA X (e :: es) t) (hdb : (x == ("__debug__" : Str)) = false := by decide) (he : starEach (e :: es) X.env = (false, eval e X.env) :: starEach es X.env := by rfl) (hpl : (backTo pos (starEach es X.env)).any (·.1) = false := by rfl) :
    PE X (.Call (.Name x p) (e :: es) [] pos) (tCall sp [] (fun _ _ _ => False) t) := by
  obtain ⟨f, fd, G, g, kp, b⟩ := D.ex
  exact pe_call G (hr.mono hk) hg g kp b .nil (fun _ _ _ _ _ _ _ h => absurd h (by intro z; exact z.elim)) ha hdb he hpl

theorem hu9 {A : Around} {k : Nat} (hr : Room k A) : A.units + 9 < cLine := by have := hr.un; omega
theorem hu8 {A : Around} {k : Nat} (hr : Room k A) : A.units + 8 < cLine := by have := hr.un; omega
theorem huS {A : Around} {k : Nat} (hr : Room k A) : A.units + 100 < cLine := by have := hr.un; omega

/-! ### evaluation to what a word tells -/
abbrev Po := Hp → V → Hp → Prop
def EvP (te : TE) (σ : L2.St) (H : Hp) (P : Po) : Prop := ∀ H1, Ex H H1 → ∀ Q : VK, (∀ v H2, Ex H1 H2 → P H1 v H2 → Q v H2) → te σ H1 Q
def qD (k : NK) : Po := fun _ v H => Is H v k
theorem EvP.of {te : TE} {σ : L2.St} {H : Hp} {k : NK} {v : V} (h : Ev te σ H v) (hv : Is H v k) : EvP te σ H (qD k) := fun H1 e Q q => h H1 e Q fun H2 e2 => q v H2 e2 (hv.ex (e.trans e2))
theorem EvP.mono {te : TE} {σ : L2.St} {H H' : Hp} {P : Po} (e : Ex H H') (h : EvP te σ H P) : EvP te σ H' P := fun H1 a Q q => h H1 (e.trans a) Q q
theorem evP_var {σ : L2.St} {H : Hp} {i : Nat} {v : V} {k : NK} (h : σ[i]? = some (some v)) (hv : Is H v k) : EvP (tVar i) σ H (qD k) := EvP.of (ev_var h) hv
theorem evP_int {σ : L2.St} {H : Hp} {i : Int} : EvP (tC (.int i)) σ H (qD (.num i)) := EvP.of ev_c (.num i)
/-- (a, b) of data -/
theorem evP_tup2 {ta tb : TE} {σ : L2.St} {H : Hp} {k j : NK} (ha : EvP ta σ H (qD k)) (hb : EvP tb σ H (qD j)) : EvP (tTup (tCons ta (tCons tb tNil))) σ H (qD (.tup [k, j])) := fun H1 e Q q =>
  ha H1 e _ fun x H2 e2 hx => hb H2 (e.trans e2) _ fun y H3 e3 hy => ⟨by show 2 ≤ sizeLine; decide, fun t ht => q (.ref t) _ ((e2.trans e3).trans (Ex.new ht)) (.tup upd_same (.cons ((hx.ex e3).ex (Ex.new ht)) (.cons (hy.ex (Ex.new ht)) .nil)))⟩
/-- t[i] of data -/
theorem evP_ix {K : PySem.W.Frag} {ta : TE} {σ : L2.St} {H : Hp} {ks : List NK} {k : NK} {i : Nat} (ha : EvP ta σ H (qD (.tup ks))) (h : ks[i]? = some k) : EvP (tOp (rIxT K) ta (tC (.int (i : Int)))) σ H (qD k) := fun H1 e Q q =>
  ha H1 e _ fun x H2 e2 hx => by
    obtain ⟨a, xs, rfl, h1, h2⟩ := hx.tup_inv
    obtain ⟨v, hv, hk⟩ := h2.at_ h
    exact ⟨a, xs, (i : Int), v, rfl, rfl, SqT.of h1, atI_nat hv, q v H2 e2 hk⟩

theorem IsAll.nums {H : Hp} : ∀ {is : List Int} {vs : List V}, IsAll H vs (is.map NestedKey.num) → vs = is.map V.int
  | [], _, h => by cases h; rfl
  | i :: is, _, h => by
    cases h with
    | cons h1 t => rw [h1.num_inv, IsAll.nums t]; rfl
theorem IsAll.of_nums {H : Hp} : ∀ (is : List Int), IsAll H (is.map V.int) (is.map NestedKey.num)
  | [] => .nil
  | i :: is => .cons (.num i) (IsAll.of_nums is)
theorem Is.pair_inv {H : Hp} {v : V} {k j : NK} (h : Is H v (.tup [k, j])) : ∃ a x y, v = .ref a ∧ H a = some (.tup [x, y]) ∧ Is H x k ∧ Is H y j := by
  obtain ⟨a, xs, rfl, h1, h2⟩ := h.tup_inv
  cases h2 with
  | cons h3 t =>
    cases t with
    | cons h4 t => cases t; exact ⟨_, _, _, rfl, h1, h3, h4⟩

/-! ### list comprehensions of data -/
def gvn (n : Nat) (f : Nat → Bool) (v : Nat → NK) : List NK := ((List.range n).filter f).map v
theorem gvn_yes {n : Nat} {f : Nat → Bool} {v : Nat → NK} (h : f n = true) : gvn (n + 1) f v = gvn n f v ++ [v n] := by
  unfold gvn
  rw [List.range_succ, List.filter_append, List.map_append, List.filter_cons, if_pos h] <;> rfl
theorem gvn_no {n : Nat} {f : Nat → Bool} {v : Nat → NK} (h : f n = false) : gvn (n + 1) f v = gvn n f v := by
  unfold gvn
  rw [List.range_succ, List.filter_append, List.map_append, List.filter_cons, if_neg (by rw [h]; decide)]
  show _ ++ [] = _
  rw [List.append_nil]
theorem gvn_len (n : Nat) (f : Nat → Bool) (v : Nat → NK) : (gvn n f v).length ≤ n := by
  unfold gvn
  rw [List.length_map]
  have h := List.length_filter_le f (List.range n)
  rw [List.length_range] at h
  exact h
/-- what a list gives, through its places -/
theorem gvn_list {α : Type} (l : List α) (f : α → Bool) (v : α → NK) (f' : Nat → Bool) (v' : Nat → NK) (hf : ∀ i x, l[i]? = some x → f' i = f x) (hv : ∀ i x, l[i]? = some x → v' i = v x) : gvn l.length f' v' = (l.filter f).map v := by
  have key : ∀ n, n ≤ l.length → gvn n f' v' = ((l.take n).filter f).map v := by
    intro n
    induction n with
    | zero => intro _; simp [gvn]
    | succ n ih =>
      intro hn
      have hx : l[n]? = some l[n] := List.getElem?_eq_getElem (by omega)
      rw [List.take_add_one, hx]
      show _ = List.map v (List.filter f (List.take n l ++ [l[n]]))
      rw [List.filter_append, List.map_append]
      cases e : f' n with
      | true =>
        rw [gvn_yes e, ih (by omega), hv n _ hx]
        have : f l[n] = true := by rw [← hf n _ hx]; exact e
        simp [this]
      | false =>
        rw [gvn_no e, ih (by omega)]
        have : f l[n] = false := by rw [← hf n _ hx]; exact e
        simp [this]
  rw [key l.length (Nat.le_refl _), List.take_length]
theorem gvn_range (n : Nat) (f : Nat → Bool) (v : Nat → NK) : gvn n f v = ((List.range n).filter f).map v := rfl
def CwD (H : Hp) (f : Nat → Bool) (v : Nat → NK) (Dl : Addr) (i : Nat) (H' : Hp) : Prop := H Dl = none ∧ Ex H H' ∧ ∃ vs, H' Dl = some (.lst vs) ∧ IsAll H' vs (gvn i f v)
theorem cwD_turn {H H' H0 : Hp} {f : Nat → Bool} {v : Nat → NK} {Dl : Addr} {i : Nat} {σ2 : L2.St} {t : TT} {te : TE} (p : CwD H f v Dl i H0) (e0 : Ex H0 H') (hi : i < 50000) (ht : EvT t σ2 H' (f i)) (he : f i = true → EvP te σ2 H' (qD (v i))) :
    t σ2 H' fun b H3 => if b = true then te σ2 H3 fun y H4 => ∃ acc, H4 Dl = some (.lst acc) ∧ acc.length < sizeLine ∧ CwD H f v Dl (i + 1) (upd H4 Dl (.lst (acc ++ [y]))) else CwD H f v Dl (i + 1) H3 := by
  obtain ⟨p1, p2, vs, p3, p4⟩ := p
  refine ht H' (Ex.refl _) _ fun H3 e3 => ?_
  cases hf : f i with
  | true =>
    show te σ2 H3 fun y H4 => ∃ acc, H4 Dl = some (.lst acc) ∧ acc.length < sizeLine ∧ CwD H f v Dl (i + 1) (upd H4 Dl (.lst (acc ++ [y])))
    refine he hf H3 e3 _ fun y H4 e4 hy => ⟨vs, e4 Dl _ (e3 Dl _ (e0 Dl _ p3)), sz_lt (by rw [p4.length]; have := gvn_len i f v; omega), p1, Ex.mut (((p2.trans e0).trans e3).trans e4) p1, vs ++ [y], upd_same, ?_⟩
    have h4 : H4 Dl = some (.lst vs) := e4 Dl _ (e3 Dl _ (e0 Dl _ p3))
    have tk : Tk H4 (upd H4 Dl (.lst (vs ++ [y]))) := Chg.tku fun xs z => by rw [h4] at z; cases z
    rw [gvn_yes hf]
    exact ((p4.ex ((e0.trans e3).trans e4)).mv tk).append (.one (hy.mv tk))
  | false =>
    show CwD H f v Dl (i + 1) H3
    refine ⟨p1, (p2.trans e0).trans e3, vs, e3 Dl _ (e0 Dl _ p3), ?_⟩
    rw [gvn_no hf]
    exact p4.ex (e0.trans e3)
/-- a comprehension of data over any walk whose things stay -/
theorem lc_data {J : It} {n : Nat} {G : Hp → Prop} {Y : Nat → Hp → V → Hp → Prop} (w : Walk J n G Y) (f : Nat → Bool) (v : Nat → NK) {g : TG} {tt : TT} {te : TE} {vs : List Nat} {σ : L2.St} {H1 : Hp} {D : Addr} {Qd : Hp → Prop} (hD : H1 D = none) (hn : n ≤ 50000)
    (hG : ∀ H, Ex H1 H → G H)
    (hs : ∀ i x H H', i < n → Ex H1 H → Y i H x H' → ∀ Q : L2.St → Hp → Prop, (∀ σ2 H2, Ex H H2 → wipe σ2 vs = wipe σ vs → EvT tt σ2 H2 (f i) → (f i = true → EvP te σ2 H2 (qD (v i))) → Q σ2 H2) → g x (wipe σ vs) H' Q)
    (hd : ∀ H us, Ex H1 H → H D = some (.lst us) → IsAll H us (gvn n f v) → Qd H) :
    ∃ W : Nat → Nat → Hp → Prop, (∃ m, W 0 m (upd H1 D (.lst []))) ∧ ∀ i m H, W i m H →
      (J.stop i H ∧ Qd H) ∨ (J.go i H ∧ ∃ Nx : Hp → Prop, (∀ H', Nx H' → ∃ m', m' < m ∧ W (i + 1) m' H') ∧ ∀ x H', J.yld i H x H' → g x (wipe σ vs) H' fun σ2 H2 => wipe σ2 vs = wipe σ vs ∧ tt σ2 H2 fun b H3 =>
        if b = true then te σ2 H3 fun y H4 => ∃ acc, H4 D = some (.lst acc) ∧ acc.length < sizeLine ∧ Nx (upd H4 D (.lst (acc ++ [y]))) else Nx H3) :=
  lc_it w (CwD H1 f v D) ⟨hD, Ex.new hD, [], upd_same, .nil⟩ (fun i H _ p => hG H p.2.1) (fun i x H H' hi p y => hs i x H H' hi p.2.1 y _ fun σ2 H2 e hw ht he => ⟨hw, cwD_turn p e (by omega) ht he⟩)
    fun H p => by obtain ⟨_, e, us, h1, h2⟩ := p; exact hd H us e h1 h2

theorem etYes {σ : L2.St} {H : Hp} : EvT tYes σ H true := fun H1 _ Q q => q H1 (Ex.refl _)
/-- x as a new pair's parts -/
theorem ypair_is {K : PySem.W.Frag} {xs ys : Nat → Option V} {i : Nat} {H H' : Hp} {v : V} (y : YPair xs ys i H v H') : ∃ T x z, v = .ref T ∧ H T = none ∧ Ex H H' ∧ SqT K H' T [x, z] ∧ xs i = some x ∧ ys i = some z := by
  obtain ⟨T, x, z, h1, h2, h3, h4, h5⟩ := y
  subst h3
  exact ⟨T, x, z, h1, h2, Ex.new h2, SqT.of upd_same, h4, h5⟩
end K82
/-! The text; plans. -/
namespace K82
open PySem PySem.Spec PyProof.Rows L2 Evl

def topS (i : Nat) : Stmt := PySem.Challenge.pw_leavefirst_k82_whole_every_regime_come_t.main.body.getD i (.Pass ⟨0, 0, 0, 0⟩)
abbrev sIsInteger : Stmt := topS 6
abbrev sIsDigit : Stmt := topS 7
abbrev sPlacesOf : Stmt := topS 8
abbrev sNamesOf : Stmt := topS 9
abbrev sPlaceOf : Stmt := topS 10
abbrev sDirect : Stmt := topS 13
abbrev sFollows : Stmt := topS 14
abbrev sRound : Stmt := topS 15
abbrev sIsRegime : Stmt := topS 16
abbrev sReaches : Stmt := topS 17
abbrev sInit : Stmt := inClass (topS 18) 0
abbrev sAllDrained : Stmt := inClass (topS 18) 1
abbrev sRegimeOf : Stmt := topS 19
abbrev sPutIn : Stmt := topS 20
abbrev sWithWait : Stmt := topS 21
abbrev sWithDrain : Stmt := topS 22
abbrev sUnlike : Stmt := topS 23
abbrev sMore : Stmt := topS 24
abbrev sLPlaces : Stmt := topS 26
abbrev sLNames : Stmt := topS 27
abbrev sLFollows : Stmt := topS 28
abbrev sLClosed : Stmt := topS 29
abbrev sLCome : Stmt := topS 30
abbrev sLSome : Stmt := topS 31
abbrev sLAll : Stmt := topS 32
abbrev sLIs : Stmt := topS 33
abbrev sLaw : Stmt := topS 34

/-! ### plans as data -/
def nmD (n : Nat) : NK := .num (n : Int)
def chD (n : Nat) : NK := .tup [nmD n, .num 1]
def rowD (r : List Nat) : NK := .tup [.num 0, .tup (r.map chD)]
def signsD (rows : List (List Nat)) : NK := .tup (rows.map rowD)
def planD (rows : List (List Nat)) : NK := .tup [signsD rows, .tup [.num 0], .tup [.tup [.text "end", .text "good"]]]
structure Good (rows : List (List Nat)) : Prop where
  nd : rows.flatten.Nodup
  lt : ∀ n ∈ rows.flatten, n < 10
  len : rows.length ≤ 10

/-! ### is_integer, is_digit, reaches -/
section
variable {P : Program} {w : World} {K : PySem.W.Frag} {mg : Str → Option Value} {base : Heap}
theorem scIsInteger : FnScope ["value", "low", "high"] ["value", "low", "high"] (defScope sIsInteger) := ⟨rfl, rfl, rfl, by decide +kernel, rfl, by decide +kernel, by decide +kernel⟩
def spIsInteger : Sp := fun vs H Q _ => ∃ n lo hi : Int, vs = [.int n, .int lo, .int hi] ∧ Q (.bl (decide (lo ≤ n) && decide (n ≤ hi))) H
theorem ok_is_integer {f : Addr} {fd : FuncData} (F : Fun K "is_integer" "is_integer" sIsInteger f fd) (m1 : mg "isinstance" = none) (m2 : mg "bool" = none) (m3 : mg "int" = none) : FnOk P w K mg base CX0 1 f fd ["value", "low", "high"] spIsInteger := by
  refine F.ok scIsInteger (fun vs H Q E h => ?_) (fun cdv A outer s H vs Q E hr h => ?_)
  · obtain ⟨n, lo, hi, rfl, _⟩ := h; rfl
  · obtain ⟨n, lo, hi, rfl, q⟩ := h
    refine ⟨_, pss_cons (ps_if (pw_or (pt_val (pe_callB call_isi (by rfl) m1 (by decide +kernel) (pa_cons (pv 0) (pa_cons (pe_bltn (v := .ty "bool") (by rfl) m2 (by decide +kernel) rfl) pa_nil))))
        (pw_or1 (pt_not (pt_val (pe_callB call_isi (by rfl) m1 (by decide +kernel) (pa_cons (pv 0) (pa_cons (pe_bltn (v := .ty "int") (by rfl) m3 (by decide +kernel) rfl) pa_nil))))))).pt
        (pss_one (ps_ret pe_bl)) pss_nil)
      (pss_one (ps_ret (pe_chain op_le op_le (pv 1) (pv 0) (pv 2)))), ?_⟩
    refine ⟨.int n, rfl, .int n, .ty "bool", _, _, false, rfl, .ty "bool", .base (.int n), kit_ty (by decide +kernel), false, rfl, iteF ?_⟩
    refine ⟨.int n, rfl, .int n, .ty "int", _, _, true, rfl, .ty "int", .base (.int n), kit_ty (by decide +kernel), true, rfl, iteF ?_⟩
    refine ⟨_, rfl, _, rfl, lo, n, rfl, rfl, decide (lo ≤ n), rfl, ?_⟩
    cases e : decide (lo ≤ n) with
    | true => rw [e] at q; exact iteT ⟨_, rfl, n, hi, rfl, rfl, q⟩
    | false => rw [e] at q; exact iteF q
theorem scIsDigit : FnScope ["value"] ["value"] (defScope sIsDigit) := ⟨rfl, rfl, rfl, by decide +kernel, rfl, by decide +kernel, by decide +kernel⟩
def spIsDigit : Sp := fun vs H Q _ => ∃ n : Int, vs = [.int n] ∧ 0 ≤ n ∧ n ≤ 9 ∧ Q (.bl true) H
theorem ok_is_digit {f : Addr} {fd : FuncData} (F : Fun K "is_digit" "is_digit" sIsDigit f fd) (D1 : Df P w K mg base "is_integer" 1 ["value", "low", "high"] spIsInteger) (mT : ∃ t, mg "TOP_DIGIT" = some (.int 9 t)) : FnOk P w K mg base CX0 2 f fd ["value"] spIsDigit := by
  obtain ⟨tT, mT⟩ := mT
  refine F.ok scIsDigit (fun vs H Q E h => ?_) (fun cdv A outer s H vs Q E hr h => ?_)
  · obtain ⟨n, rfl, _⟩ := h; rfl
  · obtain ⟨n, rfl, h0, h9, q⟩ := h
    refine ⟨_, pss_one (ps_ret (pe_df D1 hr (Nat.le_refl _) (by rfl) (pa_cons (pv 0) (pa_cons pe_int (pa_cons (pe_glob (v := .int 9) (by rfl) mT ⟨_, rfl⟩) pa_nil))))), ?_⟩
    refine ⟨_, rfl, n, 0, 9, rfl, ?_⟩
    have e : (decide ((0 : Int) ≤ n) && decide (n ≤ 9)) = true := by rw [decide_eq_true h0, decide_eq_true h9]; rfl
    rw [e]
    exact q
theorem scReaches : FnScope ["pairs", "one", "two"] ["pairs", "one", "two"] (defScope sReaches) := ⟨rfl, rfl, rfl, by decide +kernel, rfl, by decide +kernel, by decide +kernel⟩
def pD (p : Nat × Nat) : NK := .tup [nmD p.1, nmD p.2]
/-- a dict whose keys are the pairs of the mask, with none twice -/
structure KP (L : List NK) (m : Nat) : Prop where
  nd : L.Nodup
  mem : ∀ k, k ∈ L ↔ ∃ x y, x < 10 ∧ y < 10 ∧ rel m x y = true ∧ k = pD (x, y)
theorem pD_inj {p q : Nat × Nat} (h : pD p = pD q) : p = q := by
  obtain ⟨a, b⟩ := p
  obtain ⟨c, d⟩ := q
  unfold pD nmD at h
  injection h with h
  injection h with h1 h2
  injection h2 with h2 _
  injection h1 with h1
  injection h2 with h2
  have := Int.ofNat.inj h1
  have := Int.ofNat.inj h2
  simp_all
theorem KP.has {L : List NK} {m x y : Nat} (h : KP L m) (hx : x < 10) (hy : y < 10) : decide (pD (x, y) ∈ L) = rel m x y := by
  cases e : rel m x y with
  | true => exact decide_eq_true ((h.mem _).mpr ⟨x, y, hx, hy, e, rfl⟩)
  | false =>
    refine decide_eq_false fun z => ?_
    obtain ⟨a, b, _, _, e', q⟩ := (h.mem _).mp z
    cases pD_inj q
    rw [e] at e'; cases e'
theorem pD_depth (p : Nat × Nat) : (pD p).depth ≤ 8 := by
  obtain ⟨a, b⟩ := p
  show max 0 (max 0 0) + 1 ≤ 8
  decide
def spReaches (w : World) : Sp := fun vs H Q _ => ∃ (d : Addr) (L : List NK) (m x y : Nat), vs = [.ref d, .int (x : Int), .int (y : Int)] ∧ DK w H d L ∧ KP L m ∧ x < 10 ∧ y < 10 ∧ ∀ H', Ex H H' → Q (.bl (reach m x y)) H'
theorem ok_reaches {f : Addr} {fd : FuncData} (F : Fun K "reaches" "reaches" sReaches f fd) : FnOk P w K mg base CX0 1 f fd ["pairs", "one", "two"] (spReaches w) := by
  refine F.ok scReaches (fun vs H Q E h => ?_) (fun cdv A outer s H vs Q E hr h => ?_)
  · obtain ⟨_, _, _, _, _, rfl, _⟩ := h; rfl
  · obtain ⟨d, L, m, x, y, rfl, g, kp, hx, hy, q⟩ := h
    have hu := hu_of hr
    refine ⟨_, pss_one (ps_ret (pe_or (pe_cmpR op_eq (pv 1) (pv 2) (nomark _)) (pe_one (pe_cmpR (op_inG (hu9 hr)) (pe_tup (pa_cons (pv 1) (pa_cons (pv 2) pa_nil))) (pv 0) rfl)))), ?_⟩
    refine ⟨_, rfl, _, rfl, rfl, _, rfl, ?_⟩
    have er : reach m x y = (decide (V.int (x : Int) = V.int (y : Int)) || rel m x y) := by
      unfold reach
      congr 1
      by_cases h : x = y
      · subst h; simp
      · rw [show decide (V.int (x : Int) = V.int (y : Int)) = false from decide_eq_false (fun z => h (Int.ofNat.inj (V.int.inj z)))]
        exact beq_eq_false_iff_ne.mpr h
    rw [er] at q
    refine ite2 (fun e => ?_) (fun e => ?_)
    · rw [e] at q; exact q H (Ex.refl _)
    · have e' : decide (V.int (x : Int) = V.int (y : Int)) = false := by simpa using e
      rw [e'] at q
      refine ⟨_, rfl, _, rfl, by show 2 ≤ sizeLine; decide, fun t ht => ⟨_, rfl, d, L, pD (x, y), rfl, g.ext (Ex.new ht), .tup upd_same (.cons (.num _) (.cons (.num _) .nil)), .inr ⟨t, rfl⟩, pD_depth _, ?_⟩⟩
      rw [kp.has hx hy]
      exact q _ (Ex.new ht)
end
end K82
/-! places_of, names_of, place_of. -/
namespace K82
open PySem PySem.Spec PyProof.Rows L2 Evl

theorem plan_inv {H : Hp} {v : V} {rows : List (List Nat)} (h : Is H v (planD rows)) : ∃ (a sg : Addr) (v1 v2 : V) (xs : List V), v = .ref a ∧ H a = some (.tup [.ref sg, v1, v2]) ∧ H sg = some (.tup xs) ∧ IsAll H xs (rows.map rowD) := by
  obtain ⟨a, us, rfl, h1, h2⟩ := h.tup_inv
  cases h2 with
  | cons g1 t =>
    cases t with
    | cons g2 t =>
      cases t with
      | cons g3 t =>
        cases t
        obtain ⟨sg, xs, rfl, h3, h4⟩ := g1.tup_inv
        exact ⟨a, sg, _, _, xs, rfl, h1, h3, h4⟩
theorem row_at {H : Hp} {rows : List (List Nat)} {xs : List V} {i : Nat} {x : V} (h : IsAll H xs (rows.map rowD)) (e : xs[i]? = some x) : ∃ (r : List Nat) (a c : Addr) (cs : List V), rows[i]? = some r ∧ x = .ref a ∧ H a = some (.tup [.int 0, .ref c]) ∧ H c = some (.tup cs) ∧ IsAll H cs (r.map chD) := by
  obtain ⟨k, hk, g⟩ := h.get e
  rw [List.getElem?_map] at hk
  cases er : rows[i]? with
  | none => rw [er] at hk; cases hk
  | some r =>
    rw [er] at hk
    obtain rfl := Option.some.inj hk
    obtain ⟨a, x1, x2, rfl, h1, g1, g2⟩ := g.pair_inv
    obtain rfl := g1.num_inv
    obtain ⟨c, cs, rfl, h3, h4⟩ := g2.tup_inv
    exact ⟨r, a, c, cs, rfl, rfl, h1, h3, h4⟩
theorem ch_at {H : Hp} {r : List Nat} {cs : List V} {j : Nat} {x : V} (h : IsAll H cs (r.map chD)) (e : cs[j]? = some x) : ∃ (n : Nat) (a : Addr), r[j]? = some n ∧ x = .ref a ∧ H a = some (.tup [.int (n : Int), .int 1]) := by
  obtain ⟨k, hk, g⟩ := h.get e
  rw [List.getElem?_map] at hk
  cases er : r[j]? with
  | none => rw [er] at hk; cases hk
  | some n =>
    rw [er] at hk
    obtain rfl := Option.some.inj hk
    obtain ⟨a, x1, x2, rfl, h1, g1, g2⟩ := g.pair_inv
    obtain rfl := g1.num_inv
    obtain rfl := g2.num_inv
    exact ⟨n, a, rfl, rfl, h1⟩
theorem signOf_at {n : Nat} : ∀ (rows : List (List Nat)) (i : Nat) (r : List Nat), rows.flatten.Nodup → rows[i]? = some r → n ∈ r → signOf rows n = i
  | [], i, r, _, h, _ => by simp at h
  | r0 :: rs, 0, r, _, h, hn => by
    have e : r0 = r := by simpa using h
    subst e
    unfold signOf
    rw [List.findIdx_cons, show (r0.contains n) = true from by simpa using hn]; rfl
  | r0 :: rs, i + 1, r, nd, h, hn => by
    have h' : rs[i]? = some r := by simpa using h
    have nd2 : (r0 ++ rs.flatten).Nodup := by simpa using nd
    obtain ⟨_, nd3, dj⟩ := List.nodup_append.mp nd2
    have hf : n ∈ rs.flatten := List.mem_flatten.mpr ⟨r, List.mem_of_getElem? h', hn⟩
    have hno : r0.contains n = false := by
      cases e : r0.contains n with
      | false => rfl
      | true => exact absurd rfl (dj n (by simpa using e) n hf)
    have ih := signOf_at rs i r nd3 h' hn
    unfold signOf at ih ⊢
    rw [List.findIdx_cons, hno, ih]; rfl
structure PlcIn (H : Hp) (rows : List (List Nat)) (l : List Nat) (kvs : List (Key × V)) : Prop where
  ks : kvs.map (·.1) = l.map fun (n : Nat) => (Sum.inl (n : Int) : Key)
  vs : ∀ n ∈ l, ∃ v i, valV kvs (Sum.inl (n : Int) : Key) = some v ∧ Is H v (.tup [nmD (signOf rows n), .num i])
theorem PlcIn.tk {H H' : Hp} {rows : List (List Nat)} {l : List Nat} {kvs : List (Key × V)} (p : PlcIn H rows l kvs) (t : Tk H H') : PlcIn H' rows l kvs :=
  ⟨p.ks, fun n hn => let ⟨v, i, e, h⟩ := p.vs n hn; ⟨v, i, e, h.mv t⟩⟩
theorem PlcIn.no {H : Hp} {rows : List (List Nat)} {l : List Nat} {kvs : List (Key × V)} (p : PlcIn H rows l kvs) {n : Nat} (hn : n ∉ l) : valV kvs (Sum.inl (n : Int) : Key) = none := by
  cases e : valV kvs (Sum.inl (n : Int) : Key) with
  | none => rfl
  | some v =>
    have := valV_in e
    rw [p.ks] at this
    obtain ⟨m, hm, em⟩ := List.mem_map.mp this
    have : (m : Int) = n := Sum.inl.inj em
    have : m = n := by omega
    exact absurd (this ▸ hm) hn
theorem PlcIn.put {H : Hp} {rows : List (List Nat)} {l : List Nat} {kvs : List (Key × V)} (p : PlcIn H rows l kvs) {n : Nat} (hn : n ∉ l) {v : V} {i : Int} (h : Is H v (.tup [nmD (signOf rows n), .num i])) : PlcIn H rows (l ++ [n]) (putK kvs (Sum.inl (n : Int)) v) := by
  have e := p.no hn
  refine ⟨?_, fun m hm => ?_⟩
  · rw [putK_new _ e, List.map_append, List.map_append, p.ks]; rfl
  · rw [valV_put]
    by_cases hmn : m = n
    · subst hmn
      exact ⟨v, i, if_pos rfl, h⟩
    · have hml : m ∈ l := by
        rcases List.mem_append.mp hm with z | z
        · exact z
        · exact absurd (List.mem_singleton.mp z) hmn
      obtain ⟨v', i', e', h'⟩ := p.vs m hml
      refine ⟨v', i', ?_, h'⟩
      have : ¬ ((Sum.inl (m : Int) : Key) = Sum.inl (n : Int)) := fun z => hmn (by have := Sum.inl.inj z; omega)
      rw [if_neg this]
      exact e'
/-- what is done of the rows when j of the i-th are done -/
def upto (rows : List (List Nat)) (i j : Nat) : List Nat := (rows.take i).flatten ++ ((rows[i]?).getD []).take j
theorem upto_zero (rows : List (List Nat)) (i : Nat) : upto rows i 0 = (rows.take i).flatten := by simp [upto]
theorem upto_next {rows : List (List Nat)} {i : Nat} {r : List Nat} (h : rows[i]? = some r) : upto rows i r.length = (rows.take (i + 1)).flatten := by
  unfold upto
  rw [h, List.take_add_one, h]
  simp
theorem upto_all {rows : List (List Nat)} {i : Nat} {r : List Nat} {j : Nat} {n : Nat} (h : rows[i]? = some r) (hn : r[j]? = some n) : upto rows i (j + 1) = upto rows i j ++ [n] := by
  unfold upto
  rw [h]
  show _ ++ List.take (j + 1) r = (_ ++ List.take j r) ++ [n]
  rw [List.take_add_one, hn, List.append_assoc]; rfl
theorem upto_sub {rows : List (List Nat)} {i : Nat} {r : List Nat} {j : Nat} (h : rows[i]? = some r) : (upto rows i j).Sublist rows.flatten := by
  unfold upto
  rw [h]
  have e : rows.flatten = (rows.take i).flatten ++ (r ++ (rows.drop (i + 1)).flatten) := by
    have h1 : rows = rows.take i ++ rows.drop i := (List.take_append_drop i rows).symm
    have hi : i < rows.length := (List.getElem?_eq_some_iff.mp h).1
    have h2 : rows.drop i = r :: rows.drop (i + 1) := by
      rw [List.drop_eq_getElem_cons hi]
      congr 1
      exact (List.getElem?_eq_some_iff.mp h).2
    calc rows.flatten = (rows.take i ++ rows.drop i).flatten := by rw [← h1]
      _ = _ := by rw [h2, List.flatten_append, List.flatten_cons]
  rw [e]
  exact List.Sublist.append (List.Sublist.refl _) ((List.take_sublist j r).trans (List.sublist_append_left _ _))
theorem upto_new {rows : List (List Nat)} {i : Nat} {r : List Nat} {j : Nat} {n : Nat} (nd : rows.flatten.Nodup) (h : rows[i]? = some r) (hn : r[j]? = some n) : n ∉ upto rows i j := fun z => by
  have s := upto_sub (j := j + 1) h
  rw [upto_all h hn] at s
  have := nd.sublist s
  rw [List.nodup_append] at this
  exact this.2.2 n z n (by simp) rfl
theorem nodup_ltk : ∀ (k : Nat) (l : List Nat), l.Nodup → (∀ n ∈ l, n < k) → l.length ≤ k
  | 0, [], _, _ => Nat.le_refl _
  | 0, n :: _, _, h => absurd (h n List.mem_cons_self) (Nat.not_lt_zero _)
  | k + 1, l, nd, h => by
    have ih := nodup_ltk k (l.erase k) (nd.sublist List.erase_sublist) fun n hn => by
      have h1 := h n (List.erase_subset hn)
      have h2 : n ≠ k := fun e => by rw [e] at hn; exact (List.Nodup.not_mem_erase nd) hn
      omega
    have := List.length_erase (a := k) (l := l)
    split at this <;> omega
theorem nodup_lt10 {l : List Nat} (nd : l.Nodup) (h : ∀ n ∈ l, n < 10) : l.length ≤ 10 := nodup_ltk 10 l nd h

section
variable {P : Program} {w : World} {K : PySem.W.Frag} {mg : Str → Option Value} {base : Heap}
theorem scPlaces : FnScope ["plan", "found", "sign", "value", "changes", "index", "name", "later"] ["plan"] (defScope sPlacesOf) := ⟨rfl, rfl, rfl, by decide +kernel, rfl, by decide +kernel, by decide +kernel⟩
def spPlaces : Sp := fun vs H Q _ => ∃ (vp : V) (rows : List (List Nat)), vs = [vp] ∧ Is H vp (planD rows) ∧ Good rows ∧ ∀ p H' kvs, Ex H H' → H p = none → H' p = some (.dK kvs) → PlcIn H' rows rows.flatten kvs → Q (.ref p) H'
theorem ok_places {f : Addr} {fd : FuncData} (F : Fun K "places_of" "places_of" sPlacesOf f fd) (mE : mg "enumerate" = none) : FnOk P w K mg base CX0 1 f fd ["plan"] spPlaces := by
  refine F.ok scPlaces (fun vs H Q E h => ?_) (fun cdv A outer s H vs Q E hr h => ?_)
  · obtain ⟨_, _, rfl, _⟩ := h; rfl
  · obtain ⟨vp, rows, rfl, hp, G, q⟩ := h
    have hu := hu_of hr
    have nd := scPlaces.nd
    refine ⟨_, pss_cons (ps_set (i := 1) nd rfl (Or.inl rfl) pe_dnewK)
      (pss_cons (ps_for PassesOwn.never rfl (pi_enumT (by rfl) mE (pa_cons (pe_ix ix_tup (pv 0) pe_int (fun _ _ => rfl)) pa_nil))
        (pg_tup rfl (pgs_cons (pg_name (i := 2) nd rfl (Or.inl rfl)) (pgs_cons (pg_tup rfl (pgs_cons (pg_name (i := 3) nd rfl (Or.inl rfl)) (pgs_cons (pg_name (i := 4) nd rfl (Or.inl rfl)) pgs_nil))) pgs_nil)))
        (pss_one (ps_for PassesOwn.never rfl (pi_enumT (by rfl) mE (pa_cons (pv 4) pa_nil))
          (pg_tup rfl (pgs_cons (pg_name (i := 5) nd rfl (Or.inl rfl)) (pgs_cons (pg_tup rfl (pgs_cons (pg_name (i := 6) nd rfl (Or.inl rfl)) (pgs_cons (pg_name (i := 7) nd rfl (Or.inl rfl)) pgs_nil))) pgs_nil)))
          (pss_one (ps_dput hu (pv 1) (pv 6) (pe_tup (pa_cons (pv 2) (pa_cons (pe_op op_add (pv 5) pe_int) pa_nil))) rfl)))))
      (pss_one (ps_ret (pv 1)))), ?_⟩
    intro d hd
    obtain ⟨a, sg, v1, v2, xs, rfl, ha, hsg, hxs⟩ := plan_inv hp
    have e1 : Ex H (upd H d (.dK [])) := Ex.new hd
    have hlen : xs.length = rows.length := by rw [hxs.length, List.length_map]
    refine ⟨_, rfl, a, _, 0, .ref sg, rfl, rfl, SqT.of (e1 _ _ ha), rfl, sg, xs, rfl, SqT.of (e1 _ _ hsg), ?_⟩
    refine for_it (walk_E (xs := xs)) (fun i σ H2 => ∃ y2 y3 y4 y5 y6 y7, σ = [some (.ref a), some (.ref d), y2, y3, y4, y5, y6, y7] ∧ Ex H H2 ∧ ∃ kvs, H2 d = some (.dK kvs) ∧ PlcIn H2 rows (upto rows i 0) kvs)
      ⟨none, none, none, none, none, none, rfl, e1, [], upd_same, by rw [upto_zero]; exact ⟨rfl, fun _ z => nomatch z⟩⟩ (fun i σ H2 _ ⟨_, _, _, _, _, _, _, e2, _⟩ => SqT.of (e2 _ _ hsg)) ?_ ?_
    · rintro i x σ H2 H3 hi ⟨y2, y3, y4, y5, y6, y7, rfl, e2, kvs, hk, pl⟩ y
      obtain ⟨T, x1, x2, rfl, nT, e3, hT, q1, q2⟩ := ypair_is (K := K) y
      obtain rfl := Option.some.inj q1
      obtain ⟨r, ra, rc, cs, hr', rfl, hra, hrc, hcs⟩ := row_at hxs q2
      have e23 := e2.trans e3
      refine ⟨T, _, rfl, hT, rfl, _, _, rfl, _, _, rfl, ra, _, rfl, SqT.of (e23 _ _ hra), rfl, _, _, rfl, _, _, rfl, rfl, rfl, ?_⟩
      refine ⟨_, rfl, rc, cs, rfl, SqT.of (e23 _ _ hrc), ?_⟩
      have hcl : cs.length = r.length := by rw [hcs.length, List.length_map]
      refine for_it (walk_E (xs := cs)) (fun j σ H4 => ∃ y5 y6 y7, σ = [some (.ref a), some (.ref d), some (.int (i : Int)), some (.int 0), some (.ref rc), y5, y6, y7] ∧ Ex H H4 ∧ ∃ kvs, H4 d = some (.dK kvs) ∧ PlcIn H4 rows (upto rows i j) kvs)
        ⟨y5, y6, y7, rfl, e23, kvs, e3 _ _ hk, pl.tk (Tk.ex e3)⟩ (fun j σ H4 _ ⟨_, _, _, _, e4, _⟩ => SqT.of (e4 _ _ hrc)) ?_ ?_
      · rintro j x σ H4 H5 hj ⟨z5, z6, z7, rfl, e4, kvs4, hk4, pl4⟩ y'
        obtain ⟨T', x1', x2', rfl, nT', e5, hT', q1', q2'⟩ := ypair_is (K := K) y'
        obtain rfl := Option.some.inj q1'
        obtain ⟨n, na, hn, rfl, hna⟩ := ch_at hcs q2'
        have e45 := e4.trans e5
        refine ⟨T', _, rfl, hT', rfl, _, _, rfl, _, _, rfl, na, _, rfl, SqT.of (e45 _ _ hna), rfl, _, _, rfl, _, _, rfl, rfl, rfl, ?_⟩
        have hk5 := e5 _ _ hk4
        refine ⟨_, rfl, _, rfl, _, _, rfl, rfl, by show 2 ≤ sizeLine; decide, fun t ht => ?_⟩
        have e6 : Ex H5 (upd H5 t (.tup [.int (i : Int), .int ((j : Int) + 1)])) := Ex.new ht
        have hk6 := e6 _ _ hk5
        have hnew := upto_new G.nd hr' hn
        have pl6 := (pl4.tk (Tk.ex e5)).tk (Tk.ex e6)
        have hlen6 : kvs4.length ≤ 10 := by
          have l1 : kvs4.length = (upto rows i j).length := by have := congrArg List.length pl4.ks; simpa using this
          rw [l1]
          have := (upto_sub (j := j) hr').length_le
          have := nodup_lt10 G.nd G.lt
          omega
        refine ⟨_, rfl, _, rfl, d, _, rfl, DPut.k (k := Sum.inl (n : Int)) hk6 (small1000 (by omega)), ?_⟩
        have tk7 : Tk (upd H5 t (.tup [.int (i : Int), .int ((j : Int) + 1)])) (upd (upd H5 t (.tup [.int (i : Int), .int ((j : Int) + 1)])) d (.dK (putK kvs4 (Sum.inl (n : Int)) (.ref t)))) := Chg.tku fun us z => by rw [hk6] at z; cases z
        refine ⟨_, _, _, rfl, (Chg.upd).ex (e45.trans e6) hd, _, upd_same, ?_⟩
        rw [upto_all hr' hn]
        refine (pl6.put hnew (i := (j : Int) + 1) ?_).tk tk7
        rw [signOf_at rows i r G.nd hr' (List.mem_of_getElem? hn)]
        exact .tup upd_same (.cons (.num _) (.cons (.num _) .nil))
      · rintro σ H4 ⟨z5, z6, z7, rfl, e4, kvs4, hk4, pl4⟩
        rw [hcl, upto_next hr', ← upto_zero] at pl4
        exact ⟨_, _, _, _, _, _, rfl, e4, kvs4, hk4, pl4⟩
    · rintro σ H2 ⟨y2, y3, y4, y5, y6, y7, rfl, e2, kvs, hk, pl⟩
      rw [upto_zero, hlen, List.take_length] at pl
      exact ⟨_, rfl, q d H2 kvs e2 hd hk pl⟩
end
end K82
/-! Sorted pairs, sorted names; names_of, place_of. -/
namespace K82
open PySem PySem.Spec PyProof.Rows L2 Evl

theorem grid_mem {p : Nat × Nat} : p ∈ grid ↔ p.1 < 10 ∧ p.2 < 10 := by
  obtain ⟨x, y⟩ := p
  unfold grid
  simp only [List.mem_flatMap, List.mem_map, List.mem_range]
  constructor
  · rintro ⟨a, ha, b, hb, e⟩
    cases e
    exact ⟨ha, hb⟩
  · rintro ⟨h1, h2⟩
    exact ⟨x, h1, y, h2, rfl⟩
theorem prs_mem {m : Nat} {p : Nat × Nat} : p ∈ prs m ↔ p.1 < 10 ∧ p.2 < 10 ∧ rel m p.1 p.2 = true := by
  unfold prs
  rw [List.mem_filter, grid_mem, and_assoc]
def ple (p q : Nat × Nat) : Prop := (p.1 : Int) < q.1 ∨ ((p.1 : Int) = q.1 ∧ (p.2 : Int) ≤ q.2)
instance (p q : Nat × Nat) : Decidable (ple p q) := inferInstanceAs (Decidable (_ ∨ _))
theorem ple_anti {p q : Nat × Nat} (h : ple p q) (h' : ple q p) : p = q := by
  obtain ⟨a, b⟩ := p
  obtain ⟨c, d⟩ := q
  unfold ple at h h'
  have : a = c := by simp only at h h'; omega
  have : b = d := by simp only at h h'; omega
  simp_all
def plt (p q : Nat × Nat) : Prop := p.1 < q.1 ∨ (p.1 = q.1 ∧ p.2 < q.2)
instance (p q : Nat × Nat) : Decidable (plt p q) := inferInstanceAs (Decidable (_ ∨ _))
theorem grid_rises : grid.Pairwise plt := by decide +kernel
theorem plt_ple {p q : Nat × Nat} (h : plt p q) : ple p q := by
  unfold plt at h
  unfold ple
  omega
theorem plt_ne {p q : Nat × Nat} (h : plt p q) : p ≠ q := fun e => by
  subst e
  unfold plt at h
  omega
theorem prs_rises (m : Nat) : (prs m).Pairwise plt := grid_rises.filter _
theorem prs_nodup (m : Nat) : (prs m).Nodup := (prs_rises m).imp plt_ne
theorem sortB_pD (l : List (Nat × Nat)) : (sortB pD l).Pairwise ple ∧ (sortB pD l).Perm l := by
  have e : (PySem.W.dataLe false fun p : Nat × Nat => (pD p).data) = fun p q => decide (ple p q) := PySem.W.dataLe_ii (fun p : Nat × Nat => (p.1 : Int)) (fun p => (p.2 : Int))
  unfold sortB
  rw [e]
  refine ⟨?_, List.mergeSort_perm _ _⟩
  have h := List.pairwise_mergeSort (le := fun p q : Nat × Nat => decide (ple p q)) (fun a b c h1 h2 => by
    have h1 := of_decide_eq_true h1
    have h2 := of_decide_eq_true h2
    refine decide_eq_true ?_
    unfold ple at *
    omega) (fun a b => by
    by_cases h : ple a b
    · simp [h]
    · have : ple b a := by unfold ple at *; omega
      simp [this]) l
  exact h.imp fun h => of_decide_eq_true h
theorem sort_prs {l : List (Nat × Nat)} {m : Nat} (nd : l.Nodup) (mem : ∀ p, p ∈ l ↔ p ∈ prs m) : sortB pD l = prs m := by
  obtain ⟨h1, h2⟩ := sortB_pD l
  have hp : (sortB pD l).Perm (prs m) := h2.trans ((List.perm_ext_iff_of_nodup nd (prs_nodup m)).mpr mem)
  exact hp.eq_of_pairwise (fun a b _ _ h h' => ple_anti h h') h1 ((prs_rises m).imp plt_ple)
theorem alike_pD (p q : Nat × Nat) : PySem.W.alike (pD p).data (pD q).data = true := PySem.W.alike_ints [(p.1 : Int), p.2] [(q.1 : Int), q.2]
theorem sorts_pD (l : List (Nat × Nat)) : Sorts pD l :=
  ⟨PySem.W.AllAlike.of alike_pD, .tuples fun p => ⟨_, _, rfl⟩, fun p _ => Nat.le_trans (pD_depth p) (by decide)⟩
theorem KP.list {L : List NK} {m : Nat} (h : KP L m) : ∃ l : List (Nat × Nat), L = l.map pD ∧ l.Nodup ∧ ∀ p, p ∈ l ↔ p ∈ prs m := by
  have ex : ∀ L : List NK, (∀ k ∈ L, ∃ p, k = pD p) → ∃ l : List (Nat × Nat), L = l.map pD := by
    intro L
    induction L with
    | nil => exact fun _ => ⟨[], rfl⟩
    | cons k L ih =>
      intro h
      obtain ⟨p, rfl⟩ := h k List.mem_cons_self
      obtain ⟨l, rfl⟩ := ih fun k hk => h k (List.mem_cons_of_mem _ hk)
      exact ⟨p :: l, rfl⟩
  obtain ⟨l, rfl⟩ := ex L fun k hk => let ⟨x, y, _, _, _, e⟩ := (h.mem k).mp hk; ⟨_, e⟩
  refine ⟨l, rfl, (List.pairwise_map.mp h.nd).imp fun h e => h (congrArg pD e), fun p => ?_⟩
  rw [prs_mem]
  constructor
  · intro hp
    obtain ⟨x, y, hx, hy, hr, e⟩ := (h.mem _).mp (List.mem_map_of_mem (f := pD) hp)
    cases pD_inj e
    exact ⟨hx, hy, hr⟩
  · rintro ⟨hx, hy, hr⟩
    obtain ⟨q, hq, e⟩ := List.mem_map.mp ((h.mem _).mpr ⟨p.1, p.2, hx, hy, hr, rfl⟩)
    cases pD_inj e
    exact hq
theorem KP.sorted {L : List NK} {m : Nat} (h : KP L m) : ∃ l : List (Nat × Nat), L = l.map pD ∧ sortB pD l = prs m ∧ l.length ≤ 100 := by
  obtain ⟨l, e, nd, mem⟩ := h.list
  have s := sort_prs nd mem
  refine ⟨l, e, s, ?_⟩
  have h1 : l.length = (prs m).length := by rw [← s]; exact (sortB_pD l).2.length_eq.symm
  have h2 : (prs m).length ≤ grid.length := List.length_filter_le _ _
  have h3 : grid.length = 100 := by decide +kernel
  omega
/-! names -/
theorem namesOf_mem {rows : List (List Nat)} {n : Nat} : n ∈ namesOf rows ↔ n < 10 ∧ n ∈ rows.flatten := by
  unfold namesOf
  rw [List.mem_filter, List.mem_range, List.any_eq_true, List.mem_flatten]
  simp
theorem namesOf_rises (rows : List (List Nat)) : (namesOf rows).Pairwise (· < ·) := List.pairwise_lt_range.filter _
theorem namesOf_len (rows : List (List Nat)) : (namesOf rows).length ≤ 10 := by
  have := List.length_filter_le (fun n => rows.any fun r => r.contains n) (List.range 10)
  simpa [namesOf] using this
theorem names_sorted {rows : List (List Nat)} (G : Good rows) {ys : List Int} (hp : ys.Perm (rows.flatten.map fun (n : Nat) => (n : Int))) (hs : ys.Pairwise (· ≤ ·)) : ys = (namesOf rows).map fun (n : Nat) => (n : Int) := by
  have p2 : rows.flatten.Perm (namesOf rows) := (List.perm_ext_iff_of_nodup G.nd ((namesOf_rises rows).imp fun h => Nat.ne_of_lt h)).mpr fun n => by
    rw [namesOf_mem]
    exact ⟨fun h => ⟨G.lt n h, h⟩, fun h => h.2⟩
  refine (hp.trans (p2.map _)).eq_of_pairwise (fun a b _ _ h h' => Int.le_antisymm h h') hs ?_
  rw [List.pairwise_map]
  exact (namesOf_rises rows).imp fun h => by omega
section
variable {P : Program} {w : World} {K : PySem.W.Frag} {mg : Str → Option Value} {base : Heap}
theorem scNames : FnScope ["plan"] ["plan"] (defScope sNamesOf) := ⟨rfl, rfl, rfl, by decide +kernel, rfl, by decide +kernel, by decide +kernel⟩
def namesV (rows : List (List Nat)) : List V := (namesOf rows).map fun (n : Nat) => V.int (n : Int)
def spNames : Sp := fun vs H Q _ => ∃ (vp : V) (rows : List (List Nat)), vs = [vp] ∧ Is H vp (planD rows) ∧ Good rows ∧ ∀ p H', Ex H H' → H p = none → H' p = some (.tup (namesV rows)) → Q (.ref p) H'
theorem ok_names {f : Addr} {fd : FuncData} (F : Fun K "names_of" "names_of" sNamesOf f fd) (D1 : Df P w K mg base "places_of" 1 ["plan"] spPlaces) (mT : mg "tuple" = none) (mS : mg "sorted" = none) : FnOk P w K mg base CX0 2 f fd ["plan"] spNames := by
  refine F.ok scNames (fun vs H Q E h => ?_) (fun cdv A outer s H vs Q E hr h => ?_)
  · obtain ⟨_, _, rfl, _⟩ := h; rfl
  · obtain ⟨vp, rows, rfl, hp, G, q⟩ := h
    refine ⟨_, pss_one (ps_ret (pe_callTy call_tuple_of (by rfl) mT (by decide +kernel) (pa_cons (pe_callB (call_sortedDI rfl) (by rfl) mS (by decide +kernel) (pa_cons (pe_df D1 hr (Nat.le_refl _) (by rfl) (pa_cons (pv 0) pa_nil)) pa_nil)) pa_nil))), ?_⟩
    refine ⟨vp, rfl, vp, rows, rfl, hp, G, fun d H1 kvs e1 hd hk pl => ?_⟩
    have hks : kvs.map (·.1) = (rows.flatten.map fun (n : Nat) => (n : Int)).map Sum.inl := by rw [pl.ks, List.map_map]; rfl
    refine ⟨d, kvs, _, rfl, .inl hk, hks, ?_, fun ys l hperm hs hl => ⟨l, _, rfl, .inl ⟨SqL.of upd_same, fun t ht => ?_⟩⟩⟩
    · rw [List.length_map]
      have := nodup_lt10 G.nd G.lt
      omega
    · have := names_sorted G hperm hs
      subst this
      refine q t _ ((e1.trans (Ex.new hl)).trans (Ex.new ht)) (fresh_back (e1.trans (Ex.new hl)) ht) ?_
      rw [upd_same, List.map_map]; rfl
theorem scPlace : FnScope ["plan", "name"] ["plan", "name"] (defScope sPlaceOf) := ⟨rfl, rfl, rfl, by decide +kernel, rfl, by decide +kernel, by decide +kernel⟩
def spPlace : Sp := fun vs H Q _ => ∃ (vp : V) (rows : List (List Nat)) (n : Nat), vs = [vp, .int (n : Int)] ∧ Is H vp (planD rows) ∧ Good rows ∧ n ∈ namesOf rows ∧ ∀ v i H', Ex H H' → Is H' v (.tup [nmD (signOf rows n), .num i]) → Q v H'
theorem ok_place {f : Addr} {fd : FuncData} (F : Fun K "place_of" "place_of" sPlaceOf f fd) (D1 : Df P w K mg base "places_of" 1 ["plan"] spPlaces) (D2 : Df P w K mg base "is_digit" 2 ["value"] spIsDigit) : FnOk P w K mg base CX0 3 f fd ["plan", "name"] spPlace := by
  refine F.ok scPlace (fun vs H Q E h => ?_) (fun cdv A outer s H vs Q E hr h => ?_)
  · obtain ⟨_, _, _, rfl, _⟩ := h; rfl
  · obtain ⟨vp, rows, n, rfl, hp, G, hn, q⟩ := h
    have hu := hu_of hr
    obtain ⟨hn10, hnf⟩ := namesOf_mem.mp hn
    refine ⟨_, pss_cons (ps_if (pw_or (pt_not (pt_val (pe_df D2 hr (Nat.le_refl _) (by rfl) (pa_cons (pv 1) pa_nil)))) (pw_or1 (pt_cmp (pc_dnotin hu (pv 1) (pe_df D1 hr (by decide) (by rfl) (pa_cons (pv 0) pa_nil)))))).pt (pss_one ps_never) pss_nil)
      (pss_one (ps_ret (pe_dget hu (pe_df D1 hr (by decide) (by rfl) (pa_cons (pv 0) pa_nil)) (pv 1) (fun _ _ => rfl)))), ?_⟩
    refine ⟨_, rfl, (n : Int), rfl, by omega, by omega, true, rfl, iteF ?_⟩
    refine ⟨_, rfl, vp, rfl, vp, rows, rfl, hp, G, fun d H1 kvs e1 hd hk pl => ?_⟩
    obtain ⟨v, i, ev, hv⟩ := pl.vs n hnf
    refine ⟨d, _, rfl, DGet.k (k := Sum.inl (n : Int)) hk, _, rfl, ?_⟩
    rw [ev]
    refine iteF ?_
    refine ⟨vp, rfl, vp, rows, rfl, hp.ex e1, G, fun d2 H2 kvs2 e2 hd2 hk2 pl2 => ?_⟩
    obtain ⟨v2, i2, ev2, hv2⟩ := pl2.vs n hnf
    have g := DGet.k (k := Sum.inl (n : Int)) hk2
    rw [ev2] at g
    exact ⟨_, rfl, d2, v2, rfl, g, q v2 i2 H2 (e1.trans e2) hv2⟩
end
end K82
/-! Masks: what their bits are. -/
namespace K82
open PySem

def psM (m : Nat) : NK := .tup ((prs m).map pD)
def rgM (r : Nat × Nat) : NK := .tup [psM r.1, psM r.2]
theorem rel_or (a b x y : Nat) : rel (a ||| b) x y = (rel a x y || rel b x y) := Nat.testBit_or ..
theorem rel_zero (x y : Nat) : rel 0 x y = false := Nat.zero_testBit _
theorem rel_bt {a b x y : Nat} (hb : b < 10) (hy : y < 10) : rel (bt a b) x y = decide ((x, y) = (a, b)) := by
  unfold rel bt
  rw [Nat.one_shiftLeft, Nat.testBit_two_pow]
  by_cases h : (x, y) = (a, b)
  · cases h; simp
  · rw [decide_eq_false h]
    refine decide_eq_false fun e => h ?_
    have : x = a := by omega
    have : y = b := by omega
    simp_all
theorem maskL_go : ∀ (l : List (Nat × Nat)) (m x y : Nat), (∀ p ∈ l, p.2 < 10) → y < 10 → rel (l.foldl (fun m p => m ||| bt p.1 p.2) m) x y = (rel m x y || decide ((x, y) ∈ l))
  | [], m, x, y, _, _ => by simp
  | p :: l, m, x, y, h, hy => by
    rw [List.foldl_cons, maskL_go l _ x y (fun q hq => h q (List.mem_cons_of_mem _ hq)) hy, rel_or, rel_bt (h p List.mem_cons_self) hy, Bool.or_assoc]
    congr 1
    by_cases e : (x, y) = p
    · subst e; simp
    · simp [e]
theorem rel_maskL {l : List (Nat × Nat)} {x y : Nat} (h : ∀ p ∈ l, p.2 < 10) (hy : y < 10) : rel (maskL l) x y = decide ((x, y) ∈ l) := by
  unfold maskL
  rw [maskL_go l 0 x y h hy, rel_zero, Bool.false_or]
def Bd (m : Nat) : Prop := m < 2 ^ 100
theorem Bd.or {a b : Nat} (ha : Bd a) (hb : Bd b) : Bd (a ||| b) := Nat.or_lt_two_pow ha hb
theorem Bd.bt {x y : Nat} (hx : x < 10) (hy : y < 10) : Bd (bt x y) := by
  unfold Bd K82.bt
  rw [Nat.one_shiftLeft]
  exact Nat.pow_lt_pow_right (by decide) (by omega)
theorem Bd.maskGo : ∀ (l : List (Nat × Nat)) (m : Nat), (∀ p ∈ l, p.1 < 10 ∧ p.2 < 10) → Bd m → Bd (l.foldl (fun m p => m ||| K82.bt p.1 p.2) m)
  | [], _, _, h => h
  | p :: l, m, h, hm => by
    rw [List.foldl_cons]
    exact Bd.maskGo l _ (fun q hq => h q (List.mem_cons_of_mem _ hq)) (hm.or (Bd.bt (h p List.mem_cons_self).1 (h p List.mem_cons_self).2))
theorem Bd.maskL {l : List (Nat × Nat)} (h : ∀ p ∈ l, p.1 < 10 ∧ p.2 < 10) : Bd (maskL l) := Bd.maskGo l 0 h (by unfold Bd; decide)
theorem Bd.zero : Bd 0 := by unfold Bd; decide
theorem mask_ext {a b : Nat} (ha : Bd a) (hb : Bd b) (h : ∀ x y, x < 10 → y < 10 → rel a x y = rel b x y) : a = b := by
  refine Nat.eq_of_testBit_eq fun i => ?_
  by_cases hi : i < 100
  · have := h (i / 10) (i % 10) (by omega) (by omega)
    unfold rel at this
    rw [Nat.div_add_mod] at this
    exact this
  · rw [Nat.testBit_lt_two_pow (Nat.lt_of_lt_of_le ha (Nat.pow_le_pow_right (by decide) (by omega))), Nat.testBit_lt_two_pow (Nat.lt_of_lt_of_le hb (Nat.pow_le_pow_right (by decide) (by omega)))]
theorem prs_ext {a b : Nat} (h : ∀ x y, x < 10 → y < 10 → rel a x y = rel b x y) : prs a = prs b := by
  unfold prs
  refine List.filter_congr fun p hp => ?_
  obtain ⟨h1, h2⟩ := grid_mem.mp hp
  exact h _ _ h1 h2
theorem map_pD_inj : ∀ {l m : List (Nat × Nat)}, l.map pD = m.map pD → l = m
  | [], [], _ => rfl
  | [], _ :: _, h => by simp at h
  | _ :: _, [], h => by simp at h
  | p :: l, q :: m, h => by
    simp only [List.map_cons, List.cons.injEq] at h
    rw [pD_inj h.1, map_pD_inj h.2]
theorem psM_inj {a b : Nat} (ha : Bd a) (hb : Bd b) (h : psM a = psM b) : a = b := by
  unfold psM at h
  injection h with h
  have e := map_pD_inj h
  refine mask_ext ha hb fun x y hx hy => ?_
  cases e1 : rel a x y with
  | true =>
    have : (x, y) ∈ prs a := prs_mem.mpr ⟨hx, hy, e1⟩
    rw [e] at this
    exact (prs_mem.mp this).2.2.symm
  | false =>
    cases e2 : rel b x y with
    | false => rfl
    | true =>
      have : (x, y) ∈ prs b := prs_mem.mpr ⟨hx, hy, e2⟩
      rw [← e] at this
      have := (prs_mem.mp this).2.2
      rw [e1] at this; cases this
theorem rgM_inj {a b : Nat × Nat} (ha : Bd a.1 ∧ Bd a.2) (hb : Bd b.1 ∧ Bd b.2) (h : rgM a = rgM b) : a = b := by
  obtain ⟨a1, a2⟩ := a
  obtain ⟨b1, b2⟩ := b
  unfold rgM at h
  injection h with h
  injection h with h1 h2
  injection h2 with h2 _
  have := psM_inj ha.1 hb.1 h1
  have := psM_inj ha.2 hb.2 h2
  simp_all
theorem prs_zero : prs 0 = [] := by decide +kernel
theorem psM_zero : psM 0 = .tup [] := by unfold psM; rw [prs_zero]; rfl
theorem prs_maskL {l : List (Nat × Nat)} (h : l.Sublist grid) : prs (maskL l) = l := by
  have hl : ∀ p ∈ l, p.1 < 10 ∧ p.2 < 10 := fun p hp => grid_mem.mp (h.subset hp)
  refine List.Perm.eq_of_pairwise (le := plt) (fun a b _ _ h h' => by unfold plt at h h'; omega) (prs_rises _) (grid_rises.sublist h) ?_
  refine (List.perm_ext_iff_of_nodup (prs_nodup _) ((grid_rises.sublist h).imp plt_ne)).mpr fun p => ?_
  rw [prs_mem]
  constructor
  · rintro ⟨h1, h2, h3⟩
    rw [rel_maskL (fun q hq => (hl q hq).2) h2] at h3
    exact of_decide_eq_true h3
  · intro hp
    obtain ⟨h1, h2⟩ := hl p hp
    refine ⟨h1, h2, ?_⟩
    rw [rel_maskL (fun q hq => (hl q hq).2) h2]
    exact decide_eq_true hp
theorem rel_row (m mid y : Nat) : ((m >>> (10 * mid)) &&& 1023).testBit y = (decide (y < 10) && rel m mid y) := by
  rw [Nat.testBit_and, Nat.testBit_shiftRight, show (1023 : Nat) = 2 ^ 10 - 1 from rfl, Nat.testBit_two_pow_sub_one, Bool.and_comm]
  rfl
theorem step_go {m mid r x y : Nat} (hy : y < 10) (hr : ∀ z, r.testBit z = (decide (z < 10) && rel m mid z)) : ∀ (l : List Nat) (k : Nat), rel (l.foldl (fun k x => if rel m x mid then k ||| (r <<< (10 * x)) else k) k) x y = (rel k x y || (decide (x ∈ l) && (rel m x mid && rel m mid y)))
  | [], k => by simp
  | a :: l, k => by
    rw [List.foldl_cons, step_go hy hr l]
    have e1 : (r <<< (10 * a)).testBit (10 * x + y) = (decide (x = a) && rel m mid y) := by
      rw [Nat.testBit_shiftLeft, hr]
      by_cases hx : x = a
      · subst hx
        have : 10 * x + y - 10 * x = y := by omega
        rw [this]
        simp [hy]
      · rw [decide_eq_false hx, Bool.false_and]
        by_cases h : 10 * a ≤ 10 * x + y
        · have : ¬ (10 * x + y - 10 * a < 10) := by omega
          simp [this]
        · simp [h]
    by_cases ha : rel m a mid = true
    · rw [if_pos ha, rel_or]
      have e2 : rel (r <<< (10 * a)) x y = (decide (x = a) && rel m mid y) := e1
      rw [e2]
      by_cases hx : x = a
      · subst hx
        simp only [decide_true, Bool.true_and, List.mem_cons, true_or, ha]
        cases rel k x y <;> cases rel m mid y <;> simp
      · simp [hx]
    · rw [if_neg ha]
      by_cases hx : x = a
      · subst hx
        simp [ha]
      · simp [hx]
theorem rel_step {m mid x y : Nat} (hx : x < 10) (hy : y < 10) : rel (stepM m mid) x y = (rel m x y || (rel m x mid && rel m mid y)) := by
  unfold stepM
  have hr := rel_row m mid
  generalize (m >>> (10 * mid)) &&& 1023 = r at hr
  show rel (if r = 0 then m else _) x y = _
  by_cases h0 : r = 0
  · rw [if_pos h0]
    have : rel m mid y = false := by
      have := hr y
      rw [h0, Nat.zero_testBit, decide_eq_true hy, Bool.true_and] at this
      exact this.symm
    rw [this, Bool.and_false, Bool.or_false]
  · rw [if_neg h0, step_go hy hr, decide_eq_true (List.mem_range.mpr hx), Bool.true_and]
theorem sq_mem {ns : List Nat} {p : Nat × Nat} : p ∈ sq ns ↔ p.1 ∈ ns ∧ p.2 ∈ ns := by
  obtain ⟨x, y⟩ := p
  unfold sq
  simp only [List.mem_flatMap, List.mem_map]
  constructor
  · rintro ⟨a, ha, b, hb, e⟩
    cases e
    exact ⟨ha, hb⟩
  · rintro ⟨h1, h2⟩
    exact ⟨x, h1, y, h2, rfl⟩
theorem rel_mkL {l : List (Nat × Nat)} {f : Nat × Nat → Bool} {x y : Nat} (h : ∀ p ∈ l, p.2 < 10) (hy : y < 10) : rel (mkL l f) x y = (decide ((x, y) ∈ l) && f (x, y)) := by
  unfold mkL
  rw [rel_maskL (fun p hp => h p (List.mem_filter.mp hp).1) hy]
  by_cases h1 : (x, y) ∈ l
  · cases h2 : f (x, y) with
    | true => simp [h1, h2]
    | false => simp [h2]
  · simp [h1]
theorem Bd.mkL {l : List (Nat × Nat)} {f : Nat × Nat → Bool} (h : ∀ p ∈ l, p.1 < 10 ∧ p.2 < 10) : Bd (mkL l f) := Bd.maskL fun p hp => h p (List.mem_filter.mp hp).1
theorem names_lt {rows : List (List Nat)} {p : Nat × Nat} (h : p ∈ sq (namesOf rows)) : p.1 < 10 ∧ p.2 < 10 := ⟨(namesOf_mem.mp (sq_mem.mp h).1).1, (namesOf_mem.mp (sq_mem.mp h).2).1⟩
theorem regM_bd (rows : List (List Nat)) (w d : Nat) : Bd (regM rows w d).1 ∧ Bd (regM rows w d).2 := ⟨Bd.mkL fun p h => names_lt h, Bd.mkL fun p h => names_lt h⟩
end K82
/-! direct_pairs. -/
namespace K82
open PySem PySem.Spec PyProof.Rows L2 Evl RZ

theorem KP.congr {L : List NK} {m m' : Nat} (h : KP L m) (e : ∀ x y, x < 10 → y < 10 → rel m x y = rel m' x y) : KP L m' := ⟨h.nd, fun k => by
  rw [h.mem]
  constructor
  · rintro ⟨x, y, hx, hy, hr, rfl⟩
    exact ⟨x, y, hx, hy, by rw [← e x y hx hy]; exact hr, rfl⟩
  · rintro ⟨x, y, hx, hy, hr, rfl⟩
    exact ⟨x, y, hx, hy, by rw [e x y hx hy]; exact hr, rfl⟩⟩
theorem KP.empty : KP [] 0 := by
  refine ⟨List.nodup_nil, fun k => Iff.intro (fun h => nomatch h) fun h => ?_⟩
  obtain ⟨x, y, _, _, h, _⟩ := h
  rw [rel_zero] at h; cases h
theorem insK_nodup {L : List NK} {k : NK} (h : L.Nodup) : (insK L k).Nodup := by
  unfold insK
  split
  · exact h
  · rename_i hk
    rw [List.nodup_append]
    exact ⟨h, List.pairwise_singleton _ _, fun a ha b hb => by rw [List.mem_singleton.mp hb]; exact fun e => hk (e ▸ ha)⟩
theorem KP.ins {L : List NK} {m x y : Nat} (h : KP L m) (hx : x < 10) (hy : y < 10) : KP (insK L (pD (x, y))) (m ||| bt x y) := by
  refine ⟨insK_nodup h.nd, fun k => ?_⟩
  rw [mem_insK, h.mem]
  constructor
  · rintro (⟨a, b, ha, hb, hr, rfl⟩ | rfl)
    · exact ⟨a, b, ha, hb, by rw [rel_or, hr]; rfl, rfl⟩
    · exact ⟨x, y, hx, hy, by rw [rel_or, rel_bt hy hy, decide_eq_true rfl, Bool.or_true], rfl⟩
  · rintro ⟨a, b, ha, hb, hr, rfl⟩
    rw [rel_or, rel_bt hy hb, Bool.or_eq_true] at hr
    rcases hr with hr | hr
    · exact .inl ⟨a, b, ha, hb, hr, rfl⟩
    · right; rw [of_decide_eq_true hr]
theorem KP.len {L : List NK} {m : Nat} (h : KP L m) : L.length ≤ 100 := by
  obtain ⟨l, e, _, hl⟩ := h.sorted
  rw [e, List.length_map]; exact hl
theorem KP.lt {L : List NK} {m : Nat} (h : KP L m) : L.length < 100000 := by have := h.len; omega
theorem maskL_snoc (l : List (Nat × Nat)) (p : Nat × Nat) : maskL (l ++ [p]) = maskL l ||| bt p.1 p.2 := by
  unfold maskL
  rw [List.foldl_append]; rfl
/-- a dict comprehension with data keys over any walk -/
theorem gc_it {w : World} {J : It} {n : Nat} {G : Hp → Prop} {Y : Nat → Hp → V → Hp → Prop} (wk : Walk J n G Y) {g : TG} {tt : TT} {tk tv : TE} {vs : List Nat} {σ : L2.St} {H0 : Hp} {D : Addr} {Qd : Hp → Prop} (Pv : Nat → Hp → Prop) (h0 : Pv 0 H0) (hG : ∀ i H, i ≤ n → Pv i H → G H)
    (hs : ∀ i x H H', i < n → Pv i H → Y i H x H' → g x (wipe σ vs) H' fun σ2 H2 => wipe σ2 vs = wipe σ vs ∧ tt σ2 H2 fun b H3 =>
      if b = true then tk σ2 H3 fun y H4 => tv σ2 H4 fun _ H5 => ∃ L k, DK w H5 D L ∧ Is H5 y k ∧ KeyV y ∧ k.depth ≤ 8 ∧ L.length < 100000 ∧ ∀ H6, Chg D H5 H6 → DK w H6 D (insK L k) → Pv (i + 1) H6 else Pv (i + 1) H3) (hd : ∀ H, Pv n H → Qd H) :
    ∃ W : Nat → Nat → Hp → Prop, (∃ m, W 0 m H0) ∧ ∀ i m H, W i m H →
      (J.stop i H ∧ Qd H) ∨ (J.go i H ∧ ∃ Nx : Hp → Prop, (∀ H', Nx H' → ∃ m', m' < m ∧ W (i + 1) m' H') ∧ ∀ x H', J.yld i H x H' → g x (wipe σ vs) H' fun σ2 H2 => wipe σ2 vs = wipe σ vs ∧ tt σ2 H2 fun b H3 =>
        if b = true then tk σ2 H3 fun y H4 => tv σ2 H4 fun _ H5 => ∃ L k, DK w H5 D L ∧ Is H5 y k ∧ KeyV y ∧ k.depth ≤ 8 ∧ L.length < 100000 ∧ ∀ H6, Chg D H5 H6 → DK w H6 D (insK L k) → Nx H6 else Nx H3) := by
  refine ⟨fun i m H => m = n - i ∧ i ≤ n ∧ Pv i H, ⟨n, by simp, Nat.zero_le _, h0⟩, ?_⟩
  rintro i m H ⟨rfl, hi, p⟩
  have q := hG i H hi p
  by_cases hlt : i < n
  · exact .inr ⟨wk.goes i H hlt q, Pv (i + 1), fun H' p' => ⟨n - (i + 1), by omega, rfl, hlt, p'⟩, fun x H' y => hs i x H H' hlt p (wk.yields i H x H' hlt q y)⟩
  · have e : i = n := by omega
    subst e
    exact .inl ⟨wk.stops H q, hd H p⟩
theorem cat_any {K : PySem.W.Frag} {H : Hp} {a b : Addr} {xs ys : List V} {Q : VK} (ha : SqT K H a xs) (hb : SqT K H b ys) (hz : xs.length + ys.length ≤ 100000) (q : ∀ t H', Ex H H' → SqT K H' t (xs ++ ys) → Q (.ref t) H') : rCatA K (.ref a) (.ref b) H Q :=
  ⟨a, b, xs, ys, rfl, rfl, ha, hb, sz_of hz, fun e => q b H (Ex.refl _) (by subst e; exact hb), fun _ e => q a H (Ex.refl _) (by subst e; rw [List.append_nil]; exact ha), fun _ _ p hp => q p _ (Ex.new hp) (SqT.of upd_same)⟩
theorem sIx_m1 (n d : Nat) : HT.sIx n d (some (-1)) = n - 1 := by
  unfold HT.sIx
  simp
  omega
theorem cut_init (xs : List V) : cutV xs none (some (-1)) = xs.dropLast := by
  unfold cutV
  rw [HT.sIx_none, sIx_m1, List.drop_zero, Nat.sub_zero, List.dropLast_eq_take]
theorem cut_tail (xs : List V) : cutV xs (some 1) none = xs.tail := by
  unfold cutV
  rw [show HT.sIx xs.length 0 (some 1) = min 1 xs.length from HT.sIx_nat xs.length 0 1, HT.sIx_none]
  cases xs with
  | nil => rfl
  | cons x r =>
    rw [show min 1 (x :: r).length = 1 by rw [List.length_cons]; omega]
    show List.take ((x :: r).length - 1) r = r
    rw [List.length_cons, Nat.add_sub_cancel, List.take_length]
theorem slA_init {K : PySem.W.Frag} {H : Hp} {a : Addr} {xs : List V} {Q : VK} (h : SqT K H a xs) (q : ∀ t H', Ex H H' → SqT K H' t xs.dropLast → Q (.ref t) H') : rSlA K (.ref a) none (some (-1)) H Q := by
  refine ⟨a, xs, rfl, h, fun ⟨_, e⟩ => ?_, fun _ p hp => ?_⟩
  · rw [sIx_m1] at e
    have : xs = [] := List.length_eq_zero_iff.mp (by omega)
    subst this
    exact q a H (Ex.refl _) h
  · refine q p _ (Ex.new hp) ?_
    rw [cut_init]
    exact SqT.of upd_same
theorem slA_tail {K : PySem.W.Frag} {H : Hp} {a : Addr} {xs : List V} {Q : VK} (h : SqT K H a xs) (q : ∀ t H', Ex H H' → SqT K H' t xs.tail → Q (.ref t) H') : rSlA K (.ref a) (some 1) none H Q := by
  refine ⟨a, xs, rfl, h, fun ⟨e, _⟩ => ?_, fun _ p hp => ?_⟩
  · rw [show HT.sIx xs.length 0 (some 1) = min 1 xs.length from HT.sIx_nat xs.length 0 1] at e
    have : xs = [] := List.length_eq_zero_iff.mp (by omega)
    subst this
    exact q a H (Ex.refl _) h
  · refine q p _ (Ex.new hp) ?_
    rw [cut_tail]
    exact SqT.of upd_same
theorem DK.chgT {K : PySem.W.Frag} {w : World} {H H' : Hp} {d : Addr} {L : List NK} (g : DK w H d L) (c : Chg d H H') {a : Addr} {xs : List V} (h : SqT K H a xs) : SqT K H' a xs := by
  obtain ⟨es, hd, _⟩ := g.ex
  rcases h with (h | ⟨o, h⟩) | h
  · exact .inl (.inl (by rw [c a (fun z => by subst z; rw [h] at hd; cases hd)]; exact h))
  · exact .inl (.inr ⟨o, by rw [c a (fun z => by subst z; rw [h] at hd; cases hd)]; exact h⟩)
  · exact .inr h
theorem noPart {σ : L2.St} {H : Hp} {Q : Option Int → Hp → Prop} (h : Q none H) : tNoPart σ H Q := h
def stp (r : List Nat) : List (Nat × Nat) := r.zip r.tail
theorem stp_at {r : List Nat} {j x y : Nat} (hx : r[j]? = some x) (hy : r[j + 1]? = some y) : (stp r)[j]? = some (x, y) := by
  unfold stp
  rw [List.getElem?_zip_eq_some]
  exact ⟨hx, by rw [List.getElem?_tail]; exact hy⟩
theorem stp_len (r : List Nat) : (stp r).length = r.length - 1 := by
  unfold stp
  rw [List.length_zip, List.length_tail]
  omega
theorem stp_mem {r : List Nat} {p : Nat × Nat} (h : p ∈ stp r) : p.1 ∈ r ∧ p.2 ∈ r := by
  obtain ⟨a, b⟩ := p
  have := List.of_mem_zip h
  exact ⟨this.1, List.mem_of_mem_tail this.2⟩
theorem steps_lt {rows : List (List Nat)} (G : Good rows) {p : Nat × Nat} (h : p ∈ steps rows) : p.1 < 10 ∧ p.2 < 10 := by
  obtain ⟨r, hr, hp⟩ := List.mem_flatMap.mp h
  have := stp_mem (r := r) hp
  exact ⟨G.lt _ (List.mem_flatten.mpr ⟨r, hr, this.1⟩), G.lt _ (List.mem_flatten.mpr ⟨r, hr, this.2⟩)⟩
theorem rel_dirM {rows : List (List Nat)} (G : Good rows) {wm dm x y : Nat} (hy : y < 10) : rel (dirM rows wm dm) x y = (rel wm x y || (rel dm x y || decide ((x, y) ∈ steps rows))) := by
  unfold dirM
  rw [rel_or, rel_or, rel_maskL (fun p hp => (steps_lt G hp).2) hy]
theorem ps_item {H : Hp} {v : V} {m : Nat} (h : Is H v (psM m)) : ∃ a xs, v = .ref a ∧ H a = some (.tup xs) ∧ IsAll H xs ((prs m).map pD) := h.tup_inv
theorem prs_len (m : Nat) : (prs m).length ≤ 100 := by
  have h2 : (prs m).length ≤ grid.length := List.length_filter_le _ _
  have h3 : grid.length = 100 := by decide +kernel
  omega
/-- the i-th of pairs, as data -/
theorem pairs_at {H : Hp} {l : List (Nat × Nat)} {xs : List V} {i : Nat} {x : V} (h : IsAll H xs (l.map pD)) (e : xs[i]? = some x) : ∃ p, l[i]? = some p ∧ Is H x (pD p) := by
  obtain ⟨k, hk, g⟩ := h.get e
  rw [List.getElem?_map] at hk
  cases el : l[i]? with
  | none => rw [el] at hk; cases hk
  | some p => rw [el] at hk; obtain rfl := Option.some.inj hk; exact ⟨p, rfl, g⟩
theorem pD_inv {H : Hp} {v : V} {p : Nat × Nat} (h : Is H v (pD p)) : ∃ a, v = .ref a ∧ H a = some (.tup [.int (p.1 : Int), .int (p.2 : Int)]) := by
  obtain ⟨a, x, y, rfl, h1, g1, g2⟩ := h.pair_inv
  obtain rfl := g1.num_inv
  obtain rfl := g2.num_inv
  exact ⟨a, rfl, h1⟩
theorem take_snoc {α : Type} {l : List α} {i : Nat} {x : α} (h : l[i]? = some x) : l.take (i + 1) = l.take i ++ [x] := by rw [List.take_add_one, h]; rfl

section
variable {P : Program} {w : World} {K : PySem.W.Frag} {mg : Str → Option Value} {base : Heap}
abbrev nmDirect : List Str := ["plan", "waits", "drains", "found", "first", "changes", "one", "two", "pair"]
theorem scDirect : FnScope nmDirect ["plan", "waits", "drains"] (defScope sDirect) := ⟨rfl, rfl, rfl, by decide +kernel, rfl, by decide +kernel, by decide +kernel⟩
def spDirect (w : World) : Sp := fun vs H Q _ => ∃ (vp vw vd : V) (rows : List (List Nat)) (wm dm : Nat), vs = [vp, vw, vd] ∧ Is H vp (planD rows) ∧ Good rows ∧ Is H vw (psM wm) ∧ Is H vd (psM dm) ∧ ∀ p H' L, Ex H H' → H p = none → DK w H' p L → KP L (dirM rows wm dm) → Q (.ref p) H'
theorem ok_direct {f : Addr} {fd : FuncData} (F : Fun K "direct_pairs" "direct_pairs" sDirect f fd) (mZ : mg "zip" = none) : FnOk P w K mg base CX0 1 f fd ["plan", "waits", "drains"] (spDirect w) := by
  refine F.ok scDirect (fun vs H Q E h => ?_) (fun cdv A outer s H vs Q E hr h => ?_)
  · obtain ⟨_, _, _, _, _, _, rfl, _⟩ := h; rfl
  · obtain ⟨vp, vw, vd, rows, wm, dm, rfl, hp, G, hw, hd, q⟩ := h
    have nd := scDirect.nd
    refine ⟨_, pss_cons (ps_setGc (i := 3) (own := [("pair", 8)]) (g := gName 8) (tt := tYes) (hu8 hr) rfl nd rfl rfl (sw_trueG rfl rfl rfl (by decide +kernel)) (pi_tup (pe_op op_catA (pv 1) (pv 2))) (blkOk_by (N := nmDirect) (sc := defScope sDirect) (by decide +kernel))
        (fun _ _ _ _ _ => pg_name (i := 8) nd rfl (Or.inl rfl)) (fun _ _ _ _ _ => pts_nil) (fun _ _ _ _ _ => pv 8) (fun _ _ _ _ _ => pe_bl))
      (pss_cons (ps_for PassesOwn.never rfl (pi_tup (pe_ix ix_tup (pv 0) pe_int (fun _ _ => rfl)))
        (pg_tup rfl (pgs_cons (pg_name (i := 4) nd rfl (Or.inl rfl)) (pgs_cons (pg_name (i := 5) nd rfl (Or.inl rfl)) pgs_nil)))
        (pss_one (ps_for PassesOwn.never rfl (pi_zipS (by rfl) mZ (pa_cons (pe_slice sl_tupA (pv 5) po_none (po_some (pe_un un_neg pe_int))) (pa_cons (pe_slice sl_tupA (pv 5) (po_some pe_int) po_none) pa_nil)))
          (pg_tup rfl (pgs_cons (pg_name (i := 6) nd rfl (Or.inl rfl)) (pgs_cons (pg_name (i := 7) nd rfl (Or.inl rfl)) pgs_nil)))
          (pss_one (ps_asg pe_bl (pg_sub (pv 3) (pe_tup (pa_cons (pe_ix ix_tup (pv 6) pe_int (fun _ _ => rfl)) (pa_cons (pe_ix ix_tup (pv 7) pe_int (fun _ _ => rfl)) pa_nil))) (set_G (hu9 hr))))))))
      (pss_one (ps_ret (pv 3)))), ?_⟩
    obtain ⟨aw, ws, rfl, haw, hws⟩ := ps_item hw
    obtain ⟨ad, ds, rfl, had, hds⟩ := ps_item hd
    have hwl : ws.length ≤ 100 := by rw [hws.length, List.length_map]; exact prs_len _
    have hdl : ds.length ≤ 100 := by rw [hds.length, List.length_map]; exact prs_len _
    -- the comprehension
    refine ⟨_, rfl, _, rfl, cat_any (SqT.of haw) (SqT.of had) (by omega) fun t H1 e1 ht => ⟨t, rfl, ⟨_, ht⟩, fun D H2 hD c2 g2 => ?_⟩⟩
    have hall : IsAll H1 (ws ++ ds) ((prs wm ++ prs dm).map pD) := by rw [List.map_append]; exact (hws.ex e1).append (hds.ex e1)
    have hgrid : ∀ p ∈ prs wm ++ prs dm, p.1 < 10 ∧ p.2 < 10 := fun p hp => by
      rcases List.mem_append.mp hp with z | z
      · exact ⟨(prs_mem.mp z).1, (prs_mem.mp z).2.1⟩
      · exact ⟨(prs_mem.mp z).1, (prs_mem.mp z).2.1⟩
    have hll : (ws ++ ds).length = (prs wm ++ prs dm).length := by rw [hall.length, List.length_map]
    refine gc_it (walk_tup (xs := ws ++ ds)) (fun i H' => Ex H1 H' ∧ ∃ L, DK w H' D L ∧ KP L (maskL ((prs wm ++ prs dm).take i))) ⟨c2.ex (Ex.refl _) hD, [], g2, KP.empty⟩ (fun i H' _ p => ex_t p.1 ht) ?_ ?_
    · rintro i x H3 H3' hi ⟨e3, L, g3, kp3⟩ ⟨rfl, hx⟩
      obtain ⟨p, hp', isx⟩ := pairs_at hall hx
      obtain ⟨ax, rfl, hax⟩ := pD_inv isx
      obtain ⟨hp1, hp2⟩ := hgrid p (List.mem_of_getElem? hp')
      refine ⟨rfl, _, rfl, L, pD p, g3, isx.ex e3, .inr ⟨ax, rfl⟩, pD_depth p, kp3.lt, fun H4 c4 g4 => ⟨c4.ex e3 hD, _, g4, ?_⟩⟩
      rw [take_snoc hp', maskL_snoc]
      exact kp3.ins hp1 hp2
    rintro H3 ⟨e3, L3, g3, kp3⟩
    rw [hll, List.take_length] at kp3
    have e03 : Ex H H3 := e1.trans e3
    have hDn : H D = none := fresh_back e1 hD
    obtain ⟨a, sg, v1, v2, xs, rfl, ha, hsg, hxs⟩ := plan_inv hp
    have hxl : xs.length = rows.length := by rw [hxs.length, List.length_map]
    -- the rows
    refine ⟨_, rfl, a, _, 0, .ref sg, rfl, rfl, SqT.of (e03 _ _ ha), rfl, sg, rfl, ⟨xs, SqT.of (e03 _ _ hsg)⟩, ?_⟩
    refine for_tup (xs := xs) (fun i σ H4 => ∃ y4 y5 y6 y7, σ = [some (.ref a), some (.ref aw), some (.ref ad), some (.ref D), y4, y5, y6, y7, none] ∧ Ex H H4 ∧ ∃ L, DK w H4 D L ∧ KP L (maskL ((prs wm ++ prs dm) ++ steps (rows.take i))))
      ⟨none, none, none, none, rfl, e03, L3, g3, by simpa [steps] using kp3⟩ (fun i σ H4 _ ⟨_, _, _, _, _, e4, _⟩ => SqT.of (e4 _ _ hsg)) ?_ ?_
    · rintro i x σ H4 hx ⟨y4, y5, y6, y7, rfl, e4, L4, g4, kp4⟩
      obtain ⟨r, ra, rc, cs, hr', rfl, hra, hrc, hcs⟩ := row_at hxs hx
      refine ⟨ra, _, rfl, SqT.of (e4 _ _ hra), rfl, _, _, rfl, _, _, rfl, rfl, ?_⟩
      have hcl : cs.length = r.length := by rw [hcs.length, List.length_map]
      refine ⟨_, rfl, 1, rfl, -1, rfl, slA_init (SqT.of (e4 _ _ hrc)) fun t1 H5 e5 ht1 => ?_⟩
      refine ⟨_, rfl, 1, rfl, noPart ?_⟩
      refine slA_tail (SqT.of ((e4.trans e5) _ _ hrc)) fun t2 H6 e6 ht2 => ?_
      have e46 : Ex H4 H6 := e5.trans e6
      refine ⟨t1, t2, _, _, rfl, ex_t e6 ht1, ht2, by simp, ?_⟩
      have hrin : ∀ n ∈ r, n < 10 := fun n hn => G.lt n (List.mem_flatten.mpr ⟨r, List.mem_of_getElem? hr', hn⟩)
      refine for_it (walk_S (K := K) (xs := cs.dropLast) (ys := cs.tail) rfl (by simp)) (fun j σ H7 => ∃ y6 y7, σ = [some (.ref a), some (.ref aw), some (.ref ad), some (.ref D), some (.int 0), some (.ref rc), y6, y7, none] ∧ Ex H H7 ∧ SqT K H7 t1 cs.dropLast ∧ SqT K H7 t2 cs.tail ∧ ∃ L, DK w H7 D L ∧ KP L (maskL (((prs wm ++ prs dm) ++ steps (rows.take i)) ++ (stp r).take j)))
        ⟨y6, y7, rfl, e4.trans e46, ex_t e6 ht1, ht2, L4, g4.ext e46, by rw [List.take_zero, List.append_nil]; exact kp4⟩ (fun j σ H7 _ ⟨_, _, _, _, h1, h2, _⟩ => ⟨h1, h2⟩) ?_ ?_
      · rintro j x σ H7 H8 hj ⟨z6, z7, rfl, e7, ht1', ht2', L7, g7, kp7⟩ y
        obtain ⟨T, x1, x2, rfl, nT, e8, hT, q1, q2⟩ := ypair_is (K := K) y
        have q1' : cs[j]? = some x1 := by
          rw [List.dropLast_eq_take, List.getElem?_take] at q1
          split at q1
          · exact q1
          · cases q1
        have q2' : cs[j + 1]? = some x2 := by rw [List.getElem?_tail] at q2; exact q2
        obtain ⟨n1, a1, hn1, rfl, ha1⟩ := ch_at hcs q1'
        obtain ⟨n2, a2, hn2, rfl, ha2⟩ := ch_at hcs q2'
        have e48 := e7.trans e8
        have h10a := hrin n1 (List.mem_of_getElem? hn1)
        have h10b := hrin n2 (List.mem_of_getElem? hn2)
        refine ⟨T, _, rfl, hT, rfl, _, _, rfl, _, _, rfl, rfl, ?_⟩
        refine ⟨_, rfl, _, rfl, a1, _, 0, _, rfl, rfl, SqT.of (e48 _ _ ha1), rfl, _, rfl, a2, _, 0, _, rfl, rfl, SqT.of (e48 _ _ ha2), rfl, by show 2 ≤ sizeLine; decide, fun t ht => ?_⟩
        refine ⟨D, L7, pD (n1, n2), rfl, g7.ext (e8.trans (Ex.new ht)), .tup upd_same (.cons (.num _) (.cons (.num _) .nil)), .inr ⟨t, rfl⟩, pD_depth _, kp7.lt, fun H9 c9 g9 => ?_⟩
        have e9 := e8.trans (Ex.new ht (o := .tup [.int (n1 : Int), .int (n2 : Int)]))
        have g8 := g7.ext e9
        refine ⟨_, _, rfl, c9.ex (e7.trans e9) hDn, g8.chgT c9 (ex_t e9 ht1'), g8.chgT c9 (ex_t e9 ht2'), _, g9, ?_⟩
        · rw [take_snoc (stp_at hn1 hn2), ← List.append_assoc, maskL_snoc]
          exact kp7.ins h10a h10b
      · rintro σ H7 ⟨z6, z7, rfl, e7, _, _, L7, g7, kp7⟩
        refine ⟨_, _, _, _, rfl, e7, L7, g7, ?_⟩
        have el : cs.dropLast.length = (stp r).length := by rw [stp_len, List.length_dropLast, hcl]
        rw [el, List.take_length, List.append_assoc] at kp7
        rw [take_snoc hr']
        simpa [steps, stp] using kp7
    · rintro σ H4 ⟨y4, y5, y6, y7, rfl, e4, L4, g4, kp4⟩
      rw [hxl, List.take_length] at kp4
      refine ⟨_, rfl, q D H4 L4 e4 hDn g4 (kp4.congr fun x y hx hy => ?_)⟩
      rw [rel_dirM G hy, rel_maskL (fun p hp => ?_) hy]
      · simp only [List.mem_append, prs_mem]
        cases h1 : rel wm x y <;> cases h2 : rel dm x y <;> simp [hx, hy]
      · rcases List.mem_append.mp hp with z | z
        · exact (hgrid p z).2
        · exact (steps_lt G z).2
end
end K82
/-! follows_of, round_name, is_regime. -/
namespace K82
open PySem PySem.Spec PyProof.Rows L2 Evl RZ

theorem walk_rangeN {n : Nat} : Walk (Itr 0 n) n (fun _ => True) (YFn fun i => .int (i : Int)) :=
  walk_range.mono (fun _ h => h) fun i H x H' _ _ y => ⟨y.1, y.2.trans (congrArg V.int (Int.zero_add _))⟩
theorem op_inW {X : Cx} (w : World) (hw : X.w = w) (hu : X.A.units + 9 < cLine) : OpR X (compareOp .In) (rInG w) := hw ▸ op_inG hu
theorem op_ninW {X : Cx} (w : World) (hw : X.w = w) (hu : X.A.units + 9 < cLine) : OpR X (compareOp .NotIn) (rNinG w) := hw ▸ op_ninG hu
theorem et_inG {w : World} {σ : L2.St} {H : Hp} {i j l : Nat} {d : Addr} {L : List NK} {m x y : Nat} (h1 : σ[i]? = some (some (.int (x : Int)))) (h2 : σ[j]? = some (some (.int (y : Int)))) (h3 : σ[l]? = some (some (.ref d))) (g : DK w H d L) (kp : KP L m) (hx : x < 10) (hy : y < 10) :
    EvT (tTest (tOp (rInG w) (tTup (tCons (tVar i) (tCons (tVar j) tNil))) (tVar l))) σ H (rel m x y) := fun H1 e Q q => by
  refine ⟨_, h1, _, h2, by show 2 ≤ sizeLine; decide, fun t ht => ⟨_, h3, d, L, pD (x, y), rfl, (g.ext e).ext (Ex.new ht), .tup upd_same (.cons (.num _) (.cons (.num _) .nil)), .inr ⟨t, rfl⟩, pD_depth _, _, rfl, ?_⟩⟩
  rw [kp.has hx hy]
  exact q _ (Ex.new ht)
theorem IsAll.nats {H : Hp} {l : List Nat} {vs : List V} (h : IsAll H vs (l.map nmD)) : vs = l.map fun (n : Nat) => V.int (n : Int) := by
  have e : l.map nmD = (l.map fun (n : Nat) => (n : Int)).map NestedKey.num := by rw [List.map_map]; rfl
  rw [e] at h
  rw [IsAll.nums h, List.map_map]; rfl
theorem et_neL {K : PySem.W.Frag} {σ : L2.St} {H : Hp} {i : Nat} {p : Addr} {us : List V} {ks : List NK} (h : σ[i]? = some (some (.ref p))) (hl : H p = some (.lst us)) (ha : IsAll H us ks) (hp : plainK.plainKs ks = true) (hd : NestedKey.depthAll ks ≤ 60) :
    EvT (tTest (tOp (rNeD K) (tVar i) (tLst tNil))) σ H (!decide (ks = [])) := fun H1 e Q q => by
  refine ⟨_, h, Nat.zero_le _, fun l hl' => ?_⟩
  have e2 := e.trans (Ex.new hl' (o := .lst []))
  refine ⟨.list (NestedKey.datas ks), .list (NestedKey.datas []), .lst (SqL.of (e2 _ _ hl)) ((ha.ex e2).dp), .lst (SqL.of upd_same) .nil, shaped_list hp hd, shaped_list rfl (by decide), _, rfl, ?_⟩
  rw [eqv_list]
  exact q _ (Ex.new hl')
theorem plain_nmD : ∀ l : List Nat, plainK.plainKs (l.map nmD) = true
  | [] => rfl
  | n :: l => plain_nmD l
theorem depth_nmD : ∀ l : List Nat, NestedKey.depthAll (l.map nmD) = 0
  | [] => rfl
  | n :: l => by
    show max 0 (NestedKey.depthAll (l.map nmD)) = 0
    rw [depth_nmD l]; rfl
/-- the i-th of whole numbers in a list -/
theorem nats_at {l : List Nat} {i : Nat} {x : V} (h : (l.map fun (n : Nat) => V.int (n : Int))[i]? = some x) : ∃ n : Nat, l[i]? = some n ∧ x = .int (n : Int) := by
  rw [List.getElem?_map] at h
  cases e : l[i]? with
  | none => rw [e] at h; cases h
  | some n => rw [e] at h; exact ⟨n, rfl, (Option.some.inj h).symm⟩
/-- pairs done of a product when all of the first i and j of the i-th are done -/
def prodTo (as bs : List Nat) (i : Nat) : List (Nat × Nat) := (as.take i).flatMap fun x => bs.map fun y => (x, y)
def prodIn (as bs : List Nat) (i j x : Nat) : List (Nat × Nat) := prodTo as bs i ++ (bs.take j).map fun y => (x, y)
theorem prod_zero (as bs : List Nat) (i x : Nat) : prodIn as bs i 0 x = prodTo as bs i := by simp [prodIn]
theorem prod_next {as bs : List Nat} {i j x y : Nat} (hy : bs[j]? = some y) : prodIn as bs i (j + 1) x = prodIn as bs i j x ++ [(x, y)] := by
  unfold prodIn
  rw [take_snoc hy, List.map_append, List.append_assoc]; rfl
theorem prod_done {as bs : List Nat} {i x : Nat} (hx : as[i]? = some x) : prodIn as bs i bs.length x = prodTo as bs (i + 1) := by
  unfold prodIn prodTo
  rw [take_snoc hx, List.flatMap_append, List.take_length]; simp
theorem prod_all {as bs : List Nat} {p : Nat × Nat} : p ∈ prodTo as bs as.length ↔ p.1 ∈ as ∧ p.2 ∈ bs := by
  obtain ⟨x, y⟩ := p
  unfold prodTo
  rw [List.take_length]
  simp only [List.mem_flatMap, List.mem_map]
  constructor
  · rintro ⟨a, ha, b, hb, e⟩
    cases e
    exact ⟨ha, hb⟩
  · rintro ⟨h1, h2⟩
    exact ⟨x, h1, y, h2, rfl⟩

section
variable {P : Program} {w : World} {K : PySem.W.Frag} {mg : Str → Option Value} {base : Heap}
abbrev nmFollows : List Str := ["plan", "waits", "drains", "found", "mid", "one", "ahead", "two", "later"]
theorem scFollows : FnScope nmFollows ["plan", "waits", "drains"] (defScope sFollows) := ⟨rfl, rfl, rfl, by decide +kernel, rfl, by decide +kernel, by decide +kernel⟩
def spFollows (w : World) : Sp := fun vs H Q _ => ∃ (vp vw vd : V) (rows : List (List Nat)) (wm dm : Nat), vs = [vp, vw, vd] ∧ Is H vp (planD rows) ∧ Good rows ∧ Is H vw (psM wm) ∧ Is H vd (psM dm) ∧ ∀ p H' L, Ex H H' → H p = none → DK w H' p L → KP L (cloM (dirM rows wm dm)) → Q (.ref p) H'
set_option maxHeartbeats 8000000 in
theorem ok_follows {f : Addr} {fd : FuncData} (F : Fun K "follows_of" "follows_of" sFollows f fd) (D1 : Df P w K mg base "direct_pairs" 1 ["plan", "waits", "drains"] (spDirect w)) (mR : mg "range" = none) (mN : ∃ t, mg "NAMES" = some (.int 10 t)) :
    FnOk P w K mg base CX0 2 f fd ["plan", "waits", "drains"] (spFollows w) := by
  obtain ⟨tN, mN⟩ := mN
  refine F.ok scFollows (fun vs H Q E h => ?_) (fun cdv A outer s H vs Q E hr h => ?_)
  · obtain ⟨_, _, _, _, _, _, rfl, _⟩ := h; rfl
  · obtain ⟨vp, vw, vd, rows, wm, dm, rfl, hp, G, hw, hd, q⟩ := h
    have nd := scFollows.nd
    refine ⟨_, pss_cons (ps_set (i := 3) nd rfl (Or.inr rfl) (pe_df D1 hr (Nat.le_refl _) (by rfl) (pa_cons (pv 0) (pa_cons (pv 1) (pa_cons (pv 2) pa_nil)))))
      (pss_cons (ps_for PassesOwn.never rfl (pi_range1 (by rfl) mR (pa_cons (pe_glob (v := .int 10) (by rfl) mN ⟨_, rfl⟩) pa_nil)) (pg_name (i := 4) nd rfl (Or.inr rfl))
        (pss_cons (ps_setLc (i := 6) (own := [("one", 5)]) (g := gName 5) rfl nd rfl rfl (sw_true rfl rfl rfl (by decide +kernel)) (pi_range1 (by rfl) mR (pa_cons (pe_glob (v := .int 10) (by rfl) mN ⟨_, rfl⟩) pa_nil)) (blkOk_by (N := nmFollows) (sc := defScope sFollows) (by decide +kernel))
            (fun _ _ _ _ _ => pg_name (i := 5) nd rfl (Or.inl rfl)) (fun _ _ _ _ _ => pts_one (pt_cmpR (op_inW w rfl (hu9 hr)) (pe_tup (pa_cons (pv 5) (pa_cons (pv 4) pa_nil))) (pv 3) rfl)) (fun _ _ _ _ _ => pv 5))
        (pss_cons (ps_setLc (i := 8) (own := [("two", 7)]) (g := gName 7) rfl nd rfl rfl (sw_true rfl rfl rfl (by decide +kernel)) (pi_range1 (by rfl) mR (pa_cons (pe_glob (v := .int 10) (by rfl) mN ⟨_, rfl⟩) pa_nil)) (blkOk_by (N := nmFollows) (sc := defScope sFollows) (by decide +kernel))
            (fun _ _ _ _ _ => pg_name (i := 7) nd rfl (Or.inl rfl)) (fun _ _ _ _ _ => pts_one (pt_cmpR (op_inW w rfl (hu9 hr)) (pe_tup (pa_cons (pv 4) (pa_cons (pv 7) pa_nil))) (pv 3) rfl)) (fun _ _ _ _ _ => pv 7))
        (pss_one (ps_for PassesOwn.never rfl (pi_list (pv 6)) (pg_name (i := 5) nd rfl (Or.inl rfl))
          (pss_one (ps_for PassesOwn.never rfl (pi_list (pv 8)) (pg_name (i := 7) nd rfl (Or.inl rfl))
            (pss_one (ps_asg pe_bl (pg_sub (pv 3) (pe_tup (pa_cons (pv 5) (pa_cons (pv 7) pa_nil))) (set_G (hu9 hr)))))))))))) (pss_one (ps_ret (pv 3)))), ?_⟩
    refine ⟨vp, rfl, vw, rfl, vd, rfl, vp, vw, vd, rows, wm, dm, rfl, hp, G, hw, hd, fun D H1 L1 e1 hDn g1 kp1 => ?_⟩
    refine ⟨10, rfl, by decide, by decide, for_it (walk_rangeN (n := 10)) (fun mid σ H2 => ∃ y4 y5 y6 y7 y8, σ = [some vp, some vw, some vd, some (.ref D), y4, y5, y6, y7, y8] ∧ Ex H H2 ∧ ∃ L, DK w H2 D L ∧ KP L ((List.range mid).foldl stepM (dirM rows wm dm)))
      ⟨none, none, none, none, none, rfl, e1, L1, g1, kp1⟩ (fun _ _ _ _ _ => trivial) ?_ ?_⟩
    · rintro mid x0 σ H2 H2' hmid ⟨y4, y5, y6, y7, y8, rfl, e2, L2, g2, kp2⟩ ⟨rfl, rfl⟩
      generalize hm : (List.range mid).foldl stepM (dirM rows wm dm) = m at kp2
      -- ahead
      refine ⟨10, rfl, by decide, by decide, fun l1 hl1 => ?_⟩
      refine lc_data (walk_rangeN (n := 10)) (fun i => rel m i mid) nmD hl1 (by decide) (fun _ _ => trivial) ?_ ?_
      · rintro i x H3 H3' hi e3 ⟨rfl, rfl⟩ Q' k
        exact k _ _ (Ex.refl _) rfl (et_inG rfl rfl rfl (g2.ext e3) kp2 hi hmid) fun _ => evP_var rfl (.num _)
      intro H3 us e3 hus hall
      have eA := IsAll.nats (l := (List.range 10).filter fun i => rel m i mid) hall
      subst eA
      -- later
      refine ⟨10, rfl, by decide, by decide, fun l2 hl2 => ?_⟩
      refine lc_data (walk_rangeN (n := 10)) (fun i => rel m mid i) nmD hl2 (by decide) (fun _ _ => trivial) ?_ ?_
      · rintro i x H4 H4' hi e4 ⟨rfl, rfl⟩ Q' k
        exact k _ _ (Ex.refl _) rfl (et_inG rfl rfl rfl (g2.ext (e3.trans e4)) kp2 hmid hi) fun _ => evP_var rfl (.num _)
      intro H4 us e4 hus2 hall2
      have eB := IsAll.nats (l := (List.range 10).filter fun i => rel m mid i) hall2
      subst eB
      generalize hAs : (List.range 10).filter (fun i => rel m i mid) = As at hus
      generalize hBs : (List.range 10).filter (fun i => rel m mid i) = Bs at hus2
      have hA10 : ∀ n ∈ As, n < 10 := fun n hn => by rw [← hAs] at hn; exact List.mem_range.mp (List.mem_filter.mp hn).1
      have hB10 : ∀ n ∈ Bs, n < 10 := fun n hn => by rw [← hBs] at hn; exact List.mem_range.mp (List.mem_filter.mp hn).1
      have e24 := e3.trans e4
      have hne1 : l1 ≠ D := fun z => by obtain ⟨es, h, _⟩ := g2.ex; rw [z, h] at hl1; cases hl1
      have hne2 : l2 ≠ D := fun z => by obtain ⟨es, h, _⟩ := (g2.ext e3).ex; rw [z, h] at hl2; cases hl2
      refine ⟨_, rfl, l1, rfl, ⟨_, SqL.of (e4 _ _ hus)⟩, for_list (xs := As.map fun (n : Nat) => V.int (n : Int)) (fun i σ H5 => ∃ y5 y7, σ = [some vp, some vw, some vd, some (.ref D), some (.int (mid : Int)), y5, some (.ref l1), y7, some (.ref l2)] ∧ Ex H H5 ∧
        H5 l1 = some (.lst (As.map fun (n : Nat) => V.int (n : Int))) ∧ H5 l2 = some (.lst (Bs.map fun (n : Nat) => V.int (n : Int))) ∧ ∃ L, DK w H5 D L ∧ KP L (m ||| maskL (prodTo As Bs i)))
        ⟨y5, y7, rfl, e2.trans e24, e4 _ _ hus, hus2, L2, g2.ext e24, ?_⟩ (fun i σ H5 _ ⟨_, _, _, _, h, _⟩ => SqL.of h) ?_ ?_⟩
      · show KP L2 (m ||| 0)
        rw [Nat.or_zero]; exact kp2
      · rintro i x σ H5 hx ⟨y5, y7, rfl, e5, hu1, hu2, L5, g5, kp5⟩
        obtain ⟨n1, hn1, rfl⟩ := nats_at hx
        refine ⟨_, rfl, l2, rfl, ⟨_, SqL.of hu2⟩, for_list (xs := Bs.map fun (n : Nat) => V.int (n : Int)) (fun j σ H6 => ∃ y7, σ = [some vp, some vw, some vd, some (.ref D), some (.int (mid : Int)), some (.int (n1 : Int)), some (.ref l1), y7, some (.ref l2)] ∧ Ex H H6 ∧
          H6 l1 = some (.lst (As.map fun (n : Nat) => V.int (n : Int))) ∧ H6 l2 = some (.lst (Bs.map fun (n : Nat) => V.int (n : Int))) ∧ ∃ L, DK w H6 D L ∧ KP L (m ||| maskL (prodIn As Bs i j n1)))
          ⟨y7, rfl, e5, hu1, hu2, L5, g5, by rw [prod_zero]; exact kp5⟩ (fun i σ H5 _ ⟨_, _, _, _, h, _⟩ => SqL.of h) ?_ ?_⟩
        · rintro j x σ H6 hx ⟨y7, rfl, e6, hu1, hu2, L6, g6, kp6⟩
          obtain ⟨n2, hn2, rfl⟩ := nats_at hx
          refine ⟨_, rfl, _, rfl, _, rfl, by show 2 ≤ sizeLine; decide, fun t ht => ?_⟩
          have e7 := Ex.new ht (o := .tup [.int (n1 : Int), .int (n2 : Int)])
          refine ⟨D, L6, pD (n1, n2), rfl, g6.ext e7, .tup upd_same (.cons (.num _) (.cons (.num _) .nil)), .inr ⟨t, rfl⟩, pD_depth _, kp6.lt, fun H8 c8 g8 => ⟨_, rfl, c8.ex (e6.trans e7) hDn, (c8 _ hne1).trans (e7 _ _ hu1), (c8 _ hne2).trans (e7 _ _ hu2), _, g8, ?_⟩⟩
          rw [prod_next hn2, maskL_snoc, ← Nat.or_assoc]
          exact kp6.ins (hA10 _ (List.mem_of_getElem? hn1)) (hB10 _ (List.mem_of_getElem? hn2))
        · rintro σ H6 ⟨y7, rfl, e6, hu1, hu2, L6, g6, kp6⟩
          refine ⟨_, _, rfl, e6, hu1, hu2, L6, g6, ?_⟩
          rw [List.length_map, prod_done hn1] at kp6
          exact kp6
      · rintro σ H5 ⟨y5, y7, rfl, e5, hu1, hu2, L5, g5, kp5⟩
        refine ⟨_, _, _, _, _, rfl, e5, L5, g5, kp5.congr fun x y hx hy => ?_⟩
        rw [List.range_succ, List.foldl_append, hm]
        show _ = rel (stepM m mid) x y
        rw [rel_step hx hy, rel_or, List.length_map, rel_maskL (fun p hp => hB10 _ (prod_all.mp hp).2) hy]
        congr 1
        rw [Bool.eq_iff_iff, decide_eq_true_iff, prod_all, ← hAs, ← hBs, Bool.and_eq_true, List.mem_filter, List.mem_filter, List.mem_range, List.mem_range]
        exact ⟨fun h => ⟨h.1.2, h.2.2⟩, fun h => ⟨⟨hx, h.1⟩, ⟨hy, h.2⟩⟩⟩
    · rintro σ H2 ⟨y4, y5, y6, y7, y8, rfl, e2, L2, g2, kp2⟩
      exact ⟨_, rfl, q D H2 L2 e2 hDn g2 kp2⟩
abbrev nmRound : List Str := ["pairs", "found", "name"]
theorem scRound : FnScope nmRound ["pairs"] (defScope sRound) := ⟨rfl, rfl, rfl, by decide +kernel, rfl, by decide +kernel, by decide +kernel⟩
def spRound (w : World) : Sp := fun vs H Q _ => ∃ (d : Addr) (L : List NK) (m : Nat), vs = [.ref d] ∧ DK w H d L ∧ KP L m ∧ ∀ v H', Ex H H' → (acyc m = true → v = .non) → (acyc m = false → ∃ n : Int, v = .int n) → Q v H'
theorem ok_round {f : Addr} {fd : FuncData} (F : Fun K "round_name" "round_name" sRound f fd) (mR : mg "range" = none) (mN : ∃ t, mg "NAMES" = some (.int 10 t)) : FnOk P w K mg base CX0 1 f fd ["pairs"] (spRound w) := by
  obtain ⟨tN, mN⟩ := mN
  refine F.ok scRound (fun vs H Q E h => ?_) (fun cdv A outer s H vs Q E hr h => ?_)
  · obtain ⟨_, _, _, rfl, _⟩ := h; rfl
  · obtain ⟨d, L, m, rfl, g, kp, q⟩ := h
    have nd := scRound.nd
    refine ⟨_, pss_cons (ps_setLc (i := 1) (own := [("name", 2)]) (g := gName 2) rfl nd rfl rfl (sw_true rfl rfl rfl (by decide +kernel)) (pi_range1 (by rfl) mR (pa_cons (pe_glob (v := .int 10) (by rfl) mN ⟨_, rfl⟩) pa_nil)) (blkOk_by (N := nmRound) (sc := defScope sRound) (by decide +kernel))
            (fun _ _ _ _ _ => pg_name (i := 2) nd rfl (Or.inl rfl)) (fun _ _ _ _ _ => pts_one (pt_cmpR (op_inW w rfl (hu9 hr)) (pe_tup (pa_cons (pv 2) (pa_cons (pv 2) pa_nil))) (pv 0) rfl)) (fun _ _ _ _ _ => pv 2))
      (pss_one (ps_ret (pe_ifExp (pt_cmpR (op_neD hr.units) (pv 1) (pe_lst pa_nil) (nomark _)) (pe_ix ix_list (pv 1) pe_int (fun _ _ => rfl)) pe_non))), ?_⟩
    refine ⟨10, rfl, by decide, by decide, fun l1 hl1 => ?_⟩
    refine lc_data (walk_rangeN (n := 10)) (fun i => rel m i i) nmD hl1 (by decide) (fun _ _ => trivial) ?_ ?_
    · rintro i x H3 H3' hi e3 ⟨rfl, rfl⟩ Q' k
      exact k _ _ (Ex.refl _) rfl (et_inG rfl rfl rfl (g.ext e3) kp hi hi) fun _ => evP_var rfl (.num _)
    intro H3 us e3 hus hall
    have eA := IsAll.nats (l := (List.range 10).filter fun i => rel m i i) hall
    subst eA
    have hac : acyc m = decide ((List.range 10).filter (fun i => rel m i i) = []) := by
      unfold acyc
      rw [Bool.eq_iff_iff, List.all_eq_true, decide_eq_true_iff, List.filter_eq_nil_iff]
      constructor
      · intro h a ha z
        have := h a ha
        rw [z] at this; cases this
      · intro h a ha
        have := h a ha
        cases e : rel m a a with
        | false => rfl
        | true => exact absurd e this
    refine et_neL (K := K) (p := l1) (ks := ((List.range 10).filter fun i => rel m i i).map nmD) rfl hus hall (plain_nmD _) (by rw [depth_nmD]; decide) H3 (Ex.refl _) _ fun H4 e4 => ?_
    by_cases he : (List.range 10).filter (fun i => rel m i i) = []
    · rw [decide_eq_true he] at hac
      have : (List.map nmD ((List.range 10).filter fun i => rel m i i) = []) := by rw [he]; rfl
      rw [decide_eq_true this]
      refine iteF ?_
      exact q _ _ (e3.trans e4) (fun _ => rfl) fun z => by rw [hac] at z; cases z
    · rw [decide_eq_false he] at hac
      have : ¬ (List.map nmD ((List.range 10).filter fun i => rel m i i) = []) := fun z => he (List.map_eq_nil_iff.mp z)
      rw [decide_eq_false this]
      refine iteT ?_
      generalize (List.range 10).filter (fun i => rel m i i) = As at he hus
      cases As with
      | nil => exact absurd rfl he
      | cons a as =>
        exact ⟨_, rfl, l1, _, 0, .int (a : Int), rfl, rfl, SqL.of (e4 _ _ hus), atI_nat (j := 0) rfl, q _ _ (e3.trans e4) (fun z => by rw [hac] at z; cases z) fun _ => ⟨_, rfl⟩⟩
theorem scIsRegime : FnScope ["plan", "waits", "drains"] ["plan", "waits", "drains"] (defScope sIsRegime) := ⟨rfl, rfl, rfl, by decide +kernel, rfl, by decide +kernel, by decide +kernel⟩
def spIsRegime : Sp := fun vs H Q _ => ∃ (vp vw vd : V) (rows : List (List Nat)) (wm dm : Nat), vs = [vp, vw, vd] ∧ Is H vp (planD rows) ∧ Good rows ∧ Is H vw (psM wm) ∧ Is H vd (psM dm) ∧ ∀ H', Ex H H' → Q (.bl (acR rows wm dm)) H'
theorem ok_is_regime {f : Addr} {fd : FuncData} (F : Fun K "is_regime" "is_regime" sIsRegime f fd) (D1 : Df P w K mg base "follows_of" 2 ["plan", "waits", "drains"] (spFollows w)) (D2 : Df P w K mg base "round_name" 1 ["pairs"] (spRound w)) :
    FnOk P w K mg base CX0 3 f fd ["plan", "waits", "drains"] spIsRegime := by
  refine F.ok scIsRegime (fun vs H Q E h => ?_) (fun cdv A outer s H vs Q E hr h => ?_)
  · obtain ⟨_, _, _, _, _, _, rfl, _⟩ := h; rfl
  · obtain ⟨vp, vw, vd, rows, wm, dm, rfl, hp, G, hw, hd, q⟩ := h
    refine ⟨_, pss_one (ps_ret (pe_cmp (pc_isN (pe_df D2 hr (by decide) (by rfl) (pa_cons (pe_df D1 hr (by decide) (by rfl) (pa_cons (pv 0) (pa_cons (pv 1) (pa_cons (pv 2) pa_nil)))) pa_nil))))), ?_⟩
    refine ⟨vp, rfl, vw, rfl, vd, rfl, vp, vw, vd, rows, wm, dm, rfl, hp, G, hw, hd, fun D H1 L1 e1 hDn g1 kp1 => ?_⟩
    refine ⟨D, L1, _, rfl, g1, kp1, fun v H2 e2 h1 h2 => ?_⟩
    have : decide (v = .non) = acR rows wm dm := by
      unfold acR
      cases e : acyc (cloM (dirM rows wm dm)) with
      | true => exact decide_eq_true (h1 e)
      | false =>
        obtain ⟨n, rfl⟩ := h2 e
        rfl
    show Q (.bl (decide (v = .non))) H2
    rw [this]
    exact q H2 (e1.trans e2)
end
end K82
/-! The class Ground: all_drained. -/
namespace K82
open PySem PySem.Spec PyProof.Rows L2 Evl RZ

section
variable {X : Cx}
theorem op_inQ (K : PySem.W.Frag) (hK : X.K = K) : OpR X (compareOp .In) (rIn K false) := hK ▸ op_in_seq
theorem ix_tupK (K : PySem.W.Frag) (hK : X.K = K) : IxR X (rIxT K) := hK ▸ ix_tup
theorem ix_listK (K : PySem.W.Frag) (hK : X.K = K) : IxR X (rIxL K) := hK ▸ ix_list
theorem pe_fldK (K : PySem.W.Frag) (hK : X.K = K) {o : Expr} {f : Str} {pos : Pos} {ta : TE} (h : PE X (.Attribute o f pos) (tFld X.K ta f)) : PE X (.Attribute o f pos) (tFld K ta f) := hK ▸ h
end
structure Gr (K : PySem.W.Frag) (mg : Str → Option Value) (C : Addr) : Prop where
  cl : Cls K C
  nSource : NoAttr K C "source"
  nPairs : NoAttr K C "pairs"
  nNames : NoAttr K C "names"
  nOrder : NoAttr K C "order"
  nDrained : NoAttr K C "drained"
  nPlaces : NoAttr K C "places"
  nMemo : NoAttr K C "memo"
  nEarly : NoAttr K C "early"
  mgC : mg "Ground" = some (.ref C)
def natsV (ns : List Nat) : List V := ns.map fun (n : Nat) => V.int (n : Int)
theorem inV_nats (n : Nat) (ns : List Nat) : inV (.int (n : Int)) (natsV ns) = decide (n ∈ ns) := by
  unfold inV natsV
  rw [List.any_map, Bool.eq_iff_iff, List.any_eq_true, decide_eq_true_iff]
  constructor
  · rintro ⟨m, hm, e⟩
    have : ((m : Int) == (n : Int)) = true ∨ decide (V.int (m : Int) = V.int (n : Int)) = true := by
      first | exact .inr e | exact .inl e
    rcases this with h | h
    · have h2 : (m : Int) = n := by simpa using h
      have : m = n := by omega
      exact this ▸ hm
    · have h2 := V.int.inj (of_decide_eq_true h)
      have : m = n := by omega
      exact this ▸ hm
  · intro h
    exact ⟨n, h, by first | exact decide_eq_true rfl | exact beq_self_eq_true _⟩
theorem natsV_flat : ∀ ns : List Nat, (natsV ns).all flatV = true
  | [] => rfl
  | _ :: ns => natsV_flat ns
/-- what a test on the i-th of ns says -/
def atN (ns : List Nat) (f : Nat → Bool) (i : Nat) : Bool := match ns[i]? with | some n => f n | none => false
def dtN (ns : List Nat) (i : Nat) : NK := nmD ((ns[i]?).getD 0)
theorem gvn_nats (ns : List Nat) (f : Nat → Bool) : gvn ns.length (atN ns f) (dtN ns) = (ns.filter f).map nmD :=
  gvn_list ns f nmD _ _ (fun i x h => by unfold atN; rw [h]) (fun i x h => by unfold dtN; rw [h]; rfl)
theorem rel_drM {ns : List Nat} {c : Nat} {ds : List (Nat × Nat)} {x y : Nat} (hns : ∀ n ∈ ns, n < 10) (hy : y < 10) : rel (drM ns c ds) x y = (decide (x ∈ ns ∧ y ∈ ns) && ds.any fun q => reach c x q.1 && reach c q.2 y) := by
  unfold drM
  rw [rel_mkL (fun p hp => hns _ (sq_mem.mp hp).2) hy]
  congr 1
  rw [Bool.eq_iff_iff, decide_eq_true_iff, decide_eq_true_iff, sq_mem]

section
variable {P : Program} {w : World} {K : PySem.W.Frag} {mg : Str → Option Value} {base : Heap}
abbrev nmDrained : List Str := ["self", "drains", "found", "first", "last", "ahead", "later", "one", "two", "name"]
theorem scDrained : FnScope nmDrained ["self", "drains"] (defScope sAllDrained) := ⟨rfl, rfl, rfl, by decide +kernel, rfl, by decide +kernel, by decide +kernel⟩
def spDrained (w : World) (C : Addr) : Sp := fun vs H Q _ => ∃ (p dx an dp : Addr) (fs : List (Str × V)) (ns : List Nat) (Lp : List NK) (c dm : Nat) (vd : V), vs = [.ref p, vd] ∧ H p = some (.ins C dx fs) ∧ fs.lookup ("names" : Str) = some (.ref an) ∧ H an = some (.tup (natsV ns)) ∧ (∀ n ∈ ns, n < 10) ∧ ns.length ≤ 10 ∧
  fs.lookup ("pairs" : Str) = some (.ref dp) ∧ DK w H dp Lp ∧ KP Lp c ∧ Is H vd (psM dm) ∧ ∀ l H' us L, Ex H H' → H l = none → H' l = some (.lst us) → IsAll H' us L → KP L (drM ns c (prs dm)) → Q (.ref l) H'
set_option maxHeartbeats 8000000 in
theorem ok_drained {f C : Addr} {fd : FuncData} (F : Fun K "all_drained" "Ground.all_drained" sAllDrained f fd) (T : Gr K mg C) (D1 : Df P w K mg base "reaches" 1 ["pairs", "one", "two"] (spReaches w)) (mL : mg "list" = none) : FnOk P w K mg base CX0 2 f fd ["self", "drains"] (spDrained w C) := by
  refine F.ok scDrained (fun vs H Q E h => ?_) (fun cdv A outer s H vs Q E hr h => ?_)
  · obtain ⟨_, _, _, _, _, _, _, _, _, _, rfl, _⟩ := h; rfl
  · obtain ⟨p, dx, an, dp, fs, ns, Lp, c, dm, vd, rfl, hp, lN, han, hns, hnl, lP, gp, kpp, hd, q⟩ := h
    have nd := scDrained.nd
    refine ⟨_, pss_cons (ps_set (i := 2) nd rfl (Or.inl rfl) pe_gnew)
      (pss_cons (ps_for PassesOwn.never rfl (pi_tup (pv 1)) (pg_tup rfl (pgs_cons (pg_name (i := 3) nd rfl (Or.inr rfl)) (pgs_cons (pg_name (i := 4) nd rfl (Or.inr rfl)) pgs_nil)))
        (pss_cons (ps_setLc (i := 5) (own := [("name", 9)]) (g := gName 9) rfl nd rfl rfl (sw_true rfl rfl rfl (by decide +kernel)) (pi_tup (pe_fld (pv 0) rfl)) (blkOk_by (N := nmDrained) (sc := defScope sAllDrained) (by decide +kernel))
            (fun _ _ _ _ _ => pg_name (i := 9) nd rfl (Or.inl rfl)) (fun _ _ _ _ _ => pts_one (pt_val (pe_df D1 hr (Nat.le_refl _) (by rfl) (pa_cons (pe_fldK K rfl (pe_fld (pv 0) rfl)) (pa_cons (pv 9) (pa_cons (pv 3) pa_nil)))))) (fun _ _ _ _ _ => pv 9))
        (pss_cons (ps_setLc (i := 6) (own := [("name", 9)]) (g := gName 9) rfl nd rfl rfl (sw_true rfl rfl rfl (by decide +kernel)) (pi_tup (pe_fld (pv 0) rfl)) (blkOk_by (N := nmDrained) (sc := defScope sAllDrained) (by decide +kernel))
            (fun _ _ _ _ _ => pg_name (i := 9) nd rfl (Or.inl rfl)) (fun _ _ _ _ _ => pts_one (pt_val (pe_df D1 hr (Nat.le_refl _) (by rfl) (pa_cons (pe_fldK K rfl (pe_fld (pv 0) rfl)) (pa_cons (pv 4) (pa_cons (pv 9) pa_nil)))))) (fun _ _ _ _ _ => pv 9))
        (pss_one (ps_for PassesOwn.never rfl (pi_list (pv 5)) (pg_name (i := 7) nd rfl (Or.inl rfl))
          (pss_one (ps_for PassesOwn.never rfl (pi_list (pv 6)) (pg_name (i := 8) nd rfl (Or.inl rfl))
            (pss_one (ps_asg pe_bl (pg_sub (pv 2) (pe_tup (pa_cons (pv 7) (pa_cons (pv 8) pa_nil))) (set_G (hu9 hr)))))))))))) (pss_one (ps_ret (pe_callTy (call_listG rfl) (by rfl) mL (by decide +kernel) (pa_cons (pv 2) pa_nil))))), ?_⟩
    obtain ⟨ad, ds, rfl, had, hds⟩ := ps_item hd
    have hdl : ds.length = (prs dm).length := by rw [hds.length, List.length_map]
    have hvl : (natsV ns).length = ns.length := by unfold natsV; rw [List.length_map]
    intro D H1 hDn c1 g1
    have e1 : Ex H H1 := c1.ex (Ex.refl _) hDn
    refine ⟨_, rfl, ad, rfl, ⟨_, SqT.of (e1 _ _ had)⟩, ?_⟩
    refine for_tup (xs := ds) (fun i σ H2 => ∃ y3 y4 y5 y6 y7 y8, σ = [some (.ref p), some (.ref ad), some (.ref D), y3, y4, y5, y6, y7, y8, none] ∧ Ex H H2 ∧ ∃ L, DK w H2 D L ∧ KP L (drM ns c ((prs dm).take i)))
      ⟨none, none, none, none, none, none, rfl, e1, [], g1, KP.empty.congr fun x y hx hy => by rw [rel_drM hns hy, rel_zero]; simp⟩ (fun i σ H2 _ ⟨_, _, _, _, _, _, _, e2, _⟩ => SqT.of (e2 _ _ had)) ?_ ?_
    · rintro ii x σ H2 hx ⟨y3, y4, y5, y6, y7, y8, rfl, e2, L2, g2, kp2⟩
      obtain ⟨pr, hpr, isx⟩ := pairs_at hds hx
      obtain ⟨ax, rfl, hax⟩ := pD_inv isx
      obtain ⟨u, v⟩ := pr
      obtain ⟨hu10, hv10, huv⟩ := prs_mem.mp (List.mem_of_getElem? hpr)
      refine ⟨ax, _, rfl, SqT.of (e2 _ _ hax), rfl, _, _, rfl, _, _, rfl, rfl, ?_⟩
      -- ahead
      refine ⟨_, rfl, p, C, dx, fs, _, rfl, e2 _ _ hp, T.cl, T.nNames, lN, an, rfl, ⟨_, SqT.of (e2 _ _ han)⟩, fun l1 hl1 => ?_⟩
      refine lc_data (walk_tup (K := K) (a := an) (xs := natsV ns)) (atN ns fun n => reach c n u) (dtN ns) hl1 (by omega) (fun H3 e3 => SqT.of (e3 _ _ (e2 _ _ han))) ?_ ?_
      · rintro i x H3 H3' hi e3 ⟨rfl, hx⟩ Q' k
        obtain ⟨n, hn, rfl⟩ := nats_at hx
        have hn10 := hns n (List.mem_of_getElem? hn)
        refine k _ _ (Ex.refl _) rfl ?_ ?_
        · unfold atN
          rw [hn]
          intro H4 e4 Q2 q2
          have e24 := (e2.trans e3).trans e4
          exact ⟨_, rfl, p, C, dx, fs, _, rfl, e24 _ _ hp, T.cl, T.nPairs, lP, _, rfl, _, rfl, dp, Lp, c, n, u, rfl, gp.ext e24, kpp, hn10, hu10, fun H5 e5 => ⟨_, rfl, q2 _ e5⟩⟩
        · intro _
          unfold dtN
          rw [hn]
          exact evP_var rfl (.num _)
      intro H3 us e3 hus hall
      rw [hvl, gvn_nats] at hall
      have eA := IsAll.nats hall
      subst eA
      -- later
      refine ⟨_, rfl, p, C, dx, fs, _, rfl, (e2.trans e3) _ _ hp, T.cl, T.nNames, lN, an, rfl, ⟨_, SqT.of ((e2.trans e3) _ _ han)⟩, fun l2 hl2 => ?_⟩
      refine lc_data (walk_tup (K := K) (a := an) (xs := natsV ns)) (atN ns fun n => reach c v n) (dtN ns) hl2 (by omega) (fun H4 e4 => SqT.of (e4 _ _ ((e2.trans e3) _ _ han))) ?_ ?_
      · rintro i x H4 H4' hi e4 ⟨rfl, hx⟩ Q' k
        obtain ⟨n, hn, rfl⟩ := nats_at hx
        have hn10 := hns n (List.mem_of_getElem? hn)
        refine k _ _ (Ex.refl _) rfl ?_ ?_
        · unfold atN
          rw [hn]
          intro H5 e5 Q2 q2
          have e25 := ((e2.trans e3).trans e4).trans e5
          exact ⟨_, rfl, p, C, dx, fs, _, rfl, e25 _ _ hp, T.cl, T.nPairs, lP, _, rfl, _, rfl, dp, Lp, c, v, n, rfl, gp.ext e25, kpp, hv10, hn10, fun H6 e6 => ⟨_, rfl, q2 _ e6⟩⟩
        · intro _
          unfold dtN
          rw [hn]
          exact evP_var rfl (.num _)
      intro H4 us e4 hus2 hall2
      rw [hvl, gvn_nats] at hall2
      have eB := IsAll.nats hall2
      subst eB
      generalize hAs : ns.filter (fun n => reach c n u) = As at hus
      generalize hBs : ns.filter (fun n => reach c v n) = Bs at hus2
      have hA10 : ∀ n ∈ As, n < 10 := fun n hn => by rw [← hAs] at hn; exact hns _ (List.mem_filter.mp hn).1
      have hB10 : ∀ n ∈ Bs, n < 10 := fun n hn => by rw [← hBs] at hn; exact hns _ (List.mem_filter.mp hn).1
      have e24 := e3.trans e4
      have hne1 : l1 ≠ D := fun z => by obtain ⟨es, h, _⟩ := g2.ex; rw [z, h] at hl1; cases hl1
      have hne2 : l2 ≠ D := fun z => by obtain ⟨es, h, _⟩ := (g2.ext e3).ex; rw [z, h] at hl2; cases hl2
      refine ⟨_, rfl, l1, rfl, ⟨_, SqL.of (e4 _ _ hus)⟩, for_list (xs := As.map fun (n : Nat) => V.int (n : Int)) (fun i σ H5 => ∃ y7 y8, σ = [some (.ref p), some (.ref ad), some (.ref D), some (.int (u : Int)), some (.int (v : Int)), some (.ref l1), some (.ref l2), y7, y8, none] ∧ Ex H H5 ∧
        H5 l1 = some (.lst (As.map fun (n : Nat) => V.int (n : Int))) ∧ H5 l2 = some (.lst (Bs.map fun (n : Nat) => V.int (n : Int))) ∧ ∃ L, DK w H5 D L ∧ KP L (drM ns c ((prs dm).take ii) ||| maskL (prodTo As Bs i)))
        ⟨y7, y8, rfl, e2.trans e24, e4 _ _ hus, hus2, L2, g2.ext e24, ?_⟩ (fun i σ H5 _ ⟨_, _, _, _, h, _⟩ => SqL.of h) ?_ ?_⟩
      · show KP L2 (drM ns c ((prs dm).take ii) ||| 0)
        rw [Nat.or_zero]; exact kp2
      · rintro j x σ H5 hx ⟨y7, y8, rfl, e5, hu1, hu2, L5, g5, kp5⟩
        obtain ⟨n1, hn1, rfl⟩ := nats_at hx
        refine ⟨_, rfl, l2, rfl, ⟨_, SqL.of hu2⟩, for_list (xs := Bs.map fun (n : Nat) => V.int (n : Int)) (fun k σ H6 => ∃ y8, σ = [some (.ref p), some (.ref ad), some (.ref D), some (.int (u : Int)), some (.int (v : Int)), some (.ref l1), some (.ref l2), some (.int (n1 : Int)), y8, none] ∧ Ex H H6 ∧
          H6 l1 = some (.lst (As.map fun (n : Nat) => V.int (n : Int))) ∧ H6 l2 = some (.lst (Bs.map fun (n : Nat) => V.int (n : Int))) ∧ ∃ L, DK w H6 D L ∧ KP L (drM ns c ((prs dm).take ii) ||| maskL (prodIn As Bs j k n1)))
          ⟨y8, rfl, e5, hu1, hu2, L5, g5, by rw [prod_zero]; exact kp5⟩ (fun i σ H5 _ ⟨_, _, _, _, h, _⟩ => SqL.of h) ?_ ?_⟩
        · rintro k x σ H6 hx ⟨y8, rfl, e6, hu1, hu2, L6, g6, kp6⟩
          obtain ⟨n2, hn2, rfl⟩ := nats_at hx
          refine ⟨_, rfl, _, rfl, _, rfl, by show 2 ≤ sizeLine; decide, fun t ht => ?_⟩
          have e7 := Ex.new ht (o := .tup [.int (n1 : Int), .int (n2 : Int)])
          refine ⟨D, L6, pD (n1, n2), rfl, g6.ext e7, .tup upd_same (.cons (.num _) (.cons (.num _) .nil)), .inr ⟨t, rfl⟩, pD_depth _, kp6.lt, fun H8 c8 g8 => ⟨_, rfl, c8.ex (e6.trans e7) hDn, (c8 _ hne1).trans (e7 _ _ hu1), (c8 _ hne2).trans (e7 _ _ hu2), _, g8, ?_⟩⟩
          rw [prod_next hn2, maskL_snoc, ← Nat.or_assoc]
          exact kp6.ins (hA10 _ (List.mem_of_getElem? hn1)) (hB10 _ (List.mem_of_getElem? hn2))
        · rintro σ H6 ⟨y8, rfl, e6, hu1, hu2, L6, g6, kp6⟩
          refine ⟨_, _, rfl, e6, hu1, hu2, L6, g6, ?_⟩
          rw [List.length_map, prod_done hn1] at kp6
          exact kp6
      · rintro σ H5 ⟨y7, y8, rfl, e5, hu1, hu2, L5, g5, kp5⟩
        refine ⟨_, _, _, _, _, _, rfl, e5, L5, g5, kp5.congr fun x y hx hy => ?_⟩
        rw [take_snoc hpr, rel_or, rel_drM hns hy, rel_drM hns hy, List.any_append, List.length_map, rel_maskL (fun p hp => hB10 _ (prod_all.mp hp).2) hy, Bool.and_or_distrib_left]
        congr 1
        rw [Bool.eq_iff_iff, decide_eq_true_iff, prod_all, ← hAs, ← hBs, Bool.and_eq_true, List.mem_filter, List.mem_filter, decide_eq_true_iff]
        simp only [List.any_cons, List.any_nil, Bool.or_false, Bool.and_eq_true]
        exact ⟨fun h => ⟨⟨h.1.1, h.2.1⟩, ⟨h.1.2, h.2.2⟩⟩, fun h => ⟨⟨h.1.1, h.2.1⟩, ⟨h.1.2, h.2.2⟩⟩⟩
    · rintro σ H2 ⟨y3, y4, y5, y6, y7, y8, rfl, e2, L2, g2, kp2⟩
      rw [hdl, List.take_length] at kp2
      exact ⟨_, rfl, D, L2, rfl, g2, fun l us H3 hl c3 hus hall => q l H3 us L2 (c3.ex e2 (fresh_back e2 hl)) (fresh_back e2 hl) hus hall kp2⟩
end
end K82
/-! The class Ground: __init__; regime_of. -/
namespace K82
open PySem PySem.Spec PyProof.Rows L2 Evl RZ

/-- all but p stays -/
def ExB (p : Addr) (H H' : Hp) : Prop := ∀ b o, b ≠ p → H b = some o → H' b = some o
theorem ExB.of {p : Addr} {H H' : Hp} (e : Ex H H') : ExB p H H' := fun b o _ h => e b o h
theorem ExB.trans {p : Addr} {H H1 H2 : Hp} (a : ExB p H H1) (b : ExB p H1 H2) : ExB p H H2 := fun x o n h => b x o n (a x o n h)
theorem ExB.upd {p : Addr} {H : Hp} {o : HO} : ExB p H (upd H p o) := fun b u n h => by rw [upd_ne n]; exact h
theorem ExB.tk {p : Addr} {H H' : Hp} (a : ExB p H H') (h : ∀ xs, H p ≠ some (.tup xs)) : Tk H H' := fun b xs e => a b _ (fun z => h xs (z ▸ e)) e
theorem DK.exB {w : World} {H H' : Hp} {d p : Addr} {L : List NK} (g : DK w H d L) (e : ExB p H H') (hne : d ≠ p) (h : ∀ xs, H p ≠ some (.tup xs)) : DK w H' d L := by
  obtain ⟨es, h1, h2, h3⟩ := g.ex
  exact ⟨es, e d _ hne h1, h2, fun x hx => ⟨(h3 x hx).1.mv (e.tk h), (h3 x hx).2⟩⟩
theorem lock_ex {H H' : Hp} {d : Addr} {od : Obj} {u : HO} (h : H d = some u) (e : Ex (upd H d (.frz od u)) H') : Ex H (upd H' d u) := fun b o hb => by
  by_cases z : b = d
  · subst z
    rw [upd_same, ← h, hb]
  · rw [upd_ne z]
    exact e b o (by rw [upd_ne z]; exact hb)
theorem lock_tk {H' : Hp} {d : Addr} {od : Obj} {u : HO} (h : H' d = some (.frz od u)) : Tk H' (upd H' d u) := Chg.tku fun xs z => by rw [h] at z; cases z
theorem lkN {f g : Str} {v : V} {fs : List (Str × V)} (h : ¬ g = f) : (putF f v fs).lookup g = fs.lookup g := by rw [lookup_putF, if_neg h]
theorem lkY {f : Str} {v : V} {fs : List (Str × V)} : (putF f v fs).lookup f = some v := by rw [lookup_putF, if_pos rfl]
theorem putF_len (f : Str) (v : V) : ∀ fs : List (Str × V), (putF f v fs).length ≤ fs.length + 1
  | [] => Nat.le_refl _
  | (g, x) :: r => by
    show (if g = f then (g, v) :: r else (g, x) :: putF f v r).length ≤ _
    split
    · show r.length + 1 ≤ r.length + 1 + 1; omega
    · have := putF_len f v r
      show (putF f v r).length + 1 ≤ r.length + 1 + 1
      omega
theorem putF_few {f : Str} {v : V} {fs : List (Str × V)} {n : Nat} (h : fs.length ≤ n) : (putF f v fs).length ≤ n + 1 := Nat.le_trans (putF_len f v fs) (Nat.succ_le_succ h)
theorem few {fs : List (Str × V)} {n : Nat} (h : fs.length ≤ n) (hn : n < 1000) : fs.length < 1000 := Nat.lt_of_le_of_lt h hn
theorem putK_few {kvs : List (Key × V)} {k : Key} {v : V} {n : Nat} (h : kvs.length ≤ n) : (putK kvs k v).length ≤ n + 1 := by
  cases e : valV kvs k with
  | none => rw [putK_new _ e, List.length_append]; exact Nat.succ_le_succ h
  | some u =>
    unfold putK
    split
    · rw [List.length_map]; omega
    · rw [List.length_append]; exact Nat.succ_le_succ h

theorem nilT {σ : L2.St} {H : Hp} {Q : List V → Hp → Prop} (h : Q [] H) : tNil σ H Q := h
/-- sorted of the pairs of a mask -/
theorem sorted_kp {K : PySem.W.Frag} {H : Hp} {l : Addr} {us : List V} {L : List NK} {m : Nat} {Q : VK} (hl : H l = some (.lst us)) (ha : IsAll H us L) (kp : KP L m) (q : ∀ l2 ys H', Ex H H' → H' l2 = some (.lst ys) → IsAll H' ys ((prs m).map pD) → Q (.ref l2) H') : rSortB K pD [.ref l] H Q := by
  obtain ⟨bs, rfl, hs, hlen⟩ := kp.sorted
  refine ⟨l, us, bs, rfl, SqL.of hl, ha, sorts_pD bs, by omega, fun l2 ys H4 hl2 c4 hys hall2 => ?_⟩
  rw [hs] at hall2
  exact q l2 ys H4 (c4.ex (Ex.refl _) hl2) hys hall2
theorem tup_ps {H4 : Hp} {t : Addr} {ys : List V} {m : Nat} (ht : H4 t = none) (ha : IsAll H4 ys ((prs m).map pD)) : Is (upd H4 t (.tup ys)) (.ref t) (psM m) := .tup upd_same (ha.ex (Ex.new ht))
theorem et_inNames {K : PySem.W.Frag} {mg : Str → Option Value} {C : Addr} {σ : L2.St} {H : Hp} {i s : Nat} {ax p dx an : Addr} {us : List V} {fs : List (Str × V)} {ns : List Nat} {j n : Nat} (T : Gr K mg C) (h1 : σ[i]? = some (some (.ref ax))) (h2 : σ[s]? = some (some (.ref p))) (hx : H ax = some (.tup us)) (hn : us[j]? = some (.int (n : Int)))
    (hp : H p = some (.ins C dx fs)) (lN : fs.lookup ("names" : Str) = some (.ref an)) (han : H an = some (.tup (natsV ns))) : EvT (tTest (tOp (rIn K false) (tOp (rIxT K) (tVar i) (tC (.int (j : Int)))) (tFld K (tVar s) "names"))) σ H (decide (n ∈ ns)) := fun H1 e Q q => by
  refine ⟨_, h1, ax, us, (j : Int), _, rfl, rfl, SqT.of (e _ _ hx), atI_nat hn, _, h2, p, C, dx, fs, _, rfl, e _ _ hp, T.cl, T.nNames, lN, an, natsV ns, rfl, .inr (SqT.of (e _ _ han)), rfl, natsV_flat ns, _, rfl, ?_⟩
  show Q (inV _ _) H1
  rw [inV_nats]
  exact q H1 (Ex.refl _)
def atP (l : List (Nat × Nat)) (f : Nat × Nat → Bool) (i : Nat) : Bool := match l[i]? with | some n => f n | none => false
def dtP (l : List (Nat × Nat)) (i : Nat) : NK := pD ((l[i]?).getD (0, 0))
theorem gvn_pairs (l : List (Nat × Nat)) (f : Nat × Nat → Bool) : gvn l.length (atP l f) (dtP l) = (l.filter f).map pD :=
  gvn_list l f pD _ _ (fun i x h => by unfold atP; rw [h]) (fun i x h => by unfold dtP; rw [h]; rfl)
theorem KP.ord {l : List (Nat × Nat)} {c : Nat} {ns : List Nat} (hns : ∀ n ∈ ns, n < 10) (nd : l.Nodup) (mem : ∀ p, p ∈ l ↔ p ∈ prs c) : KP ((l.filter fun q => decide (q.1 ∈ ns) && decide (q.2 ∈ ns)).map pD) (ordM ns c) := by
  have hr : ∀ x y, y < 10 → rel (ordM ns c) x y = (decide ((x, y) ∈ sq ns) && rel c x y) := fun x y hy => rel_mkL (fun p hp => hns _ (sq_mem.mp hp).2) hy
  refine ⟨List.pairwise_map.mpr ((nd.sublist List.filter_sublist).imp fun h e => h (pD_inj e)), fun k => ?_⟩
  rw [List.mem_map]
  constructor
  · rintro ⟨p, hp, rfl⟩
    obtain ⟨h1, h2⟩ := List.mem_filter.mp hp
    obtain ⟨hx, hy, hc⟩ := prs_mem.mp ((mem p).mp h1)
    rw [Bool.and_eq_true, decide_eq_true_iff, decide_eq_true_iff] at h2
    exact ⟨p.1, p.2, hx, hy, by rw [hr _ _ hy, hc, decide_eq_true (sq_mem.mpr h2)]; rfl, rfl⟩
  · rintro ⟨x, y, hx, hy, h, rfl⟩
    rw [hr _ _ hy, Bool.and_eq_true, decide_eq_true_iff] at h
    refine ⟨(x, y), List.mem_filter.mpr ⟨(mem _).mpr (prs_mem.mpr ⟨hx, hy, h.2⟩), ?_⟩, rfl⟩
    have := sq_mem.mp h.1
    rw [Bool.and_eq_true, decide_eq_true_iff, decide_eq_true_iff]
    exact this
/-- the mask lies within the names -/
def Wi (ns : List Nat) (d : Nat) : Prop := ∀ x y, x < 10 → y < 10 → rel d x y = true → x ∈ ns ∧ y ∈ ns
theorem drM_eq {ns : List Nat} {c d : Nat} (hns : ∀ n ∈ ns, n < 10) (hw : Wi ns d) : prs (drM ns c (prs d)) = prs (regC ns c d).2 := by
  refine prs_ext fun x y hx hy => ?_
  show rel (drM ns c (prs d)) x y = rel (drM ns c ((sq ns).filter fun p => rel d p.1 p.2)) x y
  rw [rel_drM hns hy, rel_drM hns hy]
  congr 1
  rw [Bool.eq_iff_iff, List.any_eq_true, List.any_eq_true]
  constructor
  · rintro ⟨q, hq, h⟩
    obtain ⟨h1, h2, h3⟩ := prs_mem.mp hq
    exact ⟨q, List.mem_filter.mpr ⟨sq_mem.mpr (hw _ _ h1 h2 h3), h3⟩, h⟩
  · rintro ⟨q, hq, h⟩
    obtain ⟨h1, h2⟩ := List.mem_filter.mp hq
    obtain ⟨h3, h4⟩ := sq_mem.mp h1
    exact ⟨q, prs_mem.mpr ⟨hns _ h3, hns _ h4, h2⟩, h⟩

section
variable {P : Program} {w : World} {K : PySem.W.Frag} {mg : Str → Option Value} {base : Heap}
abbrev nmInit : List Str := ["self", "plan", "waits", "drains", "name", "pair"]
theorem scInit : FnScope nmInit ["self", "plan", "waits", "drains"] (defScope sInit) := ⟨rfl, rfl, rfl, by decide +kernel, rfl, by decide +kernel, by decide +kernel⟩
def spInit (C : Addr) : Sp := fun vs H Q _ => ∃ (p dx : Addr) (vp vw vd : V) (rows : List (List Nat)) (wm dm : Nat), vs = [.ref p, vp, vw, vd] ∧ H p = some (.ins C dx []) ∧ Is H vp (planD rows) ∧ Good rows ∧ Is H vw (psM wm) ∧ Is H vd (psM dm) ∧ acR rows wm dm = true ∧ Wi (namesOf rows) dm ∧
  ∀ H' fs v1 v2, ExB p H H' → H' p = some (.ins C dx fs) → fs.lookup ("order" : Str) = some v1 → fs.lookup ("drained" : Str) = some v2 → Is H' v1 (psM (regM rows wm dm).1) → Is H' v2 (psM (regM rows wm dm).2) → Q .non H'
set_option maxHeartbeats 16000000 in
theorem ok_init {f fA C : Addr} {fd fdA : FuncData} (F : Fun K "__init__" "Ground.__init__" sInit f fd) (T : Gr K mg C) (D1 : Df P w K mg base "follows_of" 2 ["plan", "waits", "drains"] (spFollows w)) (D2 : Df P w K mg base "round_name" 1 ["pairs"] (spRound w)) (D3 : Df P w K mg base "names_of" 2 ["plan"] spNames) (D4 : Df P w K mg base "place_of" 3 ["plan", "name"] spPlace)
    (GA : FnOk P w K mg base CX0 2 fA fdA ["self", "drains"] (spDrained w C)) (bA : Binds K fdA ["self", "drains"] []) (mA : Meth K C "all_drained" fA) (mT : mg "tuple" = none) (mS : mg "sorted" = none) : FnOk P w K mg base CX0 4 f fd ["self", "plan", "waits", "drains"] (spInit C) := by
  refine F.ok scInit (fun vs H Q E h => ?_) (fun cdv A outer s H vs Q E hr h => ?_)
  · obtain ⟨_, _, _, _, _, _, _, _, rfl, _⟩ := h; rfl
  · obtain ⟨p, dx, vp, vw, vd, rows, wm, dm, rfl, hp, hpl, G, hw, hd, hac, hwi, q⟩ := h
    have nd := scInit.nd
    refine ⟨_, pss_cons (ps_fld (pv 0) (pv 1) rfl)
      (pss_cons (ps_fld (pv 0) (pe_df D1 hr (by decide) (by rfl) (pa_cons (pv 1) (pa_cons (pv 2) (pa_cons (pv 3) pa_nil)))) rfl)
      (pss_cons (ps_set (i := 4) nd rfl (Or.inl rfl) (pe_df D2 hr (by decide) (by rfl) (pa_cons (pe_fld (pv 0) rfl) pa_nil)))
      (pss_cons (ps_if (pt_cmp (pc_notN (pv 4))) (pss_one ps_never) pss_nil)
      (pss_cons (ps_fld (pv 0) (pe_df D3 hr (by decide) (by rfl) (pa_cons (pv 1) pa_nil)) rfl)
      (pss_cons (ps_fld (pv 0) (pe_callTy call_tuple_of (by rfl) mT (by decide +kernel) (pa_cons (pe_callB (call_sortB (huS hr) pD) (by rfl) mS (by decide +kernel) (pa_cons
          (pe_lock (pe_lc (own := [("pair", 5)]) (g := gName 5) rfl nd (pi_G (pe_fld (pv 0) rfl)) (blkOk_by (N := nmInit) (sc := defScope sInit) (by decide +kernel))
            (fun _ _ _ _ _ => pg_name (i := 5) nd rfl (Or.inl rfl))
            (fun _ _ _ _ _ => pts_one (pw_and (pt_cmpR (op_inQ K rfl) (pe_ix (ix_tupK K rfl) (pv 5) pe_int (fun _ _ => rfl)) (pe_fldK K rfl (pe_fld (pv 0) rfl)) rfl) (pw_and1 (pt_cmpR (op_inQ K rfl) (pe_ix (ix_tupK K rfl) (pv 5) pe_int (fun _ _ => rfl)) (pe_fldK K rfl (pe_fld (pv 0) rfl)) rfl))).pt)
            (fun _ _ _ _ _ => pv 5))) pa_nil)) pa_nil)) rfl)
      (pss_cons (ps_fld (pv 0) (pe_callTy call_tuple_of (by rfl) mT (by decide +kernel) (pa_cons (pe_callB (call_sortB (huS hr) pD) (by rfl) mS (by decide +kernel) (pa_cons
          (pe_meth (pv 0) T.cl mA GA (hr.mono (by decide)) bA .nil pass0 (pa_cons (pv 3) pa_nil)) pa_nil)) pa_nil)) rfl)
      (pss_cons (ps_fld (pv 0) (pe_dc (own := [("name", 4)]) (g := gName 4) (tt := tYes) rfl nd (pi_tup (pe_fld (pv 0) rfl)) (blkOk_by (N := nmInit) (sc := defScope sInit) (by decide +kernel))
            (fun _ _ _ _ _ => pg_name (i := 4) nd rfl (Or.inl rfl)) (fun _ _ _ _ _ => pts_nil) (fun _ _ _ _ _ => pv 4) (fun _ _ _ _ _ => pe_df D4 hr (by decide) (by rfl) (pa_cons (pv 1) (pa_cons (pv 4) pa_nil)))) rfl)
      (pss_cons (ps_fld (pv 0) pe_dnewK rfl) (pss_one (ps_fld (pv 0) pe_dnewK rfl)))))))))), ?_⟩
    have hns : ∀ n ∈ namesOf rows, n < 10 := fun n hn => (namesOf_mem.mp hn).1
    have hnl := namesOf_len rows
    have npi : ∀ {X : Hp} {fs : List (Str × V)}, X p = some (.ins C dx fs) → ∀ xs, X p ≠ some (.tup xs) := fun h xs z => by rw [h] at z; cases z
    have npt := npi hp
    -- self.source = plan
    refine ⟨vp, rfl, _, rfl, p, C, dx, [], rfl, hp, T.cl, T.nSource, by decide, ?_⟩
    have E1 : ExB p H (upd H p (.ins C dx (putF "source" vp []))) := ExB.upd
    have hp1 : (upd H p (.ins C dx (putF "source" vp []))) p = some (.ins C dx (putF "source" vp [])) := upd_same
    have fl1 : (putF "source" vp []).length ≤ 1 := putF_few (Nat.le_refl 0)
    have lA1 : (putF "source" vp []).lookup ("all_drained" : Str) = none := lkN (by decide +kernel)
    generalize upd H p (.ins C dx (putF "source" vp [])) = H1 at E1 hp1
    generalize putF "source" vp [] = fs1 at hp1 fl1 lA1
    -- self.pairs = follows_of(plan, waits, drains)
    refine ⟨vp, rfl, vw, rfl, vd, rfl, vp, vw, vd, rows, wm, dm, rfl, hpl.mv (E1.tk npt), G, hw.mv (E1.tk npt), hd.mv (E1.tk npt), fun dp H2 L2 e2 hdp g2 kp2 => ?_⟩
    have ndp : dp ≠ p := fun z => by rw [z, hp1] at hdp; cases hdp
    have hp2 := e2 _ _ hp1
    refine ⟨_, rfl, p, C, dx, fs1, rfl, hp2, T.cl, T.nPairs, few fl1 (by decide), ?_⟩
    have E3 : ExB p H (upd H2 p (.ins C dx (putF "pairs" (.ref dp) fs1))) := (E1.trans (ExB.of e2)).trans ExB.upd
    have hp3 : (upd H2 p (.ins C dx (putF "pairs" (.ref dp) fs1))) p = some (.ins C dx (putF "pairs" (.ref dp) fs1)) := upd_same
    have g3 : DK w (upd H2 p (.ins C dx (putF "pairs" (.ref dp) fs1))) dp L2 := g2.exB ExB.upd ndp (npi hp2)
    have fl3 : (putF "pairs" (.ref dp) fs1).length ≤ 2 := putF_few fl1
    have lP3 : (putF "pairs" (.ref dp) fs1).lookup ("pairs" : Str) = some (.ref dp) := lkY
    have lA3 : (putF "pairs" (.ref dp) fs1).lookup ("all_drained" : Str) = none := (lkN (by decide +kernel)).trans lA1
    generalize upd H2 p (.ins C dx (putF "pairs" (.ref dp) fs1)) = H3 at E3 hp3 g3
    generalize putF "pairs" (.ref dp) fs1 = fs3 at hp3 fl3 lP3 lA3
    -- name = round_name(self.pairs); if name is not None
    refine ⟨_, rfl, p, C, dx, fs3, .ref dp, rfl, hp3, T.cl, T.nPairs, lP3, dp, L2, _, rfl, g3, kp2, fun v H4 e4 h1 _ => ?_⟩
    obtain rfl := h1 hac
    refine ⟨.non, rfl, _, rfl, iteNS rfl ?_⟩
    -- self.names = names_of(plan)
    have E4 := E3.trans (ExB.of e4)
    refine ⟨vp, rfl, vp, rows, rfl, hpl.mv (E4.tk npt), G, fun an H5 e5 han hna => ?_⟩
    have hp4 := e4 _ _ hp3
    have hp5 := e5 _ _ hp4
    have nan : an ≠ p := fun z => by rw [z, hp4] at han; cases han
    refine ⟨_, rfl, p, C, dx, fs3, rfl, hp5, T.cl, T.nNames, few fl3 (by decide), ?_⟩
    have E6 : ExB p H (upd H5 p (.ins C dx (putF "names" (.ref an) fs3))) := (E4.trans (ExB.of e5)).trans ExB.upd
    have hp6 : (upd H5 p (.ins C dx (putF "names" (.ref an) fs3))) p = some (.ins C dx (putF "names" (.ref an) fs3)) := upd_same
    have g6 : DK w (upd H5 p (.ins C dx (putF "names" (.ref an) fs3))) dp L2 := ((g3.ext e4).ext e5).exB ExB.upd ndp (npi hp5)
    have ha6 : (upd H5 p (.ins C dx (putF "names" (.ref an) fs3))) an = some (.tup (natsV (namesOf rows))) := (upd_ne nan).trans hna
    have fl6 : (putF "names" (.ref an) fs3).length ≤ 3 := putF_few fl3
    have lN6 : (putF "names" (.ref an) fs3).lookup ("names" : Str) = some (.ref an) := lkY
    have lP6 : (putF "names" (.ref an) fs3).lookup ("pairs" : Str) = some (.ref dp) := (lkN (by decide +kernel)).trans lP3
    have lA6 : (putF "names" (.ref an) fs3).lookup ("all_drained" : Str) = none := (lkN (by decide +kernel)).trans lA3
    generalize upd H5 p (.ins C dx (putF "names" (.ref an) fs3)) = H6 at E6 hp6 g6 ha6
    generalize putF "names" (.ref an) fs3 = fs6 at hp6 fl6 lN6 lP6 lA6
    -- self.order
    obtain ⟨es, hes, hem, hek⟩ := g6.ex
    obtain ⟨l0, el0, nd0, mem0⟩ := kp2.list
    have hlen0 : es.length = l0.length := by
      have := congrArg List.length (hem.trans el0)
      simpa using this
    have hl100 : l0.length ≤ 100 := by have := kp2.len; rw [el0, List.length_map] at this; exact this
    refine ⟨dp, gO w dp es, hes, trivial, fun od => ?_⟩
    have eL : ∀ {H' : Hp}, Ex (upd H6 dp (.frz od (gO w dp es))) H' → ∀ b o, b ≠ dp → H6 b = some o → H' b = some o := fun e b o n hb => e b o (by rw [upd_ne n]; exact hb)
    refine ⟨_, rfl, p, C, dx, fs6, _, rfl, (by rw [upd_ne ndp.symm]; exact hp6), T.cl, T.nPairs, lP6, dp, od, es, rfl, upd_same, fun l hl => ?_⟩
    have nanp : an ≠ dp := fun z => by rw [z, hes] at ha6; cases ha6
    refine lc_data (walk_G (w := w) (d := dp) (o := od) (es := es)) (atP l0 fun q => decide (q.1 ∈ namesOf rows) && decide (q.2 ∈ namesOf rows)) (dtP l0) hl (by omega) (fun H' e => e _ _ upd_same) ?_ ?_
    · rintro i x H7 H7' hi e7 ⟨rfl, k, hk⟩ Q' kk
      have hlk : l0[i]? = some (l0[i]'(by omega)) := List.getElem?_eq_getElem (by omega)
      generalize l0[i]'(by omega) = pr at hlk
      have hkk : k = pD pr := by
        have h1 : (es.map (·.2))[i]? = some k := by rw [List.getElem?_map, hk]; rfl
        rw [hem, el0, List.getElem?_map, hlk] at h1
        exact (Option.some.inj h1).symm
      subst hkk
      obtain ⟨isx, _, _⟩ := hek _ (List.mem_of_getElem? hk)
      obtain ⟨ax, hax0, hax⟩ := pD_inv isx
      have hax0 : x = .ref ax := hax0
      subst hax0
      have nax : ax ≠ dp := fun z => by rw [z, hes] at hax; cases hax
      have hp7 := eL e7 _ _ ndp.symm hp6
      have ha7 := eL e7 _ _ nanp ha6
      have hx7 := eL e7 _ _ nax hax
      refine kk _ _ (Ex.refl _) rfl ?_ ?_
      · unfold atP
        rw [hlk]
        exact et_and (et_inNames (j := 0) (mg := mg) T rfl rfl hx7 rfl hp7 lN6 ha7) fun _ => et_inNames (j := 1) (mg := mg) T rfl rfl hx7 rfl hp7 lN6 ha7
      · intro _
        unfold dtP
        rw [hlk]
        exact evP_var rfl (.tup hx7 (.cons (.num _) (.cons (.num _) .nil)))
    intro H7 us e7 hus hall
    rw [hlen0, gvn_pairs] at hall
    have hfz7 := e7 _ _ (upd_same (H := H6) (a := dp) (o := .frz od (gO w dp es)))
    refine ⟨hfz7, ?_⟩
    have nl : l ≠ dp := fun z => by rw [z, upd_same] at hl; cases hl
    have hl6 : H6 l = none := by rw [upd_ne nl] at hl; exact hl
    have e67 : Ex H6 (upd H7 dp (gO w dp es)) := lock_ex hes e7
    have hall2 := hall.mv (lock_tk hfz7)
    have hus2 : (upd H7 dp (gO w dp es)) l = some (.lst us) := by rw [upd_ne nl]; exact hus
    generalize upd H7 dp (gO w dp es) = H8 at e67 hall2 hus2
    refine nilT ?_
    refine sorted_kp hus2 hall2 (KP.ord hns nd0 mem0) fun l9 ys9 H9' e9' hys9 hall9 => ⟨l9, ys9, rfl, .inl ⟨SqL.of hys9, fun t9 ht9 => ?_⟩⟩
    have iso := tup_ps ht9 hall9
    have e9 := e9'.trans (Ex.new ht9 (o := .tup ys9))
    generalize upd H9' t9 (.tup ys9) = H9 at iso e9
    generalize V.ref t9 = vo at iso
    have e69 := e67.trans e9
    have hp9 := e69 _ _ hp6
    refine ⟨_, rfl, p, C, dx, fs6, rfl, hp9, T.cl, T.nOrder, few fl6 (by decide), ?_⟩
    have E10 : ExB p H (upd H9 p (.ins C dx (putF "order" vo fs6))) := (E6.trans (ExB.of e69)).trans ExB.upd
    have tk10 : Tk H9 (upd H9 p (.ins C dx (putF "order" vo fs6))) := ExB.upd.tk (npi hp9)
    have hp10 : (upd H9 p (.ins C dx (putF "order" vo fs6))) p = some (.ins C dx (putF "order" vo fs6)) := upd_same
    have g10 : DK w (upd H9 p (.ins C dx (putF "order" vo fs6))) dp L2 := (g6.ext e69).exB ExB.upd ndp (npi hp9)
    have ha10 : (upd H9 p (.ins C dx (putF "order" vo fs6))) an = some (.tup (natsV (namesOf rows))) := (upd_ne nan).trans (e69 _ _ ha6)
    have io10 := iso.mv tk10
    have fl10 : (putF "order" vo fs6).length ≤ 4 := putF_few fl6
    have lO10 : (putF "order" vo fs6).lookup ("order" : Str) = some vo := lkY
    have lN10 : (putF "order" vo fs6).lookup ("names" : Str) = some (.ref an) := (lkN (by decide +kernel)).trans lN6
    have lP10 : (putF "order" vo fs6).lookup ("pairs" : Str) = some (.ref dp) := (lkN (by decide +kernel)).trans lP6
    have lA10 : (putF "order" vo fs6).lookup ("all_drained" : Str) = none := (lkN (by decide +kernel)).trans lA6
    generalize upd H9 p (.ins C dx (putF "order" vo fs6)) = H10 at E10 hp10 g10 ha10 io10
    generalize putF "order" vo fs6 = fs10 at hp10 fl10 lN10 lP10 lO10 lA10
    -- self.drained
    refine ⟨_, rfl, p, dx, fs10, rfl, hp10, lA10, vd, rfl, p, dx, an, dp, fs10, namesOf rows, L2, _, dm, vd, rfl, hp10, lN10, ha10, hns, hnl, lP10, g10, kp2, hd.mv (E10.tk npt), fun l2 H11 us2 L11 e11 hl2 hus3 hall3 kp11 => ?_⟩
    refine nilT ?_
    refine sorted_kp hus3 hall3 kp11 fun l9 ys9 H9' e9' hys9 hall9 => ⟨l9, ys9, rfl, .inl ⟨SqL.of hys9, fun t9 ht9 => ?_⟩⟩
    have isd := tup_ps ht9 hall9
    have e12 := e9'.trans (Ex.new ht9 (o := .tup ys9))
    generalize upd H9' t9 (.tup ys9) = H12 at isd e12
    generalize V.ref t9 = vdr at isd
    have e1012 := e11.trans e12
    have hp12 := e1012 _ _ hp10
    refine ⟨_, rfl, p, C, dx, fs10, rfl, hp12, T.cl, T.nDrained, few fl10 (by decide), ?_⟩
    have isd2 : Is H12 vdr (psM (regM rows wm dm).2) := by
      have e : psM (drM (namesOf rows) (cloM (dirM rows wm dm)) (prs dm)) = psM (regM rows wm dm).2 := by
        unfold psM
        rw [drM_eq hns hwi]; rfl
      rw [← e]; exact isd
    have E13 : ExB p H (upd H12 p (.ins C dx (putF "drained" vdr fs10))) := (E10.trans (ExB.of e1012)).trans ExB.upd
    have tk13 : Tk H12 (upd H12 p (.ins C dx (putF "drained" vdr fs10))) := ExB.upd.tk (npi hp12)
    have hp13 : (upd H12 p (.ins C dx (putF "drained" vdr fs10))) p = some (.ins C dx (putF "drained" vdr fs10)) := upd_same
    have ha13 : (upd H12 p (.ins C dx (putF "drained" vdr fs10))) an = some (.tup (natsV (namesOf rows))) := (upd_ne nan).trans (e1012 _ _ ha10)
    have io13 := (io10.ex e1012).mv tk13
    have id13 := isd2.mv tk13
    have fl13 : (putF "drained" vdr fs10).length ≤ 5 := putF_few fl10
    have lO13 : (putF "drained" vdr fs10).lookup ("order" : Str) = some vo := (lkN (by decide +kernel)).trans lO10
    have lD13 : (putF "drained" vdr fs10).lookup ("drained" : Str) = some vdr := lkY
    have lN13 : (putF "drained" vdr fs10).lookup ("names" : Str) = some (.ref an) := (lkN (by decide +kernel)).trans lN10
    generalize upd H12 p (.ins C dx (putF "drained" vdr fs10)) = H13 at E13 hp13 ha13 io13 id13
    generalize putF "drained" vdr fs10 = fs13 at hp13 fl13 lN13 lO13 lD13
    -- self.places
    have hvl : (natsV (namesOf rows)).length = (namesOf rows).length := by unfold natsV; rw [List.length_map]
    refine ⟨_, rfl, p, C, dx, fs13, _, rfl, hp13, T.cl, T.nNames, lN13, an, rfl, ⟨_, SqT.of ha13⟩, fun D hD => ?_⟩
    refine dc_tup (xs := natsV (namesOf rows)) (fun i H' => Ex H13 H' ∧ ∃ kvs, H' D = some (.dK kvs) ∧ kvs.length ≤ i) ⟨Ex.new hD, [], upd_same, Nat.le_refl _⟩ (fun i H' _ h => SqT.of (h.1 _ _ ha13)) ?_ ?_
    · rintro i x H14 hx ⟨e14, kvs, hk, hkl⟩
      obtain ⟨n, hn, rfl⟩ := nats_at hx
      have hil : i < (namesOf rows).length := (List.getElem?_eq_some_iff.mp hn).1
      refine ⟨rfl, _, rfl, _, rfl, _, rfl, vp, rows, n, rfl, hpl.mv ((E13.trans (ExB.of e14)).tk npt), G, List.mem_of_getElem? hn, fun v _ H15 e15 _ => ⟨kvs, Sum.inl (n : Int), rfl, e15 _ _ hk, small1000 (by omega), ?_, _, upd_same, putK_few hkl⟩⟩
      exact Ex.mut (e14.trans e15) hD
    rintro H14 ⟨e14, kvs, hk, hkl⟩
    have hp14 := e14 _ _ hp13
    refine ⟨_, rfl, p, C, dx, fs13, rfl, hp14, T.cl, T.nPlaces, few fl13 (by decide), ?_⟩
    have E15 : ExB p H (upd H14 p (.ins C dx (putF "places" (.ref D) fs13))) := (E13.trans (ExB.of e14)).trans ExB.upd
    have tk15 : Tk H14 (upd H14 p (.ins C dx (putF "places" (.ref D) fs13))) := ExB.upd.tk (npi hp14)
    have hp15 : (upd H14 p (.ins C dx (putF "places" (.ref D) fs13))) p = some (.ins C dx (putF "places" (.ref D) fs13)) := upd_same
    have io15 := (io13.ex e14).mv tk15
    have id15 := (id13.ex e14).mv tk15
    have fl15 : (putF "places" (.ref D) fs13).length ≤ 6 := putF_few fl13
    have lO15 : (putF "places" (.ref D) fs13).lookup ("order" : Str) = some vo := (lkN (by decide +kernel)).trans lO13
    have lD15 : (putF "places" (.ref D) fs13).lookup ("drained" : Str) = some vdr := (lkN (by decide +kernel)).trans lD13
    generalize upd H14 p (.ins C dx (putF "places" (.ref D) fs13)) = H15 at E15 hp15 io15 id15
    generalize putF "places" (.ref D) fs13 = fs15 at hp15 fl15 lO15 lD15
    -- self.memo = {}
    intro d1 hd1
    have e16 : Ex H15 (upd H15 d1 (.dK [])) := Ex.new hd1
    have hp16 := e16 _ _ hp15
    refine ⟨_, rfl, p, C, dx, fs15, rfl, hp16, T.cl, T.nMemo, few fl15 (by decide), ?_⟩
    have E17 : ExB p H (upd (upd H15 d1 (.dK [])) p (.ins C dx (putF "memo" (.ref d1) fs15))) := (E15.trans (ExB.of e16)).trans ExB.upd
    have tk17 : Tk (upd H15 d1 (.dK [])) (upd (upd H15 d1 (.dK [])) p (.ins C dx (putF "memo" (.ref d1) fs15))) := ExB.upd.tk (npi hp16)
    have hp17 : (upd (upd H15 d1 (.dK [])) p (.ins C dx (putF "memo" (.ref d1) fs15))) p = some (.ins C dx (putF "memo" (.ref d1) fs15)) := upd_same
    have io17 := (io15.ex e16).mv tk17
    have id17 := (id15.ex e16).mv tk17
    have fl17 : (putF "memo" (.ref d1) fs15).length ≤ 7 := putF_few fl15
    have lO17 : (putF "memo" (.ref d1) fs15).lookup ("order" : Str) = some vo := (lkN (by decide +kernel)).trans lO15
    have lD17 : (putF "memo" (.ref d1) fs15).lookup ("drained" : Str) = some vdr := (lkN (by decide +kernel)).trans lD15
    generalize upd (upd H15 d1 (.dK [])) p (.ins C dx (putF "memo" (.ref d1) fs15)) = H17 at E17 hp17 io17 id17
    generalize putF "memo" (.ref d1) fs15 = fs17 at hp17 fl17 lO17 lD17
    -- self.early = {}
    intro d2 hd2
    have e18 : Ex H17 (upd H17 d2 (.dK [])) := Ex.new hd2
    have hp18 := e18 _ _ hp17
    refine ⟨_, rfl, p, C, dx, fs17, rfl, hp18, T.cl, T.nEarly, few fl17 (by decide), ?_⟩
    have tk19 : Tk (upd H17 d2 (.dK [])) (upd (upd H17 d2 (.dK [])) p (.ins C dx (putF "early" (.ref d2) fs17))) := ExB.upd.tk (npi hp18)
    exact q _ _ vo vdr ((E17.trans (ExB.of e18)).trans ExB.upd) upd_same ((lkN (by decide +kernel)).trans lO17) ((lkN (by decide +kernel)).trans lD17) ((io17.ex e18).mv tk19) ((id17.ex e18).mv tk19)
end
end K82
/-! regime_of, put_in, with_wait, with_drain. -/
namespace K82
open PySem PySem.Spec PyProof.Rows L2 Evl RZ

def optD : Option (Nat × Nat) → NK
  | none => .none
  | some r => rgM r
theorem rg_inv {H : Hp} {v : V} {r : Nat × Nat} (h : Is H v (rgM r)) : ∃ a x y, v = .ref a ∧ H a = some (.tup [x, y]) ∧ Is H x (psM r.1) ∧ Is H y (psM r.2) := h.pair_inv

section
variable {P : Program} {w : World} {K : PySem.W.Frag} {mg : Str → Option Value} {base : Heap}
theorem scRegimeOf : FnScope ["plan", "waits", "drains", "ground"] ["plan", "waits", "drains"] (defScope sRegimeOf) := ⟨rfl, rfl, rfl, by decide +kernel, rfl, by decide +kernel, by decide +kernel⟩
def spRegimeOf : Sp := fun vs H Q _ => ∃ (vp vw vd : V) (rows : List (List Nat)) (wm dm : Nat), vs = [vp, vw, vd] ∧ Is H vp (planD rows) ∧ Good rows ∧ Is H vw (psM wm) ∧ Is H vd (psM dm) ∧ acR rows wm dm = true ∧ Wi (namesOf rows) dm ∧
  ∀ v H', Ex H H' → Is H' v (rgM (regM rows wm dm)) → Q v H'
theorem ok_regime_of {f fI C : Addr} {fd fdI : FuncData} (F : Fun K "regime_of" "regime_of" sRegimeOf f fd) (T : Gr K mg C) (M : Mk K C fI) (GI : FnOk P w K mg base CX0 4 fI fdI ["self", "plan", "waits", "drains"] (spInit C)) (bI : Binds K fdI ["self", "plan", "waits", "drains"] []) :
    FnOk P w K mg base CX0 6 f fd ["plan", "waits", "drains"] spRegimeOf := by
  refine F.ok scRegimeOf (fun vs H Q E h => ?_) (fun cdv A outer s H vs Q E hr h => ?_)
  · obtain ⟨_, _, _, _, _, _, rfl, _⟩ := h; rfl
  · obtain ⟨vp, vw, vd, rows, wm, dm, rfl, hp, G, hw, hd, hac, hwi, q⟩ := h
    have nd := scRegimeOf.nd
    refine ⟨_, pss_cons (ps_set (i := 3) nd rfl (Or.inl rfl) (pe_make M GI hr rfl T.mgC bI .nil pass0 (pa_cons (pv 0) (pa_cons (pv 1) (pa_cons (pv 2) pa_nil)))))
      (pss_one (ps_ret (pe_tup (pa_cons (pe_fld (pv 3) rfl) (pa_cons (pe_fld (pv 3) rfl) pa_nil))))), ?_⟩
    refine ⟨vp, rfl, vw, rfl, vd, rfl, fun x dx nx ndx nex => ?_⟩
    have e1 : Ex H (upd (upd H dx (.own x)) x (.ins C dx [])) := (Ex.new ndx).trans (Ex.new (by rw [upd_ne nex.symm]; exact nx))
    refine ⟨x, dx, vp, vw, vd, rows, wm, dm, rfl, upd_same, hp.ex e1, G, hw.ex e1, hd.ex e1, hac, hwi, fun H2 fs v1 v2 E2 hx lO lD i1 i2 => ⟨rfl, ?_⟩⟩
    have e2 : Ex H H2 := fun b o hb => E2 b o (ne_of_none hb nx) (e1 b o hb)
    refine ⟨_, rfl, x, C, dx, fs, v1, rfl, hx, T.cl, T.nOrder, lO, _, rfl, x, C, dx, fs, v2, rfl, hx, T.cl, T.nDrained, lD, by show 2 ≤ sizeLine; decide, fun t ht => ?_⟩
    exact q _ _ (e2.trans (Ex.new ht)) (.tup upd_same (.cons (i1.ex (Ex.new ht)) (.cons (i2.ex (Ex.new ht)) .nil)))
abbrev nmPut : List Str := ["pairs", "pair", "one"]
theorem scPut : FnScope nmPut ["pairs", "pair"] (defScope sPutIn) := ⟨rfl, rfl, rfl, by decide +kernel, rfl, by decide +kernel, by decide +kernel⟩
def spPut : Sp := fun vs H Q _ => ∃ (va vb : V) (m x y : Nat), vs = [va, vb] ∧ Is H va (psM m) ∧ Is H vb (pD (x, y)) ∧ x < 10 ∧ y < 10 ∧ ∀ v H', Ex H H' → Is H' v (psM (m ||| bt x y)) → Q v H'
theorem ok_put {f : Addr} {fd : FuncData} (F : Fun K "put_in" "put_in" sPutIn f fd) (mT : mg "tuple" = none) (mS : mg "sorted" = none) (mL : mg "list" = none) : FnOk P w K mg base CX0 1 f fd ["pairs", "pair"] spPut := by
  refine F.ok scPut (fun vs H Q E h => ?_) (fun cdv A outer s H vs Q E hr h => ?_)
  · obtain ⟨_, _, _, _, _, rfl, _⟩ := h; rfl
  · obtain ⟨va, vb, m, x, y, rfl, ha, hb, hx, hy, q⟩ := h
    have nd := scPut.nd
    refine ⟨_, pss_one (ps_ret (pe_callTy call_tuple_of (by rfl) mT (by decide +kernel) (pa_cons (pe_callB (call_sortB (huS hr) pD) (by rfl) mS (by decide +kernel) (pa_cons (pe_callTy (call_listG rfl) (by rfl) mL (by decide +kernel) (pa_cons
      (pe_gc (own := [("one", 2)]) (g := gName 2) (tt := tYes) (hu8 hr) rfl nd (pi_tup (pe_op op_catA (pv 0) (pe_tup (pa_cons (pv 1) pa_nil)))) (blkOk_by (N := nmPut) (sc := defScope sPutIn) (by decide +kernel))
        (fun _ _ _ _ _ => pg_name (i := 2) nd rfl (Or.inl rfl)) (fun _ _ _ _ _ => pts_nil) (fun _ _ _ _ _ => pv 2) (fun _ _ _ _ _ => pe_bl)) pa_nil)) pa_nil)) pa_nil))), ?_⟩
    obtain ⟨aw, ws, rfl, haw, hws⟩ := ps_item ha
    have hwl : ws.length ≤ 100 := by rw [hws.length, List.length_map]; exact prs_len _
    refine ⟨_, rfl, vb, rfl, by show 1 ≤ sizeLine; decide, fun t0 ht0 => ?_⟩
    have e0 := Ex.new ht0 (o := .tup [vb])
    refine cat_any (SqT.of (e0 _ _ haw)) (SqT.of upd_same) (by show ws.length + 1 ≤ 100000; omega) fun t H1 e1 ht => ⟨t, rfl, ⟨_, ht⟩, fun D H2 hD c2 g2 => ?_⟩
    have e01 := e0.trans e1
    have hall : IsAll H1 (ws ++ [vb]) ((prs m ++ [(x, y)]).map pD) := by rw [List.map_append]; exact (hws.ex e01).append (.one (hb.ex e01))
    have hgrid : ∀ p ∈ prs m ++ [(x, y)], p.1 < 10 ∧ p.2 < 10 := fun p hp => by
      rcases List.mem_append.mp hp with z | z
      · exact ⟨(prs_mem.mp z).1, (prs_mem.mp z).2.1⟩
      · rw [List.mem_singleton.mp z]; exact ⟨hx, hy⟩
    have hll : (ws ++ [vb]).length = (prs m ++ [(x, y)]).length := by rw [hall.length, List.length_map]
    refine gc_it (walk_tup (xs := ws ++ [vb])) (fun i H' => Ex H1 H' ∧ ∃ L, DK w H' D L ∧ KP L (maskL ((prs m ++ [(x, y)]).take i))) ⟨c2.ex (Ex.refl _) hD, [], g2, KP.empty⟩ (fun i H' _ p => ex_t p.1 ht) ?_ ?_
    · rintro i z H3 H3' hi ⟨e3, L, g3, kp3⟩ ⟨rfl, hz⟩
      obtain ⟨p, hp', isx⟩ := pairs_at hall hz
      obtain ⟨ax, rfl, hax⟩ := pD_inv isx
      obtain ⟨hp1, hp2⟩ := hgrid p (List.mem_of_getElem? hp')
      refine ⟨rfl, _, rfl, L, pD p, g3, isx.ex e3, .inr ⟨ax, rfl⟩, pD_depth p, kp3.lt, fun H4 c4 g4 => ⟨c4.ex e3 hD, _, g4, ?_⟩⟩
      rw [take_snoc hp', maskL_snoc]
      exact kp3.ins hp1 hp2
    rintro H3 ⟨e3, L3, g3, kp3⟩
    rw [hll, List.take_length] at kp3
    have e03 := e01.trans e3
    have kpm : KP L3 (m ||| bt x y) := kp3.congr fun a b ha hb => by
      rw [rel_maskL (fun p hp => (hgrid p hp).2) hb, rel_or, rel_bt hy hb, Bool.eq_iff_iff, decide_eq_true_iff, List.mem_append, List.mem_singleton, prs_mem, Bool.or_eq_true, decide_eq_true_iff]
      exact ⟨fun h => h.imp (fun h => h.2.2) id, fun h => h.imp (fun h => ⟨ha, hb, h⟩) id⟩
    refine ⟨D, L3, rfl, g3, fun l us H4 hl c4 hus hall4 => ?_⟩
    have e04 := c4.ex e03 (fresh_back e03 hl)
    refine nilT ?_
    refine sorted_kp hus hall4 kpm fun l9 ys9 H9' e9' hys9 hall9 => ⟨l9, ys9, rfl, .inl ⟨SqL.of hys9, fun t9 ht9 => ?_⟩⟩
    exact q _ _ ((e04.trans e9').trans (Ex.new ht9)) (tup_ps ht9 hall9)
theorem scWW : FnScope ["plan", "regime", "pair", "waits"] ["plan", "regime", "pair"] (defScope sWithWait) := ⟨rfl, rfl, rfl, by decide +kernel, rfl, by decide +kernel, by decide +kernel⟩
def spWW : Sp := fun vs H Q _ => ∃ (vp vr vb : V) (rows : List (List Nat)) (r : Nat × Nat) (x y : Nat), vs = [vp, vr, vb] ∧ Is H vp (planD rows) ∧ Good rows ∧ Is H vr (rgM r) ∧ Is H vb (pD (x, y)) ∧ x ∈ namesOf rows ∧ y ∈ namesOf rows ∧ Wi (namesOf rows) r.2 ∧
  ∀ v H', Ex H H' → Is H' v (optD (tryM rows (r.1 ||| bt x y) r.2)) → Q v H'
theorem ok_ww {f : Addr} {fd : FuncData} (F : Fun K "with_wait" "with_wait" sWithWait f fd) (D1 : Df P w K mg base "put_in" 1 ["pairs", "pair"] spPut) (D2 : Df P w K mg base "is_regime" 3 ["plan", "waits", "drains"] spIsRegime) (D3 : Df P w K mg base "regime_of" 6 ["plan", "waits", "drains"] spRegimeOf) :
    FnOk P w K mg base CX0 7 f fd ["plan", "regime", "pair"] spWW := by
  refine F.ok scWW (fun vs H Q E h => ?_) (fun cdv A outer s H vs Q E hr h => ?_)
  · obtain ⟨_, _, _, _, _, _, _, rfl, _⟩ := h; rfl
  · obtain ⟨vp, vr, vb, rows, r, x, y, rfl, hp, G, hrg, hb, hx, hy, hwi, q⟩ := h
    have nd := scWW.nd
    refine ⟨_, pss_cons (ps_set (i := 3) nd rfl (Or.inl rfl) (pe_df D1 hr (by decide) (by rfl) (pa_cons (pe_ix ix_tup (pv 1) pe_int (fun _ _ => rfl)) (pa_cons (pv 2) pa_nil))))
      (pss_one (ps_ret (pe_ifExp (pt_val (pe_df D2 hr (by decide) (by rfl) (pa_cons (pv 0) (pa_cons (pv 3) (pa_cons (pe_ix ix_tup (pv 1) pe_int (fun _ _ => rfl)) pa_nil)))))
        (pe_df D3 hr (by decide) (by rfl) (pa_cons (pv 0) (pa_cons (pv 3) (pa_cons (pe_ix ix_tup (pv 1) pe_int (fun _ _ => rfl)) pa_nil)))) pe_non))), ?_⟩
    obtain ⟨ar, v1, v2, rfl, har, i1, i2⟩ := rg_inv hrg
    refine ⟨_, rfl, ar, _, 0, v1, rfl, rfl, SqT.of har, atI_nat (j := 0) rfl, vb, rfl, v1, vb, r.1, x, y, rfl, i1, hb, (namesOf_mem.mp hx).1, (namesOf_mem.mp hy).1, fun vw H1 e1 iw => ?_⟩
    refine ⟨vp, rfl, vw, rfl, _, rfl, ar, _, 1, v2, rfl, rfl, SqT.of (e1 _ _ har), atI_nat (j := 1) rfl, vp, vw, v2, rows, _, r.2, rfl, hp.ex e1, G, iw, i2.ex e1, fun H2 e2 => ⟨_, rfl, ?_⟩⟩
    have e12 := e1.trans e2
    by_cases hac : acR rows (r.1 ||| bt x y) r.2 = true
    · rw [hac]
      refine iteT ?_
      refine ⟨vp, rfl, vw, rfl, _, rfl, ar, _, 1, v2, rfl, rfl, SqT.of (e12 _ _ har), atI_nat (j := 1) rfl, vp, vw, v2, rows, _, r.2, rfl, hp.ex e12, G, iw.ex e2, i2.ex e12, hac, hwi, fun v H3 e3 iv => ?_⟩
      refine q v H3 (e12.trans e3) ?_
      unfold tryM
      rw [if_pos hac]; exact iv
    · rw [Bool.eq_false_iff.mpr hac]
      refine iteF ?_
      refine q .non H2 e12 ?_
      unfold tryM
      rw [if_neg hac]; exact .non
theorem scWD : FnScope ["plan", "regime", "pair", "drains"] ["plan", "regime", "pair"] (defScope sWithDrain) := ⟨rfl, rfl, rfl, by decide +kernel, rfl, by decide +kernel, by decide +kernel⟩
def spWD : Sp := fun vs H Q _ => ∃ (vp vr vb : V) (rows : List (List Nat)) (r : Nat × Nat) (x y : Nat), vs = [vp, vr, vb] ∧ Is H vp (planD rows) ∧ Good rows ∧ Is H vr (rgM r) ∧ Is H vb (pD (x, y)) ∧ x ∈ namesOf rows ∧ y ∈ namesOf rows ∧ Wi (namesOf rows) r.2 ∧
  ∀ v H', Ex H H' → Is H' v (optD (tryM rows r.1 (r.2 ||| bt x y))) → Q v H'
theorem Wi.or {ns : List Nat} {d x y : Nat} (h : Wi ns d) (hx : x ∈ ns) (hy : y ∈ ns) (hy10 : y < 10) : Wi ns (d ||| bt x y) := fun a b ha hb e => by
  rw [rel_or, rel_bt hy10 hb, Bool.or_eq_true, decide_eq_true_iff] at e
  rcases e with e | e
  · exact h a b ha hb e
  · cases e; exact ⟨hx, hy⟩
theorem ok_wd {f : Addr} {fd : FuncData} (F : Fun K "with_drain" "with_drain" sWithDrain f fd) (D1 : Df P w K mg base "put_in" 1 ["pairs", "pair"] spPut) (D2 : Df P w K mg base "is_regime" 3 ["plan", "waits", "drains"] spIsRegime) (D3 : Df P w K mg base "regime_of" 6 ["plan", "waits", "drains"] spRegimeOf) :
    FnOk P w K mg base CX0 7 f fd ["plan", "regime", "pair"] spWD := by
  refine F.ok scWD (fun vs H Q E h => ?_) (fun cdv A outer s H vs Q E hr h => ?_)
  · obtain ⟨_, _, _, _, _, _, _, rfl, _⟩ := h; rfl
  · obtain ⟨vp, vr, vb, rows, r, x, y, rfl, hp, G, hrg, hb, hx, hy, hwi, q⟩ := h
    have nd := scWD.nd
    refine ⟨_, pss_cons (ps_set (i := 3) nd rfl (Or.inl rfl) (pe_df D1 hr (by decide) (by rfl) (pa_cons (pe_ix ix_tup (pv 1) pe_int (fun _ _ => rfl)) (pa_cons (pv 2) pa_nil))))
      (pss_one (ps_ret (pe_ifExp (pt_val (pe_df D2 hr (by decide) (by rfl) (pa_cons (pv 0) (pa_cons (pe_ix ix_tup (pv 1) pe_int (fun _ _ => rfl)) (pa_cons (pv 3) pa_nil)))))
        (pe_df D3 hr (by decide) (by rfl) (pa_cons (pv 0) (pa_cons (pe_ix ix_tup (pv 1) pe_int (fun _ _ => rfl)) (pa_cons (pv 3) pa_nil)))) pe_non))), ?_⟩
    obtain ⟨ar, v1, v2, rfl, har, i1, i2⟩ := rg_inv hrg
    have hy10 := (namesOf_mem.mp hy).1
    refine ⟨_, rfl, ar, _, 1, v2, rfl, rfl, SqT.of har, atI_nat (j := 1) rfl, vb, rfl, v2, vb, r.2, x, y, rfl, i2, hb, (namesOf_mem.mp hx).1, hy10, fun vd H1 e1 iw => ?_⟩
    refine ⟨vp, rfl, _, rfl, ar, _, 0, v1, rfl, rfl, SqT.of (e1 _ _ har), atI_nat (j := 0) rfl, vd, rfl, vp, v1, vd, rows, r.1, _, rfl, hp.ex e1, G, i1.ex e1, iw, fun H2 e2 => ⟨_, rfl, ?_⟩⟩
    have e12 := e1.trans e2
    by_cases hac : acR rows r.1 (r.2 ||| bt x y) = true
    · rw [hac]
      refine iteT ?_
      refine ⟨vp, rfl, _, rfl, ar, _, 0, v1, rfl, rfl, SqT.of (e12 _ _ har), atI_nat (j := 0) rfl, vd, rfl, vp, v1, vd, rows, r.1, _, rfl, hp.ex e12, G, i1.ex e12, iw.ex e2, hac, hwi.or hx hy hy10, fun v H3 e3 iv => ?_⟩
      refine q v H3 (e12.trans e3) ?_
      unfold tryM
      rw [if_pos hac]; exact iv
    · rw [Bool.eq_false_iff.mpr hac]
      refine iteF ?_
      refine q .non H2 e12 ?_
      unfold tryM
      rw [if_neg hac]; exact .non
end
end K82
/-! unlike_pairs, more_regimes. -/
namespace K82
open PySem PySem.Spec PyProof.Rows L2 Evl RZ

/-- the pairs of two names with whether their signs differ -/
structure UlAll (H : Hp) (rows : List (List Nat)) (us : List V) (l : List (Nat × Nat)) : Prop where
  len : us.length = l.length
  at_ : ∀ (i : Nat) (v : V), us[i]? = some v → ∃ (p : Nat × Nat) (t a : Addr), l[i]? = some p ∧ v = V.ref t ∧ H t = some (HO.tup [V.ref a, V.bl (signOf rows p.1 != signOf rows p.2)]) ∧ H a = some (HO.tup [V.int (p.1 : Int), V.int (p.2 : Int)])
theorem UlAll.tk {H H' : Hp} {rows : List (List Nat)} {us : List V} {l : List (Nat × Nat)} (h : UlAll H rows us l) (t : Tk H H') : UlAll H' rows us l :=
  ⟨h.len, fun i v e => let ⟨p, t1, a, h1, h2, h3, h4⟩ := h.at_ i v e; ⟨p, t1, a, h1, h2, t _ _ h3, t _ _ h4⟩⟩
theorem UlAll.snoc {H : Hp} {rows : List (List Nat)} {us : List V} {l : List (Nat × Nat)} (h : UlAll H rows us l) {p : Nat × Nat} {t a : Addr} (h1 : H t = some (.tup [.ref a, .bl (signOf rows p.1 != signOf rows p.2)])) (h2 : H a = some (.tup [.int (p.1 : Int), .int (p.2 : Int)])) :
    UlAll H rows (us ++ [.ref t]) (l ++ [p]) := by
  refine ⟨by rw [List.length_append, List.length_append, h.len]; rfl, fun i v e => ?_⟩
  rw [List.getElem?_append] at e
  by_cases hi : i < us.length
  · rw [if_pos hi] at e
    obtain ⟨q, t1, a1, g1, g2⟩ := h.at_ i v e
    exact ⟨q, t1, a1, by rw [List.getElem?_append_left (by rw [← h.len]; exact hi)]; exact g1, g2⟩
  · rw [if_neg hi] at e
    have : i - us.length = 0 := by
      have := (List.getElem?_eq_some_iff.mp e).1
      simp at this; omega
    rw [this] at e
    have ei : i = l.length := by rw [← h.len]; omega
    refine ⟨p, t, a, ?_, (Option.some.inj e).symm, h1, h2⟩
    rw [ei]; simp

section
variable {P : Program} {w : World} {K : PySem.W.Frag} {mg : Str → Option Value} {base : Heap}
theorem scUnlike : FnScope ["plan", "names", "found", "one", "two"] ["plan"] (defScope sUnlike) := ⟨rfl, rfl, rfl, by decide +kernel, rfl, by decide +kernel, by decide +kernel⟩
def spUnlike : Sp := fun vs H Q _ => ∃ (vp : V) (rows : List (List Nat)), vs = [vp] ∧ Is H vp (planD rows) ∧ Good rows ∧ ∀ l H' us, Ex H H' → H l = none → H' l = some (.lst us) → UlAll H' rows us (offs rows) → Q (.ref l) H'
theorem ok_unlike {f : Addr} {fd : FuncData} (F : Fun K "unlike_pairs" "unlike_pairs" sUnlike f fd) (D1 : Df P w K mg base "names_of" 2 ["plan"] spNames) (D2 : Df P w K mg base "place_of" 3 ["plan", "name"] spPlace) : FnOk P w K mg base CX0 4 f fd ["plan"] spUnlike := by
  refine F.ok scUnlike (fun vs H Q E h => ?_) (fun cdv A outer s H vs Q E hr h => ?_)
  · obtain ⟨_, _, rfl, _⟩ := h; rfl
  · obtain ⟨vp, rows, rfl, hp, G, q⟩ := h
    have nd := scUnlike.nd
    refine ⟨_, pss_cons (ps_set (i := 1) nd rfl (Or.inl rfl) (pe_df D1 hr (by decide) (by rfl) (pa_cons (pv 0) pa_nil)))
      (pss_cons (ps_set (i := 2) nd rfl (Or.inl rfl) (pe_lst pa_nil))
      (pss_cons (ps_for PassesOwn.never rfl (pi_tup (pv 1)) (pg_name (i := 3) nd rfl (Or.inl rfl))
        (pss_one (ps_for PassesOwn.never rfl (pi_tup (pv 1)) (pg_name (i := 4) nd rfl (Or.inl rfl))
          (pss_one (ps_if (pt_cmpR op_ne (pv 3) (pv 4) (nomark _))
            (pss_one (ps_expr (pe_bm PySem.F.plainAttrs_list PySem.F.slot_list_append PySem.F.type_list_append mt_append (pv 2) (pa_cons (pe_tup (pa_cons (pe_tup (pa_cons (pv 3) (pa_cons (pv 4) pa_nil)))
              (pa_cons (pe_cmpR op_ne (pe_ix ix_tup (pe_df D2 hr (by decide) (by rfl) (pa_cons (pv 0) (pa_cons (pv 3) pa_nil))) pe_int (fun _ _ => rfl)) (pe_ix ix_tup (pe_df D2 hr (by decide) (by rfl) (pa_cons (pv 0) (pa_cons (pv 4) pa_nil))) pe_int (fun _ _ => rfl)) rfl) pa_nil))) pa_nil)))) pss_nil)))))
      (pss_one (ps_ret (pv 2))))), ?_⟩
    have hnl := namesOf_len rows
    refine ⟨vp, rfl, vp, rows, rfl, hp, G, fun an H1 e1 han hna => ?_⟩
    refine ⟨Nat.zero_le _, fun l hl => ?_⟩
    have hln : H l = none := fresh_back e1 hl
    have e2 := e1.trans (Ex.new hl (o := .lst []))
    have hna2 : ∀ {H'}, Ex (upd H1 l (.lst [])) H' → H' an = some (.tup (natsV (namesOf rows))) := fun e => e _ _ ((Ex.new hl) _ _ hna)
    have nal : an ≠ l := fun z => by rw [z, hl] at hna; cases hna
    have a2 : (upd H1 l (.lst [])) an = some (.tup (natsV (namesOf rows))) := (upd_ne nal).trans hna
    have hvl : (natsV (namesOf rows)).length = (namesOf rows).length := by unfold natsV; rw [List.length_map]
    refine ⟨_, rfl, an, rfl, ⟨_, SqT.of a2⟩, ?_⟩
    refine for_tup (xs := natsV (namesOf rows)) (fun i σ H3 => ∃ y3 y4, σ = [some vp, some (.ref an), some (.ref l), y3, y4] ∧ Ex H H3 ∧ H3 an = some (.tup (natsV (namesOf rows))) ∧ ∃ us, H3 l = some (.lst us) ∧ UlAll H3 rows us ((prodTo (namesOf rows) (namesOf rows) i).filter fun p => p.1 != p.2))
      ⟨none, none, rfl, e2, a2, [], upd_same, ⟨rfl, fun i v e => by simp at e⟩⟩ (fun i σ H3 _ ⟨_, _, _, _, h, _⟩ => SqT.of h) ?_ ?_
    · rintro i x σ H3 hx ⟨y3, y4, rfl, e3, a3, us, hus, hul⟩
      obtain ⟨n1, hn1, rfl⟩ := nats_at hx
      refine ⟨_, rfl, an, rfl, ⟨_, SqT.of a3⟩, ?_⟩
      refine for_tup (xs := natsV (namesOf rows)) (fun j σ H4 => ∃ y4, σ = [some vp, some (.ref an), some (.ref l), some (.int (n1 : Int)), y4] ∧ Ex H H4 ∧ H4 an = some (.tup (natsV (namesOf rows))) ∧ ∃ us, H4 l = some (.lst us) ∧ UlAll H4 rows us ((prodIn (namesOf rows) (namesOf rows) i j n1).filter fun p => p.1 != p.2))
        ⟨y4, rfl, e3, a3, us, hus, by rw [prod_zero]; exact hul⟩ (fun i σ H3 _ ⟨_, _, _, h, _⟩ => SqT.of h) ?_ ?_
      · rintro j x σ H4 hx ⟨y4, rfl, e4, a4, us, hus, hul⟩
        obtain ⟨n2, hn2, rfl⟩ := nats_at hx
        have hm1 := List.mem_of_getElem? hn1
        have hm2 := List.mem_of_getElem? hn2
        refine ⟨_, rfl, _, rfl, rfl, _, rfl, ?_⟩
        by_cases hne : n1 = n2
        · subst hne
          rw [decide_eq_true rfl]
          refine iteF ⟨_, rfl, e4, a4, us, hus, ?_⟩
          rw [prod_next hn2, List.filter_append, List.filter_cons, if_neg (by simp)]
          show UlAll H4 rows us (_ ++ [])
          rw [List.append_nil]; exact hul
        · have hd : decide (V.int (n1 : Int) = V.int (n2 : Int)) = false := decide_eq_false fun z => hne (by have := V.int.inj z; omega)
          rw [hd]
          refine iteT ?_
          have hul2 : us.length ≤ 100 := by
            rw [hul.len]
            have h1 := List.length_filter_le (fun p : Nat × Nat => p.1 != p.2) (prodIn (namesOf rows) (namesOf rows) i j n1)
            have h2 : (prodIn (namesOf rows) (namesOf rows) i j n1).length ≤ 10 * 10 := by
              have hil : i < (namesOf rows).length := (List.getElem?_eq_some_iff.mp hn1).1
              have hjl : j < (namesOf rows).length := (List.getElem?_eq_some_iff.mp hn2).1
              unfold prodIn prodTo
              rw [List.length_append, List.length_map, List.length_take, List.length_flatMap]
              have : ((List.take i (namesOf rows)).map fun x => ((namesOf rows).map fun y => (x, y)).length).sum = i * (namesOf rows).length := by
                have e : ((List.take i (namesOf rows)).map fun x => ((namesOf rows).map fun y => (x, y)).length) = List.replicate i (namesOf rows).length := by
                  rw [List.eq_replicate_iff]
                  refine ⟨by rw [List.length_map, List.length_take]; omega, fun b hb => ?_⟩
                  obtain ⟨c, _, rfl⟩ := List.mem_map.mp hb
                  rw [List.length_map]
                rw [e, List.sum_replicate_nat]
              rw [this]
              have h3 : i * (namesOf rows).length ≤ 9 * 10 := Nat.mul_le_mul (by omega) hnl
              omega
            omega
          refine ⟨_, rfl, .inl ⟨rfl, us, SqL.of hus⟩, _, rfl, _, rfl, by show 2 ≤ sizeLine; decide, fun ta hta => ?_⟩
          have e5 := Ex.new hta (o := .tup [.int (n1 : Int), .int (n2 : Int)])
          refine ⟨vp, rfl, _, rfl, vp, rows, n1, rfl, hp.ex (e4.trans e5), G, hm1, fun v1 i1 H6 e6 is1 => ?_⟩
          obtain ⟨b1, x1, z1, rfl, hb1, g1, _⟩ := is1.pair_inv
          obtain rfl := g1.num_inv
          refine ⟨b1, _, 0, _, rfl, rfl, SqT.of hb1, atI_nat (j := 0) rfl, vp, rfl, _, rfl, vp, rows, n2, rfl, hp.ex ((e4.trans e5).trans e6), G, hm2, fun v2 i2 H7 e7 is2 => ?_⟩
          obtain ⟨b2, x2, z2, rfl, hb2, g2, _⟩ := is2.pair_inv
          obtain rfl := g2.num_inv
          refine ⟨b2, _, 0, _, rfl, rfl, SqT.of hb2, atI_nat (j := 0) rfl, rfl, by show 2 ≤ sizeLine; decide, fun tb htb => ?_⟩
          have es : (!decide (V.int (signOf rows n1 : Int) = V.int (signOf rows n2 : Int))) = (signOf rows n1 != signOf rows n2) := by
            by_cases h : signOf rows n1 = signOf rows n2
            · rw [h]; simp
            · rw [show decide (V.int (signOf rows n1 : Int) = V.int (signOf rows n2 : Int)) = false from decide_eq_false fun z => h (by have := V.int.inj z; omega)]
              exact (bne_iff_ne.mpr h).symm
          have e8 := Ex.new htb (o := .tup [.ref ta, .bl (!decide (V.int (signOf rows n1 : Int) = V.int (signOf rows n2 : Int)))])
          have e58 := ((e5.trans e6).trans e7).trans e8
          have hus8 := e58 _ _ hus
          have hta8 := ((e6.trans e7).trans e8) _ _ (upd_same (H := H4) (a := ta) (o := .tup [.int (n1 : Int), .int (n2 : Int)]))
          have htb8 := upd_same (H := H7) (a := tb) (o := .tup [.ref ta, .bl (!decide (V.int (signOf rows n1 : Int) = V.int (signOf rows n2 : Int)))])
          rw [es] at htb8 e8 hus8 hta8 e58 ⊢
          generalize upd H7 tb (.tup [.ref ta, .bl (signOf rows n1 != signOf rows n2)]) = H8 at htb8 e8 hus8 hta8 e58
          refine ⟨l, us, .ref tb, rfl, rfl, hus8, small1000 (by omega), ?_⟩
          have c9 : Chg l H8 (upd H8 l (.lst (us ++ [.ref tb]))) := Chg.upd
          have tk9 : Tk H8 (upd H8 l (.lst (us ++ [.ref tb]))) := Chg.tku fun xs z => by rw [hus8] at z; cases z
          refine ⟨_, rfl, c9.ex (e4.trans e58) hln, (c9 _ nal).trans (e58 _ _ a4), _, upd_same, ?_⟩
          rw [prod_next hn2, List.filter_append, List.filter_cons, if_pos (by simpa using hne)]
          exact ((hul.tk (Tk.ex e58)).snoc (p := (n1, n2)) htb8 hta8).tk tk9
      · rintro σ H4 ⟨y4, rfl, e4, a4, us, hus, hul⟩
        rw [hvl, prod_done hn1] at hul
        exact ⟨_, _, rfl, e4, a4, us, hus, hul⟩
    · rintro σ H3 ⟨y3, y4, rfl, e3, a3, us, hus, hul⟩
      refine ⟨_, rfl, q l H3 us e3 hln hus ?_⟩
      rw [hvl] at hul
      unfold prodTo at hul
      rw [List.take_length] at hul
      exact hul
end
end K82
/-! more_regimes. -/
namespace K82
open PySem PySem.Spec PyProof.Rows L2 Evl RZ

def ops (rows : List (List Nat)) (r : Nat × Nat) (p : Nat × Nat) : List (Option (Nat × Nat)) :=
  (if signOf rows p.1 != signOf rows p.2 then [tryM rows (r.1 ||| bt p.1 p.2) r.2] else []) ++ [tryM rows r.1 (r.2 ||| bt p.1 p.2)]
theorem moreO_eq (rows : List (List Nat)) (r : Nat × Nat) : moreO rows r = (offs rows).flatMap (ops rows r) := rfl
structure OP (L : List NK) (os : List (Option (Nat × Nat))) : Prop where
  nd : L.Nodup
  mem : ∀ k, k ∈ L ↔ ∃ o ∈ os, k = optD o
  len : L.length ≤ os.length
theorem OP.empty : OP [] [] := ⟨List.nodup_nil, fun k => Iff.intro (fun h => nomatch h) fun ⟨o, h, _⟩ => (nomatch h), Nat.le_refl _⟩
theorem OP.ins {L : List NK} {os : List (Option (Nat × Nat))} (h : OP L os) (o : Option (Nat × Nat)) : OP (insK L (optD o)) (os ++ [o]) := by
  refine ⟨insK_nodup h.nd, fun k => ?_, ?_⟩
  · rw [mem_insK, h.mem]
    constructor
    · rintro (⟨a, ha, rfl⟩ | rfl)
      · exact ⟨a, List.mem_append_left _ ha, rfl⟩
      · exact ⟨o, List.mem_append_right _ (List.mem_singleton.mpr rfl), rfl⟩
    · rintro ⟨a, ha, rfl⟩
      rcases List.mem_append.mp ha with z | z
      · exact .inl ⟨a, z, rfl⟩
      · rw [List.mem_singleton.mp z]; exact .inr rfl
  · have := insK_len L (optD o)
    have := h.len
    rw [List.length_append]
    simp; omega
theorem depth_pDs : ∀ l : List (Nat × Nat), NestedKey.depthAll (l.map pD) ≤ 1
  | [] => by decide
  | p :: l => by
    show max (pD p).depth (NestedKey.depthAll (l.map pD)) ≤ 1
    have h1 : (pD p).depth ≤ 1 := by
      obtain ⟨a, b⟩ := p
      show max 0 (max 0 0) + 1 ≤ 1
      decide
    have h2 := depth_pDs l
    omega
theorem depth_ps (m : Nat) : (psM m).depth ≤ 2 := by
  have := depth_pDs (prs m)
  show NestedKey.depthAll ((prs m).map pD) + 1 ≤ 2
  omega
theorem depth_rg (r : Nat × Nat) : (rgM r).depth ≤ 3 := by
  have h1 := depth_ps r.1
  have h2 := depth_ps r.2
  show max (psM r.1).depth (max (psM r.2).depth 0) + 1 ≤ 3
  omega
theorem depth_opt (o : Option (Nat × Nat)) : (optD o).depth ≤ 3 := by
  cases o with
  | none => decide
  | some r => exact depth_rg r
theorem plain_pDs : ∀ l : List (Nat × Nat), plainK.plainKs (l.map pD) = true
  | [] => rfl
  | p :: l => plain_pDs l
theorem plain_ps (m : Nat) : plainK (psM m) = true := plain_pDs (prs m)
theorem plain_rg (r : Nat × Nat) : plainK (rgM r) = true := by
  show (plainK (psM r.1) && (plainK (psM r.2) && true)) = true
  rw [plain_ps, plain_ps]; rfl
theorem plain_opt (o : Option (Nat × Nat)) : plainK (optD o) = true := by
  cases o with
  | none => rfl
  | some r => exact plain_rg r
theorem opt_key {H : Hp} {v : V} {o : Option (Nat × Nat)} (h : Is H v (optD o)) : KeyV v := by
  cases o with
  | none => cases h; exact .inl rfl
  | some r =>
    obtain ⟨a, _, _, rfl, _⟩ := rg_inv h
    exact .inr ⟨a, rfl⟩
theorem non_iff {H : Hp} {v : V} {k : NK} (h : Is H v k) : decide (v = .non) = decide (k = NestedKey.none) := by
  cases h with
  | non => rfl
  | num i => rfl
  | text x => rfl
  | tup h1 h2 => rfl
theorem alike_pds : ∀ l m : List (Nat × Nat), PySem.W.alikeAll (NestedKey.datas (l.map pD)) (NestedKey.datas (m.map pD)) = true
  | [], _ => by
    show PySem.W.alikeAll [] _ = true
    rw [PySem.W.alikeAll]
  | _ :: _, [] => by
    show PySem.W.alikeAll (_ :: _) [] = true
    rw [PySem.W.alikeAll]
  | p :: l, q :: m => by
    show PySem.W.alikeAll ((pD p).data :: NestedKey.datas (l.map pD)) ((pD q).data :: NestedKey.datas (m.map pD)) = true
    rw [PySem.W.alikeAll, alike_pD, alike_pds l m]; rfl
theorem alike_ps (a b : Nat) : PySem.W.alike (psM a).data (psM b).data = true := by
  show PySem.W.alike (.tuple (NestedKey.datas ((prs a).map pD))) (.tuple (NestedKey.datas ((prs b).map pD))) = true
  rw [PySem.W.alike]
  exact alike_pds _ _
theorem alike_rg (a b : Nat × Nat) : PySem.W.alike (rgM a).data (rgM b).data = true := by
  show PySem.W.alike (.tuple [(psM a.1).data, (psM a.2).data]) (.tuple [(psM b.1).data, (psM b.2).data]) = true
  rw [PySem.W.alike, PySem.W.alikeAll, PySem.W.alikeAll, PySem.W.alikeAll, alike_ps, alike_ps]; rfl
theorem sorts_rg (l : List (Nat × Nat)) : Sorts rgM l :=
  ⟨PySem.W.AllAlike.of alike_rg, .tuples fun p => ⟨_, _, rfl⟩, fun p _ => Nat.le_trans (depth_rg p) (by decide)⟩
theorem offs_len (rows : List (List Nat)) : (offs rows).length ≤ 100 := by
  unfold offs
  have h1 := List.length_filter_le (fun p : Nat × Nat => p.1 != p.2) (sq (namesOf rows))
  have h2 : (sq (namesOf rows)).length ≤ 10 * 10 := by
    unfold sq
    rw [List.length_flatMap]
    have e : ((namesOf rows).map fun x => ((namesOf rows).map fun y => (x, y)).length) = List.replicate (namesOf rows).length (namesOf rows).length := by
      rw [List.eq_replicate_iff]
      refine ⟨by rw [List.length_map], fun b hb => ?_⟩
      obtain ⟨c, _, rfl⟩ := List.mem_map.mp hb
      rw [List.length_map]
    rw [e, List.sum_replicate_nat]
    exact Nat.mul_le_mul (namesOf_len rows) (namesOf_len rows)
  omega
theorem ops_len (rows : List (List Nat)) (r p : Nat × Nat) : (ops rows r p).length ≤ 2 := by
  unfold ops
  split <;> simp
theorem opsTo_len (rows : List (List Nat)) (r : Nat × Nat) : ∀ l : List (Nat × Nat), (l.flatMap (ops rows r)).length ≤ 2 * l.length
  | [] => by simp
  | p :: l => by
    rw [List.flatMap_cons, List.length_append, List.length_cons]
    have := ops_len rows r p
    have := opsTo_len rows r l
    omega
/-- the regimes among the keys that are not None and not r -/
theorem OP.pick {rows : List (List Nat)} {wm dm : Nat} {L : List NK} (h : OP L (moreO rows (regM rows wm dm))) : ∃ bs : List (Nat × Nat), bs.map rgM = L.filter (fun k => !decide (k = NestedKey.none) && !decide (k = rgM (regM rows wm dm))) ∧ ∀ b, b ∈ bs ↔ b ∈ moreM rows (regM rows wm dm) := by
  have bd : ∀ o ∈ moreO rows (regM rows wm dm), ∀ b, o = some b → Bd b.1 ∧ Bd b.2 := by
    intro o ho b e
    subst e
    rw [moreO_eq, List.mem_flatMap] at ho
    obtain ⟨p, _, hp⟩ := ho
    have key : ∀ w' d', tryM rows w' d' = some b → Bd b.1 ∧ Bd b.2 := fun w' d' e => by
      unfold tryM at e
      split at e
      · cases e; exact regM_bd _ _ _
      · cases e
    unfold ops at hp
    rcases List.mem_append.mp hp with z | z
    · split at z
      · exact key _ _ (List.mem_singleton.mp z).symm
      · cases z
    · exact key _ _ (List.mem_singleton.mp z).symm
  have ex : ∀ M : List NK, (∀ k ∈ M, k ∈ L ∧ k ≠ .none) → ∃ bs : List (Nat × Nat), bs.map rgM = M ∧ ∀ b ∈ bs, some b ∈ moreO rows (regM rows wm dm) := by
    intro M
    induction M with
    | nil => exact fun _ => ⟨[], rfl, fun _ z => nomatch z⟩
    | cons k M ih =>
      intro hM
      obtain ⟨bs, e, hb⟩ := ih fun k hk => hM k (List.mem_cons_of_mem _ hk)
      obtain ⟨hk, hn⟩ := hM k List.mem_cons_self
      obtain ⟨o, ho, rfl⟩ := (h.mem k).mp hk
      cases o with
      | none => exact absurd rfl hn
      | some b =>
        refine ⟨b :: bs, by rw [List.map_cons, e]; rfl, fun c hc => ?_⟩
        rcases List.mem_cons.mp hc with rfl | hc
        · exact ho
        · exact hb c hc
  obtain ⟨bs, e, hb⟩ := ex (L.filter fun k => !decide (k = NestedKey.none) && !decide (k = rgM (regM rows wm dm))) fun k hk => by
    obtain ⟨h1, h2⟩ := List.mem_filter.mp hk
    rw [Bool.and_eq_true] at h2
    exact ⟨h1, by simpa using h2.1⟩
  refine ⟨bs, e, fun b => ?_⟩
  have hmore : b ∈ moreM rows (regM rows wm dm) ↔ some b ∈ moreO rows (regM rows wm dm) ∧ b ≠ regM rows wm dm := by
    unfold moreM
    rw [List.mem_filterMap]
    constructor
    · rintro ⟨o, ho, eo⟩
      cases o with
      | none => cases eo
      | some l =>
        have eo : (if l = regM rows wm dm then none else some l) = some b := eo
        split at eo
        · cases eo
        · rename_i hne
          cases eo; exact ⟨ho, hne⟩
    · rintro ⟨ho, hne⟩
      exact ⟨some b, ho, by show (if b = regM rows wm dm then none else some b) = some b; rw [if_neg hne]⟩
  rw [hmore]
  constructor
  · intro hbb
    refine ⟨hb b hbb, fun z => ?_⟩
    have : rgM b ∈ bs.map rgM := List.mem_map_of_mem hbb
    rw [e, List.mem_filter, Bool.and_eq_true] at this
    have h2 := this.2.2
    rw [z] at h2
    simp at h2
  · rintro ⟨ho, hne⟩
    have bb := bd _ ho b rfl
    have : rgM b ∈ bs.map rgM := by
      rw [e, List.mem_filter, Bool.and_eq_true]
      refine ⟨(h.mem _).mpr ⟨some b, ho, rfl⟩, rfl, ?_⟩
      rw [decide_eq_false (fun z => hne (rgM_inj bb (regM_bd _ _ _) z))]; rfl
    obtain ⟨c, hc, ec⟩ := List.mem_map.mp this
    have := rgM_inj (bd _ (hb c hc) c rfl) bb ec
    exact this ▸ hc

section
variable {X : Cx}
theorem op_neK (K : PySem.W.Frag) (hK : X.K = K) (hu : X.A.units + 64 < cLine) : OpR X (compareOp .NotEq) (rNeD K) := hK ▸ op_neD hu
theorem op_eqK (K : PySem.W.Frag) (hK : X.K = K) (hu : X.A.units + 64 < cLine) : OpR X (compareOp .Eq) (rEqD K) := hK ▸ op_eqD hu
end
theorem rv_ne {K : PySem.W.Frag} {H : Hp} {x y : V} {a b : NK} {Q : VK} (hx : Is H x a) (hy : Is H y b) (ha : plainK a = true) (hb : plainK b = true) (da : a.depth ≤ 60) (db : b.depth ≤ 60) (q : Q (.bl (!decide (a = b))) H) : rNeD K x y H Q :=
  ⟨a.data, b.data, hx.dp, hy.dp, shaped_data ha da, shaped_data hb db, by rw [eqv_k]; exact q⟩
theorem rv_eqk {K : PySem.W.Frag} {H : Hp} {x y : V} {a b : NK} {Q : VK} (hx : Is H x a) (hy : Is H y b) (ha : plainK a = true) (hb : plainK b = true) (da : a.depth ≤ 60) (db : b.depth ≤ 60) (q : Q (.bl (decide (a = b))) H) : rEqD K x y H Q :=
  ⟨a.data, b.data, hx.dp, hy.dp, shaped_data ha da, shaped_data hb db, by rw [eqv_k]; exact q⟩
def atK (l : List NK) (f : NK → Bool) (i : Nat) : Bool := match l[i]? with | some n => f n | none => false
def dtK (l : List NK) (i : Nat) : NK := (l[i]?).getD .none
theorem gvn_keys (l : List NK) (f : NK → Bool) : gvn l.length (atK l f) (dtK l) = l.filter f := by
  rw [gvn_list l f (fun k => k) _ _ (fun i x h => by unfold atK; rw [h]) (fun i x h => by unfold dtK; rw [h]; rfl), List.map_id']
section
variable {P : Program} {w : World} {K : PySem.W.Frag} {mg : Str → Option Value} {base : Heap}
abbrev nmMore : List Str := ["plan", "waits", "drains", "regime", "found", "pair", "is_unlike", "one"]
theorem scMore : FnScope nmMore ["plan", "waits", "drains"] (defScope sMore) := ⟨rfl, rfl, rfl, by decide +kernel, rfl, by decide +kernel, by decide +kernel⟩
def spMore : Sp := fun vs H Q _ => ∃ (vp vw vd : V) (rows : List (List Nat)) (wm dm : Nat), vs = [vp, vw, vd] ∧ Is H vp (planD rows) ∧ Good rows ∧ Is H vw (psM wm) ∧ Is H vd (psM dm) ∧ acR rows wm dm = true ∧ Wi (namesOf rows) dm ∧
  ∀ (v : V) (H' : Hp) (bs : List (Nat × Nat)), Ex H H' → Is H' v (.tup (bs.map rgM)) → (∀ b, b ∈ bs ↔ b ∈ moreM rows (regM rows wm dm)) → bs.length ≤ 200 → Q v H'
theorem wi_reg (rows : List (List Nat)) (wm dm : Nat) : Wi (namesOf rows) (regM rows wm dm).2 := fun x y hx hy h => by
  have : rel (drM (namesOf rows) (cloM (dirM rows wm dm)) ((sq (namesOf rows)).filter fun p => rel dm p.1 p.2)) x y = true := h
  rw [rel_drM (fun n hn => (namesOf_mem.mp hn).1) hy, Bool.and_eq_true, decide_eq_true_iff] at this
  exact this.1
set_option maxHeartbeats 8000000 in
theorem ok_more {f : Addr} {fd : FuncData} (F : Fun K "more_regimes" "more_regimes" sMore f fd) (D1 : Df P w K mg base "regime_of" 6 ["plan", "waits", "drains"] spRegimeOf) (D2 : Df P w K mg base "unlike_pairs" 4 ["plan"] spUnlike) (D3 : Df P w K mg base "with_wait" 7 ["plan", "regime", "pair"] spWW) (D4 : Df P w K mg base "with_drain" 7 ["plan", "regime", "pair"] spWD)
    (mT : mg "tuple" = none) (mS : mg "sorted" = none) : FnOk P w K mg base CX0 8 f fd ["plan", "waits", "drains"] spMore := by
  refine F.ok scMore (fun vs H Q E h => ?_) (fun cdv A outer s H vs Q E hr h => ?_)
  · obtain ⟨_, _, _, _, _, _, rfl, _⟩ := h; rfl
  · obtain ⟨vp, vw, vd, rows, wm, dm, rfl, hp, G, hw, hd, hac, hwi, q⟩ := h
    have nd := scMore.nd
    refine ⟨_, pss_cons (ps_set (i := 3) nd rfl (Or.inr rfl) (pe_df D1 hr (by decide) (by rfl) (pa_cons (pv 0) (pa_cons (pv 1) (pa_cons (pv 2) pa_nil)))))
      (pss_cons (ps_set (i := 4) nd rfl (Or.inl rfl) pe_gnew)
      (pss_cons (ps_for PassesOwn.never rfl (pi_list (pe_df D2 hr (by decide) (by rfl) (pa_cons (pv 0) pa_nil))) (pg_tup rfl (pgs_cons (pg_name (i := 5) nd rfl (Or.inl rfl)) (pgs_cons (pg_name (i := 6) nd rfl (Or.inl rfl)) pgs_nil)))
        (pss_cons (ps_if (pt_val (pv 6)) (pss_one (ps_asg pe_bl (pg_sub (pv 4) (pe_df D3 hr (by decide) (by rfl) (pa_cons (pv 0) (pa_cons (pv 3) (pa_cons (pv 5) pa_nil)))) (set_G (hu9 hr))))) pss_nil)
        (pss_one (ps_asg pe_bl (pg_sub (pv 4) (pe_df D4 hr (by decide) (by rfl) (pa_cons (pv 0) (pa_cons (pv 3) (pa_cons (pv 5) pa_nil)))) (set_G (hu9 hr)))))))
      (pss_one (ps_ret (pe_callTy call_tuple_of (by rfl) mT (by decide +kernel) (pa_cons (pe_callB (call_sortB (huS hr) rgM) (by rfl) mS (by decide +kernel) (pa_cons
        (pe_lock (pe_lc (own := [("one", 7)]) (g := gName 7) rfl nd (pi_G (pv 4)) (blkOk_by (N := nmMore) (sc := defScope sMore) (by decide +kernel)) (fun _ _ _ _ _ => pg_name (i := 7) nd rfl (Or.inl rfl))
          (fun _ _ _ _ _ => pts_one (pw_and (pt_cmp (pc_notN (pv 7))) (pw_and1 (pt_cmpR (op_neK K rfl hr.units) (pv 7) (pv 3) (nomark _)))).pt) (fun _ _ _ _ _ => pv 7))) pa_nil)) pa_nil)))))), ?_⟩
    refine ⟨vp, rfl, vw, rfl, vd, rfl, vp, vw, vd, rows, wm, dm, rfl, hp, G, hw, hd, hac, hwi, fun vr H1 e1 ir => ?_⟩
    generalize hr0 : regM rows wm dm = r at ir q
    have hwr : Wi (namesOf rows) r.2 := hr0 ▸ wi_reg rows wm dm
    intro D H2 hD c2 g2
    have hDn : H D = none := fresh_back e1 hD
    have e2 : Ex H1 H2 := c2.ex (Ex.refl _) hD
    have e02 := e1.trans e2
    refine ⟨vp, rfl, vp, rows, rfl, hp.ex e02, G, fun lu H3 us e3 hlu hus hul => ?_⟩
    have nlD : lu ≠ D := fun z => by obtain ⟨es, h, _⟩ := g2.ex; rw [z, h] at hlu; cases hlu
    have hol := offs_len rows
    refine ⟨lu, rfl, ⟨us, SqL.of hus⟩, ?_⟩
    refine for_list (xs := us) (fun i σ H4 => ∃ y5 y6, σ = [some vp, some vw, some vd, some vr, some (.ref D), y5, y6, none] ∧ Ex H1 H4 ∧ H4 lu = some (.lst us) ∧ UlAll H4 rows us (offs rows) ∧ ∃ L, DK w H4 D L ∧ OP L (((offs rows).take i).flatMap (ops rows r)))
      ⟨none, none, rfl, e2.trans e3, hus, hul, [], g2.ext e3, OP.empty⟩ (fun i σ H4 _ ⟨_, _, _, _, h, _⟩ => SqL.of h) ?_ ?_
    · rintro i x σ H4 hx ⟨y5, y6, rfl, e4, hus4, hul4, L4, g4, op4⟩
      obtain ⟨p, t, a, hp', rfl, ht, ha⟩ := hul4.at_ i x hx
      obtain ⟨hpm, hpne⟩ := List.mem_filter.mp (List.mem_of_getElem? hp')
      obtain ⟨hp1, hp2⟩ := sq_mem.mp hpm
      have hL4 : L4.length ≤ 200 := by
        have := op4.len
        have h2 := opsTo_len rows r ((offs rows).take i)
        have h3 := List.length_take_le i (offs rows)
        have h4 : ((offs rows).take i).length ≤ (offs rows).length := by rw [List.length_take]; omega
        omega
      refine ⟨t, _, rfl, SqT.of ht, rfl, _, _, rfl, _, _, rfl, rfl, ?_⟩
      have e04 := e1.trans e4
      -- what both stores share
      have key : ∀ (H5 : Hp) (L5 : List NK), Ex H1 H5 → H5 lu = some (.lst us) → UlAll H5 rows us (offs rows) → DK w H5 D L5 → OP L5 (((offs rows).take i).flatMap (ops rows r) ++ (if signOf rows p.1 != signOf rows p.2 then [tryM rows (r.1 ||| bt p.1 p.2) r.2] else [])) → L5.length ≤ 201 → H5 a = some (.tup [.int (p.1 : Int), .int (p.2 : Int)]) →
          tAsg (tC (.bl true)) (gSub (tVar 4) (tCall spWD [] (fun _ _ _ => False) (tCons (tVar 0) (tCons (tVar 3) (tCons (tVar 5) tNil)))) (rSetG w)) { nx := fun σ H4 => ∃ y5 y6, σ = [some vp, some vw, some vd, some vr, some (.ref D), y5, y6, none] ∧ Ex H1 H4 ∧ H4 lu = some (.lst us) ∧ UlAll H4 rows us (offs rows) ∧ ∃ L, DK w H4 D L ∧ OP L (((offs rows).take (i + 1)).flatMap (ops rows r)), rt := fun _ _ => False }
            [some vp, some vw, some vd, some vr, some (.ref D), some (.ref a), some (.bl (signOf rows p.1 != signOf rows p.2)), none] H5 := by
        intro H5 L5 e5 hus5 hul5 g5 op5 hl5 ha5
        refine ⟨_, rfl, vp, rfl, vr, rfl, _, rfl, vp, vr, .ref a, rows, r, p.1, p.2, rfl, hp.ex (e1.trans e5), G, ir.ex e5, .tup ha5 (.cons (.num _) (.cons (.num _) .nil)), hp1, hp2, hwr, fun v H6 e6 iv => ?_⟩
        refine ⟨D, L5, _, rfl, g5.ext e6, iv, opt_key iv, Nat.le_trans (depth_opt _) (by decide), by omega, fun H7 c7 g7 => ?_⟩
        have tk7 : Tk H6 H7 := c7.tk (g5.ext e6).ne_tup
        refine ⟨_, _, rfl, c7.ex (e5.trans e6) hD, (c7 _ nlD).trans (e6 _ _ hus5), (hul5.tk (Tk.ex e6)).tk tk7, _, g7, ?_⟩
        rw [take_snoc hp', List.flatMap_append, List.flatMap_singleton]
        show OP _ (_ ++ (_ ++ [_]))
        rw [← List.append_assoc]
        exact op5.ins _
      refine ⟨_, rfl, _, rfl, ?_⟩
      by_cases hs : (signOf rows p.1 != signOf rows p.2) = true
      · rw [hs]
        refine iteT ?_
        refine ⟨_, rfl, vp, rfl, vr, rfl, _, rfl, vp, vr, .ref a, rows, r, p.1, p.2, rfl, hp.ex e04, G, ir.ex e4, .tup ha (.cons (.num _) (.cons (.num _) .nil)), hp1, hp2, hwr, fun v H6 e6 iv => ?_⟩
        refine ⟨D, L4, _, rfl, g4.ext e6, iv, opt_key iv, Nat.le_trans (depth_opt _) (by decide), by omega, fun H7 c7 g7 => ?_⟩
        have tk7 : Tk H6 H7 := c7.tk (g4.ext e6).ne_tup
        have k := key H7 _ (c7.ex (e4.trans e6) hD) ((c7 _ nlD).trans (e6 _ _ hus4)) ((hul4.tk (Tk.ex e6)).tk tk7) g7 (by rw [if_pos hs]; exact op4.ins _) (by have := insK_len L4 (optD (tryM rows (r.1 ||| bt p.1 p.2) r.2)); omega) (tk7 _ _ (e6 _ _ ha))
        rw [hs] at k
        exact k
      · rw [Bool.eq_false_iff.mpr hs]
        refine iteF ?_
        have k := key H4 L4 e4 hus4 hul4 g4 (by rw [if_neg hs, List.append_nil]; exact op4) (by omega) ha
        rw [Bool.eq_false_iff.mpr hs] at k
        exact k
    · rintro σ H4 ⟨y5, y6, rfl, e4, hus4, hul4, L4, g4, op4⟩
      rw [hul4.len, List.take_length, ← moreO_eq] at op4
      obtain ⟨es, hes, hem, hek⟩ := g4.ex
      have hlen : es.length = L4.length := by rw [← hem, List.length_map]
      have hL4 : L4.length ≤ 200 := by
        have := op4.len
        have h2 := opsTo_len rows r (offs rows)
        rw [moreO_eq] at this
        omega
      refine ⟨D, gO w D es, hes, trivial, fun od => ?_⟩
      have eL : ∀ {H' : Hp}, Ex (upd H4 D (.frz od (gO w D es))) H' → ∀ b xs, H4 b = some (.tup xs) → H' b = some (.tup xs) := fun e b xs hb => e b _ (by rw [upd_ne (fun z => by rw [z, hes] at hb; cases hb)]; exact hb)
      refine ⟨_, rfl, D, od, es, rfl, upd_same, fun l hl => ?_⟩
      refine lc_data (walk_G (w := w) (d := D) (o := od) (es := es)) (atK L4 fun k => !decide (k = NestedKey.none) && !decide (k = rgM r)) (dtK L4) hl (by omega) (fun H' e => e _ _ upd_same) ?_ ?_
      · rintro i x H7 H7' hi e7 ⟨rfl, k, hk⟩ Q' kk
        have hkl : L4[i]? = some k := by rw [← hem, List.getElem?_map, hk]; rfl
        obtain ⟨isx, _, _⟩ := hek _ (List.mem_of_getElem? hk)
        have isx7 : Is H7' x k := isx.mv (eL e7)
        have ir7 : Is H7' vr (rgM r) := (ir.ex e4).mv (eL e7)
        obtain ⟨o, ho, rfl⟩ := (op4.mem k).mp (List.mem_of_getElem? hkl)
        refine kk _ _ (Ex.refl _) rfl ?_ ?_
        · unfold atK
          rw [hkl]
          refine et_and (fun H8 e8 Q8 q8 => ⟨x, rfl, _, rfl, ?_⟩) (fun _ H8 e8 Q8 q8 => ⟨x, rfl, vr, rfl, rv_ne (isx7.ex e8) (ir7.ex e8) (plain_opt o) (plain_rg r) (Nat.le_trans (depth_opt o) (by decide)) (Nat.le_trans (depth_rg r) (by decide)) ⟨_, rfl, q8 _ (Ex.refl _)⟩⟩)
          rw [non_iff isx7]
          exact q8 _ (Ex.refl _)
        · intro _
          unfold dtK
          rw [hkl]
          exact evP_var rfl isx7
      intro H7 us7 e7 hus7 hall
      rw [hlen, gvn_keys] at hall
      have hfz7 := e7 _ _ (upd_same (H := H4) (a := D) (o := .frz od (gO w D es)))
      refine ⟨hfz7, ?_⟩
      have nl : l ≠ D := fun z => by rw [z, upd_same] at hl; cases hl
      have e47 : Ex H4 (upd H7 D (gO w D es)) := lock_ex hes e7
      have hall2 := hall.mv (lock_tk hfz7)
      have hus2 : (upd H7 D (gO w D es)) l = some (.lst us7) := by rw [upd_ne nl]; exact hus7
      generalize upd H7 D (gO w D es) = H8 at e47 hall2 hus2
      subst hr0
      obtain ⟨bs, ebs, hbs⟩ := op4.pick
      rw [← ebs] at hall2
      have hbl : bs.length ≤ 200 := by
        have h1 : bs.length = (bs.map rgM).length := (List.length_map _).symm
        rw [h1, ebs]
        have := List.length_filter_le (fun k => !decide (k = NestedKey.none) && !decide (k = rgM (regM rows wm dm))) L4
        omega
      refine nilT ?_
      refine ⟨l, us7, bs, rfl, SqL.of hus2, hall2, sorts_rg bs, by omega, fun l9 ys9 H9 hl9 c9 hys9 hall9 => ⟨l9, ys9, rfl, .inl ⟨SqL.of hys9, fun t9 ht9 => ?_⟩⟩⟩
      have e9 : Ex H8 H9 := c9.ex (Ex.refl _) hl9
      refine q _ _ (sortB rgM bs) ((((e1.trans e4).trans e47).trans e9).trans (Ex.new ht9)) (.tup upd_same (hall9.ex (Ex.new ht9))) (fun b => ?_) ?_
      · rw [← hbs]
        exact (List.mergeSort_perm bs _).mem_iff
      · have : (sortB rgM bs).length = bs.length := (List.mergeSort_perm bs _).length_eq
        omega
end
end K82
/-! The law's own defs: places, names; the matrix. -/
namespace K82
open PySem PySem.Spec PyProof.Rows L2 Evl RZ

section
variable {X : Cx}
/-- x in t, x not in t, t a tuple of data -/
def rInT2 (K : PySem.W.Frag) : R2 := fun x y H Q => ∃ d ds, Dp K H x d ∧ Dp K H y (.tuple ds) ∧ SeqAt.shaped d = true ∧ SeqAt.shaped (.tuple ds) = true ∧ Q (.bl (ds.any fun z => PyData.eqv z d)) H
def rNinT2 (K : PySem.W.Frag) : R2 := fun x y H Q => ∃ d ds, Dp K H x d ∧ Dp K H y (.tuple ds) ∧ SeqAt.shaped d = true ∧ SeqAt.shaped (.tuple ds) = true ∧ Q (.bl (!ds.any fun z => PyData.eqv z d)) H
theorem op_inT2 (K : PySem.W.Frag) (hK : X.K = K) (hu : X.A.units + 65 < cLine) : OpR X (compareOp .In) (rInT2 K) := by
  subst hK
  intro pins s σ H x y v u Q I rx ry h
  obtain ⟨d, ds, hd, he, sd, se, q⟩ := h
  obtain ⟨as, r1⟩ := Dp.reads I d x v hd rx
  obtain ⟨bs, r2⟩ := Dp.reads I (.tuple ds) y u he ry
  exact SeqAt.in_tuple_reads r2 r1 (SeqAt.canLay_of_shaped se) (SeqAt.canLay_of_shaped sd) (room_in_shaped sd hu) ⟨.bl _, H, I, rfl, q⟩
theorem op_ninT2 (K : PySem.W.Frag) (hK : X.K = K) (hu : X.A.units + 65 < cLine) : OpR X (compareOp .NotIn) (rNinT2 K) := by
  subst hK
  intro pins s σ H x y v u Q I rx ry h
  obtain ⟨d, ds, hd, he, sd, se, q⟩ := h
  obtain ⟨as, r1⟩ := Dp.reads I d x v hd rx
  obtain ⟨bs, r2⟩ := Dp.reads I (.tuple ds) y u he ry
  exact SeqAt.notIn_tuple_reads r2 r1 (SeqAt.canLay_of_shaped se) (SeqAt.canLay_of_shaped sd) (room_in_shaped sd hu) ⟨.bl _, H, I, rfl, q⟩
theorem hu65 {A : Around} {k : Nat} (hr : Room k A) : A.units + 65 < cLine := by have := hr.un; omega
theorem pg_tupK (K : PySem.W.Frag) (hK : X.K = K) {es : List Expr} {k n : Nat} {t : TGs} {pos : Pos} (h : PG X (.Tuple es k pos) (gTup X.K n t)) : PG X (.Tuple es k pos) (gTup K n t) := hK ▸ h
theorem pi_zipSK (K : PySem.W.Frag) (hK : X.K = K) {tg e : Expr} {ta : TA} (h : PI X tg e (iZipS X.K ta)) : PI X tg e (iZipS K ta) := hK ▸ h
end
theorem any_eqv (k : NK) : ∀ ks : List NK, ((NestedKey.datas ks).any fun z => PyData.eqv z k.data) = decide (k ∈ ks)
  | [] => rfl
  | j :: ks => by
    show (PyData.eqv j.data k.data || (NestedKey.datas ks).any fun z => PyData.eqv z k.data) = _
    rw [eqv_k, any_eqv k ks, Bool.eq_iff_iff, Bool.or_eq_true, decide_eq_true_iff, decide_eq_true_iff, decide_eq_true_iff, List.mem_cons]
    exact ⟨fun h => h.imp Eq.symm id, fun h => h.imp Eq.symm id⟩
theorem shaped_tup {ks : List NK} (h : plainK.plainKs ks = true) (hd : NestedKey.depthAll ks ≤ 59) : SeqAt.shaped (.tuple (NestedKey.datas ks)) = true :=
  shaped_data (k := .tup ks) h (by show NestedKey.depthAll ks + 1 ≤ 60; omega)
theorem rv_inT {K : PySem.W.Frag} {H : Hp} {x y : V} {k : NK} {ks : List NK} {Q : VK} (hx : Is H x k) (hy : Is H y (.tup ks)) (h1 : plainK k = true) (h2 : plainK.plainKs ks = true) (d1 : k.depth ≤ 60) (d2 : NestedKey.depthAll ks ≤ 59) (q : Q (.bl (decide (k ∈ ks))) H) : rInT2 K x y H Q :=
  ⟨k.data, NestedKey.datas ks, hx.dp, hy.dp, shaped_data h1 d1, shaped_tup h2 d2, by rw [any_eqv]; exact q⟩
theorem rv_ninT {K : PySem.W.Frag} {H : Hp} {x y : V} {k : NK} {ks : List NK} {Q : VK} (hx : Is H x k) (hy : Is H y (.tup ks)) (h1 : plainK k = true) (h2 : plainK.plainKs ks = true) (d1 : k.depth ≤ 60) (d2 : NestedKey.depthAll ks ≤ 59) (q : Q (.bl (!decide (k ∈ ks))) H) : rNinT2 K x y H Q :=
  ⟨k.data, NestedKey.datas ks, hx.dp, hy.dp, shaped_data h1 d1, shaped_tup h2 d2, by rw [any_eqv]; exact q⟩

section
variable {P : Program} {w : World} {K : PySem.W.Frag} {mg : Str → Option Value} {base : Heap}
abbrev nmLP : List Str := ["_law_plan", "_law_found", "_law_sign", "_law_row", "_law_index", "_law_change"]
theorem scLP : FnScope nmLP ["_law_plan"] (defScope sLPlaces) := ⟨rfl, rfl, rfl, by decide +kernel, rfl, by decide +kernel, by decide +kernel⟩
theorem ok_lplaces {f : Addr} {fd : FuncData} (F : Fun K "_law_places" "_law_places" sLPlaces f fd) (mE : mg "enumerate" = none) (mD : mg "dict" = none) : FnOk P w K mg base CX0 1 f fd ["_law_plan"] spPlaces := by
  refine F.ok scLP (fun vs H Q E h => ?_) (fun cdv A outer s H vs Q E hr h => ?_)
  · obtain ⟨_, _, rfl, _⟩ := h; rfl
  · obtain ⟨vp, rows, rfl, hp, G, q⟩ := h
    have hu := hu_of hr
    have nd := scLP.nd
    refine ⟨_, pss_cons (ps_set (i := 1) nd rfl (Or.inl rfl) (pe_callTy (call_dictP rfl) (by rfl) mD (by decide +kernel) (pa_cons (pe_lst pa_nil) pa_nil)))
      (pss_cons (ps_for PassesOwn.never rfl (pi_enumT (by rfl) mE (pa_cons (pe_ix ix_tup (pv 0) pe_int (fun _ _ => rfl)) pa_nil))
        (pg_tup rfl (pgs_cons (pg_name (i := 2) nd rfl (Or.inl rfl)) (pgs_cons (pg_name (i := 3) nd rfl (Or.inl rfl)) pgs_nil)))
        (pss_one (ps_for PassesOwn.never rfl (pi_enumT (by rfl) mE (pa_cons (pe_ix ix_tup (pv 3) pe_int (fun _ _ => rfl)) pa_nil))
          (pg_tup rfl (pgs_cons (pg_name (i := 4) nd rfl (Or.inl rfl)) (pgs_cons (pg_name (i := 5) nd rfl (Or.inl rfl)) pgs_nil)))
          (pss_one (ps_dput hu (pv 1) (pe_ix ix_tup (pv 5) pe_int (fun _ _ => rfl)) (pe_tup (pa_cons (pv 2) (pa_cons (pe_op op_add (pv 4) pe_int) pa_nil))) rfl)))))
      (pss_one (ps_ret (pv 1)))), ?_⟩
    refine ⟨Nat.zero_le _, fun l0 hl0 => ⟨l0, [], [], rfl, SqL.of upd_same, .nil, fun d hd' => ?_⟩⟩
    have e0 := Ex.new hl0 (o := .lst [])
    have hd : H d = none := fresh_back e0 hd'
    obtain ⟨a, sg, v1, v2, xs, rfl, ha, hsg, hxs⟩ := plan_inv hp
    have e1 : Ex H (upd (upd H l0 (.lst [])) d (.dK (mergeK [] []))) := e0.trans (Ex.new hd')
    have hlen : xs.length = rows.length := by rw [hxs.length, List.length_map]
    refine ⟨_, rfl, a, _, 0, .ref sg, rfl, rfl, SqT.of (e1 _ _ ha), rfl, sg, xs, rfl, SqT.of (e1 _ _ hsg), ?_⟩
    refine for_it (walk_E (xs := xs)) (fun i σ H2 => ∃ y2 y3 y4 y5, σ = [some (.ref a), some (.ref d), y2, y3, y4, y5] ∧ Ex H H2 ∧ ∃ kvs, H2 d = some (.dK kvs) ∧ PlcIn H2 rows (upto rows i 0) kvs)
      ⟨none, none, none, none, rfl, e1, [], upd_same, by rw [upto_zero]; exact ⟨rfl, fun _ z => nomatch z⟩⟩ (fun i σ H2 _ ⟨_, _, _, _, _, e2, _⟩ => SqT.of (e2 _ _ hsg)) ?_ ?_
    · rintro i x σ H2 H3 hi ⟨y2, y3, y4, y5, rfl, e2, kvs, hk, pl⟩ y
      obtain ⟨T, x1, x2, rfl, nT, e3, hT, q1, q2⟩ := ypair_is (K := K) y
      obtain rfl := Option.some.inj q1
      obtain ⟨r, ra, rc, cs, hr', rfl, hra, hrc, hcs⟩ := row_at hxs q2
      have e23 := e2.trans e3
      refine ⟨T, _, rfl, hT, rfl, _, _, rfl, _, _, rfl, rfl, ?_⟩
      refine ⟨_, rfl, ra, _, 1, _, rfl, rfl, SqT.of (e23 _ _ hra), atI_nat (j := 1) rfl, rc, cs, rfl, SqT.of (e23 _ _ hrc), ?_⟩
      have hcl : cs.length = r.length := by rw [hcs.length, List.length_map]
      refine for_it (walk_E (xs := cs)) (fun j σ H4 => ∃ y4 y5, σ = [some (.ref a), some (.ref d), some (.int (i : Int)), some (.ref ra), y4, y5] ∧ Ex H H4 ∧ ∃ kvs, H4 d = some (.dK kvs) ∧ PlcIn H4 rows (upto rows i j) kvs)
        ⟨y4, y5, rfl, e23, kvs, e3 _ _ hk, pl.tk (Tk.ex e3)⟩ (fun j σ H4 _ ⟨_, _, _, e4, _⟩ => SqT.of (e4 _ _ hrc)) ?_ ?_
      · rintro j x σ H4 H5 hj ⟨z4, z5, rfl, e4, kvs4, hk4, pl4⟩ y'
        obtain ⟨T', x1', x2', rfl, nT', e5, hT', q1', q2'⟩ := ypair_is (K := K) y'
        obtain rfl := Option.some.inj q1'
        obtain ⟨n, na, hn, rfl, hna⟩ := ch_at hcs q2'
        have e45 := e4.trans e5
        refine ⟨T', _, rfl, hT', rfl, _, _, rfl, _, _, rfl, rfl, ?_⟩
        have hk5 := e5 _ _ hk4
        refine ⟨_, rfl, _, rfl, _, _, rfl, rfl, by show 2 ≤ sizeLine; decide, fun t ht => ?_⟩
        have e6 : Ex H5 (upd H5 t (.tup [.int (i : Int), .int ((j : Int) + 1)])) := Ex.new ht
        have hk6 := e6 _ _ hk5
        have hnew := upto_new G.nd hr' hn
        have pl6 := (pl4.tk (Tk.ex e5)).tk (Tk.ex e6)
        have hlen6 : kvs4.length ≤ 10 := by
          have l1 : kvs4.length = (upto rows i j).length := by have := congrArg List.length pl4.ks; simpa using this
          rw [l1]
          have := (upto_sub (j := j) hr').length_le
          have := nodup_lt10 G.nd G.lt
          omega
        refine ⟨_, rfl, _, rfl, na, _, 0, _, rfl, rfl, SqT.of ((e45.trans e6) _ _ hna), atI_nat (j := 0) rfl, d, _, rfl, DPut.k (k := Sum.inl (n : Int)) hk6 (small1000 (by omega)), ?_⟩
        have tk7 : Tk (upd H5 t (.tup [.int (i : Int), .int ((j : Int) + 1)])) (upd (upd H5 t (.tup [.int (i : Int), .int ((j : Int) + 1)])) d (.dK (putK kvs4 (Sum.inl (n : Int)) (.ref t)))) := Chg.tku fun us z => by rw [hk6] at z; cases z
        refine ⟨_, _, rfl, (Chg.upd).ex (e45.trans e6) hd, _, upd_same, ?_⟩
        rw [upto_all hr' hn]
        refine (pl6.put hnew (i := (j : Int) + 1) ?_).tk tk7
        rw [signOf_at rows i r G.nd hr' (List.mem_of_getElem? hn)]
        exact .tup upd_same (.cons (.num _) (.cons (.num _) .nil))
      · rintro σ H4 ⟨z4, z5, rfl, e4, kvs4, hk4, pl4⟩
        rw [hcl, upto_next hr', ← upto_zero] at pl4
        exact ⟨_, _, _, _, rfl, e4, kvs4, hk4, pl4⟩
    · rintro σ H2 ⟨y2, y3, y4, y5, rfl, e2, kvs, hk, pl⟩
      rw [upto_zero, hlen, List.take_length] at pl
      exact ⟨_, rfl, q d H2 kvs e2 hd hk pl⟩
theorem scLN : FnScope ["_law_plan"] ["_law_plan"] (defScope sLNames) := ⟨rfl, rfl, rfl, by decide +kernel, rfl, by decide +kernel, by decide +kernel⟩
def spLNames : Sp := fun vs H Q _ => ∃ (vp : V) (rows : List (List Nat)), vs = [vp] ∧ Is H vp (planD rows) ∧ Good rows ∧ ∀ p H', Ex H H' → H p = none → H' p = some (.lst (natsV (namesOf rows))) → Q (.ref p) H'
theorem ok_lnames {f : Addr} {fd : FuncData} (F : Fun K "_law_names_of" "_law_names_of" sLNames f fd) (D1 : Df P w K mg base "_law_places" 1 ["_law_plan"] spPlaces) (mS : mg "sorted" = none) : FnOk P w K mg base CX0 2 f fd ["_law_plan"] spLNames := by
  refine F.ok scLN (fun vs H Q E h => ?_) (fun cdv A outer s H vs Q E hr h => ?_)
  · obtain ⟨_, _, rfl, _⟩ := h; rfl
  · obtain ⟨vp, rows, rfl, hp, G, q⟩ := h
    refine ⟨_, pss_one (ps_ret (pe_callB (call_sortedDI rfl) (by rfl) mS (by decide +kernel) (pa_cons (pe_df D1 hr (Nat.le_refl _) (by rfl) (pa_cons (pv 0) pa_nil)) pa_nil))), ?_⟩
    refine ⟨vp, rfl, vp, rows, rfl, hp, G, fun d H1 kvs e1 hd hk pl => ?_⟩
    have hks : kvs.map (·.1) = (rows.flatten.map fun (n : Nat) => (n : Int)).map Sum.inl := by rw [pl.ks, List.map_map]; rfl
    refine ⟨d, kvs, _, rfl, .inl hk, hks, ?_, fun ys l hperm hs hl => ?_⟩
    · rw [List.length_map]
      have := nodup_lt10 G.nd G.lt
      omega
    · have := names_sorted G hperm hs
      subst this
      refine q l _ (e1.trans (Ex.new hl)) (fresh_back e1 hl) ?_
      rw [upd_same]
      unfold natsV
      rw [List.map_map]; rfl
end
end K82
/-! The matrix of _law_follows. -/
namespace K82
open PySem PySem.Spec PyProof.Rows L2 Evl RZ

def rowV (m i : Nat) : List V := (List.range 10).map fun y => V.bl (rel m i y)
theorem rowV_len (m i : Nat) : (rowV m i).length = 10 := by unfold rowV; rw [List.length_map, List.length_range]
theorem rowV_at {m i y : Nat} (hy : y < 10) : (rowV m i)[y]? = some (.bl (rel m i y)) := by
  unfold rowV
  rw [List.getElem?_map, List.getElem?_range hy]; rfl
theorem rowV_congr {m m' i i' : Nat} (h : ∀ y, y < 10 → rel m i y = rel m' i' y) : rowV m i = rowV m' i' := by
  unfold rowV
  refine List.map_congr_left fun y hy => ?_
  rw [h y (List.mem_range.mp hy)]
/-- the matrix at k: ten rows, none of the objects of ls -/
structure Mat (H0 H : Hp) (k m : Nat) (ls : List Addr) : Prop where
  ex : ∃ rs : List Addr, rs.length = 10 ∧ rs.Nodup ∧ k ∉ rs ∧ H k = some (.lst (rs.map V.ref)) ∧ (∀ (i : Nat) (a : Addr), rs[i]? = some a → H a = some (.lst (rowV m i)) ∧ H0 a = none) ∧ ∀ b ∈ ls, b ≠ k ∧ b ∉ rs
  fr : H0 k = none
theorem Mat.ext {H0 H H' : Hp} {k m : Nat} {ls : List Addr} (h : Mat H0 H k m ls) (e : Ex H H') : Mat H0 H' k m ls := by
  obtain ⟨rs, h1, h2, h3, h4, h5, h6⟩ := h.ex
  exact ⟨⟨rs, h1, h2, h3, e _ _ h4, fun i a ha => ⟨e _ _ (h5 i a ha).1, (h5 i a ha).2⟩, h6⟩, h.fr⟩
theorem Mat.add {H0 H : Hp} {k m : Nat} {ls : List Addr} {b : Addr} (h : Mat H0 H k m ls) (hb : H b = none) : Mat H0 H k m (b :: ls) := by
  obtain ⟨rs, h1, h2, h3, h4, h5, h6⟩ := h.ex
  refine ⟨⟨rs, h1, h2, h3, h4, h5, fun c hc => ?_⟩, h.fr⟩
  rcases List.mem_cons.mp hc with rfl | hc
  · refine ⟨fun z => ?_, fun z => ?_⟩
    · rw [z, h4] at hb; cases hb
    obtain ⟨i, hi⟩ := List.getElem?_of_mem z
    rw [(h5 i c hi).1] at hb; cases hb
  · exact h6 c hc
theorem Mat.sub {H0 H : Hp} {k m : Nat} {ls ls' : List Addr} (h : Mat H0 H k m ls) (s : ∀ b ∈ ls', b ∈ ls) : Mat H0 H k m ls' := by
  obtain ⟨rs, h1, h2, h3, h4, h5, h6⟩ := h.ex
  exact ⟨⟨rs, h1, h2, h3, h4, h5, fun c hc => h6 c (s c hc)⟩, h.fr⟩
/-- another object changes -/
theorem Mat.chg {H0 H H' : Hp} {k m : Nat} {ls : List Addr} {b : Addr} (h : Mat H0 H k m ls) (hb : b ∈ ls) (c : Chg b H H') : Mat H0 H' k m ls := by
  obtain ⟨rs, h1, h2, h3, h4, h5, h6⟩ := h.ex
  obtain ⟨n1, n2⟩ := h6 b hb
  refine ⟨⟨rs, h1, h2, h3, (c _ n1.symm).trans h4, fun i a ha => ⟨(c _ fun z => n2 (z ▸ List.mem_of_getElem? ha)).trans (h5 i a ha).1, (h5 i a ha).2⟩, h6⟩, h.fr⟩
theorem Mat.congr {H0 H : Hp} {k m m' : Nat} {ls : List Addr} (h : Mat H0 H k m ls) (e : ∀ x y, x < 10 → y < 10 → rel m x y = rel m' x y) : Mat H0 H k m' ls := by
  obtain ⟨rs, h1, h2, h3, h4, h5, h6⟩ := h.ex
  refine ⟨⟨rs, h1, h2, h3, h4, fun i a ha => ⟨?_, (h5 i a ha).2⟩, h6⟩, h.fr⟩
  have hi : i < 10 := by rw [← h1]; exact (List.getElem?_eq_some_iff.mp ha).1
  rw [← rowV_congr (m := m) (i := i) fun y hy => e i y hi hy]
  exact (h5 i a ha).1
theorem Mat.row {H0 H : Hp} {k m : Nat} {ls : List Addr} (h : Mat H0 H k m ls) {x : Nat} (hx : x < 10) : ∃ (rs : List Addr) (a : Addr), H k = some (.lst (rs.map V.ref)) ∧ (rs.map V.ref)[x]? = some (.ref a) ∧ H a = some (.lst (rowV m x)) ∧ rs.length = 10 := by
  obtain ⟨rs, h1, h2, h3, h4, h5, h6⟩ := h.ex
  have : rs[x]? = some rs[x] := List.getElem?_eq_getElem (by omega)
  exact ⟨rs, _, h4, by rw [List.getElem?_map, this]; rfl, (h5 x _ this).1, h1⟩
theorem Mat.cell {K : PySem.W.Frag} {H0 H : Hp} {k m : Nat} {ls : List Addr} (h : Mat H0 H k m ls) {σ : L2.St} {i j l x y : Nat} (h1 : σ[i]? = some (some (.ref k))) (h2 : σ[j]? = some (some (.int (x : Int)))) (h3 : σ[l]? = some (some (.int (y : Int)))) (hx : x < 10) (hy : y < 10) :
    Ev (tOp (rIxL K) (tOp (rIxL K) (tVar i) (tVar j)) (tVar l)) σ H (.bl (rel m x y)) := fun H1 e Q q => by
  obtain ⟨rs, a, g1, g2, g3, _⟩ := h.row hx
  exact ⟨_, h1, _, h2, k, _, (x : Int), .ref a, rfl, rfl, SqL.of (e _ _ g1), atI_nat g2, _, h3, a, _, (y : Int), _, rfl, rfl, SqL.of (e _ _ g3), atI_nat (rowV_at hy), q H1 (Ex.refl _)⟩
theorem Mat.put {H0 H : Hp} {k m : Nat} {ls : List Addr} (h : Mat H0 H k m ls) {x y : Nat} (hx : x < 10) (hy : y < 10) : ∃ (rs : List Addr) (a : Addr), H k = some (.lst (rs.map V.ref)) ∧ (rs.map V.ref)[x]? = some (.ref a) ∧ rs.length = 10 ∧ H a = some (.lst (rowV m x)) ∧ H0 a = none ∧ (∀ b ∈ ls, b ≠ a) ∧
    Mat H0 (upd H a (.lst ((rowV m x).set y (.bl true)))) k (m ||| bt x y) ls := by
  obtain ⟨rs, h1, h2, h3, h4, h5, h6⟩ := h.ex
  have hxa : rs[x]? = some rs[x] := List.getElem?_eq_getElem (by omega)
  generalize rs[x] = a at hxa
  obtain ⟨g1, g2⟩ := h5 x a hxa
  have hka : k ≠ a := fun z => h3 (z ▸ List.mem_of_getElem? hxa)
  refine ⟨rs, a, h4, by rw [List.getElem?_map, hxa]; rfl, h1, g1, g2, fun b hb z => (h6 b hb).2 (z ▸ List.mem_of_getElem? hxa), ⟨rs, h1, h2, h3, (upd_ne hka).trans h4, fun i b hi => ?_, h6⟩, h.fr⟩
  by_cases hix : i = x
  · subst hix
    rw [hxa] at hi; cases hi
    refine ⟨?_, g2⟩
    rw [upd_same]
    congr 2
    refine List.ext_getElem? fun j => ?_
    rw [List.getElem?_set, rowV_len]
    by_cases hj : y = j
    · subst hj
      rw [if_pos rfl, if_pos hy, rowV_at hy, rel_or, rel_bt hy hy, decide_eq_true rfl, Bool.or_true]
    · rw [if_neg hj]
      by_cases hj10 : j < 10
      · rw [rowV_at hj10, rowV_at hj10, rel_or, rel_bt hy hj10, decide_eq_false (fun z => hj (by cases z; rfl)), Bool.or_false]
      · rw [List.getElem?_eq_none (by rw [rowV_len]; omega), List.getElem?_eq_none (by rw [rowV_len]; omega)]
  · have hba : b ≠ a := fun z => by
      subst z
      have hl1 := (List.getElem?_eq_some_iff.mp hi).1
      have hl2 := (List.getElem?_eq_some_iff.mp hxa).1
      exact hix ((List.getElem?_inj hl1 h2).mp (hi.trans hxa.symm))
    have hi10 : i < 10 := by rw [← h1]; exact (List.getElem?_eq_some_iff.mp hi).1
    refine ⟨?_, (h5 i b hi).2⟩
    rw [upd_ne hba, (h5 i b hi).1]
    congr 2
    exact rowV_congr fun j hj => by rw [rel_or, rel_bt hy hj, decide_eq_false (fun z => hix (by cases z; rfl)), Bool.or_false]
/-- row x is replaced by the new list n -/
theorem Mat.rep {H0 H : Hp} {k m m' : Nat} {ls : List Addr} {n : Addr} (h : Mat H0 H k m (n :: ls)) {x : Nat} (hx : x < 10) (hn : H n = some (.lst (rowV m' x))) (h0 : H0 n = none) (e : ∀ i y, i < 10 → y < 10 → i ≠ x → rel m i y = rel m' i y) :
    ∃ rs : List Addr, H k = some (.lst (rs.map V.ref)) ∧ rs.length = 10 ∧ (∀ b ∈ ls, b ≠ k) ∧ ((∀ b ∈ ls, b ≠ n) → Mat H0 (upd H k (.lst ((rs.map V.ref).set x (.ref n)))) k m' ls) := by
  obtain ⟨rs, h1, h2, h3, h4, h5, h6⟩ := h.ex
  obtain ⟨nk, nr⟩ := h6 n List.mem_cons_self
  refine ⟨rs, h4, h1, fun b hb => (h6 b (List.mem_cons_of_mem _ hb)).1, fun hnl => ⟨⟨rs.set x n, by rw [List.length_set]; exact h1, ?_, ?_, by rw [upd_same, List.map_set], fun i a hi => ?_, fun b hb => ⟨(h6 b (List.mem_cons_of_mem _ hb)).1, fun z => ?_⟩⟩, h.fr⟩⟩
  · rw [List.nodup_iff_pairwise_ne, List.pairwise_iff_getElem] at *
    intro i j hi hj hij
    rw [List.length_set] at hi hj
    rw [List.getElem_set, List.getElem_set]
    by_cases h1 : x = i
    · rw [if_pos h1, if_neg (by omega)]
      exact fun z => nr (z ▸ List.getElem_mem _)
    · rw [if_neg h1]
      by_cases h2' : x = j
      · rw [if_pos h2']
        exact fun z => nr (z ▸ List.getElem_mem _)
      · rw [if_neg h2']
        exact h2 i j hi hj hij
  · intro z
    rcases List.mem_or_eq_of_mem_set z with z | z
    · exact h3 z
    · exact nk z.symm
  · rw [List.getElem?_set] at hi
    by_cases hix : x = i
    · subst hix
      rw [if_pos rfl, if_pos (by omega)] at hi
      cases hi
      exact ⟨(upd_ne nk).trans hn, h0⟩
    · rw [if_neg hix] at hi
      have hi10 : i < 10 := by rw [← h1]; exact (List.getElem?_eq_some_iff.mp hi).1
      refine ⟨?_, (h5 i a hi).2⟩
      have hak : a ≠ k := fun z => h3 (z ▸ List.mem_of_getElem? hi)
      rw [upd_ne hak, (h5 i a hi).1]
      congr 2
      exact rowV_congr fun j hj => e i j hi10 hj (Ne.symm hix)
  · rcases List.mem_or_eq_of_mem_set z with z | z
    · exact (h6 b (List.mem_cons_of_mem _ hb)).2 z
    · exact hnl b hb z
theorem clo_congr {m m' : Nat} (h : ∀ x y, x < 10 → y < 10 → rel m x y = rel m' x y) : ∀ x y, x < 10 → y < 10 → rel (cloM m) x y = rel (cloM m') x y := by
  have key : ∀ (l : List Nat) (m m' : Nat), (∀ i ∈ l, i < 10) → (∀ x y, x < 10 → y < 10 → rel m x y = rel m' x y) → ∀ x y, x < 10 → y < 10 → rel (l.foldl stepM m) x y = rel (l.foldl stepM m') x y := by
    intro l
    induction l with
    | nil => exact fun m m' _ h => h
    | cons i l ih =>
      intro m m' hl h
      have hi := hl i List.mem_cons_self
      refine ih _ _ (fun j hj => hl j (List.mem_cons_of_mem _ hj)) fun x y hx hy => ?_
      rw [rel_step hx hy, rel_step hx hy, h x y hx hy, h x i hx hi, h i y hi hy]
  exact key _ m m' (fun i hi => List.mem_range.mp hi) h
theorem given_all (n : Nat) (v : Nat → V) : given n (fun _ => true) v = (List.range n).map v := by
  unfold given
  rw [List.filter_eq_self.mpr fun _ _ => rfl]
end K82
/-! _law_follows. -/
namespace K82
open PySem PySem.Spec PyProof.Rows L2 Evl RZ

theorem prodTo_mem {as bs : List Nat} {i : Nat} {p : Nat × Nat} : p ∈ prodTo as bs i ↔ p.1 ∈ as.take i ∧ p.2 ∈ bs := by
  obtain ⟨x, y⟩ := p
  unfold prodTo
  simp only [List.mem_flatMap, List.mem_map]
  constructor
  · rintro ⟨a, ha, b, hb, e⟩
    cases e
    exact ⟨ha, hb⟩
  · rintro ⟨h1, h2⟩
    exact ⟨x, h1, y, h2, rfl⟩
/-- a comprehension of plain values over any walk whose things stay -/
theorem lc_vals {J : It} {n : Nat} {G : Hp → Prop} {Y : Nat → Hp → V → Hp → Prop} (w : Walk J n G Y) (f : Nat → Bool) (v : Nat → V) {g : TG} {tt : TT} {te : TE} {vs : List Nat} {σ : L2.St} {H1 : Hp} {D : Addr} {Qd : Hp → Prop} (hD : H1 D = none) (hn : n ≤ 50000)
    (hG : ∀ H, Ex H1 H → G H)
    (hs : ∀ i x H H', i < n → Ex H1 H → Y i H x H' → ∀ Q : L2.St → Hp → Prop, (∀ σ2 H2, Ex H H2 → wipe σ2 vs = wipe σ vs → EvT tt σ2 H2 (f i) → (f i = true → Ev te σ2 H2 (v i)) → Q σ2 H2) → g x (wipe σ vs) H' Q)
    (hd : ∀ H, Ex H1 H → H D = some (.lst (given n f v)) → Qd H) :
    ∃ W : Nat → Nat → Hp → Prop, (∃ m, W 0 m (upd H1 D (.lst []))) ∧ ∀ i m H, W i m H →
      (J.stop i H ∧ Qd H) ∨ (J.go i H ∧ ∃ Nx : Hp → Prop, (∀ H', Nx H' → ∃ m', m' < m ∧ W (i + 1) m' H') ∧ ∀ x H', J.yld i H x H' → g x (wipe σ vs) H' fun σ2 H2 => wipe σ2 vs = wipe σ vs ∧ tt σ2 H2 fun b H3 =>
        if b = true then te σ2 H3 fun y H4 => ∃ acc, H4 D = some (.lst acc) ∧ acc.length < sizeLine ∧ Nx (upd H4 D (.lst (acc ++ [y]))) else Nx H3) := by
  refine lc_it w (fun i H' => H1 D = none ∧ Ex H1 H' ∧ H' D = some (.lst (given i f v))) ⟨hD, Ex.new hD, upd_same⟩ (fun i H _ p => hG H p.2.1) (fun i x H H' hi p y => hs i x H H' hi p.2.1 y _ fun σ2 H2 e0 hw ht he => ⟨hw, ?_⟩) fun H p => hd H p.2.1 p.2.2
  obtain ⟨p1, p2, p3⟩ := p
  refine ht H2 (Ex.refl _) _ fun H3 e3 => ?_
  cases hf : f i with
  | true =>
    refine iteT ?_
    refine he hf H3 e3 _ fun H4 e4 => ⟨given i f v, e4 D _ (e3 D _ (e0 D _ p3)), sz_lt (by have := given_len i f v; omega), p1, Ex.mut (((p2.trans e0).trans e3).trans e4) p1, ?_⟩
    rw [given_yes hf]
    exact upd_same
  | false =>
    refine iteF ?_
    refine ⟨p1, (p2.trans e0).trans e3, ?_⟩
    rw [given_no hf]
    exact e3 D _ (e0 D _ p3)
def gridTo (i : Nat) : List (Nat × Nat) := (List.range i).flatMap fun x => (List.range 10).map fun y => (x, y)
theorem gridTo_next (m i : Nat) : (gridTo (i + 1)).filter (fun p => rel m p.1 p.2) = (gridTo i).filter (fun p => rel m p.1 p.2) ++ ((List.range 10).filter fun y => rel m i y).map fun y => (i, y) := by
  unfold gridTo
  rw [List.range_succ (n := i), List.flatMap_append, List.filter_append, List.flatMap_singleton, List.filter_map]
  rfl
theorem gridTo_len : ∀ i : Nat, (gridTo i).length = 10 * i
  | 0 => rfl
  | i + 1 => by
    have ih := gridTo_len i
    unfold gridTo at ih ⊢
    rw [List.range_succ (n := i), List.flatMap_append, List.length_append, ih, List.flatMap_singleton, List.length_map, List.length_range]
    omega
theorem steps_len : ∀ rows : List (List Nat), (steps rows).length ≤ rows.flatten.length
  | [] => Nat.le_refl _
  | r :: rows => by
    have ih := steps_len rows
    unfold steps at ih ⊢
    rw [List.flatMap_cons, List.length_append, List.flatten_cons, List.length_append, List.length_zip]
    omega
theorem steps_take_len (rows : List (List Nat)) (i : Nat) : (steps (rows.take i)).length ≤ rows.flatten.length := by
  have h1 := steps_len (rows.take i)
  have h2 : rows.flatten.length = (rows.take i).flatten.length + (rows.drop i).flatten.length := by
    rw [← List.length_append, ← List.flatten_append, List.take_append_drop]
  omega
theorem pD_row (i : Nat) (l : List Nat) : l.map (fun y => pD (i, y)) = (l.map fun y => (i, y)).map pD := by rw [List.map_map]; rfl

section
variable {P : Program} {w : World} {K : PySem.W.Frag} {mg : Str → Option Value} {base : Heap}
abbrev nmLF : List Str := ["_law_plan", "_law_pairs", "_law_one", "_law_known", "_law_rows", "_law_first", "_law_changes", "_law_two", "_law_middle", "_law_found", "_law_some"]
theorem scLF : FnScope nmLF ["_law_plan", "_law_pairs"] (defScope sLFollows) := ⟨rfl, rfl, rfl, by decide +kernel, rfl, by decide +kernel, by decide +kernel⟩
def spLF : Sp := fun vs H Q _ => ∃ (vp vq : V) (rows : List (List Nat)) (lq : List (Nat × Nat)) (m0 : Nat), vs = [vp, vq] ∧ Is H vp (planD rows) ∧ Good rows ∧ Is H vq (.tup (lq.map pD)) ∧ (∀ p ∈ lq, p.1 < 10 ∧ p.2 < 10) ∧ lq.length ≤ 300 ∧ (∀ x y, x < 10 → y < 10 → rel m0 x y = (decide ((x, y) ∈ lq) || decide ((x, y) ∈ steps rows))) ∧
  ∀ v H', Ex H H' → Is H' v (psM (cloM m0)) → Q v H'
set_option maxHeartbeats 16000000 in
theorem ok_lfollows {f : Addr} {fd : FuncData} (F : Fun K "_law_follows" "_law_follows" sLFollows f fd) (mR : mg "range" = none) (mL : mg "list" = none) (mZ : mg "zip" = none) (mT : mg "tuple" = none) : FnOk P w K mg base CX0 1 f fd ["_law_plan", "_law_pairs"] spLF := by
  refine F.ok scLF (fun vs H Q E h => ?_) (fun cdv A outer s H vs Q E hr h => ?_)
  · obtain ⟨_, _, _, _, _, rfl, _⟩ := h; rfl
  · obtain ⟨vp, vq, rows, lq, m0, rfl, hp, G, hq, hql, hqn, hm0, q⟩ := h
    have nd := scLF.nd
    refine ⟨_, pss_cons (ps_set (i := 3) nd rfl (Or.inr rfl) (pe_lc (own := [("_law_one", 2)]) (g := gName 2) (tt := tYes) rfl nd (pi_range1 (by rfl) mR (pa_cons pe_int pa_nil)) (blkOk_by (N := nmLF) (sc := defScope sLFollows) (by decide +kernel))
          (fun _ _ _ _ _ => pg_name (i := 2) nd rfl (Or.inl rfl)) (fun _ _ _ _ _ => pts_nil) (fun _ _ _ _ _ => pe_op op_rep (pe_lst (pa_cons pe_bl pa_nil)) pe_int)))
      (pss_cons (ps_set (i := 4) nd rfl (Or.inl rfl) (pe_callTy call_list_of (by rfl) mL (by decide +kernel) (pa_cons (pv 1) pa_nil)))
      (pss_cons (ps_for PassesOwn.never rfl (pi_tup (pe_ix ix_tup (pv 0) pe_int (fun _ _ => rfl))) (pg_tup rfl (pgs_cons (pg_name (i := 5) nd rfl (Or.inl rfl)) (pgs_cons (pg_name (i := 6) nd rfl (Or.inl rfl)) pgs_nil)))
        (pss_one (ps_expr (pe_bm PySem.F.plainAttrs_list PySem.F.slot_list_extend PySem.F.type_list_extend mt_extend (pv 4) (pa_cons
          (pe_lc (own := [("_law_one", 2), ("_law_two", 7)]) (g := gTup K 2 (gCons (gName 2) (gCons (gName 7) gNil))) (tt := tYes) rfl nd
            (pi_zipS (by rfl) mZ (pa_cons (pe_slice sl_tupA (pv 6) po_none (po_some (pe_un un_neg pe_int))) (pa_cons (pe_slice sl_tupA (pv 6) (po_some pe_int) po_none) pa_nil))) (blkOk_by (N := nmLF) (sc := defScope sLFollows) (by decide +kernel))
            (fun _ _ _ _ _ => pg_tupK K rfl (pg_tup rfl (pgs_cons (pg_name (i := 2) nd rfl (Or.inl rfl)) (pgs_cons (pg_name (i := 7) nd rfl (Or.inl rfl)) pgs_nil)))) (fun _ _ _ _ _ => pts_nil)
            (fun _ _ _ _ _ => pe_tup (pa_cons (pe_ix (ix_tupK K rfl) (pv 2) pe_int (fun _ _ => rfl)) (pa_cons (pe_ix (ix_tupK K rfl) (pv 7) pe_int (fun _ _ => rfl)) pa_nil)))) pa_nil)))))
      (pss_cons (ps_for PassesOwn.never rfl (pi_list (pv 4)) (pg_tup rfl (pgs_cons (pg_name (i := 2) nd rfl (Or.inr rfl)) (pgs_cons (pg_name (i := 7) nd rfl (Or.inl rfl)) pgs_nil)))
        (pss_one (ps_asg pe_bl (pg_sub (pe_ix ix_list (pv 3) (pv 2) (fun _ _ => rfl)) (pv 7) set_list))))
      (pss_cons (ps_for PassesOwn.never rfl (pi_range1 (by rfl) mR (pa_cons pe_int pa_nil)) (pg_name (i := 8) nd rfl (Or.inr rfl))
        (pss_one (ps_for PassesOwn.never rfl (pi_list (pe_lc (own := [("_law_some", 10)]) (g := gName 10) rfl nd (pi_range1 (by rfl) mR (pa_cons pe_int pa_nil)) (blkOk_by (N := nmLF) (sc := defScope sLFollows) (by decide +kernel))
            (fun _ _ _ _ _ => pg_name (i := 10) nd rfl (Or.inl rfl)) (fun _ _ _ _ _ => pts_one (pt_val (pe_ix (ix_listK K rfl) (pe_ix (ix_listK K rfl) (pv 3) (pv 10) (fun _ _ => rfl)) (pv 8) (fun _ _ => rfl)))) (fun _ _ _ _ _ => pv 10)))
          (pg_name (i := 2) nd rfl (Or.inr rfl))
          (pss_one (ps_asg (pe_lc (own := [("_law_two", 7)]) (g := gName 7) (tt := tYes) rfl nd (pi_range1 (by rfl) mR (pa_cons pe_int pa_nil)) (blkOk_by (N := nmLF) (sc := defScope sLFollows) (by decide +kernel))
              (fun _ _ _ _ _ => pg_name (i := 7) nd rfl (Or.inl rfl)) (fun _ _ _ _ _ => pts_nil)
              (fun _ _ _ _ _ => pe_or (pe_ix (ix_listK K rfl) (pe_ix (ix_listK K rfl) (pv 3) (pv 2) (fun _ _ => rfl)) (pv 7) (fun _ _ => rfl)) (pe_one (pe_ix (ix_listK K rfl) (pe_ix (ix_listK K rfl) (pv 3) (pv 8) (fun _ _ => rfl)) (pv 7) (fun _ _ => rfl)))))
            (pg_sub (pv 3) (pv 2) set_list))))))
      (pss_cons (ps_set (i := 9) nd rfl (Or.inl rfl) (pe_lst pa_nil))
      (pss_cons (ps_for PassesOwn.never rfl (pi_range1 (by rfl) mR (pa_cons pe_int pa_nil)) (pg_name (i := 2) nd rfl (Or.inr rfl))
        (pss_one (ps_expr (pe_bm PySem.F.plainAttrs_list PySem.F.slot_list_extend PySem.F.type_list_extend mt_extend (pv 9) (pa_cons
          (pe_lc (own := [("_law_two", 7)]) (g := gName 7) rfl nd (pi_range1 (by rfl) mR (pa_cons pe_int pa_nil)) (blkOk_by (N := nmLF) (sc := defScope sLFollows) (by decide +kernel))
            (fun _ _ _ _ _ => pg_name (i := 7) nd rfl (Or.inl rfl)) (fun _ _ _ _ _ => pts_one (pt_val (pe_ix (ix_listK K rfl) (pe_ix (ix_listK K rfl) (pv 3) (pv 2) (fun _ _ => rfl)) (pv 7) (fun _ _ => rfl))))
            (fun _ _ _ _ _ => pe_tup (pa_cons (pv 2) (pa_cons (pv 7) pa_nil)))) pa_nil)))))
      (pss_one (ps_ret (pe_callTy call_tuple_of (by rfl) mT (by decide +kernel) (pa_cons (pv 9) pa_nil)))))))))), ?_⟩
    obtain ⟨aq, qs, rfl, haq, hqs⟩ := hq.tup_inv
    obtain ⟨a, sg, v1, v2, xs, rfl, ha, hsg, hxs⟩ := plan_inv hp
    have hxl : xs.length = rows.length := by rw [hxs.length, List.length_map]
    have hqsl : qs.length = lq.length := by rw [hqs.length, List.length_map]
    -- known
    refine ⟨10, rfl, by decide, by decide, fun k hk => ?_⟩
    refine lc_it (walk_rangeN (n := 10)) (fun i H1 => Ex H H1 ∧ ∃ rs : List Addr, rs.length = i ∧ rs.Nodup ∧ k ∉ rs ∧ H1 k = some (.lst (rs.map V.ref)) ∧ ∀ (j : Nat) (b : Addr), rs[j]? = some b → H1 b = some (.lst (rowV 0 j)) ∧ H b = none)
      ⟨Ex.new hk, [], rfl, List.nodup_nil, fun z => (nomatch z), upd_same, fun j b z => by simp at z⟩ (fun _ _ _ _ => trivial) ?_ ?_
    · rintro i x H1 H1' hi ⟨e1, rs, l1, l2, l3, l4, l5⟩ ⟨rfl, rfl⟩
      refine ⟨rfl, ?_⟩
      refine ⟨by show 1 ≤ sizeLine; decide, fun b1 hb1 => ⟨b1, 10, [.bl false], rfl, rfl, upd_same, by decide, by decide, by show 1 * 10 ≤ sizeLine; decide, fun b2 hb2 => ?_⟩⟩
      have e2 := (Ex.new hb1 (o := .lst [.bl false])).trans (Ex.new hb2 (o := .lst (List.replicate (10 : Int).toNat [V.bl false]).flatten))
      have hk2 := e2 _ _ l4
      have hb2n : H b2 = none := fresh_back e1 (fresh_back (Ex.new hb1) hb2)
      have hkb : k ≠ b2 := fun z => by rw [← z] at hb2; rw [(Ex.new hb1) _ _ l4] at hb2; cases hb2
      have hbr : b2 ∉ rs := fun z => by
        obtain ⟨j, hj⟩ := List.getElem?_of_mem z
        rw [(Ex.new hb1) _ _ (l5 j b2 hj).1] at hb2; cases hb2
      have hrow : (List.replicate (10 : Int).toNat [V.bl false]).flatten = rowV 0 i := by
        have : rowV 0 i = rowV 0 0 := rowV_congr fun y _ => by rw [rel_zero, rel_zero]
        rw [this]
        decide +kernel
      refine ⟨rs.map V.ref, hk2, by rw [List.length_map, l1]; exact small1000 (by omega), Ex.mut (e1.trans e2) hk, rs ++ [b2], by rw [List.length_append, l1]; rfl, ?_, ?_, by rw [upd_same, List.map_append]; rfl, fun j b hj => ?_⟩
      · rw [List.nodup_append]
        exact ⟨l2, List.pairwise_singleton _ _, fun c hc d hd z => hbr (by rw [List.mem_singleton.mp hd] at z; exact z ▸ hc)⟩
      · intro z
        rcases List.mem_append.mp z with z | z
        · exact l3 z
        · exact hkb (List.mem_singleton.mp z)
      · by_cases hj2 : j < rs.length
        · rw [List.getElem?_append_left hj2] at hj
          obtain ⟨g1, g2⟩ := l5 j b hj
          have hbk : b ≠ k := fun z => l3 (z ▸ List.mem_of_getElem? hj)
          exact ⟨(upd_ne hbk).trans (e2 _ _ g1), g2⟩
        · rw [List.getElem?_append_right (by omega)] at hj
          have hj0 : j - rs.length = 0 := by
            have := (List.getElem?_eq_some_iff.mp hj).1
            simp at this; omega
          rw [hj0] at hj
          cases hj
          have ej : j = i := by omega
          subst ej
          exact ⟨(upd_ne hkb.symm).trans (by rw [upd_same, hrow]), hb2n⟩
    rintro H1 ⟨e1, rs, l1, l2, l3, l4, l5⟩
    have M1 : Mat H H1 k 0 [] := ⟨⟨rs, l1, l2, l3, l4, l5, fun b z => (nomatch z)⟩, hk⟩
    -- rows = list(pairs)
    refine ⟨_, rfl, aq, qs, rfl, .inr (SqT.of (e1 _ _ haq)), fun lr hlr => ?_⟩
    have e2 := e1.trans (Ex.new hlr (o := .lst qs))
    have hlrn : H lr = none := fresh_back e1 hlr
    have M2 : Mat H (upd H1 lr (.lst qs)) k 0 [lr] := (M1.add hlr).ext (Ex.new hlr)
    refine ⟨_, rfl, a, _, 0, .ref sg, rfl, rfl, SqT.of (e2 _ _ ha), rfl, sg, rfl, ⟨xs, SqT.of (e2 _ _ hsg)⟩, ?_⟩
    refine for_tup (xs := xs) (fun i σ H2 => ∃ y5 y6, σ = [some (.ref a), some (.ref aq), none, some (.ref k), some (.ref lr), y5, y6, none, none, none, none] ∧ Ex H H2 ∧ Mat H H2 k 0 [lr] ∧ ∃ us, H2 lr = some (.lst us) ∧ IsAll H2 us ((lq ++ steps (rows.take i)).map pD))
      ⟨none, none, rfl, e2, M2, qs, upd_same, by simpa [steps] using hqs.ex e2⟩ (fun i σ H2 _ ⟨_, _, _, e, _⟩ => SqT.of (e _ _ hsg)) ?_ ?_
    · rintro i x σ H2 hx ⟨y5, y6, rfl, e2, M2, us, hus, hall⟩
      obtain ⟨r, ra, rc, cs, hr', rfl, hra, hrc, hcs⟩ := row_at hxs hx
      have hcl : cs.length = r.length := by rw [hcs.length, List.length_map]
      have hrl : r.length ≤ 10 := by
        have : r.Sublist rows.flatten := List.sublist_flatten_of_mem (List.mem_of_getElem? hr')
        have h1 := this.length_le
        have := nodup_lt10 G.nd G.lt
        omega
      refine ⟨ra, _, rfl, SqT.of (e2 _ _ hra), rfl, _, _, rfl, _, _, rfl, rfl, ?_⟩
      refine ⟨_, rfl, .inl ⟨rfl, us, SqL.of hus⟩, ?_⟩
      refine ⟨_, rfl, 1, rfl, -1, rfl, slA_init (SqT.of (e2 _ _ hrc)) fun t1 H5 e5 ht1 => ?_⟩
      refine ⟨_, rfl, 1, rfl, noPart ?_⟩
      refine slA_tail (SqT.of ((e2.trans e5) _ _ hrc)) fun t2 H6 e6 ht2 => ?_
      have e26 : Ex H2 H6 := e5.trans e6
      refine ⟨t1, t2, _, _, rfl, ex_t e6 ht1, ht2, by simp, fun ln hln => ?_⟩
      have hdl : cs.dropLast.length = (stp r).length := by rw [stp_len, List.length_dropLast, hcl]
      refine lc_data (walk_S (K := K) (xs := cs.dropLast) (ys := cs.tail) rfl (by simp)) (fun _ => true) (dtP (stp r)) hln (by rw [List.length_dropLast]; omega) (fun H7 e7 => ⟨ex_t (e6.trans e7) ht1, ex_t e7 ht2⟩) ?_ ?_
      · rintro j x H7 H8 hj e7 y Q' kk
        obtain ⟨T, x1, x2, rfl, nT, e8, hT, q1, q2⟩ := ypair_is (K := K) y
        have q1' : cs[j]? = some x1 := by
          rw [List.dropLast_eq_take, List.getElem?_take] at q1
          split at q1
          · exact q1
          · cases q1
        have q2' : cs[j + 1]? = some x2 := by rw [List.getElem?_tail] at q2; exact q2
        obtain ⟨n1, a1, hn1, rfl, ha1⟩ := ch_at hcs q1'
        obtain ⟨n2, a2, hn2, rfl, ha2⟩ := ch_at hcs q2'
        have e08 := ((e2.trans e26).trans e7).trans e8
        refine ⟨T, _, rfl, hT, rfl, _, _, rfl, _, _, rfl, rfl, ?_⟩
        refine kk _ _ e8 rfl etYes fun _ => ?_
        have ed : dtP (stp r) j = pD (n1, n2) := by unfold dtP; rw [stp_at hn1 hn2]; rfl
        rw [ed]
        exact evP_tup2 (evP_ix (i := 0) (ks := [nmD n1, .num 1]) (evP_var rfl (.tup (e08 _ _ ha1) (.cons (.num _) (.cons (.num _) .nil)))) rfl) (evP_ix (i := 0) (ks := [nmD n2, .num 1]) (evP_var rfl (.tup (e08 _ _ ha2) (.cons (.num _) (.cons (.num _) .nil)))) rfl)
      intro H7 zs e7 hzs hallz
      have eg : gvn cs.dropLast.length (fun _ => true) (dtP (stp r)) = (stp r).map pD := by
        rw [hdl, gvn_list (stp r) (fun _ => true) pD _ _ (fun _ _ _ => rfl) (fun i x h => by unfold dtP; rw [h]; rfl), List.filter_eq_self.mpr fun _ _ => rfl]
      rw [eg] at hallz
      have e27 := e26.trans e7
      have hus7 := e27 _ _ hus
      have hul : us.length ≤ 400 := by
        rw [hall.length, List.length_map, List.length_append]
        have h1 := steps_take_len rows i
        have := nodup_lt10 G.nd G.lt
        omega
      refine ⟨lr, ln, us, zs, rfl, rfl, hus7, hzs, ?_, ?_⟩
      · have : zs.length = (stp r).length := by rw [hallz.length, List.length_map]
        rw [this, stp_len]
        exact sz_of (by omega)
      · have c8 : Chg lr H7 (upd H7 lr (.lst (us ++ zs))) := Chg.upd
        have tk8 : Tk H7 (upd H7 lr (.lst (us ++ zs))) := Chg.tku fun ys z => by rw [hus7] at z; cases z
        refine ⟨_, _, rfl, c8.ex (e2.trans e27) hlrn, (M2.ext e27).chg List.mem_cons_self c8, us ++ zs, upd_same, ?_⟩
        have et : steps (rows.take (i + 1)) = steps (rows.take i) ++ stp r := by
          rw [take_snoc hr']
          simp [steps, stp]
        rw [et, ← List.append_assoc, List.map_append]
        exact ((hall.ex e27).mv tk8).append (hallz.mv tk8)
    rintro σ H2 ⟨y5, y6, rfl, e2, M2, us, hus, hall⟩
    rw [hxl, List.take_length] at hall
    have hT : ∀ p ∈ lq ++ steps rows, p.1 < 10 ∧ p.2 < 10 := fun p hp => (List.mem_append.mp hp).elim (hql p) (steps_lt G)
    have husl : us.length = (lq ++ steps rows).length := by rw [hall.length, List.length_map]
    -- known[one][two] = True
    refine ⟨_, rfl, lr, rfl, ⟨us, SqL.of hus⟩, ?_⟩
    refine for_list (xs := us) (fun i σ H3 => ∃ y2 y7, σ = [some (.ref a), some (.ref aq), y2, some (.ref k), some (.ref lr), y5, y6, y7, none, none, none] ∧ Ex H H3 ∧ Mat H H3 k (maskL ((lq ++ steps rows).take i)) [lr] ∧ H3 lr = some (.lst us) ∧ IsAll H3 us ((lq ++ steps rows).map pD))
      ⟨none, none, rfl, e2, M2, hus, hall⟩ (fun i σ H3 _ ⟨_, _, _, _, _, h, _⟩ => SqL.of h) ?_ ?_
    · rintro i x σ H3 hx ⟨y2, y7, rfl, e3, M3, hus3, hall3⟩
      obtain ⟨p, hp', isx⟩ := pairs_at hall3 hx
      obtain ⟨ax, rfl, hax⟩ := pD_inv isx
      obtain ⟨hp1, hp2⟩ := hT p (List.mem_of_getElem? hp')
      refine ⟨ax, _, rfl, SqT.of hax, rfl, _, _, rfl, _, _, rfl, rfl, ?_⟩
      obtain ⟨rs, b, g1, g2, g3, g4, g5, g6, M4⟩ := M3.put hp1 hp2
      refine ⟨_, rfl, _, rfl, k, _, (p.1 : Int), .ref b, rfl, rfl, SqL.of g1, atI_nat g2, _, rfl, b, _, (p.2 : Int), p.2, rfl, rfl, g4, ?_, ?_⟩
      · rw [rowV_len]; exact ixN_nat hp2
      · have c4 : Chg b H3 (upd H3 b (.lst ((rowV (maskL ((lq ++ steps rows).take i)) p.1).set p.2 (.bl true)))) := Chg.upd
        have tk4 : Tk H3 (upd H3 b (.lst ((rowV (maskL ((lq ++ steps rows).take i)) p.1).set p.2 (.bl true)))) := Chg.tku fun ys z => by rw [g4] at z; cases z
        refine ⟨_, _, rfl, c4.ex e3 g5, ?_, (c4 _ (g6 lr List.mem_cons_self)).trans hus3, hall3.mv tk4⟩
        rw [take_snoc hp', maskL_snoc]
        exact M4
    rintro σ H3 ⟨y2, y7, rfl, e3, M3, hus3, hall3⟩
    rw [husl, List.take_length] at M3
    have hM : ∀ x y, x < 10 → y < 10 → rel (maskL (lq ++ steps rows)) x y = rel m0 x y := fun x y hx hy => by
      rw [hm0 x y hx hy, rel_maskL (fun p hp => (hT p hp).2) hy, Bool.eq_iff_iff, decide_eq_true_iff, List.mem_append, Bool.or_eq_true, decide_eq_true_iff, decide_eq_true_iff]
    -- the middles
    refine ⟨10, rfl, by decide, by decide, ?_⟩
    refine for_it (walk_rangeN (n := 10)) (fun mid σ H4 => ∃ y2 y7 y8, σ = [some (.ref a), some (.ref aq), y2, some (.ref k), some (.ref lr), y5, y6, y7, y8, none, none] ∧ Ex H H4 ∧ Mat H H4 k ((List.range mid).foldl stepM m0) [])
      ⟨y2, y7, none, rfl, e3, (M3.congr hM).sub fun b hb => (nomatch hb)⟩ (fun _ _ _ _ _ => trivial) ?_ ?_
    · rintro mid x0 σ H4 H4' hmid ⟨y2, y7, y8, rfl, e4, M4⟩ ⟨rfl, rfl⟩
      generalize hm : (List.range mid).foldl stepM m0 = m at M4
      refine ⟨10, rfl, by decide, by decide, fun tl htl => ?_⟩
      refine lc_vals (walk_rangeN (n := 10)) (fun i => rel m i mid) (fun i => V.int (i : Int)) htl (by decide) (fun _ _ => trivial) ?_ ?_
      · rintro i x H5 H5' hi e5 ⟨rfl, rfl⟩ Q' kk
        exact kk _ _ (Ex.refl _) rfl (et_B ((M4.ext e5).cell (K := K) rfl rfl rfl hi hmid)) fun _ => ev_var rfl
      intro H5 e5 hl5
      refine ⟨tl, rfl, ⟨_, SqL.of hl5⟩, ?_⟩
      have hAs : given 10 (fun i => rel m i mid) (fun i => V.int (i : Int)) = natsV ((List.range 10).filter fun i => rel m i mid) := rfl
      rw [hAs] at hl5
      have M5 : Mat H H5 k m [tl] := (M4.add htl).ext e5
      have htn : H tl = none := fresh_back e4 htl
      generalize hA : (List.range 10).filter (fun i => rel m i mid) = As at hl5
      have hA10 : ∀ n ∈ As, n < 10 := fun n hn => by rw [← hA] at hn; exact List.mem_range.mp (List.mem_filter.mp hn).1
      generalize hB : (List.range 10).filter (fun i => rel m mid i) = Bs
      have hB10 : ∀ n ∈ Bs, n < 10 := fun n hn => by rw [← hB] at hn; exact List.mem_range.mp (List.mem_filter.mp hn).1
      have hBm : ∀ y, y < 10 → (y ∈ Bs ↔ rel m mid y = true) := fun y hy => by rw [← hB, List.mem_filter, List.mem_range]; exact ⟨fun h => h.2, fun h => ⟨hy, h⟩⟩
      have hrel : ∀ j x y, y < 10 → rel (m ||| maskL (prodTo As Bs j)) x y = (rel m x y || decide (x ∈ As.take j ∧ y ∈ Bs)) := fun j x y hy => by
        rw [rel_or, rel_maskL (fun p hp => hB10 _ (prodTo_mem.mp hp).2) hy]
        congr 1
        rw [Bool.eq_iff_iff, decide_eq_true_iff, decide_eq_true_iff, prodTo_mem]
      refine for_list (xs := natsV As) (fun j σ H6 => ∃ y2 y7, σ = [some (.ref a), some (.ref aq), y2, some (.ref k), some (.ref lr), y5, y6, y7, some (.int (mid : Int)), none, none] ∧ Ex H H6 ∧ Mat H H6 k (m ||| maskL (prodTo As Bs j)) [tl] ∧ H6 tl = some (.lst (natsV As)))
        ⟨y2, y7, rfl, e4.trans e5, M5.congr fun x y hx hy => by rw [hrel 0 x y hy]; simp, hl5⟩ (fun j σ H6 _ ⟨_, _, _, _, _, h⟩ => SqL.of h) ?_ ?_
      · rintro j x σ H6 hx ⟨y2, y7, rfl, e6, M6, hl6⟩
        obtain ⟨n1, hn1, rfl⟩ := nats_at hx
        have hn10 := hA10 n1 (List.mem_of_getElem? hn1)
        refine ⟨10, rfl, by decide, by decide, fun nw hnw => ?_⟩
        refine lc_vals (walk_rangeN (n := 10)) (fun _ => true) (fun y => V.bl (rel (m ||| maskL (prodTo As Bs j)) n1 y || rel (m ||| maskL (prodTo As Bs j)) mid y)) hnw (by decide) (fun _ _ => trivial) ?_ ?_
        · rintro i x H7 H7' hi e7 ⟨rfl, rfl⟩ Q' kk
          exact kk _ _ (Ex.refl _) rfl etYes fun _ => ev_orV ((M6.ext e7).cell (K := K) rfl rfl rfl hn10 hi) (fun _ => (M6.ext e7).cell (K := K) rfl rfl rfl hmid hi)
        intro H7 e7 hl7
        have hrow : given 10 (fun _ => true) (fun y => V.bl (rel (m ||| maskL (prodTo As Bs j)) n1 y || rel (m ||| maskL (prodTo As Bs j)) mid y)) = rowV (m ||| maskL (prodTo As Bs (j + 1))) n1 := by
          rw [given_all]
          unfold rowV
          refine List.map_congr_left fun y hy => ?_
          have hy10 := List.mem_range.mp hy
          rw [hrel j n1 y hy10, hrel j mid y hy10, hrel (j + 1) n1 y hy10]
          have hin : n1 ∈ As.take (j + 1) := by rw [take_snoc hn1]; exact List.mem_append_right _ (List.mem_singleton.mpr rfl)
          congr 1
          by_cases hyB : y ∈ Bs
          · have := (hBm y hy10).mp hyB
            simp [hin, hyB, this]
          · have : rel m mid y = false := by
              cases e : rel m mid y with
              | false => rfl
              | true => exact absurd ((hBm y hy10).mpr e) hyB
            simp [hyB, this]
        rw [hrow] at hl7
        have hnwn : H nw = none := fresh_back e6 hnw
        have M7 := (M6.add hnw).ext e7
        obtain ⟨rs, g1, g2, g3, g4⟩ := M7.rep (m' := m ||| maskL (prodTo As Bs (j + 1))) hn10 hl7 hnwn fun i y hi hy hne => by
          rw [hrel j i y hy, hrel (j + 1) i y hy, take_snoc hn1]
          congr 1
          rw [Bool.eq_iff_iff, decide_eq_true_iff, decide_eq_true_iff, List.mem_append, List.mem_singleton]
          exact ⟨fun h => ⟨.inl h.1, h.2⟩, fun h => ⟨h.1.resolve_right hne, h.2⟩⟩
        have hl67 := e7 _ _ hl6
        have hneT : ∀ b ∈ [tl], b ≠ nw := fun b hb z => by
          rw [List.mem_singleton.mp hb] at z
          rw [← z, hl6] at hnw; cases hnw
        refine ⟨_, rfl, _, rfl, k, _, (n1 : Int), n1, rfl, rfl, g1, by rw [List.length_map, g2]; exact ixN_nat hn10, ?_⟩
        refine ⟨_, _, rfl, Ex.mut (e6.trans e7) hk, g4 hneT, (upd_ne (g3 tl List.mem_cons_self)).trans hl67⟩
      · rintro σ H6 ⟨y2, y7, rfl, e6, M6, hl6⟩
        refine ⟨_, _, _, rfl, e6, (M6.congr fun x y hx hy => ?_).sub fun b hb => (nomatch hb)⟩
        have hnl : (natsV As).length = As.length := by unfold natsV; rw [List.length_map]
        rw [hnl, hrel _ x y hy, List.take_length, List.range_succ, List.foldl_append, hm]
        show _ = rel (stepM m mid) x y
        rw [rel_step hx hy]
        congr 1
        rw [Bool.eq_iff_iff, decide_eq_true_iff, Bool.and_eq_true, hBm y hy, ← hA, List.mem_filter, List.mem_range]
        exact ⟨fun h => ⟨h.1.2, h.2⟩, fun h => ⟨⟨hx, h.1⟩, h.2⟩⟩
    rintro σ H4 ⟨y2, y7, y8, rfl, e4, M4⟩
    have M4 : Mat H H4 k (cloM m0) [] := M4
    -- found
    refine ⟨Nat.zero_le _, fun lf hlf => ?_⟩
    have hlfn : H lf = none := fresh_back e4 hlf
    refine ⟨10, rfl, by decide, by decide, ?_⟩
    refine for_it (walk_rangeN (n := 10)) (fun i σ H5 => ∃ y2, σ = [some (.ref a), some (.ref aq), y2, some (.ref k), some (.ref lr), y5, y6, y7, y8, some (.ref lf), none] ∧ Ex H H5 ∧ Mat H H5 k (cloM m0) [lf] ∧ ∃ us, H5 lf = some (.lst us) ∧ IsAll H5 us (((gridTo i).filter fun p => rel (cloM m0) p.1 p.2).map pD))
      ⟨y2, rfl, e4.trans (Ex.new hlf), (M4.add hlf).ext (Ex.new hlf), [], upd_same, .nil⟩ (fun _ _ _ _ _ => trivial) ?_ ?_
    · rintro i x0 σ H5 H5' hi ⟨y2, rfl, e5, M5, us, hus, hall⟩ ⟨rfl, rfl⟩
      refine ⟨_, rfl, .inl ⟨rfl, us, SqL.of hus⟩, 10, rfl, by decide, by decide, fun ln hln => ?_⟩
      refine lc_data (walk_rangeN (n := 10)) (fun y => rel (cloM m0) i y) (fun y => pD (i, y)) hln (by decide) (fun _ _ => trivial) ?_ ?_
      · rintro y x H6 H6' hy e6 ⟨rfl, rfl⟩ Q' kk
        exact kk _ _ (Ex.refl _) rfl (et_B ((M5.ext e6).cell (K := K) rfl rfl rfl hi hy)) fun _ => evP_tup2 (evP_var rfl (.num _)) (evP_var rfl (.num _))
      intro H6 zs e6 hzs hallz
      rw [gvn_range, pD_row] at hallz
      have hus6 := e6 _ _ hus
      have hul : us.length ≤ 100 := by
        rw [hall.length, List.length_map]
        have h1 := List.length_filter_le (fun p : Nat × Nat => rel (cloM m0) p.1 p.2) (gridTo i)
        have h2 : (gridTo i).length ≤ (gridTo 10).length := by
          rw [gridTo_len, gridTo_len]; omega
        have h3 : (gridTo 10).length = 100 := by decide +kernel
        omega
      have hzl : zs.length ≤ 10 := by
        rw [hallz.length, List.length_map, List.length_map]
        have := List.length_filter_le (fun y => rel (cloM m0) i y) (List.range 10)
        rw [List.length_range] at this
        exact this
      refine ⟨lf, ln, us, zs, rfl, rfl, hus6, hzs, sz_of (by omega), ?_⟩
      have c8 : Chg lf H6 (upd H6 lf (.lst (us ++ zs))) := Chg.upd
      have tk8 : Tk H6 (upd H6 lf (.lst (us ++ zs))) := Chg.tku fun ys z => by rw [hus6] at z; cases z
      refine ⟨_, rfl, c8.ex (e5.trans e6) hlfn, (M5.ext e6).chg List.mem_cons_self c8, us ++ zs, upd_same, ?_⟩
      rw [gridTo_next, List.map_append]
      exact ((hall.ex e6).mv tk8).append (hallz.mv tk8)
    rintro σ H5 ⟨y2, rfl, e5, M5, us, hus, hall⟩
    exact ⟨_, rfl, lf, us, rfl, .inl ⟨SqL.of hus, fun t ht => q _ _ (e5.trans (Ex.new ht)) (.tup upd_same (hall.ex (Ex.new ht)))⟩⟩
end
end K82
/-! _law_closed. -/
namespace K82
open PySem PySem.Spec PyProof.Rows L2 Evl RZ

theorem prs_ord {ns : List Nat} {c : Nat} (hns : ∀ n ∈ ns, n < 10) : (prs c).filter (fun q => decide (q.1 ∈ ns) && decide (q.2 ∈ ns)) = prs (ordM ns c) := by
  unfold prs
  rw [List.filter_filter]
  refine List.filter_congr fun p hp => ?_
  obtain ⟨h1, h2⟩ := grid_mem.mp hp
  have : rel (ordM ns c) p.1 p.2 = (decide ((p.1, p.2) ∈ sq ns) && rel c p.1 p.2) := rel_mkL (fun p hp => hns _ (sq_mem.mp hp).2) h2
  rw [this, Bool.eq_iff_iff, Bool.and_eq_true, Bool.and_eq_true, Bool.and_eq_true, decide_eq_true_iff, decide_eq_true_iff, decide_eq_true_iff, sq_mem]
theorem any_wi {ns : List Nat} {d : Nat} (hns : ∀ n ∈ ns, n < 10) (hw : Wi ns d) (f : Nat × Nat → Bool) : ((prs d).any f) = ((sq ns).filter fun p => rel d p.1 p.2).any f := by
  rw [Bool.eq_iff_iff, List.any_eq_true, List.any_eq_true]
  constructor
  · rintro ⟨q, hq, h⟩
    obtain ⟨h1, h2, h3⟩ := prs_mem.mp hq
    exact ⟨q, List.mem_filter.mpr ⟨sq_mem.mpr (hw _ _ h1 h2 h3), h3⟩, h⟩
  · rintro ⟨q, hq, h⟩
    obtain ⟨h1, h2⟩ := List.mem_filter.mp hq
    obtain ⟨h3, h4⟩ := sq_mem.mp h1
    exact ⟨q, prs_mem.mpr ⟨hns _ h3, hns _ h4, h2⟩, h⟩
theorem rne_nil {K : PySem.W.Frag} {H : Hp} {l l2 : Addr} {us : List V} {ks : List NK} {Q : VK} (hl : H l = some (.lst us)) (h2 : H l2 = some (.lst [])) (ha : IsAll H us ks) (hp : plainK.plainKs ks = true) (hd : NestedKey.depthAll ks ≤ 60) (q : Q (.bl (!decide (ks = []))) H) : rNeD K (.ref l) (.ref l2) H Q := by
  refine ⟨.list (NestedKey.datas ks), .list (NestedKey.datas []), .lst (SqL.of hl) ha.dp, .lst (SqL.of h2) .nil, shaped_list hp hd, shaped_list rfl (by decide), ?_⟩
  rw [eqv_list]; exact q
def oneK (l : List (Nat × Nat)) : List NK := l.map fun _ => .num 1
theorem plain_one : ∀ l : List (Nat × Nat), plainK.plainKs (oneK l) = true
  | [] => rfl
  | _ :: l => plain_one l
theorem depth_one : ∀ l : List (Nat × Nat), NestedKey.depthAll (oneK l) = 0
  | [] => rfl
  | _ :: l => by
    show max 0 (NestedKey.depthAll (oneK l)) = 0
    rw [depth_one l]; rfl
theorem acyc_prs (c : Nat) : acyc c = decide (oneK ((prs c).filter fun p => p.1 == p.2) = []) := by
  unfold acyc oneK
  rw [Bool.eq_iff_iff, List.all_eq_true, decide_eq_true_iff, List.map_eq_nil_iff, List.filter_eq_nil_iff]
  constructor
  · intro h p hp e
    obtain ⟨h1, h2, h3⟩ := prs_mem.mp hp
    have := h p.1 (List.mem_range.mpr h1)
    have e' : p.1 = p.2 := by simpa using e
    rw [← e'] at h3
    rw [h3] at this; cases this
  · intro h x hx
    have hx10 := List.mem_range.mp hx
    cases e : rel c x x with
    | false => rfl
    | true => exact absurd (by simp) (h (x, x) (prs_mem.mpr ⟨hx10, hx10, e⟩))
theorem mem_ps (p : Nat × Nat) {c : Nat} (h1 : p.1 < 10) (h2 : p.2 < 10) : decide (pD p ∈ (prs c).map pD) = rel c p.1 p.2 := by
  cases e : rel c p.1 p.2 with
  | true => exact decide_eq_true (List.mem_map_of_mem (prs_mem.mpr ⟨h1, h2, e⟩))
  | false =>
    refine decide_eq_false fun z => ?_
    obtain ⟨q, hq, eq⟩ := List.mem_map.mp z
    cases pD_inj eq
    rw [(prs_mem.mp hq).2.2] at e; cases e
theorem et_eqI {σ : L2.St} {H : Hp} {i j x y : Nat} (h1 : σ[i]? = some (some (.int (x : Int)))) (h2 : σ[j]? = some (some (.int (y : Int)))) : EvT (tTest (tOp rEq (tVar i) (tVar j))) σ H (x == y) := fun H1 e Q q => by
  refine ⟨_, h1, _, h2, rfl, _, rfl, ?_⟩
  have : decide (V.int (x : Int) = V.int (y : Int)) = (x == y) := by
    by_cases h : x = y
    · subst h; simp
    · rw [show decide (V.int (x : Int) = V.int (y : Int)) = false from decide_eq_false fun z => h (by have := V.int.inj z; omega)]
      exact (beq_eq_false_iff_ne.mpr h).symm
  rw [this]
  exact q _ (Ex.refl _)
theorem et_inPs {K : PySem.W.Frag} {σ : L2.St} {H : Hp} {i j l x y c : Nat} {v : V} (h1 : σ[i]? = some (some (.int (x : Int)))) (h2 : σ[j]? = some (some (.int (y : Int)))) (h3 : σ[l]? = some (some v)) (hv : Is H v (psM c)) (hx : x < 10) (hy : y < 10) :
    EvT (tTest (tOp (rInT2 K) (tTup (tCons (tVar i) (tCons (tVar j) tNil))) (tVar l))) σ H (rel c x y) := fun H1 e Q q => by
  refine ⟨_, h1, _, h2, by show 2 ≤ sizeLine; decide, fun t ht => ⟨_, h3, ?_⟩⟩
  have e1 := Ex.new ht (o := .tup [.int (x : Int), .int (y : Int)])
  have hp : Is (upd H1 t (.tup [.int (x : Int), .int (y : Int)])) (.ref t) (pD (x, y)) := .tup upd_same (.cons (.num _) (.cons (.num _) .nil))
  refine rv_inT hp ((hv.ex e).ex e1) (plain_pDs [(x, y)] |> fun h => (Bool.and_eq_true_iff.mp h).1) (plain_pDs _) (Nat.le_trans (pD_depth _) (by decide)) (Nat.le_trans (depth_pDs _) (by decide)) ⟨_, rfl, ?_⟩
  rw [mem_ps (x, y) hx hy]
  exact q _ e1
/-- the pairs of a list of pairs as addresses with nums2 -/
def nums2 (p : Nat × Nat) : List Int := [(p.1 : Int), (p.2 : Int)]
theorem nums2_inj {p q : Nat × Nat} (h : nums2 p = nums2 q) : p = q := by
  obtain ⟨a, b⟩ := p
  obtain ⟨c, d⟩ := q
  unfold nums2 at h
  simp only [List.cons.injEq, and_true] at h
  have : a = c := by omega
  have : b = d := by omega
  simp_all
theorem refs_of {H : Hp} : ∀ {l : List (Nat × Nat)} {us : List V}, IsAll H us (l.map pD) → ∃ ks : List (Addr × List Int), us = ks.map (fun p => V.ref p.1) ∧ ks.map (·.2) = l.map nums2 ∧ ∀ p ∈ ks, H p.1 = some (.tup (p.2.map V.int))
  | [], _, h => by cases h; exact ⟨[], rfl, rfl, fun _ z => nomatch z⟩
  | p :: l, _, h => by
    cases h with
    | cons h1 t =>
      obtain ⟨ks, e1, e2, e3⟩ := refs_of t
      obtain ⟨a, rfl, ha⟩ := pD_inv h1
      refine ⟨(a, nums2 p) :: ks, by rw [List.map_cons, e1], by rw [List.map_cons, List.map_cons, e2], fun q hq => ?_⟩
      rcases List.mem_cons.mp hq with rfl | hq
      · exact ha
      · exact e3 q hq
theorem of_refs {H : Hp} : ∀ {l : List (Nat × Nat)} {ks : List (Addr × List Int)}, ks.map (·.2) = l.map nums2 → (∀ p ∈ ks, H p.1 = some (.tup (p.2.map V.int))) → IsAll H (ks.map fun p => V.ref p.1) (l.map pD)
  | [], [], _, _ => .nil
  | [], _ :: _, e, _ => by simp at e
  | _ :: _, [], e, _ => by simp at e
  | p :: l, k :: ks, e, h => by
    simp only [List.map_cons, List.cons.injEq] at e
    have := h k List.mem_cons_self
    rw [e.1] at this
    exact .cons (.tup this (.cons (.num _) (.cons (.num _) .nil))) (of_refs e.2 fun q hq => h q (List.mem_cons_of_mem _ hq))
theorem nums2_list : ∀ (L : List (Addr × List Int)) (fl : List (Nat × Nat)), (∀ p ∈ L, p.2 ∈ fl.map nums2) → ∃ lp : List (Nat × Nat), L.map (·.2) = lp.map nums2 ∧ ∀ p ∈ lp, p ∈ fl
  | [], _, _ => ⟨[], rfl, fun _ z => nomatch z⟩
  | p :: L, fl, h => by
    obtain ⟨lp, e, hl⟩ := nums2_list L fl fun q hq => h q (List.mem_cons_of_mem _ hq)
    obtain ⟨q, hq, eq⟩ := List.mem_map.mp (h p List.mem_cons_self)
    refine ⟨q :: lp, by rw [List.map_cons, List.map_cons, e, eq], fun r hr => ?_⟩
    rcases List.mem_cons.mp hr with rfl | hr
    · exact hq
    · exact hl r hr
/-- a sorted set of pairs is the mask's own list -/
theorem set_prs {fl : List (Nat × Nat)} {m : Nat} {L' : List (Addr × List Int)} (hfl : ∀ p, p ∈ fl ↔ p ∈ prs m) (h1 : ∀ p ∈ L', p.2 ∈ fl.map nums2) (h2 : ∀ p ∈ fl, nums2 p ∈ L'.map (·.2)) (nd : (L'.map (·.2)).Nodup) (pw : L'.Pairwise fun q r => TS.code 64 q.2 ≤ TS.code 64 r.2) : L'.map (·.2) = (prs m).map nums2 := by
  obtain ⟨lp, e, hl⟩ := nums2_list L' fl h1
  rw [e] at nd h2
  have nd' : lp.Nodup := (List.pairwise_map.mp nd).imp fun h z => h (congrArg nums2 z)
  have pw' : lp.Pairwise ple := by
    have : (L'.map (·.2)).Pairwise fun q r => TS.code 64 q ≤ TS.code 64 r := List.pairwise_map.mpr pw
    rw [e] at this
    refine List.Pairwise.imp_of_mem ?_ (List.pairwise_map.mp this)
    intro p q hp hq h
    have h' : TS.code 64 [(p.1 : Int), (p.2 : Int)] ≤ TS.code 64 [(q.1 : Int), (q.2 : Int)] := h
    rw [code_pair, code_pair] at h'
    obtain ⟨_, b1, _⟩ := prs_mem.mp ((hfl _).mp (hl p hp))
    obtain ⟨_, b2, _⟩ := prs_mem.mp ((hfl _).mp (hl q hq))
    unfold ple
    omega
  have : lp = prs m := by
    refine List.Perm.eq_of_pairwise (le := ple) (fun a b _ _ h h' => ple_anti h h') pw' ((prs_rises m).imp plt_ple) ?_
    refine (List.perm_ext_iff_of_nodup nd' (prs_nodup m)).mpr fun p => ⟨fun h => (hfl p).mp (hl p h), fun h => ?_⟩
    obtain ⟨q, hq, eq⟩ := List.mem_map.mp (h2 p ((hfl p).mpr h))
    rw [← nums2_inj eq]; exact hq
  rw [e, this]
def conds (c : Nat) (ds : List (Nat × Nat)) (p : Nat × Nat) : List (Nat × Nat) := (ds.filter fun q => reach c p.1 q.1 && reach c q.2 p.2).map fun _ => p
theorem names_len3 {rows : List (List Nat)} (G : Good rows) (h3 : rows.flatten.length ≤ 3) : (namesOf rows).length ≤ 3 := by
  have p2 : rows.flatten.Perm (namesOf rows) := (List.perm_ext_iff_of_nodup G.nd ((namesOf_rises rows).imp fun h => Nat.ne_of_lt h)).mpr fun n => by
    rw [namesOf_mem]
    exact ⟨fun h => ⟨G.lt n h, h⟩, fun h => h.2⟩
  rw [← p2.length_eq]; exact h3
theorem nodup_le {α : Type} [DecidableEq α] : ∀ (l m : List α), l.Nodup → (∀ x ∈ l, x ∈ m) → l.length ≤ m.length
  | [], _, _, _ => Nat.zero_le _
  | a :: l, m, nd, h => by
    have ih := nodup_le l (m.erase a) (List.nodup_cons.mp nd).2 fun x hx => by
      have hne : x ≠ a := fun z => (List.nodup_cons.mp nd).1 (z ▸ hx)
      exact (List.mem_erase_of_ne hne).mpr (h x (List.mem_cons_of_mem _ hx))
    have := List.length_erase_of_mem (h a List.mem_cons_self)
    have hpos : 0 < m.length := List.length_pos_of_mem (h a List.mem_cons_self)
    rw [List.length_cons]
    omega
theorem ord_len9 {rows : List (List Nat)} (G : Good rows) (h3 : rows.flatten.length ≤ 3) (c : Nat) : (prs (ordM (namesOf rows) c)).length ≤ 9 := by
  have hn := names_len3 G h3
  have h1 := nodup_le _ (sq (namesOf rows)) (prs_nodup (ordM (namesOf rows) c)) fun p hp => by
    obtain ⟨a, b, e⟩ := prs_mem.mp hp
    have : rel (ordM (namesOf rows) c) p.1 p.2 = (decide ((p.1, p.2) ∈ sq (namesOf rows)) && rel c p.1 p.2) := rel_mkL (fun p hp => (names_lt hp).2) b
    rw [this, Bool.and_eq_true, decide_eq_true_iff] at e
    exact e.1
  have h2 : (sq (namesOf rows)).length ≤ 3 * 3 := by
    unfold sq
    rw [List.length_flatMap]
    have e : ((namesOf rows).map fun x => ((namesOf rows).map fun y => (x, y)).length) = List.replicate (namesOf rows).length (namesOf rows).length := by
      rw [List.eq_replicate_iff]
      refine ⟨by rw [List.length_map], fun b hb => ?_⟩
      obtain ⟨c, _, rfl⟩ := List.mem_map.mp hb
      rw [List.length_map]
    rw [e, List.sum_replicate_nat]
    exact Nat.mul_le_mul hn hn
  omega
end K82
/-! _law_closed: the walk. -/
namespace K82
open PySem PySem.Spec PyProof.Rows L2 Evl RZ

theorem cat_is {K : PySem.W.Frag} {H : Hp} {a b : Addr} {xs ys : List V} {Q : VK} (ha : H a = some (.tup xs)) (hb : H b = some (.tup ys)) (hz : xs.length + ys.length ≤ 100000) (q : ∀ t H', Ex H H' → H' t = some (.tup (xs ++ ys)) → Q (.ref t) H') : rCatA K (.ref a) (.ref b) H Q :=
  ⟨a, b, xs, ys, rfl, rfl, SqT.of ha, SqT.of hb, sz_of hz, fun e => q b H (Ex.refl _) (by subst e; exact hb), fun _ e => q a H (Ex.refl _) (by subst e; rw [List.append_nil]; exact ha), fun _ _ p hp => q p _ (Ex.new hp) upd_same⟩
section
variable {P : Program} {w : World} {K : PySem.W.Frag} {mg : Str → Option Value} {base : Heap}
abbrev nmLC : List Str := ["_law_plan", "_law_waits", "_law_drains", "_law_both", "_law_one", "_law_two", "_law_names", "_law_found", "_law_order", "_law_first", "_law_last"]
theorem scLC : FnScope nmLC ["_law_plan", "_law_waits", "_law_drains"] (defScope sLClosed) := ⟨rfl, rfl, rfl, by decide +kernel, rfl, by decide +kernel, by decide +kernel⟩
def spLC : Sp := fun vs H Q _ => ∃ (vp vw vd : V) (rows : List (List Nat)) (wm dm : Nat), vs = [vp, vw, vd] ∧ Is H vp (planD rows) ∧ Good rows ∧ rows.flatten.length ≤ 3 ∧ Is H vw (psM wm) ∧ Is H vd (psM dm) ∧ (prs dm).length ≤ 3 ∧ Wi (namesOf rows) dm ∧ ∀ v H', Ex H H' → Is H' v (optD (lawReg rows wm dm)) → Q v H'
set_option maxHeartbeats 16000000 in
theorem ok_lclosed {f : Addr} {fd : FuncData} (F : Fun K "_law_closed" "_law_closed" sLClosed f fd) (D1 : Df P w K mg base "_law_follows" 1 ["_law_plan", "_law_pairs"] spLF) (D2 : Df P w K mg base "_law_names_of" 2 ["_law_plan"] spLNames) (mT : mg "tuple" = none) (mS : mg "sorted" = none) (mE : mg "set" = none) :
    FnOk P w K mg base CX0 3 f fd ["_law_plan", "_law_waits", "_law_drains"] spLC := by
  refine F.ok scLC (fun vs H Q E h => ?_) (fun cdv A outer s H vs Q E hr h => ?_)
  · obtain ⟨_, _, _, _, _, _, rfl, _⟩ := h; rfl
  · obtain ⟨vp, vw, vd, rows, wm, dm, rfl, hp, G, hr3, hw, hd, hd3, hwi, q⟩ := h
    have nd := scLC.nd
    refine ⟨_, pss_cons (ps_set (i := 3) nd rfl (Or.inl rfl) (pe_df D1 hr (by decide) (by rfl) (pa_cons (pv 0) (pa_cons (pe_op op_catA (pv 1) (pv 2)) pa_nil))))
      (pss_cons (ps_if (pt_cmpR (op_neD hr.units) (pe_lc (own := [("_law_one", 4), ("_law_two", 5)]) (g := gTup K 2 (gCons (gName 4) (gCons (gName 5) gNil))) rfl nd (pi_tup (pv 3)) (blkOk_by (N := nmLC) (sc := defScope sLClosed) (by decide +kernel))
          (fun _ _ _ _ _ => pg_tupK K rfl (pg_tup rfl (pgs_cons (pg_name (i := 4) nd rfl (Or.inl rfl)) (pgs_cons (pg_name (i := 5) nd rfl (Or.inl rfl)) pgs_nil)))) (fun _ _ _ _ _ => pts_one (pt_cmpR op_eq (pv 4) (pv 5) (nomark _))) (fun _ _ _ _ _ => pe_int)) (pe_lst pa_nil) (nomark _)) (pss_one (ps_ret pe_non)) pss_nil)
      (pss_cons (ps_asg (pe_tup (pa_cons (pe_df D2 hr (by decide) (by rfl) (pa_cons (pv 0) pa_nil)) (pa_cons (pe_lst pa_nil) pa_nil))) (pg_tup rfl (pgs_cons (pg_name (i := 6) nd rfl (Or.inr rfl)) (pgs_cons (pg_name (i := 7) nd rfl (Or.inl rfl)) pgs_nil))))
      (pss_cons (ps_setLc (i := 8) (own := [("_law_one", 4), ("_law_two", 5)]) (g := gTup K 2 (gCons (gName 4) (gCons (gName 5) gNil))) rfl nd rfl rfl (sw_true rfl rfl rfl (by decide +kernel)) (pi_tup (pv 3)) (blkOk_by (N := nmLC) (sc := defScope sLClosed) (by decide +kernel))
          (fun _ _ _ _ _ => pg_tupK K rfl (pg_tup rfl (pgs_cons (pg_name (i := 4) nd rfl (Or.inl rfl)) (pgs_cons (pg_name (i := 5) nd rfl (Or.inl rfl)) pgs_nil))))
          (fun _ _ _ _ _ => pts_one (pw_and (pt_cmpR (op_inQ K rfl) (pv 4) (pv 6) rfl) (pw_and1 (pt_cmpR (op_inQ K rfl) (pv 5) (pv 6) rfl))).pt) (fun _ _ _ _ _ => pe_tup (pa_cons (pv 4) (pa_cons (pv 5) pa_nil))))
      (pss_cons (ps_for PassesOwn.never rfl (pi_list (pv 8)) (pg_tup rfl (pgs_cons (pg_name (i := 4) nd rfl (Or.inl rfl)) (pgs_cons (pg_name (i := 5) nd rfl (Or.inl rfl)) pgs_nil)))
        (pss_one (ps_for PassesOwn.never rfl (pi_tup (pv 2)) (pg_tup rfl (pgs_cons (pg_name (i := 9) nd rfl (Or.inl rfl)) (pgs_cons (pg_name (i := 10) nd rfl (Or.inl rfl)) pgs_nil)))
          (pss_one (ps_if (pw_and (pw_or (pt_cmpR op_eq (pv 4) (pv 9) (nomark _)) (pw_or1 (pt_cmpR (op_inT2 K rfl (hu65 hr)) (pe_tup (pa_cons (pv 4) (pa_cons (pv 9) pa_nil))) (pv 3) rfl))).pt
              (pw_and1 (pw_or (pt_cmpR op_eq (pv 5) (pv 10) (nomark _)) (pw_or1 (pt_cmpR (op_inT2 K rfl (hu65 hr)) (pe_tup (pa_cons (pv 10) (pa_cons (pv 5) pa_nil))) (pv 3) rfl))).pt)).pt
            (pss_one (ps_expr (pe_bm PySem.F.plainAttrs_list PySem.F.slot_list_append PySem.F.type_list_append mt_append (pv 7) (pa_cons (pe_tup (pa_cons (pv 4) (pa_cons (pv 5) pa_nil))) pa_nil)))) pss_nil)))))
      (pss_one (ps_ret (pe_tup (pa_cons (pe_callTy call_tuple_of (by rfl) mT (by decide +kernel) (pa_cons (pv 8) pa_nil)) (pa_cons (pe_callTy call_tuple_of (by rfl) mT (by decide +kernel) (pa_cons
        (pe_callB (cr_sortedT rfl) (by rfl) mS (by decide +kernel) (pa_cons (pe_callTy (cr_setOfT rfl hr.units) (by rfl) mE (by decide +kernel) (pa_cons (pv 7) pa_nil)) pa_nil)) pa_nil)) pa_nil))))))))), ?_⟩
    obtain ⟨aw, ws, rfl, haw, hws⟩ := ps_item hw
    obtain ⟨ad, ds, rfl, had, hds⟩ := ps_item hd
    have hwl : ws.length ≤ 100 := by rw [hws.length, List.length_map]; exact prs_len _
    have hdl : ds.length = (prs dm).length := by rw [hds.length, List.length_map]
    have hgrid : ∀ p ∈ prs wm ++ prs dm, p.1 < 10 ∧ p.2 < 10 := fun p hp => by
      rcases List.mem_append.mp hp with z | z
      · exact ⟨(prs_mem.mp z).1, (prs_mem.mp z).2.1⟩
      · exact ⟨(prs_mem.mp z).1, (prs_mem.mp z).2.1⟩
    have hns : ∀ n ∈ namesOf rows, n < 10 := fun n hn => (namesOf_mem.mp hn).1
    -- both
    refine ⟨vp, rfl, _, rfl, _, rfl, cat_is haw had (by omega) fun t H1 e1 ht => ?_⟩
    have hcat : Is H1 (.ref t) (.tup ((prs wm ++ prs dm).map pD)) := by
      rw [List.map_append]
      exact .tup ht ((hws.ex e1).append (hds.ex e1))
    refine ⟨vp, .ref t, rows, prs wm ++ prs dm, dirM rows wm dm, rfl, hp.ex e1, G, hcat, hgrid, by rw [List.length_append]; have := prs_len wm; have := prs_len dm; omega, fun x y hx hy => ?_, fun vb H2 e2 ib => ?_⟩
    · rw [rel_dirM G hy, Bool.eq_iff_iff, Bool.or_eq_true, Bool.or_eq_true, Bool.or_eq_true, decide_eq_true_iff, decide_eq_true_iff, List.mem_append, prs_mem, prs_mem]
      constructor
      · rintro (h | h | h)
        · exact .inl (.inl ⟨hx, hy, h⟩)
        · exact .inl (.inr ⟨hx, hy, h⟩)
        · exact .inr h
      · rintro ((h | h) | h)
        · exact .inl h.2.2
        · exact .inr (.inl h.2.2)
        · exact .inr (.inr h)
    have e02 := e1.trans e2
    generalize hc : cloM (dirM rows wm dm) = c at ib
    have hlaw : lawReg rows wm dm = if acyc c then some (ordM (namesOf rows) c, mkL (sq (namesOf rows)) fun p => rel c p.1 p.2 && ((sq (namesOf rows)).filter fun q => rel dm q.1 q.2).any fun q => reach c p.1 q.1 && reach c q.2 p.2) else none := by rw [← hc]; rfl
    obtain ⟨ab, bs, rfl, hab, hbs⟩ := ps_item ib
    have hbl : bs.length = (prs c).length := by rw [hbs.length, List.length_map]
    have hbl100 := prs_len c
    -- the round names
    refine ⟨_, rfl, ab, rfl, ⟨_, SqT.of hab⟩, fun l1 hl1 => ?_⟩
    refine lc_data (walk_tup (K := K) (a := ab) (xs := bs)) (atP (prs c) fun p => p.1 == p.2) (fun _ => .num 1) hl1 (by omega) (fun H3 e3 => SqT.of (e3 _ _ hab)) ?_ ?_
    · rintro i x H3 H3' hi e3 ⟨rfl, hx⟩ Q' kk
      obtain ⟨p, hpi, isx⟩ := pairs_at hbs hx
      obtain ⟨ax, rfl, hax⟩ := pD_inv isx
      refine ⟨ax, _, rfl, SqT.of (e3 _ _ hax), rfl, _, _, rfl, _, _, rfl, rfl, ?_⟩
      refine kk _ _ (Ex.refl _) rfl ?_ fun _ => evP_int
      unfold atP
      rw [hpi]
      exact et_eqI rfl rfl
    intro H3 us e3 hus hall
    have eg : gvn bs.length (atP (prs c) fun p => p.1 == p.2) (fun _ => NestedKey.num 1) = oneK ((prs c).filter fun p => p.1 == p.2) := by
      rw [hbl]
      exact gvn_list (prs c) (fun p => p.1 == p.2) (fun _ => .num 1) _ _ (fun i x h => by unfold atP; rw [h]) (fun _ _ _ => rfl)
    rw [eg] at hall
    have e03 := e02.trans e3
    refine ⟨Nat.zero_le _, fun l2 hl2 => rne_nil ((Ex.new hl2) _ _ hus) upd_same (hall.ex (Ex.new hl2)) (plain_one _) (by rw [depth_one]; decide) ⟨_, rfl, ?_⟩⟩
    rw [← acyc_prs]
    have e04 := e03.trans (Ex.new hl2 (o := .lst []))
    have e24 := e3.trans (Ex.new hl2 (o := .lst []))
    generalize upd H3 l2 (.lst []) = H4 at e04 e24
    by_cases hac : acyc c = true
    case neg =>
      rw [Bool.eq_false_iff.mpr hac]
      refine iteT ?_
      refine q _ _ e04 ?_
      rw [hlaw, if_neg hac]
      exact .non
    rw [hac]
    refine iteF ?_
    rw [if_pos hac] at hlaw
    -- names, found
    refine ⟨vp, rfl, vp, rows, rfl, hp.ex e04, G, fun an H5 e5 han hna => ?_⟩
    refine ⟨Nat.zero_le _, fun lf hlf => ⟨by show 2 ≤ sizeLine; decide, fun tp htp => ?_⟩⟩
    have e6 := (Ex.new hlf (o := .lst [])).trans (Ex.new htp (o := .tup [.ref an, .ref lf]))
    have e46 := e5.trans e6
    have hna6 := e6 _ _ hna
    have hlf6 := (Ex.new htp (o := .tup [.ref an, .ref lf])) _ _ (upd_same (H := H5) (a := lf) (o := .lst []))
    refine ⟨tp, _, rfl, SqT.of upd_same, rfl, _, _, rfl, _, _, rfl, rfl, ?_⟩
    have e06 := e04.trans e46
    have e26 := e24.trans e46
    have hlfn : H lf = none := fresh_back (e04.trans e5) hlf
    have hlf2 : H2 lf = none := fresh_back (e24.trans e5) hlf
    generalize upd (upd H5 lf (.lst [])) tp (.tup [.ref an, .ref lf]) = H6 at e46 hna6 hlf6 e06 e26
    -- order
    refine ⟨_, rfl, ab, rfl, ⟨_, SqT.of (e26 _ _ hab)⟩, fun lo hlo => ?_⟩
    refine lc_data (walk_tup (K := K) (a := ab) (xs := bs)) (atP (prs c) fun p => decide (p.1 ∈ namesOf rows) && decide (p.2 ∈ namesOf rows)) (dtP (prs c)) hlo (by omega) (fun H7 e7 => SqT.of (e7 _ _ (e26 _ _ hab))) ?_ ?_
    · rintro i x H7 H7' hi e7 ⟨rfl, hx⟩ Q' kk
      obtain ⟨p, hpi, isx⟩ := pairs_at hbs hx
      obtain ⟨ax, rfl, hax⟩ := pD_inv isx
      have hax7 := (e26.trans e7) _ _ hax
      refine ⟨ax, _, rfl, SqT.of hax7, rfl, _, _, rfl, _, _, rfl, rfl, ?_⟩
      refine kk _ _ (Ex.refl _) rfl ?_ fun _ => ?_
      · unfold atP
        rw [hpi]
        have hn7 := e7 _ _ hna6
        have key : ∀ (j : Nat) (n : Nat) (σ2 : L2.St), σ2[j]? = some (some (.int (n : Int))) → σ2[6]? = some (some (.ref an)) → EvT (tTest (tOp (rIn K false) (tVar j) (tVar 6))) σ2 H7' (decide (n ∈ namesOf rows)) := fun j n σ2 g1 g2 H8 e8 Q8 q8 => by
          refine ⟨_, g1, _, g2, an, natsV (namesOf rows), rfl, .inl (SqL.of (e8 _ _ hn7)), rfl, natsV_flat _, _, rfl, ?_⟩
          show Q8 (inV _ _) H8
          rw [inV_nats]
          exact q8 H8 (Ex.refl _)
        exact et_and (key 4 p.1 _ rfl rfl) fun _ => key 5 p.2 _ rfl rfl
      · unfold dtP
        rw [hpi]
        exact evP_tup2 (evP_var rfl (.num _)) (evP_var rfl (.num _))
    intro H7 os e7 hos hallo
    rw [hbl, gvn_pairs, prs_ord hns] at hallo
    have e67 := e7
    have e07 := e06.trans e7
    have e27 := e26.trans e7
    generalize ho : ordM (namesOf rows) c = o at hallo hlaw
    have ho9 : (prs o).length ≤ 9 := by rw [← ho]; exact ord_len9 G hr3 c
    have hol : os.length = (prs o).length := by rw [hallo.length, List.length_map]
    have nlo : lo ≠ lf := fun z => by rw [z, hlf6] at hlo; cases hlo
    have hlf7 := e7 _ _ hlf6
    -- the loops
    refine ⟨_, rfl, lo, rfl, ⟨_, SqL.of hos⟩, ?_⟩
    refine for_list (xs := os) (fun i σ H8 => ∃ y4 y5 y9 y10, σ = [some vp, some (.ref aw), some (.ref ad), some (.ref ab), y4, y5, some (.ref an), some (.ref lf), some (.ref lo), y9, y10] ∧ Ex H2 H8 ∧ H8 lo = some (.lst os) ∧ IsAll H8 os ((prs o).map pD) ∧ ∃ fs, H8 lf = some (.lst fs) ∧ IsAll H8 fs ((((prs o).take i).flatMap (conds c (prs dm))).map pD) ∧ fs.length ≤ 3 * i)
      ⟨_, _, _, _, rfl, e27, hos, hallo, [], hlf7, .nil, Nat.zero_le _⟩ (fun i σ H8 _ ⟨_, _, _, _, _, _, h, _⟩ => SqL.of h) ?_ ?_
    · rintro i x σ H8 hx ⟨y4, y5, y9, y10, rfl, e8, hos8, hallo8, fs, hfs, hallf, hfl⟩
      obtain ⟨p, hpi, isx⟩ := pairs_at hallo8 hx
      obtain ⟨ax, rfl, hax⟩ := pD_inv isx
      obtain ⟨hp1, hp2, _⟩ := prs_mem.mp (List.mem_of_getElem? hpi)
      have hil : i < (prs o).length := (List.getElem?_eq_some_iff.mp hpi).1
      refine ⟨ax, _, rfl, SqT.of hax, rfl, _, _, rfl, _, _, rfl, rfl, ?_⟩
      refine ⟨_, rfl, ad, rfl, ⟨_, SqT.of (e8 _ _ (e02 _ _ had))⟩, ?_⟩
      refine for_tup (xs := ds) (fun j σ H9 => ∃ y9 y10, σ = [some vp, some (.ref aw), some (.ref ad), some (.ref ab), some (.int (p.1 : Int)), some (.int (p.2 : Int)), some (.ref an), some (.ref lf), some (.ref lo), y9, y10] ∧ Ex H2 H9 ∧ H9 lo = some (.lst os) ∧ IsAll H9 os ((prs o).map pD) ∧ ∃ fs, H9 lf = some (.lst fs) ∧ IsAll H9 fs ((((prs o).take i).flatMap (conds c (prs dm)) ++ conds c ((prs dm).take j) p).map pD) ∧ fs.length ≤ 3 * i + j)
        ⟨y9, y10, rfl, e8, hos8, hallo8, fs, hfs, by simpa [conds] using hallf, hfl⟩ (fun j σ H9 _ ⟨_, _, _, e9, _⟩ => SqT.of (e9 _ _ (e02 _ _ had))) ?_ ?_
      · rintro j x σ H9 hx ⟨y9, y10, rfl, e9, hos9, hallo9, fs, hfs, hallf, hfl⟩
        obtain ⟨u, huj, isu⟩ := pairs_at hds hx
        obtain ⟨au, rfl, hau⟩ := pD_inv isu
        obtain ⟨hu1, hu2, _⟩ := prs_mem.mp (List.mem_of_getElem? huj)
        have hjl : j < (prs dm).length := (List.getElem?_eq_some_iff.mp huj).1
        have hau9 := e9 _ _ (e02 _ _ hau)
        refine ⟨au, _, rfl, SqT.of hau9, rfl, _, _, rfl, _, _, rfl, rfl, ?_⟩
        have ib9 := ib.ex e9
        have ht1 : ∀ {σ2 : L2.St}, σ2 = [some vp, some (.ref aw), some (.ref ad), some (.ref ab), some (.int (p.1 : Int)), some (.int (p.2 : Int)), some (.ref an), some (.ref lf), some (.ref lo), some (.int (u.1 : Int)), some (.int (u.2 : Int))] →
            EvT (tAnd (tOr (tTest (tOp rEq (tVar 4) (tVar 9))) (tTest (tOp (rInT2 K) (tTup (tCons (tVar 4) (tCons (tVar 9) tNil))) (tVar 3)))) (tOr (tTest (tOp rEq (tVar 5) (tVar 10))) (tTest (tOp (rInT2 K) (tTup (tCons (tVar 10) (tCons (tVar 5) tNil))) (tVar 3))))) σ2 H9 ((reach c p.1 u.1) && (reach c u.2 p.2)) := by
          rintro σ2 rfl
          refine et_and (et_or (et_eqI rfl rfl) fun _ => et_inPs rfl rfl rfl ib9 hp1 hu1) fun _ => et_is (et_or (et_eqI (x := p.2) (y := u.2) rfl rfl) fun _ => et_inPs rfl rfl rfl ib9 hu2 hp2) ?_
          show ((p.2 == u.2) || rel c u.2 p.2) = ((u.2 == p.2) || rel c u.2 p.2)
          rw [Bool.beq_comm]
        refine ht1 rfl H9 (Ex.refl _) _ fun H10 e10 => ?_
        have hcon : conds c ((prs dm).take (j + 1)) p = conds c ((prs dm).take j) p ++ if (reach c p.1 u.1 && reach c u.2 p.2) = true then [p] else [] := by
          unfold conds
          rw [take_snoc huj, List.filter_append, List.map_append, List.filter_cons]
          split <;> rfl
        have hfs10 := e10 _ _ hfs
        by_cases hcd : (reach c p.1 u.1 && reach c u.2 p.2) = true
        · rw [hcd]
          refine iteT ?_
          refine ⟨_, rfl, .inl ⟨rfl, fs, SqL.of hfs10⟩, _, rfl, _, rfl, by show 2 ≤ sizeLine; decide, fun tn htn => ?_⟩
          have e11 := Ex.new htn (o := .tup [.int (p.1 : Int), .int (p.2 : Int)])
          have hfs11 := e11 _ _ hfs10
          refine ⟨lf, fs, .ref tn, rfl, rfl, hfs11, small1000 (by omega), ?_⟩
          have e911 := e10.trans e11
          generalize hH11 : upd H10 tn (.tup [.int (p.1 : Int), .int (p.2 : Int)]) = H11 at e11 hfs11 e911
          have htn11 : H11 tn = some (.tup [.int (p.1 : Int), .int (p.2 : Int)]) := by rw [← hH11]; exact upd_same
          have c12 : Chg lf H11 (upd H11 lf (.lst (fs ++ [.ref tn]))) := Chg.upd
          have tk12 : Tk H11 (upd H11 lf (.lst (fs ++ [.ref tn]))) := Chg.tku fun ys z => by rw [hfs11] at z; cases z
          refine ⟨_, _, rfl, c12.ex (e9.trans e911) hlf2, (c12 _ nlo).trans (e911 _ _ hos9), (hallo9.ex e911).mv tk12, fs ++ [.ref tn], upd_same, ?_, by rw [List.length_append]; show fs.length + 1 ≤ _; omega⟩
          rw [hcon, if_pos hcd, ← List.append_assoc, List.map_append]
          exact ((hallf.ex e911).mv tk12).append (.one (.tup (tk12 _ _ htn11) (.cons (.num _) (.cons (.num _) .nil))))
        · rw [Bool.eq_false_iff.mpr hcd]
          refine iteF ⟨_, _, rfl, e9.trans e10, e10 _ _ hos9, hallo9.ex e10, fs, hfs10, ?_, by omega⟩
          rw [hcon, if_neg hcd, List.append_nil]
          exact hallf.ex e10
      · rintro σ H9 ⟨y9, y10, rfl, e9, hos9, hallo9, fs, hfs, hallf, hfl⟩
        rw [hdl, List.take_length] at hallf
        refine ⟨_, _, _, _, rfl, e9, hos9, hallo9, fs, hfs, ?_, by omega⟩
        rw [take_snoc hpi, List.flatMap_append, List.flatMap_singleton]
        exact hallf
    rintro σ H8 ⟨y4, y5, y9, y10, rfl, e8, hos8, hallo8, fs, hfs, hallf, hfl⟩
    rw [hol, List.take_length] at hallf
    -- the answer
    refine ⟨_, rfl, lo, os, rfl, .inl ⟨SqL.of hos8, fun to hto => ?_⟩⟩
    have e9 := Ex.new hto (o := .tup os)
    have io : Is (upd H8 to (.tup os)) (.ref to) (psM o) := .tup upd_same (hallo8.ex e9)
    have hfs9 := e9 _ _ hfs
    have hallf9 := hallf.ex e9
    have e29 := e8.trans e9
    generalize upd H8 to (.tup os) = H9 at io hfs9 hallf9 e29
    obtain ⟨ks, rfl, eks, hks⟩ := refs_of hallf9
    have hkl : ks.length < 64 := by
      have : (ks.map fun p => V.ref p.1).length = ks.length := List.length_map _
      omega
    refine ⟨_, rfl, lf, ks, rfl, SqL.of hfs9, fun p hp => SqT.of (hks p hp), hkl, fun as L has hsub hsup => ?_⟩
    have e10 := Ex.new has (o := SetTO P w as L)
    have hks10 : ∀ p ∈ ks, (upd H9 as (SetTO P w as L)) p.1 = some (.tup (p.2.map V.int)) := fun p hp => e10 _ _ (hks p hp)
    have hfl10 : ∀ p ∈ (prs o).flatMap (conds c (prs dm)), p.1 < 10 ∧ p.2 < 10 := fun p hp => by
      obtain ⟨r, hr, hp⟩ := List.mem_flatMap.mp hp
      unfold conds at hp
      obtain ⟨_, _, rfl⟩ := List.mem_map.mp hp
      exact ⟨(prs_mem.mp hr).1, (prs_mem.mp hr).2.1⟩
    have hin : ∀ p ∈ ks, p.2 ∈ ((prs o).flatMap (conds c (prs dm))).map nums2 := fun p hp => by rw [← eks]; exact List.mem_map_of_mem hp
    refine ⟨as, L, 2, 64, rfl, upd_same, fun p hp => SqT.of (hks10 p (hsub p hp)), by decide, fun p hp => ?_, fun L' ps hperm hnd _ hpw hps => ?_⟩
    · obtain ⟨r, hr, er⟩ := List.mem_map.mp (hin p (hsub p hp))
      obtain ⟨h1, h2⟩ := hfl10 r hr
      rw [← er]
      refine ⟨rfl, fun z hz => ?_⟩
      unfold nums2 at hz
      rcases List.mem_cons.mp hz with rfl | hz
      · omega
      · obtain rfl := List.mem_singleton.mp hz
        omega
    · have e11 := Ex.new hps (o := .lst (L'.map fun q => V.ref q.1))
      generalize hm2 : (mkL (sq (namesOf rows)) fun p => rel c p.1 p.2 && ((sq (namesOf rows)).filter fun q => rel dm q.1 q.2).any fun q => reach c p.1 q.1 && reach c q.2 p.2) = m2 at hlaw
      have hfm : ∀ p, p ∈ (prs o).flatMap (conds c (prs dm)) ↔ p ∈ prs m2 := fun p => by
        rw [prs_mem, List.mem_flatMap]
        have hr2 : ∀ x y, y < 10 → rel m2 x y = (decide ((x, y) ∈ sq (namesOf rows)) && (rel c x y && (prs dm).any fun q => reach c x q.1 && reach c q.2 y)) := fun x y hy => by
          rw [← hm2, rel_mkL (fun p hp => (names_lt hp).2) hy, any_wi hns hwi]
        have hro : ∀ x y, y < 10 → rel o x y = (decide ((x, y) ∈ sq (namesOf rows)) && rel c x y) := fun x y hy => by
          rw [← ho]; exact rel_mkL (fun p hp => (names_lt hp).2) hy
        constructor
        · rintro ⟨r, hr, hp⟩
          unfold conds at hp
          obtain ⟨s', hs', rfl⟩ := List.mem_map.mp hp
          obtain ⟨h1, h2, h3⟩ := prs_mem.mp hr
          obtain ⟨h4, h5⟩ := List.mem_filter.mp hs'
          rw [hro _ _ h2, Bool.and_eq_true] at h3
          refine ⟨h1, h2, ?_⟩
          rw [hr2 _ _ h2, h3.1, h3.2, Bool.true_and, Bool.true_and, List.any_eq_true]
          exact ⟨s', h4, h5⟩
        · rintro ⟨h1, h2, h3⟩
          rw [hr2 _ _ h2, Bool.and_eq_true, Bool.and_eq_true, List.any_eq_true] at h3
          obtain ⟨h4, h5, s', hs', h6⟩ := h3
          refine ⟨p, prs_mem.mpr ⟨h1, h2, by rw [hro _ _ h2, h4, h5]; rfl⟩, ?_⟩
          unfold conds
          exact List.mem_map.mpr ⟨s', List.mem_filter.mpr ⟨hs', h6⟩, rfl⟩
      have hL' : L'.map (·.2) = (prs m2).map nums2 := set_prs hfm (fun p hp => hin p (hsub p (hperm.mem_iff.mp hp))) (fun p hp => by
        have h1 : nums2 p ∈ ks.map (·.2) := by rw [eks]; exact List.mem_map_of_mem hp
        obtain ⟨r, hr, er⟩ := List.mem_map.mp h1
        have := hsup r hr
        rw [er] at this
        exact (hperm.map (·.2)).mem_iff.mpr this) hnd hpw
      have hL11 : ∀ p ∈ L', (upd (upd H9 as (SetTO P w as L)) ps (.lst (L'.map fun q => V.ref q.1))) p.1 = some (.tup (p.2.map V.int)) := fun p hp => e11 _ _ (hks10 p (hsub p (hperm.mem_iff.mp hp)))
      have hall11 := of_refs hL' hL11
      have io11 := (io.ex e10).ex e11
      have e211 := (e29.trans e10).trans e11
      have hps11 : (upd (upd H9 as (SetTO P w as L)) ps (.lst (L'.map fun q => V.ref q.1))) ps = some (.lst (L'.map fun q => V.ref q.1)) := upd_same
      refine ⟨ps, _, rfl, .inl ⟨SqL.of hps11, fun t2 ht2 => ⟨by show 2 ≤ sizeLine; decide, fun t3 ht3 => ?_⟩⟩⟩
      have e12 := Ex.new ht2 (o := .tup (L'.map fun q => V.ref q.1))
      have i2 : Is (upd (upd (upd H9 as (SetTO P w as L)) ps (.lst (L'.map fun q => V.ref q.1))) t2 (.tup (L'.map fun q => V.ref q.1))) (.ref t2) (psM m2) := .tup upd_same (hall11.ex e12)
      have e13 := Ex.new ht3 (o := .tup [.ref to, .ref t2])
      refine q _ _ (((e02.trans e211).trans e12).trans e13) ?_
      rw [hlaw]
      exact .tup upd_same (.cons ((io11.ex e12).ex e13) (.cons (i2.ex e13) .nil))
end
end K82
/-! _law_some_of, _law_all_closed. -/
namespace K82
open PySem PySem.Spec PyProof.Rows L2 Evl RZ

def tupD (s : List (Nat × Nat)) : NK := .tup (s.map pD)
def someTo (l : List (Nat × Nat)) : List (List (Nat × Nat)) := l.foldl (fun f p => f ++ f.map fun s => s ++ [p]) [[]]
theorem someL_eq (l : List (Nat × Nat)) : someL l = someTo l := rfl
theorem someTo_snoc (l : List (Nat × Nat)) (p : Nat × Nat) : someTo (l ++ [p]) = someTo l ++ (someTo l).map fun s => s ++ [p] := by
  unfold someTo
  rw [List.foldl_append]; rfl
theorem some_len : ∀ (n : Nat) (l : List (Nat × Nat)), l.length = n → (someL l).length = 2 ^ n := by
  have key : ∀ (l : List (Nat × Nat)) (f : List (List (Nat × Nat))), (l.foldl (fun f p => f ++ f.map fun s => s ++ [p]) f).length = f.length * 2 ^ l.length := by
    intro l
    induction l with
    | nil => intro f; simp
    | cons p l ih =>
      intro f
      rw [List.foldl_cons, ih, List.length_append, List.length_map, List.length_cons, Nat.pow_succ, ← Nat.two_mul, Nat.mul_comm 2, Nat.mul_assoc, Nat.mul_comm 2]
  intro n l h
  unfold someL
  rw [key, h, List.length_singleton, Nat.one_mul]
theorem some_sub : ∀ (l : List (Nat × Nat)) (s : List (Nat × Nat)), s ∈ someL l → s.Sublist l := by
  have key : ∀ (l pre : List (Nat × Nat)) (f : List (List (Nat × Nat))), (∀ s ∈ f, s.Sublist pre) → ∀ s ∈ l.foldl (fun f p => f ++ f.map fun s => s ++ [p]) f, s.Sublist (pre ++ l) := by
    intro l
    induction l with
    | nil => intro pre f h s hs; rw [List.append_nil]; exact h s hs
    | cons p l ih =>
      intro pre f h s hs
      rw [List.foldl_cons] at hs
      have := ih (pre ++ [p]) _ (fun t ht => ?_) s hs
      · rw [List.append_assoc] at this; exact this
      · rcases List.mem_append.mp ht with z | z
        · exact (h t z).trans (List.sublist_append_left _ _)
        · obtain ⟨u, hu, rfl⟩ := List.mem_map.mp z
          exact (h u hu).append (List.Sublist.refl _)
  intro l s hs
  have := key l [] [[]] (fun t ht => by rw [List.mem_singleton.mp ht]; exact List.Sublist.refl _) s hs
  simpa using this
section
variable {X : Cx}
theorem op_catAK (K : PySem.W.Frag) (hK : X.K = K) : OpR X (binaryOp .Add) (rCatA K) := hK ▸ op_catA
end
def atL {α : Type} (enc : α → NK) (l : List α) (i : Nat) : NK := ((l[i]?).map enc).getD .none
theorem gvn_all {α : Type} (enc : α → NK) (l : List α) : gvn l.length (fun _ => true) (atL enc l) = l.map enc := by
  rw [gvn_list l (fun _ => true) enc _ _ (fun _ _ _ => rfl) (fun i x h => by unfold atL; rw [h]; rfl), List.filter_eq_self.mpr fun _ _ => rfl]
/-- the i-th of data -/
theorem enc_at {α : Type} {enc : α → NK} {H : Hp} {l : List α} {xs : List V} {i : Nat} {x : V} (h : IsAll H xs (l.map enc)) (e : xs[i]? = some x) : ∃ p, l[i]? = some p ∧ Is H x (enc p) := by
  obtain ⟨k, hk, g⟩ := h.get e
  rw [List.getElem?_map] at hk
  cases el : l[i]? with
  | none => rw [el] at hk; cases hk
  | some p => rw [el] at hk; obtain rfl := Option.some.inj hk; exact ⟨p, rfl, g⟩
section
variable {P : Program} {w : World} {K : PySem.W.Frag} {mg : Str → Option Value} {base : Heap}
abbrev nmLS : List Str := ["_law_pairs", "_law_found", "_law_pair", "_law_some"]
theorem scLS : FnScope nmLS ["_law_pairs"] (defScope sLSome) := ⟨rfl, rfl, rfl, by decide +kernel, rfl, by decide +kernel, by decide +kernel⟩
def spLSL : Sp := fun vs H Q _ => ∃ (a : Addr) (us : List V) (l : List (Nat × Nat)), vs = [.ref a] ∧ H a = some (.lst us) ∧ IsAll H us (l.map pD) ∧ l.length ≤ 6 ∧ ∀ p H' rs, Ex H H' → H p = none → H' p = some (.lst rs) → IsAll H' rs ((someL l).map tupD) → Q (.ref p) H'
set_option maxHeartbeats 8000000 in
theorem ok_lsomeL {f : Addr} {fd : FuncData} (F : Fun K "_law_some_of" "_law_some_of" sLSome f fd) : FnOk P w K mg base CX0 1 f fd ["_law_pairs"] spLSL := by
  refine F.ok scLS (fun vs H Q E h => ?_) (fun cdv A outer s H vs Q E hr h => ?_)
  · obtain ⟨_, _, _, rfl, _⟩ := h; rfl
  · obtain ⟨a, us, l, rfl, hus, hall, hl6, q⟩ := h
    have nd := scLS.nd
    refine ⟨_, pss_cons (ps_set (i := 1) nd rfl (Or.inl rfl) (pe_lst (pa_cons (pe_tup pa_nil) pa_nil)))
      (pss_cons (ps_for PassesOwn.never rfl (pi_list (pv 0)) (pg_name (i := 2) nd rfl (Or.inr rfl))
        (pss_one (ps_set (i := 1) nd rfl (Or.inl rfl) (pe_op op_cat (pv 1) (pe_lc (own := [("_law_some", 3)]) (g := gName 3) (tt := tYes) rfl nd (pi_list (pv 1)) (blkOk_by (N := nmLS) (sc := defScope sLSome) (by decide +kernel))
          (fun _ _ _ _ _ => pg_name (i := 3) nd rfl (Or.inl rfl)) (fun _ _ _ _ _ => pts_nil) (fun _ _ _ _ _ => pe_op (op_catAK K rfl) (pv 3) (pe_tup (pa_cons (pv 2) pa_nil))))))))
      (pss_one (ps_ret (pv 1)))), ?_⟩
    have hll : us.length = l.length := by rw [hall.length, List.length_map]
    refine ⟨Nat.zero_le _, fun t0 ht0 => ⟨by show 1 ≤ sizeLine; decide, fun l0 hl0 => ?_⟩⟩
    have e1 := (Ex.new ht0 (o := .tup [])).trans (Ex.new hl0 (o := .lst [.ref t0]))
    have hl0n : H l0 = none := fresh_back (Ex.new ht0) hl0
    have ht01 := (Ex.new hl0 (o := .lst [.ref t0])) _ _ (upd_same (H := H) (a := t0) (o := .tup []))
    have hall0 : IsAll (upd (upd H t0 (.tup [])) l0 (.lst [.ref t0])) [.ref t0] ([[]].map tupD) := .cons (.tup ht01 .nil) .nil
    have hl01 := upd_same (H := upd H t0 (.tup [])) (a := l0) (o := .lst [.ref t0])
    generalize upd (upd H t0 (.tup [])) l0 (.lst [.ref t0]) = H1 at e1 hall0 hl01
    refine ⟨_, rfl, a, rfl, ⟨us, SqL.of (e1 _ _ hus)⟩, ?_⟩
    refine for_list (xs := us) (fun i σ H2 => ∃ lf y2, σ = [some (.ref a), some (.ref lf), y2, none] ∧ Ex H H2 ∧ H lf = none ∧ ∃ rs, H2 lf = some (.lst rs) ∧ IsAll H2 rs ((someTo (l.take i)).map tupD))
      ⟨l0, none, rfl, e1, hl0n, _, hl01, hall0⟩ (fun i σ H2 _ ⟨_, _, _, e2, _⟩ => SqL.of (e2 _ _ hus)) ?_ ?_
    · rintro i x σ H2 hx ⟨lf, y2, rfl, e2, hlf, rs, hrs, hallr⟩
      obtain ⟨p, hpi, isx⟩ := pairs_at hall hx
      have isx2 := isx.ex e2
      have hil : i < l.length := (List.getElem?_eq_some_iff.mp hpi).1
      have hrl : rs.length = 2 ^ i := by
        rw [hallr.length, List.length_map, ← someL_eq, some_len i _ (by rw [List.length_take]; omega)]
      have hr64 : rs.length ≤ 64 := by
        rw [hrl]
        exact Nat.le_trans (Nat.pow_le_pow_right (by decide) (show i ≤ 6 by omega)) (by decide)
      refine ⟨_, rfl, _, rfl, lf, rfl, ⟨rs, SqL.of hrs⟩, fun ln hln => ?_⟩
      have hsl : rs.length = (someTo (l.take i)).length := by rw [hallr.length, List.length_map]
      refine lc_data (walk_list (K := K) (a := lf) (xs := rs)) (fun _ => true) (atL (fun s => tupD (s ++ [p])) (someTo (l.take i))) hln (by omega) (fun H3 e3 => SqL.of (e3 _ _ hrs)) ?_ ?_
      · rintro j z H3 H3' hj e3 ⟨rfl, hz⟩ Q' kk
        obtain ⟨st, hst, isz⟩ := enc_at (enc := tupD) hallr hz
        refine kk _ _ (Ex.refl _) rfl etYes fun _ => ?_
        have ea : atL (fun s => tupD (s ++ [p])) (someTo (l.take i)) j = tupD (st ++ [p]) := by unfold atL; rw [hst]; rfl
        rw [ea]
        intro H4 e4 Q2 q2
        obtain ⟨az, zs, rfl, haz, hzs⟩ := isz.tup_inv
        refine ⟨_, rfl, _, rfl, by show 1 ≤ sizeLine; decide, fun tn htn => ?_⟩
        have e5 := Ex.new htn (o := .tup [x])
        have e45 := (e3.trans e4).trans e5
        have hzl : zs.length ≤ 6 := by
          have h1 := some_sub (l.take i) st (by rw [someL_eq]; exact List.mem_of_getElem? hst)
          have h2 := h1.length_le
          rw [hzs.length, List.length_map]
          rw [List.length_take] at h2
          omega
        refine cat_is (e45 _ _ haz) upd_same (by show zs.length + 1 ≤ 100000; omega) fun t H6 e6 ht => q2 _ _ (e5.trans e6) ?_
        refine .tup ht ?_
        rw [List.map_append]
        exact ((hzs.ex e45).ex e6).append (.one ((isx2.ex e45).ex e6))
      intro H3 zs e3 hzs hallz
      rw [hsl, gvn_all] at hallz
      have hzl : zs.length = rs.length := by rw [hallz.length, List.length_map, hsl]
      refine ⟨lf, ln, rs, zs, rfl, rfl, e3 _ _ hrs, hzs, sz_of (by omega), fun l9 hl9 => ?_⟩
      have e9 := Ex.new hl9 (o := .lst (rs ++ zs))
      refine ⟨_, _, rfl, (e2.trans e3).trans e9, fresh_back (e2.trans e3) hl9, _, upd_same, ?_⟩
      rw [take_snoc hpi, someTo_snoc, List.map_append, List.map_map]
      exact ((hallr.ex e3).ex e9).append (hallz.ex e9)
    · rintro σ H2 ⟨lf, y2, rfl, e2, hlf, rs, hrs, hallr⟩
      rw [hll, List.take_length] at hallr
      exact ⟨_, rfl, q lf H2 rs e2 hlf hrs hallr⟩
def spLST : Sp := fun vs H Q _ => ∃ (a : Addr) (us : List V) (l : List (Nat × Nat)), vs = [.ref a] ∧ H a = some (.tup us) ∧ IsAll H us (l.map pD) ∧ l.length ≤ 6 ∧ ∀ p H' rs, Ex H H' → H p = none → H' p = some (.lst rs) → IsAll H' rs ((someL l).map tupD) → Q (.ref p) H'
set_option maxHeartbeats 8000000 in
theorem ok_lsomeT {f : Addr} {fd : FuncData} (F : Fun K "_law_some_of" "_law_some_of" sLSome f fd) : FnOk P w K mg base CX0 1 f fd ["_law_pairs"] spLST := by
  refine F.ok scLS (fun vs H Q E h => ?_) (fun cdv A outer s H vs Q E hr h => ?_)
  · obtain ⟨_, _, _, rfl, _⟩ := h; rfl
  · obtain ⟨a, us, l, rfl, hus, hall, hl6, q⟩ := h
    have nd := scLS.nd
    refine ⟨_, pss_cons (ps_set (i := 1) nd rfl (Or.inl rfl) (pe_lst (pa_cons (pe_tup pa_nil) pa_nil)))
      (pss_cons (ps_for PassesOwn.never rfl (pi_tup (pv 0)) (pg_name (i := 2) nd rfl (Or.inr rfl))
        (pss_one (ps_set (i := 1) nd rfl (Or.inl rfl) (pe_op op_cat (pv 1) (pe_lc (own := [("_law_some", 3)]) (g := gName 3) (tt := tYes) rfl nd (pi_list (pv 1)) (blkOk_by (N := nmLS) (sc := defScope sLSome) (by decide +kernel))
          (fun _ _ _ _ _ => pg_name (i := 3) nd rfl (Or.inl rfl)) (fun _ _ _ _ _ => pts_nil) (fun _ _ _ _ _ => pe_op (op_catAK K rfl) (pv 3) (pe_tup (pa_cons (pv 2) pa_nil))))))))
      (pss_one (ps_ret (pv 1)))), ?_⟩
    have hll : us.length = l.length := by rw [hall.length, List.length_map]
    refine ⟨Nat.zero_le _, fun t0 ht0 => ⟨by show 1 ≤ sizeLine; decide, fun l0 hl0 => ?_⟩⟩
    have e1 := (Ex.new ht0 (o := .tup [])).trans (Ex.new hl0 (o := .lst [.ref t0]))
    have hl0n : H l0 = none := fresh_back (Ex.new ht0) hl0
    have ht01 := (Ex.new hl0 (o := .lst [.ref t0])) _ _ (upd_same (H := H) (a := t0) (o := .tup []))
    have hall0 : IsAll (upd (upd H t0 (.tup [])) l0 (.lst [.ref t0])) [.ref t0] ([[]].map tupD) := .cons (.tup ht01 .nil) .nil
    have hl01 := upd_same (H := upd H t0 (.tup [])) (a := l0) (o := .lst [.ref t0])
    generalize upd (upd H t0 (.tup [])) l0 (.lst [.ref t0]) = H1 at e1 hall0 hl01
    refine ⟨_, rfl, a, rfl, ⟨us, SqT.of (e1 _ _ hus)⟩, ?_⟩
    refine for_tup (xs := us) (fun i σ H2 => ∃ lf y2, σ = [some (.ref a), some (.ref lf), y2, none] ∧ Ex H H2 ∧ H lf = none ∧ ∃ rs, H2 lf = some (.lst rs) ∧ IsAll H2 rs ((someTo (l.take i)).map tupD))
      ⟨l0, none, rfl, e1, hl0n, _, hl01, hall0⟩ (fun i σ H2 _ ⟨_, _, _, e2, _⟩ => SqT.of (e2 _ _ hus)) ?_ ?_
    · rintro i x σ H2 hx ⟨lf, y2, rfl, e2, hlf, rs, hrs, hallr⟩
      obtain ⟨p, hpi, isx⟩ := pairs_at hall hx
      have isx2 := isx.ex e2
      have hil : i < l.length := (List.getElem?_eq_some_iff.mp hpi).1
      have hrl : rs.length = 2 ^ i := by
        rw [hallr.length, List.length_map, ← someL_eq, some_len i _ (by rw [List.length_take]; omega)]
      have hr64 : rs.length ≤ 64 := by
        rw [hrl]
        exact Nat.le_trans (Nat.pow_le_pow_right (by decide) (show i ≤ 6 by omega)) (by decide)
      refine ⟨_, rfl, _, rfl, lf, rfl, ⟨rs, SqL.of hrs⟩, fun ln hln => ?_⟩
      have hsl : rs.length = (someTo (l.take i)).length := by rw [hallr.length, List.length_map]
      refine lc_data (walk_list (K := K) (a := lf) (xs := rs)) (fun _ => true) (atL (fun s => tupD (s ++ [p])) (someTo (l.take i))) hln (by omega) (fun H3 e3 => SqL.of (e3 _ _ hrs)) ?_ ?_
      · rintro j z H3 H3' hj e3 ⟨rfl, hz⟩ Q' kk
        obtain ⟨st, hst, isz⟩ := enc_at (enc := tupD) hallr hz
        refine kk _ _ (Ex.refl _) rfl etYes fun _ => ?_
        have ea : atL (fun s => tupD (s ++ [p])) (someTo (l.take i)) j = tupD (st ++ [p]) := by unfold atL; rw [hst]; rfl
        rw [ea]
        intro H4 e4 Q2 q2
        obtain ⟨az, zs, rfl, haz, hzs⟩ := isz.tup_inv
        refine ⟨_, rfl, _, rfl, by show 1 ≤ sizeLine; decide, fun tn htn => ?_⟩
        have e5 := Ex.new htn (o := .tup [x])
        have e45 := (e3.trans e4).trans e5
        have hzl : zs.length ≤ 6 := by
          have h1 := some_sub (l.take i) st (by rw [someL_eq]; exact List.mem_of_getElem? hst)
          have h2 := h1.length_le
          rw [hzs.length, List.length_map]
          rw [List.length_take] at h2
          omega
        refine cat_is (e45 _ _ haz) upd_same (by show zs.length + 1 ≤ 100000; omega) fun t H6 e6 ht => q2 _ _ (e5.trans e6) ?_
        refine .tup ht ?_
        rw [List.map_append]
        exact ((hzs.ex e45).ex e6).append (.one ((isx2.ex e45).ex e6))
      intro H3 zs e3 hzs hallz
      rw [hsl, gvn_all] at hallz
      have hzl : zs.length = rs.length := by rw [hallz.length, List.length_map, hsl]
      refine ⟨lf, ln, rs, zs, rfl, rfl, e3 _ _ hrs, hzs, sz_of (by omega), fun l9 hl9 => ?_⟩
      have e9 := Ex.new hl9 (o := .lst (rs ++ zs))
      refine ⟨_, _, rfl, (e2.trans e3).trans e9, fresh_back (e2.trans e3) hl9, _, upd_same, ?_⟩
      rw [take_snoc hpi, someTo_snoc, List.map_append, List.map_map]
      exact ((hallr.ex e3).ex e9).append (hallz.ex e9)
    · rintro σ H2 ⟨lf, y2, rfl, e2, hlf, rs, hrs, hallr⟩
      rw [hll, List.take_length] at hallr
      exact ⟨_, rfl, q lf H2 rs e2 hlf hrs hallr⟩
end
end K82
/-! _law_all_closed. -/
namespace K82
open PySem PySem.Spec PyProof.Rows L2 Evl RZ

theorem sum_le {α : Type} (f : α → Nat) (k : Nat) : ∀ l : List α, (∀ x ∈ l, f x ≤ k) → (l.map f).sum ≤ k * l.length
  | [], _ => by simp
  | a :: l, h => by
    have ih := sum_le f k l fun x hx => h x (List.mem_cons_of_mem _ hx)
    have ha := h a List.mem_cons_self
    rw [List.map_cons, List.sum_cons, List.length_cons, Nat.mul_add, Nat.mul_one]
    omega
theorem flat_le {α β : Type} (f : α → List β) (k : Nat) (l : List α) (h : ∀ x ∈ l, (f x).length ≤ k) : (l.flatMap f).length ≤ k * l.length := by
  rw [List.length_flatMap]
  exact sum_le (fun x => (f x).length) k l h
def rowO (ns : List Nat) (x : Nat) : List (Nat × Nat) := (ns.filter fun y => y != x).map fun y => (x, y)
theorem offs_eq (rows : List (List Nat)) : offs rows = (namesOf rows).flatMap (rowO (namesOf rows)) := by
  unfold offs sq
  generalize namesOf rows = ns
  have key : ∀ l : List Nat, (l.flatMap fun x => ns.map fun y => (x, y)).filter (fun p : Nat × Nat => p.1 != p.2) = l.flatMap (rowO ns) := by
    intro l
    induction l with
    | nil => rfl
    | cons x l ih =>
      rw [List.flatMap_cons, List.flatMap_cons, List.filter_append, ih, List.filter_map]
      congr 1
      unfold rowO
      congr 1
      refine List.filter_congr fun y _ => ?_
      show (x != y) = (y != x)
      exact bne_comm
  exact key ns
theorem rowO_len {ns : List Nat} {x : Nat} (hx : x ∈ ns) (h3 : ns.length ≤ 3) : (rowO ns x).length ≤ 2 := by
  unfold rowO
  rw [List.length_map]
  have := List.length_filter_lt_length_iff_exists (p := fun y => y != x) (l := ns) |>.mpr ⟨x, hx, by simp⟩
  omega
theorem offs_len6 {rows : List (List Nat)} (G : Good rows) (h3 : rows.flatten.length ≤ 3) : (offs rows).length ≤ 6 := by
  have hn := names_len3 G h3
  rw [offs_eq]
  have := flat_le (rowO (namesOf rows)) 2 (namesOf rows) fun x hx => rowO_len hx hn
  omega
theorem offs_grid (rows : List (List Nat)) : (offs rows).Sublist grid := by
  unfold offs
  refine (List.filter_sublist).trans ?_
  unfold sq grid
  have h1 : (namesOf rows).Sublist (List.range 10) := List.filter_sublist
  have key : ∀ (l m : List Nat), l.Sublist m → (l.flatMap fun x => (namesOf rows).map fun y => (x, y)).Sublist (m.flatMap fun x => (List.range 10).map fun y => (x, y)) := by
    intro l m h
    induction h with
    | slnil => exact List.Sublist.refl _
    | cons a _ ih => rw [List.flatMap_cons]; exact ih.trans (List.sublist_append_right _ _)
    | cons_cons a _ ih => rw [List.flatMap_cons, List.flatMap_cons]; exact (h1.map _).append ih
  exact key _ _ h1
theorem tupD_ps {s : List (Nat × Nat)} (h : s.Sublist grid) : tupD s = psM (maskL s) := by
  unfold tupD psM
  rw [prs_maskL h]
theorem nats_is {H : Hp} : ∀ ns : List Nat, IsAll H (natsV ns) (ns.map nmD)
  | [] => .nil
  | n :: ns => .cons (.num _) (nats_is ns)
theorem alike_num (a b : Nat) : PySem.W.alike (nmD a).data (nmD b).data = true := by
  show PySem.W.alike (.int (a : Int)) (.int (b : Int)) = true
  rw [PySem.W.alike]
theorem sorts_nm (ns : List Nat) : Sorts nmD ns :=
  ⟨PySem.W.AllAlike.of fun a b => alike_num a b, .others fun b => ⟨fun h => (nomatch h), fun xs h => (nomatch h)⟩, fun b _ => Nat.zero_le _⟩
theorem sortB_nm {rows : List (List Nat)} (G : Good rows) : sortB nmD rows.flatten = namesOf rows := by
  have e : (PySem.W.dataLe false fun b : Nat => (nmD b).data) = fun (a b : Nat) => decide ((a : Int) ≤ (b : Int)) := PySem.W.dataLe_int (fun b : Nat => (b : Int))
  unfold sortB
  rw [e]
  have hp := List.mergeSort_perm rows.flatten (fun a b : Nat => decide ((a : Int) ≤ (b : Int)))
  have hs := List.pairwise_mergeSort (le := fun a b : Nat => decide ((a : Int) ≤ (b : Int))) (fun a b c h1 h2 => by
    have h1 := of_decide_eq_true h1
    have h2 := of_decide_eq_true h2
    exact decide_eq_true (by omega)) (fun a b => by
    by_cases h : (a : Int) ≤ b
    · simp [h]
    · have : (b : Int) ≤ a := by omega
      simp [this]) rows.flatten
  have p2 : rows.flatten.Perm (namesOf rows) := (List.perm_ext_iff_of_nodup G.nd ((namesOf_rises rows).imp fun h => Nat.ne_of_lt h)).mpr fun n => by
    rw [namesOf_mem]
    exact ⟨fun h => ⟨G.lt n h, h⟩, fun h => h.2⟩
  refine (hp.trans p2).eq_of_pairwise (le := fun a b => a ≤ b) (fun a b _ _ h h' => Nat.le_antisymm h h') (hs.imp fun h => by have := of_decide_eq_true h; omega) ((namesOf_rises rows).imp fun h => Nat.le_of_lt h)
theorem law_bd {rows : List (List Nat)} {wm dm : Nat} {r : Nat × Nat} (h : lawReg rows wm dm = some r) : Bd r.1 ∧ Bd r.2 := by
  have e : lawReg rows wm dm = if acyc (cloM (dirM rows wm dm)) = true then some (ordM (namesOf rows) (cloM (dirM rows wm dm)), mkL (sq (namesOf rows)) fun p => rel (cloM (dirM rows wm dm)) p.1 p.2 && ((sq (namesOf rows)).filter fun q => rel dm q.1 q.2).any fun q => reach (cloM (dirM rows wm dm)) p.1 q.1 && reach (cloM (dirM rows wm dm)) q.2 p.2) else none := rfl
  rw [e] at h
  split at h
  · cases h
    exact ⟨Bd.mkL fun p h => names_lt h, Bd.mkL fun p h => names_lt h⟩
  · cases h
theorem opt_dec {rows : List (List Nat)} {wm dm : Nat} {r : Nat × Nat} (hr : Bd r.1 ∧ Bd r.2) : decide (optD (lawReg rows wm dm) = rgM r) = decide (lawReg rows wm dm = some r) := by
  cases e : lawReg rows wm dm with
  | none => rfl
  | some s =>
    rw [Bool.eq_iff_iff, decide_eq_true_iff, decide_eq_true_iff]
    constructor
    · intro h
      rw [rgM_inj (law_bd e) hr h]
    · intro h
      cases h; rfl
def inner (rows : List (List Nat)) (o d : List (Nat × Nat)) : Option (Nat × Nat) := if lawReg rows (maskL o) (maskL d) = some (maskL o, maskL d) then some (maskL o, maskL d) else none
def clos (rows : List (List Nat)) (o : List (Nat × Nat)) : List (Nat × Nat) := if o.length ≤ 3 ∧ lawReg rows (maskL o) 0 = some (maskL o, 0) then (someL o).filterMap (inner rows o) else []
theorem allC_eq (rows : List (List Nat)) : allC rows = (someL (offs rows)).flatMap (clos rows) := rfl
theorem clos_len (rows : List (List Nat)) (o : List (Nat × Nat)) : (clos rows o).length ≤ 8 := by
  unfold clos
  split
  · rename_i h
    have h1 := List.length_filterMap_le (inner rows o) (someL o)
    rw [some_len _ o rfl] at h1
    exact Nat.le_trans h1 (Nat.le_trans (Nat.pow_le_pow_right (by decide) h.1) (by decide))
  · exact Nat.zero_le _
theorem wi_sub {rows : List (List Nat)} {s : List (Nat × Nat)} (h : s.Sublist (offs rows)) : Wi (namesOf rows) (maskL s) := fun x y hx hy e => by
  have hs : ∀ p ∈ s, p.2 < 10 := fun p hp => (grid_mem.mp ((offs_grid rows).subset (h.subset hp))).2
  rw [rel_maskL hs hy, decide_eq_true_iff] at e
  have := h.subset e
  unfold offs at this
  exact sq_mem.mp (List.mem_filter.mp this).1
theorem wi_zero (ns : List Nat) : Wi ns 0 := fun x y _ _ e => by rw [rel_zero] at e; cases e
theorem bd_sub {s : List (Nat × Nat)} (h : s.Sublist grid) : Bd (maskL s) := Bd.maskL fun p hp => grid_mem.mp (h.subset hp)

section
variable {P : Program} {w : World} {K : PySem.W.Frag} {mg : Str → Option Value} {base : Heap}
abbrev nmLA : List Str := ["_law_plan", "_law_names", "_law_pairs", "_law_found", "_law_one", "_law_order", "_law_drains", "_law_two"]
theorem scLA : FnScope nmLA ["_law_plan", "_law_names"] (defScope sLAll) := ⟨rfl, rfl, rfl, by decide +kernel, rfl, by decide +kernel, by decide +kernel⟩
def spLAll (w : World) : Sp := fun vs H Q _ => ∃ (vp : V) (a : Addr) (rows : List (List Nat)), vs = [vp, .ref a] ∧ Is H vp (planD rows) ∧ Good rows ∧ rows.flatten.length ≤ 3 ∧ H a = some (.lst (natsV rows.flatten)) ∧ ∀ p H' L, Ex H H' → H p = none → DK w H' p L → OP L ((allC rows).map some) → Q (.ref p) H'
set_option maxHeartbeats 16000000 in
theorem ok_lall {f : Addr} {fd : FuncData} (F : Fun K "_law_all_closed" "_law_all_closed" sLAll f fd) (D1 : Df P w K mg base "_law_some_of" 1 ["_law_pairs"] spLSL) (D2 : Df P w K mg base "_law_some_of" 1 ["_law_pairs"] spLST) (D3 : Df P w K mg base "_law_closed" 3 ["_law_plan", "_law_waits", "_law_drains"] spLC) (mS : mg "sorted" = none) (mN : mg "len" = none) :
    FnOk P w K mg base CX0 4 f fd ["_law_plan", "_law_names"] (spLAll w) := by
  refine F.ok scLA (fun vs H Q E h => ?_) (fun cdv A outer s H vs Q E hr h => ?_)
  · obtain ⟨_, _, _, rfl, _⟩ := h; rfl
  · obtain ⟨vp, a, rows, rfl, hp, G, h3, ha, q⟩ := h
    have nd := scLA.nd
    refine ⟨_, pss_cons (ps_par (i := 2) (j := 3) rfl nd rfl rfl (by decide) rfl rfl (pa_cons (pe_lst pa_nil) (pa_cons pe_gnew pa_nil)) rfl)
      (pss_cons (ps_for PassesOwn.never rfl (pi_list (pe_callB (call_sortB (huS hr) nmD) (by rfl) mS (by decide +kernel) (pa_cons (pv 1) pa_nil))) (pg_name (i := 4) nd rfl (Or.inr rfl))
        (pss_one (ps_expr (pe_bm PySem.F.plainAttrs_list PySem.F.slot_list_extend PySem.F.type_list_extend mt_extend (pv 2) (pa_cons
          (pe_lc (own := [("_law_two", 7)]) (g := gName 7) rfl nd (pi_list (pe_callB (call_sortB (huS hr) nmD) (by rfl) mS (by decide +kernel) (pa_cons (pv 1) pa_nil))) (blkOk_by (N := nmLA) (sc := defScope sLAll) (by decide +kernel))
            (fun _ _ _ _ _ => pg_name (i := 7) nd rfl (Or.inl rfl)) (fun _ _ _ _ _ => pts_one (pt_cmpR op_ne (pv 7) (pv 4) (nomark _))) (fun _ _ _ _ _ => pe_tup (pa_cons (pv 4) (pa_cons (pv 7) pa_nil)))) pa_nil)))))
      (pss_cons (ps_for PassesOwn.never rfl (pi_list (pe_df D1 hr (by decide) (by rfl) (pa_cons (pv 2) pa_nil))) (pg_name (i := 5) nd rfl (Or.inl rfl))
        (pss_one (ps_if (pw_and (pt_cmpR op_le (pe_callB call_len_seq (by rfl) mN PySem.boot_len (pa_cons (pv 5) pa_nil)) pe_int (nomark _))
            (pw_and1 (pt_cmpR (op_eqD hr.units) (pe_df D3 hr (by decide) (by rfl) (pa_cons (pv 0) (pa_cons (pv 5) (pa_cons (pe_tup pa_nil) pa_nil)))) (pe_tup (pa_cons (pv 5) (pa_cons (pe_tup pa_nil) pa_nil))) (nomark _)))).pt
          (pss_one (ps_for PassesOwn.never rfl (pi_list (pe_df D2 hr (by decide) (by rfl) (pa_cons (pv 5) pa_nil))) (pg_name (i := 6) nd rfl (Or.inl rfl))
            (pss_one (ps_if (pt_cmpR (op_eqD hr.units) (pe_df D3 hr (by decide) (by rfl) (pa_cons (pv 0) (pa_cons (pv 5) (pa_cons (pv 6) pa_nil)))) (pe_tup (pa_cons (pv 5) (pa_cons (pv 6) pa_nil))) (nomark _))
              (pss_one (ps_asg pe_int (pg_sub (pv 3) (pe_tup (pa_cons (pv 5) (pa_cons (pv 6) pa_nil))) (set_G (hu9 hr))))) pss_nil)))) pss_nil)))
      (pss_one (ps_ret (pv 3))))), ?_⟩
    have hn3 := names_len3 G h3
    have hfl : rows.flatten.length ≤ 100000 := by omega
    refine ⟨Nat.zero_le _, fun lp hlp d H1 hd c1 g1 => ⟨_, _, rfl, ?_⟩⟩
    have e0 := Ex.new hlp (o := .lst [])
    have e1 : Ex H H1 := e0.trans (c1.ex (Ex.refl _) hd)
    have hlp1 : H1 lp = some (.lst []) := (c1.ex (Ex.refl _) hd) _ _ upd_same
    have hdn : H d = none := fresh_back e0 hd
    have ndl : d ≠ lp := fun z => by rw [z, upd_same] at hd; cases hd
    -- the sort of the names, as a rule to be used twice
    have srt : ∀ (H' : Hp) (Q' : VK), Ex H H' → (∀ l H2, H' l = none → Ex H' H2 → H2 l = some (.lst (natsV (namesOf rows))) → Q' (.ref l) H2) → rSortB K nmD [.ref a] H' Q' := fun H' Q' e k =>
      ⟨a, natsV rows.flatten, rows.flatten, rfl, SqL.of (e _ _ ha), nats_is _, sorts_nm _, hfl, fun l ys H2 hl c hys hall => by
        have := IsAll.nats (l := sortB nmD rows.flatten) hall
        rw [sortB_nm G] at this
        subst this
        exact k l H2 hl (c.ex (Ex.refl _) hl) hys⟩
    refine ⟨_, rfl, nilT ?_⟩
    refine srt H1 _ e1 fun ls H2 hls e2 hls2 => ?_
    have e02 := e1.trans e2
    have nlsp : ls ≠ lp := fun z => by rw [z, hlp1] at hls; cases hls
    refine ⟨ls, rfl, ⟨_, SqL.of hls2⟩, ?_⟩
    have hvl : (natsV (namesOf rows)).length = (namesOf rows).length := by unfold natsV; rw [List.length_map]
    refine for_list (xs := natsV (namesOf rows)) (fun i σ H3 => ∃ y4, σ = [some vp, some (.ref a), some (.ref lp), some (.ref d), y4, none, none, none] ∧ Ex H H3 ∧ H3 ls = some (.lst (natsV (namesOf rows))) ∧ DK w H3 d [] ∧ ∃ us, H3 lp = some (.lst us) ∧ IsAll H3 us ((((namesOf rows).take i).flatMap (rowO (namesOf rows))).map pD))
      ⟨none, rfl, e02, hls2, g1.ext e2, [], e2 _ _ hlp1, .nil⟩ (fun i σ H3 _ ⟨_, _, _, h, _⟩ => SqL.of h) ?_ ?_
    · rintro i x σ H3 hx ⟨y4, rfl, e3, hls3, g3, us, hus, hall⟩
      obtain ⟨n1, hn1, rfl⟩ := nats_at hx
      have hil : i < (namesOf rows).length := (List.getElem?_eq_some_iff.mp hn1).1
      refine ⟨_, rfl, .inl ⟨rfl, us, SqL.of hus⟩, _, rfl, nilT ?_⟩
      refine srt H3 _ e3 fun l4 H4 hl4 e4 hl44 => ?_
      refine ⟨l4, rfl, ⟨_, SqL.of hl44⟩, fun ln hln => ?_⟩
      refine lc_data (walk_list (K := K) (a := l4) (xs := natsV (namesOf rows))) (atN (namesOf rows) fun y => y != n1) (fun j => pD (n1, ((namesOf rows)[j]?).getD 0)) hln (by omega) (fun H5 e5 => SqL.of (e5 _ _ hl44)) ?_ ?_
      · rintro j z H5 H5' hj e5 ⟨rfl, hz⟩ Q' kk
        obtain ⟨n2, hn2, rfl⟩ := nats_at hz
        refine kk _ _ (Ex.refl _) rfl ?_ fun _ => ?_
        · unfold atN
          rw [hn2]
          intro H6 e6 Q6 q6
          refine ⟨_, rfl, _, rfl, rfl, _, rfl, ?_⟩
          have : (!decide (V.int (n2 : Int) = V.int (n1 : Int))) = (n2 != n1) := by
            by_cases h : n2 = n1
            · subst h; simp
            · rw [show decide (V.int (n2 : Int) = V.int (n1 : Int)) = false from decide_eq_false fun z => h (by have := V.int.inj z; omega)]
              exact (bne_iff_ne.mpr h).symm
          rw [this]
          exact q6 _ (Ex.refl _)
        · rw [hn2]
          exact evP_tup2 (evP_var rfl (.num _)) (evP_var rfl (.num _))
      intro H5 zs e5 hzs hallz
      have eg : gvn (natsV (namesOf rows)).length (atN (namesOf rows) fun y => y != n1) (fun j => pD (n1, ((namesOf rows)[j]?).getD 0)) = (rowO (namesOf rows) n1).map pD := by
        rw [hvl, gvn_list (namesOf rows) (fun y => y != n1) (fun y => pD (n1, y)) _ _ (fun i x h => by unfold atN; rw [h]) (fun i x h => by rw [h]; rfl)]
        unfold rowO
        rw [List.map_map]; rfl
      rw [eg] at hallz
      have e35 := e4.trans e5
      have hus5 := e35 _ _ hus
      have hzl : zs.length ≤ 2 := by rw [hallz.length, List.length_map]; exact rowO_len (List.mem_of_getElem? hn1) hn3
      have hul : us.length ≤ 6 := by
        rw [hall.length, List.length_map]
        have h1 := flat_le (rowO (namesOf rows)) 2 ((namesOf rows).take i) fun x hx => rowO_len (List.mem_of_mem_take hx) hn3
        rw [List.length_take] at h1
        omega
      refine ⟨lp, ln, us, zs, rfl, rfl, hus5, hzs, sz_of (by omega), ?_⟩
      have c6 : Chg lp H5 (upd H5 lp (.lst (us ++ zs))) := Chg.upd
      have nt : ∀ ys, H5 lp ≠ some (.tup ys) := fun ys z => by rw [hus5] at z; cases z
      have tk6 : Tk H5 (upd H5 lp (.lst (us ++ zs))) := Chg.tku nt
      refine ⟨_, rfl, c6.ex (e3.trans e35) hlp, (c6 _ nlsp).trans (e35 _ _ hls3), (g3.ext e35).chg c6 ndl nt, us ++ zs, upd_same, ?_⟩
      rw [take_snoc hn1, List.flatMap_append, List.flatMap_singleton, List.map_append]
      exact ((hall.ex e35).mv tk6).append (hallz.mv tk6)
    rintro σ H3 ⟨y4, rfl, e3, hls3, g3, us, hus, hall⟩
    rw [hvl, List.take_length, ← offs_eq] at hall
    -- the orders
    have ho6 := offs_len6 G h3
    refine ⟨_, rfl, lp, us, offs rows, rfl, hus, hall, ho6, fun lr H4 rs e4 hlr hrs hallr => ?_⟩
    have nlr : lr ≠ d := fun z => by obtain ⟨es, h, _⟩ := g3.ex; rw [z, h] at hlr; cases hlr
    have hrl : rs.length = (someL (offs rows)).length := by rw [hallr.length, List.length_map]
    have hs64 : (someL (offs rows)).length ≤ 64 := by
      rw [some_len _ _ rfl]
      exact Nat.le_trans (Nat.pow_le_pow_right (by decide) ho6) (by decide)
    refine ⟨lr, rfl, ⟨rs, SqL.of hrs⟩, ?_⟩
    refine for_list (xs := rs) (fun i σ H5 => ∃ y5 y6, σ = [some vp, some (.ref a), some (.ref lp), some (.ref d), y4, y5, y6, none] ∧ Ex H H5 ∧ H5 lr = some (.lst rs) ∧ IsAll H5 rs ((someL (offs rows)).map tupD) ∧ ∃ L, DK w H5 d L ∧ OP L ((((someL (offs rows)).take i).flatMap (clos rows)).map some))
      ⟨none, none, rfl, e3.trans e4, hrs, hallr, [], g3.ext e4, OP.empty⟩ (fun i σ H5 _ ⟨_, _, _, _, h, _⟩ => SqL.of h) ?_ ?_
    · rintro i x σ H5 hx ⟨y5, y6, rfl, e5, hrs5, hallr5, L5, g5, op5⟩
      obtain ⟨st, hst, isx⟩ := enc_at (enc := tupD) hallr5 hx
      have hil : i < (someL (offs rows)).length := (List.getElem?_eq_some_iff.mp hst).1
      have hsub := some_sub _ st (List.mem_of_getElem? hst)
      have hsg : st.Sublist grid := hsub.trans (offs_grid rows)
      have isx0 := isx
      rw [tupD_ps hsg] at isx
      have hL5 : L5.length ≤ 8 * i := by
        have h1 := op5.len
        rw [List.length_map] at h1
        have h2 := flat_le (clos rows) 8 ((someL (offs rows)).take i) fun x _ => clos_len rows x
        rw [List.length_take] at h2
        omega
      have ebd : Bd ((maskL st, (0 : Nat)) : Nat × Nat).1 ∧ Bd ((maskL st, (0 : Nat)) : Nat × Nat).2 := ⟨bd_sub hsg, Bd.zero⟩
      have hclos : ∀ b : Bool, (decide (st.length ≤ 3) && decide (lawReg rows (maskL st) 0 = some (maskL st, 0))) = b → clos rows st = if b = true then (someL st).filterMap (inner rows st) else [] := fun b hb => by
        unfold clos
        subst hb
        by_cases h : st.length ≤ 3 ∧ lawReg rows (maskL st) 0 = some (maskL st, 0)
        · rw [if_pos h, if_pos (by rw [decide_eq_true h.1, decide_eq_true h.2]; rfl)]
        · rw [if_neg h, if_neg (by rw [Bool.and_eq_true, decide_eq_true_iff, decide_eq_true_iff]; exact h)]
      have ht : ∀ {σ2 : L2.St}, σ2 = [some vp, some (.ref a), some (.ref lp), some (.ref d), y4, some x, y6, none] → EvT (tAnd (tTest (tOp (rI0 fun i j => .bl (decide (i ≤ j))) (tCB (fun xs H Q => ∃ p ys, xs = [.ref p] ∧ (SqL K H p ys ∨ SqT K H p ys) ∧ Q (.int ys.length) H) (tCons (tVar 5) tNil)) (tC (.int 3))))
          (tTest (tOp (rEqD K) (tCall spLC [] (fun _ _ _ => False) (tCons (tVar 0) (tCons (tVar 5) (tCons (tTup tNil) tNil)))) (tTup (tCons (tVar 5) (tCons (tTup tNil) tNil)))))) σ2 H5 (decide (st.length ≤ 3) && decide (lawReg rows (maskL st) 0 = some (maskL st, 0))) := by
        rintro σ2 rfl
        refine et_and (fun H6 e6 Q6 q6 => ?_) (fun _ H6 e6 Q6 q6 => ?_)
        · obtain ⟨ax, xs, rfl, hax, hxs⟩ := (isx0.ex e6).tup_inv
          have hxl : xs.length = st.length := by rw [hxs.length, List.length_map]
          refine ⟨_, rfl, ax, xs, rfl, .inr (SqT.of hax), _, _, rfl, rfl, _, rfl, ?_⟩
          rw [show decide ((xs.length : Int) ≤ 3) = decide (st.length ≤ 3) from by rw [hxl, Bool.eq_iff_iff, decide_eq_true_iff, decide_eq_true_iff]; omega]
          exact q6 _ (Ex.refl _)
        · refine ⟨vp, rfl, x, rfl, Nat.zero_le _, fun t0 ht0 => ?_⟩
          have e7 := Ex.new ht0 (o := .tup [])
          have e67 := e6.trans e7
          refine ⟨vp, x, .ref t0, rows, maskL st, 0, rfl, hp.ex (e5.trans e67), G, h3, isx.ex e67, ?_, by rw [prs_zero]; exact Nat.zero_le _, wi_zero _, fun v H8 e8 iv => ?_⟩
          · rw [psM_zero]; exact .tup upd_same .nil
          refine ⟨x, rfl, Nat.zero_le _, fun t1 ht1 => ⟨by show 2 ≤ sizeLine; decide, fun t2 ht2 => ?_⟩⟩
          have e9 := Ex.new ht1 (o := .tup [])
          have e10 := Ex.new ht2 (o := .tup [x, .ref t1])
          have e810 := e9.trans e10
          have ir : Is (upd (upd H8 t1 (.tup [])) t2 (.tup [x, .ref t1])) (.ref t2) (rgM (maskL st, 0)) := by
            refine .tup upd_same (.cons (isx.ex ((e67.trans e8).trans e810)) (.cons ?_ .nil))
            show Is _ _ (psM 0)
            rw [psM_zero]
            exact .tup (e10 _ _ upd_same) .nil
          refine rv_eqk (iv.ex e810) ir (plain_opt _) (plain_rg _) (Nat.le_trans (depth_opt _) (by decide)) (Nat.le_trans (depth_rg _) (by decide)) ⟨_, rfl, ?_⟩
          rw [opt_dec ebd]
          exact q6 _ ((e7.trans e8).trans e810)
      refine ht rfl H5 (Ex.refl _) _ fun H6 e6 => ?_
      have e06 := e5.trans e6
      have hrs6 := e6 _ _ hrs5
      have hallr6 := hallr5.ex e6
      have g6 := g5.ext e6
      by_cases hcond : (decide (st.length ≤ 3) && decide (lawReg rows (maskL st) 0 = some (maskL st, 0))) = true
      case neg =>
        rw [Bool.eq_false_iff.mpr hcond]
        refine iteF ⟨_, _, rfl, e06, hrs6, hallr6, L5, g6, ?_⟩
        rw [take_snoc hst, List.flatMap_append, List.flatMap_singleton, hclos _ (Bool.eq_false_iff.mpr hcond), if_neg (by decide), List.append_nil]
        exact op5
      rw [hcond]
      refine iteT ?_
      have hs3 : st.length ≤ 3 := of_decide_eq_true (Bool.and_eq_true_iff.mp hcond).1
      obtain ⟨ax, xs, rfl, hax, hxs⟩ := (isx0.ex e6).tup_inv
      refine ⟨_, rfl, ax, xs, st, rfl, hax, hxs, by omega, fun lq H7 rs2 e7 hlq hrs2 hallr2 => ?_⟩
      have nlq : lq ≠ d := fun z => by obtain ⟨es, h, _⟩ := g6.ex; rw [z, h] at hlq; cases hlq
      refine ⟨lq, rfl, ⟨rs2, SqL.of hrs2⟩, ?_⟩
      have hr2l : rs2.length = (someL st).length := by rw [hallr2.length, List.length_map]
      have hs8 : (someL st).length ≤ 8 := by
        rw [some_len _ _ rfl]
        exact Nat.le_trans (Nat.pow_le_pow_right (by decide) hs3) (by decide)
      have isx7 := (isx.ex e6).ex e7
      refine for_list (xs := rs2) (fun j σ H8 => ∃ y6, σ = [some vp, some (.ref a), some (.ref lp), some (.ref d), y4, some (.ref ax), y6, none] ∧ Ex H H8 ∧ H8 lr = some (.lst rs) ∧ IsAll H8 rs ((someL (offs rows)).map tupD) ∧ H8 lq = some (.lst rs2) ∧ IsAll H8 rs2 ((someL st).map tupD) ∧ Is H8 (.ref ax) (psM (maskL st)) ∧ ∃ L, DK w H8 d L ∧ OP L ((((someL (offs rows)).take i).flatMap (clos rows) ++ ((someL st).take j).filterMap (inner rows st)).map some))
        ⟨y6, rfl, e06.trans e7, e7 _ _ hrs6, hallr6.ex e7, hrs2, hallr2, isx7, L5, g6.ext e7, by simpa using op5⟩ (fun j σ H8 _ ⟨_, _, _, _, _, h, _⟩ => SqL.of h) ?_ ?_
      · rintro j z σ H8 hz ⟨y6, rfl, e8, hrs8, hallr8, hrs28, hallr28, isx8, L8, g8, op8⟩
        obtain ⟨dl, hdl, isz0⟩ := enc_at (enc := tupD) hallr28 hz
        have hjl : j < (someL st).length := (List.getElem?_eq_some_iff.mp hdl).1
        have hdsub := some_sub _ dl (List.mem_of_getElem? hdl)
        have hdg : dl.Sublist grid := hdsub.trans hsg
        have isz := isz0
        rw [tupD_ps hdg] at isz
        have hL8 : L8.length ≤ 600 := by
          have h1 := op8.len
          rw [List.length_map, List.length_append] at h1
          have h2 := flat_le (clos rows) 8 ((someL (offs rows)).take i) fun x _ => clos_len rows x
          rw [List.length_take] at h2
          have h3 := List.length_filterMap_le (inner rows st) ((someL st).take j)
          rw [List.length_take] at h3
          omega
        have ebd2 : Bd ((maskL st, maskL dl) : Nat × Nat).1 ∧ Bd ((maskL st, maskL dl) : Nat × Nat).2 := ⟨bd_sub hsg, bd_sub hdg⟩
        refine ⟨vp, rfl, _, rfl, _, rfl, vp, .ref ax, z, rows, maskL st, maskL dl, rfl, hp.ex e8, G, h3, isx8, isz, by rw [prs_maskL hdg]; exact Nat.le_trans hdsub.length_le hs3, wi_sub (hdsub.trans hsub), fun v H9 e9 iv => ?_⟩
        refine ⟨_, rfl, _, rfl, by show 2 ≤ sizeLine; decide, fun t2 ht2 => ?_⟩
        have e10 := Ex.new ht2 (o := .tup [.ref ax, z])
        have e810 := e9.trans e10
        have ir : Is (upd H9 t2 (.tup [.ref ax, z])) (.ref t2) (rgM (maskL st, maskL dl)) := .tup upd_same (.cons (isx8.ex e810) (.cons (isz.ex e810) .nil))
        refine rv_eqk (iv.ex e10) ir (plain_opt _) (plain_rg _) (Nat.le_trans (depth_opt _) (by decide)) (Nat.le_trans (depth_rg _) (by decide)) ⟨_, rfl, ?_⟩
        rw [opt_dec ebd2]
        generalize upd H9 t2 (.tup [.ref ax, z]) = H10 at e810
        have hin : inner rows st dl = if lawReg rows (maskL st) (maskL dl) = some (maskL st, maskL dl) then some (maskL st, maskL dl) else none := rfl
        by_cases hl : lawReg rows (maskL st) (maskL dl) = some (maskL st, maskL dl)
        · rw [decide_eq_true hl]
          refine iteT ?_
          refine ⟨_, rfl, _, rfl, _, rfl, by show 2 ≤ sizeLine; decide, fun t3 ht3 => ?_⟩
          have e11 := Ex.new ht3 (o := .tup [.ref ax, z])
          have e811 := e810.trans e11
          have ir3 : Is (upd H10 t3 (.tup [.ref ax, z])) (.ref t3) (rgM (maskL st, maskL dl)) := .tup upd_same (.cons (isx8.ex e811) (.cons (isz.ex e811) .nil))
          refine ⟨d, L8, _, rfl, g8.ext e811, ir3, .inr ⟨t3, rfl⟩, Nat.le_trans (depth_rg _) (by decide), by omega, fun H12 c12 g12 => ?_⟩
          have tk12 := c12.tk (g8.ext e811).ne_tup
          refine ⟨_, rfl, c12.ex (e8.trans e811) hdn, (c12 _ nlr).trans (e811 _ _ hrs8), (hallr8.ex e811).mv tk12, (c12 _ nlq).trans (e811 _ _ hrs28), (hallr28.ex e811).mv tk12, (isx8.ex e811).mv tk12, _, g12, ?_⟩
          rw [take_snoc hdl, List.filterMap_append, ← List.append_assoc, List.map_append]
          have : List.filterMap (inner rows st) [dl] = [(maskL st, maskL dl)] := by
            rw [List.filterMap_cons, hin, if_pos hl]; rfl
          rw [this]
          exact op8.ins (some (maskL st, maskL dl))
        · rw [decide_eq_false hl]
          refine iteF ⟨_, rfl, e8.trans e810, e810 _ _ hrs8, hallr8.ex e810, e810 _ _ hrs28, hallr28.ex e810, isx8.ex e810, L8, g8.ext e810, ?_⟩
          rw [take_snoc hdl, List.filterMap_append]
          have : List.filterMap (inner rows st) [dl] = [] := by
            rw [List.filterMap_cons, hin, if_neg hl]; rfl
          rw [this, List.append_nil]
          exact op8
      · rintro σ H8 ⟨y6, rfl, e8, hrs8, hallr8, hrs28, hallr28, isx8, L8, g8, op8⟩
        rw [hr2l, List.take_length] at op8
        refine ⟨_, _, rfl, e8, hrs8, hallr8, L8, g8, ?_⟩
        rw [take_snoc hst, List.flatMap_append, List.flatMap_singleton, hclos _ hcond, if_pos rfl]
        exact op8
    · rintro σ H5 ⟨y5, y6, rfl, e5, hrs5, hallr5, L5, g5, op5⟩
      rw [hrl, List.take_length, ← allC_eq] at op5
      exact ⟨_, rfl, q d H5 L5 e5 hdn g5 op5⟩
end
end K82
/-! What the decided facts say; _law_all_come_to. -/
namespace K82
open PySem PySem.Spec PyProof.Rows L2 Evl RZ

structure Facts (rows : List (List Nat)) (n : Nat) : Prop where
  len : (allC rows).length = n
  nd : (allC rows).Nodup
  ac0 : acR rows 0 0 = true
  start : regM rows 0 0 ∈ allC rows
  ac : ∀ r ∈ allC rows, acR rows r.1 r.2 = true
  fix : ∀ r ∈ allC rows, regM rows r.1 r.2 = r
  least : ∀ r ∈ allC rows, within (regM rows 0 0) r = true
  rk : ∀ r ∈ allC rows, rank rows r ≤ 6
  more : ∀ r ∈ allC rows, ∀ l ∈ moreM rows r, l ∈ allC rows ∧ within r l = true ∧ rank rows r < rank rows l
  go : ∀ r ∈ allC rows, ∀ g ∈ allC rows, within r g = true → r ≠ g → ∃ l ∈ moreM rows r, within l g = true
theorem Facts.of {rows : List (List Nat)} {n : Nat} (h : factsB rows n = true) : Facts rows n := by
  have h' : (((allC rows).length == n) && decide (allC rows).Nodup && acR rows 0 0 && (allC rows).contains (regM rows 0 0) && (allC rows).all fun r =>
    acR rows r.1 r.2 && (regM rows r.1 r.2 == r) && within (regM rows 0 0) r && decide (rank rows r ≤ 6) && (moreM rows r).all (fun l => (allC rows).contains l && within r l && decide (rank rows r < rank rows l)) &&
    (allC rows).all fun g => !(within r g) || r == g || (moreM rows r).any fun l => within l g) = true := h
  simp only [Bool.and_eq_true, List.all_eq_true, decide_eq_true_eq, beq_iff_eq, List.contains_iff_mem, Bool.or_eq_true, Bool.not_eq_true', List.any_eq_true] at h'
  obtain ⟨⟨⟨⟨h1, h2⟩, h3⟩, h4⟩, h5⟩ := h'
  refine ⟨h1, h2, h3, h4, fun r hr => (h5 r hr).1.1.1.1.1, fun r hr => (h5 r hr).1.1.1.1.2, fun r hr => (h5 r hr).1.1.1.2, fun r hr => (h5 r hr).1.1.2, fun r hr l hl => ?_, fun r hr g hg hw hne => ?_⟩
  · obtain ⟨⟨a, b⟩, c⟩ := (h5 r hr).1.2 l hl
    exact ⟨a, b, c⟩
  · rcases (h5 r hr).2 g hg with (z | z) | z
    · rw [z] at hw; cases hw
    · exact absurd z hne
    · exact z
theorem allC_bd {rows : List (List Nat)} {n : Nat} (F : Facts rows n) {r : Nat × Nat} (h : r ∈ allC rows) : Bd r.1 ∧ Bd r.2 := by
  rw [← F.fix r h]; exact regM_bd _ _ _
theorem allC_wi {rows : List (List Nat)} {n : Nat} (F : Facts rows n) {r : Nat × Nat} (h : r ∈ allC rows) : Wi (namesOf rows) r.2 := by
  rw [← F.fix r h]; exact wi_reg _ _ _
/-- everything that holds the start and is closed under more holds all -/
theorem Facts.all {rows : List (List Nat)} {n : Nat} (F : Facts rows n) {S : Nat × Nat → Prop} (h0 : S (regM rows 0 0)) (hs : ∀ r, S r → r ∈ allC rows) (hm : ∀ r, S r → ∀ l ∈ moreM rows r, S l) : ∀ g ∈ allC rows, S g := by
  intro g hg
  have key : ∀ (k : Nat) (r : Nat × Nat), S r → within r g = true → rank rows g - rank rows r ≤ k → rank rows r ≤ rank rows g → S g := by
    intro k
    induction k with
    | zero =>
      intro r hr hw hk hle
      by_cases e : r = g
      · exact e ▸ hr
      · obtain ⟨l, hl, hlg⟩ := F.go r (hs r hr) g hg hw e
        have hlc := F.more r (hs r hr) l hl
        have hm2 := rank_mono hlg (rows := rows)
        omega
    | succ k ih =>
      intro r hr hw hk hle
      by_cases e : r = g
      · exact e ▸ hr
      · obtain ⟨l, hl, hlg⟩ := F.go r (hs r hr) g hg hw e
        have hlc := F.more r (hs r hr) l hl
        have := rank_mono hlg (rows := rows)
        exact ih l (hm r hr l hl) hlg (by omega) this
  exact key _ _ h0 (F.least g hg) (Nat.le_refl _) (rank_mono (F.least g hg))
where
  rank_mono {rows : List (List Nat)} {a b : Nat × Nat} (h : within a b = true) : rank rows a ≤ rank rows b := by
    have key : ∀ (x y : Nat), x &&& y = x → ((sq (namesOf rows)).filter fun p => rel x p.1 p.2).length ≤ ((sq (namesOf rows)).filter fun p => rel y p.1 p.2).length := fun x y e => by
      rw [← List.countP_eq_length_filter, ← List.countP_eq_length_filter]
      refine List.countP_mono_left fun p _ hp => ?_
      have : rel (x &&& y) p.1 p.2 = (rel x p.1 p.2 && rel y p.1 p.2) := Nat.testBit_and ..
      rw [e, hp] at this
      simpa using this.symm
    unfold within at h
    rw [Bool.and_eq_true, beq_iff_eq, beq_iff_eq] at h
    have h1 := key _ _ h.1
    have h2 := key _ _ h.2
    unfold rank
    omega
end K82
/-! _law_all_come_to. -/
namespace K82
open PySem PySem.Spec PyProof.Rows L2 Evl RZ

theorem walk_zipT {K : PySem.W.Frag} {a b : Addr} {xs ys : List V} {n : Nat} (hn : n = min xs.length ys.length) : Walk (ItzT K a b) n (fun H => SqT K H a xs ∧ SqT K H b ys) (YPair (fun i => xs[i]?) (fun i => ys[i]?)) := by
  subst hn
  refine ⟨fun i _ hi q => ?_, fun _ q => ⟨xs, ys, q.1, q.2, by omega⟩, fun i H v H' _ q y => ?_⟩
  · have h1 : i < xs.length := by omega
    have h2 : i < ys.length := by omega
    exact ⟨xs, ys, xs[i], ys[i], q.1, q.2, by simp [h1], by simp [h2]⟩
  · obtain ⟨T, x, z, h1, h2, h3, h4, h5⟩ := y
    exact ⟨T, x, z, h1, h2, h3, h4 xs q.1, h5 ys q.2⟩
section
variable {X : Cx}
theorem pi_tupK (K : PySem.W.Frag) (hK : X.K = K) {tg e : Expr} {tl : TE} (h : PI X tg e (iTup X.K tl)) : PI X tg e (iTup K tl) := hK ▸ h
end
def subD (x y : Nat) : Bool := decide ((prs x).filter (fun p => !rel y p.1 p.2) = [])
theorem subD_iff {x y : Nat} : subD x y = true ↔ ∀ a b, a < 10 → b < 10 → rel x a b = true → rel y a b = true := by
  unfold subD
  rw [decide_eq_true_iff, List.filter_eq_nil_iff]
  constructor
  · intro h a b ha hb hr
    have := h (a, b) (prs_mem.mpr ⟨ha, hb, hr⟩)
    simpa using this
  · intro h p hp
    obtain ⟨h1, h2, h3⟩ := prs_mem.mp hp
    simp [h _ _ h1 h2 h3]
theorem within_sub {r l : Nat × Nat} (hr : Bd r.1 ∧ Bd r.2) : within r l = (subD r.1 l.1 && subD r.2 l.2) := by
  have key : ∀ x y : Nat, Bd x → (x &&& y == x) = subD x y := fun x y hx => by
    have hb : Bd (x &&& y) := Nat.lt_of_le_of_lt Nat.and_le_left hx
    have hand : ∀ a b, rel (x &&& y) a b = (rel x a b && rel y a b) := fun a b => Nat.testBit_and ..
    rw [Bool.eq_iff_iff, beq_iff_eq, subD_iff]
    constructor
    · intro h a b _ _ e
      have := hand a b
      rw [h, e] at this
      simpa using this.symm
    · intro h
      refine mask_ext hb hx fun a b ha hb => ?_
      rw [hand]
      cases e : rel x a b with
      | false => rfl
      | true => rw [h a b ha hb e]; rfl
  unfold within
  rw [key _ _ hr.1, key _ _ hr.2]
theorem et_sub {K : PySem.W.Frag} {σ : L2.St} {H : Hp} {i j l x y : Nat} {v w' : V} (h1 : σ[i]? = some (some v)) (hv : Is H v (psM x)) (hw : Is H w' (psM y)) (hwp : ∀ u, wipe ((wipe σ [j]).set j (some u)) [j] = wipe σ [j]) (hj : ∀ u, ((wipe σ [j]).set j (some u))[j]? = some (some u)) (hl : ∀ u, ((wipe σ [j]).set j (some u))[l]? = some (some w')) :
    EvT (tTest (tOp (rNeD K) (tLc (iTup K (tVar i)) (gName j) (tTest (tOp (rNinT2 K) (tVar j) (tVar l))) (tVar j) [j]) (tLst tNil))) σ H (!subD x y) := fun H1 e Q q => by
  obtain ⟨a, us, rfl, ha, hus⟩ := ps_item (hv.ex e)
  have hul : us.length = (prs x).length := by rw [hus.length, List.length_map]
  have hx100 := prs_len x
  refine ⟨_, h1, a, rfl, ⟨us, SqT.of ha⟩, fun ln hln => ?_⟩
  refine lc_data (walk_tup (K := K) (a := a) (xs := us)) (atP (prs x) fun p => !rel y p.1 p.2) (dtP (prs x)) hln (by omega) (fun H3 e3 => SqT.of (e3 _ _ ha)) ?_ ?_
  · rintro i z H3 H3' hi e3 ⟨rfl, hz⟩ Q' kk
    obtain ⟨p, hp, isz⟩ := pairs_at hus hz
    obtain ⟨hp1, hp2, _⟩ := prs_mem.mp (List.mem_of_getElem? hp)
    have isz3 := isz.ex e3
    refine kk _ _ (Ex.refl _) (hwp z) ?_ fun _ => ?_
    · unfold atP
      rw [hp]
      intro H4 e4 Q4 q4
      refine ⟨_, hj _, _, hl _, rv_ninT (isz3.ex e4) ((hw.ex ((e.trans e3))).ex e4) (plain_pDs [p] |> fun h => (Bool.and_eq_true_iff.mp h).1) (plain_pDs _) (Nat.le_trans (pD_depth _) (by decide)) (Nat.le_trans (depth_pDs _) (by decide)) ⟨_, rfl, ?_⟩⟩
      rw [mem_ps p hp1 hp2]
      exact q4 _ (Ex.refl _)
    · unfold dtP
      rw [hp]
      exact evP_var (hj _) isz3
  intro H3 zs e3 hzs hallz
  rw [hul, gvn_pairs] at hallz
  refine ⟨Nat.zero_le _, fun l2 hl2 => rne_nil ((Ex.new hl2) _ _ hzs) upd_same (hallz.ex (Ex.new hl2)) (plain_pDs _) (Nat.le_trans (depth_pDs _) (by decide)) ⟨_, rfl, ?_⟩⟩
  have : decide (((prs x).filter fun p => !rel y p.1 p.2).map pD = []) = subD x y := by
    unfold subD
    rw [Bool.eq_iff_iff, decide_eq_true_iff, decide_eq_true_iff, List.map_eq_nil_iff]
  rw [this]
  exact q _ (e3.trans (Ex.new hl2))
theorem IsAll.dropLast {H : Hp} : ∀ {ks : List NK} {vs : List V}, IsAll H vs ks → IsAll H vs.dropLast ks.dropLast
  | [], _, h => by cases h; exact .nil
  | [_], _, h => by
    cases h with
    | cons h1 t => cases t; exact .nil
  | k :: k2 :: ks, _, h => by
    cases h with
    | cons h1 t =>
      cases t with
      | cons h2 t => exact .cons h1 (IsAll.dropLast (ks := k2 :: ks) (.cons h2 t))

section
variable {P : Program} {w : World} {K : PySem.W.Frag} {mg : Str → Option Value} {base : Heap}
abbrev nmLK : List Str := ["_law_plan", "_law_start", "_law_found", "_law_waiting", "_law_here", "_law_later", "_law_own", "_law_more", "_law_pair"]
theorem scLK : FnScope nmLK ["_law_plan"] (defScope sLCome) := ⟨rfl, rfl, rfl, by decide +kernel, rfl, by decide +kernel, by decide +kernel⟩
def spLK (w : World) : Sp := fun vs H Q _ => ∃ (vp : V) (rows : List (List Nat)) (n : Nat), vs = [vp] ∧ Is H vp (planD rows) ∧ Good rows ∧ Facts rows n ∧ n ≤ 1000 ∧ ∀ (p : Addr) (H' : Hp) (L : List NK) (fs : List (Nat × Nat)), Ex H H' → H p = none → DK w H' p L → OP L (fs.map some) → fs.Nodup → (∀ r, r ∈ fs ↔ r ∈ allC rows) → Q (.ref p) H'
set_option maxHeartbeats 16000000 in
theorem ok_lcome {f : Addr} {fd : FuncData} (F : Fun K "_law_all_come_to" "_law_all_come_to" sLCome f fd) (D1 : Df P w K mg base "regime_of" 6 ["plan", "waits", "drains"] spRegimeOf) (D2 : Df P w K mg base "more_regimes" 8 ["plan", "waits", "drains"] spMore) (mZ : mg "zip" = none) : FnOk P w K mg base CX0 9 f fd ["_law_plan"] (spLK w) := by
  refine F.ok scLK (fun vs H Q E h => ?_) (fun cdv A outer s H vs Q E hr h => ?_)
  · obtain ⟨_, _, _, rfl, _⟩ := h; rfl
  · obtain ⟨vp, rows, n, rfl, hp, G, FX, hn, q⟩ := h
    have nd := scLK.nd
    refine ⟨_, pss_cons (ps_set (i := 1) nd rfl (Or.inl rfl) (pe_df D1 hr (by decide) (by rfl) (pa_cons (pv 0) (pa_cons (pe_tup pa_nil) (pa_cons (pe_tup pa_nil) pa_nil)))))
      (pss_cons (ps_par (i := 2) (j := 3) rfl nd rfl rfl (by decide) rfl rfl (pa_cons (pe_gone (hu8 hr) (pv 1) pe_int) (pa_cons (pe_lst (pa_cons (pv 1) pa_nil)) pa_nil)) rfl)
      (pss_cons (ps_while PassesOwn.never (pt_cmpR (op_neD hr.units) (pv 3) (pe_lst pa_nil) (nomark _))
        (pss_cons (ps_set (i := 4) nd rfl (Or.inl rfl) (pe_bm0 PySem.F.plainAttrs_list PySem.F.slot_list_pop PySem.F.type_list_pop mt_pop (pv 3)))
        (pss_one (ps_for PassesOwn.never rfl (pi_tup (pe_df D2 hr (by decide) (by rfl) (pa_cons (pv 0) (pa_cons (pe_ix ix_tup (pv 4) pe_int (fun _ _ => rfl)) (pa_cons (pe_ix ix_tup (pv 4) pe_int (fun _ _ => rfl)) pa_nil))))) (pg_name (i := 5) nd rfl (Or.inl rfl))
          (pss_cons (ps_for PassesOwn.never rfl (RZ.pi_zipA (by rfl) mZ (pa_cons (pv 4) (pa_cons (pv 5) pa_nil))) (pg_tup rfl (pgs_cons (pg_name (i := 6) nd rfl (Or.inl rfl)) (pgs_cons (pg_name (i := 7) nd rfl (Or.inr rfl)) pgs_nil)))
            (pss_one (ps_if (pt_cmpR (op_neD hr.units) (pe_lc (own := [("_law_pair", 8)]) (g := gName 8) rfl nd (pi_tup (pv 6)) (blkOk_by (N := nmLK) (sc := defScope sLCome) (by decide +kernel)) (fun _ _ _ _ _ => pg_name (i := 8) nd rfl (Or.inl rfl))
              (fun _ _ _ _ _ => pts_one (pt_cmpR (op_ninT2 K rfl (hu65 hr)) (pv 8) (pv 7) rfl)) (fun _ _ _ _ _ => pv 8)) (pe_lst pa_nil) (nomark _)) (pss_one (ps_ret pe_non)) pss_nil)))
          (pss_one (ps_if (pt_cmpR (op_ninG (hu9 hr)) (pv 5) (pv 2) rfl) (pss_cons (ps_asg pe_int (pg_sub (pv 2) (pv 5) (set_G (hu9 hr)))) (pss_one (ps_expr (pe_bm PySem.F.plainAttrs_list PySem.F.slot_list_append PySem.F.type_list_append mt_append (pv 3) (pa_cons (pv 5) pa_nil))))) pss_nil)))))))
      (pss_one (ps_ret (pv 2))))), ?_⟩
    refine ⟨vp, rfl, Nat.zero_le _, fun t0 ht0 => ⟨Nat.zero_le _, fun t1 ht1 => ?_⟩⟩
    have e1 := (Ex.new ht0 (o := .tup [])).trans (Ex.new ht1 (o := .tup []))
    have z0 : Is (upd (upd H t0 (.tup [])) t1 (.tup [])) (.ref t0) (psM 0) := by rw [psM_zero]; exact .tup ((Ex.new ht1) _ _ upd_same) .nil
    have z1 : Is (upd (upd H t0 (.tup [])) t1 (.tup [])) (.ref t1) (psM 0) := by rw [psM_zero]; exact .tup upd_same .nil
    refine ⟨vp, .ref t0, .ref t1, rows, 0, 0, rfl, hp.ex e1, G, z0, z1, FX.ac0, wi_zero _, fun vs0 H2 e2 is0 => ?_⟩
    have e02 := e1.trans e2
    generalize hst : regM rows 0 0 = st at is0
    have hstC : st ∈ allC rows := hst ▸ FX.start
    intro d H3 hd c3 g3
    have hdn : H d = none := fresh_back e02 hd
    have e3 : Ex H2 H3 := c3.ex (Ex.refl _) hd
    refine ⟨_, rfl, rgM st, g3, is0.ex e3, by obtain ⟨_, _, _, rfl, _⟩ := rg_inv is0; exact .inr ⟨_, rfl⟩, Nat.le_trans (depth_rg _) (by decide), fun H4 c4 g4 => ?_⟩
    have e4 : Ex H2 H4 := c4.ex e3 hd
    refine ⟨_, rfl, by show 1 ≤ sizeLine; decide, fun lw hlw => ⟨_, _, rfl, ?_⟩⟩
    have e5 := Ex.new hlw (o := .lst [vs0])
    have hlwn : H lw = none := fresh_back (e02.trans e4) hlw
    have ndw : d ≠ lw := fun z => by obtain ⟨es, h, _⟩ := g4.ex; rw [← z, h] at hlw; cases hlw
    have e05 := (e02.trans e4).trans e5
    have g5 := g4.ext e5
    have hw5 := upd_same (H := H4) (a := lw) (o := .lst [vs0])
    have is5 := (is0.ex e4).ex e5
    generalize upd H4 lw (.lst [vs0]) = H5 at e05 g5 hw5 is5
    -- the laps
    let St := fun (k : Nat) (σ : L2.St) (H' : Hp) => ∃ y1 y4 y5 y6 y7, ∃ (fs ws : List (Nat × Nat)) (L : List NK) (us : List V), σ = [some vp, y1, some (.ref d), some (.ref lw), y4, y5, y6, y7, none] ∧ Ex H H' ∧ DK w H' d L ∧ OP L (fs.map some) ∧ H' lw = some (.lst us) ∧ IsAll H' us (ws.map rgM) ∧ fs.Nodup ∧ (∀ r ∈ fs, r ∈ allC rows) ∧ (∀ r ∈ ws, r ∈ fs) ∧ st ∈ fs ∧ ws.length ≤ fs.length ∧
      (∀ r ∈ fs, r ∈ ws ∨ ∀ l ∈ moreM rows r, l ∈ fs) ∧ k = 2 * (n - fs.length) + ws.length
    refine s_while (fun k σ H' => St k σ H') (2 * (n - 1) + 1) ⟨_, _, _, _, _, [st], [st], _, _, rfl, e05, g5, ⟨List.pairwise_singleton _ _, fun k => by simp [optD], Nat.le_refl _⟩, hw5, .cons is5 .nil, List.pairwise_singleton _ _, fun r hr => by rw [List.mem_singleton.mp hr]; exact hstC, fun r hr => hr, List.mem_singleton.mpr rfl, Nat.le_refl _, fun r hr => .inl hr, rfl⟩ ?_
    rintro k σ H6 ⟨y1, y4, y5, y6, y7, fs, ws, L, us, rfl, e6, g6, op6, hus, hall, fnd, fC, wf, sf, wl, cl, hk⟩
    have hfl : fs.length ≤ n := by rw [← FX.len]; exact nodup_le _ _ fnd fC
    have hwl : us.length = ws.length := by rw [hall.length, List.length_map]
    have pws : ∀ l : List (Nat × Nat), plainK.plainKs (l.map rgM) = true ∧ NestedKey.depthAll (l.map rgM) ≤ 3 := by
      intro l
      induction l with
      | nil => exact ⟨rfl, by decide⟩
      | cons r l ih =>
        refine ⟨?_, ?_⟩
        · show (plainK (rgM r) && plainK.plainKs (l.map rgM)) = true
          rw [plain_rg, ih.1]; rfl
        · show max (rgM r).depth (NestedKey.depthAll (l.map rgM)) ≤ 3
          have := depth_rg r
          have := ih.2
          omega
    refine ⟨!decide (ws.map rgM = []), et_neL rfl hus hall (pws ws).1 (Nat.le_trans (pws ws).2 (by decide)), fun hb H7 e7 => ?_, fun hb H7 e7 => ?_⟩
    · -- one more lap
      have hne : ws ≠ [] := fun z => by rw [z] at hb; simp at hb
      obtain ⟨ws', r, rfl⟩ : ∃ ws' r, ws = ws' ++ [r] := ⟨_, _, (List.dropLast_concat_getLast hne).symm⟩
      have hrf : r ∈ fs := wf r (List.mem_append_right _ (List.mem_singleton.mpr rfl))
      have hrC := fC r hrf
      refine ⟨fun σ2 H' => ∃ m', m' < k ∧ St m' σ2 H', fun σ2 H' h => h, ?_⟩
      have e07 := e6.trans e7
      have g7 := g6.ext e7
      have hus7 := e7 _ _ hus
      have hall7 := hall.ex e7
      have hul : us.length = ws'.length + 1 := by rw [hwl, List.length_append]; rfl
      obtain ⟨vl, hvl, isr⟩ : ∃ v, us[us.length - 1]? = some v ∧ Is H7 v (rgM r) := by
        obtain ⟨v, hv, h⟩ := hall7.at_ (i := ws'.length) (k := rgM r) (by rw [List.getElem?_map, List.getElem?_append_right (Nat.le_refl _)]; simp)
        refine ⟨v, ?_, h⟩
        rw [hul, Nat.add_sub_cancel]; exact hv
      refine ⟨_, rfl, .inl ⟨rfl, us, SqL.of hus7⟩, lw, us, vl, rfl, rfl, hus7, hvl, ?_⟩
      have c8 : Chg lw H7 (upd H7 lw (.lst us.dropLast)) := Chg.upd
      have nt8 : ∀ ys, H7 lw ≠ some (.tup ys) := fun ys z => by rw [hus7] at z; cases z
      have tk8 : Tk H7 (upd H7 lw (.lst us.dropLast)) := Chg.tku nt8
      have e08 : Ex H (upd H7 lw (.lst us.dropLast)) := c8.ex e07 hlwn
      have g8 := g7.chg c8 ndw nt8
      have hw8 := upd_same (H := H7) (a := lw) (o := .lst us.dropLast)
      have hall8 : IsAll (upd H7 lw (.lst us.dropLast)) us.dropLast (ws'.map rgM) := by
        have := (hall7.mv tk8).dropLast
        rw [List.map_append, List.map_singleton, List.dropLast_concat] at this
        exact this
      have isr8 := isr.mv tk8
      generalize upd H7 lw (.lst us.dropLast) = H8 at e08 g8 hw8 hall8 isr8
      obtain ⟨ah, h1, h2, rfl, hah, ih1, ih2⟩ := rg_inv isr8
      refine ⟨vp, rfl, _, rfl, ah, _, 0, h1, rfl, rfl, SqT.of hah, atI_nat (j := 0) rfl, _, rfl, ah, _, 1, h2, rfl, rfl, SqT.of hah, atI_nat (j := 1) rfl, vp, h1, h2, rows, r.1, r.2, rfl, hp.ex e08, G, ih1, ih2, FX.ac r hrC, allC_wi FX hrC, fun vm H9 bs e9 im hbs _ => ?_⟩
      rw [FX.fix r hrC] at hbs
      obtain ⟨am, ms, rfl, ham, hms⟩ := im.tup_inv
      have hml : ms.length = bs.length := by rw [hms.length, List.length_map]
      refine ⟨am, rfl, ⟨ms, SqT.of ham⟩, ?_⟩
      have e09 := e08.trans e9
      refine for_tup (xs := ms) (fun i σ H' => ∃ y5 y6 y7, ∃ (fs' ws' : List (Nat × Nat)) (L : List NK) (us : List V), σ = [some vp, y1, some (.ref d), some (.ref lw), some (.ref ah), y5, y6, y7, none] ∧ Ex H H' ∧ Is H' (.ref ah) (rgM r) ∧ H' am = some (.tup ms) ∧ IsAll H' ms (bs.map rgM) ∧ DK w H' d L ∧ OP L (fs'.map some) ∧ H' lw = some (.lst us) ∧ IsAll H' us (ws'.map rgM) ∧ fs'.Nodup ∧ (∀ r ∈ fs', r ∈ allC rows) ∧ (∀ r ∈ ws', r ∈ fs') ∧ st ∈ fs' ∧ ws'.length ≤ fs'.length ∧
          (∀ x ∈ fs', x = r ∨ x ∈ ws' ∨ ∀ l ∈ moreM rows x, l ∈ fs') ∧ (∀ l ∈ bs.take i, l ∈ fs') ∧ 2 * (n - fs'.length) + ws'.length < k)
        ⟨y5, y6, y7, fs, ws', L, us.dropLast, rfl, e09, isr8.ex e9, ham, hms, g8.ext e9, op6, e9 _ _ hw8, hall8.ex e9, fnd, fC, fun x hx => wf x (List.mem_append_left _ hx), sf, by rw [List.length_append] at wl; simp at wl; omega, fun x hx => ?_, fun l hl => by simp at hl, by rw [hk, List.length_append]; simp⟩
        (fun i σ H' _ ⟨_, _, _, _, _, _, _, _, _, _, h, _⟩ => SqT.of h) ?_ ?_
      · rcases cl x hx with z | z
        · rcases List.mem_append.mp z with z | z
          · exact .inr (.inl z)
          · exact .inl (List.mem_singleton.mp z)
        · exact .inr (.inr z)
      · rintro i x σ H10 hx ⟨y5, y6, y7, fs', ws'', L10, us10, rfl, e10, isr10, ham10, hms10, g10, op10, hus10, hall10, fnd10, fC10, wf10, sf10, wl10, cl10, tk10, hk10⟩
        obtain ⟨l, hl, isl⟩ := enc_at (enc := rgM) hms10 hx
        have hlm : l ∈ moreM rows r := (hbs l).mp (List.mem_of_getElem? hl)
        obtain ⟨hlC, hlw2, _⟩ := FX.more r hrC l hlm
        have hlb := allC_bd FX hlC
        have hrb := allC_bd FX hrC
        obtain ⟨al, l1, l2, rfl, hal, il1, il2⟩ := rg_inv isl
        obtain ⟨ah', h1', h2', e', hah', ih1', ih2'⟩ := rg_inv isr10
        cases e'
        rw [within_sub hrb, Bool.and_eq_true] at hlw2
        -- own, more
        refine ⟨_, rfl, _, rfl, ah, al, [h1', h2'], [l1, l2], rfl, .inr ⟨SqT.of hah', SqT.of hal, ?_⟩⟩
        refine for_it (walk_zipT (K := K) (n := 2) (xs := [h1', h2']) (ys := [l1, l2]) rfl) (fun j σ H11 => ∃ y6 y7, σ = [some vp, y1, some (.ref d), some (.ref lw), some (.ref ah), some (.ref al), y6, y7, none] ∧ Ex H10 H11)
          ⟨y6, y7, rfl, Ex.refl _⟩ (fun j σ H11 _ ⟨_, _, _, e⟩ => ⟨SqT.of (e _ _ hah'), SqT.of (e _ _ hal)⟩) ?_ ?_
        · rintro j z σ H11 H12 hj ⟨y6, y7, rfl, e11⟩ y
          obtain ⟨T, x1, x2, rfl, nT, e12, hT, q1, q2⟩ := ypair_is (K := K) y
          have e1012 := e11.trans e12
          refine ⟨T, _, rfl, hT, rfl, _, _, rfl, _, _, rfl, rfl, ?_⟩
          have fin : ∀ (u v : Nat), Is H10 x1 (psM u) → Is H10 x2 (psM v) → subD u v = true → tTest (tOp (rNeD K) (tLc (iTup K (tVar 6)) (gName 8) (tTest (tOp (rNinT2 K) (tVar 8) (tVar 7))) (tVar 8) [8]) (tLst tNil)) [some vp, y1, some (.ref d), some (.ref lw), some (.ref ah), some (.ref al), some x1, some x2, none] H12
              fun c H1 => if c = true then tRet (tC .non) { nx := fun _ _ => False, rt := Q } [some vp, y1, some (.ref d), some (.ref lw), some (.ref ah), some (.ref al), some x1, some x2, none] H1 else (fun σ H11 => ∃ y6 y7, σ = [some vp, y1, some (.ref d), some (.ref lw), some (.ref ah), some (.ref al), y6, y7, none] ∧ Ex H10 H11) [some vp, y1, some (.ref d), some (.ref lw), some (.ref ah), some (.ref al), some x1, some x2, none] H1 := fun u v i1 i2 hs => by
            refine et_sub (i := 6) (j := 8) (l := 7) rfl (i1.ex e1012) (i2.ex e1012) (fun _ => rfl) (fun _ => rfl) (fun _ => rfl) H12 (Ex.refl _) _ fun H13 e13 => ?_
            rw [hs]
            exact iteF ⟨_, _, rfl, e1012.trans e13⟩
          match j, hj with
          | 0, _ =>
            cases q1; cases q2
            exact fin r.1 l.1 ih1' il1 hlw2.1
          | 1, _ =>
            cases q1; cases q2
            exact fin r.2 l.2 ih2' il2 hlw2.2
        rintro σ H11 ⟨y6, y7, rfl, e11⟩
        have g11 := g10.ext e11
        have isl11 := isl.ex e11
        have hlen : L10.length ≤ 1000 := by
          have := op10.len
          rw [List.length_map] at this
          have h2 : fs'.length ≤ n := by rw [← FX.len]; exact nodup_le _ _ fnd10 fC10
          omega
        have hmem : decide (rgM l ∈ L10) = decide (l ∈ fs') := by
          rw [Bool.eq_iff_iff, decide_eq_true_iff, decide_eq_true_iff, op10.mem]
          constructor
          · rintro ⟨o, ho, e⟩
            obtain ⟨b, hb, rfl⟩ := List.mem_map.mp ho
            have := rgM_inj hlb (allC_bd FX (fC10 b hb)) e
            exact this ▸ hb
          · exact fun h => ⟨some l, List.mem_map_of_mem h, rfl⟩
        refine ⟨_, rfl, _, rfl, d, L10, rgM l, rfl, g11, isl11, .inr ⟨al, rfl⟩, Nat.le_trans (depth_rg _) (by decide), _, rfl, ?_⟩
        rw [hmem]
        have hus11 := e11 _ _ hus10
        by_cases hin : l ∈ fs'
        · rw [decide_eq_true hin]
          refine iteF ⟨_, _, _, fs', ws'', L10, us10, rfl, e10.trans e11, isr10.ex e11, e11 _ _ ham10, hms10.ex e11, g11, op10, hus11, hall10.ex e11, fnd10, fC10, wf10, sf10, wl10, cl10, fun x hx => ?_, hk10⟩
          rw [take_snoc hl] at hx
          rcases List.mem_append.mp hx with z | z
          · exact tk10 x z
          · rw [List.mem_singleton.mp z]; exact hin
        · rw [decide_eq_false hin]
          refine iteT ?_
          refine ⟨_, rfl, _, rfl, d, L10, rgM l, rfl, g11, isl11, .inr ⟨al, rfl⟩, Nat.le_trans (depth_rg _) (by decide), by omega, fun H12 c12 g12 => ?_⟩
          have tk12 := c12.tk g11.ne_tup
          have e12 := c12.ex (e10.trans e11) hdn
          have hus12 := (c12 _ ndw.symm).trans hus11
          have hu100 : us10.length ≤ 1000 := by
            have h1 : us10.length = ws''.length := by rw [hall10.length, List.length_map]
            have h2 : fs'.length ≤ n := by rw [← FX.len]; exact nodup_le _ _ fnd10 fC10
            omega
          refine ⟨_, rfl, .inl ⟨rfl, us10, SqL.of hus12⟩, _, rfl, lw, us10, _, rfl, rfl, hus12, small1000 hu100, ?_⟩
          have c13 : Chg lw H12 (upd H12 lw (.lst (us10 ++ [.ref al]))) := Chg.upd
          have nt13 : ∀ ys, H12 lw ≠ some (.tup ys) := fun ys z => by rw [hus12] at z; cases z
          have tk13 : Tk H12 (upd H12 lw (.lst (us10 ++ [.ref al]))) := Chg.tku nt13
          have tk := (Tk.ex e11).trans (tk12.trans tk13)
          have hnew : (fs' ++ [l]).Nodup := by
            rw [List.nodup_append]
            exact ⟨fnd10, List.pairwise_singleton _ _, fun a ha b hb z => hin (by rw [List.mem_singleton.mp hb] at z; exact z ▸ ha)⟩
          have hCl : (fs' ++ [l]).length ≤ n := by
            rw [← FX.len]
            exact nodup_le _ _ hnew fun x hx => (List.mem_append.mp hx).elim (fC10 x) fun z => by rw [List.mem_singleton.mp z]; exact hlC
          refine ⟨_, _, _, fs' ++ [l], ws'' ++ [l], _, _, rfl, c13.ex e12 hlwn, isr10.mv tk, tk _ _ ham10, hms10.mv tk, g12.chg c13 ndw nt13, ?_, upd_same, ?_, hnew, ?_, ?_, List.mem_append_left _ sf10, ?_, ?_, ?_, ?_⟩
          · rw [List.map_append]; exact op10.ins (some l)
          · rw [List.map_append]
            exact (hall10.mv tk).append (.one (isl.mv tk))
          · exact fun x hx => (List.mem_append.mp hx).elim (fC10 x) fun z => by rw [List.mem_singleton.mp z]; exact hlC
          · exact fun x hx => (List.mem_append.mp hx).elim (fun z => List.mem_append_left _ (wf10 x z)) fun z => List.mem_append_right _ z
          · rw [List.length_append, List.length_append]; omega
          · intro x hx
            rcases List.mem_append.mp hx with z | z
            · rcases cl10 x z with z | z | z
              · exact .inl z
              · exact .inr (.inl (List.mem_append_left _ z))
              · exact .inr (.inr fun y hy => List.mem_append_left _ (z y hy))
            · exact .inr (.inl (List.mem_append_right _ z))
          · intro x hx
            rw [take_snoc hl] at hx
            rcases List.mem_append.mp hx with z | z
            · exact List.mem_append_left _ (tk10 x z)
            · exact List.mem_append_right _ z
          · rw [List.length_append, List.length_append]
            rw [List.length_append] at hCl
            simp at hCl ⊢
            omega
      · rintro σ H10 ⟨y5, y6, y7, fs', ws'', L10, us10, rfl, e10, isr10, ham10, hms10, g10, op10, hus10, hall10, fnd10, fC10, wf10, sf10, wl10, cl10, tk10, hk10⟩
        rw [hml, List.take_length] at tk10
        refine ⟨_, hk10, _, _, _, _, _, fs', ws'', L10, us10, rfl, e10, g10, op10, hus10, hall10, fnd10, fC10, wf10, sf10, wl10, fun x hx => ?_, rfl⟩
        rcases cl10 x hx with z | z | z
        · exact .inr fun l hl => tk10 l ((hbs l).mpr (z ▸ hl))
        · exact .inl z
        · exact .inr z
    · -- the end
      have hne : ws = [] := by
        cases ws with
        | nil => rfl
        | cons a b => simp at hb
      subst hne
      have hall2 : ∀ g ∈ allC rows, g ∈ fs := FX.all (S := fun r => r ∈ fs) (hst ▸ sf) fC fun r hr => (cl r hr).resolve_left (fun z => nomatch z)
      exact ⟨_, rfl, q d H7 L fs (e6.trans e7) hdn (g6.ext e7) op6 fnd fun r => ⟨fC r, hall2 r⟩⟩
end
end K82
/-! _law_is_come_to. -/
namespace K82
open PySem PySem.Spec PyProof.Rows L2 Evl RZ

theorem req_nil {K : PySem.W.Frag} {H : Hp} {l l2 : Addr} {us : List V} {ks : List NK} {Q : VK} (hl : H l = some (.lst us)) (h2 : H l2 = some (.lst [])) (ha : IsAll H us ks) (hp : plainK.plainKs ks = true) (hd : NestedKey.depthAll ks ≤ 60) (q : Q (.bl (decide (ks = []))) H) : rEqD K (.ref l) (.ref l2) H Q := by
  refine ⟨.list (NestedKey.datas ks), .list (NestedKey.datas []), .lst (SqL.of hl) ha.dp, .lst (SqL.of h2) .nil, shaped_list hp hd, shaped_list rfl (by decide), ?_⟩
  rw [eqv_list]; exact q
theorem rgs_plain : ∀ l : List (Nat × Nat), plainK.plainKs (l.map rgM) = true ∧ NestedKey.depthAll (l.map rgM) ≤ 3
  | [] => ⟨rfl, by decide⟩
  | r :: l => by
    have ih := rgs_plain l
    refine ⟨?_, ?_⟩
    · show (plainK (rgM r) && plainK.plainKs (l.map rgM)) = true
      rw [plain_rg, ih.1]; rfl
    · show max (rgM r).depth (NestedKey.depthAll (l.map rgM)) ≤ 3
      have := depth_rg r
      have := ih.2
      omega
def two (a b : Bool) : Nat → Bool
  | 0 => a
  | _ => b
theorem gvn_two (a b : Bool) : decide (gvn 2 (two (!a) (!b)) (fun _ => NestedKey.num 1) = []) = (a && b) ∧ plainK.plainKs (gvn 2 (two (!a) (!b)) (fun _ => NestedKey.num 1)) = true ∧ NestedKey.depthAll (gvn 2 (two (!a) (!b)) (fun _ => NestedKey.num 1)) = 0 := by
  cases a <;> cases b <;> decide
section
variable {P : Program} {w : World} {K : PySem.W.Frag} {mg : Str → Option Value} {base : Heap}
abbrev nmLX : List Str := ["_law_plan", "_law_goal", "_law_here", "_law_lap", "_law_some", "_law_later", "_law_own", "_law_more", "_law_pair"]
theorem scLX : FnScope nmLX ["_law_plan", "_law_goal"] (defScope sLIs) := ⟨rfl, rfl, rfl, by decide +kernel, rfl, by decide +kernel, by decide +kernel⟩
def scIn : Scope := { kind := .function, names := [(".0", .local), ("_law_own", .local), ("_law_more", .cell)], isGenerator := false, isCoroutine := false, more := [] }
def spLX : Sp := fun vs H Q _ => ∃ (vp vg : V) (rows : List (List Nat)) (n : Nat) (g : Nat × Nat), vs = [vp, vg] ∧ Is H vp (planD rows) ∧ Good rows ∧ Facts rows n ∧ g ∈ allC rows ∧ Is H vg (rgM g) ∧ ∀ H', Ex H H' → Q (.bl true) H'
set_option maxHeartbeats 16000000 in
theorem ok_lis {f : Addr} {fd : FuncData} (F : Fun K "_law_is_come_to" "_law_is_come_to" sLIs f fd) (D1 : Df P w K mg base "regime_of" 6 ["plan", "waits", "drains"] spRegimeOf) (D2 : Df P w K mg base "more_regimes" 8 ["plan", "waits", "drains"] spMore) (mZ : mg "zip" = none) (mR : mg "range" = none) :
    FnOk P w K mg base CX0 9 f fd ["_law_plan", "_law_goal"] spLX := by
  refine F.ok scLX (fun vs H Q E h => ?_) (fun cdv A outer s H vs Q E hr h => ?_)
  · obtain ⟨_, _, _, _, _, rfl, _⟩ := h; rfl
  · obtain ⟨vp, vg, rows, n, g, rfl, hp, G, FX, hgC, ig, q⟩ := h
    have nd := scLX.nd
    refine ⟨_, pss_cons (ps_set (i := 2) nd rfl (Or.inl rfl) (pe_df D1 hr (by decide) (by rfl) (pa_cons (pv 0) (pa_cons (pe_tup pa_nil) (pa_cons (pe_tup pa_nil) pa_nil)))))
      (pss_cons (ps_for PassesOwn.never rfl (pi_range1 (by rfl) mR (pa_cons pe_int pa_nil)) (pg_name (i := 3) nd rfl (Or.inl rfl))
        (pss_cons (ps_set (i := 4) nd rfl (Or.inl rfl) (pe_lst pa_nil))
        (pss_cons (ps_for PassesOwn.never rfl (pi_tup (pe_df D2 hr (by decide) (by rfl) (pa_cons (pv 0) (pa_cons (pe_ix ix_tup (pv 2) pe_int (fun _ _ => rfl)) (pa_cons (pe_ix ix_tup (pv 2) pe_int (fun _ _ => rfl)) pa_nil))))) (pg_name (i := 5) nd rfl (Or.inl rfl))
          (pss_one (ps_if (pt_cmpR (op_eqD hr.units) (pe_lc (own := [("_law_own", 6), ("_law_more", 7)]) (g := gTup K 2 (gCons (gName 6) (gCons (gName 7) gNil))) rfl nd (RZ.pi_zipA (by rfl) mZ (pa_cons (pv 5) (pa_cons (pv 1) pa_nil))) (blkOk_by (N := nmLX) (sc := defScope sLIs) (by decide +kernel))
              (fun _ _ _ _ _ => pg_tupK K rfl (pg_tup rfl (pgs_cons (pg_name (i := 6) nd rfl (Or.inl rfl)) (pgs_cons (pg_name (i := 7) nd rfl (Or.inr rfl)) pgs_nil))))
              (fun _ _ _ _ _ => pts_one (pt_cmpR (op_neK K rfl hr.units) (pe_lc (own := [("_law_pair", 8)]) (g := gName 8) rfl nd (pi_tupK K rfl (pi_tup (pv 6))) (blkOk_by (N := nmLX) (sc := scIn) (by decide +kernel))
                (fun _ _ _ _ _ => pg_name (i := 8) nd rfl (Or.inl rfl)) (fun _ _ _ _ _ => pts_one (pt_cmpR (op_ninT2 K rfl (hu65 hr)) (pv 8) (pv 7) rfl)) (fun _ _ _ _ _ => pv 8)) (pe_lst pa_nil) (nomark _)))
              (fun _ _ _ _ _ => pe_int)) (pe_lst pa_nil) (nomark _))
            (pss_one (ps_expr (pe_bm PySem.F.plainAttrs_list PySem.F.slot_list_append PySem.F.type_list_append mt_append (pv 4) (pa_cons (pv 5) pa_nil)))) pss_nil)))
        (pss_one (ps_set (i := 2) nd rfl (Or.inl rfl) (pe_ifExp (pw_and (pt_cmpR (op_neD hr.units) (pv 4) (pe_lst pa_nil) (nomark _)) (pw_and1 (pt_cmpR (op_neD hr.units) (pv 2) (pv 1) (nomark _)))).pt (pe_ix ix_list (pv 4) pe_int (fun _ _ => rfl)) (pv 2)))))))
      (pss_one (ps_ret (pe_cmpR (op_eqD hr.units) (pv 2) (pv 1) (nomark _))))), ?_⟩
    have hgB := allC_bd FX hgC
    refine ⟨vp, rfl, Nat.zero_le _, fun t0 ht0 => ⟨Nat.zero_le _, fun t1 ht1 => ?_⟩⟩
    have e1 := (Ex.new ht0 (o := .tup [])).trans (Ex.new ht1 (o := .tup []))
    have z0 : Is (upd (upd H t0 (.tup [])) t1 (.tup [])) (.ref t0) (psM 0) := by rw [psM_zero]; exact .tup ((Ex.new ht1) _ _ upd_same) .nil
    have z1 : Is (upd (upd H t0 (.tup [])) t1 (.tup [])) (.ref t1) (psM 0) := by rw [psM_zero]; exact .tup upd_same .nil
    refine ⟨vp, .ref t0, .ref t1, rows, 0, 0, rfl, hp.ex e1, G, z0, z1, FX.ac0, wi_zero _, fun vs0 H2 e2 is0 => ?_⟩
    have e02 := e1.trans e2
    refine ⟨7, rfl, by decide, by decide, ?_⟩
    refine for_it (walk_rangeN (n := 7)) (fun i σ H3 => ∃ v2 y3 y4 y5 r, σ = [some vp, some vg, some v2, y3, y4, y5, none, none, none] ∧ Ex H H3 ∧ Is H3 v2 (rgM r) ∧ r ∈ allC rows ∧ within r g = true ∧ (r = g ∨ i ≤ rank rows r))
      ⟨vs0, none, none, none, _, rfl, e02, is0, FX.start, FX.least g hgC, .inr (Nat.zero_le _)⟩ (fun _ _ _ _ _ => trivial) ?_ ?_
    · rintro lap x0 σ H3 H3' hlap ⟨v2, y3, y4, y5, r, rfl, e3, ir, hrC, hrg, hri⟩ ⟨rfl, rfl⟩
      have hrB := allC_bd FX hrC
      refine ⟨Nat.zero_le _, fun ls hls => ?_⟩
      have e4 := e3.trans (Ex.new hls (o := .lst []))
      have ir4 := ir.ex (Ex.new hls (o := .lst []))
      have hls4 := upd_same (H := H3') (a := ls) (o := .lst [])
      have hlsn : H ls = none := fresh_back e3 hls
      generalize upd H3' ls (.lst []) = H4 at e4 ir4 hls4
      obtain ⟨ah, h1, h2, rfl, hah, ih1, ih2⟩ := rg_inv ir4
      refine ⟨vp, rfl, _, rfl, ah, _, 0, h1, rfl, rfl, SqT.of hah, atI_nat (j := 0) rfl, _, rfl, ah, _, 1, h2, rfl, rfl, SqT.of hah, atI_nat (j := 1) rfl, vp, h1, h2, rows, r.1, r.2, rfl, hp.ex e4, G, ih1, ih2, FX.ac r hrC, allC_wi FX hrC, fun vm H5 bs e5 im hbs hb200 => ?_⟩
      rw [FX.fix r hrC] at hbs
      obtain ⟨am, ms, rfl, ham, hms⟩ := im.tup_inv
      have hml : ms.length = bs.length := by rw [hms.length, List.length_map]
      have e05 := e4.trans e5
      refine ⟨am, rfl, ⟨ms, SqT.of ham⟩, ?_⟩
      refine for_tup (xs := ms) (fun i σ H6 => ∃ y5 ss us, σ = [some vp, some vg, some (.ref ah), some (.int (lap : Int)), some (.ref ls), y5, none, none, none] ∧ Ex H H6 ∧ Is H6 (.ref ah) (rgM r) ∧ H6 am = some (.tup ms) ∧ IsAll H6 ms (bs.map rgM) ∧ H6 ls = some (.lst us) ∧ IsAll H6 us (ss.map rgM) ∧ ss.length ≤ i ∧ (∀ b ∈ ss, b ∈ moreM rows r ∧ within b g = true) ∧ (∀ b ∈ bs.take i, within b g = true → b ∈ ss))
        ⟨y5, [], [], rfl, e05, ir4.ex e5, ham, hms, e5 _ _ hls4, .nil, Nat.zero_le _, fun b hb => (nomatch hb), fun b hb => by simp at hb⟩ (fun i σ H6 _ ⟨_, _, _, _, _, _, h, _⟩ => SqT.of h) ?_ ?_
      · rintro i x σ H6 hx ⟨y5, ss, us, rfl, e6, ir6, ham6, hms6, hus6, hall6, hsl, hss, htk⟩
        obtain ⟨l, hl, isl⟩ := enc_at (enc := rgM) hms6 hx
        have hlm : l ∈ moreM rows r := (hbs l).mp (List.mem_of_getElem? hl)
        have hil : i < bs.length := (List.getElem?_eq_some_iff.mp hl).1
        obtain ⟨hlC, _, _⟩ := FX.more r hrC l hlm
        have hlB := allC_bd FX hlC
        obtain ⟨al, l1, l2, rfl, hal, il1, il2⟩ := rg_inv isl
        obtain ⟨ag, g1, g2, rfl, hag, ig1, ig2⟩ := rg_inv (ig.ex e6)
        refine ⟨_, rfl, _, rfl, al, ag, [l1, l2], [g1, g2], rfl, .inr ⟨SqT.of hal, SqT.of hag, fun ln hln => ?_⟩⟩
        refine lc_data (walk_zipT (K := K) (n := 2) (xs := [l1, l2]) (ys := [g1, g2]) rfl) (two (!subD l.1 g.1) (!subD l.2 g.2)) (fun _ => .num 1) hln (by decide) (fun H7 e7 => ⟨SqT.of (e7 _ _ hal), SqT.of (e7 _ _ hag)⟩) ?_ ?_
        · rintro j z H7 H8 hj e7 y Q' kk
          obtain ⟨T, x1, x2, rfl, nT, e8, hT, q1, q2⟩ := ypair_is (K := K) y
          have e78 := e7.trans e8
          refine ⟨T, _, rfl, hT, rfl, _, _, rfl, _, _, rfl, rfl, ?_⟩
          match j, hj with
          | 0, _ =>
            cases q1; cases q2
            exact kk _ _ e8 rfl (et_sub (i := 6) (j := 8) (l := 7) rfl (il1.ex e78) (ig1.ex e78) (fun _ => rfl) (fun _ => rfl) (fun _ => rfl)) fun _ => evP_int
          | 1, _ =>
            cases q1; cases q2
            exact kk _ _ e8 rfl (et_sub (i := 6) (j := 8) (l := 7) rfl (il2.ex e78) (ig2.ex e78) (fun _ => rfl) (fun _ => rfl) (fun _ => rfl)) fun _ => evP_int
        intro H7 zs e7 hzs hallz
        obtain ⟨t1', t2', t3'⟩ := gvn_two (subD l.1 g.1) (subD l.2 g.2)
        refine ⟨Nat.zero_le _, fun l2' hl2' => req_nil ((Ex.new hl2') _ _ hzs) upd_same (hallz.ex (Ex.new hl2')) t2' (by rw [t3']; decide) ⟨_, rfl, ?_⟩⟩
        rw [t1', ← within_sub hlB]
        have e8 := e7.trans (Ex.new hl2' (o := .lst []))
        generalize upd H7 l2' (.lst []) = H8 at e8
        have hus8 := e8 _ _ hus6
        by_cases hw : within l g = true
        · rw [hw]
          refine iteT ?_
          have hul : us.length ≤ 200 := by
            have : us.length = ss.length := by rw [hall6.length, List.length_map]
            omega
          refine ⟨_, rfl, .inl ⟨rfl, us, SqL.of hus8⟩, _, rfl, ls, us, _, rfl, rfl, hus8, small1000 (by omega), ?_⟩
          have c9 : Chg ls H8 (upd H8 ls (.lst (us ++ [.ref al]))) := Chg.upd
          have tk9 : Tk H8 (upd H8 ls (.lst (us ++ [.ref al]))) := Chg.tku fun ys z => by rw [hus8] at z; cases z
          have tk := (Tk.ex e8).trans tk9
          refine ⟨_, ss ++ [l], _, rfl, c9.ex (e6.trans e8) hlsn, ir6.mv tk, tk _ _ ham6, hms6.mv tk, upd_same, ?_, by rw [List.length_append]; simp; omega, ?_, ?_⟩
          · rw [List.map_append]
            exact (hall6.mv tk).append (.one (isl.mv tk))
          · intro b hb
            rcases List.mem_append.mp hb with z | z
            · exact hss b z
            · rw [List.mem_singleton.mp z]; exact ⟨hlm, hw⟩
          · intro b hb hbw
            rw [take_snoc hl] at hb
            rcases List.mem_append.mp hb with z | z
            · exact List.mem_append_left _ (htk b z hbw)
            · exact List.mem_append_right _ z
        · rw [Bool.eq_false_iff.mpr hw]
          refine iteF ⟨_, ss, us, rfl, e6.trans e8, ir6.ex e8, e8 _ _ ham6, hms6.ex e8, hus8, hall6.ex e8, by omega, hss, fun b hb hbw => ?_⟩
          rw [take_snoc hl] at hb
          rcases List.mem_append.mp hb with z | z
          · exact htk b z hbw
          · rw [List.mem_singleton.mp z] at hbw; exact absurd hbw hw
      rintro σ H6 ⟨y5, ss, us, rfl, e6, ir6, ham6, hms6, hus6, hall6, hsl, hss, htk⟩
      rw [hml, List.take_length] at htk
      have htest : EvT (tAnd (tTest (tOp (rNeD K) (tVar 4) (tLst tNil))) (tTest (tOp (rNeD K) (tVar 2) (tVar 1)))) [some vp, some vg, some (.ref ah), some (.int (lap : Int)), some (.ref ls), y5, none, none, none] H6 ((!decide (ss.map rgM = [])) && (!decide (rgM r = rgM g))) :=
        et_and (et_neL rfl hus6 hall6 (rgs_plain ss).1 (Nat.le_trans (rgs_plain ss).2 (by decide))) fun _ H7 e7 Q7 q7 => ⟨_, rfl, _, rfl, rv_ne (ir6.ex e7) (ig.ex (e6.trans e7)) (plain_rg _) (plain_rg _) (Nat.le_trans (depth_rg _) (by decide)) (Nat.le_trans (depth_rg _) (by decide)) ⟨_, rfl, q7 _ (Ex.refl _)⟩⟩
      have hdec : decide (rgM r = rgM g) = decide (r = g) := by
        rw [Bool.eq_iff_iff, decide_eq_true_iff, decide_eq_true_iff]
        exact ⟨fun h => rgM_inj hrB hgB h, fun h => by rw [h]⟩
      rw [hdec] at htest
      refine htest H6 (Ex.refl _) _ fun H7 e7 => ?_
      cases ss with
      | nil =>
        refine iteF ⟨_, rfl, _, _, _, _, r, rfl, e6.trans e7, ir6.ex e7, hrC, hrg, ?_⟩
        by_cases he : r = g
        · exact .inl he
        · obtain ⟨l, hl, hlg⟩ := FX.go r hrC g hgC hrg he
          exact absurd (htk l ((hbs l).mpr hl) hlg) (by simp)
      | cons b ss =>
        by_cases he : r = g
        · rw [decide_eq_true he]
          exact iteF ⟨_, rfl, _, _, _, _, r, rfl, e6.trans e7, ir6.ex e7, hrC, hrg, .inl he⟩
        · rw [decide_eq_false he]
          refine iteT ?_
          have hall7 := hall6.ex e7
          cases us with
          | nil => have := hall6.length; simp at this
          | cons u us =>
            cases hall7 with
            | cons hu _ =>
              obtain ⟨hbm, hbw⟩ := hss b List.mem_cons_self
              obtain ⟨hbC, _, hrk⟩ := FX.more r hrC b hbm
              refine ⟨_, rfl, ls, _, 0, u, rfl, rfl, SqL.of (e7 _ _ hus6), atI_nat (j := 0) rfl, _, _, _, _, b, rfl, e6.trans e7, hu, hbC, hbw, .inr ?_⟩
              rcases hri with z | z
              · exact absurd z he
              · omega
    · rintro σ H3 ⟨v2, y3, y4, y5, r, rfl, e3, ir, hrC, hrg, hri⟩
      have hrg' : r = g := hri.resolve_right fun z => by have := FX.rk r hrC; omega
      subst hrg'
      refine ⟨_, rfl, _, rfl, rv_eqk ir (ig.ex e3) (plain_rg _) (plain_rg _) (Nat.le_trans (depth_rg _) (by decide)) (Nat.le_trans (depth_rg _) (by decide)) ?_⟩
      rw [decide_eq_true rfl]
      exact q _ e3
end
end K82
/-! What the law's own body needs. -/
namespace K82
open PySem PySem.Spec PyProof.Rows L2 Evl RZ

/-! sorted regimes -/
theorem toks_rg {a b : Nat × Nat} (ha : Bd a.1 ∧ Bd a.2) (hb : Bd b.1 ∧ Bd b.2) (h : PySem.W.keyToks (rgM a).data = PySem.W.keyToks (rgM b).data) : a = b := by
  have t := PySem.W.toks_eqv (rgM a).data (rgM b).data (alike_rg a b)
  cases e : PyData.eqv (rgM a).data (rgM b).data with
  | true =>
    rw [eqv_k] at e
    exact rgM_inj ha hb (of_decide_eq_true e)
  | false =>
    have q := t.2 e [] [.inl 0]
    rw [h, lex_irrefl, PySem.W.lex_pre] at q
    cases q
theorem sort_eq {l m : List (Nat × Nat)} (h : l.Perm m) (hb : ∀ r ∈ l, Bd r.1 ∧ Bd r.2) : sortB rgM l = sortB rgM m := by
  have e : (PySem.W.dataLe false fun r : Nat × Nat => (rgM r).data) = fun a b => !PySem.W.dataLt (rgM b).data (rgM a).data := PySem.W.dataLe_eq false _
  unfold sortB
  rw [e]
  have tr : ∀ a b c : Nat × Nat, (!PySem.W.dataLt (rgM b).data (rgM a).data) = true → (!PySem.W.dataLt (rgM c).data (rgM b).data) = true → (!PySem.W.dataLt (rgM c).data (rgM a).data) = true := fun a b c h1 h2 => by
    rw [Bool.not_eq_true'] at *
    cases h3 : PySem.W.dataLt (rgM c).data (rgM a).data with
    | false => rfl
    | true =>
      rcases lex_negTrans (O := itemOrd) _ (PySem.W.keyToks (rgM b).data) _ h3 with z | z
      · have z' : PySem.W.dataLt (rgM c).data (rgM b).data = true := z
        rw [h2] at z'; cases z'
      · have z' : PySem.W.dataLt (rgM b).data (rgM a).data = true := z
        rw [h1] at z'; cases z'
  have to : ∀ a b : Nat × Nat, ((!PySem.W.dataLt (rgM b).data (rgM a).data) || (!PySem.W.dataLt (rgM a).data (rgM b).data)) = true := fun a b => by
    cases h1 : PySem.W.dataLt (rgM b).data (rgM a).data with
    | false => rfl
    | true =>
      cases h2 : PySem.W.dataLt (rgM a).data (rgM b).data with
      | false => rfl
      | true =>
        have := lex_trans (O := itemOrd) _ _ _ h1 h2
        rw [lex_irrefl] at this; cases this
  have p1 := List.pairwise_mergeSort (le := fun a b : Nat × Nat => !PySem.W.dataLt (rgM b).data (rgM a).data) tr to l
  have p2 := List.pairwise_mergeSort (le := fun a b : Nat × Nat => !PySem.W.dataLt (rgM b).data (rgM a).data) tr to m
  refine List.Perm.eq_of_pairwise (le := fun a b : Nat × Nat => (!PySem.W.dataLt (rgM b).data (rgM a).data) = true) (fun a b ha hb' h1 h2 => ?_) p1 p2 (((List.mergeSort_perm l _).trans h).trans (List.mergeSort_perm m _).symm)
  rw [Bool.not_eq_true'] at h1 h2
  have hal := hb a ((List.mergeSort_perm l _).mem_iff.mp ha)
  have hbl := hb b (h.mem_iff.mpr ((List.mergeSort_perm m _).mem_iff.mp hb'))
  exact toks_rg hal hbl (lex_total (O := itemOrd) _ _ h2 h1)
/-- the keys as regimes -/
theorem OP.regs {L : List NK} {l : List (Nat × Nat)} (h : OP L (l.map some)) (nd : l.Nodup) (hb : ∀ r ∈ l, Bd r.1 ∧ Bd r.2) : ∃ bs : List (Nat × Nat), L = bs.map rgM ∧ bs.Perm l := by
  have ex : ∀ M : List NK, (∀ k ∈ M, ∃ r ∈ l, k = rgM r) → ∃ bs : List (Nat × Nat), M = bs.map rgM ∧ ∀ b ∈ bs, b ∈ l := by
    intro M
    induction M with
    | nil => exact fun _ => ⟨[], rfl, fun _ z => nomatch z⟩
    | cons k M ih =>
      intro hM
      obtain ⟨bs, e, hbs⟩ := ih fun k hk => hM k (List.mem_cons_of_mem _ hk)
      obtain ⟨r, hr, rfl⟩ := hM k List.mem_cons_self
      refine ⟨r :: bs, by rw [List.map_cons, e], fun b hb => ?_⟩
      rcases List.mem_cons.mp hb with rfl | hb
      · exact hr
      · exact hbs b hb
  obtain ⟨bs, rfl, hbs⟩ := ex L fun k hk => by
    obtain ⟨o, ho, e⟩ := (h.mem k).mp hk
    obtain ⟨r, hr, rfl⟩ := List.mem_map.mp ho
    exact ⟨r, hr, e⟩
  refine ⟨bs, rfl, (List.perm_ext_iff_of_nodup ((List.pairwise_map.mp h.nd).imp fun h e => h (congrArg rgM e)) nd).mpr fun r => ⟨hbs r, fun hr => ?_⟩⟩
  have : rgM r ∈ bs.map rgM := (h.mem _).mpr ⟨some r, List.mem_map_of_mem hr, rfl⟩
  obtain ⟨b, hb', e⟩ := List.mem_map.mp this
  rw [← rgM_inj (hb b (hbs b hb')) (hb r hr) e]
  exact hb'

/-! values by words that stay -/
abbrev VP := V → Hp → Prop
def Mo (p : VP) : Prop := ∀ v H H', Ex H H' → p v H → p v H'
inductive All2 (H : Hp) : List VP → List V → Prop
  | nil : All2 H [] []
  | cons {p : VP} {ps : List VP} {v : V} {vs : List V} : p v H → All2 H ps vs → All2 H (p :: ps) (v :: vs)
theorem All2.mo {H H' : Hp} (e : Ex H H') : ∀ {ps : List VP} {vs : List V}, (∀ p ∈ ps, Mo p) → All2 H ps vs → All2 H' ps vs
  | [], _, _, h => by cases h; exact .nil
  | p :: ps, _, m, h => by
    cases h with
    | cons h1 t => exact .cons (m p List.mem_cons_self _ _ _ e h1) (All2.mo e (fun q hq => m q (List.mem_cons_of_mem _ hq)) t)
theorem All2.length {H : Hp} : ∀ {ps : List VP} {vs : List V}, All2 H ps vs → vs.length = ps.length
  | [], _, h => by cases h; rfl
  | _ :: _, _, h => by
    cases h with
    | cons _ t => rw [List.length_cons, List.length_cons, t.length]
theorem All2.at_ {H : Hp} : ∀ {ps : List VP} {vs : List V} {i : Nat} {p : VP}, All2 H ps vs → ps[i]? = some p → ∃ v, vs[i]? = some v ∧ p v H
  | [], _, _, _, h, e => by simp at e
  | q :: ps, _, i, p, h, e => by
    cases h with
    | @cons _ _ v _ h1 t =>
      cases i with
      | zero => simp at e; subst e; exact ⟨v, rfl, h1⟩
      | succ j => simpa using All2.at_ t (by simpa using e)
def LstP (ps : List VP) : VP := fun v H => ∃ p vs, v = V.ref p ∧ H p = some (HO.lst vs) ∧ All2 H ps vs
theorem LstP.mo {ps : List VP} (h : ∀ p ∈ ps, Mo p) : Mo (LstP ps) := fun v H H' e ⟨p, vs, h1, h2, h3⟩ => ⟨p, vs, h1, e _ _ h2, h3.mo e h⟩
def isV (x : V) : VP := fun v _ => v = x
theorem isV.mo (x : V) : Mo (isV x) := fun _ _ _ _ h => h
def LI (l : List Nat) : VP := LstP (l.map fun (n : Nat) => isV (V.int (n : Int)))
theorem LI.mo (l : List Nat) : Mo (LI l) := LstP.mo fun p hp => by
  obtain ⟨n, _, rfl⟩ := List.mem_map.mp hp
  exact isV.mo _
def LLI (l : List (List Nat)) : VP := LstP (l.map LI)
theorem LLI.mo (l : List (List Nat)) : Mo (LLI l) := LstP.mo fun p hp => by
  obtain ⟨n, _, rfl⟩ := List.mem_map.mp hp
  exact LI.mo _
def LLLI (l : List (List (List Nat))) : VP := LstP (l.map LLI)
theorem LLLI.mo (l : List (List (List Nat))) : Mo (LLLI l) := LstP.mo fun p hp => by
  obtain ⟨n, _, rfl⟩ := List.mem_map.mp hp
  exact LLI.mo _
theorem ints_all2 {H : Hp} : ∀ {l : List Nat} {vs : List V}, All2 H (l.map fun (n : Nat) => isV (V.int (n : Int))) vs → vs = natsV l
  | [], _, h => by cases h; rfl
  | n :: l, _, h => by
    cases h with
    | cons h1 t =>
      have h1 : _ = V.int (n : Int) := h1
      rw [h1, ints_all2 t]; rfl
theorem LI.get {l : List Nat} {v : V} {H : Hp} (h : LI l v H) : ∃ p, v = .ref p ∧ H p = some (.lst (natsV l)) := by
  obtain ⟨p, vs, rfl, h2, h3⟩ := h
  rw [ints_all2 h3] at h2
  exact ⟨p, rfl, h2⟩
def EvQ (te : TE) (σ : L2.St) (H : Hp) (p : VP) : Prop := ∀ H1, Ex H H1 → ∀ Q : VK, (∀ v H2, Ex H1 H2 → p v H2 → Q v H2) → te σ H1 Q
def EvQs (ta : TA) (σ : L2.St) (H : Hp) (ps : List VP) : Prop := ∀ H1, Ex H H1 → ∀ Q : List V → Hp → Prop, (∀ vs H2, Ex H1 H2 → All2 H2 ps vs → Q vs H2) → ta σ H1 Q
section
variable {σ : L2.St} {H : Hp}
theorem evq_var {i : Nat} {v : V} (h : σ[i]? = some (some v)) : EvQ (tVar i) σ H (isV v) := fun H1 _ _ q => ⟨v, h, q v H1 (Ex.refl _) rfl⟩
theorem evqs_nil : EvQs tNil σ H [] := fun H1 _ _ q => q [] H1 (Ex.refl _) .nil
theorem evqs_cons {ta : TE} {tr : TA} {p : VP} {ps : List VP} (h : EvQ ta σ H p) (m : Mo p) (hr : EvQs tr σ H ps) : EvQs (tCons ta tr) σ H (p :: ps) := fun H1 e Q q =>
  h H1 e _ fun v H2 e2 hv => hr H2 (e.trans e2) _ fun vs H3 e3 hvs => q (v :: vs) H3 (e2.trans e3) (.cons (m _ _ _ e3 hv) hvs)
theorem evq_lst {ta : TA} {ps : List VP} (h : EvQs ta σ H ps) (m : ∀ p ∈ ps, Mo p) (hl : ps.length ≤ 100000) : EvQ (tLst ta) σ H (LstP ps) := fun H1 e Q q =>
  h H1 e _ fun vs H2 e2 hvs => ⟨sz_of (by rw [hvs.length]; exact hl), fun p hp => q (.ref p) _ (e2.trans (Ex.new hp)) ⟨p, vs, rfl, upd_same, hvs.mo (Ex.new hp) m⟩⟩
theorem evqs_int {ta : TE} {tr : TA} {n : Nat} {l : List Nat} (h : EvQ ta σ H (isV (V.int (n : Int)))) (hr : EvQs tr σ H (l.map fun (n : Nat) => isV (V.int (n : Int)))) : EvQs (tCons ta tr) σ H ((n :: l).map fun (n : Nat) => isV (V.int (n : Int))) := evqs_cons h (isV.mo _) hr
theorem evq_li {ta : TA} {l : List Nat} (h : EvQs ta σ H (l.map fun (n : Nat) => isV (V.int (n : Int)))) (hl : l.length ≤ 100000) : EvQ (tLst ta) σ H (LI l) := evq_lst h (fun p hp => by obtain ⟨n, _, rfl⟩ := List.mem_map.mp hp; exact isV.mo _) (by rw [List.length_map]; exact hl)
theorem evqs_li {ta : TE} {tr : TA} {n : List Nat} {l : List (List Nat)} (h : EvQ ta σ H (LI n)) (hr : EvQs tr σ H (l.map LI)) : EvQs (tCons ta tr) σ H ((n :: l).map LI) := evqs_cons h (LI.mo _) hr
theorem evq_lli {ta : TA} {l : List (List Nat)} (h : EvQs ta σ H (l.map LI)) (hl : l.length ≤ 100000) : EvQ (tLst ta) σ H (LLI l) := evq_lst h (fun p hp => by obtain ⟨n, _, rfl⟩ := List.mem_map.mp hp; exact LI.mo _) (by rw [List.length_map]; exact hl)
theorem evqs_lli {ta : TE} {tr : TA} {n : List (List Nat)} {l : List (List (List Nat))} (h : EvQ ta σ H (LLI n)) (hr : EvQs tr σ H (l.map LLI)) : EvQs (tCons ta tr) σ H ((n :: l).map LLI) := evqs_cons h (LLI.mo _) hr
theorem evq_llli {ta : TA} {l : List (List (List Nat))} (h : EvQs ta σ H (l.map LLI)) (hl : l.length ≤ 100000) : EvQ (tLst ta) σ H (LLLI l) := evq_lst h (fun p hp => by obtain ⟨n, _, rfl⟩ := List.mem_map.mp hp; exact LLI.mo _) (by rw [List.length_map]; exact hl)
end
section
variable {X : Cx}
theorem call_tuple_ofK (K : PySem.W.Frag) (hK : X.K = K) : CallR X (.type "tuple") (fun xs H Q => ∃ p ys, xs = [.ref p] ∧ ((SqL K H p ys ∧ ∀ l, H l = none → Q (.ref l) (upd H l (.tup ys))) ∨ (SqT K H p ys ∧ Q (.ref p) H))) := hK ▸ call_tuple_of
theorem pi_listK (K : PySem.W.Frag) (hK : X.K = K) {tg e : Expr} {tl : TE} (h : PI X tg e (iList X.K tl)) : PI X tg e (iList K tl) := hK ▸ h
end
theorem cut_two (xs : List V) : cutV xs none (some 2) = xs.take 2 := by
  unfold cutV
  rw [HT.sIx_none, show HT.sIx xs.length xs.length (some 2) = min 2 xs.length from HT.sIx_nat xs.length xs.length 2, List.drop_zero, Nat.sub_zero, ← List.take_eq_take_min]
def shapes (a : Nat) : List (List (List Nat)) := [rowsAt a 0, rowsAt a 1, rowsAt a 2, rowsAt a 3, rowsAt a 4, rowsAt a 5]
theorem shapes_at {a t : Nat} (ht : t < 6) : (shapes a)[t]? = some (rowsAt a t) := by
  match t, ht with
  | 0, _ => rfl
  | 1, _ => rfl
  | 2, _ => rfl
  | 3, _ => rfl
  | 4, _ => rfl
  | 5, _ => rfl
theorem rows_good : ∀ a, a < 10 → ∀ t, t < 6 → (rowsAt a t).flatten.Nodup ∧ (∀ n ∈ (rowsAt a t).flatten, n < 10) ∧ (rowsAt a t).length ≤ 10 ∧ (rowsAt a t).flatten.length ≤ 3 := by decide +kernel
def nums : List Nat := [1, 5, 2, 5, 25, 67]
theorem nums_at {t : Nat} (ht : t < 6) : nums[t]? = some (numAt t) := by
  match t, ht with
  | 0, _ => rfl
  | 1, _ => rfl
  | 2, _ => rfl
  | 3, _ => rfl
  | 4, _ => rfl
  | 5, _ => rfl
theorem num_le {t : Nat} (ht : t < 6) : numAt t ≤ 67 := by
  match t, ht with
  | 0, _ => decide
  | 1, _ => decide
  | 2, _ => decide
  | 3, _ => decide
  | 4, _ => decide
  | 5, _ => decide
end K82
/-! The law. -/
namespace K82
open PySem PySem.Spec PyProof.Rows L2 Evl RZ

theorem rne_list {K : PySem.W.Frag} {H : Hp} {l l2 : Addr} {us us2 : List V} {ks js : List NK} {Q : VK} (hl : H l = some (.lst us)) (h2 : H l2 = some (.lst us2)) (ha : IsAll H us ks) (hb : IsAll H us2 js) (hp : plainK.plainKs ks = true) (hd : NestedKey.depthAll ks ≤ 60) (hp2 : plainK.plainKs js = true) (hd2 : NestedKey.depthAll js ≤ 60) (q : Q (.bl (!decide (ks = js))) H) : rNeD K (.ref l) (.ref l2) H Q := by
  refine ⟨.list (NestedKey.datas ks), .list (NestedKey.datas js), .lst (SqL.of hl) ha.dp, .lst (SqL.of h2) hb.dp, shaped_list hp hd, shaped_list hp2 hd2, ?_⟩
  rw [eqv_list]; exact q
section
variable {σ : L2.St} {H : Hp}
theorem li1 {t : TE} {n : Nat} (h : EvQ t σ H (isV (V.int (n : Int)))) : EvQ (tLst (tCons t tNil)) σ H (LI [n]) :=
  evq_li (l := [n]) (evqs_cons h (isV.mo _) evqs_nil) (by show 1 ≤ 100000; decide)
theorem li2 {t u : TE} {n m : Nat} (h : EvQ t σ H (isV (V.int (n : Int)))) (k : EvQ u σ H (isV (V.int (m : Int)))) : EvQ (tLst (tCons t (tCons u tNil))) σ H (LI [n, m]) :=
  evq_li (l := [n, m]) (evqs_cons h (isV.mo _) (evqs_cons k (isV.mo _) evqs_nil)) (by show 2 ≤ 100000; decide)
theorem li3 {t u v : TE} {n m k : Nat} (h : EvQ t σ H (isV (V.int (n : Int)))) (h2 : EvQ u σ H (isV (V.int (m : Int)))) (h3 : EvQ v σ H (isV (V.int (k : Int)))) : EvQ (tLst (tCons t (tCons u (tCons v tNil)))) σ H (LI [n, m, k]) :=
  evq_li (l := [n, m, k]) (evqs_cons h (isV.mo _) (evqs_cons h2 (isV.mo _) (evqs_cons h3 (isV.mo _) evqs_nil))) (by show 3 ≤ 100000; decide)
theorem lli1 {t : TE} {n : List Nat} (h : EvQ t σ H (LI n)) : EvQ (tLst (tCons t tNil)) σ H (LLI [n]) :=
  evq_lli (l := [n]) (evqs_cons h (LI.mo _) evqs_nil) (by show 1 ≤ 100000; decide)
theorem lli2 {t u : TE} {n m : List Nat} (h : EvQ t σ H (LI n)) (k : EvQ u σ H (LI m)) : EvQ (tLst (tCons t (tCons u tNil))) σ H (LLI [n, m]) :=
  evq_lli (l := [n, m]) (evqs_cons h (LI.mo _) (evqs_cons k (LI.mo _) evqs_nil)) (by show 2 ≤ 100000; decide)
theorem lli3 {t u v : TE} {n m k : List Nat} (h : EvQ t σ H (LI n)) (h2 : EvQ u σ H (LI m)) (h3 : EvQ v σ H (LI k)) : EvQ (tLst (tCons t (tCons u (tCons v tNil)))) σ H (LLI [n, m, k]) :=
  evq_lli (l := [n, m, k]) (evqs_cons h (LI.mo _) (evqs_cons h2 (LI.mo _) (evqs_cons h3 (LI.mo _) evqs_nil))) (by show 3 ≤ 100000; decide)
theorem llli6 {t1 t2 t3 t4 t5 t6 : TE} {l1 l2 l3 l4 l5 l6 : List (List Nat)} (h1 : EvQ t1 σ H (LLI l1)) (h2 : EvQ t2 σ H (LLI l2)) (h3 : EvQ t3 σ H (LLI l3)) (h4 : EvQ t4 σ H (LLI l4)) (h5 : EvQ t5 σ H (LLI l5)) (h6 : EvQ t6 σ H (LLI l6)) :
    EvQ (tLst (tCons t1 (tCons t2 (tCons t3 (tCons t4 (tCons t5 (tCons t6 tNil))))))) σ H (LLLI [l1, l2, l3, l4, l5, l6]) :=
  evq_llli (l := [l1, l2, l3, l4, l5, l6]) (evqs_cons h1 (LLI.mo _) (evqs_cons h2 (LLI.mo _) (evqs_cons h3 (LLI.mo _) (evqs_cons h4 (LLI.mo _) (evqs_cons h5 (LLI.mo _) (evqs_cons h6 (LLI.mo _) evqs_nil)))))) (by show 6 ≤ 100000; decide)
theorem rows_ev {ta tb tc : TE} {a b c : Nat} (ha : EvQ ta σ H (isV (V.int (a : Int)))) (hb : EvQ tb σ H (isV (V.int (b : Int)))) (hc : EvQ tc σ H (isV (V.int (c : Int)))) :
    EvQ (tLst (tCons (tLst (tCons (tLst (tCons ta tNil)) tNil)) (tCons (tLst (tCons (tLst (tCons ta tNil)) (tCons (tLst (tCons tb tNil)) tNil))) (tCons (tLst (tCons (tLst (tCons ta (tCons tb tNil))) tNil)) (tCons (tLst (tCons (tLst (tCons ta (tCons tb (tCons tc tNil)))) tNil))
      (tCons (tLst (tCons (tLst (tCons ta (tCons tb tNil))) (tCons (tLst (tCons tc tNil)) tNil))) (tCons (tLst (tCons (tLst (tCons ta tNil)) (tCons (tLst (tCons tb tNil)) (tCons (tLst (tCons tc tNil)) tNil)))) tNil))))))) σ H
      (LLLI [[[a]], [[a], [b]], [[a, b]], [[a, b, c]], [[a, b], [c]], [[a], [b], [c]]]) :=
  llli6 (lli1 (li1 ha)) (lli2 (li1 ha) (li1 hb)) (lli1 (li2 ha hb)) (lli1 (li3 ha hb hc)) (lli2 (li2 ha hb) (li1 hc)) (lli3 (li1 ha) (li1 hb) (li1 hc))
end
theorem q_asgQ {te : TE} {i : Nat} {tz : TS} {D : Ends} {σ : L2.St} {H : Hp} {p : VP} (h : EvQ te σ H p) (k : ∀ v H1, Ex H H1 → p v H1 → tz D (σ.set i (some v)) H1) : tSeq (tAsg te (gName i)) tz D σ H := h H (Ex.refl H) _ fun v H1 e hv => k v H1 e hv
theorem natsV_app (l m : List Nat) : natsV (l ++ m) = natsV l ++ natsV m := by unfold natsV; rw [List.map_append]
section
variable {P : Program} {w : World} {K : PySem.W.Frag} {mg : Str → Option Value} {base : Heap}
abbrev nmLaw : List Str := ["_law_script", "_law_cells", "_law_at", "_law_a", "_law_b", "_law_c", "_law_rows", "_law_numbers", "_law_end", "_law_option", "_law_row", "_law_signs", "_law_names", "_law_plan", "_law_due", "_law_goals", "_law_cell", "_law_name", "_law_lap", "_law_goal"]
theorem scLaw : FnScope nmLaw ["_law_script"] (defScope sLaw) := ⟨rfl, rfl, rfl, by decide +kernel, rfl, by decide +kernel, by decide +kernel⟩
def scSig : Scope := { kind := .function, names := [(".0", .local), ("_law_row", .local), ("tuple", .globalImplicit)], isGenerator := false, isCoroutine := false, more := [] }
def spLaw (K : PySem.W.Frag) : Sp := fun vs H Q _ => ∃ (a : Addr) (ns : List Int), vs = [.ref a] ∧ SqL K H a (ns.map V.int) ∧ ns.length ≤ 63 ∧ ∀ H', Q (.bl true) H'
set_option maxHeartbeats 32000000 in
theorem ok_law {f : Addr} {fd : FuncData} (F : Fun K "law" "law" sLaw f fd) (FA : ∀ a, a < 10 → ∀ t, t < 6 → Facts (rowsAt a t) (numAt t))
    (DA : Df P w K mg base "_law_all_closed" 4 ["_law_plan", "_law_names"] (spLAll w)) (DK' : Df P w K mg base "_law_all_come_to" 9 ["_law_plan"] (spLK w)) (DX : Df P w K mg base "_law_is_come_to" 9 ["_law_plan", "_law_goal"] spLX)
    (mR : mg "range" = none) (mI : mg "int" = none) (mB : mg "abs" = none) (mS : mg "sorted" = none) (mE : mg "set" = none) (mT : mg "tuple" = none) (mN : mg "len" = none) : FnOk P w K mg base CX0 10 f fd ["_law_script"] (spLaw K) := by
  refine F.ok scLaw (fun vs H Q E h => ?_) (fun cdv A outer s H vs Q E hr h => ?_)
  · obtain ⟨_, _, rfl, _⟩ := h; rfl
  · obtain ⟨a, ns, rfl, hS, hlen, q⟩ := h
    have nd := scLaw.nd
    refine ⟨_, pss_cons (ps_set (i := 1) nd rfl (Or.inr rfl) (pe_op op_cat (pe_lc (own := [("_law_cell", 16)]) (g := gName 16) (tt := tYes) rfl nd (pi_list (pe_slice sl_list (pv 0) po_none (po_some pe_int))) (blkOk_by (N := nmLaw) (sc := defScope sLaw) (by decide +kernel))
          (fun _ _ _ _ _ => pg_name (i := 16) nd rfl (Or.inl rfl)) (fun _ _ _ _ _ => pts_nil) (fun _ _ _ _ _ => pe_callB call_abs (by rfl) mB (by decide +kernel) (pa_cons (pe_callTy call_int1 (by rfl) mI (by decide +kernel) (pa_cons (pv 16) pa_nil)) pa_nil))) (pe_lst (pa_cons pe_int (pa_cons pe_int pa_nil)))))
      (pss_cons (ps_asg (pe_lc (own := [("_law_at", 2)]) (g := gName 2) (tt := tYes) rfl nd (pi_range1 (by rfl) mR (pa_cons pe_int pa_nil)) (blkOk_by (N := nmLaw) (sc := defScope sLaw) (by decide +kernel))
          (fun _ _ _ _ _ => pg_name (i := 2) nd rfl (Or.inl rfl)) (fun _ _ _ _ _ => pts_nil) (fun _ _ _ _ _ => pe_op op_mod (pe_callTy call_int1 (by rfl) mI (by decide +kernel) (pa_cons (pe_op op_add (pe_ix (ix_listK K rfl) (pv 1) pe_int (fun _ _ => rfl)) (pe_op op_mul pe_int (pv 2))) pa_nil)) pe_int))
          (pg_unl rfl (pgs_cons (pg_name (i := 3) nd rfl (Or.inl rfl)) (pgs_cons (pg_name (i := 4) nd rfl (Or.inl rfl)) (pgs_cons (pg_name (i := 5) nd rfl (Or.inl rfl)) pgs_nil)))))
      (pss_cons (ps_set (i := 6) nd rfl (Or.inl rfl) (pe_lst (pa_cons (pe_lst (pa_cons (pe_lst (pa_cons (pv 3) pa_nil)) pa_nil)) (pa_cons (pe_lst (pa_cons (pe_lst (pa_cons (pv 3) pa_nil)) (pa_cons (pe_lst (pa_cons (pv 4) pa_nil)) pa_nil))) (pa_cons (pe_lst (pa_cons (pe_lst (pa_cons (pv 3) (pa_cons (pv 4) pa_nil))) pa_nil))
          (pa_cons (pe_lst (pa_cons (pe_lst (pa_cons (pv 3) (pa_cons (pv 4) (pa_cons (pv 5) pa_nil)))) pa_nil)) (pa_cons (pe_lst (pa_cons (pe_lst (pa_cons (pv 3) (pa_cons (pv 4) pa_nil))) (pa_cons (pe_lst (pa_cons (pv 5) pa_nil)) pa_nil))) (pa_cons (pe_lst (pa_cons (pe_lst (pa_cons (pv 3) pa_nil)) (pa_cons (pe_lst (pa_cons (pv 4) pa_nil)) (pa_cons (pe_lst (pa_cons (pv 5) pa_nil)) pa_nil)))) pa_nil))))))))
      (pss_cons (ps_par3 (i := 7) (j := 8) (l := 9) rfl nd rfl rfl rfl (by decide) (by decide) (by decide) rfl rfl rfl (pa_cons (pe_lst (pa_cons pe_int (pa_cons pe_int (pa_cons pe_int (pa_cons pe_int (pa_cons pe_int (pa_cons pe_int pa_nil))))))) (pa_cons (pe_tup (pa_cons (pe_tup (pa_cons pe_str (pa_cons pe_str pa_nil))) pa_nil))
          (pa_cons (pe_op op_mod (pe_callTy call_int1 (by rfl) mI (by decide +kernel) (pa_cons (pe_ix ix_list (pv 1) pe_int (fun _ _ => rfl)) pa_nil)) pe_int) pa_nil))) rfl)
      (pss_cons (ps_for PassesOwn.never rfl (pi_list (pe_callB (cr_sortedSet rfl) (by rfl) mS (by decide +kernel) (pa_cons (pe_callTy (call_setI rfl) (by rfl) mE (by decide +kernel) (pa_cons (pe_lst (pa_cons pe_int (pa_cons pe_int (pa_cons pe_int (pa_cons (pv 9) pa_nil))))) pa_nil)) pa_nil))) (pg_name (i := 2) nd rfl (Or.inl rfl))
        (pss_cons (ps_set (i := 11) nd rfl (Or.inl rfl) (pe_callTy call_tuple_of (by rfl) mT (by decide +kernel) (pa_cons (pe_lc (own := [("_law_row", 10)]) (g := gName 10) (tt := tYes) rfl nd (pi_list (pe_ix ix_list (pv 6) (pv 2) (fun _ _ => rfl))) (blkOk_by (N := nmLaw) (sc := defScope sLaw) (by decide +kernel))
            (fun _ _ _ _ _ => pg_name (i := 10) nd rfl (Or.inl rfl)) (fun _ _ _ _ _ => pts_nil) (fun _ _ _ _ _ => pe_tup (pa_cons pe_int (pa_cons (pe_callTy (call_tuple_ofK K rfl) (by rfl) mT (by decide +kernel) (pa_cons
              (pe_lc (own := [("_law_name", 17)]) (g := gName 17) (tt := tYes) rfl nd (pi_listK K rfl (pi_list (pv 10))) (blkOk_by (N := nmLaw) (sc := scSig) (by decide +kernel)) (fun _ _ _ _ _ => pg_name (i := 17) nd rfl (Or.inl rfl)) (fun _ _ _ _ _ => pts_nil) (fun _ _ _ _ _ => pe_tup (pa_cons (pv 17) (pa_cons pe_int pa_nil)))) pa_nil)) pa_nil)))) pa_nil)))
        (pss_cons (ps_set (i := 12) nd rfl (Or.inl rfl) (pe_lst pa_nil))
        (pss_cons (ps_for PassesOwn.never rfl (pi_list (pe_ix ix_list (pv 6) (pv 2) (fun _ _ => rfl))) (pg_name (i := 10) nd rfl (Or.inl rfl)) (pss_one (ps_expr (pe_bm PySem.F.plainAttrs_list PySem.F.slot_list_extend PySem.F.type_list_extend mt_extend (pv 12) (pa_cons (pv 10) pa_nil)))))
        (pss_cons (ps_set (i := 13) nd rfl (Or.inr rfl) (pe_tup (pa_cons (pv 11) (pa_cons (pe_tup (pa_cons pe_int pa_nil)) (pa_cons (pv 8) pa_nil)))))
        (pss_cons (ps_set (i := 14) nd rfl (Or.inr rfl) (pe_callB (call_sortD rfl (huS hr) rgM) (by rfl) mS (by decide +kernel) (pa_cons (pe_df DA hr (by decide) (by rfl) (pa_cons (pv 13) (pa_cons (pv 12) pa_nil))) pa_nil)))
        (pss_cons (ps_if (pt_cmpR op_ne (pe_callB call_len_seq (by rfl) mN PySem.boot_len (pa_cons (pv 14) pa_nil)) (pe_ix ix_list (pv 7) (pv 2) (fun _ _ => rfl)) rfl) (pss_one (ps_ret pe_bl)) pss_nil)
        (pss_one (ps_if (pt_cmpR op_eq (pv 2) pe_int (nomark _))
          (pss_cons (ps_setLc (i := 15) (own := [("_law_lap", 18)]) (g := gName 18) (tt := tYes) rfl nd rfl rfl (sw_true rfl rfl rfl (by decide +kernel)) (pi_range1 (by rfl) mR (pa_cons pe_int pa_nil)) (blkOk_by (N := nmLaw) (sc := defScope sLaw) (by decide +kernel))
              (fun _ _ _ _ _ => pg_name (i := 18) nd rfl (Or.inl rfl)) (fun _ _ _ _ _ => pts_nil)
              (fun _ _ _ _ _ => pe_ix (ix_listK K rfl) (pv 14) (pe_op op_mod (pe_callTy call_int1 (by rfl) mI (by decide +kernel) (pa_cons (pe_op op_add (pe_ix (ix_listK K rfl) (pv 1) pe_int (fun _ _ => rfl)) (pe_op op_mul pe_int (pv 18))) pa_nil)) pe_int) (fun _ _ => rfl)))
          (pss_one (ps_if (pt_cmpR (op_neD hr.units) (pe_lc (own := [("_law_goal", 19)]) (g := gName 19) rfl nd (pi_list (pv 15)) (blkOk_by (N := nmLaw) (sc := defScope sLaw) (by decide +kernel)) (fun _ _ _ _ _ => pg_name (i := 19) nd rfl (Or.inl rfl))
              (fun _ _ _ _ _ => pts_one (pt_not (pt_val (pe_df DX hr (by decide) (by rfl) (pa_cons (pv 13) (pa_cons (pv 19) pa_nil)))))) (fun _ _ _ _ _ => pv 19)) (pe_lst pa_nil) (nomark _)) (pss_one (ps_ret pe_bl)) pss_nil)))
          (pss_one (ps_if (pt_cmpR (op_neD hr.units) (pe_callB (call_sortD rfl (huS hr) rgM) (by rfl) mS (by decide +kernel) (pa_cons (pe_orG (pe_df DK' hr (by decide) (by rfl) (pa_cons (pv 13) pa_nil))) pa_nil)) (pv 14) (nomark _)) (pss_one (ps_ret pe_bl)) pss_nil)))))))))))
      (pss_one (ps_ret pe_bl)))))), ?_⟩
    -- cells
    refine ⟨_, rfl, 2, rfl, a, ns.map V.int, rfl, hS, fun p1 hp1 => ⟨p1, rfl, ⟨_, SqL.of upd_same⟩, fun l1 hl1 => ?_⟩⟩
    have hp1' := upd_same (H := H) (a := p1) (o := .lst (cutV (ns.map V.int) none (some 2)))
    have e1 := Ex.new hp1 (o := .lst (cutV (ns.map V.int) none (some 2)))
    have hct : cutV (ns.map V.int) none (some 2) = (ns.take 2).map V.int := by rw [cut_two, List.map_take]
    have hcl : (cutV (ns.map V.int) none (some 2)).length = (ns.take 2).length := by rw [hct, List.length_map]
    refine lc_vals (walk_list (K := K) (a := p1) (xs := cutV (ns.map V.int) none (some 2))) (fun _ => true) (fun i => V.int ((((ns.take 2)[i]?.getD 0).natAbs : Nat) : Int)) hl1 (by rw [hcl, List.length_take]; omega) (fun H2 e2 => SqL.of (e2 _ _ hp1')) ?_ ?_
    · rintro i x H2 H2' hi e2 ⟨rfl, hx⟩ Q' kk
      rw [hct, List.getElem?_map] at hx
      obtain ⟨n, hn, rfl⟩ : ∃ n, (ns.take 2)[i]? = some n ∧ x = V.int n := by
        cases e : (ns.take 2)[i]? with
        | none => rw [e] at hx; cases hx
        | some n => rw [e] at hx; exact ⟨n, rfl, (Option.some.inj hx).symm⟩
      refine kk _ _ (Ex.refl _) rfl etYes fun _ H3 e3 Q3 q3 => ⟨_, rfl, .inl ⟨n, rfl, n, rfl, ?_⟩⟩
      have he : (if n < 0 then -n else n) = ((((ns.take 2)[i]?.getD 0).natAbs : Nat) : Int) := by
        rw [hn]
        show _ = ((n.natAbs : Nat) : Int)
        split <;> omega
      rw [he]
      exact q3 _ (Ex.refl _)
    intro H2 e2 hl2
    have hA : given (cutV (ns.map V.int) none (some 2)).length (fun _ => true) (fun i => V.int ((((ns.take 2)[i]?.getD 0).natAbs : Nat) : Int)) = natsV ((ns.take 2).map Int.natAbs) := by
      rw [given_all, hcl]
      refine List.ext_getElem? fun i => ?_
      unfold natsV
      rw [List.getElem?_map, List.getElem?_map, List.getElem?_map]
      by_cases hi : i < (ns.take 2).length
      · rw [List.getElem?_range hi]
        show some (V.int ((((ns.take 2)[i]?.getD 0).natAbs : Nat) : Int)) = _
        rw [List.getElem?_eq_getElem hi]; rfl
      · rw [List.getElem?_eq_none (by rw [List.length_range]; omega), List.getElem?_eq_none (by omega)]; rfl
    rw [hA] at hl2
    refine ⟨by show 2 ≤ sizeLine; decide, fun l2 hl2' => ?_⟩
    have e3 := Ex.new hl2' (o := .lst [.int 0, .int 1])
    refine ⟨l1, l2, _, _, rfl, rfl, e3 _ _ hl2, upd_same, by
      unfold natsV
      rw [List.length_map, List.length_map, List.length_take]
      exact sz_of (by show min 2 ns.length + 2 ≤ 100000; omega), fun lc hlc => ?_⟩
    have hcs : natsV ((ns.take 2).map Int.natAbs) ++ [V.int 0, V.int 1] = natsV ((ns.take 2).map Int.natAbs ++ [0, 1]) := by rw [natsV_app]; rfl
    rw [hcs]
    have hlen2 : 2 ≤ ((ns.take 2).map Int.natAbs ++ [0, 1]).length := by rw [List.length_append]; show 2 ≤ _ + 2; omega
    generalize (ns.take 2).map Int.natAbs ++ [0, 1] = cs at hlen2
    obtain ⟨c0, hc0⟩ : ∃ c0, cs[0]? = some c0 := ⟨cs[0], List.getElem?_eq_getElem (by omega)⟩
    obtain ⟨c1, hc1⟩ : ∃ c1, cs[1]? = some c1 := ⟨cs[1], List.getElem?_eq_getElem (by omega)⟩
    have hv0 : (natsV cs)[0]? = some (.int (c0 : Int)) := by unfold natsV; rw [List.getElem?_map, hc0]; rfl
    have hv1 : (natsV cs)[1]? = some (.int (c1 : Int)) := by unfold natsV; rw [List.getElem?_map, hc1]; rfl
    have hlc3 := upd_same (H := upd H2 l2 (.lst [.int 0, .int 1])) (a := lc) (o := .lst (natsV cs))
    generalize upd (upd H2 l2 (.lst [.int 0, .int 1])) lc (.lst (natsV cs)) = H3 at hlc3
    -- a, b, c
    have h10 : c0 % 10 < 10 := Nat.mod_lt _ (by decide)
    refine ⟨3, rfl, by decide, by decide, fun l3 hl3 => ?_⟩
    refine lc_vals (walk_rangeN (n := 3)) (fun _ => true) (fun i => V.int (((c0 % 10 + 3 * i) % 10 : Nat) : Int)) hl3 (by decide) (fun _ _ => trivial) ?_ ?_
    · rintro i x H4 H4' hi e4 ⟨rfl, rfl⟩ Q' kk
      refine kk _ _ (Ex.refl _) rfl etYes fun _ H5 e5 Q5 q5 => ?_
      refine ⟨_, rfl, lc, _, 0, _, rfl, rfl, SqL.of (e5 _ _ (e4 _ _ hlc3)), atI_nat (j := 0) hv0, _, rfl, 3, (i : Int), rfl, rfl, .inl (by decide), _, _, rfl, rfl, .inl ⟨_, rfl, _, 10, rfl, rfl, by show (0 : Int) < 10; decide, ?_⟩⟩
      have he : ((c0 : Int) + 3 * (i : Int)) % 10 = (((c0 % 10 + 3 * i) % 10 : Nat) : Int) := by omega
      show Q5 (V.int (((c0 : Int) + 3 * (i : Int)) % 10)) H5
      rw [he]
      exact q5 _ (Ex.refl _)
    intro H4 e4 hl4
    have hl4' : H4 l3 = some (.lst [.int ((c0 % 10 : Nat) : Int), .int (((c0 % 10 + 3) % 10 : Nat) : Int), .int (((c0 % 10 + 6) % 10 : Nat) : Int)]) := by
      rw [hl4, given_all]
      show some (HO.lst [V.int (((c0 % 10 + 3 * 0) % 10 : Nat) : Int), V.int (((c0 % 10 + 3 * 1) % 10 : Nat) : Int), V.int (((c0 % 10 + 3 * 2) % 10 : Nat) : Int)]) = _
      rw [show (c0 % 10 + 3 * 0) % 10 = c0 % 10 by omega]
    refine ⟨l3, _, rfl, SqL.of hl4', rfl, _, _, rfl, _, _, rfl, _, _, rfl, rfl, ?_⟩
    have hlc4 := e4 _ _ hlc3
    generalize hav : c0 % 10 = av at h10
    -- rows
    have key : EvQ (tLst (tCons (tLst (tCons (tLst (tCons (tVar 3) tNil)) tNil)) (tCons (tLst (tCons (tLst (tCons (tVar 3) tNil)) (tCons (tLst (tCons (tVar 4) tNil)) tNil))) (tCons (tLst (tCons (tLst (tCons (tVar 3) (tCons (tVar 4) tNil))) tNil)) (tCons (tLst (tCons (tLst (tCons (tVar 3) (tCons (tVar 4) (tCons (tVar 5) tNil)))) tNil))
      (tCons (tLst (tCons (tLst (tCons (tVar 3) (tCons (tVar 4) tNil))) (tCons (tLst (tCons (tVar 5) tNil)) tNil))) (tCons (tLst (tCons (tLst (tCons (tVar 3) tNil)) (tCons (tLst (tCons (tVar 4) tNil)) (tCons (tLst (tCons (tVar 5) tNil)) tNil)))) tNil)))))))
      [some (.ref a), some (.ref lc), none, some (.int (av : Int)), some (.int (((av + 3) % 10 : Nat) : Int)), some (.int (((av + 6) % 10 : Nat) : Int)), none, none, none, none, none, none, none, none, none, none, none, none, none, none] H4
      (LLLI [[[av]], [[av], [(av + 3) % 10]], [[av, (av + 3) % 10]], [[av, (av + 3) % 10, (av + 6) % 10]], [[av, (av + 3) % 10], [(av + 6) % 10]], [[av], [(av + 3) % 10], [(av + 6) % 10]]]) := rows_ev (evq_var rfl) (evq_var rfl) (evq_var rfl)
    refine q_asgQ key fun vr H5 e5 hvr => ?_
    have hvr : LLLI (shapes av) vr H5 := hvr
    have hlc5 := e5 _ _ hlc4
    -- numbers, end, option
    refine ⟨by show 6 ≤ sizeLine; decide, fun ln hln => ⟨by show 2 ≤ sizeLine; decide, fun t1 ht1 => ⟨by show 1 ≤ sizeLine; decide, fun t2 ht2 => ?_⟩⟩⟩
    have e6 := Ex.new hln (o := .lst [.int 1, .int 5, .int 2, .int 5, .int 25, .int 67])
    have e7 := Ex.new ht1 (o := .tup [.str "end", .str "good"])
    have e8 := Ex.new ht2 (o := .tup [.ref t1])
    have e68 := (e6.trans e7).trans e8
    have hln8 := (e7.trans e8) _ _ (upd_same (H := H5) (a := ln) (o := .lst [.int 1, .int 5, .int 2, .int 5, .int 25, .int 67]))
    have ht18 := e8 _ _ (upd_same (H := upd H5 ln (.lst [.int 1, .int 5, .int 2, .int 5, .int 25, .int 67])) (a := t1) (o := .tup [.str "end", .str "good"]))
    have ht28 := upd_same (H := upd (upd H5 ln (.lst [.int 1, .int 5, .int 2, .int 5, .int 25, .int 67])) t1 (.tup [.str "end", .str "good"])) (a := t2) (o := .tup [.ref t1])
    have hlc8 := e68 _ _ hlc5
    have hvr8 := LLLI.mo _ _ _ _ e68 hvr
    generalize upd (upd (upd H5 ln (.lst [.int 1, .int 5, .int 2, .int 5, .int 25, .int 67])) t1 (.tup [.str "end", .str "good"])) t2 (.tup [.ref t1]) = H8 at hln8 ht18 ht28 hlc8 hvr8
    have hln8 : H8 ln = some (.lst (natsV nums)) := hln8
    refine ⟨_, rfl, lc, _, 1, _, rfl, rfl, SqL.of hlc8, atI_nat (j := 1) hv1, .inl ⟨_, rfl, _, 6, rfl, rfl, by show (0 : Int) < 6; decide, .ref ln, .ref t2, .int ((c1 : Int) % 6), rfl, ?_⟩⟩
    have ho : ((c1 : Int) % 6) = ((c1 % 6 : Nat) : Int) := by omega
    have ho6 : c1 % 6 < 6 := Nat.mod_lt _ (by decide)
    generalize hov : c1 % 6 = ov at ho ho6
    rw [ho]
    -- the loop
    refine ⟨_, rfl, by show 4 ≤ sizeLine; decide, fun l5 hl5 => ⟨l5, [0, 1, 2, (ov : Int)], rfl, SqL.of upd_same, by show 4 < 60; decide, fun ps pc hps hpc => ⟨ps, _, pc, rfl, upd_same, Nat.lt_of_le_of_lt hpc (by show 4 < 64; decide), fun ys l6 hpw hmem hyl hl6 => ⟨l6, rfl, ⟨_, SqL.of upd_same⟩, ?_⟩⟩⟩⟩
    have e9 := ((Ex.new hl5 (o := .lst [.int 0, .int 1, .int 2, .int (ov : Int)])).trans (Ex.new hps (o := SetO w ps (fun j => decide (j ∈ [0, 1, 2, (ov : Int)])) pc))).trans (Ex.new hl6 (o := .lst (ys.map V.int)))
    have hys : ∀ y ∈ ys, ∃ t : Nat, t < 6 ∧ y = (t : Int) := fun y hy => by
      have := of_decide_eq_true ((hmem y).mp hy)
      simp only [List.mem_cons, List.not_mem_nil, or_false] at this
      rcases this with rfl | rfl | rfl | rfl
      · exact ⟨0, by decide, rfl⟩
      · exact ⟨1, by decide, rfl⟩
      · exact ⟨2, by decide, rfl⟩
      · exact ⟨ov, ho6, rfl⟩
    have hl69 := upd_same (H := upd (upd H8 l5 (.lst [.int 0, .int 1, .int 2, .int (ov : Int)])) ps (SetO w ps (fun j => decide (j ∈ [0, 1, 2, (ov : Int)])) pc)) (a := l6) (o := .lst (ys.map V.int))
    obtain ⟨H9, hH9⟩ : ∃ H9, H9 = upd (upd (upd H8 l5 (.lst [.int 0, .int 1, .int 2, .int (ov : Int)])) ps (SetO w ps (fun j => decide (j ∈ [0, 1, 2, (ov : Int)])) pc)) l6 (.lst (ys.map V.int)) := ⟨_, rfl⟩
    rw [← hH9] at e9 hl69
    refine for_list (xs := ys.map V.int) (fun i σ H' => ∃ y2 y10 y11 y12 y13 y14 y15, σ = [some (.ref a), some (.ref lc), y2, some (.int (av : Int)), some (.int (((av + 3) % 10 : Nat) : Int)), some (.int (((av + 6) % 10 : Nat) : Int)), some vr, some (.ref ln), some (.ref t2), some (.int (ov : Int)), y10, y11, y12, y13, y14, y15, none, none, none, none] ∧ Ex H9 H')
      ⟨none, none, none, none, none, none, none, rfl, hH9 ▸ Ex.refl _⟩ (fun i σ H' _ ⟨_, _, _, _, _, _, _, _, e⟩ => SqL.of (e _ _ hl69)) ?_ ?_
    · rintro i x σ HA hx ⟨y2, y10, y11, y12, y13, y14, y15, rfl, eA⟩
      obtain ⟨t, ht6, rfl⟩ : ∃ t : Nat, t < 6 ∧ x = .int (t : Int) := by
        rw [List.getElem?_map] at hx
        cases e : ys[i]? with
        | none => rw [e] at hx; cases hx
        | some y =>
          rw [e] at hx
          obtain ⟨t, h1, h2⟩ := hys y (List.mem_of_getElem? e)
          exact ⟨t, h1, by rw [← h2]; exact (Option.some.inj hx).symm⟩
      have e8A := e9.trans eA
      obtain ⟨g1, g2, g3, g4⟩ := rows_good av h10 t ht6
      have FX := FA av h10 t ht6
      have hshape := shapes_at (a := av) ht6
      have hnumt := nums_at ht6
      have hnle := num_le ht6
      generalize hrows : rowsAt av t = rows at g1 g2 g3 g4 FX hshape
      have G : Good rows := ⟨g1, g2, g3⟩
      obtain ⟨pr, vsr, rfl, hpr, hallr⟩ := LLLI.mo _ _ _ _ e8A hvr8
      obtain ⟨vrow, hvrow, hlrow⟩ := hallr.at_ (i := t) (p := LLI rows) (by rw [List.getElem?_map, hshape]; rfl)
      obtain ⟨prow, vrs, rfl, hprow, hall2⟩ := hlrow
      have hvl : vrs.length = rows.length := by rw [hall2.length, List.length_map]
      have hrowAt : ∀ {H' : Hp} (i : Nat) (x : V), Ex HA H' → vrs[i]? = some x → ∃ r pl, rows[i]? = some r ∧ x = .ref pl ∧ H' pl = some (.lst (natsV r)) := fun {H'} i x e hx => by
        have hil : i < rows.length := by rw [← hvl]; exact (List.getElem?_eq_some_iff.mp hx).1
        obtain ⟨v, hv, hp⟩ := (hall2.mo e (fun p hp => by obtain ⟨n, _, rfl⟩ := List.mem_map.mp hp; exact LI.mo _)).at_ (i := i) (p := LI rows[i]) (by rw [List.getElem?_map, List.getElem?_eq_getElem hil]; rfl)
        rw [hv] at hx
        cases hx
        obtain ⟨pl, rfl, hpl⟩ := hp.get
        exact ⟨rows[i], pl, List.getElem?_eq_getElem hil, rfl, hpl⟩
      -- signs
      refine ⟨_, rfl, _, rfl, pr, vsr, (t : Int), _, rfl, rfl, SqL.of hpr, atI_nat hvrow, prow, rfl, ⟨vrs, SqL.of hprow⟩, fun l7 hl7 => ?_⟩
      refine lc_data (walk_list (K := K) (a := prow) (xs := vrs)) (fun _ => true) (atL rowD rows) hl7 (by omega) (fun HB eB => SqL.of (eB _ _ hprow)) ?_ ?_
      · rintro j z HB HB' hj eB ⟨rfl, hz⟩ Q' kk
        obtain ⟨r, pl, hrj, rfl, hpl⟩ := hrowAt j z eB hz
        refine kk _ _ (Ex.refl _) rfl etYes fun _ => ?_
        have ea : atL rowD rows j = rowD r := by unfold atL; rw [hrj]; rfl
        rw [ea]
        intro HC eC QC qC
        have hpl' := eC _ _ hpl
        have hrl : r.length ≤ 10 := by
          have : r.Sublist rows.flatten := List.sublist_flatten_of_mem (List.mem_of_getElem? hrj)
          have h1 := this.length_le
          omega
        have hnl : (natsV r).length = r.length := by unfold natsV; rw [List.length_map]
        refine ⟨_, rfl, pl, rfl, ⟨_, SqL.of hpl'⟩, fun l8 hl8 => ?_⟩
        refine lc_data (walk_list (K := K) (a := pl) (xs := natsV r)) (fun _ => true) (atL chD r) hl8 (by omega) (fun HD eD => SqL.of (eD _ _ hpl')) ?_ ?_
        · rintro k z HD HD' hk eD ⟨rfl, hz⟩ Q2 kk2
          obtain ⟨m, hm, rfl⟩ := nats_at hz
          refine kk2 _ _ (Ex.refl _) rfl etYes fun _ => ?_
          have ec : atL chD r k = chD m := by unfold atL; rw [hm]; rfl
          rw [ec]
          exact evP_tup2 (evP_var rfl (.num _)) evP_int
        intro HD us eD hus hallc
        rw [hnl, gvn_all] at hallc
        refine ⟨l8, us, rfl, .inl ⟨SqL.of hus, fun t3 ht3 => ⟨by show 2 ≤ sizeLine; decide, fun t4 ht4 => ?_⟩⟩⟩
        have eE := Ex.new ht3 (o := .tup us)
        have eF := Ex.new ht4 (o := .tup [.int 0, .ref t3])
        exact qC _ _ ((eD.trans eE).trans eF) (.tup upd_same (.cons (.num 0) (.cons (.tup (eF _ _ upd_same) ((hallc.ex eE).ex eF)) .nil)))
      intro HB us eB hus hallB
      rw [hvl, gvn_all] at hallB
      refine ⟨l7, us, rfl, .inl ⟨SqL.of hus, fun ts hts => ?_⟩⟩
      have isg : Is (upd HB ts (.tup us)) (.ref ts) (signsD rows) := .tup upd_same (hallB.ex (Ex.new hts))
      have eAB := eB.trans (Ex.new hts (o := .tup us))
      generalize upd HB ts (.tup us) = HC at isg eAB
      -- names
      refine ⟨Nat.zero_le _, fun lnm hlnm => ?_⟩
      have eAC := eAB.trans (Ex.new hlnm (o := .lst []))
      have hnmA : HA lnm = none := fresh_back eAB hlnm
      have hnm9 := upd_same (H := HC) (a := lnm) (o := .lst [])
      have isg' := isg.ex (Ex.new hlnm (o := .lst []))
      generalize upd HC lnm (.lst []) = HD at eAC hnm9 isg'
      refine ⟨_, rfl, _, rfl, pr, vsr, (t : Int), _, rfl, rfl, SqL.of (eAC _ _ hpr), atI_nat hvrow, prow, rfl, ⟨vrs, SqL.of (eAC _ _ hprow)⟩, ?_⟩
      refine for_list (xs := vrs) (fun j σ HE => ∃ y10, σ = [some (.ref a), some (.ref lc), some (.int (t : Int)), some (.int (av : Int)), some (.int (((av + 3) % 10 : Nat) : Int)), some (.int (((av + 6) % 10 : Nat) : Int)), some (.ref pr), some (.ref ln), some (.ref t2), some (.int (ov : Int)), y10, some (.ref ts), some (.ref lnm), y13, y14, y15, none, none, none, none] ∧ Ex HA HE ∧ Is HE (.ref ts) (signsD rows) ∧ HE lnm = some (.lst (natsV (rows.take j).flatten)))
        ⟨y10, rfl, eAC, isg', hnm9⟩ (fun j σ HE _ ⟨_, _, e, _⟩ => SqL.of (e _ _ hprow)) ?_ ?_
      · rintro j z σ HE hz ⟨y10, rfl, eE, isE, hnE⟩
        obtain ⟨r, pl, hrj, rfl, hpl⟩ := hrowAt j z eE hz
        refine ⟨_, rfl, .inl ⟨rfl, _, SqL.of hnE⟩, _, rfl, lnm, pl, _, _, rfl, rfl, hnE, hpl, ?_, ?_⟩
        · unfold natsV
          rw [List.length_map, List.length_map]
          have h1 : (rows.take j).flatten.length ≤ 3 := by
            have h2 : rows.flatten.length = (rows.take j).flatten.length + (rows.drop j).flatten.length := by
              rw [← List.length_append, ← List.flatten_append, List.take_append_drop]
            omega
          have h3 : r.length ≤ 3 := by
            have : r.Sublist rows.flatten := List.sublist_flatten_of_mem (List.mem_of_getElem? hrj)
            have h1 := this.length_le
            omega
          exact sz_of (by omega)
        · have cF : Chg lnm HE (upd HE lnm (.lst (natsV (rows.take j).flatten ++ natsV r))) := Chg.upd
          have tkF : Tk HE (upd HE lnm (.lst (natsV (rows.take j).flatten ++ natsV r))) := Chg.tku fun ys z => by rw [hnE] at z; cases z
          refine ⟨_, rfl, cF.ex eE hnmA, isE.mv tkF, ?_⟩
          rw [upd_same, take_snoc hrj, List.flatten_append, ← natsV_app]
          simp
      rintro σ HE ⟨y10, rfl, eE, isE, hnE⟩
      rw [hvl, List.take_length] at hnE
      -- plan
      refine ⟨_, rfl, by show 1 ≤ sizeLine; decide, fun t5 ht5 => ⟨_, rfl, by show 3 ≤ sizeLine; decide, fun t6 ht6' => ?_⟩⟩
      have eF := Ex.new ht5 (o := .tup [.int 0])
      have eG := Ex.new ht6' (o := .tup [.ref ts, .ref t5, .ref t2])
      have eFG := eF.trans eG
      have e8E := e8A.trans (eE.trans eFG)
      have ipl : Is (upd (upd HE t5 (.tup [.int 0])) t6 (.tup [.ref ts, .ref t5, .ref t2])) (.ref t6) (planD rows) :=
        .tup upd_same (.cons (isE.ex eFG) (.cons (.tup (eG _ _ upd_same) (.cons (.num 0) .nil)) (.cons (.tup (e8E _ _ ht28) (.cons (.tup (e8E _ _ ht18) (.cons (.text _) (.cons (.text _) .nil))) .nil)) .nil)))
      have hnG := eFG _ _ hnE
      have eAG := eE.trans eFG
      generalize upd (upd HE t5 (.tup [.int 0])) t6 (.tup [.ref ts, .ref t5, .ref t2]) = HG at ipl hnG eAG e8E
      -- due
      refine ⟨_, rfl, _, rfl, .ref t6, lnm, rows, rfl, ipl, G, g4, hnG, fun d HI L eI hdI gI opI => ?_⟩
      obtain ⟨bs, rfl, hbp⟩ := opI.regs FX.nd fun r hr => allC_bd FX hr
      have hbl : bs.length = numAt t := by rw [hbp.length_eq, FX.len]
      refine nilT ?_
      refine ⟨d, bs, rfl, gI, sorts_rg bs, by omega, fun pd ysd HJ hpd cJ hysd halld => ?_⟩
      have eJ : Ex HI HJ := cJ.ex (Ex.refl _) hpd
      have eGJ := eI.trans eJ
      have eAJ := eAG.trans eGJ
      have e8J := e8E.trans eGJ
      have iplJ := ipl.ex eGJ
      have hsl : (sortB rgM bs).length = numAt t := (show (sortB rgM bs).length = bs.length from (List.mergeSort_perm bs _).length_eq).trans hbl
      have hyl : ysd.length = numAt t := by rw [halld.length, List.length_map]; exact hsl
      have hdC : ∀ g ∈ sortB rgM bs, g ∈ allC rows := fun g hg => hbp.mem_iff.mp ((List.mergeSort_perm bs _).mem_iff.mp hg)
      -- the number
      refine ⟨_, rfl, pd, ysd, rfl, .inl (SqL.of hysd), _, rfl, _, rfl, ln, natsV nums, (t : Int), .int (numAt t : Int), rfl, rfl, SqL.of (e8J _ _ hln8), atI_nat (by unfold natsV; rw [List.getElem?_map, hnumt]; rfl), rfl, _, rfl, ?_⟩
      rw [hyl]
      refine iteNS rfl ?_
      -- the last test
      refine ⟨_, rfl, rfl, _, rfl, ?_⟩
      by_cases h5 : t = 5
      · subst h5
        refine (if_pos (decide_eq_true rfl)).mpr ?_
        have h67 : (sortB rgM bs).length = 67 := hsl
        refine ⟨3, rfl, by decide, by decide, fun lg hlg => ?_⟩
        refine lc_data (walk_rangeN (n := 3)) (fun _ => true) (fun i => rgM (((sortB rgM bs)[(c0 + 17 * i) % 67]?).getD (0, 0))) hlg (by decide) (fun _ _ => trivial) ?_ ?_
        · rintro j z HK HK' hj eK ⟨rfl, rfl⟩ Q' kk
          refine kk _ _ (Ex.refl _) rfl etYes fun _ HL eL QL qL => ?_
          have eKL := eK.trans eL
          have hidx : (c0 + 17 * j) % 67 < 67 := Nat.mod_lt _ (by decide)
          obtain ⟨g, hg⟩ : ∃ g, (sortB rgM bs)[(c0 + 17 * j) % 67]? = some g := ⟨_, List.getElem?_eq_getElem (by rw [h67]; exact hidx)⟩
          obtain ⟨vg, hvg, isg⟩ := (halld.ex eKL).at_ (i := (c0 + 17 * j) % 67) (k := rgM g) (by rw [List.getElem?_map, hg]; rfl)
          refine ⟨_, rfl, _, rfl, lc, _, 0, _, rfl, rfl, SqL.of (eKL _ _ (e8J _ _ hlc8)), atI_nat (j := 0) hv0, _, rfl, 17, (j : Int), rfl, rfl, .inl (by decide), _, _, rfl, rfl, .inl ⟨_, rfl, _, 67, rfl, rfl, by show (0 : Int) < 67; decide, ?_⟩⟩
          have he : ((c0 : Int) + 17 * (j : Int)) % 67 = (((c0 + 17 * j) % 67 : Nat) : Int) := by omega
          refine ⟨pd, ysd, _, vg, rfl, rfl, SqL.of (eKL _ _ hysd), (by show atI ysd (((c0 : Int) + 17 * (j : Int)) % 67) = some vg; rw [he]; exact atI_nat hvg), qL _ _ (Ex.refl _) ?_⟩
          show Is HL vg (rgM _)
          rw [hg]; exact isg
        intro HK gs eK hgs hallg
        have eg : gvn 3 (fun _ => true) (fun i => rgM (((sortB rgM bs)[(c0 + 17 * i) % 67]?).getD (0, 0))) = ((List.range 3).map fun i => ((sortB rgM bs)[(c0 + 17 * i) % 67]?).getD (0, 0)).map rgM := by
          rw [gvn_range, List.filter_eq_self.mpr fun _ _ => rfl, List.map_map]; rfl
        rw [eg] at hallg
        have hgC : ∀ g ∈ (List.range 3).map (fun i => ((sortB rgM bs)[(c0 + 17 * i) % 67]?).getD (0, 0)), g ∈ allC rows := fun g hg => by
          obtain ⟨j, _, rfl⟩ := List.mem_map.mp hg
          have hidx : (c0 + 17 * j) % 67 < 67 := Nat.mod_lt _ (by decide)
          rw [List.getElem?_eq_getElem (by rw [h67]; exact hidx)]
          exact hdC _ (List.getElem_mem _)
        have hl3 : ((List.range 3).map fun i => ((sortB rgM bs)[(c0 + 17 * i) % 67]?).getD (0, 0)).length = 3 := by rw [List.length_map, List.length_range]
        generalize (List.range 3).map (fun i => ((sortB rgM bs)[(c0 + 17 * i) % 67]?).getD (0, 0)) = gl at hallg hgC hl3
        have hgl : gs.length ≤ 3 := Nat.le_of_eq (by rw [hallg.length, List.length_map, hl3])
        refine ⟨_, rfl, lg, rfl, ⟨gs, SqL.of hgs⟩, fun l9 hl9 => ?_⟩
        refine lc_data (walk_list (K := K) (a := lg) (xs := gs)) (fun _ => false) (atL rgM gl) hl9 (by omega) (fun HL eL => SqL.of (eL _ _ hgs)) ?_ ?_
        · rintro j z HL HL' hj eL ⟨rfl, hz⟩ Q' kk
          obtain ⟨g, hg, isg⟩ := enc_at (enc := rgM) hallg hz
          refine kk _ _ (Ex.refl _) rfl (et_not (a := true) fun HM eM QM qM => ?_) fun z => nomatch z
          refine ⟨_, rfl, _, rfl, .ref t6, z, rows, numAt 5, g, rfl, iplJ.ex ((eK.trans eL).trans eM), G, FX, hgC g (List.mem_of_getElem? hg), isg.ex (eL.trans eM), fun HN eN => ⟨true, rfl, qM _ eN⟩⟩
        intro HL us9 eL hus9 hall9
        have e0 : gvn gs.length (fun _ => false) (atL rgM gl) = [] := by
          unfold gvn
          rw [List.filter_eq_nil_iff.mpr fun _ _ => by decide]; rfl
        rw [e0] at hall9
        refine ⟨Nat.zero_le _, fun lA hlA => rne_nil ((Ex.new hlA) _ _ hus9) upd_same (hall9.ex (Ex.new hlA)) rfl (by decide) ⟨_, rfl, ?_⟩⟩
        refine iteF ?_
        exact ⟨_, _, _, _, _, _, _, rfl, eA.trans ((eAJ.trans (eK.trans eL)).trans (Ex.new hlA))⟩
      · refine (if_neg (by rw [decide_eq_false (fun z => h5 (by have := V.int.inj z; omega))]; decide)).mpr ?_
        refine ⟨_, rfl, .ref t6, rows, numAt t, rfl, iplJ, G, FX, by omega, fun d2 HK L2 fs eK hd2 g2 op2 fnd ffs => ?_⟩
        have hfp : fs.Perm (allC rows) := (List.perm_ext_iff_of_nodup fnd FX.nd).mpr ffs
        obtain ⟨bs2, rfl, hb2⟩ := op2.regs fnd fun r hr => allC_bd FX ((ffs r).mp hr)
        have hb2l : bs2.length = numAt t := by rw [hb2.length_eq, hfp.length_eq, FX.len]
        have hne : bs2.map rgM ≠ [] := fun z => by
          have h1 := List.map_eq_nil_iff.mp z
          have h2 := (hb2.trans hfp).mem_iff.mpr FX.start
          rw [h1] at h2; cases h2
        refine ⟨d2, bs2.map rgM, rfl, g2, hne, ?_⟩
        refine nilT ?_
        refine ⟨d2, bs2, rfl, g2, sorts_rg bs2, by omega, fun p3 ys3 HL hp3 cL hys3 hall3 => ?_⟩
        have eL : Ex HK HL := cL.ex (Ex.refl _) hp3
        have eKL := eK.trans eL
        have hsame : sortB rgM bs2 = sortB rgM bs := sort_eq ((hb2.trans hfp).trans hbp.symm) fun r hr => allC_bd FX ((hb2.trans hfp).mem_iff.mp hr)
        refine ⟨_, rfl, rne_list hys3 (eKL _ _ hysd) hall3 (halld.ex eKL) (rgs_plain _).1 (Nat.le_trans (rgs_plain _).2 (by decide)) (rgs_plain _).1 (Nat.le_trans (rgs_plain _).2 (by decide)) ⟨_, rfl, ?_⟩⟩
        rw [hsame, decide_eq_true rfl]
        refine iteF ?_
        exact ⟨_, _, _, _, _, _, _, rfl, eA.trans (eAJ.trans eKL)⟩
    · rintro σ HA ⟨y2, y10, y11, y12, y13, y14, y15, rfl, eA⟩
      exact q _
end
end K82
set_option maxHeartbeats 0
/-! The finite facts, decided. -/
namespace K82
theorem fact_0 : (List.range 10).all (fun a => factsB (rowsAt a 0) 1) = true := by decide +kernel
theorem fact_1 : (List.range 10).all (fun a => factsB (rowsAt a 1) 5) = true := by decide +kernel
theorem fact_2 : (List.range 10).all (fun a => factsB (rowsAt a 2) 2) = true := by decide +kernel
theorem fact_3 : (List.range 10).all (fun a => factsB (rowsAt a 3) 5) = true := by decide +kernel
theorem fact_4_0 : factsB (rowsAt 0 4) 25 = true := by decide +kernel
theorem fact_4_1 : factsB (rowsAt 1 4) 25 = true := by decide +kernel
theorem fact_4_2 : factsB (rowsAt 2 4) 25 = true := by decide +kernel
theorem fact_4_3 : factsB (rowsAt 3 4) 25 = true := by decide +kernel
theorem fact_4_4 : factsB (rowsAt 4 4) 25 = true := by decide +kernel
theorem fact_4_5 : factsB (rowsAt 5 4) 25 = true := by decide +kernel
theorem fact_4_6 : factsB (rowsAt 6 4) 25 = true := by decide +kernel
theorem fact_4_7 : factsB (rowsAt 7 4) 25 = true := by decide +kernel
theorem fact_4_8 : factsB (rowsAt 8 4) 25 = true := by decide +kernel
theorem fact_4_9 : factsB (rowsAt 9 4) 25 = true := by decide +kernel
theorem fact_5_0 : factsB (rowsAt 0 5) 67 = true := by decide +kernel
theorem fact_5_1 : factsB (rowsAt 1 5) 67 = true := by decide +kernel
theorem fact_5_2 : factsB (rowsAt 2 5) 67 = true := by decide +kernel
theorem fact_5_3 : factsB (rowsAt 3 5) 67 = true := by decide +kernel
theorem fact_5_4 : factsB (rowsAt 4 5) 67 = true := by decide +kernel
theorem fact_5_5 : factsB (rowsAt 5 5) 67 = true := by decide +kernel
theorem fact_5_6 : factsB (rowsAt 6 5) 67 = true := by decide +kernel
theorem fact_5_7 : factsB (rowsAt 7 5) 67 = true := by decide +kernel
theorem fact_5_8 : factsB (rowsAt 8 5) 67 = true := by decide +kernel
theorem fact_5_9 : factsB (rowsAt 9 5) 67 = true := by decide +kernel
theorem facts_all : ∀ a, a < 10 → ∀ t, t < 6 → Facts (rowsAt a t) (numAt t) := fun a ha t ht => by
  match t, ht with
  | 0, _ => exact Facts.of (List.all_eq_true.mp fact_0 a (List.mem_range.mpr ha))
  | 1, _ => exact Facts.of (List.all_eq_true.mp fact_1 a (List.mem_range.mpr ha))
  | 2, _ => exact Facts.of (List.all_eq_true.mp fact_2 a (List.mem_range.mpr ha))
  | 3, _ => exact Facts.of (List.all_eq_true.mp fact_3 a (List.mem_range.mpr ha))
  | 4, _ =>
    match a, ha with
    | 0, _ => exact Facts.of fact_4_0
    | 1, _ => exact Facts.of fact_4_1
    | 2, _ => exact Facts.of fact_4_2
    | 3, _ => exact Facts.of fact_4_3
    | 4, _ => exact Facts.of fact_4_4
    | 5, _ => exact Facts.of fact_4_5
    | 6, _ => exact Facts.of fact_4_6
    | 7, _ => exact Facts.of fact_4_7
    | 8, _ => exact Facts.of fact_4_8
    | 9, _ => exact Facts.of fact_4_9
  | 5, _ =>
    match a, ha with
    | 0, _ => exact Facts.of fact_5_0
    | 1, _ => exact Facts.of fact_5_1
    | 2, _ => exact Facts.of fact_5_2
    | 3, _ => exact Facts.of fact_5_3
    | 4, _ => exact Facts.of fact_5_4
    | 5, _ => exact Facts.of fact_5_5
    | 6, _ => exact Facts.of fact_5_6
    | 7, _ => exact Facts.of fact_5_7
    | 8, _ => exact Facts.of fact_5_8
    | 9, _ => exact Facts.of fact_5_9
end K82
set_option maxHeartbeats 4000000
/-! What the top has written; the law's own head. -/
namespace K82
open PySem PySem.Spec PyProof.Rows L2 Evl RZ

theorem all_mk {l : PySem.W.OpenLaw} {w : World} {K : PySem.W.Frag} {h : Heap} {mg : Str → Option Value} {fa C f1 f2 f3 f4 f5 f6 f7 f8 f9 f10 f11 f12 f13 f14 f15 f16 f17 f18 f19 f20 f21 f22 f23 f24 f25 f26 f27 : Addr} (X : K.In h) (G : h.Ns mainGlobals mg) (hfa : mg "law" = some (.ref fa))
    {od1 an1 od2 an2 od3 an3 od4 an4 od5 an5 od6 an6 od7 an7 od8 an8 od9 an9 od10 an10 od11 an11 od12 an12 od13 an13 od14 an14 od15 an15 od16 an16 od17 an17 od18 an18 od19 an19 od20 an20 od21 an21 od22 an22 od23 an23 od24 an24 od25 an25 od26 an26 od27 an27 : Option Addr} {sl1 sl2 sl3 sl4 sl5 sl6 sl7 sl8 sl9 sl10 sl11 sl12 sl13 sl14 sl15 sl16 sl17 sl18 sl19 sl20 sl21 sl22 sl23 sl24 sl25 sl26 sl27 : Array (Option Value)} {oc1 kV1 dc1 pm1 cd1 ct1 oc2 kV2 dc2 pm2 cd2 ct2 oc3 kV3 dc3 pm3 cd3 ct3 oc4 kV4 dc4 pm4 cd4 ct4 oc5 kV5 dc5 pm5 cd5 ct5 oc6 kV6 dc6 pm6 cd6 ct6 oc7 kV7 dc7 pm7 cd7 ct7 oc8 kV8 dc8 pm8 cd8 ct8 oc9 kV9 dc9 pm9 cd9 ct9 oc10 kV10 dc10 pm10 cd10 ct10 oc11 kV11 dc11 pm11 cd11 ct11 oc12 kV12 dc12 pm12 cd12 ct12 oc13 kV13 dc13 pm13 cd13 ct13 oc14 kV14 dc14 pm14 cd14 ct14 oc15 kV15 dc15 pm15 cd15 ct15 oc16 kV16 dc16 pm16 cd16 ct16 oc17 kV17 dc17 pm17 cd17 ct17 oc18 kV18 dc18 pm18 cd18 ct18 oc19 kV19 dc19 pm19 cd19 ct19 oc20 kV20 dc20 pm20 cd20 ct20 oc21 kV21 dc21 pm21 cd21 ct21 oc22 kV22 dc22 pm22 cd22 ct22 oc23 kV23 dc23 pm23 cd23 ct23 oc24 kV24 dc24 pm24 cd24 ct24 oc25 kV25 dc25 pm25 cd25 ct25 oc26 kV26 dc26 pm26 cd26 ct26 oc27 kV27 dc27 pm27 cd27 ct27 : Value} {uT uN : Tok}
    (a1 : PySem.W.nsIn K mainGlobals "is_integer" = some (some (.ref f1)))
    (l1 : K.lookup f1 = some ⟨oc1, od1, .func (PySem.W.fnOf "is_integer" "is_integer" (defArgs sIsInteger) (defBody sIsInteger) (defScope sIsInteger) .none kV1 dc1 pm1 an1 cd1 ct1), sl1⟩) (c1 : PySem.W.codeIn K cd1 "is_integer" = true) (k1 : PySem.W.keepIn K (.ref f1) = true)
    (a2 : PySem.W.nsIn K mainGlobals "is_digit" = some (some (.ref f2)))
    (l2 : K.lookup f2 = some ⟨oc2, od2, .func (PySem.W.fnOf "is_digit" "is_digit" (defArgs sIsDigit) (defBody sIsDigit) (defScope sIsDigit) .none kV2 dc2 pm2 an2 cd2 ct2), sl2⟩) (c2 : PySem.W.codeIn K cd2 "is_digit" = true) (k2 : PySem.W.keepIn K (.ref f2) = true)
    (a3 : PySem.W.nsIn K mainGlobals "places_of" = some (some (.ref f3)))
    (l3 : K.lookup f3 = some ⟨oc3, od3, .func (PySem.W.fnOf "places_of" "places_of" (defArgs sPlacesOf) (defBody sPlacesOf) (defScope sPlacesOf) .none kV3 dc3 pm3 an3 cd3 ct3), sl3⟩) (c3 : PySem.W.codeIn K cd3 "places_of" = true) (k3 : PySem.W.keepIn K (.ref f3) = true)
    (a4 : PySem.W.nsIn K mainGlobals "names_of" = some (some (.ref f4)))
    (l4 : K.lookup f4 = some ⟨oc4, od4, .func (PySem.W.fnOf "names_of" "names_of" (defArgs sNamesOf) (defBody sNamesOf) (defScope sNamesOf) .none kV4 dc4 pm4 an4 cd4 ct4), sl4⟩) (c4 : PySem.W.codeIn K cd4 "names_of" = true) (k4 : PySem.W.keepIn K (.ref f4) = true)
    (a5 : PySem.W.nsIn K mainGlobals "place_of" = some (some (.ref f5)))
    (l5 : K.lookup f5 = some ⟨oc5, od5, .func (PySem.W.fnOf "place_of" "place_of" (defArgs sPlaceOf) (defBody sPlaceOf) (defScope sPlaceOf) .none kV5 dc5 pm5 an5 cd5 ct5), sl5⟩) (c5 : PySem.W.codeIn K cd5 "place_of" = true) (k5 : PySem.W.keepIn K (.ref f5) = true)
    (a6 : PySem.W.nsIn K mainGlobals "direct_pairs" = some (some (.ref f6)))
    (l6 : K.lookup f6 = some ⟨oc6, od6, .func (PySem.W.fnOf "direct_pairs" "direct_pairs" (defArgs sDirect) (defBody sDirect) (defScope sDirect) .none kV6 dc6 pm6 an6 cd6 ct6), sl6⟩) (c6 : PySem.W.codeIn K cd6 "direct_pairs" = true) (k6 : PySem.W.keepIn K (.ref f6) = true)
    (a7 : PySem.W.nsIn K mainGlobals "follows_of" = some (some (.ref f7)))
    (l7 : K.lookup f7 = some ⟨oc7, od7, .func (PySem.W.fnOf "follows_of" "follows_of" (defArgs sFollows) (defBody sFollows) (defScope sFollows) .none kV7 dc7 pm7 an7 cd7 ct7), sl7⟩) (c7 : PySem.W.codeIn K cd7 "follows_of" = true) (k7 : PySem.W.keepIn K (.ref f7) = true)
    (a8 : PySem.W.nsIn K mainGlobals "round_name" = some (some (.ref f8)))
    (l8 : K.lookup f8 = some ⟨oc8, od8, .func (PySem.W.fnOf "round_name" "round_name" (defArgs sRound) (defBody sRound) (defScope sRound) .none kV8 dc8 pm8 an8 cd8 ct8), sl8⟩) (c8 : PySem.W.codeIn K cd8 "round_name" = true) (k8 : PySem.W.keepIn K (.ref f8) = true)
    (a9 : PySem.W.nsIn K mainGlobals "is_regime" = some (some (.ref f9)))
    (l9 : K.lookup f9 = some ⟨oc9, od9, .func (PySem.W.fnOf "is_regime" "is_regime" (defArgs sIsRegime) (defBody sIsRegime) (defScope sIsRegime) .none kV9 dc9 pm9 an9 cd9 ct9), sl9⟩) (c9 : PySem.W.codeIn K cd9 "is_regime" = true) (k9 : PySem.W.keepIn K (.ref f9) = true)
    (a10 : PySem.W.nsIn K mainGlobals "reaches" = some (some (.ref f10)))
    (l10 : K.lookup f10 = some ⟨oc10, od10, .func (PySem.W.fnOf "reaches" "reaches" (defArgs sReaches) (defBody sReaches) (defScope sReaches) .none kV10 dc10 pm10 an10 cd10 ct10), sl10⟩) (c10 : PySem.W.codeIn K cd10 "reaches" = true) (k10 : PySem.W.keepIn K (.ref f10) = true)
    (a11 : PySem.W.nsIn K mainGlobals "regime_of" = some (some (.ref f11)))
    (l11 : K.lookup f11 = some ⟨oc11, od11, .func (PySem.W.fnOf "regime_of" "regime_of" (defArgs sRegimeOf) (defBody sRegimeOf) (defScope sRegimeOf) .none kV11 dc11 pm11 an11 cd11 ct11), sl11⟩) (c11 : PySem.W.codeIn K cd11 "regime_of" = true) (k11 : PySem.W.keepIn K (.ref f11) = true)
    (a12 : PySem.W.nsIn K mainGlobals "put_in" = some (some (.ref f12)))
    (l12 : K.lookup f12 = some ⟨oc12, od12, .func (PySem.W.fnOf "put_in" "put_in" (defArgs sPutIn) (defBody sPutIn) (defScope sPutIn) .none kV12 dc12 pm12 an12 cd12 ct12), sl12⟩) (c12 : PySem.W.codeIn K cd12 "put_in" = true) (k12 : PySem.W.keepIn K (.ref f12) = true)
    (a13 : PySem.W.nsIn K mainGlobals "with_wait" = some (some (.ref f13)))
    (l13 : K.lookup f13 = some ⟨oc13, od13, .func (PySem.W.fnOf "with_wait" "with_wait" (defArgs sWithWait) (defBody sWithWait) (defScope sWithWait) .none kV13 dc13 pm13 an13 cd13 ct13), sl13⟩) (c13 : PySem.W.codeIn K cd13 "with_wait" = true) (k13 : PySem.W.keepIn K (.ref f13) = true)
    (a14 : PySem.W.nsIn K mainGlobals "with_drain" = some (some (.ref f14)))
    (l14 : K.lookup f14 = some ⟨oc14, od14, .func (PySem.W.fnOf "with_drain" "with_drain" (defArgs sWithDrain) (defBody sWithDrain) (defScope sWithDrain) .none kV14 dc14 pm14 an14 cd14 ct14), sl14⟩) (c14 : PySem.W.codeIn K cd14 "with_drain" = true) (k14 : PySem.W.keepIn K (.ref f14) = true)
    (a15 : PySem.W.nsIn K mainGlobals "unlike_pairs" = some (some (.ref f15)))
    (l15 : K.lookup f15 = some ⟨oc15, od15, .func (PySem.W.fnOf "unlike_pairs" "unlike_pairs" (defArgs sUnlike) (defBody sUnlike) (defScope sUnlike) .none kV15 dc15 pm15 an15 cd15 ct15), sl15⟩) (c15 : PySem.W.codeIn K cd15 "unlike_pairs" = true) (k15 : PySem.W.keepIn K (.ref f15) = true)
    (a16 : PySem.W.nsIn K mainGlobals "more_regimes" = some (some (.ref f16)))
    (l16 : K.lookup f16 = some ⟨oc16, od16, .func (PySem.W.fnOf "more_regimes" "more_regimes" (defArgs sMore) (defBody sMore) (defScope sMore) .none kV16 dc16 pm16 an16 cd16 ct16), sl16⟩) (c16 : PySem.W.codeIn K cd16 "more_regimes" = true) (k16 : PySem.W.keepIn K (.ref f16) = true)
    (a17 : PySem.W.nsIn K mainGlobals "_law_places" = some (some (.ref f17)))
    (l17 : K.lookup f17 = some ⟨oc17, od17, .func (PySem.W.fnOf "_law_places" "_law_places" (defArgs sLPlaces) (defBody sLPlaces) (defScope sLPlaces) .none kV17 dc17 pm17 an17 cd17 ct17), sl17⟩) (c17 : PySem.W.codeIn K cd17 "_law_places" = true) (k17 : PySem.W.keepIn K (.ref f17) = true)
    (a18 : PySem.W.nsIn K mainGlobals "_law_names_of" = some (some (.ref f18)))
    (l18 : K.lookup f18 = some ⟨oc18, od18, .func (PySem.W.fnOf "_law_names_of" "_law_names_of" (defArgs sLNames) (defBody sLNames) (defScope sLNames) .none kV18 dc18 pm18 an18 cd18 ct18), sl18⟩) (c18 : PySem.W.codeIn K cd18 "_law_names_of" = true) (k18 : PySem.W.keepIn K (.ref f18) = true)
    (a19 : PySem.W.nsIn K mainGlobals "_law_follows" = some (some (.ref f19)))
    (l19 : K.lookup f19 = some ⟨oc19, od19, .func (PySem.W.fnOf "_law_follows" "_law_follows" (defArgs sLFollows) (defBody sLFollows) (defScope sLFollows) .none kV19 dc19 pm19 an19 cd19 ct19), sl19⟩) (c19 : PySem.W.codeIn K cd19 "_law_follows" = true) (k19 : PySem.W.keepIn K (.ref f19) = true)
    (a20 : PySem.W.nsIn K mainGlobals "_law_closed" = some (some (.ref f20)))
    (l20 : K.lookup f20 = some ⟨oc20, od20, .func (PySem.W.fnOf "_law_closed" "_law_closed" (defArgs sLClosed) (defBody sLClosed) (defScope sLClosed) .none kV20 dc20 pm20 an20 cd20 ct20), sl20⟩) (c20 : PySem.W.codeIn K cd20 "_law_closed" = true) (k20 : PySem.W.keepIn K (.ref f20) = true)
    (a21 : PySem.W.nsIn K mainGlobals "_law_all_come_to" = some (some (.ref f21)))
    (l21 : K.lookup f21 = some ⟨oc21, od21, .func (PySem.W.fnOf "_law_all_come_to" "_law_all_come_to" (defArgs sLCome) (defBody sLCome) (defScope sLCome) .none kV21 dc21 pm21 an21 cd21 ct21), sl21⟩) (c21 : PySem.W.codeIn K cd21 "_law_all_come_to" = true) (k21 : PySem.W.keepIn K (.ref f21) = true)
    (a22 : PySem.W.nsIn K mainGlobals "_law_some_of" = some (some (.ref f22)))
    (l22 : K.lookup f22 = some ⟨oc22, od22, .func (PySem.W.fnOf "_law_some_of" "_law_some_of" (defArgs sLSome) (defBody sLSome) (defScope sLSome) .none kV22 dc22 pm22 an22 cd22 ct22), sl22⟩) (c22 : PySem.W.codeIn K cd22 "_law_some_of" = true) (k22 : PySem.W.keepIn K (.ref f22) = true)
    (a23 : PySem.W.nsIn K mainGlobals "_law_all_closed" = some (some (.ref f23)))
    (l23 : K.lookup f23 = some ⟨oc23, od23, .func (PySem.W.fnOf "_law_all_closed" "_law_all_closed" (defArgs sLAll) (defBody sLAll) (defScope sLAll) .none kV23 dc23 pm23 an23 cd23 ct23), sl23⟩) (c23 : PySem.W.codeIn K cd23 "_law_all_closed" = true) (k23 : PySem.W.keepIn K (.ref f23) = true)
    (a24 : PySem.W.nsIn K mainGlobals "_law_is_come_to" = some (some (.ref f24)))
    (l24 : K.lookup f24 = some ⟨oc24, od24, .func (PySem.W.fnOf "_law_is_come_to" "_law_is_come_to" (defArgs sLIs) (defBody sLIs) (defScope sLIs) .none kV24 dc24 pm24 an24 cd24 ct24), sl24⟩) (c24 : PySem.W.codeIn K cd24 "_law_is_come_to" = true) (k24 : PySem.W.keepIn K (.ref f24) = true)
    (a25 : PySem.W.nsIn K mainGlobals "law" = some (some (.ref f25)))
    (l25 : K.lookup f25 = some ⟨oc25, od25, .func (PySem.W.fnOf "law" "law" (defArgs sLaw) (defBody sLaw) (defScope sLaw) .none kV25 dc25 pm25 an25 cd25 ct25), sl25⟩) (c25 : PySem.W.codeIn K cd25 "law" = true) (k25 : PySem.W.keepIn K (.ref f25) = true)
    (a26 : PySem.W.findIn K (.ref C) "__init__" = some (some (.ref f26))) (i26 : PySem.W.isFn K (.ref f26) = true)
    (l26 : K.lookup f26 = some ⟨oc26, od26, .func (PySem.W.fnOf "__init__" "Ground.__init__" (defArgs sInit) (defBody sInit) (defScope sInit) .none kV26 dc26 pm26 an26 cd26 ct26), sl26⟩) (c26 : PySem.W.codeIn K cd26 "Ground.__init__" = true) (k26 : PySem.W.keepIn K (.ref f26) = true)
    (a27 : PySem.W.findIn K (.ref C) "all_drained" = some (some (.ref f27))) (i27 : PySem.W.isFn K (.ref f27) = true)
    (l27 : K.lookup f27 = some ⟨oc27, od27, .func (PySem.W.fnOf "all_drained" "Ground.all_drained" (defArgs sAllDrained) (defBody sAllDrained) (defScope sAllDrained) .none kV27 dc27 pm27 an27 cd27 ct27), sl27⟩) (c27 : PySem.W.codeIn K cd27 "Ground.all_drained" = true) (k27 : PySem.W.keepIn K (.ref f27) = true)
    (aC : PySem.W.nsIn K mainGlobals "Ground" = some (some (.ref C)))
    (pg : PySem.W.plainGet K C Str.empty = true) (hd : PySem.W.hasDictIn K C = true) (po : PySem.W.plainOver K C = true) (sa : PySem.W.findIn K (.ref C) "__setattr__" = some (some (.builtin "object.__setattr__"))) (mk : PySem.W.makesIn K C = true) (kc : PySem.W.keepIn K (.ref C) = true)
    (n0 : PySem.W.findIn K (.ref C) "source" = some none)
    (n1 : PySem.W.findIn K (.ref C) "pairs" = some none)
    (n2 : PySem.W.findIn K (.ref C) "names" = some none)
    (n3 : PySem.W.findIn K (.ref C) "order" = some none)
    (n4 : PySem.W.findIn K (.ref C) "drained" = some none)
    (n5 : PySem.W.findIn K (.ref C) "places" = some none)
    (n6 : PySem.W.findIn K (.ref C) "memo" = some none)
    (n7 : PySem.W.findIn K (.ref C) "early" = some none)
    (z0 : PySem.W.nsIn K mainGlobals "isinstance" = some none)
    (z1 : PySem.W.nsIn K mainGlobals "bool" = some none)
    (z2 : PySem.W.nsIn K mainGlobals "int" = some none)
    (z3 : PySem.W.nsIn K mainGlobals "enumerate" = some none)
    (z4 : PySem.W.nsIn K mainGlobals "tuple" = some none)
    (z5 : PySem.W.nsIn K mainGlobals "sorted" = some none)
    (z6 : PySem.W.nsIn K mainGlobals "zip" = some none)
    (z7 : PySem.W.nsIn K mainGlobals "range" = some none)
    (z8 : PySem.W.nsIn K mainGlobals "list" = some none)
    (z9 : PySem.W.nsIn K mainGlobals "dict" = some none)
    (z10 : PySem.W.nsIn K mainGlobals "set" = some none)
    (z11 : PySem.W.nsIn K mainGlobals "len" = some none)
    (z12 : PySem.W.nsIn K mainGlobals "abs" = some none)
    (gT : PySem.W.nsIn K mainGlobals "TOP_DIGIT" = some (some (.int 9 uT))) (gN : PySem.W.nsIn K mainGlobals "NAMES" = some (some (.int 10 uN)))
    : ∃ fd : FuncData, (∀ (s : Shared) (v : Value), BindsTo s fd ⟨[v], []⟩ [("_law_script", v)]) ∧ ∀ base : Heap, K.In base → base.Ns mainGlobals mg → FnOk l.prog w K mg base CX0 10 fa fd ["_law_script"] (spLaw K) := by
  have e := hfa.symm.trans (PySem.W.mg_of X G a25)
  cases e
  have T : Gr K mg C := ⟨⟨pg, hd, po, sa⟩, n0, n1, n2, n3, n4, n5, n6, n7, PySem.W.mg_of X G aC⟩
  have F1 := fun_mk (st := sIsInteger) l1 c1 k1
  have F2 := fun_mk (st := sIsDigit) l2 c2 k2
  have F3 := fun_mk (st := sPlacesOf) l3 c3 k3
  have F4 := fun_mk (st := sNamesOf) l4 c4 k4
  have F5 := fun_mk (st := sPlaceOf) l5 c5 k5
  have F6 := fun_mk (st := sDirect) l6 c6 k6
  have F7 := fun_mk (st := sFollows) l7 c7 k7
  have F8 := fun_mk (st := sRound) l8 c8 k8
  have F9 := fun_mk (st := sIsRegime) l9 c9 k9
  have F10 := fun_mk (st := sReaches) l10 c10 k10
  have F11 := fun_mk (st := sRegimeOf) l11 c11 k11
  have F12 := fun_mk (st := sPutIn) l12 c12 k12
  have F13 := fun_mk (st := sWithWait) l13 c13 k13
  have F14 := fun_mk (st := sWithDrain) l14 c14 k14
  have F15 := fun_mk (st := sUnlike) l15 c15 k15
  have F16 := fun_mk (st := sMore) l16 c16 k16
  have F17 := fun_mk (st := sLPlaces) l17 c17 k17
  have F18 := fun_mk (st := sLNames) l18 c18 k18
  have F19 := fun_mk (st := sLFollows) l19 c19 k19
  have F20 := fun_mk (st := sLClosed) l20 c20 k20
  have F21 := fun_mk (st := sLCome) l21 c21 k21
  have F22 := fun_mk (st := sLSome) l22 c22 k22
  have F23 := fun_mk (st := sLAll) l23 c23 k23
  have F24 := fun_mk (st := sLIs) l24 c24 k24
  have F25 := fun_mk (st := sLaw) l25 c25 k25
  have F26 := fun_mk (st := sInit) l26 c26 k26
  have F27 := fun_mk (st := sAllDrained) l27 c27 k27
  have b1 := F1.binds (ps := ["value", "low", "high"]) fun _ _ _ _ _ _ us hl => match us, hl with | [_, _, _], _ => rfl
  have b2 := F2.binds (ps := ["value"]) fun _ _ _ _ _ _ us hl => match us, hl with | [_], _ => rfl
  have b3 := F3.binds (ps := ["plan"]) fun _ _ _ _ _ _ us hl => match us, hl with | [_], _ => rfl
  have b4 := F4.binds (ps := ["plan"]) fun _ _ _ _ _ _ us hl => match us, hl with | [_], _ => rfl
  have b5 := F5.binds (ps := ["plan", "name"]) fun _ _ _ _ _ _ us hl => match us, hl with | [_, _], _ => rfl
  have b6 := F6.binds (ps := ["plan", "waits", "drains"]) fun _ _ _ _ _ _ us hl => match us, hl with | [_, _, _], _ => rfl
  have b7 := F7.binds (ps := ["plan", "waits", "drains"]) fun _ _ _ _ _ _ us hl => match us, hl with | [_, _, _], _ => rfl
  have b8 := F8.binds (ps := ["pairs"]) fun _ _ _ _ _ _ us hl => match us, hl with | [_], _ => rfl
  have b9 := F9.binds (ps := ["plan", "waits", "drains"]) fun _ _ _ _ _ _ us hl => match us, hl with | [_, _, _], _ => rfl
  have b10 := F10.binds (ps := ["pairs", "one", "two"]) fun _ _ _ _ _ _ us hl => match us, hl with | [_, _, _], _ => rfl
  have b11 := F11.binds (ps := ["plan", "waits", "drains"]) fun _ _ _ _ _ _ us hl => match us, hl with | [_, _, _], _ => rfl
  have b12 := F12.binds (ps := ["pairs", "pair"]) fun _ _ _ _ _ _ us hl => match us, hl with | [_, _], _ => rfl
  have b13 := F13.binds (ps := ["plan", "regime", "pair"]) fun _ _ _ _ _ _ us hl => match us, hl with | [_, _, _], _ => rfl
  have b14 := F14.binds (ps := ["plan", "regime", "pair"]) fun _ _ _ _ _ _ us hl => match us, hl with | [_, _, _], _ => rfl
  have b15 := F15.binds (ps := ["plan"]) fun _ _ _ _ _ _ us hl => match us, hl with | [_], _ => rfl
  have b16 := F16.binds (ps := ["plan", "waits", "drains"]) fun _ _ _ _ _ _ us hl => match us, hl with | [_, _, _], _ => rfl
  have b17 := F17.binds (ps := ["_law_plan"]) fun _ _ _ _ _ _ us hl => match us, hl with | [_], _ => rfl
  have b18 := F18.binds (ps := ["_law_plan"]) fun _ _ _ _ _ _ us hl => match us, hl with | [_], _ => rfl
  have b19 := F19.binds (ps := ["_law_plan", "_law_pairs"]) fun _ _ _ _ _ _ us hl => match us, hl with | [_, _], _ => rfl
  have b20 := F20.binds (ps := ["_law_plan", "_law_waits", "_law_drains"]) fun _ _ _ _ _ _ us hl => match us, hl with | [_, _, _], _ => rfl
  have b21 := F21.binds (ps := ["_law_plan"]) fun _ _ _ _ _ _ us hl => match us, hl with | [_], _ => rfl
  have b22 := F22.binds (ps := ["_law_pairs"]) fun _ _ _ _ _ _ us hl => match us, hl with | [_], _ => rfl
  have b23 := F23.binds (ps := ["_law_plan", "_law_names"]) fun _ _ _ _ _ _ us hl => match us, hl with | [_, _], _ => rfl
  have b24 := F24.binds (ps := ["_law_plan", "_law_goal"]) fun _ _ _ _ _ _ us hl => match us, hl with | [_, _], _ => rfl
  have b26 := F26.binds (ps := ["self", "plan", "waits", "drains"]) fun _ _ _ _ _ _ us hl => match us, hl with | [_, _, _, _], _ => rfl
  have b27 := F27.binds (ps := ["self", "drains"]) fun _ _ _ _ _ _ us hl => match us, hl with | [_, _], _ => rfl
  have m_isinstance := PySem.W.mg_none_of X G z0
  have m_bool := PySem.W.mg_none_of X G z1
  have m_int := PySem.W.mg_none_of X G z2
  have m_enumerate := PySem.W.mg_none_of X G z3
  have m_tuple := PySem.W.mg_none_of X G z4
  have m_sorted := PySem.W.mg_none_of X G z5
  have m_zip := PySem.W.mg_none_of X G z6
  have m_range := PySem.W.mg_none_of X G z7
  have m_list := PySem.W.mg_none_of X G z8
  have m_dict := PySem.W.mg_none_of X G z9
  have m_set := PySem.W.mg_none_of X G z10
  have m_len := PySem.W.mg_none_of X G z11
  have m_abs := PySem.W.mg_none_of X G z12
  have mTop : ∃ t, mg "TOP_DIGIT" = some (.int 9 t) := ⟨_, PySem.W.mg_of X G gT⟩
  have mNam : ∃ t, mg "NAMES" = some (.int 10 t) := ⟨_, PySem.W.mg_of X G gN⟩
  refine ⟨PySem.W.fnOf "law" "law" (defArgs sLaw) (defBody sLaw) (defScope sLaw) .none kV25 dc25 pm25 an25 cd25 ct25, fun s v => .of_eq rfl, fun base _ _ => ?_⟩
  have D_is_integer : Df l.prog w K mg base "is_integer" 1 ["value", "low", "high"] spIsInteger := ⟨f1, _, ok_is_integer F1 m_isinstance m_bool m_int, PySem.W.mg_of X G a1, k1, b1⟩
  have D_is_digit : Df l.prog w K mg base "is_digit" 2 ["value"] spIsDigit := ⟨f2, _, ok_is_digit F2 D_is_integer mTop, PySem.W.mg_of X G a2, k2, b2⟩
  have D_places_of : Df l.prog w K mg base "places_of" 1 ["plan"] spPlaces := ⟨f3, _, ok_places F3 m_enumerate, PySem.W.mg_of X G a3, k3, b3⟩
  have D_names_of : Df l.prog w K mg base "names_of" 2 ["plan"] spNames := ⟨f4, _, ok_names F4 D_places_of m_tuple m_sorted, PySem.W.mg_of X G a4, k4, b4⟩
  have D_place_of : Df l.prog w K mg base "place_of" 3 ["plan", "name"] spPlace := ⟨f5, _, ok_place F5 D_places_of D_is_digit, PySem.W.mg_of X G a5, k5, b5⟩
  have D_direct_pairs : Df l.prog w K mg base "direct_pairs" 1 ["plan", "waits", "drains"] (spDirect w) := ⟨f6, _, ok_direct F6 m_zip, PySem.W.mg_of X G a6, k6, b6⟩
  have D_follows_of : Df l.prog w K mg base "follows_of" 2 ["plan", "waits", "drains"] (spFollows w) := ⟨f7, _, ok_follows F7 D_direct_pairs m_range mNam, PySem.W.mg_of X G a7, k7, b7⟩
  have D_round_name : Df l.prog w K mg base "round_name" 1 ["pairs"] (spRound w) := ⟨f8, _, ok_round F8 m_range mNam, PySem.W.mg_of X G a8, k8, b8⟩
  have D_is_regime : Df l.prog w K mg base "is_regime" 3 ["plan", "waits", "drains"] spIsRegime := ⟨f9, _, ok_is_regime F9 D_follows_of D_round_name, PySem.W.mg_of X G a9, k9, b9⟩
  have D_reaches : Df l.prog w K mg base "reaches" 1 ["pairs", "one", "two"] (spReaches w) := ⟨f10, _, ok_reaches F10, PySem.W.mg_of X G a10, k10, b10⟩
  have GA : FnOk l.prog w K mg base CX0 2 f27 _ ["self", "drains"] (spDrained w C) := ok_drained F27 T D_reaches m_list
  have GI : FnOk l.prog w K mg base CX0 4 f26 _ ["self", "plan", "waits", "drains"] (spInit C) := ok_init F26 T D_follows_of D_round_name D_names_of D_place_of GA b27 ⟨a27, i27, k27⟩ m_tuple m_sorted
  have D_regime_of : Df l.prog w K mg base "regime_of" 6 ["plan", "waits", "drains"] spRegimeOf := ⟨f11, _, ok_regime_of F11 T ⟨mk, a26, i26, kc⟩ GI b26, PySem.W.mg_of X G a11, k11, b11⟩
  have D_put_in : Df l.prog w K mg base "put_in" 1 ["pairs", "pair"] spPut := ⟨f12, _, ok_put F12 m_tuple m_sorted m_list, PySem.W.mg_of X G a12, k12, b12⟩
  have D_with_wait : Df l.prog w K mg base "with_wait" 7 ["plan", "regime", "pair"] spWW := ⟨f13, _, ok_ww F13 D_put_in D_is_regime D_regime_of, PySem.W.mg_of X G a13, k13, b13⟩
  have D_with_drain : Df l.prog w K mg base "with_drain" 7 ["plan", "regime", "pair"] spWD := ⟨f14, _, ok_wd F14 D_put_in D_is_regime D_regime_of, PySem.W.mg_of X G a14, k14, b14⟩
  have D_unlike_pairs : Df l.prog w K mg base "unlike_pairs" 4 ["plan"] spUnlike := ⟨f15, _, ok_unlike F15 D_names_of D_place_of, PySem.W.mg_of X G a15, k15, b15⟩
  have D_more_regimes : Df l.prog w K mg base "more_regimes" 8 ["plan", "waits", "drains"] spMore := ⟨f16, _, ok_more F16 D_regime_of D_unlike_pairs D_with_wait D_with_drain m_tuple m_sorted, PySem.W.mg_of X G a16, k16, b16⟩
  have D__law_places : Df l.prog w K mg base "_law_places" 1 ["_law_plan"] spPlaces := ⟨f17, _, ok_lplaces F17 m_enumerate m_dict, PySem.W.mg_of X G a17, k17, b17⟩
  have D__law_names_of : Df l.prog w K mg base "_law_names_of" 2 ["_law_plan"] spLNames := ⟨f18, _, ok_lnames F18 D__law_places m_sorted, PySem.W.mg_of X G a18, k18, b18⟩
  have D__law_follows : Df l.prog w K mg base "_law_follows" 1 ["_law_plan", "_law_pairs"] spLF := ⟨f19, _, ok_lfollows F19 m_range m_list m_zip m_tuple, PySem.W.mg_of X G a19, k19, b19⟩
  have D__law_closed : Df l.prog w K mg base "_law_closed" 3 ["_law_plan", "_law_waits", "_law_drains"] spLC := ⟨f20, _, ok_lclosed F20 D__law_follows D__law_names_of m_tuple m_sorted m_set, PySem.W.mg_of X G a20, k20, b20⟩
  have D__law_all_come_to : Df l.prog w K mg base "_law_all_come_to" 9 ["_law_plan"] (spLK w) := ⟨f21, _, ok_lcome F21 D_regime_of D_more_regimes m_zip, PySem.W.mg_of X G a21, k21, b21⟩
  have D__law_some_of : Df l.prog w K mg base "_law_some_of" 1 ["_law_pairs"] spLSL := ⟨f22, _, ok_lsomeL F22, PySem.W.mg_of X G a22, k22, b22⟩
  have D__law_some_of_t : Df l.prog w K mg base "_law_some_of" 1 ["_law_pairs"] spLST := ⟨f22, _, ok_lsomeT F22, PySem.W.mg_of X G a22, k22, b22⟩
  have D__law_all_closed : Df l.prog w K mg base "_law_all_closed" 4 ["_law_plan", "_law_names"] (spLAll w) := ⟨f23, _, ok_lall F23 D__law_some_of D__law_some_of_t D__law_closed m_sorted m_len, PySem.W.mg_of X G a23, k23, b23⟩
  have D__law_is_come_to : Df l.prog w K mg base "_law_is_come_to" 9 ["_law_plan", "_law_goal"] spLX := ⟨f24, _, ok_lis F24 D_regime_of D_more_regimes m_zip m_range, PySem.W.mg_of X G a24, k24, b24⟩
  exact ok_law F25 facts_all D__law_all_closed D__law_all_come_to D__law_is_come_to m_range m_int m_abs m_sorted m_set m_tuple m_len

end K82
open PySem PySem.W PyProof.Rows
set_option maxRecDepth 100000 in
set_option maxHeartbeats 0 in
theorem PySem.Challenge.cw_leavefirst_k82_whole_every_regime_come_t_holds : PySem.Challenge.rw_leavefirst_k82_whole_every_regime_come_t.Holds := by
  w_on; o_law; k_head; (case hw => w_witness2)
  k_fill
  refine L2.walk_of (l := PySem.Challenge.rw_leavefirst_k82_whole_every_regime_come_t) (n := 63) (k := 10) (x := "_law_script") (CX := fun _ => L2.CX0) (sp := fun w => K82.spLaw _) rfl (by decide) rfl ⟨rfl, by decide, by decide⟩ (fun w h Y => PySem.W.kIn_of Y) ?F (fun _ _ a ns hl _ hS => ⟨a, ns, rfl, hS, hl, fun _ => rfl⟩) (fun _ _ _ _ _ h => h)
  case F =>
    intro w mg fa h KX G hmg
    refine' K82.all_mk KX G hmg ?a1 ?l1 ?c1 ?k1 ?a2 ?l2 ?c2 ?k2 ?a3 ?l3 ?c3 ?k3 ?a4 ?l4 ?c4 ?k4 ?a5 ?l5 ?c5 ?k5 ?a6 ?l6 ?c6 ?k6 ?a7 ?l7 ?c7 ?k7 ?a8 ?l8 ?c8 ?k8 ?a9 ?l9 ?c9 ?k9 ?a10 ?l10 ?c10 ?k10 ?a11 ?l11 ?c11 ?k11 ?a12 ?l12 ?c12 ?k12 ?a13 ?l13 ?c13 ?k13 ?a14 ?l14 ?c14 ?k14 ?a15 ?l15 ?c15 ?k15 ?a16 ?l16 ?c16 ?k16 ?a17 ?l17 ?c17 ?k17 ?a18 ?l18 ?c18 ?k18 ?a19 ?l19 ?c19 ?k19 ?a20 ?l20 ?c20 ?k20 ?a21 ?l21 ?c21 ?k21 ?a22 ?l22 ?c22 ?k22 ?a23 ?l23 ?c23 ?k23 ?a24 ?l24 ?c24 ?k24 ?a25 ?l25 ?c25 ?k25 ?a26 ?i26 ?l26 ?c26 ?k26 ?a27 ?i27 ?l27 ?c27 ?k27 ?aC ?pg ?hd ?po ?sa ?mk ?kc ?n0 ?n1 ?n2 ?n3 ?n4 ?n5 ?n6 ?n7 ?z0 ?z1 ?z2 ?z3 ?z4 ?z5 ?z6 ?z7 ?z8 ?z9 ?z10 ?z11 ?z12 ?gT ?gN
    (case aC => k_is); (case a1 => k_is); (case l1 => k_is); (case c1 => k_is); (case k1 => k_is); (case a2 => k_is); (case l2 => k_is); (case c2 => k_is); (case k2 => k_is); (case a3 => k_is); (case l3 => k_is); (case c3 => k_is)
    (case k3 => k_is); (case a4 => k_is); (case l4 => k_is); (case c4 => k_is); (case k4 => k_is); (case a5 => k_is); (case l5 => k_is); (case c5 => k_is); (case k5 => k_is); (case a6 => k_is); (case l6 => k_is); (case c6 => k_is)
    (case k6 => k_is); (case a7 => k_is); (case l7 => k_is); (case c7 => k_is); (case k7 => k_is); (case a8 => k_is); (case l8 => k_is); (case c8 => k_is); (case k8 => k_is); (case a9 => k_is); (case l9 => k_is); (case c9 => k_is)
    (case k9 => k_is); (case a10 => k_is); (case l10 => k_is); (case c10 => k_is); (case k10 => k_is); (case a11 => k_is); (case l11 => k_is); (case c11 => k_is); (case k11 => k_is); (case a12 => k_is); (case l12 => k_is); (case c12 => k_is)
    (case k12 => k_is); (case a13 => k_is); (case l13 => k_is); (case c13 => k_is); (case k13 => k_is); (case a14 => k_is); (case l14 => k_is); (case c14 => k_is); (case k14 => k_is); (case a15 => k_is); (case l15 => k_is); (case c15 => k_is)
    (case k15 => k_is); (case a16 => k_is); (case l16 => k_is); (case c16 => k_is); (case k16 => k_is); (case a17 => k_is); (case l17 => k_is); (case c17 => k_is); (case k17 => k_is); (case a18 => k_is); (case l18 => k_is); (case c18 => k_is)
    (case k18 => k_is); (case a19 => k_is); (case l19 => k_is); (case c19 => k_is); (case k19 => k_is); (case a20 => k_is); (case l20 => k_is); (case c20 => k_is); (case k20 => k_is); (case a21 => k_is); (case l21 => k_is); (case c21 => k_is)
    (case k21 => k_is); (case a22 => k_is); (case l22 => k_is); (case c22 => k_is); (case k22 => k_is); (case a23 => k_is); (case l23 => k_is); (case c23 => k_is); (case k23 => k_is); (case a24 => k_is); (case l24 => k_is); (case c24 => k_is)
    (case k24 => k_is); (case a25 => k_is); (case l25 => k_is); (case c25 => k_is); (case k25 => k_is); (case a26 => k_is); (case i26 => k_is); (case l26 => k_is); (case c26 => k_is); (case k26 => k_is); (case a27 => k_is); (case i27 => k_is)
    (case l27 => k_is); (case c27 => k_is); (case k27 => k_is); (case pg => k_is); (case hd => k_is); (case po => k_is); (case sa => k_is); (case mk => k_is); (case kc => k_is); (case n0 => k_is); (case n1 => k_is); (case n2 => k_is)
    (case n3 => k_is); (case n4 => k_is); (case n5 => k_is); (case n6 => k_is); (case n7 => k_is); (case z0 => k_is); (case z1 => k_is); (case z2 => k_is); (case z3 => k_is); (case z4 => k_is); (case z5 => k_is); (case z6 => k_is)
    (case z7 => k_is); (case z8 => k_is); (case z9 => k_is); (case z10 => k_is); (case z11 => k_is); (case z12 => k_is); (case gT => k_is); (case gN => k_is)
