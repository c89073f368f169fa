/-
  Part 10 of the lemmas of these laws: DagFinds.
-/
import Derived.Test.YtinjiccnjjmofaaGreatDoorPDa9
namespace Go.Proofs.YtinjiccnjjmofaaGreatDoor.S
theorem nodup_len : ∀ {l m : List Nat}, l.Nodup → (∀ x ∈ l, x ∈ m) → l.length ≤ m.length
  | [], _, _, _ => Nat.zero_le _
  | x :: l, m, hn, hs => by
    have hx : x ∈ m := hs x (List.mem_cons_self ..)
    have h1 := List.nodup_cons.1 hn
    have h2 : l.length ≤ (m.erase x).length := nodup_len h1.2 (fun y hy => (List.mem_erase_of_ne (fun e => by subst e; exact h1.1 hy)).2 (hs y (List.mem_cons_of_mem _ hy)))
    rw [List.length_erase_of_mem hx] at h2
    have := List.length_pos_of_mem hx
    simp only [List.length_cons]
    omega
/-- Each one's names stand ahead of it. -/
def Seqd (P : Nat → List Nat) (l : List Nat) : Prop := ∀ i, i < l.length → ∀ p ∈ P (l.getD i 0), p ∈ l.take i
def Clsd (P : Nat → List Nat) (N : Nat) (l : List Nat) : Prop := ∀ i, i < N → (∀ p ∈ P i, p ∈ l) → i ∈ l
/-- There is an order of all. -/
def Found (P : Nat → List Nat) (N : Nat) : Prop := ∃ l : List Nat, l.Nodup ∧ (∀ x ∈ l, x < N) ∧ N ≤ l.length ∧ Seqd P l
theorem seqd_sub {P : Nat → List Nat} {N : Nat} {l m : List Nat} (hl : ∀ x ∈ l, x < N) (hs : Seqd P l) (hc : Clsd P N m) : ∀ i, i ≤ l.length → ∀ x ∈ l.take i, x ∈ m := by
  intro i
  induction i with
  | zero => intro _ x hx; simp at hx
  | succ i ih =>
    intro hi x hx
    rw [← List.take_append_getElem (by omega : i < l.length)] at hx
    rcases List.mem_append.1 hx with h | h
    · exact ih (by omega) x h
    · have e : x = l.getD i 0 := by rw [List.getD_eq_getElem?_getD, List.getElem?_eq_getElem (by omega)]; simpa using h
      subst e
      refine hc _ (hl _ ?_) (fun p hp => ih (by omega) p (hs i (by omega) p hp))
      rw [List.getD_eq_getElem?_getD, List.getElem?_eq_getElem (by omega)]
      exact List.getElem_mem (by omega)
theorem found_iff {P : Nat → List Nat} {N : Nat} {l : List Nat} (hn : l.Nodup) (hb : ∀ x ∈ l, x < N) (hs : Seqd P l) (hc : Clsd P N l) : Found P N ↔ ¬ l.length < N := by
  constructor
  · rintro ⟨m, m1, m2, m3, m4⟩ h
    have h1 := seqd_sub m2 m4 hc m.length (Nat.le_refl _)
    rw [List.take_length] at h1
    have := nodup_len m1 h1
    omega
  · intro h
    exact ⟨l, hn, hb, by omega, hs⟩
theorem getD_snoc (l : List Nat) (x i : Nat) : (l ++ [x]).getD i 0 = if i < l.length then l.getD i 0 else if i = l.length then x else 0 := by
  by_cases h : i < l.length
  · rw [if_pos h, List.getD_eq_getElem?_getD, List.getD_eq_getElem?_getD, List.getElem?_append_left h]
  · rw [if_neg h]
    by_cases e : i = l.length
    · subst e; simp
    · rw [if_neg e, List.getD_eq_getElem?_getD, List.getElem?_eq_none (by simp; omega)]; rfl
theorem Seqd.snoc {P : Nat → List Nat} {l : List Nat} {x d : Nat} (hs : Seqd P l) (hx : ∀ p ∈ P x, p ∈ l.take d) : Seqd P (l ++ [x]) := by
  intro i hi p hp
  rw [getD_snoc] at hp
  rw [List.length_append, List.length_singleton] at hi
  by_cases h : i < l.length
  · rw [if_pos h] at hp
    rw [List.take_append_of_le_length (by omega)]
    exact hs i h p hp
  · rw [if_neg h, if_pos (by omega)] at hp
    have := hx p hp
    rw [show i = l.length by omega, List.take_left]
    exact List.mem_of_mem_take this
/-- Who waits for a: of the first k, and of the next one j names of it. -/
def behS (P : Nat → List Nat) (k a : Nat) : List Nat := (List.range k).flatMap fun i => List.replicate ((P i).count a) i
theorem behS_succ (P : Nat → List Nat) (k a : Nat) : behS P (k + 1) a = behS P k a ++ List.replicate ((P k).count a) k := by
  unfold behS
  rw [List.range_succ, List.flatMap_append]
  simp
theorem behS_count (P : Nat → List Nat) (a i : Nat) : ∀ k, (behS P k a).count i = if i < k then (P i).count a else 0
  | 0 => by simp [behS]
  | k + 1 => by
    rw [behS_succ, List.count_append, behS_count P a i k, List.count_replicate]
    by_cases h : i < k
    · rw [if_pos h, if_pos (by omega : i < k + 1), if_neg (by simp; omega), Nat.add_zero]
    · by_cases e : i = k
      · subst e; simp
      · rw [if_neg h, if_neg (by omega : ¬ i < k + 1), if_neg (by simp; omega)]
theorem behS_lt (P : Nat → List Nat) (k a : Nat) : ∀ x ∈ behS P k a, x < k := by
  intro x hx
  obtain ⟨i, hi, hx⟩ := List.mem_flatMap.1 hx
  have := List.mem_range.1 hi
  have := (List.mem_replicate.1 hx).2
  omega
/-- How many names of one are not among some. -/
def leftS (D ps : List Nat) : Nat := ps.countP (fun p => decide (p ∉ D))
theorem leftS_nil (ps : List Nat) : leftS [] ps = ps.length := by
  unfold leftS
  rw [List.countP_eq_length]
  intro a _
  simp
theorem leftS_snoc (D : List Nat) (a : Nat) (ha : a ∉ D) : ∀ ps : List Nat, leftS D ps = leftS (D ++ [a]) ps + ps.count a
  | [] => by simp [leftS]
  | p :: ps => by
    have ih := leftS_snoc D a ha ps
    unfold leftS at ih ⊢
    rw [List.countP_cons, List.countP_cons, List.count_cons]
    by_cases e : p = a
    · subst e
      rw [if_pos (decide_eq_true ha), if_neg (by simp), if_pos (by simp)]; omega
    · rw [if_neg (by simpa using e) (c := (p == a) = true)]
      by_cases h : p ∈ D
      · rw [if_neg (by simp [h]), if_neg (by simp [h])]; omega
      · rw [if_pos (decide_eq_true h), if_pos (by simp [h, e])]; omega
theorem leftS_zero {D ps : List Nat} : leftS D ps = 0 ↔ ∀ p ∈ ps, p ∈ D := by
  unfold leftS
  rw [List.countP_eq_zero]
  simp
/-- The state of a queue of which d are done: w tells how many are waited for. -/
structure Kahn (P : Nat → List Nat) (N : Nat) (wt : Nat → Nat) (ready : List Nat) (d : Nat) : Prop where
  nd : ready.Nodup
  lt : ∀ x ∈ ready, x < N
  sq : Seqd P ready
  dl : d ≤ ready.length
  w : ∀ k, k < N → wt k = leftS (ready.take d) (P k)
  z : ∀ k, k < N → (k ∈ ready ↔ wt k = 0)
/-- The same while the next one is being done: q of those that wait for it were told. -/
structure KahnI (P : Nat → List Nat) (N : Nat) (wt : Nat → Nat) (ready : List Nat) (d q : Nat) : Prop where
  nd : ready.Nodup
  lt : ∀ x ∈ ready, x < N
  sq : Seqd P ready
  dl : d < ready.length
  w : ∀ k, k < N → wt k = leftS (ready.take (d + 1)) (P k) + ((behS P N (ready.getD d 0)).drop q).count k
  z : ∀ k, k < N → (k ∈ ready ↔ wt k = 0)
theorem getD_mem {l : List Nat} {d : Nat} (h : d < l.length) : l.getD d 0 ∈ l := by
  rw [List.getD_eq_getElem?_getD, List.getElem?_eq_getElem h]; exact List.getElem_mem h
theorem take_snoc_get (l : List Nat) (d : Nat) (h : d < l.length) : l.take (d + 1) = l.take d ++ [l.getD d 0] := by
  rw [← List.take_append_getElem h, List.getD_eq_getElem?_getD, List.getElem?_eq_getElem h]; rfl
theorem getD_notin {l : List Nat} (hn : l.Nodup) {d : Nat} (h : d < l.length) : l.getD d 0 ∉ l.take d := by
  have h1 : (l.take (d + 1)).Nodup := hn.sublist (List.take_sublist _ _)
  rw [take_snoc_get l d h, List.nodup_append] at h1
  intro hm
  exact h1.2.2 _ hm _ (List.mem_singleton.2 rfl) rfl
variable {P : Nat → List Nat} {N : Nat} {wt : Nat → Nat} {ready : List Nat} {d q : Nat}
theorem Kahn.first (P : Nat → List Nat) (N : Nat) (hw : ∀ k, k < N → wt k = (P k).length) (hr : ready = (List.range N).filter fun k => (P k).length = 0) : Kahn P N wt ready 0 := by
  subst hr
  refine ⟨List.nodup_range.sublist List.filter_sublist, fun x hx => List.mem_range.1 (List.mem_filter.1 hx).1, ?_, Nat.zero_le _, fun k hk => by rw [List.take_zero, leftS_nil, hw k hk], fun k hk => ?_⟩
  · intro i hi p hp
    have hm : ((List.range N).filter fun k => (P k).length = 0).getD i 0 ∈ (List.range N).filter fun k => (P k).length = 0 := by
      rw [List.getD_eq_getElem?_getD, List.getElem?_eq_getElem hi]; exact List.getElem_mem hi
    have h0 := (List.mem_filter.1 hm).2
    rw [decide_eq_true_iff, List.length_eq_zero_iff] at h0
    rw [h0] at hp
    cases hp
  · rw [hw k hk, List.mem_filter, decide_eq_true_iff]
    exact ⟨fun h => h.2, fun h => ⟨List.mem_range.2 hk, h⟩⟩
theorem Kahn.enter (h : Kahn P N wt ready d) (hd : d < ready.length) : KahnI P N wt ready d 0 := by
  refine ⟨h.nd, h.lt, h.sq, hd, fun k hk => ?_, h.z⟩
  rw [h.w k hk, leftS_snoc _ _ (getD_notin h.nd hd), take_snoc_get _ _ hd, List.drop_zero, behS_count, if_pos hk]
theorem KahnI.leave (h : KahnI P N wt ready d q) (hq : (behS P N (ready.getD d 0)).length ≤ q) : Kahn P N wt ready (d + 1) := by
  refine ⟨h.nd, h.lt, h.sq, h.dl, fun k hk => ?_, h.z⟩
  rw [h.w k hk, List.drop_of_length_le hq]; rfl
theorem drop_at (l : List Nat) (q : Nat) (hq : q < l.length) : l.drop q = l.getD q 0 :: l.drop (q + 1) := by
  rw [List.drop_eq_getElem_cons hq, List.getD_eq_getElem?_getD, List.getElem?_eq_getElem hq]; rfl
theorem KahnI.told (h : KahnI P N wt ready d q) (hq : q < (behS P N (ready.getD d 0)).length) {k : Nat} (hk : k = (behS P N (ready.getD d 0)).getD q 0) : k < N ∧ 0 < wt k := by
  have hm : k ∈ behS P N (ready.getD d 0) := by
    rw [hk]; exact getD_mem hq
  have hN := behS_lt P N _ k hm
  refine ⟨hN, ?_⟩
  rw [h.w k hN, drop_at _ q hq, ← hk, List.count_cons_self]
  omega
theorem KahnI.step (h : KahnI P N wt ready d q) (hq : q < (behS P N (ready.getD d 0)).length) {k : Nat} (hk : k = (behS P N (ready.getD d 0)).getD q 0) {wt' : Nat → Nat} (h1 : wt' k = wt k - 1) (h2 : ∀ i, i ≠ k → wt' i = wt i) :
    KahnI P N wt' (if wt' k = 0 then ready ++ [k] else ready) d (q + 1) := by
  obtain ⟨hN, hp⟩ := h.told hq hk
  have hnr : k ∉ ready := fun hm => by have := (h.z k hN).1 hm; omega
  have hw : ∀ i, i < N → wt' i = leftS (ready.take (d + 1)) (P i) + ((behS P N (ready.getD d 0)).drop (q + 1)).count i := by
    intro i hi
    have h3 := h.w i hi
    rw [drop_at _ q hq, ← hk, List.count_cons] at h3
    by_cases e : i = k
    · subst e; rw [h1, h3]; simp
    · rw [h2 i e, h3]
      have : (k == i) = false := by simp; omega
      rw [this]; simp
  split
  · rename_i h0
    have hg : (ready ++ [k]).getD d 0 = ready.getD d 0 := by rw [getD_snoc, if_pos h.dl]
    have ht : (ready ++ [k]).take (d + 1) = ready.take (d + 1) := List.take_append_of_le_length h.dl
    refine ⟨?_, ?_, ?_, ?_, ?_, ?_⟩
    · rw [List.nodup_append]
      refine ⟨h.nd, by simp, fun a ha b hb => ?_⟩
      rw [List.mem_singleton] at hb
      subst hb
      intro e; subst e; exact hnr ha
    · intro x hx
      rcases List.mem_append.1 hx with e | e
      · exact h.lt x e
      · rw [List.mem_singleton] at e; subst e; exact hN
    · refine h.sq.snoc (d := d + 1) (fun p hp => ?_)
      have h4 := hw k hN
      rw [h0] at h4
      exact leftS_zero.1 (by omega) p hp
    · rw [List.length_append]; exact Nat.lt_add_right _ h.dl
    · intro i hi; rw [hg, ht]; exact hw i hi
    · intro i hi
      rw [List.mem_append, List.mem_singleton]
      by_cases e : i = k
      · subst e; simp [h0]
      · rw [h2 i e, ← h.z i hi]; simp [e]
  · rename_i h0
    refine ⟨h.nd, h.lt, h.sq, h.dl, hw, fun i hi => ?_⟩
    by_cases e : i = k
    · subst e; simp [h0, hnr]
    · rw [h2 i e]; exact h.z i hi
theorem Kahn.last (h : Kahn P N wt ready d) (hd : d = ready.length) : Found P N ↔ ¬ d < N := by
  rw [hd]
  refine found_iff h.nd h.lt h.sq (fun i hi hp => ?_)
  rw [h.z i hi, h.w i hi, hd, List.take_length]
  exact leftS_zero.2 hp
end Go.Proofs.YtinjiccnjjmofaaGreatDoor.S
namespace Go.Proofs.YtinjiccnjjmofaaGreatDoor.S
open G
theorem cmpS_trans : ∀ {a b c : List Int}, cmpS a b < 0 → cmpS b c < 0 → cmpS a c < 0
  | [], [], _, h, _ => by simp [cmpS] at h
  | [], _ :: _, [], _, h => by simp [cmpS] at h
  | [], _ :: _, _ :: _, _, _ => by simp [cmpS]
  | _ :: _, [], _, h, _ => by simp [cmpS] at h
  | _ :: _, _ :: _, [], _, h => by simp [cmpS] at h
  | x :: xs, y :: ys, z :: zs, h1, h2 => by
    have ih := @cmpS_trans xs ys zs
    simp only [cmpS] at h1 h2 ⊢
    by_cases a1 : x < y <;> by_cases a2 : y < x <;> by_cases b1 : y < z <;> by_cases b2 : z < y <;> simp only [a1, a2, b1, b2, if_true, if_false] at h1 h2
    all_goals first | omega | (rw [if_pos (by omega)]; decide) | (rw [if_neg (by omega), if_neg (by omega)]; exact ih h1 h2)
theorem rising_lt {m : Nat} {ids : List Int} (h : Rising m ids) (i : Nat) : ∀ j, i < j → j < m → cmpS (idAt ids i) (idAt ids j) < 0
  | 0, hi, _ => by omega
  | j + 1, hi, hj => by
    have h1 := h j (by omega)
    by_cases e : i = j
    · subst e; exact h1
    · exact cmpS_trans (rising_lt h i j (by omega) (by omega)) h1
theorem cmpS_self (a : List Int) : cmpS a a = 0 := (cmpS_eq a a).2 rfl
theorem rising_inj {m : Nat} {ids : List Int} (h : Rising m ids) {i j : Nat} (hi : i < m) (hj : j < m) (e : idAt ids i = idAt ids j) : i = j := by
  rcases Nat.lt_trichotomy i j with h1 | h1 | h1
  · have := rising_lt h i j h1 hj; rw [e, cmpS_self] at this; omega
  · exact h1
  · have := rising_lt h j i h1 hi; rw [e, cmpS_self] at this; omega
/-- An id stands among some. -/
def inS (m : Nat) (ids x : List Int) : Prop := ∃ i, i < m ∧ idAt ids i = x
def ixS (m : Nat) (ids x : List Int) : Nat := ((List.range m).find? fun i => decide (idAt ids i = x)).getD 0
theorem ix_in {m : Nat} {ids x : List Int} (h : inS m ids x) : ixS m ids x < m ∧ idAt ids (ixS m ids x) = x := by
  obtain ⟨i, hi, e⟩ := h
  unfold ixS
  cases hf : (List.range m).find? fun i => decide (idAt ids i = x) with
  | none => rw [List.find?_eq_none] at hf; exact absurd (decide_eq_true e) (hf i (List.mem_range.2 hi))
  | some j =>
    have h1 := List.find?_some hf
    exact ⟨List.mem_range.1 (List.mem_of_find?_eq_some hf), of_decide_eq_true h1⟩
theorem ix_eq {m : Nat} {ids : List Int} (h : Rising m ids) {i : Nat} (hi : i < m) : ixS m ids (idAt ids i) = i := by
  have := ix_in (m := m) (ids := ids) (x := idAt ids i) ⟨i, hi, rfl⟩
  exact rising_inj h this.1 hi this.2
theorem ix_first {m : Nat} {ids x : List Int} {i : Nat} (hi : i < m) (e : idAt ids i = x) (hf : ∀ j, j < i → idAt ids j ≠ x) : ixS m ids x = i := by
  have h1 := ix_in ⟨i, hi, e⟩
  unfold ixS at *
  cases hq : (List.range m).find? fun i => decide (idAt ids i = x) with
  | none => rw [List.find?_eq_none] at hq; exact absurd (decide_eq_true e) (hq i (List.mem_range.2 hi))
  | some j =>
    rw [hq] at h1
    simp only [Option.getD_some] at h1 ⊢
    rcases Nat.lt_trichotomy i j with h | h | h
    · rw [List.find?_range_eq_some] at hq
      have := hq.2.2 i h
      simp [e] at this
    · exact h.symm
    · exact absurd h1.2 (hf j h)
instance (m : Nat) (ids x : List Int) : Decidable (inS m ids x) := decidable_of_iff (∃ i ∈ List.range m, idAt ids i = x) ⟨fun ⟨i, h, e⟩ => ⟨i, List.mem_range.1 h, e⟩, fun ⟨i, h, e⟩ => ⟨i, List.mem_range.2 h, e⟩⟩
/-- All that n ids name stands among m. -/
def allI (m : Nat) (ids : List Int) (n : Nat) (ps : List Int) : Prop := ∀ j, j < n → inS m ids (idAt ps j)
instance (m : Nat) (ids : List Int) (n : Nat) (ps : List Int) : Decidable (allI m ids n ps) := by unfold allI; infer_instance
/-- A place found in ids that increase. -/
def Spot (m : Nat) (ids x : List Int) (at_ : Nat) : Prop := at_ ≤ m ∧ (∀ i, i < at_ → cmpS (idAt ids i) x < 0) ∧ (∀ i, at_ ≤ i → i < m → 0 ≤ cmpS (idAt ids i) x)
theorem Spot.has {m : Nat} {ids x : List Int} {p : Nat} (h : Spot m ids x p) (hr : Rising m ids) : inS m ids x ↔ p < m ∧ cmpS (idAt ids p) x = 0 := by
  constructor
  · rintro ⟨i, hi, e⟩
    have hz : cmpS (idAt ids i) x = 0 := (cmpS_eq _ _).2 e
    have hp : p ≤ i := by
      apply Classical.byContradiction
      intro hn
      have := h.2.1 i (by omega)
      omega
    rcases Nat.lt_or_eq_of_le hp with h1 | h1
    · have h2 := rising_lt hr p i h1 hi
      have h3 := h.2.2 p (Nat.le_refl _) (by omega)
      rw [e] at h2
      omega
    · subst h1; exact ⟨hi, hz⟩
  · rintro ⟨h1, h2⟩
    exact ⟨p, h1, (cmpS_eq _ _).1 h2⟩
/-- Halving. -/
structure Half (m : Nat) (ids x : List Int) (i j : Int) : Prop where
  r : 0 ≤ i ∧ i ≤ j ∧ j ≤ m
  lo : ∀ k, k < i.toNat → cmpS (idAt ids k) x < 0
  hi : ∀ k, j.toNat ≤ k → k < m → 0 ≤ cmpS (idAt ids k) x
theorem Half.first (m : Nat) (ids x : List Int) : Half m ids x 0 m := ⟨by omega, fun k h => by omega, fun k h h2 => by omega⟩
theorem Half.up {m : Nat} {ids x : List Int} {i j h : Int} (H : Half m ids x i j) (hr : Rising m ids) (h1 : i ≤ h) (h2 : h < j) (hc : cmpS (idAt ids h.toNat) x < 0) : Half m ids x (h + 1) j := by
  have := H.r
  refine ⟨by omega, fun k hk => ?_, H.hi⟩
  by_cases e : k = h.toNat
  · subst e; exact hc
  · exact cmpS_trans (rising_lt hr k h.toNat (by omega) (by omega)) hc
theorem Half.down {m : Nat} {ids x : List Int} {i j h : Int} (H : Half m ids x i j) (hr : Rising m ids) (h1 : i ≤ h) (h2 : h < j) (hc : ¬ cmpS (idAt ids h.toNat) x < 0) : Half m ids x i h := by
  have := H.r
  refine ⟨by omega, H.lo, fun k hk hm => ?_⟩
  by_cases e : k = h.toNat
  · subst e; omega
  · have h3 := rising_lt hr h.toNat k (by omega) hm
    apply Classical.byContradiction
    intro hn
    exact hc (cmpS_trans h3 (by omega))
theorem Half.spot {m : Nat} {ids x : List Int} {i j : Int} (H : Half m ids x i j) (h : ¬ i < j) : Spot m ids x i.toNat := by
  have := H.r
  exact ⟨by omega, H.lo, fun k h1 h2 => H.hi k (by omega) h2⟩
/-- The operations that one waits for. -/
def prS (m : Nat) (ids : List Int) (ops : List OpV) (i : Nat) : List Nat := (List.range (ops.getD i OpV.zero).n).map fun j => ixS m ids (idAt (ops.getD i OpV.zero).ids j)
def opensS (m : Nat) (ids : List Int) (ops : List OpV) : Prop := ∀ i, i < ops.length → allI m ids (ops.getD i OpV.zero).n (ops.getD i OpV.zero).ids
instance (m : Nat) (ids : List Int) (ops : List OpV) : Decidable (opensS m ids ops) := by unfold opensS; infer_instance
noncomputable instance (P : Nat → List Nat) (N : Nat) : Decidable (Found P N) := Classical.propDecidable _
noncomputable def shapeS (m : Nat) (ids : List Int) (ops : List OpV) : Int := if ¬ Rising m ids then 32 else if ¬ opensS m ids ops then 40 else if Found (prS m ids ops) ops.length then 0 else 36
/-- An operation that is signed, with its id. -/
def ownS (o : OpV) (x : List Int) : Prop := verE o = 0 ∧ sha (encS o) = x
instance (o : OpV) (x : List Int) : Decidable (ownS o x) := by unfold ownS; infer_instance
def ownsS (ids : List Int) (ops : List OpV) : Prop := ∀ i, i < ops.length → ownS (ops.getD i OpV.zero) (idAt ids i)
instance (ids : List Int) (ops : List OpV) : Decidable (ownsS ids ops) := by unfold ownsS; infer_instance
noncomputable def chkG (m : Nat) (ids : List Int) (ops : List OpV) : Int := if 60 < ops.length then 4 else if m ≠ ops.length then 8 else if ¬ ownsS ids ops then 8 else shapeS m ids ops
theorem verE_check {o : OpV} (h : verE o = 0) : checkE o = 0 := by
  unfold verE at h
  split at h
  · assumption
  · exact h
theorem chkG_zero {m : Nat} {ids : List Int} {ops : List OpV} : chkG m ids ops = 0 ↔ ops.length ≤ 60 ∧ m = ops.length ∧ ownsS ids ops ∧ Rising m ids ∧ opensS m ids ops ∧ Found (prS m ids ops) ops.length := by
  unfold chkG shapeS
  constructor
  · intro h
    repeat' (first | (split at h))
    all_goals first | (exact absurd h (by decide)) | skip
    rename_i a1 a2 a3 a4 a5 a6
    exact ⟨by omega, Decidable.not_not.1 a2, Decidable.not_not.1 a3, Decidable.not_not.1 a4, Decidable.not_not.1 a5, a6⟩
  · rintro ⟨a1, a2, a3, a4, a5, a6⟩
    rw [if_neg (by omega), if_neg (by omega), if_neg (not_not_intro a3), if_neg (not_not_intro a4), if_neg (not_not_intro a5), if_pos a6]
end Go.Proofs.YtinjiccnjjmofaaGreatDoor.S
namespace Go.Proofs.YtinjiccnjjmofaaGreatDoor.S
open G
/-- The first place from which on something is not negative. -/
def spotC (m : Nat) (c : Nat → Int) : Nat := ((List.range m).find? fun i => decide (0 ≤ c i)).getD m
theorem spotC_eq {m : Nat} {c : Nat → Int} {p : Nat} (h1 : p ≤ m) (h2 : ∀ i, i < p → c i < 0) (h3 : p < m → 0 ≤ c p) : spotC m c = p := by
  unfold spotC
  cases hf : (List.range m).find? fun i => decide (0 ≤ c i) with
  | none =>
    rw [List.find?_eq_none] at hf
    simp only [Option.getD_none]
    apply Classical.byContradiction
    intro hn
    have := hf p (List.mem_range.2 (by omega))
    simp only [decide_eq_true_eq] at this
    exact this (h3 (by omega))
  | some j =>
    simp only [Option.getD_some]
    have hj := List.find?_some hf
    simp only [decide_eq_true_eq] at hj
    have hm := List.mem_range.1 (List.mem_of_find?_eq_some hf)
    rcases Nat.lt_trichotomy j p with h | h | h
    · have := h2 j h; omega
    · exact h
    · rw [List.find?_range_eq_some] at hf
      have := hf.2.2 p h
      have h4 := h3 (by omega)
      simp [h4] at this
theorem spotC_le (m : Nat) (c : Nat → Int) : spotC m c ≤ m := by
  unfold spotC
  cases hf : (List.range m).find? fun i => decide (0 ≤ c i) with
  | none => exact Nat.le_refl _
  | some j => exact Nat.le_of_lt (List.mem_range.1 (List.mem_of_find?_eq_some hf))
theorem spotC_lt {m : Nat} {c : Nat → Int} {i : Nat} (h : i < spotC m c) : c i < 0 := by
  have hl := spotC_le m c
  unfold spotC at h hl
  cases hf : (List.range m).find? fun i => decide (0 ≤ c i) with
  | none =>
    rw [hf] at h hl
    rw [List.find?_eq_none] at hf
    have := hf i (List.mem_range.2 (by simp at h; omega))
    simp only [decide_eq_true_eq] at this
    omega
  | some j =>
    rw [hf] at h
    rw [List.find?_range_eq_some] at hf
    have := hf.2.2 i (by simpa using h)
    simpa using this
theorem spotC_ge {m : Nat} {c : Nat → Int} (h : spotC m c < m) : 0 ≤ c (spotC m c) := by
  unfold spotC at h ⊢
  cases hf : (List.range m).find? fun i => decide (0 ≤ c i) with
  | none => rw [hf] at h; simp at h
  | some j => simpa using List.find?_some hf
def MonoC (m : Nat) (c : Nat → Int) : Prop := ∀ i j, i < j → j < m → c j < 0 → c i < 0
structure HalfC (m : Nat) (c : Nat → Int) (i j : Int) : Prop where
  r : 0 ≤ i ∧ i ≤ j ∧ j ≤ m
  lo : ∀ k, k < i.toNat → c k < 0
  hi : ∀ k, j.toNat ≤ k → k < m → 0 ≤ c k
theorem HalfC.first (m : Nat) (c : Nat → Int) : HalfC m c 0 m := ⟨by omega, fun k h => by omega, fun k h h2 => by omega⟩
theorem HalfC.up {m : Nat} {c : Nat → Int} {i j h : Int} (H : HalfC m c i j) (hm : MonoC m c) (h1 : i ≤ h) (h2 : h < j) (hc : c h.toNat < 0) : HalfC m c (h + 1) j := by
  have := H.r
  refine ⟨by omega, fun k hk => ?_, H.hi⟩
  by_cases e : k = h.toNat
  · subst e; exact hc
  · exact hm k h.toNat (by omega) (by omega) hc
theorem HalfC.down {m : Nat} {c : Nat → Int} {i j h : Int} (H : HalfC m c i j) (hm : MonoC m c) (h1 : i ≤ h) (h2 : h < j) (hc : ¬ c h.toNat < 0) : HalfC m c i h := by
  have := H.r
  refine ⟨by omega, H.lo, fun k hk hm2 => ?_⟩
  by_cases e : k = h.toNat
  · subst e; omega
  · apply Classical.byContradiction
    intro hn
    exact hc (hm h.toNat k (by omega) hm2 (by omega))
theorem HalfC.spot {m : Nat} {c : Nat → Int} {i j : Int} (H : HalfC m c i j) (h : ¬ i < j) : i = (spotC m c : Nat) := by
  have := H.r
  have e : spotC m c = i.toNat := spotC_eq (by omega) H.lo fun hl => H.hi _ (by omega) hl
  omega
/-- The place of an id among ids that increase. -/
def spotS (m : Nat) (ids x : List Int) : Nat := spotC m fun i => cmpS (idAt ids i) x
theorem mono_ids {m : Nat} {ids x : List Int} (hr : Rising m ids) : MonoC m fun i => cmpS (idAt ids i) x := fun i j hij hj hc => cmpS_trans (rising_lt hr i j hij hj) hc
theorem spotS_has {m : Nat} {ids x : List Int} (hr : Rising m ids) : inS m ids x ↔ spotS m ids x < m ∧ cmpS (idAt ids (spotS m ids x)) x = 0 := by
  refine Spot.has ⟨spotC_le _ _, fun i hi => spotC_lt hi, fun i h1 h2 => ?_⟩ hr
  have h3 : 0 ≤ cmpS (idAt ids (spotS m ids x)) x := spotC_ge (c := fun i => cmpS (idAt ids i) x) (Nat.lt_of_le_of_lt h1 h2)
  apply Classical.byContradiction
  intro hn
  have hn : cmpS (idAt ids i) x < 0 := by omega
  rcases Nat.lt_or_eq_of_le h1 with h | h
  · have h4 : cmpS (idAt ids (spotS m ids x)) x < 0 := mono_ids (x := x) hr _ _ h h2 hn
    omega
  · have e : i = spotS m ids x := h.symm
    rw [e] at hn
    omega
theorem spotS_ix {m : Nat} {ids x : List Int} (hr : Rising m ids) (h : inS m ids x) : spotS m ids x = ixS m ids x := by
  obtain ⟨h1, h2⟩ := (spotS_has hr).1 h
  have h3 := ix_in h
  exact rising_inj hr h1 h3.1 (by rw [h3.2]; exact (cmpS_eq _ _).1 h2)
/-- What a graph has with an id. -/
noncomputable def getE (m : Nat) (ids : List Int) (ops : List OpV) (x : List Int) : Int := if chkG m ids ops ≠ 0 then chkG m ids ops else if inS m ids x then 0 else 6
noncomputable def getO (m : Nat) (ids : List Int) (ops : List OpV) (x : List Int) : OpV := if chkG m ids ops ≠ 0 then OpV.zero else if inS m ids x then ops.getD (ixS m ids x) OpV.zero else OpV.zero
end Go.Proofs.YtinjiccnjjmofaaGreatDoor.S
namespace Go.Proofs.YtinjiccnjjmofaaGreatDoor.S
open G
def castL (l : List Nat) : List Int := l.map fun n : Nat => (n : Int)
theorem castL_len (l : List Nat) : (castL l).length = l.length := List.length_map _
theorem castL_get (l : List Nat) (i : Nat) : (castL l).getD i 0 = (l.getD i 0 : Nat) := by
  unfold castL
  rw [List.getD_eq_getElem?_getD, List.getD_eq_getElem?_getD, List.getElem?_map]
  cases l[i]? <;> simp
theorem castL_snoc (l : List Nat) (x : Nat) : castL (l ++ [x]) = castL l ++ [(x : Int)] := by simp [castL]
/-- Who waits for a: of the first i, and of the next one j names of it. -/
def behJ (P : Nat → List Nat) (i j a : Nat) : List Nat := behS P i a ++ List.replicate (((P i).take j).count a) i
theorem behJ_zero (P : Nat → List Nat) (i a : Nat) : behJ P i 0 a = behS P i a := by simp [behJ]
theorem behJ_full (P : Nat → List Nat) (i j a : Nat) (h : (P i).length ≤ j) : behJ P i j a = behS P (i + 1) a := by
  rw [behJ, behS_succ, List.take_of_length_le h]
theorem behJ_succ (P : Nat → List Nat) (i j a : Nat) (h : j < (P i).length) : behJ P i (j + 1) a = if a = (P i).getD j 0 then behJ P i j a ++ [i] else behJ P i j a := by
  unfold behJ
  rw [take_snoc_get _ _ h, List.count_append, List.count_singleton]
  by_cases e : a = (P i).getD j 0
  · rw [if_pos e, ← e]
    simp [List.replicate_succ']
  · rw [if_neg e, if_neg (by simpa using fun h => e h.symm), Nat.add_zero]
theorem flatMap_le {α : Type} (f : Nat → List α) (k : Nat) : ∀ n, (∀ i, i < n → (f i).length ≤ k) → ((List.range n).flatMap f).length ≤ k * n
  | 0, _ => by simp
  | n + 1, h => by
    rw [List.range_succ, List.flatMap_append, List.length_append, Nat.mul_add]
    have := flatMap_le f k n fun i hi => h i (by omega)
    have := h n (by omega)
    rw [List.flatMap_cons, List.flatMap_nil, List.append_nil, Nat.mul_one]
    omega
theorem behJ_len (P : Nat → List Nat) (i j a k : Nat) (h : ∀ i, (P i).length ≤ k) : (behJ P i j a).length ≤ k * (i + 1) := by
  unfold behJ behS
  rw [List.length_append, List.length_replicate, Nat.mul_add, Nat.mul_one]
  have h1 := flatMap_le (fun i' => List.replicate ((P i').count a) i') k i fun i' _ => by rw [List.length_replicate]; exact Nat.le_trans List.count_le_length (h i')
  have h2 := Nat.le_trans (List.count_le_length (l := (P i).take j) (a := a)) (List.length_take_le _ _)
  have h3 : ((P i).take j).count a ≤ (P i).length := Nat.le_trans List.count_le_length (by rw [List.length_take]; omega)
  have := h i
  omega
/-- The slices of those that wait. -/
structure ShQ (P : Nat → List Nat) (N i j : Nat) (qs : List Pc) : Prop where
  len : qs.length = N
  xs : ∀ (a : Nat) (q : Pc), qs[a]? = some q → q.xs = castL (behJ P i j a) ∧ q.n = q.xs.length
theorem ShQ.first (P : Nat → List Nat) (N : Nat) : ShQ P N 0 0 (List.replicate N default) := ⟨by simp, fun a q h => by
  obtain rfl := (List.mem_replicate.1 (List.mem_of_getElem? h)).2
  exact ⟨by simp only [behJ, behS, castL, List.range_zero, List.flatMap_nil, List.take_zero, List.count_nil, List.replicate_zero, List.append_nil, List.map_nil]; rfl, rfl⟩⟩
theorem ShQ.step {P : Nat → List Nat} {N i j : Nat} {qs : List Pc} (h : ShQ P N i j qs) (hj : j < (P i).length) {at_ : Nat} {q : Pc} (hq : qs[at_]? = some q) (ha : at_ = (P i).getD j 0) (a' : Option Addr) (c' : Nat) : ShQ P N i (j + 1) (qs.set at_ ⟨a', q.n + 1, c', q.xs ++ [(i : Int)]⟩) := by
  have h0 := h.xs _ _ hq
  refine ⟨by rw [List.length_set]; exact h.len, fun a q' h' => ?_⟩
  rw [List.getElem?_set] at h'
  rw [behJ_succ P i j a hj, ← ha]
  split at h'
  · rename_i e
    subst e
    split at h'
    · obtain rfl := Option.some.inj h'
      rw [if_pos rfl, castL_snoc, ← h0.1]
      exact ⟨rfl, by simp [h0.2]⟩
    · cases h'
  · rename_i e
    rw [if_neg (fun e2 => e e2.symm)]
    exact h.xs a q' h'
theorem ShQ.next {P : Nat → List Nat} {N i j : Nat} {qs : List Pc} (h : ShQ P N i j qs) (hj : (P i).length ≤ j) : ShQ P N (i + 1) 0 qs := ⟨h.len, fun a q hq => by rw [behJ_zero, ← behJ_full P i j a hj]; exact h.xs a q hq⟩
theorem ShQ.get {P : Nat → List Nat} {N i j a : Nat} {qs : List Pc} (h : ShQ P N i j qs) (ha : a < N) : ∃ q, qs[a]? = some q := ⟨_, List.getElem?_eq_getElem (by rw [h.len]; exact ha)⟩
theorem set_get (ws : List Int) (i k : Nat) (v : Int) (h : i < ws.length) : (ws.set i v).getD k 0 = if k = i then v else ws.getD k 0 := by
  rw [List.getD_eq_getElem?_getD, List.getD_eq_getElem?_getD, List.getElem?_set]
  by_cases e : i = k
  · subst e; simp [h]
  · rw [if_neg e, if_neg (fun e2 => e e2.symm)]
/-- How many are waited for, when the first i were looked at. -/
structure ShW (P : Nat → List Nat) (N i : Nat) (ws : List Int) : Prop where
  len : ws.length = N
  w : ∀ k, k < N → ws.getD k 0 = if k < i then ((P k).length : Int) else 0
theorem ShW.first (P : Nat → List Nat) (N : Nat) : ShW P N 0 (List.replicate N 0) := ⟨by simp, fun k hk => by rw [List.getD_eq_getElem?_getD, List.getElem?_replicate, if_pos hk]; rfl⟩
theorem ShW.step {P : Nat → List Nat} {N i : Nat} {ws : List Int} (h : ShW P N i ws) (hi : i < N) : ShW P N (i + 1) (ws.set i ((P i).length : Int)) := ⟨by rw [List.length_set]; exact h.len, fun k hk => by
  rw [set_get _ _ _ _ (by rw [h.len]; exact hi), h.w k hk]
  by_cases e : k = i
  · subst e; simp
  · rw [if_neg e]
    by_cases h2 : k < i
    · rw [if_pos h2, if_pos (by omega)]
    · rw [if_neg h2, if_neg (by omega)]⟩
def zeroP (P : Nat → List Nat) (i : Nat) : List Nat := (List.range i).filter fun k => (P k).length = 0
theorem zeroP_succ (P : Nat → List Nat) (i : Nat) : zeroP P (i + 1) = if (P i).length = 0 then zeroP P i ++ [i] else zeroP P i := by
  unfold zeroP
  rw [List.range_succ, List.filter_append]
  by_cases h : (P i).length = 0
  · rw [if_pos h, List.filter_cons, if_pos (by simpa using h)]; rfl
  · rw [if_neg h, List.filter_cons, if_neg (by simpa using h)]; simp
def wtS (ws : List Int) (k : Nat) : Nat := (ws.getD k 0).toNat
theorem ShW.kahn {P : Nat → List Nat} {N : Nat} {ws : List Int} (h : ShW P N N ws) : Kahn P N (wtS ws) (zeroP P N) 0 := Kahn.first P N (fun k hk => by unfold wtS; rw [h.w k hk, if_pos hk]; rfl) rfl
theorem Kahn.le {P : Nat → List Nat} {N d : Nat} {wt : Nat → Nat} {rd : List Nat} (h : Kahn P N wt rd d) : rd.length ≤ N := by
  have := nodup_len (l := rd) (m := List.range N) h.nd fun x hx => List.mem_range.2 (h.lt x hx)
  simpa using this
theorem KahnI.le {P : Nat → List Nat} {N d q : Nat} {wt : Nat → Nat} {rd : List Nat} (h : KahnI P N wt rd d q) : rd.length ≤ N := by
  have := nodup_len (l := rd) (m := List.range N) h.nd fun x hx => List.mem_range.2 (h.lt x hx)
  simpa using this
theorem KahnI.down {P : Nat → List Nat} {N d q : Nat} {ws : List Int} {rd : List Nat} (h : KahnI P N (wtS ws) rd d q) (hl : ws.length = N) (hq : q < (behS P N (rd.getD d 0)).length) {k : Nat} (hk : k = (behS P N (rd.getD d 0)).getD q 0) :
    KahnI P N (wtS (ws.set k (ws.getD k 0 - 1))) (if ws.getD k 0 - 1 = 0 then rd ++ [k] else rd) d (q + 1) := by
  obtain ⟨h1, h2⟩ := h.told hq hk
  have hw : wtS ws k = (ws.getD k 0).toNat := rfl
  have e1 : wtS (ws.set k (ws.getD k 0 - 1)) k = wtS ws k - 1 := by
    unfold wtS; rw [set_get _ _ _ _ (by rw [hl]; exact h1), if_pos rfl]; omega
  have := h.step hq hk (wt' := wtS (ws.set k (ws.getD k 0 - 1))) e1 fun i hi => by unfold wtS; rw [set_get _ _ _ _ (by rw [hl]; exact h1), if_neg hi]
  rw [e1] at this
  by_cases hz : ws.getD k 0 - 1 = 0
  · rw [if_pos hz]; rw [if_pos (by omega)] at this; exact this
  · rw [if_neg hz]; rw [if_neg (by omega)] at this; exact this
/-- The first i ids increase. -/
def RisS (ids : List Int) (i : Nat) : Prop := ∀ k, k + 1 < i → cmpS (idAt ids k) (idAt ids (k + 1)) < 0
theorem shape_32 {m : Nat} {ids : List Int} {ops : List OpV} {i : Nat} (hi : i + 1 < m) (h : 0 ≤ cmpS (idAt ids i) (idAt ids (i + 1))) : shapeS m ids ops = 32 := by
  unfold shapeS; rw [if_pos fun hr => ?_]
  have := hr i (by omega); omega
theorem shape_40 {m : Nat} {ids : List Int} {ops : List OpV} {i j : Nat} (hr : Rising m ids) (hi : i < ops.length) (hj : j < (ops.getD i OpV.zero).n) (h : ¬ inS m ids (idAt (ops.getD i OpV.zero).ids j)) : shapeS m ids ops = 40 := by
  unfold shapeS; rw [if_neg (not_not_intro hr), if_pos fun ho => h (ho i hi j hj)]
theorem shape_end {m d : Nat} {ids : List Int} {ops : List OpV} (hr : Rising m ids) (ho : opensS m ids ops) (hf : Found (prS m ids ops) ops.length ↔ ¬ d < ops.length) : shapeS m ids ops = if d < ops.length then 36 else 0 := by
  unfold shapeS; rw [if_neg (not_not_intro hr), if_neg (not_not_intro ho)]
  by_cases h : d < ops.length
  · rw [if_neg (fun e => hf.1 e h), if_pos h]
  · rw [if_pos (hf.2 h), if_neg h]
theorem prS_len (m : Nat) (ids : List Int) (ops : List OpV) (i : Nat) : (prS m ids ops i).length = (ops.getD i OpV.zero).n := by simp [prS]
theorem prS_get (m : Nat) (ids : List Int) (ops : List OpV) (i j : Nat) (h : j < (ops.getD i OpV.zero).n) : (prS m ids ops i).getD j 0 = ixS m ids (idAt (ops.getD i OpV.zero).ids j) := by
  unfold prS
  rw [List.getD_eq_getElem?_getD, List.getElem?_map, List.getElem?_range h]; rfl
end Go.Proofs.YtinjiccnjjmofaaGreatDoor.S
namespace Go.Proofs.YtinjiccnjjmofaaGreatDoor.W
open Go.RowKit Go.Proofs.YtinjiccnjjmofaaGreatDoor.G
theorem tup2 {a a' b b' : Value} (h : a = a') (k : b = b') : Value.tuple #[a, b] = .tuple #[a', b'] := by rw [h, k]
theorem beq_dec {a b : Int} {p : Prop} [Decidable p] (h : a = b ↔ p) : (a == b) = decide p := by rw [Bool.eq_iff_iff]; simpa using h
/-- An operation, and where its predecessors lie. -/
structure OpA where
  (o : S.OpV) (pa : Option Addr) (pc : Nat)
@[reducible] def opC (z : OpA) : List Value := [.int .u32 z.o.au, .slice z.pa z.o.n z.pc, .int .u64 z.o.st, .int .u8 z.o.k, .string z.o.key, .int .u8 z.o.vk, .int .i64 z.o.num, .int .u64 z.o.bits, .string z.o.t, .int .u32 z.o.e, .int .u32 z.o.s]
@[reducible] def opI (z : OpA) : List Inn := [⟨.u8, 32, z.pa, z.o.n, z.pc, z.o.ids⟩]
/-- An operation that can be read. -/
structure OpR (S0 : Nat → Prop) (w : World) (z : OpA) : Prop where
  ok : z.o.ok
  row : WRow .u8 32 S0 w z.pa z.o.n z.o.ids
  cap : z.o.n ≤ z.pc
/-- A graph, and where its parts lie. -/
structure GrA where
  (ia oa : Option Addr) (m n ic oc : Nat) (ids : List Int) (zs : List OpA)
@[reducible] def grC (g : GrA) : List Value := [.slice g.ia g.m g.ic, .slice g.oa g.n g.oc]
def GrA.ops (g : GrA) : List S.OpV := g.zs.map OpA.o
/-- A graph that can be read. -/
structure GrR (S0 : Nat → Prop) (w : World) (g : GrA) : Prop where
  ids : WRow .u8 32 S0 w g.ia g.m g.ids
  ops : GRow opC 11 S0 w g.oa g.n g.zs
  inn : Inns opI S0 w g.zs
  ok : ∀ z ∈ g.zs, z.o.ok
  cap : g.m ≤ g.ic ∧ g.n ≤ g.oc ∧ g.m ≤ 70 ∧ g.n ≤ 70
section
variable {S0 : Nat → Prop} {w w' : World} {z : OpA} {g : GrA}
theorem OpR.ext (h : OpR S0 w z) (x : Ext w w') : OpR S0 w' z := ⟨h.ok, h.row.ext x, h.cap⟩
theorem GrR.ext (h : GrR S0 w g) (x : Ext w w') : GrR S0 w' g := ⟨h.ids.ext x, h.ops.ext x, h.inn.ext x, h.ok, h.cap⟩
theorem GrR.op (h : GrR S0 w g) {i : Nat} (hz : g.zs[i]? = some z) : OpR S0 w z :=
  have hm := List.mem_of_getElem? hz
  have h1 := h.inn z hm ⟨.u8, 32, z.pa, z.o.n, z.pc, z.o.ids⟩ (List.mem_singleton.2 rfl)
  ⟨h.ok z hm, h1.1, h1.2⟩
theorem GrR.len (h : GrR S0 w g) : g.ops.length = g.n := (List.length_map _).trans h.ops.len
theorem GrA.opAt {i : Nat} (hz : g.zs[i]? = some z) : g.ops.getD i S.OpV.zero = z.o := by
  unfold GrA.ops; rw [List.getD_eq_getElem?_getD, List.getElem?_map, hz]; rfl
end
end Go.Proofs.YtinjiccnjjmofaaGreatDoor.W
namespace Go.Proofs.YtinjiccnjjmofaaGreatDoor.W
set_option pp.deepTerms true
set_option pp.maxSteps 1000000
open Go.RowKit Go.Proofs.YtinjiccnjjmofaaGreatDoor.G
set_option linter.unusedVariables false
set_option linter.unusedSimpArgs false
set_option maxRecDepth 20000
set_option maxHeartbeats 8000000
attribute [local irreducible] RS RX RY Code.wp bodyPost J Ent.blk Ent.irow Ent.iown Ent.wrow Ent.wown Ent.grow Ent.gown Ent.all Ent.emp
instance : Und Tryz.prog 22 (.slice 27) := ⟨Tryz.underlying22⟩
instance : Und Tryz.prog 3 (.int .i64) := ⟨Tryz.underlying3⟩
instance : Und Tryz.prog 199 (.int .u64) := ⟨Tryz.underlying199⟩
instance : Siz Tryz.prog 27 32 := ⟨by kernel_rfl⟩
instance : Agg Tryz.prog 27 32 := ⟨_, Tryz.underlying27, rfl, by kernel_rfl⟩
instance : Und Tryz.prog 27 (.array 32 5) := ⟨Tryz.underlying27⟩
instance : Ents Tryz.prog 106 := ⟨.mk Tryz.func106 (by kernel_rfl) rfl⟩
instance : Fld Tryz.prog 25 0 0 := ⟨_, _, 1, Tryz.underlying25, rfl, by kernel_rfl, by decide, rfl⟩
instance : Sca Tryz.prog 22 := ⟨_, Tryz.underlying22, rfl⟩
instance : Ents Tryz.prog 105 := ⟨.mk Tryz.func105 (by kernel_rfl) rfl⟩
instance : Inf Tryz.prog 25 2 48 [.slice none 0 0, .slice none 0 0] := ⟨TI.of (v := .agg #[.slice none 0 0, .slice none 0 0]) (by kernel_rfl) rfl⟩
instance : SInf Tryz.prog 25 [(0, 1), (1, 1)] := ⟨_, Tryz.underlying25, by kernel_rfl, by kernel_rfl⟩
instance : Siz Tryz.prog 25 2 := ⟨by kernel_rfl⟩
instance : Agg Tryz.prog 25 2 := ⟨_, Tryz.underlying25, rfl, by kernel_rfl⟩
theorem bsID {S0 : Nat → Prop} (a : Option Addr) (n c : Nat) (ids x : List Int) (w : World) (D0 : WRow .u8 32 S0 w a n ids) (hx : Arr .u8 32 x) (hr : S.Rising n ids) (hn : n ≤ 70) :
  Calls Tryz.prog 105 #[.slice a n c, .agg (ints .u8 x).toArray, .func (.func 106) #[] #[]] w (Ret w fun v _ => v = .tuple #[.int .i64 (S.spotS n ids x : Nat), .bool (decide (S.inS n ids x))]) := by
 refine J.enter 46 Tryz.func105 rfl rfl ?_
 refine run ?_
 refine J.box rfl rfl rfl fun b1 => ?_
 refine run ?_
 refine J.loopS (A := Int × Int) (fun p => [(9, .int .i64 p.1), (10, .int .i64 p.2)]) [11, 15, 16, 17, 18, 19, 20, 21, 22, 23, 24, 25, 26, 27, 28, 29, 30, 31, 32, 33, 34] (fun p => S.HalfC n (fun i => S.cmpS (S.idAt ids i) x) p.1 p.2) (fun p => (p.2 - p.1).toNat) (0, n) (by kernel_rfl) (S.HalfC.first _ _) (fun p j hI => ?_)
 have hh := hI.r
 refine run ?_
 refine J.ifd rfl (fun c1 => ?_) (fun c1 => ?_)
 ·refine run ?_
  refine J.regionX [(0, .q), (1, .q), (2, .q), (3, .q), (4, .q), (5, .q), (6, .e), (7, .q)] mixed (by kernel_rfl) ?_
  refine run ?_
  refine J.callvp rfl rfl rfl (fun w' M => dcmp _ _ (D0.elt_arr (by omega)) hx w') ?_
  refine run ?_
  refine J.ifd rfl (fun c2 => ?_) (fun c2 => ?_)
  ·refine run ?_
   exact J.nextS ((p.1 + p.2) / 2 + 1, p.2) ⟨rfl, rfl, trivial⟩ (by kernel_rfl) (hI.up (S.mono_ids hr) (by omega) (by omega) c2) (by dsimp only; omega)
  refine run ?_
  exact J.nextS (p.1, (p.1 + p.2) / 2) ⟨rfl, rfl, trivial⟩ (by kernel_rfl) (hI.down (S.mono_ids hr) (by omega) (by omega) c2) (by dsimp only; omega)
 have he : p.1 = (S.spotS n ids x : Nat) := hI.spot c1
 have hs := S.spotS_has (x := x) hr
 refine run ?_
 refine J.regionX [(0, .q), (1, .q), (2, .q), (3, .q), (4, .q), (5, .q), (6, .q), (7, .q), (8, .q), (9, .q), (10, .q), (11, .e), (12, .q), (13, .q), (14, .q), (15, .q)] mixed (by kernel_rfl) ?_
 refine run ?_
 refine J.spd rfl rfl rfl (fun c2 => ?_) (fun c2 => ?_)
 ·refine run ?_
  refine J.callvp rfl rfl rfl (fun w' M => dcmp _ _ (D0.elt_arr (by omega)) hx w') ?_
  refine run ?_
  refine J.fin ?_
  rw [he]
  exact tup2 rfl (congrArg _ (beq_dec ⟨fun h => hs.2 ⟨by omega, h⟩, fun h => (hs.1 h).2⟩))
 refine run ?_
 refine J.fin ?_
 rw [he]
 exact tup2 rfl (congrArg _ (decide_eq_false fun h => by have := (hs.1 h).1; omega).symm)
theorem dagFind {S0 : Nat → Prop} (g : GrA) (x : List Int) (w : World) (D0 : WRow .u8 32 S0 w g.ia g.m g.ids) (hx : Arr .u8 32 x) (hr : S.Rising g.m g.ids) (hn : g.m ≤ 70) :
  Calls Tryz.prog 55 #[.agg (grC g).toArray, .agg (ints .u8 x).toArray] w (Ret w fun v _ => v = .tuple #[.int .i64 (S.spotS g.m g.ids x : Nat), .bool (decide (S.inS g.m g.ids x))]) := by
 refine J.enter 10 Tryz.func55 rfl rfl ?_
 refine run ?_
 refine J.box rfl rfl rfl fun b1 => ?_
 refine run ?_
 refine J.box rfl rfl rfl fun b2 => ?_
 refine run ?_
 refine J.callp rfl rfl (fun w' M => bsID _ _ _ _ _ _ (D0.ext M.ext) hx hr hn) ?_
 refine run ?_
 exact J.fin rfl
theorem dagNew (w : World) : Calls Tryz.prog 16 #[] w (Ret w fun v _ => v = .agg #[.slice none 0 0, .slice none 0 0]) := by
 refine J.enter 2 Tryz.func16 rfl rfl ?_
 refine run ?_
 refine J.alloc rfl fun b1 => ?_
 refine run ?_
 exact J.fin rfl
end Go.Proofs.YtinjiccnjjmofaaGreatDoor.W
namespace Go.Proofs.YtinjiccnjjmofaaGreatDoor.W
set_option pp.deepTerms true
set_option pp.maxSteps 1000000
open Go.RowKit Go.Proofs.YtinjiccnjjmofaaGreatDoor.G
set_option linter.unusedVariables false
set_option linter.unusedSimpArgs false
set_option maxRecDepth 20000
set_option maxHeartbeats 8000000
attribute [local irreducible] RS RX RY Code.wp bodyPost J Ent.blk Ent.irow Ent.iown Ent.wrow Ent.wown Ent.grow Ent.gown Ent.all Ent.emp
instance : Fld Tryz.prog 25 1 1 := ⟨_, _, 1, Tryz.underlying25, rfl, by kernel_rfl, by decide, rfl⟩
instance : Sca Tryz.prog 23 := ⟨_, Tryz.underlying23, rfl⟩
instance : Und Tryz.prog 23 (.slice 43) := ⟨Tryz.underlying23⟩
instance : Und Tryz.prog 162 (.slice 3) := ⟨Tryz.underlying162⟩
instance : Inf Tryz.prog 3 1 8 [.int .i64 0] := ⟨TI.of (v := .int .i64 0) (by kernel_rfl) rfl⟩
instance : Siz Tryz.prog 3 1 := ⟨by kernel_rfl⟩
instance : Und Tryz.prog 177 (.slice 162) := ⟨Tryz.underlying177⟩
instance : Inf Tryz.prog 162 1 24 [.slice none 0 0] := ⟨TI.of (v := .slice none 0 0) (by kernel_rfl) rfl⟩
instance : Siz Tryz.prog 162 1 := ⟨by kernel_rfl⟩
instance : Siz Tryz.prog 43 11 := ⟨by kernel_rfl⟩
instance : Agg Tryz.prog 43 11 := ⟨_, Tryz.underlying43, rfl, by kernel_rfl⟩
instance : Inf Tryz.prog 43 11 112 [.int .u32 0, .slice none 0 0, .int .u64 0, .int .u8 0, .string .empty, .int .u8 0, .int .i64 0, .int .u64 0, .string .empty, .int .u32 0, .int .u32 0] := ⟨TI.of (v := .agg #[.int .u32 0, .slice none 0 0, .int .u64 0, .int .u8 0, .string .empty, .int .u8 0, .int .i64 0, .int .u64 0, .string .empty, .int .u32 0, .int .u32 0]) (by kernel_rfl) rfl⟩
instance : Fld Tryz.prog 43 1 1 := ⟨_, _, 1, Tryz.underlying43, rfl, by kernel_rfl, by decide, rfl⟩
instance : Inf Tryz.prog 27 32 32 (ints .u8 (List.replicate 32 0)) := ⟨TI.of (v := .agg ((ints .u8 (List.replicate 32 0))).toArray) (by kernel_rfl) rfl⟩
instance : Ents Tryz.prog 55 := ⟨.mk Tryz.func55 (by kernel_rfl) rfl⟩
instance : Sca Tryz.prog 162 := ⟨_, Tryz.underlying162, rfl⟩
instance : Sca Tryz.prog 3 := ⟨_, Tryz.underlying3, rfl⟩
structure ShP where
 (i : Int) (ws rs : List Int) (qs : List Pc) (a : Option Addr) (n c : Nat)
theorem dagShape {S0 : Nat → Prop} (g : GrA) (w : World) (G : GrR S0 w g) (he : g.m = g.n) (hn : g.n ≤ 60) :
  Calls Tryz.prog 61 #[.agg (grC g).toArray] w (Ret w fun v _ => v = .int .i64 (S.shapeS g.m g.ids g.ops)) := by
 have D0 := G.ids
 have G0 := G.ops
 have hl := G.len
 obtain ⟨P, hP⟩ := ex (S.prS g.m g.ids g.ops)
 have hPl : ∀ i, (P i).length = (g.ops.getD i S.OpV.zero).n := fun i => by rw [hP, S.prS_len]
 have hPg : ∀ i j, j < (g.ops.getD i S.OpV.zero).n → (P i).getD j 0 = S.ixS g.m g.ids (S.idAt (g.ops.getD i S.OpV.zero).ids j) := fun i j h => by rw [hP, S.prS_get _ _ _ _ _ h]
 have hn20 : ∀ i, (g.ops.getD i S.OpV.zero).n ≤ 20 := fun i => by
  rw [List.getD_eq_getElem?_getD]
  cases h : g.ops[i]? with
  | none => exact Nat.zero_le _
  | some o =>
   unfold GrA.ops at h
   rw [List.getElem?_map] at h
   obtain ⟨z, hz, rfl⟩ := Option.map_eq_some_iff.1 h
   exact (G.ok z (List.mem_of_getElem? hz)).n
 refine J.enter 132 Tryz.func61 rfl rfl ?_
 refine run ?_
 refine J.box rfl rfl rfl fun b1 => ?_
 refine run ?_
 refine J.loopS (A := Int) (fun p => [(3, .int .i64 p)]) [2, 16, 17, 18, 19, 20, 21, 22, 23, 24, 25, 26, 27, 28, 29, 30, 31, 32, 33, 34, 35] (fun p => 1 ≤ p ∧ (p ≤ g.m ∨ p = 1) ∧ S.RisS g.ids p.toNat) (fun p => (g.m + 1 - p).toNat) 1 (by kernel_rfl) ⟨by decide, .inr rfl, fun k hk => by omega⟩ (fun p j hI => ?_)
 obtain ⟨h1, h2, h3⟩ := hI
 refine run ?_
 refine J.ifd rfl (fun c1 => ?_) (fun c1 => ?_)
 ·refine run ?_
  refine J.regionX [(0, .q), (1, .q), (2, .q), (3, .q), (4, .q), (5, .q), (6, .q), (7, .q), (8, .q), (9, .q), (10, .q), (11, .e), (12, .q)] mixed (by kernel_rfl) ?_
  refine run ?_
  refine J.callp rfl rfl (fun w' M => dcmp _ _ (D0.elt_arr (by omega)) (D0.elt_arr (by omega)) w') ?_
  refine run ?_
  have e : p.toNat = (p - 1).toNat + 1 := by omega
  refine J.ifd rfl (fun c2 => ?_) (fun c2 => ?_)
  ·refine run ?_
   refine J.fin ?_
   rw [S.shape_32 (i := (p - 1).toNat) (by omega) (by rw [e] at c2; exact c2)]
  refine run ?_
  refine J.nextS (p + 1) ⟨rfl, trivial⟩ (by kernel_rfl) ⟨by omega, .inl (by omega), fun k hk => ?_⟩ (by omega)
  by_cases hk2 : k + 1 < p.toNat
  ·exact h3 k hk2
  obtain rfl : k = (p - 1).toNat := by omega
  rw [e] at c2
  exact Int.not_le.1 c2
 have hr : S.Rising g.m g.ids := fun i hi => h3 i (by omega)
 refine run ?_
 refine J.mkI rfl rfl rfl fun bw => ?_
 refine run ?_
 refine J.mkG pcC default (fun _ => rfl) rfl rfl rfl rfl fun bb => ?_
 refine run ?_
 refine J.nilI 3 .i64 ?_
 refine J.newA ((List.replicate g.n default).map (pcE 3 .i64)) ?_ fun w => sep_nils _ _ _ _
 refine J.loop (A := ShP) (fun p => [(6, .slice p.a p.n p.c), (47, .int .i64 p.i)]) [2, 7, 8, 10, 11, 12, 48, 49, 50, 51, 52, 53, 54, 55, 56, 57, 58, 59, 60, 61, 62, 63, 64, 65, 66, 67, 68, 69, 70, 71, 72, 73, 74, 75, 76, 77, 78, 79, 80, 81, 82, 83, 84, 85, 86, 87, 88, 89, 90, 91, 92, 93] (fun p => [.all (p.qs.map (pcE 3 .i64)), .iown 3 .i64 p.a p.n p.c p.rs, .gown pcC 1 162 (some ⟨bb, 0, none⟩) g.n g.n p.qs, .iown 3 .i64 (some ⟨bw, 0, none⟩) g.n g.n p.ws, .blk b1 (grC g) 25])
  (fun p => (0 ≤ p.i ∧ p.i ≤ g.n) ∧ S.ShQ P g.n p.i.toNat 0 p.qs ∧ S.ShW P g.n p.i.toNat p.ws ∧ p.rs = S.castL (S.zeroP P p.i.toNat) ∧ p.n = p.rs.length ∧ ∀ k, k < p.i.toNat → S.allI g.m g.ids (g.ops.getD k S.OpV.zero).n (g.ops.getD k S.OpV.zero).ids)
  (fun p => g.n - p.i.toNat) ⟨0, List.replicate g.n 0, [], List.replicate g.n default, none, 0, 0⟩ (by kernel_rfl) ⟨by dsimp only; omega, S.ShQ.first _ _, S.ShW.first _ _, rfl, rfl, fun k hk => by simp at hk⟩ (fun p j hI => ?_)
 obtain ⟨i1, iq, iw, ir, il, io⟩ := hI
 refine run ?_
 refine J.ifd rfl (fun c2 => ?_) (fun c2 => ?_)
 ·obtain ⟨z, hz⟩ := G0.ex (i := p.i) (by omega)
  have R := G.op hz
  have hzo := GrA.opAt hz
  have h20 := R.ok.n
  have hPz := hPl p.i.toNat
  rw [hzo] at hPz
  refine run ?_
  refine J.alloc rfl fun b2 => ?_
  refine run ?_
  refine J.loop (A := Int × List Pc) (fun p2 => [(55, .int .i64 p2.1)]) [2, 10, 11, 12, 56, 57, 58, 59, 60, 61, 62, 63, 64, 65, 66, 67, 68, 69, 70, 71, 72, 73, 74, 75, 76, 77] (fun p2 => [.blk b2 (opC z) 43, .all (p2.2.map (pcE 3 .i64)), .iown 3 .i64 p.a p.n p.c p.rs, .gown pcC 1 162 (some ⟨bb, 0, none⟩) g.n g.n p2.2, .iown 3 .i64 (some ⟨bw, 0, none⟩) g.n g.n p.ws, .blk b1 (grC g) 25])
   (fun p2 => (0 ≤ p2.1 ∧ p2.1 ≤ z.o.n) ∧ S.ShQ P g.n p.i.toNat p2.1.toNat p2.2 ∧ ∀ k, k < p2.1.toNat → S.inS g.m g.ids (S.idAt z.o.ids k)) (fun p2 => z.o.n - p2.1.toNat) (0, p.qs) (by kernel_rfl) ⟨by dsimp only; omega, iq, fun k hk => by simp at hk⟩ (fun p2 j2 hI2 => ?_)
  obtain ⟨k1, kq, ki⟩ := hI2
  have D1 := R.row
  refine run ?_
  refine J.ifd rfl (fun c3 => ?_) (fun c3 => ?_)
  ·refine run ?_
   refine J.alloc rfl fun b3 => ?_
   have hx := D1.elt_arr (i := p2.1.toNat) (by omega)
   refine run ?_
   refine J.callp rfl rfl (fun w' M => dagFind g _ w' (D0.ext M.ext) hx hr (by omega)) ?_
   refine run ?_
   refine J.ifnot rfl (fun c4 => ?_) (fun c4 => ?_)
   ·refine run ?_
    refine J.fin ?_
    rw [S.shape_40 (i := p.i.toNat) (j := p2.1.toNat) hr (by omega) (by rw [hzo]; omega) (by rw [hzo]; exact of_decide_eq_false c4)]
   have hin := of_decide_eq_true c4
   have hlt := ((S.spotS_has hr).1 hin).1
   have hat := S.spotS_ix hr hin
   obtain ⟨q, hq⟩ := kq.get (a := S.spotS g.m g.ids (elt 32 z.o.ids p2.1.toNat)) (by omega)
   refine run ?_


   refine J.b1 rfl rfl fun b4 => ?_
   refine J.openP 3 .i64 p2.2 hq ?_
   have hbl := S.behJ_len P p.i.toNat p2.1.toNat (S.spotS g.m g.ids (elt 32 z.o.ids p2.1.toNat)) 20 (fun i => by rw [hPl]; exact hn20 i)
   have hqx := kq.xs _ _ hq
   have hqn : q.n ≤ 20 * 61 := by
    rw [hqx.2, hqx.1, S.castL_len]
    have : p.i.toNat + 1 ≤ 61 := by omega
    omega
   refine J.apI rfl rfl RI.own' fun a' c' => ?_
   refine run ?_
   refine J.stG1 rfl rfl (q := ⟨a', q.n + 1, c', q.xs ++ [p.i]⟩) rfl ?_
   refine J.shutP 3 .i64 p2.2 (S.spotS g.m g.ids (elt 32 z.o.ids p2.1.toNat)) ⟨a', q.n + 1, c', q.xs ++ [p.i]⟩ (by rw [kq.len]; omega) ?_
   refine run ?_
   refine J.next (p2.1 + 1, p2.2.set (S.spotS g.m g.ids (elt 32 z.o.ids p2.1.toNat)) ⟨a', q.n + 1, c', q.xs ++ [p.i]⟩) ⟨rfl, trivial⟩ (by kernel_rfl) ?_ (by dsimp only; omega)
   have e1 : (p2.1 + 1).toNat = p2.1.toNat + 1 := by omega
   have e2 : p.i = (p.i.toNat : Nat) := by omega
   refine ⟨by dsimp only; omega, ?_, fun k hk => ?_⟩
   ·dsimp only
    rw [e1, e2]
    exact kq.step (by omega) hq (by rw [hPg _ _ (by rw [hzo]; omega), hzo]; exact hat) a' c'
   dsimp only at hk
   rcases Nat.lt_or_ge k p2.1.toNat with h | h
   ·exact ki k h
   obtain rfl : k = p2.1.toNat := by omega
   exact hin
  have hj : (P p.i.toNat).length ≤ p2.1.toNat := by omega
  have e1 : (p.i + 1).toNat = p.i.toNat + 1 := by omega
  have e2 : ((P p.i.toNat).length : Int) = z.o.n := by omega
  have hws := iw.step (by omega)
  rw [e2] at hws
  have hzs := S.zeroP_succ P p.i.toNat
  have hop : ∀ k, k < p.i.toNat + 1 → S.allI g.m g.ids (g.ops.getD k S.OpV.zero).n (g.ops.getD k S.OpV.zero).ids := fun k hk => by
   rcases Nat.lt_or_ge k p.i.toNat with h | h
   ·exact io k h
   obtain rfl : k = p.i.toNat := by omega
   rw [hzo]
   exact fun j hj => ki j (by omega)
  refine run ?_
  have hg := S.set_get p.ws p.i.toNat p.i.toNat (z.o.n : Int) (by rw [iw.len]; omega)
  rw [if_pos rfl] at hg
  have hzl : (S.zeroP P p.i.toNat).length ≤ p.i.toNat := by
   have := List.length_filter_le (fun k => decide ((P k).length = 0)) (List.range p.i.toNat)
   rw [List.length_range] at this
   exact this
  have hpl : p.n ≤ 60 := by rw [il, ir, S.castL_len]; omega
  refine J.ife rfl (fun c4 => ?_) (fun c4 => ?_)
  ·rw [hg] at c4
   refine run ?_
   refine J.b1 rfl rfl fun b4 => ?_
   refine J.apI rfl rfl RI.own' fun a' c' => ?_
   refine run ?_
   refine J.next ⟨p.i + 1, p.ws.set p.i.toNat z.o.n, p.rs ++ [p.i], p2.2, a', p.n + 1, c'⟩ ⟨rfl, rfl, trivial⟩ (by kernel_rfl) ?_ (by dsimp only; omega)
   dsimp only
   rw [e1]
   refine ⟨by omega, kq.next hj, hws, ?_, by rw [il]; simp, hop⟩
   rw [hzs, if_pos (by omega), S.castL_snoc, ir]
   congr 2
   omega
  rw [hg] at c4
  refine run ?_
  refine J.next ⟨p.i + 1, p.ws.set p.i.toNat z.o.n, p.rs, p2.2, p.a, p.n, p.c⟩ ⟨rfl, rfl, trivial⟩ (by kernel_rfl) ?_ (by dsimp only; omega)
  dsimp only
  rw [e1]
  exact ⟨by omega, kq.next hj, hws, by rw [hzs, if_neg (by omega), ir], il, hop⟩
 have ei : p.i.toNat = g.n := by omega
 rw [ei] at iq iw ir io
 have K0 := iw.kahn
 have hop : S.opensS g.m g.ids g.ops := fun k hk => io k (by omega)
 refine run ?_
 refine J.loop (A := ShP) (fun p => [(6, .slice p.a p.n p.c), (13, .int .i64 p.i)]) [15, 94, 95, 96, 97, 98, 99, 100, 101, 102, 103, 104, 105, 106, 107, 108, 109, 110, 111, 112, 113, 114, 115, 116, 117, 118, 119, 120, 121, 122, 123, 124, 125, 126, 127] (fun p' => [.all (p.qs.map (pcE 3 .i64)), .iown 3 .i64 p'.a p'.n p'.c p'.rs, .gown pcC 1 162 (some ⟨bb, 0, none⟩) g.n g.n p.qs, .iown 3 .i64 (some ⟨bw, 0, none⟩) g.n g.n p'.ws, .blk b1 (grC g) 25])
  (fun p' => 0 ≤ p'.i ∧ p'.ws.length = g.n ∧ ∃ rd, p'.rs = S.castL rd ∧ p'.n = rd.length ∧ S.Kahn P g.n (S.wtS p'.ws) rd p'.i.toNat) (fun p' => g.n - p'.i.toNat) ⟨0, p.ws, p.rs, [], p.a, p.n, p.c⟩ (by kernel_rfl) ⟨Int.le_refl _, iw.len, _, ir, by rw [il, ir, S.castL_len], K0⟩ (fun p3 j3 hI3 => ?_)
 obtain ⟨m1, m2, rd, m3, m4, m5⟩ := hI3
 have m6 := m5.le
 have m7 := m5.dl
 refine run ?_
 refine J.ifd rfl (fun c3 => ?_) (fun c3 => ?_)
 ·have hd : p3.i.toNat < rd.length := by omega
  obtain ⟨r0, hr0⟩ := ex (p3.rs.getD p3.i.toNat 0)
  obtain ⟨kk, hkk⟩ := ex (rd.getD p3.i.toNat 0)
  have hv : r0 = kk := by rw [hr0, m3, S.castL_get, hkk]
  have hkn : kk < g.n := by rw [hkk]; exact m5.lt _ (S.getD_mem hd)
  have hrk : r0.toNat = kk := by omega
  obtain ⟨q, hq⟩ := iq.get hkn
  have hqx := iq.xs _ _ hq
  rw [S.behJ_zero] at hqx
  have hql : q.n = (S.behS P g.n kk).length := by rw [hqx.2, hqx.1, S.castL_len]
  have hqb := S.behJ_len P g.n 0 kk 20 (fun i => by rw [hPl]; exact hn20 i)
  rw [S.behJ_zero] at hqb
  have hq' : p.qs[r0.toNat]? = some q := by rw [hrk]; exact hq
  have hr1 : 0 ≤ r0 ∧ r0 < g.n := by omega
  refine run ?_
  refine J.loop (A := ShP) (fun p => [(6, .slice p.a p.n p.c), (108, .int .i64 p.i)]) [15, 109, 110, 111, 112, 113, 114, 115, 116, 117, 118, 119, 120, 121, 122, 123, 124, 125, 126, 127] (fun p' => [.all (p.qs.map (pcE 3 .i64)), .iown 3 .i64 p'.a p'.n p'.c p'.rs, .gown pcC 1 162 (some ⟨bb, 0, none⟩) g.n g.n p.qs, .iown 3 .i64 (some ⟨bw, 0, none⟩) g.n g.n p'.ws, .blk b1 (grC g) 25])
   (fun p' => (0 ≤ p'.i ∧ p'.i ≤ q.n) ∧ p'.ws.length = g.n ∧ ∃ rd, p'.rs = S.castL rd ∧ p'.n = rd.length ∧ S.KahnI P g.n (S.wtS p'.ws) rd p3.i.toNat p'.i.toNat ∧ kk = rd.getD p3.i.toNat 0) (fun p' => q.n - p'.i.toNat) ⟨0, p3.ws, p3.rs, [], p3.a, p3.n, p3.c⟩ (by kernel_rfl) ⟨by dsimp only; omega, m2, rd, m3, m4, m5.enter hd, hkk⟩ (fun p4 j4 hI4 => ?_)
  obtain ⟨n1, n2, rd4, n3, n4, n5, n6⟩ := hI4
  have n7 := n5.le
  refine run ?_
  refine J.ifd rfl (fun c4 => ?_) (fun c4 => ?_)
  ·obtain ⟨x, hx⟩ := ex (q.xs.getD p4.i.toNat 0)
   have hxk : x = ((S.behS P g.n kk).getD p4.i.toNat 0 : Nat) := by rw [hx, hqx.1, S.castL_get]
   have ht : p4.i.toNat < (S.behS P g.n (rd4.getD p3.i.toNat 0)).length := by rw [← n6]; omega
   have hk0 : x.toNat = (S.behS P g.n (rd4.getD p3.i.toNat 0)).getD p4.i.toNat 0 := by rw [← n6]; omega
   obtain ⟨o1, o2⟩ := n5.told ht hk0
   have o3 := n5.down n2 ht hk0
   obtain ⟨wv, hwv⟩ := ex (p4.ws.getD x.toNat 0)
   have hwt : S.wtS p4.ws x.toNat = wv.toNat := by rw [hwv]; rfl
   have hx0 : 0 ≤ x ∧ x < g.n := by omega
   refine run ?_
   refine J.idxI rfl rfl (RI.all (e := 3) (k := .i64) hq) ?_
   refine J.ldI rfl (RI.all (e := 3) (k := .i64) hq) ?_
   refine J.fact (.iown 3 .i64 (some ⟨bw, 0, none⟩) g.n g.n p4.ws) (fun S w => iown_bd) fun hbd => ?_
   have hwb := hbd.get x.toNat
   simp only [lim] at hwb
   have hg := S.set_get p4.ws x.toNat x.toNat (wv - 1) (by omega)
   rw [if_pos rfl] at hg
   rw [← hwv] at hwb o3
   have hdl := n5.dl
   refine run ?_
   refine J.ife rfl (fun c5 => ?_) (fun c5 => ?_)
   ·rw [hg] at c5
    rw [if_pos c5] at o3
    refine run ?_
    refine J.b1 rfl rfl fun b4 => ?_
    refine J.apI rfl rfl RI.own' fun a' c' => ?_
    refine run ?_
    refine J.next ⟨p4.i + 1, p4.ws.set x.toNat (wv - 1), p4.rs ++ [x], [], a', p4.n + 1, c'⟩ ⟨rfl, rfl, trivial⟩ (by kernel_rfl) ?_ (by dsimp only; omega)
    dsimp only
    rw [show (p4.i + 1).toNat = p4.i.toNat + 1 by omega]
    refine ⟨by omega, by rw [List.length_set]; exact n2, rd4 ++ [x.toNat], ?_, by simp; exact n4, o3, ?_⟩
    ·rw [S.castL_snoc, n3, show ((x.toNat : Nat) : Int) = x by omega]
    rw [S.getD_snoc, if_pos hdl]; exact n6
   rw [hg] at c5
   rw [if_neg c5] at o3
   refine run ?_
   refine J.next ⟨p4.i + 1, p4.ws.set x.toNat (wv - 1), p4.rs, [], p4.a, p4.n, p4.c⟩ ⟨rfl, rfl, trivial⟩ (by kernel_rfl) ?_ (by dsimp only; omega)
   dsimp only
   rw [show (p4.i + 1).toNat = p4.i.toNat + 1 by omega]
   exact ⟨by omega, by rw [List.length_set]; exact n2, rd4, n3, n4, o3, n6⟩
  have hlv := n5.leave (by rw [← n6]; omega)
  refine run ?_
  refine J.next ⟨p3.i + 1, p4.ws, p4.rs, [], p4.a, p4.n, p4.c⟩ ⟨rfl, rfl, trivial⟩ (by kernel_rfl) ?_ (by dsimp only; omega)
  dsimp only
  rw [show (p3.i + 1).toNat = p3.i.toNat + 1 by omega]
  exact ⟨by omega, n2, rd4, n3, n4, hlv⟩
 have hf := m5.last (by omega)
 rw [hP, ← hl] at hf
 have hse := S.shape_end hr hop hf
 refine run ?_
 refine J.ifd rfl (fun c4 => ?_) (fun c4 => ?_)
 ·refine run ?_
  refine J.fin ?_
  rw [hse, if_pos (by omega)]
 refine run ?_
 refine J.fin ?_
 rw [hse, if_neg (by omega)]
end Go.Proofs.YtinjiccnjjmofaaGreatDoor.W
namespace Go.Proofs.YtinjiccnjjmofaaGreatDoor.W
set_option pp.deepTerms true
set_option pp.maxSteps 1000000
open Go.RowKit Go.Proofs.YtinjiccnjjmofaaGreatDoor.G
set_option linter.unusedVariables false
set_option linter.unusedSimpArgs false
set_option maxRecDepth 20000
set_option maxHeartbeats 8000000
attribute [local irreducible] RS RX RY Code.wp bodyPost J Ent.blk Ent.irow Ent.iown Ent.wrow Ent.wown Ent.grow Ent.gown Ent.all Ent.emp
instance : Ents Tryz.prog 59 := ⟨.mk Tryz.func59 (by kernel_rfl) rfl⟩
instance : Und Tryz.prog 29 (.int .i64) := ⟨Tryz.underlying29⟩
instance : Und Tryz.prog 5 (.int .u8) := ⟨Tryz.underlying5⟩
instance : Siz Tryz.prog 5 1 := ⟨by kernel_rfl⟩
instance : Ents Tryz.prog 60 := ⟨.mk Tryz.func60 (by kernel_rfl) rfl⟩
instance : Ents Tryz.prog 61 := ⟨.mk Tryz.func61 (by kernel_rfl) rfl⟩
instance : Ents Tryz.prog 13 := ⟨.mk Tryz.func13 (by kernel_rfl) rfl⟩
instance : Ents Tryz.prog 82 := ⟨.mk Tryz.func82 (by kernel_rfl) rfl⟩
instance : Siz Tryz.prog 22 1 := ⟨by kernel_rfl⟩
instance : SInf Tryz.prog 43 [(0, 1), (1, 1), (2, 1), (3, 6), (9, 2)] := ⟨_, Tryz.underlying43, by kernel_rfl, by kernel_rfl⟩
instance : Ents Tryz.prog 57 := ⟨.mk Tryz.func57 (by kernel_rfl) rfl⟩
theorem dagCheck {S0 : Nat → Prop} (g : GrA) (TK : TypeId) (w : World) (K0 : Kst w TK) (G : GrR S0 w g) :
  Calls Tryz.prog 13 #[.agg (grC g).toArray] w (Ret w fun v _ => v = .int .i64 (S.chkG g.m g.ids g.ops)) := by
 have D0 := G.ids
 have G0 := G.ops
 have hl := G.len
 have hcp := G.cap
 refine J.enter 49 Tryz.func13 rfl rfl ?_
 refine run ?_
 refine J.box rfl rfl rfl fun b1 => ?_
 refine run ?_
 refine J.ifd rfl (fun c => ?_) (fun c => ?_)
 ·refine run ?_
  refine J.fin ?_
  unfold S.chkG
  rw [if_pos (by omega)]
 refine run ?_
 refine J.ifn rfl (fun c2 => ?_) (fun c2 => ?_)
 ·refine run ?_
  refine J.fin ?_
  unfold S.chkG
  rw [if_neg (by omega), if_pos (by omega)]
 refine run ?_
 have h8 : ∀ i, i < g.n → ¬ S.ownS (g.ops.getD i S.OpV.zero) (S.idAt g.ids i) → (8 : Int) = S.chkG g.m g.ids g.ops := fun i hi h => by
  unfold S.chkG
  rw [if_neg (by omega), if_neg (by omega), if_pos fun ho => h (ho i (by omega))]
 refine J.loopS (A := Int) (fun p => [(21, .int .i64 p)]) [2, 3, 4, 5, 6, 22, 23, 24, 25, 26, 27, 28, 29, 30, 31, 32, 33, 34, 35, 36, 37, 38, 39, 40, 41, 42, 43, 44, 45, 46, 47] (fun p => (0 ≤ p ∧ p ≤ g.n) ∧ ∀ i, i < p.toNat → S.ownS (g.ops.getD i S.OpV.zero) (S.idAt g.ids i)) (fun p => g.n - p.toNat) 0 (by kernel_rfl) ⟨by omega, fun i hi => by omega⟩ (fun p j hI => ?_)
 obtain ⟨h1, hI⟩ := hI
 refine run ?_
 refine J.ifd rfl (fun c3 => ?_) (fun c3 => ?_)
 ·obtain ⟨z, hz⟩ := G0.ex (i := p) (by omega)
  have R := G.op hz
  have hzo := GrA.opAt hz
  have hsa := S.idX_arr z.o
  refine run ?_
  refine J.alloc rfl fun b2 => ?_
  refine run ?_
  refine J.callp rfl rfl (fun w' M => idO z.o R.ok _ _ _ _ (K0.ext M.ext) (R.row.ext M.ext) R.cap) ?_
  refine run ?_
  refine J.alloc rfl fun b3 => ?_
  refine run ?_
  refine J.regionX [(0, .q), (1, .q), (2, .q), (3, .q), (4, .q), (5, .q), (6, .q), (7, .q), (8, .q), (9, .q), (10, .q), (11, .q), (12, .q), (13, .e), (14, .q), (15, .q)] mixed (by kernel_rfl) ?_
  refine run ?_
  have h9 : ¬ S.ownS z.o (S.idAt g.ids p.toNat) → (8 : Int) = S.chkG g.m g.ids g.ops := fun h => h8 p.toNat (by omega) (by rw [hzo]; exact h)
  refine J.spn rfl rfl rfl (fun c4 => ?_) (fun c4 => ?_)
  ·refine run ?_
   refine J.fin (congrArg _ (h9 fun h => c4 (S.verE_check h.1)))
  refine run ?_
  refine J.spd rfl rfl rfl (fun c5 => ?_) (fun c5 => ?_)
  ·refine run ?_
   refine J.fin (congrArg _ (h9 fun h => c5 ?_))
   rw [if_pos c4]
   exact h.2
  rw [if_pos c4] at c5
  refine run ?_
  refine J.callp rfl rfl (fun w' M => verifyO z.o R.ok _ _ _ _ (K0.ext M.ext) (R.row.ext M.ext) R.cap) ?_
  refine run ?_
  refine J.ifn rfl (fun c6 => ?_) (fun c6 => ?_)
  ·refine run ?_
   exact J.fin (congrArg _ (h9 fun h => c6 h.1))
  refine run ?_
  refine J.nextS (p + 1) ⟨rfl, trivial⟩ (by kernel_rfl) ⟨by omega, fun i hi => ?_⟩ (by omega)
  rcases Nat.lt_or_ge i p.toNat with h | h
  ·exact hI i h
  obtain rfl : i = p.toNat := by omega
  rw [hzo]
  exact ⟨c6, Decidable.not_not.1 c5⟩
 refine run ?_
 refine J.callp rfl rfl (fun w' M => dagShape g w' (G.ext M.ext) (by omega) (by omega)) ?_
 refine run ?_
 refine J.fin ?_
 unfold S.chkG
 rw [if_neg (by omega), if_neg (by omega), if_neg (not_not_intro (show S.ownsS g.ids g.ops from fun i hi => hI i (by omega)))]
theorem dagHas {S0 : Nat → Prop} (g : GrA) (x : List Int) (TK : TypeId) (w : World) (K0 : Kst w TK) (G : GrR S0 w g) (hx : Arr .u8 32 x) :
  Calls Tryz.prog 9 #[.agg (grC g).toArray, .agg (ints .u8 x).toArray] w (Ret w fun v _ => v = .tuple #[.bool (decide (S.chkG g.m g.ids g.ops = 0 ∧ S.inS g.m g.ids x)), .int .i64 (S.chkG g.m g.ids g.ops)]) := by
 refine J.enter 19 Tryz.func9 rfl rfl ?_
 refine run ?_
 refine J.box rfl rfl rfl fun b1 => ?_
 refine run ?_
 refine J.box rfl rfl rfl fun b2 => ?_
 refine run ?_
 refine J.callp rfl rfl (fun w' M => dagCheck g _ w' (K0.ext M.ext) (G.ext M.ext)) ?_
 refine run ?_
 refine J.ifn rfl (fun c => ?_) (fun c => ?_)
 ·refine run ?_
  exact J.fin (tup2 (congrArg _ (decide_eq_false fun h => c h.1).symm) rfl)
 have hz := S.chkG_zero.1 c
 refine run ?_
 refine J.callp rfl rfl (fun w' M => dagFind g _ w' (G.ids.ext M.ext) hx hz.2.2.2.1 G.cap.2.2.1) ?_
 refine run ?_
 refine J.fin ?_
 rw [c]
 exact tup2 (congrArg _ (by simp)) rfl
theorem cloneW {S0 : Nat → Prop} (a : Option Addr) (n c : Nat) (ids : List Int) (w : World) (D0 : WRow .u8 32 S0 w a n ids) (hc : n ≤ c) (hn : n ≤ 1000) :
  Calls Tryz.prog 82 #[.slice a n c] w (Gv w (fun q : Option Addr × Nat => .slice q.1 n q.2) (fun q => [.wown 27 .u8 32 q.1 n q.2 ids]) fun q => n ≤ q.2) :=
 Gv.of (cloneID a n c ids w D0 hc hn) fun v w' x ⟨a', n', c', hv, hn', O⟩ => ⟨(a', c'), by rw [hv, hn'], by subst hn'; exact O.own.cap.1, sep1 (by subst hn'; exact wown_ok O)⟩
theorem dagTwin {S0 : Nat → Prop} (z : OpA) (w : World) (R : OpR S0 w z) :
  Calls Tryz.prog 57 #[.agg (opC z).toArray] w (Gv w (fun q : Option Addr × Nat => .agg (opC ⟨z.o, q.1, q.2⟩).toArray) (fun q => [.wrow .u8 32 q.1 z.o.n z.o.ids]) fun q => z.o.n ≤ q.2) := by
 refine J.enter 7 Tryz.func57 rfl rfl ?_
 refine run ?_
 refine J.box rfl rfl rfl fun b1 => ?_
 refine run ?_
 refine J.alloc rfl fun b2 => ?_
 refine run ?_
 have h20 := R.ok.n
 refine J.call rfl rfl (fun w' M => cloneW _ _ _ _ _ (R.row.ext M.ext) R.cap (by omega)) fun q hq => ?_
 refine run ?_
 refine J.re (.wown 27 .u8 32 q.1 z.o.n q.2 z.o.ids) (.wrow .u8 32 q.1 z.o.n z.o.ids) (fun S w => wown_wrow) ?_
 exact J.finG q rfl hq (.cons_cons _ (List.nil_sublist _))
theorem dagGet {S0 : Nat → Prop} (g : GrA) (x : List Int) (TK : TypeId) (w : World) (K0 : Kst w TK) (G : GrR S0 w g) (hx : Arr .u8 32 x) :
  Calls Tryz.prog 11 #[.agg (grC g).toArray, .agg (ints .u8 x).toArray] w (Gv w (fun q : OpA × Int => .tuple #[.agg (opC q.1).toArray, .int .i64 q.2]) (fun q => [.wrow .u8 32 q.1.pa q.1.o.n q.1.o.ids]) fun q => q.1.o.n ≤ q.1.pc ∧ q.1.o = S.getO g.m g.ids g.ops x ∧ q.2 = S.getE g.m g.ids g.ops x) := by
 refine J.enter 28 Tryz.func11 rfl rfl ?_
 refine run ?_
 refine J.box rfl rfl rfl fun b1 => ?_
 refine run ?_
 refine J.box rfl rfl rfl fun b2 => ?_
 refine run ?_
 refine J.alloc rfl fun b3 => ?_
 refine run ?_
 refine J.callp rfl rfl (fun w' M => dagCheck g _ w' (K0.ext M.ext) (G.ext M.ext)) ?_
 refine run ?_
 refine J.ifn rfl (fun c => ?_) (fun c => ?_)
 ·refine run ?_
  refine J.nilW .u8 32 ?_
  exact J.finG (⟨S.OpV.zero, none, 0⟩, S.chkG g.m g.ids g.ops) rfl ⟨Nat.le_refl _, (if_pos c).symm, (if_pos c).symm⟩ (.cons_cons _ (List.nil_sublist _))
 have hz := S.chkG_zero.1 c
 have G0 := G.ops
 refine run ?_
 refine J.callp rfl rfl (fun w' M => dagFind g _ w' (G.ids.ext M.ext) hx hz.2.2.2.1 G.cap.2.2.1) ?_
 refine run ?_
 refine J.ifnot rfl (fun c2 => ?_) (fun c2 => ?_)
 ·refine run ?_
  refine J.nilW .u8 32 ?_
  exact J.finG (⟨S.OpV.zero, none, 0⟩, 6) rfl ⟨Nat.le_refl _, by unfold S.getO; rw [if_neg (not_not_intro c), if_neg (of_decide_eq_false c2)], by unfold S.getE; rw [if_neg (not_not_intro c), if_neg (of_decide_eq_false c2)]⟩ (.cons_cons _ (List.nil_sublist _))
 have hin := of_decide_eq_true c2
 have hlt := ((S.spotS_has hz.2.2.2.1).1 hin).1
 have hl := G.len
 obtain ⟨z, hz2⟩ := G.ops.ex (i := (S.spotS g.m g.ids x : Nat)) (by omega)
 have R := G.op hz2
 refine run ?_
 refine J.call rfl rfl (fun w' M => dagTwin z w' (R.ext M.ext)) fun q hq => ?_
 refine run ?_
 refine J.finG (⟨z.o, q.1, q.2⟩, 0) rfl ⟨hq, ?_, ?_⟩ (.cons_cons _ (List.nil_sublist _))
 ·unfold S.getO
  rw [if_neg (not_not_intro c), if_pos hin, ← S.spotS_ix hz.2.2.2.1 hin]
  exact (GrA.opAt hz2).symm
 unfold S.getE
 rw [if_neg (not_not_intro c), if_pos hin]
end Go.Proofs.YtinjiccnjjmofaaGreatDoor.W
namespace Go.Proofs.YtinjiccnjjmofaaGreatDoor.S
open G
/-- A place, or −1. -/
def atS (m : Nat) (ids x : List Int) : Int := if inS m ids x then (ixS m ids x : Nat) else -1
theorem at_hit {m : Nat} {ids x : List Int} {i : Nat} (hi : i < m) (e : idAt ids i = x) (hf : ∀ j, j < i → idAt ids j ≠ x) : (i : Int) = atS m ids x := by
  unfold atS; rw [if_pos ⟨i, hi, e⟩, ix_first hi e hf]
theorem at_miss {m : Nat} {ids x : List Int} (hf : ∀ j, j < m → idAt ids j ≠ x) : (-1 : Int) = atS m ids x := by
  unfold atS; rw [if_neg]; rintro ⟨i, hi, e⟩; exact hf i hi e
theorem at_neg {m : Nat} {ids x : List Int} : atS m ids x < 0 ↔ ¬ inS m ids x := by
  unfold atS
  by_cases h : inS m ids x
  · rw [if_pos h]; exact ⟨fun h1 => by omega, fun h1 => absurd h h1⟩
  · rw [if_neg h]; exact ⟨fun _ => h, fun _ => by decide⟩
/-- What was taken, by its ids. -/
structure HvS (ids : List Int) (rd : List Nat) (hv : List Int) : Prop where
  len : hv.length = 32 * rd.length
  at_ : ∀ k, k < rd.length → idAt hv k = idAt ids (rd.getD k 0)
theorem HvS.first (ids : List Int) : HvS ids [] [] := ⟨rfl, fun k hk => by cases hk⟩
theorem HvS.snoc {ids hv : List Int} {rd : List Nat} {i m : Nat} (h : HvS ids rd hv) (hl : ids.length = 32 * m) (hi : i < m) : HvS ids (rd ++ [i]) (hv ++ idAt ids i) := by
  have h32 := idAt_len ids i m hl hi
  refine ⟨by rw [List.length_append, List.length_append, h.len, h32, List.length_singleton]; omega, fun k hk => ?_⟩
  rw [List.length_append, List.length_singleton] at hk
  rw [getD_snoc]
  by_cases e : k < rd.length
  · rw [if_pos e, ← h.at_ k e]
    unfold idAt
    rw [List.drop_append_of_le_length (by rw [h.len]; omega), List.take_append_of_le_length (by rw [List.length_drop, h.len]; omega)]
  · obtain rfl : k = rd.length := by omega
    rw [if_neg e, if_pos rfl]
    have : (hv ++ idAt ids i).drop (32 * rd.length) = idAt ids i := by rw [← h.len]; exact List.drop_left
    show ((hv ++ idAt ids i).drop (32 * rd.length)).take 32 = _
    rw [this, List.take_of_length_le (by omega)]
/-- All that one names was taken. -/
theorem HvS.all {m : Nat} {ids hv : List Int} {ops : List OpV} {rd : List Nat} (h : HvS ids rd hv) (hr : Rising m ids) (hb : ∀ x ∈ rd, x < m) {i : Nat} (ho : allI m ids (ops.getD i OpV.zero).n (ops.getD i OpV.zero).ids) :
    allI rd.length hv (ops.getD i OpV.zero).n (ops.getD i OpV.zero).ids ↔ ∀ p ∈ prS m ids ops i, p ∈ rd := by
  constructor
  · intro ha p hp
    unfold prS at hp
    obtain ⟨j, hj, rfl⟩ := List.mem_map.1 hp
    obtain ⟨k, hk, e⟩ := ha j (List.mem_range.1 hj)
    rw [h.at_ k hk] at e
    have hm := getD_mem hk
    rw [← e, ix_eq hr (hb _ hm)]
    exact hm
  · intro ha j hj
    have hp : ixS m ids (idAt (ops.getD i OpV.zero).ids j) ∈ rd := ha _ (by unfold prS; exact List.mem_map.2 ⟨j, List.mem_range.2 hj, rfl⟩)
    obtain ⟨k, hk, e⟩ := List.getElem_of_mem hp
    refine ⟨k, hk, ?_⟩
    rw [h.at_ k hk, List.getD_eq_getElem?_getD, List.getElem?_eq_getElem hk, Option.getD_some, e]
    exact (ix_in (ho j hj)).2
/-- What was taken, as a row of truths. -/
def dnS (n : Nat) (rd : List Nat) : List Bool := (List.range n).map fun i => decide (i ∈ rd)
theorem dnS_first (n : Nat) : dnS n [] = List.replicate n false := by
  unfold dnS
  apply List.ext_getElem
  · simp
  · intro i h1 h2; simp
theorem dnS_get {n i : Nat} (rd : List Nat) (h : i < n) : (dnS n rd)[i]? = some (decide (i ∈ rd)) := by
  unfold dnS; rw [List.getElem?_map, List.getElem?_range h]; rfl
theorem dnS_snoc {n i : Nat} (rd : List Nat) (h : i < n) : (dnS n rd).set i true = dnS n (rd ++ [i]) := by
  apply List.ext_getElem?
  intro j
  rw [List.getElem?_set]
  by_cases hj : j < n
  · rw [dnS_get _ hj, dnS_get _ hj]
    by_cases e : i = j
    · subst e; rw [if_pos rfl, if_pos (by simpa [dnS] using hj)]; simp
    · rw [if_neg e]; congr 1; rw [decide_eq_decide, List.mem_append, List.mem_singleton]; exact ⟨.inl, fun h => h.resolve_right fun e2 => e e2.symm⟩
  · rw [List.getElem?_eq_none (by simpa [dnS] using hj), List.getElem?_eq_none (by simpa [dnS] using hj)]
    split
    · split <;> simp_all
    · rfl
/-- How far it came. -/
structure OrdS (P : Nat → List Nat) (n : Nat) (rd : List Nat) : Prop where
  nd : rd.Nodup
  lt : ∀ x ∈ rd, x < n
  sq : Seqd P rd
theorem OrdS.first (P : Nat → List Nat) (n : Nat) : OrdS P n [] := ⟨List.nodup_nil, fun x h => (by cases h), fun i h => (by cases h)⟩
theorem OrdS.le {P : Nat → List Nat} {n : Nat} {rd : List Nat} (h : OrdS P n rd) : rd.length ≤ n := by
  have := nodup_len (l := rd) (m := List.range n) h.nd fun x hx => List.mem_range.2 (h.lt x hx)
  simpa using this
theorem OrdS.snoc {P : Nat → List Nat} {n i : Nat} {rd : List Nat} (h : OrdS P n rd) (hi : i < n) (hn : i ∉ rd) (hp : ∀ p ∈ P i, p ∈ rd) : OrdS P n (rd ++ [i]) := by
  refine ⟨List.nodup_append.2 ⟨h.nd, by simp, fun a ha b hb => ?_⟩, fun x hx => ?_, h.sq.snoc (d := rd.length) fun p hp' => by rw [List.take_length]; exact hp p hp'⟩
  · rw [List.mem_singleton] at hb; subst hb; intro e; subst e; exact hn ha
  · rcases List.mem_append.1 hx with e | e
    · exact h.lt x e
    · rw [List.mem_singleton] at e; subst e; exact hi
theorem OrdS.found {P : Nat → List Nat} {n : Nat} {rd : List Nat} (h : OrdS P n rd) (hc : Clsd P n rd) : Found P n ↔ ¬ rd.length < n := found_iff h.nd h.lt h.sq hc
theorem OrdS.room {P : Nat → List Nat} {n i : Nat} {rd : List Nat} (h : OrdS P n rd) (hi : i < n) (hn : i ∉ rd) : rd.length < n := by
  have := nodup_len (l := i :: rd) (m := List.range n) (List.nodup_cons.2 ⟨hn, h.nd⟩) fun x hx => by
    rcases List.mem_cons.1 hx with e | e
    · subst e; exact List.mem_range.2 hi
    · exact List.mem_range.2 (h.lt x e)
  simp only [List.length_cons, List.length_range] at this
  omega
end Go.Proofs.YtinjiccnjjmofaaGreatDoor.S
namespace Go.Proofs.YtinjiccnjjmofaaGreatDoor.W
set_option pp.deepTerms true
set_option pp.maxSteps 1000000
open Go.RowKit Go.Proofs.YtinjiccnjjmofaaGreatDoor.G
set_option linter.unusedVariables false
set_option linter.unusedSimpArgs false
set_option maxRecDepth 20000
set_option maxHeartbeats 8000000
attribute [local irreducible] RS RX RY Code.wp bodyPost J Ent.blk Ent.irow Ent.iown Ent.wrow Ent.wown Ent.grow Ent.gown Ent.all Ent.emp
instance : Ents Tryz.prog 56 := ⟨.mk Tryz.func56 (by kernel_rfl) rfl⟩
instance : Und Tryz.prog 219 (.slice 4) := ⟨Tryz.underlying219⟩
instance : Inf Tryz.prog 4 1 1 [.bool false] := ⟨TI.of (v := .bool false) (by kernel_rfl) rfl⟩
instance : Siz Tryz.prog 4 1 := ⟨by kernel_rfl⟩
instance : Sca Tryz.prog 4 := ⟨_, Tryz.underlying4, rfl⟩
instance : Und Tryz.prog 4 .bool := ⟨Tryz.underlying4⟩
instance : Ents Tryz.prog 113 := ⟨.mk Tryz.func113 (by kernel_rfl) rfl⟩
instance : Ents Tryz.prog 77 := ⟨.mk Tryz.func77 (by kernel_rfl) rfl⟩
instance : Ents Tryz.prog 114 := ⟨.mk Tryz.func114 (by kernel_rfl) rfl⟩
instance : Ents Tryz.prog 62 := ⟨.mk Tryz.func62 (by kernel_rfl) rfl⟩
instance : Ents Tryz.prog 63 := ⟨.mk Tryz.func63 (by kernel_rfl) rfl⟩
instance : Ents Tryz.prog 64 := ⟨.mk Tryz.func64 (by kernel_rfl) rfl⟩
instance : Ents Tryz.prog 14 := ⟨.mk Tryz.func14 (by kernel_rfl) rfl⟩
instance : Ents Tryz.prog 58 := ⟨.mk Tryz.func58 (by kernel_rfl) rfl⟩
structure OrP where
 (rd : List Nat) (n : Nat) (od hv : List Int) (dn : List Bool) (ao : Option Addr) (co : Nat) (ah : Option Addr) (ch : Nat) (more : Bool)
theorem refAt {S0 : Nat → Prop} (a : Option Addr) (n c : Nat) (ids x : List Int) (w : World) (D0 : WRow .u8 32 S0 w a n ids) (hx : Arr .u8 32 x) (hn : n ≤ 1000) :
  Calls Tryz.prog 56 #[.slice a n c, .agg (ints .u8 x).toArray] w (Ret w fun v _ => v = .int .i64 (S.atS n ids x)) := by
 refine J.enter 17 Tryz.func56 rfl rfl ?_
 refine run ?_
 refine J.box rfl rfl rfl fun b1 => ?_
 refine run ?_
 refine J.loopS (A := Int) (fun p => [(5, .int .i64 p)]) [6, 7, 8, 9, 10, 11, 12, 13, 14, 15, 16, 17, 18] (fun p => (0 ≤ p ∧ p ≤ n) ∧ ∀ k, k < p.toNat → S.idAt ids k ≠ x) (fun p => n - p.toNat) 0 (by kernel_rfl) ⟨by omega, fun k hk => by omega⟩ (fun p j hI => ?_)
 obtain ⟨h1, hI⟩ := hI
 refine run ?_
 refine J.ifd rfl (fun c1 => ?_) (fun c1 => ?_)
 ·obtain ⟨q, hq⟩ := ex (elt 32 ids p.toNat)
  have hqa : Arr .u8 32 q := hq ▸ D0.elt_arr (by omega)
  refine run ?_
  refine J.regionX [(0, .q), (1, .q), (2, .q), (3, .q), (4, .q), (5, .q)] mixed (by kernel_rfl) ?_
  refine run ?_
  refine J.ifd rfl (fun c2 => ?_) (fun c2 => ?_)
  ·refine run ?_
   refine J.fin ?_
   rw [← S.at_hit (i := p.toNat) (by omega) (by rw [← c2]; exact hq.symm) hI]
   congr 1
   omega
  refine run ?_
  refine J.nextS (p + 1) ⟨rfl, trivial⟩ (by kernel_rfl) ⟨by omega, fun k hk => ?_⟩ (by omega)
  rcases Nat.lt_or_ge k p.toNat with h | h
  ·exact hI k h
  obtain rfl : k = p.toNat := by omega
  exact fun e => c2 (hq.trans e)
 refine run ?_
 refine J.fin ?_
 rw [← S.at_miss fun k hk => hI k (by omega)]
theorem refAll {S0 S1 : Nat → Prop} (a a2 : Option Addr) (n c n2 c2 : Nat) (ids ps : List Int) (w : World) (D0 : WRow .u8 32 S0 w a n ids) (D1 : WRow .u8 32 S1 w a2 n2 ps) (hn : n ≤ 1000) (hn2 : n2 ≤ 1000) :
  Calls Tryz.prog 113 #[.slice a n c, .slice a2 n2 c2] w (Ret w fun v _ => v = .bool (decide (S.allI n ids n2 ps))) := by
 refine J.enter 17 Tryz.func113 rfl rfl ?_
 refine run ?_
 refine J.loopS (A := Int) (fun p => [(5, .int .i64 p)]) [6, 7, 8, 9, 10, 11, 12, 13, 14, 15, 16, 17, 18] (fun p => (0 ≤ p ∧ p ≤ n2) ∧ ∀ k, k < p.toNat → S.inS n ids (S.idAt ps k)) (fun p => n2 - p.toNat) 0 (by kernel_rfl) ⟨by omega, fun k hk => by omega⟩ (fun p j hI => ?_)
 obtain ⟨h1, hI⟩ := hI
 refine run ?_
 refine J.ifd rfl (fun c1 => ?_) (fun c1 => ?_)
 ·refine run ?_
  refine J.callp rfl rfl (fun w' M => refAt _ _ _ _ _ _ (D0.ext M.ext) (D1.elt_arr (by omega)) hn) ?_
  refine run ?_
  refine J.ifd rfl (fun c2 => ?_) (fun c2 => ?_)
  ·refine run ?_
   exact J.fin (congrArg _ (decide_eq_false fun h => S.at_neg.1 c2 (h _ (by omega))).symm)
  refine run ?_
  refine J.nextS (p + 1) ⟨rfl, trivial⟩ (by kernel_rfl) ⟨by omega, fun k hk => ?_⟩ (by omega)
  rcases Nat.lt_or_ge k p.toNat with h | h
  ·exact hI k h
  obtain rfl : k = p.toNat := by omega
  exact Decidable.not_not.1 fun h => c2 (S.at_neg.2 h)
 refine run ?_
 exact J.fin (congrArg _ (decide_eq_true fun k hk => hI k (by omega)).symm)
theorem refOrder {S0 : Nat → Prop} (g : GrA) (w : World) (G : GrR S0 w g) (he : g.m = g.n) (hr : S.Rising g.m g.ids) (ho : S.opensS g.m g.ids g.ops) :
  Calls Tryz.prog 114 #[.agg (grC g).toArray] w (Gv w (fun q : Option Addr × Nat × Nat => .slice q.1 q.2.1 q.2.2) (fun _ => []) fun q => q.2.1 ≤ 70 ∧ (S.Found (S.prS g.m g.ids g.ops) g.n ↔ ¬ q.2.1 < g.n)) := by
 have D0 := G.ids
 have G0 := G.ops
 have hl := G.len
 have hcp := G.cap
 have hcp4 := hcp.2.2.2
 obtain ⟨P, hP⟩ := ex (S.prS g.m g.ids g.ops)
 refine J.enter 50 Tryz.func114 rfl rfl ?_
 refine run ?_
 refine J.box rfl rfl rfl fun b1 => ?_
 refine run ?_
 refine J.mkG boC false (fun _ => rfl) rfl rfl rfl rfl fun bd => ?_
 rw [← S.dnS_first]
 refine run ?_
 refine J.nilI 3 .i64 ?_
 refine J.nilWo 27 .u8 32 ?_
 refine J.loop (A := OrP) (fun p => [(3, .slice p.ao p.n p.co), (4, .slice p.ah p.n p.ch), (6, .bool p.more)]) [7, 12, 13, 14, 15, 16, 17, 18, 19, 20, 21, 22, 23, 24, 25, 26, 27, 28, 29, 30, 31, 32, 33, 34, 35, 36, 37, 38, 39, 40, 41, 42, 43, 44, 45, 46, 47, 48, 49] (fun p => [.wown 27 .u8 32 p.ah p.n p.ch p.hv, .iown 3 .i64 p.ao p.n p.co p.od, .gown boC 1 4 (some ⟨bd, 0, none⟩) g.n g.n p.dn, .blk b1 (grC g) 25])
  (fun p => S.OrdS P g.n p.rd ∧ S.HvS g.ids p.rd p.hv ∧ (p.more = false → S.Clsd P g.n p.rd) ∧ p.n = p.rd.length ∧ p.od = S.castL p.rd ∧ p.dn = S.dnS g.n p.rd) (fun p => 2 * (g.n - p.rd.length) + p.more.toNat) ⟨[], 0, [], [], S.dnS g.n [], none, 0, none, 0, true⟩ (by kernel_rfl) ⟨S.OrdS.first _ _, S.HvS.first _, fun h => (by cases h), rfl, rfl, rfl⟩ (fun p j hI => ?_)
 obtain ⟨hO, hH, hC, hn, hod, hd⟩ := hI
 have hle := hO.le
 refine run ?_
 refine J.ifb rfl (fun c1 => ?_) (fun c1 => ?_)
 ·refine run ?_
  refine J.loopS (A := Int) (fun p => [(7, .int .i64 p)]) [13, 14, 15, 16, 17, 18, 19, 20, 21, 22, 23, 24, 25, 26, 27, 28, 29, 30, 31, 32, 33, 34, 35, 36, 37, 38, 39, 40, 41, 42, 43, 44, 45, 46, 47, 48, 49] (fun i => (0 ≤ i ∧ i ≤ g.n) ∧ ∀ k, k < i.toNat → k ∉ p.rd → ¬ ∀ q ∈ P k, q ∈ p.rd) (fun i => g.n - i.toNat) 0 (by kernel_rfl) ⟨by omega, fun k hk => by omega⟩ (fun i j2 hI2 => ?_)
  obtain ⟨h1, h2⟩ := hI2
  refine run ?_
  refine J.ifd rfl (fun c2 => ?_) (fun c2 => ?_)
  ·obtain ⟨z, hz⟩ := G0.ex (i := i) (by omega)
   have R := G.op hz
   have hzo := GrA.opAt hz
   have h20 := R.ok.n
   have hdn := S.dnS_get p.rd (show i.toNat < g.n by omega)
   rw [← hd] at hdn
   have hall := hH.all (ops := g.ops) (i := i.toNat) hr (fun x hx => by have := hO.lt x hx; omega) (ho i.toNat (by omega))
   rw [hzo, ← hP, ← hn] at hall
   have hnext : (i.toNat ∉ p.rd → ¬ ∀ q ∈ P i.toNat, q ∈ p.rd) → ((0 ≤ i + 1 ∧ i + 1 ≤ (g.n : Int)) ∧ ∀ k, k < (i + 1).toNat → k ∉ p.rd → ¬ ∀ q ∈ P k, q ∈ p.rd) := fun hk => ⟨by omega, fun k hk2 => by
    rcases Nat.lt_or_ge k i.toNat with h | h
    ·exact h2 k h
    obtain rfl : k = i.toNat := by omega
    exact hk⟩
   refine run ?_
   refine J.spt rfl rfl rfl (fun c3 => ?_) (fun c3 => ?_)
   ·have hni := of_decide_eq_false c3
    refine run ?_
    refine J.callp rfl rfl (fun w' M => (RW.own' w' M).elim fun _ h => refAll _ _ _ _ _ _ _ _ _ h (R.row.ext M.ext) (by omega) (by omega)) ?_
    refine run ?_
    refine J.ifd rfl (fun c4 => ?_) (fun c4 => ?_)
    ·have hp := hall.1 c4
     have hO' := hO.snoc (show i.toNat < g.n by omega) hni hp
     have hH' := hH.snoc (i := i.toNat) D0.len (by omega)
     have hroom := hO.room (show i.toNat < g.n by omega) hni
     have hx : Arr .u8 32 (elt 32 g.ids i.toNat) := D0.elt_arr (by omega)
     have ei : i = (i.toNat : Nat) := by omega
     have hI' : ∀ b : Bool, b = true → S.OrdS P g.n (p.rd ++ [i.toNat]) ∧ S.HvS g.ids (p.rd ++ [i.toNat]) (p.hv ++ elt 32 g.ids i.toNat) ∧ (b = false → S.Clsd P g.n (p.rd ++ [i.toNat])) ∧ p.n + 1 = (p.rd ++ [i.toNat]).length ∧ p.od ++ [i] = S.castL (p.rd ++ [i.toNat]) ∧ p.dn.set i.toNat true = S.dnS g.n (p.rd ++ [i.toNat]) :=
      fun b hb => ⟨hO', hH', fun h => (by rw [hb] at h; cases h), by simp [hn], by rw [S.castL_snoc, ← ei, hod], by rw [hd]; exact S.dnS_snoc _ (by omega)⟩
     refine run ?_
     refine J.regionT [.blk b1 (grC g) 25] (.br [(0, .q), (1, .q), (2, .q), (3, .q), (6, .q), (7, .q), (8, .q), (9, .q), (10, .q), (11, .q)] 4 (.br [] 5 (.fin [(12, .e), (13, .e), (14, .q), (15, .q), (16, .q), (17, .e), (18, .q)]) 12 (.fin [(5, .e), (13, .e), (14, .q), (15, .q), (16, .q), (17, .e), (18, .q)])) 12 (.fin [(4, .e), (5, .e), (13, .e), (14, .q), (15, .q), (16, .q), (17, .e), (18, .q)])) mixed (by kernel_rfl) (by repeat (first | exact List.Sublist.refl _ | refine List.Sublist.cons_cons _ ?_ | refine List.Sublist.cons _ ?_)) ?_
     refine run ?_
     refine J.nil (J.kt ?_ ?_)
     ·refine J.b1 rfl rfl fun ba => ?_
      refine J.nil (J.kr (J.tbr (J.nil (J.kt ?_ ?_))))
      ·refine J.apI rfl rfl RI.own' fun ao co => ?_
       refine run ?_
       refine J.b1W rfl rfl hx fun bb => ?_
       refine J.apW rfl rfl RW.own' fun ah ch => ?_
       refine run ?_
       refine J.stG1 rfl rfl (q := true) rfl ?_
       refine run ?_
       exact J.next ⟨p.rd ++ [i.toNat], p.n + 1, p.od ++ [i], p.hv ++ elt 32 g.ids i.toNat, p.dn.set i.toNat true, ao, co, ah, ch, true⟩ ⟨rfl, rfl, rfl, trivial⟩ (by kernel_rfl) (hI' true rfl) (by dsimp only; rw [List.length_append, List.length_singleton]; cases p.more <;> simp <;> omega)
      refine J.b1W rfl rfl hx fun bb => ?_
      refine run ?_
      refine J.apI rfl rfl RI.own' fun ao co => ?_
      refine J.apW rfl rfl RW.own' fun ah ch => ?_
      refine run ?_
      refine J.stG1 rfl rfl (q := true) rfl ?_
      refine run ?_
      exact J.next ⟨p.rd ++ [i.toNat], p.n + 1, p.od ++ [i], p.hv ++ elt 32 g.ids i.toNat, p.dn.set i.toNat true, ao, co, ah, ch, true⟩ ⟨rfl, rfl, rfl, trivial⟩ (by kernel_rfl) (hI' true rfl) (by dsimp only; rw [List.length_append, List.length_singleton]; cases p.more <;> simp <;> omega)
     refine J.b1W rfl rfl hx fun bb => ?_
     refine run ?_
     refine J.b1 rfl rfl fun ba => ?_
     refine J.apI rfl rfl RI.own' fun ao co => ?_
     refine J.apW rfl rfl RW.own' fun ah ch => ?_
     refine run ?_
     refine J.stG1 rfl rfl (q := true) rfl ?_
     refine run ?_
     exact J.next ⟨p.rd ++ [i.toNat], p.n + 1, p.od ++ [i], p.hv ++ elt 32 g.ids i.toNat, p.dn.set i.toNat true, ao, co, ah, ch, true⟩ ⟨rfl, rfl, rfl, trivial⟩ (by kernel_rfl) (hI' true rfl) (by dsimp only; rw [List.length_append, List.length_singleton]; cases p.more <;> simp <;> omega)
    refine run ?_
    exact J.nextS (i + 1) ⟨rfl, trivial⟩ (by kernel_rfl) (hnext fun _ h => c4 (hall.2 h)) (by omega)
   refine run ?_
   exact J.nextS (i + 1) ⟨rfl, trivial⟩ (by kernel_rfl) (hnext fun h => absurd (of_decide_eq_true c3) h) (by omega)
  refine run ?_
  exact J.next ⟨p.rd, p.n, p.od, p.hv, p.dn, p.ao, p.co, p.ah, p.ch, false⟩ ⟨rfl, rfl, rfl, trivial⟩ (by kernel_rfl) ⟨hO, hH, fun _ k hk hq => Decidable.not_not.1 (fun hn => h2 k (by omega) hn hq), hn, hod, hd⟩ (by dsimp only; rw [c1]; exact Nat.lt_succ_self _)
 refine run ?_
 have hf := hO.found (hC c1)
 rw [hP] at hf
 exact J.finG (p.ao, p.n, p.co) rfl ⟨by dsimp only; omega, by dsimp only; rw [hn]; exact hf⟩ (List.nil_sublist _)
theorem refShape {S0 : Nat → Prop} (g : GrA) (w : World) (G : GrR S0 w g) (he : g.m = g.n) :
  Calls Tryz.prog 64 #[.agg (grC g).toArray] w (Ret w fun v _ => v = .int .i64 (S.shapeS g.m g.ids g.ops)) := by
 have D0 := G.ids
 have G0 := G.ops
 have hl := G.len
 have hcp := G.cap
 refine J.enter 31 Tryz.func64 rfl rfl ?_
 refine run ?_
 refine J.box rfl rfl rfl fun b1 => ?_
 refine run ?_
 refine J.callp rfl rfl (fun w' M => risingR _ _ _ _ _ (D0.ext M.ext) hcp.1 (by omega)) ?_
 refine run ?_
 refine J.ifnot rfl (fun c1 => ?_) (fun c1 => ?_)
 ·refine run ?_
  refine J.fin ?_
  unfold S.shapeS
  rw [if_pos (of_decide_eq_false c1)]
 have hr := of_decide_eq_true c1
 refine run ?_
 refine J.loopS (A := Int) (fun p => [(3, .int .i64 p)]) [8, 9, 10, 11, 12, 13, 14, 15, 16, 17, 18, 19, 20, 21, 22, 23, 24] (fun p => (0 ≤ p ∧ p ≤ g.n) ∧ ∀ k, k < p.toNat → S.allI g.m g.ids (g.ops.getD k S.OpV.zero).n (g.ops.getD k S.OpV.zero).ids) (fun p => g.n - p.toNat) 0 (by kernel_rfl) ⟨by omega, fun k hk => by omega⟩ (fun p j hI => ?_)
 obtain ⟨h1, hI⟩ := hI
 refine run ?_
 refine J.ifd rfl (fun c2 => ?_) (fun c2 => ?_)
 ·obtain ⟨z, hz⟩ := G0.ex (i := p) (by omega)
  have R := G.op hz
  have hzo := GrA.opAt hz
  have h20 := R.ok.n
  refine run ?_
  refine J.regionX [(0, .q), (1, .q), (2, .q), (3, .q), (4, .q), (5, .q), (6, .q), (7, .q), (8, .e), (9, .q)] mixed (by kernel_rfl) ?_
  refine run ?_
  refine J.callp rfl rfl (fun w' M => refAll _ _ _ _ _ _ _ _ _ (D0.ext M.ext) (R.row.ext M.ext) (by omega) (by omega)) ?_
  refine run ?_
  refine J.ifnot rfl (fun c3 => ?_) (fun c3 => ?_)
  ·refine run ?_
   refine J.fin ?_
   unfold S.shapeS
   rw [if_neg (not_not_intro hr), if_pos fun ho => of_decide_eq_false c3 ?_]
   rw [← hzo]
   exact ho p.toNat (by omega)
  refine run ?_
  refine J.nextS (p + 1) ⟨rfl, trivial⟩ (by kernel_rfl) ⟨by omega, fun k hk => ?_⟩ (by omega)
  rcases Nat.lt_or_ge k p.toNat with h | h
  ·exact hI k h
  obtain rfl : k = p.toNat := by omega
  rw [hzo]
  exact of_decide_eq_true c3
 have ho : S.opensS g.m g.ids g.ops := fun k hk => hI k (by omega)
 refine run ?_
 refine J.regionX [(0, .q), (3, .q), (4, .q), (5, .q), (1, .e), (2, .q), (6, .q)] mixed (by kernel_rfl) ?_
 refine run ?_
 refine J.call rfl rfl (fun w' M => refOrder g w' (G.ext M.ext) he hr ho) fun q hq => ?_
 obtain ⟨hq1, hq2⟩ := hq
 rw [← hl] at hq2
 have hs := S.shape_end hr ho hq2
 refine run ?_
 refine J.ifd rfl (fun c3 => ?_) (fun c3 => ?_)
 ·refine run ?_
  refine J.fin ?_
  rw [hs, if_pos (by omega)]
 refine run ?_
 refine J.fin ?_
 rw [hs, if_neg (by omega)]
theorem refCheck {S0 : Nat → Prop} (g : GrA) (w : World) (G : GrR S0 w g) :
  Calls Tryz.prog 14 #[.agg (grC g).toArray] w (Ret w fun v _ => v = .int .i64 (S.chkG g.m g.ids g.ops)) := by
 have D0 := G.ids
 have G0 := G.ops
 have hl := G.len
 have hcp := G.cap
 refine J.enter 44 Tryz.func14 rfl rfl ?_
 refine run ?_
 refine J.box rfl rfl rfl fun b1 => ?_
 refine run ?_
 refine J.ifd rfl (fun c => ?_) (fun c => ?_)
 ·refine run ?_
  refine J.fin ?_
  unfold S.chkG
  rw [if_pos (by omega)]
 refine run ?_
 refine J.ifn rfl (fun c2 => ?_) (fun c2 => ?_)
 ·refine run ?_
  refine J.fin ?_
  unfold S.chkG
  rw [if_neg (by omega), if_pos (by omega)]
 refine run ?_
 have h8 : ∀ i, i < g.n → ¬ S.ownS (g.ops.getD i S.OpV.zero) (S.idAt g.ids i) → (8 : Int) = S.chkG g.m g.ids g.ops := fun i hi h => by
  unfold S.chkG
  rw [if_neg (by omega), if_neg (by omega), if_pos fun ho => h (ho i (by omega))]
 refine J.loopS (A := Int) (fun p => [(3, .int .i64 p)]) [15, 16, 17, 18, 19, 20, 21, 22, 23, 24, 25, 26, 27, 28, 29, 30, 31, 32, 33, 34, 35, 36, 37, 38, 39, 40, 41, 42] (fun p => (0 ≤ p ∧ p ≤ g.n) ∧ ∀ i, i < p.toNat → S.ownS (g.ops.getD i S.OpV.zero) (S.idAt g.ids i)) (fun p => g.n - p.toNat) 0 (by kernel_rfl) ⟨by omega, fun i hi => by omega⟩ (fun p j hI => ?_)
 obtain ⟨h1, hI⟩ := hI
 refine run ?_
 refine J.ifd rfl (fun c3 => ?_) (fun c3 => ?_)
 ·obtain ⟨z, hz⟩ := G0.ex (i := p) (by omega)
  have R := G.op hz
  have hzo := GrA.opAt hz
  have hsa : Arr .u8 32 (S.sha (S.encS z.o)) := S.sha_arr _
  have hid : Arr .u8 32 (elt 32 g.ids p.toNat) := D0.elt_arr (by omega)
  have h9 : ¬ S.ownS z.o (S.idAt g.ids p.toNat) → (8 : Int) = S.chkG g.m g.ids g.ops := fun h => h8 p.toNat (by omega) (by rw [hzo]; exact h)
  refine run ?_
  refine J.regionX [(0, .q), (1, .q), (2, .q), (3, .q), (4, .q), (5, .e), (6, .q), (7, .q), (8, .q), (9, .q), (10, .q), (11, .q), (12, .q), (14, .q), (15, .q), (16, .q), (17, .q), (18, .q), (13, .e), (19, .q), (20, .q)] mixed (by kernel_rfl) ?_
  refine run ?_
  refine J.callp rfl rfl (fun w' M => verifyOR z.o R.ok _ _ _ (R.row.ext M.ext) R.cap) ?_
  refine run ?_
  refine J.spn rfl rfl rfl (fun c4 => ?_) (fun c4 => ?_)
  ·refine run ?_
   refine J.fin (congrArg _ (h9 fun h => c4 h.1))
  have hz0 := S.check_zero.1 (S.verE_check c4)
  refine run ?_
  refine J.callp rfl rfl (fun w' M => ofO z.o R.ok _ _ _ (R.row.ext M.ext) R.cap hz0.1 (fun hk => ?_)) ?_
  ·exact S.fine4 hz0.2.2.2.2.2.2 hk
  refine run ?_
  refine J.ifd rfl (fun c5 => ?_) (fun c5 => ?_)
  ·refine run ?_
   exact J.fin (congrArg _ (h9 fun h => c5 h.2))
  refine run ?_
  refine J.nextS (p + 1) ⟨rfl, trivial⟩ (by kernel_rfl) ⟨by omega, fun i hi => ?_⟩ (by omega)
  rcases Nat.lt_or_ge i p.toNat with h | h
  ·exact hI i h
  obtain rfl : i = p.toNat := by omega
  rw [hzo]
  exact ⟨c4, Decidable.not_not.1 c5⟩
 refine run ?_
 refine J.callp rfl rfl (fun w' M => refShape g w' (G.ext M.ext) (by omega)) ?_
 refine run ?_
 refine J.fin ?_
 unfold S.chkG
 rw [if_neg (by omega), if_neg (by omega), if_neg (not_not_intro (show S.ownsS g.ids g.ops from fun i hi => hI i (by omega)))]
theorem refHas {S0 : Nat → Prop} (g : GrA) (x : List Int) (w : World) (G : GrR S0 w g) (hx : Arr .u8 32 x) :
  Calls Tryz.prog 10 #[.agg (grC g).toArray, .agg (ints .u8 x).toArray] w (Ret w fun v _ => v = .tuple #[.bool (decide (S.chkG g.m g.ids g.ops = 0 ∧ S.inS g.m g.ids x)), .int .i64 (S.chkG g.m g.ids g.ops)]) := by
 have hcp := G.cap
 refine J.enter 14 Tryz.func10 rfl rfl ?_
 refine run ?_
 refine J.box rfl rfl rfl fun b1 => ?_
 refine run ?_
 refine J.box rfl rfl rfl fun b2 => ?_
 refine run ?_
 refine J.callp rfl rfl (fun w' M => refCheck g w' (G.ext M.ext)) ?_
 refine run ?_
 refine J.ifn rfl (fun c => ?_) (fun c => ?_)
 ·refine run ?_
  refine J.callp rfl rfl (fun w' M => refCheck g w' (G.ext M.ext)) ?_
  refine run ?_
  exact J.fin (tup2 (congrArg _ (decide_eq_false fun h => c h.1).symm) rfl)
 refine run ?_
 refine J.callp rfl rfl (fun w' M => refAt _ _ _ _ _ _ (G.ids.ext M.ext) hx (by omega)) ?_
 refine run ?_
 refine J.fin ?_
 rw [c]
 refine tup2 (congrArg _ ?_) rfl
 have := S.at_neg (m := g.m) (ids := g.ids) (x := x)
 rw [decide_eq_decide]
 constructor
 ·intro h
  exact ⟨rfl, Decidable.not_not.1 fun hn => by have := this.2 hn; omega⟩
 rintro ⟨_, h⟩
 exact Int.not_lt.1 fun hn => this.1 hn h
theorem twinG {S0 : Nat → Prop} (z : OpA) (w : World) (R : OpR S0 w z) :
  Calls Tryz.prog 58 #[.agg (opC z).toArray] w (Gv w (fun q : Option Addr × Nat => .agg (opC ⟨z.o, q.1, q.2⟩).toArray) (fun q => [.wown 27 .u8 32 q.1 z.o.n q.2 z.o.ids]) fun q => z.o.n ≤ q.2) :=
 Gv.of (twin z.o R.ok _ _ w R.row R.cap) fun v w' x ⟨a', c', hv, hc, O⟩ => ⟨(a', c'), hv, hc, sep1 (wown_ok O)⟩
theorem refGet {S0 : Nat → Prop} (g : GrA) (x : List Int) (w : World) (G : GrR S0 w g) (hx : Arr .u8 32 x) :
  Calls Tryz.prog 12 #[.agg (grC g).toArray, .agg (ints .u8 x).toArray] w (Gv w (fun q : OpA × Int => .tuple #[.agg (opC q.1).toArray, .int .i64 q.2]) (fun q => [.wrow .u8 32 q.1.pa q.1.o.n q.1.o.ids]) fun q => q.1.o.n ≤ q.1.pc ∧ q.1.o = S.getO g.m g.ids g.ops x ∧ q.2 = S.getE g.m g.ids g.ops x) := by
 have hcp := G.cap
 refine J.enter 25 Tryz.func12 rfl rfl ?_
 refine run ?_
 refine J.box rfl rfl rfl fun b1 => ?_
 refine run ?_
 refine J.box rfl rfl rfl fun b2 => ?_
 refine run ?_
 refine J.alloc rfl fun b3 => ?_
 refine run ?_
 refine J.callp rfl rfl (fun w' M => refCheck g w' (G.ext M.ext)) ?_
 refine run ?_
 refine J.ifn rfl (fun c => ?_) (fun c => ?_)
 ·refine run ?_
  refine J.callp rfl rfl (fun w' M => refCheck g w' (G.ext M.ext)) ?_
  refine run ?_
  refine J.nilW .u8 32 ?_
  exact J.finG (⟨S.OpV.zero, none, 0⟩, S.chkG g.m g.ids g.ops) rfl ⟨Nat.le_refl _, (if_pos c).symm, (if_pos c).symm⟩ (.cons_cons _ (List.nil_sublist _))
 have hz := S.chkG_zero.1 c
 have G0 := G.ops
 have hl := G.len
 refine run ?_
 refine J.callp rfl rfl (fun w' M => refAt _ _ _ _ _ _ (G.ids.ext M.ext) hx (by omega)) ?_
 refine run ?_
 refine J.ifd rfl (fun c2 => ?_) (fun c2 => ?_)
 ·refine run ?_
  have hin := S.at_neg.1 c2
  refine J.nilW .u8 32 ?_
  exact J.finG (⟨S.OpV.zero, none, 0⟩, 6) rfl ⟨Nat.le_refl _, by unfold S.getO; rw [if_neg (not_not_intro c), if_neg hin], by unfold S.getE; rw [if_neg (not_not_intro c), if_neg hin]⟩ (.cons_cons _ (List.nil_sublist _))
 have hin : S.inS g.m g.ids x := Decidable.not_not.1 fun h => c2 (S.at_neg.2 h)
 have hat : S.atS g.m g.ids x = (S.ixS g.m g.ids x : Nat) := if_pos hin
 have hlt := (S.ix_in hin).1
 obtain ⟨z, hz2⟩ := G.ops.ex (i := S.atS g.m g.ids x) (by omega)
 have R := G.op hz2
 have hzo := GrA.opAt hz2
 refine run ?_
 refine J.regionR [.blk b2 (ints .u8 x) 27, .blk b1 (grC g) 25] [(0, .q), (1, .q), (2, .q), (3, .q), (4, .q), (5, .e), (6, .q), (7, .q), (8, .e), (9, .e), (10, .q)] mixed (by kernel_rfl) (by repeat (first | exact List.Sublist.refl _ | refine List.Sublist.cons_cons _ ?_ | refine List.Sublist.cons _ ?_)) ?_
 refine run ?_
 refine J.callp rfl rfl (fun w' M => refAt _ _ _ _ _ _ (G.ids.ext M.ext) hx (by omega)) ?_
 refine run ?_
 refine J.call rfl rfl (fun w' M => twinG z w' (R.ext M.ext)) fun q hq => ?_
 refine run ?_
 refine J.re (.wown 27 .u8 32 q.1 z.o.n q.2 z.o.ids) (.wrow .u8 32 q.1 z.o.n z.o.ids) (fun S w => wown_wrow) ?_
 refine J.finG (⟨z.o, q.1, q.2⟩, 0) rfl ⟨hq, ?_, ?_⟩ (.cons_cons _ (List.nil_sublist _))
 ·unfold S.getO
  rw [if_neg (not_not_intro c), if_pos hin, ← hzo, hat, Int.toNat_natCast]
 unfold S.getE
 rw [if_neg (not_not_intro c), if_pos hin]
end Go.Proofs.YtinjiccnjjmofaaGreatDoor.W
namespace Go.Proofs.YtinjiccnjjmofaaGreatDoor.W
set_option pp.deepTerms true
set_option pp.maxSteps 1000000
open Go.RowKit Go.Proofs.YtinjiccnjjmofaaGreatDoor.G
set_option linter.unusedVariables false
set_option linter.unusedSimpArgs false
set_option maxRecDepth 20000
set_option maxHeartbeats 8000000
attribute [local irreducible] RS RX RY Code.wp bodyPost J Ent.blk Ent.irow Ent.iown Ent.wrow Ent.wown Ent.grow Ent.gown Ent.all Ent.emp
instance : Ents Tryz.prog 54 := ⟨.mk Tryz.func54 (by kernel_rfl) rfl⟩
instance : Ents Tryz.prog 8 := ⟨.mk Tryz.func8 (by kernel_rfl) rfl⟩
instance : Ents Tryz.prog 9 := ⟨.mk Tryz.func9 (by kernel_rfl) rfl⟩
instance : Ents Tryz.prog 10 := ⟨.mk Tryz.func10 (by kernel_rfl) rfl⟩
instance : Ents Tryz.prog 11 := ⟨.mk Tryz.func11 (by kernel_rfl) rfl⟩
instance : Ents Tryz.prog 12 := ⟨.mk Tryz.func12 (by kernel_rfl) rfl⟩
instance : Ents Tryz.prog 15 := ⟨.mk Tryz.func15 (by kernel_rfl) rfl⟩
instance : Ents Tryz.prog 16 := ⟨.mk Tryz.func16 (by kernel_rfl) rfl⟩
instance : FldV Tryz.prog 25 0 0 1 false := ⟨_, _, _, Tryz.underlying25, rfl, Tryz.underlying22, by kernel_rfl, rfl, rfl⟩
instance : FldV Tryz.prog 25 1 1 1 false := ⟨_, _, _, Tryz.underlying25, rfl, Tryz.underlying23, by kernel_rfl, rfl, rfl⟩
def bigO (o : S.OpV) : Prop := 20 < o.n ∨ 100 < o.key.size ∨ 100 < o.t.size
/-- A graph that comes in. -/
structure GrI (S0 : Nat → Prop) (w : World) (g : GrA) : Prop where
 ids : WRow .u8 32 S0 w g.ia g.m g.ids
 ops : GRow opC 11 S0 w g.oa g.n g.zs
 inn : Inns opI S0 w g.zs
 rng : ∀ z ∈ g.zs, z.o.rng
 cap : g.m ≤ g.ic ∧ g.n ≤ g.oc
def GrSm (g : GrA) : Prop := g.m ≤ 70 ∧ g.n ≤ 70 ∧ ¬ (16 < g.n ∧ g.n ≤ 60) ∧ ∀ i, i < g.n → ¬ bigO (g.ops.getD i S.OpV.zero)
theorem GrI.ext {S0 : Nat → Prop} {w w' : World} {g : GrA} (h : GrI S0 w g) (x : Ext w w') : GrI S0 w' g := ⟨h.ids.ext x, h.ops.ext x, h.inn.ext x, h.rng, h.cap⟩
theorem GrI.gr {S0 : Nat → Prop} {w : World} {g : GrA} (h : GrI S0 w g) (hs : GrSm g) : GrR S0 w g := ⟨h.ids, h.ops, h.inn, fun z hz => by
 obtain ⟨i, hi, rfl⟩ := List.getElem_of_mem hz
 have h1 := hs.2.2.2 i (by rw [← h.ops.len]; exact hi)
 rw [GrA.opAt (List.getElem?_eq_getElem hi)] at h1
 exact (h.rng _ hz).ok h1, h.cap.1, h.cap.2, hs.1, hs.2.1⟩
theorem GrR.getO_ok {S0 : Nat → Prop} {w : World} {g : GrA} (h : GrR S0 w g) (x : List Int) : (S.getO g.m g.ids g.ops x).ok := by
 have hz : S.OpV.zero.ok := by constructor <;> decide
 have hk : ∀ i, (g.ops.getD i S.OpV.zero).ok := fun i => by
  rw [List.getD_eq_getElem?_getD]
  cases h1 : g.ops[i]? with
  | none => exact hz
  | some o =>
   unfold GrA.ops at h1
   rw [List.getElem?_map] at h1
   obtain ⟨z, hz, rfl⟩ := Option.map_eq_some_iff.1 h1
   exact h.ok z (List.mem_of_getElem? hz)
 unfold S.getO
 split
 ·exact hz
 split
 ·exact hk _
 exact hz
theorem refGreat {S0 : Nat → Prop} (g : GrA) (w : World) (G : GrI S0 w g) :
  Calls Tryz.prog 8 #[.agg (grC g).toArray] w (Gv w (fun q : Bool => .bool q) (fun _ => []) fun q => q = false → GrSm g) := by
 have G0 := G.ops
 refine J.enter 42 Tryz.func8 rfl rfl ?_
 refine run ?_
 refine J.box rfl rfl rfl fun b1 => ?_
 refine run ?_
 refine J.loopS (A := Int) (fun p => [(3, .int .i64 p)]) [4, 5, 6, 7, 8, 9, 10, 11, 12, 13, 14, 15, 16, 17, 18, 19, 20] (fun p => (0 ≤ p ∧ p ≤ g.n ∧ p ≤ 71) ∧ ∀ k, k < p.toNat → ¬ bigO (g.ops.getD k S.OpV.zero)) (fun p => g.n - p.toNat) 0 (by kernel_rfl) ⟨by omega, fun k hk => by omega⟩ (fun p j hI => ?_)
 obtain ⟨h1, hI⟩ := hI
 refine run ?_
 have hend : ∀ {L : List Ent} {X : World → Prop}, (¬ (p < g.n) ∨ ¬ p ≤ 70) → ((g.n ≤ 70 → ∀ k, k < g.n → ¬ bigO (g.ops.getD k S.OpV.zero)) → J no w L X) → J no w L X := fun h k => k fun hn i hi => hI i (by omega)
 refine J.spd rfl rfl rfl (fun c1 => ?_) (fun c1 => ?_)
 ·refine run ?_
  refine J.ifd rfl (fun c2 => ?_) (fun c2 => ?_)
  ·obtain ⟨z, hz⟩ := G0.ex (i := p) (by omega)
   have hzo := GrA.opAt hz
   refine run ?_
   refine J.callp rfl rfl (fun w' M => great z.o z.pa z.pc w') ?_
   refine run ?_
   refine J.ifd rfl (fun c3 => ?_) (fun c3 => ?_)
   ·refine run ?_
    exact J.finG true rfl (fun h => by cases h) (List.nil_sublist _)
   refine run ?_
   refine J.nextS (p + 1) ⟨rfl, trivial⟩ (by kernel_rfl) ⟨by omega, fun k hk => ?_⟩ (by omega)
   rcases Nat.lt_or_ge k p.toNat with h | h
   ·exact hI k h
   obtain rfl : k = p.toNat := by omega
   rw [hzo]
   exact c3
  refine hend (.inr c2) fun hA => ?_
  refine run ?_
  refine J.spd rfl rfl rfl (fun c3 => ?_) (fun c3 => ?_)
  ·refine run ?_
   refine J.spd rfl rfl rfl (fun c4 => ?_) (fun c4 => ?_)
   ·refine run ?_
    exact J.finG true rfl (fun h => by cases h) (List.nil_sublist _)
   refine run ?_
   refine J.spd rfl rfl rfl (fun c5 => ?_) (fun c5 => ?_)
   ·refine run ?_
    exact J.finG true rfl (fun h => by cases h) (List.nil_sublist _)
   refine run ?_
   exact J.finG (decide ((70 : Int) < g.m)) rfl (fun h => by have := of_decide_eq_false h; exact ⟨by omega, by omega, by omega, hA (by omega)⟩) (List.nil_sublist _)
  refine run ?_
  refine J.spd rfl rfl rfl (fun c5 => ?_) (fun c5 => ?_)
  ·refine run ?_
   exact J.finG true rfl (fun h => by cases h) (List.nil_sublist _)
  refine run ?_
  exact J.finG (decide ((70 : Int) < g.m)) rfl (fun h => by have := of_decide_eq_false h; exact ⟨by omega, by omega, by omega, hA (by omega)⟩) (List.nil_sublist _)
 refine hend (.inl c1) fun hA => ?_
 refine run ?_
 refine J.spd rfl rfl rfl (fun c3 => ?_) (fun c3 => ?_)
 ·refine run ?_
  refine J.spd rfl rfl rfl (fun c4 => ?_) (fun c4 => ?_)
  ·refine run ?_
   exact J.finG true rfl (fun h => by cases h) (List.nil_sublist _)
  refine run ?_
  refine J.spd rfl rfl rfl (fun c5 => ?_) (fun c5 => ?_)
  ·refine run ?_
   exact J.finG true rfl (fun h => by cases h) (List.nil_sublist _)
  refine run ?_
  exact J.finG (decide ((70 : Int) < g.m)) rfl (fun h => by have := of_decide_eq_false h; exact ⟨by omega, by omega, by omega, hA (by omega)⟩) (List.nil_sublist _)
 refine run ?_
 refine J.spd rfl rfl rfl (fun c5 => ?_) (fun c5 => ?_)
 ·refine run ?_
  exact J.finG true rfl (fun h => by cases h) (List.nil_sublist _)
 refine run ?_
 exact J.finG (decide ((70 : Int) < g.m)) rfl (fun h => by have := of_decide_eq_false h; exact ⟨by omega, by omega, by omega, hA (by omega)⟩) (List.nil_sublist _)
theorem dagFinds {S0 : Nat → Prop} (g : GrA) (x : List Int) (TK : TypeId) (w : World) (K0 : Kst w TK) (G : GrI S0 w g) (hx : Arr .u8 32 x) :
  Calls Tryz.prog 3 #[.agg (grC g).toArray, .agg (ints .u8 x).toArray] w (Ret w fun v _ => v = .bool true) := by
 refine J.enter 74 Tryz.func3 rfl rfl ?_
 refine run ?_
 refine J.box rfl rfl rfl fun b1 => ?_
 refine run ?_
 refine J.box rfl rfl rfl fun b2 => ?_
 refine run ?_
 refine J.call rfl rfl (fun w' M => refGreat g w' (G.ext M.ext)) fun q hq => ?_
 refine run ?_
 refine J.ifb rfl (fun c1 => ?_) (fun c1 => ?_)
 ·refine run ?_
  exact J.fin rfl
 have G := G.gr (hq c1)
 have hok := G.getO_ok x
 refine run ?_
 refine J.callp rfl rfl (fun w' M => dagHas g x _ w' (K0.ext M.ext) (G.ext M.ext) hx) ?_
 refine run ?_
 refine J.callp rfl rfl (fun w' M => refHas g x w' (G.ext M.ext) hx) ?_
 refine run ?_
 refine J.call rfl rfl (fun w' M => dagGet g x _ w' (K0.ext M.ext) (G.ext M.ext) hx) fun q1 hq1 => ?_
 refine run ?_
 refine J.alloc rfl fun b3 => ?_
 refine run ?_
 refine J.call rfl rfl (fun w' M => refGet g x w' (G.ext M.ext) hx) fun q2 hq2 => ?_
 refine run ?_
 refine J.alloc rfl fun b4 => ?_
 refine run ?_
 refine J.regionX [(0, .q), (2, .q), (1, .e), (3, .e), (4, .q), (5, .q), (6, .q), (7, .q), (8, .q), (9, .q), (10, .q), (11, .q), (12, .q), (13, .q), (14, .q), (15, .q), (16, .q), (17, .q), (18, .e), (19, .q), (20, .q), (21, .q), (22, .q), (23, .q), (24, .q), (25, .q), (26, .e), (27, .q), (28, .q), (29, .q), (30, .q), (31, .q), (32, .e), (33, .q), (34, .q), (35, .q), (36, .q), (37, .q)] mixed (by kernel_rfl) ?_
 refine run ?_
 refine J.callp rfl rfl (fun w' M => dagCheck g _ w' (K0.ext M.ext) (G.ext M.ext)) ?_
 refine run ?_
 refine J.callp rfl rfl (fun w' M => refCheck g w' (G.ext M.ext)) ?_
 refine run ?_
 refine J.spe rfl rfl rfl (fun _ => ?_) (fun c => absurd rfl c)
 refine run ?_
 refine J.sp rfl rfl rfl (fun _ => ?_) (fun c => by simp at c)
 refine run ?_
 refine J.spe rfl rfl rfl (fun _ => ?_) (fun c => absurd rfl c)
 refine run ?_
 have h1 := hok
 rw [← hq1.2.1] at h1
 have h2 := hok
 rw [← hq2.2.1] at h2
 refine J.callp rfl rfl (fun w' M => (RW.row' (a := q1.1.pa) w' M).elim fun _ k1 => (RW.row' (a := q2.1.pa) w' M).elim fun _ k2 => sameO q1.1.o q2.1.o h1 h2 _ _ _ _ w' k1 k2) ?_
 refine run ?_
 have hs : S.SameO q1.1.o q2.1.o := by rw [hq1.2.1, hq2.2.1]; exact S.sameO_refl _
 refine J.spd rfl rfl rfl (fun _ => ?_) (fun c => absurd hs c)
 refine run ?_
 refine J.spe rfl rfl rfl (fun _ => ?_) (fun c => absurd (hq1.2.2.trans hq2.2.2.symm) c)
 refine run ?_
 refine J.callp rfl rfl (fun w' M => dagNew w') ?_
 refine run ?_
 refine J.callp rfl rfl (fun w' M => dagNew w') ?_
 refine run ?_
 exact J.fin rfl
end Go.Proofs.YtinjiccnjjmofaaGreatDoor.W
namespace Go.Proofs.YtinjiccnjjmofaaGreatDoor.L
open Go Go.Proofs.YtinjiccnjjmofaaGreatDoor Go.Proofs.YtinjiccnjjmofaaGreatDoor.G Go.Proofs.YtinjiccnjjmofaaGreatDoor.W
open Go.ChangeShapes Go.WideShapes Go.ChangeAt Go.RowKit
set_option linter.unusedVariables false
set_option maxRecDepth 100000
section
variable {H : Type} {enc : TypeId × Value → H} {P : Program} {w : World} {base : Nat} {sp : Nat → Bool} {held : Bool} {fuel : Nat} {cs : List Value} {x : DataW H × List MemPlace} {t : TypeId}
theorem okWide_array {e n : Nat} {r : Reach} {b0 : Nat} {v : Value} (ht : P.underlying t = some (.array n e)) (h : Value.okWide P w r b0 t v) : ∃ xs : Array Value, v = .agg xs ∧ xs.size = P.cellsOf t := by
  simp only [Value.okWide, ht] at h
  obtain ⟨cs, h1, h2, _⟩ := h
  exact ⟨cs, h1, h2⟩
/-- A slice of records. -/
theorem grow_in {α : Type} {e sz : Nat} (f : α → List Value) (Q : α → Prop) (d : α) (hf : ∀ x, (f x).length = sz) (ht : P.underlying t = some (.slice e)) (hes : P.cellsOf e = sz) (hz : 0 < sz)
    (h1 : ∀ m ds y, DataW.trod enc P w base sp held m e ds = some y → ∃ z, ds = f z ∧ Q z) (h : DataW.trod enc P w base sp held fuel t cs = some x) :
    ∃ a n c zs, cs = [.slice a n c] ∧ n ≤ c ∧ GRow f sz (fun _ => True) w a n zs ∧ ∀ z ∈ zs, Q z := by
  rcases DataW.trod_slice ht h with ⟨h2, _⟩ | ⟨a, len, cap, elems, rest, m, _, h2, _, _, hlc, _, hel, he, _⟩
  · exact ⟨none, 0, 0, [], h2, Nat.le_refl _, .nil hf, fun z hz => by cases hz⟩
  · refine ⟨some a, len, cap, ?_⟩
    by_cases h0 : len = 0
    · subst h0
      exact ⟨[], h2, hlc, .nil hf, fun z hz => by cases hz⟩
    · have one : ∀ i, i < len → ∃ z, Q z ∧ ∀ j, j < sz → w.cell? ((a.add (i * sz)).add j) = (f z)[j]? := by
        intro i hi
        have h3 := he i hi
        rw [List.getElem?_eq_getElem (by omega), hes] at h3
        cases hc : w.cells? base (a.add (i * sz)) sz with
        | none => rw [hc] at h3; cases h3
        | some ds =>
          rw [hc, Option.bind_some] at h3
          obtain ⟨z, h4, h5⟩ := h1 _ _ _ h3
          obtain ⟨h6, h7⟩ := cells_in hc
          exact ⟨z, h5, fun j hj => by rw [h7 j hj, h4]⟩
      obtain ⟨b0, o, spot⟩ := a
      obtain rfl : spot = none := by
        obtain ⟨z, _, h3⟩ := one 0 (by omega)
        have h4 := h3 0 hz
        rw [List.getElem?_eq_getElem (by rw [hf]; exact hz)] at h4
        have := World.cell?_spot h4
        simpa [Addr.add] using this
      obtain ⟨zs, h3, h4⟩ := list_of d (fun i z => Q z ∧ ∀ j, j < sz → w.cell? ⟨b0, o + (i * sz + j), none⟩ = (f z)[j]?) len (fun i hi => by
        obtain ⟨z, h5, h6⟩ := one i hi
        exact ⟨z, h5, fun j hj => by have := h6 j hj; rw [add_mk, add_mk, Nat.add_assoc] at this; exact this⟩)
      refine ⟨zs, h2, hlc, ⟨.inr ⟨b0, o, rfl, trivial, fun j hj => ?_⟩, h3, hf⟩, fun z hz => ?_⟩
      · rw [flat_len f sz hf, h3] at hj
        have hi : j / sz < len := Nat.div_lt_of_lt_mul hj
        have hm := Nat.mod_lt j hz
        have h5 := (h4 _ hi).2 _ hm
        rw [Nat.mul_comm (j / sz), Nat.div_add_mod] at h5
        have hg := flat_get f sz hf d zs (j / sz) (by omega)
        have e2 := congrArg (fun t => t[j % sz]?) hg
        simp only [List.getElem?_take, if_pos hm, List.getElem?_drop, Nat.div_add_mod] at e2
        rw [h5, ← e2, List.getD_eq_getElem?_getD, List.getElem?_eq_getElem (by rw [flat_len f sz hf, h3]; exact hj)]
        rfl
      · obtain ⟨j, hj, rfl⟩ := List.getElem_of_mem hz
        have := (h4 j (by omega)).1
        rw [List.getD_eq_getElem?_getD, List.getElem?_eq_getElem hj] at this
        exact this
end
theorem z_ops : Tryz.prog.cellsOf 23 = 1 := by kernel_rfl
theorem z_gr : Tryz.prog.cellsOf 25 = 2 := by kernel_rfl
section
variable {H : Type} {enc : TypeId × Value → H} {w : World} {base : Nat} {sp : Nat → Bool} {held : Bool} {fuel : Nat} {cs : List Value} {x : DataW H × List MemPlace}
theorem id_in (h : DataW.trod enc Tryz.prog w base sp held fuel 27 cs = some x) : ∃ xs, cs = ints .u8 xs ∧ Arr .u8 32 xs := bytes_in Tryz.underlying27 Tryz.underlying5 z_u8 z_id h
theorem ops_in (h : DataW.trod enc Tryz.prog w base sp held fuel 23 cs = some x) : ∃ a n c zs, cs = [.slice a n c] ∧ n ≤ c ∧ GRow opC 11 (fun _ => True) w a n zs ∧ ∀ z ∈ zs, z.o.rng ∧ z.o.n ≤ z.pc ∧ WRow .u8 32 (fun _ => True) w z.pa z.o.n z.o.ids :=
  grow_in opC (fun z => z.o.rng ∧ z.o.n ≤ z.pc ∧ WRow .u8 32 (fun _ => True) w z.pa z.o.n z.o.ids) ⟨S.OpV.zero, none, 0⟩ (fun _ => rfl) Tryz.underlying23 z_op (by decide) (fun m ds y hd => by
    obtain ⟨o, pa, pc, h1, h2, h3, h4⟩ := op_in hd
    exact ⟨⟨o, pa, pc⟩, h1, h2, h3, h4⟩) h
theorem graph_in (h : DataW.trod enc Tryz.prog w base sp held fuel 25 cs = some x) : ∃ g, cs = grC g ∧ GrI (fun _ => True) w g := by
  have hl := (fields_in Tryz.underlying25 h).1
  rw [z_gr] at hl
  match cs, hl, h with
  | [c0, c1], _, h =>
    obtain ⟨_, _, f0⟩ := field_in 0 Tryz.underlying25 rfl z_ids h
    obtain ⟨_, _, f1⟩ := field_in 1 Tryz.underlying25 rfl z_ops h
    obtain ⟨ia, m, ic, ids, e0, hc0, hR0⟩ := ids_in Tryz.underlying22 Tryz.underlying27 Tryz.underlying5 z_u8 z_id (by decide) f0
    obtain ⟨oa, n, oc, zs, e1, hc1, hR1, hQ⟩ := ops_in f1
    have q0 : [c0] = [Value.slice ia m ic] := e0
    have q1 : [c1] = [Value.slice oa n oc] := e1
    simp only [List.cons.injEq, and_true] at q0 q1
    subst q0 q1
    refine ⟨⟨ia, oa, m, n, ic, oc, ids, zs⟩, rfl, hR0, hR1, fun z hz i hi => ?_, fun z hz => (hQ z hz).1, hc0, hc1⟩
    obtain rfl := List.mem_singleton.1 hi
    exact ⟨(hQ z hz).2.2, (hQ z hz).2.1⟩
end
end Go.Proofs.YtinjiccnjjmofaaGreatDoor.L
