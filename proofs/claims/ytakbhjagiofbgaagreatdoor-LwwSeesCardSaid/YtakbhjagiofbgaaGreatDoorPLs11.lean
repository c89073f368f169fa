/-
  Part 11 of the lemmas of these laws: LwwSees.
-/
import Derived.Test.YtakbhjagiofbgaaGreatDoorPLs10
set_option linter.unusedSimpArgs false
namespace Go.Proofs.YtakbhjagiofbgaaGreatDoor.S
open G
set_option linter.unusedVariables false
/-! what is put -/
theorem put_ok {l : List RgV} (h : ∀ x ∈ l, x.ok) (hs : SortK l) {x : RgV} (hx : x.ok) : ∀ y ∈ putR l x, y.ok := fun y hy => by
  rcases (mem_put hs x y).1 hy with h1 | rfl
  · exact h y h1.1
  · unfold bestR
    split
    · rename_i h3
      exact h _ (rg_mem ((has_spK hs).1 h3.1).1)
    · exact hx
theorem late_trans {x y z : RgV} (h : lateR x.st x.id y) (k : lateR y.st y.id z) : lateR x.st x.id z := by
  unfold lateR at *
  rcases h with h | ⟨h1, h2⟩
  · rcases k with k | ⟨k1, k2⟩
    · exact .inl (by omega)
    · exact .inl (by omega)
  · rcases k with k | ⟨k1, k2⟩
    · exact .inl (by omega)
    · refine .inr ⟨by omega, ?_⟩
      have e1 := cmpS_swap x.id y.id
      have e2 := cmpS_swap y.id z.id
      have e3 := cmpS_swap x.id z.id
      have := cmpS_trans (a := z.id) (b := y.id) (c := x.id) (by omega) (by omega)
      omega
theorem late_total {x y : RgV} (h : ¬ lateR x.st x.id y) (k : ¬ lateR y.st y.id x) : x.id = y.id := by
  unfold lateR at *
  have e1 := cmpS_swap x.id y.id
  refine (cmpS_eq _ _).1 ?_
  by_cases hs : x.st = y.st
  · have h1 : ¬ 0 < cmpS x.id y.id := fun e => h (.inr ⟨hs, e⟩)
    have h2 : ¬ 0 < cmpS y.id x.id := fun e => k (.inr ⟨hs.symm, e⟩)
    omega
  · by_cases h3 : y.st < x.st
    · exact absurd (.inl h3) h
    · exact absurd (.inl (by omega)) k
theorem sort_ext {l m : List RgV} (hl : SortK l) (hm : SortK m) (h : ∀ y, y ∈ l ↔ y ∈ m) : l = m := by
  induction l generalizing m with
  | nil =>
    cases m with
    | nil => rfl
    | cons y m => exact absurd ((h y).2 (List.mem_cons_self ..)) (by simp)
  | cons x l ih =>
    cases m with
    | nil => exact absurd ((h x).1 (List.mem_cons_self ..)) (by simp)
    | cons y m =>
      have hx := List.pairwise_cons.1 hl
      have hy := List.pairwise_cons.1 hm
      have e : x = y := by
        rcases List.mem_cons.1 ((h x).1 (List.mem_cons_self ..)) with e | e
        · exact e
        · rcases List.mem_cons.1 ((h y).2 (List.mem_cons_self ..)) with e2 | e2
          · exact e2.symm
          · have h1 := hy.1 x e
            have h2 := hx.1 y e2
            have := kc_swap x.key y.key
            omega
      subst e
      congr 1
      refine ih hx.2 hy.2 fun z => ⟨fun hz => ?_, fun hz => ?_⟩
      · rcases List.mem_cons.1 ((h z).1 (List.mem_cons_of_mem _ hz)) with e | e
        · subst e
          have := hx.1 z hz
          rw [kc_self] at this
          omega
        · exact e
      · rcases List.mem_cons.1 ((h z).2 (List.mem_cons_of_mem _ hz)) with e | e
        · subst e
          have := hy.1 z hz
          rw [kc_self] at this
          omega
        · exact e
/-! operations of a graph -/
def regI (ids : List Int) (ops : List OpV) (i : Nat) : RgV := if h : (idAt ids i).length = 32 then regO (ops.getD i OpV.zero) (idAt ids i) h else RgV.zero
def setI (ops : List OpV) (i : Nat) : Prop := (ops.getD i OpV.zero).k = 4
instance (ops : List OpV) (i : Nat) : Decidable (setI ops i) := by unfold setI; infer_instance
def stepI (ids : List Int) (ops : List OpV) (l : List RgV) (i : Nat) : List RgV := if setI ops i then putR l (regI ids ops i) else l
def ofL (ids : List Int) (ops : List OpV) (js : List Nat) : List RgV := js.foldl (stepI ids ops) []
theorem ofL_snoc (ids : List Int) (ops : List OpV) (js : List Nat) (i : Nat) : ofL ids ops (js ++ [i]) = stepI ids ops (ofL ids ops js) i := by simp [ofL, List.foldl_append]
def topI (ids : List Int) (ops : List OpV) (js : List Nat) (i : Nat) : Prop := i ∈ js ∧ setI ops i ∧ ∀ j ∈ js, setI ops j → (regI ids ops j).key = (regI ids ops i).key → ¬ lateR (regI ids ops j).st (regI ids ops j).id (regI ids ops i)
def OneI (ids : List Int) (ops : List OpV) (js : List Nat) : Prop := ∀ i ∈ js, ∀ j ∈ js, (regI ids ops i).id = (regI ids ops j).id → i = j
theorem ofL_all (ids : List Int) (ops : List OpV) (js : List Nat) : SortK (ofL ids ops js) ∧ (∀ k, hasK (ofL ids ops js) k ↔ ∃ i ∈ js, setI ops i ∧ (regI ids ops i).key = k) ∧ (OneI ids ops js → ∀ y, y ∈ ofL ids ops js ↔ ∃ i, topI ids ops js i ∧ y = regI ids ops i) := by
  suffices H : ∀ n, n ≤ js.length → SortK (ofL ids ops (js.take n)) ∧ (∀ k, hasK (ofL ids ops (js.take n)) k ↔ ∃ i ∈ js.take n, setI ops i ∧ (regI ids ops i).key = k) ∧ (OneI ids ops (js.take n) → ∀ y, y ∈ ofL ids ops (js.take n) ↔ ∃ i, topI ids ops (js.take n) i ∧ y = regI ids ops i) by
    have := H js.length (Nat.le_refl _)
    rwa [List.take_length] at this
  intro n
  induction n with
  | zero =>
    intro _
    refine ⟨List.Pairwise.nil, fun k => ?_, fun _ y => ?_⟩
    · simp [ofL, hasK]
    · simp [ofL, topI]
  | succ n ih =>
    intro hn
    obtain ⟨h1, h2, h3⟩ := ih (by omega)
    rw [take_snoc_get _ _ (by omega : n < js.length)]
    generalize js.take n = ks at h1 h2 h3 ⊢
    generalize js.getD n 0 = i
    rw [ofL_snoc]
    by_cases hs : setI ops i
    · have e : stepI ids ops (ofL ids ops ks) i = putR (ofL ids ops ks) (regI ids ops i) := if_pos hs
      rw [e]
      refine ⟨put_sort h1 _, fun k => ?_, fun ho y => ?_⟩
      · rw [has_put h1, h2]
        constructor
        · rintro (⟨j, hj, hk⟩ | hk)
          · exact ⟨j, List.mem_append_left _ hj, hk⟩
          · exact ⟨i, by simp, hs, hk.symm⟩
        · rintro ⟨j, hj, hk⟩
          rcases List.mem_append.1 hj with hj | hj
          · exact .inl ⟨j, hj, hk⟩
          · rw [List.mem_singleton] at hj; subst hj; exact .inr hk.2.symm
      · have ho' : OneI ids ops ks := fun a ha b hb e => ho a (List.mem_append_left _ ha) b (List.mem_append_left _ hb) e
        have h4 := h3 ho'
        have hz : hasK (ofL ids ops ks) (regI ids ops i).key → ∃ j, topI ids ops ks j ∧ rg (ofL ids ops ks) (spK (ofL ids ops ks) (regI ids ops i).key) = regI ids ops j ∧ (regI ids ops j).key = (regI ids ops i).key := fun hh => by
          have h5 := (has_spK h1).1 hh
          obtain ⟨j, h6, h7⟩ := (h4 _).1 (rg_mem h5.1)
          exact ⟨j, h6, h7, by rw [← h7]; exact h5.2⟩
        rw [mem_put h1]
        constructor
        · rintro (⟨hy, hk⟩ | rfl)
          · obtain ⟨j, h6, rfl⟩ := (h4 y).1 hy
            refine ⟨j, ⟨List.mem_append_left _ h6.1, h6.2.1, fun j' hj' hs' hk' => ?_⟩, rfl⟩
            rcases List.mem_append.1 hj' with hj' | hj'
            · exact h6.2.2 j' hj' hs' hk'
            · rw [List.mem_singleton] at hj'; subst hj'; exact absurd hk'.symm hk
          · by_cases hh : hasK (ofL ids ops ks) (regI ids ops i).key
            · obtain ⟨j, h6, h7, h8⟩ := hz hh
              unfold bestR
              by_cases hl : lateR (regI ids ops i).st (regI ids ops i).id (rg (ofL ids ops ks) (spK (ofL ids ops ks) (regI ids ops i).key))
              · rw [if_neg (fun h9 => h9.2 hl)]
                refine ⟨i, ⟨by simp, hs, fun j' hj' hs' hk' hl' => ?_⟩, rfl⟩
                rcases List.mem_append.1 hj' with hj' | hj'
                · rw [h7] at hl
                  exact h6.2.2 j' hj' hs' (hk'.trans h8.symm) (late_trans hl' hl)
                · rw [List.mem_singleton] at hj'; subst hj'; exact late_irr _ hl'
              · rw [if_pos ⟨hh, hl⟩]
                refine ⟨j, ⟨List.mem_append_left _ h6.1, h6.2.1, fun j' hj' hs' hk' => ?_⟩, h7⟩
                rcases List.mem_append.1 hj' with hj' | hj'
                · exact h6.2.2 j' hj' hs' hk'
                · rw [List.mem_singleton] at hj'; subst hj'; rw [← h7]; exact hl
            · have hb : bestR (ofL ids ops ks) (regI ids ops i) = regI ids ops i := by unfold bestR; rw [if_neg (fun h9 => hh h9.1)]
              rw [hb]
              refine ⟨i, ⟨by simp, hs, fun j' hj' hs' hk' hl' => ?_⟩, rfl⟩
              rcases List.mem_append.1 hj' with hj' | hj'
              · exact hh ((h2 _).2 ⟨j', hj', hs', hk'⟩)
              · rw [List.mem_singleton] at hj'; subst hj'; exact late_irr _ hl'
        · rintro ⟨j, ht, rfl⟩
          by_cases hk : (regI ids ops j).key = (regI ids ops i).key
          · right
            by_cases hh : hasK (ofL ids ops ks) (regI ids ops i).key
            · obtain ⟨j2, h6, h7, h8⟩ := hz hh
              unfold bestR
              have hi2 : i ∈ ks ++ [i] := by simp
              have hj2 : j2 ∈ ks ++ [i] := List.mem_append_left _ h6.1
              by_cases hl : lateR (regI ids ops i).st (regI ids ops i).id (rg (ofL ids ops ks) (spK (ofL ids ops ks) (regI ids ops i).key))
              · rw [if_neg (fun h9 => h9.2 hl)]
                rw [h7] at hl
                have hx := ht.2.2 i hi2 hs hk.symm
                have hji : j = i := by
                  rcases List.mem_append.1 ht.1 with hj' | hj'
                  · have hjj : ¬ lateR (regI ids ops j2).st (regI ids ops j2).id (regI ids ops j) := ht.2.2 j2 hj2 h6.2.1 (h8.trans hk.symm)
                    have hjj2 : ¬ lateR (regI ids ops j).st (regI ids ops j).id (regI ids ops j2) := h6.2.2 j hj' ht.2.1 (hk.trans h8.symm)
                    have e2 := ho j ht.1 j2 hj2 (late_total hjj2 hjj)
                    subst e2
                    exact absurd hl hx
                  · exact List.mem_singleton.1 hj'
                rw [hji]
              · rw [if_pos ⟨hh, hl⟩, h7]
                rw [h7] at hl
                rcases List.mem_append.1 ht.1 with hj' | hj'
                · have hjj : ¬ lateR (regI ids ops j2).st (regI ids ops j2).id (regI ids ops j) := ht.2.2 j2 hj2 h6.2.1 (h8.trans hk.symm)
                  have hjj2 : ¬ lateR (regI ids ops j).st (regI ids ops j).id (regI ids ops j2) := h6.2.2 j hj' ht.2.1 (hk.trans h8.symm)
                  rw [ho j ht.1 j2 hj2 (late_total hjj2 hjj)]
                · rw [List.mem_singleton] at hj'
                  subst hj'
                  have hjj : ¬ lateR (regI ids ops j2).st (regI ids ops j2).id (regI ids ops j) := ht.2.2 j2 hj2 h6.2.1 h8
                  rw [ho j hi2 j2 hj2 (late_total hl hjj)]
            · have hb : bestR (ofL ids ops ks) (regI ids ops i) = regI ids ops i := by unfold bestR; rw [if_neg (fun h9 => hh h9.1)]
              rw [hb]
              rcases List.mem_append.1 ht.1 with hj' | hj'
              · exact absurd ((h2 _).2 ⟨j, hj', ht.2.1, hk⟩) hh
              · rw [List.mem_singleton.1 hj']
          · left
            refine ⟨(h4 _).2 ⟨j, ⟨?_, ht.2.1, fun j' hj' => ht.2.2 j' (List.mem_append_left _ hj')⟩, rfl⟩, hk⟩
            rcases List.mem_append.1 ht.1 with hj' | hj'
            · exact hj'
            · rw [List.mem_singleton] at hj'; subst hj'; exact absurd rfl hk
    · have e : stepI ids ops (ofL ids ops ks) i = ofL ids ops ks := if_neg hs
      rw [e]
      refine ⟨h1, fun k => ?_, fun ho y => ?_⟩
      · rw [h2]
        constructor
        · rintro ⟨j, hj, hk⟩
          exact ⟨j, List.mem_append_left _ hj, hk⟩
        · rintro ⟨j, hj, hk⟩
          rcases List.mem_append.1 hj with hj | hj
          · exact ⟨j, hj, hk⟩
          · rw [List.mem_singleton] at hj; subst hj; exact absurd hk.1 hs
      · rw [h3 (fun a ha b hb e => ho a (List.mem_append_left _ ha) b (List.mem_append_left _ hb) e)]
        constructor
        · rintro ⟨j, ht, rfl⟩
          refine ⟨j, ⟨List.mem_append_left _ ht.1, ht.2.1, fun j' hj' hs' => ?_⟩, rfl⟩
          rcases List.mem_append.1 hj' with hj' | hj'
          · exact ht.2.2 j' hj' hs'
          · rw [List.mem_singleton] at hj'; subst hj'; exact absurd hs' hs
        · rintro ⟨j, ht, rfl⟩
          refine ⟨j, ⟨?_, ht.2.1, fun j' hj' => ht.2.2 j' (List.mem_append_left _ hj')⟩, rfl⟩
          rcases List.mem_append.1 ht.1 with hj' | hj'
          · exact hj'
          · rw [List.mem_singleton] at hj'; subst hj'; exact absurd ht.2.1 hs
theorem ofL_sort (ids : List Int) (ops : List OpV) (js : List Nat) : SortK (ofL ids ops js) := (ofL_all ids ops js).1
theorem ofL_has (ids : List Int) (ops : List OpV) (js : List Nat) (k : ByteArray) : hasK (ofL ids ops js) k ↔ ∃ i ∈ js, setI ops i ∧ (regI ids ops i).key = k := (ofL_all ids ops js).2.1 k
theorem ofL_mem {ids : List Int} {ops : List OpV} {js : List Nat} (h : OneI ids ops js) (y : RgV) : y ∈ ofL ids ops js ↔ ∃ i, topI ids ops js i ∧ y = regI ids ops i := (ofL_all ids ops js).2.2 h y
theorem ofL_len (ids : List Int) (ops : List OpV) (js : List Nat) : (ofL ids ops js).length ≤ js.length := by
  suffices H : ∀ l : List RgV, (js.foldl (stepI ids ops) l).length ≤ l.length + js.length by
    have := H []
    simpa [ofL] using this
  induction js with
  | nil => intro l; simp
  | cons j js ih =>
    intro l
    have h1 := ih (stepI ids ops l j)
    have h2 : (stepI ids ops l j).length ≤ l.length + 1 := by
      unfold stepI
      split
      · rw [put_len]; split <;> omega
      · omega
    simp only [List.foldl_cons, List.length_cons]
    omega
theorem ofL_top {ids : List Int} {ops : List OpV} {js ks : List Nat} (h : OneI ids ops js) (e : ∀ i, i ∈ ks ↔ topI ids ops js i) : ofL ids ops ks = ofL ids ops js := by
  have h' : OneI ids ops ks := fun a ha b hb => h a ((e a).1 ha).1 b ((e b).1 hb).1
  refine sort_ext (ofL_sort ..) (ofL_sort ..) fun y => ?_
  rw [ofL_mem h, ofL_mem h']
  constructor
  · rintro ⟨i, ht, rfl⟩
    exact ⟨i, (e i).1 ht.1, rfl⟩
  · rintro ⟨i, ht, rfl⟩
    exact ⟨i, ⟨(e i).2 ht, ht.2.1, fun j hj => ht.2.2 j ((e j).1 hj).1⟩, rfl⟩
theorem top_new {ids : List Int} {ops : List OpV} {js ks : List Nat} {i : Nat} (h : OneI ids ops js) (hi : topI ids ops js i) (e : ∀ j ∈ ks, topI ids ops js j ∧ j ≠ i) : ¬ hasK (ofL ids ops ks) (regI ids ops i).key := by
  rw [ofL_has]
  rintro ⟨j, hj, hs, hk⟩
  obtain ⟨ht, hn⟩ := e j hj
  exact hn (h j ht.1 i hi.1 (late_total (hi.2.2 j ht.1 hs hk) (ht.2.2 i hi.1 hi.2.1 hk.symm)))
theorem regI_eq {ids : List Int} {ops : List OpV} {i : Nat} (h : (idAt ids i).length = 32) : regI ids ops i = regO (ops.getD i OpV.zero) (idAt ids i) h := by unfold regI; rw [dif_pos h]
theorem one_rising {m : Nat} {ids : List Int} {ops : List OpV} {js : List Nat} (hr : Rising m ids) (hl : ids.length = 32 * m) (hj : ∀ j ∈ js, j < m) : OneI ids ops js := fun a ha b hb e => by
  rw [regI_eq (idAt_len ids a m hl (hj a ha)), regI_eq (idAt_len ids b m hl (hj b hb))] at e
  exact rising_inj hr (hj a ha) (hj b hb) e
/-! an operation that is applied -/
def insR (l : List RgV) (x : RgV) (p : Nat) : List RgV := l.take p ++ x :: l.drop p
theorem insR_len (l : List RgV) (x : RgV) (p : Nat) (h : p ≤ l.length) : (insR l x p).length = l.length + 1 := by simp [insR]; omega
theorem insR_at {l : List RgV} {x : RgV} {p : Nat} (h : p ≤ l.length) : (insR l x p)[p]? = some x := by
  unfold insR
  rw [List.getElem?_append_right (by simp; omega), List.length_take, Nat.min_eq_left h, Nat.sub_self]; rfl
theorem insR_lo {l : List RgV} {x : RgV} {p i : Nat} (h : p ≤ l.length) (hi : i < p) : (insR l x p)[i]? = some (rg l i) := by
  unfold insR
  rw [List.getElem?_append_left (by simp; omega), List.getElem?_take, if_pos hi, rg_at (by omega)]
theorem insR_hi {l : List RgV} {x : RgV} {p i : Nat} (h : p ≤ l.length) (hi : p < i) : (insR l x p)[i]? = l[i - 1]? := by
  unfold insR
  rw [List.getElem?_append_right (by simp; omega), List.length_take, Nat.min_eq_left h, show i - p = (i - p - 1) + 1 by omega, List.getElem?_cons_succ, List.getElem?_drop]
  congr 1; omega
theorem insR_swap {l : List RgV} {x : RgV} {p : Nat} (h0 : 0 < p) (h : p ≤ l.length) : ((insR l x p).set p (rg l (p - 1))).set (p - 1) x = insR l x (p - 1) := by
  have hl := insR_len l x p h
  apply List.ext_getElem?
  intro i
  rw [List.getElem?_set, List.getElem?_set, List.length_set, hl]
  rcases Nat.lt_trichotomy i (p - 1) with h1 | h1 | h1
  · rw [if_neg (by omega), if_neg (by omega), insR_lo h (by omega), insR_lo (by omega) h1]
  · rw [if_pos h1.symm, if_pos (by omega), h1, insR_at (by omega)]
  · rw [if_neg (by omega), insR_hi (by omega) h1]
    by_cases e : p = i
    · rw [if_pos e, if_pos (by omega), ← e, rg_at (by omega)]
    · rw [if_neg e, insR_hi h (by omega)]
theorem insR_end (l : List RgV) (x : RgV) : insR l x l.length = l ++ [x] := by simp [insR]
theorem insR_put {l : List RgV} {x : RgV} {p : Nat} (hs : SortK l) (hh : ¬ hasK l x.key) (hp : p ≤ l.length) (h1 : ∀ j, p ≤ j → j < l.length → kc x.key (rg l j).key < 0) (h2 : p = 0 ∨ ¬ kc x.key (rg l (p - 1)).key < 0) : insR l x p = putR l x := by
  have e : spK l x.key = p := spK_eq hp (fun i hi => by
    rcases h2 with h2 | h2
    · omega
    · have h3 : kc (rg l (p - 1)).key x.key < 0 := by
        have h4 := kc_swap x.key (rg l (p - 1)).key
        have h5 : kc (rg l (p - 1)).key x.key ≠ 0 := fun e => hh ⟨_, rg_mem (by omega), kc_eq.1 e⟩
        omega
      by_cases e : i = p - 1
      · subst e; exact h3
      · exact kc_trans (hs.lt (by omega) (by omega)) h3) (fun hl => by
    have h4 := kc_swap x.key (rg l p).key
    have := h1 p (Nat.le_refl _) hl
    omega)
  rw [put_ins hh, e]; rfl
/-! sizes of what is applied -/
noncomputable def ofG (m : Nat) (ids : List Int) (ops : List OpV) : List RgV := if chkG m ids ops ≠ 0 then [] else ofL ids ops (List.range ops.length)
theorem ofG_ok {m : Nat} {ids : List Int} {ops : List OpV} (h : chkG m ids ops = 0) : ofG m ids ops = ofL ids ops (List.range ops.length) := if_neg (not_not_intro h)
theorem ofG_bad {m : Nat} {ids : List Int} {ops : List OpV} (h : chkG m ids ops ≠ 0) : ofG m ids ops = [] := if_pos h
theorem ofL_range (ids : List Int) (ops : List OpV) (i : Nat) : ofL ids ops (List.range (i + 1)) = stepI ids ops (ofL ids ops (List.range i)) i := by rw [List.range_succ, ofL_snoc]
theorem step_app {ids : List Int} {ops : List OpV} {l : List RgV} {i : Nat} {o : OpV} (ho : ops.getD i OpV.zero = o) (h : (idAt ids i).length = 32) : applR l o (idAt ids i) h = stepI ids ops l i := by
  subst ho
  unfold applR stepI
  rw [regI_eq h]
  rfl
theorem ofL_range_len (ids : List Int) (ops : List OpV) (i : Nat) : (ofL ids ops (List.range i)).length ≤ i := by
  have := ofL_len ids ops (List.range i)
  rwa [List.length_range] at this
theorem one_range {m : Nat} {ids : List Int} {ops : List OpV} (hr : Rising m ids) (hl : ids.length = 32 * m) : OneI ids ops (List.range m) := one_rising hr hl fun j hj => List.mem_range.1 hj
open Classical in
noncomputable def tops (ids : List Int) (ops : List OpV) (n i : Nat) : List Nat := (List.range i).filter fun j => decide (topI ids ops (List.range n) j)
theorem tops_yes {ids : List Int} {ops : List OpV} {n i : Nat} (h : topI ids ops (List.range n) i) : tops ids ops n (i + 1) = tops ids ops n i ++ [i] := by
  unfold tops
  rw [List.range_succ, List.filter_append, List.filter_cons, if_pos (by simpa using h)]; rfl
theorem tops_no {ids : List Int} {ops : List OpV} {n i : Nat} (h : ¬ topI ids ops (List.range n) i) : tops ids ops n (i + 1) = tops ids ops n i := by
  unfold tops
  rw [List.range_succ, List.filter_append, List.filter_cons, if_neg (by simpa using h)]; simp
theorem tops_mem {ids : List Int} {ops : List OpV} {n i j : Nat} : j ∈ tops ids ops n i ↔ j < i ∧ topI ids ops (List.range n) j := by
  unfold tops; simp
theorem tops_len (ids : List Int) (ops : List OpV) (n i : Nat) : (ofL ids ops (tops ids ops n i)).length ≤ i := by
  have h1 := ofL_len ids ops (tops ids ops n i)
  have h2 : (tops ids ops n i).length ≤ i := by
    unfold tops
    refine Nat.le_trans (List.length_filter_le _ _) ?_
    rw [List.length_range]
    exact Nat.le_refl _
  omega
theorem tops_new {m : Nat} {ids : List Int} {ops : List OpV} {i : Nat} (hr : Rising m ids) (hl : ids.length = 32 * m) (h : topI ids ops (List.range m) i) : ¬ hasK (ofL ids ops (tops ids ops m i)) (regI ids ops i).key :=
  top_new (one_range hr hl) h fun j hj => ⟨(tops_mem.1 hj).2, by have := (tops_mem.1 hj).1; omega⟩
theorem tops_all {m : Nat} {ids : List Int} {ops : List OpV} (hr : Rising m ids) (hl : ids.length = 32 * m) : ofL ids ops (tops ids ops m m) = ofL ids ops (List.range m) :=
  ofL_top (one_range hr hl) fun i => by rw [tops_mem]; exact ⟨fun h => h.2, fun h => ⟨List.mem_range.1 h.1, h⟩⟩
theorem tops_put {ids : List Int} {ops : List OpV} {n i : Nat} (h : topI ids ops (List.range n) i) : ofL ids ops (tops ids ops n (i + 1)) = putR (ofL ids ops (tops ids ops n i)) (regI ids ops i) := by
  rw [tops_yes h, ofL_snoc]
  exact if_pos h.2.1
def noneI (ids : List Int) (ops : List OpV) (i k : Nat) : Prop := ∀ j, j < k → setI ops j → (regI ids ops j).key = (regI ids ops i).key → ¬ lateR (regI ids ops j).st (regI ids ops j).id (regI ids ops i)
theorem noneI_top {ids : List Int} {ops : List OpV} {n i : Nat} (hi : i < n) (hs : setI ops i) : topI ids ops (List.range n) i ↔ noneI ids ops i n :=
  ⟨fun h j hj hs hk => h.2.2 j (List.mem_range.2 hj) hs hk, fun h => ⟨List.mem_range.2 hi, hs, fun j hj hs hk => h j (List.mem_range.1 hj) hs hk⟩⟩
theorem noneI_succ {ids : List Int} {ops : List OpV} {i k : Nat} : noneI ids ops i (k + 1) ↔ noneI ids ops i k ∧ (setI ops k → (regI ids ops k).key = (regI ids ops i).key → ¬ lateR (regI ids ops k).st (regI ids ops k).id (regI ids ops i)) := by
  constructor
  · exact fun h => ⟨fun j hj => h j (by omega), h k (by omega)⟩
  · rintro ⟨h1, h2⟩ j hj
    rcases Nat.lt_or_ge j k with e | e
    · exact h1 j e
    · obtain rfl : j = k := by omega
      exact h2
theorem ofL_ok {ids : List Int} {ops : List OpV} {js : List Nat} (ho : ∀ i ∈ js, (regI ids ops i).ok) : ∀ x ∈ ofL ids ops js, x.ok := by
  suffices H : ∀ (js : List Nat) (l : List RgV), SortK l → (∀ i ∈ js, (regI ids ops i).ok) → (∀ x ∈ l, x.ok) → ∀ x ∈ js.foldl (stepI ids ops) l, x.ok from H js [] List.Pairwise.nil ho fun x h => by cases h
  intro js
  induction js with
  | nil => intro l _ _ h; exact h
  | cons j js ih =>
    intro l hs ho h
    refine ih _ ?_ (fun i hi => ho i (List.mem_cons_of_mem _ hi)) ?_
    · unfold stepI; split
      · exact put_sort hs _
      · exact hs
    · unfold stepI; split
      · exact put_ok h hs (ho j (List.mem_cons_self ..))
      · exact h
theorem regI_ok {ids : List Int} {ops : List OpV} {m i : Nat} (ho : (ops.getD i OpV.zero).ok) (hb : Bd .u8 ids) (hl : ids.length = 32 * m) (hi : i < m) : (regI ids ops i).ok := by
  have h := idAt_len ids i m hl hi
  rw [regI_eq h]
  exact ⟨⟨ho.vk, ho.num, ho.bits, ho.st, fun x hx => hb x (List.mem_of_mem_drop (List.mem_of_mem_take hx))⟩, ho.key, ho.t⟩
end Go.Proofs.YtakbhjagiofbgaaGreatDoor.S
namespace Go.Proofs.YtakbhjagiofbgaaGreatDoor.S
open G
set_option linter.unusedVariables false
theorem OpV.ext' {a b : OpV} (h1 : a.au = b.au) (h2 : a.st = b.st) (h3 : a.k = b.k) (h4 : a.vk = b.vk) (h5 : a.num = b.num) (h6 : a.bits = b.bits) (h7 : a.e = b.e) (h8 : a.s = b.s) (h9 : a.n = b.n) (h10 : a.ids = b.ids) (h11 : a.key = b.key) (h12 : a.t = b.t) : a = b := by
  cases a; cases b; simp only at h1 h2 h3 h4 h5 h6 h7 h8 h9 h10 h11 h12; subst h1 h2 h3 h4 h5 h6 h7 h8 h9 h10 h11 h12; rfl
instance : DecidableEq OpV := fun a b => decidable_of_iff (a.au = b.au ∧ a.st = b.st ∧ a.k = b.k ∧ a.vk = b.vk ∧ a.num = b.num ∧ a.bits = b.bits ∧ a.e = b.e ∧ a.s = b.s ∧ a.n = b.n ∧ a.ids = b.ids ∧ a.key = b.key ∧ a.t = b.t)
  ⟨fun ⟨h1, h2, h3, h4, h5, h6, h7, h8, h9, h10, h11, h12⟩ => OpV.ext' h1 h2 h3 h4 h5 h6 h7 h8 h9 h10 h11 h12, fun h => by subst h; exact ⟨rfl, rfl, rfl, rfl, rfl, rfl, rfl, rfl, rfl, rfl, rfl, rfl⟩⟩
def OpV.wide (o : OpV) : Prop := o.ids.length = 32 * o.n
theorem sameO_eq {a b : OpV} (ha : a.wide) (hb : b.wide) : SameO a b ↔ a = b := by
  constructor
  · rintro ⟨h1, h2, h3, ⟨h4, h5, h6, h7, h8, h9⟩, h10, h11⟩
    unfold OpV.wide at ha hb
    have hn : a.n = b.n := by rw [h2] at ha; omega
    exact OpV.ext' h1 h3 h4 h6 h7 h8 h10 h11 hn h2 h5 h9
  · rintro rfl
    exact sameO_refl a
theorem op_at {l : List OpV} {i : Nat} (h : i < l.length) : l[i]? = some (l.getD i OpV.zero) := by rw [List.getD_eq_getElem?_getD, List.getElem?_eq_getElem h]; rfl
theorem ops_ext {l m : List OpV} (hl : l.length = m.length) (h : ∀ i, i < l.length → l.getD i OpV.zero = m.getD i OpV.zero) : l = m := by
  refine List.ext_getElem? fun i => ?_
  by_cases hi : i < l.length
  · rw [op_at hi, op_at (by omega), h i hi]
  · rw [List.getElem?_eq_none (by omega), List.getElem?_eq_none (by omega)]
end Go.Proofs.YtakbhjagiofbgaaGreatDoor.S
namespace Go.Proofs.YtakbhjagiofbgaaGreatDoor.W
open Go.RowKit Go.Proofs.YtakbhjagiofbgaaGreatDoor.G
set_option linter.unusedVariables false
def opE (T : TypeId) (z : OpA) : Ent := .wown T .u8 32 z.pa z.o.n z.pc z.o.ids
def grE (TI TO : TypeId) (g : GrA) : List Ent := [.gown opC 11 TO g.oa g.n g.oc g.zs, .all (g.zs.map (opE TI)), .wown TI .u8 32 g.ia g.m g.ic g.ids]
theorem opC_one (z : OpA) : ∀ u ∈ opC z, u.oneCell' = true := by
  intro u hu
  simp only [opC, List.mem_cons, List.not_mem_nil, or_false] at hu
  rcases hu with rfl | rfl | rfl | rfl | rfl | rfl | rfl | rfl | rfl | rfl | rfl <;> rfl
theorem opC_len (z : OpA) : (opC z).length = 11 := rfl
instance (z : OpA) : LenC (opC z) 11 := ⟨rfl, rfl⟩
theorem wown_e {e : TypeId} {k : IntKind} {sz : Nat} {a : Option Addr} {n c : Nat} {xs : List Int} {S : Nat → Prop} {w : World} (h : (Ent.wown e k sz a n c xs).ok S w) : WOwn 0 w e k sz a n c xs ∧ ∀ b, obk a = some b → S b := h
theorem wown_row {e : TypeId} {k : IntKind} {sz : Nat} {a : Option Addr} {n c : Nat} {xs : List Int} {S : Nat → Prop} {w : World} (h : (Ent.wown e k sz a n c xs).ok S w) : WRow k sz S w a n xs := wown_wrow h
theorem all_e {E : List Ent} {S : Nat → Prop} {w : World} (h : (Ent.all E).ok S w) : Sep E S w := h
theorem all_i {E : List Ent} {S : Nat → Prop} {w : World} (h : Sep E S w) : (Ent.all E).ok S w := h
theorem sep_mem : ∀ {E : List Ent} {S : Nat → Prop} {w : World} {e : Ent}, e ∈ E → Sep E S w → ∃ S', (∀ b, S' b → S b) ∧ e.ok S' w
  | _ :: _, _, _, _, .head _, ⟨A, _, h1, _, _, h4, _⟩ => ⟨A, h1, h4⟩
  | _ :: _, _, _, _, .tail _ h, ⟨_, B, _, h2, _, _, h5⟩ => let ⟨S', k1, k2⟩ := sep_mem h h5; ⟨S', fun b hb => h2 b (k1 b hb), k2⟩
theorem sep_inns {T : TypeId} {zs : List OpA} {S : Nat → Prop} {w : World} (h : Sep (zs.map (opE T)) S w) (hc : ∀ z ∈ zs, z.o.n ≤ z.pc) : Inns opI S w zs := by
  intro z hz i hi
  obtain rfl := List.mem_singleton.1 hi
  obtain ⟨S', k1, k2⟩ := sep_mem (List.mem_map.2 ⟨z, hz, rfl⟩) h
  exact ⟨(wown_row k2).weaken fun b _ hb => k1 b hb, hc z hz⟩
theorem Inns.weak {α : Type} {g : α → List Inn} {S T : Nat → Prop} {w : World} {l : List α} (h : Inns g S w l) (k : ∀ b, S b → T b) : Inns g T w l := fun x hx i hi => ⟨(h x hx i hi).1.weaken fun b _ hb => k b hb, (h x hx i hi).2⟩
section
variable {S0 : Nat → Prop} {w0 : World} {L : List Ent} {X : World → Prop} {e : Ent} {E : List Ent}
theorem J.snocA {F1 F2 : Ent → List Ent} (E : List Ent) (e : Ent) [R : RE L e F1] [R2 : RE (F1 .emp) (.all E) F2] (k : J S0 w0 (F2 (.all (E ++ [e]))) X) : J S0 w0 L X :=
  J.merge e (.all E) (.all (E ++ [e])) (fun S1 S2 w hd h1 h2 => all_i (Sep.app (all_e h2) (sep1 h1) (fun b hb => .inr hb) (fun b hb => .inl hb) fun b hb hc => hd b hc hb)) k
theorem J.noA (k : J S0 w0 (.all [] :: L) X) : J S0 w0 L X := J.newA [] k fun _ => trivial
end
section
variable {S0 : Nat → Prop} {w0 : World} {L : List Ent} {P : Program} {ops : Array Oper} {K : List Value → World → Prop} {rest : List (Oper × Kd)} {l : List Value} {m : Md} {d : Tmp} {ty : TypeId} {pos : String} {af : Array Edge} {kd : Kd} {t e : TypeId} {by_ sz : Nat} {k : IntKind} {zs : List Value}
theorem J.b0W [U : Und P t (.slice e)] [I : Inf P e sz by_ zs] (k : IntKind) {l' : Nat → List Value} (hk : okE m kd = true) (kk : ∀ b, J S0 w0 (.wown e k sz (some ⟨b, 0, none⟩) 0 0 [] :: L) (RY S0 w0 m P ops K rest (l' b)))
    (hl : ∀ b, l.set d (.slice (some ⟨b, 0, none⟩) 0 0) = l' b := by intro b; dsimp only [List.set]) : J S0 w0 L (RY S0 w0 m P ops K ((⟨some d, .buildSlice t 0 #[], ty, pos, af, none⟩, kd) :: rest) l) :=
  J.eff hk fun w M K' hK => RS.buildNone U.h I.h fun b w' e1 s1 x1 B => RS.nil (hK _ w' x1 (by
    rw [hl]
    exact kk b w' (M.new x1 ⟨WOwn.of_blk (xs := []) B rfl rfl (Nat.zero_le _) (Bd.nil _) (by decide), fun q hq => by simp [obk] at hq; subst hq; subst e1; exact Nat.le_refl _⟩)))
end
theorem GrR.own {S0 : Nat → Prop} {w0 : World} {L : List Ent} {g : GrA} {TI TO : TypeId} {F1 : Option Addr → Nat → Nat → List OpA → List Ent} {F2 : Option Addr → Nat → Nat → List Int → List Ent} {F3 : Ent → List Ent}
    [R1 : GO L g.oa opC 11 TO g.n g.oc g.zs F1] [R2 : RWO L g.ia TI .u8 32 g.m g.ic g.ids F2] [R3 : RE L (.all (g.zs.map (opE TI))) F3] (hok : ∀ z ∈ g.zs, z.o.ok) (hc : ∀ z ∈ g.zs, z.o.n ≤ z.pc) (hm : g.m ≤ 70 ∧ g.n ≤ 70) (w : World) (M : Mem S0 w0 L w) : GrR (fun _ => True) w g := by
  obtain ⟨A, _, a⟩ := M.get (R1.h g.oa g.n g.oc g.zs).same
  obtain ⟨B, _, b⟩ := M.get (R2.h g.ia g.m g.ic g.ids).same
  obtain ⟨C, _, c⟩ := M.get (R3.h (.all (g.zs.map (opE TI)))).same
  have a := (gown_e a).1
  have b' := wown_row b
  have b := (wown_e b).1
  exact ⟨b'.weaken fun _ _ _ => trivial, a.row.weaken fun _ _ _ => trivial, Inns.weak (sep_inns (all_e c) hc) fun _ _ => trivial, hok, (wown_len (S := fun _ => True) ⟨b, fun _ _ => trivial⟩).2, a.capn, hm⟩
structure GrP (m : Nat) (ids : List Int) (ops : List S.OpV) (g : GrA) : Prop where
  m : g.m = m
  ids : g.ids = ids
  n : g.n = ops.length
  ops : g.ops = ops
  cap : ∀ z ∈ g.zs, z.o.n ≤ z.pc
theorem GrP.ok {m : Nat} {ids : List Int} {ops : List S.OpV} {g : GrA} (h : GrP m ids ops g) (ho : ∀ o ∈ ops, o.ok) : ∀ z ∈ g.zs, z.o.ok := fun z hz => ho _ (by rw [← h.ops]; unfold GrA.ops; exact List.mem_map.2 ⟨z, hz, rfl⟩)
theorem gown_one {α : Type} {f : α → List Value} {sz : Nat} {w : World} {b : Nat} {x : α} {T : TypeId} (h : GOwn f sz 0 w T (some ⟨b, 0, none⟩) 1 1 [x]) : Blk w b (f x) T := by
  obtain ⟨cur, B, _, _, h3, h4, _⟩ := h.blk
  rw [List.take_of_length_le (by omega)] at h4
  rw [h4] at B
  simpa using B
theorem blk_free {w : World} {b o : Nat} {cs : List Value} {T : TypeId} (h : Blk w b cs T) : w.frozen? ⟨b, o, none⟩ = false := by
  unfold Blk at h
  unfold World.frozen?
  rw [h]
  simp
theorem blk_shape {w : World} {b : Nat} {cs : List Value} {T : TypeId} (h : Blk w b cs T) : w.shape? b = some (T, cs.length) := by
  unfold Blk at h
  unfold World.shape?
  rw [h]
  simp
end Go.Proofs.YtakbhjagiofbgaaGreatDoor.W
namespace Go.Proofs.YtakbhjagiofbgaaGreatDoor.S
open G
set_option linter.unusedVariables false
structure PG where
  (m : Nat) (ids : List Int) (ops : List OpV)
def PG.has (g : PG) (x : List Int) (o : OpV) : Prop := ∃ i, i < g.m ∧ idAt g.ids i = x ∧ g.ops.getD i OpV.zero = o
section
variable {g h : PG} {x y : List Int} {o u : OpV}
/-! the same -/
end
/-! orders by ids -/
section
variable {g h : PG} {x y : List Int} {o u : OpV}
end
@[reducible] def idOf (o : OpV) : List Int := sha (encS o)
def PG.nil : PG := ⟨0, [], []⟩
/-! lists -/
/-! unions -/
open Classical in
/-! comparisons -/
end Go.Proofs.YtakbhjagiofbgaaGreatDoor.S
namespace Go.Proofs.YtakbhjagiofbgaaGreatDoor.W
open Go.RowKit Go.Proofs.YtakbhjagiofbgaaGreatDoor.G
set_option linter.unusedVariables false
structure IdV where
  (xs : List Int) (h : xs.length = 32)
@[reducible] def idC (x : IdV) : List Value := ints .u8 x.xs
theorem idC_len (x : IdV) : (idC x).length = 32 := by rw [ints_length, x.h]
instance (x : IdV) : LenC (idC x) 32 := ⟨idC_len x, ints_cellB _ _⟩
section
variable {S : Nat → Prop} {w : World} {T : TypeId} {a : Option Addr} {n c : Nat} {l : List IdV} {xs : List Int}
end
section
variable {S0 : Nat → Prop} {w0 : World} {L : List Ent} {P : Program} {ops : Array Oper} {K : List Value → World → Prop} {rest : List (Oper × Kd)} {l : List Value} {m : Md} {d : Tmp} {ty t e : TypeId} {pos : String} {af : Array Edge} {kd : Kd} {by_ : Nat} {zs : List Value} {x y : Operand}
end
end Go.Proofs.YtakbhjagiofbgaaGreatDoor.W
namespace Go.Proofs.YtakbhjagiofbgaaGreatDoor.W
open Go.RowKit Go.Proofs.YtakbhjagiofbgaaGreatDoor.G
set_option linter.unusedVariables false
set_option linter.unusedSimpArgs false
set_option maxRecDepth 20000
set_option maxHeartbeats 8000000
attribute [local irreducible] RS RX RY Code.wp bodyPost J Ent.blk Ent.irow Ent.iown Ent.wrow Ent.wown Ent.grow Ent.gown Ent.all Ent.emp
instance : Ents Tryz.prog 100 := ⟨.mk Tryz.func100 (by kernel_rfl) rfl⟩
instance : Siz Tryz.prog 23 1 := ⟨by kernel_rfl⟩
instance : Ents Tryz.prog 56 := ⟨.mk Tryz.func56 (by kernel_rfl) rfl⟩
instance : Ents Tryz.prog 35 := ⟨.mk Tryz.func35 (by kernel_rfl) rfl⟩
structure GtA where
 (n : Nat) (a : Option Addr) (c : Nat) (zs : List OpA)
theorem GrR.zok {S0 : Nat → Prop} {w : World} {g : GrA} (h : GrR S0 w g) (i : Nat) : (g.ops.getD i S.OpV.zero).ok := by
 rw [List.getD_eq_getElem?_getD]
 cases h1 : g.ops[i]? with
 | none => constructor <;> decide
 | some o =>
  unfold GrA.ops at h1
  rw [List.getElem?_map] at h1
  obtain ⟨z, hz, rfl⟩ := Option.map_eq_some_iff.1 h1
  exact h.ok z (List.mem_of_getElem? hz)
theorem GrR.opz {S0 : Nat → Prop} {w : World} {g : GrA} (h : GrR S0 w g) : ∀ o ∈ g.ops, o.ok := fun o ho => by
 unfold GrA.ops at ho
 obtain ⟨z, hz, rfl⟩ := List.mem_map.1 ho
 exact h.ok z hz
theorem refGTwin {S0 : Nat → Prop} (g : GrA) (w : World) (G : GrR S0 w g) :
  Calls Tryz.prog 14 #[.agg (grC g).toArray] w (Gv w (fun q : GrA => .agg (grC q).toArray) (grE 43 54) (GrP g.m g.ids g.ops)) := by
 have D0 := G.ids
 have G0 := G.ops
 have hl := G.len
 have hcp := G.cap
 refine J.enter 28 Tryz.func14 rfl rfl ?_
 refine run ?_
 refine J.box rfl rfl rfl fun b1 => ?_
 refine J.alloc rfl fun b2 => ?_
 refine run ?_
 refine J.b0W .u8 rfl fun b4 => ?_
 refine run ?_
 refine J.apW rfl rfl (RW.arg D0) fun ia ic => ?_
 rw [Nat.zero_add g.m, List.nil_append g.ids]
 refine run ?_
 refine J.alloc rfl fun b3 => ?_
 refine run ?_
 refine J.noA (J.nilG opC 11 54 opC_len ?_)
 refine J.loop (A := GtA) (fun p => [(4, .int .i64 (p.n : Nat))]) [10, 11, 12, 13, 14, 15, 16, 17, 18, 19, 20, 21, 22, 23, 24, 25, 26, 27] (fun p => [.gown opC 11 54 p.a p.n p.c p.zs, .all (p.zs.map (opE 43)), .blk b3 [.slice ia g.m ic, .slice p.a p.n p.c] 25, .wown 43 .u8 32 ia g.m ic g.ids, .blk b2 [.slice none 0 0, .slice none 0 0] 25, .blk b1 (grC g) 25]) (fun p => p.n ≤ g.n ∧ p.zs.map OpA.o = g.ops.take p.n ∧ ∀ z ∈ p.zs, z.o.n ≤ z.pc) (fun p => g.n - p.n) ⟨0, none, 0, []⟩ (by kernel_rfl) ⟨Nat.zero_le _, rfl, fun z hz => (by cases hz)⟩ (fun p j hI => ?_)
 obtain ⟨hI1, hI2, hI3⟩ := hI
 refine run ?_
 refine J.ifd rfl (fun c1 => ?_) (fun c1 => ?_)
 ·obtain ⟨z, hzz⟩ := G0.ex (i := (p.n : Nat)) (by omega)
  have R := G.op hzz
  have hzz' := hzz
  rw [Int.toNat_natCast] at hzz'
  have hzo := GrA.opAt hzz'
  refine run ?_
  refine J.regionX [(0, .q), (1, .q), (2, .q), (3, .q), (4, .q), (5, .q), (6, .q), (7, .e), (8, .e), (9, .g), (10, .q), (11, .g)] mixed (by kernel_rfl) ?_
  refine run ?_
  refine J.call rfl rfl (fun w' M => twinG z w' (R.ext M.ext)) fun q hq => ?_
  refine J.b1G opC ⟨z.o, q.1, q.2⟩ opC_len rfl rfl rfl fun bb => ?_
  refine J.apG rfl rfl RG.own' opC_one fun a' c' => ?_
  refine run ?_
  refine J.snocA (p.zs.map (opE 43)) (.wown 43 .u8 32 q.1 z.o.n q.2 z.o.ids) ?_
  refine J.drop (E := [.gown opC 11 54 a' (p.n + 1) c' (p.zs ++ [(⟨z.o, q.1, q.2⟩ : OpA)]), .all (p.zs.map (opE 43) ++ [.wown 43 .u8 32 q.1 z.o.n q.2 z.o.ids]), .blk b3 [.slice ia g.m ic, .slice a' (p.n + 1) c'] 25, .wown 43 .u8 32 ia g.m ic g.ids, .blk b2 [.slice none 0 0, .slice none 0 0] 25, .blk b1 (grC g) 25]) (.cons _ (.cons _ (List.Sublist.refl _))) ?_
  refine J.re (.all (p.zs.map (opE 43) ++ [.wown 43 .u8 32 q.1 z.o.n q.2 z.o.ids])) (.all ((p.zs ++ [(⟨z.o, q.1, q.2⟩ : OpA)]).map (opE 43))) (fun _ _ h => by rw [List.map_append]; exact h) ?_
  exact J.next ⟨p.n + 1, a', c', p.zs ++ [⟨z.o, q.1, q.2⟩]⟩ ⟨rfl, trivial⟩ (by kernel_rfl) ⟨by dsimp only; omega, by dsimp only; rw [List.map_append, hI2, List.take_add_one, S.op_at (by omega), hzo]; rfl, fun y hy => by
   rcases List.mem_append.1 hy with h | h
   ·exact hI3 y h
   rw [List.mem_singleton] at h; subst h; exact hq⟩ (by dsimp only; omega)
 have hpn : p.n = g.n := by omega
 refine run ?_
 exact J.finG ⟨ia, p.a, g.m, p.n, ic, p.c, g.ids, p.zs⟩ rfl ⟨rfl, rfl, by dsimp only; omega, by show p.zs.map OpA.o = _; rw [hI2, List.take_of_length_le (by omega)], hI3⟩ (by unfold grE; repeat (first | exact List.nil_sublist _ | refine List.Sublist.cons_cons _ ?_ | refine List.Sublist.cons _ ?_))
theorem refGSame {S0 S1 : Nat → Prop} (g h : GrA) (w : World) (G : GrR S0 w g) (H : GrR S1 w h) :
  Calls Tryz.prog 18 #[.agg (grC g).toArray, .agg (grC h).toArray] w (Ret w fun v _ => v = .bool (decide (g.ids = h.ids ∧ g.ops = h.ops))) := by
 have D0 := G.ids
 have G0 := G.ops
 have D1 := H.ids
 have G1 := H.ops
 have hl := G.len
 have hl1 := H.len
 have hcp := G.cap
 have hcp1 := H.cap
 refine J.enter 38 Tryz.func18 rfl rfl ?_
 refine run ?_
 refine J.box rfl rfl rfl fun b1 => ?_
 refine J.box rfl rfl rfl fun b2 => ?_
 refine run ?_
 refine J.callp rfl rfl (fun w' M => sameIDs _ _ _ _ _ _ _ _ _ (D0.ext M.ext) (D1.ext M.ext) (by omega) (by omega)) ?_
 refine run ?_
 refine J.spt rfl rfl rfl (fun c1 => ?_) (fun c1 => ?_)
 ·have c1 := of_decide_eq_false c1
  refine run ?_
  exact J.fin (congrArg _ (decide_eq_false fun h => c1 h.1).symm)
 have c1 := of_decide_eq_true c1
 refine run ?_
 refine J.ifn rfl (fun c2 => ?_) (fun c2 => ?_)
 ·refine run ?_
  exact J.fin (congrArg _ (decide_eq_false fun h => c2 (by rw [← hl, ← hl1, h.2])).symm)
 refine run ?_
 refine J.loopS (A := Int) (fun p => [(5, .int .i64 p)]) [4, 21, 22, 23, 24, 25, 26, 27, 28, 29, 30, 31, 32, 33, 34, 35, 36, 37, 38, 39] (fun p => (0 ≤ p ∧ p ≤ g.n) ∧ ∀ i, i < p.toNat → g.ops.getD i S.OpV.zero = h.ops.getD i S.OpV.zero) (fun p => g.n - p.toNat) 0 (by kernel_rfl) ⟨by omega, fun i hi => by omega⟩ (fun p j hI => ?_)
 obtain ⟨h1, hI⟩ := hI
 refine run ?_
 refine J.ifd rfl (fun c3 => ?_) (fun c3 => ?_)
 ·obtain ⟨z, hzz⟩ := G0.ex (i := p) (by omega)
  obtain ⟨y, hyy⟩ := G1.ex (i := p) (by omega)
  have R := G.op hzz
  have R1 := H.op hyy
  have hzo := GrA.opAt hzz
  have hyo := GrA.opAt hyy
  have hse := S.sameO_eq (a := z.o) (b := y.o) R.row.len R1.row.len
  refine run ?_
  refine J.regionX [(0, .q), (1, .q), (2, .q), (3, .q), (4, .q), (5, .q), (6, .q), (7, .q), (8, .q), (9, .q), (10, .e), (11, .q)] mixed (by kernel_rfl) ?_
  refine run ?_
  refine J.callp rfl rfl (fun w' M => sameO z.o y.o R.ok R1.ok _ _ _ _ w' (R.row.ext M.ext) (R1.row.ext M.ext)) ?_
  refine run ?_
  refine J.ifnot rfl (fun c4 => ?_) (fun c4 => ?_)
  ·have c4 := of_decide_eq_false c4
   refine run ?_
   exact J.fin (congrArg _ (decide_eq_false fun h => c4 (hse.2 (by rw [← hzo, ← hyo, h.2]))).symm)
  have c4 := hse.1 (of_decide_eq_true c4)
  refine run ?_
  refine J.nextS (p + 1) ⟨rfl, trivial⟩ (by kernel_rfl) ⟨by omega, fun i hi => ?_⟩ (by omega)
  rcases Nat.lt_or_ge i p.toNat with e | e
  ·exact hI i e
  obtain rfl : i = p.toNat := by omega
  rw [hzo, hyo, c4]
 refine run ?_
 exact J.fin (congrArg _ (decide_eq_true ⟨c1, S.ops_ext (by omega) fun i hi => hI i (by omega)⟩).symm)
instance : Und Tryz.prog 9 .string := ⟨Tryz.underlying9⟩
instance : Und Tryz.prog 38 (.int .u64) := ⟨Tryz.underlying38⟩
instance : Ents Tryz.prog 218 := ⟨.mk Tryz.func218 (by kernel_rfl) rfl⟩
instance : Ents Tryz.prog 263 := ⟨.mk Tryz.func263 (by kernel_rfl) rfl⟩
instance : Fld Tryz.prog 45 0 0 := ⟨_, _, 1, Tryz.underlying45, rfl, by kernel_rfl, by decide, rfl⟩
instance : Sca Tryz.prog 9 := ⟨_, Tryz.underlying9, rfl⟩
instance : Ents Tryz.prog 106 := ⟨.mk Tryz.func106 (by kernel_rfl) rfl⟩
instance : Sca Tryz.prog 192 := ⟨_, Tryz.underlying192, rfl⟩
instance : Agg Tryz.prog 45 38 := ⟨_, Tryz.underlying45, rfl, by kernel_rfl⟩
instance : Ents Tryz.prog 169 := ⟨.mk Tryz.func169 (by kernel_rfl) rfl⟩
instance : Ents Tryz.prog 168 := ⟨.mk Tryz.func168 (by kernel_rfl) rfl⟩
instance : Und Tryz.prog 28 (.slice 45) := ⟨Tryz.underlying28⟩
instance : Siz Tryz.prog 45 38 := ⟨by kernel_rfl⟩
instance : Ents Tryz.prog 167 := ⟨.mk Tryz.func167 (by kernel_rfl) rfl⟩
instance : Fld Tryz.prog 45 2 5 := ⟨_, _, 1, Tryz.underlying45, rfl, by kernel_rfl, by decide, rfl⟩
instance : Sca Tryz.prog 38 := ⟨_, Tryz.underlying38, rfl⟩
instance : Ents Tryz.prog 217 := ⟨.mk Tryz.func217 (by kernel_rfl) rfl⟩
instance : Fld Tryz.prog 45 3 6 := ⟨_, _, 32, Tryz.underlying45, rfl, by kernel_rfl, by decide, rfl⟩
instance : Ents Tryz.prog 132 := ⟨.mk Tryz.func132 (by kernel_rfl) rfl⟩
instance : Ents Tryz.prog 216 := ⟨.mk Tryz.func216 (by kernel_rfl) rfl⟩
instance : Inf Tryz.prog 45 38 96 [.string .empty, .int .u8 0, .int .i64 0, .int .u64 0, .string .empty, .int .u64 0, .int .u8 0, .int .u8 0, .int .u8 0, .int .u8 0, .int .u8 0, .int .u8 0, .int .u8 0, .int .u8 0, .int .u8 0, .int .u8 0, .int .u8 0, .int .u8 0, .int .u8 0, .int .u8 0, .int .u8 0, .int .u8 0, .int .u8 0, .int .u8 0, .int .u8 0, .int .u8 0, .int .u8 0, .int .u8 0, .int .u8 0, .int .u8 0, .int .u8 0, .int .u8 0, .int .u8 0, .int .u8 0, .int .u8 0, .int .u8 0, .int .u8 0, .int .u8 0] := ⟨TI.of (v := .agg #[.string .empty, .int .u8 0, .int .i64 0, .int .u64 0, .string .empty, .int .u64 0, .int .u8 0, .int .u8 0, .int .u8 0, .int .u8 0, .int .u8 0, .int .u8 0, .int .u8 0, .int .u8 0, .int .u8 0, .int .u8 0, .int .u8 0, .int .u8 0, .int .u8 0, .int .u8 0, .int .u8 0, .int .u8 0, .int .u8 0, .int .u8 0, .int .u8 0, .int .u8 0, .int .u8 0, .int .u8 0, .int .u8 0, .int .u8 0, .int .u8 0, .int .u8 0, .int .u8 0, .int .u8 0, .int .u8 0, .int .u8 0, .int .u8 0, .int .u8 0]) (by kernel_rfl) rfl⟩
instance : Ents Tryz.prog 215 := ⟨.mk Tryz.func215 (by kernel_rfl) rfl⟩
theorem fits_rg0 (key t : ByteArray) (vk num bits st a0 a1 a2 a3 a4 a5 a6 a7 a8 a9 a10 a11 a12 a13 a14 a15 a16 a17 a18 a19 a20 a21 a22 a23 a24 a25 a26 a27 a28 a29 a30 a31 : Int) (h : [a0, a1, a2, a3, a4, a5, a6, a7, a8, a9, a10, a11, a12, a13, a14, a15, a16, a17, a18, a19, a20, a21, a22, a23, a24, a25, a26, a27, a28, a29, a30, a31].length = 32) : FitsT Tryz.prog 9 45 (rgC ⟨key, vk, num, bits, t, st, [a0, a1, a2, a3, a4, a5, a6, a7, a8, a9, a10, a11, a12, a13, a14, a15, a16, a17, a18, a19, a20, a21, a22, a23, a24, a25, a26, a27, a28, a29, a30, a31], h⟩) = true := by kernel_rfl
theorem fits_rg (x : S.RgV) : FitsT Tryz.prog 9 45 (rgC x) = true := by
 obtain ⟨key, vk, num, bits, t, st, id, h⟩ := x
 match id, h with
 | [a0, a1, a2, a3, a4, a5, a6, a7, a8, a9, a10, a11, a12, a13, a14, a15, a16, a17, a18, a19, a20, a21, a22, a23, a24, a25, a26, a27, a28, a29, a30, a31], h => exact fits_rg0 ..
theorem fill_rg0 (o : S.OpV) (a0 a1 a2 a3 a4 a5 a6 a7 a8 a9 a10 a11 a12 a13 a14 a15 a16 a17 a18 a19 a20 a21 a22 a23 a24 a25 a26 a27 a28 a29 a30 a31 : Int) (h : [a0, a1, a2, a3, a4, a5, a6, a7, a8, a9, a10, a11, a12, a13, a14, a15, a16, a17, a18, a19, a20, a21, a22, a23, a24, a25, a26, a27, a28, a29, a30, a31].length = 32) : fillL [(0, 1), (1, 4), (5, 1), (6, 32)] (rgC S.RgV.zero) [(0, .string o.key), (1, .agg ([.int .u8 o.vk, .int .i64 o.num, .int .u64 o.bits, .string o.t] : List Value).toArray), (2, .int .u64 o.st), (3, .agg (ints .u8 [a0, a1, a2, a3, a4, a5, a6, a7, a8, a9, a10, a11, a12, a13, a14, a15, a16, a17, a18, a19, a20, a21, a22, a23, a24, a25, a26, a27, a28, a29, a30, a31]).toArray)] = some (rgC (S.regO o [a0, a1, a2, a3, a4, a5, a6, a7, a8, a9, a10, a11, a12, a13, a14, a15, a16, a17, a18, a19, a20, a21, a22, a23, a24, a25, a26, a27, a28, a29, a30, a31] h)) := by kernel_rfl
theorem fill_rg (o : S.OpV) (id : List Int) (h : id.length = 32) : fillL [(0, 1), (1, 4), (5, 1), (6, 32)] (rgC S.RgV.zero) [(0, .string o.key), (1, .agg ([.int .u8 o.vk, .int .i64 o.num, .int .u64 o.bits, .string o.t] : List Value).toArray), (2, .int .u64 o.st), (3, .agg (ints .u8 id).toArray)] = some (rgC (S.regO o id h)) := by
 match id, h with
 | [a0, a1, a2, a3, a4, a5, a6, a7, a8, a9, a10, a11, a12, a13, a14, a15, a16, a17, a18, a19, a20, a21, a22, a23, a24, a25, a26, a27, a28, a29, a30, a31], h => exact fill_rg0 ..
theorem nanS (s : ByteArray) (w : World) : Calls Tryz.prog 218 #[.string s] w (Ret w fun v _ => v = .bool false) := by
 refine J.enter 5 Tryz.func218 rfl rfl ?_
 refine run ?_
 exact J.fin (congrArg Value.bool (by simp))
theorem nanU (s : Int) (w : World) : Calls Tryz.prog 263 #[.int .u64 s] w (Ret w fun v _ => v = .bool false) := by
 refine J.enter 5 Tryz.func263 rfl rfl ?_
 refine run ?_
 exact J.fin (congrArg Value.bool (by simp))
theorem cmpStr (s t : ByteArray) (w : World) : Calls Tryz.prog 169 #[.string s, .string t] w (Ret w fun v _ => v = .int .i64 (S.kc s t)) := by
 have hr : S.kc s t = -1 ∨ S.kc s t = 0 ∨ S.kc s t = 1 := S.cmpS_rng _ _
 refine J.enter 18 Tryz.func169 rfl rfl ?_
 refine run ?_
 refine J.callp rfl rfl (fun w' M => nanS _ w') ?_
 refine run ?_
 refine J.callp rfl rfl (fun w' M => nanS _ w') ?_
 refine run ?_
 refine J.ifd rfl (fun c => ?_) (fun c => ?_)
 ·refine run ?_
  exact J.fin (congrArg _ (by omega))
 refine run ?_
 refine J.ifd rfl (fun c2 => ?_) (fun c2 => ?_)
 ·refine run ?_
  exact J.fin (congrArg _ (by omega))
 refine run ?_
 exact J.fin (congrArg _ (by omega))
theorem cmpU (s t : Int) (w : World) : Calls Tryz.prog 217 #[.int .u64 s, .int .u64 t] w (Ret w fun v _ => v = .int .i64 (S.cmpN s t)) := by
 refine J.enter 18 Tryz.func217 rfl rfl ?_
 refine run ?_
 refine J.callp rfl rfl (fun w' M => nanU _ w') ?_
 refine run ?_
 refine J.callp rfl rfl (fun w' M => nanU _ w') ?_
 refine run ?_
 refine J.ifd rfl (fun c => ?_) (fun c => ?_)
 ·refine run ?_
  exact J.fin (congrArg _ ((S.cmpN_1 c)))
 refine run ?_
 refine J.ifd rfl (fun c2 => ?_) (fun c2 => ?_)
 ·refine run ?_
  exact J.fin (congrArg _ ((S.cmpN_2 c c2)))
 refine run ?_
 exact J.fin (congrArg _ ((S.cmpN_3 c c2)))
theorem cmpOr {S0 : Nat → Prop} (a : Option Addr) (x y : Int) (w : World) (D0 : GRow inC 1 S0 w a 2 [x, y]) : Calls Tryz.prog 216 #[.slice a 2 2] w (Ret w fun v _ => v = .int .i64 (S.orN x y)) := by
 refine J.enter 17 Tryz.func216 rfl rfl ?_
 refine run ?_
 refine J.loopS (A := Int) (fun p => [(8, .int .i64 p)]) [2, 5, 9, 10, 11, 12, 13, 14, 15, 16] (fun p => (0 ≤ p ∧ p ≤ 2) ∧ ∀ k, k < p.toNat → [x, y].getD k 0 = 0) (fun p => 2 - p.toNat) 0 (by kernel_rfl) ⟨by omega, fun k hk => by omega⟩ (fun p j hI => ?_)
 obtain ⟨h1, hI⟩ := hI
 refine run ?_
 refine J.ifd rfl (fun c => ?_) (fun c => ?_)
 ·obtain ⟨q, hq⟩ := ex ([x, y].getD p.toNat 0)
  have hq0 := S.get2 (x := x) (y := y) (p := p) (by omega)
  rw [← hq] at hq0
  refine run ?_
  refine J.ifn rfl (fun c2 => ?_) (fun c2 => ?_)
  ·refine run ?_
   exact J.fin (congrArg _ (by rw [hq]; rw [hq] at c2; exact S.or_hit (by omega) hI c2))
  refine run ?_
  refine J.nextS (p + 1) ⟨rfl, trivial⟩ (by kernel_rfl) ⟨by omega, fun k hk => ?_⟩ (by omega)
  rcases Nat.lt_or_ge k p.toNat with h | h
  ·exact hI k h
  obtain rfl : k = p.toNat := by omega
  rw [← hq]; exact c2
 refine run ?_
 exact J.fin (congrArg _ (S.or_miss fun k hk => hI k (by omega)))
theorem regKey (x : S.RgV) (w : World) : Calls Tryz.prog 106 #[.agg (rgC x).toArray] w (Ret w fun v _ => v = .string x.key) := by
 refine J.enter 4 Tryz.func106 rfl rfl ?_
 refine run ?_
 refine J.box rfl rfl rfl fun b1 => ?_
 refine run ?_
 exact J.fin rfl
theorem findCmp (x : S.RgV) (k : ByteArray) (b : Nat) (T : TypeId) (w : World) (hB : Blk w b [.func (.func 106) #[] #[]] T) :
  Calls Tryz.prog 168 #[.agg (rgC x).toArray, .string k, .pointer (some ⟨b, 0, none⟩)] w (Ret w fun v _ => v = .int .i64 (S.kc x.key k)) := by
 refine J.enter 8 Tryz.func168 rfl rfl ?_
 refine run ?_
 refine J.box rfl rfl rfl fun b1 => ?_
 refine run ?_
 refine J.ldO hB (fun h => h) rfl ?_
 refine run ?_
 refine J.callvp rfl rfl rfl (fun w' M => regKey x w') ?_
 refine run ?_
 refine J.callp rfl rfl (fun w' M => cmpStr _ _ w') ?_
 refine run ?_
 exact J.fin rfl
theorem bsReg {S0 : Nat → Prop} (a : Option Addr) (n c : Nat) (l : List S.RgV) (k : ByteArray) (b : Nat) (T : TypeId) (w : World) (D0 : GRow rgC 38 S0 w a n l) (hs : S.SortK l) (hn : n ≤ 100) (hB : Blk w b [.func (.func 106) #[] #[]] T) :
  Calls Tryz.prog 167 #[.slice a n c, .string k, .func (.func 168) #[] #[.pointer (some ⟨b, 0, none⟩)]] w (Ret w fun v _ => v = .tuple #[.int .i64 (S.spK l k : Nat), .bool (decide (S.hasK l k))]) := by
 have hl := D0.len
 have hm := S.mono_key hs k
 rw [hl] at hm
 refine J.enter 46 Tryz.func167 rfl rfl ?_
 refine run ?_
 refine J.loopS (A := Int × Int) (fun p => [(9, .int .i64 p.1), (10, .int .i64 p.2)]) [11, 15, 16, 17, 18, 19, 20, 21, 22, 23, 24, 25, 26, 27, 28, 29, 30, 31, 32, 33, 34] (fun p => S.HalfC n (S.cK l k) p.1 p.2) (fun p => (p.2 - p.1).toNat) (0, n) (by kernel_rfl) (S.HalfC.first _ _) (fun p j hI => ?_)
 have hh := hI.r
 refine run ?_
 refine J.ifd rfl (fun c1 => ?_) (fun c1 => ?_)
 ·have hq := S.rg_at (l := l) (i := ((p.1 + p.2) / 2).toNat) (by omega)
  refine run ?_
  refine J.callvp rfl rfl rfl (fun w' M => findCmp _ _ _ _ w' (hB.ext M.ext)) ?_
  refine run ?_
  refine J.ifd rfl (fun c2 => ?_) (fun c2 => ?_)
  ·refine run ?_
   exact J.nextS ((p.1 + p.2) / 2 + 1, p.2) ⟨rfl, rfl, trivial⟩ (by kernel_rfl) (hI.up hm (by omega) (by omega) c2) (by dsimp only; omega)
  refine run ?_
  exact J.nextS (p.1, (p.1 + p.2) / 2) ⟨rfl, rfl, trivial⟩ (by kernel_rfl) (hI.down hm (by omega) (by omega) c2) (by dsimp only; omega)
 have he : p.1 = (S.spK l k : Nat) := by unfold S.spK; rw [hl]; exact hI.spot c1
 have hsp := S.has_spK hs (k := k)
 rw [hl] at hsp
 refine run ?_
 refine J.spd rfl rfl rfl (fun c2 => ?_) (fun c2 => ?_)
 ·have hq := S.rg_at (l := l) (i := p.1.toNat) (by omega)
  refine run ?_
  refine J.callvp rfl rfl rfl (fun w' M => findCmp _ _ _ _ w' (hB.ext M.ext)) ?_
  refine run ?_
  refine J.fin ?_
  rw [he, Int.toNat_natCast]
  exact tup2 rfl (congrArg _ (beq_dec ⟨fun h => hsp.2 ⟨by omega, S.kc_eq.1 h⟩, fun h => S.kc_eq.2 (hsp.1 h).2⟩))
 refine run ?_
 refine J.fin ?_
 rw [he]
 exact tup2 rfl (congrArg _ (decide_eq_false fun h => by have := (hsp.1 h).1; omega).symm)
theorem findReg {S0 : Nat → Prop} (a : Option Addr) (n c : Nat) (l : List S.RgV) (k : ByteArray) (w : World) (D0 : GRow rgC 38 S0 w a n l) (hs : S.SortK l) (hn : n ≤ 100) :
  Calls Tryz.prog 105 #[.slice a n c, .func (.func 106) #[] #[], .string k] w (Ret w fun v _ => v = .tuple #[.int .i64 (S.spK l k : Nat), .bool (decide (S.hasK l k))]) := by
 refine J.enter 11 Tryz.func105 rfl rfl ?_
 refine run ?_
 refine J.box rfl rfl rfl fun b1 => ?_
 refine run ?_
 refine J.fn rfl rfl rfl ?_
 refine J.callp rfl rfl (fun w' M => bsReg _ _ _ _ _ _ _ w' (D0.ext M.ext) hs hn (M.blk .here)) ?_
 refine run ?_
 exact J.fin rfl
theorem later (x y : S.RgV) (hx : x.ok) (hy : y.ok) (w : World) : Calls Tryz.prog 166 #[.agg (rgC x).toArray, .agg (rgC y).toArray] w (Ret w fun v _ => v = .bool (decide (S.lateR x.st x.id y))) := by
 refine J.enter 16 Tryz.func166 rfl rfl ?_
 refine run ?_
 refine J.box rfl rfl rfl fun b1 => ?_
 refine J.box rfl rfl rfl fun b2 => ?_
 refine run ?_
 refine J.regionX [(0, .q), (1, .q), (2, .q), (3, .q), (5, .q), (6, .q), (7, .q), (8, .q), (4, .e), (9, .e), (10, .e), (11, .e), (12, .q), (13, .q)] mixed (by kernel_rfl) ?_
 refine run ?_
 refine J.callp rfl rfl (fun w' M => cmpU _ _ w') ?_
 refine run ?_
 refine J.callp rfl rfl (fun w' M => (RI.part (b := b1) (rgC_id x) x.h32 hx.id w' M).elim fun _ k1 => (RI.part (b := b2) (rgC_id y) y.h32 hy.id w' M).elim fun _ k2 => bcompare _ _ _ _ _ _ _ _ w' k1 k2) ?_
 refine J.b2V inC (fun _ => rfl) rfl rfl rfl rfl rfl rfl rfl fun b3 => ?_
 refine J.callp rfl rfl (fun w' M => (RG.own' (a := some ⟨b3, 0, none⟩) w' M).elim fun _ k1 => cmpOr _ _ _ w' k1) ?_
 refine run ?_
 exact J.fin (congrArg _ (decide_eq_decide.2 S.late_or))
theorem insReg (a : Option Addr) (n c : Nat) (l : List S.RgV) (i : Nat) (x : S.RgV) (b2 : Nat) (w : World) (hO : GOwn rgC 38 0 w 45 a n c l) (hi : i ≤ n) (hn : n ≤ 1000) (hB : Blk w b2 (rgC x) 45) (hne : ¬ obk a = some b2) :
  Calls Tryz.prog 165 #[.slice a n c, .int .i64 i, .slice (some ⟨b2, 0, none⟩) 1 1] w (Gw w rgC 38 45 a (l.take i ++ x :: l.drop i)) := by
 have hlen := hO.len
 have hcn := hO.capn
 have hcm := hO.own.cap.2
 refine J.enterG 92 hO Tryz.func165 rfl rfl ?_
 refine run ?_
 refine J.ife rfl (fun h => ?_) (fun h => ?_)
 ·obtain rfl : i = n := by omega
  refine run ?_
  refine J.apG rfl rfl (RG.blkO hB hne rgC_len) rgC_one fun a' c' => ?_
  refine run ?_
  have e : l.take i ++ x :: l.drop i = l ++ [x] := by rw [List.take_of_length_le (by omega), List.drop_of_length_le (by omega)]
  rw [e]
  exact J.finW rfl
 have hin : i < n := by omega
 obtain ⟨g, rfl⟩ := hO.some (by omega)
 have hlt : (l.take i ++ x :: l.drop i).length = n + 1 := by simp; omega
 refine run ?_
 refine J.ifd rfl (fun h2 => ?_) (fun h2 => ?_)
 ·refine run ?_
  refine J.apZ (p := i) (k0 := n + 1 - i) rgC n l rfl (by (conv => lhs; whnf) <;> exact sl3 (by omega) (by omega) rfl) (by (conv => lhs; whnf) <;> exact congrArg _ (by omega)) fun b' c' cs' hcs => ?_
  obtain ⟨k1, k2, k3, k4⟩ := hcs
  refine run ?_
  refine J.copyR (b := b') (o := i * 38) (n := n + 1 - i) (k := 1) (by (conv => lhs; whnf) <;> exact sl3 (by omega) (by omega) rfl) rfl (RG.cells (RG.blkO hB hne rgC_len)) (by rw [List.flatMap_cons, List.flatMap_nil, List.append_nil, rgC_len]) (fun u hu => rgC_cell x u (by simpa using List.mem_of_mem_take hu)) rfl ?_
  refine run ?_
  refine J.regionX [(0, .q), (1, .q), (2, .q), (3, .q), (4, .q), (5, .q), (6, .q), (7, .q), (8, .g)] mixed (by kernel_rfl) ?_
  refine run ?_
  refine J.copyR (b := b') (o := (i + 1) * 38) (n := n - i) (n2 := n - i) (k := n - i) (a := some ⟨g, i * 38, none⟩) (by (conv => lhs; whnf) <;> exact sl3 (by omega) (by omega) rfl) (by (conv => lhs; whnf) <;> exact sl3 (by omega) (by omega) rfl) (RG.cells (RG.tail RG.own' hin)) (by rw [flat_len rgC 38 rgC_len, List.length_drop, hlen, Nat.mul_comm]) (fun u hu => by obtain ⟨y, _, hy⟩ := List.mem_flatMap.1 (List.mem_of_mem_take hu); exact rgC_cell y u hy) rfl ?_ (ho := by simp only [splice_length]; omega)
  refine run ?_
  have hz := (ins_flat (f := rgC) (sz := 38) (z := x) rgC_len hlen hin (by omega) k2).2
  refine J.ruc rgC 38 45 b' (n + 1) c' (l.take i ++ x :: l.drop i) rgC_len (by simp only [splice_length]; exact k1) (by
   rw [← hz]
   congr 2
   ·congr 1
    rw [List.take_of_length_le (by rw [List.flatMap_cons, List.flatMap_nil, List.append_nil, rgC_len]; decide)]
    simp
   rw [List.take_of_length_le (by rw [flat_len rgC 38 rgC_len, List.length_drop, hlen]; omega)]) (by omega) k4 hlt ?_
  exact J.finW (a' := some ⟨b', 0, none⟩) (n' := n + 1) (c' := c') (by (conv => lhs; whnf) <;> exact sl3 (by omega) (by omega) rfl)
 refine run ?_
 refine J.cur rgC 38 45 g n c l fun cur hcur => ?_
 obtain ⟨k1, k2, k3, k4, k5⟩ := hcur
 have hcl : (n + 1) * 38 ≤ cur.length := by omega
 refine J.extv (E := Extern.SlicesOverlaps.overlaps #[28, 28] #[4]) (v := .bool false) Tryz.func214 (by kernel_rfl) (by kernel_rfl) (by kernel_rfl) (by kernel_rfl) rfl (fun w' M => by
  have B1 := hB.pr M.pr hne
  have B2 : Blk w' g cur 45 := M.blk .here
  exact Lib.run_overlaps_apart w' _ _ 45 Und.h 38 (fun w => size_run Siz.h (by decide)) ⟨b2, 0, none⟩ ⟨g, _, none⟩ 1 1 _ _ (fun e => hne (show some g = some b2 from congrArg some (show g = b2 from e.symm))) _ _ _ _ (blk_shape B1) (blk_shape B2) (by omega) (blk_free B1) (blk_free B1)) ?_
 refine run ?_
 refine J.regionX [(0, .q), (1, .q), (2, .q), (3, .q), (4, .q), (5, .q), (6, .q), (7, .q), (8, .g)] mixed (by kernel_rfl) ?_
 refine run ?_
 refine J.copyR (b := g) (o := (i + 1) * 38) (n := n - i) (k := n - i) (n2 := n + 1 - i) (ds := (cur.drop (i * 38)).take ((n + 1 - i) * 38)) (by (conv => lhs; whnf) <;> exact sl3 (by omega) (by omega) rfl) (by (conv => lhs; whnf) <;> exact sl3 (by omega) (by omega) rfl) (fun w' M => ⟨_, M.part (o := i * 38) (b := g) (by rw [List.length_take, List.length_drop, Nat.min_eq_left (by omega)])⟩) (by rw [List.length_take, List.length_drop]; omega) (fun u hu => ?_) rfl ?_
 ·rw [List.take_take, Nat.min_eq_left (by omega)] at hu
  have h5 := flat_drop rgC 38 rgC_len l i
  rw [← k2, List.drop_take, show n * 38 - i * 38 = (n - i) * 38 by omega] at h5
  rw [h5] at hu
  obtain ⟨y, _, hy⟩ := List.mem_flatMap.1 hu
  exact rgC_cell y u hy
 refine run ?_
 refine J.copyR (b := g) (o := i * 38) (n := n + 1 - i) (k := 1) (by (conv => lhs; whnf) <;> exact sl3 (by omega) (by omega) rfl) rfl (RG.cells (RG.blkO hB hne rgC_len)) (by rw [List.flatMap_cons, List.flatMap_nil, List.append_nil, rgC_len]) (fun u hu => rgC_cell x u (by simpa using List.mem_of_mem_take hu)) rfl ?_ (ho := by simp only [splice_length]; omega)
 refine run ?_
 have hz := (ins_flat (f := rgC) (sz := 38) (z := x) (cs := cur) rgC_len hlen hin hcl (by rw [← flat_take rgC 38 rgC_len, ← k2, List.take_take, Nat.min_eq_left (by omega)])).1
 refine J.ruc rgC 38 45 g (n + 1) c (l.take i ++ x :: l.drop i) rgC_len (by simp only [splice_length]; exact k1) (by
  rw [← hz]
  congr 2
  ·congr 1
   rw [List.take_take, Nat.min_eq_left (by omega), ← flat_drop rgC 38 rgC_len, ← k2, List.drop_take, show n * 38 - i * 38 = (n - i) * 38 by omega]
  rw [List.take_of_length_le (by rw [List.flatMap_cons, List.flatMap_nil, List.append_nil, rgC_len]; decide)]
  simp) (by omega) k4 hlt ?_
 exact J.finW (by (conv => lhs; whnf) <;> exact sl3 (by omega) (by omega) rfl)
instance : Fld Tryz.prog 54 3 3 := ⟨_, _, 6, Tryz.underlying54, rfl, by kernel_rfl, by decide, rfl⟩
instance : Fld Tryz.prog 50 0 0 := ⟨_, _, 1, Tryz.underlying50, rfl, by kernel_rfl, by decide, rfl⟩
instance : Sca Tryz.prog 5 := ⟨_, Tryz.underlying5, rfl⟩
instance : Fld Tryz.prog 50 1 1 := ⟨_, _, 1, Tryz.underlying50, rfl, by kernel_rfl, by decide, rfl⟩
instance : Fld Tryz.prog 50 2 2 := ⟨_, _, 4, Tryz.underlying50, rfl, by kernel_rfl, by decide, rfl⟩
instance : Agg Tryz.prog 40 4 := ⟨_, Tryz.underlying40, rfl, by kernel_rfl⟩
instance : Fld Tryz.prog 54 2 2 := ⟨_, _, 1, Tryz.underlying54, rfl, by kernel_rfl, by decide, rfl⟩
instance : SInf Tryz.prog 45 [(0, 1), (1, 4), (5, 1), (6, 32)] := ⟨_, Tryz.underlying45, by kernel_rfl, by kernel_rfl⟩
instance : Ents Tryz.prog 105 := ⟨.mk Tryz.func105 (by kernel_rfl) rfl⟩
instance : Ents Tryz.prog 165 := ⟨.mk Tryz.func165 (by kernel_rfl) rfl⟩
instance : Ents Tryz.prog 166 := ⟨.mk Tryz.func166 (by kernel_rfl) rfl⟩
instance : Fld Tryz.prog 30 0 0 := ⟨_, _, 1, Tryz.underlying30, rfl, by kernel_rfl, by decide, rfl⟩
instance : Sca Tryz.prog 28 := ⟨_, Tryz.underlying28, rfl⟩
instance : SInf Tryz.prog 50 [(0, 1), (1, 1), (2, 4)] := ⟨_, Tryz.underlying50, by kernel_rfl, by kernel_rfl⟩
instance : Inf Tryz.prog 50 6 64 [.int .u8 0, .string .empty, .int .u8 0, .int .i64 0, .int .u64 0, .string .empty] := ⟨TI.of (v := .agg #[.int .u8 0, .string .empty, .int .u8 0, .int .i64 0, .int .u64 0, .string .empty]) (by kernel_rfl) rfl⟩
instance : Ents Tryz.prog 107 := ⟨.mk Tryz.func107 (by kernel_rfl) rfl⟩
instance : Fld Tryz.prog 45 1 1 := ⟨_, _, 4, Tryz.underlying45, rfl, by kernel_rfl, by decide, rfl⟩
instance : Ents Tryz.prog 108 := ⟨.mk Tryz.func108 (by kernel_rfl) rfl⟩
instance : Ents Tryz.prog 112 := ⟨.mk Tryz.func112 (by kernel_rfl) rfl⟩
@[reducible] def vlC (x : S.RgV) : List Value := [.int .u8 x.vk, .int .i64 x.num, .int .u64 x.bits, .string x.t]
structure LsA (α : Type) where
 (a : Option Addr) (n c : Nat) (l : List α)
theorem lwwApply0 (a : Option Addr) (n c : Nat) (l : List S.RgV) (z : OpA) (id : List Int) (w : World) (hO : GOwn rgC 38 0 w 45 a n c l) (hz : z.o.ok) (hid : Arr .u8 32 id) (hok : ∀ x ∈ l, x.ok) (hs : S.SortK l) (hn : n ≤ 100) :
  Calls Tryz.prog 101 #[.slice a n c, .agg (opC z).toArray, .agg (ints .u8 id).toArray] w (Gw w rgC 38 45 a (S.applR l z.o id hid.1)) := by
 have hl := hO.len
 have hsp := S.spK_le l z.o.key
 obtain ⟨x, hx⟩ := ex (S.regO z.o id hid.1)
 have hxk : x.key = z.o.key := by rw [hx]; rfl
 have hxo : x.ok := by rw [hx]; exact ⟨⟨hz.vk, hz.num, hz.bits, hz.st, hid.2⟩, hz.key, hz.t⟩
 refine J.enterG 47 hO Tryz.func101 rfl rfl ?_
 refine run ?_
 refine J.box rfl rfl rfl fun b1 => ?_
 refine J.box rfl rfl rfl fun b2 => ?_
 refine run ?_
 refine J.ifn rfl (fun c1 => ?_) (fun c1 => ?_)
 ·refine run ?_
  have e : S.applR l z.o id hid.1 = l := if_neg c1
  rw [e]
  exact J.finW rfl
 have e : S.applR l z.o id hid.1 = S.putR l x := by rw [hx]; exact if_pos c1
 rw [e]
 refine run ?_
 refine J.bs rfl rfl ?_ (fill_rg z.o id hid.1)
 rw [← hx]
 refine J.alloc rfl fun b3 => ?_
 refine run ?_
 refine J.callp rfl rfl (fun w' M => (RG.own' (a := a) w' M).elim fun _ k1 => findReg a n c l _ w' k1 hs hn) ?_
 refine run ?_
 refine J.ifnot rfl (fun c2 => ?_) (fun c2 => ?_)
 ·have hh : ¬ S.hasK l x.key := of_decide_eq_false c2
  refine run ?_
  refine J.b1G rgC x rgC_len rfl rfl rfl fun b4 => ?_
  rw [S.put_ins hh]
  refine J.callG rfl (fun w' M hO' => insReg a n c l (S.spK l x.key) x b4 w' hO' (by rw [hxk]; omega) (by omega) (let ⟨_, _, q⟩ := M.get (GO.h (a := some ⟨b4, 0, none⟩) (some ⟨b4, 0, none⟩) 1 1 [x]).same; gown_one (gown_e q).1) (fun he => by
   obtain ⟨S1, S2, h1, h2, h3⟩ := M.two (.gown rgC 38 45 a n c l) (.gown rgC 38 45 (some ⟨b4, 0, none⟩) 1 1 [x])
   exact h1 b4 ((gown_e h2).2 _ he) ((gown_e h3).2 _ rfl))) fun a' c' => ?_
  refine run ?_
  exact J.finW rfl
 have hh := of_decide_eq_true c2
 have hp := (S.has_spK hs).1 hh
 have hq := S.rg_at hp.1
 refine run ?_
 refine J.regionX [(0, .q), (1, .q), (2, .q), (3, .q), (4, .q), (5, .e)] mixed (by kernel_rfl) ?_
 refine run ?_
 refine J.callp rfl rfl (fun w' M => later x _ hxo (hok _ (S.rg_mem hp.1)) w') ?_
 refine run ?_
 refine J.ifd rfl (fun c3 => ?_) (fun c3 => ?_)
 ·refine run ?_
  refine J.stG rfl rfl rfl ?_ (hv := LenC.c (vs := rgC x))
  refine run ?_
  have e2 : S.putR l x = l.set (S.spK l x.key) x := by unfold S.putR; rw [if_pos hh, if_pos c3]
  rw [e2]
  exact J.finW rfl
 refine run ?_
 have e2 : S.putR l x = l := by unfold S.putR; rw [if_pos hh, if_neg c3]
 rw [e2]
 exact J.finW rfl
theorem refLater (st : Int) (id : List Int) (y : S.RgV) (w : World) (hid : Arr .u8 32 id) (hy : y.ok) :
  Calls Tryz.prog 26 #[.int .u64 st, .agg (ints .u8 id).toArray, .agg (rgC y).toArray] w (Ret w fun v _ => v = .bool (decide (S.lateR st id y))) := by
 refine J.enter 21 Tryz.func26 rfl rfl ?_
 refine run ?_
 refine J.box rfl rfl rfl fun b1 => ?_
 refine J.box rfl rfl rfl fun b2 => ?_
 refine run ?_
 refine J.spd rfl rfl rfl (fun c1 => ?_) (fun c1 => ?_)
 ·refine run ?_
  exact J.fin (congrArg _ (decide_eq_true (.inl c1)).symm)
 refine run ?_
 refine J.spe rfl rfl rfl (fun c2 => ?_) (fun c2 => ?_)
 ·refine run ?_
  refine J.ldp rfl ?_ (hv := rgC_id y) (hn := by rw [ints_length, y.h32])
  refine run ?_
  refine J.callp rfl rfl (fun w' M => rcmp _ _ hid hy.arr w') ?_
  refine run ?_
  refine J.fin (congrArg _ (decide_eq_decide.2 ⟨fun h => .inr ⟨c2, h⟩, fun h => h.elim (fun h => absurd h c1) fun h => h.2⟩))
 refine run ?_
 exact J.fin (congrArg _ (decide_eq_false fun h => h.elim c1 fun h => c2 h.1).symm)
instance : Inf Tryz.prog 30 1 24 [.slice none 0 0] := ⟨TI.of (v := .agg #[.slice none 0 0]) (by kernel_rfl) rfl⟩
instance : SInf Tryz.prog 30 [(0, 1)] := ⟨_, Tryz.underlying30, by kernel_rfl, by kernel_rfl⟩
instance : Siz Tryz.prog 30 1 := ⟨by kernel_rfl⟩
instance : Agg Tryz.prog 30 1 := ⟨_, Tryz.underlying30, rfl, by kernel_rfl⟩
instance : Ents Tryz.prog 23 := ⟨.mk Tryz.func23 (by kernel_rfl) rfl⟩
instance : Ents Tryz.prog 104 := ⟨.mk Tryz.func104 (by kernel_rfl) rfl⟩
instance : Ents Tryz.prog 101 := ⟨.mk Tryz.func101 (by kernel_rfl) rfl⟩
instance : Inf Tryz.prog 40 4 40 [.int .u8 0, .int .i64 0, .int .u64 0, .string .empty] := ⟨TI.of (v := .agg #[.int .u8 0, .int .i64 0, .int .u64 0, .string .empty]) (by kernel_rfl) rfl⟩
instance : SInf Tryz.prog 40 [(0, 1), (1, 1), (2, 1), (3, 1)] := ⟨_, Tryz.underlying40, by kernel_rfl, by kernel_rfl⟩
instance : Siz Tryz.prog 40 4 := ⟨by kernel_rfl⟩
instance : Und Tryz.prog 57 (.slice 9) := ⟨Tryz.underlying57⟩
instance : Inf Tryz.prog 9 1 16 [.string .empty] := ⟨TI.of (v := .string .empty) (by kernel_rfl) rfl⟩
instance : Siz Tryz.prog 9 1 := ⟨by kernel_rfl⟩
@[reducible] def rsC (q : LsA S.RgV × Int) : Value := .tuple #[.agg ([.slice q.1.a q.1.n q.1.c] : List Value).toArray, .int .i64 q.2]
def rsP (L : List S.RgV) (e : Int) (q : LsA S.RgV × Int) : Prop := q.1.n ≤ q.1.c ∧ q.1.n = q.1.l.length ∧ q.1.l = L ∧ q.2 = e
@[reducible] def rsE (q : LsA S.RgV × Int) : List Ent := [.gown rgC 38 45 q.1.a q.1.n q.1.c q.1.l]
structure KqA where
 (n : Nat) (a : Option Addr) (c : Nat)
@[reducible] def ksC (q : LsA ByteArray × Int) : Value := .tuple #[.slice q.1.a q.1.n q.1.c, .int .i64 q.2]
theorem refWith {S0 : Nat → Prop} (a : Option Addr) (n c : Nat) (l : List S.RgV) (x : S.RgV) (w : World) (D0 : GRow rgC 38 S0 w a n l) (hs : S.SortK l) (hn : n ≤ 100) (hh : ¬ S.hasK l x.key) :
  Calls Tryz.prog 103 #[.slice a n c, .agg (rgC x).toArray] w (Gv w (fun q : Option Addr × Nat => .slice q.1 (n + 1) q.2) (fun q => [.gown rgC 38 45 q.1 (n + 1) q.2 (S.putR l x)]) fun q => n + 1 ≤ q.2) := by
 have hl := D0.len
 have e0 : [] ++ l ++ [x] = S.insR l x (((0 + n + 1 : Nat) : Int) - 1).toNat := by
  rw [show (((0 + n + 1 : Nat) : Int) - 1).toNat = l.length by omega, S.insR_end]; rfl
 refine J.enter 49 Tryz.func103 rfl rfl ?_
 refine run ?_
 refine J.box rfl rfl rfl fun b1 => ?_
 refine run ?_
 refine J.regionT [.blk b1 (rgC x) 45] (.br [(1, .q), (3, .q)] 0 (.br [] 2 (.fin [(4, .e), (5, .e), (6, .q)]) 4 (.fin [(2, .e), (5, .e), (6, .q)])) 4 (.fin [(0, .e), (2, .e), (5, .e), (6, .q)])) mixed (by kernel_rfl) (by repeat (first | exact List.Sublist.refl _ | refine List.Sublist.cons_cons _ ?_ | refine List.Sublist.cons _ ?_)) ?_
 refine run ?_
 refine J.nil (J.kt ?_ ?_)
 ·refine J.b0G rgC rgC_len rfl fun ba => ?_
  refine J.nil (J.kr (J.tbr (J.nil (J.kt ?_ ?_))))
  ·refine J.apG rfl rfl (RG.arg D0) rgC_one fun ao co => ?_
   refine run ?_
   refine J.b1G rgC x rgC_len rfl rfl rfl fun bb => ?_
   refine J.apG rfl rfl RG.own' rgC_one fun a7 c7 => ?_
   refine run ?_
   refine J.re (.gown rgC 38 45 a7 (0 + n + 1) c7 ([] ++ l ++ [x])) (.gown rgC 38 45 a7 (0 + n + 1) c7 (S.insR l x (((0 + n + 1 : Nat) : Int) - 1).toNat)) (fun _ _ h => by rw [e0] at h; exact h) ?_
   refine J.loop (A := Int) (fun p => [(6, .int .i64 p)]) [16, 17, 18, 19, 20, 21, 22, 23, 24, 25, 26, 27, 28, 29, 30, 31, 32, 33, 34, 35, 36, 37, 38, 39, 40, 41, 42, 43, 44, 45, 46, 47, 48, 49] (fun p => [.gown rgC 38 45 a7 (0 + n + 1) c7 (S.insR l x p.toNat)]) (fun p => (0 ≤ p ∧ p ≤ n) ∧ ∀ j, p.toNat ≤ j → j < n → S.kc x.key (S.rg l j).key < 0) (fun p => p.toNat) (((0 + n + 1 : Nat) : Int) - 1) (by kernel_rfl) ⟨by omega, fun j h1 h2 => by omega⟩ (fun p j hI => ?_) (hL := by repeat (first | exact List.Sublist.refl _ | refine List.Sublist.cons_cons _ ?_ | refine List.Sublist.cons _ ?_))
   obtain ⟨h1, hI⟩ := hI
   refine run ?_
   refine J.regionX [(0, .q), (1, .q), (2, .q), (3, .q), (4, .q), (5, .q), (6, .q), (7, .q), (8, .q), (9, .q), (10, .q), (11, .q), (12, .q), (13, .q), (14, .q), (15, .q)] mixed (by kernel_rfl) ?_
   refine run ?_
   refine J.spd rfl rfl rfl (fun c1 => ?_) (fun c1 => ?_)
   ·have hq := S.insR_at (l := l) (x := x) (p := p.toNat) (by omega)
    have hq2 := S.insR_lo (l := l) (x := x) (p := p.toNat) (i := (p - 1).toNat) (by omega) (by omega)
    have hsw := S.insR_swap (l := l) (x := x) (p := p.toNat) (by omega) (by omega)
    rw [show p.toNat - 1 = (p - 1).toNat by omega] at hsw
    have hpt : p.toNat - 1 = (p - 1).toNat := by omega
    obtain ⟨y, hy⟩ := ex (S.rg l (p - 1).toNat)
    rw [← hy] at hq2 hsw
    refine run ?_
    refine J.ifd rfl (fun c2 => ?_) (fun c2 => ?_)
    ·refine run ?_
     refine J.regionX [(0, .q), (1, .q), (2, .c), (3, .c), (4, .c), (5, .q), (6, .q), (7, .q), (8, .q), (9, .q), (10, .q), (11, .q), (12, .q), (13, .q), (14, .q), (15, .g), (16, .q), (17, .g)] mixed (by kernel_rfl) ?_
     refine run ?_
     refine J.stG (f := rgC) (q := y) rfl rfl rfl ?_ (hv := LenC.c (vs := rgC y))
     refine run ?_
     refine J.stG (f := rgC) (q := x) rfl rfl rfl ?_ (hv := LenC.c (vs := rgC x))
     refine run ?_
     refine J.re (.gown rgC 38 45 a7 (0 + n + 1) c7 (((S.insR l x p.toNat).set p.toNat y).set (p - 1).toNat x)) (.gown rgC 38 45 a7 (0 + n + 1) c7 (S.insR l x (p - 1).toNat)) (fun _ _ h => by rw [hsw] at h; exact h) ?_
     refine J.next (p - 1) ⟨rfl, trivial⟩ (by kernel_rfl) ⟨by omega, fun j k1 k2 => ?_⟩ (by omega)
     rcases Nat.lt_or_ge j p.toNat with e | e
     ·obtain rfl : j = (p - 1).toNat := by omega
      rw [← hy]; exact c2
     exact hI j e k2
    have hput : S.insR l x p.toNat = S.putR l x := S.insR_put hs hh (by omega) (fun j k1 k2 => hI j k1 (by omega)) (.inr (by rw [hpt, ← hy]; exact c2))
    refine run ?_
    refine J.re (.gown rgC 38 45 a7 (0 + n + 1) c7 (S.insR l x p.toNat)) (.gown rgC 38 45 a7 (n + 1) c7 (S.putR l x)) (fun _ _ h => by rw [hput, Nat.zero_add] at h; exact h) ?_
    refine J.fact (.gown rgC 38 45 a7 (n + 1) c7 (S.putR l x)) (fun _ _ h => (gown_e h).1.capn) fun hcap => ?_
    exact J.finG (a7, c7) (by rw [Nat.zero_add]) hcap (.cons_cons _ (List.nil_sublist _))
   have hput : S.insR l x p.toNat = S.putR l x := S.insR_put hs hh (by omega) (fun j k1 k2 => hI j k1 (by omega)) (.inl (by omega))
   refine run ?_
   refine J.re (.gown rgC 38 45 a7 (0 + n + 1) c7 (S.insR l x p.toNat)) (.gown rgC 38 45 a7 (n + 1) c7 (S.putR l x)) (fun _ _ h => by rw [hput, Nat.zero_add] at h; exact h) ?_
   refine J.fact (.gown rgC 38 45 a7 (n + 1) c7 (S.putR l x)) (fun _ _ h => (gown_e h).1.capn) fun hcap => ?_
   exact J.finG (a7, c7) (by rw [Nat.zero_add]) hcap (.cons_cons _ (List.nil_sublist _))
  refine J.b1G rgC x rgC_len rfl rfl rfl fun bb => ?_
  refine run ?_
  refine J.apG rfl rfl (RG.arg D0) rgC_one fun ao co => ?_
  refine J.apG rfl rfl RG.own' rgC_one fun a7 c7 => ?_
  refine run ?_
  refine J.re (.gown rgC 38 45 a7 (0 + n + 1) c7 ([] ++ l ++ [x])) (.gown rgC 38 45 a7 (0 + n + 1) c7 (S.insR l x (((0 + n + 1 : Nat) : Int) - 1).toNat)) (fun _ _ h => by rw [e0] at h; exact h) ?_
  refine J.loop (A := Int) (fun p => [(6, .int .i64 p)]) [16, 17, 18, 19, 20, 21, 22, 23, 24, 25, 26, 27, 28, 29, 30, 31, 32, 33, 34, 35, 36, 37, 38, 39, 40, 41, 42, 43, 44, 45, 46, 47, 48, 49] (fun p => [.gown rgC 38 45 a7 (0 + n + 1) c7 (S.insR l x p.toNat)]) (fun p => (0 ≤ p ∧ p ≤ n) ∧ ∀ j, p.toNat ≤ j → j < n → S.kc x.key (S.rg l j).key < 0) (fun p => p.toNat) (((0 + n + 1 : Nat) : Int) - 1) (by kernel_rfl) ⟨by omega, fun j h1 h2 => by omega⟩ (fun p j hI => ?_) (hL := by repeat (first | exact List.Sublist.refl _ | refine List.Sublist.cons_cons _ ?_ | refine List.Sublist.cons _ ?_))
  obtain ⟨h1, hI⟩ := hI
  refine run ?_
  refine J.regionX [(0, .q), (1, .q), (2, .q), (3, .q), (4, .q), (5, .q), (6, .q), (7, .q), (8, .q), (9, .q), (10, .q), (11, .q), (12, .q), (13, .q), (14, .q), (15, .q)] mixed (by kernel_rfl) ?_
  refine run ?_
  refine J.spd rfl rfl rfl (fun c1 => ?_) (fun c1 => ?_)
  ·have hq := S.insR_at (l := l) (x := x) (p := p.toNat) (by omega)
   have hq2 := S.insR_lo (l := l) (x := x) (p := p.toNat) (i := (p - 1).toNat) (by omega) (by omega)
   have hsw := S.insR_swap (l := l) (x := x) (p := p.toNat) (by omega) (by omega)
   rw [show p.toNat - 1 = (p - 1).toNat by omega] at hsw
   have hpt : p.toNat - 1 = (p - 1).toNat := by omega
   obtain ⟨y, hy⟩ := ex (S.rg l (p - 1).toNat)
   rw [← hy] at hq2 hsw
   refine run ?_
   refine J.ifd rfl (fun c2 => ?_) (fun c2 => ?_)
   ·refine run ?_
    refine J.regionX [(0, .q), (1, .q), (2, .c), (3, .c), (4, .c), (5, .q), (6, .q), (7, .q), (8, .q), (9, .q), (10, .q), (11, .q), (12, .q), (13, .q), (14, .q), (15, .g), (16, .q), (17, .g)] mixed (by kernel_rfl) ?_
    refine run ?_
    refine J.stG (f := rgC) (q := y) rfl rfl rfl ?_ (hv := LenC.c (vs := rgC y))
    refine run ?_
    refine J.stG (f := rgC) (q := x) rfl rfl rfl ?_ (hv := LenC.c (vs := rgC x))
    refine run ?_
    refine J.re (.gown rgC 38 45 a7 (0 + n + 1) c7 (((S.insR l x p.toNat).set p.toNat y).set (p - 1).toNat x)) (.gown rgC 38 45 a7 (0 + n + 1) c7 (S.insR l x (p - 1).toNat)) (fun _ _ h => by rw [hsw] at h; exact h) ?_
    refine J.next (p - 1) ⟨rfl, trivial⟩ (by kernel_rfl) ⟨by omega, fun j k1 k2 => ?_⟩ (by omega)
    rcases Nat.lt_or_ge j p.toNat with e | e
    ·obtain rfl : j = (p - 1).toNat := by omega
     rw [← hy]; exact c2
    exact hI j e k2
   have hput : S.insR l x p.toNat = S.putR l x := S.insR_put hs hh (by omega) (fun j k1 k2 => hI j k1 (by omega)) (.inr (by rw [hpt, ← hy]; exact c2))
   refine run ?_
   refine J.re (.gown rgC 38 45 a7 (0 + n + 1) c7 (S.insR l x p.toNat)) (.gown rgC 38 45 a7 (n + 1) c7 (S.putR l x)) (fun _ _ h => by rw [hput, Nat.zero_add] at h; exact h) ?_
   refine J.fact (.gown rgC 38 45 a7 (n + 1) c7 (S.putR l x)) (fun _ _ h => (gown_e h).1.capn) fun hcap => ?_
   exact J.finG (a7, c7) (by rw [Nat.zero_add]) hcap (.cons_cons _ (List.nil_sublist _))
  have hput : S.insR l x p.toNat = S.putR l x := S.insR_put hs hh (by omega) (fun j k1 k2 => hI j k1 (by omega)) (.inl (by omega))
  refine run ?_
  refine J.re (.gown rgC 38 45 a7 (0 + n + 1) c7 (S.insR l x p.toNat)) (.gown rgC 38 45 a7 (n + 1) c7 (S.putR l x)) (fun _ _ h => by rw [hput, Nat.zero_add] at h; exact h) ?_
  refine J.fact (.gown rgC 38 45 a7 (n + 1) c7 (S.putR l x)) (fun _ _ h => (gown_e h).1.capn) fun hcap => ?_
  exact J.finG (a7, c7) (by rw [Nat.zero_add]) hcap (.cons_cons _ (List.nil_sublist _))
 refine J.b1G rgC x rgC_len rfl rfl rfl fun bb => ?_
 refine run ?_
 refine J.b0G rgC rgC_len rfl fun ba => ?_
 refine J.apG rfl rfl (RG.arg D0) rgC_one fun ao co => ?_
 refine J.apG rfl rfl RG.own' rgC_one fun a7 c7 => ?_
 refine run ?_
 refine J.re (.gown rgC 38 45 a7 (0 + n + 1) c7 ([] ++ l ++ [x])) (.gown rgC 38 45 a7 (0 + n + 1) c7 (S.insR l x (((0 + n + 1 : Nat) : Int) - 1).toNat)) (fun _ _ h => by rw [e0] at h; exact h) ?_
 refine J.loop (A := Int) (fun p => [(6, .int .i64 p)]) [16, 17, 18, 19, 20, 21, 22, 23, 24, 25, 26, 27, 28, 29, 30, 31, 32, 33, 34, 35, 36, 37, 38, 39, 40, 41, 42, 43, 44, 45, 46, 47, 48, 49] (fun p => [.gown rgC 38 45 a7 (0 + n + 1) c7 (S.insR l x p.toNat)]) (fun p => (0 ≤ p ∧ p ≤ n) ∧ ∀ j, p.toNat ≤ j → j < n → S.kc x.key (S.rg l j).key < 0) (fun p => p.toNat) (((0 + n + 1 : Nat) : Int) - 1) (by kernel_rfl) ⟨by omega, fun j h1 h2 => by omega⟩ (fun p j hI => ?_) (hL := by repeat (first | exact List.Sublist.refl _ | refine List.Sublist.cons_cons _ ?_ | refine List.Sublist.cons _ ?_))
 obtain ⟨h1, hI⟩ := hI
 refine run ?_
 refine J.regionX [(0, .q), (1, .q), (2, .q), (3, .q), (4, .q), (5, .q), (6, .q), (7, .q), (8, .q), (9, .q), (10, .q), (11, .q), (12, .q), (13, .q), (14, .q), (15, .q)] mixed (by kernel_rfl) ?_
 refine run ?_
 refine J.spd rfl rfl rfl (fun c1 => ?_) (fun c1 => ?_)
 ·have hq := S.insR_at (l := l) (x := x) (p := p.toNat) (by omega)
  have hq2 := S.insR_lo (l := l) (x := x) (p := p.toNat) (i := (p - 1).toNat) (by omega) (by omega)
  have hsw := S.insR_swap (l := l) (x := x) (p := p.toNat) (by omega) (by omega)
  rw [show p.toNat - 1 = (p - 1).toNat by omega] at hsw
  have hpt : p.toNat - 1 = (p - 1).toNat := by omega
  obtain ⟨y, hy⟩ := ex (S.rg l (p - 1).toNat)
  rw [← hy] at hq2 hsw
  refine run ?_
  refine J.ifd rfl (fun c2 => ?_) (fun c2 => ?_)
  ·refine run ?_
   refine J.regionX [(0, .q), (1, .q), (2, .c), (3, .c), (4, .c), (5, .q), (6, .q), (7, .q), (8, .q), (9, .q), (10, .q), (11, .q), (12, .q), (13, .q), (14, .q), (15, .g), (16, .q), (17, .g)] mixed (by kernel_rfl) ?_
   refine run ?_
   refine J.stG (f := rgC) (q := y) rfl rfl rfl ?_ (hv := LenC.c (vs := rgC y))
   refine run ?_
   refine J.stG (f := rgC) (q := x) rfl rfl rfl ?_ (hv := LenC.c (vs := rgC x))
   refine run ?_
   refine J.re (.gown rgC 38 45 a7 (0 + n + 1) c7 (((S.insR l x p.toNat).set p.toNat y).set (p - 1).toNat x)) (.gown rgC 38 45 a7 (0 + n + 1) c7 (S.insR l x (p - 1).toNat)) (fun _ _ h => by rw [hsw] at h; exact h) ?_
   refine J.next (p - 1) ⟨rfl, trivial⟩ (by kernel_rfl) ⟨by omega, fun j k1 k2 => ?_⟩ (by omega)
   rcases Nat.lt_or_ge j p.toNat with e | e
   ·obtain rfl : j = (p - 1).toNat := by omega
    rw [← hy]; exact c2
   exact hI j e k2
  have hput : S.insR l x p.toNat = S.putR l x := S.insR_put hs hh (by omega) (fun j k1 k2 => hI j k1 (by omega)) (.inr (by rw [hpt, ← hy]; exact c2))
  refine run ?_
  refine J.re (.gown rgC 38 45 a7 (0 + n + 1) c7 (S.insR l x p.toNat)) (.gown rgC 38 45 a7 (n + 1) c7 (S.putR l x)) (fun _ _ h => by rw [hput, Nat.zero_add] at h; exact h) ?_
  refine J.fact (.gown rgC 38 45 a7 (n + 1) c7 (S.putR l x)) (fun _ _ h => (gown_e h).1.capn) fun hcap => ?_
  exact J.finG (a7, c7) (by rw [Nat.zero_add]) hcap (.cons_cons _ (List.nil_sublist _))
 have hput : S.insR l x p.toNat = S.putR l x := S.insR_put hs hh (by omega) (fun j k1 k2 => hI j k1 (by omega)) (.inl (by omega))
 refine run ?_
 refine J.re (.gown rgC 38 45 a7 (0 + n + 1) c7 (S.insR l x p.toNat)) (.gown rgC 38 45 a7 (n + 1) c7 (S.putR l x)) (fun _ _ h => by rw [hput, Nat.zero_add] at h; exact h) ?_
 refine J.fact (.gown rgC 38 45 a7 (n + 1) c7 (S.putR l x)) (fun _ _ h => (gown_e h).1.capn) fun hcap => ?_
 exact J.finG (a7, c7) (by rw [Nat.zero_add]) hcap (.cons_cons _ (List.nil_sublist _))
theorem refRSame {S0 S1 : Nat → Prop} (a a2 : Option Addr) (n n2 c c2 : Nat) (l m : List S.RgV) (w : World) (D0 : GRow rgC 38 S0 w a n l) (D1 : GRow rgC 38 S1 w a2 n2 m) (hn : n ≤ 1000) :
  Calls Tryz.prog 17 #[.agg ([.slice a n c] : List Value).toArray, .agg ([.slice a2 n2 c2] : List Value).toArray] w (Ret w fun v _ => v = .bool (decide (l = m))) := by
 have hl := D0.len
 have hm := D1.len
 refine J.enter 29 Tryz.func17 rfl rfl ?_
 refine run ?_
 refine J.box rfl rfl rfl fun b1 => ?_
 refine J.box rfl rfl rfl fun b2 => ?_
 refine run ?_
 refine J.ifn rfl (fun c1 => ?_) (fun c1 => ?_)
 ·refine run ?_
  exact J.fin (congrArg _ (decide_eq_false fun h => c1 (by rw [← hl, ← hm, h])).symm)
 refine run ?_
 refine J.loopS (A := Int) (fun p => [(5, .int .i64 p)]) [4, 13, 14, 15, 16, 17, 18, 19, 20, 21, 22, 23, 24, 25, 26, 27, 28, 29, 30] (fun p => (0 ≤ p ∧ p ≤ n) ∧ ∀ i, i < p.toNat → S.rg l i = S.rg m i) (fun p => n - p.toNat) 0 (by kernel_rfl) ⟨by omega, fun i hi => by omega⟩ (fun p j hI => ?_)
 obtain ⟨h1, hI⟩ := hI
 refine run ?_
 refine J.ifd rfl (fun c3 => ?_) (fun c3 => ?_)
 ·have hq := S.rg_at (l := l) (i := p.toNat) (by omega)
  have hq2 := S.rg_at (l := m) (i := p.toNat) (by omega)
  refine run ?_
  refine J.regionX [(0, .q), (1, .q), (2, .q), (3, .q), (4, .q), (5, .q), (6, .q), (7, .q), (8, .q), (9, .q), (10, .q)] mixed (by kernel_rfl) ?_
  refine run ?_
  refine J.neR rfl rfl rfl (fits_rg _) (fits_rg _) (eq_rg _ _) ?_
  refine run ?_
  refine J.ifd rfl (fun c4 => ?_) (fun c4 => ?_)
  ·refine run ?_
   exact J.fin (congrArg _ (decide_eq_false fun h => c4 (by rw [h])).symm)
  refine run ?_
  refine J.nextS (p + 1) ⟨rfl, trivial⟩ (by kernel_rfl) ⟨by omega, fun i hi => ?_⟩ (by omega)
  rcases Nat.lt_or_ge i p.toNat with e | e
  ·exact hI i e
  obtain rfl : i = p.toNat := by omega
  exact Decidable.not_not.1 c4
 refine run ?_
 refine J.fin (congrArg _ (decide_eq_true ?_).symm)
 refine List.ext_getElem? fun i => ?_
 by_cases hi : i < n
 ·rw [S.rg_at (by omega), S.rg_at (by omega), hI i (by omega)]
 rw [List.getElem?_eq_none (by omega), List.getElem?_eq_none (by omega)]
structure RsI (S0 : Nat → Prop) (w : World) (a : Option Addr) (n c : Nat) (l : List S.RgV) : Prop where
 row : GRow rgC 38 S0 w a n l
 rng : ∀ x ∈ l, x.rng
 cap : n ≤ c
theorem RsI.ext {S0 : Nat → Prop} {w w' : World} {a : Option Addr} {n c : Nat} {l : List S.RgV} (h : RsI S0 w a n c l) (x : Ext w w') : RsI S0 w' a n c l := ⟨h.row.ext x, h.rng, h.cap⟩
def RsSm (n : Nat) (l : List S.RgV) : Prop := n ≤ 100 ∧ ∀ x ∈ l, x.key.size ≤ 100 ∧ x.t.size ≤ 100
theorem RsI.rs {S0 : Nat → Prop} {w : World} {a : Option Addr} {n c : Nat} {l : List S.RgV} (h : RsI S0 w a n c l) (hs : RsSm n l) : RsR S0 w a n c l := ⟨h.row, fun x hx => ⟨h.rng x hx, (hs.2 x hx).1, (hs.2 x hx).2⟩, h.cap, hs.1⟩
instance : Fld Tryz.prog 40 3 3 := ⟨_, _, 1, Tryz.underlying40, rfl, by kernel_rfl, by decide, rfl⟩
instance : Ents Tryz.prog 19 := ⟨.mk Tryz.func19 (by kernel_rfl) rfl⟩
instance : SInf Tryz.prog 54 [(0, 1), (1, 1), (2, 1), (3, 6), (9, 2)] := ⟨_, Tryz.underlying54, by kernel_rfl, by kernel_rfl⟩
instance : Ents Tryz.prog 109 := ⟨.mk Tryz.func109 (by kernel_rfl) rfl⟩
instance : Ents Tryz.prog 24 := ⟨.mk Tryz.func24 (by kernel_rfl) rfl⟩
instance : Ents Tryz.prog 113 := ⟨.mk Tryz.func113 (by kernel_rfl) rfl⟩
instance : Ents Tryz.prog 20 := ⟨.mk Tryz.func20 (by kernel_rfl) rfl⟩
instance : Ents Tryz.prog 21 := ⟨.mk Tryz.func21 (by kernel_rfl) rfl⟩
instance : Siz Tryz.prog 28 1 := ⟨by kernel_rfl⟩
instance : Ents Tryz.prog 102 := ⟨.mk Tryz.func102 (by kernel_rfl) rfl⟩
instance : Ents Tryz.prog 26 := ⟨.mk Tryz.func26 (by kernel_rfl) rfl⟩
instance : Ents Tryz.prog 103 := ⟨.mk Tryz.func103 (by kernel_rfl) rfl⟩
theorem GrR.rok {S0 : Nat → Prop} {w : World} {g : GrA} (h : GrR S0 w g) {n : Nat} (hn : n ≤ g.m) : ∀ x ∈ S.ofL g.ids g.ops (List.range n), x.ok :=
 S.ofL_ok fun i hi => S.regI_ok (h.zok i) h.ids.bd h.ids.len (by have := List.mem_range.1 hi; omega)
theorem lwwOf {S0 : Nat → Prop} (g : GrA) (TK : TypeId) (w : World) (K0 : Kst w TK) (G : GrR S0 w g) :
  Calls Tryz.prog 15 #[.agg (grC g).toArray] w (Gv w rsC rsE (rsP (S.ofG g.m g.ids g.ops) (S.chkG g.m g.ids g.ops))) := by
 have D0 := G.ids
 have G0 := G.ops
 have hl := G.len
 have hcp := G.cap
 have hlen := D0.len
 refine J.enter 33 Tryz.func15 rfl rfl ?_
 refine run ?_
 refine J.box rfl rfl rfl fun b1 => ?_
 refine J.alloc rfl fun b2 => ?_
 refine run ?_
 refine J.callp rfl rfl (fun w' M => dagCheck g TK w' (K0.ext M.ext) (G.ext M.ext)) ?_
 refine run ?_
 refine J.ifn rfl (fun c1 => ?_) (fun c1 => ?_)
 ·have h8 := c1
  refine run ?_
  refine J.nilG rgC 38 45 rgC_len ?_
  exact J.finG (⟨none, 0, 0, []⟩, S.chkG g.m g.ids g.ops) rfl ⟨Nat.le_refl _, rfl, (S.ofG_bad c1).symm, rfl⟩ (.cons_cons _ (List.nil_sublist _))
 have hz := S.chkG_zero.1 c1
 refine run ?_
 refine J.alloc rfl fun b3 => ?_
 refine run ?_
 refine J.nilG rgC 38 45 rgC_len ?_
 refine J.loop (A := KqA) (fun p => [(17, .int .i64 (p.n : Nat))]) [6, 7, 18, 19, 20, 21, 22, 23, 24, 25, 26, 27, 28, 29, 30, 31, 32] (fun p => [.gown rgC 38 45 p.a (S.ofL g.ids g.ops (List.range p.n)).length p.c (S.ofL g.ids g.ops (List.range p.n)), .blk b3 [.slice p.a (S.ofL g.ids g.ops (List.range p.n)).length p.c] 30, .blk b2 [.slice none 0 0] 30, .blk b1 (grC g) 25]) (fun p => p.n ≤ g.n) (fun p => g.n - p.n) ⟨0, none, 0⟩ (by kernel_rfl) (Nat.zero_le _) (fun p j hI => ?_)
 refine run ?_
 refine J.ifd rfl (fun c3 => ?_) (fun c3 => ?_)
 ·obtain ⟨z, hzz⟩ := G0.ex (i := (p.n : Nat)) (by omega)
  have R := G.op hzz
  rw [Int.toNat_natCast] at hzz
  have hzo := GrA.opAt hzz
  have hA : Arr .u8 32 (elt 32 g.ids p.n) := D0.elt_arr (by omega)
  have e : S.applR (S.ofL g.ids g.ops (List.range p.n)) z.o (elt 32 g.ids p.n) hA.1 = S.ofL g.ids g.ops (List.range (p.n + 1)) := by rw [S.ofL_range]; exact S.step_app hzo _
  have hr := S.ofL_range_len g.ids g.ops p.n
  refine run ?_
  refine J.alloc rfl fun b4 => ?_
  refine run ?_
  refine J.regionX [(0, .q), (1, .q), (2, .q), (3, .q), (4, .q), (5, .q), (6, .q), (7, .q), (8, .g), (9, .q), (10, .g)] mixed (by kernel_rfl) ?_
  refine run ?_
  refine J.callG rfl (fun w' M hO => lwwApply0 p.a _ p.c (S.ofL g.ids g.ops (List.range p.n)) z (elt 32 g.ids p.n) w' hO R.ok hA (G.rok (by omega)) (S.ofL_sort ..) (by omega)) fun a' c' => ?_
  rw [e]
  refine run ?_
  exact J.next ⟨p.n + 1, a', c'⟩ ⟨rfl, trivial⟩ (by kernel_rfl) (by dsimp only; omega) (by dsimp only; omega)
 have hpn : p.n = g.ops.length := by omega
 refine run ?_
 refine J.fact (.gown rgC 38 45 p.a (S.ofL g.ids g.ops (List.range p.n)).length p.c (S.ofL g.ids g.ops (List.range p.n))) (fun _ _ h => (gown_e h).1.capn) fun hcap => ?_
 exact J.finG (⟨p.a, _, p.c, S.ofL g.ids g.ops (List.range p.n)⟩, 0) rfl ⟨hcap, rfl, by rw [S.ofG_ok c1, hpn], c1.symm⟩ (by repeat (first | exact List.nil_sublist _ | refine List.Sublist.cons_cons _ ?_ | refine List.Sublist.cons _ ?_))
structure LkA where
 (last : Bool) (k : Nat)
theorem refROf {S0 : Nat → Prop} (g : GrA) (w : World) (G : GrR S0 w g) :
  Calls Tryz.prog 16 #[.agg (grC g).toArray] w (Gv w rsC rsE (rsP (S.ofG g.m g.ids g.ops) (S.chkG g.m g.ids g.ops))) := by
 have D0 := G.ids
 have G0 := G.ops
 have hl := G.len
 have hcp := G.cap
 have hlen := D0.len
 refine J.enter 94 Tryz.func16 rfl rfl ?_
 refine run ?_
 refine J.box rfl rfl rfl fun b1 => ?_
 refine J.alloc rfl fun b2 => ?_
 refine run ?_
 refine J.callp rfl rfl (fun w' M => refCheck g w' (G.ext M.ext)) ?_
 refine run ?_
 refine J.ifn rfl (fun c1 => ?_) (fun c1 => ?_)
 ·refine run ?_
  refine J.callp rfl rfl (fun w' M => refCheck g w' (G.ext M.ext)) ?_
  refine run ?_
  refine J.nilG rgC 38 45 rgC_len ?_
  exact J.finG (⟨none, 0, 0, []⟩, S.chkG g.m g.ids g.ops) rfl ⟨Nat.le_refl _, rfl, (S.ofG_bad c1).symm, rfl⟩ (.cons_cons _ (List.nil_sublist _))
 have hz := S.chkG_zero.1 c1
 have hris := hz.2.2.2.1
 have hmn : g.m = g.n := by omega
 have hone := S.one_range (ops := g.ops) hris hlen
 refine run ?_
 refine J.alloc rfl fun b3 => ?_
 refine run ?_
 refine J.nilG rgC 38 45 rgC_len ?_
 refine J.loop (A := KqA) (fun p => [(5, .int .i64 (p.n : Nat))]) [6, 7, 8, 9, 16, 17, 18, 19, 20, 21, 22, 23, 24, 25, 26, 27, 28, 29, 30, 31, 32, 33, 34, 35, 36, 37, 38, 39, 40, 41, 42, 43, 44, 45, 46, 47, 48, 49, 50, 51, 52, 53, 54, 55, 56, 57, 58, 59, 60, 61, 62, 63, 64, 65, 66, 67, 68, 69, 70, 71, 72, 73, 74, 75, 76, 77, 78, 79, 80, 81, 82, 83, 84, 85, 86, 87, 88, 89, 90, 91, 92, 93] (fun p => [.gown rgC 38 45 p.a (S.ofL g.ids g.ops (S.tops g.ids g.ops g.m p.n)).length p.c (S.ofL g.ids g.ops (S.tops g.ids g.ops g.m p.n)), .blk b3 [.slice p.a (S.ofL g.ids g.ops (S.tops g.ids g.ops g.m p.n)).length p.c] 30, .blk b2 [.slice none 0 0] 30, .blk b1 (grC g) 25]) (fun p => p.n ≤ g.n) (fun p => g.n - p.n) ⟨0, none, 0⟩ (by kernel_rfl) (Nat.zero_le _) (fun p j hI => ?_)
 refine run ?_
 refine J.ifd rfl (fun c3 => ?_) (fun c3 => ?_)
 ·obtain ⟨z, hzz⟩ := G0.ex (i := (p.n : Nat)) (by omega)
  have R := G.op hzz
  have hzz' := hzz
  rw [Int.toNat_natCast] at hzz'
  have hzo := GrA.opAt hzz'
  have hA : Arr .u8 32 (elt 32 g.ids p.n) := D0.elt_arr (by omega)
  have hti := S.tops_len g.ids g.ops g.m p.n
  obtain ⟨x, hx⟩ := ex (S.regI g.ids g.ops p.n)
  have hxe : x = S.regO z.o (elt 32 g.ids p.n) hA.1 := by rw [hx, S.regI_eq hA.1, hzo]; rfl
  have hxo : x.ok := by rw [hx]; exact S.regI_ok (G.zok _) D0.bd hlen (by omega)
  have hfl := fill_rg z.o (elt 32 g.ids p.n) hA.1
  rw [← hxe] at hfl
  refine run ?_
  refine J.alloc rfl fun b4 => ?_
  refine run ?_
  refine J.ifn rfl (fun c4 => ?_) (fun c4 => ?_)
  ·have hno : ¬ S.topI g.ids g.ops (List.range g.m) p.n := fun h => c4 (by have := h.2.1; unfold S.setI at this; rw [hzo] at this; exact this)
   have et := S.tops_no hno
   rw [← et]
   refine run ?_
   exact J.next ⟨p.n + 1, p.a, p.c⟩ ⟨rfl, trivial⟩ (by kernel_rfl) (by dsimp only; omega) (by dsimp only; omega)
  have hset : S.setI g.ops p.n := by unfold S.setI; rw [hzo]; exact c4
  refine run ?_
  refine J.regionX [(0, .q), (1, .q), (2, .q), (3, .q), (4, .q), (5, .q), (6, .q), (7, .q), (8, .q), (9, .q), (10, .q), (11, .q), (12, .q), (13, .q), (14, .e), (15, .g)] mixed (by kernel_rfl) ?_
  refine run ?_
  refine J.bs rfl rfl ?_ hfl
  refine J.alloc rfl fun b5 => ?_
  refine run ?_
  refine J.loop (A := LkA) (fun q => [(8, .bool q.last), (9, .int .i64 (q.k : Nat))]) [46, 47, 48, 49, 50, 51, 52, 53, 54, 55, 56, 57, 58, 59, 60, 61, 62, 63, 64, 65, 66, 67, 68, 69, 70, 71, 72, 73, 74, 75, 76, 77, 78, 79, 80, 81, 82, 83, 84, 85, 86, 87] (fun _ => [.blk b5 (rgC x) 45, .blk b4 (opC z) 54, .gown rgC 38 45 p.a (S.ofL g.ids g.ops (S.tops g.ids g.ops g.m p.n)).length p.c (S.ofL g.ids g.ops (S.tops g.ids g.ops g.m p.n)), .blk b3 [.slice p.a (S.ofL g.ids g.ops (S.tops g.ids g.ops g.m p.n)).length p.c] 30, .blk b2 [.slice none 0 0] 30, .blk b1 (grC g) 25]) (fun q => q.k ≤ g.n ∧ (q.last = true ↔ S.noneI g.ids g.ops p.n q.k)) (fun q => g.n - q.k) ⟨true, 0⟩ (by kernel_rfl) ⟨Nat.zero_le _, fun _ j hj => absurd hj (Nat.not_lt_zero _), fun _ => rfl⟩ (fun q j2 hQ => ?_)
  obtain ⟨hQ1, hQ2⟩ := hQ
  refine run ?_
  refine J.ifd rfl (fun c5 => ?_) (fun c5 => ?_)
  ·obtain ⟨y, hyy⟩ := G0.ex (i := (q.k : Nat)) (by omega)
   have hyy' := hyy
   rw [Int.toNat_natCast] at hyy'
   have hyo := GrA.opAt hyy'
   have hB : Arr .u8 32 (elt 32 g.ids q.k) := D0.elt_arr (by omega)
   have hre : S.regI g.ids g.ops q.k = S.regO y.o (elt 32 g.ids q.k) hB.1 := by rw [S.regI_eq hB.1, hyo]; rfl
   have hsu := S.noneI_succ (ids := g.ids) (ops := g.ops) (i := p.n) (k := q.k)
   have hse : S.setI g.ops q.k ↔ y.o.k = 4 := by unfold S.setI; rw [hyo]
   rw [hse, hre, ← hx] at hsu
   refine run ?_
   refine J.regionX [(0, .q), (1, .q), (2, .q), (3, .q), (4, .q), (5, .q), (6, .q), (7, .q), (8, .q), (9, .q), (10, .q), (11, .q), (12, .q), (13, .q), (14, .q), (15, .q), (16, .q), (17, .q), (18, .q), (19, .q), (20, .q), (21, .q), (22, .q), (23, .q), (24, .q), (25, .q), (26, .q), (27, .q), (28, .q), (29, .q), (30, .q), (31, .q), (32, .q), (33, .e), (34, .q)] mixed (by kernel_rfl) ?_
   refine run ?_
   refine J.spe rfl rfl rfl (fun d1 => ?_) (fun d1 => ?_)
   ·refine run ?_
    refine J.sp rfl rfl rfl (fun d2 => ?_) (fun d2 => ?_)
    ·rw [bar_eq] at d2
     have d2 := of_decide_eq_true d2
     refine run ?_
     refine J.callp rfl rfl (fun w' M => refLater y.o.st (elt 32 g.ids q.k) x w' hB hxo) ?_
     refine run ?_
     refine J.ifd rfl (fun d3 => ?_) (fun d3 => ?_)
     ·refine run ?_
      exact J.next ⟨false, q.k + 1⟩ ⟨rfl, rfl, trivial⟩ (by kernel_rfl) ⟨by dsimp only; omega, fun h => (by cases h), fun h => absurd d3 ((hsu.1 h).2 d1 d2)⟩ (by dsimp only; omega)
     refine run ?_
     exact J.next ⟨q.last, q.k + 1⟩ ⟨rfl, rfl, trivial⟩ (by kernel_rfl) ⟨by dsimp only; omega, fun h => hsu.2 ⟨hQ2.1 h, fun _ _ => d3⟩, fun h => hQ2.2 (hsu.1 h).1⟩ (by dsimp only; omega)
    rw [bar_eq] at d2
    have d2 := of_decide_eq_false d2
    refine run ?_
    exact J.next ⟨q.last, q.k + 1⟩ ⟨rfl, rfl, trivial⟩ (by kernel_rfl) ⟨by dsimp only; omega, fun h => hsu.2 ⟨hQ2.1 h, fun _ h2 => absurd h2 d2⟩, fun h => hQ2.2 (hsu.1 h).1⟩ (by dsimp only; omega)
   refine run ?_
   exact J.next ⟨q.last, q.k + 1⟩ ⟨rfl, rfl, trivial⟩ (by kernel_rfl) ⟨by dsimp only; omega, fun h => hsu.2 ⟨hQ2.1 h, fun h1 _ => absurd h1 d1⟩, fun h => hQ2.2 (hsu.1 h).1⟩ (by dsimp only; omega)
  have hqk : q.k = g.m := by omega
  have htop := S.noneI_top (ids := g.ids) (ops := g.ops) (n := g.m) (i := p.n) (by omega) hset
  rw [hqk] at hQ2
  refine run ?_
  refine J.ifb rfl (fun d1 => ?_) (fun d1 => ?_)
  ·have ht := htop.2 (hQ2.1 d1)
   have hnew := S.tops_new hris hlen ht
   have eput := S.tops_put ht
   rw [← hx] at hnew eput
   have elen : (S.ofL g.ids g.ops (S.tops g.ids g.ops g.m (p.n + 1))).length = (S.ofL g.ids g.ops (S.tops g.ids g.ops g.m p.n)).length + 1 := by rw [eput, S.put_len, if_neg hnew]
   refine run ?_
   refine J.call rfl rfl (fun w' M => (RG.own' (a := p.a) w' M).elim fun _ k0 => refWith p.a _ p.c _ x w' k0 (S.ofL_sort ..) (by omega) hnew) fun r hr => ?_
   rw [← eput, ← elen]
   refine run ?_
   exact J.next ⟨p.n + 1, r.1, r.2⟩ ⟨rfl, trivial⟩ (by kernel_rfl) (by dsimp only; omega) (by dsimp only; omega)
  have et := S.tops_no (fun h => by have := hQ2.2 (htop.1 h); rw [d1] at this; cases this)
  rw [← et]
  refine run ?_
  exact J.next ⟨p.n + 1, p.a, p.c⟩ ⟨rfl, trivial⟩ (by kernel_rfl) (by dsimp only; omega) (by dsimp only; omega)
 have hpn : p.n = g.m := by omega
 refine run ?_
 refine J.fact (.gown rgC 38 45 p.a (S.ofL g.ids g.ops (S.tops g.ids g.ops g.m p.n)).length p.c (S.ofL g.ids g.ops (S.tops g.ids g.ops g.m p.n))) (fun _ _ h => (gown_e h).1.capn) fun hcap => ?_
 exact J.finG (⟨p.a, _, p.c, S.ofL g.ids g.ops (S.tops g.ids g.ops g.m p.n)⟩, 0) rfl ⟨hcap, rfl, by rw [S.ofG_ok c1, hpn, S.tops_all hris hlen, hmn, hl], c1.symm⟩ (by repeat (first | exact List.nil_sublist _ | refine List.Sublist.cons_cons _ ?_ | refine List.Sublist.cons _ ?_))
instance : Ents Tryz.prog 13 := ⟨.mk Tryz.func13 (by kernel_rfl) rfl⟩
instance : Ents Tryz.prog 14 := ⟨.mk Tryz.func14 (by kernel_rfl) rfl⟩
instance : Ents Tryz.prog 15 := ⟨.mk Tryz.func15 (by kernel_rfl) rfl⟩
instance : Ents Tryz.prog 16 := ⟨.mk Tryz.func16 (by kernel_rfl) rfl⟩
instance : Ents Tryz.prog 17 := ⟨.mk Tryz.func17 (by kernel_rfl) rfl⟩
instance : Ents Tryz.prog 18 := ⟨.mk Tryz.func18 (by kernel_rfl) rfl⟩
theorem lwwSees {S0 : Nat → Prop} (g : GrA) (TK : TypeId) (w : World) (K0 : Kst w TK) (G : GrI S0 w g) :
  Calls Tryz.prog 3 #[.agg (grC g).toArray] w (Ret w fun v _ => v = .bool true) := by
 refine J.enter 34 Tryz.func3 rfl rfl ?_
 refine run ?_
 refine J.box rfl rfl rfl fun b1 => ?_
 refine run ?_
 refine J.call rfl rfl (fun w' M => refGreat g w' (G.ext M.ext)) fun q1 hq1 => ?_
 refine run ?_
 refine J.ifb rfl (fun c1 => ?_) (fun c1 => ?_)
 ·refine run ?_
  exact J.fin rfl
 have G := G.gr (hq1 c1)
 have hng := G.len
 refine run ?_
 refine J.call rfl rfl (fun w' M => refGTwin g w' (G.ext M.ext)) fun o1 ho1 => ?_
 dsimp only [grE, List.cons_append, List.nil_append]
 have hk1 := ho1.ok G.opz
 have hm1 : o1.m ≤ 70 ∧ o1.n ≤ 70 := by have := ho1.m; have := ho1.n; have := G.cap; omega
 refine run ?_
 refine J.alloc rfl fun b2 => ?_
 refine run ?_
 refine J.call rfl rfl (fun w' M => lwwOf o1 TK w' (K0.ext M.ext) (GrR.own hk1 ho1.cap hm1 w' M)) fun x hx => ?_
 rw [ho1.m, ho1.ids, ho1.ops] at hx
 refine run ?_
 refine J.alloc rfl fun b3 => ?_
 refine run ?_
 refine J.call rfl rfl (fun w' M => refROf g w' (G.ext M.ext)) fun y hy => ?_
 refine run ?_
 refine J.alloc rfl fun b4 => ?_
 refine run ?_
 have hxn : x.1.n ≤ 1000 := by
  have h1 := hx.2.1
  have h2 := hx.2.2.1
  rw [h2] at h1
  by_cases c : S.chkG g.m g.ids g.ops = 0
  ·rw [S.ofG_ok c] at h1
   have := S.ofL_range_len g.ids g.ops g.ops.length
   have := G.cap
   omega
  rw [S.ofG_bad c] at h1
  have h1 : x.1.n = 0 := h1
  omega
 refine J.callp rfl rfl (fun w' M => (RG.own' (a := x.1.a) w' M).elim fun _ k0 => (RG.own' (a := y.1.a) w' M).elim fun _ k1 => refRSame _ _ _ _ _ _ x.1.l y.1.l w' k0 k1 hxn) ?_
 refine run ?_
 refine J.spd rfl rfl rfl (fun _ => ?_) (fun c => absurd (hx.2.2.1.trans hy.2.2.1.symm) c)
 refine run ?_
 refine J.spe rfl rfl rfl (fun _ => ?_) (fun c => absurd (hx.2.2.2.trans hy.2.2.2.symm) c)
 refine run ?_
 refine J.callp rfl rfl (fun w' M => refGSame o1 g w' (GrR.own hk1 ho1.cap hm1 w' M) (G.ext M.ext)) ?_
 refine run ?_
 exact J.fin (congrArg _ (decide_eq_true ⟨ho1.ids, ho1.ops⟩))
end Go.Proofs.YtakbhjagiofbgaaGreatDoor.W
