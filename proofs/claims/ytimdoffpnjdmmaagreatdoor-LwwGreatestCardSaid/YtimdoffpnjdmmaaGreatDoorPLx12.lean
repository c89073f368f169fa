/-
  Part 12 of the lemmas of these laws: LwwOrder, LwwGreatest.
-/
import Derived.Test.YtimdoffpnjdmmaaGreatDoorPLx11
set_option linter.unusedSimpArgs false
namespace Go.Proofs.YtimdoffpnjdmmaaGreatDoor.S
open G
set_option linter.unusedVariables false
theorem own_reg {ids : List Int} {ops : List OpV} {i : Nat} (h : ownS (ops.getD i OpV.zero) (idAt ids i)) (hl : (idAt ids i).length = 32) : regI ids ops i = opR (ops.getD i OpV.zero) := by
  rw [regI_eq hl]
  unfold opR
  have hc := verE_check h.1
  have e : idX (ops.getD i OpV.zero) = idAt ids i := by rw [← h.2]; exact if_pos hc
  generalize ops.getD i OpV.zero = o at *
  have hp := (idX_arr o).1
  revert hp hl
  rw [← e]
  intro _ _
  rfl
theorem reg_fine {ids : List Int} {ops : List OpV} {i : Nat} (h : ownS (ops.getD i OpV.zero) (idAt ids i)) (hl : (idAt ids i).length = 32) (hs : setI ops i) : (regI ids ops i).fine := by
  rw [own_reg h hl]
  exact opR_fine (verE_check h.1) hs
theorem app_step {ids : List Int} {ops : List OpV} {i : Nat} {l : List RgV} (hg : goodR l) (hl60 : l.length < 60) (h : ownS (ops.getD i OpV.zero) (idAt ids i)) (hl : (idAt ids i).length = 32) :
    appE l (ops.getD i OpV.zero) = 0 ∧ appL l (ops.getD i OpV.zero) = stepI ids ops l i := by
  have h1 := appE_ok (chkR_good.2 hg) (verE_check h.1) (fun hh => by omega)
  refine ⟨h1.1, ?_⟩
  rw [h1.2, ← own_reg h hl]
  rfl
open Classical in
theorem ofL_le {m : Nat} {ids : List Int} {ops : List OpV} {js : List Nat} (hr : Rising m ids) (hl : ids.length = 32 * m) (hj : ∀ j ∈ js, j < m) : (ofL ids ops js).length ≤ m := by
  have e : ofL ids ops js = ofL ids ops ((List.range m).filter fun j => decide (j ∈ js)) := ofL_same (one_rising hr hl hj) fun i => by
    simp only [List.mem_filter, List.mem_range, decide_eq_true_eq]
    exact ⟨fun h => ⟨hj i h, h⟩, fun h => h.2⟩
  rw [e]
  refine Nat.le_trans (ofL_len ..) (Nat.le_trans (List.length_filter_le _ _) ?_)
  rw [List.length_range]
  exact Nat.le_refl _
theorem ofL_goodG {m : Nat} {ids : List Int} {ops : List OpV} {js : List Nat} (hc : chkG m ids ops = 0) (hl : ids.length = 32 * m) (hj : ∀ j ∈ js, j < m) : goodR (ofL ids ops js) := by
  have hz := chkG_zero.1 hc
  refine ⟨Nat.le_trans (ofL_le hz.2.2.2.1 hl hj) (by omega), fun y hy => ?_, ofL_sort ..⟩
  obtain ⟨i, ht, rfl⟩ := (ofL_mem (one_rising hz.2.2.2.1 hl hj) y).1 hy
  have hi := hj i ht.1
  exact reg_fine (hz.2.2.1 i (by omega)) (idAt_len ids i m hl hi) ht.2.1
/-- What stands at a place of the registers of a graph. -/
theorem ofL_at {m : Nat} {ids : List Int} {ops : List OpV} (hr : Rising m ids) (hl : ids.length = 32 * m) {y : RgV} (hy : y ∈ ofL ids ops (List.range m)) : ∃ i, i < m ∧ setI ops i ∧ y = regI ids ops i ∧ atS m ids y.id = (i : Nat) := by
  obtain ⟨i, ht, rfl⟩ := (ofL_mem (one_range hr hl) y).1 hy
  have hi := List.mem_range.1 ht.1
  refine ⟨i, hi, ht.2.1, rfl, ?_⟩
  have e : (regI ids ops i).id = idAt ids i := by rw [regI_eq (idAt_len ids i m hl hi)]; rfl
  rw [e]
  unfold atS
  rw [if_pos ⟨i, hi, rfl⟩, ix_eq hr hi]
/-- What is found for a key that is set. -/
theorem ofL_key {m : Nat} {ids : List Int} {ops : List OpV} (hr : Rising m ids) (hl : ids.length = 32 * m) {i : Nat} (hi : i < m) (hs : setI ops i) : hasK (ofL ids ops (List.range m)) (regI ids ops i).key ∧ ¬ lateR (regI ids ops i).st (regI ids ops i).id (rg (ofL ids ops (List.range m)) (spK (ofL ids ops (List.range m)) (regI ids ops i).key)) := by
  have hh : hasK (ofL ids ops (List.range m)) (regI ids ops i).key := (ofL_has ..).2 ⟨i, List.mem_range.2 hi, hs, rfl⟩
  refine ⟨hh, ?_⟩
  have hp := (has_spK (ofL_sort ..)).1 hh
  obtain ⟨j, ht, e⟩ := (ofL_mem (one_range hr hl) _).1 (rg_mem hp.1)
  have hk : (regI ids ops i).key = (regI ids ops j).key := by rw [← e]; exact hp.2.symm
  have := ht.2.2 i (List.mem_range.2 hi) hs hk
  rwa [← e] at this
end Go.Proofs.YtimdoffpnjdmmaaGreatDoor.S
