/-
  LwwSees: Of returns what the reference returns, and leaves the graph as it is. Condition: the table digest.constants is as its initialiser lays it (tied by the card).
-/
import Derived.Test.YtakbhjagiofbgaaGreatDoorPLs11
namespace Go.Proofs.YtakbhjagiofbgaaGreatDoor.L
open Go Go.Proofs.YtakbhjagiofbgaaGreatDoor Go.Proofs.YtakbhjagiofbgaaGreatDoor.G Go.Proofs.YtakbhjagiofbgaaGreatDoor.W
open Go.ChangeShapes Go.WideShapes Go.ChangeAt Go.RowKit
set_option linter.unusedVariables false
set_option maxRecDepth 100000
theorem lwwSees_door (os : Os) (args : Array Value) : laidMetH Tryz.prog [("braid/digest.constants", Rows.laid_braid_digest_constants)] ((World.doorLaid Tryz.prog 400 os).forCall (fun _ _ => 0) ⟨#[], args, []⟩).memory :=
  laidMetH_of_parts3 (fuel := 8) (laidMet_of_run' 8 (by kernel_rfl) (by kernel_rfl)) (by kernel_rfl) (by kernel_rfl)
theorem lwwSees_lifted (os : Os) (started : os.Started) (H : Type) (enc : TypeId × Value → H) :
    ReturnsInHanded {} Tryz.checked os 3 .any (fun w args => (Rows.lwwSeesSpec.pre enc Tryz.prog Tryz.f3 [] false w args ∧ laidMetH Tryz.prog [("braid/digest.constants", Rows.laid_braid_digest_constants)] w) ∧ sizedMet enc Tryz.prog Tryz.f3 (OpenSpec.ofChange Rows.lwwSeesSpec) false w args)
      (Rows.lwwSeesSpec.post enc Tryz.prog Tryz.f3 false true false false) := by
  refine returnsInHanded_of_change_and (C := Tryz.checked) (X := fun w _ => laidMetH Tryz.prog [("braid/digest.constants", Rows.laid_braid_digest_constants)] w) (fun _ _ _ hh h => h.of_heap hh) own started (by kernel_rfl) Tryz.func3
    (ChangeSpec.witness_shaped (enc := enc) (C := Tryz.checked) (os := os) (X := fun w _ => laidMetH Tryz.prog [("braid/digest.constants", Rows.laid_braid_digest_constants)] w) false (World.doorLaid Tryz.prog 400 os) #[.agg #[.slice none 0 0, .slice none 0 0]] 8 rfl (World.shaped_of_RefB (by kernel_rfl) (by kernel_rfl)) (by kernel_rfl) (by kernel_rfl) (by kernel_rfl) (lwwSees_door os _)) ?_
  intro W base args ds gs before hval0 hW _ _ hL _
  have hval : ∀ (j : Nat) t v, Tryz.f3.params[j]? = some t → args[j]? = some v → Value.okWide Tryz.prog W .any base t v := hval0
  have hW' := hW
  obtain ⟨p, q, hA0, hV, rfl, hfz, hnd⟩ := hW
  have hA : DataW.TrodAll enc Tryz.prog W 0 (fun _ => true) true Tryz.f3.params.toList args.toList ds p := hA0
  rw [Tryz.params3] at hA hval
  obtain ⟨v0, vs0, d0, ds0, p0, q0, hargs, rfl, rfl, h0, r0⟩ := trodAll_cons hA
  obtain ⟨rfl, rfl, rfl⟩ := trodAll_nil r0
  obtain rfl : args = #[v0] := by cases args; simp_all
  obtain ⟨rfl, rfl⟩ := trodVars_none hV
  obtain ⟨cs0, rfl, _⟩ := okWide_struct Tryz.underlying25 (hval 0 25 v0 rfl rfl)
  have k0 := h0
  have lt0 : ∀ x ∈ p0, x.block < W.heap.size := by obtain ⟨m, hm⟩ := k0; exact DataW.trod_lt m _ _ _ hm
  obtain ⟨fuel0, hf0⟩ := h0
  obtain ⟨g0, hcs0, hG0⟩ := graph_in hf0
  have hv0 : (Value.agg cs0) = .agg (grC g0).toArray := by
    congr 1
    apply Array.ext'
    exact hcs0
  have K0 := of_laid hL
  clear hA0 hval0
  have hwalk := lwwSees g0 0 W K0 hG0
  rw [← hv0] at hwalk
  refine hwalk.mono fun e W' hret => ?_
  obtain ⟨v, rfl, bel, rfl⟩ := hret
  exact ⟨_, rfl, _, _, _, [], _, [], hW', trodAll_mk1 (shut_bool Tryz.underlying4 _), (trodAll_cons_mk (Below.trod laidOut (by kernel_rfl) (of_decide_eq_true (by kernel_rfl)) k0 bel lt0) trodAll_mk0), rfl, bel.frame _, fun h => by cases h⟩
theorem lwwSees_f1 : (Rows.lwwSeesRow.inPlace == Tryz.prog.inPlace 3) = true := by kernel_rfl
theorem lwwSees_f2 : (Rows.lwwSeesRow.unfollowed == Tryz.prog.unfollowed 3) = true := by kernel_rfl
theorem lwwSees_f3 : (Rows.lwwSeesRow.recurses == Tryz.prog.recurses 3) = true := by kernel_rfl
theorem lwwSees_f4 : (Rows.lwwSeesRow.named == Tryz.prog.varsNamed 3) = true := by kernel_rfl
theorem lwwSees_closed : joinedFacts Tryz.prog 3 Tryz.f3 Rows.lwwSeesSpec Rows.lwwSeesRow = true := by
  unfold joinedFacts
  rw [lwwSees_f1, lwwSees_f2, lwwSees_f3, lwwSees_f4]
  kernel_rfl
theorem lwwSees_holds : Rows.LwwSeesSaid :=
  OpenClaim.holds_of_wide 3 Tryz.f3 rfl rfl rfl rfl rfl rfl rfl ⟨rfl, rfl, rfl, rfl, rfl⟩ rfl rfl rfl rfl rfl (by kernel_rfl) Tryz.func3 lwwSees_closed
    (of_decide_eq_true (by kernel_rfl)) (by unfold Func.isWrapper; first | (rw [if_pos (by decide +kernel)]; kernel_rfl) | (rw [if_neg (by decide +kernel)]; exact ⟨rfl, rfl⟩))
    (fun os started H enc _ => lwwSees_lifted os started H enc)
theorem lwwSees_card : Rows.LwwSeesCardSaid :=
  Claim7.holds_tied_plain_at .later [] [.data] true (true, "ce7f95693885aeedf13d7a480699d4088ff108c22b3656e8c28c17dc6f60b1c2") false
    lwwSees_holds (fun _ h => by cases h) (by kernel_rfl) (fun _ h => by cases h) lwwSees_row_tie rfl ⟨rfl, rfl⟩ (by kernel_rfl) rfl
    (fun f fn hf hfn => by
      obtain rfl : f = 3 := Option.some.inj ((show Tryz.prog.funcNamed "braid/braidlaw22.LwwSees" = some 3 by kernel_rfl).symm.trans hf) |>.symm
      obtain rfl : fn = Tryz.f3 := (Option.some.inj (Tryz.func3.symm.trans hfn)).symm
      exact ⟨by kernel_rfl, fun j t ht => by
        rw [Tryz.params3] at ht
        have hm : t ∈ [25] := by simpa using Array.mem_of_getElem? ht
        have hall : ([25].all fun u => !Tryz.prog.wantsStandIn u) = true := by kernel_rfl
        exact (show Tryz.prog.wantsStandIn t = false by simpa using List.all_eq_true.1 hall t hm)⟩)
    (by kernel_rfl)
end Go.Proofs.YtakbhjagiofbgaaGreatDoor.L
