/-
  Part 12 of the lemmas of these laws: PoolDoes.
-/
import Derived.Test.YtkmaenmhcgohbaaGreatDoorPPd11
set_option linter.unusedSimpArgs false
namespace Go.Proofs.YtkmaenmhcgohbaaGreatDoor.L
open Go Go.Proofs.YtkmaenmhcgohbaaGreatDoor Go.Proofs.YtkmaenmhcgohbaaGreatDoor.G Go.Proofs.YtkmaenmhcgohbaaGreatDoor.W
set_option maxRecDepth 100000
theorem poolDoes_f1 : (Rows.poolDoesRow.inPlace == Tryz.prog.inPlace 9) = true := by kernel_rfl
theorem poolDoes_f2 : (Rows.poolDoesRow.unfollowed == Tryz.prog.unfollowed 9) = true := by kernel_rfl
end Go.Proofs.YtkmaenmhcgohbaaGreatDoor.L
