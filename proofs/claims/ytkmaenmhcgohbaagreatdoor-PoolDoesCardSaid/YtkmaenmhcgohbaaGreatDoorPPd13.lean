/-
  Part 13 of the lemmas of these laws: PoolDoes.
-/
import Derived.Test.YtkmaenmhcgohbaaGreatDoorPPd12
set_option linter.unusedSimpArgs false
namespace Go.Proofs.YtkmaenmhcgohbaaGreatDoor.L
open Go Go.Proofs.YtkmaenmhcgohbaaGreatDoor Go.Proofs.YtkmaenmhcgohbaaGreatDoor.G Go.Proofs.YtkmaenmhcgohbaaGreatDoor.W
set_option maxRecDepth 100000
theorem poolDoes_f3 : (Rows.poolDoesRow.recurses == Tryz.prog.recurses 9) = true := by kernel_rfl
theorem poolDoes_f4 : (Rows.poolDoesRow.named == Tryz.prog.varsNamed 9) = true := by kernel_rfl
end Go.Proofs.YtkmaenmhcgohbaaGreatDoor.L
