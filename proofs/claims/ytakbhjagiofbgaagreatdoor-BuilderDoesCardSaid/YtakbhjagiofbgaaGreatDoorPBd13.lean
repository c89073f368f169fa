/-
  Part 13 of the lemmas of these laws: BuilderDoes.
-/
import Derived.Test.YtakbhjagiofbgaaGreatDoorPBd12
set_option linter.unusedSimpArgs false
namespace Go.Proofs.YtakbhjagiofbgaaGreatDoor.L
open Go Go.Proofs.YtakbhjagiofbgaaGreatDoor Go.Proofs.YtakbhjagiofbgaaGreatDoor.G Go.Proofs.YtakbhjagiofbgaaGreatDoor.W
set_option maxRecDepth 100000
theorem builderDoes_f3 : (Rows.builderDoesRow.recurses == Tryz.prog.recurses 9) = true := by kernel_rfl
theorem builderDoes_f4 : (Rows.builderDoesRow.named == Tryz.prog.varsNamed 9) = true := by kernel_rfl
end Go.Proofs.YtakbhjagiofbgaaGreatDoor.L
