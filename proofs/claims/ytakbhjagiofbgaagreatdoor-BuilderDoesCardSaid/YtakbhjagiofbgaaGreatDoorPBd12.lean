/-
  Part 12 of the lemmas of these laws: BuilderDoes.
-/
import Derived.Test.YtakbhjagiofbgaaGreatDoorPBd11
set_option linter.unusedSimpArgs false
namespace Go.Proofs.YtakbhjagiofbgaaGreatDoor.L
open Go Go.Proofs.YtakbhjagiofbgaaGreatDoor Go.Proofs.YtakbhjagiofbgaaGreatDoor.G Go.Proofs.YtakbhjagiofbgaaGreatDoor.W
set_option maxRecDepth 100000
theorem builderDoes_f1 : (Rows.builderDoesRow.inPlace == Tryz.prog.inPlace 9) = true := by kernel_rfl
theorem builderDoes_f2 : (Rows.builderDoesRow.unfollowed == Tryz.prog.unfollowed 9) = true := by kernel_rfl
end Go.Proofs.YtakbhjagiofbgaaGreatDoor.L
