/-
  Part 12 of the lemmas of these laws: DagUnion.
-/
import Derived.Test.YtakbhjagiofbgaaGreatDoorPDv11
set_option linter.unusedSimpArgs false
namespace Go.Proofs.YtakbhjagiofbgaaGreatDoor.L
open Go Go.Proofs.YtakbhjagiofbgaaGreatDoor Go.Proofs.YtakbhjagiofbgaaGreatDoor.G Go.Proofs.YtakbhjagiofbgaaGreatDoor.W
set_option maxRecDepth 100000
theorem dagUnion_f1 : (Rows.dagUnionRow.inPlace == Tryz.prog.inPlace 8) = true := by kernel_rfl
theorem dagUnion_f2 : (Rows.dagUnionRow.unfollowed == Tryz.prog.unfollowed 8) = true := by kernel_rfl
end Go.Proofs.YtakbhjagiofbgaaGreatDoor.L
