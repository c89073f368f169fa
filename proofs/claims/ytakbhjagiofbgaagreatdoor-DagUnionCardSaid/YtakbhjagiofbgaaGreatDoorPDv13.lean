/-
  Part 13 of the lemmas of these laws: DagUnion.
-/
import Derived.Test.YtakbhjagiofbgaaGreatDoorPDv12
set_option linter.unusedSimpArgs false
namespace Go.Proofs.YtakbhjagiofbgaaGreatDoor.L
open Go Go.Proofs.YtakbhjagiofbgaaGreatDoor Go.Proofs.YtakbhjagiofbgaaGreatDoor.G Go.Proofs.YtakbhjagiofbgaaGreatDoor.W
set_option maxRecDepth 100000
theorem dagUnion_f3 : (Rows.dagUnionRow.recurses == Tryz.prog.recurses 8) = true := by kernel_rfl
theorem dagUnion_f4 : (Rows.dagUnionRow.named == Tryz.prog.varsNamed 8) = true := by kernel_rfl
end Go.Proofs.YtakbhjagiofbgaaGreatDoor.L
