/-
  Closed facts for this law.
-/
import Derived.Test.YtakbhjagiofbgaaGreatDoorPDxDagCloseda
namespace Go.Proofs.YtakbhjagiofbgaaGreatDoor.L
open Go Go.Proofs.YtakbhjagiofbgaaGreatDoor Go.Proofs.YtakbhjagiofbgaaGreatDoor.G Go.Proofs.YtakbhjagiofbgaaGreatDoor.W
set_option maxRecDepth 100000
theorem dagClosed_f3 : (Rows.dagClosedRow.recurses == Tryz.prog.recurses 5) = true := by kernel_rfl
theorem dagClosed_f4 : (Rows.dagClosedRow.named == Tryz.prog.varsNamed 5) = true := by kernel_rfl
end Go.Proofs.YtakbhjagiofbgaaGreatDoor.L
