/-
  Closed facts for this law.
-/
import Derived.Test.YtakbhjagiofbgaaGreatDoorPDx12
namespace Go.Proofs.YtakbhjagiofbgaaGreatDoor.L
open Go Go.Proofs.YtakbhjagiofbgaaGreatDoor Go.Proofs.YtakbhjagiofbgaaGreatDoor.G Go.Proofs.YtakbhjagiofbgaaGreatDoor.W
set_option maxRecDepth 100000
theorem dagClosed_f1 : (Rows.dagClosedRow.inPlace == Tryz.prog.inPlace 5) = true := by kernel_rfl
theorem dagClosed_f2 : (Rows.dagClosedRow.unfollowed == Tryz.prog.unfollowed 5) = true := by kernel_rfl
end Go.Proofs.YtakbhjagiofbgaaGreatDoor.L
