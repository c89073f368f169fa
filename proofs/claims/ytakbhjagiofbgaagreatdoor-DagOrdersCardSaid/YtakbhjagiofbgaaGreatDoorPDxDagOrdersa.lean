/-
  Closed facts for this law.
-/
import Derived.Test.YtakbhjagiofbgaaGreatDoorPDx12
namespace Go.Proofs.YtakbhjagiofbgaaGreatDoor.L
open Go Go.Proofs.YtakbhjagiofbgaaGreatDoor Go.Proofs.YtakbhjagiofbgaaGreatDoor.G Go.Proofs.YtakbhjagiofbgaaGreatDoor.W
set_option maxRecDepth 100000
theorem dagOrders_f1 : (Rows.dagOrdersRow.inPlace == Tryz.prog.inPlace 7) = true := by kernel_rfl
theorem dagOrders_f2 : (Rows.dagOrdersRow.unfollowed == Tryz.prog.unfollowed 7) = true := by kernel_rfl
end Go.Proofs.YtakbhjagiofbgaaGreatDoor.L
