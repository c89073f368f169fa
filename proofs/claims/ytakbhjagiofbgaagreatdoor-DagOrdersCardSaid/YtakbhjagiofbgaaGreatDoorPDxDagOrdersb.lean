/-
  Closed facts for this law.
-/
import Derived.Test.YtakbhjagiofbgaaGreatDoorPDxDagOrdersa
namespace Go.Proofs.YtakbhjagiofbgaaGreatDoor.L
open Go Go.Proofs.YtakbhjagiofbgaaGreatDoor Go.Proofs.YtakbhjagiofbgaaGreatDoor.G Go.Proofs.YtakbhjagiofbgaaGreatDoor.W
set_option maxRecDepth 100000
theorem dagOrders_f3 : (Rows.dagOrdersRow.recurses == Tryz.prog.recurses 7) = true := by kernel_rfl
theorem dagOrders_f4 : (Rows.dagOrdersRow.named == Tryz.prog.varsNamed 7) = true := by kernel_rfl
end Go.Proofs.YtakbhjagiofbgaaGreatDoor.L
