/-
  Closed facts for this law.
-/
import Derived.Test.YtaapnlnileblaaaGreatDoorPSfStoreFindsa
namespace Go.Proofs.YtaapnlnileblaaaGreatDoor.L
open Go Go.Proofs.YtaapnlnileblaaaGreatDoor Go.Proofs.YtaapnlnileblaaaGreatDoor.G Go.Proofs.YtaapnlnileblaaaGreatDoor.W
set_option maxRecDepth 100000
theorem storeFinds_f3:(Rows.storeFindsRow.recurses==Tryz.prog.recurses 3)=true:=by kernel_rfl
theorem storeFinds_f4:(Rows.storeFindsRow.named==Tryz.prog.varsNamed 3)=true:=by kernel_rfl
end Go.Proofs.YtaapnlnileblaaaGreatDoor.L
