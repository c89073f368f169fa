/-
  Closed facts for this law.
-/
import Derived.Test.YtaapnlnileblaaaGreatDoorPS413
namespace Go.Proofs.YtaapnlnileblaaaGreatDoor.L
open Go Go.Proofs.YtaapnlnileblaaaGreatDoor Go.Proofs.YtaapnlnileblaaaGreatDoor.G Go.Proofs.YtaapnlnileblaaaGreatDoor.W
set_option maxRecDepth 100000
theorem storeMissing_f1:(Rows.storeMissingRow.inPlace==Tryz.prog.inPlace 9)=true:=by kernel_rfl
theorem storeMissing_f2:(Rows.storeMissingRow.unfollowed==Tryz.prog.unfollowed 9)=true:=by kernel_rfl
end Go.Proofs.YtaapnlnileblaaaGreatDoor.L
