/-
  Closed facts for this law.
-/
import Derived.Test.YtaapnlnileblaaaGreatDoorPS413
namespace Go.Proofs.YtaapnlnileblaaaGreatDoor.L
open Go Go.Proofs.YtaapnlnileblaaaGreatDoor Go.Proofs.YtaapnlnileblaaaGreatDoor.G Go.Proofs.YtaapnlnileblaaaGreatDoor.W
set_option maxRecDepth 100000
theorem storeFirst_f1:(Rows.storeFirstRow.inPlace==Tryz.prog.inPlace 6)=true:=by kernel_rfl
theorem storeFirst_f2:(Rows.storeFirstRow.unfollowed==Tryz.prog.unfollowed 6)=true:=by kernel_rfl
end Go.Proofs.YtaapnlnileblaaaGreatDoor.L
