/-
  Closed facts for this law.
-/
import Derived.Test.YtaapnlnileblaaaGreatDoorPS4StoreFirsta
namespace Go.Proofs.YtaapnlnileblaaaGreatDoor.L
open Go Go.Proofs.YtaapnlnileblaaaGreatDoor Go.Proofs.YtaapnlnileblaaaGreatDoor.G Go.Proofs.YtaapnlnileblaaaGreatDoor.W
set_option maxRecDepth 100000
theorem storeFirst_f3:(Rows.storeFirstRow.recurses==Tryz.prog.recurses 6)=true:=by kernel_rfl
theorem storeFirst_f4:(Rows.storeFirstRow.named==Tryz.prog.varsNamed 6)=true:=by kernel_rfl
end Go.Proofs.YtaapnlnileblaaaGreatDoor.L
