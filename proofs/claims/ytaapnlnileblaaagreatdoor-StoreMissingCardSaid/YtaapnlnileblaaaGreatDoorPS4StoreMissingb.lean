/-
  Closed facts for this law.
-/
import Derived.Test.YtaapnlnileblaaaGreatDoorPS4StoreMissinga
namespace Go.Proofs.YtaapnlnileblaaaGreatDoor.L
open Go Go.Proofs.YtaapnlnileblaaaGreatDoor Go.Proofs.YtaapnlnileblaaaGreatDoor.G Go.Proofs.YtaapnlnileblaaaGreatDoor.W
set_option maxRecDepth 100000
theorem storeMissing_f3:(Rows.storeMissingRow.recurses==Tryz.prog.recurses 9)=true:=by kernel_rfl
theorem storeMissing_f4:(Rows.storeMissingRow.named==Tryz.prog.varsNamed 9)=true:=by kernel_rfl
end Go.Proofs.YtaapnlnileblaaaGreatDoor.L
