/-
  Closed facts for this law.
-/
import Derived.Test.YtaapnlnileblaaaGreatDoorPS413
namespace Go.Proofs.YtaapnlnileblaaaGreatDoor.L
open Go Go.Proofs.YtaapnlnileblaaaGreatDoor Go.Proofs.YtaapnlnileblaaaGreatDoor.G Go.Proofs.YtaapnlnileblaaaGreatDoor.W
set_option maxRecDepth 100000
theorem storeShards_f1:(Rows.storeShardsRow.inPlace==Tryz.prog.inPlace 7)=true:=by kernel_rfl
theorem storeShards_f2:(Rows.storeShardsRow.unfollowed==Tryz.prog.unfollowed 7)=true:=by kernel_rfl
end Go.Proofs.YtaapnlnileblaaaGreatDoor.L
