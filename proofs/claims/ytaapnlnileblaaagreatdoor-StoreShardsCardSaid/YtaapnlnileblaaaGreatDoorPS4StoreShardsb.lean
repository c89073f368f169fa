/-
  Closed facts for this law.
-/
import Derived.Test.YtaapnlnileblaaaGreatDoorPS4StoreShardsa
namespace Go.Proofs.YtaapnlnileblaaaGreatDoor.L
open Go Go.Proofs.YtaapnlnileblaaaGreatDoor Go.Proofs.YtaapnlnileblaaaGreatDoor.G Go.Proofs.YtaapnlnileblaaaGreatDoor.W
set_option maxRecDepth 100000
theorem storeShards_f3:(Rows.storeShardsRow.recurses==Tryz.prog.recurses 7)=true:=by kernel_rfl
theorem storeShards_f4:(Rows.storeShardsRow.named==Tryz.prog.varsNamed 7)=true:=by kernel_rfl
end Go.Proofs.YtaapnlnileblaaaGreatDoor.L
