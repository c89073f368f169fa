/-
  Part 12 of the lemmas of these laws: ShardFinds.
-/
import Derived.Test.YtkmgnmebadghbaaGreatDoorPSf11
set_option linter.unusedSimpArgs false
namespace Go.Proofs.YtkmgnmebadghbaaGreatDoor.L
open Go Go.Proofs.YtkmgnmebadghbaaGreatDoor Go.Proofs.YtkmgnmebadghbaaGreatDoor.G Go.Proofs.YtkmgnmebadghbaaGreatDoor.W
set_option maxRecDepth 100000
theorem shardFinds_f1 : (Rows.shardFindsRow.inPlace == Tryz.prog.inPlace 3) = true := by kernel_rfl
theorem shardFinds_f2 : (Rows.shardFindsRow.unfollowed == Tryz.prog.unfollowed 3) = true := by kernel_rfl
end Go.Proofs.YtkmgnmebadghbaaGreatDoor.L
