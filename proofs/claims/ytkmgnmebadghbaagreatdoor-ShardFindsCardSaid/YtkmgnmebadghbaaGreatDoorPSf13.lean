/-
  Part 13 of the lemmas of these laws: ShardFinds.
-/
import Derived.Test.YtkmgnmebadghbaaGreatDoorPSf12
set_option linter.unusedSimpArgs false
namespace Go.Proofs.YtkmgnmebadghbaaGreatDoor.L
open Go Go.Proofs.YtkmgnmebadghbaaGreatDoor Go.Proofs.YtkmgnmebadghbaaGreatDoor.G Go.Proofs.YtkmgnmebadghbaaGreatDoor.W
set_option maxRecDepth 100000
theorem shardFinds_f3 : (Rows.shardFindsRow.recurses == Tryz.prog.recurses 3) = true := by kernel_rfl
theorem shardFinds_f4 : (Rows.shardFindsRow.named == Tryz.prog.varsNamed 3) = true := by kernel_rfl
end Go.Proofs.YtkmgnmebadghbaaGreatDoor.L
