/-
  Part 12 of the lemmas of these laws: ShardPuts.
-/
import Derived.Test.YtkmgnmebadghbaaGreatDoorPSp11
set_option linter.unusedSimpArgs false
namespace Go.Proofs.YtkmgnmebadghbaaGreatDoor.L
open Go Go.Proofs.YtkmgnmebadghbaaGreatDoor Go.Proofs.YtkmgnmebadghbaaGreatDoor.G Go.Proofs.YtkmgnmebadghbaaGreatDoor.W
set_option maxRecDepth 100000
theorem shardPuts_f1 : (Rows.shardPutsRow.inPlace == Tryz.prog.inPlace 5) = true := by kernel_rfl
theorem shardPuts_f2 : (Rows.shardPutsRow.unfollowed == Tryz.prog.unfollowed 5) = true := by kernel_rfl
end Go.Proofs.YtkmgnmebadghbaaGreatDoor.L
