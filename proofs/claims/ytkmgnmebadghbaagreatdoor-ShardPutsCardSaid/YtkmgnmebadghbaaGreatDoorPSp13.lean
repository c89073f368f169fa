/-
  Part 13 of the lemmas of these laws: ShardPuts.
-/
import Derived.Test.YtkmgnmebadghbaaGreatDoorPSp12
set_option linter.unusedSimpArgs false
namespace Go.Proofs.YtkmgnmebadghbaaGreatDoor.L
open Go Go.Proofs.YtkmgnmebadghbaaGreatDoor Go.Proofs.YtkmgnmebadghbaaGreatDoor.G Go.Proofs.YtkmgnmebadghbaaGreatDoor.W
set_option maxRecDepth 100000
theorem shardPuts_f3 : (Rows.shardPutsRow.recurses == Tryz.prog.recurses 5) = true := by kernel_rfl
theorem shardPuts_f4 : (Rows.shardPutsRow.named == Tryz.prog.varsNamed 5) = true := by kernel_rfl
end Go.Proofs.YtkmgnmebadghbaaGreatDoor.L
