/-
  Part 13 of the lemmas of these laws: ShardSplit.
-/
import Derived.Test.YtkmgnmebadghbaaGreatDoorPSx12
set_option linter.unusedVariables false
set_option linter.unusedSimpArgs false
open Go.Proofs.Tryz
namespace Go.Proofs.YtkmgnmebadghbaaGreatDoor
namespace L
open Go Go.Proofs.YtkmgnmebadghbaaGreatDoor G W
set_option maxRecDepth 100000
theorem shardSplit_f1:(Rows.shardSplitRow.inPlace==prog.inPlace 7)=true:=by kernel_rfl
theorem shardSplit_f2:(Rows.shardSplitRow.unfollowed==prog.unfollowed 7)=true:=by kernel_rfl
end L
end Go.Proofs.YtkmgnmebadghbaaGreatDoor
