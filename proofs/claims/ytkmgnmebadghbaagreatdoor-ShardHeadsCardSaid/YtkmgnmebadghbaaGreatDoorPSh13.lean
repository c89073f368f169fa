/-
  Part 13 of the lemmas of these laws: ShardHeads.
-/
import Derived.Test.YtkmgnmebadghbaaGreatDoorPSh12
set_option linter.unusedVariables false
set_option linter.unusedSimpArgs false
open Go.Proofs.Tryz
namespace Go.Proofs.YtkmgnmebadghbaaGreatDoor
namespace L
open Go Go.Proofs.YtkmgnmebadghbaaGreatDoor G W
set_option maxRecDepth 100000
theorem shardHeads_f1:(Rows.shardHeadsRow.inPlace==prog.inPlace 6)=true:=by kernel_rfl
theorem shardHeads_f2:(Rows.shardHeadsRow.unfollowed==prog.unfollowed 6)=true:=by kernel_rfl
end L
end Go.Proofs.YtkmgnmebadghbaaGreatDoor
