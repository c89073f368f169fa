/-
  Part 14 of the lemmas of these laws: ShardHeads.
-/
import Derived.Test.YtkmgnmebadghbaaGreatDoorPSh13
set_option linter.unusedVariables false
set_option linter.unusedSimpArgs false
open Go.Proofs.Tryz
namespace Go.Proofs.YtkmgnmebadghbaaGreatDoor
namespace L
open Go Go.Proofs.YtkmgnmebadghbaaGreatDoor G W
set_option maxRecDepth 100000
theorem shardHeads_f3:(Rows.shardHeadsRow.recurses==prog.recurses 6)=true:=by kernel_rfl
theorem shardHeads_f4:(Rows.shardHeadsRow.named==prog.varsNamed 6)=true:=by kernel_rfl
end L
end Go.Proofs.YtkmgnmebadghbaaGreatDoor
