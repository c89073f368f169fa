/-
  Part 14 of the lemmas of these laws: ShardSplit.
-/
import Derived.Test.YtkmgnmebadghbaaGreatDoorPSx13
set_option linter.unusedVariables false
set_option linter.unusedSimpArgs false
open Go.Proofs.Tryz
namespace Go.Proofs.YtkmgnmebadghbaaGreatDoor
namespace L
open Go Go.Proofs.YtkmgnmebadghbaaGreatDoor G W
set_option maxRecDepth 100000
theorem shardSplit_f3:(Rows.shardSplitRow.recurses==prog.recurses 7)=true:=by kernel_rfl
theorem shardSplit_f4:(Rows.shardSplitRow.named==prog.varsNamed 7)=true:=by kernel_rfl
end L
end Go.Proofs.YtkmgnmebadghbaaGreatDoor
