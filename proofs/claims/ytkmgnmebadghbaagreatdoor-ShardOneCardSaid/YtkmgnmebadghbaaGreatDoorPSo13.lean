/-
  Part 13 of the lemmas of these laws: ShardOne.
-/
import Derived.Test.YtkmgnmebadghbaaGreatDoorPSo12
set_option linter.unusedVariables false
set_option linter.unusedSimpArgs false
open Go.Proofs.Tryz
namespace Go.Proofs.YtkmgnmebadghbaaGreatDoor
namespace L
open Go Go.Proofs.YtkmgnmebadghbaaGreatDoor G W
set_option maxRecDepth 100000
theorem shardOne_f1:(Rows.shardOneRow.inPlace==prog.inPlace 9)=true:=by kernel_rfl
theorem shardOne_f2:(Rows.shardOneRow.unfollowed==prog.unfollowed 9)=true:=by kernel_rfl
end L
end Go.Proofs.YtkmgnmebadghbaaGreatDoor
