/-
  Part 14 of the lemmas of these laws: ShardOne.
-/
import Derived.Test.YtkmgnmebadghbaaGreatDoorPSo13
set_option linter.unusedVariables false
set_option linter.unusedSimpArgs false
open Go.Proofs.Tryz
namespace Go.Proofs.YtkmgnmebadghbaaGreatDoor
namespace L
open Go Go.Proofs.YtkmgnmebadghbaaGreatDoor G W
set_option maxRecDepth 100000
theorem shardOne_f3:(Rows.shardOneRow.recurses==prog.recurses 9)=true:=by kernel_rfl
theorem shardOne_f4:(Rows.shardOneRow.named==prog.varsNamed 9)=true:=by kernel_rfl
end L
end Go.Proofs.YtkmgnmebadghbaaGreatDoor
