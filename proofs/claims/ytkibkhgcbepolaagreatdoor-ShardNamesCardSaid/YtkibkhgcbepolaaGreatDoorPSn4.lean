/-
  Part 4 of the lemmas of these laws: ShardNames.
-/
import Derived.Test.YtkibkhgcbepolaaGreatDoorPSn3
set_option linter.unusedVariables false
set_option linter.unusedSimpArgs false
open Go.Proofs.Tryz
namespace Go.Proofs.YtkibkhgcbepolaaGreatDoor
namespace L
open Go Go.Proofs.YtkibkhgcbepolaaGreatDoor G W
set_option maxRecDepth 100000
theorem shardNames_f1:(Rows.shardNamesRow.inPlace==prog.inPlace 10)=true:=by kernel_rfl
theorem shardNames_f2:(Rows.shardNamesRow.unfollowed==prog.unfollowed 10)=true:=by kernel_rfl
end L
end Go.Proofs.YtkibkhgcbepolaaGreatDoor
