/-
  Part 5 of the lemmas of these laws: ShardNames.
-/
import Derived.Test.YtkibkhgcbepolaaGreatDoorPSn4
set_option linter.unusedVariables false
set_option linter.unusedSimpArgs false
open Go.Proofs.Tryz
namespace Go.Proofs.YtkibkhgcbepolaaGreatDoor
namespace L
open Go Go.Proofs.YtkibkhgcbepolaaGreatDoor G W
set_option maxRecDepth 100000
theorem shardNames_f3:(Rows.shardNamesRow.recurses==prog.recurses 10)=true:=by kernel_rfl
theorem shardNames_f4:(Rows.shardNamesRow.named==prog.varsNamed 10)=true:=by kernel_rfl
end L
end Go.Proofs.YtkibkhgcbepolaaGreatDoor
