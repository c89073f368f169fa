/-
  Part 6 of the lemmas of these laws: ShardNames.
-/
import Derived.Test.YtkibkhgcbepolaaGreatDoorPSn5
set_option linter.unusedVariables false
set_option linter.unusedSimpArgs false
open Go.Proofs.Tryz
namespace Go.Proofs.YtkibkhgcbepolaaGreatDoor
namespace L
open Go Go.Proofs.YtkibkhgcbepolaaGreatDoor G W
open Go.ChangeShapes Go.WideShapes Go.ChangeAt Go.RowKit
set_option maxRecDepth 100000
theorem shardNames_c1:OpenClaim.wfByText (OpenSpec.ofChange Rows.shardNamesSpec) Rows.shardNamesRow=true:=by kernel_rfl
theorem shardNames_c2:Tryz.pinned.checked.prog.mainIs=some ((true, "80697c5a864b28f4e8d318d7c2bc416807c3696c6fd9433de8548c8d3cf80fcb").fst,(true, "80697c5a864b28f4e8d318d7c2bc416807c3696c6fd9433de8548c8d3cf80fcb").snd.toList):=by kernel_rfl
theorem shardNames_c4:prog.funcNamed "braid/braidlaw11.ShardNames" =some 10:=by kernel_rfl
theorem shardNames_c5:false=Tryz.pinned.checked.prog.looks []:=by kernel_rfl
theorem shardNames_c3:false=Rows.shardNamesRow.goesBy Tryz.pinned.checked.prog:=by kernel_rfl
end L
end Go.Proofs.YtkibkhgcbepolaaGreatDoor
