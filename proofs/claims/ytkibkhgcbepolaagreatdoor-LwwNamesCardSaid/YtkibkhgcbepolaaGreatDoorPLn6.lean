/-
  Part 6 of the lemmas of these laws: LwwNames.
-/
import Derived.Test.YtkibkhgcbepolaaGreatDoorPLn5
set_option linter.unusedVariables false
set_option linter.unusedSimpArgs false
open Go.Proofs.Tryz
namespace Go.Proofs.YtkibkhgcbepolaaGreatDoor
namespace L
open Go Go.Proofs.YtkibkhgcbepolaaGreatDoor G W
open Go.ChangeShapes Go.WideShapes Go.ChangeAt Go.RowKit
set_option maxRecDepth 100000
theorem lwwNames_c1:OpenClaim.wfByText (OpenSpec.ofChange Rows.lwwNamesSpec) Rows.lwwNamesRow=true:=by kernel_rfl
theorem lwwNames_c2:Tryz.pinned.checked.prog.mainIs=some ((true, "80697c5a864b28f4e8d318d7c2bc416807c3696c6fd9433de8548c8d3cf80fcb").fst,(true, "80697c5a864b28f4e8d318d7c2bc416807c3696c6fd9433de8548c8d3cf80fcb").snd.toList):=by kernel_rfl
theorem lwwNames_c4:prog.funcNamed "braid/braidlaw22.LwwNames" =some 9:=by kernel_rfl
theorem lwwNames_c5:false=Tryz.pinned.checked.prog.looks []:=by kernel_rfl
theorem lwwNames_c3:false=Rows.lwwNamesRow.goesBy Tryz.pinned.checked.prog:=by kernel_rfl
end L
end Go.Proofs.YtkibkhgcbepolaaGreatDoor
