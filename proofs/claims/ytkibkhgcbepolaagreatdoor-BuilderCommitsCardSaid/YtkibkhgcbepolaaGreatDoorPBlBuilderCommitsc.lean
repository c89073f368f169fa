/-
  Closed facts for this law.
-/
import Derived.Test.YtkibkhgcbepolaaGreatDoorPBlBuilderCommitsb
namespace Go.Proofs.YtkibkhgcbepolaaGreatDoor.L
open Go Go.Proofs.YtkibkhgcbepolaaGreatDoor Go.Proofs.YtkibkhgcbepolaaGreatDoor.G Go.Proofs.YtkibkhgcbepolaaGreatDoor.W
open Go.ChangeShapes Go.WideShapes Go.ChangeAt Go.RowKit
set_option maxRecDepth 100000
theorem builderCommits_c1:OpenClaim.wfByText (OpenSpec.ofChange Rows.builderCommitsSpec) Rows.builderCommitsRow=true:=by kernel_rfl
theorem builderCommits_c2:Tryz.pinned.checked.prog.mainIs=some ((true, "80697c5a864b28f4e8d318d7c2bc416807c3696c6fd9433de8548c8d3cf80fcb").fst,(true, "80697c5a864b28f4e8d318d7c2bc416807c3696c6fd9433de8548c8d3cf80fcb").snd.toList):=by kernel_rfl
theorem builderCommits_c4:Tryz.prog.funcNamed "braid/braidlaw24.BuilderCommits" =some 5:=by kernel_rfl
theorem builderCommits_c5:false=Tryz.pinned.checked.prog.looks []:=by kernel_rfl
theorem builderCommits_c3:false=Rows.builderCommitsRow.goesBy Tryz.pinned.checked.prog:=by kernel_rfl
end Go.Proofs.YtkibkhgcbepolaaGreatDoor.L
