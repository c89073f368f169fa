/-
  Part 11 of the lemmas of these laws: TopDag.
-/
import Derived.Test.YtjjbdaiioociaaaGreatDoorPTd10
set_option linter.unusedVariables false
set_option linter.unusedSimpArgs false
open Go.Proofs.Tryz
namespace Go.Proofs.YtjjbdaiioociaaaGreatDoor
namespace L
open Go Go.Proofs.YtjjbdaiioociaaaGreatDoor G W
open Go.ChangeShapes Go.WideShapes Go.ChangeAt Go.RowKit
set_option maxRecDepth 100000
theorem topDag_c1:OpenClaim.wfByText (OpenSpec.ofChange Rows.topDagSpec) Rows.topDagRow=true:=by kernel_rfl
theorem topDag_c2:Tryz.pinned.checked.prog.mainIs=some ((true, "d780024759582f4c21eebe46363cb9e1abbcb493ebc94a25406c496a11db6cb1").fst,(true, "d780024759582f4c21eebe46363cb9e1abbcb493ebc94a25406c496a11db6cb1").snd.toList):=by kernel_rfl
theorem topDag_c4:prog.funcNamed "braid/braidtop.TopDag" =some 4:=by kernel_rfl
theorem topDag_c5:false=Tryz.pinned.checked.prog.looks []:=by kernel_rfl
theorem topDag_c3:false=Rows.topDagRow.goesBy Tryz.pinned.checked.prog:=by kernel_rfl
end L
end Go.Proofs.YtjjbdaiioociaaaGreatDoor
