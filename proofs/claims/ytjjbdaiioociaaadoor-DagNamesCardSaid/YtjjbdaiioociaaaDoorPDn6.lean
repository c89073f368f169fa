/-
  Part 6 of the lemmas of these laws: DagNames.
-/
import Derived.Test.YtjjbdaiioociaaaDoorPDn5
set_option linter.unusedVariables false
set_option linter.unusedSimpArgs false
open Go.Proofs.Tryd
namespace Go.Proofs.YtjjbdaiioociaaaDoor
namespace L
open Go Go.Proofs.YtjjbdaiioociaaaDoor G W
open Go.ChangeShapes Go.WideShapes Go.ChangeAt Go.RowKit
set_option maxRecDepth 100000
theorem dagNames_c1:OpenClaim.wfByText (OpenSpec.ofChange Rows.dagNamesSpec) Rows.dagNamesRow=true:=by kernel_rfl
theorem dagNames_c2:Tryd.pinned.checked.prog.mainIs=some ((true, "8dedcbde8457c3a057ce59c40fdb15dfb31c0ce2e0f82714ae55f767c6209484").fst,(true, "8dedcbde8457c3a057ce59c40fdb15dfb31c0ce2e0f82714ae55f767c6209484").snd.toList):=by kernel_rfl
theorem dagNames_c4:prog.funcNamed "braid/braidlaw09.DagNames" =some 3:=by kernel_rfl
theorem dagNames_c5:false=Tryd.pinned.checked.prog.looks []:=by kernel_rfl
theorem dagNames_c3:false=Rows.dagNamesRow.goesBy Tryd.pinned.checked.prog:=by kernel_rfl
end L
end Go.Proofs.YtjjbdaiioociaaaDoor
