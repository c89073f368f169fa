/-
  Part 10 of the lemmas of these laws: TopDag.
-/
import Derived.Test.YtjjbdaiioociaaaGreatDoorPTd9
set_option linter.unusedVariables false
set_option linter.unusedSimpArgs false
open Go.Proofs.Tryz
namespace Go.Proofs.YtjjbdaiioociaaaGreatDoor
namespace L
open Go Go.Proofs.YtjjbdaiioociaaaGreatDoor G W
set_option maxRecDepth 100000
theorem topDag_f3:(Rows.topDagRow.recurses==prog.recurses 4)=true:=by kernel_rfl
theorem topDag_f4:(Rows.topDagRow.named==prog.varsNamed 4)=true:=by kernel_rfl
end L
end Go.Proofs.YtjjbdaiioociaaaGreatDoor
