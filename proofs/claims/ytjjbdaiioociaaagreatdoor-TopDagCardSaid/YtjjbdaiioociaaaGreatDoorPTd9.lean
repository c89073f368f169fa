/-
  Part 9 of the lemmas of these laws: TopDag.
-/
import Derived.Test.YtjjbdaiioociaaaGreatDoorPTd8
set_option linter.unusedVariables false
set_option linter.unusedSimpArgs false
open Go.Proofs.Tryz
namespace Go.Proofs.YtjjbdaiioociaaaGreatDoor
namespace L
open Go Go.Proofs.YtjjbdaiioociaaaGreatDoor G W
set_option maxRecDepth 100000
theorem topDag_f1:(Rows.topDagRow.inPlace==prog.inPlace 4)=true:=by kernel_rfl
theorem topDag_f2:(Rows.topDagRow.unfollowed==prog.unfollowed 4)=true:=by kernel_rfl
end L
end Go.Proofs.YtjjbdaiioociaaaGreatDoor
