/-
  Part 5 of the lemmas of these laws: PoolNames.
-/
import Derived.Test.YtjjbdaiioociaaaGreatDoorPPn4
set_option linter.unusedVariables false
set_option linter.unusedSimpArgs false
open Go.Proofs.Tryz
namespace Go.Proofs.YtjjbdaiioociaaaGreatDoor
namespace L
open Go Go.Proofs.YtjjbdaiioociaaaGreatDoor G W
set_option maxRecDepth 100000
theorem poolNames_f3:(Rows.poolNamesRow.recurses==prog.recurses 3)=true:=by kernel_rfl
theorem poolNames_f4:(Rows.poolNamesRow.named==prog.varsNamed 3)=true:=by kernel_rfl
end L
end Go.Proofs.YtjjbdaiioociaaaGreatDoor
