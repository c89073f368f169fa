/-
  Part 4 of the lemmas of these laws: PoolNames.
-/
import Derived.Test.YtjjbdaiioociaaaGreatDoorPPn3
set_option linter.unusedVariables false
set_option linter.unusedSimpArgs false
open Go.Proofs.Tryz
namespace Go.Proofs.YtjjbdaiioociaaaGreatDoor
namespace L
open Go Go.Proofs.YtjjbdaiioociaaaGreatDoor G W
set_option maxRecDepth 100000
theorem poolNames_f1:(Rows.poolNamesRow.inPlace==prog.inPlace 3)=true:=by kernel_rfl
theorem poolNames_f2:(Rows.poolNamesRow.unfollowed==prog.unfollowed 3)=true:=by kernel_rfl
end L
end Go.Proofs.YtjjbdaiioociaaaGreatDoor
