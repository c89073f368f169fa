/-
  Part 4 of the lemmas of these laws: BuilderNames.
-/
import Derived.Test.YtkibkhgcbepolaaGreatDoorPBn3
set_option linter.unusedVariables false
set_option linter.unusedSimpArgs false
open Go.Proofs.Tryz
namespace Go.Proofs.YtkibkhgcbepolaaGreatDoor
namespace L
open Go Go.Proofs.YtkibkhgcbepolaaGreatDoor G W
set_option maxRecDepth 100000
theorem builderNames_f1:(Rows.builderNamesRow.inPlace==prog.inPlace 3)=true:=by kernel_rfl
theorem builderNames_f2:(Rows.builderNamesRow.unfollowed==prog.unfollowed 3)=true:=by kernel_rfl
end L
end Go.Proofs.YtkibkhgcbepolaaGreatDoor
