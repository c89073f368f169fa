/-
  Part 4 of the lemmas of these laws: LwwNames.
-/
import Derived.Test.YtkibkhgcbepolaaGreatDoorPLn3
set_option linter.unusedVariables false
set_option linter.unusedSimpArgs false
open Go.Proofs.Tryz
namespace Go.Proofs.YtkibkhgcbepolaaGreatDoor
namespace L
open Go Go.Proofs.YtkibkhgcbepolaaGreatDoor G W
set_option maxRecDepth 100000
theorem lwwNames_f1:(Rows.lwwNamesRow.inPlace==prog.inPlace 9)=true:=by kernel_rfl
theorem lwwNames_f2:(Rows.lwwNamesRow.unfollowed==prog.unfollowed 9)=true:=by kernel_rfl
end L
end Go.Proofs.YtkibkhgcbepolaaGreatDoor
