/-
  Part 5 of the lemmas of these laws: LwwNames.
-/
import Derived.Test.YtkibkhgcbepolaaGreatDoorPLn4
set_option linter.unusedVariables false
set_option linter.unusedSimpArgs false
open Go.Proofs.Tryz
namespace Go.Proofs.YtkibkhgcbepolaaGreatDoor
namespace L
open Go Go.Proofs.YtkibkhgcbepolaaGreatDoor G W
set_option maxRecDepth 100000
theorem lwwNames_f3:(Rows.lwwNamesRow.recurses==prog.recurses 9)=true:=by kernel_rfl
theorem lwwNames_f4:(Rows.lwwNamesRow.named==prog.varsNamed 9)=true:=by kernel_rfl
end L
end Go.Proofs.YtkibkhgcbepolaaGreatDoor
