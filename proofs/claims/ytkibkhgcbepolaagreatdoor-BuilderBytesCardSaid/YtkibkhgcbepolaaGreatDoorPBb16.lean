/-
  Part 16 of the lemmas of these laws: BuilderBytes.
-/
import Derived.Test.YtkibkhgcbepolaaGreatDoorPBb15
set_option linter.unusedVariables false
set_option linter.unusedSimpArgs false
open Go.Proofs.Tryz
namespace Go.Proofs.YtkibkhgcbepolaaGreatDoor
namespace L
open Go Go.Proofs.YtkibkhgcbepolaaGreatDoor G W
set_option maxRecDepth 100000
theorem builderBytes_f3:(Rows.builderBytesRow.recurses==prog.recurses 4)=true:=by kernel_rfl
theorem builderBytes_f4:(Rows.builderBytesRow.named==prog.varsNamed 4)=true:=by kernel_rfl
end L
end Go.Proofs.YtkibkhgcbepolaaGreatDoor
