/-
  Part 15 of the lemmas of these laws: BuilderBytes.
-/
import Derived.Test.YtkibkhgcbepolaaGreatDoorPBb14
set_option linter.unusedVariables false
set_option linter.unusedSimpArgs false
open Go.Proofs.Tryz
namespace Go.Proofs.YtkibkhgcbepolaaGreatDoor
namespace L
open Go Go.Proofs.YtkibkhgcbepolaaGreatDoor G W
set_option maxRecDepth 100000
theorem builderBytes_f1:(Rows.builderBytesRow.inPlace==prog.inPlace 4)=true:=by kernel_rfl
theorem builderBytes_f2:(Rows.builderBytesRow.unfollowed==prog.unfollowed 4)=true:=by kernel_rfl
end L
end Go.Proofs.YtkibkhgcbepolaaGreatDoor
