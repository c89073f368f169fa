/-
  Part 5 of the lemmas of these laws: StoreNames.
-/
import Derived.Test.YtkibkhgcbepolaaGreatDoorPBs4
set_option linter.unusedVariables false
set_option linter.unusedSimpArgs false
open Go.Proofs.Tryz
namespace Go.Proofs.YtkibkhgcbepolaaGreatDoor
namespace L
open Go Go.Proofs.YtkibkhgcbepolaaGreatDoor G W
set_option maxRecDepth 100000
theorem storeNames_f3:(Rows.storeNamesRow.recurses==prog.recurses 7)=true:=by kernel_rfl
theorem storeNames_f4:(Rows.storeNamesRow.named==prog.varsNamed 7)=true:=by kernel_rfl
end L
end Go.Proofs.YtkibkhgcbepolaaGreatDoor
