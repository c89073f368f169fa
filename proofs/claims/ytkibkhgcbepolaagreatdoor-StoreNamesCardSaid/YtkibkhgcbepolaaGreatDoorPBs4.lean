/-
  Part 4 of the lemmas of these laws: StoreNames.
-/
import Derived.Test.YtkibkhgcbepolaaGreatDoorPBs3
set_option linter.unusedVariables false
set_option linter.unusedSimpArgs false
open Go.Proofs.Tryz
namespace Go.Proofs.YtkibkhgcbepolaaGreatDoor
namespace L
open Go Go.Proofs.YtkibkhgcbepolaaGreatDoor G W
set_option maxRecDepth 100000
theorem storeNames_f1:(Rows.storeNamesRow.inPlace==prog.inPlace 7)=true:=by kernel_rfl
theorem storeNames_f2:(Rows.storeNamesRow.unfollowed==prog.unfollowed 7)=true:=by kernel_rfl
end L
end Go.Proofs.YtkibkhgcbepolaaGreatDoor
