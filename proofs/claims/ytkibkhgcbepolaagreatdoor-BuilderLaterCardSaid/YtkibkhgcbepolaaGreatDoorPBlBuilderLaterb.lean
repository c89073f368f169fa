/-
  Closed facts for this law.
-/
import Derived.Test.YtkibkhgcbepolaaGreatDoorPBlBuilderLatera
namespace Go.Proofs.YtkibkhgcbepolaaGreatDoor.L
open Go Go.Proofs.YtkibkhgcbepolaaGreatDoor Go.Proofs.YtkibkhgcbepolaaGreatDoor.G Go.Proofs.YtkibkhgcbepolaaGreatDoor.W
set_option maxRecDepth 100000
theorem builderLater_f3:(Rows.builderLaterRow.recurses==Tryz.prog.recurses 6)=true:=by kernel_rfl
theorem builderLater_f4:(Rows.builderLaterRow.named==Tryz.prog.varsNamed 6)=true:=by kernel_rfl
end Go.Proofs.YtkibkhgcbepolaaGreatDoor.L
