/-
  Closed facts for this law.
-/
import Derived.Test.YtkibkhgcbepolaaGreatDoorPBlBuilderLaterw
namespace Go.Proofs.YtkibkhgcbepolaaGreatDoor.L
open Go Go.Proofs.YtkibkhgcbepolaaGreatDoor Go.Proofs.YtkibkhgcbepolaaGreatDoor.G Go.Proofs.YtkibkhgcbepolaaGreatDoor.W
set_option maxRecDepth 100000
theorem builderLater_f1:(Rows.builderLaterRow.inPlace==Tryz.prog.inPlace 6)=true:=by kernel_rfl
theorem builderLater_f2:(Rows.builderLaterRow.unfollowed==Tryz.prog.unfollowed 6)=true:=by kernel_rfl
end Go.Proofs.YtkibkhgcbepolaaGreatDoor.L
