/-
  Closed facts for this law.
-/
import Derived.Test.YtkibkhgcbepolaaGreatDoorPBlBuilderCommitsw
namespace Go.Proofs.YtkibkhgcbepolaaGreatDoor.L
open Go Go.Proofs.YtkibkhgcbepolaaGreatDoor Go.Proofs.YtkibkhgcbepolaaGreatDoor.G Go.Proofs.YtkibkhgcbepolaaGreatDoor.W
set_option maxRecDepth 100000
theorem builderCommits_f1:(Rows.builderCommitsRow.inPlace==Tryz.prog.inPlace 5)=true:=by kernel_rfl
theorem builderCommits_f2:(Rows.builderCommitsRow.unfollowed==Tryz.prog.unfollowed 5)=true:=by kernel_rfl
end Go.Proofs.YtkibkhgcbepolaaGreatDoor.L
