/-
  Closed facts for this law.
-/
import Derived.Test.YtkibkhgcbepolaaGreatDoorPBlBuilderCommitsa
namespace Go.Proofs.YtkibkhgcbepolaaGreatDoor.L
open Go Go.Proofs.YtkibkhgcbepolaaGreatDoor Go.Proofs.YtkibkhgcbepolaaGreatDoor.G Go.Proofs.YtkibkhgcbepolaaGreatDoor.W
set_option maxRecDepth 100000
theorem builderCommits_f3:(Rows.builderCommitsRow.recurses==Tryz.prog.recurses 5)=true:=by kernel_rfl
theorem builderCommits_f4:(Rows.builderCommitsRow.named==Tryz.prog.varsNamed 5)=true:=by kernel_rfl
end Go.Proofs.YtkibkhgcbepolaaGreatDoor.L
