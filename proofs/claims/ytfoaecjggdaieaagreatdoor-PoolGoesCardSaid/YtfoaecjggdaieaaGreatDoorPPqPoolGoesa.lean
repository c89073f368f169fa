/-
  Closed facts for this law.
-/
import Derived.Test.YtfoaecjggdaieaaGreatDoorPPq14
namespace Go.Proofs.YtfoaecjggdaieaaGreatDoor.L
open Go Go.Proofs.YtfoaecjggdaieaaGreatDoor Go.Proofs.YtfoaecjggdaieaaGreatDoor.G Go.Proofs.YtfoaecjggdaieaaGreatDoor.W
set_option maxRecDepth 100000
theorem poolGoes_f1:(Rows.poolGoesRow.inPlace==Tryz.prog.inPlace 7)=true:=by kernel_rfl
theorem poolGoes_f2:(Rows.poolGoesRow.unfollowed==Tryz.prog.unfollowed 7)=true:=by kernel_rfl
end Go.Proofs.YtfoaecjggdaieaaGreatDoor.L
