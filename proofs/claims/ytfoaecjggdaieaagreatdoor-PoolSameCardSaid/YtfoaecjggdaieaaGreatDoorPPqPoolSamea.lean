/-
  Closed facts for this law.
-/
import Derived.Test.YtfoaecjggdaieaaGreatDoorPPq14
namespace Go.Proofs.YtfoaecjggdaieaaGreatDoor.L
open Go Go.Proofs.YtfoaecjggdaieaaGreatDoor Go.Proofs.YtfoaecjggdaieaaGreatDoor.G Go.Proofs.YtfoaecjggdaieaaGreatDoor.W
set_option maxRecDepth 100000
theorem poolSame_f1:(Rows.poolSameRow.inPlace==Tryz.prog.inPlace 4)=true:=by kernel_rfl
theorem poolSame_f2:(Rows.poolSameRow.unfollowed==Tryz.prog.unfollowed 4)=true:=by kernel_rfl
end Go.Proofs.YtfoaecjggdaieaaGreatDoor.L
