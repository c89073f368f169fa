/-
  Closed facts for this law.
-/
import Derived.Test.YtfoaecjggdaieaaGreatDoorPPq14
namespace Go.Proofs.YtfoaecjggdaieaaGreatDoor.L
open Go Go.Proofs.YtfoaecjggdaieaaGreatDoor Go.Proofs.YtfoaecjggdaieaaGreatDoor.G Go.Proofs.YtfoaecjggdaieaaGreatDoor.W
set_option maxRecDepth 100000
theorem poolSteps_f1:(Rows.poolStepsRow.inPlace==Tryz.prog.inPlace 3)=true:=by kernel_rfl
theorem poolSteps_f2:(Rows.poolStepsRow.unfollowed==Tryz.prog.unfollowed 3)=true:=by kernel_rfl
end Go.Proofs.YtfoaecjggdaieaaGreatDoor.L
