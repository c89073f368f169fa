/-
  Closed facts for this law.
-/
import Derived.Test.YtfoaecjggdaieaaGreatDoorPPqPoolSamea
namespace Go.Proofs.YtfoaecjggdaieaaGreatDoor.L
open Go Go.Proofs.YtfoaecjggdaieaaGreatDoor Go.Proofs.YtfoaecjggdaieaaGreatDoor.G Go.Proofs.YtfoaecjggdaieaaGreatDoor.W
set_option maxRecDepth 100000
theorem poolSame_f3:(Rows.poolSameRow.recurses==Tryz.prog.recurses 4)=true:=by kernel_rfl
theorem poolSame_f4:(Rows.poolSameRow.named==Tryz.prog.varsNamed 4)=true:=by kernel_rfl
end Go.Proofs.YtfoaecjggdaieaaGreatDoor.L
