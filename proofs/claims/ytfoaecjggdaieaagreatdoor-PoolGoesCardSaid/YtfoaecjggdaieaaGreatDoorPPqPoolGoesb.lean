/-
  Closed facts for this law.
-/
import Derived.Test.YtfoaecjggdaieaaGreatDoorPPqPoolGoesa
namespace Go.Proofs.YtfoaecjggdaieaaGreatDoor.L
open Go Go.Proofs.YtfoaecjggdaieaaGreatDoor Go.Proofs.YtfoaecjggdaieaaGreatDoor.G Go.Proofs.YtfoaecjggdaieaaGreatDoor.W
set_option maxRecDepth 100000
theorem poolGoes_f3:(Rows.poolGoesRow.recurses==Tryz.prog.recurses 7)=true:=by kernel_rfl
theorem poolGoes_f4:(Rows.poolGoesRow.named==Tryz.prog.varsNamed 7)=true:=by kernel_rfl
end Go.Proofs.YtfoaecjggdaieaaGreatDoor.L
