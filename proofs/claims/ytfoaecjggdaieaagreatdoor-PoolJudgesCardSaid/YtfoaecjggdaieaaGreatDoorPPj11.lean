/-
  Part 11 of the lemmas of these laws: PoolJudges.
-/
import Derived.Test.YtfoaecjggdaieaaGreatDoorPPj10
set_option linter.unusedVariables false
set_option linter.unusedSimpArgs false
open Go.Proofs.Tryz
namespace Go.Proofs.YtfoaecjggdaieaaGreatDoor
namespace L
open Go Go.Proofs.YtfoaecjggdaieaaGreatDoor G W
set_option maxRecDepth 100000
theorem poolJudges_f1:(Rows.poolJudgesRow.inPlace==prog.inPlace 6)=true:=by kernel_rfl
theorem poolJudges_f2:(Rows.poolJudgesRow.unfollowed==prog.unfollowed 6)=true:=by kernel_rfl
end L
end Go.Proofs.YtfoaecjggdaieaaGreatDoor
