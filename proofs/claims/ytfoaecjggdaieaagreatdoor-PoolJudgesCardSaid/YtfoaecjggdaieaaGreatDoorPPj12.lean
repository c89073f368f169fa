/-
  Part 12 of the lemmas of these laws: PoolJudges.
-/
import Derived.Test.YtfoaecjggdaieaaGreatDoorPPj11
set_option linter.unusedVariables false
set_option linter.unusedSimpArgs false
open Go.Proofs.Tryz
namespace Go.Proofs.YtfoaecjggdaieaaGreatDoor
namespace L
open Go Go.Proofs.YtfoaecjggdaieaaGreatDoor G W
set_option maxRecDepth 100000
theorem poolJudges_f3:(Rows.poolJudgesRow.recurses==prog.recurses 6)=true:=by kernel_rfl
theorem poolJudges_f4:(Rows.poolJudgesRow.named==prog.varsNamed 6)=true:=by kernel_rfl
end L
end Go.Proofs.YtfoaecjggdaieaaGreatDoor
