/-
  Part 13 of the lemmas of these laws: BuilderWrites.
-/
import Derived.Test.YtaapnlnileblaaaGreatDoorPBw12
set_option linter.unusedVariables false
set_option linter.unusedSimpArgs false
open Go.Proofs.Tryz
namespace Go.Proofs.YtaapnlnileblaaaGreatDoor
namespace L
open Go Go.Proofs.YtaapnlnileblaaaGreatDoor G W
set_option maxRecDepth 100000
theorem builderWrites_f1:(Rows.builderWritesRow.inPlace==prog.inPlace 10)=true:=by kernel_rfl
theorem builderWrites_f2:(Rows.builderWritesRow.unfollowed==prog.unfollowed 10)=true:=by kernel_rfl
end L
end Go.Proofs.YtaapnlnileblaaaGreatDoor
