/-
  Part 14 of the lemmas of these laws: BuilderWrites.
-/
import Derived.Test.YtaapnlnileblaaaGreatDoorPBw13
set_option linter.unusedVariables false
set_option linter.unusedSimpArgs false
open Go.Proofs.Tryz
namespace Go.Proofs.YtaapnlnileblaaaGreatDoor
namespace L
open Go Go.Proofs.YtaapnlnileblaaaGreatDoor G W
set_option maxRecDepth 100000
theorem builderWrites_f3:(Rows.builderWritesRow.recurses==prog.recurses 10)=true:=by kernel_rfl
theorem builderWrites_f4:(Rows.builderWritesRow.named==prog.varsNamed 10)=true:=by kernel_rfl
end L
end Go.Proofs.YtaapnlnileblaaaGreatDoor
