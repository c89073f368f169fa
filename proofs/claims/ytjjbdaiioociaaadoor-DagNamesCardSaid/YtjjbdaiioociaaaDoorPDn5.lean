/-
  Part 5 of the lemmas of these laws: DagNames.
-/
import Derived.Test.YtjjbdaiioociaaaDoorPDn4
set_option linter.unusedVariables false
set_option linter.unusedSimpArgs false
open Go.Proofs.Tryd
namespace Go.Proofs.YtjjbdaiioociaaaDoor
namespace L
open Go Go.Proofs.YtjjbdaiioociaaaDoor G W
set_option maxRecDepth 100000
theorem dagNames_f3:(Rows.dagNamesRow.recurses==prog.recurses 3)=true:=by kernel_rfl
theorem dagNames_f4:(Rows.dagNamesRow.named==prog.varsNamed 3)=true:=by kernel_rfl
end L
end Go.Proofs.YtjjbdaiioociaaaDoor
