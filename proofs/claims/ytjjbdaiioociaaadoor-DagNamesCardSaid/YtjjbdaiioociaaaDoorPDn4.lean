/-
  Part 4 of the lemmas of these laws: DagNames.
-/
import Derived.Test.YtjjbdaiioociaaaDoorPDn3
set_option linter.unusedVariables false
set_option linter.unusedSimpArgs false
open Go.Proofs.Tryd
namespace Go.Proofs.YtjjbdaiioociaaaDoor
namespace L
open Go Go.Proofs.YtjjbdaiioociaaaDoor G W
set_option maxRecDepth 100000
theorem dagNames_f1:(Rows.dagNamesRow.inPlace==prog.inPlace 3)=true:=by kernel_rfl
theorem dagNames_f2:(Rows.dagNamesRow.unfollowed==prog.unfollowed 3)=true:=by kernel_rfl
end L
end Go.Proofs.YtjjbdaiioociaaaDoor
