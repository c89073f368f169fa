/-
  Part 4 of the lemmas of these laws: TopSign.
-/
import Derived.Test.YtfoaecjggdaieaaDoorPTs3
set_option linter.unusedVariables false
set_option linter.unusedSimpArgs false
open Go.Proofs.Tryd
namespace Go.Proofs.YtfoaecjggdaieaaDoor
namespace L
open Go Go.Proofs.YtfoaecjggdaieaaDoor G W
set_option maxRecDepth 100000
theorem topSign_f1:(Rows.topSignRow.inPlace==prog.inPlace 3)=true:=by kernel_rfl
theorem topSign_f2:(Rows.topSignRow.unfollowed==prog.unfollowed 3)=true:=by kernel_rfl
end L
end Go.Proofs.YtfoaecjggdaieaaDoor
