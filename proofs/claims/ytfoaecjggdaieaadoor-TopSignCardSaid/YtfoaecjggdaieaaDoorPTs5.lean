/-
  Part 5 of the lemmas of these laws: TopSign.
-/
import Derived.Test.YtfoaecjggdaieaaDoorPTs4
set_option linter.unusedVariables false
set_option linter.unusedSimpArgs false
open Go.Proofs.Tryd
namespace Go.Proofs.YtfoaecjggdaieaaDoor
namespace L
open Go Go.Proofs.YtfoaecjggdaieaaDoor G W
set_option maxRecDepth 100000
theorem topSign_f3:(Rows.topSignRow.recurses==prog.recurses 3)=true:=by kernel_rfl
theorem topSign_f4:(Rows.topSignRow.named==prog.varsNamed 3)=true:=by kernel_rfl
end L
end Go.Proofs.YtfoaecjggdaieaaDoor
