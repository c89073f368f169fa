/-
  Ty: closed facts on the types and functions of the translation.
-/
import Derived.Test.YtiohpiiiapjblaaDoorS9
import Derived.Test.YtiohpiiiapjblaaDoorG19
import Derived.Test.YtiohpiiiapjblaaDoorChecked
namespace Go.Proofs.YtiohpiiiapjblaaDoor.W
open Go.Proofs.YtiohpiiiapjblaaDoor.G
abbrev gK : Nat := 1
abbrev Kst (w : World) (T : TypeId) : Prop := KArr .u32 w gK 64 S.KK T
theorem mixed : Tryd.prog.follows .mixedOrders = true := by kernel_rfl
end Go.Proofs.YtiohpiiiapjblaaDoor.W
