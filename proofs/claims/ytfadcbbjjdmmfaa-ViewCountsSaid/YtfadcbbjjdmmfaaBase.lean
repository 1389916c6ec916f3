/-
  What all texts of a seat share.
-/
import Derived.Test.YtfadcbbjjdmmfaaK12
import Derived.Test.YtfadcbbjjdmmfaaK9
import Derived.Test.YtfadcbbjjdmmfaaChecked
namespace Go.Proofs.Ytfadcbbjjdmmfaa
open Go Go.RK
theorem fol : Try.prog.follows .mixedOrders = true := by kernel_rfl
end Go.Proofs.Ytfadcbbjjdmmfaa

