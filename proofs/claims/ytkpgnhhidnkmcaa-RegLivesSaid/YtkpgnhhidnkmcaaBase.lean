/-
  What all texts of a seat share.
-/
import Derived.Test.YtkpgnhhidnkmcaaK12
import Derived.Test.YtkpgnhhidnkmcaaK9
import Derived.Test.YtkpgnhhidnkmcaaChecked
namespace Go.Proofs.Ytkpgnhhidnkmcaa
open Go Go.RK
theorem fol : Try.prog.follows .mixedOrders = true := by kernel_rfl
end Go.Proofs.Ytkpgnhhidnkmcaa

