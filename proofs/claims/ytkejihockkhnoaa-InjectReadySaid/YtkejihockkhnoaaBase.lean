/-
  What all texts of a seat share.
-/
import Derived.Test.YtkejihockkhnoaaK12
import Derived.Test.YtkejihockkhnoaaK9
import Derived.Test.YtkejihockkhnoaaChecked
namespace Go.Proofs.Ytkejihockkhnoaa
open Go Go.RK
theorem fol : Try.prog.follows .mixedOrders = true := by kernel_rfl
end Go.Proofs.Ytkejihockkhnoaa

