/-
  What all texts of a seat share.
-/
import Derived.Test.YtgfbilmlgibbfaaK12
import Derived.Test.YtgfbilmlgibbfaaK9
import Derived.Test.YtgfbilmlgibbfaaChecked
namespace Go.Proofs.Ytgfbilmlgibbfaa
open Go Go.RK
theorem fol : Try.prog.follows .mixedOrders = true := by kernel_rfl
end Go.Proofs.Ytgfbilmlgibbfaa

