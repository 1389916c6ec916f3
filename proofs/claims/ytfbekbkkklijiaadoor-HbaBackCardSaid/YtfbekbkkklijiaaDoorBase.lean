/-
  What all texts of a seat share.
-/
import Derived.Test.YtfbekbkkklijiaaDoorK12
import Derived.Test.YtfbekbkkklijiaaDoorK9
import Derived.Test.YtfbekbkkklijiaaDoorChecked
namespace Go.Proofs.YtfbekbkkklijiaaDoor
open Go Go.RK
theorem fol : Tryd.prog.follows .mixedOrders = true := by kernel_rfl
end Go.Proofs.YtfbekbkkklijiaaDoor

