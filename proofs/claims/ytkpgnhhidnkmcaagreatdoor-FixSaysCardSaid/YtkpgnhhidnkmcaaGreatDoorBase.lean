/-
  What all texts of a seat share.
-/
import Derived.Test.YtkpgnhhidnkmcaaGreatDoorK12
import Derived.Test.YtkpgnhhidnkmcaaGreatDoorK9
import Derived.Test.YtkpgnhhidnkmcaaGreatDoorChecked
namespace Go.Proofs.YtkpgnhhidnkmcaaGreatDoor
open Go Go.RK
theorem fol : Tryz.prog.follows .mixedOrders = true := by kernel_rfl
end Go.Proofs.YtkpgnhhidnkmcaaGreatDoor

