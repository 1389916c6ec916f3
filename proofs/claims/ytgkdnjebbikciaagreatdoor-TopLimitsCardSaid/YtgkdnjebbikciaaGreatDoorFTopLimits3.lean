/-
  Closed facts of this seat, one by one (3).
-/
import Derived.Test.YtgkdnjebbikciaaGreatDoorPTopLimits6
import Derived.SevenTiedAt
import Derived.Test.YtgkdnjebbikciaaGreatDoorCards
namespace Go.Proofs.YtgkdnjebbikciaaGreatDoor
open Go Go.RK
namespace LTopLimits
open Go.ChangeShapes Go.WideShapes Go.ChangeAt Go.RowKit
open Go.ChangeMaps (open_string shut_string)
theorem wiA (os : Os) : ((laidWorld os).forCall (fun _ _ => 0) ⟨#[], #[.int .u8 0, .int .u16 0], []⟩).variablesB Tryz.prog = true := by kernel_rfl
theorem wiB (os : Os) : (((laidWorld os).forCall (fun _ _ => 0) ⟨#[], #[.int .u8 0, .int .u16 0], []⟩).heap.toList.drop Tryz.prog.globals.size).take ((begin Tryz.prog (fun _ _ => 0) default).world.heap.size - Tryz.prog.globals.size) = (begin Tryz.prog (fun _ _ => 0) default).world.heap.toList.drop Tryz.prog.globals.size := by kernel_rfl
theorem wiC (os : Os) : Input.okWideB Tryz.prog ((laidWorld os).forCall (fun _ _ => 0) ⟨#[], #[.int .u8 0, .int .u16 0], []⟩) 3 ⟨#[], #[.int .u8 0, .int .u16 0], []⟩ = true := by kernel_rfl
theorem wiD (os : Os) (H : Type) (enc : TypeId × Value → H) : Rows.topLimitsSpec.preB enc Tryz.prog Tryz.f3 [] false ((laidWorld os).forCall (fun _ _ => 0) ⟨#[], #[.int .u8 0, .int .u16 0], []⟩).memory #[.int .u8 0, .int .u16 0] 8 = true := by kernel_rfl
theorem wiE (os : Os) (H : Type) (enc : TypeId × Value → H) : Rows.topLimitsSpec.sizedB enc Tryz.prog Tryz.f3 false ((laidWorld os).forCall (fun _ _ => 0) ⟨#[], #[.int .u8 0, .int .u16 0], []⟩).memory #[.int .u8 0, .int .u16 0] 8 = true := by kernel_rfl
end LTopLimits
end Go.Proofs.YtgkdnjebbikciaaGreatDoor
