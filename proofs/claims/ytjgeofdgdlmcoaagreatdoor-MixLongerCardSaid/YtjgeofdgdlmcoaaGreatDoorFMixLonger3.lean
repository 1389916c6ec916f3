/-
  Closed facts of this seat, one by one (3).
-/
import Derived.Test.YtjgeofdgdlmcoaaGreatDoorPMixLonger7
import Derived.SevenTiedAt
import Derived.Test.YtjgeofdgdlmcoaaGreatDoorCards
namespace Go.Proofs.YtjgeofdgdlmcoaaGreatDoor
open Go Go.RK
namespace LMixLonger
open Go.ChangeShapes Go.WideShapes Go.ChangeAt Go.RowKit
open Go.ChangeMaps (open_string shut_string)
theorem wiA (os : Os) : ((laidWorld os).forCall (fun _ _ => 0) ⟨#[], #[.slice none 0 0, .slice none 0 0, .int .u8 0], []⟩).variablesB Tryz.prog = true := by kernel_rfl
theorem wiB (os : Os) : (((laidWorld os).forCall (fun _ _ => 0) ⟨#[], #[.slice none 0 0, .slice none 0 0, .int .u8 0], []⟩).heap.toList.drop Tryz.prog.globals.size).take ((begin Tryz.prog (fun _ _ => 0) default).world.heap.size - Tryz.prog.globals.size) = (begin Tryz.prog (fun _ _ => 0) default).world.heap.toList.drop Tryz.prog.globals.size := by kernel_rfl
theorem wiC (os : Os) : Input.okWideB Tryz.prog ((laidWorld os).forCall (fun _ _ => 0) ⟨#[], #[.slice none 0 0, .slice none 0 0, .int .u8 0], []⟩) 3 ⟨#[], #[.slice none 0 0, .slice none 0 0, .int .u8 0], []⟩ = true := by kernel_rfl
theorem wiD (os : Os) (H : Type) (enc : TypeId × Value → H) : Rows.mixLongerSpec.preB enc Tryz.prog Tryz.f3 [] false ((laidWorld os).forCall (fun _ _ => 0) ⟨#[], #[.slice none 0 0, .slice none 0 0, .int .u8 0], []⟩).memory #[.slice none 0 0, .slice none 0 0, .int .u8 0] 8 = true := by kernel_rfl
theorem wiE (os : Os) (H : Type) (enc : TypeId × Value → H) : Rows.mixLongerSpec.sizedB enc Tryz.prog Tryz.f3 false ((laidWorld os).forCall (fun _ _ => 0) ⟨#[], #[.slice none 0 0, .slice none 0 0, .int .u8 0], []⟩).memory #[.slice none 0 0, .slice none 0 0, .int .u8 0] 8 = true := by kernel_rfl
end LMixLonger
end Go.Proofs.YtjgeofdgdlmcoaaGreatDoor
