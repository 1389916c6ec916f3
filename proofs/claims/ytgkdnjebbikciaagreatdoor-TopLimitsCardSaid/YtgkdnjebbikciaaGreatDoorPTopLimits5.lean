/-
  SEVERAL TEXTS IN ONE: Tl4, Tl8.
-/
import Derived.Test.YtgkdnjebbikciaaGreatDoorPTopLimits4
import Derived.Test.YtgkdnjebbikciaaGreatDoorSTopLimitsTl3
/-
  TopLimits, run by the evaluator (4): awake.
-/
namespace Go.Proofs.YtgkdnjebbikciaaGreatDoor
open Go Go.RK

set_option maxRecDepth 100000 in
theorem evTop_a : evB Tryz.prog (aw_nat natI) 100000 16 [] = true := by rw [← evT_eq]; kernel_rfl
theorem awakeTop {h : Heap} : CallsH Tryz.prog 16 ⟨[]⟩ h fun u h' => u = .bool true ∧ Ext No h h' :=
  ev_true (fun _ => .bool true) (by kernel_rfl) ev_nm (@aw_nat_ok ⟨fun _ => .bool true, h⟩ _ (@natI_ok ⟨fun _ => .bool true, h⟩)) (by kernel_rfl) evTop_a (@VaL.nil ⟨fun _ => .bool true, h⟩ _)
noncomputable def natA : NatE := nilN 16 (.bool true) natI
theorem natA_ok [Opq] : NOk Tryz.prog natA := nilN_ok natI_ok (fun args w => Tryz.call16 args w) fun g _ =>
  awakeTop.mono fun u h' ⟨a, x⟩ => ⟨fun σ => by rw [a]; exact .bool true, x⟩
end Go.Proofs.YtgkdnjebbikciaaGreatDoor


/-
  TopLimits, run by the evaluator (8): with the table's iterator.
-/
namespace Go.Proofs.YtgkdnjebbikciaaGreatDoor
open Go Go.RK

noncomputable def natT : NatE := itN 216 tbD natI
theorem natT_ok [Opq] : NOk Tryz.prog natT := itN_ok natI_ok tbK
noncomputable def natU : NatE := itN 216 tbD natA
theorem natU_ok [Opq] : NOk Tryz.prog natU := itN_ok natA_ok tbK
end Go.Proofs.YtgkdnjebbikciaaGreatDoor


