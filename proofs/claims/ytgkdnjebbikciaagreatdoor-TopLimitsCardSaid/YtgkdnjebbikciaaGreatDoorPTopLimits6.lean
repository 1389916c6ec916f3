/-
  SEVERAL TEXTS IN ONE: Tl6, Tl6b, Tl7, Tl7b, Tl10, Tl11, Tl12.
-/
import Derived.Test.YtgkdnjebbikciaaGreatDoorPTopLimits5
import Derived.Test.YtgkdnjebbikciaaGreatDoorSTopLimitsTl0a
import Derived.Test.YtgkdnjebbikciaaGreatDoorSTopLimitsTl0b
import Derived.Test.YtgkdnjebbikciaaGreatDoorSTopLimitsTl2a
import Derived.Test.YtgkdnjebbikciaaGreatDoorSTopLimitsTl2b
import Derived.Test.YtgkdnjebbikciaaGreatDoorSTopLimitsTl1a
import Derived.Test.YtgkdnjebbikciaaGreatDoorSTopLimitsTl1b0
import Derived.Test.YtgkdnjebbikciaaGreatDoorSTopLimitsTl1b1
import Derived.Test.YtgkdnjebbikciaaGreatDoorSTopLimitsTl1b2
import Derived.Test.YtgkdnjebbikciaaGreatDoorSTopLimitsTl1b3
import Derived.Test.YtgkdnjebbikciaaGreatDoorSTopLimitsTl1b4
import Derived.Test.YtgkdnjebbikciaaGreatDoorSTopLimitsTl3a
import Derived.Test.YtgkdnjebbikciaaGreatDoorSTopLimitsTl3b
/-
  TopLimits, run by the evaluator (6): too long a message.
-/
namespace Go.Proofs.YtgkdnjebbikciaaGreatDoor
open Go Go.RK

set_option maxRecDepth 100000 in
theorem evTop_0 : evB Tryz.prog (l0a_nat (l0b_nat natU)) 100000 3 [.complex .f64 68 0, .complex .f32 5 65535] = true := by rw [← evT_eq]; kernel_rfl
end Go.Proofs.YtgkdnjebbikciaaGreatDoor


/-
  TopLimits, run by the evaluator (6): too many bytes.
-/
namespace Go.Proofs.YtgkdnjebbikciaaGreatDoor
open Go Go.RK

set_option maxRecDepth 100000 in
theorem evTop_2 : evB Tryz.prog (l2a_nat (l2b_nat natU)) 100000 3 [.complex .f64 68 2, .complex .f32 5 65535] = true := by rw [← evT_eq]; kernel_rfl
end Go.Proofs.YtgkdnjebbikciaaGreatDoor


/-
  TopLimits, run by the evaluator (7): what is not served.
-/
namespace Go.Proofs.YtgkdnjebbikciaaGreatDoor
open Go Go.RK

set_option maxRecDepth 100000 in
theorem evTop_1_0 : evB Tryz.prog (l1a_nat (l1b0_nat natU)) 100000 3 [.complex .f64 68 1, .complex .f64 85 0] = true := by rw [← evT_eq]; kernel_rfl
set_option maxRecDepth 100000 in
theorem evTop_1_1 : evB Tryz.prog (l1a_nat (l1b1_nat natU)) 100000 3 [.complex .f64 68 1, .complex .f64 85 1] = true := by rw [← evT_eq]; kernel_rfl
end Go.Proofs.YtgkdnjebbikciaaGreatDoor


/-
  TopLimits, run by the evaluator (7): what is not served.
-/
namespace Go.Proofs.YtgkdnjebbikciaaGreatDoor
open Go Go.RK

set_option maxRecDepth 100000 in
theorem evTop_1_2 : evB Tryz.prog (l1a_nat (l1b2_nat natU)) 100000 3 [.complex .f64 68 1, .complex .f64 85 2] = true := by rw [← evT_eq]; kernel_rfl
set_option maxRecDepth 100000 in
theorem evTop_1_3 : evB Tryz.prog (l1a_nat (l1b3_nat natU)) 100000 3 [.complex .f64 68 1, .complex .f64 85 3] = true := by rw [← evT_eq]; kernel_rfl
set_option maxRecDepth 100000 in
theorem evTop_1_4 : evB Tryz.prog (l1a_nat (l1b4_nat natU)) 100000 3 [.complex .f64 68 1, .complex .f64 85 4] = true := by rw [← evT_eq]; kernel_rfl
end Go.Proofs.YtgkdnjebbikciaaGreatDoor


/-
  TopLimits, run by the evaluator (10): too many prepared statements.
-/
namespace Go.Proofs.YtgkdnjebbikciaaGreatDoor
open Go Go.RK

set_option maxRecDepth 100000 in
theorem evTop_3 : evB Tryz.prog (l3a_nat (l3b_nat natU)) 100000 3 [.complex .f64 68 3, .complex .f32 5 65535] = true := by rw [← evT_eq]; kernel_rfl
end Go.Proofs.YtgkdnjebbikciaaGreatDoor


/-
  TopLimits: the law.
-/
namespace Go.Proofs.YtgkdnjebbikciaaGreatDoor
open Go Go.RK

theorem topLimits {h : Heap} (k n : Nat) (hn : n ≤ 65535) : CallsH Tryz.prog 3 ⟨[.int .u8 (k : Int), .int .u16 (n : Int)]⟩ h fun u h' => u = .bool true ∧ Ext No h h' := by
  let τ : Nat → Value := fun _ => .bool true
  letI : Opq := ⟨τ, h⟩
  have hk : ∀ r, k % 4 = r → Va (fun _ => Option.none) (.complex .f64 68 r) (.int .u8 (k : Int)) := fun r e => .sym (.inl ⟨.u8, k, rfl, rfl, e⟩)
  have hm : Va (fun _ => Option.none) (.complex .f32 5 65535) (.int .u16 (n : Int)) := .sym ⟨.u16, n, rfl, rfl, Nat.zero_le _, hn⟩
  have h5 : ∀ r, n % 5 = r → Va (fun _ => Option.none) (.complex .f64 85 r) (.int .u16 (n : Int)) := fun r e => .sym (.inl ⟨.u16, n, rfl, rfl, e⟩)
  have hN := @natU_ok ⟨τ, h⟩
  have hf : Tryz.prog.follows .mixedOrders = true := by kernel_rfl
  have hb : bodyB Tryz.prog 3 = true := by kernel_rfl
  rcases (by omega : k % 4 = 0 ∨ k % 4 = 1 ∨ k % 4 = 2 ∨ k % 4 = 3) with e | e | e | e
  · exact ev_true τ hf ev_nm (@l0a_nat_ok ⟨τ, h⟩ _ (@l0b_nat_ok ⟨τ, h⟩ _ hN)) hb evTop_0 (.cons (hk _ e) (.cons hm .nil))
  · rcases (by omega : n % 5 = 0 ∨ n % 5 = 1 ∨ n % 5 = 2 ∨ n % 5 = 3 ∨ n % 5 = 4) with z | z | z | z | z
    · exact ev_true τ hf ev_nm (@l1a_nat_ok ⟨τ, h⟩ _ (@l1b0_nat_ok ⟨τ, h⟩ _ hN)) hb evTop_1_0 (.cons (hk _ e) (.cons (h5 _ z) .nil))
    · exact ev_true τ hf ev_nm (@l1a_nat_ok ⟨τ, h⟩ _ (@l1b1_nat_ok ⟨τ, h⟩ _ hN)) hb evTop_1_1 (.cons (hk _ e) (.cons (h5 _ z) .nil))
    · exact ev_true τ hf ev_nm (@l1a_nat_ok ⟨τ, h⟩ _ (@l1b2_nat_ok ⟨τ, h⟩ _ hN)) hb evTop_1_2 (.cons (hk _ e) (.cons (h5 _ z) .nil))
    · exact ev_true τ hf ev_nm (@l1a_nat_ok ⟨τ, h⟩ _ (@l1b3_nat_ok ⟨τ, h⟩ _ hN)) hb evTop_1_3 (.cons (hk _ e) (.cons (h5 _ z) .nil))
    · exact ev_true τ hf ev_nm (@l1a_nat_ok ⟨τ, h⟩ _ (@l1b4_nat_ok ⟨τ, h⟩ _ hN)) hb evTop_1_4 (.cons (hk _ e) (.cons (h5 _ z) .nil))
  · exact ev_true τ hf ev_nm (@l2a_nat_ok ⟨τ, h⟩ _ (@l2b_nat_ok ⟨τ, h⟩ _ hN)) hb evTop_2 (.cons (hk _ e) (.cons hm .nil))
  · exact ev_true τ hf ev_nm (@l3a_nat_ok ⟨τ, h⟩ _ (@l3b_nat_ok ⟨τ, h⟩ _ (@natU_ok ⟨τ, h⟩))) hb evTop_3 (.cons (hk _ e) (.cons hm .nil))
end Go.Proofs.YtgkdnjebbikciaaGreatDoor


/-
  TopLimits: the law, as arguments come in.
-/
namespace Go.Proofs.YtgkdnjebbikciaaGreatDoor
open Go Go.RK

theorem topLimitsI {h : Heap} (k n : Int) (hk : (Lit.int .u8 k).wf = true) (hn : (Lit.int .u16 n).wf = true) : CallsH Tryz.prog 3 ⟨[.int .u8 k, .int .u16 n]⟩ h fun u h' => u = .bool true ∧ Ext No h h' := by
  have hk : 0 ≤ k ∧ k ≤ 255 := by simpa [Lit.wf, IntKind.min, IntKind.max, IntKind.signed, IntKind.bits] using hk
  have hn : 0 ≤ n ∧ n ≤ 65535 := by simpa [Lit.wf, IntKind.min, IntKind.max, IntKind.signed, IntKind.bits] using hn
  obtain ⟨k', rfl⟩ := Int.eq_ofNat_of_zero_le hk.1
  obtain ⟨n', rfl⟩ := Int.eq_ofNat_of_zero_le hn.1
  exact topLimits k' n' (by omega)
end Go.Proofs.YtgkdnjebbikciaaGreatDoor


