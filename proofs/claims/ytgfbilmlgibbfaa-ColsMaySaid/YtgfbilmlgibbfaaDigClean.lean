/-
  DIGITS ARE CLEAN, in plain Lean.
-/
import Derived.Test.YtgfbilmlgibbfaaDig
import Derived.Test.YtgfbilmlgibbfaaIxB
namespace Go.Proofs.Ytgfbilmlgibbfaa
open Go Go.RK

theorem clean_app (a b : List UInt8) : cleanB (a ++ b) = (cleanB a && cleanB b) := by
  unfold cleanB
  rw [List.contains_eq_any_beq, List.any_append, List.contains_eq_any_beq, List.contains_eq_any_beq, Bool.not_or]
theorem rdig_clean (m : Nat) : cleanB (rdig m) = true := by
  induction m using Nat.strongRecOn with
  | _ m ih =>
    have hd : ∀ k, k < 10 → cleanB [UInt8.ofNat (48 + k)] = true := by decide
    by_cases h : m < 10
    · rw [rdig_lt h]
      exact hd m h
    · rw [rdig_ge h, show (UInt8.ofNat (48 + m % 10) :: rdig (m / 10)) = [UInt8.ofNat (48 + m % 10)] ++ rdig (m / 10) from rfl, clean_app, hd _ (by omega), ih (m / 10) (by omega)]
      rfl
theorem dig_clean (m : Nat) : cleanB (dig m) = true := by
  have := rdig_clean m
  unfold cleanB dig at *
  rw [List.contains_eq_any_beq] at *
  rwa [List.any_reverse]
theorem deci_clean (n : Int) : cleanB (deci n) = true := by
  unfold deci
  split
  · rw [show (45 :: dig n.natAbs) = [45] ++ dig n.natAbs from rfl, clean_app, dig_clean]
    rfl
  · exact dig_clean _
end Go.Proofs.Ytgfbilmlgibbfaa

