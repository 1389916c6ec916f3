/-
  THE COMPARE OF ARRAYS OF TEXTS. No program is named here.
-/
import Derived.Test.YtkpgnhhidnkmcaaGreatDoorK12
import Derived.ChangeKeysEq
namespace Go.RK
open Go

section
variable {P : Program}
theorem run_eqItems_str (w : World) (d : Nat) {e : TypeId} (he : P.underlying e = some .string) (hp : P.plainKey e = true) (xs ys : Array Value) : ∀ (us vs : List (List UInt8)) (o : Nat), vs.length = us.length →
    (∀ (j : Nat) (a : List UInt8), us[j]? = some a → xs[o + j]? = some (St a)) → (∀ (j : Nat) (a : List UInt8), vs[j]? = some a → ys[o + j]? = some (St a)) →
    (Op.eqItems (d + 1) e 1 xs ys (List.range' o us.length)).run P w = .ok (decide (us = vs)) w
  | [], vs, o, hl, _, _ => by
    obtain rfl : vs = [] := List.eq_nil_of_length_eq_zero hl
    simp [Op.eqItems]
  | a :: us, [], o, hl, _, _ => by simp at hl
  | a :: us, b :: vs, o, hl, hx, hy => by
    have p1 := hx 0 a rfl
    have p2 := hy 0 b rfl
    rw [Nat.add_zero] at p1 p2
    have r1 := run_part_plain (P := P) (w := w) hp p1
    have r2 := run_part_plain (P := P) (w := w) hp p2
    have r3 : (Op.equalIn (d + 1) e (St a) (St b)).run P w = .ok (decide (a = b)) w := by
      show (Op.equalIn (d + 1) e (.string _) (.string _)).run P w = _
      rw [run_equalIn_string w d e _ _ he]
      simp [beq_dec]
    have ih := run_eqItems_str w d he hp xs ys us vs (o + 1) (by simpa using hl) (fun j c hj => by
      have := hx (j + 1) c (by simpa using hj)
      rwa [show o + (j + 1) = o + 1 + j by omega] at this) (fun j c hj => by
      have := hy (j + 1) c (by simpa using hj)
      rwa [show o + (j + 1) = o + 1 + j by omega] at this)
    rw [List.length_cons, List.range'_succ]
    simp only [Op.eqItems, Nat.mul_one, Sem.run_bind, r1, r2, r3, Result.andThen_ok]
    by_cases h : a = b
    · simp [h, ih]
    · simp [h]
variable {f : Fr} {h : Heap} {d : Option Tmp} {ty : TypeId} {pos : String} {af : Array Edge} {g : Option (Nat × Bool)}
theorem ok_eqlA {t t2 e : TypeId} {x y : Operand} {n : Nat} {i : TypeInfo} {us vs : List (List UInt8)} (hu : P.underlying t = some (.array n e)) (hi : P.info? e = some i) (he : P.underlying e = some .string) (hp : P.plainKey e = true) (h1 : P.cellsOf e = 1) (hg : P.eqGuardType P.depth t = false)
    (hl : us.length = n) (hl2 : vs.length = n) (hx : f.ev x = some (.agg ⟨us.map St⟩)) (hy : f.ev y = some (.agg ⟨vs.map St⟩)) :
    OkP P f ⟨d, .binOp .eql t x y t2, ty, pos, af, g⟩ h (.bool (decide (us = vs))) := fun ρ w hag _ => by
  have r1 := run_eqGuard_agg (P := P) w .eql t x y ⟨us.map St⟩ ⟨vs.map St⟩ hg
  have r2 := run_eql_struct (P := P) w t ⟨us.map St⟩ ⟨vs.map St⟩
  rw [show (10000 : Nat) = 9999 + 1 from rfl, run_equalIn_array w 9999 _ _ hu hi, h1, List.range_eq_range', ← hl] at r2
  rw [run_eqItems_str w 9998 he hp _ _ us vs 0 (by omega) (fun j a hj => by simp [hj]) (fun j a hj => by simp [hj])] at r2
  simp only [execOp, hag _ _ hx, hag _ _ hy, Sem.run_bind, r1, r2, Result.andThen_ok, Sem.run_pure]
end
end Go.RK
