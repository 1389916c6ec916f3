/-
  WHERE THE FIRST STANDS THAT A PREDICATE TAKES, in plain Lean.
-/
import Derived.Test.YtkpgnhhidnkmcaaGreatDoorSl
namespace Go.Proofs.YtkpgnhhidnkmcaaGreatDoor
open Go Go.RK

section
variable {α : Type} (p : α → Bool)
/-- Where the first stands that p takes; below 0: nowhere. -/
def idxP : List α → Int
  | [] => -1
  | a :: l => if p a then 0 else if idxP l < 0 then -1 else idxP l + 1
theorem idxP_cases (l : List α) : (idxP p l = -1 ∧ ∀ x ∈ l, p x = false) ∨ ∃ (k : Nat) (x : α), idxP p l = k ∧ l[k]? = some x ∧ p x = true ∧ ∀ y ∈ l.take k, p y = false := by
  induction l with
  | nil => exact .inl ⟨rfl, by simp⟩
  | cons a l ih =>
    unfold idxP
    cases h : p a
    · rw [if_neg (by simp)]
      rcases ih with ⟨h1, h2⟩ | ⟨k, x, h1, h2, h3, h4⟩
      · exact .inl ⟨by rw [h1]; rfl, by simpa [h] using h2⟩
      · exact .inr ⟨k + 1, x, by rw [h1, if_neg (by omega)]; omega, by simpa using h2, h3, by simpa [h] using h4⟩
    · exact .inr ⟨0, a, by simp, by simp, h, by simp⟩
variable {p}
theorem idxP_at {l : List α} {k : Nat} {x : α} (h1 : l[k]? = some x) (hx : p x = true) (h2 : ∀ y ∈ l.take k, p y = false) : idxP p l = k := by
  rcases idxP_cases p l with ⟨_, h⟩ | ⟨j, y, h, h3, h4, h5⟩
  · rw [h x (List.mem_of_getElem? h1)] at hx; cases hx
  · rw [h]
    rcases Nat.lt_trichotomy j k with e | e | e
    · rw [h2 y (List.mem_of_getElem? (show (l.take k)[j]? = some y by rw [List.getElem?_take, if_pos e]; exact h3))] at h4; cases h4
    · rw [e]
    · rw [h5 x (List.mem_of_getElem? (show (l.take j)[k]? = some x by rw [List.getElem?_take, if_pos e]; exact h1))] at hx; cases hx
theorem idxP_no {l : List α} (h : ∀ x ∈ l, p x = false) : idxP p l = -1 := by
  rcases idxP_cases p l with ⟨e, _⟩ | ⟨j, y, _, h3, h4, _⟩
  · exact e
  · rw [h y (List.mem_of_getElem? h3)] at h4; cases h4
theorem idxP_geq (l : List α) : decide (0 ≤ idxP p l) = l.any p := by
  rcases idxP_cases p l with ⟨e, h⟩ | ⟨j, y, e, h3, h4, _⟩
  · rw [e, (List.any_eq_false.2 (fun x hx => by rw [h x hx]; simp) : l.any p = false)]
    rfl
  · rw [e, (List.any_eq_true.2 ⟨y, List.mem_of_getElem? h3, h4⟩ : l.any p = true)]
    exact decide_eq_true (by omega)
theorem take_snoc_p {l : List α} {y : α} {k : Nat} (h : ∀ x ∈ l.take k, p x = false) (hk : l[k]? = some y) (hy : p y = false) : ∀ x ∈ l.take (k + 1), p x = false := by
  intro x hx
  rw [List.take_add_one, hk] at hx
  simp only [Option.toList_some, List.mem_append, List.mem_singleton] at hx
  rcases hx with hx | rfl
  · exact h x hx
  · exact hy
theorem filter_take {q : α → Bool} {l : List α} {y : α} {k : Nat} (hk : l[k]? = some y) : (l.take (k + 1)).filter q = (l.take k).filter q ++ if q y then [y] else [] := by
  rw [List.take_add_one, hk, List.filter_append]
  congr 1
  simp only [Option.toList_some]
  cases hq : q y <;> simp [hq]
theorem filter_none {l : List α} (h : ∀ x ∈ l, p x = false) : l.filter (fun x => !p x) = l := List.filter_eq_self.2 fun x hx => by rw [h x hx]; rfl
end
theorem take_set_snoc {α : Type} {l : List α} {i : Nat} (v : α) (hi : i < l.length) : (l.set i v).take (i + 1) = l.take i ++ [v] := by
  apply List.ext_getElem?
  intro j
  by_cases h1 : j < i
  · rw [List.getElem?_append_left (by simp; omega), List.getElem?_take, if_pos (by omega), List.getElem?_set_ne (by omega), List.getElem?_take, if_pos h1]
  · by_cases h2 : j = i
    · subst h2
      rw [List.getElem?_append_right (by simp; omega), List.getElem?_take, if_pos (by omega), List.getElem?_set_self hi]
      simp [Nat.min_eq_left (Nat.le_of_lt hi)]
    · rw [List.getElem?_eq_none (by simp; omega), List.getElem?_eq_none (by simp; omega)]
end Go.Proofs.YtkpgnhhidnkmcaaGreatDoor

