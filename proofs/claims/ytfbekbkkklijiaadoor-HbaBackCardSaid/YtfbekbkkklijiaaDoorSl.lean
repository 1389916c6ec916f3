/-
  package slices at slices of numbers: Index, Equal, Clone, Delete.
-/
import Derived.Test.YtfbekbkkklijiaaDoorBase
namespace Go.Proofs.YtfbekbkkklijiaaDoor
open Go Go.RK


abbrev ints (l : List Int) : List Value := l.map In
/-- Where a number stands; below 0: nowhere. -/
def idxOf : List Int → Int → Int
  | [], _ => -1
  | a :: l, x => if a = x then 0 else if idxOf l x < 0 then -1 else idxOf l x + 1
theorem idxOf_cases (l : List Int) (x : Int) : (idxOf l x = -1 ∧ x ∉ l) ∨ ∃ k : Nat, idxOf l x = k ∧ l[k]? = some x ∧ x ∉ l.take k := by
  induction l with
  | nil => exact .inl ⟨rfl, by simp⟩
  | cons a l ih =>
    unfold idxOf
    by_cases h : a = x
    · exact .inr ⟨0, by simp [h], by simp [h], by simp⟩
    · rw [if_neg h]
      rcases ih with ⟨h1, h2⟩ | ⟨k, h1, h2, h3⟩
      · exact .inl ⟨by rw [h1]; rfl, by simp [h2, Ne.symm h]⟩
      · exact .inr ⟨k + 1, by rw [h1, if_neg (by omega)]; omega, by simpa using h2, by simp [h3, Ne.symm h]⟩
theorem idxOf_at {l : List Int} {x : Int} {k : Nat} (h1 : l[k]? = some x) (h2 : x ∉ l.take k) : idxOf l x = k := by
  rcases idxOf_cases l x with ⟨_, h⟩ | ⟨j, h, h3, h4⟩
  · exact absurd (List.mem_of_getElem? h1) h
  · rw [h]
    rcases Nat.lt_trichotomy j k with e | e | e
    · exact absurd (List.mem_of_getElem? (show (l.take k)[j]? = some x by rw [List.getElem?_take, if_pos e]; exact h3)) h2
    · rw [e]
    · exact absurd (List.mem_of_getElem? (show (l.take j)[k]? = some x by rw [List.getElem?_take, if_pos e]; exact h1)) h4
theorem idxOf_no {l : List Int} {x : Int} (h : x ∉ l) : idxOf l x = -1 := by
  rcases idxOf_cases l x with ⟨e, _⟩ | ⟨j, _, h3, _⟩
  · exact e
  · exact absurd (List.mem_of_getElem? h3) h
theorem take_snoc_not {l : List Int} {x y : Int} {k : Nat} (h : x ∉ l.take k) (hk : l[k]? = some y) (hne : ¬ x = y) : x ∉ l.take (k + 1) := by
  rw [List.take_add_one, hk]
  simp [h, hne]
theorem one_ints (l : List Int) : ∀ v ∈ ints l, v.oneCell' = true := by
  intro v hv
  obtain ⟨x, _, rfl⟩ := List.mem_map.1 hv
  rfl
theorem get_int {l : List Int} {k : Nat} {y : Int} (hk : l[k]? = some y) : (ints l)[k]? = some (In y) := by simp [hk]

end Go.Proofs.YtfbekbkkklijiaaDoor

