/-
  ROWS THAT ARE TURNED IN PLACE BY THE LIBRARY's SORT AND COMPACT. No program is named here.
-/
import Derived.Test.YtkpgnhhidnkmcaaK12
import Derived.Sort.Grow
namespace Go.RK
open Go

section
variable {h : Heap}
/-- What the library's contracts ask of a row of one's own. -/
theorem Own.holds {α : Type} [Inhabited α] (enc : α → Value) {w : World} {g n cap : Nat} {e : TypeId} {l : List α} (ho : Own w.heap (.slice (some ⟨g, 0, none⟩) n cap) e 1 n (l.map enc)) : Go.Sort.Holds enc w g 0 l.toArray := by
  obtain ⟨hl, ⟨hv, _⟩ | ⟨g0, cap0, cur, hv, hg, hn, hc, hs, htk⟩⟩ := ho
  · cases hv
  · simp only [Value.slice.injEq, Option.some.injEq, Addr.mk.injEq] at hv
    obtain ⟨⟨rfl, _, _⟩, _, rfl⟩ := hv
    intro j hj
    have hj' : j < l.length := by simpa using hj
    refine ⟨?_, ?_⟩
    · rw [cell_eq, cell_of hg, Nat.zero_add]
      have e1 : (cur.toList.take (n * 1))[j]? = (l.map enc)[j]? := by rw [htk]
      have e2 : j < n * 1 := by
        have := congrArg List.length htk
        simp at this hl
        omega
      rw [List.getElem?_take, if_pos e2, List.getElem?_map, List.getElem?_eq_getElem hj'] at e1
      rw [← Array.getElem?_toList, e1]
      simp [hj']
    · unfold World.frozen?
      simp only [hg]
      simp
theorem sorted_heap {α : Type} [Inhabited α] (enc : α → Value) {w : World} {g n cap q : Nat} {e : TypeId} {l l' : List α} {os : Array Obj} (ho : Own w.heap (.slice (some ⟨g, 0, none⟩) n cap) e 1 n (l.map enc)) (hl : l'.length = n) :
    Own (Go.Sort.grow (Go.Sort.putRow enc (Go.Sort.ahead w q) g 0 l'.toArray) os).heap (.slice (some ⟨g, 0, none⟩) n cap) e 1 n (l'.map enc) ∧ Ext (fun k => k = g) w.heap (Go.Sort.grow (Go.Sort.putRow enc (Go.Sort.ahead w q) g 0 l'.toArray) os).heap := by
  obtain ⟨hl0, ⟨hv, _⟩ | ⟨g0, cap0, cur, hv, hg, hn, hc, hs, htk⟩⟩ := ho
  · cases hv
  · simp only [Value.slice.injEq, Option.some.injEq, Addr.mk.injEq] at hv
    obtain ⟨⟨rfl, _, _⟩, _, rfl⟩ := hv
    have hlt := lt_of_some hg
    have hm : (w.heap.modify g (Go.Sort.onCells (Go.Sort.putCells enc 0 l'.toArray)) ++ os)[g]? = some (.cells (Go.Sort.putCells enc 0 l'.toArray cur) e (0, 0)) := by
      rw [Array.getElem?_append, if_pos (by simpa using hlt), Array.getElem?_modify, if_pos rfl, hg]
      rfl
    refine ⟨⟨by simp [hl], .inr ⟨g, cap, _, rfl, hm, hn, hc, by simp [Go.Sort.putCells, hs], ?_⟩⟩, ⟨by show w.heap.size ≤ (w.heap.modify g _ ++ os).size; simp, fun b hb hne => ?_⟩⟩
    · apply List.ext_getElem?
      intro j
      simp only [Nat.mul_one, List.getElem?_take, Array.getElem?_toList, Go.Sort.putCells, Array.getElem?_mapIdx, List.getElem?_map]
      by_cases hj : j < n
      · have hjc : j < cur.size := by omega
        have hjl : j < l'.length := by omega
        simp [hj, hjc, hjl]
      · rw [if_neg hj, List.getElem?_eq_none (by omega)]
        rfl
    · show (w.heap.modify g _ ++ os)[b]? = _
      rw [Array.getElem?_append, if_pos (by simpa using hb), Array.getElem?_modify, if_neg (fun e => hne e.symm)]
theorem Own.slice' {v : Value} {e : TypeId} {sz n : Nat} {xs : List Value} (ho : Own h v e sz n xs) : (v = .slice none 0 0 ∧ n = 0) ∨ ∃ g cap, v = .slice (some ⟨g, 0, none⟩) n cap := by
  obtain ⟨_, h0 | ⟨g, cap, cur, hv, _⟩⟩ := ho
  · exact .inl h0
  · exact .inr ⟨g, cap, hv⟩
theorem Own.room {g cap : Nat} {e : TypeId} {sz n : Nat} {xs : List Value} (ho : Own h (.slice (some ⟨g, 0, none⟩) n cap) e sz n xs) : n ≤ cap := by
  obtain ⟨_, ⟨hv, _⟩ | ⟨g0, cap0, cur, hv, hg, hn, _⟩⟩ := ho
  · cases hv
  · simp only [Value.slice.injEq] at hv
    obtain ⟨_, _, rfl⟩ := hv
    exact hn
/-- The same row, shorter. -/
theorem Own.shorter {e : TypeId} {n m cap g : Nat} {xs : List Value} (ho : Own h (.slice (some ⟨g, 0, none⟩) n cap) e 1 n xs) (hm : m ≤ n) : Own h (.slice (some ⟨g, 0, none⟩) m cap) e 1 m (xs.take m) := by
  obtain ⟨hl0, ⟨hv, _⟩ | ⟨g0, cap0, cur, hv, hg, hn, hc, hs, htk⟩⟩ := ho
  · cases hv
  · simp only [Value.slice.injEq, Option.some.injEq, Addr.mk.injEq] at hv
    obtain ⟨⟨rfl, _, _⟩, _, rfl⟩ := hv
    refine ⟨by simp; omega, .inr ⟨g, cap, cur, rfl, hg, by omega, hc, hs, ?_⟩⟩
    rw [← htk, List.take_take, Nat.mul_one, Nat.mul_one, Nat.min_eq_left hm]
end
end Go.RK
