/-
  LISTS RISING BY A TEXT: where one is set, let go; rows of structs: a cell set, a part taken.
-/
import Derived.Test.YtkpgnhhidnkmcaaGreatDoorSrl
import Derived.Test.YtkpgnhhidnkmcaaGreatDoorK12
namespace Go.Proofs.YtkpgnhhidnkmcaaGreatDoor
open Go Go.RK

theorem At.tl {h : Heap} {b o : Nat} {x : Value} {xs : List Value} (a : At h b o (x :: xs)) : At h b (o + 1) xs := fun j v hj => by
  have := a (j + 1) v (by simpa using hj)
  rwa [show o + (j + 1) = o + 1 + j by omega] at this
theorem setL_del {α : Type} {L : List (List UInt8 × α)} (h : Rise L) (n : List UInt8) (v : α) : setL (delL L n) n v = setL L n v := by
  induction L with
  | nil => rfl
  | cons p L ih =>
    obtain ⟨m, w⟩ := p
    rw [Rise, List.pairwise_cons] at h
    have hall : ∀ q ∈ L, m < q.1 := h.1
    have keep : n ≤ m → delL L n = L := fun hn => List.filter_eq_self.2 fun q hq => by
      have h1 := hall q hq
      have h2 : q.1 ≠ n := fun e => by
        rw [e] at h1
        exact absurd hn (List.not_le.2 h1)
      simpa using h2
    have e1 : delL ((m, w) :: L) n = if m = n then delL L n else (m, w) :: delL L n := by
      unfold delL
      by_cases e : m = n <;> simp [e]
    rw [e1]
    by_cases e : m = n
    · subst e
      rw [if_pos rfl, keep (List.le_refl _)]
      conv => rhs; unfold setL
      rw [if_neg (List.lt_irrefl _), if_pos rfl]
      rcases L with _ | ⟨⟨q, u⟩, L⟩
      · rfl
      · have hq : m < q := hall (q, u) (.head _)
        unfold setL
        rw [if_neg (List.not_lt.2 (List.le_of_lt hq)), if_neg (fun e => by rw [e] at hq; exact List.lt_irrefl _ hq)]
    · rw [if_neg e]
      unfold setL
      by_cases hlt : m < n
      · rw [if_pos hlt, if_pos hlt, ih h.2]
      · rw [if_neg hlt, if_neg hlt, if_neg e, if_neg e, keep (List.not_lt.1 hlt)]
theorem pos_of {α : Type} {L : List (List UInt8 × α)} (h : Rise L) {n : List UInt8} {v : α} (hg : getL L n = some v) : ∃ k, L[k]? = some (n, v) ∧ (∀ p ∈ L.take k, p.1 ≠ n) ∧ delL L n = L.take k ++ L.drop (k + 1) := by
  obtain ⟨k, hk⟩ := List.mem_iff_getElem?.1 (getL_mem hg)
  have hkl := List.getElem?_eq_some_iff.1 hk
  have h1 : ∀ p ∈ L.take k, p.1 ≠ n := by
    intro p hp e
    obtain ⟨j, hj⟩ := List.mem_iff_getElem?.1 hp
    rw [List.getElem?_take] at hj
    split at hj
    · rename_i hjk
      have hjl := List.getElem?_eq_some_iff.1 hj
      have := List.pairwise_iff_getElem.1 h j k hjl.1 hkl.1 hjk
      rw [hjl.2, hkl.2, e] at this
      exact List.lt_irrefl _ this
    · cases hj
  have h2 : ∀ p ∈ L.drop (k + 1), p.1 ≠ n := by
    intro p hp e
    obtain ⟨j, hj⟩ := List.mem_iff_getElem?.1 hp
    rw [List.getElem?_drop] at hj
    have hjl := List.getElem?_eq_some_iff.1 hj
    have := List.pairwise_iff_getElem.1 h k (k + 1 + j) hkl.1 hjl.1 (by omega)
    rw [hjl.2, hkl.2, e] at this
    exact List.lt_irrefl _ this
  refine ⟨k, hk, h1, ?_⟩
  conv => lhs; rw [← List.take_append_drop k L, show L.drop k = (n, v) :: L.drop (k + 1) by rw [List.drop_eq_getElem_cons hkl.1, hkl.2]]
  unfold delL
  rw [List.filter_append, List.filter_cons_of_neg (by simp), List.filter_eq_self.2 (fun p hp => by simpa using h1 p hp), List.filter_eq_self.2 (fun p hp => by simpa using h2 p hp)]
theorem delL_none {α : Type} {L : List (List UInt8 × α)} {n : List UInt8} (h : getL L n = none) : delL L n = L :=
  List.filter_eq_self.2 fun p hp => by simpa using getL_no h p hp
theorem delL_le {α : Type} (L : List (List UInt8 × α)) (n : List UInt8) : (delL L n).length ≤ L.length := List.length_filter_le _ _
theorem setL_out {α : Type} {L : List (List UInt8 × α)} {k : Nat} {n : List UInt8} {v : α} (hk : k ≤ L.length) (h1 : ∀ p ∈ L.take k, p.1 < n) (h2 : ∀ p, L[k]? = some p → ¬ p.1 < n) (h3 : ∀ p ∈ L, p.1 ≠ n) : setL L n v = L.take k ++ (n, v) :: L.drop k := by
  rw [setL_at h1 h2 hk]
  rcases hq : L[k]? with _ | q
  · have := List.getElem?_eq_none_iff.1 hq
    simp only
    rw [List.take_of_length_le this, List.drop_of_length_le this]
  · simp only
    rw [if_neg (h3 q (List.mem_of_getElem? hq))]
theorem take_lt {α : Type} {L : List (List UInt8 × α)} {k : Nat} {n : List UInt8} {y : List UInt8 × α} (h : ∀ p ∈ L.take k, p.1 < n) (hy : L[k]? = some y) (hn : y.1 < n) : ∀ p ∈ L.take (k + 1), p.1 < n := by
  intro p hp
  rw [List.take_add_one, hy] at hp
  simp only [Option.toList_some, List.mem_append, List.mem_singleton] at hp
  rcases hp with hp | rfl
  · exact h p hp
  · exact hn
theorem take_ne {α : Type} {L : List (List UInt8 × α)} {k : Nat} {n : List UInt8} {y : List UInt8 × α} (h : ∀ p ∈ L.take k, p.1 ≠ n) (hy : L[k]? = some y) (hn : y.1 ≠ n) : ∀ p ∈ L.take (k + 1), p.1 ≠ n := by
  intro p hp
  rw [List.take_add_one, hy] at hp
  simp only [Option.toList_some, List.mem_append, List.mem_singleton] at hp
  rcases hp with hp | rfl
  · exact h p hp
  · exact hn
theorem getL_out {α : Type} {L : List (List UInt8 × α)} {k : Nat} {n : List UInt8} (h : ∀ p ∈ L.take k, p.1 ≠ n) (hk : L.length ≤ k) : getL L n = none := by
  rw [List.take_of_length_le hk] at h
  unfold getL
  rw [Option.map_eq_none_iff, List.find?_eq_none]
  exact fun p hp => by simpa using h p hp
theorem getL_hit {α : Type} {L : List (List UInt8 × α)} (hri : Rise L) {k : Nat} {n : List UInt8} {v : α} (h : L[k]? = some (n, v)) : getL L n = some v := getL_of hri.nd (List.mem_of_getElem? h)
theorem flat_set {α : Type} {F : α → List Value} {sz : Nat} (hF : ∀ a, (F a).length = sz) {x : Value} {q q' : α} {j : Nat} (hj : j < sz) (hq : (F q).set j x = F q') : ∀ {L : List α} {k : Nat}, L[k]? = some q → (L.flatMap F).set (k * sz + j) x = (L.set k q').flatMap F
  | [], k, h => by cases h
  | a :: L, 0, h => by
    simp only [List.getElem?_cons_zero, Option.some.injEq] at h
    subst h
    rw [List.flatMap_cons, Nat.zero_mul, Nat.zero_add, List.set_append_left _ _ (by rw [hF]; exact hj), hq]
    rfl
  | a :: L, k + 1, h => by
    have ih := flat_set hF hj hq (L := L) (k := k) (by simpa using h)
    rw [List.flatMap_cons, List.set_append_right _ _ (by rw [hF, Nat.succ_mul]; omega), hF, show (k + 1) * sz + j - sz = k * sz + j by rw [Nat.succ_mul]; omega, ih]
    rfl
theorem setL_in {α : Type} {L : List (List UInt8 × α)} (hri : Rise L) {k : Nat} {n : List UInt8} {u v : α} (hk : L[k]? = some (n, u)) : setL L n v = L.set k (n, v) := by
  have hkl := List.getElem?_eq_some_iff.1 hk
  have h1 : ∀ p ∈ L.take k, p.1 < n := by
    intro p hp
    obtain ⟨j, hj⟩ := List.mem_iff_getElem?.1 hp
    rw [List.getElem?_take] at hj
    split at hj
    · rename_i hjk
      have hjl := List.getElem?_eq_some_iff.1 hj
      have := List.pairwise_iff_getElem.1 hri j k hjl.1 hkl.1 hjk
      rwa [hjl.2, hkl.2] at this
    · cases hj
  rw [setL_at h1 (fun p hp => by rw [hk] at hp; obtain rfl := Option.some.inj hp; exact List.lt_irrefl _) (Nat.le_of_lt hkl.1), hk]
  simp
theorem mem_set {α : Type} {L : List α} {k : Nat} {x y : α} (h : y ∈ L.set k x) : y = x ∨ y ∈ L := by
  rcases List.mem_or_eq_of_mem_set h with h | h
  · exact .inr h
  · exact .inl h
section
variable {α : Type} {F : α → List Value} {sz : Nat} (hF : ∀ a, (F a).length = sz)
include hF
theorem fl_len (l : List α) : (l.flatMap F).length = l.length * sz := by
  induction l with
  | nil => simp
  | cons a l ih => rw [List.flatMap_cons, List.length_append, ih, hF, List.length_cons, Nat.succ_mul]; omega
theorem fl_take (l : List α) (k : Nat) : (l.flatMap F).take (k * sz) = (l.take k).flatMap F := by
  rcases Nat.le_total k l.length with h | h
  · conv => lhs; rw [← List.take_append_drop k l, List.flatMap_append]
    have e : ((l.take k).flatMap F).length = k * sz := by rw [fl_len hF, List.length_take, Nat.min_eq_left h]
    rw [List.take_append_of_le_length (by omega), List.take_of_length_le (by omega)]
  · rw [List.take_of_length_le h, List.take_of_length_le (by rw [fl_len hF]; exact Nat.mul_le_mul_right _ h)]
theorem fl_drop (l : List α) (k : Nat) : (l.flatMap F).drop (k * sz) = (l.drop k).flatMap F := by
  rcases Nat.le_total k l.length with h | h
  · conv => lhs; rw [← List.take_append_drop k l, List.flatMap_append]
    have e : ((l.take k).flatMap F).length = k * sz := by rw [fl_len hF, List.length_take, Nat.min_eq_left h]
    rw [List.drop_append_of_le_length (by omega), List.drop_of_length_le (by omega), List.nil_append]
  · rw [List.drop_of_length_le h, List.drop_of_length_le (by rw [fl_len hF]; exact Nat.mul_le_mul_right _ h)]; rfl
/-- One cell of a row of one's own is set. -/
theorem row_set {h : Heap} {A : Option Addr} {c : Nat} {T : TypeId} {L : List α} {k : Nat} {q : α} (ho : Own h (.slice A L.length c) T sz L.length (L.flatMap F)) (hk : L[k]? = some q) : ∃ g gs, A = some ⟨g, 0, none⟩ ∧ h[g]? = some (.cells ⟨gs⟩ T (0, 0)) ∧ L.length * sz ≤ gs.length ∧
    ∀ {h' : Heap} {x : Value} {q' : α} {j : Nat}, j < sz → (F q).set j x = F q' → h'[g]? = some (.cells ⟨gs.set (k * sz + j) x⟩ T (0, 0)) → Own h' (.slice A L.length c) T sz L.length ((L.set k q').flatMap F) := by
  have hkl := (List.getElem?_eq_some_iff.1 hk).1
  obtain ⟨hl, ⟨e1, e2⟩ | ⟨g, cap, ⟨gs⟩, e1, hg, hn, hm, hs, ht⟩⟩ := ho
  · omega
  · simp only [Value.slice.injEq] at e1
    obtain ⟨rfl, _, rfl⟩ := e1
    have hs' : gs.length = c * sz := by simpa using hs
    refine ⟨g, gs, rfl, hg, by rw [hs']; exact Nat.mul_le_mul_right _ hn, fun {h'} {x} {q'} {j} hj hq hb => ?_⟩
    have e : (gs.set (k * sz + j) x).take (L.length * sz) = (L.set k q').flatMap F := by
      rw [List.take_set, show gs.take (L.length * sz) = L.flatMap F from ht]
      exact flat_set hF hj hq hk
    have := Own.of_block hb hn hm (by rw [List.length_set]; exact hs') e
    simpa using this
end
end Go.Proofs.YtkpgnhhidnkmcaaGreatDoor

