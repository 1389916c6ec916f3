/-
  LISTS SORTED BY A TEXT, AND MAPS, in plain Lean: what is set, let go and found is alike in both; names sorted.
-/
import Derived.Test.YtkpgnhhidnkmcaaGreatDoorK18
namespace Go.Proofs.YtkpgnhhidnkmcaaGreatDoor
open Go Go.RK

theorem bytesLess_lt : ∀ (x y : List UInt8), Op.bytesLess x y = decide (x < y)
  | [], [] => by simp [Op.bytesLess]
  | _ :: _, [] => by simp [Op.bytesLess]
  | [], _ :: _ => by simp [Op.bytesLess]
  | a :: x, b :: y => by
    rw [Op.bytesLess, bytesLess_lt x y]
    simp only [List.cons_lt_cons_iff]
    by_cases h1 : a < b <;> by_cases h2 : a = b <;> by_cases h3 : x < y <;> simp [h1, h2, h3]
theorem lt_tri {a b : List UInt8} (h1 : ¬ a < b) (h2 : ¬ b < a) : a = b := List.le_antisymm (List.not_lt.1 h2) (List.not_lt.1 h1)

section
variable {α β : Type}
/-- Rising, each key once. -/
def Rise (L : List (List UInt8 × α)) : Prop := L.Pairwise fun a b => a.1 < b.1
def setL : List (List UInt8 × α) → List UInt8 → α → List (List UInt8 × α)
  | [], n, v => [(n, v)]
  | (m, w) :: L, n, v => if m < n then (m, w) :: setL L n v else if m = n then (n, v) :: L else (n, v) :: (m, w) :: L
def delL (L : List (List UInt8 × α)) (n : List UInt8) : List (List UInt8 × α) := L.filter fun p => decide (p.1 ≠ n)
def getL (L : List (List UInt8 × α)) (n : List UInt8) : Option α := (L.find? fun p => decide (p.1 = n)).map (·.2)
theorem Rise.nd {L : List (List UInt8 × α)} (h : Rise L) : (L.map (·.1)).Nodup := by
  refine List.pairwise_map.2 (h.imp fun {a b} hab e => ?_)
  rw [e] at hab
  exact List.lt_irrefl _ hab
theorem mem_setL {L : List (List UInt8 × α)} {n : List UInt8} {v : α} {p : List UInt8 × α} (h : p ∈ setL L n v) : p = (n, v) ∨ p ∈ L := by
  induction L with
  | nil => simpa [setL] using h
  | cons a L ih =>
    obtain ⟨m, w⟩ := a
    unfold setL at h
    split at h
    · rcases List.mem_cons.1 h with rfl | h
      · exact .inr List.mem_cons_self
      · exact (ih h).imp id (List.mem_cons_of_mem _)
    · split at h
      · rcases List.mem_cons.1 h with rfl | h
        · exact .inl rfl
        · exact .inr (List.mem_cons_of_mem _ h)
      · rcases List.mem_cons.1 h with rfl | h
        · exact .inl rfl
        · exact .inr h
theorem Rise.set {L : List (List UInt8 × α)} (h : Rise L) (n : List UInt8) (v : α) : Rise (setL L n v) := by
  induction L with
  | nil => simp [setL, Rise]
  | cons a L ih =>
    obtain ⟨m, w⟩ := a
    obtain ⟨h1, h2⟩ := List.pairwise_cons.1 h
    unfold setL
    split
    · rename_i hlt
      refine List.pairwise_cons.2 ⟨fun p hp => ?_, ih h2⟩
      rcases mem_setL hp with rfl | hp
      · exact hlt
      · exact h1 p hp
    · rename_i hlt
      split
      · rename_i he
        subst he
        exact List.pairwise_cons.2 ⟨h1, h2⟩
      · rename_i hne
        have hnm : n < m := by
          rcases Decidable.em (n < m) with h | h
          · exact h
          · exact absurd (lt_tri hlt h) hne
        refine List.pairwise_cons.2 ⟨fun p hp => ?_, h⟩
        rcases List.mem_cons.1 hp with rfl | hp
        · exact hnm
        · exact List.lt_trans hnm (h1 p hp)
theorem Rise.del {L : List (List UInt8 × α)} (h : Rise L) (n : List UInt8) : Rise (delL L n) := List.Pairwise.filter _ h
theorem getL_nil (n : List UInt8) : getL ([] : List (List UInt8 × α)) n = none := rfl
theorem getL_cons (p : List UInt8 × α) (L : List (List UInt8 × α)) (n : List UInt8) : getL (p :: L) n = if p.1 = n then some p.2 else getL L n := by
  unfold getL
  rw [List.find?_cons]
  by_cases h : p.1 = n <;> simp [h]
theorem getL_mem {L : List (List UInt8 × α)} {n : List UInt8} {v : α} (h : getL L n = some v) : (n, v) ∈ L := by
  unfold getL at h
  obtain ⟨p, hp, rfl⟩ := Option.map_eq_some_iff.1 h
  have h1 := List.find?_some hp
  simp at h1
  rw [← h1]
  exact List.mem_of_find?_eq_some hp
theorem getL_no {L : List (List UInt8 × α)} {n : List UInt8} (h : getL L n = none) : ∀ p ∈ L, p.1 ≠ n := by
  unfold getL at h
  rw [Option.map_eq_none_iff, List.find?_eq_none] at h
  exact fun p hp e => h p hp (by simp [e])
theorem getL_of {L : List (List UInt8 × α)} (hn : (L.map (·.1)).Nodup) {n : List UInt8} {v : α} (h : (n, v) ∈ L) : getL L n = some v := by
  induction L with
  | nil => cases h
  | cons a L ih =>
    rw [getL_cons]
    simp only [List.map_cons, List.nodup_cons, List.mem_map, not_exists, not_and] at hn
    rcases List.mem_cons.1 h with rfl | h
    · rw [if_pos rfl]
    · rw [if_neg (fun e => hn.1 (n, v) h e.symm)]
      exact ih hn.2 h
theorem getL_perm {E L : List (List UInt8 × α)} (hp : E.Perm L) (hn : (L.map (·.1)).Nodup) (n : List UInt8) : getL E n = getL L n := by
  have hn' : (E.map (·.1)).Nodup := (hp.map _).nodup_iff.2 hn
  rcases h : getL L n with _ | v
  · rcases h2 : getL E n with _ | v
    · rfl
    · exact absurd rfl (getL_no h (n, v) (hp.mem_iff.1 (getL_mem h2)))
  · exact getL_of hn' (hp.mem_iff.2 (getL_mem h))
/-- Replaced where it is there. -/
theorem setL_there {L : List (List UInt8 × α)} (h : Rise L) {n : List UInt8} {v : α} (hn : (getL L n).isSome = true) : setL L n v = L.map fun p => if p.1 = n then (n, v) else p := by
  induction L with
  | nil => simp [getL_nil] at hn
  | cons a L ih =>
    obtain ⟨m, w⟩ := a
    obtain ⟨h1, h2⟩ := List.pairwise_cons.1 h
    rw [getL_cons] at hn
    unfold setL
    by_cases he : m = n
    · subst he
      rw [if_neg (List.lt_irrefl _), if_pos rfl, List.map_cons, if_pos rfl]
      congr 1
      refine (List.map_id L).symm.trans (List.map_congr_left fun p hp => ?_)
      have := h1 p hp
      rw [if_neg (fun e => by rw [e] at this; exact List.lt_irrefl _ this)]
      rfl
    · rw [if_neg he] at hn
      rcases hg : getL L n with _ | u
      · rw [hg] at hn; cases hn
      · have := h1 _ (getL_mem hg)
        rw [if_pos this, List.map_cons, if_neg he, ih h2 hn]
theorem setL_new {L : List (List UInt8 × α)} {n : List UInt8} {v : α} (hn : getL L n = none) : (setL L n v).Perm ((n, v) :: L) := by
  induction L with
  | nil => exact .refl _
  | cons a L ih =>
    obtain ⟨m, w⟩ := a
    rw [getL_cons] at hn
    unfold setL
    by_cases he : m = n
    · rw [if_pos he] at hn; cases hn
    · rw [if_neg he] at hn
      split
      · exact ((ih hn).cons _).trans (.swap _ _ _)
      · exact .refl _
theorem setL_len {L : List (List UInt8 × α)} (h : Rise L) (n : List UInt8) (v : α) : (setL L n v).length = if (getL L n).isSome = true then L.length else L.length + 1 := by
  split
  · rename_i hs
    rw [setL_there h hs]
    simp
  · rename_i hs
    have : getL L n = none := by cases hg : getL L n <;> simp_all
    have := (setL_new (v := v) this).length_eq
    simpa using this
/-- At the first place that is not before it. -/
theorem setL_at {L : List (List UInt8 × α)} {n : List UInt8} {v : α} : ∀ {k : Nat}, (∀ p ∈ L.take k, p.1 < n) → (∀ p, L[k]? = some p → ¬ p.1 < n) → k ≤ L.length →
    setL L n v = match L[k]? with | some p => if p.1 = n then L.set k (n, v) else L.take k ++ (n, v) :: L.drop k | none => L ++ [(n, v)] := by
  induction L with
  | nil =>
    intro k _ _ hk
    obtain rfl : k = 0 := (by simpa using hk)
    rfl
  | cons a L ih =>
    obtain ⟨m, w⟩ := a
    intro k h1 h2 hk
    rcases k with _ | k
    · have := h2 (m, w) rfl
      simp only at this
      unfold setL
      simp only [List.getElem?_cons_zero, List.set_cons_zero, List.take_zero, List.drop_zero, List.nil_append]
      rw [if_neg this]
    · have hm : m < n := h1 (m, w) (by simp)
      have := ih (k := k) (fun p hp => h1 p (by simp [hp])) (fun p hp => h2 p (by simpa using hp)) (by simpa using hk)
      unfold setL
      rw [if_pos hm, this]
      simp only [List.getElem?_cons_succ, List.set_cons_succ, List.take_succ_cons, List.drop_succ_cons, List.cons_append]
      rcases L[k]? with _ | p
      · rfl
      · simp only
        split <;> rfl

/-! ### maps -/
def encE (f : α → Value) (E : List (List UInt8 × α)) : List (List UInt8 × Value) := E.map fun p => (p.1, f p.2)
theorem alook_enc (f : α → Value) (E : List (List UInt8 × α)) (n : List UInt8) : alook (encE f E) n = (getL E n).map f := by
  unfold alook encE getL
  induction E with
  | nil => rfl
  | cons a E ih =>
    simp only [List.map_cons, List.find?_cons]
    by_cases h : a.1 = n <;> simp [h] at ih ⊢
    exact ih
/-- What the map has behind a set. -/
def putE (E : List (List UInt8 × α)) (n : List UInt8) (v : α) : List (List UInt8 × α) := if (getL E n).isSome = true then E.map (fun p => if p.1 = n then (n, v) else p) else E ++ [(n, v)]
theorem aput_enc (f : α → Value) (E : List (List UInt8 × α)) (n : List UInt8) (v : α) : aput (encE f E) n (f v) = encE f (putE E n v) := by
  unfold aput putE
  rw [alook_enc]
  rcases getL E n with _ | w
  · simp [encE]
  · simp only [Option.map_some, Option.isSome_some, if_true, encE, List.map_map]
    refine List.map_congr_left fun p _ => ?_
    simp only [Function.comp]
    split <;> rfl
theorem adel_enc (f : α → Value) (E : List (List UInt8 × α)) (n : List UInt8) : adel (encE f E) n = encE f (delL E n) := by
  unfold adel encE delL
  rw [List.filter_map]
  rfl
theorem put_perm {E L : List (List UInt8 × α)} (hp : E.Perm L) (h : Rise L) (n : List UInt8) (v : α) : (putE E n v).Perm (setL L n v) := by
  have hg := getL_perm hp h.nd n
  unfold putE
  rw [hg]
  split
  · rename_i hs
    rw [setL_there h hs]
    exact hp.map _
  · rename_i hs
    have hno : getL L n = none := by cases hg : getL L n <;> simp_all
    exact ((List.perm_append_comm.trans (hp.cons _)).trans (setL_new hno).symm)
theorem del_perm {E L : List (List UInt8 × α)} (hp : E.Perm L) (n : List UInt8) : (delL E n).Perm (delL L n) := hp.filter _
theorem enc_len (f : α → Value) (E : List (List UInt8 × α)) : (encE f E).length = E.length := by simp [encE]
theorem enc_keys (f : α → Value) (E : List (List UInt8 × α)) : (encE f E).map (·.1) = E.map (·.1) := by simp [encE, List.map_map, Function.comp_def]
/-- The names of a list, sorted. -/
def srtS (l : List (List UInt8)) : List (List UInt8) := l.mergeSort fun x y => decide (x ≤ y)
theorem srtS_rise {l : List (List UInt8)} {L : List (List UInt8 × α)} (h : Rise L) (hp : l.Perm (L.map (·.1))) : srtS l = L.map (·.1) := by
  have tr : ∀ a b c : List UInt8, decide (a ≤ b) = true → decide (b ≤ c) = true → decide (a ≤ c) = true := fun a b c h1 h2 => by simp only [decide_eq_true_eq] at *; exact List.le_trans h1 h2
  have to : ∀ a b : List UInt8, (decide (a ≤ b) || decide (b ≤ a)) = true := fun a b => by simp only [Bool.or_eq_true, decide_eq_true_eq]; exact List.le_total a b
  refine List.Perm.eq_of_pairwise (le := fun a b => decide (a ≤ b) = true) (fun a b _ _ h1 h2 => ?_) (List.pairwise_mergeSort tr to l) ?_ ((List.mergeSort_perm l _).trans hp)
  · simp only [decide_eq_true_eq] at h1 h2
    exact List.le_antisymm h1 h2
  · exact List.pairwise_map.2 (h.imp fun {a b} hab => decide_eq_true (List.le_of_lt hab))
end
end Go.Proofs.YtkpgnhhidnkmcaaGreatDoor

