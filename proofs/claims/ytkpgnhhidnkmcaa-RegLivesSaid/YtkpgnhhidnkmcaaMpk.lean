/-
  MAPS AND LISTS OF PAIRS, in plain Lean, at whatever key: what is set, let go and found is alike in both.
-/
import Derived.Test.YtkpgnhhidnkmcaaK18
namespace Go.Proofs.Ytkpgnhhidnkmcaa
open Go Go.RK

section
variable {κ α : Type} [DecidableEq κ]
def getK (L : List (κ × α)) (n : κ) : Option α := (L.find? fun p => decide (p.1 = n)).map (·.2)
def delK (L : List (κ × α)) (n : κ) : List (κ × α) := L.filter fun p => decide (p.1 ≠ n)
theorem getK_nil (n : κ) : getK ([] : List (κ × α)) n = none := rfl
theorem getK_cons (p : κ × α) (L : List (κ × α)) (n : κ) : getK (p :: L) n = if p.1 = n then some p.2 else getK L n := by
  unfold getK
  rw [List.find?_cons]
  by_cases h : p.1 = n <;> simp [h]
theorem getK_mem {L : List (κ × α)} {n : κ} {v : α} (h : getK L n = some v) : (n, v) ∈ L := by
  unfold getK at h
  obtain ⟨p, hp, rfl⟩ := Option.map_eq_some_iff.1 h
  have h1 := List.find?_some hp
  simp at h1
  rw [← h1]
  exact List.mem_of_find?_eq_some hp
theorem getK_no {L : List (κ × α)} {n : κ} (h : getK L n = none) : ∀ p ∈ L, p.1 ≠ n := by
  unfold getK at h
  rw [Option.map_eq_none_iff, List.find?_eq_none] at h
  exact fun p hp e => h p hp (by simp [e])
theorem getK_none {L : List (κ × α)} {n : κ} (h : ∀ p ∈ L, p.1 ≠ n) : getK L n = none := by
  rcases hg : getK L n with _ | v
  · rfl
  · exact absurd rfl (h _ (getK_mem hg))
theorem getK_of {L : List (κ × α)} (hn : (L.map (·.1)).Nodup) {n : κ} {v : α} (h : (n, v) ∈ L) : getK L n = some v := by
  induction L with
  | nil => cases h
  | cons a L ih =>
    rw [getK_cons]
    simp only [List.map_cons, List.nodup_cons, List.mem_map, not_exists, not_and] at hn
    rcases List.mem_cons.1 h with rfl | h
    · rw [if_pos rfl]
    · rw [if_neg (fun e => hn.1 (n, v) h e.symm)]
      exact ih hn.2 h
theorem getK_perm {E L : List (κ × α)} (hp : E.Perm L) (hn : (L.map (·.1)).Nodup) (n : κ) : getK E n = getK L n := by
  have hn' : (E.map (·.1)).Nodup := (hp.map _).nodup_iff.2 hn
  rcases h : getK L n with _ | v
  · exact getK_none fun p hp' => getK_no h p (hp.mem_iff.1 hp')
  · exact getK_of hn' (hp.mem_iff.2 (getK_mem h))
theorem getK_keys {L : List (κ × α)} {n : κ} : (getK L n).isSome = true ↔ n ∈ L.map (·.1) := by
  constructor
  · intro h
    obtain ⟨v, hv⟩ := Option.isSome_iff_exists.1 h
    exact List.mem_map.2 ⟨_, getK_mem hv, rfl⟩
  · intro h
    obtain ⟨p, hp, rfl⟩ := List.mem_map.1 h
    rcases hg : getK L p.1 with _ | v
    · exact absurd rfl (getK_no hg p hp)
    · rfl
/-! ### maps -/
def encK (f : α → Value) (E : List (κ × α)) : List (κ × Value) := E.map fun p => (p.1, f p.2)
theorem alook_encK (f : α → Value) (E : List (κ × α)) (n : κ) : alook (encK f E) n = (getK E n).map f := by
  unfold alook encK getK
  induction E with
  | nil => rfl
  | cons a E ih =>
    simp only [List.map_cons, List.find?_cons]
    by_cases h : a.1 = n <;> simp [h] at ih ⊢
    exact ih
/-- What the map has behind a set. -/
def putK (E : List (κ × α)) (n : κ) (v : α) : List (κ × α) := if (getK E n).isSome = true then E.map (fun p => if p.1 = n then (n, v) else p) else E ++ [(n, v)]
theorem aput_encK (f : α → Value) (E : List (κ × α)) (n : κ) (v : α) : aput (encK f E) n (f v) = encK f (putK E n v) := by
  unfold aput putK
  rw [alook_encK]
  rcases getK E n with _ | w
  · simp [encK]
  · simp only [Option.map_some, Option.isSome_some, if_true, encK, List.map_map]
    refine List.map_congr_left fun p _ => ?_
    simp only [Function.comp]
    split <;> rfl
theorem adel_encK (f : α → Value) (E : List (κ × α)) (n : κ) : adel (encK f E) n = encK f (delK E n) := by
  unfold adel encK delK
  rw [List.filter_map]
  rfl
omit [DecidableEq κ] in
theorem encK_len (f : α → Value) (E : List (κ × α)) : (encK f E).length = E.length := by simp [encK]
omit [DecidableEq κ] in
theorem encK_keys (f : α → Value) (E : List (κ × α)) : (encK f E).map (·.1) = E.map (·.1) := by simp [encK, List.map_map, Function.comp_def]
theorem putK_perm {E L : List (κ × α)} (hp : E.Perm L) (hn : (L.map (·.1)).Nodup) (n : κ) (v : α) : (putK E n v).Perm (putK L n v) := by
  unfold putK
  rw [getK_perm hp hn]
  split
  · exact hp.map _
  · exact hp.append_right _
theorem delK_perm {E L : List (κ × α)} (hp : E.Perm L) (n : κ) : (delK E n).Perm (delK L n) := hp.filter _
theorem putK_keys (L : List (κ × α)) (n : κ) (v : α) : (putK L n v).map (·.1) = if n ∈ L.map (·.1) then L.map (·.1) else L.map (·.1) ++ [n] := by
  unfold putK
  by_cases h : (getK L n).isSome = true
  · rw [if_pos h, if_pos (getK_keys.1 h), List.map_map]
    refine List.map_congr_left fun p _ => ?_
    simp only [Function.comp]
    split
    · rename_i e; exact e.symm
    · rfl
  · rw [if_neg h, if_neg (fun e => h (getK_keys.2 e))]
    simp
theorem putK_nd {L : List (κ × α)} (hn : (L.map (·.1)).Nodup) (n : κ) (v : α) : ((putK L n v).map (·.1)).Nodup := by
  rw [putK_keys]
  split
  · exact hn
  · rename_i h
    rw [List.nodup_append]
    exact ⟨hn, by simp, fun a ha b hb => by rw [List.mem_singleton.1 hb]; exact fun e => h (e ▸ ha)⟩
theorem delK_keys (L : List (κ × α)) (n : κ) : (delK L n).map (·.1) = (L.map (·.1)).filter fun k => decide (k ≠ n) := by
  unfold delK
  rw [List.filter_map]
  rfl
theorem delK_nd {L : List (κ × α)} (hn : (L.map (·.1)).Nodup) (n : κ) : ((delK L n).map (·.1)).Nodup := by
  rw [delK_keys]
  exact hn.filter _
theorem getK_put {L : List (κ × α)} (hn : (L.map (·.1)).Nodup) (n m : κ) (v : α) : getK (putK L n v) m = if m = n then some v else getK L m := by
  by_cases e : m = n
  · subst e
    rw [if_pos rfl]
    refine getK_of (putK_nd hn m v) ?_
    unfold putK
    split
    · rename_i h
      obtain ⟨w, hw⟩ := Option.isSome_iff_exists.1 h
      exact List.mem_map.2 ⟨_, getK_mem hw, by simp⟩
    · simp
  · rw [if_neg e]
    rcases h : getK L m with _ | w
    · refine getK_none fun p hp e2 => ?_
      have : m ∈ (putK L n v).map (·.1) := e2 ▸ List.mem_map.2 ⟨p, hp, rfl⟩
      have hm : m ∉ L.map (·.1) := fun hm => by have := getK_keys.2 hm; rw [h] at this; cases this
      rw [putK_keys] at this
      split at this
      · exact hm this
      · rcases List.mem_append.1 this with h1 | h1
        · exact hm h1
        · exact e (List.mem_singleton.1 h1)
    · refine getK_of (putK_nd hn n v) ?_
      have := getK_mem h
      unfold putK
      split
      · exact List.mem_map.2 ⟨_, this, by simp [e]⟩
      · exact List.mem_append_left _ this
theorem getK_del (L : List (κ × α)) (n m : κ) : getK (delK L n) m = if m = n then none else getK L m := by
  induction L with
  | nil => simp [delK, getK]
  | cons a L ih =>
    unfold delK at ih ⊢
    rw [List.filter_cons]
    by_cases h : a.1 = n
    · rw [if_neg (by simp [h]), ih, getK_cons]
      by_cases e : m = n
      · simp [e]
      · rw [if_neg e, if_neg e, if_neg (fun e2 => e (by rw [← e2, h]))]
    · rw [if_pos (by simp [h]), getK_cons, getK_cons, ih]
      by_cases e : a.1 = m
      · rw [if_pos e, if_pos e, if_neg (fun e2 => h (by rw [e, e2]))]
      · rw [if_neg e, if_neg e]
end
end Go.Proofs.Ytkpgnhhidnkmcaa

