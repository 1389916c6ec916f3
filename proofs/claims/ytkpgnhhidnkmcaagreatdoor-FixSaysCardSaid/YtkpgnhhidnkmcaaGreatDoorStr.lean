/-
  package strings by the shelf's contracts: Split at one byte, Replace, Join of three.
-/
import Derived.Test.YtkpgnhhidnkmcaaGreatDoorBase
import Derived.Test.YtkpgnhhidnkmcaaGreatDoorShelf
import Derived.Below
namespace Go.Proofs.YtkpgnhhidnkmcaaGreatDoor
open Go Go.RK Go.RowKit

/-! ### a text cut at a byte, in plain Lean -/
def segStep (c : UInt8) (st : List (List UInt8) × List UInt8) (a : UInt8) : List (List UInt8) × List UInt8 := if a = c then (st.1 ++ [st.2], []) else (st.1, st.2 ++ [a])
def seg (c : UInt8) (s : List UInt8) : List (List UInt8) × List UInt8 := s.foldl (segStep c) ([], [])
/-- The pieces between bytes c. -/
def pieces (c : UInt8) (s : List UInt8) : List (List UInt8) := (seg c s).1 ++ [(seg c s).2]
theorem seg_from (c : UInt8) (r : List UInt8) : ∀ (I J : List (List UInt8)) (q : List UInt8), r.foldl (segStep c) (I ++ J, q) = (I ++ (r.foldl (segStep c) (J, q)).1, (r.foldl (segStep c) (J, q)).2) := by
  induction r with
  | nil => exact fun _ _ _ => rfl
  | cons a r ih =>
    intro I J q
    simp only [List.foldl_cons, segStep]
    split
    · rw [List.append_assoc]; exact ih I (J ++ [q]) []
    · exact ih I J (q ++ [a])
theorem seg_no {c : UInt8} (p : List UInt8) (h : c ∉ p) : ∀ (J : List (List UInt8)) (q : List UInt8), p.foldl (segStep c) (J, q) = (J, q ++ p) := by
  induction p with
  | nil => intro J q; simp
  | cons a p ih =>
    intro J q
    simp only [List.mem_cons, not_or] at h
    simp only [List.foldl_cons, segStep, if_neg (Ne.symm h.1)]
    rw [ih h.2]
    simp
theorem pieces_no {c : UInt8} {s : List UInt8} (h : c ∉ s) : pieces c s = [s] := by
  unfold pieces seg
  rw [seg_no s h]
  rfl
theorem pieces_app {c : UInt8} {p r : List UInt8} (h : c ∉ p) : pieces c (p ++ c :: r) = p :: pieces c r := by
  have e : seg c (p ++ c :: r) = (p :: (seg c r).1, (seg c r).2) := by
    unfold seg
    rw [List.foldl_append, seg_no p h, List.foldl_cons]
    show List.foldl (segStep c) (segStep c ([], [] ++ p) c) r = _
    rw [show segStep c ([], [] ++ p) c = ([p] ++ [], []) by simp [segStep], seg_from]
    rfl
  unfold pieces
  rw [e]
  rfl
theorem index_at (c : UInt8) {p r : List UInt8} (h : c ∉ p) : Lib.index (p ++ c :: r) [c] = p.length := by
  refine Lib.index_first (by simp) (by simp [Lib.occAt]) fun j hj => ?_
  rw [Lib.occAt, List.drop_append_of_le_length (by omega), List.drop_eq_getElem_cons hj]
  have : p[j] ≠ c := fun e => h (e ▸ List.getElem_mem hj)
  simp only [List.cons_append, List.isPrefixOf, Bool.and_eq_false_iff, beq_eq_false_iff_ne]
  exact .inl (Ne.symm this)
theorem split_pieces (c : UInt8) : ∀ (n : Nat) (s : List UInt8), s.length ≤ n → Lib.splitK [c] 0 (s.count c) s = pieces c s := by
  intro n
  induction n with
  | zero =>
    intro s hs
    obtain rfl := List.eq_nil_of_length_eq_zero (Nat.le_zero.1 hs)
    rfl
  | succ n ih =>
    intro s hs
    by_cases h : c ∈ s
    · obtain ⟨p, r, rfl, hp⟩ := List.eq_append_cons_of_mem h
      have hc : (p ++ c :: r).count c = r.count c + 1 := by simp [List.count_eq_zero.2 hp]
      have hi := index_at c (r := r) hp
      rw [hc, Lib.splitK, if_neg (by rw [hi, beq_iff_eq]; omega), hi, pieces_app hp]
      simp only [Int.toNat_natCast, Nat.add_zero, List.length_singleton, List.take_left]
      rw [show p ++ c :: r = (p ++ [c]) ++ r by simp, List.drop_left' (by simp), ih r (by simp at hs; omega)]
    · rw [List.count_eq_zero.2 h, pieces_no h]
      rfl
theorem pieces_len (c : UInt8) (s : List UInt8) : (pieces c s).length ≤ s.length + 1 := by
  have key : ∀ (r : List UInt8) (J : List (List UInt8)) (q : List UInt8), (r.foldl (segStep c) (J, q)).1.length ≤ J.length + r.length := by
    intro r
    induction r with
    | nil => exact fun _ _ => Nat.le_refl _
    | cons a r ih =>
      intro J q
      simp only [List.foldl_cons, segStep]
      split
      · have := ih (J ++ [q]) []
        simp at this ⊢; omega
      · have := ih J (q ++ [a])
        simp at this ⊢; omega
  have := key s [] []
  simp only [pieces, seg, List.length_append, List.length_singleton]
  simp at this
  omega
theorem pieces_each (c : UInt8) (s : List UInt8) : ∀ p ∈ pieces c s, p.length ≤ s.length := by
  have key : ∀ (r : List UInt8) (J : List (List UInt8)) (q : List UInt8) (n : Nat), (∀ p ∈ J, p.length ≤ n) → q.length + r.length ≤ n → (∀ p ∈ (r.foldl (segStep c) (J, q)).1, p.length ≤ n) ∧ (r.foldl (segStep c) (J, q)).2.length ≤ n := by
    intro r
    induction r with
    | nil => exact fun _ _ _ h h2 => ⟨h, by simpa using h2⟩
    | cons a r ih =>
      intro J q n h h2
      simp only [List.length_cons] at h2
      simp only [List.foldl_cons, segStep]
      split
      · exact ih _ _ n (fun p hp => by rcases List.mem_append.1 hp with hp | hp; exact h p hp; simp at hp; subst hp; omega) (by simp; omega)
      · exact ih _ _ n h (by simp; omega)
  have := key s [] [] s.length (by simp) (by simp)
  intro p hp
  rcases List.mem_append.1 hp with hp | hp
  · exact this.1 p hp
  · simp at hp; subst hp; exact this.2

/-! ### the contracts -/
/-- The library's own number lies where it lies. -/
def Ml (h : Heap) : Prop := ∃ m, cell h ⟨0, 0, none⟩ = some (In m)
theorem Ml.ext0 {h h' : Heap} (m : Ml h) (a : Ext No h h') : Ml h' := by
  obtain ⟨k, hk⟩ := m
  exact ⟨k, a.cell hk nos⟩
theorem below_calls {P : Program} {k : FuncId} {args : Array Value} {h : Heap} {v : Value} (hc : ∀ w : World, w.heap = h → Calls P k args w fun e w' => e = .returned v ∧ Below w.heap.size w w') : CallsH P k args h fun u h' => u = v ∧ Ext No h h' :=
  fun w hw => (hc w hw).mono fun e w' ⟨he, hb⟩ => ⟨⟨hb.tape, hb.os, hb.output, trivial⟩, v, he, rfl, by subst hw; exact ⟨hb.size, fun b hlt _ => hb.block b hlt⟩⟩
theorem St_data (l : List UInt8) : (ByteArray.mk ⟨l⟩).data.toList = l := rfl
theorem join3 {h : Heap} {b : Nat} (a c d : List UInt8) (hb : h[b]? = some (.cells ⟨[St a, St c, St d]⟩ 9 (0, 0))) (hl : a.length + c.length + d.length ≤ 1000000) :
    CallsH Tryz.prog 68 ⟨[.slice (some ⟨b, 0, none⟩) 3 3, St [32]]⟩ h fun u h' => u = St (a ++ [32] ++ c ++ [32] ++ d) ∧ Ext No h h' := by
  have e : Lib.join ([ByteArray.mk ⟨a⟩, ⟨⟨c⟩⟩, ⟨⟨d⟩⟩].map (·.data.toList)) (ByteArray.mk ⟨[32]⟩).data.toList = a ++ [32] ++ c ++ [32] ++ d := by
    show Lib.join [a, c, d] [32] = _
    rw [Lib.join_cons]
    simp [Lib.joinTail]
  refine below_calls fun w hw => ?_
  subst hw
  have := Tryz.strings_Join b 0 3 [⟨⟨a⟩⟩, ⟨⟨c⟩⟩, ⟨⟨d⟩⟩] ⟨⟨[32]⟩⟩ w (fun j x hj => ?_) (lt_of_some hb) (by simp) (by simp) (by rw [e]; simp; omega)
  · rw [e] at this
    exact this
  · rw [cell_eq, cell_of hb, Nat.zero_add]
    rcases j with _ | _ | _ | j <;> simp at hj ⊢
    all_goals (subst hj; rfl)
theorem replace_any {h : Heap} (s old new : List UInt8) (hM : Ml h) (hs : s.length ≤ 100000) (ho : 1 ≤ old.length) (hn : new.length ≤ 100000) :
    CallsH Tryz.prog 74 ⟨[St s, St old, St new, In 1]⟩ h fun u h' => u = St (Lib.replace s old new 1) ∧ Ext No h h' := by
  obtain ⟨m, hm⟩ := hM
  refine below_calls fun w hw => ?_
  subst hw
  have hc : Lib.countB ⟨⟨s⟩⟩ ⟨⟨old⟩⟩ ≤ s.length := Lib.countB_le ⟨⟨old⟩⟩ ho s.length ⟨⟨s⟩⟩ (Nat.le_refl _)
  have hmul : Lib.countB ⟨⟨s⟩⟩ ⟨⟨old⟩⟩ * new.length ≤ 100000 * 100000 := Nat.mul_le_mul (by omega) hn
  exact Tryz.strings_Replace ⟨⟨s⟩⟩ ⟨⟨old⟩⟩ ⟨⟨new⟩⟩ 1 m w (show s.length < 4294967281 by omega) hm ho (show s.length + Lib.countB ⟨⟨s⟩⟩ ⟨⟨old⟩⟩ * new.length ≤ 140737488355328 by omega)
end Go.Proofs.YtkpgnhhidnkmcaaGreatDoor

