/-
  SORTED INTS, each once: slices.Sort and slices.Compact of a row of one's own (by the library's contracts).
-/
import Derived.Test.YtgfbilmlgibbfaaShelf
import Derived.Test.YtgfbilmlgibbfaaSl
import Derived.Test.YtgfbilmlgibbfaaK15
namespace Go.Proofs.Ytgfbilmlgibbfaa
open Go Go.RK

def srtI (l : List Int) : List Int := l.mergeSort fun x y => decide (x ≤ y)
theorem srtI_len (l : List Int) : (srtI l).length = l.length := by unfold srtI; simp
theorem srtI_nd {l : List Int} (h : l.Nodup) : (srtI l).Nodup := (List.mergeSort_perm l _).nodup_iff.2 h
theorem sort_int {h : Heap} {v : Value} (l : List Int) (ho : Own h v 3 1 l.length (ints l)) (hm : l.length ≤ 1000000) :
    CallsH Try.prog 71 ⟨[v]⟩ h fun u h' => u = .tuple ⟨[]⟩ ∧ Own h' v 3 1 l.length (ints (srtI l)) ∧ Ext (fun k => v.ownBlock = some k) h h' := by
  rcases ho.slice' with ⟨rfl, h0⟩ | ⟨g, cap, rfl⟩
  · obtain rfl := List.eq_nil_of_length_eq_zero h0
    exact fun w hw => (Try.slices_Sort_int_none none 0 w).mono fun e w' ⟨he, hb⟩ => ⟨⟨by rw [hb], by rw [hb], by rw [hb]⟩, _, he, rfl, by rw [hb, hw]; simpa [srtI] using ho, by rw [hb, hw]; exact .refl _ _⟩
  · intro w hw
    subst hw
    refine (Try.slices_Sort_int g 0 cap l w (Own.holds In ho) (ho.lt rfl) (by omega)).mono fun e w' ⟨he, n, os, hb⟩ => ?_
    subst hb
    have := sorted_heap In (q := n) (os := os) ho (srtI_len l)
    exact ⟨⟨rfl, rfl, rfl⟩, _, he, rfl, this.1, this.2.mono fun k _ e => by rw [e]; rfl⟩
theorem compact_nd {l : List Int} (h : l.Nodup) : Lib.compact l = l := by
  refine Lib.compact_all l fun j hj => ?_
  rcases j with _ | j
  · exact Lib.keeps_lt_one _ 0 (by omega)
  · refine Lib.keeps_pos ?_
    have h1 : j + 1 < l.length := hj
    have h2 : j < l.length := by omega
    simp only [Nat.add_sub_cancel]
    rw [List.getElem!_toArray, List.getElem!_toArray, getElem!_pos l (j + 1) h1, getElem!_pos l j h2]
    intro e
    have := (List.getElem_inj h).1 e
    omega
theorem compact_int {h : Heap} {v : Value} (l : List Int) (ho : Own h v 3 1 l.length (ints l)) (hm : l.length ≤ 1000000) (hn : l.Nodup) :
    CallsH Try.prog 72 ⟨[v]⟩ h fun u h' => u = v ∧ Own h' v 3 1 l.length (ints l) ∧ Ext (fun k => v.ownBlock = some k) h h' := by
  rcases ho.slice' with ⟨rfl, h0⟩ | ⟨g, cap, rfl⟩
  · obtain rfl := List.eq_nil_of_length_eq_zero h0
    exact fun w hw => (Try.slices_Compact_int_empty none 0 w).mono fun e w' ⟨he, hb⟩ => ⟨⟨by rw [hb], by rw [hb], by rw [hb]⟩, _, he, rfl, by rw [hb, hw]; exact ho, by rw [hb, hw]; exact .refl _ _⟩
  · intro w hw
    subst hw
    refine (Try.slices_Compact_int g 0 cap l w (Own.holds In ho) (by omega) ho.room).mono fun e w' ⟨he, q, hb⟩ => ?_
    subst hb
    rw [compact_nd hn, Nat.sub_self, List.replicate_zero, List.append_nil] at *
    have := sorted_heap In (q := q) (os := #[]) ho rfl
    rw [Go.Sort.grow_empty] at this
    exact ⟨⟨rfl, rfl, rfl⟩, _, he, rfl, this.1, this.2.mono fun k _ e => by rw [e]; rfl⟩
end Go.Proofs.Ytgfbilmlgibbfaa

