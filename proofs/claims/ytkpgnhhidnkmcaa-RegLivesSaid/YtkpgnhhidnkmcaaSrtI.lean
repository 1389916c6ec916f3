/-
  SORTED INTS, each once: slices.Sort and slices.Compact of a row of one's own (by the library's contracts).
-/
import Derived.Test.YtkpgnhhidnkmcaaShelf
import Derived.Test.YtkpgnhhidnkmcaaSl
import Derived.Test.YtkpgnhhidnkmcaaK15
namespace Go.Proofs.Ytkpgnhhidnkmcaa
open Go Go.RK

def srtI (l : List Int) : List Int := l.mergeSort fun x y => decide (x ≤ y)
theorem srtI_len (l : List Int) : (srtI l).length = l.length := by unfold srtI; simp
theorem srtI_nd {l : List Int} (h : l.Nodup) : (srtI l).Nodup := (List.mergeSort_perm l _).nodup_iff.2 h
theorem sort_int {h : Heap} {v : Value} (l : List Int) (ho : Own h v 3 1 l.length (ints l)) (hm : l.length ≤ 1000000) :
    CallsH Try.prog 50 ⟨[v]⟩ h fun u h' => u = .tuple ⟨[]⟩ ∧ Own h' v 3 1 l.length (ints (srtI l)) ∧ Ext (fun k => v.ownBlock = some k) h h' := by
  rcases ho.slice' with ⟨rfl, h0⟩ | ⟨g, cap, rfl⟩
  · obtain rfl := List.eq_nil_of_length_eq_zero h0
    exact fun w hw => (Try.slices_Sort_int_none none 0 w).mono fun e w' ⟨he, hb⟩ => ⟨⟨by rw [hb], by rw [hb], by rw [hb], by subst hb; exact Nat.le_refl _⟩, _, he, rfl, by rw [hb, hw]; simpa [srtI] using ho, by rw [hb, hw]; exact .refl _ _⟩
  · intro w hw
    subst hw
    refine (Try.slices_Sort_int g 0 cap l w (Own.holds In ho) (ho.lt rfl) (by omega)).mono fun e w' ⟨he, n, os, hb⟩ => ?_
    subst hb
    have := sorted_heap In (q := n) (os := os) ho (srtI_len l)
    exact ⟨⟨rfl, rfl, rfl, by first | exact Nat.le_refl _ | exact Nat.le_add_right _ _⟩, _, he, rfl, this.1, this.2.mono fun k _ e => by rw [e]; rfl⟩
end Go.Proofs.Ytkpgnhhidnkmcaa

