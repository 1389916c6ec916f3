/-
  slices.SortFunc OVER THE BRIDGE: the closure by its contract, in whatever heap that holds what it reads. No program is named here.
-/
import Derived.Test.YtfadcbbjjdmmfaaK15
import Derived.Shelf.SlSortCmp.NoneTotal
namespace Go.RK
open Go Go.Proofs Go.Shelf

section
variable {P : Program} {ρ : Ren} {α : Type} [Inhabited α]
theorem grown_of {w w' : World} (hs : Same w w') (hx : Ext No w.heap w'.heap) : ∃ q os, w' = Go.Sort.grow (w.drewN q) os := by
  refine ⟨w'.drawn - w.drawn, w'.heap.extract w.heap.size w'.heap.size, ?_⟩
  have hd : w.drawn + (w'.drawn - w.drawn) = w'.drawn := by have := hs.drawn; omega
  have hh : w.heap ++ w'.heap.extract w.heap.size w'.heap.size = w'.heap := by
    have hsz := hx.size
    apply Array.ext_getElem?
    intro i
    rw [Array.getElem?_append]
    split
    · rename_i hi
      exact (hx.keep i hi nos).symm
    · rename_i hi
      rw [Array.getElem?_extract]
      split
      · congr 1; omega
      · rw [Array.getElem?_eq_none (by omega)]
  obtain ⟨h1, h2, h3, _⟩ := hs
  cases w
  cases w'
  simp only [Go.Sort.grow, World.drewN] at *
  simp_all
/-- Sorted, as a list. -/
theorem sorted_list {lt : α → α → Bool} {d d' : Array α} (hp : Go.Sort.PermIn 0 d.size d d') (hs : Go.Sort.SortedIn lt 0 d.size d') : d'.toList.Perm d.toList ∧ d'.toList.Pairwise fun x y => lt y x = false := by
  obtain ⟨hsz, _, hperm⟩ := hp
  have e1 : d'.extract 0 d.size = d' := by rw [← hsz]; exact Array.extract_size
  rw [e1, Array.extract_size] at hperm
  refine ⟨hperm, ?_⟩
  rw [List.pairwise_iff_getElem]
  intro i j hi hj hij
  have hi' : i < d'.size := by simpa using hi
  have hj' : j < d'.size := by simpa using hj
  have := hs i j (Nat.zero_le _) hij (by omega)
  rw [getElem!_pos d' j hj', getElem!_pos d' i hi'] at this
  simpa using this
/-- slices.SortFunc at one cell. -/
theorem sortFunc1 (L : SlLaysF.n6 P ρ) (enc : α → Value) (h1 : OneCell enc) (cf : α → α → Int) (hO : Go.Sort.SWO (ltOf cf)) (g : Nat) (cb : List Value) {h : Heap} {v : Value} {e : TypeId} (l : List α)
    (ho : Own h v e 1 l.length (l.map enc)) (hm : l.length ≤ 1000000000) (eg : ∀ args w, (callFunc g args).run P w = .ok (.enter g args) w)
    (hcmp : ∀ h', Ext (fun k => v.ownBlock = some k) h h' → ∀ x y : α, CallsH P g ⟨enc x :: enc y :: cb⟩ h' fun u h'' => u = .int .i64 (cf x y) ∧ Ext No h' h'') :
    CallsH P (ρ.f 6) ⟨[v, .func (.func g) #[] ⟨cb⟩]⟩ h fun u h' => u = .tuple ⟨[]⟩ ∧ ∃ l' : List α, l'.Perm l ∧ (l'.Pairwise fun x y => ¬ cf y x < 0) ∧ Own h' v e 1 l.length (l'.map enc) ∧ Ext (fun k => v.ownBlock = some k) h h' := by
  rcases ho.slice' with ⟨rfl, h0⟩ | ⟨b, cap, rfl⟩
  · obtain rfl := List.eq_nil_of_length_eq_zero h0
    exact fun w hw => (AnyF.slices_SortFunc_none { L with } none 0 (.func (.func g) #[] ⟨cb⟩) w).mono fun e w' ⟨he, hb⟩ => by
      subst hb
      subst hw
      exact ⟨.refl _, _, he, rfl, [], .refl _, List.Pairwise.nil, ho, .refl _ _⟩
  · intro w hw
    subst hw
    refine (Any.slices_SortFunc L enc h1 cf hO g ⟨cb⟩ b 0 cap l.toArray w eg (fun m os dk hs x y => ?_) (Own.holds enc ho) (ho.lt rfl) (by simp; omega)).mono fun e w' ⟨he, d', n, os, hp, hsd, hb⟩ => ?_
    · have hso := (sorted_heap enc (q := m) (os := os) (l' := dk.toList) ho (by simpa using hs)).2
      have e1 : dk.toList.toArray = dk := rfl
      rw [e1] at hso
      have e2 : (#[enc x, enc y] ++ (⟨cb⟩ : Array Value)) = ⟨enc x :: enc y :: cb⟩ := by apply Array.ext'; simp
      rw [e2]
      refine ((hcmp (sortWorld enc w b 0 m dk os).heap (hso.mono fun k _ e => by rw [e]; rfl) x y) (sortWorld enc w b 0 m dk os) rfl).mono fun e w' ⟨hs', u, he, hu, hx⟩ => ⟨by rw [he, hu], ?_⟩
      refine grown_of hs' ?_
      simpa [sortWorld] using hx
    · subst hb
      have hl := sorted_list hp hsd
      have := sorted_heap enc (q := n) (os := os) (l' := d'.toList) ho (by simpa using hl.1.length_eq)
      exact ⟨⟨rfl, rfl, rfl, by first | exact Nat.le_refl _ | exact Nat.le_add_right _ _⟩, _, he, rfl, d'.toList, by simpa using hl.1, hl.2.imp fun h => by simpa [ltOf] using h, by simpa [sortWorld] using this.1, by simpa [sortWorld] using this.2.mono fun k _ e => by rw [e]; rfl⟩
end
end Go.RK
