/-
  THE COMPARE OF ARRAYS OF SCALARS; slices.SortFunc at structs over the bridge. No program is named here.
-/
import Derived.Test.YtfadcbbjjdmmfaaK17
import Derived.Test.YtfadcbbjjdmmfaaK19
namespace Go.RK
open Go Go.Proofs Go.Shelf

section
variable {P : Program}
theorem run_eqItems_sca (w : World) (d : Nat) {e : TypeId} {k : Kd} (hk : k.ok P e = true) (hp : P.plainKey e = true) (xs ys : Array Value) : ∀ (us vs : List Sca) (o : Nat), vs.length = us.length → (∀ a ∈ us, a.kd = k) → (∀ a ∈ vs, a.kd = k) →
    (∀ (j : Nat) (a : Sca), us[j]? = some a → xs[o + j]? = some a.val) → (∀ (j : Nat) (a : Sca), vs[j]? = some a → ys[o + j]? = some a.val) →
    (Op.eqItems (d + 1) e 1 xs ys (List.range' o us.length)).run P w = .ok (decide (us = vs)) w
  | [], vs, o, hl, _, _, _, _ => by
    obtain rfl : vs = [] := List.eq_nil_of_length_eq_zero hl
    simp [Op.eqItems]
  | a :: us, [], o, hl, _, _, _, _ => by simp at hl
  | a :: us, b :: vs, o, hl, ka, kb, hx, hy => by
    have p1 := hx 0 a rfl
    have p2 := hy 0 b rfl
    rw [Nat.add_zero] at p1 p2
    have r1 := run_part_plain (P := P) (w := w) hp p1
    have r2 := run_part_plain (P := P) (w := w) hp p2
    have r3 := run_eq_sca (P := P) w d hk (ka a (.head _)) (kb b (.head _))
    have ih := run_eqItems_sca w d hk hp xs ys us vs (o + 1) (by simpa using hl) (fun c hc => ka c (.tail _ hc)) (fun c hc => kb c (.tail _ hc)) (fun j c hj => by
      have := hx (j + 1) c (by simpa using hj)
      rwa [show o + (j + 1) = o + 1 + j by omega] at this) (fun j c hj => by
      have := hy (j + 1) c (by simpa using hj)
      rwa [show o + (j + 1) = o + 1 + j by omega] at this)
    rw [List.length_cons, List.range'_succ]
    simp only [Op.eqItems, Nat.mul_one, Sem.run_bind, r1, r2, r3, Result.andThen_ok]
    by_cases h : a = b
    · simp [h, ih]
    · simp [h]
variable {f : Fr} {h : Heap} {d : Option Tmp} {ty : TypeId} {pos : String} {af : Array Edge} {g : Option (Nat × Bool)}
theorem ok_eqlAS {t t2 e : TypeId} {x y : Operand} {n : Nat} {i : TypeInfo} {us vs : List Sca} (k : Kd) (hu : P.underlying t = some (.array n e)) (hi : P.info? e = some i) (hk : k.ok P e = true) (hp : P.plainKey e = true) (h1 : P.cellsOf e = 1) (hg : P.eqGuardType P.depth t = false)
    (hl : us.length = n) (hl2 : vs.length = n) (ka : ∀ a ∈ us, a.kd = k) (kb : ∀ a ∈ vs, a.kd = k) (hx : f.ev x = some (.agg ⟨us.map Sca.val⟩)) (hy : f.ev y = some (.agg ⟨vs.map Sca.val⟩)) :
    OkP P f ⟨d, .binOp .eql t x y t2, ty, pos, af, g⟩ h (.bool (decide (us = vs))) := fun ρ w hag _ => by
  have r1 := run_eqGuard_agg (P := P) w .eql t x y ⟨us.map Sca.val⟩ ⟨vs.map Sca.val⟩ hg
  have r2 := run_eql_struct (P := P) w t ⟨us.map Sca.val⟩ ⟨vs.map Sca.val⟩
  rw [show (10000 : Nat) = 9999 + 1 from rfl, run_equalIn_array w 9999 _ _ hu hi, h1, List.range_eq_range', ← hl] at r2
  rw [run_eqItems_sca w 9998 hk hp _ _ us vs 0 (by omega) ka kb (fun j a hj => by simp [hj]) (fun j a hj => by simp [hj])] at r2
  simp only [execOp, hag _ _ hx, hag _ _ hy, Sem.run_bind, r1, r2, Result.andThen_ok, Sem.run_pure]
end

/-! ### rows of structs, sorted -/
section
variable {P : Program} {ρ : Ren} {α : Type} [Inhabited α]
theorem flat_at (enc : α → List Value) {k : Nat} (hk : ∀ x, (enc x).length = k) : ∀ (l : List α) (q c : Nat), c < k → q < l.length → (l.flatMap enc)[q * k + c]? = (enc l[q]!)[c]?
  | [], q, c, _, h => by simp at h
  | x :: l, 0, c, hc, _ => by
    rw [List.flatMap_cons, Nat.zero_mul, Nat.zero_add, List.getElem?_append_left (by rw [hk]; exact hc)]
    rfl
  | x :: l, q + 1, c, hc, h => by
    have ih := flat_at enc hk l q c hc (by simpa using h)
    rw [List.flatMap_cons, List.getElem?_append_right (by rw [hk, Nat.succ_mul]; omega), hk, show (q + 1) * k + c - k = q * k + c by rw [Nat.succ_mul]; omega, ih]
    rfl
omit [Inhabited α] in
theorem flat_len (enc : α → List Value) {k : Nat} (hk : ∀ x, (enc x).length = k) (l : List α) : (l.flatMap enc).length = l.length * k := by
  induction l with
  | nil => simp
  | cons a l ih => rw [List.flatMap_cons, List.length_append, ih, hk, List.length_cons, Nat.succ_mul]; omega
theorem flatK_list (enc : α → List Value) {k : Nat} (hk : ∀ x, (enc x).length = k) (l : List α) : Go.Sort.flatK enc k l.toArray = (l.flatMap enc).toArray := by
  refine Go.Sort.ext_get! (by simp [flat_len enc hk]) fun t ht => ?_
  have ht' : t < l.length * k := by simpa using ht
  have k0 : 0 < k := by
    rcases Nat.eq_zero_or_pos k with h | h
    · subst h; simp at ht'
    · exact h
  have hq : t / k < l.length := Nat.div_lt_of_lt_mul (by rw [Nat.mul_comm]; exact ht')
  have hc := Nat.mod_lt t k0
  rw [Go.Sort.get_flatK _ _ _ t (by simpa using ht')]
  have h1 := flat_at enc hk l (t / k) (t % k) hc hq
  have e1 : t / k * k + t % k = t := by rw [Nat.mul_comm]; exact Nat.div_add_mod t k
  rw [e1] at h1
  have e2 : (l.toArray[t / k]!) = l[t / k]! := by simp
  have e3 : ((enc l[t / k]!)[t % k]!) = ((enc l[t / k]!)[t % k]?).getD default := by rw [List.getElem!_eq_getElem?_getD]
  rw [e2, e3, ← h1]
  simp
theorem Own.holdsN {w : World} {g n cap sz : Nat} {e : TypeId} {xs : List Value} (ho : Own w.heap (.slice (some ⟨g, 0, none⟩) n cap) e sz n xs) : Go.Sort.Holds id w g 0 xs.toArray := by
  obtain ⟨hl, ⟨hv, _⟩ | ⟨g0, cap0, cur, hv, hg, hn, hc, hs, htk⟩⟩ := ho
  · cases hv
  · simp only [Value.slice.injEq, Option.some.injEq, Addr.mk.injEq] at hv
    obtain ⟨⟨rfl, _, _⟩, _, rfl⟩ := hv
    intro j hj
    have hj' : j < xs.length := by simpa using hj
    refine ⟨?_, ?_⟩
    · rw [cell_eq, cell_of hg, Nat.zero_add]
      have e1 : (cur.toList.take (n * sz))[j]? = xs[j]? := by rw [htk]
      have e2 : j < n * sz := by omega
      rw [List.getElem?_take, if_pos e2, List.getElem?_eq_getElem hj'] at e1
      rw [← Array.getElem?_toList, e1]
      simp [hj']
    · unfold World.frozen?
      simp only [hg]
      simp
theorem sorted_heapN {w : World} {g n cap q sz : Nat} {e : TypeId} {xs xs' : List Value} {os : Array Obj} (ho : Own w.heap (.slice (some ⟨g, 0, none⟩) n cap) e sz n xs) (hl : xs'.length = xs.length) :
    Own (Go.Sort.grow (Go.Sort.putRow id (Go.Sort.ahead w q) g 0 xs'.toArray) os).heap (.slice (some ⟨g, 0, none⟩) n cap) e sz n xs' ∧ Ext (fun k => k = g) w.heap (Go.Sort.grow (Go.Sort.putRow id (Go.Sort.ahead w q) g 0 xs'.toArray) os).heap := by
  obtain ⟨hl0, ⟨hv, _⟩ | ⟨g0, cap0, cur, hv, hg, hn, hc, hs, htk⟩⟩ := ho
  · cases hv
  · simp only [Value.slice.injEq, Option.some.injEq, Addr.mk.injEq] at hv
    obtain ⟨⟨rfl, _, _⟩, _, rfl⟩ := hv
    have hlt := lt_of_some hg
    have hm : (w.heap.modify g (Go.Sort.onCells (Go.Sort.putCells id 0 xs'.toArray)) ++ os)[g]? = some (.cells (Go.Sort.putCells id 0 xs'.toArray cur) e (0, 0)) := by
      rw [Array.getElem?_append, if_pos (by simpa using hlt), Array.getElem?_modify, if_pos rfl, hg]
      rfl
    have hnc : n * sz ≤ cap * sz := Nat.mul_le_mul_right _ hn
    refine ⟨⟨by rw [hl, hl0], .inr ⟨g, cap, _, rfl, hm, hn, hc, by simp [Go.Sort.putCells, hs], ?_⟩⟩, ⟨by show w.heap.size ≤ (w.heap.modify g _ ++ os).size; simp, fun b hb hne => ?_⟩⟩
    · apply List.ext_getElem?
      intro j
      simp only [List.getElem?_take, Array.getElem?_toList, Go.Sort.putCells, Array.getElem?_mapIdx]
      by_cases hj : j < n * sz
      · have hjc : j < cur.size := by omega
        have hjl : j < xs'.length := by omega
        simp [hj, hjc, hjl]
      · rw [if_neg hj, List.getElem?_eq_none (by omega)]
    · show (w.heap.modify g _ ++ os)[b]? = _
      rw [Array.getElem?_append, if_pos (by simpa using hb), Array.getElem?_modify, if_neg (fun e => hne e.symm)]
/-- slices.SortFunc at structs. -/
theorem sortFuncN (L : SlLaysF0.n6 P ρ) {k : Nat} (aE : ∀ w, (isAgg (ρ.t 24)).run P w = .ok true w) (zE : ∀ w, (Go.sizeOf (ρ.t 24)).run P w = .ok k w) (enc : α → List Value) (hk : ∀ x, (enc x).length = k) (h1 : ∀ x, ∀ v ∈ enc x, v.oneCell' = true) (cf : α → α → Int) (hO : Go.Sort.SWO (ltOf cf)) (g : Nat) (cb : List Value)
    {h : Heap} {v : Value} {e : TypeId} (l : List α) (ho : Own h v e k l.length (l.flatMap enc)) (hm : l.length ≤ 1000000000) (eg : ∀ args w, (callFunc g args).run P w = .ok (.enter g args) w)
    (hcmp : ∀ h', Ext (fun k => v.ownBlock = some k) h h' → ∀ x y : α, CallsH P g ⟨.agg ⟨enc x⟩ :: .agg ⟨enc y⟩ :: cb⟩ h' fun u h'' => u = .int .i64 (cf x y) ∧ Ext No h' h'') :
    CallsH P (ρ.f 6) ⟨[v, .func (.func g) #[] ⟨cb⟩]⟩ h fun u h' => u = .tuple ⟨[]⟩ ∧ ∃ l' : List α, l'.Perm l ∧ (l'.Pairwise fun x y => ¬ cf y x < 0) ∧ Own h' v e k l.length (l'.flatMap enc) ∧ Ext (fun k => v.ownBlock = some k) h h' := by
  rcases ho.slice' with ⟨rfl, h0⟩ | ⟨b, cap, rfl⟩
  · obtain rfl := List.eq_nil_of_length_eq_zero h0
    exact fun w hw => (AnyF.slices_SortFunc_none L none 0 (.func (.func g) #[] ⟨cb⟩) w).mono fun e w' ⟨he, hb⟩ => by
      subst hb
      subst hw
      exact ⟨.refl _, _, he, rfl, [], .refl _, List.Pairwise.nil, ho, .refl _ _⟩
  · intro w hw
    subst hw
    have hH : Go.Sort.HoldsK enc k w b 0 l.toArray := by
      unfold Go.Sort.HoldsK
      rw [flatK_list enc hk]
      exact Own.holdsN ho
    refine (AnyQ.slices_SortFunc L k aE zE enc hk h1 cf hO g ⟨cb⟩ b 0 cap l.toArray w eg (fun m os dk hs x y => ?_) hH (ho.lt rfl) (by simp; omega)).mono fun e w' ⟨he, d', n, os, hp, hsd, hb⟩ => ?_
    · have hln : dk.toList.length = l.length := by simpa using hs
      have hso := (sorted_heapN (q := m) (os := os) (xs' := dk.toList.flatMap enc) ho (by rw [flat_len enc hk, flat_len enc hk, hln])).2
      rw [← flatK_list enc hk] at hso
      have e2 : (#[.agg (enc x).toArray, .agg (enc y).toArray] ++ (⟨cb⟩ : Array Value)) = ⟨.agg ⟨enc x⟩ :: .agg ⟨enc y⟩ :: cb⟩ := by apply Array.ext'; simp
      rw [e2]
      refine ((hcmp (sortWorldK enc k w b 0 m dk os).heap (hso.mono fun k _ e => by rw [e]; rfl) x y) (sortWorldK enc k w b 0 m dk os) rfl).mono fun e w' ⟨hs', u, he, hu, hx⟩ => ⟨by rw [he, hu], ?_⟩
      exact grown_of hs' hx
    · subst hb
      have hl := sorted_list hp hsd
      have := sorted_heapN (q := n) (os := os) (xs' := d'.toList.flatMap enc) ho (by rw [flat_len enc hk, flat_len enc hk, hl.1.length_eq])
      rw [← flatK_list enc hk] at this
      exact ⟨⟨rfl, rfl, rfl, by first | exact Nat.le_refl _ | exact Nat.le_add_right _ _⟩, _, he, rfl, d'.toList, by simpa using hl.1, hl.2.imp fun h => by simpa [ltOf] using h, this.1, this.2.mono fun k _ e => by rw [e]; rfl⟩
end
end Go.RK
