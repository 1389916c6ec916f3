/-
  RANGES OVER MAPS: an iterator, what has come out of it so far, in whatever order. No program is named here.
-/
import Derived.Test.YtkpgnhhidnkmcaaGreatDoorK12
import Derived.Maps.RangeRun
namespace Go.RK
open Go Go.MapKept Go.ChangeMaps

/-- Block r goes over the map in block m, that holds es; ds has come out so far. -/
structure ItA {κ : Type} (enc : κ → Value) (h : Heap) (r m : Nat) (es ds : List (κ × Value)) (arr : Array MapEntry) (clock since c0 : Nat) (seen : Array Nat) : Prop where
  it : h[r]? = some (.mapIter (some m) since seen c0)
  mp : h[m]? = some (.map arr clock)
  st : Stamped arr clock
  kv : arr.toList.map (fun e => (e.key, e.val)) = es.map fun p => (enc p.1, p.2)
  old : ∀ x ∈ arr.toList, x.born < since
  le : since ≤ c0
  le2 : since ≤ clock
  seen : ∀ x ∈ arr.toList, (seen.contains x.born = true ↔ ∃ p ∈ ds, (x.key, x.val) = (enc p.1, p.2))
  sub : ∀ p ∈ ds, p ∈ es
  nd : ds.Nodup
def It {κ : Type} (enc : κ → Value) (h : Heap) (r m : Nat) (es ds : List (κ × Value)) : Prop := ∃ arr clock since c0 seen, ItA enc h r m es ds arr clock since c0 seen
/-- p came out last. -/
def ItL {κ : Type} (enc : κ → Value) (h : Heap) (r m : Nat) (p : κ × Value) : Prop := ∃ arr clock since seen e, h[r]? = some (.mapIter (some m) since (Array.push seen e.born) clock) ∧ h[m]? = some (.map arr clock) ∧ (arr.toList.map (·.born)).Nodup ∧ e ∈ arr.toList ∧ e.key = enc p.1 ∧ e.val = p.2
/-- An iterator over no map. -/
def ItN (h : Heap) (r : Nat) : Prop := ∃ a s c, h[r]? = some (.mapIter Option.none a s c)
theorem key_inj {l : List MapEntry} (hn : (l.map (·.key)).Nodup) {x e : MapEntry} (hx : x ∈ l) (he : e ∈ l) (h : x.key = e.key) : x = e := by
  induction l with
  | nil => cases hx
  | cons a l ih =>
    simp only [List.map_cons, List.nodup_cons, List.mem_map, not_exists, not_and] at hn
    rcases List.mem_cons.1 hx with h1 | h1
    · rcases List.mem_cons.1 he with h2 | h2
      · rw [h1, h2]
      · exact absurd (h1 ▸ h).symm (hn.1 e h2)
    · rcases List.mem_cons.1 he with h2 | h2
      · exact absurd (h2 ▸ h) (hn.1 x h1)
      · exact ih hn.2 h1 h2

section
variable {P : Program} {f : Fr} {h h' : Heap} {d : Option Tmp} {ty : TypeId} {pos : String} {af : Array Edge} {g : Option (Nat × Bool)}
variable {κ : Type} {dsc : TypeDesc} {enc : κ → Value} {r m : Nat} {es ds : List (κ × Value)}
theorem It.ext {S : Nat → Prop} (i : It enc h r m es ds) (a : Ext S h h') (hr : ¬ S r) (hm : ¬ S m) : It enc h' r m es ds := by
  obtain ⟨arr, clock, since, c0, seen, k⟩ := i
  exact ⟨arr, clock, since, c0, seen, ⟨a.obj k.it hr, a.obj k.mp hm, k.st, k.kv, k.old, k.le, k.le2, k.seen, k.sub, k.nd⟩⟩
theorem ItL.ext {S : Nat → Prop} {p : κ × Value} (i : ItL enc h r m p) (a : Ext S h h') (hr : ¬ S r) (hm : ¬ S m) : ItL enc h' r m p := by
  obtain ⟨arr, clock, since, seen, e, h1, h2, h3⟩ := i
  exact ⟨arr, clock, since, seen, e, a.obj h1 hr, a.obj h2 hm, h3⟩
theorem It.map (i : It enc h r m es ds) : Mp dsc enc h m es := by
  obtain ⟨arr, clock, since, c0, seen, k⟩ := i
  exact ⟨arr, clock, k.mp, k.st, k.kv⟩
theorem It.lt (i : It enc h r m es ds) : r < h.size := by
  obtain ⟨arr, clock, since, c0, seen, k⟩ := i
  exact lt_of_some k.it
theorem It.sub (i : It enc h r m es ds) : ∀ p ∈ ds, p ∈ es := by
  obtain ⟨arr, clock, since, c0, seen, k⟩ := i
  exact k.sub
theorem It.nd (i : It enc h r m es ds) : ds.Nodup := by
  obtain ⟨arr, clock, since, c0, seen, k⟩ := i
  exact k.nd
theorem nodup_fst {α β : Type} {l : List (α × β)} (h : (l.map (·.1)).Nodup) : l.Nodup := by
  induction l with
  | nil => simp
  | cons a l ih =>
    simp only [List.map_cons, List.nodup_cons, List.mem_map, not_exists, not_and] at h ⊢
    exact ⟨fun ha => h.1 a ha rfl, ih h.2⟩
theorem sub_len {α : Type} {l m : List α} (h : l.Nodup) (hs : ∀ x ∈ l, x ∈ m) : l.length ≤ m.length := by
  have _inst : DecidableEq α := fun a b => Classical.propDecidable (a = b)
  induction l generalizing m with
  | nil => simp
  | cons a l ih =>
    have ha := hs a List.mem_cons_self
    have h1 := (List.nodup_cons.1 h)
    have := ih (m := m.erase a) h1.2 fun x hx => (List.mem_erase_of_ne (by intro e; subst e; exact h1.1 hx)).2 (hs x (List.mem_cons_of_mem _ hx))
    rw [List.length_erase_of_mem ha] at this
    have := List.length_pos_of_mem ha
    simp
    omega
theorem okE_range {t kt et : TypeId} {x : Operand} (hu : P.underlying t = some (.map kt et)) (hx : f.ev x = some (.map (some m))) (hm : Mp dsc enc h m es) :
    OkR P f ⟨d, .range t x, ty, pos, af, g⟩ h (fun v h' => ∃ r, v = .pointer (some ⟨r, 0, Option.none⟩) ∧ h.size ≤ r ∧ It enc h' r m es [] ∧ Ext No h h') := fun ρ w ha hw => by
  subst hw
  obtain ⟨arr, clock, hb, hs, hkv⟩ := hm
  have hr := run_range_map (P := P) w t kt et m arr clock hu hb
  refine ⟨_, w.alloc (.mapIter (some m) clock #[] clock), ⟨rfl, rfl, rfl, trivial⟩, ⟨w.heap.size, rfl, Nat.le_refl _, ⟨arr, clock, clock, clock, #[], ?_⟩, Ext.push _ _ _⟩, .inl ?_⟩
  · exact ⟨push_new _ _, (Ext.push No _ _).obj hb nos, hs, hkv, hs.1, Nat.le_refl _, Nat.le_refl _, fun x hx => by simp, by simp, by simp⟩
  · simp [execOp, ha _ _ hx, hr]
theorem okE_rangeN {t kt et : TypeId} {x : Operand} (hu : P.underlying t = some (.map kt et)) (hx : f.ev x = some (.map Option.none)) :
    OkR P f ⟨d, .range t x, ty, pos, af, g⟩ h (fun v h' => ∃ r, v = .pointer (some ⟨r, 0, Option.none⟩) ∧ h.size ≤ r ∧ ItN h' r ∧ Ext No h h') := fun ρ w ha hw => by
  subst hw
  have hr := run_range_nilMap (P := P) w t kt et hu
  refine ⟨_, w.alloc (.mapIter Option.none 0 #[] 0), ⟨rfl, rfl, rfl, trivial⟩, ⟨w.heap.size, rfl, Nat.le_refl _, ⟨_, _, _, push_new _ _⟩, Ext.push _ _ _⟩, .inl ?_⟩
  simp [execOp, ha _ _ hx, hr]
theorem ok_nextN {x : Operand} (hx : f.ev x = some (.pointer (some ⟨r, 0, Option.none⟩))) (hi : ItN h r) :
    OkP P f ⟨d, .next x false, ty, pos, af, g⟩ h (.tuple ⟨[.bool false]⟩) := fun ρ w ha hw => by
  subst hw
  obtain ⟨a, s, c, hr⟩ := hi
  simp only [execOp, ha _ _ hx, Instr.next, getObj, Sem.run_bind, Sem.run, hr, Result.andThen]
  rfl
theorem okE_next (E : KeyEnc κ dsc enc) {x : Operand} (hx : f.ev x = some (.pointer (some ⟨r, 0, Option.none⟩))) (hi : It enc h r m es ds) :
    OkR P f ⟨d, .next x false, ty, pos, af, g⟩ h (fun v h' => (v = .tuple ⟨[.bool false]⟩ ∧ h' = h ∧ ds.Perm es) ∨ ∃ p, v = .tuple ⟨[.bool true, enc p.1, p.2]⟩ ∧ p ∈ es ∧ p ∉ ds ∧ It enc h' r m es (ds ++ [p]) ∧ ItL enc h' r m p ∧ Ext (fun k => k = r) h h') := fun ρ w ha hw => by
  subst hw
  obtain ⟨arr, clock, since, c0, seen, k⟩ := hi
  have hrm : r ≠ m := fun e => by have := k.it; rw [e, k.mp] at this; cases this
  have hes : es.Nodup := nodup_fst (Mp.nodup E ⟨arr, clock, k.mp, k.st, k.kv⟩)
  rcases run_next_at (P := P) w ty r m since c0 seen arr clock k.it k.mp k.old k.le with ⟨h0, hr⟩ | ⟨e, he, w1, hw1, hr⟩
  · refine ⟨_, w, .refl w, .inl ⟨rfl, rfl, ?_⟩, .inl (by simp [execOp, ha _ _ hx, hr])⟩
    refine (List.perm_ext_iff_of_nodup k.nd hes).2 fun p => ⟨k.sub p, fun hp => ?_⟩
    have : (enc p.1, p.2) ∈ arr.toList.map (fun e => (e.key, e.val)) := by rw [k.kv]; exact List.mem_map.2 ⟨p, hp, rfl⟩
    obtain ⟨x, hx1, hx2⟩ := List.mem_map.1 this
    obtain ⟨q, hq, hq2⟩ := (k.seen x hx1).1 (all_seen arr seen h0 x hx1)
    rw [hx2] at hq2
    simp only [Prod.mk.injEq] at hq2
    obtain rfl : p = q := Prod.ext (E.inj _ _ hq2.1) hq2.2
    exact hq
  · obtain ⟨he1, he2⟩ := mem_left he
    have : (e.key, e.val) ∈ es.map fun p => (enc p.1, p.2) := by rw [← k.kv]; exact List.mem_map.2 ⟨e, he1, rfl⟩
    obtain ⟨p, hp, hpe⟩ := List.mem_map.1 this
    simp only [Prod.mk.injEq] at hpe
    have hnp : p ∉ ds := fun hin => by
      have := (k.seen e he1).2 ⟨p, hin, by rw [hpe.1, hpe.2]⟩
      rw [he2] at this
      cases this
    have hheap : (setBlock w1 r (.mapIter (some m) since (seen.push e.born) clock)).heap = w.heap.setIfInBounds r (.mapIter (some m) since (seen.push e.born) clock) := by
      rcases hw1 with rfl | rfl <;> rfl
    have hlt := lt_of_some k.it
    have hit : (w.heap.setIfInBounds r (.mapIter (some m) since (seen.push e.born) clock))[r]? = some (.mapIter (some m) since (seen.push e.born) clock) := by simp [hlt]
    have hmp : (w.heap.setIfInBounds r (.mapIter (some m) since (seen.push e.born) clock))[m]? = some (.map arr clock) := by
      rw [Array.getElem?_setIfInBounds_ne hrm]
      exact k.mp
    refine ⟨_, setBlock w1 r (.mapIter (some m) since (seen.push e.born) clock), ?_, .inr ⟨p, rfl, hp, hnp, ?_, ?_, ?_⟩, .inl (by simp [execOp, ha _ _ hx, hr, hpe.1, hpe.2])⟩
    · rcases hw1 with rfl | rfl <;> exact ⟨rfl, rfl, rfl, trivial⟩
    · rw [hheap]
      refine ⟨arr, clock, since, clock, seen.push e.born, ⟨hit, hmp, k.st, k.kv, k.old, k.le2, k.le2, fun x hx1 => ?_, fun q hq => ?_, ?_⟩⟩
      · rw [contains_push]
        constructor
        · intro hc
          rw [Bool.or_eq_true] at hc
          rcases hc with hc | hc
          · obtain ⟨q, hq, hq2⟩ := (k.seen x hx1).1 hc
            exact ⟨q, List.mem_append_left _ hq, hq2⟩
          · obtain rfl := born_inj k.st.2.1 hx1 he1 (by simpa using hc)
            exact ⟨p, by simp, by rw [hpe.1, hpe.2]⟩
        · rintro ⟨q, hq, hq2⟩
          rw [Bool.or_eq_true]
          rcases List.mem_append.1 hq with hq | hq
          · exact .inl ((k.seen x hx1).2 ⟨q, hq, hq2⟩)
          · obtain rfl := List.mem_singleton.1 hq
            simp only [Prod.mk.injEq] at hq2
            obtain rfl := key_inj k.st.2.2 hx1 he1 (by rw [hq2.1, hpe.1])
            exact .inr (by simp)
      · rcases List.mem_append.1 hq with hq | hq
        · exact k.sub q hq
        · obtain rfl := List.mem_singleton.1 hq
          exact hp
      · exact List.nodup_append.2 ⟨k.nd, by simp, fun a ha b hb e => hnp (by simp at hb; subst hb; subst e; exact ha)⟩
    · rw [hheap]
      exact ⟨arr, clock, since, seen, e, hit, hmp, k.st.2.1, he1, hpe.1.symm, hpe.2.symm⟩
    · rw [hheap]
      exact Ext.set _ _ _ rfl
theorem ok_entry {x : Operand} {p : κ × Value} (hx : f.ev x = some (.pointer (some ⟨r, 0, Option.none⟩))) (hi : ItL enc h r m p) :
    OkP P f ⟨d, .entry x, ty, pos, af, g⟩ h (.tuple ⟨[enc p.1, p.2]⟩) := fun ρ w ha hw => by
  subst hw
  obtain ⟨arr, clock, since, seen, e, h1, h2, h3, h4, h5, h6⟩ := hi
  have hr := run_entry_at (P := P) w r m since seen arr clock e h1 h2 h4 h3
  simp [execOp, ha _ _ hx, hr, h5, h6]
end
end Go.RK
