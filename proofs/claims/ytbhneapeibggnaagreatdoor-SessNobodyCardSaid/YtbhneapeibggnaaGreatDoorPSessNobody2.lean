/-
  SEVERAL TEXTS IN ONE: K18, Srl, Shelf, K15, Port4, Port5, Back, FmB, Sx, Pred, K27, Sx2, Sx3, Sx4, Sx5, Sx6, Sx7, SeL.
-/
import Derived.Test.YtbhneapeibggnaaGreatDoorPSessNobody1
import Derived.Maps.RangeRun
import Derived.Shelf.Sort.Plain
import Derived.Shelf.Slices.In.SortNone
import Derived.Test.YtbhneapeibggnaaGreatDoorProg
import Derived.Sort.Grow
import Derived.WideLaws
import Derived.Test.YtbhneapeibggnaaGreatDoorRows
import Derived.Lay
import Derived.LaidLaws
import Derived.LaidHandle
import Derived.Stop.Joined
/-
  RANGES OVER MAPS: an iterator, what has come out of it so far, in whatever order. No program is named here.
-/
namespace Go.RK
open Go Go.MapKept Go.ChangeMaps

/-- Block r goes over the map in block m, that holds es; ds has come out so far. -/
structure ItA {κ : Type} (enc : κ → Value) (h : Heap) (r m : Nat) (es ds : List (κ × Value)) (arr : Array MapEntry) (clock since c0 : Nat) (seen : Array Nat) : Prop where
  it : h[r]? = some (.mapIter (some m) since seen c0)
  mp : h[m]? = some (.map arr clock)
  st : Stamped arr clock
  kv : arr.toList.map (fun e => (e.key, e.val)) = es.map fun p => (enc p.1, p.2)
  old : ∀ x ∈ arr.toList, x.born < since
  le : since ≤ c0
  le2 : since ≤ clock
  seen : ∀ x ∈ arr.toList, (seen.contains x.born = true ↔ ∃ p ∈ ds, (x.key, x.val) = (enc p.1, p.2))
  sub : ∀ p ∈ ds, p ∈ es
  nd : ds.Nodup
def It {κ : Type} (enc : κ → Value) (h : Heap) (r m : Nat) (es ds : List (κ × Value)) : Prop := ∃ arr clock since c0 seen, ItA enc h r m es ds arr clock since c0 seen
/-- p came out last. -/
def ItL {κ : Type} (enc : κ → Value) (h : Heap) (r m : Nat) (p : κ × Value) : Prop := ∃ arr clock since seen e, h[r]? = some (.mapIter (some m) since (Array.push seen e.born) clock) ∧ h[m]? = some (.map arr clock) ∧ (arr.toList.map (·.born)).Nodup ∧ e ∈ arr.toList ∧ e.key = enc p.1 ∧ e.val = p.2
/-- An iterator over no map. -/
def ItN (h : Heap) (r : Nat) : Prop := ∃ a s c, h[r]? = some (.mapIter Option.none a s c)
theorem key_inj {l : List MapEntry} (hn : (l.map (·.key)).Nodup) {x e : MapEntry} (hx : x ∈ l) (he : e ∈ l) (h : x.key = e.key) : x = e := by
  induction l with
  | nil => cases hx
  | cons a l ih =>
    simp only [List.map_cons, List.nodup_cons, List.mem_map, not_exists, not_and] at hn
    rcases List.mem_cons.1 hx with h1 | h1
    · rcases List.mem_cons.1 he with h2 | h2
      · rw [h1, h2]
      · exact absurd (h1 ▸ h).symm (hn.1 e h2)
    · rcases List.mem_cons.1 he with h2 | h2
      · exact absurd (h2 ▸ h) (hn.1 x h1)
      · exact ih hn.2 h1 h2

section
variable {P : Program} {f : Fr} {h h' : Heap} {d : Option Tmp} {ty : TypeId} {pos : String} {af : Array Edge} {g : Option (Nat × Bool)}
variable {κ : Type} {dsc : TypeDesc} {enc : κ → Value} {r m : Nat} {es ds : List (κ × Value)}
theorem It.ext {S : Nat → Prop} (i : It enc h r m es ds) (a : Ext S h h') (hr : ¬ S r) (hm : ¬ S m) : It enc h' r m es ds := by
  obtain ⟨arr, clock, since, c0, seen, k⟩ := i
  exact ⟨arr, clock, since, c0, seen, ⟨a.obj k.it hr, a.obj k.mp hm, k.st, k.kv, k.old, k.le, k.le2, k.seen, k.sub, k.nd⟩⟩
theorem ItL.ext {S : Nat → Prop} {p : κ × Value} (i : ItL enc h r m p) (a : Ext S h h') (hr : ¬ S r) (hm : ¬ S m) : ItL enc h' r m p := by
  obtain ⟨arr, clock, since, seen, e, h1, h2, h3⟩ := i
  exact ⟨arr, clock, since, seen, e, a.obj h1 hr, a.obj h2 hm, h3⟩
theorem It.map (i : It enc h r m es ds) : Mp dsc enc h m es := by
  obtain ⟨arr, clock, since, c0, seen, k⟩ := i
  exact ⟨arr, clock, k.mp, k.st, k.kv⟩
theorem It.lt (i : It enc h r m es ds) : r < h.size := by
  obtain ⟨arr, clock, since, c0, seen, k⟩ := i
  exact lt_of_some k.it
theorem It.sub (i : It enc h r m es ds) : ∀ p ∈ ds, p ∈ es := by
  obtain ⟨arr, clock, since, c0, seen, k⟩ := i
  exact k.sub
theorem It.nd (i : It enc h r m es ds) : ds.Nodup := by
  obtain ⟨arr, clock, since, c0, seen, k⟩ := i
  exact k.nd
theorem nodup_fst {α β : Type} {l : List (α × β)} (h : (l.map (·.1)).Nodup) : l.Nodup := by
  induction l with
  | nil => simp
  | cons a l ih =>
    simp only [List.map_cons, List.nodup_cons, List.mem_map, not_exists, not_and] at h ⊢
    exact ⟨fun ha => h.1 a ha rfl, ih h.2⟩
theorem sub_len {α : Type} {l m : List α} (h : l.Nodup) (hs : ∀ x ∈ l, x ∈ m) : l.length ≤ m.length := by
  have _inst : DecidableEq α := fun a b => Classical.propDecidable (a = b)
  induction l generalizing m with
  | nil => simp
  | cons a l ih =>
    have ha := hs a List.mem_cons_self
    have h1 := (List.nodup_cons.1 h)
    have := ih (m := m.erase a) h1.2 fun x hx => (List.mem_erase_of_ne (by intro e; subst e; exact h1.1 hx)).2 (hs x (List.mem_cons_of_mem _ hx))
    rw [List.length_erase_of_mem ha] at this
    have := List.length_pos_of_mem ha
    simp
    omega
theorem okE_range {t kt et : TypeId} {x : Operand} (hu : P.underlying t = some (.map kt et)) (hx : f.ev x = some (.map (some m))) (hm : Mp dsc enc h m es) :
    OkR P f ⟨d, .range t x, ty, pos, af, g⟩ h (fun v h' => ∃ r, v = .pointer (some ⟨r, 0, Option.none⟩) ∧ h.size ≤ r ∧ It enc h' r m es [] ∧ Ext No h h') := fun ρ w ha hw => by
  subst hw
  obtain ⟨arr, clock, hb, hs, hkv⟩ := hm
  have hr := run_range_map (P := P) w t kt et m arr clock hu hb
  refine ⟨_, w.alloc (.mapIter (some m) clock #[] clock), ⟨rfl, rfl, rfl, by first | exact Nat.le_refl _ | exact Nat.le_add_right _ _⟩, ⟨w.heap.size, rfl, Nat.le_refl _, ⟨arr, clock, clock, clock, #[], ?_⟩, Ext.push _ _ _⟩, .inl ?_⟩
  · exact ⟨push_new _ _, (Ext.push No _ _).obj hb nos, hs, hkv, hs.1, Nat.le_refl _, Nat.le_refl _, fun x hx => by simp, by simp, by simp⟩
  · simp [execOp, ha _ _ hx, hr]
theorem okE_next (E : KeyEnc κ dsc enc) {x : Operand} (hx : f.ev x = some (.pointer (some ⟨r, 0, Option.none⟩))) (hi : It enc h r m es ds) :
    OkR P f ⟨d, .next x false, ty, pos, af, g⟩ h (fun v h' => (v = .tuple ⟨[.bool false]⟩ ∧ h' = h ∧ ds.Perm es) ∨ ∃ p, v = .tuple ⟨[.bool true, enc p.1, p.2]⟩ ∧ p ∈ es ∧ p ∉ ds ∧ It enc h' r m es (ds ++ [p]) ∧ ItL enc h' r m p ∧ Ext (fun k => k = r) h h') := fun ρ w ha hw => by
  subst hw
  obtain ⟨arr, clock, since, c0, seen, k⟩ := hi
  have hrm : r ≠ m := fun e => by have := k.it; rw [e, k.mp] at this; cases this
  have hes : es.Nodup := nodup_fst (Mp.nodup E ⟨arr, clock, k.mp, k.st, k.kv⟩)
  rcases run_next_at (P := P) w ty r m since c0 seen arr clock k.it k.mp k.old k.le with ⟨h0, hr⟩ | ⟨e, he, w1, hw1, hr⟩
  · refine ⟨_, w, .refl w, .inl ⟨rfl, rfl, ?_⟩, .inl (by simp [execOp, ha _ _ hx, hr])⟩
    refine (List.perm_ext_iff_of_nodup k.nd hes).2 fun p => ⟨k.sub p, fun hp => ?_⟩
    have : (enc p.1, p.2) ∈ arr.toList.map (fun e => (e.key, e.val)) := by rw [k.kv]; exact List.mem_map.2 ⟨p, hp, rfl⟩
    obtain ⟨x, hx1, hx2⟩ := List.mem_map.1 this
    obtain ⟨q, hq, hq2⟩ := (k.seen x hx1).1 (all_seen arr seen h0 x hx1)
    rw [hx2] at hq2
    simp only [Prod.mk.injEq] at hq2
    obtain rfl : p = q := Prod.ext (E.inj _ _ hq2.1) hq2.2
    exact hq
  · obtain ⟨he1, he2⟩ := mem_left he
    have : (e.key, e.val) ∈ es.map fun p => (enc p.1, p.2) := by rw [← k.kv]; exact List.mem_map.2 ⟨e, he1, rfl⟩
    obtain ⟨p, hp, hpe⟩ := List.mem_map.1 this
    simp only [Prod.mk.injEq] at hpe
    have hnp : p ∉ ds := fun hin => by
      have := (k.seen e he1).2 ⟨p, hin, by rw [hpe.1, hpe.2]⟩
      rw [he2] at this
      cases this
    have hheap : (setBlock w1 r (.mapIter (some m) since (seen.push e.born) clock)).heap = w.heap.setIfInBounds r (.mapIter (some m) since (seen.push e.born) clock) := by
      rcases hw1 with rfl | rfl <;> rfl
    have hlt := lt_of_some k.it
    have hit : (w.heap.setIfInBounds r (.mapIter (some m) since (seen.push e.born) clock))[r]? = some (.mapIter (some m) since (seen.push e.born) clock) := by simp [hlt]
    have hmp : (w.heap.setIfInBounds r (.mapIter (some m) since (seen.push e.born) clock))[m]? = some (.map arr clock) := by
      rw [Array.getElem?_setIfInBounds_ne hrm]
      exact k.mp
    refine ⟨_, setBlock w1 r (.mapIter (some m) since (seen.push e.born) clock), ?_, .inr ⟨p, rfl, hp, hnp, ?_, ?_, ?_⟩, .inl (by simp [execOp, ha _ _ hx, hr, hpe.1, hpe.2])⟩
    · rcases hw1 with rfl | rfl <;> exact ⟨rfl, rfl, rfl, by first | exact Nat.le_refl _ | exact Nat.le_add_right _ _⟩
    · rw [hheap]
      refine ⟨arr, clock, since, clock, seen.push e.born, ⟨hit, hmp, k.st, k.kv, k.old, k.le2, k.le2, fun x hx1 => ?_, fun q hq => ?_, ?_⟩⟩
      · rw [contains_push]
        constructor
        · intro hc
          rw [Bool.or_eq_true] at hc
          rcases hc with hc | hc
          · obtain ⟨q, hq, hq2⟩ := (k.seen x hx1).1 hc
            exact ⟨q, List.mem_append_left _ hq, hq2⟩
          · obtain rfl := born_inj k.st.2.1 hx1 he1 (by simpa using hc)
            exact ⟨p, by simp, by rw [hpe.1, hpe.2]⟩
        · rintro ⟨q, hq, hq2⟩
          rw [Bool.or_eq_true]
          rcases List.mem_append.1 hq with hq | hq
          · exact .inl ((k.seen x hx1).2 ⟨q, hq, hq2⟩)
          · obtain rfl := List.mem_singleton.1 hq
            simp only [Prod.mk.injEq] at hq2
            obtain rfl := key_inj k.st.2.2 hx1 he1 (by rw [hq2.1, hpe.1])
            exact .inr (by simp)
      · rcases List.mem_append.1 hq with hq | hq
        · exact k.sub q hq
        · obtain rfl := List.mem_singleton.1 hq
          exact hp
      · exact List.nodup_append.2 ⟨k.nd, by simp, fun a ha b hb e => hnp (by simp at hb; subst hb; subst e; exact ha)⟩
    · rw [hheap]
      exact ⟨arr, clock, since, seen, e, hit, hmp, k.st.2.1, he1, hpe.1.symm, hpe.2.symm⟩
    · rw [hheap]
      exact Ext.set _ _ _ rfl
theorem ok_entry {x : Operand} {p : κ × Value} (hx : f.ev x = some (.pointer (some ⟨r, 0, Option.none⟩))) (hi : ItL enc h r m p) :
    OkP P f ⟨d, .entry x, ty, pos, af, g⟩ h (.tuple ⟨[enc p.1, p.2]⟩) := fun ρ w ha hw => by
  subst hw
  obtain ⟨arr, clock, since, seen, e, h1, h2, h3, h4, h5, h6⟩ := hi
  have hr := run_entry_at (P := P) w r m since seen arr clock e h1 h2 h4 h3
  simp [execOp, ha _ _ hx, hr, h5, h6]
end
end Go.RK

/-
  LISTS SORTED BY A TEXT, AND MAPS, in plain Lean: what is set, let go and found is alike in both; names sorted.
-/
namespace Go.Proofs.YtbhneapeibggnaaGreatDoor
open Go Go.RK

theorem lt_tri {a b : List UInt8} (h1 : ¬ a < b) (h2 : ¬ b < a) : a = b := List.le_antisymm (List.not_lt.1 h2) (List.not_lt.1 h1)

section
variable {α β : Type}
/-- Rising, each key once. -/
def Rise (L : List (List UInt8 × α)) : Prop := L.Pairwise fun a b => a.1 < b.1
def setL : List (List UInt8 × α) → List UInt8 → α → List (List UInt8 × α)
  | [], n, v => [(n, v)]
  | (m, w) :: L, n, v => if m < n then (m, w) :: setL L n v else if m = n then (n, v) :: L else (n, v) :: (m, w) :: L
def delL (L : List (List UInt8 × α)) (n : List UInt8) : List (List UInt8 × α) := L.filter fun p => decide (p.1 ≠ n)
def getL (L : List (List UInt8 × α)) (n : List UInt8) : Option α := (L.find? fun p => decide (p.1 = n)).map (·.2)
theorem Rise.nd {L : List (List UInt8 × α)} (h : Rise L) : (L.map (·.1)).Nodup := by
  refine List.pairwise_map.2 (h.imp fun {a b} hab e => ?_)
  rw [e] at hab
  exact List.lt_irrefl _ hab
theorem mem_setL {L : List (List UInt8 × α)} {n : List UInt8} {v : α} {p : List UInt8 × α} (h : p ∈ setL L n v) : p = (n, v) ∨ p ∈ L := by
  induction L with
  | nil => simpa [setL] using h
  | cons a L ih =>
    obtain ⟨m, w⟩ := a
    unfold setL at h
    split at h
    · rcases List.mem_cons.1 h with rfl | h
      · exact .inr List.mem_cons_self
      · exact (ih h).imp id (List.mem_cons_of_mem _)
    · split at h
      · rcases List.mem_cons.1 h with rfl | h
        · exact .inl rfl
        · exact .inr (List.mem_cons_of_mem _ h)
      · rcases List.mem_cons.1 h with rfl | h
        · exact .inl rfl
        · exact .inr h
theorem Rise.set {L : List (List UInt8 × α)} (h : Rise L) (n : List UInt8) (v : α) : Rise (setL L n v) := by
  induction L with
  | nil => simp [setL, Rise]
  | cons a L ih =>
    obtain ⟨m, w⟩ := a
    obtain ⟨h1, h2⟩ := List.pairwise_cons.1 h
    unfold setL
    split
    · rename_i hlt
      refine List.pairwise_cons.2 ⟨fun p hp => ?_, ih h2⟩
      rcases mem_setL hp with rfl | hp
      · exact hlt
      · exact h1 p hp
    · rename_i hlt
      split
      · rename_i he
        subst he
        exact List.pairwise_cons.2 ⟨h1, h2⟩
      · rename_i hne
        have hnm : n < m := by
          rcases Decidable.em (n < m) with h | h
          · exact h
          · exact absurd (lt_tri hlt h) hne
        refine List.pairwise_cons.2 ⟨fun p hp => ?_, h⟩
        rcases List.mem_cons.1 hp with rfl | hp
        · exact hnm
        · exact List.lt_trans hnm (h1 p hp)
/-! ### maps -/
def encE (f : α → Value) (E : List (List UInt8 × α)) : List (List UInt8 × Value) := E.map fun p => (p.1, f p.2)
/-- What the map has behind a set. -/
def putE (E : List (List UInt8 × α)) (n : List UInt8) (v : α) : List (List UInt8 × α) := if (getL E n).isSome = true then E.map (fun p => if p.1 = n then (n, v) else p) else E ++ [(n, v)]
/-- The names of a list, sorted. -/
def srtS (l : List (List UInt8)) : List (List UInt8) := l.mergeSort fun x y => decide (x ≤ y)
end
end Go.Proofs.YtbhneapeibggnaaGreatDoor


/-
  DERIVED: THE SHELF's CONTRACTS AT THIS DUMP, IN PLAIN WORDS (tools/lay-plain.mjs out of 'TryzShelf.lean', which tools/lay-shelf.mjs wrote): THE SAME DECLARATIONS UNDER THE SAME NAMES: 'import', 'namespace', 'open', 'def', 'theorem' AND NOTHING ELSE: no command of the shelf's: FOR A HAND-IN. Each laying: the table of numbers ('.._ren') and one theorem, a field a fact of the dump's own or the kernel's comparison; each contract: ONE APPLICATION.
-/
namespace Go.Proofs
open Go.Shelf
def Tryz.lays190_ren : Go.Shelf.Ren := ⟨fun | 190 => 25 | 125 => 59 | 258 => 58 | 128 => 114 | 129 => 115 | 302 => 105 | 303 => 106 | 304 => 107 | 305 => 108 | 306 => 109 | 307 => 110 | 308 => 111 | 309 => 112 | 310 => 113 | 333 => 156 | 329 => 157 | 330 => 158 | 334 => 159 | 335 => 160 | 336 => 161 | 344 => 199 | n => n, fun | 31 => 37 | 9 => 9 | 3 => 3 | 46 => 114 | 0 => 0 | 51 => 188 | 53 => 190 | 4 => 4 | 183 => 180 | 182 => 179 | 131 => 185 | 5 => 5 | 218 => 228 | 222 => 232 | 228 => 266 | 229 => 267 | n => n, fun | n => n⟩
theorem Tryz.lays190 : Go.Proofs.Lays.n190 Tryz.prog Tryz.lays190_ren := {
  mixed := by kernel_rfl
  f125 := Tryz.func59.trans (congrArg some (by kernel_rfl))
  f128 := Tryz.func114.trans (congrArg some (by kernel_rfl))
  f129 := Tryz.func115.trans (congrArg some (by kernel_rfl))
  f190 := Tryz.func25.trans (congrArg some (by kernel_rfl))
  f258 := Tryz.func58.trans (congrArg some (by kernel_rfl))
  f302 := Tryz.func105.trans (congrArg some (by kernel_rfl))
  f303 := Tryz.func106.trans (congrArg some (by kernel_rfl))
  f304 := Tryz.func107.trans (congrArg some (by kernel_rfl))
  f305 := Tryz.func108.trans (congrArg some (by kernel_rfl))
  f306 := Tryz.func109.trans (congrArg some (by kernel_rfl))
  f307 := Tryz.func110.trans (congrArg some (by kernel_rfl))
  f308 := Tryz.func111.trans (congrArg some (by kernel_rfl))
  f309 := Tryz.func112.trans (congrArg some (by kernel_rfl))
  f310 := Tryz.func113.trans (congrArg some (by kernel_rfl))
  f329 := Tryz.func157.trans (congrArg some (by kernel_rfl))
  f330 := Tryz.func158.trans (congrArg some (by kernel_rfl))
  f333 := Tryz.func156.trans (congrArg some (by kernel_rfl))
  f334 := Tryz.func159.trans (congrArg some (by kernel_rfl))
  f335 := Tryz.func160.trans (congrArg some (by kernel_rfl))
  f336 := Tryz.func161.trans (congrArg some (by kernel_rfl))
  f344 := Tryz.func199.trans (congrArg some (by kernel_rfl))
  t0 := Tryz.underlying0
  a0 := Tryz.isAgg0
  z0 := Tryz.sizeOf0
  v0 := Tryz.zeroValue0
  t3 := Tryz.underlying3
  a3 := Tryz.isAgg3
  z3 := Tryz.sizeOf3
  v3 := Tryz.zeroValue3
  t4 := Tryz.underlying4
  a4 := Tryz.isAgg4
  z4 := Tryz.sizeOf4
  v4 := Tryz.zeroValue4
  t5 := Tryz.underlying5
  a5 := Tryz.isAgg5
  z5 := Tryz.sizeOf5
  v5 := Tryz.zeroValue5
  t9 := Tryz.underlying9
  a9 := Tryz.isAgg9
  z9 := Tryz.sizeOf9
  v9 := Tryz.zeroValue9
  t31 := Tryz.underlying37
  a31 := Tryz.isAgg37
  z31 := Tryz.sizeOf37
  v31 := Tryz.zeroValue37
  t46 := Tryz.underlying114
  a46 := Tryz.isAgg114
  z46 := Tryz.sizeOf114
  v46 := Tryz.zeroValue114
  t51 := Tryz.underlying188
  a51 := Tryz.isAgg188
  z51 := Tryz.sizeOf188
  v51 := Tryz.zeroValue188
  t53 := Tryz.underlying190
  a53 := Tryz.isAgg190
  z53 := Tryz.sizeOf190
  v53 := Tryz.zeroValue190
  t131 := Tryz.underlying185
  a131 := Tryz.isAgg185
  z131 := Tryz.sizeOf185
  v131 := Tryz.zeroValue185
  t182 := Tryz.underlying179
  a182 := Tryz.isAgg179
  z182 := Tryz.sizeOf179
  v182 := Tryz.zeroValue179
  t183 := Tryz.underlying180
  a183 := Tryz.isAgg180
  z183 := Tryz.sizeOf180
  v183 := Tryz.zeroValue180
  t218 := Tryz.underlying228
  a218 := Tryz.isAgg228
  z218 := Tryz.sizeOf228
  v218 := Tryz.zeroValue228
  t222 := Tryz.underlying232
  a222 := Tryz.isAgg232
  z222 := Tryz.sizeOf232
  v222 := Tryz.zeroValue232
  t228 := Tryz.underlying266
  a228 := Tryz.isAgg266
  z228 := Tryz.sizeOf266
  v228 := Tryz.zeroValue266
  t229 := Tryz.underlying267
  a229 := Tryz.isAgg267
  z229 := Tryz.sizeOf267
  v229 := Tryz.zeroValue267 }
open Go.Sort Go.RowKit in
theorem Tryz.slices_Sort_string (blk off cap : Nat) (ss : List (List UInt8)) (w : World) (hH : Holds encStr w blk off ss.toArray) (hblk : blk < w.heap.size) (hsz : ss.length < 4611686018427387904) :
    Calls Tryz.prog 25 #[.slice (some ⟨blk, off, none⟩) ss.length cap] w fun e w' =>
      e = .returned (.tuple #[]) ∧ ∃ n os, w' = grow (putRow encStr (Sort.ahead w n) blk off (ss.mergeSort fun x y => decide (x ≤ y)).toArray) os := Any.slices_Sort_string Tryz.lays190 blk off cap ss w hH hblk hsz
open Go.RowKit Go.Sort in
/-- .. and plain. (LAID: no walk: one application.) -/
theorem Tryz.slices_Sort_string_none (p : Option Addr) (cap : Nat) (w : World) :
    Calls Tryz.prog 25 #[.slice p 0 cap] w fun e w' => e = .returned (.tuple #[]) ∧ w' = w := Any.slices_Sort_string_none Tryz.lays190 p cap w
end Go.Proofs

/-
  ROWS THAT ARE TURNED IN PLACE BY THE LIBRARY's SORT AND COMPACT. No program is named here.
-/
namespace Go.RK
open Go

section
variable {h : Heap}
/-- What the library's contracts ask of a row of one's own. -/
theorem Own.holds {α : Type} [Inhabited α] (enc : α → Value) {w : World} {g n cap : Nat} {e : TypeId} {l : List α} (ho : Own w.heap (.slice (some ⟨g, 0, none⟩) n cap) e 1 n (l.map enc)) : Go.Sort.Holds enc w g 0 l.toArray := by
  obtain ⟨hl, ⟨hv, _⟩ | ⟨g0, cap0, cur, hv, hg, hn, hc, hs, htk⟩⟩ := ho
  · cases hv
  · simp only [Value.slice.injEq, Option.some.injEq, Addr.mk.injEq] at hv
    obtain ⟨⟨rfl, _, _⟩, _, rfl⟩ := hv
    intro j hj
    have hj' : j < l.length := by simpa using hj
    refine ⟨?_, ?_⟩
    · rw [cell_eq, cell_of hg, Nat.zero_add]
      have e1 : (cur.toList.take (n * 1))[j]? = (l.map enc)[j]? := by rw [htk]
      have e2 : j < n * 1 := by
        have := congrArg List.length htk
        simp at this hl
        omega
      rw [List.getElem?_take, if_pos e2, List.getElem?_map, List.getElem?_eq_getElem hj'] at e1
      rw [← Array.getElem?_toList, e1]
      simp [hj']
    · unfold World.frozen?
      simp only [hg]
      simp
theorem sorted_heap {α : Type} [Inhabited α] (enc : α → Value) {w : World} {g n cap q : Nat} {e : TypeId} {l l' : List α} {os : Array Obj} (ho : Own w.heap (.slice (some ⟨g, 0, none⟩) n cap) e 1 n (l.map enc)) (hl : l'.length = n) :
    Own (Go.Sort.grow (Go.Sort.putRow enc (Go.Sort.ahead w q) g 0 l'.toArray) os).heap (.slice (some ⟨g, 0, none⟩) n cap) e 1 n (l'.map enc) ∧ Ext (fun k => k = g) w.heap (Go.Sort.grow (Go.Sort.putRow enc (Go.Sort.ahead w q) g 0 l'.toArray) os).heap := by
  obtain ⟨hl0, ⟨hv, _⟩ | ⟨g0, cap0, cur, hv, hg, hn, hc, hs, htk⟩⟩ := ho
  · cases hv
  · simp only [Value.slice.injEq, Option.some.injEq, Addr.mk.injEq] at hv
    obtain ⟨⟨rfl, _, _⟩, _, rfl⟩ := hv
    have hlt := lt_of_some hg
    have hm : (w.heap.modify g (Go.Sort.onCells (Go.Sort.putCells enc 0 l'.toArray)) ++ os)[g]? = some (.cells (Go.Sort.putCells enc 0 l'.toArray cur) e (0, 0)) := by
      rw [Array.getElem?_append, if_pos (by simpa using hlt), Array.getElem?_modify, if_pos rfl, hg]
      rfl
    refine ⟨⟨by simp [hl], .inr ⟨g, cap, _, rfl, hm, hn, hc, by simp [Go.Sort.putCells, hs], ?_⟩⟩, ⟨by show w.heap.size ≤ (w.heap.modify g _ ++ os).size; simp, fun b hb hne => ?_⟩⟩
    · apply List.ext_getElem?
      intro j
      simp only [Nat.mul_one, List.getElem?_take, Array.getElem?_toList, Go.Sort.putCells, Array.getElem?_mapIdx, List.getElem?_map]
      by_cases hj : j < n
      · have hjc : j < cur.size := by omega
        have hjl : j < l'.length := by omega
        simp [hj, hjc, hjl]
      · rw [if_neg hj, List.getElem?_eq_none (by omega)]
        rfl
    · show (w.heap.modify g _ ++ os)[b]? = _
      rw [Array.getElem?_append, if_pos (by simpa using hb), Array.getElem?_modify, if_neg (fun e => hne e.symm)]
theorem Own.slice' {v : Value} {e : TypeId} {sz n : Nat} {xs : List Value} (ho : Own h v e sz n xs) : (v = .slice none 0 0 ∧ n = 0) ∨ ∃ g cap, v = .slice (some ⟨g, 0, none⟩) n cap := by
  obtain ⟨_, h0 | ⟨g, cap, cur, hv, _⟩⟩ := ho
  · exact .inl h0
  · exact .inr ⟨g, cap, hv⟩
end
end Go.RK

/-
  PORTAL (layer 28): one portal among those of a set: found by its name.
-/
namespace Go.Proofs.YtbhneapeibggnaaGreatDoor
open Go Go.RK

/-- A set at block b, its map at m, of entries es; its portal of that name at p, with that data. -/
structure Pe (h : Heap) (b m : Nat) (es : List (List UInt8 × Value)) (p : Nat) (name : List UInt8) (d : PD) : Prop where
  set : h[b]? = some (.cells ⟨[.map (some m)]⟩ 97 (0, 0))
  map : Mp .string St h m es
  look : alook es name = some (.pointer (some ⟨p, 0, none⟩))
  blk : h[p]? = some (.cells ⟨d.cells⟩ 147 (0, 0))
  ok : d.ok h
  apart : ∀ k, d.F k → k ≠ p
theorem Pe.ne {es : List (List UInt8 × Value)} {h : Heap} {b m p : Nat} {name : List UInt8} {d : PD} (r : Pe h b m es p name d) : b ≠ p ∧ m ≠ p := by
  constructor
  · rintro rfl
    have := r.set
    rw [r.blk] at this
    simp only [Option.some.injEq, Obj.cells.injEq] at this
    exact absurd this.2.1 (by decide)
  · rintro rfl
    obtain ⟨_, _, e, _⟩ := r.map
    rw [r.blk] at e
    cases e
set_option maxHeartbeats 2000000 in
set_option maxRecDepth 100000 in
theorem of_e {es : List (List UInt8 × Value)} {h : Heap} {b m p : Nat} {name : List UInt8} {d : PD} (r : Pe h b m es p name d) :
    CallsH Tryz.prog 143 ⟨[.pointer (some ⟨b, 0, none⟩), St name]⟩ h fun u h' => u = .tuple ⟨[.pointer (some ⟨p, 0, none⟩), .bool true]⟩ ∧ h' = h := by
  obtain ⟨hb, hm, hv, _⟩ := r
  refine calls [(0, _), (1, _)] Tryz.func143 rfl Tryz.ntmps143 rfl ⟨rfl, rfl, trivial⟩ ?_
  all_goals (refine WC.sr ?_)
  all_goals (refine Go ?_)
  all_goals (refine WC.seq ?_)
  all_goals (refine WC.sr ?_)
  all_goals (refine Go ?_)
  all_goals (refine WL.step (ok_eqlPn Tryz.underlying29 rfl rfl) rfl rfl rfl ?_)
  all_goals (refine Go ?_)
  all_goals (refine goP 10 ?_ ?_ <;> first | exact ⟨⟩ | refine Hb.mk fun hb => ?_ | skip)
  all_goals (refine Gg ?_)
  all_goals (first | (refine WL.pass rfl rfl rfl ?_) | (refine WL.step (ok_nilCheck rfl) rfl rfl rfl ?_))
  all_goals (refine Gg ?_)
  all_goals (first | (refine WL.pass rfl rfl rfl ?_) | (refine Ld ?_))
  all_goals (first | (refine WL.pass rfl rfl rfl ?_) | (refine WL.step (ok_eqlMn Tryz.underlying95 rfl rfl) rfl rfl rfl ?_))
  all_goals (refine Go ?_)
  all_goals (refine Gs [(0, _), (1, _), (16, _)] ?_)
  all_goals (refine goC 1 2 ?_ ?_ <;> first | exact ⟨⟩ | refine Hb.mk fun hb => ?_ | skip)
  all_goals (first | (fail_if_success refine goB 1 ?_) | (
  refine goB 1 ?_
  all_goals (refine WC.sr ?_)
  all_goals (refine Go ?_)
  all_goals (refine Gt ?_)
  all_goals (exact ⟨rfl, rfl⟩)
  skip))
  all_goals (first | (fail_if_success refine goB 2 ?_) | (
  refine goB 2 ?_
  all_goals (refine WC.skip ?_)
  skip))
  all_goals (refine Gn ?_)
  all_goals (refine WC.sr ?_)
  all_goals (refine Go ?_)
  all_goals (refine WL.step (ok_nilCheck rfl) rfl rfl rfl ?_)
  all_goals (refine Go ?_)
  all_goals (refine Ld ?_)
  all_goals (refine Go ?_)
  all_goals (first | (refine WL.step ((ok_lookup keyS Tryz.underlying95 Tryz.underlying9 rfl rfl (by assumption) (by assumption)).1) rfl rfl rfl ?_) | (refine WL.step ((ok_lookup_no keyS Tryz.underlying95 Tryz.underlying9 (fun w => Tryz.zeroValue208 w) rfl rfl (by assumption) (by assumption)).1) rfl rfl rfl ?_) | (refine WL.step ((ok_lookup_nil keyS Tryz.underlying95 Tryz.underlying9 (fun w => Tryz.zeroValue208 w) rfl rfl).1) rfl rfl rfl ?_))
  all_goals (refine Go ?_)
  all_goals (refine Gs [(6, _), (7, _)] ?_)
  all_goals (refine WC.sr ?_)
  all_goals (refine Go ?_)
  all_goals (refine Gs [(4, _), (5, _)] ?_)
  all_goals (refine Gt ?_)
  all_goals (exact ⟨rfl, rfl⟩)
set_option maxHeartbeats 2000000 in
set_option maxRecDepth 100000 in
theorem ran_e {es : List (List UInt8 × Value)} {h : Heap} {b m p : Nat} {name : List UInt8} {d : PD} {v : Value} (r : Pe h b m es p name d) (L : List Rw) (hd : d.ran = false) (hL : Rws h v L) :
    CallsH Tryz.prog 92 ⟨[.pointer (some ⟨b, 0, none⟩), St name, v]⟩ h fun u h' => u = .bool true ∧ ∃ v' L', Pe h' b m es p name { d with vr := v', rs := L', ran := true } ∧ L'.map Rw.pl = L.map Rw.pl ∧ (∀ k, RwsF v' L' k → h.size ≤ k) ∧ Ext (fun k => k = p) h h' := by
  have hne := r.ne
  have hdF := r.apart
  have hof := of_e r
  obtain ⟨hb, hm, hlk, hp, hok, _⟩ := r
  have hpl := lt_of_some hp
  obtain ⟨text, vo, oids, vp, ps, vr, rs, ran, over⟩ := d
  simp only at hd
  subst hd
  dsimp only [PD.cells] at hp
  refine calls [(0, _), (1, _), (2, _)] Tryz.func92 rfl Tryz.ntmps92 rfl ⟨rfl, rfl, rfl, trivial⟩ ?_
  all_goals (refine WC.sr ?_)
  all_goals (refine Go ?_)
  all_goals (refine WC.sr ?_)
  all_goals (refine Go ?_)
  all_goals (refine WL.call (vs := [_, _]) rfl (fun a w => Tryz.call143 a w) rfl (hof) rfl rfl rfl ?_
             rintro _ hz ⟨rfl, _⟩
             subst hz)
  all_goals (refine Go ?_)
  all_goals (refine Gs [(2, _), (7, _), (8, _)] ?_)
  all_goals (refine WC.seq ?_)
  all_goals (refine WC.sr ?_)
  all_goals (refine Go ?_)
  all_goals (refine goP 17 ?_ ?_ <;> first | exact ⟨⟩ | refine Hb.mk fun hb => ?_ | skip)
  all_goals (refine Gg ?_)
  all_goals (first | (refine WL.pass rfl rfl rfl ?_) | (refine WL.step (ok_nilCheck rfl) rfl rfl rfl ?_))
  all_goals (refine Gg ?_)
  all_goals (first | (refine WL.pass rfl rfl rfl ?_) | (refine Ld ?_))
  all_goals (refine Go ?_)
  all_goals (refine Gs [(2, _), (7, _), (22, _)] ?_)
  all_goals (refine goC 1 2 ?_ ?_ <;> first | exact ⟨⟩ | refine Hb.mk fun hb => ?_ | skip)
  all_goals (first | (fail_if_success refine goB 1 ?_) | (
  refine goB 1 ?_
  all_goals (refine WC.sr ?_)
  all_goals (refine Go ?_)
  all_goals (refine Gt ?_)
  all_goals (exact ⟨rfl, _, L2, ⟨hx04.obj hb hne.1, hm.ext hx04 hne.2, hlk, hb4, ⟨hok.oids.ext' hx04 (fun k h1 h2 e => hdF k (.inl ⟨h1, h2⟩) e), hok.lo, hok.ps.ext hx04 (fun k hk e => hdF k (.inr (.inl hk)) e), hR2.ext hx24 (fun k hk e => by have := hf2 k hk; omega)⟩, fun k hk e => by rcases hk with hk | hk | hk; exact hdF k (.inl hk) e; exact hdF k (.inr (.inl hk)) e; have := hf2 k hk; omega⟩, hp2, hf2, hx04⟩)
  skip))
  all_goals (first | (fail_if_success refine goB 2 ?_) | (
  refine goB 2 ?_
  all_goals (refine WC.skip ?_)
  skip))
  all_goals (refine Gn ?_)
  all_goals (refine WC.sr ?_)
  all_goals (refine Go ?_)
  all_goals (refine WL.call (vs := [_]) rfl (fun a w => Tryz.call144 a w) rfl (table_port L hL) rfl rfl rfl ?_
             rintro v2 h2 ⟨L2, hR2, hp2, hx2, hf2⟩)
  all_goals (obtain ⟨A2, c2, rfl⟩ : ∃ A c, v2 = .slice A L2.length c := (by obtain ⟨_, ⟨_, A, c, e, _⟩, _⟩ := hR2; exact ⟨A, c, e⟩))
  all_goals (refine WL.step (ok_nilCheck rfl) rfl rfl rfl ?_)
  all_goals (refine Go ?_)
  all_goals (refine WL.stepR0 (okE_store (fun w => Tryz.sizeOf4 w) rfl rfl (hx2.obj hp nos) (Nat.le_of_ble_eq_true rfl) rfl rfl) rfl rfl ?_
             rintro _ h3 ⟨hb3, hx3⟩)
  all_goals (refine WL.step (ok_nilCheck rfl) rfl rfl rfl ?_)
  all_goals (refine Go ?_)
  all_goals (refine WL.stepR0 (okE_store (fun w => Tryz.sizeOf145 w) rfl rfl hb3 (Nat.le_of_ble_eq_true rfl) rfl rfl) rfl rfl ?_
             rintro _ h4 ⟨hb4, hx4⟩)
  all_goals (have hx24 := hx3.trans hx4
             have hx04 := (hx2.mono (S' := fun k => k = p) (fun _ _ e => e.elim)).trans hx24)
  all_goals (refine Gn ?_)
  all_goals (refine Gs [] ?_)
  all_goals (refine WC.sr ?_)
  all_goals (refine Go ?_)
  all_goals (refine Gt ?_)
  all_goals (exact ⟨rfl, _, L2, ⟨hx04.obj hb hne.1, hm.ext hx04 hne.2, hlk, hb4, ⟨hok.oids.ext' hx04 (fun k h1 h2 e => hdF k (.inl ⟨h1, h2⟩) e), hok.lo, hok.ps.ext hx04 (fun k hk e => hdF k (.inr (.inl hk)) e), hR2.ext hx24 (fun k hk e => by have := hf2 k hk; omega)⟩, fun k hk e => by rcases hk with hk | hk | hk; exact hdF k (.inl hk) e; exact hdF k (.inr (.inl hk)) e; have := hf2 k hk; omega⟩, hp2, hf2, hx04⟩)
end Go.Proofs.YtbhneapeibggnaaGreatDoor


/-
  PORTAL (layer 28): a set of portals: Put, Get, Delete, Clear, Names.
-/
namespace Go.Proofs.YtbhneapeibggnaaGreatDoor
open Go Go.RK

/-- A portal among those of both sets: its block, what the code has, what the document has. -/
structure It28 where
  p : Nat
  d : PD
  e : PD
def ptE (i : It28) : Value := .pointer (some ⟨i.p, 0, none⟩)
section
variable {h : Heap} {b m : Nat} {es : List (List UInt8 × Value)}
theorem set_ne (hb : h[b]? = some (.cells ⟨[.map (some m)]⟩ 97 (0, 0))) (hm : Mp .string St h m es) : b ≠ m := by
  rintro rfl
  obtain ⟨_, _, e, _⟩ := hm
  rw [hb] at e
  cases e
set_option maxHeartbeats 2000000 in
set_option maxRecDepth 100000 in
theorem put_e (name : List UInt8) (d : PD) (hb : h[b]? = some (.cells ⟨[.map (some m)]⟩ 97 (0, 0))) (hm : Mp .string St h m es) (hd : d.ok h) (hn : name = [] ∨ alook es name = none) :
    CallsH Tryz.prog 86 ⟨[.pointer (some ⟨b, 0, none⟩), St name, .agg ⟨d.cells⟩]⟩ h fun u h' => u = In 0 ∧ ∃ p d', Mp .string St h' m (aput es name (.pointer (some ⟨p, 0, none⟩))) ∧ h'[p]? = some (.cells ⟨PD.cells d'⟩ 147 (0, 0)) ∧ d'.ok h' ∧ d'.pl = d.pl ∧ h.size ≤ p ∧ (∀ k, d'.F k → h.size ≤ k ∧ k ≠ p) ∧ Ext (fun k => k = m) h h' := by
  have hbm := set_ne hb hm
  have hml := hm.lt
  have hcs : alook es name = none ∨ ∃ v, alook es name = some v ∧ name = [] := by
    rcases hv : alook es name with _ | v
    · exact .inl rfl
    · rcases hn with e | e
      · exact .inr ⟨v, rfl, e⟩
      · rw [hv] at e; cases e
  rcases hcs with hv | ⟨v0, hv, rfl⟩
  all_goals
    refine calls [(0, _), (1, _), (2, _)] Tryz.func86 rfl Tryz.ntmps86 rfl ⟨rfl, rfl, rfl, trivial⟩ ?_
    all_goals (refine WC.sr ?_)
    all_goals (refine WL.stepR (okE_box rfl) rfl rfl rfl ?_
               rintro _ h1 ⟨b5, rfl, hg5, hb5, hx5⟩)
    all_goals (have hb' := hx5.obj hb nos
               have hm' := hm.ext hx5 nos
               have hd' := hd.ext hx5 (fun _ _ => nos))
    all_goals (refine Go ?_)
    all_goals (refine WC.seq ?_)
    all_goals (refine WC.sr ?_)
    all_goals (refine Go ?_)
    all_goals (refine WL.step (ok_eqlPn Tryz.underlying29 rfl rfl) rfl rfl rfl ?_)
    all_goals (refine Go ?_)
    all_goals (refine goP 12 ?_ ?_ <;> first | exact ⟨⟩ | refine Hb.mk fun hb => ?_ | skip)
    all_goals (refine Gg ?_)
    all_goals (first | (refine WL.pass rfl rfl rfl ?_) | (refine WL.step (ok_nilCheck rfl) rfl rfl rfl ?_))
    all_goals (refine Gg ?_)
    all_goals (first | (refine WL.pass rfl rfl rfl ?_) | (refine Ld ?_))
    all_goals (first | (refine WL.pass rfl rfl rfl ?_) | (refine WL.step (ok_eqlMn Tryz.underlying95 rfl rfl) rfl rfl rfl ?_))
    all_goals (refine Go ?_)
    all_goals (refine Gs [(0, _), (1, _), (5, _), (18, _)] ?_)
    all_goals (refine goC 1 2 ?_ ?_ <;> first | exact ⟨⟩ | refine Hb.mk fun hb => ?_ | skip)
    all_goals (first | (fail_if_success refine goB 1 ?_) | (
    refine goB 1 ?_
    all_goals (refine WC.sr ?_)
    all_goals (refine Go ?_)
    all_goals (refine Gs [(6, _)] ?_)
    all_goals (refine Gt ?_)
    all_goals (exact ⟨rfl, b3, d2, hm6, hx6.obj hb4 (fun e => by have := hx5.size; have := hx2.size; omega), (ok2.ext (hx3.trans' hx4 (S := No) (fun k hk e => by omega)) (fun _ _ => nos)).ext hx6 (fun k hk e => by have := hf2 k hk; have := hx5.size; omega), pl2, by have := hx5.size; have := hx2.size; omega, fun k hk => ⟨by have := hf2 k hk; have := hx5.size; omega, fun e => by have := ok2.lt hk; omega⟩, (hx5.mono (fun _ _ e => e.elim)).trans ((hx14.mono (fun _ _ e => e.elim)).trans hx6)⟩)
    skip))
    all_goals (first | (fail_if_success refine goB 2 ?_) | (
    refine goB 2 ?_
    all_goals (refine WC.skip ?_)
    skip))
    all_goals (refine Gn ?_)
    all_goals (refine WC.seq ?_)
    all_goals (refine WC.sr ?_)
    all_goals (refine Go ?_)
    all_goals (refine WL.step (ok_nilCheck rfl) rfl rfl rfl ?_)
    all_goals (refine Go ?_)
    all_goals (refine Ld ?_)
    all_goals (refine Go ?_)
    all_goals (first | (refine WL.step ((ok_lookup keyS Tryz.underlying95 Tryz.underlying9 rfl rfl (by assumption) (by assumption)).1) rfl rfl rfl ?_) | (refine WL.step ((ok_lookup_no keyS Tryz.underlying95 Tryz.underlying9 (fun w => Tryz.zeroValue208 w) rfl rfl (by assumption) (by assumption)).1) rfl rfl rfl ?_) | (refine WL.step ((ok_lookup_nil keyS Tryz.underlying95 Tryz.underlying9 (fun w => Tryz.zeroValue208 w) rfl rfl).1) rfl rfl rfl ?_))
    all_goals (refine Go ?_)
    all_goals (refine Gs [(0, _), (1, _), (5, _), (8, _)] ?_)
    all_goals (refine WC.sr ?_)
    all_goals (refine Go ?_)
    all_goals (refine goP 29 ?_ ?_ <;> first | exact ⟨⟩ | refine Hb.mk fun hb => ?_ | skip)
    all_goals (refine Gg ?_)
    all_goals (refine Go ?_)
    all_goals (refine Gs [(0, _), (1, _), (5, _), (32, _)] ?_)
    all_goals (refine goC 3 4 ?_ ?_ <;> first | exact ⟨⟩ | refine Hb.mk fun hb => ?_ | skip)
    all_goals (first | (fail_if_success refine goB 3 ?_) | (
    refine goB 3 ?_
    all_goals (refine WC.sr ?_)
    all_goals (refine Go ?_)
    all_goals (refine Gs [(6, _)] ?_)
    all_goals (refine Gt ?_)
    all_goals (exact ⟨rfl, b3, d2, hm6, hx6.obj hb4 (fun e => by have := hx5.size; have := hx2.size; omega), (ok2.ext (hx3.trans' hx4 (S := No) (fun k hk e => by omega)) (fun _ _ => nos)).ext hx6 (fun k hk e => by have := hf2 k hk; have := hx5.size; omega), pl2, by have := hx5.size; have := hx2.size; omega, fun k hk => ⟨by have := hf2 k hk; have := hx5.size; omega, fun e => by have := ok2.lt hk; omega⟩, (hx5.mono (fun _ _ e => e.elim)).trans ((hx14.mono (fun _ _ e => e.elim)).trans hx6)⟩)
    skip))
    all_goals (first | (fail_if_success refine goB 4 ?_) | (
    refine goB 4 ?_
    all_goals (refine WC.skip ?_)
    skip))
    all_goals (refine Gn ?_)
    all_goals (refine WC.sr ?_)
    all_goals (refine WL.step (ok_loadN (fun w => Tryz.isAgg147 w) (fun w => Tryz.sizeOf147 w) rfl rfl (by exact At.of_block hb5)) rfl rfl rfl ?_)
    all_goals (refine WL.call (vs := [_]) rfl (fun a w => Tryz.call135 a w) rfl (own_port d hd') rfl rfl rfl ?_
               rintro _ h2 ⟨d2, rfl, ok2, pl2, hx2, hf2⟩)
    all_goals (refine WL.stepR (okE_alloc (fun w => Tryz.zeroValue147 w)) rfl rfl rfl ?_
               rintro _ h3 ⟨b3, rfl, hg3, hb3, hx3⟩)
    all_goals (refine WL.stepR0 (okE_storeW (fun w => Tryz.sizeOf147 w) rfl rfl rfl (by assumption) rfl (pd_one ok2)) rfl rfl ?_
               rintro _ h4 ⟨hb4, hx4⟩)
    all_goals (have hx14 : Ext No h1 h4 := (hx2.trans hx3).trans' hx4 (fun k hk e => by have := hx2.size; omega)
               have hbb := hx14.obj hb' nos
               have hmm := hm'.ext hx14 nos)
    all_goals (refine Gn ?_)
    all_goals (refine Gs [(0, _), (1, _), (9, _)] ?_)
    all_goals (refine WC.sr ?_)
    all_goals (refine Go ?_)
    all_goals (refine WL.step (ok_nilCheck rfl) rfl rfl rfl ?_)
    all_goals (refine Go ?_)
    all_goals (refine Ld ?_)
    all_goals (refine Go ?_)
    all_goals (refine WL.stepR0 (ok_mapUpdate keyS Tryz.underlying95 Tryz.underlying9 rfl rfl rfl (by assumption)) rfl rfl ?_
               rintro _ h6 ⟨hm6, hx6⟩)
    all_goals (refine Gn ?_)
    all_goals (refine Gs [] ?_)
    all_goals (refine WC.sr ?_)
    all_goals (refine Go ?_)
    all_goals (refine Gt ?_)
    all_goals (exact ⟨rfl, b3, d2, hm6, hx6.obj hb4 (fun e => by have := hx5.size; have := hx2.size; omega), (ok2.ext (hx3.trans' hx4 (S := No) (fun k hk e => by omega)) (fun _ _ => nos)).ext hx6 (fun k hk e => by have := hf2 k hk; have := hx5.size; omega), pl2, by have := hx5.size; have := hx2.size; omega, fun k hk => ⟨by have := hf2 k hk; have := hx5.size; omega, fun e => by have := ok2.lt hk; omega⟩, (hx5.mono (fun _ _ e => e.elim)).trans ((hx14.mono (fun _ _ e => e.elim)).trans hx6)⟩)
theorem Pe.ext0 {h' : Heap} {p : Nat} {name : List UInt8} {d : PD} (r : Pe h b m es p name d) (a : Ext No h h') : Pe h' b m es p name d :=
  ⟨a.obj r.set nos, r.map.ext a nos, r.look, a.obj r.blk nos, r.ok.ext a (fun _ _ => nos), r.apart⟩
end
theorem sort_str {h : Heap} {v : Value} (l : List (List UInt8)) (ho : Own h v 9 1 l.length (l.map St)) (hm : l.length ≤ 1000000) :
    CallsH Tryz.prog 25 ⟨[v]⟩ h fun u h' => u = .tuple ⟨[]⟩ ∧ Own h' v 9 1 l.length ((srtS l).map St) ∧ Ext (fun k => v.ownBlock = some k) h h' := by
  rcases ho.slice' with ⟨rfl, h0⟩ | ⟨g, cap, rfl⟩
  · obtain rfl := List.eq_nil_of_length_eq_zero h0
    exact fun w hw => (Tryz.slices_Sort_string_none none 0 w).mono fun e w' ⟨he, hb⟩ => ⟨⟨by rw [hb], by rw [hb], by rw [hb], by subst hb; exact Nat.le_refl _⟩, _, he, rfl, by rw [hb, hw]; simpa [srtS] using ho, by rw [hb, hw]; exact .refl _ _⟩
  · intro w hw
    subst hw
    refine (Tryz.slices_Sort_string g 0 cap l w (Own.holds St ho) (ho.lt rfl) (by omega)).mono fun e w' ⟨he, n, os, hb⟩ => ?_
    subst hb
    have := sorted_heap St (q := n) (os := os) ho (by unfold srtS; simp : (srtS l).length = l.length)
    exact ⟨⟨rfl, rfl, rfl, by first | exact Nat.le_refl _ | exact Nat.le_add_right _ _⟩, _, he, rfl, this.1, this.2.mono fun k _ e => by rw [e]; rfl⟩
end Go.Proofs.YtbhneapeibggnaaGreatDoor


/-
  api.Back, and the document's compare of two of them.
-/
namespace Go.Proofs.YtbhneapeibggnaaGreatDoor
open Go Go.RK

structure ColD where
  nm : List UInt8
  t : Int
  a : Int
  o : Int
  s : Int
  m : Int
  f : Int
deriving DecidableEq
def ColD.sca (c : ColD) : List Sca := [.s c.nm, .i .i64 c.t, .i .i64 c.a, .i .i64 c.o, .i .i64 c.s, .i .i64 c.m, .i .i64 c.f]
def ColD.cells (c : ColD) : List Value := [St c.nm, In c.t, In c.a, In c.o, In c.s, In c.m, In c.f]
theorem ColD.len (c : ColD) : c.cells.length = 7 := rfl
theorem ColD.inj (c d : ColD) : c.sca = d.sca ↔ c = d := by cases c; cases d; simp [ColD.sca]
structure FieldD where
  k : Int
  t : List UInt8
deriving DecidableEq
def FieldD.sca (c : FieldD) : List Sca := [.i .u8 c.k, .s c.t]
def FieldD.cells (c : FieldD) : List Value := [.int .u8 c.k, St c.t]
theorem FieldD.len (c : FieldD) : c.cells.length = 2 := rfl
theorem FieldD.inj (c d : FieldD) : c.sca = d.sca ↔ c = d := by cases c; cases d; simp [FieldD.sca]
structure Bk where
  kind : Int
  status : Int
  tag : List UInt8
  name : List UInt8
  value : List UInt8
  n : Int
  m : Int
  vo : Value
  oids : List Int
  vc : Value
  cols : List ColD
  vr : Value
  row : List Cel
  vf : Value
  fields : List FieldD
def Bk.cells (b : Bk) : List Value := [.int .u8 b.kind, .int .u8 b.status, St b.tag, St b.name, St b.value, In b.n, In b.m, b.vo, b.vc, b.vr, b.vf]
structure Bk.ok (h : Heap) (b : Bk) : Prop where
  oids : Rd h b.vo 1 b.oids.length (ints b.oids) ∧ b.oids.length ≤ maxLen
  cols : Rd h b.vc 7 b.cols.length (b.cols.flatMap ColD.cells) ∧ b.cols.length ≤ maxLen
  row : Cels h b.vr b.row
  fields : Rd h b.vf 2 b.fields.length (b.fields.flatMap FieldD.cells) ∧ b.fields.length ≤ maxLen
theorem Bk.ok.ext0 {h h' : Heap} {b : Bk} (k : b.ok h) (a : Ext No h h') : b.ok h' := ⟨⟨k.1.1.ext0 a, k.1.2⟩, ⟨k.2.1.ext0 a, k.2.2⟩, k.3.ext0 a, ⟨k.4.1.ext0 a, k.4.2⟩⟩
def Bk.pl (b : Bk) := (b.kind, b.status, b.tag, b.name, b.value, b.n, b.m, b.oids, b.cols, b.row.map Cel.pl, b.fields)

end Go.Proofs.YtbhneapeibggnaaGreatDoor


/-
  MESSAGES (layer 6), alone: Front.w without the entries, and what RwF tells of them.
-/
namespace Go.Proofs.YtbhneapeibggnaaGreatDoor
open Go Go.RK

structure Fm where
  kind : Int
  what : Int
  name : List UInt8
  portal : List UInt8
  text : List UInt8
  vo : Value
  oids : List Int
  vf : Value
  formats : List Int
  vs : Value
  results : List Int
  vp : Value
  params : List Cel
  max : Int
def Fm.cells (b : Fm) : List Value := [.int .u8 b.kind, .int .u8 b.what, St b.name, St b.portal, St b.text, b.vo, b.vf, b.vs, b.vp, In b.max]
theorem Fm.len (b : Fm) : b.cells.length = 10 := rfl
structure Fm.ok (h : Heap) (b : Fm) : Prop where
  oids : Rd h b.vo 1 b.oids.length (ints b.oids) ∧ b.oids.length ≤ maxLen
  formats : Rd h b.vf 1 b.formats.length (ints b.formats) ∧ b.formats.length ≤ maxLen
  results : Rd h b.vs 1 b.results.length (ints b.results) ∧ b.results.length ≤ maxLen
  params : Cels h b.vp b.params
theorem Fm.ok.ext0 {h h' : Heap} {b : Fm} (k : b.ok h) (a : Ext No h h') : b.ok h' := ⟨⟨k.1.1.ext0 a, k.1.2⟩, ⟨k.2.1.ext0 a, k.2.2⟩, ⟨k.3.1.ext0 a, k.3.2⟩, k.4.ext0 a⟩
theorem Fm.ok.one {h : Heap} {e : Fm} (k : e.ok h) : ∀ v ∈ e.cells, v.oneCell' = true := by
  obtain ⟨A1, c1, e1, _⟩ := k.1.1
  obtain ⟨A2, c2, e2, _⟩ := k.2.1
  obtain ⟨A3, c3, e3, _⟩ := k.3.1
  obtain ⟨_, ⟨_, A4, c4, e4, _⟩, _⟩ := k.4
  simp [Fm.cells, Value.oneCell', e1, e2, e3, e4]
def Fm.pl (b : Fm) := (b.kind, b.what, b.name, b.portal, b.text, b.oids, b.formats, b.results, b.params.map Cel.pl, b.max)
def Fms (h : Heap) (v : Value) (L : List Fm) : Prop := Rd h v 10 L.length (L.flatMap Fm.cells) ∧ L.length ≤ maxLen ∧ ∀ e ∈ L, e.ok h
theorem Fms.ext0 {h h' : Heap} {v : Value} {L : List Fm} (k : Fms h v L) (a : Ext No h h') : Fms h' v L := ⟨k.1.ext0 a, k.2.1, fun r hr => (k.2.2 r hr).ext0 a⟩

theorem wf_u8 {n : Int} (h : (Lit.int .u8 n).wf = true) : 0 ≤ n ∧ n ≤ 255 := by simpa [Lit.wf, IntKind.min, IntKind.max, IntKind.signed, IntKind.bits] using h
theorem opens_fm (w : World) : Opens Tryz.prog w 25 Fm.cells (fun b => b.ok w.heap ∧ 0 ≤ b.kind ∧ b.kind ≤ 255) := by
  have hi : ∀ {v : Value} {l : List Int}, Rd w.heap v 1 l.length (l.flatMap fun n : Int => [In n]) → Rd w.heap v 1 l.length (ints l) := fun h => by rwa [flat_one] at h
  have h10 := opensF_cons (P := Tryz.prog) (w := w) (o := 9) (f := ⟨ "Max", 3, 9, false, "", "", 152⟩) rfl (opens_int Tryz.underlying3) (by kernel_rfl) (fun _ => rfl) opensF_nil
  have h9 := opensF_cons (P := Tryz.prog) (w := w) (o := 8) (f := ⟨ "Params", 23, 8, false, "", "", 128⟩) rfl (opens_cells w) (by kernel_rfl) (fun _ => rfl) h10
  have h8 := opensF_cons (P := Tryz.prog) (w := w) (o := 7) (f := ⟨ "Results", 22, 7, false, "", "", 104⟩) rfl (opens_slice (sz := 1) (F := fun n : Int => [In n]) Tryz.underlying22 (by kernel_rfl) (by decide) (fun _ => rfl) (opens_int Tryz.underlying3)) (by kernel_rfl) (fun _ => rfl) h9
  have h7 := opensF_cons (P := Tryz.prog) (w := w) (o := 6) (f := ⟨ "Formats", 22, 6, false, "", "", 80⟩) rfl (opens_slice (sz := 1) (F := fun n : Int => [In n]) Tryz.underlying22 (by kernel_rfl) (by decide) (fun _ => rfl) (opens_int Tryz.underlying3)) (by kernel_rfl) (fun _ => rfl) h8
  have h6 := opensF_cons (P := Tryz.prog) (w := w) (o := 5) (f := ⟨ "OIDs", 22, 5, false, "", "", 56⟩) rfl (opens_slice (sz := 1) (F := fun n : Int => [In n]) Tryz.underlying22 (by kernel_rfl) (by decide) (fun _ => rfl) (opens_int Tryz.underlying3)) (by kernel_rfl) (fun _ => rfl) h7
  have h5 := opensF_cons (P := Tryz.prog) (w := w) (o := 4) (f := ⟨ "Text", 9, 4, false, "", "", 40⟩) rfl (opens_string Tryz.underlying9) (by kernel_rfl) (fun _ => rfl) h6
  have h4 := opensF_cons (P := Tryz.prog) (w := w) (o := 3) (f := ⟨ "Portal", 9, 3, false, "", "", 24⟩) rfl (opens_string Tryz.underlying9) (by kernel_rfl) (fun _ => rfl) h5
  have h3 := opensF_cons (P := Tryz.prog) (w := w) (o := 2) (f := ⟨ "Name", 9, 2, false, "", "", 8⟩) rfl (opens_string Tryz.underlying9) (by kernel_rfl) (fun _ => rfl) h4
  have h2 := opensF_cons (P := Tryz.prog) (w := w) (o := 1) (f := ⟨ "What", 5, 1, false, "", "", 1⟩) rfl (opens_int Tryz.underlying5) (by kernel_rfl) (fun _ => rfl) h3
  have h1 := opensF_cons (P := Tryz.prog) (w := w) (o := 0) (f := ⟨ "Kind", 5, 0, false, "", "", 0⟩) rfl (opens_int Tryz.underlying5) (by kernel_rfl) (fun _ => rfl) h2
  have h0 := opens_struct Tryz.underlying25 (by kernel_rfl) h1
  refine h0.map (fun p => (⟨p.1, p.2.1, p.2.2.1, p.2.2.2.1, p.2.2.2.2.1, p.2.2.2.2.2.1.1, p.2.2.2.2.2.1.2, p.2.2.2.2.2.2.1.1, p.2.2.2.2.2.2.1.2, p.2.2.2.2.2.2.2.1.1, p.2.2.2.2.2.2.2.1.2, p.2.2.2.2.2.2.2.2.1.1, p.2.2.2.2.2.2.2.2.1.2, p.2.2.2.2.2.2.2.2.2.1⟩ : Fm)) (fun _ => rfl) (fun p q => ?_)
  obtain ⟨q1, q2, q3, q4, q5, q6, q7, q8, q9, q10, _⟩ := q
  exact ⟨⟨⟨hi q6.1, q6.2.1⟩, ⟨hi q7.1, q7.2.1⟩, ⟨hi q8.1, q8.2.1⟩, q9⟩, wf_u8 q1⟩
end Go.Proofs.YtbhneapeibggnaaGreatDoor


/-
  SESSIONS (layer 30): what a session holds; New; of one that no call made nothing is said.
-/
namespace Go.Proofs.YtbhneapeibggnaaGreatDoor
open Go Go.RK

/-- A session at bs: its statements L, its portals P, its engine's refused texts R. -/
structure Se (h : Heap) (bs ms bp mp be me : Nat) (st : Int) (sk ov : Bool) (cnt : Int) (L P R : List (List UInt8 × Value)) : Prop where
  blk : h[bs]? = some (.cells ⟨[.map (some ms), .pointer (some ⟨bp, 0, none⟩), .pointer (some ⟨be, 0, none⟩), .int .u8 st, .bool sk, .bool ov]⟩ 32 (0, 0))
  stm : Mp .string St h ms L
  pb : h[bp]? = some (.cells ⟨[.map (some mp)]⟩ 97 (0, 0))
  pm : Mp .string St h mp P
  eb : h[be]? = some (.cells ⟨[.map (some me), In cnt]⟩ 73 (0, 0))
  em : Mp .string St h me R
  ne : ms ≠ mp ∧ ms ≠ me ∧ mp ≠ me
theorem Se.ext0 {h h' : Heap} {bs ms bp mp be me : Nat} {st : Int} {sk ov : Bool} {cnt : Int} {L P R : List (List UInt8 × Value)} (k : Se h bs ms bp mp be me st sk ov cnt L P R) (x : Ext No h h') : Se h' bs ms bp mp be me st sk ov cnt L P R :=
  ⟨x.obj k.blk nos, k.stm.ext x nos, x.obj k.pb nos, k.pm.ext x nos, x.obj k.eb nos, k.em.ext x nos, k.ne⟩
/-- Messages stay. -/
def Kf (h h' : Heap) : Prop := ∀ (q : Nat) (cs : Array Value), h[q]? = some (Obj.cells cs 25 (0, 0)) → h'[q]? = some (Obj.cells cs 25 (0, 0))
theorem kf_no {h h' : Heap} (x : Ext No h h') : Kf h h' := fun _ _ hq => x.obj hq nos
theorem Kf.trans {h h1 h2 : Heap} (a : Kf h h1) (b : Kf h1 h2) : Kf h h2 := fun q cs hq => b q cs (a q cs hq)
theorem kf_map {h h' : Heap} {m : Nat} {es : List (List UInt8 × Value)} (k : Mp .string St h m es) (x : Ext (fun q => q = m) h h') : Kf h h' := fun q cs hq => x.obj hq fun e => by
  subst e
  obtain ⟨_, _, z, _⟩ := k
  rw [hq] at z
  cases z
theorem kf_blk {h h' : Heap} {q : Nat} {cs : Array Value} {TT : TypeId} (hb : h[q]? = some (.cells cs TT (0, 0))) (hT : TT ≠ 25) (x : Ext (fun z => z = q) h h') : Kf h h' := fun z ds hz => x.obj hz fun e => by
  subst e
  rw [hb] at hz
  simp only [Option.some.injEq, Obj.cells.injEq] at hz
  exact hT hz.2.1
set_option maxHeartbeats 2000000 in
set_option maxRecDepth 100000 in
theorem new_eng {h : Heap} : CallsH Tryz.prog 13 ⟨[]⟩ h fun u h' => ∃ be me, u = .pointer (some ⟨be, 0, none⟩) ∧ h'[be]? = some (.cells ⟨[.map (some me), In 0]⟩ 73 (0, 0)) ∧ Mp .string St h' me ([] : List (List UInt8 × Value)) ∧ h.size ≤ be ∧ h.size ≤ me ∧ Ext No h h' := by
  refine calls [] Tryz.func13 rfl Tryz.ntmps13 rfl trivial ?_
  all_goals (refine WC.sr ?_)
  all_goals (refine Go ?_)
  all_goals (refine WC.sr ?_)
  all_goals (refine WL.stepR okE_makeMap rfl rfl rfl ?_
             rintro _ h1 ⟨b1, rfl, hg1, hb1, hx1⟩)
  all_goals (refine WL.step (ok_buildF (vs := [_]) (cs := [_, _]) (fun | [a0] => [a0, (.int .i64 0)] | _ => []) rfl rfl (by kernel_rfl)) rfl rfl rfl ?_)
  all_goals (refine WL.stepR (okE_box rfl) rfl rfl rfl ?_
             rintro _ h2 ⟨b2, rfl, hg2, hb2, hx2⟩)
  all_goals (refine Go ?_)
  all_goals (refine Gt ?_)
  all_goals (exact ⟨b2, b1, rfl, hb2, ⟨_, _, hx2.obj hb1 id, MapKept.stamped_empty 0, rfl⟩, by have := hx1.size; omega, hg1, hx1.trans hx2⟩)
set_option maxHeartbeats 2000000 in
set_option maxRecDepth 100000 in
/-- New: the engine may be none. -/
theorem new_sess {h : Heap} (e : Option Addr) : CallsH Tryz.prog 6 ⟨[.pointer e]⟩ h fun u h' => ∃ bs ms bp mp, u = .pointer (some ⟨bs, 0, none⟩) ∧ h'[bs]? = some (.cells ⟨[.map (some ms), .pointer (some ⟨bp, 0, none⟩), .pointer e, .int .u8 73, .bool false, .bool false]⟩ 32 (0, 0)) ∧ Mp .string St h' ms ([] : List (List UInt8 × Value)) ∧
    h'[bp]? = some (.cells ⟨[.map (some mp)]⟩ 97 (0, 0)) ∧ Mp .string St h' mp ([] : List (List UInt8 × Value)) ∧ h.size ≤ ms ∧ ms < mp ∧ h.size ≤ bp ∧ h.size ≤ bs ∧ Ext No h h' := by
  refine calls [(0, _)] Tryz.func6 rfl Tryz.ntmps6 rfl ⟨rfl, trivial⟩ ?_
  all_goals (refine WC.sr ?_)
  all_goals (refine Go ?_)
  all_goals (refine WC.sr ?_)
  all_goals (refine WL.stepR okE_makeMap rfl rfl rfl ?_
             rintro _ h1 ⟨b1, rfl, hg1, hb1, hx1⟩)
  all_goals (refine WL.call (vs := []) rfl (fun a w => Tryz.call19 a w) rfl (new_port) rfl rfl rfl ?_
             rintro _ h2 ⟨bp, mp, rfl, hbp, hmp, hgp, hgm, hx2⟩)
  all_goals (refine Go ?_)
  all_goals (refine WL.step (ok_buildF (vs := [_, _, _, _]) (cs := [_, _, _, _, _, _]) (fun | [a0, a1, a2, a3] => [a0, a1, a2, a3, (.bool false), (.bool false)] | _ => []) rfl rfl (by kernel_rfl)) rfl rfl rfl ?_)
  all_goals (refine WL.stepR (okE_box rfl) rfl rfl rfl ?_
             rintro _ h3 ⟨b3, rfl, hg3, hb3, hx3⟩)
  all_goals (have l1 := lt_of_some hb1)
  all_goals (refine Go ?_)
  all_goals (refine Gs [(2, _)] ?_)
  all_goals (refine Gt ?_)
  all_goals (exact ⟨b3, b1, bp, mp, rfl, hb3, ⟨_, _, (hx2.trans hx3).obj hb1 id, MapKept.stamped_empty 0, rfl⟩, hx3.obj hbp nos, hmp.ext hx3 nos, hg1, by omega, by have := hx1.size; omega, by have := hx1.size; have := hx2.size; omega, (hx1.trans hx2).trans hx3⟩)
section
variable {h : Heap} {b : Nat} {m p : Value} {e : Option Addr} {st : Int} {sk ov : Bool}
set_option maxHeartbeats 2000000 in
set_option maxRecDepth 100000 in
theorem ready_nil : CallsH Tryz.prog 20 ⟨[.pointer none]⟩ h fun u h' => u = .bool false ∧ h' = h := by
  refine calls [(0, _)] Tryz.func20 rfl Tryz.ntmps20 rfl ⟨rfl, trivial⟩ ?_
  all_goals (refine WC.sr ?_)
  all_goals (refine Go ?_)
  all_goals (refine WC.sr ?_)
  all_goals (refine Go ?_)
  all_goals (refine WL.step (ok_neqPn Tryz.underlying26 rfl rfl) rfl rfl rfl ?_)
  all_goals (refine Go ?_)
  all_goals (refine goP 5 ?_ ?_ <;> first | exact ⟨⟩ | refine Hb.mk fun hb => ?_ | skip)
  all_goals (refine Gg ?_)
  all_goals (first | (refine WL.pass rfl rfl rfl ?_) | (refine WL.step (ok_nilCheck rfl) rfl rfl rfl ?_))
  all_goals (refine Gg ?_)
  all_goals (first | (refine WL.pass rfl rfl rfl ?_) | (refine Ld ?_))
  all_goals (first | (refine WL.pass rfl rfl rfl ?_) | (refine WL.step (ok_neqPn Tryz.underlying30 rfl rfl) rfl rfl rfl ?_))
  all_goals (refine Go ?_)
  all_goals (refine goP 12 ?_ ?_ <;> first | exact ⟨⟩ | refine Hb.mk fun hb => ?_ | skip)
  all_goals (refine Gg ?_)
  all_goals (first | (refine WL.pass rfl rfl rfl ?_) | (refine WL.step (ok_nilCheck rfl) rfl rfl rfl ?_))
  all_goals (refine Gg ?_)
  all_goals (first | (refine WL.pass rfl rfl rfl ?_) | (refine Ld ?_))
  all_goals (refine Gg ?_)
  all_goals (refine Go ?_)
  all_goals (refine Gs [(2, _)] ?_)
  all_goals (refine Gt ?_)
  all_goals (exact ⟨rfl, rfl⟩)
set_option maxHeartbeats 2000000 in
set_option maxRecDepth 100000 in
theorem ready_none (hb : h[b]? = some (.cells ⟨[m, p, .pointer none, .int .u8 st, .bool sk, .bool ov]⟩ 32 (0, 0))) : CallsH Tryz.prog 20 ⟨[.pointer (some ⟨b, 0, none⟩)]⟩ h fun u h' => u = .bool false ∧ h' = h := by
  refine calls [(0, _)] Tryz.func20 rfl Tryz.ntmps20 rfl ⟨rfl, trivial⟩ ?_
  all_goals (refine WC.sr ?_)
  all_goals (refine Go ?_)
  all_goals (refine WC.sr ?_)
  all_goals (refine Go ?_)
  all_goals (refine WL.step (ok_neqPn Tryz.underlying26 rfl rfl) rfl rfl rfl ?_)
  all_goals (refine Go ?_)
  all_goals (refine goP 5 ?_ ?_ <;> first | exact ⟨⟩ | refine Hb.mk fun hb => ?_ | skip)
  all_goals (refine Gg ?_)
  all_goals (first | (refine WL.pass rfl rfl rfl ?_) | (refine WL.step (ok_nilCheck rfl) rfl rfl rfl ?_))
  all_goals (refine Gg ?_)
  all_goals (first | (refine WL.pass rfl rfl rfl ?_) | (refine Ld ?_))
  all_goals (first | (refine WL.pass rfl rfl rfl ?_) | (refine WL.step (ok_neqPn Tryz.underlying30 rfl rfl) rfl rfl rfl ?_))
  all_goals (refine Go ?_)
  all_goals (refine goP 12 ?_ ?_ <;> first | exact ⟨⟩ | refine Hb.mk fun hb => ?_ | skip)
  all_goals (refine Gg ?_)
  all_goals (first | (refine WL.pass rfl rfl rfl ?_) | (refine WL.step (ok_nilCheck rfl) rfl rfl rfl ?_))
  all_goals (refine Gg ?_)
  all_goals (first | (refine WL.pass rfl rfl rfl ?_) | (refine Ld ?_))
  all_goals (refine Gg ?_)
  all_goals (refine Go ?_)
  all_goals (refine Gs [(2, _)] ?_)
  all_goals (refine Gt ?_)
  all_goals (exact ⟨rfl, rfl⟩)
set_option maxHeartbeats 2000000 in
set_option maxRecDepth 100000 in
theorem ready_yes {a : Addr} (hb : h[b]? = some (.cells ⟨[m, p, .pointer (some a), .int .u8 st, .bool sk, .bool ov]⟩ 32 (0, 0))) : CallsH Tryz.prog 20 ⟨[.pointer (some ⟨b, 0, none⟩)]⟩ h fun u h' => u = .bool (!ov) ∧ h' = h := by
  cases ov
  all_goals
    refine calls [(0, _)] Tryz.func20 rfl Tryz.ntmps20 rfl ⟨rfl, trivial⟩ ?_
    all_goals (refine WC.sr ?_)
    all_goals (refine Go ?_)
    all_goals (refine WC.sr ?_)
    all_goals (refine Go ?_)
    all_goals (refine WL.step (ok_neqPn Tryz.underlying26 rfl rfl) rfl rfl rfl ?_)
    all_goals (refine Go ?_)
    all_goals (refine goP 5 ?_ ?_ <;> first | exact ⟨⟩ | refine Hb.mk fun hb => ?_ | skip)
    all_goals (refine Gg ?_)
    all_goals (first | (refine WL.pass rfl rfl rfl ?_) | (refine WL.step (ok_nilCheck rfl) rfl rfl rfl ?_))
    all_goals (refine Gg ?_)
    all_goals (first | (refine WL.pass rfl rfl rfl ?_) | (refine Ld ?_))
    all_goals (first | (refine WL.pass rfl rfl rfl ?_) | (refine WL.step (ok_neqPn Tryz.underlying30 rfl rfl) rfl rfl rfl ?_))
    all_goals (refine Go ?_)
    all_goals (refine goP 12 ?_ ?_ <;> first | exact ⟨⟩ | refine Hb.mk fun hb => ?_ | skip)
    all_goals (refine Gg ?_)
    all_goals (first | (refine WL.pass rfl rfl rfl ?_) | (refine WL.step (ok_nilCheck rfl) rfl rfl rfl ?_))
    all_goals (refine Gg ?_)
    all_goals (first | (refine WL.pass rfl rfl rfl ?_) | (refine Ld ?_))
    all_goals (refine Gg ?_)
    all_goals (refine Go ?_)
    all_goals (refine Gs [(2, _)] ?_)
    all_goals (refine Gt ?_)
    all_goals (exact ⟨rfl, rfl⟩)
set_option maxHeartbeats 2000000 in
set_option maxRecDepth 100000 in
theorem skips_nil : CallsH Tryz.prog 8 ⟨[.pointer none]⟩ h fun u h' => u = .bool false ∧ h' = h := by
  refine calls [(0, _)] Tryz.func8 rfl Tryz.ntmps8 rfl ⟨rfl, trivial⟩ ?_
  all_goals (refine WC.sr ?_)
  all_goals (refine Go ?_)
  all_goals (refine WC.sr ?_)
  all_goals (refine Go ?_)
  all_goals (refine WL.step (ok_neqPn Tryz.underlying26 rfl rfl) rfl rfl rfl ?_)
  all_goals (refine Go ?_)
  all_goals (refine goP 5 ?_ ?_ <;> first | exact ⟨⟩ | refine Hb.mk fun hb => ?_ | skip)
  all_goals (refine Gg ?_)
  all_goals (first | (refine WL.pass rfl rfl rfl ?_) | (refine WL.step (ok_nilCheck rfl) rfl rfl rfl ?_))
  all_goals (refine Gg ?_)
  all_goals (first | (refine WL.pass rfl rfl rfl ?_) | (refine Ld ?_))
  all_goals (refine Go ?_)
  all_goals (refine Gs [(2, _)] ?_)
  all_goals (refine Gt ?_)
  all_goals (exact ⟨rfl, rfl⟩)
set_option maxHeartbeats 2000000 in
set_option maxRecDepth 100000 in
theorem over_nil : CallsH Tryz.prog 9 ⟨[.pointer none]⟩ h fun u h' => u = .bool false ∧ h' = h := by
  refine calls [(0, _)] Tryz.func9 rfl Tryz.ntmps9 rfl ⟨rfl, trivial⟩ ?_
  all_goals (refine WC.sr ?_)
  all_goals (refine Go ?_)
  all_goals (refine WC.sr ?_)
  all_goals (refine Go ?_)
  all_goals (refine WL.step (ok_neqPn Tryz.underlying26 rfl rfl) rfl rfl rfl ?_)
  all_goals (refine Go ?_)
  all_goals (refine goP 5 ?_ ?_ <;> first | exact ⟨⟩ | refine Hb.mk fun hb => ?_ | skip)
  all_goals (refine Gg ?_)
  all_goals (first | (refine WL.pass rfl rfl rfl ?_) | (refine WL.step (ok_nilCheck rfl) rfl rfl rfl ?_))
  all_goals (refine Gg ?_)
  all_goals (first | (refine WL.pass rfl rfl rfl ?_) | (refine Ld ?_))
  all_goals (refine Go ?_)
  all_goals (refine Gs [(2, _)] ?_)
  all_goals (refine Gt ?_)
  all_goals (exact ⟨rfl, rfl⟩)
set_option maxHeartbeats 2000000 in
set_option maxRecDepth 100000 in
theorem over_v (hb : h[b]? = some (.cells ⟨[m, p, .pointer e, .int .u8 st, .bool sk, .bool ov]⟩ 32 (0, 0))) : CallsH Tryz.prog 9 ⟨[.pointer (some ⟨b, 0, none⟩)]⟩ h fun u h' => u = .bool ov ∧ h' = h := by
  refine calls [(0, _)] Tryz.func9 rfl Tryz.ntmps9 rfl ⟨rfl, trivial⟩ ?_
  all_goals (refine WC.sr ?_)
  all_goals (refine Go ?_)
  all_goals (refine WC.sr ?_)
  all_goals (refine Go ?_)
  all_goals (refine WL.step (ok_neqPn Tryz.underlying26 rfl rfl) rfl rfl rfl ?_)
  all_goals (refine Go ?_)
  all_goals (refine goP 5 ?_ ?_ <;> first | exact ⟨⟩ | refine Hb.mk fun hb => ?_ | skip)
  all_goals (refine Gg ?_)
  all_goals (first | (refine WL.pass rfl rfl rfl ?_) | (refine WL.step (ok_nilCheck rfl) rfl rfl rfl ?_))
  all_goals (refine Gg ?_)
  all_goals (first | (refine WL.pass rfl rfl rfl ?_) | (refine Ld ?_))
  all_goals (refine Go ?_)
  all_goals (refine Gs [(2, _)] ?_)
  all_goals (refine Gt ?_)
  all_goals (exact ⟨rfl, rfl⟩)
set_option maxHeartbeats 2000000 in
set_option maxRecDepth 100000 in
theorem status_v (hb : h[b]? = some (.cells ⟨[m, p, .pointer e, .int .u8 st, .bool sk, .bool ov]⟩ 32 (0, 0))) : CallsH Tryz.prog 14 ⟨[.pointer (some ⟨b, 0, none⟩)]⟩ h fun u h' => u = .int .u8 st ∧ h' = h := by
  refine calls [(0, _)] Tryz.func14 rfl Tryz.ntmps14 rfl ⟨rfl, trivial⟩ ?_
  all_goals (refine WC.sr ?_)
  all_goals (refine Go ?_)
  all_goals (refine WC.seq ?_)
  all_goals (refine WC.sr ?_)
  all_goals (refine Go ?_)
  all_goals (refine WL.step (ok_eqlPn Tryz.underlying26 rfl rfl) rfl rfl rfl ?_)
  all_goals (refine Gn ?_)
  all_goals (refine goC 1 2 ?_ ?_ <;> first | exact ⟨⟩ | refine Hb.mk fun hb => ?_ | skip)
  all_goals (first | (fail_if_success refine goB 1 ?_) | (
  refine goB 1 ?_
  all_goals (refine WC.sr ?_)
  all_goals (refine Go ?_)
  all_goals (refine Gt ?_)
  all_goals (exact ⟨rfl, rfl⟩)
  skip))
  all_goals (first | (fail_if_success refine goB 2 ?_) | (
  refine goB 2 ?_
  all_goals (refine WC.skip ?_)
  skip))
  all_goals (refine Gn ?_)
  all_goals (refine WC.sr ?_)
  all_goals (refine Go ?_)
  all_goals (refine WL.step (ok_nilCheck rfl) rfl rfl rfl ?_)
  all_goals (refine Go ?_)
  all_goals (refine Ld ?_)
  all_goals (refine Go ?_)
  all_goals (refine Gs [(2, _)] ?_)
  all_goals (refine Gt ?_)
  all_goals (exact ⟨rfl, rfl⟩)
set_option maxHeartbeats 2000000 in
set_option maxRecDepth 100000 in
theorem names_nil : CallsH Tryz.prog 10 ⟨[.pointer none]⟩ h fun u h' => u = .slice none 0 0 ∧ h' = h := by
  refine calls [(0, _)] Tryz.func10 rfl Tryz.ntmps10 rfl ⟨rfl, trivial⟩ ?_
  all_goals (refine WC.sr ?_)
  all_goals (refine Go ?_)
  all_goals (refine WC.seq ?_)
  all_goals (refine WC.sr ?_)
  all_goals (refine Go ?_)
  all_goals (refine WL.step (ok_eqlPn Tryz.underlying26 rfl rfl) rfl rfl rfl ?_)
  all_goals (refine Gn ?_)
  all_goals (refine goC 1 2 ?_ ?_ <;> first | exact ⟨⟩ | refine Hb.mk fun hb => ?_ | skip)
  all_goals (first | (fail_if_success refine goB 1 ?_) | (
  refine goB 1 ?_
  all_goals (refine WC.sr ?_)
  all_goals (refine Go ?_)
  all_goals (refine Gt ?_)
  all_goals (exact ⟨rfl, rfl⟩)
  skip))
  all_goals (first | (fail_if_success refine goB 2 ?_) | (
  refine goB 2 ?_
  all_goals (refine WC.skip ?_)
  skip))
  all_goals (refine Gn ?_)
  all_goals (refine WC.sr ?_)
  all_goals (refine Go ?_)
  all_goals (refine WC.seq ?_)
  all_goals (refine WC.sr ?_)
  all_goals (refine Go ?_)
  all_goals (refine WL.step (ok_nilCheck rfl) rfl rfl rfl ?_)
  all_goals (refine Go ?_)
  all_goals (refine Ld ?_)
  all_goals (refine WL.stepR (okE_range Tryz.underlying28 rfl (by assumption)) rfl rfl rfl ?_
             rintro _ h1 ⟨r1, rfl, hgr1, hit1, hx1⟩)
  all_goals (refine Gn ?_)
  all_goals (refine Gs [(3, _), (11, _)] ?_)
  all_goals (refine WC.block ?_)
  -- loop 0: slots that turn [3], that stay [11]
  all_goals (refine WC.loopG (fun x => (None : Fr)) [(11, _)] (None) (None) (None) ⟨rfl, rfl, trivial⟩ (by exact ⟨⟩) ?_)
  all_goals (rintro x h1 hI)
  all_goals (refine WC.sub [(3, _), (11, _)] ⟨rfl, rfl, trivial⟩ ?_)
  all_goals (refine WC.sr ?_)
  all_goals (refine WL.stepR (okE_next keyS rfl (by assumption)) rfl rfl rfl ?_
             rintro _ h2 (⟨rfl, hz, hperm⟩ | ⟨p, rfl, hp, hnp, hit2, hil2, hx2⟩))
  all_goals (refine Go ?_)
  all_goals (refine WC.seq ?_)
  all_goals (refine goC 3 4 ?_ ?_ <;> first | exact ⟨⟩ | refine Hb.mk fun hb => ?_ | skip)
  all_goals (first | (fail_if_success refine goB 3 ?_) | (
  refine goB 3 ?_
  all_goals (refine WC.skip ?_)
  skip))
  all_goals (first | (fail_if_success refine goB 4 ?_) | (
  refine goB 4 ?_
  all_goals (refine WC.exit ?_)
  all_goals (repeat' (with_reducible first | refine thenP_x ?_ | refine blockP_miss rfl ?_ | refine blockP_hit ?_ | refine blockP_n ?_ | refine thenP_n ?_))
  all_goals (refine Br.out (i := 1000) ?_)
  skip))
  all_goals (refine Gn ?_)
  all_goals (first | (refine Br.keep ?_) | (refine WC.block ?_))
  all_goals (first | (refine Br.keep ?_) | (refine WC.sr ?_))
  all_goals (first | (refine Br.keep ?_) | (refine WL.step (ok_entry rfl (by assumption)) rfl rfl rfl ?_))
  all_goals (refine Go ?_)
  all_goals (first | (refine Br.keep ?_) | (refine Gs [(3, _), (4, _), (11, _)] ?_))
  all_goals (first | (refine Br.keep ?_) | (refine WC.region ?_))
  all_goals (refine Go ?_)
  all_goals (first
               | (refine Br.keep ?_)
               | (refine WL.stepR (okE_buildSlice (vs := [_]) (cs := [_]) (fun | [a0] => [a0] | _ => []) Tryz.underlying37 rfl rfl (by kernel_rfl)) rfl rfl rfl ?_
                  rintro _ h1 ⟨b1, rfl, hg1, hb1, hx1⟩))
  all_goals (first
               | (refine Br.keep ?_)
               | (refine WL.stepR (ok_append (sz := 1) (bytes := 16) rfl Tryz.underlying37 (show Tryz.prog.info? 9 = some Tryz.t9 by kernel_rfl) rfl rfl rfl rfl (by decide) rfl rfl (by assumption) (by first | assumption | exact rd_blk (by assumption) rfl) (by simp [Value.oneCell']) (by simp only [maxLen]; omega) (by omega)) rfl rfl rfl ?_
                  rintro v1 h1 ⟨ho1, hx1, hl1⟩))
  all_goals (refine Go ?_)
  all_goals (first | (refine Br.keep ?_) | (exact ⟨None, ⟨rfl, rfl, trivial⟩, (by exact ⟨⟩), (by simp; omega)⟩))
  all_goals (try (refine Br.mk (i := 1000) ?_))
  all_goals (refine Gn ?_)
  all_goals (refine WC.sr ?_)
  all_goals (refine Go ?_)
  all_goals (fail "no contract for call of slices.Sort[[]string,string] at 8.1")
  all_goals (refine Gn ?_)
  all_goals (refine Gs [(3, _)] ?_)
  all_goals (refine WC.sr ?_)
  all_goals (refine Go ?_)
  all_goals (refine Gt ?_)
  all_goals (exact ⟨rfl, rfl⟩)
end
set_option maxHeartbeats 2000000 in
set_option maxRecDepth 100000 in
/-- Names of a session: rising. -/
theorem names_v {h : Heap} {b m : Nat} {p : Value} {e : Option Addr} {st : Int} {sk ov : Bool} {es : List (List UInt8 × Value)} (hb : h[b]? = some (.cells ⟨[.map (some m), p, .pointer e, .int .u8 st, .bool sk, .bool ov]⟩ 32 (0, 0))) (hm : Mp .string St h m es) (hl : es.length ≤ 100000) :
    CallsH Tryz.prog 10 ⟨[.pointer (some ⟨b, 0, none⟩)]⟩ h fun u h' => ∃ N, N.Perm (es.map (·.1)) ∧ Own h' u 9 1 N.length ((srtS N).map St) ∧ Ext No h h' := by
  have hbl := lt_of_some hb
  have hml := hm.lt
  refine calls [(0, _)] Tryz.func10 rfl Tryz.ntmps10 rfl ⟨rfl, trivial⟩ ?_
  all_goals (refine WC.sr ?_)
  all_goals (refine Go ?_)
  all_goals (refine WC.seq ?_)
  all_goals (refine WC.sr ?_)
  all_goals (refine Go ?_)
  all_goals (refine WL.step (ok_eqlPn Tryz.underlying26 rfl rfl) rfl rfl rfl ?_)
  all_goals (refine Gn ?_)
  all_goals (refine goC 1 2 ?_ ?_ <;> first | exact ⟨⟩ | refine Hb.mk fun hb => ?_ | skip)
  all_goals (first | (fail_if_success refine goB 1 ?_) | (
  refine goB 1 ?_
  all_goals (refine WC.sr ?_)
  all_goals (refine Go ?_)
  all_goals (refine Gt ?_)
  all_goals (exact ⟨ds.map (·.1), hperm.map _, ho4, (hx1.trans' hx2 (fun q hq e => by omega)).trans' hx4 (fun q hq e => by have := hf2 q e; omega)⟩)
  skip))
  all_goals (first | (fail_if_success refine goB 2 ?_) | (
  refine goB 2 ?_
  all_goals (refine WC.skip ?_)
  skip))
  all_goals (refine Gn ?_)
  all_goals (refine WC.sr ?_)
  all_goals (refine Go ?_)
  all_goals (refine WC.seq ?_)
  all_goals (refine WC.sr ?_)
  all_goals (refine Go ?_)
  all_goals (refine WL.step (ok_nilCheck rfl) rfl rfl rfl ?_)
  all_goals (refine Go ?_)
  all_goals (refine Ld ?_)
  all_goals (refine WL.stepR (okE_range Tryz.underlying28 rfl (by assumption)) rfl rfl rfl ?_
             rintro _ h1 ⟨r1, rfl, hgr1, hit1, hx1⟩)
  all_goals (refine Gn ?_)
  all_goals (refine Gs [(3, _), (11, _)] ?_)
  all_goals (refine WC.block ?_)
  -- loop 0: slots that turn [3], that stay [11]
  all_goals (refine WC.loopG (X := Value × List (List UInt8 × Value)) (fun x => ([(3, x.1)] : Fr)) [(11, _)] (fun x h' => It St h' r1 m es x.2 ∧ Own h' x.1 9 1 (x.2.map (·.1)).length ((x.2.map (·.1)).map St) ∧ Ext (fun k => k = r1) h1 h' ∧ ∀ k, x.1.ownBlock = some k → h1.size ≤ k) (fun x => es.length - x.2.length) ((.slice none 0 0, [])) ⟨rfl, rfl, trivial⟩ (by exact ⟨hit1, Own.nil _ _ _, .refl _ _, by simp [Value.ownBlock]⟩) ?_)
  all_goals (rintro ⟨v2, ds⟩ h2 ⟨hit2, ho2, hx2, hf2⟩
             simp only at hit2 ho2 hf2
             have hdl := sub_len hit2.nd hit2.sub
             have hml2 : (ds.map (·.1)).length = ds.length := List.length_map ..
             have hs2 := hx2.size
             have hrlt := hit1.lt
             have hs1 := hx1.size)
  all_goals (refine WC.sub [(3, _), (11, _)] ⟨rfl, rfl, trivial⟩ ?_)
  all_goals (dsimp only)
  all_goals (refine WC.sr ?_)
  all_goals (refine WL.stepR (okE_next keyS rfl hit2) rfl rfl rfl ?_
             rintro v h3 (⟨rfl, hz, hperm⟩ | ⟨p, rfl, hp3, hnp, hit3, hil3, hx3⟩))
  all_goals (try subst h3)
  all_goals (refine Go ?_)
  all_goals (refine WC.seq ?_)
  all_goals (refine goC 3 4 ?_ ?_ <;> first | exact ⟨⟩ | refine Hb.mk fun hb => ?_ | skip)
  all_goals (first | (fail_if_success refine goB 3 ?_) | (
  refine goB 3 ?_
  all_goals (refine WC.skip ?_)
  skip))
  all_goals (first | (fail_if_success refine goB 4 ?_) | (
  refine goB 4 ?_
  all_goals (refine WC.exit ?_)
  all_goals (repeat' (with_reducible first | refine thenP_x ?_ | refine blockP_miss rfl ?_ | refine blockP_hit ?_ | refine blockP_n ?_ | refine thenP_n ?_))
  all_goals (refine Br.out (i := 1000) ?_)
  skip))
  all_goals (refine Gn ?_)
  all_goals (first | (refine Br.keep ?_) | (refine WC.block ?_))
  all_goals (first | (refine Br.keep ?_) | (refine WC.sr ?_))
  all_goals (first | (refine Br.keep ?_) | (refine WL.step (ok_entry rfl hil3) rfl rfl rfl ?_))
  all_goals (refine Go ?_)
  all_goals (first | (refine Br.keep ?_) | (refine Gs [(3, _), (4, _), (11, _)] ?_))
  all_goals (first | (refine Br.keep ?_) | (refine WC.region ?_))
  all_goals (refine Go ?_)
  all_goals (first
               | (refine Br.keep ?_)
               | (refine WL.stepR (okE_buildSlice (vs := [_]) (cs := [_]) (fun | [a0] => [a0] | _ => []) Tryz.underlying37 rfl rfl (by kernel_rfl)) rfl rfl rfl ?_
                  rintro _ h4 ⟨b4, rfl, hg4, hb4, hx4⟩))
  all_goals (first
               | (refine Br.keep ?_)
               | (refine WL.stepR (ok_append (sz := 1) (bytes := 16) rfl Tryz.underlying37 (show Tryz.prog.info? 9 = some Tryz.t9 by kernel_rfl) rfl rfl rfl rfl (by decide) rfl rfl ((ho2.ext hx3 (fun k hk e => by have := hf2 k hk; omega)).ext hx4 (fun _ _ => nos)) (rd_blk hb4 rfl) (by simp [Value.oneCell']) (by simp only [maxLen]; omega) (by omega)) rfl rfl rfl ?_
                  rintro v5 h5 ⟨ho5, hx5, hl5⟩))
  all_goals (refine Go ?_)
  all_goals (first | (refine Br.keep ?_) | (exact ⟨(_, ds ++ [p]), ⟨rfl, rfl, trivial⟩, (by exact ⟨hit3.ext ((hx4.mono fun _ _ e => e.elim).trans hx5) (fun e => by have := hf2 _ e; omega) (fun e => by have := hf2 _ e; omega), by simpa using ho5, (hx2.trans (hx3.trans' hx4 fun _ _ e => e.elim)).trans' hx5 (fun q hq e => by have := hf2 q e; omega), fresh_of hl5 hf2 (by have := hx3.size; have := hx4.size; omega)⟩), (by have hd3 := sub_len hit3.nd hit3.sub; simp at hd3 ⊢; omega)⟩))
  all_goals (try (refine Br.mk (i := 1000) ?_))
  all_goals (refine Gn ?_)
  all_goals (refine WC.sr ?_)
  all_goals (refine Go ?_)
  all_goals (refine WL.call (vs := [_]) rfl (fun a w => Tryz.call25 a w) rfl (sort_str (ds.map (·.1)) ho2 (by omega)) rfl rfl rfl ?_
             rintro _ h4 ⟨rfl, ho4, hx4⟩)
  all_goals (refine Gn ?_)
  all_goals (refine Gs [(3, _)] ?_)
  all_goals (refine WC.sr ?_)
  all_goals (refine Go ?_)
  all_goals (refine Gt ?_)
  all_goals (exact ⟨ds.map (·.1), hperm.map _, ho4, (hx1.trans' hx2 (fun q hq e => by omega)).trans' hx4 (fun q hq e => by have := hf2 q e; omega)⟩)
set_option maxHeartbeats 2000000 in
set_option maxRecDepth 100000 in
/-- A session that isn't ready says nothing. -/
theorem do_no {h : Heap} {u : Value} (f : Fm) (hf : f.ok h) (hr : ∀ h', Ext No h h' → CallsH Tryz.prog 20 ⟨[u]⟩ h' fun v h'' => v = .bool false ∧ h'' = h') :
    CallsH Tryz.prog 7 ⟨[u, .agg ⟨f.cells⟩]⟩ h fun v h' => v = .slice none 0 0 ∧ Ext No h h' := by
  obtain ⟨⟨e1, _⟩, ⟨e2, _⟩, ⟨e3, _⟩, e4, _⟩ := hf
  obtain ⟨fk, w, n, p, t, vo, o, vf, fs, vs, rs, vp, ps, mx⟩ := f
  dsimp only at e1 e2 e3 e4
  obtain ⟨_, _, rfl, _⟩ := e1
  obtain ⟨_, _, rfl, _⟩ := e2
  obtain ⟨_, _, rfl, _⟩ := e3
  obtain ⟨_, _, rfl, _⟩ := e4
  dsimp only [Fm.cells]
  refine calls [(0, _), (1, _)] Tryz.func7 rfl Tryz.ntmps7 rfl ⟨rfl, rfl, trivial⟩ ?_
  all_goals (refine WC.sr ?_)
  all_goals (refine WL.stepR (okE_box rfl) rfl rfl rfl ?_
             rintro _ h1 ⟨b3, rfl, hg3, hb3, hx3⟩)
  all_goals (refine Go ?_)
  all_goals (refine WC.seq ?_)
  all_goals (refine WC.sr ?_)
  all_goals (refine Go ?_)
  all_goals (refine WL.call (vs := [_]) rfl (fun a w => Tryz.call20 a w) rfl (hr _ hx3) rfl rfl rfl ?_
             rintro _ hz ⟨rfl, _⟩
             subst hz)
  all_goals (refine Go ?_)
  all_goals (refine Gs [(0, _), (3, _), (10, _)] ?_)
  all_goals (refine goC 1 2 ?_ ?_ <;> first | exact ⟨⟩ | refine Hb.mk fun hb => ?_ | skip)
  all_goals (first | (fail_if_success refine goB 1 ?_) | (
  refine goB 1 ?_
  all_goals (refine WC.sr ?_)
  all_goals (refine Go ?_)
  all_goals (refine Gt ?_)
  all_goals (exact ⟨rfl, hx3⟩)
  skip))
  all_goals (first | (fail_if_success refine goB 2 ?_) | (
  refine goB 2 ?_
  all_goals (refine WC.skip ?_)
  skip))
  all_goals (refine Gn ?_)
  all_goals (refine WC.seq ?_)
  all_goals (refine WC.block ?_)
  all_goals (refine WC.sr ?_)
  all_goals (refine Go ?_)
  all_goals (refine Ld ?_)
  all_goals (refine Go ?_)
  all_goals (refine Gs [(0, _), (3, _), (11, _)] ?_)
  all_goals (refine goC 3 4 ?_ ?_ <;> first | exact ⟨⟩ | refine Hb.mk fun hb => ?_ | skip)
  all_goals (first | (fail_if_success refine goB 3 ?_) | (
  refine goB 3 ?_
  all_goals (refine WC.sr ?_)
  all_goals (refine Go ?_)
  all_goals (refine WL.step (ok_nilCheck rfl) rfl rfl rfl ?_)
  all_goals (refine Go ?_)
  all_goals (refine WL.stepR0 (okE_store (fun w => Tryz.sizeOf4 w) rfl rfl (by assumption) (Nat.le_of_ble_eq_true rfl) rfl rfl) rfl rfl ?_
             rintro _ h1 ⟨hb1, hx1⟩)
  all_goals (refine Gn ?_)
  all_goals (refine Gs [] ?_)
  all_goals (refine WC.sr ?_)
  all_goals (refine Go ?_)
  all_goals (refine Gt ?_)
  all_goals (exact ⟨rfl, hx3⟩)
  skip))
  all_goals (first | (fail_if_success refine goB 4 ?_) | (
  refine goB 4 ?_
  all_goals (refine WC.sr ?_)
  all_goals (refine Go ?_)
  all_goals (refine Ld ?_)
  all_goals (refine Go ?_)
  all_goals (refine Gs [(0, _), (3, _), (18, _)] ?_)
  all_goals (refine goC 5 6 ?_ ?_ <;> first | exact ⟨⟩ | refine Hb.mk fun hb => ?_ | skip)
  all_goals (first | (fail_if_success refine goB 6 ?_) | (
  refine goB 6 ?_
  all_goals (refine WC.sr ?_)
  all_goals (refine Go ?_)
  all_goals (refine WL.step (ok_nilCheck rfl) rfl rfl rfl ?_)
  all_goals (refine Go ?_)
  all_goals (refine Ld ?_)
  all_goals (refine Go ?_)
  all_goals (refine Gs [(0, _), (3, _), (28, _)] ?_)
  all_goals (refine goC 7 8 ?_ ?_ <;> first | exact ⟨⟩ | refine Hb.mk fun hb => ?_ | skip)
  all_goals (first | (fail_if_success refine goB 7 ?_) | (
  refine goB 7 ?_
  all_goals (refine WC.sr ?_)
  all_goals (refine Go ?_)
  all_goals (refine Gt ?_)
  all_goals (exact ⟨rfl, hx3⟩)
  skip))
  all_goals (first | (fail_if_success refine goB 8 ?_) | (
  refine goB 8 ?_
  all_goals (refine WC.skip ?_)
  skip))
  skip))
  skip))
  all_goals (refine Gn ?_)
  all_goals (refine WC.sr ?_)
  all_goals (refine Go ?_)
  all_goals (refine WL.step (ok_loadN (fun w => Tryz.isAgg25 w) (fun w => Tryz.sizeOf25 w) rfl rfl (by assumption)) rfl rfl rfl ?_)
  all_goals (fail "no contract for call of (*remuda/sess.Session).deal at 11.2")
  all_goals (refine Go ?_)
  all_goals (refine Gs [(0, _), (3, _), (5, _), (6, _)] ?_)
  all_goals (refine WC.sr ?_)
  all_goals (refine WL.stepR (okE_alloc (fun w => Tryz.zeroValue60 w)) rfl rfl rfl ?_
             rintro _ h1 ⟨b1, rfl, hg1, hb1, hx1⟩)
  all_goals (refine Gn ?_)
  all_goals (refine WC.seq ?_)
  all_goals (refine WC.sr ?_)
  all_goals (refine Go ?_)
  all_goals (refine WL.step (ok_mkIface ⟨_, Tryz.underlying62, fun _ h => by cases h⟩ rfl) rfl rfl rfl ?_)
  all_goals (fail "no contract for call of errors.As at 13.2")
  all_goals (refine Gn ?_)
  all_goals (refine goC 9 10 ?_ ?_ <;> first | exact ⟨⟩ | refine Hb.mk fun hb => ?_ | skip)
  all_goals (first | (fail_if_success refine goB 10 ?_) | (
  refine goB 10 ?_
  all_goals (refine WC.skip ?_)
  skip))
  all_goals (refine Gn ?_)
  all_goals (refine WC.seq ?_)
  all_goals (refine WC.sr ?_)
  all_goals (refine Go ?_)
  all_goals (refine Ld ?_)
  all_goals (refine Go ?_)
  all_goals (refine Gs [(0, _), (5, _), (56, _)] ?_)
  all_goals (refine goC 11 12 ?_ ?_ <;> first | exact ⟨⟩ | refine Hb.mk fun hb => ?_ | skip)
  all_goals (first | (fail_if_success refine goB 12 ?_) | (
  refine goB 12 ?_
  all_goals (refine WC.skip ?_)
  skip))
  all_goals (refine Gn ?_)
  all_goals (refine WC.sr ?_)
  all_goals (refine Go ?_)
  all_goals (refine Gs [(4, _)] ?_)
  all_goals (refine Gt ?_)
  all_goals (exact ⟨rfl, hx3⟩)
end Go.Proofs.YtbhneapeibggnaaGreatDoor


/-
  WHERE THE FIRST STANDS THAT A PREDICATE TAKES, in plain Lean.
-/
namespace Go.Proofs.YtbhneapeibggnaaGreatDoor
open Go Go.RK

section
variable {α : Type} (p : α → Bool)
/-- Where the first stands that p takes; below 0: nowhere. -/
def idxP : List α → Int
  | [] => -1
  | a :: l => if p a then 0 else if idxP l < 0 then -1 else idxP l + 1
variable {p}
end
end Go.Proofs.YtbhneapeibggnaaGreatDoor


/-
  VALUES OF INTERFACE TYPES: made, and held against nil. No program is named here.
-/
namespace Go.RK
open Go

section
variable {P : Program} {f : Fr} {h : Heap} {d : Option Tmp} {ty : TypeId} {pos : String} {af : Array Edge} {g : Option (Nat × Bool)}
theorem ok_mkIface {x : Operand} {t : TypeId} {v : Value} (hu : ∃ u, P.underlying t = some u ∧ ∀ ms, u ≠ .interface ms) (hx : f.ev x = some v) : OkP P f ⟨d, .makeInterface t x, ty, pos, af, g⟩ h (.iface t v) := fun ρ w ha _ => by
  obtain ⟨u, h1, h2⟩ := hu
  have key : (Instr.makeInterface t v).run P w = .ok (.iface t v) w := by
    simp only [Instr.makeInterface, Sem.run_bind, run_underlying h1, Result.andThen_ok]
    cases u <;> first | rfl | exact absurd rfl (h2 _)
  simp [execOp, ha _ _ hx, key]
theorem ok_eqlIh {t t2 u : TypeId} {x y : Operand} {v : Value} (hu : P.underlying t = some (.interface (P.methodsAt t))) (hx : f.ev x = some (.iface u v)) (hy : f.ev y = some .nilIface) : OkP P f ⟨d, .binOp .eql t x y t2, ty, pos, af, g⟩ h (.bool false) := fun ρ w ha _ => by
  simp [execOp, ha _ _ hx, ha _ _ hy, eqGuard_at_iface, run_eql_held_nil w t u v hu]
theorem ok_neqIh {t t2 u : TypeId} {x y : Operand} {v : Value} (hu : P.underlying t = some (.interface (P.methodsAt t))) (hx : f.ev x = some (.iface u v)) (hy : f.ev y = some .nilIface) : OkP P f ⟨d, .binOp .neq t x y t2, ty, pos, af, g⟩ h (.bool true) := fun ρ w ha _ => by
  simp [execOp, ha _ _ hx, ha _ _ hy, eqGuard_at_iface, run_neq_held_nil w t u v hu]
theorem ok_eqlIn {t t2 : TypeId} {x : Operand} {c : Value} (hu : P.underlying t = some (.interface (P.methodsAt t))) (hx : f.ev x = some .nilIface) (hy : f.ev (.const c) = some .nilIface) : OkP P f ⟨d, .binOp .eql t x (.const c) t2, ty, pos, af, g⟩ h (.bool true) := fun ρ w ha _ => by
  have := ha _ _ hy
  simp [execOp, ha _ _ hx, this, eqGuard_nil_constR, run_eql_nil_nil w t hu]
theorem ok_neqIn {t t2 : TypeId} {x : Operand} {c : Value} (hu : P.underlying t = some (.interface (P.methodsAt t))) (hx : f.ev x = some .nilIface) (hy : f.ev (.const c) = some .nilIface) : OkP P f ⟨d, .binOp .neq t x (.const c) t2, ty, pos, af, g⟩ h (.bool false) := fun ρ w ha _ => by
  have := ha _ _ hy
  simp [execOp, ha _ _ hx, this, eqGuard_nil_constR, run_neq_nil_nil w t hu]
end
end Go.RK

/-
  SESSIONS (layers 26, 27, 29): what "begin" says.
-/
namespace Go.Proofs.YtbhneapeibggnaaGreatDoor
open Go Go.RK

abbrev beginL : List UInt8 := ([98, 101, 103, 105, 110] : List UInt8)
set_option maxHeartbeats 2000000 in
set_option maxRecDepth 100000 in
theorem trimL_no {h : Heap} (y : UInt8) (s : List UInt8) (c : Int) (hy : (y.toNat : Int) ≠ c) (hm : s.length ≤ 1000000) : CallsH Tryz.prog 179 ⟨[St (y :: s), .int .u8 c]⟩ h fun u h' => u = St (y :: s) ∧ h' = h := by
  have e0 : (y :: s)[0]? = some y := rfl
  refine calls [(0, _), (1, _)] Tryz.func179 rfl Tryz.ntmps179 rfl ⟨rfl, rfl, trivial⟩ ?_
  all_goals (refine WC.sr ?_)
  all_goals (refine Go ?_)
  all_goals (refine WC.seq ?_)
  all_goals (refine WC.block ?_)
  -- loop 0: slots that turn [0], that stay [1]
  all_goals (refine WC.loopG (X := Unit) (fun x => ([(0, St (y :: s))] : Fr)) [(1, _)] (fun _ h' => h' = h) (fun _ => 0) (()) ⟨rfl, rfl, trivial⟩ (by exact rfl) ?_)
  all_goals (rintro _ h1 hz
             subst hz)
  all_goals (refine WC.sub [(0, _), (1, _)] ⟨rfl, rfl, trivial⟩ ?_)
  all_goals (refine WC.seq ?_)
  all_goals (refine WC.sr ?_)
  all_goals (refine Go ?_)
  all_goals (refine goP 8 ?_ ?_ <;> first | exact ⟨⟩ | refine Hb.mk fun hb => ?_ | skip)
  all_goals (refine Gg ?_)
  all_goals (first | (refine WL.pass rfl rfl rfl ?_) | (refine WL.step (ok_idxS Tryz.underlying9 rfl rfl (by omega) e0) rfl rfl rfl ?_))
  all_goals (refine Gg ?_)
  all_goals (refine Go ?_)
  all_goals (refine Gs [(0, _), (1, _), (13, _)] ?_)
  all_goals (refine goC 1 2 ?_ ?_ <;> first | exact ⟨⟩ | refine Hb.mk fun hb => ?_ | skip)
  all_goals (first | (fail_if_success refine goB 1 ?_) | (
  refine goB 1 ?_
  all_goals (refine WC.skip ?_)
  skip))
  all_goals (first | (fail_if_success refine goB 2 ?_) | (
  refine goB 2 ?_
  all_goals (refine WC.exit ?_)
  all_goals (repeat' (with_reducible first | refine thenP_x ?_ | refine blockP_miss rfl ?_ | refine blockP_hit ?_ | refine blockP_n ?_ | refine thenP_n ?_))
  all_goals (refine Br.out (i := 1000) ?_)
  skip))
  all_goals (refine Gn ?_)
  all_goals (first | (refine Br.keep ?_) | (refine WC.block ?_))
  all_goals (first | (refine Br.keep ?_) | (refine WC.region ?_))
  all_goals (refine Go ?_)
  all_goals (first | (refine Br.keep ?_) | (refine WL.step (ok_slice_sl Tryz.underlying9 rfl rfl (by first | omega | (simp <;> omega))) rfl rfl rfl ?_))
  all_goals (refine Go ?_)
  all_goals (first | (refine Br.keep ?_) | (exact ⟨(), ⟨rfl, rfl, trivial⟩, (by exact rfl), (by (exfalso; simp at *; omega))⟩))
  all_goals (try (refine Br.mk (i := 1000) ?_))
  all_goals (refine Gn ?_)
  all_goals (refine WC.sr ?_)
  all_goals (refine Go ?_)
  all_goals (refine Gs [(4, _)] ?_)
  all_goals (refine Gt ?_)
  all_goals (first | exact ⟨rfl, rfl⟩ | (exfalso; simp at *; omega))
set_option maxHeartbeats 2000000 in
set_option maxRecDepth 100000 in
theorem trimR_no {h : Heap} (y : UInt8) (s : List UInt8) (c : Int) (hy : (y.toNat : Int) ≠ c) (hm : s.length ≤ 1000000) : CallsH Tryz.prog 180 ⟨[St (s ++ [y]), .int .u8 c]⟩ h fun u h' => u = St (s ++ [y]) ∧ h' = h := by
  have e0 : (s ++ [y])[s.length]? = some y := by simp
  have el : (s ++ [y]).length = s.length + 1 := by simp
  generalize s ++ [y] = t at *
  refine calls [(0, _), (1, _)] Tryz.func180 rfl Tryz.ntmps180 rfl ⟨rfl, rfl, trivial⟩ ?_
  all_goals (refine WC.sr ?_)
  all_goals (refine Go ?_)
  all_goals (refine WC.seq ?_)
  all_goals (refine WC.block ?_)
  -- loop 0: slots that turn [0], that stay [1]
  all_goals (refine WC.loopG (X := Unit) (fun x => ([(0, St t)] : Fr)) [(1, _)] (fun _ h' => h' = h) (fun _ => 0) (()) ⟨rfl, rfl, trivial⟩ (by exact rfl) ?_)
  all_goals (rintro _ h1 hz
             subst hz)
  all_goals (refine WC.sub [(0, _), (1, _)] ⟨rfl, rfl, trivial⟩ ?_)
  all_goals (refine WC.seq ?_)
  all_goals (refine WC.sr ?_)
  all_goals (refine Go ?_)
  all_goals (refine goP 8 ?_ ?_ <;> first | exact ⟨⟩ | refine Hb.mk fun hb => ?_ | skip)
  all_goals (first | (refine WL.pass rfl rfl rfl ?_) | (refine WL.step (ok_move rfl) rfl rfl rfl ?_))
  all_goals (first | (refine WL.pass rfl rfl rfl ?_) | (refine WL.step (ok_move rfl) rfl rfl rfl ?_))
  all_goals (first | (refine WL.pass rfl rfl rfl ?_) | (refine WL.step (ok_lenS rfl Tryz.underlying9 rfl) rfl rfl rfl ?_))
  all_goals (first | (refine WL.pass rfl rfl rfl ?_) | (first | (refine WL.step (ok_subI rfl rfl (by omega)) rfl rfl rfl ?_) | (refine WL.step (ok_sub rfl rfl) rfl rfl rfl ?_)))
  all_goals (rw [show ((t.length : Int) - 1) = ((s.length : Nat) : Int) by omega])
  all_goals (first | (refine WL.pass rfl rfl rfl ?_) | (refine WL.step (ok_idxS Tryz.underlying9 rfl rfl (by omega) e0) rfl rfl rfl ?_))
  all_goals (refine Gg ?_)
  all_goals (refine Go ?_)
  all_goals (refine Gs [(0, _), (1, _), (16, _)] ?_)
  all_goals (refine goC 1 2 ?_ ?_ <;> first | exact ⟨⟩ | refine Hb.mk fun hb => ?_ | skip)
  all_goals (first | (fail_if_success refine goB 1 ?_) | (
  refine goB 1 ?_
  all_goals (refine WC.skip ?_)
  skip))
  all_goals (first | (fail_if_success refine goB 2 ?_) | (
  refine goB 2 ?_
  all_goals (refine WC.exit ?_)
  all_goals (repeat' (with_reducible first | refine thenP_x ?_ | refine blockP_miss rfl ?_ | refine blockP_hit ?_ | refine blockP_n ?_ | refine thenP_n ?_))
  all_goals (refine Br.out (i := 1000) ?_)
  skip))
  all_goals (refine Gn ?_)
  all_goals (first | (refine Br.keep ?_) | (refine WC.block ?_))
  all_goals (first | (refine Br.keep ?_) | (refine WC.region ?_))
  all_goals (refine Go ?_)
  all_goals (first | (refine Br.keep ?_) | (refine WL.step (ok_slice_sh Tryz.underlying9 rfl rfl (by first | omega | (simp <;> omega))) rfl rfl rfl ?_))
  all_goals (refine Go ?_)
  all_goals (first | (refine Br.keep ?_) | (exact ⟨(), ⟨rfl, rfl, trivial⟩, (by exact rfl), (by (exfalso; simp at *; omega))⟩))
  all_goals (try (refine Br.mk (i := 1000) ?_))
  all_goals (refine Gn ?_)
  all_goals (refine WC.sr ?_)
  all_goals (refine Go ?_)
  all_goals (refine Gs [(4, _)] ?_)
  all_goals (refine Gt ?_)
  all_goals (first | exact ⟨rfl, rfl⟩ | (exfalso; simp at *; omega))
set_option maxHeartbeats 2000000 in
set_option maxRecDepth 100000 in
theorem trim_no {h : Heap} (y z : UInt8) (s : List UInt8) (hy : y ≠ 32) (hz : z ≠ 32) (hm : s.length ≤ 1000) : CallsH Tryz.prog 138 ⟨[St (y :: (s ++ [z])), St [32]]⟩ h fun u h' => u = St (y :: (s ++ [z])) ∧ h' = h := by
  have hy' : (y.toNat : Int) ≠ 32 := fun e => hy (UInt8.toNat_inj.1 (by show _ = 32; omega))
  have hz' : (z.toNat : Int) ≠ 32 := fun e => hz (UInt8.toNat_inj.1 (by show _ = 32; omega))
  have k1 := trimR_no (h := h) z (y :: s) 32 hz' (by simp; omega)
  have k2 := trimL_no (h := h) y (s ++ [z]) 32 hy' (by simp; omega)
  rw [List.cons_append] at k1
  have hne : y :: (s ++ [z]) ≠ [] := by simp
  generalize y :: (s ++ [z]) = t at *
  have e0 : ([32] : List UInt8)[0]? = some 32 := rfl
  refine calls [(0, _), (1, _)] Tryz.func138 rfl Tryz.ntmps138 rfl ⟨rfl, rfl, trivial⟩ ?_
  all_goals (refine WC.sr ?_)
  all_goals (refine Go ?_)
  all_goals (refine WC.seq ?_)
  all_goals (refine WC.sr ?_)
  all_goals (refine Go ?_)
  all_goals (refine goP 9 ?_ ?_ <;> first | exact ⟨⟩ | refine Hb.mk fun hb => ?_ | skip)
  all_goals (refine Gg ?_)
  all_goals (refine Go ?_)
  all_goals (refine Gs [(0, _), (1, _), (12, _)] ?_)
  all_goals (refine goC 1 2 ?_ ?_ <;> first | exact ⟨⟩ | refine Hb.mk fun hb => ?_ | skip)
  all_goals (first | (fail_if_success refine goB 1 ?_) | (
  refine goB 1 ?_
  all_goals (refine WC.sr ?_)
  all_goals (refine Go ?_)
  all_goals (refine Gs [(4, _)] ?_)
  all_goals (refine Gt ?_)
  all_goals (exact ⟨rfl, rfl⟩)
  skip))
  all_goals (first | (fail_if_success refine goB 2 ?_) | (
  refine goB 2 ?_
  all_goals (refine WC.skip ?_)
  skip))
  all_goals (refine Gn ?_)
  all_goals (refine WC.seq ?_)
  all_goals (refine WC.sr ?_)
  all_goals (refine Go ?_)
  all_goals (refine goP 17 ?_ ?_ <;> first | exact ⟨⟩ | refine Hb.mk fun hb => ?_ | skip)
  all_goals (refine Gg ?_)
  all_goals (first | (refine WL.pass rfl rfl rfl ?_) | (refine WL.step (ok_idxS Tryz.underlying9 rfl rfl (by omega) e0) rfl rfl rfl ?_))
  all_goals (refine Gg ?_)
  all_goals (refine Go ?_)
  all_goals (refine Gs [(0, _), (1, _), (21, _)] ?_)
  all_goals (refine goC 3 4 ?_ ?_ <;> first | exact ⟨⟩ | refine Hb.mk fun hb => ?_ | skip)
  all_goals (first | (fail_if_success refine goB 3 ?_) | (
  refine goB 3 ?_
  all_goals (refine WC.seq ?_)
  all_goals (refine WC.drawH (fun h' => h' = h) 7 8 rfl fol ?_)
  all_goals (refine WH.tk 0 rfl (fun hq hC => ok_move rfl) rfl rfl rfl ?_ (hC := rfl))
  all_goals (refine WH.tk 1 rfl (fun hq hC => ok_move rfl) rfl rfl rfl ?_ (hC := rfl))
  all_goals (refine WH.tk 2 rfl (fun hq hC => ok_idxS Tryz.underlying9 rfl rfl (by omega) e0) rfl rfl rfl ?_ (hC := rfl))
  all_goals (refine WH.tk 4 rfl (fun hq hC => ok_move rfl) rfl rfl rfl ?_ (hC := rfl))
  all_goals (refine WH.tk 5 rfl (fun hq hC => ok_idxS Tryz.underlying9 rfl rfl (by omega) e0) rfl rfl rfl ?_ (hC := rfl))
  all_goals (refine WH.one 3 (by kernel_rfl) ?_)
  all_goals (refine Comes1.call (vs := [_, _]) rfl rfl (fun a w => Tryz.call180 a w) rfl (k1) rfl rfl rfl ?_ (fun _ => by kernel_rfl)
             rintro _ hq ⟨rfl, hz1⟩
             subst hz1)
  all_goals (refine ⟨fun _ => rfl, ?_⟩)
  all_goals (refine WH.one 6 (by kernel_rfl) ?_)
  all_goals (refine Comes1.call (vs := [_, _]) rfl rfl (fun a w => Tryz.call179 a w) rfl (k2) rfl rfl rfl ?_ (fun _ => by kernel_rfl)
             rintro _ hq ⟨rfl, hz2⟩
             subst hz2)
  all_goals (refine ⟨fun _ => rfl, ?_⟩)
  all_goals (refine WH.one 7 (by kernel_rfl) ?_)
  all_goals (refine Comes1.run rfl (OkP.r (ok_assign rfl)) rfl rfl rfl ?_ (fun _ => by kernel_rfl)
             rintro _ hz ⟨rfl, _⟩
             subst hz)
  all_goals (refine ⟨fun e => (by cases e), ?_⟩)
  all_goals (refine WH.done (by kernel_rfl) ?_)
  all_goals (refine Gn ?_)
  all_goals (refine Gs [(4, _)] ?_)
  all_goals (refine Gt ?_)
  all_goals (exact ⟨rfl, rfl⟩)
  skip))
  all_goals (first | (fail_if_success refine goB 4 ?_) | (
  refine goB 4 ?_
  all_goals (refine WC.skip ?_)
  skip))
  all_goals (refine Gn ?_)
  all_goals (refine WC.seq ?_)
  all_goals (refine WC.sr ?_)
  all_goals (refine Go ?_)
  all_goals (fail "no contract for call of strings.makeASCIISet at 5.1")
  all_goals (refine Go ?_)
  all_goals (refine WL.stepR (okE_alloc (fun w => Tryz.zeroValue251 w)) rfl rfl rfl ?_
             rintro _ h1 ⟨b1, rfl, hg1, hb1, hx1⟩)
  all_goals (refine WL.stepR0 (okE_storeW (fun w => Tryz.sizeOf251 w) rfl rfl rfl (by assumption) rfl (by simp [Value.oneCell'])) rfl rfl ?_
             rintro _ h1 ⟨hb1, hx1⟩)
  all_goals (refine Go ?_)
  all_goals (refine Gs [(0, _), (1, _), (5, _), (6, _)] ?_)
  all_goals (refine WC.sr ?_)
  all_goals (refine Go ?_)
  all_goals (refine goC 5 6 ?_ ?_ <;> first | exact ⟨⟩ | refine Hb.mk fun hb => ?_ | skip)
  all_goals (first | (fail_if_success refine goB 6 ?_) | (
  refine goB 6 ?_
  all_goals (refine WC.skip ?_)
  skip))
  all_goals (refine Gn ?_)
  all_goals (refine WC.sr ?_)
  all_goals (refine Go ?_)
  all_goals (fail "no contract for call of strings.trimRightUnicode at 8.2")
  all_goals (refine Go ?_)
  all_goals (fail "no contract for call of strings.trimLeftUnicode at 8.4")
  all_goals (refine Go ?_)
  all_goals (refine Gs [(4, _)] ?_)
  all_goals (refine Gt ?_)
  all_goals (exact ⟨rfl, rfl⟩)
set_option maxHeartbeats 2000000 in
set_option maxRecDepth 100000 in
theorem word_begin {h : Heap} : CallsH Tryz.prog 139 ⟨[St beginL]⟩ h fun u h' => u = .tuple ⟨[In 2, .bool true]⟩ ∧ h' = h := by
  refine calls [(0, _)] Tryz.func139 rfl Tryz.ntmps139 rfl ⟨rfl, trivial⟩ ?_
  all_goals (refine WC.sr ?_)
  all_goals (refine Go ?_)
  all_goals (refine WC.seq ?_)
  all_goals (refine WC.sr ?_)
  all_goals (refine Go ?_)
  all_goals (refine WC.block ?_)
  all_goals (refine WC.sr ?_)
  all_goals (refine Go ?_)
  all_goals (refine Gs [(4, _), (5, _)] ?_)
  all_goals (refine goC 1 2 ?_ ?_ <;> first | exact ⟨⟩ | refine Hb.mk fun hb => ?_ | skip)
  all_goals (first | (fail_if_success refine goB 1 ?_) | (
  refine goB 1 ?_
  all_goals (refine WC.sr ?_)
  all_goals (refine Go ?_)
  all_goals (refine Gt ?_)
  all_goals (exact ⟨rfl, rfl⟩)
  skip))
  all_goals (first | (fail_if_success refine goB 2 ?_) | (
  refine goB 2 ?_
  all_goals (refine WC.sr ?_)
  all_goals (refine Go ?_)
  all_goals (refine goC 3 4 ?_ ?_ <;> first | exact ⟨⟩ | refine Hb.mk fun hb => ?_ | skip)
  all_goals (first | (fail_if_success refine goB 3 ?_) | (
  refine goB 3 ?_
  all_goals (refine WC.sr ?_)
  all_goals (refine Go ?_)
  all_goals (refine Gs [(2, _), (3, _)] ?_)
  all_goals (refine Gt ?_)
  all_goals (exact ⟨rfl, rfl⟩)
  skip))
  all_goals (first | (fail_if_success refine goB 4 ?_) | (
  refine goB 4 ?_
  all_goals (refine WC.sr ?_)
  all_goals (refine Go ?_)
  all_goals (refine Gs [(4, _), (9, _)] ?_)
  all_goals (refine goC 5 6 ?_ ?_ <;> first | exact ⟨⟩ | refine Hb.mk fun hb => ?_ | skip)
  all_goals (first | (fail_if_success refine goB 5 ?_) | (
  refine goB 5 ?_
  all_goals (refine WC.sr ?_)
  all_goals (refine Go ?_)
  all_goals (refine Gt ?_)
  all_goals (exact ⟨rfl, rfl⟩)
  skip))
  all_goals (first | (fail_if_success refine goB 6 ?_) | (
  refine goB 6 ?_
  all_goals (refine WC.sr ?_)
  all_goals (refine Go ?_)
  all_goals (refine goC 7 8 ?_ ?_ <;> first | exact ⟨⟩ | refine Hb.mk fun hb => ?_ | skip)
  all_goals (first | (fail_if_success refine goB 7 ?_) | (
  refine goB 7 ?_
  all_goals (refine WC.sr ?_)
  all_goals (refine Go ?_)
  all_goals (refine Gs [(2, _), (3, _)] ?_)
  all_goals (refine Gt ?_)
  all_goals (exact ⟨rfl, rfl⟩)
  skip))
  all_goals (first | (fail_if_success refine goB 8 ?_) | (
  refine goB 8 ?_
  all_goals (refine WC.sr ?_)
  all_goals (refine Go ?_)
  all_goals (refine Gs [(4, _), (13, _)] ?_)
  all_goals (refine goC 9 10 ?_ ?_ <;> first | exact ⟨⟩ | refine Hb.mk fun hb => ?_ | skip)
  all_goals (first | (fail_if_success refine goB 9 ?_) | (
  refine goB 9 ?_
  all_goals (refine WC.sr ?_)
  all_goals (refine Go ?_)
  all_goals (refine Gt ?_)
  all_goals (exact ⟨rfl, rfl⟩)
  skip))
  all_goals (first | (fail_if_success refine goB 10 ?_) | (
  refine goB 10 ?_
  all_goals (refine WC.sr ?_)
  all_goals (refine Go ?_)
  all_goals (refine goC 11 12 ?_ ?_ <;> first | exact ⟨⟩ | refine Hb.mk fun hb => ?_ | skip)
  all_goals (first | (fail_if_success refine goB 11 ?_) | (
  refine goB 11 ?_
  all_goals (refine WC.sr ?_)
  all_goals (refine Go ?_)
  all_goals (refine Gs [(2, _), (3, _)] ?_)
  all_goals (refine Gt ?_)
  all_goals (exact ⟨rfl, rfl⟩)
  skip))
  all_goals (first | (fail_if_success refine goB 12 ?_) | (
  refine goB 12 ?_
  all_goals (refine WC.skip ?_)
  skip))
  skip))
  skip))
  skip))
  skip))
  skip))
  all_goals (refine Gn ?_)
  all_goals (refine Gs [] ?_)
  all_goals (refine WC.sr ?_)
  all_goals (refine Go ?_)
  all_goals (refine Gt ?_)
  all_goals (exact ⟨rfl, rfl⟩)
/-- A verb's cells. -/
def veC (k n : Int) (c : List UInt8) : List Value := [In k, In n, St c]
set_option maxHeartbeats 2000000 in
set_option maxRecDepth 100000 in
theorem parse_begin {h : Heap} : CallsH Tryz.prog 90 ⟨[St beginL]⟩ h fun u h' => u = .agg ⟨veC 2 0 []⟩ ∧ Ext No h h' := by
  have kt := fun h' => trim_no (h := h') 98 110 [101, 103, 105] (by decide) (by decide) (by decide)
  unfold veC
  refine calls [(0, _)] Tryz.func90 rfl Tryz.ntmps90 rfl ⟨rfl, trivial⟩ ?_
  all_goals (refine WC.sr ?_)
  all_goals (refine WL.stepR (okE_alloc (fun w => Tryz.zeroValue152 w)) rfl rfl rfl ?_
             rintro _ h1 ⟨b2, rfl, hg2, hb2, hx2⟩)
  all_goals (refine Gn ?_)
  all_goals (refine WC.sr ?_)
  all_goals (refine Go ?_)
  all_goals (refine WL.call (vs := [_, _]) rfl (fun a w => Tryz.call138 a w) rfl (kt _) rfl rfl rfl ?_
             rintro _ hq ⟨rfl, hz⟩
             subst hz)
  all_goals (refine Go ?_)
  all_goals (refine WC.seq ?_)
  all_goals (refine WC.sr ?_)
  all_goals (refine Go ?_)
  all_goals (refine WL.call (vs := [_]) rfl (fun a w => Tryz.call139 a w) rfl (word_begin) rfl rfl rfl ?_
             rintro _ hq ⟨rfl, hz⟩
             subst hz)
  all_goals (refine Go ?_)
  all_goals (refine Gs [(2, _), (3, _), (4, _), (5, _)] ?_)
  all_goals (refine WC.sr ?_)
  all_goals (refine Go ?_)
  all_goals (refine goC 1 2 ?_ ?_ <;> first | exact ⟨⟩ | refine Hb.mk fun hb => ?_ | skip)
  all_goals (first | (fail_if_success refine goB 1 ?_) | (
  refine goB 1 ?_
  all_goals (refine WC.sr ?_)
  all_goals (refine Go ?_)
  all_goals (refine WL.step (ok_buildF (vs := [_]) (cs := [_, _, _]) (fun | [a0] => [a0, (.int .i64 0), (St [])] | _ => []) rfl rfl (by kernel_rfl)) rfl rfl rfl ?_)
  all_goals (refine WL.stepR0 (okE_storeW (fun w => Tryz.sizeOf152 w) rfl rfl rfl hb2 rfl (by simp [Value.oneCell'])) rfl rfl ?_
             rintro _ h3 ⟨hb3, hx3⟩)
  all_goals (refine Gn ?_)
  all_goals (refine Gs [(2, _)] ?_)
  all_goals (refine WC.ret ?_)
  all_goals (repeat' (with_reducible first | refine thenP_r ?_ | refine blockP_r ?_))
  all_goals (refine retP_1 _ ⟨⟨_, rfl, ld_blk (fun w => Tryz.isAgg152 w) (fun w => Tryz.sizeOf152 w) hb3 rfl⟩, trivial⟩ ?_)
  all_goals (exact ⟨rfl, hx2.trans' hx3 (fun q hq e => by omega)⟩)
  skip))
  all_goals (first | (fail_if_success refine goB 2 ?_) | (
  refine goB 2 ?_
  all_goals (refine WC.skip ?_)
  skip))
  all_goals (refine Gn ?_)
  all_goals (refine WC.sr ?_)
  all_goals (refine Go ?_)
  all_goals (fail "no contract for call of strings.Cut at 5.1")
  all_goals (refine Go ?_)
  all_goals (refine Gs [(2, _), (6, _), (7, _), (8, _)] ?_)
  all_goals (refine WC.seq ?_)
  all_goals (refine WC.sr ?_)
  all_goals (refine Go ?_)
  all_goals (refine goC 3 4 ?_ ?_ <;> first | exact ⟨⟩ | refine Hb.mk fun hb => ?_ | skip)
  all_goals (first | (fail_if_success refine goB 3 ?_) | (
  refine goB 3 ?_
  all_goals (refine WC.sr ?_)
  all_goals (refine WL.step (ok_buildF (vs := []) (cs := [_, _, _]) (fun | [] => [(.int .i64 0), (.int .i64 0), (St [])] | _ => []) rfl rfl (by kernel_rfl)) rfl rfl rfl ?_)
  all_goals (refine WL.stepR0 (okE_storeW (fun w => Tryz.sizeOf152 w) rfl rfl rfl (by assumption) rfl (by simp [Value.oneCell'])) rfl rfl ?_
             rintro _ h1 ⟨hb1, hx1⟩)
  all_goals (refine Gn ?_)
  all_goals (refine Gs [(2, _)] ?_)
  all_goals (refine WC.ret ?_)
  all_goals (repeat' (with_reducible first | refine thenP_r ?_ | refine blockP_r ?_))
  all_goals (refine retP_1 _ ⟨⟨_, rfl, ld_blk (fun w => Tryz.isAgg152 w) (fun w => Tryz.sizeOf152 w) hb3 rfl⟩, trivial⟩ ?_)
  all_goals (exact ⟨rfl, hx2.trans' hx3 (fun q hq e => by omega)⟩)
  skip))
  all_goals (first | (fail_if_success refine goB 4 ?_) | (
  refine goB 4 ?_
  all_goals (refine WC.skip ?_)
  skip))
  all_goals (refine Gn ?_)
  all_goals (refine WC.sr ?_)
  all_goals (refine Go ?_)
  all_goals (fail "no contract for call of remuda/sql.pair at 8.2")
  all_goals (refine WL.stepR0 (okE_storeW (fun w => Tryz.sizeOf152 w) rfl rfl rfl (by assumption) rfl (by simp [Value.oneCell'])) rfl rfl ?_
             rintro _ h1 ⟨hb1, hx1⟩)
  all_goals (refine Gn ?_)
  all_goals (refine Gs [(2, _)] ?_)
  all_goals (refine WC.ret ?_)
  all_goals (repeat' (with_reducible first | refine thenP_r ?_ | refine blockP_r ?_))
  all_goals (refine retP_1 _ ⟨⟨_, rfl, ld_blk (fun w => Tryz.isAgg152 w) (fun w => Tryz.sizeOf152 w) hb3 rfl⟩, trivial⟩ ?_)
  all_goals (exact ⟨rfl, hx2.trans' hx3 (fun q hq e => by omega)⟩)
set_option maxHeartbeats 2000000 in
set_option maxRecDepth 100000 in
theorem contains_v {h : Heap} {A : Option Addr} {c : Nat} (l : List Int) (x : Int) (hr : Rd h (.slice A l.length c) 1 l.length (ints l)) (hm : l.length ≤ maxLen) :
    CallsH Tryz.prog 189 ⟨[.slice A l.length c, In x]⟩ h fun u h' => u = .bool (decide (0 ≤ idxOf l x)) ∧ h' = h := by
  refine calls [(0, _), (1, _)] Tryz.func189 rfl Tryz.ntmps189 rfl ⟨rfl, rfl, trivial⟩ ?_
  all_goals (refine WC.sr ?_)
  all_goals (refine Go ?_)
  all_goals (refine WC.sr ?_)
  all_goals (refine Go ?_)
  all_goals (refine WL.call (vs := [_, _]) rfl (fun a w => Tryz.call212 a w) rfl (index_int l x hr hm) rfl rfl rfl ?_
             rintro _ hq ⟨rfl, hz⟩
             subst hz)
  all_goals (refine WL.step (ok_geq rfl rfl) rfl rfl rfl ?_)
  all_goals (refine Go ?_)
  all_goals (refine Gs [(4, _)] ?_)
  all_goals (refine Gt ?_)
  all_goals (exact ⟨rfl, rfl⟩)
set_option maxHeartbeats 2000000 in
set_option maxRecDepth 100000 in
theorem one_v {h : Heap} {A : Option Addr} {cc : Nat} (k n : Int) (c : List UInt8) (l : List Int) (hr : Rd h (.slice A l.length cc) 1 l.length (ints l)) (hm : l.length ≤ maxLen) :
    CallsH Tryz.prog 142 ⟨[.agg ⟨veC k n c⟩, .slice A l.length cc]⟩ h fun u h' => u = .bool (decide (k ∈ l)) ∧ Ext No h h' := by
  have e : decide (0 ≤ idxOf l k) = decide (k ∈ l) := by
    rcases idxOf_cases l k with ⟨e, hn⟩ | ⟨j, e, hj, _⟩
    · rw [e, decide_eq_false hn]; rfl
    · rw [e, decide_eq_true (List.mem_of_getElem? hj)]; simp
  unfold veC
  refine calls [(0, _), (1, _)] Tryz.func142 rfl Tryz.ntmps142 rfl ⟨rfl, rfl, trivial⟩ ?_
  all_goals (refine WC.sr ?_)
  all_goals (refine WL.stepR (okE_box rfl) rfl rfl rfl ?_
             rintro _ h1 ⟨b2, rfl, hg2, hb2, hx2⟩)
  all_goals (refine Go ?_)
  all_goals (refine WC.sr ?_)
  all_goals (refine Go ?_)
  all_goals (refine WL.ld rfl (by first | exact cell_blk hb2 rfl | assumption | exact cell_blk (by assumption) rfl) rfl rfl rfl ?_)
  all_goals (refine WL.call (vs := [_, _]) rfl (fun a w => Tryz.call189 a w) rfl (contains_v l k (hr.ext0 hx2) hm) rfl rfl rfl ?_
             rintro _ hq ⟨rfl, hz⟩
             subst hz
             rw [e])
  all_goals (refine Go ?_)
  all_goals (refine Gs [(4, _)] ?_)
  all_goals (refine Gt ?_)
  all_goals (exact ⟨rfl, hx2⟩)
set_option maxHeartbeats 2000000 in
set_option maxRecDepth 100000 in
theorem exit_v {h : Heap} (k n : Int) (c : List UInt8) : CallsH Tryz.prog 152 ⟨[.agg ⟨veC k n c⟩]⟩ h fun u h' => u = .bool (decide (k = 3 ∨ k = 4)) ∧ Ext No h h' := by
  have ko := fun h' (A : Option Addr) (cc : Nat) => one_v (h := h') (A := A) (cc := cc) k n c [3, 4]
  unfold veC at *
  refine calls [(0, _)] Tryz.func152 rfl Tryz.ntmps152 rfl ⟨rfl, trivial⟩ ?_
  all_goals (refine WC.sr ?_)
  all_goals (refine WL.stepR (okE_box rfl) rfl rfl rfl ?_
             rintro _ h1 ⟨b2, rfl, hg2, hb2, hx2⟩)
  all_goals (refine Go ?_)
  all_goals (refine WC.sr ?_)
  all_goals (refine WL.step (ok_loadN (fun w => Tryz.isAgg152 w) (fun w => Tryz.sizeOf152 w) rfl rfl (by exact At.of_block hb2)) rfl rfl rfl ?_)
  all_goals (refine WL.stepR (okE_buildSlice (vs := [_, _]) (cs := [_, _]) (fun | [a0, a1] => [a0, a1] | _ => []) Tryz.underlying22 rfl rfl (by kernel_rfl)) rfl rfl rfl ?_
             rintro _ h3 ⟨b3, rfl, hg3, hb3, hx3⟩)
  all_goals (refine WL.call (vs := [_, _]) rfl (fun a w => Tryz.call142 a w) rfl (ko _ _ _ (rd_blk hb3 rfl) (by decide)) rfl rfl rfl ?_
             rintro _ h4 ⟨rfl, hx4⟩)
  all_goals (refine Go ?_)
  all_goals (refine Gs [(2, _)] ?_)
  all_goals (refine Gt ?_)
  all_goals (exact ⟨by simp, (hx2.trans hx3).trans hx4⟩)
set_option maxHeartbeats 2000000 in
set_option maxRecDepth 100000 in
theorem rowsV_v {h : Heap} (k n : Int) (c : List UInt8) : CallsH Tryz.prog 91 ⟨[.agg ⟨veC k n c⟩]⟩ h fun u h' => u = .bool (decide (k = 5 ∨ k = 6 ∨ k = 7)) ∧ Ext No h h' := by
  have ko := fun h' (A : Option Addr) (cc : Nat) => one_v (h := h') (A := A) (cc := cc) k n c [5, 6, 7]
  unfold veC at *
  refine calls [(0, _)] Tryz.func91 rfl Tryz.ntmps91 rfl ⟨rfl, trivial⟩ ?_
  all_goals (refine WC.sr ?_)
  all_goals (refine WL.stepR (okE_box rfl) rfl rfl rfl ?_
             rintro _ h1 ⟨b2, rfl, hg2, hb2, hx2⟩)
  all_goals (refine Go ?_)
  all_goals (refine WC.sr ?_)
  all_goals (refine WL.step (ok_loadN (fun w => Tryz.isAgg152 w) (fun w => Tryz.sizeOf152 w) rfl rfl (by exact At.of_block hb2)) rfl rfl rfl ?_)
  all_goals (refine WL.stepR (okE_buildSlice (vs := [_, _, _]) (cs := [_, _, _]) (fun | [a0, a1, a2] => [a0, a1, a2] | _ => []) Tryz.underlying22 rfl rfl (by kernel_rfl)) rfl rfl rfl ?_
             rintro _ h3 ⟨b3, rfl, hg3, hb3, hx3⟩)
  all_goals (refine WL.call (vs := [_, _]) rfl (fun a w => Tryz.call142 a w) rfl (ko _ _ _ (rd_blk hb3 rfl) (by decide)) rfl rfl rfl ?_
             rintro _ h4 ⟨rfl, hx4⟩)
  all_goals (refine Go ?_)
  all_goals (refine Gs [(2, _)] ?_)
  all_goals (refine Gt ?_)
  all_goals (exact ⟨by simp, (hx2.trans hx3).trans hx4⟩)
set_option maxHeartbeats 2000000 in
set_option maxRecDepth 100000 in
theorem held_73 {h : Heap} : CallsH Tryz.prog 103 ⟨[.int .u8 73]⟩ h fun u h' => u = .int .u8 73 ∧ h' = h := by
  have kr : CallsH Tryz.prog 154 ⟨[.int .u8 73]⟩ h fun u h' => u = .bool true ∧ h' = h := by
    refine calls [(0, _)] Tryz.func154 rfl Tryz.ntmps154 rfl ⟨rfl, trivial⟩ ?_
    all_goals (refine WC.sr ?_)
    all_goals (refine Go ?_)
    all_goals (refine WC.seq ?_)
    all_goals (refine WC.sr ?_)
    all_goals (refine Go ?_)
    all_goals (refine WC.block ?_)
    all_goals (refine WC.seq ?_)
    all_goals (refine WC.sr ?_)
    all_goals (refine Go ?_)
    all_goals (refine goC 1 2 ?_ ?_ <;> first | exact ⟨⟩ | refine Hb.mk fun hb => ?_ | skip)
    all_goals (first | (fail_if_success refine goB 1 ?_) | (
    refine goB 1 ?_
    all_goals (refine WC.skip ?_)
    skip))
    all_goals (first | (fail_if_success refine goB 2 ?_) | (
    refine goB 2 ?_
    all_goals (refine WC.sr ?_)
    all_goals (refine Go ?_)
    all_goals (refine Gs [(3, _), (4, _)] ?_)
    all_goals (refine goC 3 4 ?_ ?_ <;> first | exact ⟨⟩ | refine Hb.mk fun hb => ?_ | skip)
    all_goals (first | (fail_if_success refine goB 3 ?_) | (
    refine goB 3 ?_
    all_goals (refine WC.skip ?_)
    skip))
    all_goals (first | (fail_if_success refine goB 4 ?_) | (
    refine goB 4 ?_
    all_goals (refine WC.region ?_)
    all_goals (refine Go ?_)
    skip))
    skip))
    all_goals (refine Gn ?_)
    all_goals (refine goC 5 6 ?_ ?_ <;> first | exact ⟨⟩ | refine Hb.mk fun hb => ?_ | skip)
    all_goals (first | (fail_if_success refine goB 5 ?_) | (
    refine goB 5 ?_
    all_goals (refine WC.sr ?_)
    all_goals (refine Go ?_)
    all_goals (refine Gt ?_)
    all_goals (exact ⟨rfl, rfl⟩)
    skip))
    all_goals (first | (fail_if_success refine goB 6 ?_) | (
    refine goB 6 ?_
    all_goals (refine WC.skip ?_)
    skip))
    all_goals (refine Gn ?_)
    all_goals (refine WC.sr ?_)
    all_goals (refine Go ?_)
    all_goals (refine Gt ?_)
    all_goals (exact ⟨rfl, rfl⟩)
  refine calls [(0, _)] Tryz.func103 rfl Tryz.ntmps103 rfl ⟨rfl, trivial⟩ ?_
  all_goals (refine WC.sr ?_)
  all_goals (refine Go ?_)
  all_goals (refine WC.seq ?_)
  all_goals (refine WC.sr ?_)
  all_goals (refine Go ?_)
  all_goals (refine WL.call (vs := [_]) rfl (fun a w => Tryz.call154 a w) rfl (kr) rfl rfl rfl ?_
             rintro _ hz ⟨rfl, _⟩
             subst hz)
  all_goals (refine Go ?_)
  all_goals (refine goC 1 2 ?_ ?_ <;> first | exact ⟨⟩ | refine Hb.mk fun hb => ?_ | skip)
  all_goals (first | (fail_if_success refine goB 1 ?_) | (
  refine goB 1 ?_
  all_goals (refine WC.sr ?_)
  all_goals (refine Go ?_)
  all_goals (refine Gs [(2, _)] ?_)
  all_goals (refine Gt ?_)
  all_goals (exact ⟨rfl, rfl⟩)
  skip))
  all_goals (first | (fail_if_success refine goB 2 ?_) | (
  refine goB 2 ?_
  all_goals (refine WC.skip ?_)
  skip))
  all_goals (refine Gn ?_)
  all_goals (refine Gs [(0, _)] ?_)
  all_goals (refine WC.sr ?_)
  all_goals (refine Go ?_)
  all_goals (refine Gt ?_)
  all_goals (exact ⟨rfl, rfl⟩)
set_option maxHeartbeats 2000000 in
set_option maxRecDepth 100000 in
theorem next_begin {h : Heap} : CallsH Tryz.prog 151 ⟨[.int .u8 73, .agg ⟨veC 2 0 []⟩]⟩ h fun u h' => u = .tuple ⟨[.int .u8 84, St ([66, 69, 71, 73, 78] : List UInt8)]⟩ ∧ Ext No h h' := by
  have ke := fun h' => exit_v (h := h') 2 0 []
  unfold veC at *
  refine calls [(0, _), (1, _)] Tryz.func151 rfl Tryz.ntmps151 rfl ⟨rfl, rfl, trivial⟩ ?_
  all_goals (refine WC.sr ?_)
  all_goals (refine WL.stepR (okE_box rfl) rfl rfl rfl ?_
             rintro _ h1 ⟨b2, rfl, hg2, hb2, hx2⟩)
  all_goals (refine Go ?_)
  all_goals (refine WC.sr ?_)
  all_goals (refine Go ?_)
  all_goals (refine WL.call (vs := [_]) rfl (fun a w => Tryz.call103 a w) rfl (held_73) rfl rfl rfl ?_
             rintro _ hz ⟨rfl, _⟩
             subst hz)
  all_goals (refine Go ?_)
  all_goals (refine Gs [(0, _), (3, _)] ?_)
  all_goals (refine WC.seq ?_)
  all_goals (refine WC.sr ?_)
  all_goals (refine WL.step (ok_loadN (fun w => Tryz.isAgg152 w) (fun w => Tryz.sizeOf152 w) rfl rfl (by exact At.of_block hb2)) rfl rfl rfl ?_)
  all_goals (refine WL.call (vs := [_]) rfl (fun a w => Tryz.call152 a w) rfl (ke _) rfl rfl rfl ?_
             rintro _ h3 ⟨rfl, hx3⟩)
  all_goals (have hb3 := hx3.obj hb2 nos)
  all_goals (refine Gn ?_)
  all_goals (refine goC 1 2 ?_ ?_ <;> first | exact ⟨⟩ | refine Hb.mk fun hb => ?_ | skip)
  all_goals (first | (fail_if_success refine goB 2 ?_) | (
  refine goB 2 ?_
  all_goals (refine WC.skip ?_)
  skip))
  all_goals (refine Gn ?_)
  all_goals (refine WC.seq ?_)
  all_goals (refine WC.sr ?_)
  all_goals (refine Go ?_)
  all_goals (refine WL.ld rfl (by first | exact cell_blk hb3 rfl | assumption | exact cell_blk (by assumption) rfl) rfl rfl rfl ?_)
  all_goals (refine Go ?_)
  all_goals (refine Gs [(0, _), (15, _)] ?_)
  all_goals (refine goC 3 4 ?_ ?_ <;> first | exact ⟨⟩ | refine Hb.mk fun hb => ?_ | skip)
  all_goals (first | (fail_if_success refine goB 3 ?_) | (
  refine goB 3 ?_
  all_goals (refine WC.sr ?_)
  all_goals (refine Go ?_)
  all_goals (refine Gt ?_)
  all_goals (exact ⟨rfl, hx2.trans hx3⟩)
  skip))
  all_goals (first | (fail_if_success refine goB 4 ?_) | (
  refine goB 4 ?_
  all_goals (refine WC.skip ?_)
  skip))
  all_goals (refine Gn ?_)
  all_goals (refine WC.seq ?_)
  all_goals (refine WC.sr ?_)
  all_goals (refine Go ?_)
  all_goals (refine goC 5 6 ?_ ?_ <;> first | exact ⟨⟩ | refine Hb.mk fun hb => ?_ | skip)
  all_goals (first | (fail_if_success refine goB 5 ?_) | (
  refine goB 5 ?_
  all_goals (refine WC.region ?_)
  all_goals (refine Go ?_)
  skip))
  all_goals (first | (fail_if_success refine goB 6 ?_) | (
  refine goB 6 ?_
  all_goals (refine WC.skip ?_)
  skip))
  all_goals (refine Gn ?_)
  all_goals (refine WC.sr ?_)
  all_goals (refine Go ?_)
  all_goals (refine Gs [(4, _), (5, _)] ?_)
  all_goals (refine Gt ?_)
  all_goals (exact ⟨rfl, hx2.trans hx3⟩)
end Go.Proofs.YtbhneapeibggnaaGreatDoor


/-
  SESSIONS (layer 30): a P, a B, an E of "begin", and a Z, of a session that is idle.
-/
namespace Go.Proofs.YtbhneapeibggnaaGreatDoor
open Go Go.RK

set_option maxHeartbeats 2000000 in
set_option maxRecDepth 100000 in
theorem eng_ready {h : Heap} {be me : Nat} {cnt : Int} (hb : h[be]? = some (.cells ⟨[.map (some me), In cnt]⟩ 73 (0, 0))) : CallsH Tryz.prog 145 ⟨[.pointer (some ⟨be, 0, none⟩)]⟩ h fun u h' => u = .bool true ∧ h' = h := by
  refine calls [(0, _)] Tryz.func145 rfl Tryz.ntmps145 rfl ⟨rfl, trivial⟩ ?_
  all_goals (refine WC.sr ?_)
  all_goals (refine Go ?_)
  all_goals (refine WC.sr ?_)
  all_goals (refine Go ?_)
  all_goals (refine WL.step (ok_neqPn Tryz.underlying30 rfl rfl) rfl rfl rfl ?_)
  all_goals (refine Go ?_)
  all_goals (refine goP 5 ?_ ?_ <;> first | exact ⟨⟩ | refine Hb.mk fun hb => ?_ | skip)
  all_goals (refine Gg ?_)
  all_goals (first | (refine WL.pass rfl rfl rfl ?_) | (refine WL.step (ok_nilCheck rfl) rfl rfl rfl ?_))
  all_goals (refine Gg ?_)
  all_goals (first | (refine WL.pass rfl rfl rfl ?_) | (refine Ld ?_))
  all_goals (first | (refine WL.pass rfl rfl rfl ?_) | (refine WL.step (ok_neqMn Tryz.underlying66 rfl rfl) rfl rfl rfl ?_))
  all_goals (refine Go ?_)
  all_goals (refine Gs [(2, _)] ?_)
  all_goals (refine Gt ?_)
  all_goals (exact ⟨rfl, rfl⟩)
section
variable {h : Heap} {bs ms bp mp be me : Nat} {st : Int} {sk ov : Bool} {cnt : Int} {L P R : List (List UInt8 × Value)}
set_option maxHeartbeats 2000000 in
set_option maxRecDepth 100000 in
theorem verdict_begin (k : Se h bs ms bp mp be me 73 sk ov cnt L P []) : CallsH Tryz.prog 129 ⟨[.pointer (some ⟨be, 0, none⟩), St beginL, .int .u8 73]⟩ h fun u h' => u = .tuple ⟨[St [], St [], .bool false]⟩ ∧ Ext No h h' := by
  have kx := fun h' => exit_v (h := h') 2 0 []
  have kr := eng_ready k.eb
  have heb := k.eb
  have hem := k.em
  have kp := fun h' => parse_begin (h := h')
  unfold veC at kx kp
  refine calls [(0, _), (1, _), (2, _)] Tryz.func129 rfl Tryz.ntmps129 rfl ⟨rfl, rfl, rfl, trivial⟩ ?_
  all_goals (refine WC.sr ?_)
  all_goals (refine Go ?_)
  all_goals (refine WC.seq ?_)
  all_goals (refine WC.sr ?_)
  all_goals (refine Go ?_)
  all_goals (refine WL.call (vs := [_]) rfl (fun a w => Tryz.call145 a w) rfl (kr) rfl rfl rfl ?_
             rintro _ hz ⟨rfl, _⟩
             subst hz)
  all_goals (refine Go ?_)
  all_goals (refine Gs [(0, _), (1, _), (2, _), (12, _)] ?_)
  all_goals (refine goC 1 2 ?_ ?_ <;> first | exact ⟨⟩ | refine Hb.mk fun hb => ?_ | skip)
  all_goals (first | (fail_if_success refine goB 1 ?_) | (
  refine goB 1 ?_
  all_goals (refine WC.sr ?_)
  all_goals (refine Go ?_)
  all_goals (refine Gs [(6, _), (7, _), (8, _)] ?_)
  all_goals (refine Gt ?_)
  all_goals (exact ⟨rfl, X4⟩)
  skip))
  all_goals (first | (fail_if_success refine goB 2 ?_) | (
  refine goB 2 ?_
  all_goals (refine WC.skip ?_)
  skip))
  all_goals (refine Gn ?_)
  all_goals (refine WC.sr ?_)
  all_goals (refine Go ?_)
  all_goals (refine WL.call (vs := [_]) rfl (fun a w => Tryz.call90 a w) rfl (kp _) rfl rfl rfl ?_
             rintro _ h1 ⟨rfl, hx1⟩)
  all_goals (refine WL.stepR (okE_alloc (fun w => Tryz.zeroValue152 w)) rfl rfl rfl ?_
             rintro _ h2 ⟨b9, rfl, hg2, hb2, hx2⟩)
  all_goals (refine WL.stepR0 (okE_storeW (fun w => Tryz.sizeOf152 w) rfl rfl rfl hb2 rfl (by simp [Value.oneCell'])) rfl rfl ?_
             rintro _ h3 ⟨hb3, hx3⟩)
  all_goals (have X3 : Ext No h h3 := hx1.trans (hx2.trans' hx3 (fun q hq e => by omega)))
  all_goals (refine Gn ?_)
  all_goals (refine WC.seq ?_)
  all_goals (refine WC.block ?_)
  all_goals (refine WC.sr ?_)
  all_goals (refine Go ?_)
  all_goals (refine WL.ld rfl (by first | exact cell_blk hb3 rfl | assumption | exact cell_blk (by assumption) rfl) rfl rfl rfl ?_)
  all_goals (refine Go ?_)
  all_goals (refine Gs [(0, _), (1, _), (2, _), (9, _), (15, _)] ?_)
  all_goals (refine goC 3 4 ?_ ?_ <;> first | exact ⟨⟩ | refine Hb.mk fun hb => ?_ | skip)
  all_goals (first | (fail_if_success refine goB 3 ?_) | (
  refine goB 3 ?_
  all_goals (refine WC.sr ?_)
  all_goals (refine Go ?_)
  all_goals (refine Gs [(6, _), (7, _), (8, _)] ?_)
  all_goals (refine Gt ?_)
  all_goals (exact ⟨rfl, X4⟩)
  skip))
  all_goals (first | (fail_if_success refine goB 4 ?_) | (
  refine goB 4 ?_
  all_goals (refine WC.sr ?_)
  all_goals (refine Go ?_)
  all_goals (refine goP 22 ?_ ?_ <;> first | exact ⟨⟩ | refine Hb.mk fun hb => ?_ | skip)
  all_goals (first | (refine WL.pass rfl rfl rfl ?_) | (refine WL.step (ok_loadN (fun w => Tryz.isAgg152 w) (fun w => Tryz.sizeOf152 w) rfl rfl (by assumption)) rfl rfl rfl ?_))
  all_goals (first | (refine WL.pass rfl rfl rfl ?_) | (fail "no contract for call of remuda/sql.Exit at 6.4"))
  all_goals (refine Gg ?_)
  all_goals (refine Go ?_)
  all_goals (refine Gs [(0, _), (1, _), (9, _), (19, _)] ?_)
  all_goals (refine goC 5 6 ?_ ?_ <;> first | exact ⟨⟩ | refine Hb.mk fun hb => ?_ | skip)
  all_goals (first | (fail_if_success refine goB 5 ?_) | (
  refine goB 5 ?_
  all_goals (refine WC.sr ?_)
  all_goals (refine Go ?_)
  all_goals (refine Gs [(6, _), (7, _), (8, _)] ?_)
  all_goals (refine Gt ?_)
  all_goals (exact ⟨rfl, X4⟩)
  skip))
  all_goals (first | (fail_if_success refine goB 6 ?_) | (
  refine goB 6 ?_
  all_goals (refine WC.seq ?_)
  all_goals (refine WC.sr ?_)
  all_goals (refine WL.step (ok_loadN (fun w => Tryz.isAgg152 w) (fun w => Tryz.sizeOf152 w) rfl rfl (by exact At.of_block hb3)) rfl rfl rfl ?_)
  all_goals (refine WL.call (vs := [_]) rfl (fun a w => Tryz.call152 a w) rfl (kx _) rfl rfl rfl ?_
             rintro _ h4 ⟨rfl, hx4⟩)
  all_goals (have X4 := X3.trans hx4)
  all_goals (refine Go ?_)
  all_goals (refine goC 7 8 ?_ ?_ <;> first | exact ⟨⟩ | refine Hb.mk fun hb => ?_ | skip)
  all_goals (first | (fail_if_success refine goB 7 ?_) | (
  refine goB 7 ?_
  all_goals (refine WC.skip ?_)
  skip))
  all_goals (first | (fail_if_success refine goB 8 ?_) | (
  refine goB 8 ?_
  all_goals (refine WC.region ?_)
  all_goals (refine Go ?_)
  all_goals (refine WL.ld rfl (by first | exact cell_blk (hx4.obj hb3 nos) rfl | assumption | exact cell_blk (by assumption) rfl) rfl rfl rfl ?_)
  all_goals (refine Go ?_)
  skip))
  all_goals (refine Gn ?_)
  all_goals (refine Gs [(0, _), (1, _), (27, _)] ?_)
  all_goals (refine goC 9 10 ?_ ?_ <;> first | exact ⟨⟩ | refine Hb.mk fun hb => ?_ | skip)
  all_goals (first | (fail_if_success refine goB 9 ?_) | (
  refine goB 9 ?_
  all_goals (refine WC.skip ?_)
  skip))
  all_goals (first | (fail_if_success refine goB 10 ?_) | (
  refine goB 10 ?_
  all_goals (refine WC.sr ?_)
  all_goals (refine Go ?_)
  all_goals (refine WL.step (ok_nilCheck rfl) rfl rfl rfl ?_)
  all_goals (refine Go ?_)
  all_goals (refine WL.ld rfl (by first | exact cell_blk (X4.obj heb nos) rfl | assumption | exact cell_blk (by assumption) rfl) rfl rfl rfl ?_)
  all_goals (refine Go ?_)
  all_goals (first | (refine WL.step ((ok_lookup keyS Tryz.underlying66 Tryz.underlying9 rfl rfl (hem.ext X4 nos) (by rfl)).2) rfl rfl rfl ?_) | (refine WL.step ((ok_lookup_no keyS Tryz.underlying66 Tryz.underlying9 (fun w => Tryz.zeroValue4 w) rfl rfl (hem.ext X4 nos) (by rfl)).2) rfl rfl rfl ?_) | (refine WL.step ((ok_lookup_nil keyS Tryz.underlying66 Tryz.underlying9 (fun w => Tryz.zeroValue4 w) rfl rfl).2) rfl rfl rfl ?_))
  all_goals (refine Go ?_)
  all_goals (refine Gs [(33, _)] ?_)
  all_goals (refine goC 11 12 ?_ ?_ <;> first | exact ⟨⟩ | refine Hb.mk fun hb => ?_ | skip)
  all_goals (first | (fail_if_success refine goB 11 ?_) | (
  refine goB 11 ?_
  all_goals (refine WC.sr ?_)
  all_goals (refine Go ?_)
  all_goals (refine Gt ?_)
  all_goals (exact ⟨rfl, X4⟩)
  skip))
  all_goals (first | (fail_if_success refine goB 12 ?_) | (
  refine goB 12 ?_
  all_goals (refine WC.skip ?_)
  skip))
  skip))
  skip))
  skip))
  all_goals (refine Gn ?_)
  all_goals (refine WC.sr ?_)
  all_goals (refine Go ?_)
  all_goals (refine Gt ?_)
  all_goals (exact ⟨rfl, X4⟩)
set_option maxHeartbeats 2000000 in
set_option maxRecDepth 100000 in
theorem refused_begin (k : Se h bs ms bp mp be me 73 sk ov cnt L P []) : CallsH Tryz.prog 79 ⟨[.pointer (some ⟨bs, 0, none⟩), St beginL]⟩ h fun u h' => u = .nilIface ∧ Ext No h h' := by
  have hb := k.blk
  refine calls [(0, _), (1, _)] Tryz.func79 rfl Tryz.ntmps79 rfl ⟨rfl, rfl, trivial⟩ ?_
  all_goals (refine WC.sr ?_)
  all_goals (refine Go ?_)
  all_goals (refine WC.seq ?_)
  all_goals (refine WC.seq ?_)
  all_goals (refine WC.drawH (fun h' => Ext No h h') 17 17 rfl fol ?_)
  all_goals (refine WH.tk 0 rfl (fun hq hC => ok_move rfl) rfl rfl rfl ?_)
  all_goals (refine WH.tk 1 rfl (fun hq hC => ok_nilCheck rfl) rfl rfl rfl ?_)
  all_goals (refine WH.tk 2 rfl (fun hq hC => ok_fieldAddr rfl Tryz.underlying32 rfl (fun w => Tryz.sizeOf30 w)) rfl rfl rfl ?_)
  all_goals (refine WH.tk 3 rfl (fun hq hC => ok_load (fun w => Tryz.isAgg30 w) rfl (by first | exact hC.cell (by first | exact cell_blk hb rfl | assumption | exact cell_blk (by assumption) rfl) nos)) rfl rfl rfl ?_)
  all_goals (refine WH.tk 4 rfl (fun hq hC => ok_move rfl) rfl rfl rfl ?_)
  all_goals (refine WH.tk 5 rfl (fun hq hC => ok_move rfl) rfl rfl rfl ?_)
  all_goals (refine WH.tk 6 rfl (fun hq hC => ok_nilCheck rfl) rfl rfl rfl ?_)
  all_goals (refine WH.tk 7 rfl (fun hq hC => ok_fieldAddr rfl Tryz.underlying32 rfl (fun w => Tryz.sizeOf5 w)) rfl rfl rfl ?_)
  all_goals (refine WH.tk 8 rfl (fun hq hC => ok_load (fun w => Tryz.isAgg5 w) rfl (by first | exact hC.cell (by first | exact cell_blk hb rfl | assumption | exact cell_blk (by assumption) rfl) nos)) rfl rfl rfl ?_)
  all_goals (refine WH.one 9 (by kernel_rfl) ?_)
  all_goals (refine Comes1.call (vs := [_, _, _]) rfl rfl (fun a w => Tryz.call129 a w) rfl (verdict_begin k) rfl rfl rfl ?_ (fun _ => by kernel_rfl)
             rintro _ h1 ⟨rfl, hx1⟩)
  all_goals (refine ⟨fun _ => hx1, ?_⟩)
  all_goals (refine WH.tk 10 rfl (fun hq hC => ok_move rfl) rfl rfl rfl ?_)
  all_goals (refine WH.tk 11 rfl (fun hq hC => ok_extract rfl rfl) rfl rfl rfl ?_)
  all_goals (refine WH.tk 12 rfl (fun hq hC => ok_extract rfl rfl) rfl rfl rfl ?_)
  all_goals (refine WH.tk 13 rfl (fun hq hC => ok_extract rfl rfl) rfl rfl rfl ?_)
  all_goals (refine WH.tk 14 rfl (fun hq hC => ok_assign rfl) rfl rfl rfl ?_)
  all_goals (refine WH.tk 15 rfl (fun hq hC => ok_assign rfl) rfl rfl rfl ?_)
  all_goals (refine WH.tk 16 rfl (fun hq hC => ok_assign rfl) rfl rfl rfl ?_)
  all_goals (refine WH.done (by kernel_rfl) ?_)
  all_goals (refine Gn ?_)
  all_goals (refine Gs [(5, _), (6, _), (7, _)] ?_)
  all_goals (refine WC.sr ?_)
  all_goals (refine Go ?_)
  all_goals (refine goC 1 2 ?_ ?_ <;> first | exact ⟨⟩ | refine Hb.mk fun hb => ?_ | skip)
  all_goals (first | (fail_if_success refine goB 2 ?_) | (
  refine goB 2 ?_
  all_goals (refine WC.skip ?_)
  skip))
  all_goals (refine Gn ?_)
  all_goals (refine Gs [] ?_)
  all_goals (refine WC.sr ?_)
  all_goals (refine Go ?_)
  all_goals (refine Gt ?_)
  all_goals (exact ⟨rfl, by first | exact hx1 | exact hC⟩)
set_option maxHeartbeats 2000000 in
set_option maxRecDepth 100000 in
theorem plain_v (c : Int) : CallsH Tryz.prog 83 ⟨[.int .u8 c]⟩ h fun u h' => ∃ q, u = .slice (some ⟨q, 0, none⟩) 1 1 ∧ h'[q]? = some (.cells ⟨[.int .u8 c, .int .u8 0, St [], St [], St [], In 0, In 0, .slice none 0 0, .slice none 0 0, .slice none 0 0, .slice none 0 0]⟩ 48 (0, 0)) ∧ h.size ≤ q ∧ Ext No h h' := by
  refine calls [(0, _)] Tryz.func83 rfl Tryz.ntmps83 rfl ⟨rfl, trivial⟩ ?_
  all_goals (refine WC.sr ?_)
  all_goals (refine Go ?_)
  all_goals (refine WC.sr ?_)
  all_goals (refine Go ?_)
  all_goals (refine WL.step (ok_buildF (vs := [_]) (cs := [_, _, _, _, _, _, _, _, _, _, _]) (fun | [a0] => [a0, (.int .u8 0), (St []), (St []), (St []), (.int .i64 0), (.int .i64 0), (.slice none 0 0), (.slice none 0 0), (.slice none 0 0), (.slice none 0 0)] | _ => []) rfl rfl (by kernel_rfl)) rfl rfl rfl ?_)
  all_goals (refine WL.stepR (okE_buildSlice (vs := [_]) (cs := [_, _, _, _, _, _, _, _, _, _, _]) (fun | [.agg ⟨[a0, a1, a2, a3, a4, a5, a6, a7, a8, a9, a10]⟩] => [a0, a1, a2, a3, a4, a5, a6, a7, a8, a9, a10] | _ => []) Tryz.underlying34 rfl rfl (by kernel_rfl)) rfl rfl rfl ?_
             rintro _ h1 ⟨b1, rfl, hg1, hb1, hx1⟩)
  all_goals (refine Go ?_)
  all_goals (refine Gs [(2, _)] ?_)
  all_goals (refine Gt ?_)
  all_goals (exact ⟨b1, rfl, hb1, hg1, hx1⟩)
abbrev nS : Value := .slice none 0 0
set_option maxHeartbeats 2000000 in
set_option maxRecDepth 100000 in
theorem clone_nil {h : Heap} : CallsH Tryz.prog 82 ⟨[nS]⟩ h fun u h' => u = nS ∧ h' = h := by
  refine calls [(0, _)] Tryz.func82 rfl Tryz.ntmps82 rfl ⟨rfl, trivial⟩ ?_
  all_goals (refine WC.sr ?_)
  all_goals (refine Go ?_)
  all_goals (refine WC.seq ?_)
  all_goals (refine WC.sr ?_)
  all_goals (refine Go ?_)
  all_goals (refine WL.step (ok_eqlSn Tryz.underlying22 rfl rfl) rfl rfl rfl ?_)
  all_goals (refine Gn ?_)
  all_goals (refine goC 1 2 ?_ ?_ <;> first | exact ⟨⟩ | refine Hb.mk fun hb => ?_ | skip)
  all_goals (first | (fail_if_success refine goB 1 ?_) | (
  refine goB 1 ?_
  all_goals (refine WC.sr ?_)
  all_goals (refine Go ?_)
  all_goals (refine Gt ?_)
  all_goals (exact ⟨rfl, rfl⟩)
  skip))
  all_goals (first | (fail_if_success refine goB 2 ?_) | (
  refine goB 2 ?_
  all_goals (refine WC.skip ?_)
  skip))
  all_goals (refine Gn ?_)
  all_goals (refine WC.sr ?_)
  all_goals (refine WL.stepR (okE_buildSlice (vs := []) (cs := []) (fun _ => []) Tryz.underlying22 rfl rfl (by kernel_rfl)) rfl rfl rfl ?_
             rintro _ h1 ⟨b1, rfl, hg1, hb1, hx1⟩)
  all_goals (refine Go ?_)
  all_goals (refine WL.stepR (ok_append (sz := 1) (bytes := 8) rfl Tryz.underlying22 (show Tryz.prog.info? 3 = some Tryz.t3 by kernel_rfl) rfl rfl rfl rfl (by decide) rfl rfl (by assumption) (by first | assumption | exact rd_blk (by assumption) rfl) (by simp [Value.oneCell']) (by simp only [maxLen]; omega) (by omega)) rfl rfl rfl ?_
             rintro v1 h1 ⟨ho1, hx1, hl1⟩)
  all_goals (refine Go ?_)
  all_goals (refine Gs [(2, _)] ?_)
  all_goals (refine Gt ?_)
  all_goals (exact ⟨rfl, rfl⟩)
set_option maxHeartbeats 2000000 in
set_option maxRecDepth 100000 in
/-- A P of a name that isn't there. -/
theorem parse_s {n : List UInt8} (hn : n ≠ []) (k : Se h bs ms bp mp be me 73 sk ov cnt [] P []) : CallsH Tryz.prog 46 ⟨[.pointer (some ⟨bs, 0, none⟩), .agg ⟨[.int .u8 80, .int .u8 0, St n, St [], St beginL, nS, nS, nS, nS, In 0]⟩]⟩ h fun u h' =>
    ∃ A m c, u = .tuple ⟨[.slice A m c, .nilIface]⟩ ∧ Se h' bs ms bp mp be me 73 sk ov cnt [(n, .agg ⟨[St beginL, nS]⟩)] P [] ∧ Kf h h' ∧ Ext (fun q => q = ms) h h' := by
  refine calls [(0, _), (1, _)] Tryz.func46 rfl Tryz.ntmps46 rfl ⟨rfl, rfl, trivial⟩ ?_
  all_goals (refine WC.sr ?_)
  all_goals (refine WL.stepR (okE_box rfl) rfl rfl rfl ?_
             rintro _ h1 ⟨b3, rfl, hg1, hb1, hx1⟩)
  all_goals (refine Go ?_)
  all_goals (refine WC.seq ?_)
  all_goals (refine WC.sr ?_)
  all_goals (refine Go ?_)
  all_goals (refine WL.ld rfl (by first | exact cell_blk hb1 rfl | assumption | exact cell_blk (by assumption) rfl) rfl rfl rfl ?_)
  all_goals (refine Go ?_)
  all_goals (refine Gs [(0, _), (3, _), (11, _)] ?_)
  all_goals (refine goC 1 2 ?_ ?_ <;> first | exact ⟨⟩ | refine Hb.mk fun hb => ?_ | skip)
  all_goals (first | (fail_if_success refine goB 1 ?_) | (
  refine goB 1 ?_
  all_goals (refine WC.region ?_)
  all_goals (refine Go ?_)
  all_goals (refine WL.step (ok_nilCheck rfl) rfl rfl rfl ?_)
  all_goals (refine Go ?_)
  all_goals (refine Ld ?_)
  all_goals (refine WL.stepR0 (ok_delete rfl keyS Tryz.underlying28 Tryz.underlying9 rfl rfl (by assumption)) rfl rfl ?_
             rintro _ h1 ⟨hm1, hx1⟩)
  all_goals (refine Gn ?_)
  skip))
  all_goals (first | (fail_if_success refine goB 2 ?_) | (
  refine goB 2 ?_
  all_goals (refine WC.skip ?_)
  skip))
  all_goals (refine Gn ?_)
  all_goals (refine WC.seq ?_)
  all_goals (refine WC.sr ?_)
  all_goals (refine Go ?_)
  all_goals (refine WL.ld rfl (by first | exact cell_blk hb1 rfl | assumption | exact cell_blk (by assumption) rfl) rfl rfl rfl ?_)
  all_goals (refine WL.call (vs := [_, _]) rfl (fun a w => Tryz.call79 a w) rfl (refused_begin (k.ext0 hx1)) rfl rfl rfl ?_
             rintro _ h2 ⟨rfl, hx2⟩)
  all_goals (have hb2 := hx2.obj hb1 nos
             have k2 := k.ext0 (hx1.trans hx2)
             have hbs := k2.blk
             have hms := k2.stm)
  all_goals (refine Go ?_)
  all_goals (refine Gs [(0, _), (3, _), (6, _)] ?_)
  all_goals (refine WC.sr ?_)
  all_goals (refine Go ?_)
  all_goals (first | (refine WL.step (ok_neqIh (by kernel_rfl) rfl rfl) rfl rfl rfl ?_) | (refine WL.step (ok_neqIn (by kernel_rfl) rfl rfl) rfl rfl rfl ?_))
  all_goals (refine Gn ?_)
  all_goals (refine goC 3 4 ?_ ?_ <;> first | exact ⟨⟩ | refine Hb.mk fun hb => ?_ | skip)
  all_goals (first | (fail_if_success refine goB 3 ?_) | (
  refine goB 3 ?_
  all_goals (refine WC.sr ?_)
  all_goals (refine Go ?_)
  all_goals (refine Gs [(4, _), (5, _)] ?_)
  all_goals (refine Gt ?_)
  all_goals (refine ⟨_, _, _, rfl, ?_, (((kf_no hx1).trans (kf_no hx2)).trans (kf_no X4)).trans ((kf_map hms4 hx5).trans (kf_no hx6)), (((hx1.trans hx2).trans X4).mono fun _ _ e => e.elim).trans (hx5.trans (hx6.mono fun _ _ e => e.elim))⟩
             have lm := hms4.lt
             have o : ∀ {q : Nat} {cs : Array Value} {TT : TypeId}, h4[q]? = some (.cells cs TT (0, 0)) → ¬ q = ms := fun hq e => by subst e; obtain ⟨_, _, z, _⟩ := hms4; rw [hq] at z; cases z
             exact (⟨hx5.obj k4.blk (o k4.blk), hm5, hx5.obj k4.pb (o k4.pb), k4.pm.ext hx5 (fun e => k4.ne.1 e.symm), hx5.obj k4.eb (o k4.eb), k4.em.ext hx5 (fun e => k4.ne.2.1 e.symm), k4.ne⟩ : Se h5 bs ms bp mp be me 73 sk ov cnt [(n, .agg ⟨[St beginL, nS]⟩)] P []).ext0 hx6)
  skip))
  all_goals (first | (fail_if_success refine goB 4 ?_) | (
  refine goB 4 ?_
  all_goals (refine WC.skip ?_)
  skip))
  all_goals (refine Gn ?_)
  all_goals (refine WC.seq ?_)
  all_goals (refine WC.seq ?_)
  all_goals (refine WC.drawH (fun h' => Ext No h2 h') 13 13 rfl fol ?_)
  all_goals (refine WH.tk 0 rfl (fun hq hC => ok_move rfl) rfl rfl rfl ?_)
  all_goals (refine WH.tk 1 rfl (fun hq hC => ok_nilCheck rfl) rfl rfl rfl ?_)
  all_goals (refine WH.tk 2 rfl (fun hq hC => ok_fieldAddr rfl Tryz.underlying32 rfl (fun w => Tryz.sizeOf28 w)) rfl rfl rfl ?_)
  all_goals (refine WH.tk 3 rfl (fun hq hC => ok_load (fun w => Tryz.isAgg28 w) rfl (by first | exact hC.cell (by first | exact cell_blk hbs rfl | assumption | exact cell_blk (by assumption) rfl) nos)) rfl rfl rfl ?_)
  all_goals (refine WH.tk 4 rfl (fun hq hC => ok_fieldAddr rfl Tryz.underlying25 rfl (fun w => Tryz.sizeOf9 w)) rfl rfl rfl ?_)
  all_goals (refine WH.tk 5 rfl (fun hq hC => ok_load (fun w => Tryz.isAgg9 w) rfl (by first | exact hC.cell (by first | exact cell_blk hb2 rfl | assumption | exact cell_blk (by assumption) rfl) nos)) rfl rfl rfl ?_)
  all_goals (first | (refine WH.tk 6 rfl (fun hq hC => (ok_lookup keyS Tryz.underlying28 Tryz.underlying9 rfl rfl (hms.ext hC nos) (by rfl)).1) rfl rfl rfl ?_) | (refine WH.tk 6 rfl (fun hq hC => (ok_lookup_no keyS Tryz.underlying28 Tryz.underlying9 (fun w => Tryz.zeroValue135 w) rfl rfl (hms.ext hC nos) (by rfl)).1) rfl rfl rfl ?_) | (refine WH.tk 6 rfl (fun hq hC => (ok_lookup_nil keyS Tryz.underlying28 Tryz.underlying9 (fun w => Tryz.zeroValue135 w) rfl rfl).1) rfl rfl rfl ?_))
  all_goals (refine WH.tk 7 rfl (fun hq hC => ok_move rfl) rfl rfl rfl ?_)
  all_goals (refine WH.tk 8 rfl (fun hq hC => ok_extract rfl rfl) rfl rfl rfl ?_)
  all_goals (refine WH.tk 9 rfl (fun hq hC => ok_extract rfl rfl) rfl rfl rfl ?_)
  all_goals (refine WH.one 10 (by kernel_rfl) ?_)
  all_goals (refine Comes1.run rfl (okE_alloc (fun w => Tryz.zeroValue135 w)) rfl rfl rfl ?_ (fun _ => by kernel_rfl)
             rintro _ h3 ⟨b7, rfl, hg3, hb3, hx3⟩)
  all_goals (refine ⟨fun _ => hx3, ?_⟩)
  all_goals (refine WH.one 11 (by kernel_rfl) ?_)
  all_goals (refine Comes1.run0 rfl (okE_storeW (fun w => Tryz.sizeOf135 w) rfl rfl rfl hb3 rfl (by simp [Value.oneCell'])) rfl rfl ?_ (fun _ => by kernel_rfl)
             rintro _ h4 ⟨hb4, hx4⟩)
  all_goals (refine ⟨fun _ => hx3.trans' hx4 (fun q hq e => by omega), ?_⟩)
  all_goals (have X4 : Ext No h2 h4 := hx3.trans' hx4 (fun q hq e => by omega)
             have k4 := k2.ext0 X4
             have hbs4 := k4.blk
             have hms4 := k4.stm
             have hb14 := X4.obj hb2 nos)
  all_goals (refine WH.tk 12 rfl (fun hq hC => ok_assign rfl) rfl rfl rfl ?_)
  all_goals (refine WH.done (by kernel_rfl) ?_)
  all_goals (refine Gn ?_)
  all_goals (refine Gs [(0, _), (3, _), (8, _)] ?_)
  all_goals (refine WC.sr ?_)
  all_goals (refine Go ?_)
  all_goals (refine goC 5 6 ?_ ?_ <;> first | exact ⟨⟩ | refine Hb.mk fun hb => ?_ | skip)
  all_goals (first | (fail_if_success refine goB 6 ?_) | (
  refine goB 6 ?_
  all_goals (refine WC.skip ?_)
  skip))
  all_goals (refine Gn ?_)
  all_goals (refine WC.seq ?_)
  all_goals (refine WC.drawH (fun h' => Ext No h4 h') 12 13 rfl fol ?_)
  all_goals (refine WH.tk 0 rfl (fun hq hC => ok_move rfl) rfl rfl rfl ?_)
  all_goals (refine WH.tk 1 rfl (fun hq hC => ok_nilCheck rfl) rfl rfl rfl ?_)
  all_goals (refine WH.tk 2 rfl (fun hq hC => ok_fieldAddr rfl Tryz.underlying32 rfl (fun w => Tryz.sizeOf28 w)) rfl rfl rfl ?_)
  all_goals (refine WH.tk 3 rfl (fun hq hC => ok_load (fun w => Tryz.isAgg28 w) rfl (by first | exact hC.cell (by first | exact cell_blk hbs4 rfl | assumption | exact cell_blk (by assumption) rfl) nos)) rfl rfl rfl ?_)
  all_goals (refine WH.tk 4 rfl (fun hq hC => ok_fieldAddr rfl Tryz.underlying25 rfl (fun w => Tryz.sizeOf9 w)) rfl rfl rfl ?_)
  all_goals (refine WH.tk 5 rfl (fun hq hC => ok_load (fun w => Tryz.isAgg9 w) rfl (by first | exact hC.cell (by first | exact cell_blk hb14 rfl | assumption | exact cell_blk (by assumption) rfl) nos)) rfl rfl rfl ?_)
  all_goals (refine WH.tk 6 rfl (fun hq hC => ok_fieldAddr rfl Tryz.underlying25 rfl (fun w => Tryz.sizeOf9 w)) rfl rfl rfl ?_)
  all_goals (refine WH.tk 7 rfl (fun hq hC => ok_load (fun w => Tryz.isAgg9 w) rfl (by first | exact hC.cell (by first | exact cell_blk hb14 rfl | assumption | exact cell_blk (by assumption) rfl) nos)) rfl rfl rfl ?_)
  all_goals (refine WH.tk 8 rfl (fun hq hC => ok_fieldAddr rfl Tryz.underlying25 rfl (fun w => Tryz.sizeOf22 w)) rfl rfl rfl ?_)
  all_goals (refine WH.tk 9 rfl (fun hq hC => ok_load (fun w => Tryz.isAgg22 w) rfl (by first | exact hC.cell (by first | exact cell_blk hb14 rfl | assumption | exact cell_blk (by assumption) rfl) nos)) rfl rfl rfl ?_)
  all_goals (refine WH.one 10 (by kernel_rfl) ?_)
  all_goals (refine Comes1.call (vs := [_]) rfl rfl (fun a w => Tryz.call82 a w) rfl (clone_nil) rfl rfl rfl ?_ (fun _ => by kernel_rfl)
             rintro _ hq ⟨rfl, hz⟩
             replace hz := hz.symm
             subst hz)
  all_goals (refine ⟨fun _ => .refl _ _, ?_⟩)
  all_goals (refine WH.tk 11 rfl (fun hq hC => ok_buildF (vs := [_, _]) (cs := [_, _]) (fun | [a0, a1] => [a0, a1] | _ => []) rfl rfl (by kernel_rfl)) rfl rfl rfl ?_)
  all_goals (refine WH.one 12 (by kernel_rfl) ?_)
  all_goals (refine Comes1.run0 rfl (ok_mapUpdate keyS Tryz.underlying28 Tryz.underlying9 rfl rfl rfl hms4) rfl rfl ?_ (fun _ => by kernel_rfl)
             rintro _ h5 ⟨hm5, hx5⟩)
  all_goals (refine ⟨fun e => (by cases e), ?_⟩)
  all_goals (refine WH.done (by kernel_rfl) ?_)
  all_goals (refine Gn ?_)
  all_goals (refine Gs [] ?_)
  all_goals (refine WC.sr ?_)
  all_goals (refine WL.call (vs := [_]) rfl (fun a w => Tryz.call83 a w) rfl (plain_v 49) rfl rfl rfl ?_
             rintro _ h6 ⟨q, rfl, hq6, hgq, hx6⟩)
  all_goals (refine Go ?_)
  all_goals (refine Gt ?_)
  all_goals (refine ⟨_, _, _, rfl, ?_, (((kf_no hx1).trans (kf_no hx2)).trans (kf_no X4)).trans ((kf_map hms4 hx5).trans (kf_no hx6)), (((hx1.trans hx2).trans X4).mono fun _ _ e => e.elim).trans (hx5.trans (hx6.mono fun _ _ e => e.elim))⟩
             have lm := hms4.lt
             have o : ∀ {q : Nat} {cs : Array Value} {TT : TypeId}, h4[q]? = some (.cells cs TT (0, 0)) → ¬ q = ms := fun hq e => by subst e; obtain ⟨_, _, z, _⟩ := hms4; rw [hq] at z; cases z
             exact (⟨hx5.obj k4.blk (o k4.blk), hm5, hx5.obj k4.pb (o k4.pb), k4.pm.ext hx5 (fun e => k4.ne.1 e.symm), hx5.obj k4.eb (o k4.eb), k4.em.ext hx5 (fun e => k4.ne.2.1 e.symm), k4.ne⟩ : Se h5 bs ms bp mp be me 73 sk ov cnt [(n, .agg ⟨[St beginL, nS]⟩)] P []).ext0 hx6)
end
end Go.Proofs.YtbhneapeibggnaaGreatDoor


/-
  SESSIONS (layer 30): a B and an E of "begin", and a Z.
-/
namespace Go.Proofs.YtbhneapeibggnaaGreatDoor
open Go Go.RK

section
variable {h h' : Heap} {bs ms bp mp be me : Nat} {st st' : Int} {sk ov : Bool} {cnt : Int} {L P P' R : List (List UInt8 × Value)} {S : Nat → Prop}
theorem mpNo {es : List (List UInt8 × Value)} {m q : Nat} {cs : Array Value} {TT : TypeId} (k : Mp .string St h m es) (hq : h[q]? = some (.cells cs TT (0, 0))) : ¬ q = m := fun e => by
  subst e
  obtain ⟨_, _, z, _⟩ := k
  rw [hq] at z
  cases z
/-- The portals' map turned. -/
theorem Se.turnP (k : Se h bs ms bp mp be me st sk ov cnt L P R) (x : Ext (fun q => q = mp) h h') (hm : Mp .string St h' mp P') : Se h' bs ms bp mp be me st sk ov cnt L P' R :=
  ⟨x.obj k.blk (mpNo k.pm k.blk), k.stm.ext x k.ne.1, x.obj k.pb (mpNo k.pm k.pb), hm, x.obj k.eb (mpNo k.pm k.eb), k.em.ext x (fun e => k.ne.2.2 e.symm), k.ne⟩
/-- A portal turned. -/
theorem Se.turnO (k : Se h bs ms bp mp be me st sk ov cnt L P R) {q : Nat} {cs : Array Value} (hq : h[q]? = some (.cells cs 147 (0, 0))) (x : Ext (fun z => z = q) h h') : Se h' bs ms bp mp be me st sk ov cnt L P R := by
  have o : ∀ {z : Nat} {ds : Array Value} {TT : TypeId}, TT ≠ 147 → h[z]? = some (.cells ds TT (0, 0)) → ¬ z = q := fun hT hz e => by
    subst e
    rw [hq] at hz
    simp only [Option.some.injEq, Obj.cells.injEq] at hz
    exact hT hz.2.1.symm
  exact ⟨x.obj k.blk (o (by decide) k.blk), k.stm.ext x (fun e => mpNo k.stm hq e.symm), x.obj k.pb (o (by decide) k.pb), k.pm.ext x (fun e => mpNo k.pm hq e.symm), x.obj k.eb (o (by decide) k.eb), k.em.ext x (fun e => mpNo k.em hq e.symm), k.ne⟩
/-- The session itself turned. -/
theorem Se.turnS (k : Se h bs ms bp mp be me st sk ov cnt L P R) {sk' ov' : Bool} (x : Ext (fun z => z = bs) h h') (hb : h'[bs]? = some (.cells ⟨[.map (some ms), .pointer (some ⟨bp, 0, none⟩), .pointer (some ⟨be, 0, none⟩), .int .u8 st', .bool sk', .bool ov']⟩ 32 (0, 0))) : Se h' bs ms bp mp be me st' sk' ov' cnt L P R := by
  have hq := k.blk
  have o : ∀ {z : Nat} {ds : Array Value} {TT : TypeId}, TT ≠ 32 → h[z]? = some (.cells ds TT (0, 0)) → ¬ z = bs := fun hT hz e => by
    subst e
    rw [hq] at hz
    simp only [Option.some.injEq, Obj.cells.injEq] at hz
    exact hT hz.2.1.symm
  exact ⟨hb, k.stm.ext x (fun e => mpNo k.stm hq e.symm), x.obj k.pb (o (by decide) k.pb), k.pm.ext x (fun e => mpNo k.pm hq e.symm), x.obj k.eb (o (by decide) k.eb), k.em.ext x (fun e => mpNo k.em hq e.symm), k.ne⟩
set_option maxHeartbeats 2000000 in
set_option maxRecDepth 100000 in
theorem aborted_no {t : List UInt8} {v : Value} (hst : st ≠ 69) (k : Se h bs ms bp mp be me st sk ov cnt L P R) : CallsH Tryz.prog 132 ⟨[.pointer (some ⟨bs, 0, none⟩), .agg ⟨[St t, v]⟩]⟩ h fun u h' => u = .nilIface ∧ Ext No h h' := by
  have hb := k.blk
  refine calls [(0, _), (1, _)] Tryz.func132 rfl Tryz.ntmps132 rfl ⟨rfl, rfl, trivial⟩ ?_
  all_goals (refine WC.sr ?_)
  all_goals (refine WL.stepR (okE_box rfl) rfl rfl rfl ?_
             rintro _ h1 ⟨b3, rfl, hg1, hb1, hx1⟩)
  all_goals (refine Go ?_)
  all_goals (refine WC.seq ?_)
  all_goals (refine WC.sr ?_)
  all_goals (refine Go ?_)
  all_goals (refine WL.step (ok_nilCheck rfl) rfl rfl rfl ?_)
  all_goals (refine Go ?_)
  all_goals (refine WL.ld rfl (by first | exact cell_blk (hx1.obj hb nos) rfl | assumption | exact cell_blk (by assumption) rfl) rfl rfl rfl ?_)
  all_goals (refine Go ?_)
  all_goals (refine goP 10 ?_ ?_ <;> first | exact ⟨⟩ | refine Hb.mk fun hb => ?_ | skip)
  all_goals (refine Gg ?_)
  all_goals (first | (refine WL.pass rfl rfl rfl ?_) | (refine Ld ?_))
  all_goals (first | (refine WL.pass rfl rfl rfl ?_) | (fail "no contract for call of remuda/sql.Parse at 1.8"))
  all_goals (first | (refine WL.pass rfl rfl rfl ?_) | (fail "no contract for call of remuda/sql.Exit at 1.9"))
  all_goals (refine Gg ?_)
  all_goals (refine Go ?_)
  all_goals (refine Gs [(16, _)] ?_)
  all_goals (refine goC 1 2 ?_ ?_ <;> first | exact ⟨⟩ | refine Hb.mk fun hb => ?_ | skip)
  all_goals (first | (fail_if_success refine goB 2 ?_) | (
  refine goB 2 ?_
  all_goals (refine WC.skip ?_)
  skip))
  all_goals (refine Gn ?_)
  all_goals (refine WC.sr ?_)
  all_goals (refine Go ?_)
  all_goals (refine Gt ?_)
  all_goals (exact ⟨rfl, hx1⟩)
set_option maxHeartbeats 2000000 in
set_option maxRecDepth 100000 in
theorem stmt_s {n t : List UInt8} (hst : st ≠ 69) (hl : alook L n = some (.agg ⟨[St t, nS]⟩)) (k : Se h bs ms bp mp be me st sk ov cnt L P R) : CallsH Tryz.prog 84 ⟨[.pointer (some ⟨bs, 0, none⟩), St n]⟩ h fun u h' => u = .tuple ⟨[.agg ⟨[St t, nS]⟩, .nilIface]⟩ ∧ Ext No h h' := by
  refine calls [(0, _), (1, _)] Tryz.func84 rfl Tryz.ntmps84 rfl ⟨rfl, rfl, trivial⟩ ?_
  all_goals (refine WC.sr ?_)
  all_goals (refine WL.stepR (okE_alloc (fun w => Tryz.zeroValue135 w)) rfl rfl rfl ?_
             rintro _ h1 ⟨b4, rfl, hg1, hb4, hx1⟩)
  all_goals (refine Go ?_)
  all_goals (refine WC.sr ?_)
  all_goals (have k1 := k.ext0 hx1
             have hb := k1.blk
             have hms := k1.stm
             have l4 := lt_of_some hb4)
  all_goals (refine WL.step (ok_move rfl) rfl rfl rfl ?_)
  all_goals (refine WL.step (ok_nilCheck rfl) rfl rfl rfl ?_)
  all_goals (refine Go ?_)
  all_goals (refine WL.ld rfl (by first | exact cell_blk hb rfl | assumption | exact cell_blk (by assumption) rfl) rfl rfl rfl ?_)
  all_goals (refine Go ?_)
  all_goals (first | (refine WL.step ((ok_lookup keyS Tryz.underlying28 Tryz.underlying9 rfl rfl hms hl).1) rfl rfl rfl ?_) | (refine WL.step ((ok_lookup_no keyS Tryz.underlying28 Tryz.underlying9 (fun w => Tryz.zeroValue135 w) rfl rfl hms hl).1) rfl rfl rfl ?_) | (refine WL.step ((ok_lookup_nil keyS Tryz.underlying28 Tryz.underlying9 (fun w => Tryz.zeroValue135 w) rfl rfl).1) rfl rfl rfl ?_))
  all_goals (refine Go ?_)
  all_goals (refine WL.stepR (okE_alloc (fun w => Tryz.zeroValue135 w)) rfl rfl rfl ?_
             rintro _ h2 ⟨b6, rfl, hg2, hb6, hx2⟩)
  all_goals (refine WL.stepR0 (okE_storeW (fun w => Tryz.sizeOf135 w) rfl rfl rfl hb6 rfl (by simp [Value.oneCell'])) rfl rfl ?_
             rintro _ h3 ⟨hb63, hx3⟩)
  all_goals (have X3 : Ext No h1 h3 := hx2.trans' hx3 (fun q hq e => by omega)
             have k3 := k1.ext0 X3
             have hb43 := X3.obj hb4 nos
             have n64 : ¬ b6 = b4 := by omega)
  all_goals (refine Go ?_)
  all_goals (refine Gs [(0, _), (1, _), (4, _), (6, _), (7, _)] ?_)
  all_goals (refine WC.seq ?_)
  all_goals (refine WC.sr ?_)
  all_goals (refine Go ?_)
  all_goals (refine goC 1 2 ?_ ?_ <;> first | exact ⟨⟩ | refine Hb.mk fun hb => ?_ | skip)
  all_goals (first | (fail_if_success refine goB 2 ?_) | (
  refine goB 2 ?_
  all_goals (refine WC.skip ?_)
  skip))
  all_goals (refine Gn ?_)
  all_goals (refine Gs [(0, _), (4, _), (6, _)] ?_)
  all_goals (refine WC.seq ?_)
  all_goals (refine WC.drawH (fun h' => Ext (fun q => q = b4) h3 h') 6 6 rfl fol ?_)
  all_goals (refine WH.tk 0 rfl (fun hq hC => ok_loadN (fun w => Tryz.isAgg135 w) (fun w => Tryz.sizeOf135 w) rfl rfl (by exact (At.of_block hb63).ext hC n64)) rfl rfl rfl ?_)
  all_goals (refine WH.tk 1 rfl (fun hq hC => ok_move rfl) rfl rfl rfl ?_)
  all_goals (refine WH.tk 2 rfl (fun hq hC => ok_loadN (fun w => Tryz.isAgg135 w) (fun w => Tryz.sizeOf135 w) rfl rfl (by exact (At.of_block hb63).ext hC n64)) rfl rfl rfl ?_)
  all_goals (refine WH.one 3 (by kernel_rfl) ?_)
  all_goals (refine Comes1.call (vs := [_, _]) rfl rfl (fun a w => Tryz.call132 a w) rfl (aborted_no hst k3) rfl rfl rfl ?_ (fun _ => by kernel_rfl)
             rintro _ h4 ⟨rfl, hx4⟩)
  all_goals (refine ⟨fun _ => hx4.mono fun _ _ e => e.elim, ?_⟩)
  all_goals (have hC4 : Ext (fun q => q = b4) h3 h4 := hx4.mono fun _ _ e => e.elim)
  all_goals (refine WH.one 4 (by kernel_rfl) ?_)
  all_goals (refine Comes1.run0 rfl (okE_storeW (fun w => Tryz.sizeOf135 w) rfl rfl rfl (hx4.obj hb43 nos) rfl (by simp [Value.oneCell'])) rfl rfl ?_ (fun _ => by kernel_rfl)
             rintro _ h5 ⟨hb5, hx5⟩)
  all_goals (refine ⟨fun _ => hC4.trans hx5, ?_⟩)
  all_goals (have hC5 := hC4.trans hx5)
  all_goals (refine WH.tk 5 rfl (fun hq hC => ok_assign rfl) rfl rfl rfl ?_)
  all_goals (refine WH.done (by kernel_rfl) ?_)
  all_goals (refine Gn ?_)
  all_goals (refine Gs [(4, _), (5, _)] ?_)
  all_goals (refine WC.ret ?_)
  all_goals (repeat' (with_reducible first | refine thenP_r ?_ | refine blockP_r ?_))
  all_goals (refine retP_2 _ _ ⟨⟨_, rfl, ld_blk (fun w => Tryz.isAgg135 w) (fun w => Tryz.sizeOf135 w) hb5 rfl⟩, rfl, trivial⟩ ?_)
  all_goals (exact ⟨rfl, (hx1.trans X3).trans' hC5 (fun q hq e => by omega)⟩)
/-- What a portal of "begin" holds. -/
def pB : List UInt8 × List Int × List (Bool × List UInt8) × List (List (Bool × List UInt8)) × Bool × Bool := (beginL, [], [], [], false, false)
def PDb : PD := ⟨beginL, .slice none 0 0, [], .slice none 0 0, [], .slice none 0 0, [], false, false⟩
theorem pdb_ok (h : Heap) : PDb.ok h := ⟨Rd.nil _ _, by simp [PDb], cels_zero h _, ⟨Rd.nil _ _, ⟨by simp [PDb], _, _, rfl, by decide⟩, by simp [PDb]⟩⟩
set_option maxHeartbeats 2000000 in
set_option maxRecDepth 100000 in
/-- A B of the unnamed portal. -/
theorem bind_s {n : List UInt8} (hst : st ≠ 69) (hl : alook L n = some (.agg ⟨[St beginL, nS]⟩)) (k : Se h bs ms bp mp be me st sk ov cnt L [] R) : CallsH Tryz.prog 47 ⟨[.pointer (some ⟨bs, 0, none⟩), .agg ⟨[.int .u8 66, .int .u8 0, St n, St [], St [], nS, nS, nS, nS, In 0]⟩]⟩ h fun u h' =>
    ∃ A m c p d, u = .tuple ⟨[.slice A m c, .nilIface]⟩ ∧ Se h' bs ms bp mp be me st sk ov cnt L [([], .pointer (some ⟨p, 0, none⟩))] R ∧ h'[p]? = some (.cells ⟨PD.cells d⟩ 147 (0, 0)) ∧ d.ok h' ∧ d.pl = pB ∧ (∀ q, d.F q → q ≠ p) ∧ Kf h h' ∧ Ext (fun q => q = mp) h h' ∧ h.size ≤ p := by
  have kp := fun (g : Heap) (k : Se g bs ms bp mp be me st sk ov cnt L [] R) => put_e [] PDb k.pb k.pm (pdb_ok g) (.inl rfl)
  unfold PDb PD.cells at kp
  refine calls [(0, _), (1, _)] Tryz.func47 rfl Tryz.ntmps47 rfl ⟨rfl, rfl, trivial⟩ ?_
  all_goals (refine WC.sr ?_)
  all_goals (refine WL.stepR (okE_box rfl) rfl rfl rfl ?_
             rintro _ h1 ⟨b3, rfl, hg1, hb1, hx1⟩)
  all_goals (refine Go ?_)
  all_goals (refine WC.sr ?_)
  all_goals (refine Go ?_)
  all_goals (refine WL.ld rfl (by first | exact cell_blk hb1 rfl | assumption | exact cell_blk (by assumption) rfl) rfl rfl rfl ?_)
  all_goals (refine WL.call (vs := [_, _]) rfl (fun a w => Tryz.call84 a w) rfl (stmt_s hst hl (k.ext0 hx1)) rfl rfl rfl ?_
             rintro _ h2 ⟨rfl, hx2⟩)
  all_goals (refine Go ?_)
  all_goals (refine WL.stepR (okE_alloc (fun w => Tryz.zeroValue135 w)) rfl rfl rfl ?_
             rintro _ h3 ⟨b6, rfl, hg3, hb3, hx3⟩)
  all_goals (refine WL.stepR0 (okE_storeW (fun w => Tryz.sizeOf135 w) rfl rfl rfl hb3 rfl (by simp [Value.oneCell'])) rfl rfl ?_
             rintro _ h4 ⟨hb4, hx4⟩)
  all_goals (have X14 : Ext No h1 h4 := hx2.trans (hx3.trans' hx4 (fun q hq e => by omega))
             have hb14 := X14.obj hb1 nos
             have k4 := k.ext0 (hx1.trans X14)
             have hbs := k4.blk)
  all_goals (refine Go ?_)
  all_goals (refine Gs [(0, _), (3, _), (6, _), (7, _)] ?_)
  all_goals (refine WC.seq ?_)
  all_goals (refine WC.sr ?_)
  all_goals (refine Go ?_)
  all_goals (first | (refine WL.step (ok_neqIh (by kernel_rfl) rfl rfl) rfl rfl rfl ?_) | (refine WL.step (ok_neqIn (by kernel_rfl) rfl rfl) rfl rfl rfl ?_))
  all_goals (refine Gn ?_)
  all_goals (refine goC 1 2 ?_ ?_ <;> first | exact ⟨⟩ | refine Hb.mk fun hb => ?_ | skip)
  all_goals (first | (fail_if_success refine goB 1 ?_) | (
  refine goB 1 ?_
  all_goals (refine WC.sr ?_)
  all_goals (refine Go ?_)
  all_goals (refine Gs [(4, _), (5, _)] ?_)
  all_goals (refine Gt ?_)
  all_goals (exact ⟨_, _, _, p, d, rfl, (k4.turnP hx5 hm5).ext0 hx6, hx6.obj hb5 nos, ok5.ext hx6 (fun _ _ => nos), pl5, fun q hq => (hf5 q hq).2, ((kf_no hx1).trans (kf_no X14)).trans ((kf_map k4.pm hx5).trans (kf_no hx6)), ((hx1.trans X14).mono fun _ _ e => e.elim).trans (hx5.trans (hx6.mono fun _ _ e => e.elim)), by have := hx1.size; have := X14.size; omega⟩)
  skip))
  all_goals (first | (fail_if_success refine goB 2 ?_) | (
  refine goB 2 ?_
  all_goals (refine WC.skip ?_)
  skip))
  all_goals (refine Gn ?_)
  all_goals (refine WC.seq ?_)
  all_goals (refine WC.seq ?_)
  all_goals (refine WC.drawE fol (by kernel_rfl) ?_)
  all_goals (refine WQ.stepE (ok_fieldAddr rfl Tryz.underlying25 rfl (fun w => Tryz.sizeOf23 w)) rfl rfl rfl ?_)
  all_goals (refine WQ.stepE (ok_load (fun w => Tryz.isAgg23 w) rfl (by first | exact cell_blk hb14 rfl | assumption | exact cell_blk (by assumption) rfl)) rfl rfl rfl ?_)
  all_goals (refine WQ.stepE (ok_lenL rfl Tryz.underlying23 rfl) rfl rfl rfl ?_)
  all_goals (refine WQ.stepE (ok_fieldAddr rfl Tryz.underlying135 rfl (fun w => Tryz.sizeOf22 w)) rfl rfl rfl ?_)
  all_goals (refine WQ.stepE (ok_load (fun w => Tryz.isAgg22 w) rfl (by first | exact cell_blk hb4 rfl | assumption | exact cell_blk (by assumption) rfl)) rfl rfl rfl ?_)
  all_goals (refine WQ.stepE (ok_lenL rfl Tryz.underlying22 rfl) rfl rfl rfl ?_)
  all_goals (refine WQ.stepE (ok_assign rfl) rfl rfl rfl ?_)
  all_goals (refine WQ.stepE (ok_assign rfl) rfl rfl rfl ?_)
  all_goals (refine WQ.nil ?_)
  all_goals (refine Gn ?_)
  all_goals (refine Gs [(0, _), (3, _), (6, _), (8, _), (9, _)] ?_)
  all_goals (refine WC.sr ?_)
  all_goals (refine Go ?_)
  all_goals (refine goC 3 4 ?_ ?_ <;> first | exact ⟨⟩ | refine Hb.mk fun hb => ?_ | skip)
  all_goals (first | (fail_if_success refine goB 4 ?_) | (
  refine goB 4 ?_
  all_goals (refine WC.skip ?_)
  skip))
  all_goals (refine Gn ?_)
  all_goals (refine Gs [(0, _), (3, _), (6, _)] ?_)
  all_goals (refine WC.seq ?_)
  all_goals (refine WC.seq ?_)
  all_goals (refine WC.drawT 10 fol (by kernel_rfl) ?_)
  all_goals (show WS _ _ _ [_, _, _, _, _, _, _, _, _, _] _ _ _)
  all_goals (refine WS.step (ok_move rfl) rfl rfl rfl ?_)
  all_goals (refine WS.step (ok_nilCheck rfl) rfl rfl rfl ?_)
  all_goals (refine WS.step (ok_fieldAddr rfl Tryz.underlying32 rfl (fun w => Tryz.sizeOf29 w)) rfl rfl rfl ?_)
  all_goals (refine WS.step (ok_load (fun w => Tryz.isAgg29 w) rfl (by first | exact cell_blk hbs rfl | assumption | exact cell_blk (by assumption) rfl)) rfl rfl rfl ?_)
  all_goals (refine WS.step (ok_fieldAddr rfl Tryz.underlying25 rfl (fun w => Tryz.sizeOf9 w)) rfl rfl rfl ?_)
  all_goals (refine WS.step (ok_load (fun w => Tryz.isAgg9 w) rfl (by first | exact cell_blk hb14 rfl | assumption | exact cell_blk (by assumption) rfl)) rfl rfl rfl ?_)
  all_goals (refine WS.step (ok_loadN (fun w => Tryz.isAgg135 w) (fun w => Tryz.sizeOf135 w) rfl rfl (by exact At.of_block hb4)) rfl rfl rfl ?_)
  all_goals (refine WS.step (ok_fieldAddr rfl Tryz.underlying25 rfl (fun w => Tryz.sizeOf23 w)) rfl rfl rfl ?_)
  all_goals (refine WS.step (ok_load (fun w => Tryz.isAgg23 w) rfl (by first | exact cell_blk hb14 rfl | assumption | exact cell_blk (by assumption) rfl)) rfl rfl rfl ?_)
  all_goals (refine WS.step (ok_buildF (vs := [_, _]) (cs := [_, _, _, _, _, _]) (fun | [.agg ⟨[a0, a1]⟩, a2] => [a0, a1, a2, (.slice none 0 0), (.bool false), (.bool false)] | _ => []) rfl rfl (by kernel_rfl)) rfl rfl rfl ?_)
  all_goals (refine WS.nil ?_)
  all_goals (show WL _ _ _ [_, _] _ _ _)
  all_goals (refine WL.call (vs := [_, _, _]) rfl (fun a w => Tryz.call86 a w) rfl (kp _ k4) rfl rfl rfl ?_
             rintro _ h5 ⟨rfl, p, d, hm5, hb5, ok5, pl5, hg5, hf5, hx5⟩)
  all_goals (first | (refine WL.step (OkP.nbool_t (by omega) (ok_neq rfl rfl)) rfl rfl rfl ?_) | (refine WL.step (OkP.nbool_f (by omega) (ok_neq rfl rfl)) rfl rfl rfl ?_) | (refine WL.step (ok_neq rfl rfl) rfl rfl rfl ?_))
  all_goals (refine WL.nil ?_)
  all_goals (refine Gn ?_)
  all_goals (refine Gs [(3, _), (46, _)] ?_)
  all_goals (refine goC 5 6 ?_ ?_ <;> first | exact ⟨⟩ | refine Hb.mk fun hb => ?_ | skip)
  all_goals (first | (fail_if_success refine goB 6 ?_) | (
  refine goB 6 ?_
  all_goals (refine WC.skip ?_)
  skip))
  all_goals (refine Gn ?_)
  all_goals (refine WC.sr ?_)
  all_goals (refine WL.call (vs := [_]) rfl (fun a w => Tryz.call83 a w) rfl (plain_v 50) rfl rfl rfl ?_
             rintro _ h6 ⟨q, rfl, hq6, hgq, hx6⟩)
  all_goals (refine Go ?_)
  all_goals (refine Gt ?_)
  all_goals (exact ⟨_, _, _, p, d, rfl, (k4.turnP hx5 hm5).ext0 hx6, hx6.obj hb5 nos, ok5.ext hx6 (fun _ _ => nos), pl5, fun q hq => (hf5 q hq).2, ((kf_no hx1).trans (kf_no X14)).trans ((kf_map k4.pm hx5).trans (kf_no hx6)), ((hx1.trans X14).mono fun _ _ e => e.elim).trans (hx5.trans (hx6.mono fun _ _ e => e.elim)), by have := hx1.size; have := X14.size; omega⟩)
set_option maxHeartbeats 2000000 in
set_option maxRecDepth 100000 in
theorem get_f {b m p : Nat} {es : List (List UInt8 × Value)} {name : List UInt8} {d : PD} (r : Pe h b m es p name d) :
    CallsH Tryz.prog 136 ⟨[.pointer (some ⟨b, 0, none⟩), St name]⟩ h fun u h' => (∃ d' : PD, u = .tuple ⟨[.agg ⟨d'.cells⟩, .bool true]⟩ ∧ d'.ok h' ∧ d'.pl = d.pl ∧ ∀ k, d'.F k → h.size ≤ k) ∧ Ext No h h' := by
  refine calls [(0, _), (1, _)] Tryz.func136 rfl Tryz.ntmps136 rfl ⟨rfl, rfl, trivial⟩ ?_
  all_goals (refine WC.sr ?_)
  all_goals (refine WL.stepR (okE_alloc (fun w => Tryz.zeroValue147 w)) rfl rfl rfl ?_
             rintro _ h1 ⟨b1, rfl, hg1, hb1, hx1⟩)
  all_goals (have r1 := r.ext0 hx1)
  all_goals (refine Go ?_)
  all_goals (refine WC.sr ?_)
  all_goals (refine Go ?_)
  all_goals (refine WL.call (vs := [_, _]) rfl (fun a w => Tryz.call143 a w) rfl (of_e r1) rfl rfl rfl ?_
             rintro _ hz ⟨rfl, _⟩
             subst hz)
  all_goals (refine Go ?_)
  all_goals (refine Gs [(4, _), (6, _), (7, _)] ?_)
  all_goals (refine WC.seq ?_)
  all_goals (refine WC.sr ?_)
  all_goals (refine Go ?_)
  all_goals (refine goC 1 2 ?_ ?_ <;> first | exact ⟨⟩ | refine Hb.mk fun hb => ?_ | skip)
  all_goals (first | (fail_if_success refine goB 1 ?_) | (
  refine goB 1 ?_
  all_goals (refine WC.sr ?_)
  all_goals (refine WL.step (ok_buildF (vs := []) (cs := [_, _, _, _, _, _]) (fun | [] => [(St []), (.slice none 0 0), (.slice none 0 0), (.slice none 0 0), (.bool false), (.bool false)] | _ => []) rfl rfl (by kernel_rfl)) rfl rfl rfl ?_)
  all_goals (refine WL.stepR0 (okE_storeW (fun w => Tryz.sizeOf147 w) rfl rfl rfl (by assumption) rfl (by simp [Value.oneCell'])) rfl rfl ?_
             rintro _ h1 ⟨hb1, hx1⟩)
  all_goals (refine Go ?_)
  all_goals (refine Gs [(4, _), (5, _)] ?_)
  all_goals (refine WC.ret ?_)
  all_goals (repeat' (with_reducible first | refine thenP_r ?_ | refine blockP_r ?_))
  all_goals (refine retP_2 _ _ ⟨⟨_, rfl, ld_blk (fun w => Tryz.isAgg147 w) (fun w => Tryz.sizeOf147 w) (by assumption) rfl⟩, rfl, trivial⟩ ?_)
  all_goals (exact ⟨⟨d2, rfl, ok2.ext hx3 (fun k hk e => by have := hf2 k hk; have := lt_of_some hb1; omega), pl2, fun k hk => by have := hf2 k hk; have := hx1.size; omega⟩, (hx1.trans hx2).trans' hx3 (fun k hk e => by omega)⟩)
  skip))
  all_goals (first | (fail_if_success refine goB 2 ?_) | (
  refine goB 2 ?_
  all_goals (refine WC.skip ?_)
  skip))
  all_goals (refine Gn ?_)
  all_goals (refine WC.sr ?_)
  all_goals (refine Go ?_)
  all_goals (refine WL.step (ok_nilCheck rfl) rfl rfl rfl ?_)
  all_goals (refine WL.step (ok_loadN (fun w => Tryz.isAgg147 w) (fun w => Tryz.sizeOf147 w) rfl rfl (by exact At.of_block r1.blk)) rfl rfl rfl ?_)
  all_goals (refine WL.call (vs := [_]) rfl (fun a w => Tryz.call135 a w) rfl (own_port d r1.ok) rfl rfl rfl ?_
             rintro _ h2 ⟨d2, rfl, ok2, pl2, hx2, hf2⟩)
  all_goals (refine WL.stepR0 (okE_storeW (fun w => Tryz.sizeOf147 w) rfl rfl rfl (hx2.obj hb1 nos) rfl (pd_one ok2)) rfl rfl ?_
             rintro _ h3 ⟨hb3, hx3⟩)
  all_goals (refine Go ?_)
  all_goals (refine Gs [(4, _), (5, _)] ?_)
  all_goals (refine WC.ret ?_)
  all_goals (repeat' (with_reducible first | refine thenP_r ?_ | refine blockP_r ?_))
  all_goals (refine retP_2 _ _ ⟨⟨_, rfl, ld_blk (fun w => Tryz.isAgg147 w) (fun w => Tryz.sizeOf147 w) (by assumption) rfl⟩, rfl, trivial⟩ ?_)
  all_goals (exact ⟨⟨d2, rfl, ok2.ext hx3 (fun k hk e => by have := hf2 k hk; have := lt_of_some hb1; omega), pl2, fun k hk => by have := hf2 k hk; have := hx1.size; omega⟩, (hx1.trans hx2).trans' hx3 (fun k hk e => by omega)⟩)
set_option maxHeartbeats 2000000 in
set_option maxRecDepth 100000 in
theorem portal_s {p : Nat} {d : PD} (hst : st ≠ 69) (k : Se h bs ms bp mp be me st sk ov cnt L [([], .pointer (some ⟨p, 0, none⟩))] R) (hp : h[p]? = some (.cells ⟨PD.cells d⟩ 147 (0, 0))) (ok : d.ok h) (ap : ∀ q, d.F q → q ≠ p) :
    CallsH Tryz.prog 89 ⟨[.pointer (some ⟨bs, 0, none⟩), St []]⟩ h fun u h' => ∃ d' : PD, u = .tuple ⟨[.agg ⟨d'.cells⟩, .nilIface]⟩ ∧ d'.ok h' ∧ d'.pl = d.pl ∧ Ext No h h' := by
  have kg := fun (g : Heap) (k : Se g bs ms bp mp be me st sk ov cnt L [([], .pointer (some ⟨p, 0, none⟩))] R) (hp : g[p]? = some (.cells ⟨PD.cells d⟩ 147 (0, 0))) (ok : d.ok g) => get_f (⟨k.pb, k.pm, rfl, hp, ok, ap⟩ : Pe g bp mp _ p [] d)
  refine calls [(0, _), (1, _)] Tryz.func89 rfl Tryz.ntmps89 rfl ⟨rfl, rfl, trivial⟩ ?_
  all_goals (refine WC.sr ?_)
  all_goals (refine WL.stepR (okE_alloc (fun w => Tryz.zeroValue147 w)) rfl rfl rfl ?_
             rintro _ h1 ⟨b4, rfl, hg1, hb4, hx1⟩)
  all_goals (refine Go ?_)
  all_goals (refine WC.sr ?_)
  all_goals (have k1 := k.ext0 hx1
             have hb := k1.blk
             have l4 := lt_of_some hb4)
  all_goals (refine WL.step (ok_move rfl) rfl rfl rfl ?_)
  all_goals (refine WL.step (ok_nilCheck rfl) rfl rfl rfl ?_)
  all_goals (refine Go ?_)
  all_goals (refine WL.ld rfl (by first | exact cell_blk hb rfl | assumption | exact cell_blk (by assumption) rfl) rfl rfl rfl ?_)
  all_goals (refine Go ?_)
  all_goals (refine WL.call (vs := [_, _]) rfl (fun a w => Tryz.call136 a w) rfl (kg _ k1 (hx1.obj hp nos) (ok.ext hx1 (fun _ _ => nos))) rfl rfl rfl ?_
             rintro _ h2 ⟨⟨d2, rfl, ok2, pl2, hf2⟩, hx2⟩)
  all_goals (refine Go ?_)
  all_goals (refine WL.stepR (okE_alloc (fun w => Tryz.zeroValue147 w)) rfl rfl rfl ?_
             rintro _ h3 ⟨b6, rfl, hg3, hb6, hx3⟩)
  all_goals (refine WL.stepR0 (okE_storeW (fun w => Tryz.sizeOf147 w) rfl rfl rfl hb6 rfl (pd_one ok2)) rfl rfl ?_
             rintro _ h4 ⟨hb64, hx4⟩)
  all_goals (have X14 : Ext No h1 h4 := hx2.trans (hx3.trans' hx4 (fun q hq e => by omega))
             have k4 := k1.ext0 X14
             have ok4 := ok2.ext (hx3.trans' (S := No) hx4 (fun q hq e => by omega)) (fun _ _ => nos)
             have hb44 := X14.obj hb4 nos
             have n64 : ¬ b6 = b4 := by have := hx2.size; omega
             obtain ⟨text, vo, oids, vp, ps, vr, rs, ran, over⟩ := d2
             dsimp only [PD.cells] at hb64)
  all_goals (refine Go ?_)
  all_goals (refine Gs [(0, _), (1, _), (4, _), (6, _), (7, _)] ?_)
  all_goals (refine WC.seq ?_)
  all_goals (refine WC.sr ?_)
  all_goals (refine Go ?_)
  all_goals (refine goC 1 2 ?_ ?_ <;> first | exact ⟨⟩ | refine Hb.mk fun hb => ?_ | skip)
  all_goals (first | (fail_if_success refine goB 2 ?_) | (
  refine goB 2 ?_
  all_goals (refine WC.skip ?_)
  skip))
  all_goals (refine Gn ?_)
  all_goals (refine Gs [(0, _), (4, _), (6, _)] ?_)
  all_goals (refine WC.seq ?_)
  all_goals (refine WC.drawH (fun h' => Ext (fun q => q = b4) h4 h') 7 7 rfl fol ?_)
  all_goals (refine WH.tk 0 rfl (fun hq hC => ok_loadN (fun w => Tryz.isAgg147 w) (fun w => Tryz.sizeOf147 w) rfl rfl (by exact (At.of_block hb64).ext hC n64)) rfl rfl rfl ?_)
  all_goals (refine WH.tk 1 rfl (fun hq hC => ok_move rfl) rfl rfl rfl ?_)
  all_goals (refine WH.tk 2 rfl (fun hq hC => ok_fieldAddr rfl Tryz.underlying147 rfl (fun w => Tryz.sizeOf135 w)) rfl rfl rfl ?_)
  all_goals (refine WH.tk 3 rfl (fun hq hC => ok_loadN (fun w => Tryz.isAgg135 w) (fun w => Tryz.sizeOf135 w) rfl rfl (by exact At.pre (xs := [_, _]) (ys := [_, _, _, _]) ((At.of_block hb64).ext hC n64))) rfl rfl rfl ?_)
  all_goals (refine WH.one 4 (by kernel_rfl) ?_)
  all_goals (refine Comes1.call (vs := [_, _]) rfl rfl (fun a w => Tryz.call132 a w) rfl (aborted_no hst k4) rfl rfl rfl ?_ (fun _ => by kernel_rfl)
             rintro _ h5 ⟨rfl, hx5⟩)
  all_goals (refine ⟨fun _ => hx5.mono fun _ _ e => e.elim, ?_⟩)
  all_goals (have hC5 : Ext (fun q => q = b4) h4 h5 := hx5.mono fun _ _ e => e.elim)
  all_goals (refine WH.one 5 (by kernel_rfl) ?_)
  all_goals (refine Comes1.run0 rfl (okE_storeW (fun w => Tryz.sizeOf147 w) rfl rfl rfl (hx5.obj hb44 nos) rfl (pd_one ok4)) rfl rfl ?_ (fun _ => by kernel_rfl)
             rintro _ h6 ⟨hb6', hx6⟩)
  all_goals (refine ⟨fun _ => hC5.trans hx6, ?_⟩)
  all_goals (have hC6 := hC5.trans hx6)
  all_goals (refine WH.tk 6 rfl (fun hq hC => ok_assign rfl) rfl rfl rfl ?_)
  all_goals (refine WH.done (by kernel_rfl) ?_)
  all_goals (refine Gn ?_)
  all_goals (refine Gs [(4, _), (5, _)] ?_)
  all_goals (refine WC.ret ?_)
  all_goals (repeat' (with_reducible first | refine thenP_r ?_ | refine blockP_r ?_))
  all_goals (refine retP_2 _ _ ⟨⟨_, rfl, ld_blk (fun w => Tryz.isAgg147 w) (fun w => Tryz.sizeOf147 w) hb6' rfl⟩, rfl, trivial⟩ ?_)
  all_goals (exact ⟨⟨text, vo, oids, vp, ps, vr, rs, ran, over⟩, rfl, (ok4.ext hx5 (fun _ _ => nos)).ext hx6 (fun q hq e => by subst e; have := hf2 _ hq; omega), pl2, (hx1.trans X14).trans' hC6 (fun q hq e => by omega)⟩)
end
end Go.Proofs.YtbhneapeibggnaaGreatDoor


/-
  SESSIONS (layer 30): an E of "begin"; what is said of a message that is in its place.
-/
namespace Go.Proofs.YtbhneapeibggnaaGreatDoor
open Go Go.RK

section
variable {h h' : Heap} {bs ms bp mp be me : Nat} {st st' : Int} {sk ov : Bool} {cnt : Int} {L P P' R : List (List UInt8 × Value)} {S : Nat → Prop}
def bkC (k st : Int) (tag : List UInt8) : List Value := [.int .u8 k, .int .u8 st, St tag, St [], St [], In 0, In 0, .slice none 0 0, .slice none 0 0, .slice none 0 0, .slice none 0 0]
theorem celsF_nil {v : Value} {b : Nat} {l : List Cel} (e : l = []) : ¬ CelsF v l b := fun h => by subst e; rcases h with ⟨z, _⟩ | ⟨c, hc, _⟩; simp at z; cases hc
theorem rwsF_nil {v : Value} {b : Nat} {l : List Rw} (e : l = []) : ¬ RwsF v l b := fun h => by subst e; rcases h with ⟨z, _⟩ | ⟨c, hc, _⟩; simp at z; cases hc
set_option maxHeartbeats 2000000 in
set_option maxRecDepth 100000 in
theorem turn_begin (k : Se h bs ms bp mp be me 73 sk ov cnt L P R) : CallsH Tryz.prog 96 ⟨[.pointer (some ⟨bs, 0, none⟩), .agg ⟨veC 2 0 []⟩]⟩ h fun u h' =>
    ∃ q, u = .tuple ⟨[.slice (some ⟨q, 0, none⟩) 1 1, .nilIface]⟩ ∧ h'[q]? = some (.cells ⟨bkC 67 0 ([66, 69, 71, 73, 78] : List UInt8)⟩ 48 (0, 0)) ∧ Se h' bs ms bp mp be me 84 sk ov cnt L P R ∧ Ext (fun q => q = bs) h h' := by
  have kn := fun h' => next_begin (h := h')
  have ke := fun h' => exit_v (h := h') 2 0 []
  unfold veC at *
  have lb := lt_of_some k.blk
  refine calls [(0, _), (1, _)] Tryz.func96 rfl Tryz.ntmps96 rfl ⟨rfl, rfl, trivial⟩ ?_
  all_goals (refine WC.sr ?_)
  all_goals (refine WL.stepR (okE_box rfl) rfl rfl rfl ?_
             rintro _ h1 ⟨b3, rfl, hg1, hb1, hx1⟩)
  all_goals (have k1 := k.ext0 hx1
             have hb := k1.blk
             have n3 : ¬ b3 = bs := by omega)
  all_goals (refine Go ?_)
  all_goals (refine WC.seq ?_)
  all_goals (refine WC.sr ?_)
  all_goals (refine Go ?_)
  all_goals (refine WL.ld rfl (by first | exact cell_blk hb1 rfl | assumption | exact cell_blk (by assumption) rfl) rfl rfl rfl ?_)
  all_goals (refine Gn ?_)
  all_goals (refine Gs [(0, _), (3, _), (8, _)] ?_)
  all_goals (refine WC.block ?_)
  all_goals (refine WC.sr ?_)
  all_goals (refine Go ?_)
  all_goals (refine goC 1 2 ?_ ?_ <;> first | exact ⟨⟩ | refine Hb.mk fun hb => ?_ | skip)
  all_goals (first | (fail_if_success refine goB 2 ?_) | (
  refine goB 2 ?_
  all_goals (refine WC.sr ?_)
  all_goals (refine Go ?_)
  all_goals (refine Gs [(0, _), (3, _), (12, _)] ?_)
  all_goals (refine goC 3 4 ?_ ?_ <;> first | exact ⟨⟩ | refine Hb.mk fun hb => ?_ | skip)
  all_goals (first | (fail_if_success refine goB 4 ?_) | (
  refine goB 4 ?_
  all_goals (refine WC.skip ?_)
  skip))
  skip))
  all_goals (refine Gn ?_)
  all_goals (refine WC.sr ?_)
  all_goals (refine Go ?_)
  all_goals (refine WC.seq ?_)
  all_goals (refine WC.drawH (fun h' => Ext (fun q => q = bs) h1 h') 14 14 rfl fol ?_)
  all_goals (refine WH.tk 0 rfl (fun hq hC => ok_move rfl) rfl rfl rfl ?_)
  all_goals (refine WH.tk 1 rfl (fun hq hC => ok_move rfl) rfl rfl rfl ?_)
  all_goals (refine WH.tk 2 rfl (fun hq hC => ok_nilCheck rfl) rfl rfl rfl ?_)
  all_goals (refine WH.tk 3 rfl (fun hq hC => ok_fieldAddr rfl Tryz.underlying32 rfl (fun w => Tryz.sizeOf5 w)) rfl rfl rfl ?_)
  all_goals (refine WH.tk 5 rfl (fun hq hC => ok_loadN (fun w => Tryz.isAgg152 w) (fun w => Tryz.sizeOf152 w) rfl rfl (by exact (At.of_block hb1).ext hC n3)) rfl rfl rfl ?_)
  all_goals (refine WH.one 4 (by kernel_rfl) ?_)
  all_goals (refine Comes1.run rfl (OkP.r (ok_load (fun w => Tryz.isAgg5 w) rfl (by first | exact cell_blk hb rfl | assumption | exact cell_blk (by assumption) rfl))) rfl rfl rfl ?_ (fun _ => by kernel_rfl)
             rintro _ hz ⟨rfl, _⟩
             subst hz)
  all_goals (refine ⟨fun _ => .refl _ _, ?_⟩)
  all_goals (refine WH.one 6 (by kernel_rfl) ?_)
  all_goals (refine Comes1.call (vs := [_, _]) rfl rfl (fun a w => Tryz.call151 a w) rfl (kn _) rfl rfl rfl ?_ (fun _ => by kernel_rfl)
             rintro _ h2 ⟨rfl, hx2⟩)
  all_goals (refine ⟨fun _ => hx2.mono fun _ _ e => e.elim, ?_⟩)
  all_goals (have hC2 : Ext (fun q => q = bs) h1 h2 := hx2.mono fun _ _ e => e.elim
             have hbs2 := hx2.obj hb nos)
  all_goals (refine WH.tk 7 rfl (fun hq hC => ok_move rfl) rfl rfl rfl ?_)
  all_goals (refine WH.tk 8 rfl (fun hq hC => ok_extract rfl rfl) rfl rfl rfl ?_)
  all_goals (refine WH.tk 9 rfl (fun hq hC => ok_extract rfl rfl) rfl rfl rfl ?_)
  all_goals (refine WH.tk 10 rfl (fun hq hC => ok_nilCheck rfl) rfl rfl rfl ?_)
  all_goals (refine WH.tk 11 rfl (fun hq hC => ok_fieldAddr rfl Tryz.underlying32 rfl (fun w => Tryz.sizeOf5 w)) rfl rfl rfl ?_)
  all_goals (refine WH.one 12 (by kernel_rfl) ?_)
  all_goals (refine Comes1.run0 rfl (okE_store (fun w => Tryz.sizeOf5 w) rfl rfl hbs2 (Nat.le_of_ble_eq_true rfl) rfl rfl) rfl rfl ?_ (fun _ => by kernel_rfl)
             rintro _ h3 ⟨hb3, hx3⟩)
  all_goals (refine ⟨fun _ => hC2.trans hx3, ?_⟩)
  all_goals (have hC3 := hC2.trans hx3
             have k3 := (k1.ext0 hx2).turnS hx3 hb3)
  all_goals (refine WH.tk 13 rfl (fun hq hC => ok_assign rfl) rfl rfl rfl ?_)
  all_goals (refine WH.done (by kernel_rfl) ?_)
  all_goals (refine Gn ?_)
  all_goals (refine Gs [(0, _), (3, _), (6, _)] ?_)
  all_goals (refine WC.seq ?_)
  all_goals (refine WC.sr ?_)
  all_goals (refine WL.step (ok_loadN (fun w => Tryz.isAgg152 w) (fun w => Tryz.sizeOf152 w) rfl rfl (by exact (At.of_block hb1).ext hC3 n3)) rfl rfl rfl ?_)
  all_goals (refine WL.call (vs := [_]) rfl (fun a w => Tryz.call152 a w) rfl (ke _) rfl rfl rfl ?_
             rintro _ h4 ⟨rfl, hx4⟩)
  all_goals (refine Gn ?_)
  all_goals (refine goC 5 6 ?_ ?_ <;> first | exact ⟨⟩ | refine Hb.mk fun hb => ?_ | skip)
  all_goals (first | (fail_if_success refine goB 6 ?_) | (
  refine goB 6 ?_
  all_goals (refine WC.skip ?_)
  skip))
  all_goals (refine Gn ?_)
  all_goals (refine Gs [(6, _)] ?_)
  all_goals (refine WC.sr ?_)
  all_goals (refine Go ?_)
  all_goals (refine WL.step (ok_buildF (vs := [_, _]) (cs := [_, _, _, _, _, _, _, _, _, _, _]) (fun | [a0, a2] => [a0, (.int .u8 0), a2, (St []), (St []), (.int .i64 0), (.int .i64 0), (.slice none 0 0), (.slice none 0 0), (.slice none 0 0), (.slice none 0 0)] | _ => []) rfl rfl (by kernel_rfl)) rfl rfl rfl ?_)
  all_goals (refine WL.stepR (okE_buildSlice (vs := [_]) (cs := [_, _, _, _, _, _, _, _, _, _, _]) (fun | [.agg ⟨[a0, a1, a2, a3, a4, a5, a6, a7, a8, a9, a10]⟩] => [a0, a1, a2, a3, a4, a5, a6, a7, a8, a9, a10] | _ => []) Tryz.underlying34 rfl rfl (by kernel_rfl)) rfl rfl rfl ?_
             rintro _ h5 ⟨b5, rfl, hg5, hb5, hx5⟩)
  all_goals (refine Go ?_)
  all_goals (refine Gs [(4, _), (5, _)] ?_)
  all_goals (refine Gt ?_)
  all_goals (exact ⟨b5, rfl, hb5, (k3.ext0 hx4).ext0 hx5, (((hx1.mono fun _ _ e => e.elim).trans hC3).trans (hx4.mono fun _ _ e => e.elim)).trans (hx5.mono fun _ _ e => e.elim)⟩)
set_option maxHeartbeats 2000000 in
set_option maxRecDepth 100000 in
theorem execute_s {p : Nat} {d : PD} (k : Se h bs ms bp mp be me 73 sk ov cnt L [([], .pointer (some ⟨p, 0, none⟩))] R) (hp : h[p]? = some (.cells ⟨PD.cells d⟩ 147 (0, 0))) (ok : d.ok h) (pl : d.pl = pB) (ap : ∀ q, d.F q → q ≠ p) :
    CallsH Tryz.prog 49 ⟨[.pointer (some ⟨bs, 0, none⟩), .agg ⟨[.int .u8 69, .int .u8 0, St [], St [], St [], nS, nS, nS, nS, In 0]⟩]⟩ h fun u h' =>
    ∃ q, u = .tuple ⟨[.slice (some ⟨q, 0, none⟩) 1 1, .nilIface]⟩ ∧ h'[q]? = some (.cells ⟨bkC 67 0 ([66, 69, 71, 73, 78] : List UInt8)⟩ 48 (0, 0)) ∧ Se h' bs ms bp mp be me 84 sk ov cnt L [([], .pointer (some ⟨p, 0, none⟩))] R ∧ Kf h h' ∧ Ext (fun q => q = bs ∨ q = p) h h' := by
  have kpo := fun (g : Heap) (x : Ext No h g) => portal_s (by decide) (k.ext0 x) (x.obj hp nos) (ok.ext x (fun _ _ => nos)) ap
  have kpa := fun h' => parse_begin (h := h')
  have kro := fun h' => rowsV_v (h := h') 2 0 []
  have ktu := fun (g : Heap) (x : Ext No h g) => turn_begin (k.ext0 x)
  have kra := fun (g : Heap) (k : Se g bs ms bp mp be me 84 sk ov cnt L [([], .pointer (some ⟨p, 0, none⟩))] R) (hp : g[p]? = some (.cells ⟨PD.cells d⟩ 147 (0, 0))) (ok : d.ok g) => ran_e (v := nS) (⟨k.pb, k.pm, rfl, hp, ok, ap⟩ : Pe g bp mp _ p [] d) [] (by have := congrArg (·.2.2.2.2.1) pl; exact this) ⟨Rd.nil _ _, ⟨by simp, _, _, rfl, by decide⟩, by simp⟩
  unfold veC at *
  refine calls [(0, _), (1, _)] Tryz.func49 rfl Tryz.ntmps49 rfl ⟨rfl, rfl, trivial⟩ ?_
  all_goals (refine WC.sr ?_)
  all_goals (refine WL.stepR (okE_box rfl) rfl rfl rfl ?_
             rintro _ h1 ⟨b3, rfl, hg1, hb1, hx1⟩)
  all_goals (refine Go ?_)
  all_goals (refine WC.sr ?_)
  all_goals (refine Go ?_)
  all_goals (refine WL.ld rfl (by first | exact cell_blk hb1 rfl | assumption | exact cell_blk (by assumption) rfl) rfl rfl rfl ?_)
  all_goals (refine WL.call (vs := [_, _]) rfl (fun a w => Tryz.call89 a w) rfl (kpo _ hx1) rfl rfl rfl ?_
             rintro _ h2 ⟨d2, rfl, ok2, pl2, hx2⟩
             obtain ⟨text, vo, oids, vp, ps, vr, rs, ran, over⟩ := d2
             rw [pl] at pl2
             simp only [PD.pl, pB, Prod.mk.injEq] at pl2
             obtain ⟨rfl, rfl, hps, hrs, rfl, rfl⟩ := pl2)
  all_goals (refine Go ?_)
  all_goals (refine WL.stepR (okE_alloc (fun w => Tryz.zeroValue147 w)) rfl rfl rfl ?_
             rintro _ h3 ⟨b6, rfl, hg3, hb3, hx3⟩)
  all_goals (refine WL.stepR0 (okE_storeW (fun w => Tryz.sizeOf147 w) rfl rfl rfl hb3 rfl (pd_one ok2)) rfl rfl ?_
             rintro _ h4 ⟨hb4, hx4⟩)
  all_goals (have X14 : Ext No h1 h4 := hx2.trans (hx3.trans' hx4 (fun q hq e => by omega))
             have hb14 := X14.obj hb1 nos
             dsimp only [PD.cells] at hb4)
  all_goals (refine Go ?_)
  all_goals (refine Gs [(0, _), (3, _), (6, _), (7, _)] ?_)
  all_goals (refine WC.seq ?_)
  all_goals (refine WC.sr ?_)
  all_goals (refine Go ?_)
  all_goals (first | (refine WL.step (ok_neqIh (by kernel_rfl) rfl rfl) rfl rfl rfl ?_) | (refine WL.step (ok_neqIn (by kernel_rfl) rfl rfl) rfl rfl rfl ?_))
  all_goals (refine Gn ?_)
  all_goals (refine goC 1 2 ?_ ?_ <;> first | exact ⟨⟩ | refine Hb.mk fun hb => ?_ | skip)
  all_goals (first | (fail_if_success refine goB 1 ?_) | (
  refine goB 1 ?_
  all_goals (refine WC.sr ?_)
  all_goals (refine Go ?_)
  all_goals (refine Gs [(4, _), (5, _)] ?_)
  all_goals (refine Gt ?_)
  all_goals (refine ⟨q, rfl, hx10.obj hq9 (fun e => ?_), k9.turnO hp9 hx10, ((kf_no X8).trans (kf_blk k8.blk (by decide) hx9)).trans (kf_blk hp9 (by decide) hx10), (X8.mono fun _ _ e => e.elim).trans ((hx9.mono fun _ _ e => .inl e).trans (hx10.mono fun _ _ e => .inr e))⟩
             subst e
             rw [hp9] at hq9
             simp only [Option.some.injEq, Obj.cells.injEq] at hq9
             exact absurd hq9.2.1 (by decide))
  skip))
  all_goals (first | (fail_if_success refine goB 2 ?_) | (
  refine goB 2 ?_
  all_goals (refine WC.skip ?_)
  skip))
  all_goals (refine Gn ?_)
  all_goals (refine WC.sr ?_)
  all_goals (refine Go ?_)
  all_goals (refine WL.ld rfl (by first | exact cell_blk hb4 rfl | assumption | exact cell_blk (by assumption) rfl) rfl rfl rfl ?_)
  all_goals (refine WL.call (vs := [_]) rfl (fun a w => Tryz.call90 a w) rfl (kpa _) rfl rfl rfl ?_
             rintro _ h5 ⟨rfl, hx5⟩)
  all_goals (refine WL.stepR (okE_alloc (fun w => Tryz.zeroValue152 w)) rfl rfl rfl ?_
             rintro _ h6 ⟨b8, rfl, hg6, hb6, hx6⟩)
  all_goals (refine WL.stepR0 (okE_storeW (fun w => Tryz.sizeOf152 w) rfl rfl rfl hb6 rfl (by simp [Value.oneCell'])) rfl rfl ?_
             rintro _ h7 ⟨hb7, hx7⟩)
  all_goals (have X47 : Ext No h4 h7 := hx5.trans (hx6.trans' hx7 (fun q hq e => by omega)))
  all_goals (refine Gn ?_)
  all_goals (refine Gs [(0, _), (3, _), (6, _), (8, _)] ?_)
  all_goals (refine WC.seq ?_)
  all_goals (refine WC.sr ?_)
  all_goals (refine WL.step (ok_loadN (fun w => Tryz.isAgg152 w) (fun w => Tryz.sizeOf152 w) rfl rfl (by exact At.of_block hb7)) rfl rfl rfl ?_)
  all_goals (refine WL.call (vs := [_]) rfl (fun a w => Tryz.call91 a w) rfl (kro _) rfl rfl rfl ?_
             rintro _ h8 ⟨rfl, hx8⟩)
  all_goals (have X48 := X47.trans hx8
             have X8 := (hx1.trans X14).trans X48
             have hb48 := X48.obj hb4 nos
             have hb78 := hx8.obj hb7 nos)
  all_goals (refine Gn ?_)
  all_goals (refine goC 3 4 ?_ ?_ <;> first | exact ⟨⟩ | refine Hb.mk fun hb => ?_ | skip)
  all_goals (first | (fail_if_success refine goB 3 ?_) | (
  refine goB 3 ?_
  all_goals (refine WC.seq ?_)
  all_goals (refine WC.sr ?_)
  all_goals (refine Go ?_)
  all_goals (refine Ld ?_)
  all_goals (refine Go ?_)
  all_goals (refine Gs [(0, _), (3, _), (6, _), (8, _), (28, _)] ?_)
  all_goals (refine goC 5 6 ?_ ?_ <;> first | exact ⟨⟩ | refine Hb.mk fun hb => ?_ | skip)
  all_goals (first | (fail_if_success refine goB 6 ?_) | (
  refine goB 6 ?_
  all_goals (refine WC.skip ?_)
  skip))
  all_goals (refine Gn ?_)
  all_goals (refine WC.seq ?_)
  all_goals (refine WC.drawE fol (by kernel_rfl) ?_)
  all_goals (refine WQ.stepE (ok_move rfl) rfl rfl rfl ?_)
  all_goals (refine WQ.stepE (ok_nilCheck rfl) rfl rfl rfl ?_)
  all_goals (refine WQ.stepE (ok_fieldAddr rfl Tryz.underlying32 rfl (fun w => Tryz.sizeOf29 w)) rfl rfl rfl ?_)
  all_goals (refine WQ.stepE (ok_load (fun w => Tryz.isAgg29 w) rfl (by first | assumption | exact cell_blk (by assumption) rfl)) rfl rfl rfl ?_)
  all_goals (refine WQ.stepE (ok_fieldAddr rfl Tryz.underlying25 rfl (fun w => Tryz.sizeOf9 w)) rfl rfl rfl ?_)
  all_goals (refine WQ.stepE (ok_load (fun w => Tryz.isAgg9 w) rfl (by first | assumption | exact cell_blk (by assumption) rfl)) rfl rfl rfl ?_)
  all_goals (refine WQ.stepE (ok_fieldAddr rfl Tryz.underlying25 rfl (fun w => Tryz.sizeOf3 w)) rfl rfl rfl ?_)
  all_goals (refine WQ.stepE (ok_load (fun w => Tryz.isAgg3 w) rfl (by first | assumption | exact cell_blk (by assumption) rfl)) rfl rfl rfl ?_)
  all_goals (fail "no contract for call of (*remuda/portal.Set).Fetch at 8.8")
  all_goals (refine WQ.stepE (ok_extract rfl rfl) rfl rfl rfl ?_)
  all_goals (refine WQ.stepE (ok_extract rfl rfl) rfl rfl rfl ?_)
  all_goals (fail "no contract for call of remuda/sess.rows at 8.11")
  all_goals (refine WQ.stepE (ok_assign rfl) rfl rfl rfl ?_)
  all_goals (refine WQ.stepE (ok_assign rfl) rfl rfl rfl ?_)
  all_goals (refine WQ.nil ?_)
  all_goals (refine Gn ?_)
  all_goals (refine Gs [(4, _), (5, _)] ?_)
  all_goals (refine Gt ?_)
  all_goals (refine ⟨q, rfl, hx10.obj hq9 (fun e => ?_), k9.turnO hp9 hx10, ((kf_no X8).trans (kf_blk k8.blk (by decide) hx9)).trans (kf_blk hp9 (by decide) hx10), (X8.mono fun _ _ e => e.elim).trans ((hx9.mono fun _ _ e => .inl e).trans (hx10.mono fun _ _ e => .inr e))⟩
             subst e
             rw [hp9] at hq9
             simp only [Option.some.injEq, Obj.cells.injEq] at hq9
             exact absurd hq9.2.1 (by decide))
  skip))
  all_goals (first | (fail_if_success refine goB 4 ?_) | (
  refine goB 4 ?_
  all_goals (refine WC.skip ?_)
  skip))
  all_goals (refine Gn ?_)
  all_goals (refine WC.seq ?_)
  all_goals (refine WC.sr ?_)
  all_goals (refine Go ?_)
  all_goals (refine WL.ld rfl (by first | exact cell_blk hb48 rfl | assumption | exact cell_blk (by assumption) rfl) rfl rfl rfl ?_)
  all_goals (refine Go ?_)
  all_goals (refine goP 58 ?_ ?_ <;> first | exact ⟨⟩ | refine Hb.mk fun hb => ?_ | skip)
  all_goals (refine Gg ?_)
  all_goals (first | (refine WL.pass rfl rfl rfl ?_) | (refine Ld ?_))
  all_goals (refine Gg ?_)
  all_goals (refine Go ?_)
  all_goals (refine Gs [(0, _), (3, _), (8, _), (62, _)] ?_)
  all_goals (refine goC 7 8 ?_ ?_ <;> first | exact ⟨⟩ | refine Hb.mk fun hb => ?_ | skip)
  all_goals (first | (fail_if_success refine goB 8 ?_) | (
  refine goB 8 ?_
  all_goals (refine WC.skip ?_)
  skip))
  all_goals (refine Gn ?_)
  all_goals (refine WC.sr ?_)
  all_goals (refine Go ?_)
  all_goals (refine WL.step (ok_loadN (fun w => Tryz.isAgg152 w) (fun w => Tryz.sizeOf152 w) rfl rfl (by exact At.of_block hb78)) rfl rfl rfl ?_)
  all_goals (refine WL.call (vs := [_, _]) rfl (fun a w => Tryz.call96 a w) rfl (ktu _ X8) rfl rfl rfl ?_
             rintro _ h9 ⟨q, rfl, hq9, k9, hx9⟩)
  all_goals (have k8 := k.ext0 X8
             have o9 : ∀ {z : Nat} {ds : Array Value} {TT : TypeId}, TT ≠ 32 → h8[z]? = some (.cells ds TT (0, 0)) → ¬ z = bs := fun hT hz e => by
              subst e
              rw [k8.blk] at hz
              simp only [Option.some.injEq, Obj.cells.injEq] at hz
              exact hT hz.2.1.symm
             have hp9 := hx9.obj (X8.obj hp nos) (o9 (by decide) (X8.obj hp nos))
             have lbs := lt_of_some k.blk
             have ok9 : d.ok h9 := (ok.ext X8 (fun _ _ => nos)).ext hx9 (fun z hz e => by
              obtain ⟨e1, e2, e3, e4, e5, e6⟩ : d.text = beginL ∧ d.oids = [] ∧ d.ps.map Cel.pl = [] ∧ d.rs.map Rw.pl = [] ∧ d.ran = false ∧ d.over = false := by simpa [PD.pl, pB] using pl
              rcases hz with ⟨z1, _⟩ | hz | hz
              · rw [e2] at z1; simp at z1
              · exact absurd hz (celsF_nil (List.map_eq_nil_iff.1 e3))
              · exact absurd hz (rwsF_nil (List.map_eq_nil_iff.1 e4)))
             have hb19 := hx9.obj (X48.obj hb14 nos) (by omega)
             have hbs9 := k9.blk)
  all_goals (refine Go ?_)
  all_goals (refine Gs [(0, _), (3, _), (7, _), (9, _)] ?_)
  all_goals (refine WC.seq ?_)
  all_goals (refine WC.sr ?_)
  all_goals (refine Go ?_)
  all_goals (first | (refine WL.step (ok_eqlIh (by kernel_rfl) rfl rfl) rfl rfl rfl ?_) | (refine WL.step (ok_eqlIn (by kernel_rfl) rfl rfl) rfl rfl rfl ?_))
  all_goals (refine Gn ?_)
  all_goals (refine goC 9 10 ?_ ?_ <;> first | exact ⟨⟩ | refine Hb.mk fun hb => ?_ | skip)
  all_goals (first | (fail_if_success refine goB 9 ?_) | (
  refine goB 9 ?_
  all_goals (refine WC.drawT 6 fol (by kernel_rfl) ?_)
  all_goals (show WS _ _ _ [_, _, _, _, _, _] _ _ _)
  all_goals (refine WS.step (ok_move rfl) rfl rfl rfl ?_)
  all_goals (refine WS.step (ok_nilCheck rfl) rfl rfl rfl ?_)
  all_goals (refine WS.step (ok_fieldAddr rfl Tryz.underlying32 rfl (fun w => Tryz.sizeOf29 w)) rfl rfl rfl ?_)
  all_goals (refine WS.step (ok_load (fun w => Tryz.isAgg29 w) rfl (by first | exact cell_blk hbs9 rfl | assumption | exact cell_blk (by assumption) rfl)) rfl rfl rfl ?_)
  all_goals (refine WS.step (ok_fieldAddr rfl Tryz.underlying25 rfl (fun w => Tryz.sizeOf9 w)) rfl rfl rfl ?_)
  all_goals (refine WS.step (ok_load (fun w => Tryz.isAgg9 w) rfl (by first | exact cell_blk hb19 rfl | assumption | exact cell_blk (by assumption) rfl)) rfl rfl rfl ?_)
  all_goals (refine WS.nil ?_)
  all_goals (show WL _ _ _ [_] _ _ _)
  all_goals (refine WL.call (vs := [_, _, _]) rfl (fun a w => Tryz.call92 a w) rfl (kra _ k9 hp9 ok9) rfl rfl rfl ?_
             rintro _ h10 ⟨rfl, v10, L10, _, _, _, hx10⟩)
  all_goals (refine WL.nil ?_)
  skip))
  all_goals (first | (fail_if_success refine goB 10 ?_) | (
  refine goB 10 ?_
  all_goals (refine WC.skip ?_)
  skip))
  all_goals (refine Gn ?_)
  all_goals (refine Gs [(7, _), (9, _)] ?_)
  all_goals (refine WC.sr ?_)
  all_goals (refine Go ?_)
  all_goals (refine Gs [(4, _), (5, _)] ?_)
  all_goals (refine Gt ?_)
  all_goals (refine ⟨q, rfl, hx10.obj hq9 (fun e => ?_), k9.turnO hp9 hx10, ((kf_no X8).trans (kf_blk k8.blk (by decide) hx9)).trans (kf_blk hp9 (by decide) hx10), (X8.mono fun _ _ e => e.elim).trans ((hx9.mono fun _ _ e => .inl e).trans (hx10.mono fun _ _ e => .inr e))⟩
             subst e
             rw [hp9] at hq9
             simp only [Option.some.injEq, Obj.cells.injEq] at hq9
             exact absurd hq9.2.1 (by decide))
end
end Go.Proofs.YtbhneapeibggnaaGreatDoor


/-
  SESSIONS (layer 30): what is said of a message that is in its place; the law's awake.
-/
namespace Go.Proofs.YtbhneapeibggnaaGreatDoor
open Go Go.RK

section
variable {h h' : Heap} {bs ms bp mp be me : Nat} {st st' : Int} {sk ov : Bool} {cnt : Int} {L P P' R : List (List UInt8 × Value)} {S : Nat → Prop}
set_option maxHeartbeats 2000000 in
set_option maxRecDepth 100000 in
theorem as_none {h : Heap} (t : Value) : CallsH Tryz.prog 23 ⟨[.nilIface, t]⟩ h fun u h' => u = .bool false ∧ h' = h := by
  refine calls [(0, _), (1, _)] Tryz.func23 rfl Tryz.ntmps23 rfl ⟨rfl, rfl, trivial⟩ ?_
  all_goals (refine WC.sr ?_)
  all_goals (refine Go ?_)
  all_goals (refine WC.seq ?_)
  all_goals (refine WC.sr ?_)
  all_goals (refine Go ?_)
  all_goals (first | (refine WL.step (ok_eqlIh (by kernel_rfl) rfl rfl) rfl rfl rfl ?_) | (refine WL.step (ok_eqlIn (by kernel_rfl) rfl rfl) rfl rfl rfl ?_))
  all_goals (refine Gn ?_)
  all_goals (refine goC 1 2 ?_ ?_ <;> first | exact ⟨⟩ | refine Hb.mk fun hb => ?_ | skip)
  all_goals (first | (fail_if_success refine goB 1 ?_) | (
  refine goB 1 ?_
  all_goals (refine WC.sr ?_)
  all_goals (refine Go ?_)
  all_goals (refine Gs [(4, _)] ?_)
  all_goals (refine Gt ?_)
  all_goals (exact ⟨rfl, rfl⟩)
  skip))
  all_goals (first | (fail_if_success refine goB 2 ?_) | (
  refine goB 2 ?_
  all_goals (refine WC.skip ?_)
  skip))
  all_goals (refine Gn ?_)
  all_goals (refine WC.seq ?_)
  all_goals (refine WC.sr ?_)
  all_goals (refine Go ?_)
  all_goals (first | (refine WL.step (ok_eqlIh (by kernel_rfl) rfl rfl) rfl rfl rfl ?_) | (refine WL.step (ok_eqlIn (by kernel_rfl) rfl rfl) rfl rfl rfl ?_))
  all_goals (refine Gn ?_)
  all_goals (refine Gs [(0, _), (1, _), (11, _)] ?_)
  all_goals (refine goC 3 4 ?_ ?_ <;> first | exact ⟨⟩ | refine Hb.mk fun hb => ?_ | skip)
  all_goals (first | (fail_if_success refine goB 3 ?_) | (
  refine goB 3 ?_
  all_goals (refine WC.region ?_)
  all_goals (refine WL.step (ok_mkIface ⟨_, Tryz.underlying9, fun _ h => by cases h⟩ rfl) rfl rfl rfl ?_)
  all_goals (fail "no rule for panic at 4.1")
  all_goals (refine Gn ?_)
  skip))
  all_goals (first | (fail_if_success refine goB 4 ?_) | (
  refine goB 4 ?_
  all_goals (refine WC.skip ?_)
  skip))
  all_goals (refine Gn ?_)
  all_goals (refine WC.sr ?_)
  all_goals (refine Go ?_)
  all_goals (refine WL.step (ok_extern ? rfl) rfl rfl rfl ?_)
  all_goals (refine WL.stepR (okE_alloc (fun w => Tryz.zeroValue101 w)) rfl rfl rfl ?_
             rintro _ h1 ⟨b1, rfl, hg1, hb1, hx1⟩)
  all_goals (refine WL.stepR0 (okE_storeW (fun w => Tryz.sizeOf101 w) rfl rfl rfl (by assumption) rfl (by simp [Value.oneCell'])) rfl rfl ?_
             rintro _ h1 ⟨hb1, hx1⟩)
  all_goals (refine Gn ?_)
  all_goals (refine WC.sr ?_)
  all_goals (refine WL.step (ok_loadN (fun w => Tryz.isAgg101 w) (fun w => Tryz.sizeOf101 w) rfl rfl (by assumption)) rfl rfl rfl ?_)
  all_goals (refine WL.step (ok_extern ? rfl) rfl rfl rfl ?_)
  all_goals (refine Go ?_)
  all_goals (refine Gs [(0, _), (1, _), (5, _), (6, _)] ?_)
  all_goals (refine WC.seq ?_)
  all_goals (refine WC.sr ?_)
  all_goals (refine Go ?_)
  all_goals (fail "no rule for invoke at 7.1")
  all_goals (refine Go ?_)
  all_goals (refine goP 20 ?_ ?_ <;> first | exact ⟨⟩ | refine Hb.mk fun hb => ?_ | skip)
  all_goals (first | (refine WL.pass rfl rfl rfl ?_) | (refine WL.step (ok_loadN (fun w => Tryz.isAgg101 w) (fun w => Tryz.sizeOf101 w) rfl rfl (by assumption)) rfl rfl rfl ?_))
  all_goals (first | (refine WL.pass rfl rfl rfl ?_) | (refine WL.step (ok_extern ? rfl) rfl rfl rfl ?_))
  all_goals (refine Go ?_)
  all_goals (refine Gs [(0, _), (1, _), (5, _), (6, _), (23, _)] ?_)
  all_goals (refine goC 5 6 ?_ ?_ <;> first | exact ⟨⟩ | refine Hb.mk fun hb => ?_ | skip)
  all_goals (first | (fail_if_success refine goB 5 ?_) | (
  refine goB 5 ?_
  all_goals (refine WC.region ?_)
  all_goals (refine WL.step (ok_mkIface ⟨_, Tryz.underlying9, fun _ h => by cases h⟩ rfl) rfl rfl rfl ?_)
  all_goals (fail "no rule for panic at 8.1")
  all_goals (refine Gn ?_)
  skip))
  all_goals (first | (fail_if_success refine goB 6 ?_) | (
  refine goB 6 ?_
  all_goals (refine WC.skip ?_)
  skip))
  all_goals (refine Gn ?_)
  all_goals (refine WC.sr ?_)
  all_goals (refine Go ?_)
  all_goals (fail "no rule for invoke at 9.1")
  all_goals (refine Go ?_)
  all_goals (refine Gs [(0, _), (1, _), (5, _), (7, _)] ?_)
  all_goals (refine WC.seq ?_)
  all_goals (refine WC.sr ?_)
  all_goals (refine Go ?_)
  all_goals (fail "no rule for invoke at 10.1")
  all_goals (refine Go ?_)
  all_goals (refine goP 30 ?_ ?_ <;> first | exact ⟨⟩ | refine Hb.mk fun hb => ?_ | skip)
  all_goals (refine Gg ?_)
  all_goals (first | (refine WL.pass rfl rfl rfl ?_) | (refine Ld ?_))
  all_goals (first | (refine WL.pass rfl rfl rfl ?_) | (fail "no rule for invoke at 10.6"))
  all_goals (refine Gg ?_)
  all_goals (refine Go ?_)
  all_goals (refine Gs [(0, _), (1, _), (5, _), (7, _), (35, _)] ?_)
  all_goals (refine goC 7 8 ?_ ?_ <;> first | exact ⟨⟩ | refine Hb.mk fun hb => ?_ | skip)
  all_goals (first | (fail_if_success refine goB 7 ?_) | (
  refine goB 7 ?_
  all_goals (refine WC.region ?_)
  all_goals (refine WL.step (ok_mkIface ⟨_, Tryz.underlying9, fun _ h => by cases h⟩ rfl) rfl rfl rfl ?_)
  all_goals (fail "no rule for panic at 11.1")
  all_goals (refine Gn ?_)
  skip))
  all_goals (first | (fail_if_success refine goB 8 ?_) | (
  refine goB 8 ?_
  all_goals (refine WC.skip ?_)
  skip))
  all_goals (refine Gn ?_)
  all_goals (refine WC.sr ?_)
  all_goals (refine Go ?_)
  all_goals (refine WL.step (ok_loadN (fun w => Tryz.isAgg101 w) (fun w => Tryz.sizeOf101 w) rfl rfl (by assumption)) rfl rfl rfl ?_)
  all_goals (refine Go ?_)
  all_goals (fail "no contract for call of errors.as at 12.4")
  all_goals (refine Go ?_)
  all_goals (refine Gs [(4, _)] ?_)
  all_goals (refine Gt ?_)
  all_goals (exact ⟨rfl, rfl⟩)
set_option maxHeartbeats 2000000 in
set_option maxRecDepth 100000 in
theorem sync_v (hst : st ≠ 73) (k : Se h bs ms bp mp be me st sk ov cnt L P R) : CallsH Tryz.prog 21 ⟨[.pointer (some ⟨bs, 0, none⟩)]⟩ h fun u h' => u = .agg ⟨bkC 90 st []⟩ ∧ Ext No h h' := by
  have hb := k.blk
  refine calls [(0, _)] Tryz.func21 rfl Tryz.ntmps21 rfl ⟨rfl, trivial⟩ ?_
  all_goals (refine WC.sr ?_)
  all_goals (refine WL.stepR (okE_alloc (fun w => Tryz.zeroValue48 w)) rfl rfl rfl ?_
             rintro _ h1 ⟨b2, rfl, hg1, hb2, hx1⟩)
  all_goals (refine Gn ?_)
  all_goals (refine WC.seq ?_)
  all_goals (refine WC.sr ?_)
  all_goals (refine Go ?_)
  all_goals (refine WL.step (ok_nilCheck rfl) rfl rfl rfl ?_)
  all_goals (refine Go ?_)
  all_goals (refine WL.ld rfl (by first | exact cell_blk (hx1.obj hb nos) rfl | assumption | exact cell_blk (by assumption) rfl) rfl rfl rfl ?_)
  all_goals (refine Go ?_)
  all_goals (refine Gs [(0, _), (2, _), (7, _)] ?_)
  all_goals (refine goC 1 2 ?_ ?_ <;> first | exact ⟨⟩ | refine Hb.mk fun hb => ?_ | skip)
  all_goals (first | (fail_if_success refine goB 2 ?_) | (
  refine goB 2 ?_
  all_goals (refine WC.skip ?_)
  skip))
  all_goals (refine Gn ?_)
  all_goals (refine WC.sr ?_)
  all_goals (refine Go ?_)
  all_goals (refine WL.step (ok_nilCheck rfl) rfl rfl rfl ?_)
  all_goals (refine Go ?_)
  all_goals (refine WL.ld rfl (by first | exact cell_blk (hx1.obj hb nos) rfl | assumption | exact cell_blk (by assumption) rfl) rfl rfl rfl ?_)
  all_goals (refine WL.step (ok_buildF (vs := [_, _]) (cs := [_, _, _, _, _, _, _, _, _, _, _]) (fun | [a0, a1] => [a0, a1, (St []), (St []), (St []), (.int .i64 0), (.int .i64 0), (.slice none 0 0), (.slice none 0 0), (.slice none 0 0), (.slice none 0 0)] | _ => []) rfl rfl (by kernel_rfl)) rfl rfl rfl ?_)
  all_goals (refine WL.stepR0 (okE_storeW (fun w => Tryz.sizeOf48 w) rfl rfl rfl hb2 rfl (by simp [Value.oneCell'])) rfl rfl ?_
             rintro _ h3 ⟨hb3, hx3⟩)
  all_goals (refine Gn ?_)
  all_goals (refine Gs [(2, _)] ?_)
  all_goals (refine WC.ret ?_)
  all_goals (repeat' (with_reducible first | refine thenP_r ?_ | refine blockP_r ?_))
  all_goals (refine retP_1 _ ⟨⟨_, rfl, ld_blk (fun w => Tryz.isAgg48 w) (fun w => Tryz.sizeOf48 w) hb3 rfl⟩, trivial⟩ ?_)
  all_goals (exact ⟨rfl, hx1.trans' hx3 (fun q hq e => by omega)⟩)
set_option maxHeartbeats 2000000 in
set_option maxRecDepth 100000 in
/-- A Z. -/
theorem do_sync (hst : st ≠ 73) (k : Se h bs ms bp mp be me st sk false cnt L P R) : CallsH Tryz.prog 7 ⟨[.pointer (some ⟨bs, 0, none⟩), .agg ⟨[.int .u8 83, .int .u8 0, St [], St [], St [], nS, nS, nS, nS, In 0]⟩]⟩ h fun u h' =>
    ∃ q, u = .slice (some ⟨q, 0, none⟩) 1 1 ∧ h'[q]? = some (.cells ⟨bkC 90 st []⟩ 48 (0, 0)) ∧ Se h' bs ms bp mp be me st false false cnt L P R ∧ Ext (fun q => q = bs) h h' := by
  have kr := fun (g : Heap) (k : Se g bs ms bp mp be me st sk false cnt L P R) => ready_yes k.blk
  have ks := fun (g : Heap) (k : Se g bs ms bp mp be me st false false cnt L P R) => sync_v hst k
  unfold bkC at *
  refine calls [(0, _), (1, _)] Tryz.func7 rfl Tryz.ntmps7 rfl ⟨rfl, rfl, trivial⟩ ?_
  all_goals (refine WC.sr ?_)
  all_goals (refine WL.stepR (okE_box rfl) rfl rfl rfl ?_
             rintro _ h1 ⟨b3, rfl, hg1, hb1, hx1⟩)
  all_goals (have k1 := k.ext0 hx1
             have hb := k1.blk
             have lb := lt_of_some k.blk
             have n3 : ¬ b3 = bs := by omega)
  all_goals (refine Go ?_)
  all_goals (refine WC.seq ?_)
  all_goals (refine WC.sr ?_)
  all_goals (refine Go ?_)
  all_goals (refine WL.call (vs := [_]) rfl (fun a w => Tryz.call20 a w) rfl (kr _ k1) rfl rfl rfl ?_
             rintro _ hz ⟨rfl, _⟩
             subst hz)
  all_goals (refine Go ?_)
  all_goals (refine Gs [(0, _), (3, _), (10, _)] ?_)
  all_goals (refine goC 1 2 ?_ ?_ <;> first | exact ⟨⟩ | refine Hb.mk fun hb => ?_ | skip)
  all_goals (first | (fail_if_success refine goB 1 ?_) | (
  refine goB 1 ?_
  all_goals (refine WC.sr ?_)
  all_goals (refine Go ?_)
  all_goals (refine Gt ?_)
  all_goals (exact ⟨b4, rfl, hb4, (k2.ext0 hx3).ext0 hx4, (((hx1.mono fun _ _ e => e.elim).trans hx2).trans (hx3.mono fun _ _ e => e.elim)).trans (hx4.mono fun _ _ e => e.elim)⟩)
  skip))
  all_goals (first | (fail_if_success refine goB 2 ?_) | (
  refine goB 2 ?_
  all_goals (refine WC.skip ?_)
  skip))
  all_goals (refine Gn ?_)
  all_goals (refine WC.seq ?_)
  all_goals (refine WC.block ?_)
  all_goals (refine WC.sr ?_)
  all_goals (refine Go ?_)
  all_goals (refine WL.ld rfl (by first | exact cell_blk hb1 rfl | assumption | exact cell_blk (by assumption) rfl) rfl rfl rfl ?_)
  all_goals (refine Go ?_)
  all_goals (refine Gs [(0, _), (3, _), (11, _)] ?_)
  all_goals (refine goC 3 4 ?_ ?_ <;> first | exact ⟨⟩ | refine Hb.mk fun hb => ?_ | skip)
  all_goals (first | (fail_if_success refine goB 3 ?_) | (
  refine goB 3 ?_
  all_goals (refine WC.sr ?_)
  all_goals (refine Go ?_)
  all_goals (refine WL.step (ok_nilCheck rfl) rfl rfl rfl ?_)
  all_goals (refine Go ?_)
  all_goals (refine WL.stepR0 (okE_store (fun w => Tryz.sizeOf4 w) rfl rfl (by assumption) (Nat.le_of_ble_eq_true rfl) rfl rfl) rfl rfl ?_
             rintro _ h1 ⟨hb1, hx1⟩)
  all_goals (refine Gn ?_)
  all_goals (refine Gs [] ?_)
  all_goals (refine WC.sr ?_)
  all_goals (refine Go ?_)
  all_goals (refine Gt ?_)
  all_goals (exact ⟨b4, rfl, hb4, (k2.ext0 hx3).ext0 hx4, (((hx1.mono fun _ _ e => e.elim).trans hx2).trans (hx3.mono fun _ _ e => e.elim)).trans (hx4.mono fun _ _ e => e.elim)⟩)
  skip))
  all_goals (first | (fail_if_success refine goB 4 ?_) | (
  refine goB 4 ?_
  all_goals (refine WC.sr ?_)
  all_goals (refine Go ?_)
  all_goals (refine WL.ld rfl (by first | exact cell_blk hb1 rfl | assumption | exact cell_blk (by assumption) rfl) rfl rfl rfl ?_)
  all_goals (refine Go ?_)
  all_goals (refine Gs [(0, _), (3, _), (18, _)] ?_)
  all_goals (refine goC 5 6 ?_ ?_ <;> first | exact ⟨⟩ | refine Hb.mk fun hb => ?_ | skip)
  all_goals (first | (fail_if_success refine goB 5 ?_) | (
  refine goB 5 ?_
  all_goals (refine WC.sr ?_)
  all_goals (refine Go ?_)
  all_goals (refine WL.step (ok_nilCheck rfl) rfl rfl rfl ?_)
  all_goals (refine Go ?_)
  all_goals (refine WL.stepR0 (okE_store (fun w => Tryz.sizeOf4 w) rfl rfl hb (Nat.le_of_ble_eq_true rfl) rfl rfl) rfl rfl ?_
             rintro _ h2 ⟨hb2, hx2⟩)
  all_goals (have k2 := k1.turnS hx2 hb2)
  all_goals (refine Gn ?_)
  all_goals (refine Gs [(0, _)] ?_)
  all_goals (refine WC.sr ?_)
  all_goals (refine Go ?_)
  all_goals (refine WL.call (vs := [_]) rfl (fun a w => Tryz.call21 a w) rfl (ks _ k2) rfl rfl rfl ?_
             rintro _ h3 ⟨rfl, hx3⟩)
  all_goals (refine WL.stepR (okE_buildSlice (vs := [_]) (cs := [_, _, _, _, _, _, _, _, _, _, _]) (fun | [.agg ⟨[a0, a1, a2, a3, a4, a5, a6, a7, a8, a9, a10]⟩] => [a0, a1, a2, a3, a4, a5, a6, a7, a8, a9, a10] | _ => []) Tryz.underlying34 rfl rfl (by kernel_rfl)) rfl rfl rfl ?_
             rintro _ h4 ⟨b4, rfl, hg4, hb4, hx4⟩)
  all_goals (refine Go ?_)
  all_goals (refine Gs [(4, _)] ?_)
  all_goals (refine Gt ?_)
  all_goals (exact ⟨b4, rfl, hb4, (k2.ext0 hx3).ext0 hx4, (((hx1.mono fun _ _ e => e.elim).trans hx2).trans (hx3.mono fun _ _ e => e.elim)).trans (hx4.mono fun _ _ e => e.elim)⟩)
  skip))
  all_goals (first | (fail_if_success refine goB 6 ?_) | (
  refine goB 6 ?_
  all_goals (refine WC.sr ?_)
  all_goals (refine Go ?_)
  all_goals (refine WL.step (ok_nilCheck rfl) rfl rfl rfl ?_)
  all_goals (refine Go ?_)
  all_goals (refine Ld ?_)
  all_goals (refine Go ?_)
  all_goals (refine Gs [(0, _), (3, _), (28, _)] ?_)
  all_goals (refine goC 7 8 ?_ ?_ <;> first | exact ⟨⟩ | refine Hb.mk fun hb => ?_ | skip)
  all_goals (first | (fail_if_success refine goB 7 ?_) | (
  refine goB 7 ?_
  all_goals (refine WC.sr ?_)
  all_goals (refine Go ?_)
  all_goals (refine Gt ?_)
  all_goals (exact ⟨b4, rfl, hb4, (k2.ext0 hx3).ext0 hx4, (((hx1.mono fun _ _ e => e.elim).trans hx2).trans (hx3.mono fun _ _ e => e.elim)).trans (hx4.mono fun _ _ e => e.elim)⟩)
  skip))
  all_goals (first | (fail_if_success refine goB 8 ?_) | (
  refine goB 8 ?_
  all_goals (refine WC.skip ?_)
  skip))
  skip))
  skip))
  all_goals (refine Gn ?_)
  all_goals (refine WC.sr ?_)
  all_goals (refine Go ?_)
  all_goals (refine WL.step (ok_loadN (fun w => Tryz.isAgg25 w) (fun w => Tryz.sizeOf25 w) rfl rfl (by assumption)) rfl rfl rfl ?_)
  all_goals (fail "no contract for call of (*remuda/sess.Session).deal at 11.2")
  all_goals (refine Go ?_)
  all_goals (refine Gs [(0, _), (3, _), (5, _), (6, _)] ?_)
  all_goals (refine WC.sr ?_)
  all_goals (refine WL.stepR (okE_alloc (fun w => Tryz.zeroValue60 w)) rfl rfl rfl ?_
             rintro _ h1 ⟨b1, rfl, hg1, hb1, hx1⟩)
  all_goals (refine Gn ?_)
  all_goals (refine WC.seq ?_)
  all_goals (refine WC.sr ?_)
  all_goals (refine Go ?_)
  all_goals (refine WL.step (ok_mkIface ⟨_, Tryz.underlying62, fun _ h => by cases h⟩ rfl) rfl rfl rfl ?_)
  all_goals (fail "no contract for call of errors.As at 13.2")
  all_goals (refine Gn ?_)
  all_goals (refine goC 9 10 ?_ ?_ <;> first | exact ⟨⟩ | refine Hb.mk fun hb => ?_ | skip)
  all_goals (first | (fail_if_success refine goB 10 ?_) | (
  refine goB 10 ?_
  all_goals (refine WC.skip ?_)
  skip))
  all_goals (refine Gn ?_)
  all_goals (refine WC.seq ?_)
  all_goals (refine WC.sr ?_)
  all_goals (refine Go ?_)
  all_goals (refine Ld ?_)
  all_goals (refine Go ?_)
  all_goals (refine Gs [(0, _), (5, _), (56, _)] ?_)
  all_goals (refine goC 11 12 ?_ ?_ <;> first | exact ⟨⟩ | refine Hb.mk fun hb => ?_ | skip)
  all_goals (first | (fail_if_success refine goB 12 ?_) | (
  refine goB 12 ?_
  all_goals (refine WC.skip ?_)
  skip))
  all_goals (refine Gn ?_)
  all_goals (refine WC.sr ?_)
  all_goals (refine Go ?_)
  all_goals (refine Gs [(4, _)] ?_)
  all_goals (refine Gt ?_)
  all_goals (exact ⟨b4, rfl, hb4, (k2.ext0 hx3).ext0 hx4, (((hx1.mono fun _ _ e => e.elim).trans hx2).trans (hx3.mono fun _ _ e => e.elim)).trans (hx4.mono fun _ _ e => e.elim)⟩)
/-- What deal gives where nothing is wrong. -/
def Fine (h : Heap) (S : Nat → Prop) (Φ : Value → Heap → Prop) (u : Value) (h' : Heap) : Prop := ∃ A n c, u = .tuple ⟨[.slice A n c, .nilIface]⟩ ∧ Φ (.slice A n c) h' ∧ Kf h h' ∧ Ext S h h'
set_option maxHeartbeats 2000000 in
set_option maxRecDepth 100000 in
theorem deal_ok {u : Value} {f : Fm} {Φ : Value → Heap → Prop} (hf : f.ok h) (hk : (f.kind = 80 ∧ ∀ g, Ext No h g → CallsH Tryz.prog 46 ⟨[u, .agg ⟨f.cells⟩]⟩ g (Fine g S Φ)) ∨ (f.kind = 66 ∧ ∀ g, Ext No h g → CallsH Tryz.prog 47 ⟨[u, .agg ⟨f.cells⟩]⟩ g (Fine g S Φ)) ∨ (f.kind = 69 ∧ ∀ g, Ext No h g → CallsH Tryz.prog 49 ⟨[u, .agg ⟨f.cells⟩]⟩ g (Fine g S Φ))) :
    CallsH Tryz.prog 22 ⟨[u, .agg ⟨f.cells⟩]⟩ h (Fine h S Φ) := by
  obtain ⟨⟨e1, _⟩, ⟨e2, _⟩, ⟨e3, _⟩, e4, _⟩ := hf
  obtain ⟨fk, w, n, p, t, vo, o, vf, fs, vs, rs, vp, ps, mx⟩ := f
  dsimp only at e1 e2 e3 e4 hk
  obtain ⟨_, _, rfl, _⟩ := e1
  obtain ⟨_, _, rfl, _⟩ := e2
  obtain ⟨_, _, rfl, _⟩ := e3
  obtain ⟨_, _, rfl, _⟩ := e4
  dsimp only [Fm.cells] at hk ⊢
  rcases hk with ⟨rfl, kp⟩ | ⟨rfl, kp⟩ | ⟨rfl, kp⟩
  all_goals
    refine calls [(0, _), (1, _)] Tryz.func22 rfl Tryz.ntmps22 rfl ⟨rfl, rfl, trivial⟩ ?_
    all_goals (refine WC.sr ?_)
    all_goals (refine WL.stepR (okE_box rfl) rfl rfl rfl ?_
               rintro _ h1 ⟨b3, rfl, hg1, hb1, hx1⟩)
    all_goals (refine Go ?_)
    all_goals (refine WC.seq ?_)
    all_goals (refine WC.sr ?_)
    all_goals (refine Go ?_)
    all_goals (refine WL.ld rfl (by first | exact cell_blk hb1 rfl | assumption | exact cell_blk (by assumption) rfl) rfl rfl rfl ?_)
    all_goals (refine Gn ?_)
    all_goals (refine Gs [(0, _), (3, _), (7, _)] ?_)
    all_goals (refine WC.block ?_)
    all_goals (refine WC.sr ?_)
    all_goals (refine Go ?_)
    all_goals (refine goC 1 2 ?_ ?_ <;> first | exact ⟨⟩ | refine Hb.mk fun hb => ?_ | skip)
    all_goals (first | (fail_if_success refine goB 1 ?_) | (
    refine goB 1 ?_
    all_goals (refine WC.sr ?_)
    all_goals (refine Go ?_)
    all_goals (refine WL.step (ok_loadN (fun w => Tryz.isAgg25 w) (fun w => Tryz.sizeOf25 w) rfl rfl (by exact At.of_block hb1)) rfl rfl rfl ?_)
    all_goals (refine WL.call (vs := [_, _]) rfl (fun a w => Tryz.call46 a w) rfl (kp _ hx1) rfl rfl rfl ?_
               rintro _ h2 ⟨A, m, c, rfl, hΦ, hK, hE⟩)
    all_goals (refine Go ?_)
    all_goals (refine Gs [(4, _), (5, _)] ?_)
    all_goals (refine Gt ?_)
    all_goals (exact ⟨A, m, c, rfl, hΦ, (kf_no hx1).trans hK, (hx1.mono fun _ _ e => e.elim).trans hE⟩)
    skip))
    all_goals (first | (fail_if_success refine goB 2 ?_) | (
    refine goB 2 ?_
    all_goals (refine WC.sr ?_)
    all_goals (refine Go ?_)
    all_goals (refine goC 3 4 ?_ ?_ <;> first | exact ⟨⟩ | refine Hb.mk fun hb => ?_ | skip)
    all_goals (first | (fail_if_success refine goB 3 ?_) | (
    refine goB 3 ?_
    all_goals (refine WC.sr ?_)
    all_goals (refine Go ?_)
    all_goals (refine WL.step (ok_loadN (fun w => Tryz.isAgg25 w) (fun w => Tryz.sizeOf25 w) rfl rfl (by exact At.of_block hb1)) rfl rfl rfl ?_)
    all_goals (refine WL.call (vs := [_, _]) rfl (fun a w => Tryz.call47 a w) rfl (kp _ hx1) rfl rfl rfl ?_
               rintro _ h2 ⟨A, m, c, rfl, hΦ, hK, hE⟩)
    all_goals (refine Go ?_)
    all_goals (refine Gs [(4, _), (5, _)] ?_)
    all_goals (refine Gt ?_)
    all_goals (exact ⟨A, m, c, rfl, hΦ, (kf_no hx1).trans hK, (hx1.mono fun _ _ e => e.elim).trans hE⟩)
    skip))
    all_goals (first | (fail_if_success refine goB 4 ?_) | (
    refine goB 4 ?_
    all_goals (refine WC.sr ?_)
    all_goals (refine Go ?_)
    all_goals (refine Gs [(0, _), (3, _), (7, _), (22, _)] ?_)
    all_goals (refine goC 5 6 ?_ ?_ <;> first | exact ⟨⟩ | refine Hb.mk fun hb => ?_ | skip)
    all_goals (first | (fail_if_success refine goB 6 ?_) | (
    refine goB 6 ?_
    all_goals (refine WC.sr ?_)
    all_goals (refine Go ?_)
    all_goals (refine goC 7 8 ?_ ?_ <;> first | exact ⟨⟩ | refine Hb.mk fun hb => ?_ | skip)
    all_goals (first | (fail_if_success refine goB 7 ?_) | (
    refine goB 7 ?_
    all_goals (refine WC.sr ?_)
    all_goals (refine Go ?_)
    all_goals (refine WL.step (ok_loadN (fun w => Tryz.isAgg25 w) (fun w => Tryz.sizeOf25 w) rfl rfl (by exact At.of_block hb1)) rfl rfl rfl ?_)
    all_goals (refine WL.call (vs := [_, _]) rfl (fun a w => Tryz.call49 a w) rfl (kp _ hx1) rfl rfl rfl ?_
               rintro _ h2 ⟨A, m, c, rfl, hΦ, hK, hE⟩)
    all_goals (refine Go ?_)
    all_goals (refine Gs [(4, _), (5, _)] ?_)
    all_goals (refine Gt ?_)
    all_goals (exact ⟨A, m, c, rfl, hΦ, (kf_no hx1).trans hK, (hx1.mono fun _ _ e => e.elim).trans hE⟩)
    skip))
    all_goals (first | (fail_if_success refine goB 8 ?_) | (
    refine goB 8 ?_
    all_goals (refine WC.sr ?_)
    all_goals (refine Go ?_)
    all_goals (refine Gs [(0, _), (3, _), (7, _), (36, _)] ?_)
    all_goals (refine goC 9 10 ?_ ?_ <;> first | exact ⟨⟩ | refine Hb.mk fun hb => ?_ | skip)
    all_goals (first | (fail_if_success refine goB 10 ?_) | (
    refine goB 10 ?_
    all_goals (refine WC.sr ?_)
    all_goals (refine Go ?_)
    all_goals (refine goC 11 12 ?_ ?_ <;> first | exact ⟨⟩ | refine Hb.mk fun hb => ?_ | skip)
    all_goals (first | (fail_if_success refine goB 12 ?_) | (
    refine goB 12 ?_
    all_goals (refine WC.skip ?_)
    skip))
    skip))
    skip))
    skip))
    skip))
    skip))
    all_goals (refine Gn ?_)
    all_goals (refine Gs [] ?_)
    all_goals (refine WC.sr ?_)
    all_goals (refine Go ?_)
    all_goals (refine Gt ?_)
    all_goals (exact ⟨A, m, c, rfl, hΦ, (kf_no hx1).trans hK, (hx1.mono fun _ _ e => e.elim).trans hE⟩)
set_option maxHeartbeats 2000000 in
set_option maxRecDepth 100000 in
theorem do_ok {f : Fm} {Φ : Value → Heap → Prop} (hf : f.ok h) (hk : f.kind ≠ 88 ∧ f.kind ≠ 83 ∧ f.kind ≠ 81) (k : Se h bs ms bp mp be me st false false cnt L P R) (hΦ : ∀ v g g', Φ v g → Ext No g g' → Φ v g')
    (kd : ∀ g, Ext No h g → CallsH Tryz.prog 22 ⟨[.pointer (some ⟨bs, 0, none⟩), .agg ⟨f.cells⟩]⟩ g (Fine g S Φ)) :
    CallsH Tryz.prog 7 ⟨[.pointer (some ⟨bs, 0, none⟩), .agg ⟨f.cells⟩]⟩ h fun u h' => Φ u h' ∧ Ext S h h' := by
  have kr := fun (g : Heap) (k : Se g bs ms bp mp be me st false false cnt L P R) => ready_yes k.blk
  obtain ⟨⟨e1, _⟩, ⟨e2, _⟩, ⟨e3, _⟩, e4, _⟩ := hf
  obtain ⟨fk, w, n, p, t, vo, o, vf, fs, vs, rs, vp, ps, mx⟩ := f
  dsimp only at e1 e2 e3 e4 hk
  obtain ⟨_, _, rfl, _⟩ := e1
  obtain ⟨_, _, rfl, _⟩ := e2
  obtain ⟨_, _, rfl, _⟩ := e3
  obtain ⟨_, _, rfl, _⟩ := e4
  obtain ⟨k1, k2, k3⟩ := hk
  dsimp only [Fm.cells] at kd ⊢
  refine calls [(0, _), (1, _)] Tryz.func7 rfl Tryz.ntmps7 rfl ⟨rfl, rfl, trivial⟩ ?_
  all_goals (refine WC.sr ?_)
  all_goals (refine WL.stepR (okE_box rfl) rfl rfl rfl ?_
             rintro _ h1 ⟨b3, rfl, hg1, hb1, hx1⟩)
  all_goals (have kk := k.ext0 hx1
             have hb := kk.blk)
  all_goals (refine Go ?_)
  all_goals (refine WC.seq ?_)
  all_goals (refine WC.sr ?_)
  all_goals (refine Go ?_)
  all_goals (refine WL.call (vs := [_]) rfl (fun a w => Tryz.call20 a w) rfl (kr _ kk) rfl rfl rfl ?_
             rintro _ hz ⟨rfl, _⟩
             subst hz)
  all_goals (refine Go ?_)
  all_goals (refine Gs [(0, _), (3, _), (10, _)] ?_)
  all_goals (refine goC 1 2 ?_ ?_ <;> first | exact ⟨⟩ | refine Hb.mk fun hb => ?_ | skip)
  all_goals (first | (fail_if_success refine goB 1 ?_) | (
  refine goB 1 ?_
  all_goals (refine WC.sr ?_)
  all_goals (refine Go ?_)
  all_goals (refine Gt ?_)
  all_goals (first | exact ⟨hΦ _ _ _ hphi hx3, ((hx1.mono fun _ _ e => e.elim).trans hE).trans (hx3.mono fun _ _ e => e.elim)⟩ | (exfalso; first | omega | simp_all))
  skip))
  all_goals (first | (fail_if_success refine goB 2 ?_) | (
  refine goB 2 ?_
  all_goals (refine WC.skip ?_)
  skip))
  all_goals (refine Gn ?_)
  all_goals (refine WC.seq ?_)
  all_goals (refine WC.block ?_)
  all_goals (refine WC.sr ?_)
  all_goals (refine Go ?_)
  all_goals (refine WL.ld rfl (by first | exact cell_blk hb1 rfl | assumption | exact cell_blk (by assumption) rfl) rfl rfl rfl ?_)
  all_goals (refine Go ?_)
  all_goals (refine Gs [(0, _), (3, _), (11, _)] ?_)
  all_goals (refine goC 3 4 ?_ ?_ <;> first | exact ⟨⟩ | refine Hb.mk fun hb => ?_ | skip)
  all_goals (first | (fail_if_success refine goB 3 ?_) | (
  refine goB 3 ?_
  all_goals (refine WC.sr ?_)
  all_goals (refine Go ?_)
  all_goals (refine WL.step (ok_nilCheck rfl) rfl rfl rfl ?_)
  all_goals (refine Go ?_)
  all_goals (refine WL.stepR0 (okE_store (fun w => Tryz.sizeOf4 w) rfl rfl (by assumption) (Nat.le_of_ble_eq_true rfl) rfl rfl) rfl rfl ?_
             rintro _ h1 ⟨hb1, hx1⟩)
  all_goals (refine Gn ?_)
  all_goals (refine Gs [] ?_)
  all_goals (refine WC.sr ?_)
  all_goals (refine Go ?_)
  all_goals (refine Gt ?_)
  all_goals (first | exact ⟨hΦ _ _ _ hphi hx3, ((hx1.mono fun _ _ e => e.elim).trans hE).trans (hx3.mono fun _ _ e => e.elim)⟩ | (exfalso; first | omega | simp_all))
  skip))
  all_goals (first | (fail_if_success refine goB 4 ?_) | (
  refine goB 4 ?_
  all_goals (refine WC.sr ?_)
  all_goals (refine Go ?_)
  all_goals (refine WL.ld rfl (by first | exact cell_blk hb1 rfl | assumption | exact cell_blk (by assumption) rfl) rfl rfl rfl ?_)
  all_goals (refine Go ?_)
  all_goals (refine Gs [(0, _), (3, _), (18, _)] ?_)
  all_goals (refine goC 5 6 ?_ ?_ <;> first | exact ⟨⟩ | refine Hb.mk fun hb => ?_ | skip)
  all_goals (first | (fail_if_success refine goB 6 ?_) | (
  refine goB 6 ?_
  all_goals (refine WC.sr ?_)
  all_goals (refine Go ?_)
  all_goals (refine WL.step (ok_nilCheck rfl) rfl rfl rfl ?_)
  all_goals (refine Go ?_)
  all_goals (refine WL.ld rfl (by first | exact cell_blk hb rfl | assumption | exact cell_blk (by assumption) rfl) rfl rfl rfl ?_)
  all_goals (refine Go ?_)
  all_goals (refine Gs [(0, _), (3, _), (28, _)] ?_)
  all_goals (refine goC 7 8 ?_ ?_ <;> first | exact ⟨⟩ | refine Hb.mk fun hb => ?_ | skip)
  all_goals (first | (fail_if_success refine goB 7 ?_) | (
  refine goB 7 ?_
  all_goals (refine WC.sr ?_)
  all_goals (refine Go ?_)
  all_goals (refine Gt ?_)
  all_goals (first | exact ⟨hΦ _ _ _ hphi hx3, ((hx1.mono fun _ _ e => e.elim).trans hE).trans (hx3.mono fun _ _ e => e.elim)⟩ | (exfalso; first | omega | simp_all))
  skip))
  all_goals (first | (fail_if_success refine goB 8 ?_) | (
  refine goB 8 ?_
  all_goals (refine WC.skip ?_)
  skip))
  skip))
  skip))
  all_goals (refine Gn ?_)
  all_goals (refine WC.sr ?_)
  all_goals (refine Go ?_)
  all_goals (refine WL.step (ok_loadN (fun w => Tryz.isAgg25 w) (fun w => Tryz.sizeOf25 w) rfl rfl (by exact At.of_block hb1)) rfl rfl rfl ?_)
  all_goals (refine WL.call (vs := [_, _]) rfl (fun a w => Tryz.call22 a w) rfl (kd _ hx1) rfl rfl rfl ?_
             rintro _ h2 ⟨A, m, c, rfl, hphi, hK, hE⟩)
  all_goals (have hb2 := hK _ _ hb1)
  all_goals (refine Go ?_)
  all_goals (refine Gs [(0, _), (3, _), (5, _), (6, _)] ?_)
  all_goals (refine WC.sr ?_)
  all_goals (refine WL.stepR (okE_alloc (fun w => Tryz.zeroValue60 w)) rfl rfl rfl ?_
             rintro _ h3 ⟨b7, rfl, hg3, hb3, hx3⟩)
  all_goals (refine Gn ?_)
  all_goals (refine WC.seq ?_)
  all_goals (refine WC.sr ?_)
  all_goals (refine Go ?_)
  all_goals (refine WL.step (ok_mkIface ⟨_, Tryz.underlying62, fun _ h => by cases h⟩ rfl) rfl rfl rfl ?_)
  all_goals (refine WL.call (vs := [_, _]) rfl (fun a w => Tryz.call23 a w) rfl (as_none _) rfl rfl rfl ?_
             rintro _ hz ⟨rfl, _⟩
             subst hz)
  all_goals (refine Gn ?_)
  all_goals (refine goC 9 10 ?_ ?_ <;> first | exact ⟨⟩ | refine Hb.mk fun hb => ?_ | skip)
  all_goals (first | (fail_if_success refine goB 10 ?_) | (
  refine goB 10 ?_
  all_goals (refine WC.skip ?_)
  skip))
  all_goals (refine Gn ?_)
  all_goals (refine WC.seq ?_)
  all_goals (refine WC.sr ?_)
  all_goals (refine Go ?_)
  all_goals (refine WL.ld rfl (by first | exact cell_blk (hx3.obj hb2 nos) rfl | assumption | exact cell_blk (by assumption) rfl) rfl rfl rfl ?_)
  all_goals (refine Go ?_)
  all_goals (refine Gs [(0, _), (5, _), (56, _)] ?_)
  all_goals (refine goC 11 12 ?_ ?_ <;> first | exact ⟨⟩ | refine Hb.mk fun hb => ?_ | skip)
  all_goals (first | (fail_if_success refine goB 12 ?_) | (
  refine goB 12 ?_
  all_goals (refine WC.skip ?_)
  skip))
  all_goals (refine Gn ?_)
  all_goals (refine WC.sr ?_)
  all_goals (refine Go ?_)
  all_goals (refine Gs [(4, _)] ?_)
  all_goals (refine Gt ?_)
  all_goals (first | exact ⟨hΦ _ _ _ hphi hx3, ((hx1.mono fun _ _ e => e.elim).trans hE).trans (hx3.mono fun _ _ e => e.elim)⟩ | (exfalso; first | omega | simp_all))
end
end Go.Proofs.YtbhneapeibggnaaGreatDoor


/-
  SESSIONS (layer 30): the law's awake.
-/
namespace Go.Proofs.YtbhneapeibggnaaGreatDoor
open Go Go.RK

theorem get_str {l : List (List UInt8)} {k : Nat} {y : List UInt8} (hk : l[k]? = some y) : (l.map St)[k]? = some (St y) := by simp [hk]
set_option maxHeartbeats 2000000 in
set_option maxRecDepth 100000 in
theorem equal_str {h : Heap} {v w : Value} (l m : List (List UInt8)) (hr : Rd h v 1 l.length (l.map St)) (hs : Rd h w 1 m.length (m.map St)) (hm : l.length ≤ 1000000) (hmm : m.length ≤ 1000000) :
    CallsH Tryz.prog 15 ⟨[v, w]⟩ h fun u h' => u = .bool (decide (l = m)) ∧ h' = h := by
  obtain ⟨A, c, rfl, _⟩ := id hr
  obtain ⟨B, d, rfl, _⟩ := id hs
  refine calls [(0, _), (1, _)] Tryz.func15 rfl Tryz.ntmps15 rfl ⟨rfl, rfl, trivial⟩ ?_
  all_goals (refine WC.sr ?_)
  all_goals (refine Go ?_)
  all_goals (refine WC.seq ?_)
  all_goals (refine WC.sr ?_)
  all_goals (refine Go ?_)
  all_goals (refine Gs [(0, _), (1, _), (10, _)] ?_)
  all_goals (refine goC 1 2 ?_ ?_ <;> first | exact ⟨⟩ | refine Hb.mk fun hb => ?_ | skip)
  all_goals (first | (fail_if_success refine goB 1 ?_) | (
  refine goB 1 ?_
  all_goals (refine WC.sr ?_)
  all_goals (refine Go ?_)
  all_goals (refine Gt ?_)
  all_goals (first
              | exact ⟨by rw [decide_eq_false (fun e => by subst e; omega)], rfl⟩
              | exact ⟨by rw [decide_eq_false (fun e => hyz (by subst e; rw [hy] at hz; exact Option.some.inj hz))], rfl⟩
              | exact ⟨by rw [decide_eq_true (by rw [List.take_of_length_le (by omega), List.take_of_length_le (by omega)] at hn; exact hn)], rfl⟩)
  skip))
  all_goals (first | (fail_if_success refine goB 2 ?_) | (
  refine goB 2 ?_
  all_goals (refine WC.skip ?_)
  skip))
  all_goals (refine Gn ?_)
  all_goals (refine WC.seq ?_)
  all_goals (refine WC.sr ?_)
  all_goals (refine Go ?_)
  all_goals (refine WC.block ?_)
  -- loop 0: slots that turn [13], that stay [0, 1, 12]
  all_goals (refine WC.loopG (X := Nat) (fun x => ([(13, In (x : Int))] : Fr)) [(0, _), (1, _), (12, _)] (fun k h' => h' = h ∧ k ≤ l.length ∧ l.length = m.length ∧ l.take k = m.take k) (fun k => l.length - k) (0) ⟨rfl, rfl, rfl, rfl, trivial⟩ (by exact ⟨rfl, Nat.zero_le _, by omega, by simp⟩) ?_)
  all_goals (rintro k h1 ⟨hz, hk, hlm, hn⟩
             subst hz)
  all_goals (refine WC.sub [(13, _), (0, _), (1, _), (12, _)] ⟨rfl, rfl, rfl, rfl, trivial⟩ ?_)
  all_goals (refine WC.sr ?_)
  all_goals (refine Go ?_)
  all_goals (refine WC.seq ?_)
  all_goals (refine goC 3 4 ?_ ?_ <;> first | exact ⟨⟩ | refine Hb.mk fun hb => ?_ | skip)
  all_goals (first | (fail_if_success refine goB 3 ?_) | (
  refine goB 3 ?_
  all_goals (refine WC.skip ?_)
  skip))
  all_goals (first | (fail_if_success refine goB 4 ?_) | (
  refine goB 4 ?_
  all_goals (refine WC.exit ?_)
  all_goals (repeat' (with_reducible first | refine thenP_x ?_ | refine blockP_miss rfl ?_ | refine blockP_hit ?_ | refine blockP_n ?_ | refine thenP_n ?_))
  all_goals (refine Br.out (i := 1000) ?_)
  skip))
  all_goals (refine Gn ?_)
  all_goals (first | (refine Br.keep ?_) | (refine WC.seq ?_))
  all_goals (first | (refine Br.keep ?_) | (refine WC.block ?_))
  all_goals (first | (refine Br.keep ?_) | (refine WC.sr ?_))
  all_goals (first
               | (refine Br.keep ?_)
               | (obtain ⟨bL, oL, hA, hbL, hat⟩ := Rd.at_ hr (by omega)
                  obtain ⟨bM, oM, hB, hbM, hbt⟩ := Rd.at_ hs (by omega)
                  obtain ⟨y, hy⟩ : ∃ y, l[k]? = some y := ⟨_, List.getElem?_eq_getElem (by omega)⟩
                  obtain ⟨z, hz⟩ : ∃ z, m[k]? = some z := ⟨_, List.getElem?_eq_getElem (by omega)⟩
                  have hc1 := hat.get (p := oL + k * 1) k (get_str hy) (by omega)
                  have hc2 := hbt.get (p := oM + k * 1) k (get_str hz) (by omega)
                  by_cases hyz : y = z))
  all_goals (first | (refine Br.keep ?_) | (refine WL.step (ok_move rfl) rfl rfl rfl ?_))
  all_goals (refine Go ?_)
  all_goals (first | (refine Br.keep ?_) | (refine WC.seq ?_))
  all_goals (first | (refine Br.keep ?_) | (refine WC.drawE fol (by kernel_rfl) ?_))
  all_goals (first | (refine Br.keep ?_) | (refine WQ.stepE (ok_move rfl) rfl rfl rfl ?_))
  all_goals (first | (refine Br.keep ?_) | (refine WQ.stepE (ok_move rfl) rfl rfl rfl ?_))
  all_goals (first | (refine Br.keep ?_) | (refine WQ.stepE (ok_idxAddrA Tryz.underlying37 (fun w => Tryz.sizeOf9 w) rfl rfl rfl (by omega) (by first | rfl | assumption)) rfl rfl rfl ?_))
  all_goals (first | (refine Br.keep ?_) | (refine WQ.stepE (ok_load (fun w => Tryz.isAgg9 w) rfl (by first | exact hc1 | assumption | exact cell_blk (by assumption) rfl)) rfl rfl rfl ?_))
  all_goals (first | (refine Br.keep ?_) | (refine WQ.stepE (ok_move rfl) rfl rfl rfl ?_))
  all_goals (first | (refine Br.keep ?_) | (refine WQ.stepE (ok_move rfl) rfl rfl rfl ?_))
  all_goals (first | (refine Br.keep ?_) | (refine WQ.stepE (ok_idxAddrA Tryz.underlying37 (fun w => Tryz.sizeOf9 w) rfl rfl rfl (by omega) (by first | rfl | assumption)) rfl rfl rfl ?_))
  all_goals (first | (refine Br.keep ?_) | (refine WQ.stepE (ok_load (fun w => Tryz.isAgg9 w) rfl (by first | exact hc2 | assumption | exact cell_blk (by assumption) rfl)) rfl rfl rfl ?_))
  all_goals (first | (refine Br.keep ?_) | (first | (refine WQ.stepE (OkP.nbool_f (by first | rfl | assumption | decide) (ok_neqS rfl rfl)) rfl rfl rfl ?_) | (refine WQ.stepE (OkP.nbool_t (by first | assumption | decide) (ok_neqS rfl rfl)) rfl rfl rfl ?_) | (refine WQ.stepE (ok_neqS rfl rfl) rfl rfl rfl ?_)))
  all_goals (first | (refine Br.keep ?_) | (refine WQ.nil ?_))
  all_goals (refine Gn ?_)
  all_goals (first | (refine Br.keep ?_) | (refine Gs [(0, _), (1, _), (12, _), (13, _), (24, _)] ?_))
  all_goals (first | (refine Br.keep ?_) | (refine goC 5 6 ?_ ?_ <;> first | exact ⟨⟩ | refine Hb.mk fun hb => ?_ | skip))
  all_goals (first | (fail_if_success refine goB 5 ?_) | (
  refine goB 5 ?_
  all_goals (refine WC.sr ?_)
  all_goals (refine Go ?_)
  all_goals (refine Gs [(4, _)] ?_)
  all_goals (refine Gt ?_)
  all_goals (first
              | exact ⟨by rw [decide_eq_false (fun e => by subst e; omega)], rfl⟩
              | exact ⟨by rw [decide_eq_false (fun e => hyz (by subst e; rw [hy] at hz; exact Option.some.inj hz))], rfl⟩
              | exact ⟨by rw [decide_eq_true (by rw [List.take_of_length_le (by omega), List.take_of_length_le (by omega)] at hn; exact hn)], rfl⟩)
  skip))
  all_goals (first | (fail_if_success refine goB 6 ?_) | (
  refine goB 6 ?_
  all_goals (refine WC.skip ?_)
  skip))
  all_goals (refine Gn ?_)
  all_goals (first | (refine Br.keep ?_) | (refine WC.region ?_))
  all_goals (refine Go ?_)
  all_goals (first | (refine Br.keep ?_) | (exact ⟨k + 1, ⟨rfl, rfl, rfl, rfl, trivial⟩, (by exact ⟨rfl, by omega, hlm, by rw [List.take_add_one, List.take_add_one, hn, hy, hz, hyz]⟩), (by omega)⟩))
  all_goals (try (refine Br.mk (i := 1000) ?_))
  all_goals (refine Gn ?_)
  all_goals (refine Gs [] ?_)
  all_goals (refine WC.sr ?_)
  all_goals (refine Go ?_)
  all_goals (refine Gt ?_)
  all_goals (first
              | exact ⟨by rw [decide_eq_false (fun e => by subst e; omega)], rfl⟩
              | exact ⟨by rw [decide_eq_false (fun e => hyz (by subst e; rw [hy] at hz; exact Option.some.inj hz))], rfl⟩
              | exact ⟨by rw [decide_eq_true (by rw [List.take_of_length_le (by omega), List.take_of_length_le (by omega)] at hn; exact hn)], rfl⟩)
def fmP : Fm := ⟨80, 0, ([97] : List UInt8), [], beginL, .slice none 0 0, [], .slice none 0 0, [], .slice none 0 0, [], .slice none 0 0, [], 0⟩
def fmB : Fm := ⟨66, 0, ([97] : List UInt8), [], [], .slice none 0 0, [], .slice none 0 0, [], .slice none 0 0, [], .slice none 0 0, [], 0⟩
def fmE : Fm := ⟨69, 0, [], [], [], .slice none 0 0, [], .slice none 0 0, [], .slice none 0 0, [], .slice none 0 0, [], 0⟩
theorem fm0_ok {k w : Int} {n p t : List UInt8} {mx : Int} (h : Heap) : (⟨k, w, n, p, t, .slice none 0 0, [], .slice none 0 0, [], .slice none 0 0, [], .slice none 0 0, [], mx⟩ : Fm).ok h := ⟨⟨Rd.nil _ _, by simp [maxLen]⟩, ⟨Rd.nil _ _, by simp [maxLen]⟩, ⟨Rd.nil _ _, by simp [maxLen]⟩, cels_zero h _⟩
section
variable {h h' : Heap} {bs ms bp mp be me : Nat} {st st' : Int} {sk ov : Bool} {cnt : Int} {L P P' R : List (List UInt8 × Value)} {S : Nat → Prop}
abbrev L1 : List (List UInt8 × Value) := [(([97] : List UInt8), .agg ⟨[St beginL, nS]⟩)]
theorem do_P (k : Se h bs ms bp mp be me 73 false false cnt [] P []) : CallsH Tryz.prog 7 ⟨[.pointer (some ⟨bs, 0, none⟩), .agg ⟨fmP.cells⟩]⟩ h fun _ h' => Se h' bs ms bp mp be me 73 false false cnt L1 P [] ∧ Ext (fun q => q = ms) h h' :=
  do_ok (Φ := fun _ g => Se g bs ms bp mp be me 73 false false cnt L1 P []) (fm0_ok h) (by decide) k (fun _ _ _ s x => s.ext0 x) fun g x => deal_ok (fm0_ok g) (.inl ⟨rfl, fun g' y => (parse_s (by decide) ((k.ext0 x).ext0 y)).mono fun u h' ⟨A, m, c, e, s, kf⟩ => ⟨A, m, c, e, s, kf⟩⟩)
theorem do_B (k : Se h bs ms bp mp be me 73 false false cnt L1 [] R) : CallsH Tryz.prog 7 ⟨[.pointer (some ⟨bs, 0, none⟩), .agg ⟨fmB.cells⟩]⟩ h fun _ h' => (∃ p d, Se h' bs ms bp mp be me 73 false false cnt L1 [([], .pointer (some ⟨p, 0, none⟩))] R ∧ h'[p]? = some (.cells ⟨PD.cells d⟩ 147 (0, 0)) ∧ d.ok h' ∧ d.pl = pB ∧ (∀ q, d.F q → q ≠ p) ∧ h.size ≤ p) ∧ Ext (fun q => q = mp) h h' :=
  do_ok (Φ := fun _ g => ∃ p d, Se g bs ms bp mp be me 73 false false cnt L1 [([], .pointer (some ⟨p, 0, none⟩))] R ∧ g[p]? = some (.cells ⟨PD.cells d⟩ 147 (0, 0)) ∧ d.ok g ∧ d.pl = pB ∧ (∀ q, d.F q → q ≠ p) ∧ h.size ≤ p) (fm0_ok h) (by decide) k
    (fun _ _ _ ⟨p, d, s, a, b, c, e⟩ x => ⟨p, d, s.ext0 x, x.obj a nos, b.ext x (fun _ _ => nos), c, e⟩) fun g x => deal_ok (fm0_ok g) (.inr (.inl ⟨rfl, fun g' y => (bind_s (by decide) rfl ((k.ext0 x).ext0 y)).mono fun u h' ⟨A, m, c, p, d, e, s, a, b, c1, f, kf, z, l⟩ => ⟨A, m, c, e, ⟨p, d, s, a, b, c1, f, by have := x.size; have := y.size; omega⟩, kf, z⟩⟩))
theorem do_E {p : Nat} {d : PD} (k : Se h bs ms bp mp be me 73 false false cnt L [([], .pointer (some ⟨p, 0, none⟩))] R) (hp : h[p]? = some (.cells ⟨PD.cells d⟩ 147 (0, 0))) (ok : d.ok h) (pl : d.pl = pB) (ap : ∀ q, d.F q → q ≠ p) :
    CallsH Tryz.prog 7 ⟨[.pointer (some ⟨bs, 0, none⟩), .agg ⟨fmE.cells⟩]⟩ h fun u h' => (∃ q, u = .slice (some ⟨q, 0, none⟩) 1 1 ∧ h'[q]? = some (.cells ⟨bkC 67 0 ([66, 69, 71, 73, 78] : List UInt8)⟩ 48 (0, 0)) ∧ Se h' bs ms bp mp be me 84 false false cnt L [([], .pointer (some ⟨p, 0, none⟩))] R) ∧ Ext (fun q => q = bs ∨ q = p) h h' :=
  do_ok (Φ := fun u g => ∃ q, u = .slice (some ⟨q, 0, none⟩) 1 1 ∧ g[q]? = some (.cells ⟨bkC 67 0 ([66, 69, 71, 73, 78] : List UInt8)⟩ 48 (0, 0)) ∧ Se g bs ms bp mp be me 84 false false cnt L [([], .pointer (some ⟨p, 0, none⟩))] R) (fm0_ok h) (by decide) k
    (fun _ _ _ ⟨q, e, a, s⟩ x => ⟨q, e, x.obj a nos, s.ext0 x⟩) fun g x => deal_ok (fm0_ok g) (.inr (.inr ⟨rfl, fun g' y => (execute_s ((k.ext0 x).ext0 y) (y.obj (x.obj hp nos) nos) ((ok.ext x (fun _ _ => nos)).ext y (fun _ _ => nos)) pl ap).mono fun u h' ⟨q, e, a, s, kf, z⟩ => ⟨_, _, _, e, ⟨q, rfl, a, s⟩, kf, z⟩⟩))
end
set_option maxHeartbeats 4000000 in
set_option maxRecDepth 100000 in
theorem awake30 {h : Heap} : CallsH Tryz.prog 11 ⟨[]⟩ h fun u h' => u = .bool true ∧ Ext No h h' := by
  have kP := fun (g : Heap) (bs ms bp mp be me : Nat) (k : Se g bs ms bp mp be me 73 false false 0 [] [] []) => do_P k
  have kB := fun (g : Heap) (bs ms bp mp be me : Nat) (k : Se g bs ms bp mp be me 73 false false 0 L1 [] []) => do_B k
  have kE := fun (g : Heap) (bs ms bp mp be me p : Nat) (d : PD) (k : Se g bs ms bp mp be me 73 false false 0 L1 [([], .pointer (some ⟨p, 0, none⟩))] []) (hp : g[p]? = some (.cells ⟨PD.cells d⟩ 147 (0, 0))) => do_E k hp
  dsimp only [Fm.cells, fmP, fmB, fmE] at kP kB kE
  refine calls [] Tryz.func11 rfl Tryz.ntmps11 rfl trivial ?_
  all_goals (refine WC.sr ?_)
  all_goals (refine Go ?_)
  all_goals (refine WC.sr ?_)
  all_goals (refine WL.call (vs := []) rfl (fun a w => Tryz.call13 a w) rfl (new_eng) rfl rfl rfl ?_
             rintro _ h1 ⟨be, me, rfl, hbe, hme, hge, hgm, hx1⟩)
  all_goals (refine WL.call (vs := [_]) rfl (fun a w => Tryz.call6 a w) rfl (new_sess (some ⟨be, 0, none⟩)) rfl rfl rfl ?_
             rintro _ h2 ⟨bs, ms, bp, mp, rfl, hbs, hms, hbp, hmp, l1, l2, l3, l4, hx2⟩)
  all_goals (have lme := hme.lt
             have K2 : Se h2 bs ms bp mp be me 73 false false 0 [] [] [] := ⟨hbs, hms, hbp, hmp, hx2.obj hbe nos, hme.ext hx2 nos, by omega, by omega, by omega⟩
             have X2 := hx1.trans hx2
             have s1 := hx1.size)
  all_goals (refine Go ?_)
  all_goals (refine WC.seq ?_)
  all_goals (refine WC.sr ?_)
  all_goals (refine Go ?_)
  all_goals (refine WL.step (ok_eqlPn Tryz.underlying26 rfl rfl) rfl rfl rfl ?_)
  all_goals (refine Gn ?_)
  all_goals (refine Gs [(1, _), (7, _)] ?_)
  all_goals (refine goC 1 2 ?_ ?_ <;> first | exact ⟨⟩ | refine Hb.mk fun hb => ?_ | skip)
  all_goals (first | (fail_if_success refine goB 1 ?_) | (
  refine goB 1 ?_
  all_goals (refine WC.sr ?_)
  all_goals (refine Go ?_)
  all_goals (refine Gt ?_)
  all_goals (exact ⟨rfl, (X6.trans hx7).trans hx8⟩)
  skip))
  all_goals (first | (fail_if_success refine goB 2 ?_) | (
  refine goB 2 ?_
  all_goals (refine WC.skip ?_)
  skip))
  all_goals (refine Gn ?_)
  all_goals (refine WC.sr ?_)
  all_goals (refine Go ?_)
  all_goals (refine WL.step (ok_buildF (vs := [_, _, _]) (cs := [_, _, _, _, _, _, _, _, _, _]) (fun | [a0, a2, a4] => [a0, (.int .u8 0), a2, (St []), a4, (.slice none 0 0), (.slice none 0 0), (.slice none 0 0), (.slice none 0 0), (.int .i64 0)] | _ => []) rfl rfl (by kernel_rfl)) rfl rfl rfl ?_)
  all_goals (refine WL.call (vs := [_, _]) rfl (fun a w => Tryz.call7 a w) rfl (kP _ _ _ _ _ _ _ K2) rfl rfl rfl ?_
             rintro _ h3 ⟨K3, x3⟩)
  all_goals (have X3 : Ext No h h3 := X2.trans' x3 (fun q hq e => by omega))
  all_goals (refine Gn ?_)
  all_goals (refine Gs [(1, _)] ?_)
  all_goals (refine WC.sr ?_)
  all_goals (refine Go ?_)
  all_goals (refine WL.step (ok_buildF (vs := [_, _]) (cs := [_, _, _, _, _, _, _, _, _, _]) (fun | [a0, a2] => [a0, (.int .u8 0), a2, (St []), (St []), (.slice none 0 0), (.slice none 0 0), (.slice none 0 0), (.slice none 0 0), (.int .i64 0)] | _ => []) rfl rfl (by kernel_rfl)) rfl rfl rfl ?_)
  all_goals (refine WL.call (vs := [_, _]) rfl (fun a w => Tryz.call7 a w) rfl (kB _ _ _ _ _ _ _ K3) rfl rfl rfl ?_
             rintro _ h4 ⟨⟨p, d, K4, hp4, ok4, pl4, ap4, lp⟩, x4⟩)
  all_goals (have X4 : Ext No h h4 := X3.trans' x4 (fun q hq e => by omega)
             have s3 := X3.size)
  all_goals (refine Gn ?_)
  all_goals (refine WC.sr ?_)
  all_goals (refine Go ?_)
  all_goals (refine WL.step (ok_buildF (vs := [_]) (cs := [_, _, _, _, _, _, _, _, _, _]) (fun | [a0] => [a0, (.int .u8 0), (St []), (St []), (St []), (.slice none 0 0), (.slice none 0 0), (.slice none 0 0), (.slice none 0 0), (.int .i64 0)] | _ => []) rfl rfl (by kernel_rfl)) rfl rfl rfl ?_)
  all_goals (refine WL.call (vs := [_, _]) rfl (fun a w => Tryz.call7 a w) rfl (kE _ _ _ _ _ _ _ _ _ K4 hp4 ok4 pl4 ap4) rfl rfl rfl ?_
             rintro _ h5 ⟨⟨q5, rfl, hq5, K5⟩, x5⟩)
  all_goals (have X5 : Ext No h h5 := X4.trans' x5 (fun q hq e => by omega))
  all_goals (refine Go ?_)
  all_goals (refine Gs [(1, _), (2, _)] ?_)
  all_goals (refine WC.sr ?_)
  all_goals (refine Go ?_)
  all_goals (refine WL.step (ok_buildF (vs := [_]) (cs := [_, _, _, _, _, _, _, _, _, _]) (fun | [a0] => [a0, (.int .u8 0), (St []), (St []), (St []), (.slice none 0 0), (.slice none 0 0), (.slice none 0 0), (.slice none 0 0), (.int .i64 0)] | _ => []) rfl rfl (by kernel_rfl)) rfl rfl rfl ?_)
  all_goals (refine WL.call (vs := [_, _]) rfl (fun a w => Tryz.call7 a w) rfl (do_sync (by decide) K5) rfl rfl rfl ?_
             rintro _ h6 ⟨q6, rfl, hq6, K6, x6⟩)
  all_goals (have X6 : Ext No h h6 := X5.trans' x6 (fun q hq e => by omega)
             have hq56 := x6.obj hq5 (fun e => by
              subst e
              rw [K5.blk] at hq5
              simp only [Option.some.injEq, Obj.cells.injEq] at hq5
              exact absurd hq5.2.1 (by decide))
             unfold bkC at hq56 hq6)
  all_goals (refine Go ?_)
  all_goals (refine WC.sr ?_)
  all_goals (refine Go ?_)
  all_goals (refine goP 23 ?_ ?_ <;> first | exact ⟨⟩ | refine Hb.mk fun hb => ?_ | skip)
  all_goals (refine Gg ?_)
  all_goals (first | (refine WL.pass rfl rfl rfl ?_) | (refine WL.step (ok_idxAddrA Tryz.underlying34 (fun w => Tryz.sizeOf48 w) rfl rfl rfl (by first | omega | (simp <;> omega)) (by first | rfl | assumption) (k := 0)) rfl rfl rfl ?_))
  all_goals (refine Gg ?_)
  all_goals (first | (refine WL.pass rfl rfl rfl ?_) | (refine WL.ld rfl (by first | exact cell_blk hq56 rfl | assumption | exact cell_blk (by assumption) rfl) rfl rfl rfl ?_))
  all_goals (refine Gg ?_)
  all_goals (refine Go ?_)
  all_goals (refine goP 30 ?_ ?_ <;> first | exact ⟨⟩ | refine Hb.mk fun hb => ?_ | skip)
  all_goals (refine Gg ?_)
  all_goals (refine Go ?_)
  all_goals (refine goP 35 ?_ ?_ <;> first | exact ⟨⟩ | refine Hb.mk fun hb => ?_ | skip)
  all_goals (refine Gg ?_)
  all_goals (first | (refine WL.pass rfl rfl rfl ?_) | (refine WL.step (ok_idxAddrA Tryz.underlying34 (fun w => Tryz.sizeOf48 w) rfl rfl rfl (by first | omega | (simp <;> omega)) (by first | rfl | assumption) (k := 0)) rfl rfl rfl ?_))
  all_goals (refine Gg ?_)
  all_goals (first | (refine WL.pass rfl rfl rfl ?_) | (refine WL.ld rfl (by first | exact cell_blk hq6 rfl | assumption | exact cell_blk (by assumption) rfl) rfl rfl rfl ?_))
  all_goals (refine Gg ?_)
  all_goals (refine Go ?_)
  all_goals (refine goP 42 ?_ ?_ <;> first | exact ⟨⟩ | refine Hb.mk fun hb => ?_ | skip)
  all_goals (refine Gg ?_)
  all_goals (first
               | (refine WL.pass rfl rfl rfl ?_)
               | (refine WL.call (vs := [_]) rfl (fun a w => Tryz.call14 a w) rfl (status_v K6.blk) rfl rfl rfl ?_
                  rintro _ hz ⟨rfl, _⟩
                  subst hz))
  all_goals (refine Gg ?_)
  all_goals (refine Go ?_)
  all_goals (refine goP 47 ?_ ?_ <;> first | exact ⟨⟩ | refine Hb.mk fun hb => ?_ | skip)
  all_goals (refine Gg ?_)
  all_goals (first
               | (refine WL.pass rfl rfl rfl ?_)
               | (refine WL.call (vs := [_]) rfl (fun a w => Tryz.call10 a w) rfl (names_v K6.blk K6.stm (by decide)) rfl rfl rfl ?_
                  rintro v7 h7 ⟨N, hN, ho7, hx7⟩
                  obtain rfl : N = [([97] : List UInt8)] := List.perm_singleton.1 hN
                  rw [show srtS [([97] : List UInt8)] = [([97] : List UInt8)] by simp [srtS]] at ho7))
  all_goals (first
               | (refine WL.pass rfl rfl rfl ?_)
               | (refine WL.stepR (okE_buildSlice (vs := [_]) (cs := [_]) (fun | [a0] => [a0] | _ => []) Tryz.underlying37 rfl rfl (by kernel_rfl)) rfl rfl rfl ?_
                  rintro _ h8 ⟨b8, rfl, hg8, hb8, hx8⟩))
  all_goals (first
               | (refine WL.pass rfl rfl rfl ?_)
               | (refine WL.call (vs := [_, _]) rfl (fun a w => Tryz.call15 a w) rfl (equal_str [([97] : List UInt8)] [([97] : List UInt8)] (ho7.rd.ext0 hx8) (rd_blk hb8 rfl) (by decide) (by decide)) rfl rfl rfl ?_
                  rintro _ hz ⟨rfl, e9⟩
                  subst e9))
  all_goals (refine Go ?_)
  all_goals (refine Gs [(0, _)] ?_)
  all_goals (refine Gt ?_)
  all_goals (exact ⟨rfl, (X6.trans hx7).trans hx8⟩)
end Go.Proofs.YtbhneapeibggnaaGreatDoor


/-
  SESSIONS (layer 30): what the library's variables hold when a law is called.
-/
namespace Go.Proofs.YtbhneapeibggnaaGreatDoor
open Go Go.RK

def laidP : List (String × DataW Unit) := Rows.sessNobodyRow.laid.filter fun x => x.2.handleName?.isNone
/-- A world in which the one handle is laid. -/
noncomputable def handWorld (os : Os) : World :=
  let w0 := World.holding Tryz.prog os ⟨#[], #[], []⟩
  { w0 with heap := w0.heap.modify 0 fun
      | .cells _ t frozen => .cells #[.iface 164 (.agg #[.pointer (some ⟨4, 56, none⟩)])] t frozen
      | o => o }
noncomputable def laidWorld (os : Os) : World := (handWorld os).layVars Tryz.prog laidP
theorem laidWorld_os (os : Os) : (laidWorld os).os = os := World.layVars_os _ _ _
theorem laidWorld_met (os : Os) (args : Array Value) : laidMetH Tryz.prog Rows.sessNobodyRow.laid ((laidWorld os).forCall (fun _ _ => 0) ⟨#[], args, []⟩).memory := by
  have e1 : (laidP.filter fun x => (laidP.map (·.1)).contains x.1) = laidP := List.filter_eq_self.2 fun x hx => List.contains_iff_mem.2 (List.mem_map.2 ⟨x, hx, rfl⟩)
  have e2 : (laidP.filter fun x => !(laidP.map (·.1)).contains x.1) = [] := List.filter_eq_nil_iff.2 fun x hx => by rw [List.contains_iff_mem.2 (List.mem_map.2 ⟨x, hx, rfl⟩)]; simp
  have h : laidMet Tryz.prog laidP (laidWorld os) := laidMet_layVars (w0 := handWorld os) (laidP.map (·.1)) [] (by rw [e1]; rfl) (by rw [e1]; kernel_rfl) (by rw [e1]; kernel_rfl) (by rw [e2]; exact LaidIn.none)
  exact laidMetH_of_parts (h.of_heap (by simp [World.memory, World.forCall, Input.heap])) (by kernel_rfl)
end Go.Proofs.YtbhneapeibggnaaGreatDoor


