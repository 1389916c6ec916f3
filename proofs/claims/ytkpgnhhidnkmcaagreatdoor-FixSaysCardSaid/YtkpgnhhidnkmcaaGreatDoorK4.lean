/-
  MEMORY: THE RULES OF THE OPERATIONS THAT READ, WRITE AND MAKE IT; ENTRY AND RETURN; REGIONS THAT DRAW. No program is named here.
-/
import Derived.Test.YtkpgnhhidnkmcaaGreatDoorK3
import Derived.Deep.AppendLies
namespace Go.RK
open Go

section
variable {P : Program} {f : Fr} {h : Heap} {d : Option Tmp} {ty : TypeId} {pos : String} {af : Array Edge} {g : Option (Nat × Bool)}

/-! ### loads -/
theorem ok_load {t : TypeId} {x : Operand} {b o : Nat} {v : Value} (ht : ∀ w, (isAgg t).run P w = .ok false w) (hx : f.ev x = some (.pointer (some ⟨b, o, Option.none⟩))) (hc : cell h ⟨b, o, Option.none⟩ = some v) :
    OkP P f ⟨d, .load t x, ty, pos, af, g⟩ h v :=
  fun ρ w ha hw => by
    subst hw
    have h1 : w.cell? ⟨b, o, Option.none⟩ = some v := hc
    simp [execOp, ha _ _ hx, Instr.loadAt, Instr.sureAddr, loadVar, ht, h1]
theorem ok_loadN {t : TypeId} {x : Operand} {b o k : Nat} {vs : List Value} (ht : ∀ w, (isAgg t).run P w = .ok true w) (hz : ∀ w, (sizeOf t).run P w = .ok k w) (hx : f.ev x = some (.pointer (some ⟨b, o, Option.none⟩))) (hk : vs.length = k) (hc : At h b o vs) :
    OkP P f ⟨d, .load t x, ty, pos, af, g⟩ h (.agg ⟨vs⟩) :=
  fun ρ w ha hw => by
    subst hw
    subst hk
    have h1 : (loadCells ⟨b, o, Option.none⟩ vs.length).run P w = .ok vs.toArray w := run_loadCells_list w _ vs fun j v hj => by rw [Addr.add_lit]; exact hc j v hj
    simp [execOp, ha _ _ hx, Instr.loadAt, Instr.sureAddr, loadVar, ht, hz, h1]

/-! ### stores -/
theorem run_store_block {w : World} {b o : Nat} {cs : Array Value} {e : TypeId} {v : Value} (hb : w.heap[b]? = some (.cells cs e (0, 0))) (ho : o < cs.size) (hv : v.oneCell' = true) :
    ∃ w', (store ⟨b, o, Option.none⟩ v).run P w = .ok () w' ∧ Same w w' ∧ w'.heap = w.heap.setIfInBounds b (.cells (cs.setIfInBounds o v) e (0, 0)) := by
  refine ⟨w.setCell ⟨b, o, Option.none⟩ v, ?_, ⟨rfl, rfl, rfl, trivial⟩, ?_⟩
  · rw [run_store P w _ _ _ hv]
    have h1 : w.cell? ⟨b, o, Option.none⟩ = some cs[o] := by simp [World.cell?, hb, ho]
    have h2 : w.frozen? ⟨b, o, Option.none⟩ = false := by simp [World.frozen?, hb]
    simp [h1, h2]
  · obtain ⟨hlt, hv⟩ := Array.getElem?_eq_some_iff.1 hb
    apply Array.ext_getElem?
    intro i
    simp only [World.setCell, Array.getElem?_modify]
    by_cases e1 : b = i
    · subst e1; simp [hlt, hv]
    · simp [e1, Array.getElem?_setIfInBounds_ne e1]
/-- A store of one cell into a block that is known. -/
theorem ok_store {t : TypeId} {x y : Operand} {b o : Nat} {cs : List Value} {e : TypeId} {v : Value} (hz : ∀ w, (sizeOf t).run P w = .ok 1 w) (hx : f.ev x = some (.pointer (some ⟨b, o, Option.none⟩))) (hy : f.ev y = some v)
    (hb : h[b]? = some (.cells ⟨cs⟩ e (0, 0))) (ho : o < cs.length) (hv : v.oneCell' = true) (hv1 : v.cells = #[v]) :
    OkR P f ⟨d, .store t x y, ty, pos, af, g⟩ h (fun u h' => u = undef ∧ h' = h.setIfInBounds b (.cells ⟨cs.set o v⟩ e (0, 0))) :=
  fun ρ w ha hw => by
    subst hw
    obtain ⟨w', hr, hs, hh⟩ := run_store_block (P := P) hb (by simpa using ho) hv
    refine ⟨undef, w', hs, ⟨rfl, by rw [hh]; simp⟩, .inr ⟨?_, rfl⟩⟩
    simp [execOp, ha _ _ hx, ha _ _ hy, Instr.storeAt, Instr.sureAddr, storeVar, hz, hv1, storeCells, Addr.add_zero', hr]

theorem run_storeCells_block (b : Nat) (e : TypeId) : ∀ (vs : List Value) (i o : Nat) (cs : List Value) (w : World), w.heap[b]? = some (.cells ⟨cs⟩ e (0, 0)) → o + i + vs.length ≤ cs.length → (∀ v ∈ vs, v.oneCell' = true) →
    ∃ w', (storeCells ⟨b, o, Option.none⟩ vs i).run P w = .ok () w' ∧ Same w w' ∧ w'.heap = w.heap.setIfInBounds b (.cells ⟨cs.take (o + i) ++ vs ++ cs.drop (o + i + vs.length)⟩ e (0, 0))
  | [], i, o, cs, w, hb, hl, _ => by
    refine ⟨w, by simp [storeCells], .refl w, ?_⟩
    obtain ⟨hlt, hv⟩ := Array.getElem?_eq_some_iff.1 hb
    apply Array.ext_getElem?
    intro j
    by_cases e1 : b = j
    · subst e1; simp [hlt, hv]
    · simp [Array.getElem?_setIfInBounds_ne e1]
  | v :: vs, i, o, cs, w, hb, hl, hv => by
    simp only [List.length_cons] at hl
    obtain ⟨w1, hr, hs, hh⟩ := run_store_block (P := P) (w := w) (b := b) (o := o + i) (cs := ⟨cs⟩) (v := v) hb (by simp; omega) (hv v (by simp))
    have hb1 : w1.heap[b]? = some (.cells ⟨cs.set (o + i) v⟩ e (0, 0)) := by rw [hh, set_new hb]; simp
    obtain ⟨w2, hr2, hs2, hh2⟩ := run_storeCells_block b e vs (i + 1) o (cs.set (o + i) v) w1 hb1 (by rw [List.length_set]; omega) (fun u hu => hv u (by simp [hu]))
    refine ⟨w2, ?_, hs.trans hs2, ?_⟩
    · simp only [storeCells, Addr.add_lit, Sem.run_bind, hr, Result.andThen_ok]
      exact hr2
    · rw [hh2, hh]
      have hlt := lt_of_some hb
      apply Array.ext_getElem?
      intro j
      by_cases e1 : b = j
      · subst e1
        simp only [Array.getElem?_setIfInBounds_self, Array.size_setIfInBounds, hlt, if_true]
        congr 3
        have e3 : o + (i + 1) = o + i + 1 := by omega
        have e4 : o + i + 1 + vs.length = o + i + (vs.length + 1) := by omega
        rw [e3, List.length_cons, List.take_set, List.drop_set_of_lt (by omega), e4]
        have : List.take (o + i + 1) cs = List.take (o + i) cs ++ [cs[o + i]'(by omega)] := by rw [List.take_succ_eq_append_getElem (by omega)]
        rw [this, List.set_append_right _ _ (by simp; omega)]
        simp only [List.length_take]
        have e5 : o + i - min (o + i) cs.length = 0 := by omega
        simp [e5]
      · simp [Array.getElem?_setIfInBounds_ne e1]
theorem ok_storeN {t : TypeId} {x y : Operand} {b o k : Nat} {cs vs : List Value} {e : TypeId} (hz : ∀ w, (sizeOf t).run P w = .ok k w) (hx : f.ev x = some (.pointer (some ⟨b, o, Option.none⟩))) (hy : f.ev y = some (.agg ⟨vs⟩))
    (hk : vs.length = k) (hb : h[b]? = some (.cells ⟨cs⟩ e (0, 0))) (ho : o + vs.length ≤ cs.length) (hv : ∀ v ∈ vs, v.oneCell' = true) :
    OkR P f ⟨d, .store t x y, ty, pos, af, g⟩ h (fun u h' => u = undef ∧ h' = h.setIfInBounds b (.cells ⟨cs.take o ++ vs ++ cs.drop (o + vs.length)⟩ e (0, 0))) :=
  fun ρ w ha hw => by
    subst hw
    obtain ⟨w', hr, hs, hh⟩ := run_storeCells_block (P := P) b e vs 0 o cs w hb (by omega) hv
    refine ⟨undef, w', hs, ⟨rfl, by rw [hh]; simp⟩, .inr ⟨?_, rfl⟩⟩
    have hc : (Value.agg ⟨vs⟩).cells = ⟨vs⟩ := rfl
    simp [execOp, ha _ _ hx, ha _ _ hy, Instr.storeAt, Instr.sureAddr, storeVar, hz, hc, hk, hr]

/-! ### new blocks -/
theorem ok_alloc {t : TypeId} {z : Value} (hz : ∀ w, (zeroValue t).run P w = .ok z w) :
    OkR P f ⟨d, .alloc t, ty, pos, af, g⟩ h (fun u h' => u = .pointer (some ⟨h.size, 0, Option.none⟩) ∧ h' = h.push (.cells z.cells t (0, 0))) :=
  fun ρ w _ hw => by
    subst hw
    refine ⟨_, w.alloc (.cells z.cells t (0, 0)), ⟨rfl, rfl, rfl, trivial⟩, ⟨rfl, rfl⟩, .inl ?_⟩
    simp [execOp, Instr.alloc, hz, newVar, newRow, newObj, Sem.run]
theorem ok_box {t : TypeId} {x : Operand} {v : Value} (hx : f.ev x = some v) :
    OkR P f ⟨d, .box t x, ty, pos, af, g⟩ h (fun u h' => u = .pointer (some ⟨h.size, 0, Option.none⟩) ∧ h' = h.push (.cells v.cells t (0, 0))) :=
  fun ρ w ha hw => by
    subst hw
    refine ⟨_, w.alloc (.cells v.cells t (0, 0)), ⟨rfl, rfl, rfl, trivial⟩, ⟨rfl, rfl⟩, .inl ?_⟩
    simp [execOp, ha _ _ hx, Instr.box, newVar, newRow, newObj, Sem.run]
/-- A struct or an array out of its parts: the parts' values; what comes of it is reckoned off the program's table. -/
theorem ok_build {t : TypeId} {ps : List (Nat × Operand)} {qs : List (Nat × Value)} {cs : List Value} (hp : ps.map (fun p => (p.1, f.ev p.2)) = qs.map fun q => (q.1, some q.2)) (hb : P.built t qs = some ⟨cs⟩) :
    OkP P f ⟨d, .build t ⟨ps⟩, ty, pos, af, g⟩ h (.agg ⟨cs⟩) :=
  fun ρ w ha _ => by
    have e : ps.map (fun p => (p.1, ρ p.2)) = qs := by
      clear hb
      induction ps generalizing qs with
      | nil => cases qs <;> simp_all
      | cons p ps ih =>
        cases qs with
        | nil => simp at hp
        | cons q qs =>
          simp only [List.map_cons, List.cons.injEq, Prod.mk.injEq] at hp ⊢
          refine ⟨?_, ih hp.2⟩
          rw [hp.1.1, ha _ _ hp.1.2]
    have e2 : (Array.map (fun x : Nat × Operand => (x.fst, ρ x.snd)) ⟨ps⟩) = ⟨qs⟩ := by rw [← e]; simp
    have := run_build (P := P) w t ⟨qs⟩ ⟨cs⟩ hb
    simp [execOp, e2, this]
theorem ok_makeMap {t : TypeId} :
    OkR P f ⟨d, .makeMap t Option.none, ty, pos, af, g⟩ h (fun u h' => u = .map (some h.size) ∧ h' = h.push (.map #[] 0)) :=
  fun ρ w _ hw => by
    subst hw
    refine ⟨_, w.alloc (.map #[] 0), ⟨rfl, rfl, rfl, trivial⟩, ⟨rfl, rfl⟩, .inl ?_⟩
    simp [execOp, Instr.makeMap, newObj, Sem.run]
theorem ok_makeFunc {fn : Fn} {xs ys : List Operand} {vs us : List Value} (hx : xs.map f.ev = vs.map some) (hy : ys.map f.ev = us.map some) :
    OkP P f ⟨d, .makeFunc fn ⟨xs⟩ ⟨ys⟩, ty, pos, af, g⟩ h (.func fn ⟨vs⟩ ⟨us⟩) :=
  fun ρ w ha _ => by
    have key : ∀ (xs : List Operand) (vs : List Value), xs.map f.ev = vs.map some → xs.map ρ = vs := by
      intro xs
      induction xs with
      | nil => intro vs hv; cases vs <;> simp_all
      | cons x xs ih =>
        intro vs hv
        cases vs with
        | nil => simp at hv
        | cons v vs =>
          simp only [List.map_cons, List.cons.injEq] at hv ⊢
          exact ⟨ha _ _ hv.1, ih _ hv.2⟩
    have e1 : Array.map ρ ⟨xs⟩ = ⟨vs⟩ := by rw [← key xs vs hx]; simp
    have e2 : Array.map ρ ⟨ys⟩ = ⟨us⟩ := by rw [← key ys us hy]; simp
    simp [execOp, e1, e2, Instr.makeFunc]

/-! ### append onto a row of one's own -/
theorem Own.up {v : Value} {e : TypeId} {sz n : Nat} {xs : List Value} {w : World} (r : Own w.heap v e sz n xs) : w.ownsRow 0 e sz v n xs := by
  obtain ⟨hl, r | ⟨g, cap, cur, rfl, hg, r⟩⟩ := r
  · exact ⟨hl, .inl r⟩
  · exact ⟨hl, .inr ⟨g, cap, cur, rfl, Nat.zero_le _, hg, r⟩⟩
theorem Own.down {v : Value} {e : TypeId} {sz n : Nat} {xs : List Value} {w : World} (r : w.ownsRow 0 e sz v n xs) : Own w.heap v e sz n xs := by
  obtain ⟨hl, r | ⟨g, cap, cur, rfl, _, hg, r⟩⟩ := r
  · exact ⟨hl, .inl r⟩
  · exact ⟨hl, .inr ⟨g, cap, cur, rfl, hg, r⟩⟩

/-- append(s, x...): s nil or at the head of a row of its own; x reads as news. -/
theorem ok_append {x y : Operand} {t e : TypeId} {i : TypeInfo} {z : Value} {sz bytes : Nat} {ts : Array TypeId} (hts : ts = #[t, t]) (ht : P.underlying t = some (.slice e)) (hi : P.info? e = some i) (hz : i.zero = some z) (hsz : i.size = sz) (hby : i.bytes = bytes) (hzs : z.cells.size = sz) (hpos : 0 < sz)
    {v u : Value} {n m : Nat} {xs news : List Value} (hx : f.ev x = some v) (hy : f.ev y = some u) (hown : Own h v e sz n xs) (hrd : Rd h u sz m news) (h1 : ∀ c ∈ news, c.oneCell' = true)
    (h63 : n + m ≤ maxLen) (hb : (n + m) * bytes ≤ 140737488355328) :
    OkR P f ⟨d, .call { callee := .builtin .append, args := #[x, y], argTypes := ts }, ty, pos, af, g⟩ h
      (fun v' h' => Own h' v' e sz (n + m) (xs ++ news) ∧ Ext (fun k => v.ownBlock = some k) h h' ∧ (v'.ownBlock = v.ownBlock ∨ v'.ownBlock = some h.size)) :=
  fun ρ w ha hw => by
    subst hw
    subst hts
    obtain ⟨A, c, rfl, hc, hl, hp⟩ := hrd
    rcases A with _ | a
    · have hm : m = 0 := by
        rcases Nat.eq_zero_or_pos m with e | e
        · exact e
        · obtain ⟨b, o, e, _⟩ := hp e; cases e
      subst hm
      obtain rfl : news = [] := List.eq_nil_of_length_eq_zero (by simpa using hl)
      refine ⟨v, w, .refl w, ⟨by simpa using hown, .refl _ _, .inl rfl⟩, .inl ?_⟩
      obtain ⟨hl2, ⟨rfl, rfl⟩ | ⟨g, cap, cur, rfl, hg, hn, r⟩⟩ := hown
      · simp [execOp, resolve, invoke, builtin, ha _ _ hx, ha _ _ hy, Builtin.append_, run_underlying ht, sizeOf, typeInfo, hi, Builtin.lenOf, Builtin.firstCells]
      · simp [execOp, resolve, invoke, builtin, ha _ _ hx, ha _ _ hy, Builtin.append_, run_underlying ht, sizeOf, typeInfo, hi, Builtin.lenOf, Builtin.firstCells, hn, storeCells]
    · have hnews : ∀ j u, news[j]? = some u → w.cell? (a.add j) = some u := by
        intro j u hj
        have hm : 0 < m := by
          rcases Nat.eq_zero_or_pos m with e | e
          · subst e
            have : news = [] := List.eq_nil_of_length_eq_zero (by simpa using hl)
            subst this
            simp at hj
          · exact e
        obtain ⟨b, o, e, _, hat⟩ := hp hm
        injection e with e
        subst e
        rw [Addr.add_lit]
        exact hat j u hj
      obtain ⟨v', w', hrun, ho', hgr, _, hloc⟩ := run_append_own_at (P := P) w 0 t ty e i z sz bytes ht hi hz hsz hby hzs hpos v n xs hown.up a m c news hl hnews h1 h63 hb (Nat.zero_le _)
      refine ⟨v', w', ⟨hgr.tape, hgr.os, hgr.output, trivial⟩, ⟨.down ho', ⟨hgr.size, fun k hk hS => hgr.block k hk (fun e => hS e.symm)⟩, hloc⟩, .inl ?_⟩
      simp [execOp, resolve, invoke, builtin, ha _ _ hx, ha _ _ hy, hrun]

/-! ### a slice, cut -/
theorem sliced_Rd {v : Value} {sz n : Nat} {xs : List Value} (r : Rd h v sz n xs) {l k : Nat} (hl : l ≤ k) (hk : k ≤ n) :
    ∃ A c, v = .slice A n c ∧ Rd h (.slice (if c = l then A else A.map (·.add (l * sz))) (k - l) (c - l)) sz (k - l) ((xs.drop (l * sz)).take ((k - l) * sz)) := by
  obtain ⟨A, c, rfl, hc, hlen, hp⟩ := r
  refine ⟨A, c, rfl, _, _, rfl, by omega, ?_, fun hn => ?_⟩
  · rw [List.length_take, List.length_drop, hlen, ← Nat.sub_mul]
    exact Nat.min_eq_left (Nat.mul_le_mul_right _ (by omega))
  · obtain ⟨b, o, rfl, hb, hat⟩ := hp (by omega)
    refine ⟨b, o + l * sz, ?_, hb, (hat.drop _).take _⟩
    rw [if_neg (by omega)]
    simp [Addr.add_lit]
theorem ok_slice_lh {t e : TypeId} {x lo hi : Operand} {A : Option Addr} {n c sz : Nat} {l k : Int} (ht : P.underlying t = some (.slice e)) (hz : ∀ w, (sizeOf e).run P w = .ok sz w) (hx : f.ev x = some (.slice A n c)) (hlo : f.ev lo = some (In l)) (hhi : f.ev hi = some (In k)) (h0 : 0 ≤ l ∧ l ≤ k ∧ k ≤ c) :
    OkP P f ⟨d, .slice t x (some lo) (some hi) Option.none, ty, pos, af, g⟩ h (.slice (if c = l.toNat then A else A.map (·.add (l.toNat * sz))) (k.toNat - l.toNat) (c - l.toNat)) :=
  fun ρ w ha _ => by
    have e : (k.toNat : Int) = k := Int.toNat_of_nonneg (by omega)
    have e1 : (0 ≤ l ∧ l ≤ k) := ⟨h0.1, h0.2.1⟩
    have e2 : (0 ≤ k ∧ k ≤ (c : Int)) := ⟨by omega, h0.2.2⟩
    simp [execOp, ha _ _ hx, ha _ _ hlo, ha _ _ hhi, Instr.sliceAt, Instr.slice, run_underlying ht, Instr.sliceBounds, Instr.sliceBound, asIntOf, e1, e2, e, hz]
theorem ok_slice_h {t e : TypeId} {x hi : Operand} {A : Option Addr} {n c sz : Nat} {k : Int} (ht : P.underlying t = some (.slice e)) (hz : ∀ w, (sizeOf e).run P w = .ok sz w) (hx : f.ev x = some (.slice A n c)) (hhi : f.ev hi = some (In k)) (h0 : 0 ≤ k ∧ k ≤ c) :
    OkP P f ⟨d, .slice t x Option.none (some hi) Option.none, ty, pos, af, g⟩ h (.slice A k.toNat c) :=
  fun ρ w ha _ => by
    by_cases hc0 : c = 0
    · subst hc0
      obtain rfl : k = 0 := by omega
      simp [execOp, ha _ _ hx, ha _ _ hhi, Instr.sliceAt, Instr.slice, run_underlying ht, Instr.sliceBounds, Instr.sliceBound, asIntOf, hz]
    · cases A <;> simp [execOp, ha _ _ hx, ha _ _ hhi, Instr.sliceAt, Instr.slice, run_underlying ht, Instr.sliceBounds, Instr.sliceBound, asIntOf, h0, hz, Addr.add_zero']
theorem ok_slice_l {t e : TypeId} {x lo : Operand} {A : Option Addr} {n c sz : Nat} {l : Int} (ht : P.underlying t = some (.slice e)) (hz : ∀ w, (sizeOf e).run P w = .ok sz w) (hx : f.ev x = some (.slice A n c)) (hlo : f.ev lo = some (In l)) (h0 : 0 ≤ l ∧ l ≤ n) :
    OkP P f ⟨d, .slice t x (some lo) Option.none Option.none, ty, pos, af, g⟩ h (.slice (if c = l.toNat then A else A.map (·.add (l.toNat * sz))) (n - l.toNat) (c - l.toNat)) :=
  fun ρ w ha _ => by
    simp [execOp, ha _ _ hx, ha _ _ hlo, Instr.sliceAt, Instr.slice, run_underlying ht, Instr.sliceBounds, Instr.sliceBound, asIntOf, h0, hz]
end
end Go.RK
