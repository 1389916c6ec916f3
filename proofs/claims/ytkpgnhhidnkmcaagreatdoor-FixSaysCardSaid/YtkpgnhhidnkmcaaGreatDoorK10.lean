/-
  MORE OPERATIONS: a slice cut with a bound on its capacity, clear, min and max. No program is named here.
-/
import Derived.Test.YtkpgnhhidnkmcaaGreatDoorK9
namespace Go.RK
open Go

section
variable {P : Program} {f : Fr} {h : Heap} {d : Option Tmp} {ty : TypeId} {pos : String} {af : Array Edge} {g : Option (Nat × Bool)}
theorem ok_slice_lhm {t e : TypeId} {x lo hi mx : Operand} {A : Option Addr} {n c sz : Nat} {l k m : Int} (ht : P.underlying t = some (.slice e)) (hz : ∀ w, (sizeOf e).run P w = .ok sz w) (hx : f.ev x = some (.slice A n c)) (hlo : f.ev lo = some (In l)) (hhi : f.ev hi = some (In k)) (hmx : f.ev mx = some (In m)) (h0 : 0 ≤ l ∧ l ≤ k ∧ k ≤ m ∧ m ≤ c) :
    OkP P f ⟨d, .slice t x (some lo) (some hi) (some mx), ty, pos, af, g⟩ h (.slice (if m.toNat = l.toNat then A else A.map (·.add (l.toNat * sz))) (k.toNat - l.toNat) (m.toNat - l.toNat)) :=
  fun ρ w ha _ => by
    have e : (k.toNat : Int) = k := Int.toNat_of_nonneg (by omega)
    have e' : (m.toNat : Int) = m := Int.toNat_of_nonneg (by omega)
    have e1 : (0 ≤ l ∧ l ≤ k) := ⟨h0.1, h0.2.1⟩
    have e2 : (0 ≤ k ∧ k ≤ m) := ⟨by omega, h0.2.2.1⟩
    have e3 : (0 ≤ m ∧ m ≤ (c : Int)) := ⟨by omega, h0.2.2.2⟩
    simp [execOp, ha _ _ hx, ha _ _ hlo, ha _ _ hhi, ha _ _ hmx, Instr.sliceAt, Instr.slice, run_underlying ht, Instr.sliceBounds, Instr.sliceBound, asIntOf, e1, e2, e3, e, e', hz]
theorem ok_slice_hm {t e : TypeId} {x hi mx : Operand} {A : Option Addr} {n c sz : Nat} {k m : Int} (ht : P.underlying t = some (.slice e)) (hz : ∀ w, (sizeOf e).run P w = .ok sz w) (hx : f.ev x = some (.slice A n c)) (hhi : f.ev hi = some (In k)) (hmx : f.ev mx = some (In m)) (h0 : 0 ≤ k ∧ k ≤ m ∧ m ≤ c) :
    OkP P f ⟨d, .slice t x Option.none (some hi) (some mx), ty, pos, af, g⟩ h (.slice A k.toNat m.toNat) :=
  fun ρ w ha _ => by
    have e' : (m.toNat : Int) = m := Int.toNat_of_nonneg (by omega)
    have e2 : (0 ≤ k ∧ k ≤ m) := ⟨h0.1, h0.2.1⟩
    have e3 : (0 ≤ m ∧ m ≤ (c : Int)) := ⟨by omega, h0.2.2⟩
    have e4 : (if m.toNat = 0 then A else A.map (·.add (0 * sz))) = A := by
      split
      · rfl
      · cases A <;> simp [Addr.add_zero']
    simp [execOp, ha _ _ hx, ha _ _ hhi, ha _ _ hmx, Instr.sliceAt, Instr.slice, run_underlying ht, Instr.sliceBounds, Instr.sliceBound, asIntOf, e2, e3, e', hz] at e4 ⊢
    exact e4
theorem ok_slice_hN {t e : TypeId} {x hi : Operand} {A : Option Addr} {n c sz k : Nat} (ht : P.underlying t = some (.slice e)) (hz : ∀ w, (sizeOf e).run P w = .ok sz w) (hx : f.ev x = some (.slice A n c)) (hhi : f.ev hi = some (In (k : Int))) (h0 : k ≤ c) :
    OkP P f ⟨d, .slice t x Option.none (some hi) Option.none, ty, pos, af, g⟩ h (.slice A k c) := ok_slice_h ht hz hx hhi ⟨by omega, by omega⟩
theorem ok_slice_lN {t e : TypeId} {x lo : Operand} {A : Option Addr} {n c sz l : Nat} (ht : P.underlying t = some (.slice e)) (hz : ∀ w, (sizeOf e).run P w = .ok sz w) (hx : f.ev x = some (.slice A n c)) (hlo : f.ev lo = some (In (l : Int))) (h0 : l ≤ n) :
    OkP P f ⟨d, .slice t x (some lo) Option.none Option.none, ty, pos, af, g⟩ h (.slice (if c = l then A else A.map (·.add (l * sz))) (n - l) (c - l)) := ok_slice_l ht hz hx hlo ⟨by omega, by omega⟩
theorem ok_slice_lS {t e : TypeId} {x lo : Operand} {A : Option Addr} {n c sz l : Nat} (ht : P.underlying t = some (.slice e)) (hz : ∀ w, (sizeOf e).run P w = .ok sz w) (hx : f.ev x = some (.slice A n c)) (hlo : f.ev lo = some (In ((l : Int) + 1))) (h0 : l + 1 ≤ n) :
    OkP P f ⟨d, .slice t x (some lo) Option.none Option.none, ty, pos, af, g⟩ h (.slice (if c = l + 1 then A else A.map (·.add ((l + 1) * sz))) (n - (l + 1)) (c - (l + 1))) := ok_slice_lN (l := l + 1) ht hz hx (by simpa using hlo) h0
theorem ok_slice_hmN {t e : TypeId} {x hi mx : Operand} {A : Option Addr} {n c sz k m : Nat} (ht : P.underlying t = some (.slice e)) (hz : ∀ w, (sizeOf e).run P w = .ok sz w) (hx : f.ev x = some (.slice A n c)) (hhi : f.ev hi = some (In (k : Int))) (hmx : f.ev mx = some (In (m : Int))) (h0 : k ≤ m ∧ m ≤ c) :
    OkP P f ⟨d, .slice t x Option.none (some hi) (some mx), ty, pos, af, g⟩ h (.slice A k m) := ok_slice_hm ht hz hx hhi hmx ⟨by omega, by omega, by omega⟩
theorem ok_slice_lhN {t e : TypeId} {x lo hi : Operand} {A : Option Addr} {n c sz l k : Nat} (ht : P.underlying t = some (.slice e)) (hz : ∀ w, (sizeOf e).run P w = .ok sz w) (hx : f.ev x = some (.slice A n c)) (hlo : f.ev lo = some (In (l : Int))) (hhi : f.ev hi = some (In (k : Int))) (h0 : l ≤ k ∧ k ≤ c) :
    OkP P f ⟨d, .slice t x (some lo) (some hi) Option.none, ty, pos, af, g⟩ h (.slice (if c = l then A else A.map (·.add (l * sz))) (k - l) (c - l)) := ok_slice_lh ht hz hx hlo hhi ⟨by omega, by omega, by omega⟩
theorem ok_min2 {x y : Operand} {k : IntKind} {a b : Int} {ts : Array TypeId} (hx : f.ev x = some (.int k a)) (hy : f.ev y = some (.int k b)) :
    OkP P f ⟨d, .call { callee := .builtin .min, args := #[x, y], argTypes := ts }, ty, pos, af, g⟩ h (.int k (if b < a then b else a)) :=
  fun ρ w ha _ => by simp [execOp, resolve, invoke, builtin, ha _ _ hx, ha _ _ hy, Builtin.min_, Builtin.min2]
theorem ok_max2 {x y : Operand} {k : IntKind} {a b : Int} {ts : Array TypeId} (hx : f.ev x = some (.int k a)) (hy : f.ev y = some (.int k b)) :
    OkP P f ⟨d, .call { callee := .builtin .max, args := #[x, y], argTypes := ts }, ty, pos, af, g⟩ h (.int k (if a < b then b else a)) :=
  fun ρ w ha _ => by simp [execOp, resolve, invoke, builtin, ha _ _ hx, ha _ _ hy, Builtin.max_, Builtin.max2]

theorem okE_clear {t e : TypeId} {x : Operand} {A : Option Addr} {b o k c : Nat} {cs : List Value} {z : Value} {ts : Array TypeId} (hts : ts = #[t]) (hu : P.underlying t = some (.slice e)) (hz : ∀ w, (zeroValue e).run P w = .ok z w) (hx : f.ev x = some (.slice A k c)) (hA : A = some ⟨b, o, Option.none⟩) (hk : 0 < k)
    (hb : h[b]? = some (.cells ⟨cs⟩ e (0, 0))) (ho : o + k * z.cells.size ≤ cs.length) (h1z : z.cells.all (·.oneCell') = true) :
    OkR P f ⟨d, .call { callee := .builtin .clear, args := #[x], argTypes := ts }, ty, pos, af, g⟩ h
      (fun _ h' => ∃ cs', h'[b]? = some (.cells ⟨cs'⟩ e (0, 0)) ∧ cs'.length = cs.length ∧ (∀ j, j ≤ o → cs'.take j = cs.take j) ∧ Ext (fun k => k = b) h h') :=
  fun ρ w ha hw => by
    subst hts
    subst hw
    subst hA
    have h1 : ∀ v ∈ (Builtin.zeroCells z.cells k).toList, v.oneCell' = true := by
      intro v hv
      simp only [Builtin.zeroCells, Array.toList_map, List.mem_map, Array.toList_range, List.mem_range] at hv
      obtain ⟨i, hi, rfl⟩ := hv
      have hp : 0 < z.cells.size := by
        rcases Nat.eq_zero_or_pos z.cells.size with e | e
        · rw [e] at hi; omega
        · exact e
      have hlt : i % z.cells.size < z.cells.size := Nat.mod_lt _ hp
      rw [getElem!_pos z.cells _ hlt]
      exact Array.all_eq_true.1 h1z _ hlt
    have hl : (Builtin.zeroCells z.cells k).toList.length = k * z.cells.size := by simp [Builtin.zeroCells]
    obtain ⟨w', hr, hs, hh⟩ := run_storeCells_block (P := P) b e (Builtin.zeroCells z.cells k).toList 0 o cs w hb (by rw [hl]; omega) h1
    refine ⟨.tuple #[], w', hs, ⟨_, by rw [hh]; exact set_new hb, ?_, ?_, by rw [hh]; exact .set _ _ _ rfl⟩, .inl ?_⟩
    · simp only [Nat.add_zero, List.length_append, List.length_take, List.length_drop, hl]; omega
    · intro j hj
      simp only [Nat.add_zero, List.append_assoc]
      rw [List.take_append_of_le_length (by simp; omega), List.take_take]
      congr 1
      omega
    · cases k with
      | zero => omega
      | succ k => simp [execOp, resolve, invoke, builtin, ha _ _ hx, Builtin.clear_, run_underlying hu, hz, hr]
/-- append(s, x...) where there is room: it goes into s's own row. -/
theorem okE_appendR {x y : Operand} {t e : TypeId} {i : TypeInfo} {sz : Nat} {ts : Array TypeId} (hts : ts = #[t, t]) (ht : P.underlying t = some (.slice e)) (hi : P.info? e = some i) (hsz : i.size = sz)
    {u : Value} {b n c m : Nat} {cs news : List Value} (hx : f.ev x = some (.slice (some ⟨b, 0, Option.none⟩) n c)) (hy : f.ev y = some u) (hb : h[b]? = some (.cells ⟨cs⟩ e (0, 0))) (hcs : cs.length = c * sz) (hrd : Rd h u sz m news) (h1 : ∀ c ∈ news, c.oneCell' = true) (hroom : n + m ≤ c) :
    OkR P f ⟨d, .call { callee := .builtin .append, args := #[x, y], argTypes := ts }, ty, pos, af, g⟩ h
      (fun v' h' => v' = .slice (some ⟨b, 0, Option.none⟩) (n + m) c ∧ h'[b]? = some (.cells ⟨cs.take (n * sz) ++ news ++ cs.drop ((n + m) * sz)⟩ e (0, 0)) ∧ Ext (fun k => k = b) h h') :=
  fun ρ w ha hw => by
    subst hw
    subst hts
    subst hsz
    obtain ⟨A, c', rfl, hc, hl, hp⟩ := hrd
    have hfit : n * i.size + news.length ≤ cs.length := by rw [hl, hcs, ← Nat.add_mul]; exact Nat.mul_le_mul_right _ hroom
    rcases A with _ | a
    · have hm : m = 0 := by
        rcases Nat.eq_zero_or_pos m with e | e
        · exact e
        · obtain ⟨b, o, e, _⟩ := hp e; cases e
      subst hm
      obtain rfl : news = [] := List.eq_nil_of_length_eq_zero (by simpa using hl)
      refine ⟨_, w, .refl w, ⟨rfl, by simpa using hb, .refl _ _⟩, .inl ?_⟩
      have hn : n ≤ c := by omega
      simp [execOp, resolve, invoke, builtin, ha _ _ hx, ha _ _ hy, Builtin.append_, run_underlying ht, sizeOf, typeInfo, hi, Builtin.lenOf, Builtin.firstCells, hn, storeCells]
    · have hnews : ∀ j u, news[j]? = some u → w.cell? (a.add j) = some u := by
        intro j u hj
        have hm : 0 < m := by
          rcases Nat.eq_zero_or_pos m with e | e
          · subst e
            have : news = [] := List.eq_nil_of_length_eq_zero (by simpa using hl)
            subst this
            simp at hj
          · exact e
        obtain ⟨b, o, e, _, hat⟩ := hp hm
        injection e with e
        subst e
        rw [Addr.add_lit]
        exact hat j u hj
      have hr := run_append_room (P := P) w t ty e i ht hi b n c ⟨cs⟩ hb a m c' news hl hnews h1 hroom (by simpa using hfit)
      refine ⟨_, w.setRow b (cs.take (n * i.size) ++ news ++ cs.drop (n * i.size + news.length)).toArray, ⟨rfl, rfl, rfl, trivial⟩, ⟨rfl, ?_, ⟨by simp [World.setRow], fun k _ hk => setRow_other w b k _ (fun e => hk (by omega))⟩⟩, .inl (by simp only [execOp, resolve, invoke, builtin, Sem.run_bind, Sem.run_pure, Result.andThen_ok, List.map_toArray, List.map_cons, List.map_nil, ha _ _ hx, ha _ _ hy, hr])⟩
      have e1 : n * i.size + news.length = (n + m) * i.size := by rw [hl, Nat.add_mul]
      rw [setRow_heap w b ⟨cs⟩ _ e _ hb, e1]
theorem Rd.drop {A : Option Addr} {n c sz l : Nat} {xs : List Value} (r : Rd h (.slice A n c) sz n xs) (hl : l ≤ n) :
    Rd h (.slice (if c = l then A else A.map (·.add (l * sz))) (n - l) (c - l)) sz (n - l) (xs.drop (l * sz)) := by
  obtain ⟨A', c', e, r'⟩ := sliced_Rd r hl (Nat.le_refl n)
  simp only [Value.slice.injEq] at e
  obtain ⟨rfl, _, rfl⟩ := e
  rwa [List.take_of_length_le (by
    obtain ⟨_, _, _, _, hlen, _⟩ := r
    rw [List.length_drop, hlen, ← Nat.sub_mul]
    exact Nat.le_refl _)] at r'
theorem Rd.take {A : Option Addr} {n c sz k : Nat} {xs : List Value} (r : Rd h (.slice A n c) sz n xs) (hk : k ≤ n) : Rd h (.slice A k c) sz k (xs.take (k * sz)) := by
  obtain ⟨A', c', e, hc, hlen, hp⟩ := r
  simp only [Value.slice.injEq] at e
  obtain ⟨rfl, _, rfl⟩ := e
  refine ⟨A, c, rfl, by omega, ?_, fun hn => ?_⟩
  · rw [List.length_take, hlen]; exact Nat.min_eq_left (Nat.mul_le_mul_right _ hk)
  · obtain ⟨b, o, e, hb, hat⟩ := hp (by omega)
    exact ⟨b, o, e, hb, hat.take _⟩
theorem Own.block {v : Value} {e : TypeId} {sz n : Nat} {xs : List Value} (r : Own h v e sz n xs) (hn : 0 < n) : ∃ b c cs, v = .slice (some ⟨b, 0, Option.none⟩) n c ∧ h[b]? = some (.cells ⟨cs⟩ e (0, 0)) ∧ n ≤ c ∧ c ≤ maxLen ∧ cs.length = c * sz ∧ cs.take (n * sz) = xs := by
  obtain ⟨hl, ⟨rfl, rfl⟩ | ⟨b, c, cur, rfl, hb, h1, h2, h3, h4⟩⟩ := r
  · omega
  · exact ⟨b, c, cur.toList, rfl, hb, h1, h2, by simpa using h3, h4⟩
theorem Own.of_block {b c sz n : Nat} {cs : List Value} {e : TypeId} {xs : List Value} (hb : h[b]? = some (.cells ⟨cs⟩ e (0, 0))) (hn : n ≤ c) (hm : c ≤ maxLen) (hl : cs.length = c * sz) (hx : cs.take (n * sz) = xs) : Own h (.slice (some ⟨b, 0, Option.none⟩) n c) e sz n xs := by
  refine ⟨?_, .inr ⟨b, c, ⟨cs⟩, rfl, hb, hn, hm, by simpa using hl, hx⟩⟩
  rw [← hx, List.length_take, hl]
  exact Nat.min_eq_left (Nat.mul_le_mul_right _ hn)
theorem fresh_of {h : Heap} {v v' : Value} (hl : v'.ownBlock = v.ownBlock ∨ v'.ownBlock = some h.size) {B : Nat} (hv : ∀ k, v.ownBlock = some k → B ≤ k) (hB : B ≤ h.size) : ∀ k, v'.ownBlock = some k → B ≤ k := by
  intro k hk
  rcases hl with e | e
  · exact hv k (e ▸ hk)
  · rw [e] at hk; injection hk with hk; omega
end
end Go.RK
