/-
  A TEXT APPENDED TO A ROW OF BYTES; unsafe.String of a row of which a text was taken before. No program is named here.
-/
import Derived.Test.YtkpgnhhidnkmcaaGreatDoorK12
import Derived.Lib.AppendStr
namespace Go.RK
open Go

section
variable {P : Program} {f : Fr} {h : Heap} {d : Option Tmp} {ty : TypeId} {pos : String} {af : Array Edge} {g : Option (Nat × Bool)}
theorem okE_appendS {x y : Operand} {t u e : TypeId} {i : TypeInfo} {ts : Array TypeId} (hts : ts = #[t, u]) (ht : P.underlying t = some (.slice e)) (hu : P.underlying u = some .string) (hi : P.info? e = some i) (hz : i.zero = some (.int .u8 0)) (hsz : i.size = 1) (hby : i.bytes = 1)
    {v : Value} {n : Nat} {xs : List Value} {s : List UInt8} (hx : f.ev x = some v) (hy : f.ev y = some (St s)) (hown : Own h v e 1 n xs) (hm : n + s.length ≤ 140737488355328) :
    OkR P f ⟨d, .call { callee := .builtin .append, args := #[x, y], argTypes := ts }, ty, pos, af, g⟩ h
      (fun v' h' => Own h' v' e 1 (n + s.length) (xs ++ bys s) ∧ Ext (fun k => v.ownBlock = some k) h h' ∧ (∀ k, v'.ownBlock = some k → v.ownBlock = some k ∨ h.size ≤ k) ∧ (v' = .slice Option.none 0 0 ↔ v = .slice Option.none 0 0 ∧ s = [])) :=
  fun ρ w ha hw => by
    subst hw
    subst hts
    have hup := hown.up
    have e63 : n + (ByteArray.mk ⟨s⟩).size ≤ maxLen := by show n + s.length ≤ maxLen; unfold maxLen; omega
    obtain ⟨v', w', hr, ho', hgr, hiff⟩ := Lib.run_append_own_string (P := P) w 0 t u ty e i ht hu hi hz hsz hby v n xs hup ⟨⟨s⟩⟩ e63 hm (Nat.zero_le _)
    have hloc : ∀ k, v'.ownBlock = some k → v.ownBlock = some k ∨ w.heap.size ≤ k := by
      intro k hk
      obtain ⟨hl, ⟨rfl, hn0⟩ | ⟨g0, cap, cur, rfl, hg0, hn, hc, hs, htk⟩⟩ := hown
      · have hup2 : w.ownsRow w.heap.size e 1 (.slice Option.none 0 0) n xs := ⟨hl, .inl ⟨rfl, hn0⟩⟩
        obtain ⟨v2, w2, hr2, ho2, _, _⟩ := Lib.run_append_own_string (P := P) w w.heap.size t u ty e i ht hu hi hz hsz hby _ n xs hup2 ⟨⟨s⟩⟩ e63 hm (Nat.le_refl _)
        rw [hr] at hr2
        injection hr2 with e1 e2
        subst e1
        obtain ⟨_, ⟨rfl, _⟩ | ⟨g1, _, _, rfl, hb, _⟩⟩ := ho2
        · cases hk
        · simp only [Value.ownBlock, Option.some.injEq] at hk
          exact .inr (hk ▸ hb)
      · by_cases hroom : n + (ByteArray.mk ⟨s⟩).size ≤ cap
        · have hr2 := Lib.run_append_room_string (P := P) w t u ty e i ht hu hi hsz g0 n cap cur hg0 ⟨⟨s⟩⟩ hroom (by rw [hs]; simpa using hroom)
          rw [hr] at hr2
          injection hr2 with e1 e2
          subst e1
          exact .inl hk
        · have hxl : xs.length = n := by simpa using hl
          have holds := hup.cells (g := g0) rfl
          have hr2 := Lib.run_append_grow_string (P := P) w t u ty e i (.int .u8 0) ht hu hi hz ⟨g0, 0, Option.none⟩ n cap xs (by rw [hsz]; omega) holds ⟨⟨s⟩⟩ (by omega) (by unfold maxLen at e63; omega) (by rw [hby]; exact growslice_fits (by omega) (by show (n + s.length) * 1 ≤ 140737488355328; omega))
          rw [hr] at hr2
          injection hr2 with e1 e2
          subst e1
          simp only [Value.ownBlock, Option.some.injEq] at hk
          exact .inr (by omega)
    refine ⟨v', w', ⟨hgr.tape, hgr.os, hgr.output, trivial⟩, ⟨.down ho', ⟨hgr.size, fun k hk hS => hgr.block k hk (fun e => hS e.symm)⟩, hloc, ?_⟩, .inl ?_⟩
    · rw [hiff]
      constructor
      · rintro ⟨h1, h2⟩
        exact ⟨h1, List.eq_nil_of_length_eq_zero h2⟩
      · rintro ⟨h1, rfl⟩
        exact ⟨h1, rfl⟩
    · simp [execOp, resolve, invoke, builtin, ha _ _ hx, ha _ _ hy, hr]
theorem okE_unsafeStringZ {x y : Operand} {pt it e : TypeId} {b n : Nat} {cs : List Value} {l : List UInt8} {ts : Array TypeId} {z : Nat × Nat} (hts : ts = #[pt, it]) (hp : P.underlying pt = some (.pointer e)) (hc1 : P.cellsOf e = 1) (hx : f.ev x = some (.pointer (some ⟨b, 0, Option.none⟩))) (hy : f.ev y = some (In n)) (hn : l.length = n)
    (hb : h[b]? = some (.cells ⟨cs⟩ e z)) (hcs : cs.take n = bys l) (hm : n ≤ maxLen) :
    OkR P f ⟨d, .call { callee := .builtin .unsafeString, args := #[x, y], argTypes := ts }, ty, pos, af, g⟩ h (fun v h' => v = St l ∧ (∃ z', h'[b]? = some (.cells ⟨cs⟩ e z')) ∧ Ext (fun k => k = b) h h') :=
  fun ρ w ha hw => by
    subst hw
    subst hts
    subst hn
    unfold maxLen at hm
    by_cases h0 : l = []
    · subst h0
      have := Lib.run_unsafeString_none (P := P) w pt it ty (some ⟨b, 0, Option.none⟩)
      refine ⟨_, w, .refl w, ⟨rfl, ⟨z, hb⟩, .refl _ _⟩, .inl ?_⟩
      simp [execOp, resolve, invoke, builtin, ha _ _ hx, ha _ _ hy, this]
      rfl
    · have hlen : l.length ≤ cs.length := by
        have := congrArg List.length hcs
        simp at this; omega
      have hsh : w.shape? b = some (e, cs.length) := by simp [World.shape?, hb]
      have hr := Lib.run_unsafeString_row (P := P) w pt it ty e hp hc1 b cs.length hsh l h0 hlen (by omega) (fun j x hj => by
        rw [Addr.add_lit, cell_eq, Nat.zero_add, cell_of hb]
        have hlt := (List.getElem?_eq_some_iff.1 hj).1
        have : (cs.take l.length)[j]? = some (By x) := by rw [hcs]; simp [hj]
        rw [List.getElem?_take, if_pos hlt] at this
        simpa using this)
      refine ⟨_, w.freeze ⟨b, 0, Option.none⟩ l.length, ?_, ⟨rfl, ?_, ?_⟩, .inl ?_⟩
      · unfold World.freeze
        split <;> exact ⟨rfl, rfl, rfl, trivial⟩
      · unfold World.freeze
        split
        · exact ⟨z, hb⟩
        · obtain ⟨lo, hi⟩ := z
          refine ⟨if lo == hi then (0, 0 + l.length) else (min lo 0, max hi (0 + l.length)), ?_⟩
          simp only [Array.getElem?_modify, if_true, hb]
          rfl
      · unfold World.freeze
        split
        · exact .refl _ _
        · refine ⟨by simp, fun k _ hk => ?_⟩
          simp only [Array.getElem?_modify]
          rw [if_neg (fun e => hk e.symm)]
      · simp [execOp, resolve, invoke, builtin, ha _ _ hx, ha _ _ hy, hr]
end
end Go.RK
