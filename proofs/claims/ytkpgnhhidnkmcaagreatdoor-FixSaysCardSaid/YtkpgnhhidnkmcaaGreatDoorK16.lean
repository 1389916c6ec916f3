/-
  []byte OF A ROW OF BYTES, WRITTEN OUT ([]byte of a constant text): it stays where it is. No program is named here.
-/
import Derived.Test.YtkpgnhhidnkmcaaGreatDoorK12
namespace Go.RK
open Go

section
variable {P : Program} {f : Fr} {h : Heap} {d : Option Tmp} {ty : TypeId} {pos : String} {af : Array Edge} {g : Option (Nat × Bool)}
theorem okE_convSS {x : Operand} {src e t : TypeId} {b n c : Nat} {cs : Array Value} {z : Nat × Nat} (hs : P.underlying src = some (.slice e)) (he : P.underlying e = some (.int .u8)) (hx : f.ev x = some (.slice (some ⟨b, 0, Option.none⟩) n c)) (hb : h[b]? = some (.cells cs t z)) :
    OkR P f ⟨d, .convert src src x, ty, pos, af, g⟩ h (fun v h' => v = .slice (some ⟨b, 0, Option.none⟩) n c ∧ (∃ z', h'[b]? = some (.cells cs t z')) ∧ Ext (fun k => k = b) h h') :=
  fun ρ w ha hw => by
    subst hw
    have hsh : w.shape? b = some (t, cs.size) := by simp [World.shape?, hb]
    refine ⟨_, w.freeze ⟨b, cs.size, Option.none⟩ 1, ?_, ⟨rfl, ?_, ?_⟩, .inl ?_⟩
    · unfold World.freeze
      split <;> exact ⟨rfl, rfl, rfl, trivial⟩
    · unfold World.freeze
      split
      · exact ⟨z, hb⟩
      · obtain ⟨lo, hi⟩ := z
        refine ⟨if lo == hi then (cs.size, cs.size + 1) else (min lo cs.size, max hi (cs.size + 1)), ?_⟩
        simp only [Array.getElem?_modify, if_true, hb]
        rfl
    · unfold World.freeze
      split
      · exact .refl _ _
      · refine ⟨by simp, fun k _ hk => ?_⟩
        simp only [Array.getElem?_modify]
        rw [if_neg (fun e => hk e.symm)]
    · simp [execOp, ha _ _ hx, convert, run_underlying hs, run_underlying he, markStringish, hsh]
end
end Go.RK
