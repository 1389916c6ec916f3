/-
  THE ADDRESS OF AN ARRAY's ENTRY. No program is named here.
-/
import Derived.Test.YtkpgnhhidnkmcaaGreatDoorK12
namespace Go.RK
open Go

section
variable {P : Program} {f : Fr} {h : Heap} {d : Option Tmp} {ty : TypeId} {pos : String} {af : Array Edge} {g : Option (Nat × Bool)}
theorem ok_idxAddrR {t e : TypeId} {x y : Operand} {b o l sz k : Nat} {kd : IntKind} {i : Int} (hu : P.underlying t = some (.array l e)) (hz : ∀ w, (sizeOf e).run P w = .ok sz w)
    (hx : f.ev x = some (.pointer (some ⟨b, o, Option.none⟩))) (hy : f.ev y = some (.int kd i)) (hi : i = (k : Int)) (hk : k < l) :
    OkP P f ⟨d, .indexAddr t x y, ty, pos, af, g⟩ h (.pointer (some ⟨b, o + k * sz, Option.none⟩)) := fun ρ w ha _ => by
  subst hi
  have h1 : (0 : Int) ≤ k ∧ (k : Int) < l := ⟨by omega, by omega⟩
  have hs : (Instr.sureAddr (.pointer (some ⟨b, o, Option.none⟩))).run P w = .ok ⟨b, o, Option.none⟩ w := rfl
  simp [execOp, ha _ _ hx, ha _ _ hy, Instr.indexAt, asIntOf, run_underlying hu, h1, hz, hs, hk, Addr.add_lit]
/-- A field, of one cell, of a struct's value. -/
theorem ok_field {t : TypeId} {x : Operand} {i : Nat} {fs : Array Field} {fl : Field} {cs : List Value} {v : Value} (hu : P.underlying t = some (.struct fs)) (hf : fs[i]? = some fl) (ha1 : ∀ w, (isAgg fl.type).run P w = .ok false w)
    (hx : f.ev x = some (.agg ⟨cs⟩)) (hv : cs[fl.offset]? = some v) : OkP P f ⟨d, .field t x i, ty, pos, af, g⟩ h v := fun ρ w ha _ => by
  simp [execOp, ha _ _ hx, Instr.field, run_underlying hu, hf, part, asAgg, ha1, hv]
end
end Go.RK
