/-
  SHIFTS; A MAP's ENTRY SET IN TWO STEPS. No program is named here.
-/
import Derived.Test.YtkpgnhhidnkmcaaGreatDoorK12
import Derived.Laws.Entries
namespace Go.RK
open Go Go.MapKept Go.ChangeMaps

section
variable {P : Program} {f : Fr} {h : Heap} {d : Option Tmp} {ty : TypeId} {pos : String} {af : Array Edge} {g : Option (Nat × Bool)}
variable {t t2 : TypeId} {x y : Operand} {a b : Int}
theorem ok_shr (hx : f.ev x = some (In a)) (hy : f.ev y = some (In b)) (hb : 0 ≤ b ∧ b ≤ 64) : OkP P f ⟨d, .binOp .shr t x y t2, ty, pos, af, g⟩ h (In (a / 2 ^ b.toNat)) :=
  fun ρ w ha _ => by
    have h1 : ¬ b < 0 := by omega
    have h2 : min b.toNat 64 = b.toNat := by omega
    have h3 : (IntKind.i64).bits = 64 := rfl
    simp [execOp, ha _ _ hx, ha _ _ hy, eqGuard_shr, binOp_shr, Op.shift, h1, h3, h2]
theorem ok_shl (hx : f.ev x = some (In a)) (hy : f.ev y = some (In b)) (hb : 0 ≤ b ∧ b ≤ 64) (hr : -9223372036854775808 ≤ a * 2 ^ b.toNat ∧ a * 2 ^ b.toNat ≤ 9223372036854775807) : OkP P f ⟨d, .binOp .shl t x y t2, ty, pos, af, g⟩ h (In (a * 2 ^ b.toNat)) :=
  fun ρ w ha _ => by
    have h1 : ¬ b < 0 := by omega
    have h2 : min b.toNat 64 = b.toNat := by omega
    have h3 : (IntKind.i64).bits = 64 := rfl
    have h4 := wrap_i64 _ hr.1 hr.2
    simp [execOp, ha _ _ hx, ha _ _ hy, eqGuard_shl, binOp_shl, Op.shift, h1, h3, h2, h4]
end

/-! ### an entry in two steps -/
/-- Entry st of the map at block m is the one of key k; with its value set the map holds aput es k v. -/
def MpE {κ : Type} [DecidableEq κ] (dsc : TypeDesc) (enc : κ → Value) (h : Heap) (m : Nat) (es : List (κ × Value)) (k : κ) (st : Int) : Prop :=
  ∃ arr clock i, h[m]? = some (.map arr clock) ∧ arr.findIdx? (fun e => (e.born : Int) == st) = some i ∧
    ∀ v : Value, Stamped (arr.modify i fun e => { e with val := v }) clock ∧ ((arr.modify i fun e => { e with val := v }).toList.map (fun e => (e.key, e.val)) = (aput es k v).map fun p => (enc p.1, p.2))
section
variable {P : Program} {f : Fr} {h : Heap} {dd : Option Tmp} {ty : TypeId} {pos : String} {af : Array Edge} {g : Option (Nat × Bool)}
variable {κ : Type} [DecidableEq κ] {dsc : TypeDesc} {enc : κ → Value} {m : Nat} {es : List (κ × Value)} {k : κ}
theorem MpE.ext {S : Nat → Prop} {h' : Heap} {st : Int} (e : MpE dsc enc h m es k st) (a : Ext S h h') (hm : ¬ S m) : MpE dsc enc h' m es k st := by
  obtain ⟨arr, clock, i, hb, r⟩ := e
  exact ⟨arr, clock, i, a.obj hb hm, r⟩
theorem okE_entryStore {t : TypeId} {x s y : Operand} {v : Value} {st : Int} (hx : f.ev x = some (.map (some m))) (hs : f.ev s = some (In st)) (hy : f.ev y = some v) (he : MpE dsc enc h m es k st) :
    OkR P f ⟨dd, .entryStore t x s y, ty, pos, af, g⟩ h (fun _ h' => Mp dsc enc h' m (aput es k v) ∧ Ext (fun q => q = m) h h') := fun ρ w ha hw => by
  subst hw
  obtain ⟨arr, clock, i, hb, hf, hv⟩ := he
  refine ⟨undef, setBlock w m (.map (arr.modify i fun e => { e with val := v }) clock), ⟨rfl, rfl, rfl, trivial⟩, ⟨⟨_, _, set_new hb, (hv v).1, (hv v).2⟩, Ext.set _ _ _ rfl⟩, .inr ⟨?_, rfl⟩⟩
  have hf' : arr.findIdx? (fun e => (e.born : Int) == st) = some i := hf
  simp [execOp, ha _ _ hx, ha _ _ hs, ha _ _ hy, Instr.entryStore, MapKept.run_getObj_map hb, asInt, asIntOf, hf', MapKept.run_setObj_map _ hb, setBlock]
/-- A key that is not there: the entry is made. -/
theorem okE_mapEntry {t kt et : TypeId} {x y : Operand} {z : Value} (E : KeyEnc κ dsc enc) (hu : P.underlying t = some (.map kt et)) (hd : P.underlying kt = some dsc) (hz : ∀ w, (zeroValue et).run P w = .ok z w) (hx : f.ev x = some (.map (some m))) (hy : f.ev y = some (enc k)) (hm : Mp dsc enc h m es) (hv : alook es k = Option.none) :
    OkR P f ⟨dd, .mapEntry t x y, ty, pos, af, g⟩ h (fun u h' => ∃ st, u = .tuple ⟨[z, In st]⟩ ∧ MpE dsc enc h' m es k st ∧ Ext (fun q => q = m) h h') := fun ρ w ha hw => by
  subst hw
  obtain ⟨arr, clock, hb, hs, he⟩ := hm
  rcases find_alook E he k with ⟨h1, h2, h3⟩ | ⟨j, v', e, h1, h2, _⟩
  · refine ⟨_, setBlock w m (.map (arr.push { key := enc k, val := z, born := clock }) (clock + 1)), ⟨rfl, rfl, rfl, trivial⟩, ⟨(clock : Int), rfl, ⟨_, _, arr.size, set_new hb, ?_, fun v => ?_⟩, Ext.set _ _ _ rfl⟩, .inl ?_⟩
    · rw [Array.findIdx?_push]
      have h0 : arr.findIdx? (fun e => (e.born : Int) == (clock : Int)) = Option.none := by
        rw [Array.findIdx?_eq_none_iff]
        intro x hx
        have := hs.1 x (by simpa using hx)
        simp
        omega
      rw [h0]
      simp
    · have hmod : (arr.push { key := enc k, val := z, born := clock }).modify arr.size (fun e => { e with val := v }) = arr.push { key := enc k, val := v, born := clock } := by
        apply Array.ext_getElem?
        intro i
        rw [Array.getElem?_modify, Array.getElem?_push, Array.getElem?_push]
        by_cases e : i = arr.size
        · subst e; simp
        · rw [if_neg (fun q => e q.symm), if_neg e, if_neg e]
      rw [hmod]
      exact ⟨stamped_push hs h3, by simp [aput, h2, he]⟩
    · simp [execOp, ha _ _ hx, ha _ _ hy, Instr.mapEntry, run_underlying hu, MapKept.run_getObj_map hb, run_checkKey hd (E.key k), run_findKey hd h1, hz, MapKept.run_setObj_map _ hb, goInt, setBlock]
  · rw [hv] at h2; cases h2
end
end Go.RK
