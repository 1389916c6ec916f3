/-
  THE RULES, OPERATION BY OPERATION: what only computes or reads. No program is named here.
-/
import Derived.Test.YtkpgnhhidnkmcaaGreatDoorK1
import Derived.Laws.Pointers
import Derived.WalkLawsBesides
import Derived.WalkSpells
namespace Go.RK
open Go

/-- A text, by its bytes. -/
@[reducible] def St (l : List UInt8) : Value := .string ⟨⟨l⟩⟩
@[reducible] def In (n : Int) : Value := .int .i64 n

theorem toList_St (l : List UInt8) : (ByteArray.mk ⟨l⟩).toList = l :=
  ByteArray.toList_mk l
theorem append_St (l m : List UInt8) : (ByteArray.mk ⟨l⟩) ++ (ByteArray.mk ⟨m⟩) = ByteArray.mk ⟨l ++ m⟩ := by
  apply ByteArray.ext
  simp

/-- Operation o computes or reads: it yields v, and the world stays. -/
def OkP (P : Program) (f : Fr) (o : Oper) (h : Heap) (v : Value) : Prop :=
  ∀ (ρ : Operand → Value) (w : World), Agrees ρ f → w.heap = h → (execOp ρ o).run P w = .ok (.value v) w
/-- Operation o may draw, write and make memory: what it yields and leaves is told by R. -/
def OkR (P : Program) (f : Fr) (o : Oper) (h : Heap) (R : Value → Heap → Prop) : Prop :=
  ∀ (ρ : Operand → Value) (w : World), Agrees ρ f → w.heap = h → ∃ v w', Same w w' ∧ R v w'.heap ∧
    ((execOp ρ o).run P w = .ok (.value v) w' ∨ ((execOp ρ o).run P w = .ok .skip w' ∧ v = undef))

section
variable {P : Program} {f : Fr} {h : Heap} {d : Option Tmp} {ty : TypeId} {pos : String} {af : Array Edge} {g : Option (Nat × Bool)}

theorem ok_move {x : Operand} {v : Value} (hx : f.ev x = some v) : OkP P f ⟨d, .move x, ty, pos, af, g⟩ h v := fun ρ w ha _ => by simp [execOp, ha _ _ hx]
theorem ok_assign {x : Operand} {v : Value} (hx : f.ev x = some v) : OkP P f ⟨d, .assign x, ty, pos, af, g⟩ h v := fun ρ w ha _ => by simp [execOp, ha _ _ hx]
theorem ok_pick_t {c x y : Operand} {v : Value} (hc : f.ev c = some (.bool true)) (hx : f.ev x = some v) : OkP P f ⟨d, .pick c x y, ty, pos, af, g⟩ h v :=
  fun ρ w ha _ => by simp [execOp, ha _ _ hc, ha _ _ hx, asBool]
theorem ok_pick_f {c x y : Operand} {v : Value} (hc : f.ev c = some (.bool false)) (hy : f.ev y = some v) : OkP P f ⟨d, .pick c x y, ty, pos, af, g⟩ h v :=
  fun ρ w ha _ => by simp [execOp, ha _ _ hc, ha _ _ hy, asBool]
theorem ok_nilCheck {x : Operand} {a : Addr} (hx : f.ev x = some (.pointer (some a))) : OkP P f ⟨d, .nilCheck x, ty, pos, af, g⟩ h (.pointer (some a)) :=
  fun ρ w ha _ => by simp [execOp, ha _ _ hx]
theorem ok_extract {x : Operand} {i : Nat} {vs : List Value} {v : Value} (hx : f.ev x = some (.tuple ⟨vs⟩)) (hv : vs[i]? = some v) : OkP P f ⟨d, .extract x i, ty, pos, af, g⟩ h v :=
  fun ρ w ha _ => by simp [execOp, ha _ _ hx, Instr.extract, hv]
theorem ok_fieldAddr {x : Operand} {s i : Nat} {fs : Array Field} {fl : Field} {b o k : Nat} (hx : f.ev x = some (.pointer (some ⟨b, o, Option.none⟩))) (hu : P.underlying s = some (.struct fs)) (hf : fs[i]? = some fl)
    (hz : ∀ w, (sizeOf fl.type).run P w = .ok (k + 1) w) : OkP P f ⟨d, .fieldAddr s x i, ty, pos, af, g⟩ h (.pointer (some ⟨b, o + fl.offset, Option.none⟩)) :=
  fun ρ w ha _ => by simp [execOp, ha _ _ hx, Instr.fieldAt, run_underlying hu, hf, Instr.sureAddr, fieldPlace, hz, Addr.add_lit]

/-! ### numbers -/
section ints
variable {t t2 : TypeId} {x y : Operand} {k : IntKind} {a b : Int}
theorem ok_add (hx : f.ev x = some (.int k a)) (hy : f.ev y = some (.int k b)) : OkP P f ⟨d, .binOp .add t x y t2, ty, pos, af, g⟩ h (.int k (k.wrap (a + b))) :=
  fun ρ w ha _ => by simp [execOp, ha _ _ hx, ha _ _ hy, eqGuard_add, binOp_add, Op.intArith]
theorem ok_sub (hx : f.ev x = some (.int k a)) (hy : f.ev y = some (.int k b)) : OkP P f ⟨d, .binOp .sub t x y t2, ty, pos, af, g⟩ h (.int k (k.wrap (a - b))) :=
  fun ρ w ha _ => by simp [execOp, ha _ _ hx, ha _ _ hy, eqGuard_sub, binOp_sub, Op.intArith]
theorem ok_mul (hx : f.ev x = some (.int k a)) (hy : f.ev y = some (.int k b)) : OkP P f ⟨d, .binOp .mul t x y t2, ty, pos, af, g⟩ h (.int k (k.wrap (a * b))) :=
  fun ρ w ha _ => by simp [execOp, ha _ _ hx, ha _ _ hy, eqGuard_mul, binOp_mul, Op.intArith]
theorem wrap_i64 (a : Int) (h0 : -9223372036854775808 ≤ a) (h1 : a ≤ 9223372036854775807) : IntKind.i64.wrap a = a := by rw [IntKind.wrap_i64]; omega
theorem ok_addI (hx : f.ev x = some (In a)) (hy : f.ev y = some (In b)) (h0 : -9223372036854775808 ≤ a + b ∧ a + b ≤ 9223372036854775807) : OkP P f ⟨d, .binOp .add t x y t2, ty, pos, af, g⟩ h (In (a + b)) := by
  have := ok_add (P := P) (d := d) (ty := ty) (pos := pos) (af := af) (g := g) (h := h) (t := t) (t2 := t2) hx hy
  rwa [wrap_i64 _ h0.1 h0.2] at this
theorem ok_subI (hx : f.ev x = some (In a)) (hy : f.ev y = some (In b)) (h0 : -9223372036854775808 ≤ a - b ∧ a - b ≤ 9223372036854775807) : OkP P f ⟨d, .binOp .sub t x y t2, ty, pos, af, g⟩ h (In (a - b)) := by
  have := ok_sub (P := P) (d := d) (ty := ty) (pos := pos) (af := af) (g := g) (h := h) (t := t) (t2 := t2) hx hy
  rwa [wrap_i64 _ h0.1 h0.2] at this
theorem ok_mulI (hx : f.ev x = some (In a)) (hy : f.ev y = some (In b)) (h0 : -9223372036854775808 ≤ a * b ∧ a * b ≤ 9223372036854775807) : OkP P f ⟨d, .binOp .mul t x y t2, ty, pos, af, g⟩ h (In (a * b)) := by
  have := ok_mul (P := P) (d := d) (ty := ty) (pos := pos) (af := af) (g := g) (h := h) (t := t) (t2 := t2) hx hy
  rwa [wrap_i64 _ h0.1 h0.2] at this
theorem ok_lss (hx : f.ev x = some (.int k a)) (hy : f.ev y = some (.int k b)) : OkP P f ⟨d, .binOp .lss t x y t2, ty, pos, af, g⟩ h (.bool (decide (a < b))) :=
  fun ρ w ha _ => by simp [execOp, ha _ _ hx, ha _ _ hy, eqGuard_lss, binOp_lss]
theorem ok_leq (hx : f.ev x = some (.int k a)) (hy : f.ev y = some (.int k b)) : OkP P f ⟨d, .binOp .leq t x y t2, ty, pos, af, g⟩ h (.bool (decide (a ≤ b))) :=
  fun ρ w ha _ => by simp [execOp, ha _ _ hx, ha _ _ hy, eqGuard_leq, binOp_leq]
theorem ok_gtr (hx : f.ev x = some (.int k a)) (hy : f.ev y = some (.int k b)) : OkP P f ⟨d, .binOp .gtr t x y t2, ty, pos, af, g⟩ h (.bool (decide (b < a))) :=
  fun ρ w ha _ => by simp [execOp, ha _ _ hx, ha _ _ hy, eqGuard_gtr, binOp_gtr]
theorem ok_geq (hx : f.ev x = some (.int k a)) (hy : f.ev y = some (.int k b)) : OkP P f ⟨d, .binOp .geq t x y t2, ty, pos, af, g⟩ h (.bool (decide (b ≤ a))) :=
  fun ρ w ha _ => by simp [execOp, ha _ _ hx, ha _ _ hy, eqGuard_geq, binOp_geq]
theorem ok_eql (hx : f.ev x = some (.int k a)) (hy : f.ev y = some (.int k b)) : OkP P f ⟨d, .binOp .eql t x y t2, ty, pos, af, g⟩ h (.bool (decide (a = b))) :=
  fun ρ w ha _ => by simp [execOp, ha _ _ hx, ha _ _ hy, binOp_eql, eqGuard_at_int, BEq.beq]
theorem ok_neq (hx : f.ev x = some (.int k a)) (hy : f.ev y = some (.int k b)) : OkP P f ⟨d, .binOp .neq t x y t2, ty, pos, af, g⟩ h (.bool (!decide (a = b))) :=
  fun ρ w ha _ => by simp [execOp, ha _ _ hx, ha _ _ hy, binOp_neq, eqGuard_at_int, bne, BEq.beq]

theorem OkP.bool_t {o : Oper} {p : Prop} [Decidable p] (hp : p) (ho : OkP P f o h (.bool (decide p))) : OkP P f o h (.bool true) := by rwa [decide_eq_true hp] at ho
theorem OkP.bool_f {o : Oper} {p : Prop} [Decidable p] (hp : ¬p) (ho : OkP P f o h (.bool (decide p))) : OkP P f o h (.bool false) := by rwa [decide_eq_false hp] at ho
theorem OkP.nbool_t {o : Oper} {p : Prop} [Decidable p] (hp : ¬p) (ho : OkP P f o h (.bool (!decide p))) : OkP P f o h (.bool true) := by rwa [decide_eq_false hp] at ho
theorem OkP.nbool_f {o : Oper} {p : Prop} [Decidable p] (hp : p) (ho : OkP P f o h (.bool (!decide p))) : OkP P f o h (.bool false) := by rwa [decide_eq_true hp] at ho
theorem OkP.as {o : Oper} {v v' : Value} (e : v = v') (ho : OkP P f o h v) : OkP P f o h v' := e ▸ ho
end ints

/-! ### bools -/
theorem ok_not {x : Operand} {t : TypeId} {b : Bool} (hx : f.ev x = some (.bool b)) : OkP P f ⟨d, .unOp .not t x, ty, pos, af, g⟩ h (.bool (!b)) :=
  fun ρ w ha _ => by simp [execOp, ha _ _ hx, Op.unary]
theorem ok_not_t {x : Operand} {t : TypeId} (hx : f.ev x = some (.bool true)) : OkP P f ⟨d, .unOp .not t x, ty, pos, af, g⟩ h (.bool false) := ok_not hx
theorem ok_not_f {x : Operand} {t : TypeId} (hx : f.ev x = some (.bool false)) : OkP P f ⟨d, .unOp .not t x, ty, pos, af, g⟩ h (.bool true) := ok_not hx
theorem ok_eqlB {x y : Operand} {t t2 : TypeId} {a b : Bool} (hu : P.underlying t = some .bool) (hx : f.ev x = some (.bool a)) (hy : f.ev y = some (.bool b)) : OkP P f ⟨d, .binOp .eql t x y t2, ty, pos, af, g⟩ h (.bool (decide (a = b))) :=
  fun ρ w ha _ => by simp [execOp, ha _ _ hx, ha _ _ hy, eqGuard_at_bool, run_eql_bool w t a b hu, BEq.beq]
theorem ok_neqB {x y : Operand} {t t2 : TypeId} {a b : Bool} (hu : P.underlying t = some .bool) (hx : f.ev x = some (.bool a)) (hy : f.ev y = some (.bool b)) : OkP P f ⟨d, .binOp .neq t x y t2, ty, pos, af, g⟩ h (.bool (!decide (a = b))) :=
  fun ρ w ha _ => by simp [execOp, ha _ _ hx, ha _ _ hy, eqGuard_at_bool, run_neq_bool w t a b hu, BEq.beq]

/-! ### texts -/
section strs
variable {t t2 : TypeId} {x y : Operand} {a b : List UInt8}
theorem beq_dec {α : Type} [BEq α] [LawfulBEq α] [DecidableEq α] (a b : α) : (a == b) = decide (a = b) := by
  by_cases e : a = b <;> simp [e]
theorem ok_eqlS (hx : f.ev x = some (St a)) (hy : f.ev y = some (St b)) : OkP P f ⟨d, .binOp .eql t x y t2, ty, pos, af, g⟩ h (.bool (decide (a = b))) :=
  fun ρ w ha _ => by simp [execOp, ha _ _ hx, ha _ _ hy, eqGuard_at_string, binOp, Op.stringOp, beq_dec]
theorem ok_neqS (hx : f.ev x = some (St a)) (hy : f.ev y = some (St b)) : OkP P f ⟨d, .binOp .neq t x y t2, ty, pos, af, g⟩ h (.bool (!decide (a = b))) :=
  fun ρ w ha _ => by simp [execOp, ha _ _ hx, ha _ _ hy, eqGuard_at_string, binOp, Op.stringOp, beq_dec]
theorem ok_lssS (hx : f.ev x = some (St a)) (hy : f.ev y = some (St b)) : OkP P f ⟨d, .binOp .lss t x y t2, ty, pos, af, g⟩ h (.bool (Op.bytesLess a b)) :=
  fun ρ w ha _ => by simp [execOp, ha _ _ hx, ha _ _ hy, eqGuard_at_string, binOp, Op.stringOp]
theorem ok_catS (hx : f.ev x = some (St a)) (hy : f.ev y = some (St b)) (hl : a.length + b.length ≤ 9223372036854775807) : OkP P f ⟨d, .binOp .add t x y t2, ty, pos, af, g⟩ h (St (a ++ b)) :=
  fun ρ w ha _ => by
    have h1 : ¬ (((ByteArray.mk ⟨a⟩).size + (ByteArray.mk ⟨b⟩).size : Nat) : Int) > IntKind.i64.max := by
      rw [IntKind.max_i64]; show ¬ ((a.length + b.length : Nat) : Int) > _; omega
    simp only [execOp, ha _ _ hx, ha _ _ hy, eqGuard_at_string, binOp, Op.stringOp, if_neg h1, append_St, Sem.run_bind, Sem.run_pure, Result.andThen_ok]
theorem ok_lenS {x : Operand} {c : Array TypeId} (hc : c = #[t]) (hu : P.underlying t = some .string) (hx : f.ev x = some (St a)) :
    OkP P f ⟨d, .call { callee := .builtin .len, args := #[x], argTypes := c }, ty, pos, af, g⟩ h (In a.length) :=
  fun ρ w ha _ => by
    subst hc
    have : (ByteArray.mk ⟨a⟩).size = a.length := rfl
    simp [execOp, resolve, invoke, builtin, ha _ _ hx, Builtin.len_, run_underlying hu, goInt, this]
theorem ok_idxS {i : Int} {k : IntKind} {u : UInt8} (hu : P.underlying t = some .string) (hx : f.ev x = some (St a)) (hy : f.ev y = some (.int k i)) (h0 : 0 ≤ i) (hv : a[i.toNat]? = some u) :
    OkP P f ⟨d, .index t x y, ty, pos, af, g⟩ h (.int .u8 u.toNat) :=
  fun ρ w ha _ => by
    obtain ⟨hlt, hv2⟩ := List.getElem?_eq_some_iff.1 hv
    have hi : 0 ≤ i ∧ i < ((ByteArray.mk ⟨a⟩).size : Nat) := ⟨h0, by show i < (a.length : Nat); omega⟩
    have hb : (ByteArray.mk ⟨a⟩)[i.toNat]'(by omega) = u := hv2
    simp [execOp, ha _ _ hx, ha _ _ hy, run_index_string, hu, hi, hb]
end strs

/-! ### nil -/
theorem pointee_of {t e : TypeId} (hu : P.underlying t = some (.pointer e)) : P.underlying t = some (.pointer (P.pointee t)) := by
  have : P.pointee t = e := by unfold Program.pointee; rw [hu]
  rw [this]; exact hu
theorem ok_eqlPn {t t2 e : TypeId} {x y : Operand} {p : Option Addr} (hu : P.underlying t = some (.pointer e)) (hx : f.ev x = some (.pointer p)) (hy : f.ev y = some (.pointer Option.none)) :
    OkP P f ⟨d, .binOp .eql t x y t2, ty, pos, af, g⟩ h (.bool p.isNone) :=
  fun ρ w ha _ => by simp [execOp, ha _ _ hx, ha _ _ hy, eqGuard_at_pointer, run_eql_pointer_nil w t p (pointee_of hu)]
theorem ok_neqPn {t t2 e : TypeId} {x y : Operand} {p : Option Addr} (hu : P.underlying t = some (.pointer e)) (hx : f.ev x = some (.pointer p)) (hy : f.ev y = some (.pointer Option.none)) :
    OkP P f ⟨d, .binOp .neq t x y t2, ty, pos, af, g⟩ h (.bool p.isSome) :=
  fun ρ w ha _ => by cases p <;> simp [execOp, ha _ _ hx, ha _ _ hy, eqGuard_at_pointer, run_neq_pointer_nil w t _ (pointee_of hu)]
theorem ok_neqMn {t t2 k e : TypeId} {x y : Operand} {m : Option Nat} (hu : P.underlying t = some (.map k e)) (hx : f.ev x = some (.map m)) (hy : f.ev y = some (.map Option.none)) :
    OkP P f ⟨d, .binOp .neq t x y t2, ty, pos, af, g⟩ h (.bool m.isSome) :=
  fun ρ w ha _ => by cases m <;> simp [execOp, ha _ _ hx, ha _ _ hy, eqGuard_at_map, run_neq_map_nil w t k e _ hu]
theorem ok_eqlMn {t t2 k e : TypeId} {x y : Operand} {m : Option Nat} (hu : P.underlying t = some (.map k e)) (hx : f.ev x = some (.map m)) (hy : f.ev y = some (.map Option.none)) :
    OkP P f ⟨d, .binOp .eql t x y t2, ty, pos, af, g⟩ h (.bool m.isNone) :=
  fun ρ w ha _ => by simp [execOp, ha _ _ hx, ha _ _ hy, eqGuard_at_map, run_eql_map_nil w t k e m hu]
theorem ok_eqlSn {t t2 e : TypeId} {x y : Operand} {p : Option Addr} {l c : Nat} (hu : P.underlying t = some (.slice e)) (hx : f.ev x = some (.slice p l c)) (hy : f.ev y = some (.slice Option.none 0 0)) :
    OkP P f ⟨d, .binOp .eql t x y t2, ty, pos, af, g⟩ h (.bool p.isNone) :=
  fun ρ w ha _ => by simp [execOp, ha _ _ hx, ha _ _ hy, eqGuard_at_slice, Lib.run_eql_slice_nil w t e p l c 0 0 hu]
theorem ok_neqSn {t t2 e : TypeId} {x y : Operand} {p : Option Addr} {l c : Nat} (hu : P.underlying t = some (.slice e)) (hx : f.ev x = some (.slice p l c)) (hy : f.ev y = some (.slice Option.none 0 0)) :
    OkP P f ⟨d, .binOp .neq t x y t2, ty, pos, af, g⟩ h (.bool p.isSome) :=
  fun ρ w ha _ => by cases p <;> simp [execOp, ha _ _ hx, ha _ _ hy, eqGuard_at_slice, run_neq_slice_nil w t e _ l c hu]

/-! ### slices -/
theorem ok_lenL {t e : TypeId} {x : Operand} {p : Option Addr} {l c : Nat} {ts : Array TypeId} (hc : ts = #[t]) (hu : P.underlying t = some (.slice e)) (hx : f.ev x = some (.slice p l c)) :
    OkP P f ⟨d, .call { callee := .builtin .len, args := #[x], argTypes := ts }, ty, pos, af, g⟩ h (In l) :=
  fun ρ w ha _ => by subst hc; simp [execOp, resolve, invoke, builtin, ha _ _ hx, Builtin.len_, run_underlying hu, goInt]
theorem ok_capL {t e : TypeId} {x : Operand} {p : Option Addr} {l c : Nat} {ts : Array TypeId} (hc : ts = #[t]) (hu : P.underlying t = some (.slice e)) (hx : f.ev x = some (.slice p l c)) :
    OkP P f ⟨d, .call { callee := .builtin .cap, args := #[x], argTypes := ts }, ty, pos, af, g⟩ h (In c) :=
  fun ρ w ha _ => by subst hc; simp [execOp, resolve, invoke, builtin, ha _ _ hx, Builtin.cap_, run_underlying hu, goInt]
theorem ok_idxAddr {t e : TypeId} {x y : Operand} {b o l c sz : Nat} {k : IntKind} {i : Int} (hu : P.underlying t = some (.slice e)) (hz : ∀ w, (sizeOf e).run P w = .ok sz w)
    (hx : f.ev x = some (.slice (some ⟨b, o, Option.none⟩) l c)) (hy : f.ev y = some (.int k i)) (hi : 0 ≤ i ∧ i < l) :
    OkP P f ⟨d, .indexAddr t x y, ty, pos, af, g⟩ h (.pointer (some ⟨b, o + i.toNat * sz, Option.none⟩)) :=
  fun ρ w ha _ => by simp [execOp, ha _ _ hx, ha _ _ hy, Instr.indexAt, asIntOf, run_underlying hu, hi, hz, Addr.add_lit]
end
end Go.RK
