/-
  MORE OPERATIONS: division, conversions, texts cut, rows made, closures called, unsafe.String. No program is named here.
-/
import Derived.Test.YtkpgnhhidnkmcaaGreatDoorK10
import Derived.Lib.ConvBytes
import Derived.Lib.UnsafeStr
import Derived.Lib.Builder
import Derived.Laws.BytesString
import Derived.Laws.Externs
import Derived.Laws.Strings2
import Derived.Laws.Strings3
import Derived.Laws.MakeOwn
import Derived.Laws.StructEq
import Derived.Laws.BitsLemmas
namespace Go.RK
open Go

/-- A byte. -/
@[reducible] def By (b : UInt8) : Value := .int .u8 b.toNat
abbrev bys (l : List UInt8) : List Value := l.map By
theorem one_bys (l : List UInt8) : ∀ v ∈ bys l, v.oneCell' = true := by
  intro v hv
  obtain ⟨x, _, rfl⟩ := List.mem_map.1 hv
  rfl

section
variable {P : Program} {f : Fr} {h : Heap} {d : Option Tmp} {ty : TypeId} {pos : String} {af : Array Edge} {g : Option (Nat × Bool)}
section ints
variable {t t2 : TypeId} {x y : Operand} {k : IntKind} {a b : Int}
theorem ok_quo (hx : f.ev x = some (.int k a)) (hy : f.ev y = some (.int k b)) (hb : b ≠ 0) : OkP P f ⟨d, .binOp .quo t x y t2, ty, pos, af, g⟩ h (.int k (k.wrap (a.tdiv b))) :=
  fun ρ w ha _ => by simp [execOp, ha _ _ hx, ha _ _ hy, eqGuard, binOp, Op.intDiv, hb]
theorem ok_rem (hx : f.ev x = some (.int k a)) (hy : f.ev y = some (.int k b)) (hb : b ≠ 0) : OkP P f ⟨d, .binOp .rem t x y t2, ty, pos, af, g⟩ h (.int k (a.tmod b)) :=
  fun ρ w ha _ => by simp [execOp, ha _ _ hx, ha _ _ hy, eqGuard, binOp, Op.intDiv, hb]
theorem ok_quoI (hx : f.ev x = some (In a)) (hy : f.ev y = some (In b)) (hb : b ≠ 0) (h0 : -9223372036854775808 ≤ a.tdiv b ∧ a.tdiv b ≤ 9223372036854775807) : OkP P f ⟨d, .binOp .quo t x y t2, ty, pos, af, g⟩ h (In (a.tdiv b)) := by
  have := ok_quo (P := P) (d := d) (ty := ty) (pos := pos) (af := af) (g := g) (h := h) (t := t) (t2 := t2) hx hy hb
  rwa [wrap_i64 _ h0.1 h0.2] at this
theorem tdiv_in {a b : Int} (h : -9223372036854775808 ≤ a ∧ a ≤ 9223372036854775807) (hb : 1 < b) : -9223372036854775808 ≤ a.tdiv b ∧ a.tdiv b ≤ 9223372036854775807 := by
  have h1 : (a.tdiv b).natAbs ≤ a.natAbs := by rw [Int.natAbs_tdiv]; exact Nat.div_le_self _ _
  by_cases h0 : a < 0
  · have : a.tdiv b ≤ 0 := (by rw [← Int.neg_neg a, Int.neg_tdiv]; have : 0 ≤ (-a).tdiv b := Int.tdiv_nonneg (by omega) (by omega); omega)
    omega
  · have : 0 ≤ a.tdiv b := Int.tdiv_nonneg (by omega) (by omega)
    omega
theorem ok_neg (hx : f.ev x = some (.int k a)) : OkP P f ⟨d, .unOp .neg t x, ty, pos, af, g⟩ h (.int k (k.wrap (0 - a))) :=
  fun ρ w ha _ => by simp [execOp, ha _ _ hx, Op.unary, Op.intArith]
theorem ok_negI (hx : f.ev x = some (In a)) (h0 : -9223372036854775808 ≤ -a ∧ -a ≤ 9223372036854775807) : OkP P f ⟨d, .unOp .neg t x, ty, pos, af, g⟩ h (In (-a)) := by
  have := ok_neg (P := P) (d := d) (ty := ty) (pos := pos) (af := af) (g := g) (h := h) (t := t) hx
  rwa [wrap_i64 _ (by omega) (by omega), Int.zero_sub] at this
theorem ok_conv {src dst : TypeId} {u : TypeDesc} {k2 : IntKind} (hs : P.underlying src = some u) (hd : P.underlying dst = some (.int k2)) (hx : f.ev x = some (.int k a)) :
    OkP P f ⟨d, .convert src dst x, ty, pos, af, g⟩ h (.int k2 (k2.wrap a)) :=
  fun ρ w ha _ => by simp [execOp, ha _ _ hx, convert, run_underlying hs, run_underlying hd, Conv.intToInt]
theorem ok_convI {src dst : TypeId} {u : TypeDesc} (hs : P.underlying src = some u) (hd : P.underlying dst = some (.int .i64)) (hx : f.ev x = some (.int k a)) (h0 : -9223372036854775808 ≤ a ∧ a ≤ 9223372036854775807) :
    OkP P f ⟨d, .convert src dst x, ty, pos, af, g⟩ h (In a) := by
  have := ok_conv (P := P) (d := d) (ty := ty) (pos := pos) (af := af) (g := g) (h := h) hs hd hx
  rwa [wrap_i64 _ h0.1 h0.2] at this
theorem ok_convU8 {src dst : TypeId} {u : TypeDesc} (hs : P.underlying src = some u) (hd : P.underlying dst = some (.int .u8)) (hx : f.ev x = some (.int k a)) (h0 : 0 ≤ a ∧ a < 256) :
    OkP P f ⟨d, .convert src dst x, ty, pos, af, g⟩ h (.int .u8 a) := by
  have := ok_conv (P := P) (d := d) (ty := ty) (pos := pos) (af := af) (g := g) (h := h) hs hd hx
  rwa [IntKind.wrap_u8, Int.emod_eq_of_lt h0.1 h0.2] at this
end ints

/-! ### texts -/
theorem ok_slice_slh {t : TypeId} {x lo hi : Operand} {a : List UInt8} {k k2 : IntKind} {i j : Int} (hu : P.underlying t = some .string) (hx : f.ev x = some (St a)) (hlo : f.ev lo = some (.int k i)) (hhi : f.ev hi = some (.int k2 j)) (h0 : 0 ≤ i ∧ i ≤ j ∧ j ≤ a.length) :
    OkP P f ⟨d, .slice t x (some lo) (some hi) Option.none, ty, pos, af, g⟩ h (St ((a.drop i.toNat).take (j.toNat - i.toNat))) :=
  fun ρ w ha _ => by
    have := run_slice_string (P := P) w t ⟨⟨a⟩⟩ k k2 i j hu h0.1 h0.2.1 h0.2.2
    have e : (ByteArray.mk ⟨a⟩).extract i.toNat j.toNat = ByteArray.mk ⟨(a.drop i.toNat).take (j.toNat - i.toNat)⟩ := ByteArray.extract_mk a _ _
    rw [e] at this
    simp [execOp, ha _ _ hx, ha _ _ hlo, ha _ _ hhi, Instr.sliceAt, run_underlying hu, this]
theorem ok_slice_sl {t : TypeId} {x lo : Operand} {a : List UInt8} {k : IntKind} {i : Int} (hu : P.underlying t = some .string) (hx : f.ev x = some (St a)) (hlo : f.ev lo = some (.int k i)) (h0 : 0 ≤ i ∧ i ≤ a.length) :
    OkP P f ⟨d, .slice t x (some lo) Option.none Option.none, ty, pos, af, g⟩ h (St (a.drop i.toNat)) :=
  fun ρ w ha _ => by
    have hs : (ByteArray.mk ⟨a⟩).size = a.length := rfl
    have e : (ByteArray.mk ⟨a⟩).extract i.toNat a.length = ByteArray.mk ⟨(a.drop i.toNat).take (a.length - i.toNat)⟩ := ByteArray.extract_mk a _ _
    have e2 : (a.drop i.toNat).take (a.length - i.toNat) = a.drop i.toNat := List.take_of_length_le (by simp)
    rw [e2] at e
    have h1 : 0 ≤ i ∧ i ≤ (a.length : Int) := h0
    simp [execOp, ha _ _ hx, ha _ _ hlo, Instr.sliceAt, run_underlying hu, Instr.slice, Instr.sliceBounds, Instr.sliceBound, asIntOf, hs, h1, e]
theorem ok_slice_sh {t : TypeId} {x hi : Operand} {a : List UInt8} {k : IntKind} {j : Int} (hu : P.underlying t = some .string) (hx : f.ev x = some (St a)) (hhi : f.ev hi = some (.int k j)) (h0 : 0 ≤ j ∧ j ≤ a.length) :
    OkP P f ⟨d, .slice t x Option.none (some hi) Option.none, ty, pos, af, g⟩ h (St (a.take j.toNat)) :=
  fun ρ w ha _ => by
    have hs : (ByteArray.mk ⟨a⟩).size = a.length := rfl
    have e : (ByteArray.mk ⟨a⟩).extract 0 j.toNat = ByteArray.mk ⟨(a.drop 0).take (j.toNat - 0)⟩ := ByteArray.extract_mk a _ _
    have h1 : 0 ≤ j ∧ j ≤ (a.length : Int) := h0
    simp only [List.drop_zero, Nat.sub_zero] at e
    simp [execOp, ha _ _ hx, ha _ _ hhi, Instr.sliceAt, run_underlying hu, Instr.slice, Instr.sliceBounds, Instr.sliceBound, asIntOf, hs, h1, e]
/-- []byte of a text: a new row, which may be read. -/
theorem okE_convSB {src dst e : TypeId} {x : Operand} {a : List UInt8} {u : TypeDesc} (hs : P.underlying src = some u) (hd : P.underlying dst = some (.slice e)) (he : P.underlying e = some (.int .u8)) (hx : f.ev x = some (St a)) :
    OkR P f ⟨d, .convert src dst x, ty, pos, af, g⟩ h (fun v h' => ∃ b c, v = .slice (some ⟨b, 0, Option.none⟩) a.length c ∧ h.size ≤ b ∧ Rd h' v 1 a.length (bys a) ∧ Ext No h h') :=
  fun ρ w ha hw => by
    subst hw
    have hr := Lib.run_convert_string_bytes (P := P) w src dst e ⟨⟨a⟩⟩ hs hd he
    have hsz := Lib.bytesWorld_size w e ⟨⟨a⟩⟩
    have hcap : a.length ≤ grownCap w (ByteArray.mk ⟨a⟩).size 0 e := by
      have : (ByteArray.mk ⟨a⟩).size = a.length := rfl
      rw [this]
      exact grownCap_ge w _ _ e
    refine ⟨_, Lib.bytesWorld w e ⟨⟨a⟩⟩, ?_, ⟨w.heap.size, _, rfl, Nat.le_refl _, ⟨_, _, rfl, hcap, by simp, fun _ => ⟨_, 0, rfl, by omega, fun j v hj => ?_⟩⟩, ⟨by omega, fun b hb _ => Lib.bytesWorld_at_old w e _ b hb⟩⟩, .inl ?_⟩
    · unfold Lib.bytesWorld World.freeze
      split <;> exact ⟨rfl, rfl, rfl, trivial⟩
    · have hj' : j < a.length := by simpa using (List.getElem?_eq_some_iff.1 hj).1
      have := Lib.bytesWorld_cell w e ⟨⟨a⟩⟩ j hj'
      rw [Nat.zero_add]
      refine Eq.trans this ?_
      rw [← hj]
      simp [List.getD, hj']
    · simp [execOp, ha _ _ hx, hr]
      rfl
theorem foldl_push (l : List UInt8) (s : List UInt8) : (l.map fun b => (b.toNat : Int)).foldl (fun r n => r.push (UInt8.ofNat n.toNat)) (ByteArray.mk ⟨s⟩) = ByteArray.mk ⟨s ++ l⟩ := by
  induction l generalizing s with
  | nil => simp
  | cons b l ih =>
    have e : (ByteArray.mk ⟨s⟩).push (UInt8.ofNat (b.toNat : Int).toNat) = ByteArray.mk ⟨s ++ [b]⟩ := by
      apply ByteArray.ext
      simp [ByteArray.push]
    rw [List.map_cons, List.foldl_cons, e, ih]
    simp
/-- A text out of bytes. -/
theorem ok_convBS {src dst e : TypeId} {x : Operand} {A : Option Addr} {n c : Nat} {l : List UInt8} (hs : P.underlying src = some (.slice e)) (he : P.underlying e = some (.int .u8)) (hd : P.underlying dst = some .string) (hx : f.ev x = some (.slice A n c)) (hr : Rd h (.slice A n c) 1 n (bys l)) :
    OkP P f ⟨d, .convert src dst x, ty, pos, af, g⟩ h (St l) :=
  fun ρ w ha hw => by
    subst hw
    have hl : l.length = n := by obtain ⟨_, _, _, _, hl, _⟩ := hr; simpa using hl
    subst hl
    cases A with
    | none =>
      have h0 : l = [] := by
        cases l with
        | nil => rfl
        | cons a l => obtain ⟨b, o, e, _⟩ := Rd.at_ hr (by simp); cases e
      subst h0
      simp only [execOp, ha _ _ hx, Sem.run_bind]
      rw [run_convert_bytes_string w src dst e _ _ _ hs he hd]
      rfl
    | some p =>
      have hcells : (loadCells p l.length).run P w = .ok ((l.map fun b => (b.toNat : Int)).map (Value.int .u8)).toArray w := by
        have e : (l.map fun b => (b.toNat : Int)).map (Value.int .u8) = bys l := by simp
        rw [e]
        have : l.length = (bys l).length := by simp
        rw [this]
        refine run_loadCells_list w p _ fun j v hj => ?_
        obtain ⟨b, o, e, _, hat⟩ := Rd.at_ hr (by
          have := (List.getElem?_eq_some_iff.1 hj).1
          simp at this; omega)
        injection e with e
        subst e
        rw [Addr.add_lit]
        exact hat j v hj
      simp only [execOp, ha _ _ hx, Sem.run_bind]
      rw [run_convert_bytes_string w src dst e _ _ _ hs he hd, run_bytesToString w p _ _ _ hcells]
      have := foldl_push l []
      have e0 : (ByteArray.empty : ByteArray) = ByteArray.mk ⟨[]⟩ := rfl
      rw [e0, this]
      rfl

/-! ### rows made -/
theorem okE_makeSlice {t e : TypeId} {x y : Operand} {i : TypeInfo} {z : Value} {n : Nat} (bytes sz : Nat) (ht : P.underlying t = some (.slice e)) (hi : P.info? e = some i) (hz : i.zero = some z) (hby : i.bytes = bytes) (hsz : i.size = sz) (hx : f.ev x = some (In n)) (hy : f.ev y = some (In n)) (hb : bytes * n ≤ 281474976710656) (hn : n ≤ maxLen) :
    OkR P f ⟨d, .makeSlice t x y, ty, pos, af, g⟩ h (fun v h' => ∃ b zs, v = .slice (some ⟨b, 0, Option.none⟩) n n ∧ h.size ≤ b ∧ h'[b]? = some (.cells ⟨zs⟩ e (0, 0)) ∧ zs.length = n * sz ∧ zs = (madeCells z.cells (n * sz)).toList ∧ Ext No h h') :=
  fun ρ w ha hw => by
    subst hw
    subst hby
    subst hsz
    unfold maxLen at hn
    have hb' : (i.bytes : Int) * (n : Int) ≤ 281474976710656 := by
      have h : ((i.bytes * n : Nat) : Int) ≤ 281474976710656 := by omega
      rwa [Int.natCast_mul] at h
    have hr := run_make (P := P) w t e i z ht hi hz .i64 .i64 n n (by omega) (Int.le_refl _) hb' (by omega)
    simp only [Int.toNat_natCast] at hr
    refine ⟨_, w.alloc (.cells (madeCells z.cells (n * i.size)) e), ⟨rfl, rfl, rfl, trivial⟩, ⟨w.heap.size, (madeCells z.cells (n * i.size)).toList, rfl, Nat.le_refl _, push_new _ _, ?_, rfl, .push _ _ _⟩, .inl ?_⟩
    · rw [Array.length_toList, size_madeCells]
    · simp only [execOp, ha _ _ hx, ha _ _ hy, Sem.run_bind, hr]
      rfl

/-! ### unsafe.String -/
theorem ok_sliceData {x : Operand} {a : Addr} {n c : Nat} {ts : Array TypeId} (hx : f.ev x = some (.slice (some a) n c)) (hc : c ≠ 0) :
    OkP P f ⟨d, .call { callee := .builtin .unsafeSliceData, args := #[x], argTypes := ts }, ty, pos, af, g⟩ h (.pointer (some a)) :=
  fun ρ w ha _ => by
    have := Lib.run_unsafeSliceData_row (P := P) w ts ty a n c hc
    simp [execOp, resolve, invoke, builtin, ha _ _ hx, this]
theorem ok_sliceData0 {x : Operand} {n c : Nat} {ts : Array TypeId} (hx : f.ev x = some (.slice Option.none n c)) :
    OkP P f ⟨d, .call { callee := .builtin .unsafeSliceData, args := #[x], argTypes := ts }, ty, pos, af, g⟩ h (.pointer Option.none) :=
  fun ρ w ha _ => by
    have := Lib.run_unsafeSliceData_nil (P := P) w ts ty n c
    simp [execOp, resolve, invoke, builtin, ha _ _ hx, this]
theorem okE_unsafeString0 {x y : Operand} {pt it : TypeId} {p : Option Addr} {ts : Array TypeId} (hts : ts = #[pt, it]) (hx : f.ev x = some (.pointer p)) (hy : f.ev y = some (In 0)) :
    OkR P f ⟨d, .call { callee := .builtin .unsafeString, args := #[x, y], argTypes := ts }, ty, pos, af, g⟩ h (fun v h' => v = St [] ∧ h' = h) :=
  fun ρ w ha hw => by
    subst hw
    subst hts
    have := Lib.run_unsafeString_none (P := P) w pt it ty p
    refine ⟨_, w, .refl w, ⟨rfl, rfl⟩, .inl ?_⟩
    simp [execOp, resolve, invoke, builtin, ha _ _ hx, ha _ _ hy, this]
    rfl
theorem okE_unsafeString {x y : Operand} {pt it e : TypeId} {b n : Nat} {cs : List Value} {l : List UInt8} {ts : Array TypeId} (hts : ts = #[pt, it]) (hp : P.underlying pt = some (.pointer e)) (hc1 : P.cellsOf e = 1) (hx : f.ev x = some (.pointer (some ⟨b, 0, Option.none⟩))) (hy : f.ev y = some (In n)) (hn : l.length = n)
    (hb : h[b]? = some (.cells ⟨cs⟩ e (0, 0))) (hcs : cs.take n = bys l) (hm : n ≤ maxLen) :
    OkR P f ⟨d, .call { callee := .builtin .unsafeString, args := #[x, y], argTypes := ts }, ty, pos, af, g⟩ h (fun v h' => v = St l ∧ Ext (fun k => k = b) h h') :=
  fun ρ w ha hw => by
    subst hw
    subst hts
    subst hn
    unfold maxLen at hm
    by_cases h0 : l = []
    · subst h0
      have := Lib.run_unsafeString_none (P := P) w pt it ty (some ⟨b, 0, Option.none⟩)
      refine ⟨_, w, .refl w, ⟨rfl, .refl _ _⟩, .inl ?_⟩
      simp [execOp, resolve, invoke, builtin, ha _ _ hx, ha _ _ hy, this]
      rfl
    · have hlen : l.length ≤ cs.length := by
        have := congrArg List.length hcs
        simp at this; omega
      have hsh : w.shape? b = some (e, cs.length) := by simp [World.shape?, hb]
      have hr := Lib.run_unsafeString_row (P := P) w pt it ty e hp hc1 b cs.length hsh l h0 hlen (by omega) (fun j x hj => by
        rw [Addr.add_lit, cell_eq, Nat.zero_add, cell_of hb]
        have hlt := (List.getElem?_eq_some_iff.1 hj).1
        have : (cs.take l.length)[j]? = some (By x) := by rw [hcs]; simp [hj]
        rw [List.getElem?_take, if_pos hlt] at this
        simpa using this)
      refine ⟨_, w.freeze ⟨b, 0, Option.none⟩ l.length, ?_, ⟨rfl, ?_⟩, .inl ?_⟩
      · unfold World.freeze
        split <;> exact ⟨rfl, rfl, rfl, trivial⟩
      · unfold World.freeze
        split
        · exact .refl _ _
        · refine ⟨by simp, fun k _ hk => ?_⟩
          simp only [Array.getElem?_modify]
          rw [if_neg (fun e => hk e.symm)]
      · simp [execOp, resolve, invoke, builtin, ha _ _ hx, ha _ _ hy, hr]

/-! ### a function of the library that the model gives -/
theorem ok_extern {k : FuncId} {x : Operand} {v u : Value} {ts : Array TypeId} (hc : ∀ w : World, (callFunc k #[v]).run P w = .ok (.value u) w) (hx : f.ev x = some v) :
    OkP P f ⟨d, .call { callee := .value (.func k), args := #[x], argTypes := ts }, ty, pos, af, g⟩ h u :=
  fun ρ w ha _ => by
    have e : ρ (.func k) = .func (.func k) #[] #[] := ha _ _ rfl
    simp [execOp, resolve, Deferred.ofValue, invoke, e, ha _ _ hx, hc]
theorem ok_toUnsafe {src dst t e : TypeId} {j : TypeInfo} {x : Operand} {b o : Nat} {cs : List Value} {z : Nat × Nat} (hs : P.underlying src = some (.pointer t)) (hd : P.underlying dst = some .unsafePointer) (ht : P.info? t = some j) (hj : j.size ≠ 0)
    (hx : f.ev x = some (.pointer (some ⟨b, o, Option.none⟩))) (hb : h[b]? = some (.cells ⟨cs⟩ e z)) (ho : o < cs.length) :
    OkP P f ⟨d, .convert src dst x, ty, pos, af, g⟩ h (.pointer (some ⟨b, o, Option.none⟩)) :=
  fun ρ w ha hw => by
    subst hw
    have hsh : w.shape? b = some (e, cs.length) := by simp [World.shape?, hb]
    have := Lib.run_to_unsafe (P := P) w ⟨b, o, Option.none⟩ hs hd ht hj hsh ho
    simp [execOp, ha _ _ hx, this]
theorem ok_fromUnsafe {src dst u e : TypeId} {j : TypeInfo} {x : Operand} {b o : Nat} {cs : List Value} {z : Nat × Nat} (hs : P.underlying src = some .unsafePointer) (hd : P.underlying dst = some (.pointer u)) (hu : P.info? u = some j)
    (hx : f.ev x = some (.pointer (some ⟨b, o, Option.none⟩))) (hb : h[b]? = some (.cells ⟨cs⟩ e z)) (hl : liesAt P P.depth e (cs.length / P.cellsOf e) o u 1 = true) :
    OkP P f ⟨d, .convert src dst x, ty, pos, af, g⟩ h (.pointer (some ⟨b, o, Option.none⟩)) :=
  fun ρ w ha hw => by
    subst hw
    have hsh : w.shape? b = some (e, cs.length) := by simp [World.shape?, hb]
    have := Lib.run_from_unsafe (P := P) w ⟨b, o, Option.none⟩ hs hd hu hsh hl
    simp [execOp, ha _ _ hx, this]
theorem ok_neqPs {t e t2 : TypeId} {j : TypeInfo} {x y : Operand} {a : Addr} (hu : P.underlying t = some (.pointer e)) (he : P.info? e = some j) (hx : f.ev x = some (.pointer (some a))) (hy : f.ev y = some (.pointer (some a))) :
    OkP P f ⟨d, .binOp .neq t x y t2, ty, pos, af, g⟩ h (.bool false) :=
  fun ρ w ha _ => by simp [execOp, ha _ _ hx, ha _ _ hy, eqGuard_at_pointer, Lib.run_neq_ptr_same w a hu he]
end

/-! ### results that lie in memory -/
theorem ld_blk {P : Program} {h : Heap} {t : TypeId} {b k : Nat} {cs : List Value} {e : TypeId} {z : Nat × Nat} (ht : ∀ w, (isAgg t).run P w = .ok true w) (hz : ∀ w, (sizeOf t).run P w = .ok k w) (hb : h[b]? = some (.cells ⟨cs⟩ e z)) (hk : cs.length = k) :
    ∀ w : World, w.heap = h → (loadVar t ⟨b, 0, Option.none⟩).run P w = .ok (.agg ⟨cs⟩) w := fun w hw => by
  subst hw
  subst hk
  have h1 : (loadCells ⟨b, 0, Option.none⟩ cs.length).run P w = .ok cs.toArray w := run_loadCells_list w _ cs fun j v hj => by rw [Addr.add_lit]; exact At.of_block hb j v hj
  simp [loadVar, ht, hz, h1]
theorem ld_cell {P : Program} {h : Heap} {t : TypeId} {b o : Nat} {v : Value} (ht : ∀ w, (isAgg t).run P w = .ok false w) (hc : cell h ⟨b, o, Option.none⟩ = some v) :
    ∀ w : World, w.heap = h → (loadVar t ⟨b, o, Option.none⟩).run P w = .ok v w := fun w hw => by
  subst hw
  have h1 : w.cell? ⟨b, o, Option.none⟩ = some v := hc
  simp [loadVar, ht, h1]

/-! ### rows of one's own, apart -/
theorem own_ne {h : Heap} {v : Value} {e T : TypeId} {sz n b : Nat} {xs cs : List Value} {z : Nat × Nat} (ho : Own h v e sz n xs) (hb : h[b]? = some (.cells ⟨cs⟩ T z)) (hT : T ≠ e) : v.ownBlock ≠ some b := by
  intro h1
  obtain ⟨_, ⟨rfl, _⟩ | ⟨g, cap, cur, rfl, hg, _⟩⟩ := ho
  · cases h1
  · simp only [Value.ownBlock, Option.some.injEq] at h1
    subst h1
    rw [hb] at hg
    simp only [Option.some.injEq, Obj.cells.injEq] at hg
    exact hT hg.2.1
theorem kin_of {h h3 : Heap} {v v' : Value} (hl : v'.ownBlock = v.ownBlock ∨ v'.ownBlock = some h3.size) (hs : h.size ≤ h3.size) : ∀ k, v'.ownBlock = some k → v.ownBlock = some k ∨ h.size ≤ k := by
  intro k hk
  rcases hl with e | e <;> rw [e] at hk
  · exact .inl hk
  · simp only [Option.some.injEq] at hk; exact .inr (by omega)

/-! ### closures -/
section
variable {P : Program} {n : Env} {f : Fr} {h : Heap} {l0 rest : List Oper} {Q : Post}
theorem WL.callT {o : Oper} {t s : Nat} {k : FuncId} {xs : List Operand} {fs vs us : List Value} {ts : Array TypeId} {R : Value → Heap → Prop} (ho : o.op = .call { callee := .value (.tmp s), args := ⟨xs⟩, argTypes := ts })
    (hf : f.get s = some (.func (.func k) ⟨fs⟩ ⟨us⟩))
    (hc : ∀ (args : Array Value) (w : World), (callFunc k args).run P w = .ok (.enter k args) w)
    (hx : xs.map f.ev = vs.map some) (hR : CallsH P k ⟨fs ++ vs ++ us⟩ h R) (hg : goes f l0 o = true) (hd : o.dst = some t) (ht : Nat.blt t n.n = true) (hk : ∀ v h', R v h' → WL P n l0 rest Q ((t, v) :: f) h') : WL P n l0 (o :: rest) Q f h := by
  intro a w ha hw
  refine wpList_step fun K hK => ?_
  rw [if_pos (goes_wanted ha hg)]
  have hargs : xs.map a.eval = vs := by
    clear ho hR
    induction xs generalizing vs with
    | nil => cases vs <;> simp_all
    | cons x xs ih =>
      cases vs with
      | nil => simp at hx
      | cons v vs =>
        simp only [List.map_cons, List.cons.injEq] at hx ⊢
        exact ⟨ha.agrees _ _ hx.1, ih hx.2⟩
  unfold Oper.wp
  have hf' : a.eval (.tmp s) = .func (.func k) ⟨fs⟩ ⟨us⟩ := ha.agrees (.tmp s) _ hf
  have hrun : (execOp a.eval o).run P w = .ok (.enter k ⟨fs ++ vs ++ us⟩) w := by
    have e2 : Array.map a.eval ⟨xs⟩ = ⟨vs⟩ := by rw [← hargs]; simp
    have e3 : (⟨fs⟩ : Array Value) ++ (⟨vs⟩ : Array Value) ++ (⟨us⟩ : Array Value) = ⟨fs ++ vs ++ us⟩ := by simp
    simp only [execOp, ho, resolve, hf', Deferred.ofValue, e2, Sem.run_bind, Sem.run_pure, Result.andThen_ok, invoke, e3]
    exact hc _ _
  rw [hrun]
  simp only [Oper.upon]
  refine (hR w hw).mono fun e w' ⟨hs, v, he, hv⟩ => ?_
  subst he
  rw [hd]
  exact hK _ _ (toAct_mono hs _ _ _ (hk v _ hv _ w' (ha.put ht _) rfl))
end
end Go.RK
