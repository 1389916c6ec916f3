/-
  SEVERAL TEXTS IN ONE: Wv5, Wv6, Wv7, Wv8, Hv13, Hv14, Hv15, Wv9, SeX.
-/
import Derived.Test.YtdjjpbbhcidaaaaGreatDoorPSoloNobody3
import Derived.Test.YtdjjpbbhcidaaaaGreatDoorRows
import Derived.Lay
import Derived.LaidLaws
import Derived.LaidHandle
import Derived.Stop.Joined
/-
  SESSIONS (layer 30), alone: a Sync where nothing goes on; the bytes of what is said.
-/
namespace Go.Proofs.YtdjjpbbhcidaaaaGreatDoor
open Go Go.RK

theorem mp_no {h : Heap} {m b : Nat} {L : List (List UInt8 × Value)} {cs : Array Value} {T : TypeId} {z : Nat × Nat} (hm : Mp .string St h m L) (hb : h[b]? = some (.cells cs T z)) : ¬ b = m := fun e => by
  subst e
  obtain ⟨_, _, e, _⟩ := hm
  rw [hb] at e
  cases e
/-- A session at bs that nobody has asked anything. -/
structure SeS (h : Heap) (bs bp mp : Nat) : Prop where
  blk : ∃ m e, h[bs]? = some (.cells ⟨[m, .pointer (some ⟨bp, 0, none⟩), .pointer (some e), .int .u8 73, .bool false, .bool false]⟩ 109 (0, 0))
  pb : h[bp]? = some (.cells ⟨[.map (some mp)]⟩ 234 (0, 0))
  pm : Mp .string St h mp ([] : List (List UInt8 × Value))
theorem SeS.ext {h h' : Heap} {bs bp mp : Nat} {S : Nat → Prop} (k : SeS h bs bp mp) (x : Ext S h h') (h1 : ¬ S bs) (h2 : ¬ S bp) (h3 : ¬ S mp) : SeS h' bs bp mp := by
  obtain ⟨⟨m, e, hb⟩, h4, h5⟩ := k
  exact ⟨⟨m, e, x.obj hb h1⟩, x.obj h4 h2, h5.ext x h3⟩
theorem SeS.ext0 {h h' : Heap} {bs bp mp : Nat} (k : SeS h bs bp mp) (x : Ext No h h') : SeS h' bs bp mp := k.ext x nos nos nos
section
variable {h h' : Heap} {bs bp mp : Nat}
set_option maxHeartbeats 2000000 in
set_option maxRecDepth 100000 in
theorem syncS (k : SeS h bs bp mp) : CallsH Tryz.prog 61 ⟨[.pointer (some ⟨bs, 0, none⟩)]⟩ h fun u h' => u = .agg ⟨(gB 90 73 0 0).cells⟩ ∧ SeS h' bs bp mp ∧ Ext (fun q => q = mp) h h' := by
  obtain ⟨⟨m, e, hb⟩, hpb, hpm⟩ := id k
  have n1 := mp_no hpm hb
  have n2 := mp_no hpm hpb
  refine calls [(0, _)] Tryz.func61 rfl Tryz.ntmps61 rfl ⟨rfl, trivial⟩ ?_
  all_goals (refine WC.sr ?_)
  all_goals (refine WL.stepR (okE_alloc (fun w => Tryz.zeroValue92 w)) rfl rfl rfl ?_
             rintro _ h1 ⟨b2, rfl, hg1, hb2, hx1⟩
             have hb1 := hx1.obj hb nos)
  all_goals (refine Gn ?_)
  all_goals (refine WC.seq ?_)
  all_goals (refine WC.sr ?_)
  all_goals (refine Go ?_)
  all_goals (refine WL.step (ok_nilCheck rfl) rfl rfl rfl ?_)
  all_goals (refine Go ?_)
  all_goals (refine WL.ld rfl (by first | exact cell_blk hb1 rfl | assumption | exact cell_blk (by assumption) rfl) rfl rfl rfl ?_)
  all_goals (refine Go ?_)
  all_goals (refine Gs [(0, _), (2, _), (7, _)] ?_)
  all_goals (refine goC 1 2 ?_ ?_ <;> first | exact ⟨⟩ | refine Hb.mk fun hb => ?_ | skip)
  all_goals (first | (fail_if_success refine goB 1 ?_) | (
  refine goB 1 ?_
  all_goals (refine WC.region ?_)
  all_goals (refine Go ?_)
  all_goals (refine WL.step (ok_nilCheck rfl) rfl rfl rfl ?_)
  all_goals (refine Go ?_)
  all_goals (refine WL.ld rfl (by first | exact cell_blk hb1 rfl | assumption | exact cell_blk (by assumption) rfl) rfl rfl rfl ?_)
  all_goals (refine WL.call (vs := [_]) rfl (fun a w => Tryz.call104 a w) rfl (clear_e (hx1.obj hpb nos) (hpm.ext hx1 nos)) rfl rfl rfl ?_
             rintro _ h2 ⟨rfl, hm2, hx2⟩
             have hb22 := hx2.obj hb1 n1
             have hb23 := hx2.obj hb2 (mp_no (hpm.ext hx1 nos) hb2))
  all_goals (refine Gn ?_)
  skip))
  all_goals (first | (fail_if_success refine goB 2 ?_) | (
  refine goB 2 ?_
  all_goals (refine WC.skip ?_)
  skip))
  all_goals (refine Gn ?_)
  all_goals (refine WC.sr ?_)
  all_goals (refine Go ?_)
  all_goals (refine WL.step (ok_nilCheck rfl) rfl rfl rfl ?_)
  all_goals (refine Go ?_)
  all_goals (refine WL.ld rfl (by first | exact cell_blk hb22 rfl | assumption | exact cell_blk (by assumption) rfl) rfl rfl rfl ?_)
  all_goals (refine WL.step (ok_buildF (vs := [_, _]) (cs := [_, _, _, _, _, _, _, _, _, _, _]) (fun | [a0, a1] => [a0, a1, (St []), (St []), (St []), (.int .i64 0), (.int .i64 0), (.slice none 0 0), (.slice none 0 0), (.slice none 0 0), (.slice none 0 0)] | _ => []) rfl rfl (by kernel_rfl)) rfl rfl rfl ?_)
  all_goals (refine WL.stepR0 (okE_storeW (fun w => Tryz.sizeOf92 w) rfl rfl rfl hb23 rfl (by simp [Value.oneCell'])) rfl rfl ?_
             rintro _ h3 ⟨hb3, hx3⟩
             have lb := lt_of_some hb
             have lp := lt_of_some hpb)
  all_goals (refine Gn ?_)
  all_goals (refine Gs [(2, _)] ?_)
  all_goals (refine WC.ret ?_)
  all_goals (repeat' (with_reducible first | refine thenP_r ?_ | refine blockP_r ?_))
  all_goals (refine retP_1 _ ⟨⟨_, rfl, ld_blk (fun w => Tryz.isAgg92 w) (fun w => Tryz.sizeOf92 w) hb3 rfl⟩, trivial⟩ ?_)
  all_goals (exact ⟨rfl, ⟨⟨m, e, hx3.obj hb22 (fun e => by omega)⟩, hx3.obj (hx2.obj (hx1.obj hpb nos) n2) (fun e => by omega), hm2.ext hx3 (fun e => mp_no hm2 hb23 e.symm)⟩, ((hx1.mono fun _ _ e => e.elim).trans hx2).trans' hx3 (fun q hq e => by omega)⟩)
theorem readyS (k : SeS h bs bp mp) : CallsH Tryz.prog 60 ⟨[.pointer (some ⟨bs, 0, none⟩)]⟩ h fun u h' => u = .bool true ∧ h' = h := by
  obtain ⟨⟨m, e, hb⟩, _, _⟩ := id k
  exact ready_yes hb
set_option maxHeartbeats 2000000 in
set_option maxRecDepth 100000 in
theorem statusS (k : SeS h bs bp mp) : CallsH Tryz.prog 77 ⟨[.pointer (some ⟨bs, 0, none⟩)]⟩ h fun u h' => u = .int .u8 73 ∧ h' = h := by
  obtain ⟨⟨m, e, hb⟩, _, _⟩ := id k
  refine calls [(0, _)] Tryz.func77 rfl Tryz.ntmps77 rfl ⟨rfl, trivial⟩ ?_
  all_goals (refine WC.sr ?_)
  all_goals (refine Go ?_)
  all_goals (refine WC.seq ?_)
  all_goals (refine WC.sr ?_)
  all_goals (refine Go ?_)
  all_goals (refine WL.step (ok_eqlPn Tryz.underlying27 rfl rfl) rfl rfl rfl ?_)
  all_goals (refine Gn ?_)
  all_goals (refine goC 1 2 ?_ ?_ <;> first | exact ⟨⟩ | refine Hb.mk fun hb => ?_ | skip)
  all_goals (first | (fail_if_success refine goB 1 ?_) | (
  refine goB 1 ?_
  all_goals (refine WC.sr ?_)
  all_goals (refine Go ?_)
  all_goals (refine Gt ?_)
  all_goals (exact ⟨rfl, rfl⟩)
  skip))
  all_goals (first | (fail_if_success refine goB 2 ?_) | (
  refine goB 2 ?_
  all_goals (refine WC.skip ?_)
  skip))
  all_goals (refine Gn ?_)
  all_goals (refine WC.sr ?_)
  all_goals (refine Go ?_)
  all_goals (refine WL.step (ok_nilCheck rfl) rfl rfl rfl ?_)
  all_goals (refine Go ?_)
  all_goals (refine WL.ld rfl (by first | exact cell_blk hb rfl | assumption | exact cell_blk (by assumption) rfl) rfl rfl rfl ?_)
  all_goals (refine Go ?_)
  all_goals (refine Gs [(2, _)] ?_)
  all_goals (refine Gt ?_)
  all_goals (exact ⟨rfl, rfl⟩)
set_option maxHeartbeats 2000000 in
set_option maxRecDepth 100000 in
theorem doS (k : SeS h bs bp mp) : CallsH Tryz.prog 28 ⟨[.pointer (some ⟨bs, 0, none⟩), .agg ⟨syC⟩]⟩ h fun u h' => ∃ q, u = .slice (some ⟨q, 0, none⟩) 1 1 ∧ h'[q]? = some (.cells ⟨(gB 90 73 0 0).cells⟩ 92 (0, 0)) ∧ SeS h' bs bp mp ∧ Ext (fun q => q = bs ∨ q = mp) h h' ∧ h.size ≤ q := by
  have kr := fun (g : Heap) (k : SeS g bs bp mp) => readyS k
  have ks := fun (g : Heap) (k : SeS g bs bp mp) => syncS k
  obtain ⟨⟨m, e, hb⟩, hpb, hpm⟩ := id k
  have n1 := mp_no hpm hb
  have nbp : bp ≠ bs := fun e => by rw [e, hb] at hpb; simp at hpb
  dsimp only [Bk.cells, gB] at ks ⊢
  refine calls [(0, _), (1, _)] Tryz.func28 rfl Tryz.ntmps28 rfl ⟨rfl, rfl, trivial⟩ ?_
  all_goals (refine WC.sr ?_)
  all_goals (refine WL.stepR (okE_box rfl) rfl rfl rfl ?_
             rintro _ h1 ⟨b3, rfl, hg1, hb1, hx1⟩
             have hbs1 := hx1.obj hb nos)
  all_goals (refine Go ?_)
  all_goals (refine WC.seq ?_)
  all_goals (refine WC.sr ?_)
  all_goals (refine Go ?_)
  all_goals (refine WL.call (vs := [_]) rfl (fun a w => Tryz.call60 a w) rfl (kr _ (k.ext0 hx1)) rfl rfl rfl ?_
             rintro _ hq ⟨rfl, hz⟩
             replace hz := hz.symm
             subst hz)
  all_goals (refine Go ?_)
  all_goals (refine Gs [(0, _), (3, _), (10, _)] ?_)
  all_goals (refine goC 1 2 ?_ ?_ <;> first | exact ⟨⟩ | refine Hb.mk fun hb => ?_ | skip)
  all_goals (first | (fail_if_success refine goB 1 ?_) | (
  refine goB 1 ?_
  all_goals (refine WC.sr ?_)
  all_goals (refine Go ?_)
  all_goals (refine Gt ?_)
  all_goals (exact ⟨b4, rfl, hb4, k3.ext0 hx4, (((hx1.mono fun _ _ e => e.elim).trans (hx2.mono fun _ _ e => .inl e)).trans (hx3.mono fun _ _ e => .inr e)).trans (hx4.mono fun _ _ e => e.elim), by have := hx1.size; have := hx2.size; have := hx3.size; omega⟩)
  skip))
  all_goals (first | (fail_if_success refine goB 2 ?_) | (
  refine goB 2 ?_
  all_goals (refine WC.skip ?_)
  skip))
  all_goals (refine Gn ?_)
  all_goals (refine WC.seq ?_)
  all_goals (refine WC.block ?_)
  all_goals (refine WC.sr ?_)
  all_goals (refine Go ?_)
  all_goals (refine WL.ld rfl (by first | exact cell_blk hb1 rfl | assumption | exact cell_blk (by assumption) rfl) rfl rfl rfl ?_)
  all_goals (refine Go ?_)
  all_goals (refine Gs [(0, _), (3, _), (11, _)] ?_)
  all_goals (refine goC 3 4 ?_ ?_ <;> first | exact ⟨⟩ | refine Hb.mk fun hb => ?_ | skip)
  all_goals (first | (fail_if_success refine goB 3 ?_) | (
  refine goB 3 ?_
  all_goals (refine WC.sr ?_)
  all_goals (refine Go ?_)
  all_goals (refine WL.step (ok_nilCheck rfl) rfl rfl rfl ?_)
  all_goals (refine Go ?_)
  all_goals (refine WL.stepR0 (okE_store (fun w => Tryz.sizeOf4 w) rfl rfl (by assumption) (Nat.le_of_ble_eq_true rfl) rfl rfl) rfl rfl ?_
             rintro _ h1 ⟨hb1, hx1⟩)
  all_goals (refine Gn ?_)
  all_goals (refine Gs [] ?_)
  all_goals (refine WC.sr ?_)
  all_goals (refine Go ?_)
  all_goals (refine Gt ?_)
  all_goals (exact ⟨b4, rfl, hb4, k3.ext0 hx4, (((hx1.mono fun _ _ e => e.elim).trans (hx2.mono fun _ _ e => .inl e)).trans (hx3.mono fun _ _ e => .inr e)).trans (hx4.mono fun _ _ e => e.elim), by have := hx1.size; have := hx2.size; have := hx3.size; omega⟩)
  skip))
  all_goals (first | (fail_if_success refine goB 4 ?_) | (
  refine goB 4 ?_
  all_goals (refine WC.sr ?_)
  all_goals (refine Go ?_)
  all_goals (refine WL.ld rfl (by first | exact cell_blk hb1 rfl | assumption | exact cell_blk (by assumption) rfl) rfl rfl rfl ?_)
  all_goals (refine Go ?_)
  all_goals (refine Gs [(0, _), (3, _), (18, _)] ?_)
  all_goals (refine goC 5 6 ?_ ?_ <;> first | exact ⟨⟩ | refine Hb.mk fun hb => ?_ | skip)
  all_goals (first | (fail_if_success refine goB 5 ?_) | (
  refine goB 5 ?_
  all_goals (refine WC.sr ?_)
  all_goals (refine Go ?_)
  all_goals (refine WL.step (ok_nilCheck rfl) rfl rfl rfl ?_)
  all_goals (refine Go ?_)
  all_goals (refine WL.stepR0 (okE_store (fun w => Tryz.sizeOf4 w) rfl rfl hbs1 (Nat.le_of_ble_eq_true rfl) rfl rfl) rfl rfl ?_
             rintro _ h2 ⟨hb2, hx2⟩
             have k2 : SeS h2 bs bp mp := ⟨⟨m, e, hb2⟩, hx2.obj (hx1.obj hpb nos) nbp, (hpm.ext hx1 nos).ext hx2 (fun e => n1 e.symm)⟩)
  all_goals (refine Gn ?_)
  all_goals (refine Gs [(0, _)] ?_)
  all_goals (refine WC.sr ?_)
  all_goals (refine Go ?_)
  all_goals (refine WL.call (vs := [_]) rfl (fun a w => Tryz.call61 a w) rfl (ks _ k2) rfl rfl rfl ?_
             rintro _ h3 ⟨rfl, k3, hx3⟩)
  all_goals (refine WL.stepR (okE_buildSlice (vs := [_]) (cs := [_, _, _, _, _, _, _, _, _, _, _]) (fun | [.agg ⟨[a0, a1, a2, a3, a4, a5, a6, a7, a8, a9, a10]⟩] => [a0, a1, a2, a3, a4, a5, a6, a7, a8, a9, a10] | _ => []) Tryz.underlying62 rfl rfl (by kernel_rfl)) rfl rfl rfl ?_
             rintro _ h4 ⟨b4, rfl, hg4, hb4, hx4⟩)
  all_goals (refine Go ?_)
  all_goals (refine Gs [(4, _)] ?_)
  all_goals (refine Gt ?_)
  all_goals (exact ⟨b4, rfl, hb4, k3.ext0 hx4, (((hx1.mono fun _ _ e => e.elim).trans (hx2.mono fun _ _ e => .inl e)).trans (hx3.mono fun _ _ e => .inr e)).trans (hx4.mono fun _ _ e => e.elim), by have := hx1.size; have := hx2.size; have := hx3.size; omega⟩)
  skip))
  all_goals (first | (fail_if_success refine goB 6 ?_) | (
  refine goB 6 ?_
  all_goals (refine WC.sr ?_)
  all_goals (refine Go ?_)
  all_goals (refine WL.step (ok_nilCheck rfl) rfl rfl rfl ?_)
  all_goals (refine Go ?_)
  all_goals (refine Ld ?_)
  all_goals (refine Go ?_)
  all_goals (refine Gs [(0, _), (3, _), (28, _)] ?_)
  all_goals (refine goC 7 8 ?_ ?_ <;> first | exact ⟨⟩ | refine Hb.mk fun hb => ?_ | skip)
  all_goals (first | (fail_if_success refine goB 7 ?_) | (
  refine goB 7 ?_
  all_goals (refine WC.sr ?_)
  all_goals (refine Go ?_)
  all_goals (refine Gt ?_)
  all_goals (exact ⟨b4, rfl, hb4, k3.ext0 hx4, (((hx1.mono fun _ _ e => e.elim).trans (hx2.mono fun _ _ e => .inl e)).trans (hx3.mono fun _ _ e => .inr e)).trans (hx4.mono fun _ _ e => e.elim), by have := hx1.size; have := hx2.size; have := hx3.size; omega⟩)
  skip))
  all_goals (first | (fail_if_success refine goB 8 ?_) | (
  refine goB 8 ?_
  all_goals (refine WC.skip ?_)
  skip))
  skip))
  skip))
  all_goals (refine Gn ?_)
  all_goals (refine WC.sr ?_)
  all_goals (refine Go ?_)
  all_goals (refine WL.step (ok_loadN (fun w => Tryz.isAgg34 w) (fun w => Tryz.sizeOf34 w) rfl rfl (by assumption)) rfl rfl rfl ?_)
  all_goals (fail "no contract for call of (*remuda/sess.Session).deal at 11.2")
  all_goals (refine Go ?_)
  all_goals (refine Gs [(0, _), (3, _), (5, _), (6, _)] ?_)
  all_goals (refine WC.sr ?_)
  all_goals (refine WL.stepR (okE_alloc (fun w => Tryz.zeroValue116 w)) rfl rfl rfl ?_
             rintro _ h1 ⟨b1, rfl, hg1, hb1, hx1⟩)
  all_goals (refine Gn ?_)
  all_goals (refine WC.seq ?_)
  all_goals (refine WC.sr ?_)
  all_goals (refine Go ?_)
  all_goals (refine WL.step (ok_mkIface ⟨_, Tryz.underlying118, fun _ h => by cases h⟩ rfl) rfl rfl rfl ?_)
  all_goals (fail "no contract for call of errors.As at 13.2")
  all_goals (refine Gn ?_)
  all_goals (refine goC 9 10 ?_ ?_ <;> first | exact ⟨⟩ | refine Hb.mk fun hb => ?_ | skip)
  all_goals (first | (fail_if_success refine goB 10 ?_) | (
  refine goB 10 ?_
  all_goals (refine WC.skip ?_)
  skip))
  all_goals (refine Gn ?_)
  all_goals (refine WC.seq ?_)
  all_goals (refine WC.sr ?_)
  all_goals (refine Go ?_)
  all_goals (refine Ld ?_)
  all_goals (refine Go ?_)
  all_goals (refine Gs [(0, _), (5, _), (56, _)] ?_)
  all_goals (refine goC 11 12 ?_ ?_ <;> first | exact ⟨⟩ | refine Hb.mk fun hb => ?_ | skip)
  all_goals (first | (fail_if_success refine goB 12 ?_) | (
  refine goB 12 ?_
  all_goals (refine WC.skip ?_)
  skip))
  all_goals (refine Gn ?_)
  all_goals (refine WC.sr ?_)
  all_goals (refine Go ?_)
  all_goals (refine Gs [(4, _)] ?_)
  all_goals (refine Gt ?_)
  all_goals (exact ⟨b4, rfl, hb4, k3.ext0 hx4, (((hx1.mono fun _ _ e => e.elim).trans (hx2.mono fun _ _ e => .inl e)).trans (hx3.mono fun _ _ e => .inr e)).trans (hx4.mono fun _ _ e => e.elim), by have := hx1.size; have := hx2.size; have := hx3.size; omega⟩)
end
/-- Bytes of messages. -/
def EncB (k : Int) (E : List UInt8) (g : Heap) (u : Value) (g' : Heap) : Prop := ∃ v', u = .tuple ⟨[.agg ⟨[.int .u8 k, v']⟩, In 0]⟩ ∧ Own g' v' 5 1 E.length (bys E) ∧ Ext No g g'
set_option maxHeartbeats 2000000 in
set_option maxRecDepth 100000 in
theorem bytes_v {h : Heap} {v : Value} (L : List Bk) (E : Bk → List UInt8) (hv : Rd h v 11 L.length (L.flatMap Bk.cells)) (hm : L.length ≤ 100) (hE : ∀ y ∈ L, (E y).length ≤ 1000) (hk : ∀ y ∈ L, 0 < y.kind ∧ y.kind ≤ 255) (hone : ∀ y ∈ L, ∀ v ∈ y.cells, v.oneCell' = true)
    (hke : ∀ y ∈ L, ∀ g : Heap, CallsH Tryz.prog 59 ⟨[.agg ⟨y.cells⟩]⟩ g (EncB y.kind (E y) g)) :
    CallsH Tryz.prog 40 ⟨[v]⟩ h fun u h' => Own h' u 5 1 (L.flatMap fun y => frB y.kind (E y)).length (bys (L.flatMap fun y => frB y.kind (E y))) ∧ Ext No h h' ∧ ∀ k, u.ownBlock = some k → h.size ≤ k := by
  have hfl : ∀ y, (frB y.kind (E y)).length = 5 + (E y).length := fun y => by simp [frB, be_len]; omega
  have hlen : ∀ j, ((L.take j).flatMap fun y => frB y.kind (E y)).length ≤ L.length * 1005 := fun j => by
    have : ∀ l : List Bk, (∀ y ∈ l, y ∈ L) → (l.flatMap fun y => frB y.kind (E y)).length ≤ l.length * 1005 := fun l => by
      induction l with
      | nil => simp
      | cons a l ih => intro hl; rw [List.flatMap_cons, List.length_append, hfl, List.length_cons]; have := ih (fun y hy => hl y (by simp [hy])); have := hE a (hl a (by simp)); omega
    refine Nat.le_trans (this _ fun y hy => List.mem_of_mem_take hy) (Nat.mul_le_mul_right _ (by rw [List.length_take]; omega))
  obtain ⟨A, c, rfl, _⟩ := id hv
  refine calls [(0, _)] Tryz.func40 rfl Tryz.ntmps40 rfl ⟨rfl, trivial⟩ ?_
  all_goals (refine WC.sr ?_)
  all_goals (refine Go ?_)
  all_goals (refine WC.sr ?_)
  all_goals (refine Go ?_)
  all_goals (refine WC.seq ?_)
  all_goals (refine WC.sr ?_)
  all_goals (refine Go ?_)
  all_goals (refine WC.block ?_)
  -- loop 0: slots that turn [3, 10], that stay [8, 9]
  all_goals (refine WC.loopG (X := Nat × Value) (fun x => ([(10, In (x.1 : Int)), (3, x.2)] : Fr)) [(8, _), (9, _)] (fun y h' => y.1 ≤ L.length ∧ Ext No h h' ∧ Own h' y.2 5 1 ((L.take y.1).flatMap fun y => frB y.kind (E y)).length (bys ((L.take y.1).flatMap fun y => frB y.kind (E y))) ∧ ∀ k, y.2.ownBlock = some k → h.size ≤ k) (fun y => L.length - y.1) ((0, .slice none 0 0)) ⟨rfl, rfl, rfl, rfl, trivial⟩ (by exact ⟨Nat.zero_le _, .refl _ _, Own.nil _ _ _, fun q hq => by cases hq⟩) ?_)
  all_goals (rintro ⟨j, w⟩ h1 ⟨hj, hx1, ho1, hf1⟩
             dsimp only at hj ho1 hf1)
  all_goals (refine WC.sub [(3, _), (10, _), (8, _), (9, _)] ⟨rfl, rfl, rfl, rfl, trivial⟩ ?_)
  all_goals (dsimp only)
  all_goals (refine WC.sr ?_)
  all_goals (refine Go ?_)
  all_goals (refine WC.seq ?_)
  all_goals (refine goC 1 2 ?_ ?_ <;> first | exact ⟨⟩ | refine Hb.mk fun hb => ?_ | skip)
  all_goals (first | (fail_if_success refine goB 1 ?_) | (
  refine goB 1 ?_
  all_goals (refine WC.skip ?_)
  skip))
  all_goals (first | (fail_if_success refine goB 2 ?_) | (
  refine goB 2 ?_
  all_goals (refine WC.exit ?_)
  all_goals (repeat' (with_reducible first | refine thenP_x ?_ | refine blockP_miss rfl ?_ | refine blockP_hit ?_ | refine blockP_n ?_ | refine thenP_n ?_))
  all_goals (refine Br.out (i := 1000) ?_)
  skip))
  all_goals (refine Gn ?_)
  all_goals (first | (refine Br.keep ?_) | (refine WC.seq ?_))
  all_goals (first | (refine Br.keep ?_) | (refine WC.block ?_))
  all_goals (first | (refine Br.keep ?_) | (refine WC.sr ?_))
  all_goals (first
               | (refine Br.keep ?_)
               | (obtain ⟨y, hy⟩ : ∃ y, L[j]? = some y := ⟨_, List.getElem?_eq_getElem (by omega)⟩
                  have hmy := List.mem_of_getElem? hy
                  obtain ⟨bL, oL, hA, hbL, hat⟩ := Rd.at_ (hv.ext0 hx1) (by omega)
                  subst hA
                  have hel := hat.elem (sz := 11) (fun _ => rfl) hy
                  have kee := hke y hmy
                  have hlj := hlen j))
  all_goals (first | (refine Br.keep ?_) | (refine WL.step (ok_idxAddrA Tryz.underlying62 (fun w => Tryz.sizeOf92 w) rfl rfl rfl (by omega) (by first | rfl | assumption)) rfl rfl rfl ?_))
  all_goals (first | (refine Br.keep ?_) | (refine WL.step (ok_loadN (fun w => Tryz.isAgg92 w) (fun w => Tryz.sizeOf92 w) rfl rfl (by exact hel)) rfl rfl rfl ?_))
  all_goals (first
               | (refine Br.keep ?_)
               | (refine WL.stepR (okE_alloc (fun w => Tryz.zeroValue92 w)) rfl rfl rfl ?_
                  rintro _ h2 ⟨b5, rfl, hg5, hb5, hx2⟩))
  all_goals (first
               | (refine Br.keep ?_)
               | (refine WL.stepR0 (okE_storeW (fun w => Tryz.sizeOf92 w) rfl rfl rfl hb5 rfl (fun v hv => hone y hmy v hv)) rfl rfl ?_
                  rintro _ h3 ⟨hb53, hx3⟩
                  have X3 : Ext No h1 h3 := hx2.trans' hx3 (fun q hq e => by omega)))
  all_goals (refine Gn ?_)
  all_goals (first | (refine Br.keep ?_) | (refine WC.sr ?_))
  all_goals (first | (refine Br.keep ?_) | (refine WL.step (ok_loadN (fun w => Tryz.isAgg92 w) (fun w => Tryz.sizeOf92 w) rfl rfl (by exact At.of_block hb53)) rfl rfl rfl ?_))
  all_goals (first
               | (refine Br.keep ?_)
               | (refine WL.call (vs := [_]) rfl (fun a w => Tryz.call59 a w) rfl (kee _) rfl rfl rfl ?_
                  rintro _ h4 ⟨v4, rfl, ho4, hx4⟩
                  obtain ⟨A4, c4, rfl, _⟩ := id ho4.slice))
  all_goals (refine Go ?_)
  all_goals (first
               | (refine Br.keep ?_)
               | (refine WL.stepR (okE_alloc (fun w => Tryz.zeroValue38 w)) rfl rfl rfl ?_
                  rintro _ h5 ⟨b6, rfl, hg6, hb6, hx5⟩))
  all_goals (first
               | (refine Br.keep ?_)
               | (refine WL.stepR0 (okE_storeW (fun w => Tryz.sizeOf38 w) rfl rfl rfl hb6 rfl (by simp [Value.oneCell'])) rfl rfl ?_
                  rintro _ h6 ⟨hb66, hx6⟩
                  have hX46 : Ext No h4 h6 := hx5.trans' hx6 (fun q hq e => by omega)
                  have ho46 := ho4.ext hX46 (fun _ _ => nos)))
  all_goals (refine Go ?_)
  all_goals (first | (refine Br.keep ?_) | (refine Gs [(3, _), (6, _), (7, _), (8, _), (9, _), (10, _)] ?_))
  all_goals (first | (refine Br.keep ?_) | (refine WC.seq ?_))
  all_goals (first | (refine Br.keep ?_) | (refine WC.sr ?_))
  all_goals (refine Go ?_)
  all_goals (first | (refine Br.keep ?_) | (refine goC 3 4 ?_ ?_ <;> first | exact ⟨⟩ | refine Hb.mk fun hb => ?_ | skip))
  all_goals (first | (fail_if_success refine goB 3 ?_) | (
  refine goB 3 ?_
  all_goals (refine WC.exit ?_)
  all_goals (repeat' (with_reducible first | refine thenP_x ?_ | refine blockP_miss rfl ?_ | refine blockP_hit ?_ | refine blockP_n ?_ | refine thenP_n ?_))
  all_goals (refine Br.out (i := 1001) ?_)
  skip))
  all_goals (first | (fail_if_success refine goB 4 ?_) | (
  refine goB 4 ?_
  all_goals (refine WC.skip ?_)
  skip))
  all_goals (refine Gn ?_)
  all_goals (first | (refine Br.keep ?_) | (refine WC.region ?_))
  all_goals (refine Go ?_)
  all_goals (first | (refine Br.keep ?_) | (refine WL.step (ok_loadN (fun w => Tryz.isAgg38 w) (fun w => Tryz.sizeOf38 w) rfl rfl (by exact At.of_block hb66)) rfl rfl rfl ?_))
  all_goals (first
               | (refine Br.keep ?_)
               | (refine WL.call (vs := [_]) rfl (fun a w => Tryz.call75 a w) rfl (frame_v y.kind (hk y hmy) (E y) ho46.rd (by have := hE y hmy; omega)) rfl rfl rfl ?_
                  rintro v7 h7 ⟨ho7, hx7⟩
                  obtain ⟨A7, c7, rfl, _⟩ := id ho7.slice
                  have X7 : Ext No h1 h7 := ((X3.trans hx4).trans hX46).trans hx7
                  have hfy := hfl y
                  have hEy := hE y hmy))
  all_goals (first
               | (refine Br.keep ?_)
               | (refine WL.stepR (ok_append (sz := 1) (bytes := 1) rfl Tryz.underlying22 (show Tryz.prog.info? 5 = some Tryz.t5 by kernel_rfl) rfl rfl rfl rfl (by decide) rfl rfl (ho1.ext X7 (fun _ _ => nos)) ho7.rd (by intro c hc; obtain ⟨b, _, rfl⟩ := List.mem_map.1 hc; rfl) (by unfold maxLen; omega) (by omega)) rfl rfl rfl ?_
                  rintro v8 h8 ⟨ho8, hx8, hl8⟩
                  have X8 : Ext No h h8 := (hx1.trans X7).trans' hx8 (fun q hq e => by have := hf1 q e; omega)
                  have hr8 : Own h8 v8 5 1 ((L.take (j + 1)).flatMap fun y => frB y.kind (E y)).length (bys ((L.take (j + 1)).flatMap fun y => frB y.kind (E y))) := by rw [List.take_add_one, hy, List.flatMap_append, List.length_append, bys_app]; simpa using ho8))
  all_goals (refine Go ?_)
  all_goals (try (refine Br.mk (i := 1001) ?_))
  all_goals (refine Gn ?_)
  all_goals (first | (refine Br.keep ?_) | (refine Gs [(3, _), (8, _), (9, _), (10, _)] ?_))
  all_goals (first | (refine Br.keep ?_) | (refine WC.region ?_))
  all_goals (refine Go ?_)
  all_goals (first | (refine Br.keep ?_) | (exact ⟨(j + 1, _), ⟨rfl, rfl, rfl, rfl, trivial⟩, (by exact ⟨by omega, X8, hr8, fresh_of hl8 hf1 (by have := X7.size; have := hx1.size; omega)⟩), (by dsimp only; omega)⟩))
  all_goals (try (refine Br.mk (i := 1000) ?_))
  all_goals (refine Gn ?_)
  all_goals (refine Gs [(3, _)] ?_)
  all_goals (refine WC.sr ?_)
  all_goals (refine Go ?_)
  all_goals (refine Gt ?_)
  all_goals (rw [List.take_of_length_le (by omega)] at ho1
             exact ⟨ho1, hx1, hf1⟩)
end Go.Proofs.YtdjjpbbhcidaaaaGreatDoor


/-
  A CLIENT ALONE (layer 44), by the code: what it is made of.
-/
namespace Go.Proofs.YtdjjpbbhcidaaaaGreatDoor
open Go Go.RK

def encG (y : Bk) : List UInt8 := if y.kind = 82 then be 0 4 else if y.kind = 75 then be 1 4 ++ be 7919 4 else [73]
abbrev greet28 : List UInt8 := greetL.flatMap fun y => frB y.kind (encG y)
abbrev z6 : List UInt8 := frB 90 [73]
theorem encB_of {h : Heap} {k st n m : Int} {L : List UInt8} (hc : First3 k st n m L) : CallsH Tryz.prog 59 ⟨[.agg ⟨(gB k st n m).cells⟩]⟩ h (EncB k L h) :=
  (enc_g hc).mono fun _ _ ⟨v', e, ho, hx, _⟩ => ⟨v', e, ho, hx⟩
theorem encZ {h : Heap} : CallsH Tryz.prog 59 ⟨[.agg ⟨(gB 90 73 0 0).cells⟩]⟩ h (EncB 90 [73] h) := encB_of (.inr (.inr ⟨rfl, rfl, rfl, rfl, rfl⟩))
set_option maxHeartbeats 2000000 in
set_option maxRecDepth 100000 in
theorem greet_bytes {h : Heap} : CallsH Tryz.prog 73 ⟨[.slice none 0 0, In 0]⟩ h fun u h' => Own h' u 5 1 28 (bys greet28) ∧ Ext No h h' ∧ ∀ q, u.ownBlock = some q → h.size ≤ q := by
  have kb := fun (g : Heap) (v : Value) (hv : Rd g v 11 3 greetC) => bytes_v greetL encG (by simpa [greetC] using hv) (by decide) (by decide) (by decide) (by simp [gB, Bk.cells, Value.oneCell']) (fun y hy g => by
    simp only [List.mem_cons, List.not_mem_nil, or_false] at hy
    rcases hy with rfl | rfl | rfl
    · exact encB_of (.inl ⟨rfl, rfl, rfl, rfl, rfl⟩)
    · exact encB_of (.inr (.inl ⟨rfl, rfl, rfl, rfl, rfl⟩))
    · exact encB_of (.inr (.inr ⟨rfl, rfl, rfl, rfl, rfl⟩)))
  refine calls [(0, _), (1, _)] Tryz.func73 rfl Tryz.ntmps73 rfl ⟨rfl, rfl, trivial⟩ ?_
  all_goals (refine WC.sr ?_)
  all_goals (refine Go ?_)
  all_goals (refine WC.sr ?_)
  all_goals (refine Go ?_)
  all_goals (refine WL.call (vs := [_, _]) rfl (fun a w => Tryz.call52 a w) rfl (backs0) rfl rfl rfl ?_
             rintro v1 h1 ⟨ho1, hx1, hf1⟩
             obtain ⟨A1, c1, rfl, _⟩ := id ho1.slice)
  all_goals (refine WL.call (vs := [_]) rfl (fun a w => Tryz.call40 a w) rfl (kb _ _ ho1.rd) rfl rfl rfl ?_
             rintro v2 h2 ⟨ho2, hx2, hf2⟩)
  all_goals (refine Go ?_)
  all_goals (refine Gs [(4, _)] ?_)
  all_goals (refine Gt ?_)
  all_goals (exact ⟨ho2, hx1.trans hx2, fun q hq => by have := hf2 q hq; have := hx1.size; omega⟩)
theorem z_bytes {h : Heap} {q : Nat} (hq : h[q]? = some (.cells ⟨(gB 90 73 0 0).cells⟩ 92 (0, 0))) : CallsH Tryz.prog 40 ⟨[.slice (some ⟨q, 0, none⟩) 1 1]⟩ h fun u h' => Own h' u 5 1 6 (bys z6) ∧ Ext No h h' ∧ ∀ q, u.ownBlock = some q → h.size ≤ q := by
  exact bytes_v [gB 90 73 0 0] encG (by simpa using rd_blk (len := 1) (sz := 11) hq rfl) (by decide) (by decide) (by decide) (by simp [gB, Bk.cells, Value.oneCell']) (fun y hy g => by
    simp only [List.mem_cons, List.not_mem_nil, or_false] at hy
    subst hy
    exact encZ)
theorem own_kindV {h : Heap} {v : Value} {e : TypeId} {sz n b : Nat} {xs : List Value} (ho : Own h v e sz n xs) (hb : v.ownBlock = some b) : ∃ cs, h[b]? = some (.cells cs e (0, 0)) := by
  obtain ⟨_, ⟨rfl, _⟩ | ⟨g, cap, cur, rfl, hg, _⟩⟩ := ho
  · cases hb
  · simp only [Value.ownBlock, Option.some.injEq] at hb
    subst hb
    exact ⟨_, hg⟩
def soC (cb bs : Nat) (out : Value) (dn : Int) : List Value := [.pointer (some ⟨cb, 0, none⟩), .pointer (some ⟨bs, 0, none⟩), .slice none 0 0, In 0, out, In dn, .bool false]
theorem ty_ne {h : Heap} {a b : Nat} {c d : Array Value} {T U : TypeId} {y z : Nat × Nat} (ha : h[a]? = some (.cells c T y)) (hb : h[b]? = some (.cells d U z)) (hT : T ≠ U) : a ≠ b := fun e => by
  subst e
  rw [ha] at hb
  simp only [Option.some.injEq, Obj.cells.injEq] at hb
  exact hT hb.2.1
/-- A client alone, all of it made since the heap g. -/
structure So (g h : Heap) (b cb fb bs bp mp : Nat) (out : Value) (ob : List UInt8) (dn : Int) (bg : Bool) (v : Value) (l : List UInt8) : Prop where
  blk : h[b]? = some (.cells ⟨soC cb bs out dn⟩ 51 (0, 0))
  own : Own h out 5 1 ob.length (bys ob)
  cl : ClB h cb fb bg
  fw : Fw h fb bg v l
  se : SeS h bs bp mp
  lo : g.size ≤ b ∧ g.size ≤ cb ∧ g.size ≤ fb ∧ g.size ≤ bs ∧ g.size ≤ mp
  lr : (∀ q, out.ownBlock = some q → g.size ≤ q) ∧ ∀ q, v.ownBlock = some q → g.size ≤ q
  ap : ∀ q, out.ownBlock = some q → v.ownBlock ≠ some q
  ext : Ext No g h
section
variable {g h h' : Heap} {b cb fb bs bp mp : Nat} {out out' v v' : Value} {ob ob' l l' : List UInt8} {dn dn' : Int} {bg bg' : Bool} {S : Nat → Prop}
theorem So.ext0 (k : So g h b cb fb bs bp mp out ob dn bg v l) (x : Ext No h h') : So g h' b cb fb bs bp mp out ob dn bg v l :=
  ⟨x.obj k.blk nos, k.own.ext x (fun _ _ => nos), x.obj k.cl nos, k.fw.ext0 x, k.se.ext0 x, k.lo, k.lr, k.ap, k.ext.trans x⟩
/-- The client's part turned. -/
theorem So.clT (k : So g h b cb fb bs bp mp out ob dn bg v l) (c : ClB h' cb fb bg') (f : Fw h' fb bg' v' l') (x : Ext (fun q => q = cb ∨ q = fb ∨ v.ownBlock = some q) h h') (hv : ∀ q, v'.ownBlock = some q → v.ownBlock = some q ∨ h.size ≤ q) : So g h' b cb fb bs bp mp out ob dn bg' v' l' := by
  obtain ⟨kb, ko, kc, kf, ks, ⟨l1, l2, l3, l4, l5⟩, ⟨l6, l7⟩, ka, ke⟩ := k
  have kc' := kc
  unfold ClB at kc'
  have kfb := kf.blk
  obtain ⟨⟨m, e, s1⟩, s2, s3⟩ := id ks
  have nv : ∀ {q : Nat} {cs : Array Value} {T : TypeId}, T ≠ 5 → h[q]? = some (.cells cs T (0, 0)) → v.ownBlock ≠ some q := fun hT hq => own_ne kf.own hq hT
  have hs := ke.size
  have hvm : v.ownBlock ≠ some mp := fun e => by
    obtain ⟨_, z⟩ := own_kindV kf.own e
    exact mp_no s3 z rfl
  refine ⟨x.obj kb (fun e => ?_), ko.ext x (fun q hq e => ?_), c, f, ks.ext x (fun e => ?_) (fun e => ?_) (fun e => ?_), ⟨l1, l2, l3, l4, l5⟩, ⟨l6, fun q hq => (hv q hq).elim (l7 q) (fun e => by omega)⟩, fun q hq e => ?_, ke.trans' x (fun q hq e => ?_)⟩
  · rcases e with e | e | e
    · exact ty_ne kb kc' (by decide) e
    · exact ty_ne kb kfb (by decide) e
    · exact nv (by decide) kb e
  · rcases e with e | e | e
    · exact own_ne ko kc' (by decide) (e ▸ hq)
    · exact own_ne ko kfb (by decide) (e ▸ hq)
    · exact ka q hq e
  · rcases e with e | e | e
    · exact ty_ne s1 kc' (by decide) e
    · exact ty_ne s1 kfb (by decide) e
    · exact nv (by decide) s1 e
  · rcases e with e | e | e
    · exact ty_ne s2 kc' (by decide) e
    · exact ty_ne s2 kfb (by decide) e
    · exact nv (by decide) s2 e
  · rcases e with e | e | e
    · exact mp_no s3 kc' e.symm
    · exact mp_no s3 kfb e.symm
    · exact hvm e
  · rcases hv q e with e | e
    · exact ka q hq e
    · have := ko.lt hq; omega
  · rcases e with e | e | e
    · omega
    · omega
    · have := l7 q e; omega
/-- The session turned. -/
theorem So.seT (k : So g h b cb fb bs bp mp out ob dn bg v l) (s : SeS h' bs bp mp) (x : Ext (fun q => q = bs ∨ q = mp) h h') : So g h' b cb fb bs bp mp out ob dn bg v l := by
  obtain ⟨kb, ko, kc, kf, ks, ⟨l1, l2, l3, l4, l5⟩, ⟨l6, l7⟩, ka, ke⟩ := k
  have kc' := kc
  unfold ClB at kc'
  obtain ⟨⟨m, e, s1⟩, s2, s3⟩ := id ks
  have hs := ke.size
  have no : ∀ {q : Nat} {cs : Array Value} {T : TypeId}, T ≠ 109 → h[q]? = some (.cells cs T (0, 0)) → ¬ (q = bs ∨ q = mp) := fun hT hq e => e.elim (fun e => ty_ne hq s1 hT e) (fun e => mp_no s3 hq e)
  have nr : ∀ {w : Value} {n : Nat} {xs : List Value}, Own h w 5 1 n xs → ∀ q, w.ownBlock = some q → ¬ (q = bs ∨ q = mp) := fun ho q hq => by
    obtain ⟨_, z⟩ := own_kindV ho hq
    exact no (by decide) z
  exact ⟨x.obj kb (no (by decide) kb), ko.ext x (nr ko), x.obj kc' (no (by decide) kc'), kf.ext x (no (by decide) kf.blk) (nr kf.own), s, ⟨l1, l2, l3, l4, l5⟩, ⟨l6, l7⟩, ka, ke.trans' x (fun q hq e => by rcases e with e | e <;> omega)⟩
/-- What is to go out turned. -/
theorem So.outT (k : So g h b cb fb bs bp mp out ob dn bg v l) (hb : h'[b]? = some (.cells ⟨soC cb bs out' dn'⟩ 51 (0, 0))) (ho : Own h' out' 5 1 ob'.length (bys ob')) (x : Ext (fun q => q = b ∨ out.ownBlock = some q) h h') (hv : ∀ q, out'.ownBlock = some q → out.ownBlock = some q ∨ h.size ≤ q) : So g h' b cb fb bs bp mp out' ob' dn' bg v l := by
  obtain ⟨kb, ko, kc, kf, ks, ⟨l1, l2, l3, l4, l5⟩, ⟨l6, l7⟩, ka, ke⟩ := k
  have kc' := kc
  unfold ClB at kc'
  obtain ⟨⟨m, e, s1⟩, s2, s3⟩ := id ks
  have hs := ke.size
  have no : ∀ {q : Nat} {cs : Array Value} {T : TypeId}, T ≠ 51 → T ≠ 5 → h[q]? = some (.cells cs T (0, 0)) → ¬ (q = b ∨ out.ownBlock = some q) := fun hT hU hq e => e.elim (fun e => ty_ne hq kb hT e) (fun e => own_ne ko hq hU e)
  refine ⟨hb, ho, x.obj kc' (no (by decide) (by decide) kc'), kf.ext x (no (by decide) (by decide) kf.blk) (fun q hq e => ?_), ks.ext x (no (by decide) (by decide) s1) (no (by decide) (by decide) s2) (fun e => ?_), ⟨l1, l2, l3, l4, l5⟩, ⟨fun q hq => (hv q hq).elim (l6 q) (fun e => by omega), l7⟩, fun q hq e => ?_, ke.trans' x (fun q hq e => ?_)⟩
  · rcases e with e | e
    · exact own_ne kf.own kb (by decide) (e ▸ hq)
    · exact ka q e hq
  · rcases e with e | e
    · exact mp_no s3 kb e.symm
    · obtain ⟨_, z⟩ := own_kindV ko e
      exact mp_no s3 z rfl
  · rcases hv q hq with z | z
    · exact ka q z e
    · have := kf.own.lt e; omega
  · rcases e with e | e
    · omega
    · have := l6 q e; omega
end
end Go.Proofs.YtdjjpbbhcidaaaaGreatDoor


/-
  A CLIENT ALONE (layer 44), by the code: the first message.
-/
namespace Go.Proofs.YtdjjpbbhcidaaaaGreatDoor
open Go Go.RK

section
variable {g h h' : Heap} {b cb fb bs bp mp : Nat} {out out' v v' : Value} {ob ob' l l' : List UInt8} {dn dn' : Int} {bg bg' : Bool} {S : Nat → Prop}
set_option maxHeartbeats 2000000 in
set_option maxRecDepth 100000 in
theorem so_ready (k : So g h b cb fb bs bp mp out ob dn bg v l) : CallsH Tryz.prog 35 ⟨[.pointer (some ⟨b, 0, none⟩)]⟩ h fun u h' => u = .bool true ∧ h' = h := by
  have hb := k.blk
  unfold soC at hb
  refine calls [(0, _)] Tryz.func35 rfl Tryz.ntmps35 rfl ⟨rfl, trivial⟩ ?_
  all_goals (refine WC.sr ?_)
  all_goals (refine Go ?_)
  all_goals (refine WC.sr ?_)
  all_goals (refine Go ?_)
  all_goals (refine WL.step (ok_neqPn Tryz.underlying46 rfl rfl) rfl rfl rfl ?_)
  all_goals (refine Go ?_)
  all_goals (refine goP 5 ?_ ?_ <;> first | exact ⟨⟩ | refine Hb.mk fun hb => ?_ | skip)
  all_goals (refine Gg ?_)
  all_goals (first | (refine WL.pass rfl rfl rfl ?_) | (refine WL.step (ok_nilCheck rfl) rfl rfl rfl ?_))
  all_goals (refine Gg ?_)
  all_goals (first | (refine WL.pass rfl rfl rfl ?_) | (refine WL.ld rfl (by first | exact cell_blk hb rfl | assumption | exact cell_blk (by assumption) rfl) rfl rfl rfl ?_))
  all_goals (first | (refine WL.pass rfl rfl rfl ?_) | (refine WL.step (ok_neqPn Tryz.underlying47 rfl rfl) rfl rfl rfl ?_))
  all_goals (refine Go ?_)
  all_goals (refine Gs [(2, _)] ?_)
  all_goals (refine Gt ?_)
  all_goals (exact ⟨rfl, rfl⟩)
set_option maxHeartbeats 2000000 in
set_option maxRecDepth 100000 in
theorem so_feed (k : So g h b cb fb bs bp mp out ob dn bg v l) {w : Value} {m : List UInt8} (hr : Rd h w 1 m.length (bys m)) (hl : l.length + m.length ≤ 262144) :
    CallsH Tryz.prog 12 ⟨[.pointer (some ⟨b, 0, none⟩), w]⟩ h fun u h' => u = In 0 ∧ ∃ v', So g h' b cb fb bs bp mp out ob dn bg v' (l ++ m) := by
  have kr := so_ready k
  have hb := k.blk
  unfold soC at hb
  obtain ⟨A, c, rfl, _⟩ := id hr
  refine calls [(0, _), (1, _)] Tryz.func12 rfl Tryz.ntmps12 rfl ⟨rfl, rfl, trivial⟩ ?_
  all_goals (refine WC.sr ?_)
  all_goals (refine Go ?_)
  all_goals (refine WC.seq ?_)
  all_goals (refine WC.sr ?_)
  all_goals (refine Go ?_)
  all_goals (refine WL.call (vs := [_]) rfl (fun a w => Tryz.call35 a w) rfl (kr) rfl rfl rfl ?_
             rintro _ hq ⟨rfl, hz⟩
             replace hz := hz.symm
             subst hz)
  all_goals (refine Go ?_)
  all_goals (refine goC 1 2 ?_ ?_ <;> first | exact ⟨⟩ | refine Hb.mk fun hb => ?_ | skip)
  all_goals (first | (fail_if_success refine goB 1 ?_) | (
  refine goB 1 ?_
  all_goals (refine WC.sr ?_)
  all_goals (refine Go ?_)
  all_goals (refine Gs [(4, _)] ?_)
  all_goals (refine Gt ?_)
  all_goals (exact ⟨rfl, v2, k.clT c2 kf2 (hx2.mono fun _ _ e => .inr e) hf2⟩)
  skip))
  all_goals (first | (fail_if_success refine goB 2 ?_) | (
  refine goB 2 ?_
  all_goals (refine WC.skip ?_)
  skip))
  all_goals (refine Gn ?_)
  all_goals (refine Gs [(0, _), (1, _)] ?_)
  all_goals (refine WC.sr ?_)
  all_goals (refine Go ?_)
  all_goals (refine WL.step (ok_nilCheck rfl) rfl rfl rfl ?_)
  all_goals (refine Go ?_)
  all_goals (refine WL.ld rfl (by first | exact cell_blk hb rfl | assumption | exact cell_blk (by assumption) rfl) rfl rfl rfl ?_)
  all_goals (refine Go ?_)
  all_goals (refine WL.call (vs := [_, _]) rfl (fun a w => Tryz.call36 a w) rfl (cl_feed k.cl k.fw hr hl) rfl rfl rfl ?_
             rintro _ h2 ⟨rfl, v2, kf2, hx2, hf2⟩
             obtain ⟨nf, nv⟩ := k.cl.ne k.fw
             have c2 : ClB h2 cb fb bg := hx2.obj k.cl (fun e => e.elim nf (fun e => nv _ e rfl)))
  all_goals (refine Go ?_)
  all_goals (refine Gs [(4, _)] ?_)
  all_goals (refine Gt ?_)
  all_goals (exact ⟨rfl, v2, k.clT c2 kf2 (hx2.mono fun _ _ e => .inr e) hf2⟩)
set_option maxHeartbeats 2000000 in
set_option maxRecDepth 100000 in
theorem so_first (k : So g h b cb fb bs bp mp out ob dn false v l) (hlo : ob.length ≤ 1000) {p : Value} (hp : ∃ A n c, p = .slice A n c) :
    CallsH Tryz.prog 39 ⟨[.pointer (some ⟨b, 0, none⟩), .agg ⟨[In 196608, In 0, In 0, p]⟩]⟩ h fun _ h' => ∃ out', So g h' b cb fb bs bp mp out' (ob ++ greet28) dn true v l := by
  have kg := fun h' => greet_bytes (h := h')
  obtain ⟨A, n, c, rfl⟩ := hp
  obtain ⟨Ao, co, rfl, _⟩ := id k.own.slice
  refine calls [(0, _), (1, _)] Tryz.func39 rfl Tryz.ntmps39 rfl ⟨rfl, rfl, trivial⟩ ?_
  all_goals (refine WC.sr ?_)
  all_goals (refine WL.stepR (okE_box rfl) rfl rfl rfl ?_
             rintro _ h1 ⟨b1, rfl, hg1, hb1, hx1⟩
             have k1 := k.ext0 hx1
             have hs1 := k1.blk
             unfold soC at hs1
             have nO : (Value.slice Ao ob.length co).ownBlock ≠ some b := own_ne k1.own hs1 (by decide))
  all_goals (refine Gn ?_)
  all_goals (refine WC.sr ?_)
  all_goals (refine Go ?_)
  all_goals (refine WL.ld rfl (by first | exact cell_blk hb1 rfl | assumption | exact cell_blk (by assumption) rfl) rfl rfl rfl ?_)
  all_goals (refine Gn ?_)
  all_goals (refine WC.block ?_)
  all_goals (refine WC.sr ?_)
  all_goals (refine Go ?_)
  all_goals (refine Gs [(0, _), (5, _), (29, _)] ?_)
  all_goals (refine goC 1 2 ?_ ?_ <;> first | exact ⟨⟩ | refine Hb.mk fun hb => ?_ | skip)
  all_goals (first | (fail_if_success refine goB 1 ?_) | (
  refine goB 1 ?_
  all_goals (refine WC.region ?_)
  all_goals (refine Go ?_)
  all_goals (refine WL.step (ok_nilCheck rfl) rfl rfl rfl ?_)
  all_goals (refine Go ?_)
  all_goals (refine WL.stepR0 (okE_store (fun w => Tryz.sizeOf4 w) rfl rfl (by assumption) (Nat.le_of_ble_eq_true rfl) rfl rfl) rfl rfl ?_
             rintro _ h1 ⟨hb1, hx1⟩)
  all_goals (refine Gn ?_)
  skip))
  all_goals (first | (fail_if_success refine goB 2 ?_) | (
  refine goB 2 ?_
  all_goals (refine WC.sr ?_)
  all_goals (refine Go ?_)
  all_goals (refine goC 3 4 ?_ ?_ <;> first | exact ⟨⟩ | refine Hb.mk fun hb => ?_ | skip)
  all_goals (first | (fail_if_success refine goB 3 ?_) | (
  refine goB 3 ?_
  all_goals (refine WC.region ?_)
  all_goals (refine Go ?_)
  all_goals (refine WL.step (ok_nilCheck rfl) rfl rfl rfl ?_)
  all_goals (refine Go ?_)
  all_goals (refine Ld ?_)
  all_goals (refine WL.stepR (okE_buildSlice (vs := [_]) (cs := [_]) (fun | [a0] => [a0] | _ => []) Tryz.underlying22 rfl rfl (by kernel_rfl)) rfl rfl rfl ?_
             rintro _ h1 ⟨b1, rfl, hg1, hb1, hx1⟩)
  all_goals (refine WL.stepR (ok_append (sz := 1) (bytes := 1) rfl Tryz.underlying22 (show Tryz.prog.info? 5 = some Tryz.t5 by kernel_rfl) rfl rfl rfl rfl (by decide) rfl rfl (by assumption) (by first | assumption | exact rd_blk (by assumption) rfl) (by simp [Value.oneCell']) (by simp only [maxLen]; omega) (by omega)) rfl rfl rfl ?_
             rintro v1 h1 ⟨ho1, hx1, hl1⟩)
  all_goals (refine WL.step (ok_nilCheck rfl) rfl rfl rfl ?_)
  all_goals (refine Go ?_)
  all_goals (refine WL.stepR0 (okE_store (fun w => Tryz.sizeOf22 w) rfl rfl (by assumption) (Nat.le_of_ble_eq_true rfl) rfl rfl) rfl rfl ?_
             rintro _ h1 ⟨hb1, hx1⟩)
  all_goals (refine Gn ?_)
  skip))
  all_goals (first | (fail_if_success refine goB 4 ?_) | (
  refine goB 4 ?_
  all_goals (refine WC.seq ?_)
  all_goals (refine WC.drawH (fun h' => Ext (fun q => (Value.slice Ao ob.length co).ownBlock = some q) h1 h') 17 18 rfl fol ?_)
  all_goals (refine WH.tk 0 rfl (fun hq hC => ok_move rfl) rfl rfl rfl ?_)
  all_goals (refine WH.tk 1 rfl (fun hq hC => ok_move rfl) rfl rfl rfl ?_)
  all_goals (refine WH.tk 2 rfl (fun hq hC => ok_nilCheck rfl) rfl rfl rfl ?_)
  all_goals (refine WH.tk 3 rfl (fun hq hC => ok_fieldAddr rfl Tryz.underlying51 rfl (fun w => Tryz.sizeOf22 w)) rfl rfl rfl ?_)
  all_goals (refine WH.tk 4 rfl (fun hq hC => ok_load (fun w => Tryz.isAgg22 w) rfl (by first | exact hC.cell (by first | exact cell_blk hs1 rfl | assumption | exact cell_blk (by assumption) rfl) nO)) rfl rfl rfl ?_)
  all_goals (refine WH.tk 5 rfl (fun hq hC => ok_move rfl) rfl rfl rfl ?_)
  all_goals (refine WH.tk 6 rfl (fun hq hC => ok_nilCheck rfl) rfl rfl rfl ?_)
  all_goals (refine WH.tk 7 rfl (fun hq hC => ok_fieldAddr rfl Tryz.underlying51 rfl (fun w => Tryz.sizeOf28 w)) rfl rfl rfl ?_)
  all_goals (refine WH.tk 8 rfl (fun hq hC => ok_load (fun w => Tryz.isAgg28 w) rfl (by first | exact hC.cell (by first | exact cell_blk hs1 rfl | assumption | exact cell_blk (by assumption) rfl) nO)) rfl rfl rfl ?_)
  all_goals (refine WH.tk 9 rfl (fun hq hC => ok_move rfl) rfl rfl rfl ?_)
  all_goals (refine WH.tk 10 rfl (fun hq hC => ok_nilCheck rfl) rfl rfl rfl ?_)
  all_goals (refine WH.tk 11 rfl (fun hq hC => ok_fieldAddr rfl Tryz.underlying51 rfl (fun w => Tryz.sizeOf3 w)) rfl rfl rfl ?_)
  all_goals (refine WH.tk 12 rfl (fun hq hC => ok_load (fun w => Tryz.isAgg3 w) rfl (by first | exact hC.cell (by first | exact cell_blk hs1 rfl | assumption | exact cell_blk (by assumption) rfl) nO)) rfl rfl rfl ?_)
  all_goals (refine WH.one 13 (by kernel_rfl) ?_)
  all_goals (refine Comes1.call (vs := [_, _]) rfl rfl (fun a w => Tryz.call73 a w) rfl (kg _) rfl rfl rfl ?_ (fun _ => by kernel_rfl)
             rintro v3 h3 ⟨ho3, hx3, hf3⟩
             have hC3 : Ext (fun q => (Value.slice Ao ob.length co).ownBlock = some q) h1 h3 := hx3.mono fun _ _ e => e.elim
             obtain ⟨A3, c3, rfl, _⟩ := id ho3.slice)
  all_goals (refine ⟨fun _ => hC3, ?_⟩)
  all_goals (refine WH.one 14 (by kernel_rfl) ?_)
  all_goals (refine Comes1.run rfl (ok_append (sz := 1) (bytes := 1) rfl Tryz.underlying22 (show Tryz.prog.info? 5 = some Tryz.t5 by kernel_rfl) rfl rfl rfl rfl (by decide) rfl rfl (k1.own.ext hx3 (fun _ _ => nos)) ho3.rd (by intro c hc; obtain ⟨b, _, rfl⟩ := List.mem_map.1 hc; rfl) (by simp [maxLen]; omega) (by omega)) rfl rfl rfl ?_ (fun _ => by kernel_rfl)
             rintro v4 h4 ⟨ho4, hx4, hl4⟩
             have hC4 := hC3.trans hx4
             have ho4 : Own h4 v4 5 1 (ob ++ greet28).length (bys (ob ++ greet28)) := by rw [List.length_append, bys_app]; exact ho4
             obtain ⟨A4, c4, rfl, _⟩ := id ho4.slice
             have hs4 := hC4.obj hs1 nO)
  all_goals (refine ⟨fun _ => hC4, ?_⟩)
  all_goals (refine WH.one 15 (by kernel_rfl) ?_)
  all_goals (refine Comes1.run rfl (OkP.r (ok_nilCheck rfl)) rfl rfl rfl ?_ (fun _ => by kernel_rfl)
             rintro _ hz ⟨rfl, _⟩
             subst hz)
  all_goals (refine ⟨fun _ => by first | assumption | trivial, ?_⟩)
  all_goals (refine WH.one 16 (by kernel_rfl) ?_)
  all_goals (refine Comes1.run rfl (OkP.r (ok_fieldAddr rfl Tryz.underlying51 rfl (fun w => Tryz.sizeOf22 w))) rfl rfl rfl ?_ (fun _ => by kernel_rfl)
             rintro _ hz ⟨rfl, _⟩
             subst hz)
  all_goals (refine ⟨fun _ => by first | assumption | trivial, ?_⟩)
  all_goals (refine WH.one 17 (by kernel_rfl) ?_)
  all_goals (refine Comes1.run0 rfl (okE_store (fun w => Tryz.sizeOf22 w) rfl rfl hs4 (Nat.le_of_ble_eq_true rfl) rfl rfl) rfl rfl ?_ (fun _ => by kernel_rfl)
             rintro _ h5 ⟨hs5, hx5⟩
             have hf4 : ∀ q, (Value.slice A4 (ob ++ greet28).length c4).ownBlock = some q → (Value.slice Ao ob.length co).ownBlock = some q ∨ h1.size ≤ q := kin_of hl4 hx3.size
             have k5 : So g h5 b cb fb bs bp mp (Value.slice A4 (ob ++ greet28).length c4) (ob ++ greet28) dn false v l := k1.outT hs5 (ho4.ext hx5 (fun q hq e => own_ne ho4 hs4 (by decide) (e ▸ hq))) ((hC4.mono fun _ _ e => .inr e).trans (hx5.mono fun _ _ e => .inl e)) hf4)
  all_goals (refine ⟨fun e => (by cases e), ?_⟩)
  all_goals (refine WH.done (by kernel_rfl) ?_)
  all_goals (refine Gn ?_)
  all_goals (refine Gs [(0, _)] ?_)
  all_goals (refine WC.region ?_)
  all_goals (refine Go ?_)
  all_goals (refine WL.step (ok_nilCheck rfl) rfl rfl rfl ?_)
  all_goals (refine Go ?_)
  all_goals (refine WL.ld rfl (by first | exact cell_blk hs5 rfl | assumption | exact cell_blk (by assumption) rfl) rfl rfl rfl ?_)
  all_goals (refine WL.call (vs := [_]) rfl (fun a w => Tryz.call74 a w) rfl (cl_begin k5.cl k5.fw) rfl rfl rfl ?_
             rintro _ h6 ⟨c6, kf6, hx6⟩)
  all_goals (refine Gn ?_)
  skip))
  skip))
  all_goals (refine Gn ?_)
  all_goals (refine retP_n [] trivial ?_)
  all_goals (exact ⟨_, k5.clT c6 kf6 (hx6.mono fun _ _ e => e.elim .inl (fun e => .inr (.inl e))) (fun q hq => .inl hq)⟩)
end
end Go.Proofs.YtdjjpbbhcidaaaaGreatDoor


/-
  A CLIENT ALONE (layer 44), by the code: its Steps.
-/
namespace Go.Proofs.YtdjjpbbhcidaaaaGreatDoor
open Go Go.RK

section
variable {g h h' : Heap} {b cb fb bs bp mp : Nat} {out out' v v' : Value} {ob ob' l l' : List UInt8} {dn dn' : Int} {bg bg' : Bool} {S : Nat → Prop}
theorem So.own1 {q : Nat} {cs : Array Value} {T : TypeId} (k : So g h b cb fb bs bp mp out ob dn bg v l) (hq : h[q]? = some (.cells cs T (0, 0))) (h1 : T ≠ 51) (h2 : T ≠ 5) (h3 : T ≠ 138) (h4 : T ≠ 87) (h5 : T ≠ 109) : ¬ (q = b ∨ q = cb ∨ q = fb ∨ q = bs ∨ q = mp ∨ v.ownBlock = some q ∨ out.ownBlock = some q) := fun e => by
  have kc := k.cl
  unfold ClB at kc
  obtain ⟨⟨m, e1, s1⟩, s2, s3⟩ := k.se
  rcases e with e | e | e | e | e | e | e
  · exact ty_ne hq k.blk h1 e
  · exact ty_ne hq kc h3 e
  · exact ty_ne hq k.fw.blk h4 e
  · exact ty_ne hq s1 h5 e
  · exact mp_no s3 hq e
  · exact own_ne k.fw.own hq h2 e
  · exact own_ne k.own hq h2 e
set_option maxHeartbeats 2000000 in
set_option maxRecDepth 100000 in
theorem so_step1 (k : So g h b cb fb bs bp mp out ob dn false v feed21) (hlo : ob.length ≤ 1000) : CallsH Tryz.prog 13 ⟨[.pointer (some ⟨b, 0, none⟩)]⟩ h fun u h' => u = .bool true ∧ ∃ out' v', So g h' b cb fb bs bp mp out' (ob ++ greet28) dn true v' sy5 := by
  have kr := so_ready k
  have hb := k.blk
  unfold soC at hb
  refine calls [(0, _)] Tryz.func13 rfl Tryz.ntmps13 rfl ⟨rfl, trivial⟩ ?_
  all_goals (refine WC.sr ?_)
  all_goals (refine Go ?_)
  all_goals (refine WC.seq ?_)
  all_goals (refine WC.sr ?_)
  all_goals (refine Go ?_)
  all_goals (refine WL.call (vs := [_]) rfl (fun a w => Tryz.call35 a w) rfl (kr) rfl rfl rfl ?_
             rintro _ hq ⟨rfl, hz⟩
             replace hz := hz.symm
             subst hz)
  all_goals (refine Go ?_)
  all_goals (refine goP 7 ?_ ?_ <;> first | exact ⟨⟩ | refine Hb.mk fun hb => ?_ | skip)
  all_goals (refine Gg ?_)
  all_goals (first | (refine WL.pass rfl rfl rfl ?_) | (refine WL.step (ok_nilCheck rfl) rfl rfl rfl ?_))
  all_goals (refine Gg ?_)
  all_goals (first | (refine WL.pass rfl rfl rfl ?_) | (refine WL.ld rfl (by first | exact cell_blk hb rfl | assumption | exact cell_blk (by assumption) rfl) rfl rfl rfl ?_))
  all_goals (refine Go ?_)
  all_goals (refine Gs [(0, _), (12, _)] ?_)
  all_goals (refine goC 1 2 ?_ ?_ <;> first | exact ⟨⟩ | refine Hb.mk fun hb => ?_ | skip)
  all_goals (first | (fail_if_success refine goB 1 ?_) | (
  refine goB 1 ?_
  all_goals (refine WC.sr ?_)
  all_goals (refine Go ?_)
  all_goals (refine Gt ?_)
  all_goals (exact ⟨rfl, _, _, k6⟩)
  skip))
  all_goals (first | (fail_if_success refine goB 2 ?_) | (
  refine goB 2 ?_
  all_goals (refine WC.skip ?_)
  skip))
  all_goals (refine Gn ?_)
  all_goals (refine WC.sr ?_)
  all_goals (refine Go ?_)
  all_goals (refine WL.step (ok_nilCheck rfl) rfl rfl rfl ?_)
  all_goals (refine Go ?_)
  all_goals (refine WL.ld rfl (by first | exact cell_blk hb rfl | assumption | exact cell_blk (by assumption) rfl) rfl rfl rfl ?_)
  all_goals (refine WL.call (vs := [_]) rfl (fun a w => Tryz.call37 a w) rfl (cl_peek1 k.cl k.fw) rfl rfl rfl ?_
             rintro _ h2 ⟨⟨p, rfl, Ap, np, cp, rfl⟩, c2, kf2, hx2⟩
             have k2 : So g h2 b cb fb bs bp mp out ob dn false v feed21 := k.clT c2 kf2 (hx2.mono fun _ _ e => .inr (.inl e)) (fun q hq => .inl hq))
  all_goals (refine WL.stepR (okE_alloc (fun w => Tryz.zeroValue71 w)) rfl rfl rfl ?_
             rintro _ h3 ⟨b3, rfl, hg3, hb3, hx3⟩)
  all_goals (refine WL.stepR0 (okE_storeW (fun w => Tryz.sizeOf71 w) rfl rfl rfl hb3 rfl (by simp [itC, Value.oneCell'])) rfl rfl ?_
             rintro _ h4 ⟨hb4, hx4⟩
             have k4 := k2.ext0 (hx3.trans' hx4 (fun q hq e => by omega))
             have hs4 := k4.blk
             unfold soC at hs4
             unfold itC at hb4)
  all_goals (refine Gn ?_)
  all_goals (refine Gs [(0, _), (3, _)] ?_)
  all_goals (refine WC.seq ?_)
  all_goals (refine WC.sr ?_)
  all_goals (refine Go ?_)
  all_goals (refine WL.ld rfl (by first | exact cell_blk hb4 rfl | assumption | exact cell_blk (by assumption) rfl) rfl rfl rfl ?_)
  all_goals (refine Gn ?_)
  all_goals (refine WC.block ?_)
  all_goals (refine WC.sr ?_)
  all_goals (refine Go ?_)
  all_goals (refine goC 3 4 ?_ ?_ <;> first | exact ⟨⟩ | refine Hb.mk fun hb => ?_ | skip)
  all_goals (first | (fail_if_success refine goB 3 ?_) | (
  refine goB 3 ?_
  all_goals (refine WC.sr ?_)
  all_goals (refine Go ?_)
  all_goals (refine WL.step (ok_nilCheck rfl) rfl rfl rfl ?_)
  all_goals (refine Go ?_)
  all_goals (refine WL.ld rfl (by first | exact cell_blk hs4 rfl | assumption | exact cell_blk (by assumption) rfl) rfl rfl rfl ?_)
  all_goals (refine WL.call (vs := [_]) rfl (fun a w => Tryz.call38 a w) rfl (cl_take1 k4.cl k4.fw) rfl rfl rfl ?_
             rintro _ h5 ⟨v5, c5, kf5, hx5, hv5⟩
             have k5 : So g h5 b cb fb bs bp mp out ob dn false v5 sy5 := k4.clT c5 kf5 (hx5.mono fun _ _ e => .inr e) (fun q hq => .inl (hv5 ▸ hq))
             have hb45 := hx5.obj hb4 (fun e => k4.own1 hb4 (by decide) (by decide) (by decide) (by decide) (by decide) (by rcases e with e | e; exact .inr (.inr (.inl e)); exact .inr (.inr (.inr (.inr (.inr (.inl e))))))))
  all_goals (refine Gn ?_)
  all_goals (refine Gs [(0, _), (3, _)] ?_)
  all_goals (refine WC.region ?_)
  all_goals (refine Go ?_)
  all_goals (refine WL.step (ok_loadN (fun w => Tryz.isAgg69 w) (fun w => Tryz.sizeOf69 w) rfl rfl (by exact At.pre (xs := [_, _, _, _]) (ys := _) (At.tl (At.of_block hb45)))) rfl rfl rfl ?_)
  all_goals (refine WL.call (vs := [_, _]) rfl (fun a w => Tryz.call39 a w) rfl (so_first k5 hlo ⟨_, _, _, rfl⟩) rfl rfl rfl ?_
             rintro _ h6 ⟨out6, k6⟩)
  all_goals (refine Gn ?_)
  skip))
  all_goals (first | (fail_if_success refine goB 4 ?_) | (
  refine goB 4 ?_
  all_goals (refine WC.sr ?_)
  all_goals (refine Go ?_)
  all_goals (refine Gs [(0, _), (3, _), (33, _)] ?_)
  all_goals (refine goC 5 6 ?_ ?_ <;> first | exact ⟨⟩ | refine Hb.mk fun hb => ?_ | skip)
  all_goals (first | (fail_if_success refine goB 6 ?_) | (
  refine goB 6 ?_
  all_goals (refine WC.sr ?_)
  all_goals (refine Go ?_)
  all_goals (refine Gt ?_)
  all_goals (exact ⟨rfl, _, _, k6⟩)
  skip))
  skip))
  all_goals (refine Gn ?_)
  all_goals (refine WC.sr ?_)
  all_goals (refine Go ?_)
  all_goals (refine Gt ?_)
  all_goals (exact ⟨rfl, _, _, k6⟩)
set_option maxHeartbeats 2000000 in
set_option maxRecDepth 100000 in
theorem so_step0 (k : So g h b cb fb bs bp mp out ob dn true v []) : CallsH Tryz.prog 13 ⟨[.pointer (some ⟨b, 0, none⟩)]⟩ h fun u h' => u = .bool false ∧ Ext No h h' := by
  have kr := so_ready k
  have hb := k.blk
  unfold soC at hb
  refine calls [(0, _)] Tryz.func13 rfl Tryz.ntmps13 rfl ⟨rfl, trivial⟩ ?_
  all_goals (refine WC.sr ?_)
  all_goals (refine Go ?_)
  all_goals (refine WC.seq ?_)
  all_goals (refine WC.sr ?_)
  all_goals (refine Go ?_)
  all_goals (refine WL.call (vs := [_]) rfl (fun a w => Tryz.call35 a w) rfl (kr) rfl rfl rfl ?_
             rintro _ hq ⟨rfl, hz⟩
             replace hz := hz.symm
             subst hz)
  all_goals (refine Go ?_)
  all_goals (refine goP 7 ?_ ?_ <;> first | exact ⟨⟩ | refine Hb.mk fun hb => ?_ | skip)
  all_goals (refine Gg ?_)
  all_goals (first | (refine WL.pass rfl rfl rfl ?_) | (refine WL.step (ok_nilCheck rfl) rfl rfl rfl ?_))
  all_goals (refine Gg ?_)
  all_goals (first | (refine WL.pass rfl rfl rfl ?_) | (refine WL.ld rfl (by first | exact cell_blk hb rfl | assumption | exact cell_blk (by assumption) rfl) rfl rfl rfl ?_))
  all_goals (refine Go ?_)
  all_goals (refine Gs [(0, _), (12, _)] ?_)
  all_goals (refine goC 1 2 ?_ ?_ <;> first | exact ⟨⟩ | refine Hb.mk fun hb => ?_ | skip)
  all_goals (first | (fail_if_success refine goB 1 ?_) | (
  refine goB 1 ?_
  all_goals (refine WC.sr ?_)
  all_goals (refine Go ?_)
  all_goals (refine Gt ?_)
  all_goals (exact ⟨rfl, (hx2.trans hx3).trans' hx4 (fun q hq e => by have := hx2.size; omega)⟩)
  skip))
  all_goals (first | (fail_if_success refine goB 2 ?_) | (
  refine goB 2 ?_
  all_goals (refine WC.skip ?_)
  skip))
  all_goals (refine Gn ?_)
  all_goals (refine WC.sr ?_)
  all_goals (refine Go ?_)
  all_goals (refine WL.step (ok_nilCheck rfl) rfl rfl rfl ?_)
  all_goals (refine Go ?_)
  all_goals (refine WL.ld rfl (by first | exact cell_blk hb rfl | assumption | exact cell_blk (by assumption) rfl) rfl rfl rfl ?_)
  all_goals (refine WL.call (vs := [_]) rfl (fun a w => Tryz.call37 a w) rfl (cl_peek0 k.cl k.fw) rfl rfl rfl ?_
             rintro _ h2 ⟨rfl, hx2⟩)
  all_goals (refine WL.stepR (okE_alloc (fun w => Tryz.zeroValue71 w)) rfl rfl rfl ?_
             rintro _ h3 ⟨b3, rfl, hg3, hb3, hx3⟩)
  all_goals (refine WL.stepR0 (okE_storeW (fun w => Tryz.sizeOf71 w) rfl rfl rfl hb3 rfl (by simp [itC, Value.oneCell'])) rfl rfl ?_
             rintro _ h4 ⟨hb4, hx4⟩
             unfold itC at hb4)
  all_goals (refine Gn ?_)
  all_goals (refine Gs [(0, _), (3, _)] ?_)
  all_goals (refine WC.seq ?_)
  all_goals (refine WC.sr ?_)
  all_goals (refine Go ?_)
  all_goals (refine WL.ld rfl (by first | exact cell_blk hb4 rfl | assumption | exact cell_blk (by assumption) rfl) rfl rfl rfl ?_)
  all_goals (refine Gn ?_)
  all_goals (refine WC.block ?_)
  all_goals (refine WC.sr ?_)
  all_goals (refine Go ?_)
  all_goals (refine goC 3 4 ?_ ?_ <;> first | exact ⟨⟩ | refine Hb.mk fun hb => ?_ | skip)
  all_goals (first | (fail_if_success refine goB 4 ?_) | (
  refine goB 4 ?_
  all_goals (refine WC.sr ?_)
  all_goals (refine Go ?_)
  all_goals (refine Gs [(0, _), (3, _), (33, _)] ?_)
  all_goals (refine goC 5 6 ?_ ?_ <;> first | exact ⟨⟩ | refine Hb.mk fun hb => ?_ | skip)
  all_goals (first | (fail_if_success refine goB 6 ?_) | (
  refine goB 6 ?_
  all_goals (refine WC.sr ?_)
  all_goals (refine Go ?_)
  all_goals (refine Gt ?_)
  all_goals (exact ⟨rfl, (hx2.trans hx3).trans' hx4 (fun q hq e => by have := hx2.size; omega)⟩)
  skip))
  skip))
  all_goals (refine Gn ?_)
  all_goals (refine WC.sr ?_)
  all_goals (refine Go ?_)
  all_goals (refine Gt ?_)
  all_goals (exact ⟨rfl, (hx2.trans hx3).trans' hx4 (fun q hq e => by have := hx2.size; omega)⟩)
set_option maxHeartbeats 2000000 in
set_option maxRecDepth 100000 in
theorem so_step2 (k : So g h b cb fb bs bp mp out ob dn true v sy5) (hlo : ob.length ≤ 1000) (hdn : 0 ≤ dn ∧ dn ≤ 1000) : CallsH Tryz.prog 13 ⟨[.pointer (some ⟨b, 0, none⟩)]⟩ h fun u h' => u = .bool true ∧ ∃ out' v', So g h' b cb fb bs bp mp out' (ob ++ z6) (dn + 1) true v' [] := by
  have kr := so_ready k
  have hb := k.blk
  unfold soC at hb
  refine calls [(0, _)] Tryz.func13 rfl Tryz.ntmps13 rfl ⟨rfl, trivial⟩ ?_
  all_goals (refine WC.sr ?_)
  all_goals (refine Go ?_)
  all_goals (refine WC.seq ?_)
  all_goals (refine WC.sr ?_)
  all_goals (refine Go ?_)
  all_goals (refine WL.call (vs := [_]) rfl (fun a w => Tryz.call35 a w) rfl (kr) rfl rfl rfl ?_
             rintro _ hq ⟨rfl, hz⟩
             replace hz := hz.symm
             subst hz)
  all_goals (refine Go ?_)
  all_goals (refine goP 7 ?_ ?_ <;> first | exact ⟨⟩ | refine Hb.mk fun hb => ?_ | skip)
  all_goals (refine Gg ?_)
  all_goals (first | (refine WL.pass rfl rfl rfl ?_) | (refine WL.step (ok_nilCheck rfl) rfl rfl rfl ?_))
  all_goals (refine Gg ?_)
  all_goals (first | (refine WL.pass rfl rfl rfl ?_) | (refine WL.ld rfl (by first | exact cell_blk hb rfl | assumption | exact cell_blk (by assumption) rfl) rfl rfl rfl ?_))
  all_goals (refine Go ?_)
  all_goals (refine Gs [(0, _), (12, _)] ?_)
  all_goals (refine goC 1 2 ?_ ?_ <;> first | exact ⟨⟩ | refine Hb.mk fun hb => ?_ | skip)
  all_goals (first | (fail_if_success refine goB 1 ?_) | (
  refine goB 1 ?_
  all_goals (refine WC.sr ?_)
  all_goals (refine Go ?_)
  all_goals (refine Gt ?_)
  all_goals (exact ⟨rfl, _, v5, k9.outT hs10 (k9.own.ext hx10 (fun q hq e => own_ne k9.own hs9 (by decide) (e ▸ hq))) (hx10.mono fun _ _ e => .inl e) (fun q hq => .inl hq)⟩)
  skip))
  all_goals (first | (fail_if_success refine goB 2 ?_) | (
  refine goB 2 ?_
  all_goals (refine WC.skip ?_)
  skip))
  all_goals (refine Gn ?_)
  all_goals (refine WC.sr ?_)
  all_goals (refine Go ?_)
  all_goals (refine WL.step (ok_nilCheck rfl) rfl rfl rfl ?_)
  all_goals (refine Go ?_)
  all_goals (refine WL.ld rfl (by first | exact cell_blk hb rfl | assumption | exact cell_blk (by assumption) rfl) rfl rfl rfl ?_)
  all_goals (refine WL.call (vs := [_]) rfl (fun a w => Tryz.call37 a w) rfl (cl_peek2 k.cl k.fw) rfl rfl rfl ?_
             rintro _ h2 ⟨rfl, c2, kf2, hx2⟩
             have k2 : So g h2 b cb fb bs bp mp out ob dn true v sy5 := k.clT c2 kf2 (hx2.mono fun _ _ e => .inr (.inl e)) (fun q hq => .inl hq))
  all_goals (refine WL.stepR (okE_alloc (fun w => Tryz.zeroValue71 w)) rfl rfl rfl ?_
             rintro _ h3 ⟨b3, rfl, hg3, hb3, hx3⟩)
  all_goals (refine WL.stepR0 (okE_storeW (fun w => Tryz.sizeOf71 w) rfl rfl rfl hb3 rfl (by simp [itC, Value.oneCell'])) rfl rfl ?_
             rintro _ h4 ⟨hb4, hx4⟩
             have k4 := k2.ext0 (hx3.trans' hx4 (fun q hq e => by omega))
             have hs4 := k4.blk
             unfold soC at hs4
             unfold itC at hb4)
  all_goals (refine Gn ?_)
  all_goals (refine Gs [(0, _), (3, _)] ?_)
  all_goals (refine WC.seq ?_)
  all_goals (refine WC.sr ?_)
  all_goals (refine Go ?_)
  all_goals (refine WL.ld rfl (by first | exact cell_blk hb4 rfl | assumption | exact cell_blk (by assumption) rfl) rfl rfl rfl ?_)
  all_goals (refine Gn ?_)
  all_goals (refine WC.block ?_)
  all_goals (refine WC.sr ?_)
  all_goals (refine Go ?_)
  all_goals (refine goC 3 4 ?_ ?_ <;> first | exact ⟨⟩ | refine Hb.mk fun hb => ?_ | skip)
  all_goals (first | (fail_if_success refine goB 4 ?_) | (
  refine goB 4 ?_
  all_goals (refine WC.sr ?_)
  all_goals (refine Go ?_)
  all_goals (refine Gs [(0, _), (3, _), (33, _)] ?_)
  all_goals (refine goC 5 6 ?_ ?_ <;> first | exact ⟨⟩ | refine Hb.mk fun hb => ?_ | skip)
  all_goals (first | (fail_if_success refine goB 5 ?_) | (
  refine goB 5 ?_
  all_goals (refine WC.sr ?_)
  all_goals (refine Go ?_)
  all_goals (refine WL.step (ok_nilCheck rfl) rfl rfl rfl ?_)
  all_goals (refine Go ?_)
  all_goals (refine WL.ld rfl (by first | exact cell_blk hs4 rfl | assumption | exact cell_blk (by assumption) rfl) rfl rfl rfl ?_)
  all_goals (refine WL.call (vs := [_]) rfl (fun a w => Tryz.call38 a w) rfl (cl_take2 k4.cl k4.fw) rfl rfl rfl ?_
             rintro _ h5 ⟨v5, c5, kf5, hx5, hv5⟩
             have k5 : So g h5 b cb fb bs bp mp out ob dn true v5 [] := k4.clT c5 kf5 (hx5.mono fun _ _ e => .inr e) (fun q hq => .inl (hv5 ▸ hq))
             have hb45 := hx5.obj hb4 (fun e => k4.own1 hb4 (by decide) (by decide) (by decide) (by decide) (by decide) (by rcases e with e | e; exact .inr (.inr (.inl e)); exact .inr (.inr (.inr (.inr (.inr (.inl e)))))))
             obtain ⟨Ao, co, rfl, _⟩ := id k5.own.slice
             have hs5 := k5.blk
             unfold soC at hs5
             have nb : ¬ (b = bs ∨ b = mp ∨ (Value.slice Ao ob.length co).ownBlock = some b) := fun e => by obtain ⟨⟨m, e1, s1⟩, s2, s3⟩ := k5.se; rcases e with e | e | e; exact ty_ne hs5 s1 (by decide) e; exact mp_no s3 hs5 e; exact own_ne k5.own hs5 (by decide) e
             have n3 : ¬ (b3 = bs ∨ b3 = mp ∨ (Value.slice Ao ob.length co).ownBlock = some b3) := fun e => k5.own1 hb45 (by decide) (by decide) (by decide) (by decide) (by decide) (by rcases e with e | e | e; exact .inr (.inr (.inr (.inl e))); exact .inr (.inr (.inr (.inr (.inl e)))); exact .inr (.inr (.inr (.inr (.inr (.inr e)))))))
  all_goals (refine Gn ?_)
  all_goals (refine Gs [(0, _), (3, _)] ?_)
  all_goals (refine WC.seq ?_)
  all_goals (refine WC.drawH (fun h' => Ext (fun q => q = bs ∨ q = mp ∨ (Value.slice Ao ob.length co).ownBlock = some q) h5 h') 17 18 rfl fol ?_)
  all_goals (refine WH.tk 0 rfl (fun hq hC => ok_move rfl) rfl rfl rfl ?_)
  all_goals (refine WH.tk 1 rfl (fun hq hC => ok_move rfl) rfl rfl rfl ?_)
  all_goals (refine WH.tk 2 rfl (fun hq hC => ok_nilCheck rfl) rfl rfl rfl ?_)
  all_goals (refine WH.tk 3 rfl (fun hq hC => ok_fieldAddr rfl Tryz.underlying51 rfl (fun w => Tryz.sizeOf22 w)) rfl rfl rfl ?_)
  all_goals (refine WH.tk 4 rfl (fun hq hC => ok_load (fun w => Tryz.isAgg22 w) rfl (by first | exact hC.cell (by first | exact cell_blk hs5 rfl | assumption | exact cell_blk (by assumption) rfl) (by first | exact nb | exact n3))) rfl rfl rfl ?_)
  all_goals (refine WH.tk 5 rfl (fun hq hC => ok_move rfl) rfl rfl rfl ?_)
  all_goals (refine WH.tk 6 rfl (fun hq hC => ok_nilCheck rfl) rfl rfl rfl ?_)
  all_goals (refine WH.tk 7 rfl (fun hq hC => ok_fieldAddr rfl Tryz.underlying51 rfl (fun w => Tryz.sizeOf49 w)) rfl rfl rfl ?_)
  all_goals (refine WH.tk 8 rfl (fun hq hC => ok_fieldAddr rfl Tryz.underlying49 rfl (fun w => Tryz.sizeOf27 w)) rfl rfl rfl ?_)
  all_goals (refine WH.tk 9 rfl (fun hq hC => ok_load (fun w => Tryz.isAgg27 w) rfl (by first | exact hC.cell (by first | exact cell_blk hs5 rfl | assumption | exact cell_blk (by assumption) rfl) (by first | exact nb | exact n3))) rfl rfl rfl ?_)
  all_goals (refine WH.tk 10 rfl (fun hq hC => ok_fieldAddr rfl Tryz.underlying71 rfl (fun w => Tryz.sizeOf34 w)) rfl rfl rfl ?_)
  all_goals (refine WH.tk 11 rfl (fun hq hC => ok_loadN (fun w => Tryz.isAgg34 w) (fun w => Tryz.sizeOf34 w) rfl rfl (by exact At.pre (xs := [_, _, _, _, _, _, _, _, _, _]) (ys := _) (At.tl (At.tl (At.tl (At.tl (At.tl ((At.of_block hb45).ext hC n3)))))))) rfl rfl rfl ?_)
  all_goals (refine WH.one 12 (by kernel_rfl) ?_)
  all_goals (refine Comes1.call (vs := [_, _]) rfl rfl (fun a w => Tryz.call28 a w) rfl (doS k5.se) rfl rfl rfl ?_ (fun _ => by kernel_rfl)
             rintro _ h6 ⟨qz, rfl, hz6, s6, hx6, hgz⟩
             have hC6 : Ext (fun q => q = bs ∨ q = mp ∨ (Value.slice Ao ob.length co).ownBlock = some q) h5 h6 := hx6.mono fun _ _ e => e.elim .inl (fun e => .inr (.inl e))
             have k6 := k5.seT s6 hx6)
  all_goals (refine ⟨fun _ => hC6, ?_⟩)
  all_goals (refine WH.one 13 (by kernel_rfl) ?_)
  all_goals (refine Comes1.call (vs := [_]) rfl rfl (fun a w => Tryz.call40 a w) rfl (z_bytes hz6) rfl rfl rfl ?_ (fun _ => by kernel_rfl)
             rintro v7 h7 ⟨ho7, hx7, hf7⟩
             have hC7 := hC6.trans (hx7.mono fun _ _ e => e.elim)
             have k7 := k6.ext0 hx7
             obtain ⟨A7, c7, rfl, _⟩ := id ho7.slice)
  all_goals (refine ⟨fun _ => hC7, ?_⟩)
  all_goals (refine WH.one 14 (by kernel_rfl) ?_)
  all_goals (refine Comes1.run rfl (ok_append (sz := 1) (bytes := 1) rfl Tryz.underlying22 (show Tryz.prog.info? 5 = some Tryz.t5 by kernel_rfl) rfl rfl rfl rfl (by decide) rfl rfl k7.own ho7.rd (by intro c hc; obtain ⟨b, _, rfl⟩ := List.mem_map.1 hc; rfl) (by simp [maxLen]; omega) (by omega)) rfl rfl rfl ?_ (fun _ => by kernel_rfl)
             rintro v8 h8 ⟨ho8, hx8, hl8⟩
             have hC8 := hC7.trans (hx8.mono fun _ _ e => .inr (.inr e))
             have ho8 : Own h8 v8 5 1 (ob ++ z6).length (bys (ob ++ z6)) := by rw [List.length_append, bys_app]; exact ho8
             obtain ⟨A8, c8, rfl, _⟩ := id ho8.slice
             have hs8 := hC8.obj hs5 nb)
  all_goals (refine ⟨fun _ => hC8, ?_⟩)
  all_goals (refine WH.one 15 (by kernel_rfl) ?_)
  all_goals (refine Comes1.run rfl (OkP.r (ok_nilCheck rfl)) rfl rfl rfl ?_ (fun _ => by kernel_rfl)
             rintro _ hz ⟨rfl, _⟩
             subst hz)
  all_goals (refine ⟨fun _ => by first | assumption | trivial, ?_⟩)
  all_goals (refine WH.one 16 (by kernel_rfl) ?_)
  all_goals (refine Comes1.run rfl (OkP.r (ok_fieldAddr rfl Tryz.underlying51 rfl (fun w => Tryz.sizeOf22 w))) rfl rfl rfl ?_ (fun _ => by kernel_rfl)
             rintro _ hz ⟨rfl, _⟩
             subst hz)
  all_goals (refine ⟨fun _ => by first | assumption | trivial, ?_⟩)
  all_goals (refine WH.one 17 (by kernel_rfl) ?_)
  all_goals (refine Comes1.run0 rfl (okE_store (fun w => Tryz.sizeOf22 w) rfl rfl hs8 (Nat.le_of_ble_eq_true rfl) rfl rfl) rfl rfl ?_ (fun _ => by kernel_rfl)
             rintro _ h9 ⟨hs9, hx9⟩
             have hf8 : ∀ q, (Value.slice A8 (ob ++ z6).length c8).ownBlock = some q → (Value.slice Ao ob.length co).ownBlock = some q ∨ h7.size ≤ q := kin_of hl8 (Nat.le_refl _)
             have k9 : So g h9 b cb fb bs bp mp (Value.slice A8 (ob ++ z6).length c8) (ob ++ z6) dn true v5 [] := k7.outT hs9 (ho8.ext hx9 (fun q hq e => own_ne ho8 hs8 (by decide) (e ▸ hq))) ((hx8.mono fun _ _ e => .inr e).trans (hx9.mono fun _ _ e => .inl e)) hf8)
  all_goals (refine ⟨fun e => (by cases e), ?_⟩)
  all_goals (refine WH.done (by kernel_rfl) ?_)
  all_goals (refine Gn ?_)
  all_goals (refine Gs [(0, _)] ?_)
  all_goals (refine WC.region ?_)
  all_goals (refine Go ?_)
  all_goals (refine WL.step (ok_nilCheck rfl) rfl rfl rfl ?_)
  all_goals (refine Go ?_)
  all_goals (refine WL.ld rfl (by first | exact cell_blk hs9 rfl | assumption | exact cell_blk (by assumption) rfl) rfl rfl rfl ?_)
  all_goals (refine Go ?_)
  all_goals (refine WL.step (ok_nilCheck rfl) rfl rfl rfl ?_)
  all_goals (refine Go ?_)
  all_goals (refine WL.stepR0 (okE_store (fun w => Tryz.sizeOf3 w) rfl rfl hs9 (Nat.le_of_ble_eq_true rfl) rfl rfl) rfl rfl ?_
             rintro _ h10 ⟨hs10, hx10⟩)
  all_goals (refine Gn ?_)
  skip))
  all_goals (first | (fail_if_success refine goB 6 ?_) | (
  refine goB 6 ?_
  all_goals (refine WC.sr ?_)
  all_goals (refine Go ?_)
  all_goals (refine Gt ?_)
  all_goals (exact ⟨rfl, _, v5, k9.outT hs10 (k9.own.ext hx10 (fun q hq e => own_ne k9.own hs9 (by decide) (e ▸ hq))) (hx10.mono fun _ _ e => .inl e) (fun q hq => .inl hq)⟩)
  skip))
  skip))
  all_goals (refine Gn ?_)
  all_goals (refine WC.sr ?_)
  all_goals (refine Go ?_)
  all_goals (refine Gt ?_)
  all_goals (exact ⟨rfl, _, v5, k9.outT hs10 (k9.own.ext hx10 (fun q hq e => own_ne k9.own hs9 (by decide) (e ▸ hq))) (hx10.mono fun _ _ e => .inl e) (fun q hq => .inl hq)⟩)
end
end Go.Proofs.YtdjjpbbhcidaaaaGreatDoor


/-
  A SERVER (layer 31), by the code: what was said is taken.
-/
namespace Go.Proofs.YtdjjpbbhcidaaaaGreatDoor
open Go Go.RK

end Go.Proofs.YtdjjpbbhcidaaaaGreatDoor


/-
  A SERVER (layer 31), by the code: New, Feed, Take, Over, Session.
-/
namespace Go.Proofs.YtdjjpbbhcidaaaaGreatDoor
open Go Go.RK

/-- A server that no call made. -/
def NoSv (h : Heap) (p : Value) : Prop := p = .pointer none ∨ ∃ b, p = .pointer (some ⟨b, 0, none⟩) ∧ h[b]? = some (.cells ⟨svC (.slice none 0 0) (.pointer none) (.pointer none) (.slice none 0 0) (In 0) false false⟩ 30 (0, 0))
theorem NoSv.ext0 {h h' : Heap} {p : Value} (k : NoSv h p) (x : Ext No h h') : NoSv h' p := by
  rcases k with rfl | ⟨b, rfl, hb⟩
  · exact .inl rfl
  · exact .inr ⟨b, rfl, x.obj hb nos⟩
abbrev frZ : List Value := [.int .u8 0, .int .u8 0, St [], St [], St [], .slice none 0 0, .slice none 0 0, .slice none 0 0, .slice none 0 0, In 0]
end Go.Proofs.YtdjjpbbhcidaaaaGreatDoor


/-
  A SERVER (layer 31), by the code: New, Feed, Take, Over.
-/
namespace Go.Proofs.YtdjjpbbhcidaaaaGreatDoor
open Go Go.RK

set_option maxHeartbeats 2000000 in
set_option maxRecDepth 100000 in
theorem clone_nilp {h : Heap} : CallsH Tryz.prog 68 ⟨[.slice none 0 0]⟩ h fun u h' => u = .slice none 0 0 ∧ h' = h := by
  refine calls [(0, _)] Tryz.func68 rfl Tryz.ntmps68 rfl ⟨rfl, trivial⟩ ?_
  all_goals (refine WC.sr ?_)
  all_goals (refine Go ?_)
  all_goals (refine WC.seq ?_)
  all_goals (refine WC.sr ?_)
  all_goals (refine Go ?_)
  all_goals (refine WL.step (ok_eqlSn Tryz.underlying28 rfl rfl) rfl rfl rfl ?_)
  all_goals (refine Gn ?_)
  all_goals (refine goC 1 2 ?_ ?_ <;> first | exact ⟨⟩ | refine Hb.mk fun hb => ?_ | skip)
  all_goals (first | (fail_if_success refine goB 1 ?_) | (
  refine goB 1 ?_
  all_goals (refine WC.sr ?_)
  all_goals (refine Go ?_)
  all_goals (refine Gt ?_)
  all_goals (exact ⟨rfl, rfl⟩)
  skip))
  all_goals (first | (fail_if_success refine goB 2 ?_) | (
  refine goB 2 ?_
  all_goals (refine WC.skip ?_)
  skip))
  all_goals (refine Gn ?_)
  all_goals (refine WC.sr ?_)
  all_goals (refine WL.stepR (okE_buildSlice (vs := []) (cs := []) (fun _ => []) Tryz.underlying28 rfl rfl (by kernel_rfl)) rfl rfl rfl ?_
             rintro _ h1 ⟨b1, rfl, hg1, hb1, hx1⟩)
  all_goals (refine Go ?_)
  all_goals (refine WL.stepR (ok_append (sz := 2) (bytes := 32) rfl Tryz.underlying28 (show Tryz.prog.info? 125 = some Tryz.t125 by kernel_rfl) rfl rfl rfl rfl (by decide) rfl rfl (by assumption) (by first | assumption | exact rd_blk (by assumption) rfl) (by simp [Value.oneCell']) (by simp only [maxLen]; omega) (by omega)) rfl rfl rfl ?_
             rintro v1 h1 ⟨ho1, hx1, hl1⟩)
  all_goals (refine Go ?_)
  all_goals (refine Gs [(2, _)] ?_)
  all_goals (refine Gt ?_)
  all_goals (exact ⟨rfl, rfl⟩)
end Go.Proofs.YtdjjpbbhcidaaaaGreatDoor


/-
  A CLIENT ALONE (layer 44), by the code: New, Out, Done, Status; those that no call made; the law's awake.
-/
namespace Go.Proofs.YtdjjpbbhcidaaaaGreatDoor
open Go Go.RK

section
variable {g h h' : Heap} {b cb fb bs bp mp : Nat} {out out' v v' : Value} {ob ob' l l' : List UInt8} {dn dn' : Int} {bg bg' : Bool} {S : Nat → Prop}
set_option maxHeartbeats 2000000 in
set_option maxRecDepth 100000 in
theorem so_new {a : Addr} : CallsH Tryz.prog 42 ⟨[.pointer (some a), .slice none 0 0, In 0]⟩ h fun u h' => ∃ b cb fb bs bp mp, u = .pointer (some ⟨b, 0, none⟩) ∧ So h h' b cb fb bs bp mp (.slice none 0 0) [] 0 false (.slice none 0 0) [] := by
  refine calls [(0, _), (1, _), (2, _)] Tryz.func42 rfl Tryz.ntmps42 rfl ⟨rfl, rfl, rfl, trivial⟩ ?_
  all_goals (refine WC.sr ?_)
  all_goals (refine Go ?_)
  all_goals (refine WC.sr ?_)
  all_goals (refine WL.call (vs := [_, _]) rfl (fun a w => Tryz.call76 a w) rfl (cl_new) rfl rfl rfl ?_
             rintro _ h1 ⟨cb, fb, rfl, c1, kf1, hgc, hgf, hx1⟩)
  all_goals (refine Go ?_)
  all_goals (refine Gs [(0, _), (1, _), (2, _), (7, _), (8, _)] ?_)
  all_goals (refine WC.seq ?_)
  all_goals (refine WC.sr ?_)
  all_goals (refine Go ?_)
  all_goals (refine goC 1 2 ?_ ?_ <;> first | exact ⟨⟩ | refine Hb.mk fun hb => ?_ | skip)
  all_goals (first | (fail_if_success refine goB 1 ?_) | (
  refine goB 1 ?_
  all_goals (refine WC.sr ?_)
  all_goals (refine Go ?_)
  all_goals (refine Gs [(6, _)] ?_)
  all_goals (refine Gt ?_)
  all_goals (exact ⟨b, cb, fb, bs, bp, mp, rfl, hb3, Own.nil _ _ _, X23.obj c1 nos, kf1.ext0 X23, s2.ext0 hx3, ⟨by omega, by omega, by omega, by omega, by omega⟩, ⟨fun q hq => (by cases hq), fun q hq => (by cases hq)⟩, fun q hq => (by cases hq), hx1.trans X23⟩)
  skip))
  all_goals (first | (fail_if_success refine goB 2 ?_) | (
  refine goB 2 ?_
  all_goals (refine WC.skip ?_)
  skip))
  all_goals (refine Gn ?_)
  all_goals (refine WC.sr ?_)
  all_goals (refine Go ?_)
  all_goals (refine WL.call (vs := [_]) rfl (fun a w => Tryz.call67 a w) rfl (new_sess _) rfl rfl rfl ?_
             rintro _ h2 ⟨bs, ms, bp, mp, rfl, hbs, _, hbp, hmp, hgm, hlm, hgp, hgs, hx2⟩)
  all_goals (refine WL.step (ok_buildF (vs := [_, _]) (cs := [_, _]) (fun | [a0, a1] => [a0, a1] | _ => []) rfl rfl (by kernel_rfl)) rfl rfl rfl ?_)
  all_goals (refine Go ?_)
  all_goals (refine WL.call (vs := [_]) rfl (fun a w => Tryz.call68 a w) rfl (clone_nilp) rfl rfl rfl ?_
             rintro _ hz ⟨rfl, _⟩
             subst hz)
  all_goals (refine Go ?_)
  all_goals (refine WL.step (ok_buildF (vs := [_, _, _]) (cs := [_, _, _, _, _, _, _]) (fun | [.agg ⟨[a0, a1]⟩, a2, a3] => [a0, a1, a2, a3, (.slice none 0 0), (.int .i64 0), (.bool false)] | _ => []) rfl rfl (by kernel_rfl)) rfl rfl rfl ?_)
  all_goals (refine WL.stepR (okE_box rfl) rfl rfl rfl ?_
             rintro _ h3 ⟨b, rfl, hg3, hb3, hx3⟩
             have l1 := hx1.size
             have l2 := hx2.size
             have s2 : SeS h2 bs bp mp := ⟨⟨_, _, hbs⟩, hbp, hmp⟩
             have X23 := hx2.trans hx3)
  all_goals (refine Go ?_)
  all_goals (refine Gs [(6, _)] ?_)
  all_goals (refine Gt ?_)
  all_goals (exact ⟨b, cb, fb, bs, bp, mp, rfl, hb3, Own.nil _ _ _, X23.obj c1 nos, kf1.ext0 X23, s2.ext0 hx3, ⟨by omega, by omega, by omega, by omega, by omega⟩, ⟨fun q hq => (by cases hq), fun q hq => (by cases hq)⟩, fun q hq => (by cases hq), hx1.trans X23⟩)
set_option maxHeartbeats 2000000 in
set_option maxRecDepth 100000 in
theorem so_out (k : So g h b cb fb bs bp mp out ob dn bg v l) (hlo : ob.length ≤ 1000) : CallsH Tryz.prog 15 ⟨[.pointer (some ⟨b, 0, none⟩)]⟩ h fun u h' => Own h' u 5 1 ob.length (bys ob) ∧ Ext No h h' ∧ ∀ q, u.ownBlock = some q → h.size ≤ q := by
  have kr := so_ready k
  have hb := k.blk
  unfold soC at hb
  obtain ⟨Ao, co, rfl, _⟩ := id k.own.slice
  refine calls [(0, _)] Tryz.func15 rfl Tryz.ntmps15 rfl ⟨rfl, trivial⟩ ?_
  all_goals (refine WC.sr ?_)
  all_goals (refine Go ?_)
  all_goals (refine WC.seq ?_)
  all_goals (refine WC.sr ?_)
  all_goals (refine Go ?_)
  all_goals (refine WL.call (vs := [_]) rfl (fun a w => Tryz.call35 a w) rfl (kr) rfl rfl rfl ?_
             rintro _ hq ⟨rfl, hz⟩
             replace hz := hz.symm
             subst hz)
  all_goals (refine Go ?_)
  all_goals (refine goC 1 2 ?_ ?_ <;> first | exact ⟨⟩ | refine Hb.mk fun hb => ?_ | skip)
  all_goals (first | (fail_if_success refine goB 1 ?_) | (
  refine goB 1 ?_
  all_goals (refine WC.sr ?_)
  all_goals (refine Go ?_)
  all_goals (refine Gs [(2, _)] ?_)
  all_goals (refine Gt ?_)
  all_goals (exact ⟨ho1, hx1, hf1⟩)
  skip))
  all_goals (first | (fail_if_success refine goB 2 ?_) | (
  refine goB 2 ?_
  all_goals (refine WC.skip ?_)
  skip))
  all_goals (refine Gn ?_)
  all_goals (refine Gs [(0, _)] ?_)
  all_goals (refine WC.sr ?_)
  all_goals (refine Go ?_)
  all_goals (refine WL.step (ok_nilCheck rfl) rfl rfl rfl ?_)
  all_goals (refine Go ?_)
  all_goals (refine WL.ld rfl (by first | exact cell_blk hb rfl | assumption | exact cell_blk (by assumption) rfl) rfl rfl rfl ?_)
  all_goals (refine WL.call (vs := [_]) rfl (fun a w => Tryz.call41 a w) rfl (clone_byt ob k.own.rd (by omega)) rfl rfl rfl ?_
             rintro v1 h1 ⟨ho1, hx1, hf1⟩)
  all_goals (refine Go ?_)
  all_goals (refine Gs [(2, _)] ?_)
  all_goals (refine Gt ?_)
  all_goals (exact ⟨ho1, hx1, hf1⟩)
set_option maxHeartbeats 2000000 in
set_option maxRecDepth 100000 in
theorem so_done (k : So g h b cb fb bs bp mp out ob dn bg v l) : CallsH Tryz.prog 14 ⟨[.pointer (some ⟨b, 0, none⟩)]⟩ h fun u h' => u = In dn ∧ h' = h := by
  have kr := so_ready k
  have hb := k.blk
  unfold soC at hb
  refine calls [(0, _)] Tryz.func14 rfl Tryz.ntmps14 rfl ⟨rfl, trivial⟩ ?_
  all_goals (refine WC.sr ?_)
  all_goals (refine Go ?_)
  all_goals (refine WC.seq ?_)
  all_goals (refine WC.sr ?_)
  all_goals (refine Go ?_)
  all_goals (refine WL.call (vs := [_]) rfl (fun a w => Tryz.call35 a w) rfl (kr) rfl rfl rfl ?_
             rintro _ hq ⟨rfl, hz⟩
             replace hz := hz.symm
             subst hz)
  all_goals (refine Go ?_)
  all_goals (refine goC 1 2 ?_ ?_ <;> first | exact ⟨⟩ | refine Hb.mk fun hb => ?_ | skip)
  all_goals (first | (fail_if_success refine goB 1 ?_) | (
  refine goB 1 ?_
  all_goals (refine WC.sr ?_)
  all_goals (refine Go ?_)
  all_goals (refine Gs [(2, _)] ?_)
  all_goals (refine Gt ?_)
  all_goals (exact ⟨rfl, rfl⟩)
  skip))
  all_goals (first | (fail_if_success refine goB 2 ?_) | (
  refine goB 2 ?_
  all_goals (refine WC.skip ?_)
  skip))
  all_goals (refine Gn ?_)
  all_goals (refine Gs [(0, _)] ?_)
  all_goals (refine WC.sr ?_)
  all_goals (refine Go ?_)
  all_goals (refine WL.step (ok_nilCheck rfl) rfl rfl rfl ?_)
  all_goals (refine Go ?_)
  all_goals (refine WL.ld rfl (by first | exact cell_blk hb rfl | assumption | exact cell_blk (by assumption) rfl) rfl rfl rfl ?_)
  all_goals (refine Go ?_)
  all_goals (refine Gs [(2, _)] ?_)
  all_goals (refine Gt ?_)
  all_goals (exact ⟨rfl, rfl⟩)
set_option maxHeartbeats 2000000 in
set_option maxRecDepth 100000 in
theorem so_status (k : So g h b cb fb bs bp mp out ob dn bg v l) : CallsH Tryz.prog 43 ⟨[.pointer (some ⟨b, 0, none⟩)]⟩ h fun u h' => u = .int .u8 73 ∧ h' = h := by
  have kr := so_ready k
  have hb := k.blk
  unfold soC at hb
  refine calls [(0, _)] Tryz.func43 rfl Tryz.ntmps43 rfl ⟨rfl, trivial⟩ ?_
  all_goals (refine WC.sr ?_)
  all_goals (refine Go ?_)
  all_goals (refine WC.seq ?_)
  all_goals (refine WC.sr ?_)
  all_goals (refine Go ?_)
  all_goals (refine WL.call (vs := [_]) rfl (fun a w => Tryz.call35 a w) rfl (kr) rfl rfl rfl ?_
             rintro _ hq ⟨rfl, hz⟩
             replace hz := hz.symm
             subst hz)
  all_goals (refine Go ?_)
  all_goals (refine goC 1 2 ?_ ?_ <;> first | exact ⟨⟩ | refine Hb.mk fun hb => ?_ | skip)
  all_goals (first | (fail_if_success refine goB 1 ?_) | (
  refine goB 1 ?_
  all_goals (refine WC.sr ?_)
  all_goals (refine Go ?_)
  all_goals (refine Gs [(2, _)] ?_)
  all_goals (refine Gt ?_)
  all_goals (exact ⟨rfl, rfl⟩)
  skip))
  all_goals (first | (fail_if_success refine goB 2 ?_) | (
  refine goB 2 ?_
  all_goals (refine WC.skip ?_)
  skip))
  all_goals (refine Gn ?_)
  all_goals (refine Gs [(0, _)] ?_)
  all_goals (refine WC.sr ?_)
  all_goals (refine Go ?_)
  all_goals (refine WL.step (ok_nilCheck rfl) rfl rfl rfl ?_)
  all_goals (refine Go ?_)
  all_goals (refine WL.ld rfl (by first | exact cell_blk hb rfl | assumption | exact cell_blk (by assumption) rfl) rfl rfl rfl ?_)
  all_goals (refine WL.call (vs := [_]) rfl (fun a w => Tryz.call77 a w) rfl (statusS k.se) rfl rfl rfl ?_
             rintro _ hq ⟨rfl, hz⟩
             replace hz := hz.symm
             subst hz)
  all_goals (refine Go ?_)
  all_goals (refine Gs [(2, _)] ?_)
  all_goals (refine Gt ?_)
  all_goals (exact ⟨rfl, rfl⟩)
set_option maxHeartbeats 2000000 in
set_option maxRecDepth 100000 in
theorem awake44 : CallsH Tryz.prog 16 ⟨[]⟩ h fun u h' => u = .bool true ∧ Ext No h h' := by
  refine calls [] Tryz.func16 rfl Tryz.ntmps16 rfl trivial ?_
  all_goals (refine WC.sr ?_)
  all_goals (refine Go ?_)
  all_goals (refine WC.sr ?_)
  all_goals (refine WL.call (vs := []) rfl (fun a w => Tryz.call33 a w) rfl (new_eng) rfl rfl rfl ?_
             rintro _ h1 ⟨be, me, rfl, _, _, _, _, hx1⟩)
  all_goals (refine WL.call (vs := [_, _, _]) rfl (fun a w => Tryz.call42 a w) rfl (so_new) rfl rfl rfl ?_
             rintro _ h2 ⟨b, cb, fb, bs, bp, mp, rfl, k2⟩)
  all_goals (refine Go ?_)
  all_goals (refine WC.seq ?_)
  all_goals (refine WC.sr ?_)
  all_goals (refine Go ?_)
  all_goals (refine WL.step (ok_eqlPn Tryz.underlying46 rfl rfl) rfl rfl rfl ?_)
  all_goals (refine Go ?_)
  all_goals (refine goP 6 ?_ ?_ <;> first | exact ⟨⟩ | refine Hb.mk fun hb => ?_ | skip)
  all_goals (refine Gg ?_)
  all_goals (first
               | (refine WL.pass rfl rfl rfl ?_)
               | (refine WL.call (vs := []) rfl (fun a w => Tryz.call34 a w) rfl (hello_doc) rfl rfl rfl ?_
                  rintro v3 h3 ⟨ho3, hx3, hf3⟩
                  obtain ⟨A3, c3, rfl, _⟩ := id ho3.slice))
  all_goals (first
               | (refine WL.pass rfl rfl rfl ?_)
               | (refine WL.stepR (okE_buildSlice (vs := [_, _, _, _, _]) (cs := [_, _, _, _, _]) (fun | [a0, a1, a2, a3, a4] => [a0, a1, a2, a3, a4] | _ => []) Tryz.underlying22 rfl rfl (by kernel_rfl)) rfl rfl rfl ?_
                  rintro _ h4 ⟨b4, rfl, hg4, hb4, hx4⟩
                  have k4 := (k2.ext0 hx3).ext0 hx4))
  all_goals (first
               | (refine WL.pass rfl rfl rfl ?_)
               | (refine WL.stepR (ok_append (sz := 1) (bytes := 1) rfl Tryz.underlying22 (show Tryz.prog.info? 5 = some Tryz.t5 by kernel_rfl) rfl rfl rfl rfl (by decide) rfl rfl (ho3.ext hx4 (fun _ _ => nos)) (rd_blk (len := 5) (sz := 1) hb4 rfl) (by simp [Value.oneCell']) (by simp only [maxLen]; omega) (by omega)) rfl rfl rfl ?_
                  rintro v5 h5 ⟨ho5, hx5, hl5⟩
                  have ho5 : Own h5 v5 5 1 21 (bys feed21) := ho5
                  have hlA : ∀ q, (Value.slice A3 16 c3).ownBlock = some q → h2.size ≤ q := hf3
                  have k5 : So h1 h5 b cb fb bs bp mp (.slice none 0 0) [] 0 false (.slice none 0 0) [] := k2.ext0 ((hx3.trans hx4).trans' hx5 (fun q hq e => by have := hlA q e; omega))
                  obtain ⟨A5, c5, rfl, _⟩ := id ho5.slice))
  all_goals (first
               | (refine WL.pass rfl rfl rfl ?_)
               | (refine WL.call (vs := [_, _]) rfl (fun a w => Tryz.call12 a w) rfl (so_feed (m := feed21) k5 ho5.rd (by decide)) rfl rfl rfl ?_
                  rintro _ h6 ⟨rfl, v6, k6⟩
                  have k6 : So h1 h6 b cb fb bs bp mp (.slice none 0 0) [] 0 false v6 feed21 := k6))
  all_goals (refine Gg ?_)
  all_goals (refine Go ?_)
  all_goals (refine goP 14 ?_ ?_ <;> first | exact ⟨⟩ | refine Hb.mk fun hb => ?_ | skip)
  all_goals (refine Gg ?_)
  all_goals (first
               | (refine WL.pass rfl rfl rfl ?_)
               | (refine WL.call (vs := [_]) rfl (fun a w => Tryz.call13 a w) rfl (so_step1 k6 (by decide)) rfl rfl rfl ?_
                  rintro _ h7 ⟨rfl, o7, v7, k7⟩))
  all_goals (refine Gg ?_)
  all_goals (refine Go ?_)
  all_goals (refine goP 19 ?_ ?_ <;> first | exact ⟨⟩ | refine Hb.mk fun hb => ?_ | skip)
  all_goals (refine Gg ?_)
  all_goals (first
               | (refine WL.pass rfl rfl rfl ?_)
               | (refine WL.call (vs := [_]) rfl (fun a w => Tryz.call13 a w) rfl (so_step2 k7 (by decide) (by decide)) rfl rfl rfl ?_
                  rintro _ h8 ⟨rfl, o8, v8, k8⟩))
  all_goals (refine Gg ?_)
  all_goals (refine Go ?_)
  all_goals (refine goP 24 ?_ ?_ <;> first | exact ⟨⟩ | refine Hb.mk fun hb => ?_ | skip)
  all_goals (refine Gg ?_)
  all_goals (first
               | (refine WL.pass rfl rfl rfl ?_)
               | (refine WL.call (vs := [_]) rfl (fun a w => Tryz.call13 a w) rfl (so_step0 k8) rfl rfl rfl ?_
                  rintro _ h9 ⟨rfl, hx9⟩
                  have k9 := k8.ext0 hx9))
  all_goals (refine Go ?_)
  all_goals (refine Gs [(1, _), (27, _)] ?_)
  all_goals (refine goC 1 2 ?_ ?_ <;> first | exact ⟨⟩ | refine Hb.mk fun hb => ?_ | skip)
  all_goals (first | (fail_if_success refine goB 1 ?_) | (
  refine goB 1 ?_
  all_goals (refine WC.sr ?_)
  all_goals (refine Go ?_)
  all_goals (refine Gt ?_)
  all_goals (exact ⟨rfl, hx1.trans k10.ext⟩)
  skip))
  all_goals (first | (fail_if_success refine goB 2 ?_) | (
  refine goB 2 ?_
  all_goals (refine WC.skip ?_)
  skip))
  all_goals (refine Gn ?_)
  all_goals (refine WC.sr ?_)
  all_goals (refine Go ?_)
  all_goals (refine WL.call (vs := [_]) rfl (fun a w => Tryz.call15 a w) rfl (so_out k9 (by decide)) rfl rfl rfl ?_
             rintro v10 h10 ⟨ho10, hx10, hf10⟩
             have ho10 : Own h10 v10 5 1 34 (bys ([] ++ greet28 ++ z6)) := ho10
             obtain ⟨A10, c10, rfl, _⟩ := id ho10.slice
             have k10 := k9.ext0 hx10)
  all_goals (refine Go ?_)
  all_goals (refine goP 32 ?_ ?_ <;> first | exact ⟨⟩ | refine Hb.mk fun hb => ?_ | skip)
  all_goals (refine Gg ?_)
  all_goals (first
               | (refine WL.pass rfl rfl rfl ?_)
               | (refine WL.call (vs := [_]) rfl (fun a w => Tryz.call14 a w) rfl (so_done k10) rfl rfl rfl ?_
                  rintro _ hq ⟨rfl, hz⟩
                  replace hz := hz.symm
                  subst hz))
  all_goals (refine Gg ?_)
  all_goals (refine Go ?_)
  all_goals (refine goP 37 ?_ ?_ <;> first | exact ⟨⟩ | refine Hb.mk fun hb => ?_ | skip)
  all_goals (refine Gg ?_)
  all_goals (first
               | (refine WL.pass rfl rfl rfl ?_)
               | (refine WL.call (vs := [_]) rfl (fun a w => Tryz.call43 a w) rfl (so_status k10) rfl rfl rfl ?_
                  rintro _ hq ⟨rfl, hz⟩
                  replace hz := hz.symm
                  subst hz))
  all_goals (refine Gg ?_)
  all_goals (refine Go ?_)
  all_goals (refine Gs [(0, _)] ?_)
  all_goals (refine Gt ?_)
  all_goals (exact ⟨rfl, hx1.trans k10.ext⟩)
/-- A client alone that no call made. -/
def NoSo (h : Heap) (p : Value) : Prop := p = .pointer none ∨ ∃ b, p = .pointer (some ⟨b, 0, none⟩) ∧ h[b]? = some (.cells ⟨[.pointer none, .pointer none, .slice none 0 0, In 0, .slice none 0 0, In 0, .bool false]⟩ 51 (0, 0))
set_option maxHeartbeats 2000000 in
set_option maxRecDepth 100000 in
theorem noso_ready {p : Value} (k : NoSo h p) : CallsH Tryz.prog 35 ⟨[p]⟩ h fun u h' => u = .bool false ∧ h' = h := by
  rcases k with rfl | ⟨b, rfl, hb⟩
  all_goals
    refine calls [(0, _)] Tryz.func35 rfl Tryz.ntmps35 rfl ⟨rfl, trivial⟩ ?_
    all_goals (refine WC.sr ?_)
    all_goals (refine Go ?_)
    all_goals (refine WC.sr ?_)
    all_goals (refine Go ?_)
    all_goals (refine WL.step (ok_neqPn Tryz.underlying46 rfl rfl) rfl rfl rfl ?_)
    all_goals (refine Go ?_)
    all_goals (refine goP 5 ?_ ?_ <;> first | exact ⟨⟩ | refine Hb.mk fun hb => ?_ | skip)
    all_goals (refine Gg ?_)
    all_goals (first | (refine WL.pass rfl rfl rfl ?_) | (refine WL.step (ok_nilCheck rfl) rfl rfl rfl ?_))
    all_goals (refine Gg ?_)
    all_goals (first | (refine WL.pass rfl rfl rfl ?_) | (refine WL.ld rfl (by first | exact cell_blk hb rfl | assumption | exact cell_blk (by assumption) rfl) rfl rfl rfl ?_))
    all_goals (first | (refine WL.pass rfl rfl rfl ?_) | (refine WL.step (ok_neqPn Tryz.underlying47 rfl rfl) rfl rfl rfl ?_))
    all_goals (refine Go ?_)
    all_goals (refine Gs [(2, _)] ?_)
    all_goals (refine Gt ?_)
    all_goals (exact ⟨rfl, rfl⟩)
set_option maxHeartbeats 2000000 in
set_option maxRecDepth 100000 in
theorem noso_feed {p w : Value} (k : NoSo h p) : CallsH Tryz.prog 12 ⟨[p, w]⟩ h fun u h' => u = In 2 ∧ h' = h := by
  refine calls [(0, _), (1, _)] Tryz.func12 rfl Tryz.ntmps12 rfl ⟨rfl, rfl, trivial⟩ ?_
  all_goals (refine WC.sr ?_)
  all_goals (refine Go ?_)
  all_goals (refine WC.seq ?_)
  all_goals (refine WC.sr ?_)
  all_goals (refine Go ?_)
  all_goals (refine WL.call (vs := [_]) rfl (fun a w => Tryz.call35 a w) rfl (noso_ready k) rfl rfl rfl ?_
             rintro _ hq ⟨rfl, hz⟩
             replace hz := hz.symm
             subst hz)
  all_goals (refine Go ?_)
  all_goals (refine goC 1 2 ?_ ?_ <;> first | exact ⟨⟩ | refine Hb.mk fun hb => ?_ | skip)
  all_goals (first | (fail_if_success refine goB 1 ?_) | (
  refine goB 1 ?_
  all_goals (refine WC.sr ?_)
  all_goals (refine Go ?_)
  all_goals (refine Gs [(4, _)] ?_)
  all_goals (refine Gt ?_)
  all_goals (exact ⟨rfl, rfl⟩)
  skip))
  all_goals (first | (fail_if_success refine goB 2 ?_) | (
  refine goB 2 ?_
  all_goals (refine WC.skip ?_)
  skip))
  all_goals (refine Gn ?_)
  all_goals (refine Gs [(0, _), (1, _)] ?_)
  all_goals (refine WC.sr ?_)
  all_goals (refine Go ?_)
  all_goals (refine WL.step (ok_nilCheck rfl) rfl rfl rfl ?_)
  all_goals (refine Go ?_)
  all_goals (refine Ld ?_)
  all_goals (refine Go ?_)
  all_goals (fail "no contract for call of (*remuda/client.Client).Feed at 3.6")
  all_goals (refine Go ?_)
  all_goals (refine Gs [(4, _)] ?_)
  all_goals (refine Gt ?_)
  all_goals (exact ⟨rfl, rfl⟩)
set_option maxHeartbeats 2000000 in
set_option maxRecDepth 100000 in
theorem noso_step {p : Value} (k : NoSo h p) : CallsH Tryz.prog 13 ⟨[p]⟩ h fun u h' => u = .bool false ∧ h' = h := by
  refine calls [(0, _)] Tryz.func13 rfl Tryz.ntmps13 rfl ⟨rfl, trivial⟩ ?_
  all_goals (refine WC.sr ?_)
  all_goals (refine Go ?_)
  all_goals (refine WC.seq ?_)
  all_goals (refine WC.sr ?_)
  all_goals (refine Go ?_)
  all_goals (refine WL.call (vs := [_]) rfl (fun a w => Tryz.call35 a w) rfl (noso_ready k) rfl rfl rfl ?_
             rintro _ hq ⟨rfl, hz⟩
             replace hz := hz.symm
             subst hz)
  all_goals (refine Go ?_)
  all_goals (refine goP 7 ?_ ?_ <;> first | exact ⟨⟩ | refine Hb.mk fun hb => ?_ | skip)
  all_goals (refine Gg ?_)
  all_goals (first | (refine WL.pass rfl rfl rfl ?_) | (refine WL.step (ok_nilCheck rfl) rfl rfl rfl ?_))
  all_goals (refine Gg ?_)
  all_goals (first | (refine WL.pass rfl rfl rfl ?_) | (refine Ld ?_))
  all_goals (refine Go ?_)
  all_goals (refine Gs [(0, _), (12, _)] ?_)
  all_goals (refine goC 1 2 ?_ ?_ <;> first | exact ⟨⟩ | refine Hb.mk fun hb => ?_ | skip)
  all_goals (first | (fail_if_success refine goB 1 ?_) | (
  refine goB 1 ?_
  all_goals (refine WC.sr ?_)
  all_goals (refine Go ?_)
  all_goals (refine Gt ?_)
  all_goals (exact ⟨rfl, rfl⟩)
  skip))
  all_goals (first | (fail_if_success refine goB 2 ?_) | (
  refine goB 2 ?_
  all_goals (refine WC.skip ?_)
  skip))
  all_goals (refine Gn ?_)
  all_goals (refine WC.sr ?_)
  all_goals (refine Go ?_)
  all_goals (refine WL.step (ok_nilCheck rfl) rfl rfl rfl ?_)
  all_goals (refine Go ?_)
  all_goals (refine Ld ?_)
  all_goals (fail "no contract for call of (*remuda/client.Client).Peek at 3.5")
  all_goals (refine WL.stepR (okE_alloc (fun w => Tryz.zeroValue71 w)) rfl rfl rfl ?_
             rintro _ h1 ⟨b1, rfl, hg1, hb1, hx1⟩)
  all_goals (refine WL.stepR0 (okE_storeW (fun w => Tryz.sizeOf71 w) rfl rfl rfl (by assumption) rfl (by simp [Value.oneCell'])) rfl rfl ?_
             rintro _ h1 ⟨hb1, hx1⟩)
  all_goals (refine Gn ?_)
  all_goals (refine Gs [(0, _), (3, _)] ?_)
  all_goals (refine WC.seq ?_)
  all_goals (refine WC.sr ?_)
  all_goals (refine Go ?_)
  all_goals (refine Ld ?_)
  all_goals (refine Gn ?_)
  all_goals (refine WC.block ?_)
  all_goals (refine WC.sr ?_)
  all_goals (refine Go ?_)
  all_goals (refine goC 3 4 ?_ ?_ <;> first | exact ⟨⟩ | refine Hb.mk fun hb => ?_ | skip)
  all_goals (first | (fail_if_success refine goB 4 ?_) | (
  refine goB 4 ?_
  all_goals (refine WC.sr ?_)
  all_goals (refine Go ?_)
  all_goals (refine Gs [(0, _), (3, _), (33, _)] ?_)
  all_goals (refine goC 5 6 ?_ ?_ <;> first | exact ⟨⟩ | refine Hb.mk fun hb => ?_ | skip)
  all_goals (first | (fail_if_success refine goB 6 ?_) | (
  refine goB 6 ?_
  all_goals (refine WC.sr ?_)
  all_goals (refine Go ?_)
  all_goals (refine Gt ?_)
  all_goals (exact ⟨rfl, rfl⟩)
  skip))
  skip))
  all_goals (refine Gn ?_)
  all_goals (refine WC.sr ?_)
  all_goals (refine Go ?_)
  all_goals (refine Gt ?_)
  all_goals (exact ⟨rfl, rfl⟩)
set_option maxHeartbeats 2000000 in
set_option maxRecDepth 100000 in
theorem noso_done {p : Value} (k : NoSo h p) : CallsH Tryz.prog 14 ⟨[p]⟩ h fun u h' => u = In 0 ∧ h' = h := by
  refine calls [(0, _)] Tryz.func14 rfl Tryz.ntmps14 rfl ⟨rfl, trivial⟩ ?_
  all_goals (refine WC.sr ?_)
  all_goals (refine Go ?_)
  all_goals (refine WC.seq ?_)
  all_goals (refine WC.sr ?_)
  all_goals (refine Go ?_)
  all_goals (refine WL.call (vs := [_]) rfl (fun a w => Tryz.call35 a w) rfl (noso_ready k) rfl rfl rfl ?_
             rintro _ hq ⟨rfl, hz⟩
             replace hz := hz.symm
             subst hz)
  all_goals (refine Go ?_)
  all_goals (refine goC 1 2 ?_ ?_ <;> first | exact ⟨⟩ | refine Hb.mk fun hb => ?_ | skip)
  all_goals (first | (fail_if_success refine goB 1 ?_) | (
  refine goB 1 ?_
  all_goals (refine WC.sr ?_)
  all_goals (refine Go ?_)
  all_goals (refine Gs [(2, _)] ?_)
  all_goals (refine Gt ?_)
  all_goals (exact ⟨rfl, rfl⟩)
  skip))
  all_goals (first | (fail_if_success refine goB 2 ?_) | (
  refine goB 2 ?_
  all_goals (refine WC.skip ?_)
  skip))
  all_goals (refine Gn ?_)
  all_goals (refine Gs [(0, _)] ?_)
  all_goals (refine WC.sr ?_)
  all_goals (refine Go ?_)
  all_goals (refine WL.step (ok_nilCheck rfl) rfl rfl rfl ?_)
  all_goals (refine Go ?_)
  all_goals (refine Ld ?_)
  all_goals (refine Go ?_)
  all_goals (refine Gs [(2, _)] ?_)
  all_goals (refine Gt ?_)
  all_goals (exact ⟨rfl, rfl⟩)
set_option maxHeartbeats 2000000 in
set_option maxRecDepth 100000 in
theorem noso_out {p : Value} (k : NoSo h p) : CallsH Tryz.prog 15 ⟨[p]⟩ h fun u h' => u = .slice none 0 0 ∧ h' = h := by
  refine calls [(0, _)] Tryz.func15 rfl Tryz.ntmps15 rfl ⟨rfl, trivial⟩ ?_
  all_goals (refine WC.sr ?_)
  all_goals (refine Go ?_)
  all_goals (refine WC.seq ?_)
  all_goals (refine WC.sr ?_)
  all_goals (refine Go ?_)
  all_goals (refine WL.call (vs := [_]) rfl (fun a w => Tryz.call35 a w) rfl (noso_ready k) rfl rfl rfl ?_
             rintro _ hq ⟨rfl, hz⟩
             replace hz := hz.symm
             subst hz)
  all_goals (refine Go ?_)
  all_goals (refine goC 1 2 ?_ ?_ <;> first | exact ⟨⟩ | refine Hb.mk fun hb => ?_ | skip)
  all_goals (first | (fail_if_success refine goB 1 ?_) | (
  refine goB 1 ?_
  all_goals (refine WC.sr ?_)
  all_goals (refine Go ?_)
  all_goals (refine Gs [(2, _)] ?_)
  all_goals (refine Gt ?_)
  all_goals (exact ⟨rfl, rfl⟩)
  skip))
  all_goals (first | (fail_if_success refine goB 2 ?_) | (
  refine goB 2 ?_
  all_goals (refine WC.skip ?_)
  skip))
  all_goals (refine Gn ?_)
  all_goals (refine Gs [(0, _)] ?_)
  all_goals (refine WC.sr ?_)
  all_goals (refine Go ?_)
  all_goals (refine WL.step (ok_nilCheck rfl) rfl rfl rfl ?_)
  all_goals (refine Go ?_)
  all_goals (refine Ld ?_)
  all_goals (fail "no contract for call of slices.Clone[[]byte,byte] at 3.4")
  all_goals (refine Go ?_)
  all_goals (refine Gs [(2, _)] ?_)
  all_goals (refine Gt ?_)
  all_goals (exact ⟨rfl, rfl⟩)
end
end Go.Proofs.YtdjjpbbhcidaaaaGreatDoor


/-
  A CLIENT ALONE (layer 44): what the library's variables hold when a law is called.
-/
namespace Go.Proofs.YtdjjpbbhcidaaaaGreatDoor
open Go Go.RK

def laidP : List (String × DataW Unit) := Rows.soloNobodyRow.laid.filter fun x => x.2.handleName?.isNone
/-- A world in which the one handle is laid. -/
noncomputable def handWorld (os : Os) : World :=
  let w0 := World.holding Tryz.prog os ⟨#[], #[], []⟩
  { w0 with heap := w0.heap.modify 0 fun
      | .cells _ t frozen => .cells #[.iface 266 (.agg #[.pointer (some ⟨4, 112, none⟩)])] t frozen
      | o => o }
noncomputable def laidWorld (os : Os) : World := (handWorld os).layVars Tryz.prog laidP
theorem laidWorld_os (os : Os) : (laidWorld os).os = os := World.layVars_os _ _ _
theorem laidWorld_met (os : Os) (args : Array Value) : laidMetH Tryz.prog Rows.soloNobodyRow.laid ((laidWorld os).forCall (fun _ _ => 0) ⟨#[], args, []⟩).memory := by
  have e1 : (laidP.filter fun x => (laidP.map (·.1)).contains x.1) = laidP := List.filter_eq_self.2 fun x hx => List.contains_iff_mem.2 (List.mem_map.2 ⟨x, hx, rfl⟩)
  have e2 : (laidP.filter fun x => !(laidP.map (·.1)).contains x.1) = [] := List.filter_eq_nil_iff.2 fun x hx => by rw [List.contains_iff_mem.2 (List.mem_map.2 ⟨x, hx, rfl⟩)]; simp
  have h : laidMet Tryz.prog laidP (laidWorld os) := laidMet_layVars (w0 := handWorld os) (laidP.map (·.1)) [] (by rw [e1]; rfl) (by rw [e1]; kernel_rfl) (by rw [e1]; kernel_rfl) (by rw [e2]; exact LaidIn.none)
  exact laidMetH_of_parts (h.of_heap (by simp [World.memory, World.forCall, Input.heap])) (by kernel_rfl)
end Go.Proofs.YtdjjpbbhcidaaaaGreatDoor


