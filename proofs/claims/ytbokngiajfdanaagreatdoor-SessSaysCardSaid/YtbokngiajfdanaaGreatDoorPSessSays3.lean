/-
  SEVERAL TEXTS IN ONE: Ck6, Ck7, Ck8, Ck9, Port, Port2, Port3, K15, Port4, Port5, Sx, K27, Sx2, Dx1, Dx2, Dx3.
-/
import Derived.Test.YtbokngiajfdanaaGreatDoorPSessSays2
import Derived.Sort.Grow
import Derived.WideLaws
/-
  MESSAGES (layer 6), as the document checks and writes them: any that are few and short.
-/
namespace Go.Proofs.YtbokngiajfdanaaGreatDoor
open Go Go.RK

def K6 (k : Int) : Prop := k = 66 ∨ k = 67 ∨ k = 68 ∨ k = 69 ∨ k = 72 ∨ k = 80 ∨ k = 81 ∨ k = 83 ∨ k = 88
set_option maxHeartbeats 2000000 in
set_option maxRecDepth 100000 in
theorem known06 {h : Heap} (k : Int) : CallsH Tryz.prog 163 ⟨[.int .u8 k]⟩ h fun u h' => (∃ x, u = In x ∧ (x = 1 ↔ K6 k)) ∧ h' = h := by
  unfold K6
  refine calls [(0, _)] Tryz.func163 rfl Tryz.ntmps163 rfl ⟨rfl, trivial⟩ ?_
  all_goals (refine WC.sr ?_; refine Go ?_; refine WC.seq ?_; refine WC.sr ?_; refine Go ?_; refine WC.block ?_; refine WC.seq ?_; refine WC.sr ?_; refine Go ?_; refine goC 1 2 (Hb.mk fun hb => ?_) (Hb.mk fun hb => ?_))
  all_goals (first | (fail_if_success refine goB 1 ?_) | (
  refine goB 1 ?_
  all_goals (refine WC.skip ?_)
  skip))
  all_goals (first | (fail_if_success refine goB 2 ?_) | (
  refine goB 2 ?_
  all_goals (refine WC.sr ?_; refine Go ?_; refine Gs [(3, _), (4, _)] ?_; refine goC 3 4 (Hb.mk fun hb => ?_) (Hb.mk fun hb => ?_))
  all_goals (first | (fail_if_success refine goB 3 ?_) | (
  refine goB 3 ?_
  all_goals (refine WC.skip ?_)
  skip))
  all_goals (first | (fail_if_success refine goB 4 ?_) | (
  refine goB 4 ?_
  all_goals (refine WC.sr ?_; refine Go ?_; refine goC 5 6 (Hb.mk fun hb => ?_) (Hb.mk fun hb => ?_))
  all_goals (first | (fail_if_success refine goB 5 ?_) | (
  refine goB 5 ?_
  all_goals (refine WC.skip ?_)
  skip))
  all_goals (first | (fail_if_success refine goB 6 ?_) | (
  refine goB 6 ?_
  all_goals (refine WC.sr ?_; refine Go ?_; refine goC 7 8 (Hb.mk fun hb => ?_) (Hb.mk fun hb => ?_))
  all_goals (first | (fail_if_success refine goB 7 ?_) | (
  refine goB 7 ?_
  all_goals (refine WC.skip ?_)
  skip))
  all_goals (first | (fail_if_success refine goB 8 ?_) | (
  refine goB 8 ?_
  all_goals (refine WC.sr ?_; refine Go ?_; refine goC 9 10 (Hb.mk fun hb => ?_) (Hb.mk fun hb => ?_))
  all_goals (first | (fail_if_success refine goB 9 ?_) | (
  refine goB 9 ?_
  all_goals (refine WC.skip ?_)
  skip))
  all_goals (first | (fail_if_success refine goB 10 ?_) | (
  refine goB 10 ?_
  all_goals (refine WC.sr ?_; refine Go ?_; refine Gs [(3, _), (4, _)] ?_; refine goC 11 12 (Hb.mk fun hb => ?_) (Hb.mk fun hb => ?_))
  all_goals (first | (fail_if_success refine goB 11 ?_) | (
  refine goB 11 ?_
  all_goals (refine WC.skip ?_)
  skip))
  all_goals (first | (fail_if_success refine goB 12 ?_) | (
  refine goB 12 ?_
  all_goals (refine WC.sr ?_; refine Go ?_; refine goC 13 14 (Hb.mk fun hb => ?_) (Hb.mk fun hb => ?_))
  all_goals (first | (fail_if_success refine goB 13 ?_) | (
  refine goB 13 ?_
  all_goals (refine WC.skip ?_)
  skip))
  all_goals (first | (fail_if_success refine goB 14 ?_) | (
  refine goB 14 ?_
  all_goals (refine WC.sr ?_; refine Go ?_; refine goC 15 16 (Hb.mk fun hb => ?_) (Hb.mk fun hb => ?_))
  all_goals (first | (fail_if_success refine goB 15 ?_) | (
  refine goB 15 ?_
  all_goals (refine WC.skip ?_)
  skip))
  all_goals (first | (fail_if_success refine goB 16 ?_) | (
  refine goB 16 ?_
  all_goals (refine WC.region ?_; refine Go ?_)
  skip))
  skip))
  skip))
  skip))
  skip))
  skip))
  skip))
  skip))
  all_goals (refine Gn ?_; refine goC 17 18 (Hb.mk fun hb => ?_) (Hb.mk fun hb => ?_))
  all_goals (first | (fail_if_success refine goB 17 ?_) | (
  refine goB 17 ?_
  all_goals (refine WC.sr ?_; refine Go ?_; refine Gt ?_; exact ⟨⟨_, rfl, by omega⟩, rfl⟩)
  skip))
  all_goals (refine goB 18 ?_; refine WC.seq ?_; refine WC.sr ?_; refine Go ?_; first | (refine goC 19 20 ?_ TT.mk) | (refine goC 19 20 (Hb.mk fun hb => ?_) (Hb.mk fun hb => ?_)))
  all_goals (first | (fail_if_success refine goB 19 ?_) | (
  refine goB 19 ?_
  all_goals (refine WC.skip ?_)
  skip))
  all_goals (first | (fail_if_success refine goB 20 ?_) | (
  refine goB 20 ?_
  all_goals (refine WC.sr ?_; refine Go ?_; refine goC 21 22 (Hb.mk fun hb => ?_) (Hb.mk fun hb => ?_))
  all_goals (first | (fail_if_success refine goB 21 ?_) | (
  refine goB 21 ?_
  all_goals (refine WC.skip ?_)
  skip))
  all_goals (first | (fail_if_success refine goB 22 ?_) | (
  refine goB 22 ?_
  all_goals (refine WC.sr ?_; refine Go ?_; refine Gs [(3, _), (14, _)] ?_; refine goC 23 24 (Hb.mk fun hb => ?_) (Hb.mk fun hb => ?_))
  all_goals (first | (fail_if_success refine goB 23 ?_) | (
  refine goB 23 ?_
  all_goals (refine WC.skip ?_)
  skip))
  all_goals (first | (fail_if_success refine goB 24 ?_) | (
  refine goB 24 ?_
  all_goals (refine WC.sr ?_; refine Go ?_; refine goC 25 26 (Hb.mk fun hb => ?_) (Hb.mk fun hb => ?_))
  all_goals (first | (fail_if_success refine goB 25 ?_) | (
  refine goB 25 ?_
  all_goals (refine WC.skip ?_)
  skip))
  all_goals (first | (fail_if_success refine goB 26 ?_) | (
  refine goB 26 ?_
  all_goals (refine WC.region ?_; refine Go ?_)
  skip))
  skip))
  skip))
  skip))
  all_goals (refine Gn ?_; first | (refine goC 27 28 ?_ TT.mk) | (refine goC 27 28 (Hb.mk fun hb => ?_) (Hb.mk fun hb => ?_)))
  all_goals (first | (fail_if_success refine goB 27 ?_) | (
  refine goB 27 ?_
  all_goals (refine WC.sr ?_; refine Go ?_; refine Gt ?_; exact ⟨⟨_, rfl, by omega⟩, rfl⟩)
  skip))
  all_goals (refine goB 28 ?_; refine WC.skip ?_; refine Gn ?_; refine WC.sr ?_; refine Go ?_; refine Gt ?_; exact ⟨⟨_, rfl, by omega⟩, rfl⟩)
def zF (k : Int) : Fm := ⟨k, 0, [], [], [], .slice none 0 0, [], .slice none 0 0, [], .slice none 0 0, [], .slice none 0 0, [], 0⟩
def keptF (f : Fm) : Fm :=
  if f.kind = 80 then { zF f.kind with name := f.name, text := f.text, vo := f.vo, oids := f.oids }
  else if f.kind = 66 then { zF f.kind with portal := f.portal, name := f.name, vf := f.vf, formats := f.formats, vs := f.vs, results := f.results, vp := f.vp, params := f.params }
  else if f.kind = 67 ∨ f.kind = 68 then (if f.what = 83 then { zF f.kind with what := f.what, name := f.name } else { zF f.kind with what := f.what, portal := f.portal })
  else if f.kind = 69 then { zF f.kind with portal := f.portal, max := f.max }
  else if f.kind = 81 then { zF f.kind with text := f.text }
  else zF f.kind
theorem keptF_ok {h : Heap} {f : Fm} (k : f.ok h) : (keptF f).ok h := by
  obtain ⟨k1, k2, k3, k4⟩ := k
  have z : ∀ x, (zF x).ok h := fun x => ⟨⟨Rd.nil _ _, by simp [zF]⟩, ⟨Rd.nil _ _, by simp [zF]⟩, ⟨Rd.nil _ _, by simp [zF]⟩, cels_no _⟩
  obtain ⟨z1, z2, z3, z4⟩ := z f.kind
  unfold keptF
  repeat' split
  · exact ⟨k1, z2, z3, z4⟩
  · exact ⟨z1, k2, k3, k4⟩
  · exact ⟨z1, z2, z3, z4⟩
  · exact ⟨z1, z2, z3, z4⟩
  · exact ⟨z1, z2, z3, z4⟩
  · exact ⟨z1, z2, z3, z4⟩
  · exact ⟨z1, z2, z3, z4⟩
set_option maxHeartbeats 2000000 in
set_option maxRecDepth 100000 in
theorem kept06 {h : Heap} (f : Fm) (hf : f.ok h) : CallsH Tryz.prog 168 ⟨[.agg ⟨f.cells⟩]⟩ h fun u h' => u = .agg ⟨(keptF f).cells⟩ ∧ Ext No h h' := by
  obtain ⟨⟨e1, _⟩, ⟨e2, _⟩, ⟨e3, _⟩, e4, _⟩ := hf
  obtain ⟨fk, w, n, p, t, vo, o, vf, fs, vs, rs, vp, ps, mx⟩ := f
  dsimp only at e1 e2 e3 e4
  obtain ⟨_, _, rfl, _⟩ := e1
  obtain ⟨_, _, rfl, _⟩ := e2
  obtain ⟨_, _, rfl, _⟩ := e3
  obtain ⟨_, _, rfl, _⟩ := e4
  dsimp only [Fm.cells]
  refine calls [(0, _)] Tryz.func168 rfl Tryz.ntmps168 rfl ⟨rfl, trivial⟩ ?_
  all_goals (refine WC.sr ?_; refine WL.stepR (okE_box rfl) rfl rfl rfl ?_; rintro _ h1 ⟨b1, rfl, hg1, hb1, hx1⟩; refine WL.stepR (okE_alloc (fun w => Tryz.zeroValue32 w)) rfl rfl rfl ?_; rintro _ h2 ⟨b2, rfl, hg2, hb2, hx2⟩; have hb1a := hx2.obj hb1 nos; refine Gn ?_; refine WC.sr ?_; refine Go ?_; refine Ld ?_; refine WL.step (ok_buildF (vs := [_]) (cs := [_, _, _, _, _, _, _, _, _, _]) (fun | [a0] => [a0, (.int .u8 0), (St []), (St []), (St []), (.slice none 0 0), (.slice none 0 0), (.slice none 0 0), (.slice none 0 0), (.int .i64 0)] | _ => []) rfl rfl (by kernel_rfl)) rfl rfl rfl ?_; refine WL.stepR (okE_alloc (fun w => Tryz.zeroValue32 w)) rfl rfl rfl ?_; rintro _ h3 ⟨b3, rfl, hg3, hb3, hx3⟩; have hb1b := hx3.obj hb1a nos; have hb2b := hx3.obj hb2 nos; (have n13 : ¬ b1 = b3 := by have := lt_of_some hb1a; omega); (have n23 : ¬ b2 = b3 := by have := lt_of_some hb2; omega); refine WL.stepR0 (okE_storeW (fun w => Tryz.sizeOf32 w) rfl rfl rfl (by assumption) rfl (by simp [Value.oneCell'])) rfl rfl ?_; rintro _ h4 ⟨hb4, hx4⟩; have hb1c := hx4.obj hb1b n13; have hb2c := hx4.obj hb2b n23; have hX4 : Ext No h h4 := ((hx1.trans hx2).trans hx3).trans' hx4 (fun q hq e => by have := hx1.size; have := hx2.size; omega); refine Gn ?_; refine Gs [(1, _), (2, _), (3, _)] ?_; refine WC.seq ?_; refine WC.sr ?_; refine Go ?_; refine Ld ?_; refine Gn ?_; refine WC.block ?_; refine WC.sr ?_; refine Go ?_; refine goC 1 2 (Hb.mk fun hb => ?_) (Hb.mk fun hb => ?_))
  all_goals (first | (fail_if_success refine goB 1 ?_) | (
  refine goB 1 ?_
  all_goals (refine WC.drawH (fun h' => Ext (fun q => q = b3) h4 h') 11 12 rfl fol ?_; refine WH.tk 0 rfl (fun hq hC => ok_fieldAddr rfl Tryz.underlying32 rfl (fun w => Tryz.sizeOf9 w)) rfl rfl rfl ?_ (hC := (by first | exact Ext.refl _ _ | assumption | exact hx5.trans hx6 | exact (hx5.trans hx6).trans hx7)); refine WH.tk 1 rfl (fun hq hC => ok_load (fun w => Tryz.isAgg9 w) rfl (by first | exact hC.cell (by first | exact cell_blk hb1c rfl | assumption | exact cell_blk (by assumption) rfl) n13)) rfl rfl rfl ?_ (hC := (by first | exact Ext.refl _ _ | assumption | exact hx5.trans hx6 | exact (hx5.trans hx6).trans hx7)); refine WH.tk 2 rfl (fun hq hC => ok_fieldAddr rfl Tryz.underlying32 rfl (fun w => Tryz.sizeOf9 w)) rfl rfl rfl ?_ (hC := (by first | exact Ext.refl _ _ | assumption | exact hx5.trans hx6 | exact (hx5.trans hx6).trans hx7)); refine WH.tk 3 rfl (fun hq hC => ok_load (fun w => Tryz.isAgg9 w) rfl (by first | exact hC.cell (by first | exact cell_blk hb1c rfl | assumption | exact cell_blk (by assumption) rfl) n13)) rfl rfl rfl ?_ (hC := (by first | exact Ext.refl _ _ | assumption | exact hx5.trans hx6 | exact (hx5.trans hx6).trans hx7)); refine WH.tk 4 rfl (fun hq hC => ok_fieldAddr rfl Tryz.underlying32 rfl (fun w => Tryz.sizeOf29 w)) rfl rfl rfl ?_ (hC := (by first | exact Ext.refl _ _ | assumption | exact hx5.trans hx6 | exact (hx5.trans hx6).trans hx7)); refine WH.tk 5 rfl (fun hq hC => ok_load (fun w => Tryz.isAgg29 w) rfl (by first | exact hC.cell (by first | exact cell_blk hb1c rfl | assumption | exact cell_blk (by assumption) rfl) n13)) rfl rfl rfl ?_ (hC := (by first | exact Ext.refl _ _ | assumption | exact hx5.trans hx6 | exact (hx5.trans hx6).trans hx7)); refine WH.tk 6 rfl (fun hq hC => ok_fieldAddr rfl Tryz.underlying32 rfl (fun w => Tryz.sizeOf9 w)) rfl rfl rfl ?_ (hC := (by first | exact Ext.refl _ _ | assumption | exact hx5.trans hx6 | exact (hx5.trans hx6).trans hx7)); refine WH.one 7 (by kernel_rfl) ?_; refine Comes1.run0 rfl (okE_store (fun w => Tryz.sizeOf9 w) rfl rfl (by assumption) (Nat.le_of_ble_eq_true rfl) rfl rfl) rfl rfl ?_ (fun _ => by kernel_rfl); rintro _ h5 ⟨hb5, hx5⟩; refine ⟨fun _ => hx5, ?_⟩; refine WH.tk 8 rfl (fun hq hC => ok_fieldAddr rfl Tryz.underlying32 rfl (fun w => Tryz.sizeOf9 w)) rfl rfl rfl ?_ (hC := (by first | exact Ext.refl _ _ | assumption | exact hx5.trans hx6 | exact (hx5.trans hx6).trans hx7)); refine WH.one 9 (by kernel_rfl) ?_; refine Comes1.run0 rfl (okE_store (fun w => Tryz.sizeOf9 w) rfl rfl (by assumption) (Nat.le_of_ble_eq_true rfl) rfl rfl) rfl rfl ?_ (fun _ => by kernel_rfl); rintro _ h6 ⟨hb6, hx6⟩; refine ⟨fun _ => hx5.trans hx6, ?_⟩; refine WH.tk 10 rfl (fun hq hC => ok_fieldAddr rfl Tryz.underlying32 rfl (fun w => Tryz.sizeOf29 w)) rfl rfl rfl ?_ (hC := (by first | exact Ext.refl _ _ | assumption | exact hx5.trans hx6 | exact (hx5.trans hx6).trans hx7)); refine WH.one 11 (by kernel_rfl) ?_; refine Comes1.run0 rfl (okE_store (fun w => Tryz.sizeOf29 w) rfl rfl (by assumption) (Nat.le_of_ble_eq_true rfl) rfl rfl) rfl rfl ?_ (fun _ => by kernel_rfl); rintro _ h7 ⟨hb7, hx7⟩)
  all_goals (refine ⟨fun _ => (hx5.trans hx6).trans hx7, ?_⟩; have hE := (hx5.trans hx6).trans hx7; have hb2z := hE.obj hb2c n23; have hbL := hb7; refine WH.done (by kernel_rfl) ?_)
  skip))
  all_goals (first | (fail_if_success refine goB 2 ?_) | (
  refine goB 2 ?_
  all_goals (refine WC.sr ?_; refine Go ?_; refine Gs [(1, _), (2, _), (3, _), (8, _), (20, _)] ?_; refine goC 3 4 (Hb.mk fun hb => ?_) (Hb.mk fun hb => ?_))
  all_goals (first | (fail_if_success refine goB 3 ?_) | (
  refine goB 3 ?_
  all_goals (refine WC.drawH (fun h' => Ext (fun q => q = b3) h4 h') 19 20 rfl fol ?_; refine WH.tk 0 rfl (fun hq hC => ok_fieldAddr rfl Tryz.underlying32 rfl (fun w => Tryz.sizeOf9 w)) rfl rfl rfl ?_ (hC := (by first | exact Ext.refl _ _ | assumption | exact hx5.trans hx6 | exact (hx5.trans hx6).trans hx7 | exact ((hx5.trans hx6).trans hx7).trans hx8 | exact (((hx5.trans hx6).trans hx7).trans hx8).trans hx9)); refine WH.tk 1 rfl (fun hq hC => ok_load (fun w => Tryz.isAgg9 w) rfl (by first | exact hC.cell (by first | exact cell_blk hb1c rfl | assumption | exact cell_blk (by assumption) rfl) n13)) rfl rfl rfl ?_ (hC := (by first | exact Ext.refl _ _ | assumption | exact hx5.trans hx6 | exact (hx5.trans hx6).trans hx7 | exact ((hx5.trans hx6).trans hx7).trans hx8 | exact (((hx5.trans hx6).trans hx7).trans hx8).trans hx9)); refine WH.tk 2 rfl (fun hq hC => ok_fieldAddr rfl Tryz.underlying32 rfl (fun w => Tryz.sizeOf9 w)) rfl rfl rfl ?_ (hC := (by first | exact Ext.refl _ _ | assumption | exact hx5.trans hx6 | exact (hx5.trans hx6).trans hx7 | exact ((hx5.trans hx6).trans hx7).trans hx8 | exact (((hx5.trans hx6).trans hx7).trans hx8).trans hx9)); refine WH.tk 3 rfl (fun hq hC => ok_load (fun w => Tryz.isAgg9 w) rfl (by first | exact hC.cell (by first | exact cell_blk hb1c rfl | assumption | exact cell_blk (by assumption) rfl) n13)) rfl rfl rfl ?_ (hC := (by first | exact Ext.refl _ _ | assumption | exact hx5.trans hx6 | exact (hx5.trans hx6).trans hx7 | exact ((hx5.trans hx6).trans hx7).trans hx8 | exact (((hx5.trans hx6).trans hx7).trans hx8).trans hx9)); refine WH.tk 4 rfl (fun hq hC => ok_fieldAddr rfl Tryz.underlying32 rfl (fun w => Tryz.sizeOf29 w)) rfl rfl rfl ?_ (hC := (by first | exact Ext.refl _ _ | assumption | exact hx5.trans hx6 | exact (hx5.trans hx6).trans hx7 | exact ((hx5.trans hx6).trans hx7).trans hx8 | exact (((hx5.trans hx6).trans hx7).trans hx8).trans hx9)); refine WH.tk 5 rfl (fun hq hC => ok_load (fun w => Tryz.isAgg29 w) rfl (by first | exact hC.cell (by first | exact cell_blk hb1c rfl | assumption | exact cell_blk (by assumption) rfl) n13)) rfl rfl rfl ?_ (hC := (by first | exact Ext.refl _ _ | assumption | exact hx5.trans hx6 | exact (hx5.trans hx6).trans hx7 | exact ((hx5.trans hx6).trans hx7).trans hx8 | exact (((hx5.trans hx6).trans hx7).trans hx8).trans hx9)); refine WH.tk 6 rfl (fun hq hC => ok_fieldAddr rfl Tryz.underlying32 rfl (fun w => Tryz.sizeOf30 w)) rfl rfl rfl ?_ (hC := (by first | exact Ext.refl _ _ | assumption | exact hx5.trans hx6 | exact (hx5.trans hx6).trans hx7 | exact ((hx5.trans hx6).trans hx7).trans hx8 | exact (((hx5.trans hx6).trans hx7).trans hx8).trans hx9)); refine WH.tk 7 rfl (fun hq hC => ok_load (fun w => Tryz.isAgg30 w) rfl (by first | exact hC.cell (by first | exact cell_blk hb1c rfl | assumption | exact cell_blk (by assumption) rfl) n13)) rfl rfl rfl ?_ (hC := (by first | exact Ext.refl _ _ | assumption | exact hx5.trans hx6 | exact (hx5.trans hx6).trans hx7 | exact ((hx5.trans hx6).trans hx7).trans hx8 | exact (((hx5.trans hx6).trans hx7).trans hx8).trans hx9)))
  all_goals (refine WH.tk 8 rfl (fun hq hC => ok_fieldAddr rfl Tryz.underlying32 rfl (fun w => Tryz.sizeOf29 w)) rfl rfl rfl ?_ (hC := (by first | exact Ext.refl _ _ | assumption | exact hx5.trans hx6 | exact (hx5.trans hx6).trans hx7 | exact ((hx5.trans hx6).trans hx7).trans hx8 | exact (((hx5.trans hx6).trans hx7).trans hx8).trans hx9)); refine WH.tk 9 rfl (fun hq hC => ok_load (fun w => Tryz.isAgg29 w) rfl (by first | exact hC.cell (by first | exact cell_blk hb1c rfl | assumption | exact cell_blk (by assumption) rfl) n13)) rfl rfl rfl ?_ (hC := (by first | exact Ext.refl _ _ | assumption | exact hx5.trans hx6 | exact (hx5.trans hx6).trans hx7 | exact ((hx5.trans hx6).trans hx7).trans hx8 | exact (((hx5.trans hx6).trans hx7).trans hx8).trans hx9)); refine WH.tk 10 rfl (fun hq hC => ok_fieldAddr rfl Tryz.underlying32 rfl (fun w => Tryz.sizeOf9 w)) rfl rfl rfl ?_ (hC := (by first | exact Ext.refl _ _ | assumption | exact hx5.trans hx6 | exact (hx5.trans hx6).trans hx7 | exact ((hx5.trans hx6).trans hx7).trans hx8 | exact (((hx5.trans hx6).trans hx7).trans hx8).trans hx9)); refine WH.one 11 (by kernel_rfl) ?_; refine Comes1.run0 rfl (okE_store (fun w => Tryz.sizeOf9 w) rfl rfl (by assumption) (Nat.le_of_ble_eq_true rfl) rfl rfl) rfl rfl ?_ (fun _ => by kernel_rfl); rintro _ h5 ⟨hb5, hx5⟩; refine ⟨fun _ => hx5, ?_⟩; refine WH.tk 12 rfl (fun hq hC => ok_fieldAddr rfl Tryz.underlying32 rfl (fun w => Tryz.sizeOf9 w)) rfl rfl rfl ?_ (hC := (by first | exact Ext.refl _ _ | assumption | exact hx5.trans hx6 | exact (hx5.trans hx6).trans hx7 | exact ((hx5.trans hx6).trans hx7).trans hx8 | exact (((hx5.trans hx6).trans hx7).trans hx8).trans hx9)); refine WH.one 13 (by kernel_rfl) ?_; refine Comes1.run0 rfl (okE_store (fun w => Tryz.sizeOf9 w) rfl rfl (by assumption) (Nat.le_of_ble_eq_true rfl) rfl rfl) rfl rfl ?_ (fun _ => by kernel_rfl); rintro _ h6 ⟨hb6, hx6⟩; refine ⟨fun _ => hx5.trans hx6, ?_⟩; refine WH.tk 14 rfl (fun hq hC => ok_fieldAddr rfl Tryz.underlying32 rfl (fun w => Tryz.sizeOf29 w)) rfl rfl rfl ?_ (hC := (by first | exact Ext.refl _ _ | assumption | exact hx5.trans hx6 | exact (hx5.trans hx6).trans hx7 | exact ((hx5.trans hx6).trans hx7).trans hx8 | exact (((hx5.trans hx6).trans hx7).trans hx8).trans hx9)); refine WH.one 15 (by kernel_rfl) ?_; refine Comes1.run0 rfl (okE_store (fun w => Tryz.sizeOf29 w) rfl rfl (by assumption) (Nat.le_of_ble_eq_true rfl) rfl rfl) rfl rfl ?_ (fun _ => by kernel_rfl); rintro _ h7 ⟨hb7, hx7⟩; refine ⟨fun _ => (hx5.trans hx6).trans hx7, ?_⟩; refine WH.tk 16 rfl (fun hq hC => ok_fieldAddr rfl Tryz.underlying32 rfl (fun w => Tryz.sizeOf30 w)) rfl rfl rfl ?_ (hC := (by first | exact Ext.refl _ _ | assumption | exact hx5.trans hx6 | exact (hx5.trans hx6).trans hx7 | exact ((hx5.trans hx6).trans hx7).trans hx8 | exact (((hx5.trans hx6).trans hx7).trans hx8).trans hx9)); refine WH.one 17 (by kernel_rfl) ?_; refine Comes1.run0 rfl (okE_store (fun w => Tryz.sizeOf30 w) rfl rfl (by assumption) (Nat.le_of_ble_eq_true rfl) rfl rfl) rfl rfl ?_ (fun _ => by kernel_rfl); rintro _ h8 ⟨hb8, hx8⟩)
  all_goals (refine ⟨fun _ => ((hx5.trans hx6).trans hx7).trans hx8, ?_⟩; refine WH.tk 18 rfl (fun hq hC => ok_fieldAddr rfl Tryz.underlying32 rfl (fun w => Tryz.sizeOf29 w)) rfl rfl rfl ?_ (hC := (by first | exact Ext.refl _ _ | assumption | exact hx5.trans hx6 | exact (hx5.trans hx6).trans hx7 | exact ((hx5.trans hx6).trans hx7).trans hx8 | exact (((hx5.trans hx6).trans hx7).trans hx8).trans hx9)); refine WH.one 19 (by kernel_rfl) ?_; refine Comes1.run0 rfl (okE_store (fun w => Tryz.sizeOf29 w) rfl rfl (by assumption) (Nat.le_of_ble_eq_true rfl) rfl rfl) rfl rfl ?_ (fun _ => by kernel_rfl); rintro _ h9 ⟨hb9, hx9⟩; refine ⟨fun _ => (((hx5.trans hx6).trans hx7).trans hx8).trans hx9, ?_⟩; have hE := (((hx5.trans hx6).trans hx7).trans hx8).trans hx9; have hb2z := hE.obj hb2c n23; have hbL := hb9; refine WH.done (by kernel_rfl) ?_)
  skip))
  all_goals (first | (fail_if_success refine goB 4 ?_) | (
  refine goB 4 ?_
  all_goals (refine WC.seq ?_; refine WC.sr ?_; refine Go ?_; refine goC 5 6 (Hb.mk fun hb => ?_) (Hb.mk fun hb => ?_))
  all_goals (first | (fail_if_success refine goB 5 ?_) | (
  refine goB 5 ?_
  all_goals (refine WC.skip ?_)
  skip))
  all_goals (first | (fail_if_success refine goB 6 ?_) | (
  refine goB 6 ?_
  all_goals (refine WC.region ?_; refine Go ?_)
  skip))
  all_goals (refine Gn ?_; refine goC 7 8 (Hb.mk fun hb => ?_) (Hb.mk fun hb => ?_))
  all_goals (first | (fail_if_success refine goB 7 ?_) | (
  refine goB 7 ?_
  all_goals (refine WC.sr ?_; refine Go ?_; refine Ld ?_; refine Go ?_; refine WL.stepR0 (okE_store (fun w => Tryz.sizeOf5 w) rfl rfl (by assumption) (Nat.le_of_ble_eq_true rfl) rfl rfl) rfl rfl ?_; rintro _ h5 ⟨hb5, hx5⟩; have hb1d := hx5.obj hb1c n13; refine Gn ?_; refine Gs [(1, _), (2, _), (3, _)] ?_; refine WC.sr ?_; refine Go ?_; refine WL.ld rfl (by first | exact cell_blk hb1d rfl | assumption | exact cell_blk (by assumption) rfl) rfl rfl rfl ?_; refine Go ?_; refine goC 9 10 (Hb.mk fun hb => ?_) (Hb.mk fun hb => ?_))
  all_goals (first | (fail_if_success refine goB 9 ?_) | (
  refine goB 9 ?_
  all_goals (refine WC.region ?_; refine Go ?_; refine WL.ld rfl (by first | exact cell_blk hb1d rfl | assumption | exact cell_blk (by assumption) rfl) rfl rfl rfl ?_; refine Go ?_; refine WL.stepR0 (okE_store (fun w => Tryz.sizeOf9 w) rfl rfl (by assumption) (Nat.le_of_ble_eq_true rfl) rfl rfl) rfl rfl ?_; rintro _ h6 ⟨hb6, hx6⟩; have hE := hx5.trans hx6; have hb2z := hE.obj hb2c n23; have hbL := hb6; refine Gn ?_)
  skip))
  all_goals (first | (fail_if_success refine goB 10 ?_) | (
  refine goB 10 ?_
  all_goals (refine WC.region ?_; refine Go ?_; refine WL.ld rfl (by first | exact cell_blk hb1d rfl | assumption | exact cell_blk (by assumption) rfl) rfl rfl rfl ?_; refine Go ?_; refine WL.stepR0 (okE_store (fun w => Tryz.sizeOf9 w) rfl rfl (by assumption) (Nat.le_of_ble_eq_true rfl) rfl rfl) rfl rfl ?_; rintro _ h6 ⟨hb6, hx6⟩; have hE := hx5.trans hx6; have hb2z := hE.obj hb2c n23; have hbL := hb6; refine Gn ?_)
  skip))
  skip))
  all_goals (first | (fail_if_success refine goB 8 ?_) | (
  refine goB 8 ?_
  all_goals (refine WC.sr ?_; refine Go ?_; refine Gs [(1, _), (2, _), (3, _), (8, _), (52, _)] ?_; first | (refine goC 11 12 ?_ TT.mk) | (refine goC 11 12 (Hb.mk fun hb => ?_) (Hb.mk fun hb => ?_)))
  all_goals (first | (fail_if_success refine goB 11 ?_) | (
  refine goB 11 ?_
  all_goals (refine WC.drawH (fun h' => Ext (fun q => q = b3) h4 h') 7 8 rfl fol ?_; refine WH.tk 0 rfl (fun hq hC => ok_fieldAddr rfl Tryz.underlying32 rfl (fun w => Tryz.sizeOf9 w)) rfl rfl rfl ?_ (hC := (by first | exact Ext.refl _ _ | assumption | exact hx5.trans hx6)); refine WH.tk 1 rfl (fun hq hC => ok_load (fun w => Tryz.isAgg9 w) rfl (by first | exact hC.cell (by first | exact cell_blk hb1c rfl | assumption | exact cell_blk (by assumption) rfl) n13)) rfl rfl rfl ?_ (hC := (by first | exact Ext.refl _ _ | assumption | exact hx5.trans hx6)); refine WH.tk 2 rfl (fun hq hC => ok_fieldAddr rfl Tryz.underlying32 rfl (fun w => Tryz.sizeOf3 w)) rfl rfl rfl ?_ (hC := (by first | exact Ext.refl _ _ | assumption | exact hx5.trans hx6)); refine WH.tk 3 rfl (fun hq hC => ok_load (fun w => Tryz.isAgg3 w) rfl (by first | exact hC.cell (by first | exact cell_blk hb1c rfl | assumption | exact cell_blk (by assumption) rfl) n13)) rfl rfl rfl ?_ (hC := (by first | exact Ext.refl _ _ | assumption | exact hx5.trans hx6)); refine WH.tk 4 rfl (fun hq hC => ok_fieldAddr rfl Tryz.underlying32 rfl (fun w => Tryz.sizeOf9 w)) rfl rfl rfl ?_ (hC := (by first | exact Ext.refl _ _ | assumption | exact hx5.trans hx6)); refine WH.one 5 (by kernel_rfl) ?_; refine Comes1.run0 rfl (okE_store (fun w => Tryz.sizeOf9 w) rfl rfl (by assumption) (Nat.le_of_ble_eq_true rfl) rfl rfl) rfl rfl ?_ (fun _ => by kernel_rfl); rintro _ h5 ⟨hb5, hx5⟩; refine ⟨fun _ => hx5, ?_⟩; refine WH.tk 6 rfl (fun hq hC => ok_fieldAddr rfl Tryz.underlying32 rfl (fun w => Tryz.sizeOf3 w)) rfl rfl rfl ?_ (hC := (by first | exact Ext.refl _ _ | assumption | exact hx5.trans hx6)); refine WH.one 7 (by kernel_rfl) ?_; refine Comes1.run0 rfl (okE_store (fun w => Tryz.sizeOf3 w) rfl rfl (by assumption) (Nat.le_of_ble_eq_true rfl) rfl rfl) rfl rfl ?_ (fun _ => by kernel_rfl); rintro _ h6 ⟨hb6, hx6⟩; refine ⟨fun _ => hx5.trans hx6, ?_⟩; have hE := hx5.trans hx6; have hb2z := hE.obj hb2c n23; have hbL := hb6; refine WH.done (by kernel_rfl) ?_)
  skip))
  all_goals (first | (fail_if_success refine goB 12 ?_) | (
  refine goB 12 ?_
  all_goals (refine WC.sr ?_; refine Go ?_; refine goC 13 14 (Hb.mk fun hb => ?_) (Hb.mk fun hb => ?_))
  all_goals (first | (fail_if_success refine goB 13 ?_) | (
  refine goB 13 ?_
  all_goals (refine WC.region ?_; refine Go ?_; refine Ld ?_; refine Go ?_; refine WL.stepR0 (okE_store (fun w => Tryz.sizeOf9 w) rfl rfl (by assumption) (Nat.le_of_ble_eq_true rfl) rfl rfl) rfl rfl ?_; rintro _ h5 ⟨hb5, hE⟩; have hb2z := hE.obj hb2c n23; have hbL := hb5; refine Gn ?_)
  skip))
  all_goals (first | (fail_if_success refine goB 14 ?_) | (
  refine goB 14 ?_
  all_goals (refine WC.skip ?_)
  skip))
  skip))
  skip))
  skip))
  skip))
  all_goals (refine Gn ?_; refine WC.sr ?_; refine WL.step (ok_loadN (fun w => Tryz.isAgg32 w) (fun w => Tryz.sizeOf32 w) rfl rfl (by exact (by first | exact At.of_block hbL | exact At.of_block hb4))) rfl rfl rfl ?_; refine WL.stepR0 (okE_storeW (fun w => Tryz.sizeOf32 w) rfl rfl rfl (by first | exact hb2z | exact hb2c) rfl (by simp [Value.oneCell'])) rfl rfl ?_; rintro _ h9 ⟨hb9, hx9⟩; refine Gn ?_; refine WC.ret ?_; repeat' (with_reducible first | refine thenP_r ?_ | refine blockP_r ?_))
  all_goals (refine retP_1 _ ⟨⟨_, rfl, ld_blk (fun w => Tryz.isAgg32 w) (fun w => Tryz.sizeOf32 w) (by assumption) rfl⟩, trivial⟩ ?_)
  all_goals (have hs1 := hx1.size
             have hs2 := hx2.size
             refine ⟨?_, by first | exact (hX4.trans' hE (fun q hq e => by omega)).trans' hx9 (fun q hq e => by omega) | exact hX4.trans' hx9 (fun q hq e => by omega)⟩
             first
              | (exfalso; omega)
              | (simp only [keptF, if_pos, *]; rfl)
              | (simp [keptF, zF, Fm.cells, *]; done))
set_option maxHeartbeats 4000000 in
set_option maxRecDepth 100000 in
theorem same06A {h : Heap} (a b : Fm) (ha : a.ok h) (hb : b.ok h) :
    CallsH Tryz.prog 167 ⟨[.agg ⟨a.cells⟩, .agg ⟨b.cells⟩]⟩ h fun u h' => (∃ x, u = .bool x ∧ (x = true ↔ a.pl = b.pl)) ∧ Ext No h h' := by
  obtain ⟨k1, w1, n1, p1, t1, vo1, o1, vf1, f1, vs1, r1, vp1, c1, m1⟩ := a
  obtain ⟨k2, w2, n2, p2, t2, vo2, o2, vf2, f2, vs2, r2, vp2, c2, m2⟩ := b
  obtain ⟨⟨ao, lo⟩, ⟨af, lf⟩, ⟨as', ls⟩, ap⟩ := ha
  obtain ⟨⟨bo, ko⟩, ⟨bf, kf⟩, ⟨bs', ks⟩, bp⟩ := hb
  simp only at ao af as' ap bo bf bs' bp lo lf ls ko kf ks
  obtain ⟨Ao, co, rfl, _⟩ := id ao
  obtain ⟨Bo, do_, rfl, _⟩ := id bo
  obtain ⟨Af, cf, rfl, _⟩ := id af
  obtain ⟨Bf, df, rfl, _⟩ := id bf
  obtain ⟨As, cs, rfl, _⟩ := id as'
  obtain ⟨Bs, ds, rfl, _⟩ := id bs'
  obtain ⟨_, ⟨_, Ap, cp, rfl, _⟩, _⟩ := id ap
  obtain ⟨_, ⟨_, Bp, dp, rfl, _⟩, _⟩ := id bp
  dsimp only [Fm.cells, Fm.pl]
  have hpc : (k1 = k2 ∧ w1 = w2 ∧ n1 = n2 ∧ p1 = p2 ∧ t1 = t2 ∧ m1 = m2) ∨ k1 ≠ k2 ∨ (k1 = k2 ∧ w1 ≠ w2) ∨ (k1 = k2 ∧ w1 = w2 ∧ n1 ≠ n2) ∨ (k1 = k2 ∧ w1 = w2 ∧ n1 = n2 ∧ p1 ≠ p2) ∨ (k1 = k2 ∧ w1 = w2 ∧ n1 = n2 ∧ p1 = p2 ∧ t1 ≠ t2) ∨ (k1 = k2 ∧ w1 = w2 ∧ n1 = n2 ∧ p1 = p2 ∧ t1 = t2 ∧ m1 ≠ m2) := by
    by_cases e1 : k1 = k2
    · by_cases e2 : w1 = w2
      · by_cases e3 : n1 = n2
        · by_cases e4 : p1 = p2
          · by_cases e5 : t1 = t2
            · by_cases e6 : m1 = m2
              · exact .inl ⟨e1, e2, e3, e4, e5, e6⟩
              · exact .inr (.inr (.inr (.inr (.inr (.inr ⟨e1, e2, e3, e4, e5, e6⟩)))))
            · exact .inr (.inr (.inr (.inr (.inr (.inl ⟨e1, e2, e3, e4, e5⟩)))))
          · exact .inr (.inr (.inr (.inr (.inl ⟨e1, e2, e3, e4⟩))))
        · exact .inr (.inr (.inr (.inl ⟨e1, e2, e3⟩)))
      · exact .inr (.inr (.inl ⟨e1, e2⟩))
    · exact .inr (.inl e1)
  rcases hpc with ⟨rfl, rfl, rfl, rfl, rfl, rfl⟩ | q | ⟨rfl, q⟩ | ⟨rfl, rfl, q⟩ | ⟨rfl, rfl, rfl, q⟩ | ⟨rfl, rfl, rfl, rfl, q⟩ | ⟨rfl, rfl, rfl, rfl, rfl, q⟩
  all_goals
    refine calls [(0, _), (1, _)] Tryz.func167 rfl Tryz.ntmps167 rfl ⟨rfl, rfl, trivial⟩ ?_
    all_goals (refine WC.sr ?_; refine WL.stepR (okE_box rfl) rfl rfl rfl ?_; rintro _ h1 ⟨b1, rfl, hg1, hb1, hx1⟩; refine WL.stepR (okE_box rfl) rfl rfl rfl ?_; rintro _ h2 ⟨b2, rfl, hg2, hb2, hx2⟩; have hb1' := hx2.obj hb1 nos; have hx := hx1.trans hx2; refine Go ?_; refine WC.sr ?_; refine Go ?_; refine Ld ?_; refine Go ?_; refine Ld ?_; refine Go ?_; refine goP 11 ?_ TT.mk; refine Gg ?_; first | (refine WL.pass rfl rfl rfl ?_) | (refine Ld ?_))
    all_goals (refine Gg ?_; first | (refine WL.pass rfl rfl rfl ?_) | (refine Ld ?_))
    all_goals (refine Gg ?_; refine Go ?_; refine goP 18 ?_ TT.mk; refine Gg ?_; first | (refine WL.pass rfl rfl rfl ?_) | (refine Ld ?_))
    all_goals (refine Gg ?_; first | (refine WL.pass rfl rfl rfl ?_) | (refine Ld ?_))
    all_goals (refine Gg ?_; refine Go ?_; refine goP 25 ?_ TT.mk; refine Gg ?_; first | (refine WL.pass rfl rfl rfl ?_) | (refine Ld ?_))
    all_goals (refine Gg ?_; first | (refine WL.pass rfl rfl rfl ?_) | (refine Ld ?_))
    all_goals (refine Gg ?_; refine Go ?_; refine goP 32 ?_ TT.mk; refine Gg ?_; first | (refine WL.pass rfl rfl rfl ?_) | (refine Ld ?_))
    all_goals (refine Gg ?_; first | (refine WL.pass rfl rfl rfl ?_) | (refine Ld ?_))
    all_goals (refine Gg ?_; refine Go ?_; refine goP 39 ?_ TT.mk; refine Gg ?_; first | (refine WL.pass rfl rfl rfl ?_) | (refine Ld ?_))
    all_goals (refine Gg ?_; first | (refine WL.pass rfl rfl rfl ?_) | (refine Ld ?_))
    all_goals (refine Gg ?_; refine Go ?_; refine Gs [(2, _), (3, _), (5, _)] ?_; refine WC.sr ?_; refine Go ?_; refine goP 47 ?_ TT.mk; refine Gg ?_; first | (refine WL.pass rfl rfl rfl ?_) | (refine Ld ?_))
    all_goals (refine Gg ?_; first | (refine WL.pass rfl rfl rfl ?_) | (refine Ld ?_))
    all_goals (first
                 | (refine WL.pass rfl rfl rfl ?_)
                 | (refine WL.call (vs := [_, _]) rfl (fun a w => Tryz.call199 a w) rfl ((ints_ref o1 o2 (ao.ext0 hx) (bo.ext0 hx) lo ko).dec) rfl rfl rfl ?_
                    rintro _ h9 ⟨⟨rfl, q1⟩ | ⟨rfl, q1⟩, hz9⟩
                    all_goals subst h9))
    all_goals (refine Go ?_; refine goP 54 ?_ TT.mk; refine Gg ?_; first | (refine WL.pass rfl rfl rfl ?_) | (refine Ld ?_))
    all_goals (refine Gg ?_; first | (refine WL.pass rfl rfl rfl ?_) | (refine Ld ?_))
    all_goals (first
                 | (refine WL.pass rfl rfl rfl ?_)
                 | (refine WL.call (vs := [_, _]) rfl (fun a w => Tryz.call199 a w) rfl ((ints_ref f1 f2 (af.ext0 hx) (bf.ext0 hx) lf kf).dec) rfl rfl rfl ?_
                    rintro _ h9 ⟨⟨rfl, q2⟩ | ⟨rfl, q2⟩, hz9⟩
                    all_goals subst h9))
    all_goals (refine Go ?_; refine goP 61 ?_ TT.mk; refine Gg ?_; first | (refine WL.pass rfl rfl rfl ?_) | (refine Ld ?_))
    all_goals (refine Gg ?_; first | (refine WL.pass rfl rfl rfl ?_) | (refine Ld ?_))
    all_goals (first
                 | (refine WL.pass rfl rfl rfl ?_)
                 | (refine WL.call (vs := [_, _]) rfl (fun a w => Tryz.call199 a w) rfl ((ints_ref r1 r2 (as'.ext0 hx) (bs'.ext0 hx) ls ks).dec) rfl rfl rfl ?_
                    rintro _ h9 ⟨⟨rfl, q3⟩ | ⟨rfl, q3⟩, hz9⟩
                    all_goals subst h9))
    all_goals (refine Go ?_; refine goP 68 ?_ TT.mk; refine Gg ?_; first | (refine WL.pass rfl rfl rfl ?_) | (refine Ld ?_))
    all_goals (refine Gg ?_; first | (refine WL.pass rfl rfl rfl ?_) | (refine Ld ?_))
    all_goals (first
                 | (refine WL.pass rfl rfl rfl ?_)
                 | (refine WL.call (vs := [_, _]) rfl (fun a w => Tryz.call200 a w) rfl ((cells_ref c1 c2 (ap.ext0 hx) (bp.ext0 hx)).dec) rfl rfl rfl ?_
                    rintro _ h9 ⟨⟨rfl, q4⟩ | ⟨rfl, q4⟩, hz9⟩
                    all_goals subst h9))
    all_goals (refine Go ?_; refine Gs [(4, _)] ?_; refine Gt ?_; refine ⟨⟨_, rfl, ?_⟩, hx⟩; first | exact ⟨fun _ => (by rw [q1, q2, q3, q4]), fun _ => rfl⟩ | exact ⟨fun z => (by cases z), fun z => by simp only [Prod.mk.injEq] at z; first | exact absurd z.2.2.2.2.2.1 q1 | exact absurd z.2.2.2.2.2.2.1 q2 | exact absurd z.2.2.2.2.2.2.2.1 q3 | exact absurd z.2.2.2.2.2.2.2.2.1 q4 | exact absurd z.1 q | exact absurd z.2.1 q | exact absurd z.2.2.1 q | exact absurd z.2.2.2.1 q | exact absurd z.2.2.2.2.1 q | exact absurd z.2.2.2.2.2.2.2.2.2 q⟩)
end Go.Proofs.YtbokngiajfdanaaGreatDoor


/-
  MESSAGES (layer 6), as the document checks and writes them: any that are few and short.
-/
namespace Go.Proofs.YtbokngiajfdanaaGreatDoor
open Go Go.RK

def Wh (k w : Int) : Prop := (¬ (k = 67 ∨ k = 68) ∧ (w = 0 ∨ w = 83 ∨ w = 80)) ∨ ((k = 67 ∨ k = 68) ∧ (w = 83 ∨ w = 80))
structure Fm.may (f : Fm) : Prop where
  kind : K6 f.kind
  name : cleanB f.name = true
  portal : cleanB f.portal = true
  text : cleanB f.text = true
  oids : ∀ n ∈ f.oids, 0 ≤ n ∧ n ≤ 4294967295
  formats : ∀ n ∈ f.formats, 0 ≤ n ∧ n ≤ 65535
  results : ∀ n ∈ f.results, 0 ≤ n ∧ n ≤ 65535
  params : ∀ c ∈ f.params, c.okB
  what : Wh f.kind f.what
  max : -2147483648 ≤ f.max ∧ f.max ≤ 2147483647
  own : f.pl = (keptF f).pl
set_option maxHeartbeats 2000000 in
set_option maxRecDepth 100000 in
theorem between06 {h : Heap} {v : Value} (l : List Int) (lo hi : Int) (hr : Rd h v 1 l.length (ints l)) (hm : l.length ≤ 65535) :
    CallsH Tryz.prog 165 ⟨[v, In lo, In hi]⟩ h fun u h' => u = .bool (decide (∀ n ∈ l, lo ≤ n ∧ n ≤ hi)) ∧ h' = h := by
  obtain ⟨A, c, rfl, _⟩ := id hr
  refine calls [(0, _), (1, _), (2, _)] Tryz.func165 rfl Tryz.ntmps165 rfl ⟨rfl, rfl, rfl, trivial⟩ ?_
  all_goals (refine WC.sr ?_; refine Go ?_; refine WC.seq ?_; refine WC.sr ?_; refine Go ?_; refine goC 1 2 ?_ TT.mk; refine goB 2 ?_; refine WC.skip ?_; refine Gn ?_; refine Gs [(0, _), (1, _), (2, _)] ?_; refine WC.seq ?_; refine WC.sr ?_; refine Go ?_; refine WC.block ?_)
  -- loop 0: slots that turn [7], that stay [0, 1, 2]
  all_goals (refine WC.loopG (X := Nat) (fun x => ([(7, In (x : Int))] : Fr)) [(0, _), (1, _), (2, _)] (fun k h' => h' = h ∧ k ≤ l.length ∧ ∀ n ∈ l.take k, lo ≤ n ∧ n ≤ hi) (fun k => l.length - k) (0) ⟨rfl, rfl, rfl, rfl, trivial⟩ (by exact ⟨rfl, Nat.zero_le _, by simp⟩) ?_; rintro k h9 ⟨hz, hk, hn⟩; subst h9; refine WC.sub [(7, _), (0, _), (1, _), (2, _)] ⟨rfl, rfl, rfl, rfl, trivial⟩ ?_; refine WC.seq ?_; refine WC.sr ?_; refine Go ?_; refine goC 3 4 (Hb.mk fun hb => ?_) (Hb.mk fun hb => ?_))
  all_goals (first | (fail_if_success refine goB 3 ?_) | (
  refine goB 3 ?_
  all_goals (refine WC.skip ?_)
  skip))
  all_goals (first | (fail_if_success refine goB 4 ?_) | (
  refine goB 4 ?_
  all_goals (refine WC.exit ?_; repeat' (with_reducible first | refine thenP_x ?_ | refine blockP_miss rfl ?_ | refine blockP_hit ?_ | refine blockP_n ?_ | refine thenP_n ?_))
  all_goals (refine Br.out (i := 1000) ?_)
  skip))
  all_goals (refine Gn ?_; first | (refine Br.keep ?_) | (refine Gs [(0, _), (1, _), (2, _), (7, _)] ?_))
  all_goals (first | (refine Br.keep ?_) | (refine WC.seq ?_))
  all_goals (first | (refine Br.keep ?_) | (refine WC.block ?_))
  all_goals (first | (refine Br.keep ?_) | (refine WC.seq ?_))
  all_goals (first
               | (refine Br.keep ?_)
               | (obtain ⟨bL, oL, hA, hbL, hat⟩ := Rd.at_ hr (by omega)
                  obtain ⟨y, hy⟩ : ∃ y, l[k]? = some y := ⟨_, List.getElem?_eq_getElem (by omega)⟩
                  have hcd : cell h ⟨bL, oL + k * 1, none⟩ = some (In y) := by rw [Nat.mul_one]; exact hat.one (j := k) (by simp [hy])))
  all_goals (first | (refine Br.keep ?_) | (refine WC.region ?_))
  all_goals (refine Go ?_; first | (refine Br.keep ?_) | (refine WL.step (ok_idxAddrA Tryz.underlying29 (fun w => Tryz.sizeOf3 w) rfl rfl rfl (by omega) (by first | rfl | assumption)) rfl rfl rfl ?_))
  all_goals (first | (refine Br.keep ?_) | (refine WL.ld rfl (by first | exact hcd | assumption | exact cell_blk (by assumption) rfl) rfl rfl rfl ?_))
  all_goals (refine Go ?_; first | (refine Br.keep ?_) | (refine goP 23 (Hb.mk fun hb => ?_) (Hb.mk fun hb => ?_)))
  all_goals (refine Gg ?_; first | (refine Br.keep ?_) | (first | (refine WL.pass rfl rfl rfl ?_) | (refine WL.step (ok_idxAddrA Tryz.underlying29 (fun w => Tryz.sizeOf3 w) rfl rfl rfl (by omega) (by first | rfl | assumption)) rfl rfl rfl ?_)))
  all_goals (first | (refine Br.keep ?_) | (first | (refine WL.pass rfl rfl rfl ?_) | (refine WL.ld rfl (by first | exact hcd | assumption | exact cell_blk (by assumption) rfl) rfl rfl rfl ?_)))
  all_goals (refine Gg ?_; refine Go ?_; first | (refine Br.keep ?_) | (refine Gs [(0, _), (1, _), (2, _), (7, _), (30, _)] ?_))
  all_goals (first | (refine Br.keep ?_) | (first | (refine goC 5 6 ?_ TT.mk) | (refine goC 5 6 (Hb.mk fun hb => ?_) (Hb.mk fun hb => ?_))))
  all_goals (first | (fail_if_success refine goB 5 ?_) | (
  refine goB 5 ?_
  all_goals (refine WC.sr ?_; refine Go ?_; refine Gs [(6, _)] ?_; refine Gt ?_)
  all_goals (first
              | exact ⟨congrArg Value.bool (decide_eq_true (by rw [List.take_of_length_le (by omega)] at hn; exact hn)).symm, rfl⟩
              | exact ⟨congrArg Value.bool (decide_eq_false (fun z => by have := z _ (List.mem_of_getElem? hy); omega)).symm, rfl⟩)
  skip))
  all_goals (first | (fail_if_success refine goB 6 ?_) | (
  refine goB 6 ?_
  all_goals (refine WC.skip ?_)
  skip))
  all_goals (refine Gn ?_; first | (refine Br.keep ?_) | (refine WC.region ?_))
  all_goals (refine Go ?_; first | (refine Br.keep ?_) | (exact ⟨k + 1, ⟨rfl, rfl, rfl, rfl, trivial⟩, (by exact ⟨rfl, by omega, all_take hy hn (by omega)⟩), (by omega)⟩))
  all_goals (try (refine Br.mk (i := 1000) ?_))
  all_goals (refine Gn ?_; refine Gs [] ?_; refine WC.sr ?_; refine Go ?_; refine Gt ?_)
  all_goals (first
              | exact ⟨congrArg Value.bool (decide_eq_true (by rw [List.take_of_length_le (by omega)] at hn; exact hn)).symm, rfl⟩
              | exact ⟨congrArg Value.bool (decide_eq_false (fun z => by have := z _ (List.mem_of_getElem? hy); omega)).symm, rfl⟩)
set_option maxHeartbeats 4000000 in
set_option maxRecDepth 100000 in
theorem check06A {h : Heap} (f : Fm) (hf : f.ok h) (w : f.few) : CallsH Tryz.prog 123 ⟨[.agg ⟨f.cells⟩]⟩ h fun u h' => (∃ e, u = In e ∧ (e = 0 ↔ f.may)) ∧ Ext No h h' := by
  have hof := fun {h' : Heap} (hx : Ext No h h') => kept06 (h := h') f (hf.ext0 hx)
  have hsa := fun {h' : Heap} (hx : Ext No h h') => same06A (h := h') f (keptF f) (hf.ext0 hx) (keptF_ok (hf.ext0 hx))
  have hyes : K6 f.kind → (cleanB f.name && cleanB f.portal && cleanB f.text) = true → (decide (∀ n ∈ f.oids, 0 ≤ n ∧ n ≤ 4294967295) && decide (∀ n ∈ f.formats, 0 ≤ n ∧ n ≤ 65535) && decide (∀ n ∈ f.results, 0 ≤ n ∧ n ≤ 65535) && decide (∀ c ∈ f.params, c.okB)) = true → Wh f.kind f.what → (-2147483648 ≤ f.max ∧ f.max ≤ 2147483647) → f.pl = (keptF f).pl → f.may := fun a1 a2 a3 a9 a10 a11 => by
    simp only [Bool.and_eq_true] at a2
    simp only [Bool.and_eq_true, decide_eq_true_eq] at a3
    exact ⟨a1, a2.1.1, a2.1.2, a2.2, a3.1.1.1, a3.1.1.2, a3.1.2, a3.2, a9, a10, a11⟩
  have hnk : ¬ K6 f.kind → ¬ f.may := fun a z => a z.kind
  have hnT : (cleanB f.name && cleanB f.portal && cleanB f.text) = false → ¬ f.may := fun a z => by rw [z.name, z.portal, z.text] at a; cases a
  have hnL : (decide (∀ n ∈ f.oids, 0 ≤ n ∧ n ≤ 4294967295) && decide (∀ n ∈ f.formats, 0 ≤ n ∧ n ≤ 65535) && decide (∀ n ∈ f.results, 0 ≤ n ∧ n ≤ 65535) && decide (∀ c ∈ f.params, c.okB)) = false → ¬ f.may := fun a z => by rw [decide_eq_true z.oids, decide_eq_true z.formats, decide_eq_true z.results, decide_eq_true z.params] at a; cases a
  have hn8 : ¬ Wh f.kind f.what → ¬ f.may := fun a z => a z.what
  have hn9 : ¬ (-2147483648 ≤ f.max ∧ f.max ≤ 2147483647) → ¬ f.may := fun a z => a z.max
  have hn11 : ¬ f.pl = (keptF f).pl → ¬ f.may := fun a z => a z.own
  generalize hob : keptF f = ob at hof hsa hyes hn11
  generalize f.may = BM at hyes hnk hnT hnL hn8 hn9 hn11 ⊢
  generalize hPL : f.pl = PL at hsa hyes hn11
  obtain ⟨⟨e1, _⟩, ⟨e2, _⟩, ⟨e3, _⟩, e4⟩ := hf
  obtain ⟨wd1, wd2, wd3, wd4, wd5, wd6, wd7, wd8⟩ := w
  obtain ⟨fk, w, n, p, t, vo, o, vf, fs, vs, rs, vp, ps, mx⟩ := f
  dsimp only at e1 e2 e3 e4 wd1 wd2 wd3 wd4 wd5 wd6 wd7 wd8 hyes hnk hnT hnL hn8 hn9
  obtain ⟨A1, z1, rfl, _⟩ := id e1
  obtain ⟨A2, z2, rfl, _⟩ := id e2
  obtain ⟨A3, z3, rfl, _⟩ := id e3
  obtain ⟨_, ⟨_, A4, z4, rfl, _⟩, _⟩ := id e4
  dsimp only [Fm.cells] at hof hsa ⊢
  have hwc : w = 0 ∨ w = 83 ∨ w = 80 ∨ (w ≠ 0 ∧ w ≠ 83 ∧ w ≠ 80) := by omega
  unfold Wh at hyes hn8
  refine calls [(0, _)] Tryz.func123 rfl Tryz.ntmps123 rfl ⟨rfl, trivial⟩ ?_
  all_goals (refine WC.sr ?_; refine WL.stepR (okE_box rfl) rfl rfl rfl ?_; rintro _ g1 ⟨b1, rfl, hg1, hb1, hx1⟩; refine Go ?_; refine WC.seq ?_; refine WC.sr ?_; refine Go ?_; refine Ld ?_; refine WL.call (vs := [_]) rfl (fun a w => Tryz.call163 a w) rfl (known06 fk) rfl rfl rfl ?_; rintro _ h9 ⟨⟨kx, rfl, hkx⟩, hz9⟩; subst h9; refine Go ?_; refine Gs [(1, _), (9, _)] ?_; refine goC 1 2 (Hb.mk fun hb => ?_) (Hb.mk fun hb => ?_))
  all_goals (first | (fail_if_success refine goB 1 ?_) | (
  refine goB 1 ?_
  all_goals (refine WC.sr ?_; refine Go ?_; refine Gt ?_)
  all_goals (try (have hm1 := of_decide_eq_true ‹decide (mx < -2147483648) = true›)
             try (have hm2 := of_decide_eq_true ‹decide (2147483647 < mx) = true›)
             try (have hm3 := of_decide_eq_false ‹decide (mx < -2147483648) = false›)
             try (have hm4 := of_decide_eq_false ‹decide (2147483647 < mx) = false›)
             first
              | (refine ⟨⟨0, rfl, ⟨fun _ => ?_, fun _ => rfl⟩⟩, hX8.trans hx9⟩
                 exact hyes (hkx.1 (by omega)) htx.symm hlx.symm (by omega) (by omega) (hsx.1 rfl))
              | (refine ⟨⟨_, rfl, ⟨fun z => absurd z (by decide), fun z => absurd z ?_⟩⟩, hx1⟩
                 first | exact hnT htx.symm | exact hnL hlx.symm | exact hnk (fun z => by have := hkx.2 z; omega) | exact hn8 (by omega) | exact hn9 (by omega))
              | (refine ⟨⟨_, rfl, ⟨fun z => absurd z (by decide), fun z => absurd z ?_⟩⟩, hX8.trans hx9⟩
                 exact hn11 (fun z => Bool.false_ne_true (hsx.2 z))))
  skip))
  all_goals (refine goB 2 ?_; refine WC.skip ?_; refine Gn ?_)
  refine WC.cut (X := Bool) (fun z => [(1, .pointer (some ⟨b1, 0, none⟩)), (3, .bool z)]) (fun z h' => z = (cleanB n && cleanB p && cleanB t) ∧ h' = g1) ?_ ?_
  ·
    all_goals (refine WC.region ?_; refine Go ?_; refine Ld ?_)
    all_goals (refine WL.call (vs := [_]) rfl (fun a w => Tryz.call164 a w) rfl ((clean07 n (by omega)).bl) rfl rfl rfl ?_
               rintro _ h9 ⟨⟨rfl, c1⟩ | ⟨rfl, c1⟩, hz9⟩
               all_goals subst h9)
    all_goals (refine Go ?_; refine goP 13 ?_ TT.mk; refine Gg ?_; first | (refine WL.pass rfl rfl rfl ?_) | (refine Ld ?_))
    all_goals (first
                 | (refine WL.pass rfl rfl rfl ?_)
                 | (refine WL.call (vs := [_]) rfl (fun a w => Tryz.call164 a w) rfl ((clean07 p (by omega)).bl) rfl rfl rfl ?_
                    rintro _ h9 ⟨⟨rfl, c2⟩ | ⟨rfl, c2⟩, hz9⟩
                    all_goals subst h9))
    all_goals (refine Go ?_; refine goP 18 ?_ TT.mk; refine Gg ?_; first | (refine WL.pass rfl rfl rfl ?_) | (refine Ld ?_))
    all_goals (first
                 | (refine WL.pass rfl rfl rfl ?_)
                 | (refine WL.call (vs := [_]) rfl (fun a w => Tryz.call164 a w) rfl ((clean07 t (by omega)).bl) rfl rfl rfl ?_
                    rintro _ h9 ⟨⟨rfl, c3⟩ | ⟨rfl, c3⟩, hz9⟩
                    all_goals subst h9))
    all_goals (refine Go ?_; refine ⟨_, ⟨rfl, rfl, trivial⟩, ?_⟩; exact ⟨by simp [*], rfl⟩)
  rintro tx h9 ⟨htx, hz9⟩; subst h9
  refine WC.cut (X := Bool) (fun z => [(1, .pointer (some ⟨b1, 0, none⟩)), (3, .bool tx), (4, .bool z)]) (fun z h' => z = (decide (∀ n ∈ o, 0 ≤ n ∧ n ≤ 4294967295) && decide (∀ n ∈ fs, 0 ≤ n ∧ n ≤ 65535) && decide (∀ n ∈ rs, 0 ≤ n ∧ n ≤ 65535) && decide (∀ c ∈ ps, c.okB)) ∧ h' = g1) ?_ ?_
  ·
    all_goals (refine WC.region ?_; refine Go ?_; refine Ld ?_)
    all_goals (refine WL.call (vs := [_, _, _]) rfl (fun a w => Tryz.call165 a w) rfl ((between06 o 0 4294967295 (e1.ext0 hx1) (by omega)).dec) rfl rfl rfl ?_
               rintro _ h9 ⟨⟨rfl, c4⟩ | ⟨rfl, c4⟩, hz9⟩
               all_goals subst h9)
    all_goals (refine Go ?_; refine goP 26 ?_ TT.mk; refine Gg ?_; first | (refine WL.pass rfl rfl rfl ?_) | (refine Ld ?_))
    all_goals (first
                 | (refine WL.pass rfl rfl rfl ?_)
                 | (refine WL.call (vs := [_, _, _]) rfl (fun a w => Tryz.call165 a w) rfl ((between06 fs 0 65535 (e2.ext0 hx1) (by omega)).dec) rfl rfl rfl ?_
                    rintro _ h9 ⟨⟨rfl, c5⟩ | ⟨rfl, c5⟩, hz9⟩
                    all_goals subst h9))
    all_goals (refine Go ?_; refine goP 31 ?_ TT.mk; refine Gg ?_; first | (refine WL.pass rfl rfl rfl ?_) | (refine Ld ?_))
    all_goals (first
                 | (refine WL.pass rfl rfl rfl ?_)
                 | (refine WL.call (vs := [_, _, _]) rfl (fun a w => Tryz.call165 a w) rfl ((between06 rs 0 65535 (e3.ext0 hx1) (by omega)).dec) rfl rfl rfl ?_
                    rintro _ h9 ⟨⟨rfl, c6⟩ | ⟨rfl, c6⟩, hz9⟩
                    all_goals subst h9))
    all_goals (refine Go ?_; refine goP 36 ?_ TT.mk; refine Gg ?_; first | (refine WL.pass rfl rfl rfl ?_) | (refine Ld ?_))
    all_goals (first
                 | (refine WL.pass rfl rfl rfl ?_)
                 | (refine WL.call (vs := [_]) rfl (fun a w => Tryz.call166 a w) rfl ((values07 ps (e4.ext0 hx1) (by omega) (fun c hc => by have := wd5 c hc; omega)).dec) rfl rfl rfl ?_
                    rintro _ h9 ⟨⟨rfl, c7⟩ | ⟨rfl, c7⟩, hz9⟩
                    all_goals subst h9))
    all_goals (refine Go ?_; refine ⟨_, ⟨rfl, rfl, rfl, trivial⟩, ?_⟩; first | (refine ⟨?_, rfl⟩; rw [decide_eq_false c4]; simp; done) | (refine ⟨?_, rfl⟩; rw [decide_eq_false c5]; simp; done) | (refine ⟨?_, rfl⟩; rw [decide_eq_false c6]; simp; done) | (refine ⟨?_, rfl⟩; rw [decide_eq_false c7]; simp; done) | (refine ⟨?_, rfl⟩; rw [decide_eq_true c4, decide_eq_true c5, decide_eq_true c6, decide_eq_true c7]; rfl))
  rintro lx h9 ⟨hlx, hz9⟩; subst h9
  all_goals (refine WC.sr ?_; rcases hwc with hwc | hwc | hwc | hwc)
  all_goals (refine WL.step (ok_fieldAddr rfl Tryz.underlying32 rfl (fun w => Tryz.sizeOf5 w)) rfl rfl rfl ?_; refine Ld ?_; refine Go ?_; refine goP 44 ?_ TT.mk; refine Gg ?_; first | (refine WL.pass rfl rfl rfl ?_) | (refine Ld ?_))
  all_goals (refine Gg ?_; refine Go ?_; refine goP 49 ?_ TT.mk; refine Gg ?_; first | (refine WL.pass rfl rfl rfl ?_) | (refine Ld ?_))
  all_goals (refine Gg ?_; refine Go ?_; refine Gs [(1, _), (3, _), (4, _), (5, _)] ?_; refine WC.seq ?_; refine WC.sr ?_; refine Go ?_; refine Ld ?_; refine Go ?_; refine goP 57 (Hb.mk fun hb => ?_) (Hb.mk fun hb => ?_))
  all_goals (refine Gg ?_; first | (refine WL.pass rfl rfl rfl ?_) | (refine Ld ?_))
  all_goals (refine Gg ?_; refine Go ?_; refine Gs [(1, _), (3, _), (4, _), (5, _), (61, _)] ?_; first | (refine goC 3 4 ?_ TT.mk) | (refine goC 3 4 (Hb.mk fun hb => ?_) (Hb.mk fun hb => ?_)))
  all_goals (first | (fail_if_success refine goB 3 ?_) | (
  refine goB 3 ?_
  all_goals (refine WC.region ?_; refine Go ?_; refine Ld ?_; refine Go ?_; refine goP 65 ?_ TT.mk; refine Gg ?_; first | (refine WL.pass rfl rfl rfl ?_) | (refine Ld ?_))
  all_goals (refine Gg ?_; refine Go ?_)
  skip))
  all_goals (first | (fail_if_success refine goB 4 ?_) | (
  refine goB 4 ?_
  all_goals (refine WC.skip ?_)
  skip))
  all_goals (refine Gn ?_; refine WC.seq ?_; refine WC.seq ?_; refine WC.drawH (fun h' => h'[b1]? = some (.cells ⟨[.int .u8 fk, .int .u8 w, St n, St p, St t, .slice A1 o.length z1, .slice A2 fs.length z2, .slice A3 rs.length z3, .slice A4 ps.length z4, In mx]⟩ 32 (0, 0))) 27 27 rfl fol ?_)
  all_goals (cases tx
             all_goals (cases lx))
  all_goals (refine WH.tk 0 rfl (fun hq hC => ok_move rfl) rfl rfl rfl ?_ (hC := (by first | exact hb9 | exact hb8 | exact hb1)); refine WH.tk 1 rfl (fun hq hC => ok_not rfl) rfl rfl rfl ?_ (hC := (by first | exact hb9 | exact hb8 | exact hb1)); refine WH.tk 2 rfl (fun hq hC => ok_move rfl) rfl rfl rfl ?_ (hC := (by first | exact hb9 | exact hb8 | exact hb1)); try ((fail_if_success (refine WH.part 72 (b := true) rfl (fun _ => ?_) (fun _ => ?_))); (fail_if_success (refine WH.part 72 (b := false) rfl (fun _ => ?_) (fun _ => ?_))); (refine WH.part 72 rfl (fun hb => ?_) (fun hb => ?_))))
  all_goals (first | (refine WH.ps 3 rfl rfl rfl rfl ?_ (hC := (by first | exact hb9 | exact hb8 | exact hb1))) | (refine WH.tk 3 rfl (fun hq hC => ok_move rfl) rfl rfl rfl ?_ (hC := (by first | exact hb9 | exact hb8 | exact hb1))))
  all_goals (first | (refine WH.ps 4 rfl rfl rfl rfl ?_ (hC := (by first | exact hb9 | exact hb8 | exact hb1))) | (refine WH.tk 4 rfl (fun hq hC => ok_not rfl) rfl rfl rfl ?_ (hC := (by first | exact hb9 | exact hb8 | exact hb1))))
  all_goals (first | (refine WH.tk 5 rfl (fun hq hC => ok_pick_t rfl rfl) rfl rfl rfl ?_ (hC := (by first | exact hb9 | exact hb8 | exact hb1))) | (refine WH.tk 5 rfl (fun hq hC => ok_pick_f rfl rfl) rfl rfl rfl ?_ (hC := (by first | exact hb9 | exact hb8 | exact hb1))))
  all_goals (refine WH.tk 6 rfl (fun hq hC => ok_move rfl) rfl rfl rfl ?_ (hC := (by first | exact hb9 | exact hb8 | exact hb1)); try ((fail_if_success (refine WH.part 76 (b := true) rfl (fun _ => ?_) (fun _ => ?_))); (fail_if_success (refine WH.part 76 (b := false) rfl (fun _ => ?_) (fun _ => ?_))); (refine WH.part 76 rfl (fun hb => ?_) (fun hb => ?_))))
  all_goals (first | (refine WH.ps 7 rfl rfl rfl rfl ?_ (hC := (by first | exact hb9 | exact hb8 | exact hb1))) | (refine WH.tk 7 rfl (fun hq hC => ok_move rfl) rfl rfl rfl ?_ (hC := (by first | exact hb9 | exact hb8 | exact hb1))))
  all_goals (first | (refine WH.ps 8 rfl rfl rfl rfl ?_ (hC := (by first | exact hb9 | exact hb8 | exact hb1))) | (refine WH.tk 8 rfl (fun hq hC => ok_not rfl) rfl rfl rfl ?_ (hC := (by first | exact hb9 | exact hb8 | exact hb1))))
  all_goals (first | (refine WH.tk 9 rfl (fun hq hC => ok_pick_t rfl rfl) rfl rfl rfl ?_ (hC := (by first | exact hb9 | exact hb8 | exact hb1))) | (refine WH.tk 9 rfl (fun hq hC => ok_pick_f rfl rfl) rfl rfl rfl ?_ (hC := (by first | exact hb9 | exact hb8 | exact hb1))))
  all_goals (refine WH.tk 10 rfl (fun hq hC => ok_move rfl) rfl rfl rfl ?_ (hC := (by first | exact hb9 | exact hb8 | exact hb1)); try ((fail_if_success (refine WH.part 80 (b := true) rfl (fun _ => ?_) (fun _ => ?_))); (fail_if_success (refine WH.part 80 (b := false) rfl (fun _ => ?_) (fun _ => ?_))); (refine WH.part 80 rfl (fun hb => ?_) (fun hb => ?_))))
  all_goals (first | (refine WH.ps 11 rfl rfl rfl rfl ?_ (hC := (by first | exact hb9 | exact hb8 | exact hb1))) | (refine WH.tk 11 rfl (fun hq hC => ok_fieldAddr rfl Tryz.underlying32 rfl (fun w => Tryz.sizeOf3 w)) rfl rfl rfl ?_ (hC := (by first | exact hb9 | exact hb8 | exact hb1))))
  all_goals (first | (refine WH.ps 12 rfl rfl rfl rfl ?_ (hC := (by first | exact hb9 | exact hb8 | exact hb1))) | (refine WH.tk 12 rfl (fun hq hC => ok_load (fun w => Tryz.isAgg3 w) rfl (cell_blk hC rfl)) rfl rfl rfl ?_ (hC := (by first | exact hb9 | exact hb8 | exact hb1))))
  all_goals (first | (refine WH.ps 13 rfl rfl rfl rfl ?_ (hC := (by first | exact hb9 | exact hb8 | exact hb1))) | (refine WH.tk 13 rfl (fun hq hC => ok_lss rfl rfl) rfl rfl rfl ?_ (hC := (by first | exact hb9 | exact hb8 | exact hb1))))
  all_goals (first | (refine WH.tk 14 rfl (fun hq hC => ok_pick_t rfl rfl) rfl rfl rfl ?_ (hC := (by first | exact hb9 | exact hb8 | exact hb1))) | (refine WH.tk 14 rfl (fun hq hC => ok_pick_f rfl rfl) rfl rfl rfl ?_ (hC := (by first | exact hb9 | exact hb8 | exact hb1))))
  all_goals (refine WH.tk 15 rfl (fun hq hC => ok_move rfl) rfl rfl rfl ?_ (hC := (by first | exact hb9 | exact hb8 | exact hb1)); try ((fail_if_success (refine WH.part 85 (b := true) rfl (fun _ => ?_) (fun _ => ?_))); (fail_if_success (refine WH.part 85 (b := false) rfl (fun _ => ?_) (fun _ => ?_))); (refine WH.part 85 rfl (fun hb => ?_) (fun hb => ?_))))
  all_goals (first | (refine WH.ps 16 rfl rfl rfl rfl ?_ (hC := (by first | exact hb9 | exact hb8 | exact hb1))) | (refine WH.tk 16 rfl (fun hq hC => ok_fieldAddr rfl Tryz.underlying32 rfl (fun w => Tryz.sizeOf3 w)) rfl rfl rfl ?_ (hC := (by first | exact hb9 | exact hb8 | exact hb1))))
  all_goals (first | (refine WH.ps 17 rfl rfl rfl rfl ?_ (hC := (by first | exact hb9 | exact hb8 | exact hb1))) | (refine WH.tk 17 rfl (fun hq hC => ok_load (fun w => Tryz.isAgg3 w) rfl (cell_blk hC rfl)) rfl rfl rfl ?_ (hC := (by first | exact hb9 | exact hb8 | exact hb1))))
  all_goals (first | (refine WH.ps 18 rfl rfl rfl rfl ?_ (hC := (by first | exact hb9 | exact hb8 | exact hb1))) | (refine WH.tk 18 rfl (fun hq hC => ok_gtr rfl rfl) rfl rfl rfl ?_ (hC := (by first | exact hb9 | exact hb8 | exact hb1))))
  all_goals (first | (refine WH.tk 19 rfl (fun hq hC => ok_pick_t rfl rfl) rfl rfl rfl ?_ (hC := (by first | exact hb9 | exact hb8 | exact hb1))) | (refine WH.tk 19 rfl (fun hq hC => ok_pick_f rfl rfl) rfl rfl rfl ?_ (hC := (by first | exact hb9 | exact hb8 | exact hb1))))
  all_goals (refine WH.tk 20 rfl (fun hq hC => ok_move rfl) rfl rfl rfl ?_ (hC := (by first | exact hb9 | exact hb8 | exact hb1)); try ((fail_if_success (refine WH.part 90 (b := true) rfl (fun _ => ?_) (fun _ => ?_))); (fail_if_success (refine WH.part 90 (b := false) rfl (fun _ => ?_) (fun _ => ?_))); (refine WH.part 90 rfl (fun hb => ?_) (fun hb => ?_))))
  all_goals (first | (refine WH.ps 21 rfl rfl rfl rfl ?_ (hC := (by first | exact hb9 | exact hb8 | exact hb1))) | (refine WH.tk 21 rfl (fun hq hC => ok_loadN (fun w => Tryz.isAgg32 w) (fun w => Tryz.sizeOf32 w) rfl rfl (by exact At.of_block hC)) rfl rfl rfl ?_ (hC := (by first | exact hb9 | exact hb8 | exact hb1))))
  all_goals (first | (refine WH.ps 22 rfl rfl rfl rfl ?_ (hC := (by first | exact hb9 | exact hb8 | exact hb1))) | (refine WH.tk 22 rfl (fun hq hC => ok_loadN (fun w => Tryz.isAgg32 w) (fun w => Tryz.sizeOf32 w) rfl rfl (by exact At.of_block hC)) rfl rfl rfl ?_ (hC := (by first | exact hb9 | exact hb8 | exact hb1))))
  all_goals (first
    | (refine WH.ps 23 rfl rfl rfl rfl ?_ (hC := (by first | exact hb9 | exact hb8 | exact hb1)))
    | (all_goals (refine WH.one 23 (by kernel_rfl) ?_)
       all_goals (refine Comes1.call (vs := [_]) rfl rfl (fun a w => Tryz.call168 a w) rfl (hof hx1) rfl rfl rfl ?_ (fun _ => by kernel_rfl); rintro _ g8 ⟨rfl, hx8⟩; have hb8 := hx8.obj hb1 nos; have hX8 := hx1.trans hx8; refine ⟨fun _ => hb8, ?_⟩)
       skip))
  all_goals (first
    | (refine WH.ps 24 rfl rfl rfl rfl ?_ (hC := (by first | exact hb9 | exact hb8 | exact hb1)))
    | (all_goals (refine WH.one 24 (by kernel_rfl) ?_)
       all_goals (refine Comes1.call (vs := [_, _]) rfl rfl (fun a w => Tryz.call167 a w) rfl (hsa hX8) rfl rfl rfl ?_ (fun _ => by kernel_rfl); rintro _ g9 ⟨⟨sx, rfl, hsx⟩, hx9⟩; have hb9 := hx9.obj hb8 nos; cases sx)
       all_goals (refine ⟨fun _ => hb9, ?_⟩)
       skip))
  all_goals (first | (refine WH.ps 25 rfl rfl rfl rfl ?_ (hC := (by first | exact hb9 | exact hb8 | exact hb1))) | (refine WH.tk 25 rfl (fun hq hC => ok_not rfl) rfl rfl rfl ?_ (hC := (by first | exact hb9 | exact hb8 | exact hb1))))
  all_goals (first | (refine WH.tk 26 rfl (fun hq hC => ok_pick_t rfl rfl) rfl rfl rfl ?_ (hC := (by first | exact hb9 | exact hb8 | exact hb1))) | (refine WH.tk 26 rfl (fun hq hC => ok_pick_f rfl rfl) rfl rfl rfl ?_ (hC := (by first | exact hb9 | exact hb8 | exact hb1))))
  all_goals (refine WH.done (by kernel_rfl) ?_; refine Gn ?_; refine Gs [(96, _)] ?_; refine goC 5 6 ?_ TT.mk)
  all_goals (first | (fail_if_success refine goB 5 ?_) | (
  refine goB 5 ?_
  all_goals (refine WC.sr ?_; refine Go ?_; refine Gt ?_)
  all_goals (try (have hm1 := of_decide_eq_true ‹decide (mx < -2147483648) = true›)
             try (have hm2 := of_decide_eq_true ‹decide (2147483647 < mx) = true›)
             try (have hm3 := of_decide_eq_false ‹decide (mx < -2147483648) = false›)
             try (have hm4 := of_decide_eq_false ‹decide (2147483647 < mx) = false›)
             first
              | (refine ⟨⟨0, rfl, ⟨fun _ => ?_, fun _ => rfl⟩⟩, hX8.trans hx9⟩
                 exact hyes (hkx.1 (by omega)) htx.symm hlx.symm (by omega) (by omega) (hsx.1 rfl))
              | (refine ⟨⟨_, rfl, ⟨fun z => absurd z (by decide), fun z => absurd z ?_⟩⟩, hx1⟩
                 first | exact hnT htx.symm | exact hnL hlx.symm | exact hnk (fun z => by have := hkx.2 z; omega) | exact hn8 (by omega) | exact hn9 (by omega))
              | (refine ⟨⟨_, rfl, ⟨fun z => absurd z (by decide), fun z => absurd z ?_⟩⟩, hX8.trans hx9⟩
                 exact hn11 (fun z => Bool.false_ne_true (hsx.2 z))))
  skip))
  all_goals (refine goB 6 ?_; refine WC.skip ?_; refine Gn ?_; refine WC.sr ?_; refine Go ?_; refine Gt ?_)
  all_goals (try (have hm1 := of_decide_eq_true ‹decide (mx < -2147483648) = true›)
             try (have hm2 := of_decide_eq_true ‹decide (2147483647 < mx) = true›)
             try (have hm3 := of_decide_eq_false ‹decide (mx < -2147483648) = false›)
             try (have hm4 := of_decide_eq_false ‹decide (2147483647 < mx) = false›)
             first
              | (refine ⟨⟨0, rfl, ⟨fun _ => ?_, fun _ => rfl⟩⟩, hX8.trans hx9⟩
                 exact hyes (hkx.1 (by omega)) htx.symm hlx.symm (by omega) (by omega) (hsx.1 rfl))
              | (refine ⟨⟨_, rfl, ⟨fun z => absurd z (by decide), fun z => absurd z ?_⟩⟩, hx1⟩
                 first | exact hnT htx.symm | exact hnL hlx.symm | exact hnk (fun z => by have := hkx.2 z; omega) | exact hn8 (by omega) | exact hn9 (by omega))
              | (refine ⟨⟨_, rfl, ⟨fun z => absurd z (by decide), fun z => absurd z ?_⟩⟩, hX8.trans hx9⟩
                 exact hn11 (fun z => Bool.false_ne_true (hsx.2 z))))
end Go.Proofs.YtbokngiajfdanaaGreatDoor


/-
  MESSAGES (layer 6), as the document writes them: any that are few and short.
-/
namespace Go.Proofs.YtbokngiajfdanaaGreatDoor
open Go Go.RK

abbrev nS6 : Value := .slice none 0 0
/-- Bytes of one's own, all made behind g. -/
def Bs (g h : Heap) (v : Value) (l : List UInt8) : Prop := Own h v 5 1 l.length (bys l) ∧ Ext No g h ∧ ∀ q, v.ownBlock = some q → g.size ≤ q
theorem Bs.nil (h : Heap) : Bs h h nS6 [] := ⟨Own.nil _ _ _, .refl _ _, fun _ e => by cases e⟩
theorem Bs.str {g h : Heap} {v : Value} {l : List UInt8} (k : Bs g h v l) (s : List UInt8) (hl : l.length + s.length ≤ 1000000000) : CallsH Tryz.prog 125 ⟨[v, St s]⟩ h fun u h' => Bs g h' u (l ++ s ++ [0]) :=
  (str06q l s k.1 hl).mono fun _ _ ⟨ho, hr⟩ => ⟨ho, hr.fresh k.2.1 k.2.2⟩
theorem Bs.list {g h : Heap} {v w : Value} {l : List UInt8} (k : Bs g h v l) (L : List Int) (hw : Rd g w 1 L.length (ints L)) (hl : l.length ≤ 1000000) (hm : L.length ≤ 100) {s : Nat} (hs : Sz s) (h4 : s ≤ 4) (hn : ∀ n ∈ L, Rt n s) :
    CallsH Tryz.prog 124 ⟨[v, w, In s]⟩ h fun u h' => ∃ m, Bs g h' u m ∧ m.length = l.length + 2 + L.length * s := by
  refine (list06q l L k.1.rd (hw.ext0 k.2.1) hl hm hs h4 hn).mono fun _ _ ⟨ho, hx, hf⟩ => ⟨_, ⟨ho, k.2.1.trans hx, fun q e => by have := hf q e; have := k.2.1.size; omega⟩, ?_⟩
  have : ∀ L : List Int, (L.flatMap fun n => be n s).length = L.length * s := fun L => by
    induction L with
    | nil => simp
    | cons a L ih => rw [List.flatMap_cons, List.length_append, be_len, ih, List.length_cons, Nat.succ_mul]; omega
  rw [List.length_append, List.length_append, be_len, this]
theorem Bs.put {g h : Heap} {v w : Value} {l : List UInt8} (k : Bs g h v l) (R : List Cel) (hw : Cels g w R) (hl : l.length ≤ 1000000) (hm : R.length ≤ 50) (hc : ∀ c ∈ R, c.bytes.length ≤ 300) :
    CallsH Tryz.prog 126 ⟨[v, w]⟩ h fun u h' => ∃ m, Bs g h' u m ∧ m.length ≤ l.length + 20000 := by
  refine (put06q l R k.1.rd (hw.ext0 k.2.1) hl (by omega) (fun c h => by have := hc c h; omega)).mono fun _ _ ⟨ho, hx, hf⟩ => ⟨_, ⟨ho, k.2.1.trans hx, fun q e => by have := hf q e; have := k.2.1.size; omega⟩, ?_⟩
  have := flat_lenq (f := encCelq) (n := 304) R fun x hx => by have := hc x hx; unfold encCelq; split <;> simp [be_len] <;> omega
  rw [List.length_append, List.length_append, be_len]
  omega
theorem rt2n {n : Int} (h : 0 ≤ n ∧ n ≤ 65535) : Rt n 2 := rt2q (by omega)
set_option maxHeartbeats 4000000 in
set_option maxRecDepth 100000 in
theorem enc06 {h : Heap} (f : Fm) (hf : f.ok h) (w : f.few) : CallsH Tryz.prog 76 ⟨[.agg ⟨f.cells⟩]⟩ h fun u h' =>
    ((¬ f.may ∧ ∃ e, e ≠ 0 ∧ u = .tuple ⟨[.agg ⟨[.int .u8 0, nS6]⟩, In e]⟩) ∨ (f.may ∧ ∃ v m, u = .tuple ⟨[.agg ⟨[.int .u8 f.kind, v]⟩, In 0]⟩ ∧ Own h' v 5 1 m.length (bys m) ∧ m.length ≤ 30000)) ∧ Ext No h h' := by
  have kc := fun {g : Heap} (x : Ext No h g) => check06A f (hf.ext0 x) w
  have hwd := w
  obtain ⟨wd1, wd2, wd3, wd4, wd5, wd6, wd7, wd8⟩ := w
  have hmy : f.may → f.may := id
  generalize hMY : f.may = MY at kc hmy
  have hmy2 : MY → (∀ n ∈ f.oids, 0 ≤ n ∧ n ≤ 4294967295) ∧ (∀ n ∈ f.formats, 0 ≤ n ∧ n ≤ 65535) ∧ (∀ n ∈ f.results, 0 ≤ n ∧ n ≤ 65535) ∧ (-2147483648 ≤ f.max ∧ f.max ≤ 2147483647) ∧ Wh f.kind f.what := fun z => by
    rw [← hMY] at z
    exact ⟨z.oids, z.formats, z.results, z.max, z.what⟩
  clear hmy
  obtain ⟨⟨e1, _⟩, ⟨e2, _⟩, ⟨e3, _⟩, e4⟩ := hf
  obtain ⟨fk, w, n, p, t, vo, o, vf, fs, vs, rs, vp, ps, mx⟩ := f
  dsimp only at e1 e2 e3 e4 wd1 wd2 wd3 wd4 wd5 wd6 wd7 wd8 hmy2
  obtain ⟨A1, z1, rfl, _⟩ := id e1
  obtain ⟨A2, z2, rfl, _⟩ := id e2
  obtain ⟨A3, z3, rfl, _⟩ := id e3
  obtain ⟨_, ⟨_, A4, z4, rfl, _⟩, _⟩ := id e4
  dsimp only [Fm.cells] at kc ⊢
  refine calls [(0, _)] Tryz.func76 rfl Tryz.ntmps76 rfl ⟨rfl, trivial⟩ ?_
  all_goals (refine WC.sr ?_; refine WL.stepR (okE_box rfl) rfl rfl rfl ?_; rintro _ g1 ⟨b1, rfl, hg1, hb1, hx1⟩; refine WL.stepR (okE_alloc (fun w => Tryz.zeroValue129 w)) rfl rfl rfl ?_; rintro _ g2 ⟨b2, rfl, hg2, hb2, hx2⟩; have hb12 := hx2.obj hb1 nos; have l2 := lt_of_some hb2; have X2 := hx1.trans hx2; refine Go ?_; refine WC.seq ?_; refine WC.sr ?_; refine WL.step (ok_loadN (fun w => Tryz.isAgg32 w) (fun w => Tryz.sizeOf32 w) rfl rfl (by exact At.of_block hb12)) rfl rfl rfl ?_; refine WL.call (vs := [_]) rfl (fun a w => Tryz.call123 a w) rfl (kc X2) rfl rfl rfl ?_; rintro _ g3 ⟨⟨e, rfl, he⟩, hx3⟩; have hb13 := hx3.obj hb12 nos; have hb23 := hx3.obj hb2 nos; have X3 := X2.trans hx3; have s1 := hx1.size; have s3 := X3.size; refine Go ?_; refine Gs [(1, _), (2, _), (4, _)] ?_; refine WC.sr ?_; refine Go ?_; refine goC 1 2 (Hb.mk fun hb => ?_) (Hb.mk fun hb => ?_))
  all_goals (first | (fail_if_success refine goB 1 ?_) | (
  refine goB 1 ?_
  all_goals (refine WC.sr ?_; refine WL.step (ok_buildF (vs := []) (cs := [_, _]) (fun | [] => [(.int .u8 0), (.slice none 0 0)] | _ => []) rfl rfl (by kernel_rfl)) rfl rfl rfl ?_; refine Go ?_; refine WL.stepR0 (okE_storeW (fun w => Tryz.sizeOf129 w) rfl rfl rfl hb23 rfl (by simp [Value.oneCell'])) rfl rfl ?_; rintro _ h9 ⟨hb9, hx9⟩; refine Go ?_; refine Gs [(2, _), (3, _)] ?_; refine WC.ret ?_; repeat' (with_reducible first | refine thenP_r ?_ | refine blockP_r ?_))
  all_goals (refine retP_2 _ _ ⟨⟨_, rfl, ld_blk (fun w => Tryz.isAgg129 w) (fun w => Tryz.sizeOf129 w) hb9 rfl⟩, rfl, trivial⟩ ?_)
  all_goals (first
              | exact ⟨.inl ⟨fun z => by have := he.2 z; omega, e, by omega, rfl⟩, X3.trans' hx9 (fun q hq z => by omega)⟩
              | exact ⟨.inr ⟨hme, _, _, rfl, BZ.1.ext hx9 (fun q hq z => by have := BZ.2.2 q hq; have := lt_of_some hb23; omega), lZ⟩, (X3.trans BZ.2.1).trans' hx9 (fun q hq z => by omega)⟩)
  skip))
  all_goals (refine goB 2 ?_; refine WC.skip ?_; refine Gn ?_; refine WC.sr ?_; refine Go ?_; refine WC.seq ?_; refine WC.sr ?_; refine Go ?_; refine WL.ld rfl (by first | exact cell_blk hb13 rfl | assumption | exact cell_blk (by assumption) rfl) rfl rfl rfl ?_; have hme : MY := he.1 (by omega); obtain ⟨y1, y2, y3, y4, y5⟩ := hmy2 hme; unfold Wh at y5; have B0 := Bs.nil g3; have BZ := B0; have lZ : ([] : List UInt8).length ≤ 30000 := Nat.zero_le _; have r1 := e1.ext0 X3; have r2 := e2.ext0 X3; have r3 := e3.ext0 X3; have r4 := e4.ext0 X3; refine Gn ?_; refine Gs [(1, _), (2, _), (5, _), (13, _)] ?_; refine WC.block ?_; refine WC.sr ?_; refine Go ?_; refine goC 3 4 (Hb.mk fun hb => ?_) (Hb.mk fun hb => ?_))
  all_goals (first | (fail_if_success refine goB 3 ?_) | (
  refine goB 3 ?_
  all_goals (refine WC.drawH (fun h' => Ext No g3 h') 9 10 rfl fol ?_; refine WH.tk 0 rfl (fun hq hC => ok_fieldAddr rfl Tryz.underlying32 rfl (fun w => Tryz.sizeOf9 w)) rfl rfl rfl ?_ (hC := (by first | exact Ext.refl _ _ | assumption | exact B3.2.1 | exact B2.2.1 | exact B1.2.1)); refine WH.tk 1 rfl (fun hq hC => ok_load (fun w => Tryz.isAgg9 w) rfl (by first | exact hC.cell (by first | exact cell_blk hb13 rfl | assumption | exact cell_blk (by assumption) rfl) nos)) rfl rfl rfl ?_ (hC := (by first | exact Ext.refl _ _ | assumption | exact B3.2.1 | exact B2.2.1 | exact B1.2.1)); refine WH.tk 3 rfl (fun hq hC => ok_fieldAddr rfl Tryz.underlying32 rfl (fun w => Tryz.sizeOf9 w)) rfl rfl rfl ?_ (hC := (by first | exact Ext.refl _ _ | assumption | exact B3.2.1 | exact B2.2.1 | exact B1.2.1)); refine WH.tk 4 rfl (fun hq hC => ok_load (fun w => Tryz.isAgg9 w) rfl (by first | exact hC.cell (by first | exact cell_blk hb13 rfl | assumption | exact cell_blk (by assumption) rfl) nos)) rfl rfl rfl ?_ (hC := (by first | exact Ext.refl _ _ | assumption | exact B3.2.1 | exact B2.2.1 | exact B1.2.1)); refine WH.tk 6 rfl (fun hq hC => ok_fieldAddr rfl Tryz.underlying32 rfl (fun w => Tryz.sizeOf29 w)) rfl rfl rfl ?_ (hC := (by first | exact Ext.refl _ _ | assumption | exact B3.2.1 | exact B2.2.1 | exact B1.2.1)); refine WH.tk 7 rfl (fun hq hC => ok_load (fun w => Tryz.isAgg29 w) rfl (by first | exact hC.cell (by first | exact cell_blk hb13 rfl | assumption | exact cell_blk (by assumption) rfl) nos)) rfl rfl rfl ?_ (hC := (by first | exact Ext.refl _ _ | assumption | exact B3.2.1 | exact B2.2.1 | exact B1.2.1)); refine WH.one 2 (by kernel_rfl) ?_; refine Comes1.call (vs := [_, _]) rfl rfl (fun a w => Tryz.call125 a w) rfl (B0.str n (by simp; omega)) rfl rfl rfl ?_ (fun _ => by kernel_rfl); rintro v4 h4 B1; refine ⟨fun _ => B1.2.1, ?_⟩; refine WH.one 5 (by kernel_rfl) ?_; refine Comes1.call (vs := [_, _]) rfl rfl (fun a w => Tryz.call125 a w) rfl (B1.str t (by simp; omega)) rfl rfl rfl ?_ (fun _ => by kernel_rfl); rintro v5 h5 B2; refine ⟨fun _ => B2.2.1, ?_⟩; refine WH.one 8 (by kernel_rfl) ?_; refine Comes1.call (vs := [_, _, _]) rfl rfl (fun a w => Tryz.call124 a w) rfl (B2.list (s := 4) o r1 (by simp; omega) (by omega) sz4q (by decide) (fun n hn => rt4sq (by have := y1 n hn; omega))) rfl rfl rfl ?_ (fun _ => by kernel_rfl); rintro v6 h6 ⟨m6, B3, l6⟩; refine ⟨fun _ => B3.2.1, ?_⟩; refine WH.one 9 (by kernel_rfl) ?_; refine Comes1.run rfl (OkP.r (ok_assign rfl)) rfl rfl rfl ?_ (fun _ => by kernel_rfl); rintro _ hz ⟨rfl, _⟩; subst hz; refine ⟨fun e => (by cases e), ?_⟩; have BZ := B3; (have lZ : m6.length ≤ 30000 := by simp at l6; omega); refine WH.done (by kernel_rfl) ?_)
  skip))
  all_goals (first | (fail_if_success refine goB 4 ?_) | (
  refine goB 4 ?_
  all_goals (refine WC.sr ?_; refine Go ?_; refine goC 5 6 (Hb.mk fun hb => ?_) (Hb.mk fun hb => ?_))
  all_goals (first | (fail_if_success refine goB 5 ?_) | (
  refine goB 5 ?_
  all_goals (refine WC.drawH (fun h' => Ext No g3 h') 15 16 rfl fol ?_; refine WH.tk 0 rfl (fun hq hC => ok_fieldAddr rfl Tryz.underlying32 rfl (fun w => Tryz.sizeOf9 w)) rfl rfl rfl ?_ (hC := (by first | exact Ext.refl _ _ | assumption | exact B5.2.1 | exact B4.2.1 | exact B3.2.1 | exact B2.2.1 | exact B1.2.1)); refine WH.tk 1 rfl (fun hq hC => ok_load (fun w => Tryz.isAgg9 w) rfl (by first | exact hC.cell (by first | exact cell_blk hb13 rfl | assumption | exact cell_blk (by assumption) rfl) nos)) rfl rfl rfl ?_ (hC := (by first | exact Ext.refl _ _ | assumption | exact B5.2.1 | exact B4.2.1 | exact B3.2.1 | exact B2.2.1 | exact B1.2.1)); refine WH.tk 3 rfl (fun hq hC => ok_fieldAddr rfl Tryz.underlying32 rfl (fun w => Tryz.sizeOf9 w)) rfl rfl rfl ?_ (hC := (by first | exact Ext.refl _ _ | assumption | exact B5.2.1 | exact B4.2.1 | exact B3.2.1 | exact B2.2.1 | exact B1.2.1)); refine WH.tk 4 rfl (fun hq hC => ok_load (fun w => Tryz.isAgg9 w) rfl (by first | exact hC.cell (by first | exact cell_blk hb13 rfl | assumption | exact cell_blk (by assumption) rfl) nos)) rfl rfl rfl ?_ (hC := (by first | exact Ext.refl _ _ | assumption | exact B5.2.1 | exact B4.2.1 | exact B3.2.1 | exact B2.2.1 | exact B1.2.1)); refine WH.tk 6 rfl (fun hq hC => ok_fieldAddr rfl Tryz.underlying32 rfl (fun w => Tryz.sizeOf29 w)) rfl rfl rfl ?_ (hC := (by first | exact Ext.refl _ _ | assumption | exact B5.2.1 | exact B4.2.1 | exact B3.2.1 | exact B2.2.1 | exact B1.2.1)); refine WH.tk 7 rfl (fun hq hC => ok_load (fun w => Tryz.isAgg29 w) rfl (by first | exact hC.cell (by first | exact cell_blk hb13 rfl | assumption | exact cell_blk (by assumption) rfl) nos)) rfl rfl rfl ?_ (hC := (by first | exact Ext.refl _ _ | assumption | exact B5.2.1 | exact B4.2.1 | exact B3.2.1 | exact B2.2.1 | exact B1.2.1)); refine WH.tk 9 rfl (fun hq hC => ok_fieldAddr rfl Tryz.underlying32 rfl (fun w => Tryz.sizeOf30 w)) rfl rfl rfl ?_ (hC := (by first | exact Ext.refl _ _ | assumption | exact B5.2.1 | exact B4.2.1 | exact B3.2.1 | exact B2.2.1 | exact B1.2.1)); refine WH.tk 10 rfl (fun hq hC => ok_load (fun w => Tryz.isAgg30 w) rfl (by first | exact hC.cell (by first | exact cell_blk hb13 rfl | assumption | exact cell_blk (by assumption) rfl) nos)) rfl rfl rfl ?_ (hC := (by first | exact Ext.refl _ _ | assumption | exact B5.2.1 | exact B4.2.1 | exact B3.2.1 | exact B2.2.1 | exact B1.2.1)); refine WH.tk 12 rfl (fun hq hC => ok_fieldAddr rfl Tryz.underlying32 rfl (fun w => Tryz.sizeOf29 w)) rfl rfl rfl ?_ (hC := (by first | exact Ext.refl _ _ | assumption | exact B5.2.1 | exact B4.2.1 | exact B3.2.1 | exact B2.2.1 | exact B1.2.1)); refine WH.tk 13 rfl (fun hq hC => ok_load (fun w => Tryz.isAgg29 w) rfl (by first | exact hC.cell (by first | exact cell_blk hb13 rfl | assumption | exact cell_blk (by assumption) rfl) nos)) rfl rfl rfl ?_ (hC := (by first | exact Ext.refl _ _ | assumption | exact B5.2.1 | exact B4.2.1 | exact B3.2.1 | exact B2.2.1 | exact B1.2.1)); refine WH.one 2 (by kernel_rfl) ?_; refine Comes1.call (vs := [_, _]) rfl rfl (fun a w => Tryz.call125 a w) rfl (B0.str p (by simp; omega)) rfl rfl rfl ?_ (fun _ => by kernel_rfl); rintro v4 h4 B1)
  all_goals (refine ⟨fun _ => B1.2.1, ?_⟩; refine WH.one 5 (by kernel_rfl) ?_; refine Comes1.call (vs := [_, _]) rfl rfl (fun a w => Tryz.call125 a w) rfl (B1.str n (by simp; omega)) rfl rfl rfl ?_ (fun _ => by kernel_rfl); rintro v5 h5 B2; refine ⟨fun _ => B2.2.1, ?_⟩; refine WH.one 8 (by kernel_rfl) ?_; refine Comes1.call (vs := [_, _, _]) rfl rfl (fun a w => Tryz.call124 a w) rfl (B2.list (s := 2) fs r2 (by simp; omega) (by omega) sz2q (by decide) (fun n hn => rt2n (y2 n hn))) rfl rfl rfl ?_ (fun _ => by kernel_rfl); rintro v6 h6 ⟨m6, B3, l6⟩; refine ⟨fun _ => B3.2.1, ?_⟩; refine WH.one 11 (by kernel_rfl) ?_; refine Comes1.call (vs := [_, _]) rfl rfl (fun a w => Tryz.call126 a w) rfl (B3.put ps r4 (by simp at l6; omega) wd4 wd5) rfl rfl rfl ?_ (fun _ => by kernel_rfl); rintro v7 h7 ⟨m7, B4, l7⟩; refine ⟨fun _ => B4.2.1, ?_⟩; refine WH.one 14 (by kernel_rfl) ?_; refine Comes1.call (vs := [_, _, _]) rfl rfl (fun a w => Tryz.call124 a w) rfl (B4.list (s := 2) rs r3 (by simp at l6; omega) (by omega) sz2q (by decide) (fun n hn => rt2n (y3 n hn))) rfl rfl rfl ?_ (fun _ => by kernel_rfl); rintro v8 h8 ⟨m8, B5, l8⟩; refine ⟨fun _ => B5.2.1, ?_⟩; refine WH.one 15 (by kernel_rfl) ?_; refine Comes1.run rfl (OkP.r (ok_assign rfl)) rfl rfl rfl ?_ (fun _ => by kernel_rfl); rintro _ hz ⟨rfl, _⟩; subst hz; refine ⟨fun e => (by cases e), ?_⟩; have BZ := B5; (have lZ : m8.length ≤ 30000 := by simp at l6; omega); refine WH.done (by kernel_rfl) ?_)
  skip))
  all_goals (first | (fail_if_success refine goB 6 ?_) | (
  refine goB 6 ?_
  all_goals (refine WC.seq ?_; refine WC.sr ?_; refine Go ?_; refine Gs [(1, _), (2, _), (5, _), (13, _), (42, _)] ?_; refine goC 7 8 (Hb.mk fun hb => ?_) (Hb.mk fun hb => ?_))
  all_goals (first | (fail_if_success refine goB 7 ?_) | (
  refine goB 7 ?_
  all_goals (refine WC.skip ?_)
  skip))
  all_goals (first | (fail_if_success refine goB 8 ?_) | (
  refine goB 8 ?_
  all_goals (refine WC.region ?_; refine Go ?_)
  skip))
  all_goals (refine Gn ?_; refine goC 9 10 (Hb.mk fun hb => ?_) (Hb.mk fun hb => ?_))
  all_goals (first | (fail_if_success refine goB 9 ?_) | (
  refine goB 9 ?_
  all_goals (refine WC.region ?_; refine Go ?_; refine WL.ld rfl (by first | exact cell_blk hb13 rfl | assumption | exact cell_blk (by assumption) rfl) rfl rfl rfl ?_; refine WL.stepR (okE_buildSlice (vs := [_]) (cs := [_]) (fun | [a0] => [a0] | _ => []) Tryz.underlying85 rfl rfl (by kernel_rfl)) rfl rfl rfl ?_; rintro _ h4 ⟨b4, rfl, hg4, hb4, hx4⟩; have hb14 := hx4.obj hb13 nos; refine Go ?_; refine WL.ld rfl (by first | exact cell_blk hb14 rfl | assumption | exact cell_blk (by assumption) rfl) rfl rfl rfl ?_; refine Go ?_; refine WL.ld rfl (by first | exact cell_blk hb14 rfl | assumption | exact cell_blk (by assumption) rfl) rfl rfl rfl ?_; refine WL.step (ok_catS rfl rfl (by omega)) rfl rfl rfl ?_)
  all_goals (have hw255 : 0 ≤ w ∧ w ≤ 255 := by omega
             have ho4 : Own h4 (.slice (some ⟨b4, 0, none⟩) 1 1) 5 1 ([UInt8.ofNat w.toNat] : List UInt8).length (bys [UInt8.ofNat w.toNat]) := by
              rw [bys_one hw255]
              exact own_blk (len := 1) hb4 rfl (by decide))
  all_goals (refine WL.call (vs := [_, _]) rfl (fun a w => Tryz.call125 a w) rfl (str06q [UInt8.ofNat w.toNat] (n ++ p) ho4 (by simp only [List.length_append, List.length_cons, List.length_nil]; omega)) rfl rfl rfl ?_; rintro v5 h5 ⟨ho5, rs5⟩; refine WL.step (ok_assign rfl) rfl rfl rfl ?_; have BZ : Bs g3 h5 _ _ := ⟨ho5, rs5.fresh hx4 (fun q e => by cases e; exact hg4)⟩; (have lZ : ([UInt8.ofNat w.toNat] ++ (n ++ p) ++ [0]).length ≤ 30000 := by simp; omega); refine Gn ?_)
  skip))
  all_goals (first | (fail_if_success refine goB 10 ?_) | (
  refine goB 10 ?_
  all_goals (refine WC.sr ?_; refine Go ?_; first | (refine goC 11 12 ?_ TT.mk) | (refine goC 11 12 (Hb.mk fun hb => ?_) (Hb.mk fun hb => ?_)))
  all_goals (first | (fail_if_success refine goB 11 ?_) | (
  refine goB 11 ?_
  all_goals (refine WC.drawH (fun h' => Ext No g3 h') 6 7 rfl fol ?_; refine WH.tk 0 rfl (fun hq hC => ok_fieldAddr rfl Tryz.underlying32 rfl (fun w => Tryz.sizeOf9 w)) rfl rfl rfl ?_ (hC := (by first | exact Ext.refl _ _ | assumption | exact B1.2.1)); refine WH.tk 1 rfl (fun hq hC => ok_load (fun w => Tryz.isAgg9 w) rfl (by first | exact hC.cell (by first | exact cell_blk hb13 rfl | assumption | exact cell_blk (by assumption) rfl) nos)) rfl rfl rfl ?_ (hC := (by first | exact Ext.refl _ _ | assumption | exact B1.2.1)); refine WH.tk 3 rfl (fun hq hC => ok_fieldAddr rfl Tryz.underlying32 rfl (fun w => Tryz.sizeOf3 w)) rfl rfl rfl ?_ (hC := (by first | exact Ext.refl _ _ | assumption | exact B1.2.1)); refine WH.tk 4 rfl (fun hq hC => ok_load (fun w => Tryz.isAgg3 w) rfl (by first | exact hC.cell (by first | exact cell_blk hb13 rfl | assumption | exact cell_blk (by assumption) rfl) nos)) rfl rfl rfl ?_ (hC := (by first | exact Ext.refl _ _ | assumption | exact B1.2.1)); refine WH.one 2 (by kernel_rfl) ?_; refine Comes1.call (vs := [_, _]) rfl rfl (fun a w => Tryz.call125 a w) rfl (B0.str p (by simp; omega)) rfl rfl rfl ?_ (fun _ => by kernel_rfl); rintro v4 h4 B1; refine ⟨fun _ => B1.2.1, ?_⟩; refine WH.one 5 (by kernel_rfl) ?_; refine Comes1.call (vs := [_, _, _]) rfl rfl (fun a w => Tryz.call127 a w) rfl (put01 _ mx 4 sz4q (rt4sq (by omega)) B1.1.rd (by simp; omega)) rfl rfl rfl ?_ (fun _ => by kernel_rfl); rintro v5 h5 ⟨ho5, hx5, hf5⟩; refine ⟨fun _ => B1.2.1.trans hx5, ?_⟩; refine WH.one 6 (by kernel_rfl) ?_; refine Comes1.run rfl (OkP.r (ok_assign rfl)) rfl rfl rfl ?_ (fun _ => by kernel_rfl); rintro _ hz ⟨rfl, _⟩; subst hz; refine ⟨fun e => (by cases e), ?_⟩; have BZ : Bs g3 h5 _ _ := ⟨ho5, B1.2.1.trans hx5, fun q e => by have := hf5 q e; have := B1.2.1.size; omega⟩; (have lZ : ([] ++ p ++ [0] ++ be mx 4).length ≤ 30000 := by simp [be_len]; omega); refine WH.done (by kernel_rfl) ?_)
  skip))
  all_goals (first | (fail_if_success refine goB 12 ?_) | (
  refine goB 12 ?_
  all_goals (refine WC.sr ?_; refine Go ?_; refine Gs [(1, _), (2, _), (5, _), (62, _)] ?_; refine goC 13 14 (Hb.mk fun hb => ?_) (Hb.mk fun hb => ?_))
  all_goals (first | (fail_if_success refine goB 13 ?_) | (
  refine goB 13 ?_
  all_goals (refine WC.region ?_; refine Go ?_; refine WL.ld rfl (by first | exact cell_blk hb13 rfl | assumption | exact cell_blk (by assumption) rfl) rfl rfl rfl ?_; refine WL.call (vs := [_, _]) rfl (fun a w => Tryz.call125 a w) rfl (B0.str t (by simp; omega)) rfl rfl rfl ?_; rintro v4 h4 BZ; (have lZ : ([] ++ t ++ [0]).length ≤ 30000 := by simp; omega); refine Go ?_)
  skip))
  all_goals (first | (fail_if_success refine goB 14 ?_) | (
  refine goB 14 ?_
  all_goals (refine WC.skip ?_)
  skip))
  skip))
  skip))
  skip))
  skip))
  all_goals (refine Gn ?_; refine WC.sr ?_; obtain ⟨AZ, cZ, eZ, _⟩ := id BZ.1.slice; try subst eZ)
  all_goals (refine WL.step (ok_fieldAddr rfl Tryz.underlying32 rfl (fun w => Tryz.sizeOf5 w)) rfl rfl rfl ?_; refine WL.ld rfl (by first | exact cell_blk (BZ.2.1.obj hb13 nos) rfl | assumption | exact cell_blk (by assumption) rfl) rfl rfl rfl ?_; refine Go ?_; refine WL.step (ok_buildF (vs := [_, _]) (cs := [_, _]) (fun | [a0, a1] => [a0, a1] | _ => []) rfl rfl (by kernel_rfl)) rfl rfl rfl ?_; refine WL.stepR0 (okE_storeW (fun w => Tryz.sizeOf129 w) rfl rfl rfl (BZ.2.1.obj hb23 nos) rfl (by obtain ⟨_, _, e, _⟩ := BZ.1.slice; simp [Value.oneCell', e])) rfl rfl ?_; rintro _ h9 ⟨hb9, hx9⟩; refine Go ?_; refine Gs [(2, _), (3, _)] ?_; refine WC.ret ?_; repeat' (with_reducible first | refine thenP_r ?_ | refine blockP_r ?_))
  all_goals (refine retP_2 _ _ ⟨⟨_, rfl, ld_blk (fun w => Tryz.isAgg129 w) (fun w => Tryz.sizeOf129 w) hb9 rfl⟩, rfl, trivial⟩ ?_)
  all_goals (first
              | exact ⟨.inl ⟨fun z => by have := he.2 z; omega, e, by omega, rfl⟩, X3.trans' hx9 (fun q hq z => by omega)⟩
              | exact ⟨.inr ⟨hme, _, _, rfl, BZ.1.ext hx9 (fun q hq z => by have := BZ.2.2 q hq; have := lt_of_some hb23; omega), lZ⟩, (X3.trans BZ.2.1).trans' hx9 (fun q hq z => by omega)⟩)
end Go.Proofs.YtbokngiajfdanaaGreatDoor


/-
  MESSAGES (layer 6), as the document writes them: the bytes of some; whether all may be told.
-/
namespace Go.Proofs.YtbokngiajfdanaaGreatDoor
open Go Go.RK

/-- Frames. -/
def frs (ms : List (Int × List UInt8)) : List UInt8 := ms.flatMap fun m => frB m.1 m.2
theorem frs_snoc (ms : List (Int × List UInt8)) (m : Int × List UInt8) : frs (ms ++ [m]) = frs ms ++ frB m.1 m.2 := by simp [frs]
theorem frB_len (k : Int) (l : List UInt8) : (frB k l).length = 5 + l.length := by simp [frB, be_len]; omega
theorem frs_len {ms : List (Int × List UInt8)} (h : ∀ m ∈ ms, m.2.length ≤ 30000) : (frs ms).length ≤ ms.length * 30005 := by
  induction ms with
  | nil => simp [frs]
  | cons m ms ih =>
    have h1 := h m (List.mem_cons_self ..)
    have h2 := ih fun x hx => h x (List.mem_cons_of_mem _ hx)
    have e : frs (m :: ms) = frB m.1 m.2 ++ frs ms := by simp [frs]
    rw [e, List.length_append, frB_len, List.length_cons, Nat.succ_mul]
    omega
theorem frs_nil {ms : List (Int × List UInt8)} (h : (frs ms).length = 0) : ms = [] := by
  rcases ms with _ | ⟨m, ms⟩
  · rfl
  · have e : frs (m :: ms) = frB m.1 m.2 ++ frs ms := by simp [frs]
    rw [e, List.length_append, frB_len] at h
    omega
/-- What the messages' frames are. -/
structure Frd (L : List Fm) (ms : List (Int × List UInt8)) : Prop where
  len : ms.length ≤ L.length
  ok : ∀ m ∈ ms, 0 < m.1 ∧ m.1 ≤ 255 ∧ m.2.length ≤ 30000
  no : ms = [] ↔ ∀ f ∈ L, ¬ f.may
theorem k6_pos {k : Int} (h : K6 k) : 0 < k ∧ k ≤ 255 := by unfold K6 at h; omega
theorem take_snoc_g {α : Type} {l : List α} {k : Nat} {y : α} (hy : l[k]? = some y) : l.take (k + 1) = l.take k ++ [y] := by rw [List.take_add_one, hy]; rfl
theorem Frd.no1 {L : List Fm} {ms : List (Int × List UInt8)} (k : Frd L ms) {f : Fm} (h : ¬ f.may) : Frd (L ++ [f]) ms :=
  ⟨by have := k.len; simp; omega, k.ok, by
    rw [k.no]
    constructor
    · intro z x hx
      rcases List.mem_append.1 hx with hx | hx
      · exact z x hx
      · rw [List.mem_singleton.1 hx]; exact h
    · exact fun z x hx => z x (List.mem_append_left _ hx)⟩
theorem Frd.one {L : List Fm} {ms : List (Int × List UInt8)} (k : Frd L ms) {f : Fm} (h : f.may) {m : List UInt8} (hm : m.length ≤ 30000) : Frd (L ++ [f]) (ms ++ [(f.kind, m)]) :=
  ⟨by have := k.len; simp; omega, fun x hx => by
    rcases List.mem_append.1 hx with hx | hx
    · exact k.ok x hx
    · rw [List.mem_singleton.1 hx]; exact ⟨(k6_pos h.kind).1, (k6_pos h.kind).2, hm⟩, ⟨fun z => by simp at z, fun z => absurd h (z f (List.mem_append_right _ (List.mem_singleton.2 rfl)))⟩⟩
set_option maxHeartbeats 4000000 in
set_option maxRecDepth 100000 in
theorem bytes06 {h : Heap} {v : Value} (L : List Fm) (hL : Fms h v L) (w : ∀ f ∈ L, f.few) (hn : L.length ≤ 100) : CallsH Tryz.prog 43 ⟨[v]⟩ h fun u h' => (∃ ms, Frd L ms ∧ Bs h h' u (frs ms)) := by
  obtain ⟨hr, hl, ok⟩ := hL
  obtain ⟨A, c, rfl, _⟩ := id hr
  refine calls [(0, _)] Tryz.func43 rfl Tryz.ntmps43 rfl ⟨rfl, trivial⟩ ?_
  all_goals (refine WC.sr ?_; refine Go ?_; refine WC.sr ?_; refine Go ?_; refine WC.seq ?_; refine WC.sr ?_; refine Go ?_; refine WC.block ?_)
  -- loop 0: slots that turn [3, 10], that stay [8, 9]
  all_goals (refine WC.loopG (X := Nat × Value) (fun x => ([(10, In (x.1 : Int)), (3, x.2)] : Fr)) [(8, _), (9, _)] (fun x h' => x.1 ≤ L.length ∧ ∃ ms, Frd (L.take x.1) ms ∧ Bs h h' x.2 (frs ms)) (fun x => L.length - x.1) ((0, .slice none 0 0)) ⟨rfl, rfl, rfl, rfl, trivial⟩ (by exact ⟨Nat.zero_le _, [], ⟨by simp, by simp, by simp⟩, Bs.nil _⟩) ?_; rintro ⟨k, u⟩ h1 ⟨hk, ms, fr, B1⟩; dsimp only at hk fr B1)
  all_goals (refine WC.sub [(3, _), (10, _), (8, _), (9, _)] ⟨rfl, rfl, rfl, rfl, trivial⟩ ?_; dsimp only)
  all_goals (refine WC.sr ?_; refine Go ?_; refine WC.seq ?_; refine goC 1 2 (Hb.mk fun hb => ?_) (Hb.mk fun hb => ?_))
  all_goals (first | (fail_if_success refine goB 1 ?_) | (
  refine goB 1 ?_
  all_goals (refine WC.skip ?_)
  skip))
  all_goals (first | (fail_if_success refine goB 2 ?_) | (
  refine goB 2 ?_
  all_goals (refine WC.exit ?_; repeat' (with_reducible first | refine thenP_x ?_ | refine blockP_miss rfl ?_ | refine blockP_hit ?_ | refine blockP_n ?_ | refine thenP_n ?_))
  all_goals (refine Br.out (i := 1000) ?_)
  skip))
  all_goals (refine Gn ?_; first | (refine Br.keep ?_) | (refine WC.seq ?_))
  all_goals (first | (refine Br.keep ?_) | (refine WC.block ?_))
  all_goals (first | (refine Br.keep ?_) | (refine WC.sr ?_))
  all_goals (first
               | (refine Br.keep ?_)
               | (obtain ⟨bF, iF, hFA, _, hat⟩ := Rd.at_ hr (by omega)
                  obtain ⟨f, hfk⟩ : ∃ f, L[k]? = some f := ⟨_, List.getElem?_eq_getElem (by omega)⟩
                  have hmf := List.mem_of_getElem? hfk
                  have hd : At h1 bF (iF + k * 10) f.cells := At.elem Fm.len (hat.ext B1.2.1 nos) hfk
                  have okf := ok f hmf
                  have hfl := frs_len (fun m hm => (fr.ok m hm).2.2)
                  have hfl2 := fr.len
                  rw [List.length_take] at hfl2))
  all_goals (first | (refine Br.keep ?_) | (refine WL.step (ok_idxAddrA Tryz.underlying22 (fun w => Tryz.sizeOf32 w) rfl rfl rfl (by omega) (by first | rfl | assumption)) rfl rfl rfl ?_))
  all_goals (first | (refine Br.keep ?_) | (refine WL.step (ok_loadN (fun w => Tryz.isAgg32 w) (fun w => Tryz.sizeOf32 w) rfl rfl (by exact hd)) rfl rfl rfl ?_))
  all_goals (first
               | (refine Br.keep ?_)
               | (refine WL.stepR (okE_alloc (fun w => Tryz.zeroValue32 w)) rfl rfl rfl ?_
                  rintro _ h2 ⟨b2, rfl, hg2, hb2, hx2⟩))
  all_goals (first
               | (refine Br.keep ?_)
               | (refine WL.stepR0 (okE_storeW (fun w => Tryz.sizeOf32 w) rfl rfl rfl (by assumption) rfl okf.one) rfl rfl ?_
                  rintro _ h3 ⟨hb3, hx3⟩))
  all_goals (first | (refine Br.keep ?_) | (have X13 : Ext No h1 h3 := hx2.trans' hx3 (fun q hq e => by omega)))
  all_goals (refine Gn ?_; first | (refine Br.keep ?_) | (refine WC.sr ?_))
  all_goals (first | (refine Br.keep ?_) | (refine WL.step (ok_loadN (fun w => Tryz.isAgg32 w) (fun w => Tryz.sizeOf32 w) rfl rfl (by exact At.of_block hb3)) rfl rfl rfl ?_))
  all_goals (first
               | (refine Br.keep ?_)
               | (refine WL.call (vs := [_]) rfl (fun a w => Tryz.call76 a w) rfl (enc06 f (okf.ext0 (B1.2.1.trans X13)) (w f hmf)) rfl rfl rfl ?_
                  rintro _ h4 ⟨⟨hno, e, he, rfl⟩ | ⟨hmy, v4, m4, rfl, ho4, hm4⟩, hx4⟩
                  all_goals have X14 := X13.trans hx4))
  all_goals (refine Go ?_)
  all_goals (first
               | (refine Br.keep ?_)
               | (refine WL.stepR (okE_alloc (fun w => Tryz.zeroValue129 w)) rfl rfl rfl ?_
                  rintro _ h5 ⟨b5, rfl, hg5, hb5, hx5⟩))
  all_goals (first
               | (refine Br.keep ?_)
               | (refine WL.stepR0 (okE_storeW (fun w => Tryz.sizeOf129 w) rfl rfl rfl (by assumption) rfl (by first | (obtain ⟨_, _, e, _⟩ := ho4.slice; simp [Value.oneCell', e]; done) | (simp [Value.oneCell']; done))) rfl rfl ?_
                  rintro _ h6 ⟨hb6, hx6⟩))
  all_goals (first | (refine Br.keep ?_) | (have X16 : Ext No h1 h6 := X14.trans (hx5.trans' hx6 (fun q hq e => by omega))))
  all_goals (refine Go ?_; first | (refine Br.keep ?_) | (refine Gs [(3, _), (6, _), (7, _), (8, _), (9, _), (10, _)] ?_))
  all_goals (first | (refine Br.keep ?_) | (refine WC.sr ?_))
  all_goals (refine Go ?_; first | (refine Br.keep ?_) | (refine goC 3 4 ?_ TT.mk))
  all_goals (first | (fail_if_success refine goB 3 ?_) | (
  refine goB 3 ?_
  all_goals (refine WC.region ?_; refine Go ?_; refine WL.step (ok_loadN (fun w => Tryz.isAgg129 w) (fun w => Tryz.sizeOf129 w) rfl rfl (by exact At.of_block hb6)) rfl rfl rfl ?_; refine WL.call (vs := [_]) rfl (fun a w => Tryz.call77 a w) rfl (frame04 f.kind (k6_pos hmy.kind) m4 ((ho4.ext hx5 (fun _ _ => nos)).ext hx6 (fun q hq e => by have := (ho4.lt hq); omega)).rd (by omega)) rfl rfl rfl ?_; rintro v7 h7 ⟨ho7, hx7⟩; have X17 := X16.trans hx7; refine WL.stepR (ok_append (sz := 1) (bytes := 1) rfl Tryz.underlying85 (show Tryz.prog.info? 5 = some Tryz.t5 by kernel_rfl) rfl rfl rfl rfl (by decide) rfl rfl (B1.1.ext X17 (fun _ _ => nos)) ho7.rd (by intro v hv; obtain ⟨x, _, rfl⟩ := List.mem_map.1 hv; rfl) (by rw [frB_len]; simp only [maxLen]; omega) (by rw [frB_len]; omega)) rfl rfl rfl ?_; rintro v8 h8 ⟨ho8, hx8, hl8⟩; refine Go ?_)
  skip))
  all_goals (first | (fail_if_success refine goB 4 ?_) | (
  refine goB 4 ?_
  all_goals (refine WC.skip ?_)
  skip))
  all_goals (refine Gn ?_; first | (refine Br.keep ?_) | (refine Gs [(3, _), (8, _), (9, _), (10, _)] ?_))
  all_goals (first | (refine Br.keep ?_) | (refine WC.region ?_))
  all_goals (refine Go ?_)
  all_goals (first
               | (refine Br.keep ?_)
               | (exact ⟨(k + 1, _), ⟨rfl, rfl, rfl, rfl, trivial⟩, (by first
                   | exact ⟨by omega, ms, by rw [take_snoc_g hfk]; exact fr.no1 hno, B1.1.ext X16 (fun _ _ => nos), B1.2.1.trans X16, B1.2.2⟩
                   | (refine ⟨by omega, _, (by rw [take_snoc_g hfk]; exact fr.one hmy hm4), ?_, (B1.2.1.trans X17).trans' hx8 (fun q hq e => by have := B1.2.2 q e; omega), fun q hq => ?_⟩
                      · rw [frs_snoc, List.length_append, bys_app]; exact ho8
                      · rcases hl8 with e | e
                        · exact B1.2.2 q (e ▸ hq)
                        · rw [e] at hq; simp only [Option.some.injEq] at hq; have := (B1.2.1.trans X17).size; omega)), (by (try simp only []); omega)⟩))
  all_goals (try (refine Br.mk (i := 1000) ?_))
  all_goals (refine Gn ?_; refine Gs [(3, _)] ?_; refine WC.sr ?_; refine Go ?_; refine Gt ?_)
  all_goals (rw [List.take_of_length_le (by omega)] at fr
             exact ⟨ms, fr, B1⟩)
end Go.Proofs.YtbokngiajfdanaaGreatDoor


/-
  PORTAL (layer 28): lists that are copied: rows of their own.
-/
namespace Go.Proofs.YtbokngiajfdanaaGreatDoor
open Go Go.RK

set_option maxHeartbeats 2000000 in
set_option maxRecDepth 100000 in
theorem clone_cells {h : Heap} {A : Option Addr} {n c : Nat} {xs : List Value} (hr : Rd h (.slice A n c) 2 n xs) (h1 : ∀ v ∈ xs, v.oneCell' = true) (hm : n * 32 ≤ reachBytes) :
    CallsH Tryz.prog 192 ⟨[.slice A n c]⟩ h fun u h' => Own h' u 87 2 n xs ∧ Ext No h h' ∧ (∀ k, u.ownBlock = some k → h.size ≤ k) := by
  unfold reachBytes at hm
  cases A with
  | none =>
    have h0 : n = 0 := by
      apply Classical.byContradiction
      intro hn
      obtain ⟨b, o, e, _⟩ := Rd.at_ hr (by omega)
      cases e
    subst h0
    have hx : xs = [] := List.eq_nil_of_length_eq_zero (by obtain ⟨_, _, _, _, hl, _⟩ := hr; simpa using hl)
    subst hx
    refine calls [(0, _)] Tryz.func192 rfl Tryz.ntmps192 rfl ⟨rfl, trivial⟩ ?_
    all_goals (refine WC.sr ?_; refine Go ?_; refine WC.seq ?_; refine WC.sr ?_; refine Go ?_; refine WL.step (ok_eqlSn Tryz.underlying30 rfl rfl) rfl rfl rfl ?_; refine Gn ?_; refine goC 1 2 ?_ TT.mk; refine goB 1 ?_; refine WC.sr ?_; refine Go ?_; refine Gt ?_; exact ⟨Own.nil _ _ _, .refl _ _, by simp [Value.ownBlock]⟩)
  | some a =>
    refine calls [(0, _)] Tryz.func192 rfl Tryz.ntmps192 rfl ⟨rfl, trivial⟩ ?_
    all_goals (refine WC.sr ?_; refine Go ?_; refine WC.seq ?_; refine WC.sr ?_; refine Go ?_; refine WL.step (ok_eqlSn Tryz.underlying30 rfl rfl) rfl rfl rfl ?_; refine Gn ?_; refine goC 1 2 ?_ TT.mk; refine goB 2 ?_; refine WC.skip ?_; refine Gn ?_; refine WC.sr ?_; refine WL.stepR (okE_buildSlice (vs := []) (cs := []) (fun _ => []) Tryz.underlying30 rfl rfl (by kernel_rfl)) rfl rfl rfl ?_; rintro _ h3 ⟨b1, rfl, hg1, hb1, hx1⟩; refine Go ?_; have hr1 := hr.ext0 hx1; refine WL.stepR (ok_append (sz := 2) (bytes := 32) rfl Tryz.underlying30 (show Tryz.prog.info? 87 = some Tryz.t87 by kernel_rfl) rfl rfl rfl rfl (by decide) rfl rfl (own_blk hb1 rfl (by simp [maxLen])) hr1 h1 (by simp only [maxLen]; omega) (by omega)) rfl rfl rfl ?_; rintro v2 h2 ⟨ho2, hx2, hl2⟩; refine Go ?_; refine Gs [(2, _)] ?_; refine Gt ?_; exact ⟨by simpa using ho2, hx1.trans' hx2 (fun k hk e => by simp [Value.ownBlock] at e; omega), fresh_of hl2 (fun k hk => by simp [Value.ownBlock] at hk; omega) hx1.size⟩)
set_option maxHeartbeats 2000000 in
set_option maxRecDepth 100000 in
theorem clone_rows {h : Heap} {A : Option Addr} {n c : Nat} {xs : List Value} (hr : Rd h (.slice A n c) 1 n xs) (h1 : ∀ v ∈ xs, v.oneCell' = true) (hm : n * 24 ≤ reachBytes) :
    CallsH Tryz.prog 189 ⟨[.slice A n c]⟩ h fun u h' => Own h' u 30 1 n xs ∧ Ext No h h' ∧ (∀ k, u.ownBlock = some k → h.size ≤ k) := by
  unfold reachBytes at hm
  cases A with
  | none =>
    have h0 : n = 0 := by
      apply Classical.byContradiction
      intro hn
      obtain ⟨b, o, e, _⟩ := Rd.at_ hr (by omega)
      cases e
    subst h0
    have hx : xs = [] := List.eq_nil_of_length_eq_zero (by obtain ⟨_, _, _, _, hl, _⟩ := hr; simpa using hl)
    subst hx
    refine calls [(0, _)] Tryz.func189 rfl Tryz.ntmps189 rfl ⟨rfl, trivial⟩ ?_
    all_goals (refine WC.sr ?_; refine Go ?_; refine WC.seq ?_; refine WC.sr ?_; refine Go ?_; refine WL.step (ok_eqlSn Tryz.underlying145 rfl rfl) rfl rfl rfl ?_; refine Gn ?_; refine goC 1 2 ?_ TT.mk; refine goB 1 ?_; refine WC.sr ?_; refine Go ?_; refine Gt ?_; exact ⟨Own.nil _ _ _, .refl _ _, by simp [Value.ownBlock]⟩)
  | some a =>
    refine calls [(0, _)] Tryz.func189 rfl Tryz.ntmps189 rfl ⟨rfl, trivial⟩ ?_
    all_goals (refine WC.sr ?_; refine Go ?_; refine WC.seq ?_; refine WC.sr ?_; refine Go ?_; refine WL.step (ok_eqlSn Tryz.underlying145 rfl rfl) rfl rfl rfl ?_; refine Gn ?_; refine goC 1 2 ?_ TT.mk; refine goB 2 ?_; refine WC.skip ?_; refine Gn ?_; refine WC.sr ?_; refine WL.stepR (okE_buildSlice (vs := []) (cs := []) (fun _ => []) Tryz.underlying145 rfl rfl (by kernel_rfl)) rfl rfl rfl ?_; rintro _ h3 ⟨b1, rfl, hg1, hb1, hx1⟩; refine Go ?_; have hr1 := hr.ext0 hx1; refine WL.stepR (ok_append (sz := 1) (bytes := 24) rfl Tryz.underlying145 (show Tryz.prog.info? 30 = some Tryz.t30 by kernel_rfl) rfl rfl rfl rfl (by decide) rfl rfl (own_blk hb1 rfl (by simp [maxLen])) hr1 h1 (by simp only [maxLen]; omega) (by omega)) rfl rfl rfl ?_; rintro v2 h2 ⟨ho2, hx2, hl2⟩; refine Go ?_; refine Gs [(2, _)] ?_; refine Gt ?_; exact ⟨by simpa using ho2, hx1.trans' hx2 (fun k hk e => by simp [Value.ownBlock] at e; omega), fresh_of hl2 (fun k hk => by simp [Value.ownBlock] at hk; omega) hx1.size⟩)
set_option maxHeartbeats 2000000 in
set_option maxRecDepth 100000 in
theorem clone_bytes {h : Heap} {A : Option Addr} {c : Nat} (l : List UInt8) (hr : Rd h (.slice A l.length c) 1 l.length (bys l)) (hm : l.length ≤ reachBytes) :
    CallsH Tryz.prog 193 ⟨[.slice A l.length c]⟩ h fun u h' => Own h' u 5 1 l.length (bys l) ∧ Ext No h h' ∧ (∀ k, u.ownBlock = some k → h.size ≤ k) := by
  unfold reachBytes at hm
  cases A with
  | none =>
    have h0 : l = [] := by
      cases l with
      | nil => rfl
      | cons a l => obtain ⟨b, o, e, _⟩ := Rd.at_ hr (by simp); cases e
    subst h0
    refine calls [(0, _)] Tryz.func193 rfl Tryz.ntmps193 rfl ⟨rfl, trivial⟩ ?_
    all_goals (refine WC.sr ?_; refine Go ?_; refine WC.seq ?_; refine WC.sr ?_; refine Go ?_; refine WL.step (ok_eqlSn Tryz.underlying85 rfl rfl) rfl rfl rfl ?_; refine Gn ?_; refine goC 1 2 ?_ TT.mk; refine goB 1 ?_; refine WC.sr ?_; refine Go ?_; refine Gt ?_; exact ⟨Own.nil _ _ _, .refl _ _, by simp [Value.ownBlock]⟩)
  | some a =>
    refine calls [(0, _)] Tryz.func193 rfl Tryz.ntmps193 rfl ⟨rfl, trivial⟩ ?_
    all_goals (refine WC.sr ?_; refine Go ?_; refine WC.seq ?_; refine WC.sr ?_; refine Go ?_; refine WL.step (ok_eqlSn Tryz.underlying85 rfl rfl) rfl rfl rfl ?_; refine Gn ?_; refine goC 1 2 ?_ TT.mk; refine goB 2 ?_; refine WC.skip ?_; refine Gn ?_; refine WC.sr ?_; refine WL.stepR (okE_buildSlice (vs := []) (cs := []) (fun _ => []) Tryz.underlying85 rfl rfl (by kernel_rfl)) rfl rfl rfl ?_; rintro _ h3 ⟨b1, rfl, hg1, hb1, hx1⟩; refine Go ?_; have hr1 := hr.ext0 hx1; refine WL.stepR (ok_append (sz := 1) (bytes := 1) rfl Tryz.underlying85 (show Tryz.prog.info? 5 = some Tryz.t5 by kernel_rfl) rfl rfl rfl rfl (by decide) rfl rfl (own_blk hb1 rfl (by simp [maxLen])) hr1 (one_bys l) (by simp only [maxLen]; omega) (by omega)) rfl rfl rfl ?_; rintro v2 h2 ⟨ho2, hx2, hl2⟩; refine Go ?_; refine Gs [(2, _)] ?_; refine Gt ?_; exact ⟨by simpa using ho2, hx1.trans' hx2 (fun k hk e => by simp [Value.ownBlock] at e; omega), fresh_of hl2 (fun k hk => by simp [Value.ownBlock] at hk; omega) hx1.size⟩)
theorem one_cels {h : Heap} {l : List Cel} (hl : ∀ c ∈ l, c.ok h) : ∀ v ∈ l.flatMap Cel.cells, v.oneCell' = true := by
  intro v hv
  obtain ⟨c, hc, hv⟩ := List.mem_flatMap.1 hv
  obtain ⟨_, _, e, _⟩ := (hl c hc).1
  simp only [Cel.cells, List.mem_cons, List.not_mem_nil, or_false] at hv
  rcases hv with rfl | rfl
  · rfl
  · rw [e]; rfl
/-- A cell that has got bytes of its own, in its place. -/
theorem set_cell {out rest : List Cel} {c : Cel} {spare : List Value} {k o : Nat} (v : Value) (hk : out.length = k) (ho : o = 0 + k * 2 + 1) :
    ((out ++ c :: rest).flatMap Cel.cells ++ spare).set o v = (out ++ [(⟨c.null, v, c.bytes⟩ : Cel)] ++ rest).flatMap Cel.cells ++ spare := by
  have hfl : (out.flatMap Cel.cells).length = k * 2 := by rw [length_flat Cel.len, hk]
  subst ho
  simp only [List.flatMap_append, List.flatMap_cons, List.append_assoc, List.flatMap_nil, List.append_nil, Cel.cells, List.cons_append, List.nil_append]
  rw [List.set_append_right _ _ (by omega), hfl]
  have : 0 + k * 2 + 1 - k * 2 = 1 := by omega
  rw [this]
  rfl
theorem drop_cons {α : Type} {l : List α} {k : Nat} {x : α} (h : l[k]? = some x) : l.drop k = x :: l.drop (k + 1) := by
  rw [List.drop_eq_getElem?_toList_append, h]
  rfl
theorem get_mid {α : Type} {l out : List α} {k : Nat} {x : α} (h : l[k]? = some x) (hk : out.length = k) : (out ++ l.drop k)[k]? = some x := by
  subst hk
  rw [List.getElem?_append_right (Nat.le_refl _), List.getElem?_drop]
  simpa using h
/-- A list whose cells have got bytes of their own up to number k. -/
structure RowI (h2 h : Heap) (b1 : Nat) (l : List Cel) (k : Nat) (out : List Cel) : Prop where
  le : k ≤ l.length
  len : out.length = k
  pl : out.map Cel.pl = (l.take k).map Cel.pl
  blk : ∃ spare, h[b1]? = some (.cells ⟨(out ++ l.drop k).flatMap Cel.cells ++ spare⟩ 87 (0, 0))
  own : ∀ q ∈ out, q.ok h ∧ ∀ b, q.v.ownBlock = some b → h2.size ≤ b
  ext : Ext (fun b => b = b1) h2 h
theorem RowI.next {h2 h h3 h4 : Heap} {b1 k : Nat} {l out : List Cel} {c : Cel} {v : Value} {cs : List Value} (r : RowI h2 h b1 l k out) (hc : l[k]? = some c) (x3 : Ext No h h3) (o3 : Own h3 v 5 1 c.bytes.length (bys c.bytes)) (f3 : ∀ b, v.ownBlock = some b → h.size ≤ b)
    (hcs : ∀ spare, h3[b1]? = some (.cells ⟨(out ++ l.drop k).flatMap Cel.cells ++ spare⟩ 87 (0, 0)) → cs = ((out ++ l.drop k).flatMap Cel.cells ++ spare).set (0 + k * 2 + 1) v) (hb4 : h4[b1]? = some (.cells ⟨cs⟩ 87 (0, 0))) (x4 : Ext (fun b => b = b1) h3 h4) (hb : b1 < h2.size) (hz : c.bytes.length ≤ reachBytes) :
    RowI h2 h4 b1 l (k + 1) (out ++ [⟨c.null, v, c.bytes⟩]) := by
  have s0 := r.ext.size
  have s3 := x3.size
  have hkl : k < l.length := (List.getElem?_eq_some_iff.1 hc).1
  obtain ⟨spare, hblk⟩ := r.blk
  refine ⟨hkl, by simp [r.len], ?_, ⟨spare, ?_⟩, fun q hq => ?_, (r.ext.trans' x3 fun _ _ e => e.elim).trans x4⟩
  · rw [List.map_append, r.pl, List.take_add_one, hc, List.map_append]
    rfl
  · rw [hb4, hcs spare (x3.obj hblk nos), drop_cons hc, set_cell v r.len rfl]
  · rcases List.mem_append.1 hq with hq | hq
    · obtain ⟨q1, q2⟩ := r.own q hq
      exact ⟨⟨(q1.1.ext0 x3).ext' x4 fun b _ e eb => by have := q2 b e; omega, q1.2⟩, q2⟩
    · simp only [List.mem_singleton] at hq
      subst hq
      exact ⟨⟨o3.rd.ext' x4 fun b _ e eb => by have := f3 b e; omega, hz⟩, fun b e => by have := f3 b e; omega⟩
theorem RowI.done {h0 h2 h : Heap} {b1 c1 : Nat} {l out : List Cel} (r : RowI h2 h b1 l l.length out) (x2 : Ext No h0 h2) (hg : h0.size ≤ b1) (hlt : b1 < h2.size) (hn : l.length ≤ c1) (hc : c1 ≤ maxLen) (hl : l.length * 32 ≤ reachBytes) :
    ∃ l', Cels h (.slice (some ⟨b1, 0, none⟩) l.length c1) l' ∧ l'.map Cel.pl = l.map Cel.pl ∧ Ext No h0 h ∧ ∀ b, CelsF (.slice (some ⟨b1, 0, none⟩) l.length c1) l' b → h0.size ≤ b := by
  obtain ⟨spare, hb⟩ := r.blk
  rw [List.drop_length, List.append_nil] at hb
  have s2 := x2.size
  have e := r.len
  refine ⟨out, ?_, by rw [r.pl, List.take_length], x2.trans' r.ext fun b hb e => by omega, ?_⟩
  · rw [← e]
    exact ⟨⟨_, _, rfl, by omega, length_flat Cel.len out, fun _ => ⟨b1, 0, rfl, lt_of_some hb, (At.of_block hb).pre⟩⟩, ⟨by omega, _, _, rfl, hc⟩, fun q hq => (r.own q hq).1⟩
  · rintro b (⟨_, e⟩ | ⟨q, hq, _, e⟩)
    · simp only [Value.ownBlock, Option.some.injEq] at e; omega
    · have := (r.own q hq).2 b e; omega
set_option maxHeartbeats 2000000 in
set_option maxRecDepth 100000 in
theorem row_port {h : Heap} {v : Value} (l : List Cel) (hc : Cels h v l) :
    CallsH Tryz.prog 177 ⟨[v]⟩ h fun u h' => ∃ l', Cels h' u l' ∧ l'.map Cel.pl = l.map Cel.pl ∧ Ext No h h' ∧ ∀ b, CelsF u l' b → h.size ≤ b := by
  obtain ⟨hr, ⟨hlm, A, c, rfl, hcap⟩, hok⟩ := hc
  have hlm' := hlm
  unfold reachBytes at hlm'
  have h1 := one_cels hok
  by_cases h0 : l = []
  · subst h0
    refine calls [(0, _)] Tryz.func177 rfl Tryz.ntmps177 rfl ⟨rfl, trivial⟩ ?_
    all_goals (refine WC.sr ?_; refine Go ?_; refine WC.sr ?_; refine Go ?_; refine WL.call (vs := [_]) rfl (fun a w => Tryz.call192 a w) rfl (clone_cells hr h1 hlm) rfl rfl rfl ?_; rintro v2 h2 ⟨ho2, hx2, hf2⟩; obtain ⟨A2, c2, rfl, hc2⟩ := ho2.cap'; refine Go ?_; refine Gs [(3, _)] ?_; refine WC.seq ?_; refine WC.sr ?_; refine Go ?_; refine WC.block ?_)
    -- loop 0: slots that turn [9], that stay [3, 8]
    all_goals (refine WC.loopG (X := Unit) (fun x => ([(9, In (0 : Int))] : Fr)) [(3, _), (8, _)] (fun _ h' => h' = h2) (fun _ => 0) (()) ⟨rfl, rfl, rfl, trivial⟩ (by exact rfl) ?_; rintro _ h9 hz; subst h9; refine WC.sub [(9, _), (3, _), (8, _)] ⟨rfl, rfl, rfl, trivial⟩ ?_; refine WC.sr ?_; refine Go ?_; refine WC.seq ?_; refine goC 1 2 ?_ TT.mk; refine goB 2 ?_; refine WC.exit ?_; repeat' (with_reducible first | refine thenP_x ?_ | refine blockP_miss rfl ?_ | refine blockP_hit ?_ | refine blockP_n ?_ | refine thenP_n ?_))
    all_goals (refine Br.out (i := 1000) ?_; refine Gn ?_; refine Br.keep ?_; refine Br.keep ?_; refine Br.keep ?_; refine Go ?_; refine Br.keep ?_; refine Go ?_; refine Br.keep ?_; refine Go ?_; refine Br.keep ?_; refine Br.keep ?_; refine Br.keep ?_; refine Go ?_; refine Br.keep ?_; refine Gn ?_; refine Br.keep ?_; refine Br.keep ?_; refine Go ?_; refine Br.keep ?_; try (refine Br.mk (i := 1000) ?_))
    all_goals (refine Gn ?_; refine WC.sr ?_; refine Go ?_; refine Gs [(2, _)] ?_; refine Gt ?_; exact ⟨[], ⟨ho2.rd, ⟨by simp, _, _, rfl, hc2⟩, by simp⟩, rfl, hx2, by rintro b (⟨e, _⟩ | ⟨_, e, _⟩); (simp at e); (simp at e)⟩)
  · have hpos : 0 < l.length := List.length_pos_iff.2 h0
    refine calls [(0, _)] Tryz.func177 rfl Tryz.ntmps177 rfl ⟨rfl, trivial⟩ ?_
    all_goals (refine WC.sr ?_; refine Go ?_; refine WC.sr ?_; refine Go ?_; refine WL.call (vs := [_]) rfl (fun a w => Tryz.call192 a w) rfl (clone_cells hr h1 hlm) rfl rfl rfl ?_; rintro v2 h2 ⟨ho2, hx2, hf2⟩; obtain ⟨b1, c1, cs, rfl, hb1, hnc, hcm, hcl, hct⟩ := ho2.block hpos; have hlt1 := lt_of_some hb1; have hg1 := hf2 b1 rfl; have hi0 : RowI h2 h2 b1 l 0 [] := ⟨Nat.zero_le _, rfl, rfl, ⟨cs.drop (l.length * 2), by rw [List.nil_append, List.drop_zero, ← hct, List.take_append_drop]; exact hb1⟩, by simp, .refl _ _⟩; refine Go ?_; refine Gs [(3, _)] ?_; refine WC.seq ?_; refine WC.sr ?_; refine Go ?_; refine WC.block ?_)
    -- loop 0: slots that turn [9], that stay [3, 8]
    all_goals (refine WC.loopG (X := Nat × List Cel) (fun x => ([(9, In (x.1 : Int))] : Fr)) [(3, _), (8, _)] (fun x h' => RowI h2 h' b1 l x.1 x.2) (fun x => l.length - x.1) ((0, [])) ⟨rfl, rfl, rfl, trivial⟩ (by exact hi0) ?_)
    all_goals (rintro ⟨k, out⟩ h3 ri
               simp only at ri
               have hk := ri.le)
    all_goals (refine WC.sub [(9, _), (3, _), (8, _)] ⟨rfl, rfl, rfl, trivial⟩ ?_; dsimp only)
    all_goals (refine WC.sr ?_; refine Go ?_; refine WC.seq ?_; refine goC 1 2 (Hb.mk fun hb => ?_) (Hb.mk fun hb => ?_))
    all_goals (first | (fail_if_success refine goB 1 ?_) | (
    refine goB 1 ?_
    all_goals (refine WC.skip ?_)
    skip))
    all_goals (first | (fail_if_success refine goB 2 ?_) | (
    refine goB 2 ?_
    all_goals (refine WC.exit ?_; repeat' (with_reducible first | refine thenP_x ?_ | refine blockP_miss rfl ?_ | refine blockP_hit ?_ | refine blockP_n ?_ | refine thenP_n ?_))
    all_goals (refine Br.out (i := 1000) ?_)
    skip))
    all_goals (refine Gn ?_; first | (refine Br.keep ?_) | (refine WC.seq ?_))
    all_goals (first | (refine Br.keep ?_) | (refine WC.block ?_))
    all_goals (first | (refine Br.keep ?_) | (refine WC.sr ?_))
    all_goals (refine Go ?_)
    all_goals (first
                 | (refine Br.keep ?_)
                 | (obtain ⟨⟨n1, v1, s1⟩, hc1⟩ : ∃ y, l[k]? = some y := ⟨_, List.getElem?_eq_getElem (by omega)⟩
                    have hx23 := ri.ext
                    obtain ⟨spare, hblk⟩ := ri.blk
                    obtain ⟨ok1, hsl⟩ := hok _ (List.mem_of_getElem? hc1)
                    simp only at ok1 hsl
                    obtain ⟨A1, k1, rfl, _⟩ := id ok1
                    have E3 : Ext No h h3 := hx2.trans' hx23 (fun b hb e => by omega)
                    have atb : At h3 b1 (0 + k * 2) [.bool n1, .slice A1 s1.length k1] := At.elem (xs := out ++ l.drop k) Cel.len ((At.of_block hblk).pre) (get_mid hc1 ri.len)))
    all_goals (first | (refine Br.keep ?_) | (refine WC.region ?_))
    all_goals (refine Go ?_; first | (refine Br.keep ?_) | (refine WL.step (ok_idxAddrA Tryz.underlying30 (fun w => Tryz.sizeOf87 w) rfl rfl rfl (by omega) (by first | rfl | assumption)) rfl rfl rfl ?_))
    all_goals (refine Go ?_; first | (refine Br.keep ?_) | (refine WL.ld rfl (by first | exact atb.get 1 rfl rfl | assumption | exact cell_blk (by assumption) rfl) rfl rfl rfl ?_))
    all_goals (first
                 | (refine Br.keep ?_)
                 | (refine WL.call (vs := [_]) rfl (fun a w => Tryz.call193 a w) rfl (clone_bytes s1 (ok1.ext0 E3) hsl) rfl rfl rfl ?_
                    rintro v6 h6 ⟨ho6, hx6, hf6⟩))
    all_goals (first | (refine Br.keep ?_) | (obtain ⟨A6, c6, rfl, _⟩ := ho6.slice))
    all_goals (first | (refine Br.keep ?_) | (refine WL.step (ok_idxAddrA Tryz.underlying30 (fun w => Tryz.sizeOf87 w) rfl rfl rfl (by omega) (by first | rfl | assumption)) rfl rfl rfl ?_))
    all_goals (refine Go ?_)
    all_goals (first
                 | (refine Br.keep ?_)
                 | (refine WL.stepR0 (okE_store (fun w => Tryz.sizeOf85 w) rfl rfl (hx6.obj hblk nos) (by simp [length_flat Cel.len, ri.len]; omega) rfl rfl) rfl rfl ?_
                    rintro _ h7 ⟨hb7, hx7⟩))
    all_goals (refine Gn ?_; first | (refine Br.keep ?_) | (refine Gs [(3, _), (8, _), (9, _)] ?_))
    all_goals (first | (refine Br.keep ?_) | (refine WC.region ?_))
    all_goals (refine Go ?_; first | (refine Br.keep ?_) | (exact ⟨(k + 1, out ++ [_]), ⟨rfl, rfl, rfl, trivial⟩, (by exact ri.next hc1 hx6 ho6 hf6 (fun sp e => by rw [hx6.obj hblk nos] at e; simp only [Option.some.injEq, Obj.cells.injEq, Array.mk.injEq] at e; obtain rfl := List.append_cancel_left e.1; rfl) hb7 hx7 hlt1 hsl), (by simp; omega)⟩))
    all_goals (try (refine Br.mk (i := 1000) ?_))
    all_goals (refine Gn ?_; refine WC.sr ?_; refine Go ?_; refine Gs [(2, _)] ?_; refine Gt ?_; (obtain rfl : k = l.length := by omega); exact ri.done hx2 hg1 hlt1 hnc hcm hlm)
theorem set_rw {out rest : List Rw} {r : Rw} {spare : List Value} {k o : Nat} (u : Rw) (hk : out.length = k) (ho : o = 0 + k * 1) :
    ((out ++ r :: rest).map Rw.v ++ spare).set o u.v = (out ++ [u] ++ rest).map Rw.v ++ spare := by
  have hfl : (out.map Rw.v).length = k := by simp [hk]
  subst ho
  simp only [List.map_append, List.map_cons, List.append_assoc, List.map_nil, List.cons_append, List.nil_append]
  rw [List.set_append_right _ _ (by omega), hfl]
  have : 0 + k * 1 - k = 0 := by omega
  rw [this]
  rfl
structure TabI (h2 h : Heap) (b1 : Nat) (L : List Rw) (k : Nat) (out : List Rw) : Prop where
  le : k ≤ L.length
  len : out.length = k
  pl : out.map Rw.pl = (L.take k).map Rw.pl
  blk : ∃ spare, h[b1]? = some (.cells ⟨(out ++ L.drop k).map Rw.v ++ spare⟩ 30 (0, 0))
  own : ∀ r ∈ out, Cels h r.v r.l ∧ ∀ b, CelsF r.v r.l b → h2.size ≤ b
  ext : Ext (fun b => b = b1) h2 h
theorem TabI.next {h2 h h3 h4 : Heap} {b1 k : Nat} {L out : List Rw} {r : Rw} {v : Value} {l' : List Cel} {cs : List Value} (i : TabI h2 h b1 L k out) (hc : L[k]? = some r) (x3 : Ext No h h3) (c3 : Cels h3 v l') (p3 : l'.map Cel.pl = r.l.map Cel.pl) (f3 : ∀ b, CelsF v l' b → h.size ≤ b)
    (hcs : ∀ spare, h3[b1]? = some (.cells ⟨(out ++ L.drop k).map Rw.v ++ spare⟩ 30 (0, 0)) → cs = ((out ++ L.drop k).map Rw.v ++ spare).set (0 + k * 1) v) (hb4 : h4[b1]? = some (.cells ⟨cs⟩ 30 (0, 0))) (x4 : Ext (fun b => b = b1) h3 h4) (hb : b1 < h2.size) :
    TabI h2 h4 b1 L (k + 1) (out ++ [⟨v, l'⟩]) := by
  have s0 := i.ext.size
  have s3 := x3.size
  have hkl : k < L.length := (List.getElem?_eq_some_iff.1 hc).1
  obtain ⟨spare, hblk⟩ := i.blk
  refine ⟨hkl, by simp [i.len], ?_, ⟨spare, ?_⟩, fun q hq => ?_, (i.ext.trans' x3 fun _ _ e => e.elim).trans x4⟩
  · rw [List.map_append, i.pl, List.take_add_one, hc, List.map_append]
    simp [Rw.pl, p3]
  · rw [hb4, hcs spare (x3.obj hblk nos), drop_cons hc, set_rw (⟨v, l'⟩ : Rw) i.len rfl]
  · rcases List.mem_append.1 hq with hq | hq
    · obtain ⟨q1, q2⟩ := i.own q hq
      exact ⟨(q1.ext0 x3).ext x4 fun b e eb => by have := q2 b e; omega, q2⟩
    · simp only [List.mem_singleton] at hq
      subst hq
      exact ⟨c3.ext x4 fun b e eb => by have := f3 b e; omega, fun b e => by have := f3 b e; omega⟩
theorem TabI.done {h0 h2 h : Heap} {b1 c1 : Nat} {L out : List Rw} (r : TabI h2 h b1 L L.length out) (x2 : Ext No h0 h2) (hg : h0.size ≤ b1) (hlt : b1 < h2.size) (hn : L.length ≤ c1) (hc : c1 ≤ maxLen) (hl : L.length * 24 ≤ reachBytes) :
    ∃ L', Rws h (.slice (some ⟨b1, 0, none⟩) L.length c1) L' ∧ L'.map Rw.pl = L.map Rw.pl ∧ Ext No h0 h ∧ ∀ b, RwsF (.slice (some ⟨b1, 0, none⟩) L.length c1) L' b → h0.size ≤ b := by
  obtain ⟨spare, hb⟩ := r.blk
  rw [List.drop_length, List.append_nil] at hb
  have s2 := x2.size
  have e := r.len
  refine ⟨out, ?_, by rw [r.pl, List.take_length], x2.trans' r.ext fun b hb e => by omega, ?_⟩
  · rw [← e]
    exact ⟨⟨_, _, rfl, by omega, by simp, fun _ => ⟨b1, 0, rfl, lt_of_some hb, (At.of_block hb).pre⟩⟩, ⟨by omega, _, _, rfl, hc⟩, fun q hq => (r.own q hq).1⟩
  · rintro b (⟨_, e⟩ | ⟨q, hq, e⟩)
    · simp only [Value.ownBlock, Option.some.injEq] at e; omega
    · have := (r.own q hq).2 b e; omega
theorem one_rws {h : Heap} {L : List Rw} (hl : ∀ r ∈ L, Cels h r.v r.l) : ∀ v ∈ L.map Rw.v, v.oneCell' = true := by
  intro v hv
  obtain ⟨r, hr, rfl⟩ := List.mem_map.1 hv
  obtain ⟨_, ⟨_, _, _, e, _⟩, _⟩ := hl r hr
  rw [e]; rfl
set_option maxHeartbeats 2000000 in
set_option maxRecDepth 100000 in
theorem table_port {h : Heap} {v : Value} (L : List Rw) (hc : Rws h v L) :
    CallsH Tryz.prog 143 ⟨[v]⟩ h fun u h' => ∃ L', Rws h' u L' ∧ L'.map Rw.pl = L.map Rw.pl ∧ Ext No h h' ∧ ∀ b, RwsF u L' b → h.size ≤ b := by
  obtain ⟨hr, ⟨hlm, A, c, rfl, hcap⟩, hok⟩ := hc
  have hlm' := hlm
  unfold reachBytes at hlm'
  have h1 := one_rws hok
  by_cases h0 : L = []
  · subst h0
    refine calls [(0, _)] Tryz.func143 rfl Tryz.ntmps143 rfl ⟨rfl, trivial⟩ ?_
    all_goals (refine WC.sr ?_; refine Go ?_; refine WC.sr ?_; refine Go ?_; refine WL.call (vs := [_]) rfl (fun a w => Tryz.call189 a w) rfl (clone_rows hr h1 hlm) rfl rfl rfl ?_; rintro v2 h2 ⟨ho2, hx2, hf2⟩; obtain ⟨A2, c2, rfl, hc2⟩ := ho2.cap'; refine Go ?_; refine Gs [(3, _)] ?_; refine WC.seq ?_; refine WC.sr ?_; refine Go ?_; refine WC.block ?_)
    -- loop 0: slots that turn [9], that stay [3, 8]
    all_goals (refine WC.loopG (X := Unit) (fun x => ([(9, In (0 : Int))] : Fr)) [(3, _), (8, _)] (fun _ h' => h' = h2) (fun _ => 0) (()) ⟨rfl, rfl, rfl, trivial⟩ (by exact rfl) ?_; rintro _ h9 hz; subst h9; refine WC.sub [(9, _), (3, _), (8, _)] ⟨rfl, rfl, rfl, trivial⟩ ?_; refine WC.sr ?_; refine Go ?_; refine WC.seq ?_; refine goC 1 2 ?_ TT.mk; refine goB 2 ?_; refine WC.exit ?_; repeat' (with_reducible first | refine thenP_x ?_ | refine blockP_miss rfl ?_ | refine blockP_hit ?_ | refine blockP_n ?_ | refine thenP_n ?_))
    all_goals (refine Br.out (i := 1000) ?_; refine Gn ?_; refine Br.keep ?_; refine Br.keep ?_; refine Br.keep ?_; refine Go ?_; refine Br.keep ?_; refine Go ?_; refine Br.keep ?_; refine Br.keep ?_; refine Br.keep ?_; refine Br.keep ?_; refine Br.keep ?_; refine Gn ?_; refine Br.keep ?_; refine Br.keep ?_; refine Go ?_; refine Br.keep ?_; try (refine Br.mk (i := 1000) ?_))
    all_goals (refine Gn ?_; refine WC.sr ?_; refine Go ?_; refine Gs [(2, _)] ?_; refine Gt ?_; exact ⟨[], ⟨ho2.rd, ⟨by simp, _, _, rfl, hc2⟩, by simp⟩, rfl, hx2, by rintro b (⟨e, _⟩ | ⟨_, e, _⟩); (simp at e); (simp at e)⟩)
  · have hpos : 0 < L.length := List.length_pos_iff.2 h0
    refine calls [(0, _)] Tryz.func143 rfl Tryz.ntmps143 rfl ⟨rfl, trivial⟩ ?_
    all_goals (refine WC.sr ?_; refine Go ?_; refine WC.sr ?_; refine Go ?_; refine WL.call (vs := [_]) rfl (fun a w => Tryz.call189 a w) rfl (clone_rows hr h1 hlm) rfl rfl rfl ?_; rintro v2 h2 ⟨ho2, hx2, hf2⟩; obtain ⟨b1, c1, cs, rfl, hb1, hnc, hcm, hcl, hct⟩ := ho2.block hpos; have hlt1 := lt_of_some hb1; have hg1 := hf2 b1 rfl; have hi0 : TabI h2 h2 b1 L 0 [] := ⟨Nat.zero_le _, rfl, rfl, ⟨cs.drop (L.length * 1), by rw [List.nil_append, List.drop_zero, ← hct, List.take_append_drop]; exact hb1⟩, by simp, .refl _ _⟩; refine Go ?_; refine Gs [(3, _)] ?_; refine WC.seq ?_; refine WC.sr ?_; refine Go ?_; refine WC.block ?_)
    -- loop 0: slots that turn [9], that stay [3, 8]
    all_goals (refine WC.loopG (X := Nat × List Rw) (fun x => ([(9, In (x.1 : Int))] : Fr)) [(3, _), (8, _)] (fun x h' => TabI h2 h' b1 L x.1 x.2) (fun x => L.length - x.1) ((0, [])) ⟨rfl, rfl, rfl, trivial⟩ (by exact hi0) ?_)
    all_goals (rintro ⟨k, out⟩ h3 ri
               simp only at ri
               have hk := ri.le)
    all_goals (refine WC.sub [(9, _), (3, _), (8, _)] ⟨rfl, rfl, rfl, trivial⟩ ?_; dsimp only)
    all_goals (refine WC.sr ?_; refine Go ?_; refine WC.seq ?_; refine goC 1 2 (Hb.mk fun hb => ?_) (Hb.mk fun hb => ?_))
    all_goals (first | (fail_if_success refine goB 1 ?_) | (
    refine goB 1 ?_
    all_goals (refine WC.skip ?_)
    skip))
    all_goals (first | (fail_if_success refine goB 2 ?_) | (
    refine goB 2 ?_
    all_goals (refine WC.exit ?_; repeat' (with_reducible first | refine thenP_x ?_ | refine blockP_miss rfl ?_ | refine blockP_hit ?_ | refine blockP_n ?_ | refine thenP_n ?_))
    all_goals (refine Br.out (i := 1000) ?_)
    skip))
    all_goals (refine Gn ?_; first | (refine Br.keep ?_) | (refine WC.seq ?_))
    all_goals (first | (refine Br.keep ?_) | (refine WC.block ?_))
    all_goals (first | (refine Br.keep ?_) | (refine WC.sr ?_))
    all_goals (refine Go ?_)
    all_goals (first
                 | (refine Br.keep ?_)
                 | (obtain ⟨⟨v1, l1⟩, hc1⟩ : ∃ y, L[k]? = some y := ⟨_, List.getElem?_eq_getElem (by omega)⟩
                    have hx23 := ri.ext
                    obtain ⟨spare, hblk⟩ := ri.blk
                    have ok1 := hok _ (List.mem_of_getElem? hc1)
                    simp only at ok1
                    have E3 : Ext No h h3 := hx2.trans' hx23 (fun b hb e => by omega)
                    have atb : cell h3 ⟨b1, 0 + k * 1, none⟩ = some v1 := ((At.of_block hblk).pre).get k (by rw [List.getElem?_map, get_mid hc1 ri.len]; exact rfl) (by omega)))
    all_goals (first | (refine Br.keep ?_) | (refine WC.region ?_))
    all_goals (refine Go ?_; first | (refine Br.keep ?_) | (refine WL.step (ok_idxAddrA Tryz.underlying145 (fun w => Tryz.sizeOf30 w) rfl rfl rfl (by omega) (by first | rfl | assumption)) rfl rfl rfl ?_))
    all_goals (first | (refine Br.keep ?_) | (refine WL.ld rfl (by first | exact atb | assumption | exact cell_blk (by assumption) rfl) rfl rfl rfl ?_))
    all_goals (first
                 | (refine Br.keep ?_)
                 | (refine WL.call (vs := [_]) rfl (fun a w => Tryz.call177 a w) rfl (row_port l1 (ok1.ext0 E3)) rfl rfl rfl ?_
                    rintro v6 h6 ⟨l6, hc6, hp6, hx6, hf6⟩))
    all_goals (first | (refine Br.keep ?_) | (obtain ⟨A6, c6, rfl⟩ : ∃ A c, v6 = .slice A l6.length c := (by obtain ⟨_, ⟨_, A, c, e, _⟩, _⟩ := hc6; exact ⟨A, c, e⟩)))
    all_goals (first | (refine Br.keep ?_) | (refine WL.step (ok_idxAddrA Tryz.underlying145 (fun w => Tryz.sizeOf30 w) rfl rfl rfl (by omega) (by first | rfl | assumption)) rfl rfl rfl ?_))
    all_goals (first
                 | (refine Br.keep ?_)
                 | (refine WL.stepR0 (okE_store (fun w => Tryz.sizeOf30 w) rfl rfl (hx6.obj hblk nos) (by simp [ri.len]; omega) rfl rfl) rfl rfl ?_
                    rintro _ h7 ⟨hb7, hx7⟩))
    all_goals (refine Gn ?_; first | (refine Br.keep ?_) | (refine Gs [(3, _), (8, _), (9, _)] ?_))
    all_goals (first | (refine Br.keep ?_) | (refine WC.region ?_))
    all_goals (refine Go ?_; first | (refine Br.keep ?_) | (exact ⟨(k + 1, out ++ [_]), ⟨rfl, rfl, rfl, trivial⟩, (by exact ri.next hc1 hx6 hc6 hp6 hf6 (fun sp e => by rw [hx6.obj hblk nos] at e; simp only [Option.some.injEq, Obj.cells.injEq, Array.mk.injEq] at e; obtain rfl := List.append_cancel_left e.1; rfl) hb7 hx7 hlt1), (by simp; omega)⟩))
    all_goals (try (refine Br.mk (i := 1000) ?_))
    all_goals (refine Gn ?_; refine WC.sr ?_; refine Go ?_; refine Gs [(2, _)] ?_; refine Gt ?_; (obtain rfl : k = L.length := by omega); exact ri.done hx2 hg1 hlt1 hnc hcm hlm)
end Go.Proofs.YtbokngiajfdanaaGreatDoor


/-
  PORTAL (layer 28): a set of portals: Put, Ran, Fetch; what the document compares.
-/
namespace Go.Proofs.YtbokngiajfdanaaGreatDoor
open Go Go.RK

/-- A portal's data. -/
structure PD where
  text : List UInt8
  vo : Value
  oids : List Int
  vp : Value
  ps : List Cel
  vr : Value
  rs : List Rw
  ran : Bool
  over : Bool
def PD.cells (p : PD) : List Value := [St p.text, p.vo, p.vp, p.vr, .bool p.ran, .bool p.over]
structure PD.ok (h : Heap) (p : PD) : Prop where
  oids : Rd h p.vo 1 p.oids.length (ints p.oids)
  lo : p.oids.length * 8 ≤ reachBytes
  ps : Cels h p.vp p.ps
  rs : Rws h p.vr p.rs
def PD.F (p : PD) (b : Nat) : Prop := (0 < p.oids.length ∧ p.vo.ownBlock = some b) ∨ CelsF p.vp p.ps b ∨ RwsF p.vr p.rs b
def PD.pl (p : PD) := (p.text, p.oids, p.ps.map Cel.pl, p.rs.map Rw.pl, p.ran, p.over)
theorem PD.ok.ext {h h' : Heap} {S : Nat → Prop} {p : PD} (k : p.ok h) (a : Ext S h h') (hS : ∀ b, p.F b → ¬ S b) : p.ok h' :=
  ⟨k.oids.ext' a fun b h1 h2 => hS b (.inl ⟨h1, h2⟩), k.lo, k.ps.ext a fun b hb => hS b (.inr (.inl hb)), k.rs.ext a fun b hb => hS b (.inr (.inr hb))⟩
theorem PD.ok.lt {h : Heap} {p : PD} {b : Nat} (k : p.ok h) (hb : p.F b) : b < h.size := by
  rcases hb with ⟨h1, h2⟩ | hb | hb
  · exact k.oids.lt h1 h2
  · exact k.ps.lt hb
  · exact k.rs.lt hb
theorem own_end {h h1 h2 h3 h4 h5 h6 h7 h8 h9 : Heap} {b1 b2 c3 : Nat} {A3 : Option Addr} {text : List UInt8} {oids : List Int} {ps l5 : List Cel} {rs L6 : List Rw} {v5 v6 : Value} {ran over : Bool} {T0 : TypeId}
    (_hb9 : h9[b2]? = some (.cells ⟨[St text, .slice A3 oids.length c3, v5, v6, .bool ran, .bool over]⟩ T0 (0, 0)))
    (hx3 : Ext No h2 h3) (hx4 : Ext (fun k => k = b1) h3 h4) (hx5 : Ext No h4 h5) (hx6 : Ext No h5 h6) (hx7 : Ext (fun k => k = b1) h6 h7) (hx8 : Ext (fun k => k = b1) h7 h8) (hx9 : Ext (fun k => k = b2) h8 h9) (E4 : Ext No h h4)
    (ho3 : Own h3 (.slice A3 oids.length c3) 3 1 oids.length (ints oids)) (hf3 : ∀ k, (Value.slice A3 oids.length c3).ownBlock = some k → h2.size ≤ k) (hlo : oids.length * 8 ≤ reachBytes)
    (hc5 : Cels h5 v5 l5) (hp5 : l5.map Cel.pl = ps.map Cel.pl) (hf5 : ∀ b, CelsF v5 l5 b → h4.size ≤ b) (hc6 : Rws h6 v6 L6) (hp6 : L6.map Rw.pl = rs.map Rw.pl) (hf6 : ∀ b, RwsF v6 L6 b → h5.size ≤ b)
    (hlt1 : b1 < h1.size) (hlt2 : b2 < h2.size) (hg1 : h.size ≤ b1) (hg2 : h1.size ≤ b2) (h12 : h1.size ≤ h2.size) :
    ∃ p' : PD, Value.agg ⟨[St text, .slice A3 oids.length c3, v5, v6, .bool ran, .bool over]⟩ = .agg ⟨p'.cells⟩ ∧ p'.ok h9 ∧ p'.pl = (text, oids, ps.map Cel.pl, rs.map Rw.pl, ran, over) ∧ Ext No h h9 ∧ ∀ b, p'.F b → h.size ≤ b := by
  have s3 := hx3.size
  have s4 := hx4.size
  have s5 := hx5.size
  have X69 : Ext (fun b => b = b1 ∨ b = b2) h6 h9 := ((hx7.mono fun _ _ e => .inl e).trans (hx8.mono fun _ _ e => .inl e)).trans (hx9.mono fun _ _ e => .inr e)
  have X59 : Ext (fun b => b = b1 ∨ b = b2) h5 h9 := (hx6.mono fun _ _ e => e.elim).trans X69
  have X39 : Ext (fun b => b = b1 ∨ b = b2) h3 h9 := ((hx4.mono fun _ _ e => .inl e).trans (hx5.mono fun _ _ e => e.elim)).trans X59
  have X49 : Ext (fun b => b = b1 ∨ b = b2) h4 h9 := (hx5.mono fun _ _ e => e.elim).trans X59
  refine ⟨⟨text, .slice A3 oids.length c3, oids, v5, l5, v6, L6, ran, over⟩, rfl, ⟨?_, hlo, ?_, ?_⟩, by simp [PD.pl, hp5, hp6], E4.trans' X49 fun b hb e => by omega, ?_⟩
  · exact ho3.rd.ext' X39 fun b _ e eb => by have := hf3 b e; omega
  · exact hc5.ext X59 fun b e eb => by have := hf5 b e; omega
  · exact hc6.ext X69 fun b e eb => by have := hf6 b e; omega
  · rintro b (⟨_, e⟩ | e | e)
    · have := hf3 b e; omega
    · have := hf5 b e; omega
    · have := hf6 b e; omega
set_option maxHeartbeats 2000000 in
set_option maxRecDepth 100000 in
theorem own_port {h : Heap} (p : PD) (hp : p.ok h) :
    CallsH Tryz.prog 134 ⟨[.agg ⟨p.cells⟩]⟩ h fun u h' => ∃ p' : PD, u = .agg ⟨p'.cells⟩ ∧ p'.ok h' ∧ p'.pl = p.pl ∧ Ext No h h' ∧ ∀ b, p'.F b → h.size ≤ b := by
  obtain ⟨text, vo, oids, vp, ps, vr, rs, ran, over⟩ := p
  obtain ⟨ho, hlo, hps, hrs⟩ := hp
  simp only at ho hlo hps hrs
  obtain ⟨Ao, co, rfl, _⟩ := id ho
  obtain ⟨_, ⟨_, Ap, cp, rfl, _⟩, _⟩ := id hps
  obtain ⟨_, ⟨_, Ar, cr, rfl, _⟩, _⟩ := id hrs
  dsimp only [PD.cells]
  refine calls [(0, _)] Tryz.func134 rfl Tryz.ntmps134 rfl ⟨rfl, trivial⟩ ?_
  all_goals (refine WC.sr ?_; refine WL.stepR (okE_box rfl) rfl rfl rfl ?_; rintro _ h1 ⟨b1, rfl, hg1, hb1, hx1⟩; refine WL.stepR (okE_alloc (fun w => Tryz.zeroValue147 w)) rfl rfl rfl ?_; rintro _ h2 ⟨b2, rfl, hg2, hb2, hx2⟩; have hb1' := hx2.obj hb1 nos; have hlt1 := lt_of_some hb1; have hx12 := hx1.trans hx2; refine Gn ?_; refine WC.sr ?_; refine Go ?_; refine Ld ?_; refine WL.call (vs := [_]) rfl (fun a w => Tryz.call81 a w) rfl (clone_ints oids (ho.ext0 hx12) hlo) rfl rfl rfl ?_; rintro v3 h3 ⟨ho3, hx3, hf3⟩; obtain ⟨A3, c3, rfl, _⟩ := ho3.slice; have hb13 := hx3.obj hb1' nos; refine Go ?_; refine WL.stepR0 (okE_store (fun w => Tryz.sizeOf29 w) rfl rfl hb13 (Nat.le_of_ble_eq_true rfl) rfl rfl) rfl rfl ?_; rintro _ h4 ⟨hb14, hx4⟩; have hb14 : h4[b1]? = some (.cells ⟨[St text, .slice A3 oids.length c3, .slice Ap ps.length cp, .slice Ar rs.length cr, .bool ran, .bool over]⟩ 147 (0, 0)) := hb14; have E4 : Ext No h h4 := (hx12.trans hx3).trans' hx4 (fun b hb e => by omega); refine Gn ?_; refine Gs [(1, _), (2, _)] ?_; refine WC.seq ?_; refine WC.drawH (fun h' => h'[b1]? = some (.cells ⟨[St text, .slice A3 oids.length c3, .slice Ap ps.length cp, .slice Ar rs.length cr, .bool ran, .bool over]⟩ 147 (0, 0))) 7 10 rfl fol ?_; refine WH.tk 0 rfl (fun hq hC => ok_fieldAddr rfl Tryz.underlying147 rfl (fun w => Tryz.sizeOf30 w)) rfl rfl rfl ?_; refine WH.tk 1 rfl (fun hq hC => ok_load (fun w => Tryz.isAgg30 w) rfl (cell_blk hC rfl)) rfl rfl rfl ?_; refine WH.tk 3 rfl (fun hq hC => ok_fieldAddr rfl Tryz.underlying147 rfl (fun w => Tryz.sizeOf145 w)) rfl rfl rfl ?_; refine WH.tk 4 rfl (fun hq hC => ok_load (fun w => Tryz.isAgg145 w) rfl (cell_blk hC rfl)) rfl rfl rfl ?_; refine WH.one 2 (by kernel_rfl) ?_; refine Comes1.call (vs := [_]) rfl rfl (fun a w => Tryz.call177 a w) rfl (row_port ps (hps.ext0 E4)) rfl rfl rfl ?_ (fun _ => by kernel_rfl); rintro v5 h5 ⟨l5, hc5, hp5, hx5, hf5⟩; refine ⟨fun _ => hx5.obj hb14 nos, ?_⟩; have hb15 := hx5.obj hb14 nos; obtain ⟨A5, c5, rfl⟩ : ∃ A c, v5 = .slice A l5.length c := (by obtain ⟨_, ⟨_, A, c, e, _⟩, _⟩ := hc5; exact ⟨A, c, e⟩); refine WH.tk 6 rfl (fun hq hC => ok_fieldAddr rfl Tryz.underlying147 rfl (fun w => Tryz.sizeOf30 w)) rfl rfl rfl ?_; refine WH.one 5 (by kernel_rfl) ?_; refine Comes1.call (vs := [_]) rfl rfl (fun a w => Tryz.call143 a w) rfl (table_port rs (hrs.ext0 (E4.trans hx5))) rfl rfl rfl ?_ (fun _ => by kernel_rfl); rintro v6 h6 ⟨L6, hc6, hp6, hx6, hf6⟩; refine ⟨fun _ => hx6.obj hb15 nos, ?_⟩; have hb16 := hx6.obj hb15 nos; obtain ⟨A6, c6, rfl⟩ : ∃ A c, v6 = .slice A L6.length c := (by obtain ⟨_, ⟨_, A, c, e, _⟩, _⟩ := hc6; exact ⟨A, c, e⟩); refine WH.one 7 (by kernel_rfl) ?_; refine Comes1.run0 rfl (okE_store (fun w => Tryz.sizeOf30 w) rfl rfl hb16 (Nat.le_of_ble_eq_true rfl) rfl rfl) rfl rfl ?_ (fun _ => by kernel_rfl); rintro _ h7 ⟨hb17, hx7⟩; refine ⟨fun e => (by cases e), ?_⟩; refine WH.one 8 (by kernel_rfl) ?_; refine Comes1.run rfl (OkP.r (ok_fieldAddr rfl Tryz.underlying147 rfl (fun w => Tryz.sizeOf145 w))) rfl rfl rfl ?_ (fun _ => by kernel_rfl); rintro _ hz ⟨rfl, _⟩; subst hz; refine ⟨fun e => (by cases e), ?_⟩)
  all_goals (refine WH.one 9 (by kernel_rfl) ?_; refine Comes1.run0 rfl (okE_store (fun w => Tryz.sizeOf145 w) rfl rfl hb17 (Nat.le_of_ble_eq_true rfl) rfl rfl) rfl rfl ?_ (fun _ => by kernel_rfl); rintro _ h8 ⟨hb18, hx8⟩; refine ⟨fun e => (by cases e), ?_⟩; have hlt2 := lt_of_some hb2; (have hn12 : b2 ≠ b1 := by omega); have hb28 := hx8.obj (hx7.obj (hx6.obj (hx5.obj (hx4.obj (hx3.obj hb2 nos) hn12) nos) nos) hn12) hn12; refine WH.done (by kernel_rfl) ?_; refine Gn ?_; refine Gs [(1, _), (2, _)] ?_; refine WC.sr ?_; refine WL.step (ok_loadN (fun w => Tryz.isAgg147 w) (fun w => Tryz.sizeOf147 w) rfl rfl (by exact At.of_block hb18)) rfl rfl rfl ?_; refine WL.stepR0 (okE_storeW (fun w => Tryz.sizeOf147 w) rfl rfl rfl hb28 rfl (by simp [Value.oneCell'])) rfl rfl ?_; rintro _ h9 ⟨hb9, hx9⟩; refine Gn ?_; refine WC.ret ?_; repeat' (with_reducible first | refine thenP_r ?_ | refine blockP_r ?_))
  all_goals (refine retP_1 _ ⟨⟨_, rfl, ld_blk (fun w => Tryz.isAgg147 w) (fun w => Tryz.sizeOf147 w) (by assumption) rfl⟩, trivial⟩ ?_; exact own_end (text := text) (ran := ran) (over := over) hb9 hx3 hx4 hx5 hx6 hx7 hx8 hx9 E4 ho3 hf3 hlo hc5 hp5 hf5 hc6 hp6 hf6 hlt1 hlt2 hg1 hg2 hx2.size)
end Go.Proofs.YtbokngiajfdanaaGreatDoor


/-
  PORTAL (layer 28): a set that holds one portal: New, Put, Ran, Fetch.
-/
namespace Go.Proofs.YtbokngiajfdanaaGreatDoor
open Go Go.RK

set_option maxHeartbeats 2000000 in
set_option maxRecDepth 100000 in
theorem new_port {h : Heap} : CallsH Tryz.prog 20 ⟨[]⟩ h fun u h' => ∃ b m, u = .pointer (some ⟨b, 0, none⟩) ∧ h'[b]? = some (.cells ⟨[.map (some m)]⟩ 98 (0, 0)) ∧ Mp .string St h' m ([] : List (List UInt8 × Value)) ∧ h.size ≤ b ∧ h.size ≤ m ∧ Ext No h h' := by
  refine calls [] Tryz.func20 rfl Tryz.ntmps20 rfl trivial ?_
  all_goals (refine WC.sr ?_; refine Go ?_; refine WC.sr ?_; refine WL.stepR okE_makeMap rfl rfl rfl ?_; rintro _ h1 ⟨m1, rfl, hgm, hm1, hxm⟩; refine WL.step (ok_buildF (vs := [_]) (cs := [_]) (fun | [a0] => [a0] | _ => []) rfl rfl (by kernel_rfl)) rfl rfl rfl ?_; refine WL.stepR (okE_box rfl) rfl rfl rfl ?_; rintro _ h2 ⟨b1, rfl, hg1, hb1, hx1⟩; refine Go ?_; refine Gt ?_; exact ⟨_, _, rfl, hb1, ⟨_, _, hx1.obj hm1 id, MapKept.stamped_empty 0, rfl⟩, Nat.le_trans hxm.size hg1, hgm, hxm.trans hx1⟩)

/-- A set at block b, its map at m, its one portal of that name at p, with that data. -/
structure P1 (h : Heap) (b m p : Nat) (name : List UInt8) (d : PD) : Prop where
  set : h[b]? = some (.cells ⟨[.map (some m)]⟩ 98 (0, 0))
  map : Mp .string St h m [(name, .pointer (some ⟨p, 0, none⟩))]
  blk : h[p]? = some (.cells ⟨d.cells⟩ 147 (0, 0))
  ok : d.ok h
  apart : ∀ k, d.F k → k ≠ p
theorem P1.ne {h : Heap} {b m p : Nat} {name : List UInt8} {d : PD} (r : P1 h b m p name d) : b ≠ p ∧ m ≠ p := by
  constructor
  · rintro rfl
    have := r.set
    rw [r.blk] at this
    simp only [Option.some.injEq, Obj.cells.injEq] at this
    exact absurd this.2.1 (by decide)
  · rintro rfl
    obtain ⟨_, _, e, _⟩ := r.map
    rw [r.blk] at e
    cases e
theorem P1.ext {h h' : Heap} {b m p : Nat} {name : List UInt8} {d : PD} {S : Nat → Prop} (r : P1 h b m p name d) (a : Ext S h h') (h1 : ¬ S b) (h2 : ¬ S m) (h3 : ¬ S p) (h4 : ∀ k, d.F k → ¬ S k) : P1 h' b m p name d :=
  ⟨a.obj r.set h1, r.map.ext a h2, a.obj r.blk h3, r.ok.ext a h4, r.apart⟩
theorem pd_one {h : Heap} {d : PD} (k : d.ok h) : ∀ v ∈ d.cells, v.oneCell' = true := by
  obtain ⟨_, _, e1, _⟩ := k.oids
  obtain ⟨_, ⟨_, _, _, e2, _⟩, _⟩ := k.ps
  obtain ⟨_, ⟨_, _, _, e3, _⟩, _⟩ := k.rs
  intro v hv
  simp only [PD.cells, List.mem_cons, List.not_mem_nil, or_false] at hv
  rcases hv with rfl | rfl | rfl | rfl | rfl | rfl
  · rfl
  · rw [e1]; rfl
  · rw [e2]; rfl
  · rw [e3]; rfl
  · rfl
  · rfl
theorem rd_shut {h : Heap} {A : Option Addr} {n c sz : Nat} {xs : List Value} (r : Rd h (.slice A n c) sz n xs) : Rd h (.slice A n n) sz n xs := by
  obtain ⟨A', c', e, _, hl, hp⟩ := r
  simp only [Value.slice.injEq] at e
  obtain ⟨rfl, _, rfl⟩ := e
  exact ⟨A, n, rfl, Nat.le_refl _, hl, hp⟩
theorem rws_take {h : Heap} {A : Option Addr} {c n : Nat} {L : List Rw} (r : Rws h (.slice A L.length c) L) (hn : n ≤ L.length) : Rws h (.slice A n n) (L.take n) ∧ ∀ k, RwsF (.slice A n n) (L.take n) k → RwsF (.slice A L.length c) L k := by
  obtain ⟨r1, ⟨r2, A', c', e, hc⟩, r3⟩ := r
  simp only [Value.slice.injEq] at e
  obtain ⟨rfl, _, rfl⟩ := e
  have hl : (L.take n).length = n := by rw [List.length_take]; omega
  have hcn : c ≥ L.length := by
    obtain ⟨_, _, e, hc, _⟩ := r1
    simp only [Value.slice.injEq] at e
    omega
  refine ⟨⟨?_, ⟨by rw [hl]; omega, _, _, by rw [hl], by omega⟩, fun q hq => r3 q (List.mem_of_mem_take hq)⟩, ?_⟩
  · have := rd_shut (r1.take hn)
    rw [Nat.mul_one, ← List.map_take] at this
    rw [hl]
    exact this
  · rintro k (⟨h1, h2⟩ | ⟨q, hq, h2⟩)
    · refine .inl ⟨by omega, ?_⟩
      cases A with
      | none => cases h2
      | some a => exact h2
    · exact .inr ⟨q, List.mem_of_mem_take hq, h2⟩
theorem rws_drop {h : Heap} {A : Option Addr} {c n : Nat} {L : List Rw} (r : Rws h (.slice A L.length c) L) (hn : n ≤ L.length) : Rws h (.slice (if c = n then A else A.map (·.add (n * 1))) (L.length - n) (c - n)) (L.drop n) ∧ ∀ k, RwsF (.slice (if c = n then A else A.map (·.add (n * 1))) (L.length - n) (c - n)) (L.drop n) k → RwsF (.slice A L.length c) L k := by
  obtain ⟨r1, ⟨r2, A', c', e, hc⟩, r3⟩ := r
  simp only [Value.slice.injEq] at e
  obtain ⟨rfl, _, rfl⟩ := e
  have hl : (L.drop n).length = L.length - n := List.length_drop
  refine ⟨⟨?_, ⟨by rw [hl]; omega, _, _, by rw [hl], by omega⟩, fun q hq => r3 q (List.mem_of_mem_drop hq)⟩, ?_⟩
  · have := r1.drop hn
    rw [Nat.mul_one, ← List.map_drop] at this
    rw [hl]
    simpa using this
  · rintro k (⟨h1, h2⟩ | ⟨q, hq, h2⟩)
    · refine .inl ⟨by omega, ?_⟩
      obtain ⟨_, _, e, hcn, _⟩ := r1
      simp only [Value.slice.injEq] at e
      rw [if_neg (by omega)] at h2
      cases A with
      | none => cases h2
      | some a =>
        simp only [Option.map_some, Value.ownBlock, Option.some.injEq] at h2 ⊢
        rw [← h2]
        unfold Addr.add
        split <;> rfl
    · exact .inr ⟨q, List.mem_of_mem_drop hq, h2⟩
def PD0 : PD := ⟨[], .slice none 0 0, [], .slice none 0 0, [], .slice none 0 0, [], false, false⟩
theorem cels_zero (h : Heap) (A : Option Addr) : Cels h (.slice A 0 0) [] := ⟨⟨_, _, rfl, Nat.le_refl _, rfl, fun h => absurd h (by decide)⟩, ⟨by simp, _, _, rfl, by decide⟩, by simp⟩
theorem pd0_ok (h : Heap) : PD0.ok h := ⟨Rd.nil _ _, by simp [PD0], cels_zero h _, ⟨Rd.nil _ _, ⟨by simp [PD0], _, _, rfl, by decide⟩, by simp [PD0]⟩⟩
end Go.Proofs.YtbokngiajfdanaaGreatDoor


/-
  ROWS THAT ARE TURNED IN PLACE BY THE LIBRARY's SORT AND COMPACT. No program is named here.
-/
namespace Go.RK
open Go

section
variable {h : Heap}
/-- What the library's contracts ask of a row of one's own. -/
theorem Own.holds {α : Type} [Inhabited α] (enc : α → Value) {w : World} {g n cap : Nat} {e : TypeId} {l : List α} (ho : Own w.heap (.slice (some ⟨g, 0, none⟩) n cap) e 1 n (l.map enc)) : Go.Sort.Holds enc w g 0 l.toArray := by
  obtain ⟨hl, ⟨hv, _⟩ | ⟨g0, cap0, cur, hv, hg, hn, hc, hs, htk⟩⟩ := ho
  · cases hv
  · simp only [Value.slice.injEq, Option.some.injEq, Addr.mk.injEq] at hv
    obtain ⟨⟨rfl, _, _⟩, _, rfl⟩ := hv
    intro j hj
    have hj' : j < l.length := by simpa using hj
    refine ⟨?_, ?_⟩
    · rw [cell_eq, cell_of hg, Nat.zero_add]
      have e1 : (cur.toList.take (n * 1))[j]? = (l.map enc)[j]? := by rw [htk]
      have e2 : j < n * 1 := by
        have := congrArg List.length htk
        simp at this hl
        omega
      rw [List.getElem?_take, if_pos e2, List.getElem?_map, List.getElem?_eq_getElem hj'] at e1
      rw [← Array.getElem?_toList, e1]
      simp [hj']
    · unfold World.frozen?
      simp only [hg]
      simp
theorem sorted_heap {α : Type} [Inhabited α] (enc : α → Value) {w : World} {g n cap q : Nat} {e : TypeId} {l l' : List α} {os : Array Obj} (ho : Own w.heap (.slice (some ⟨g, 0, none⟩) n cap) e 1 n (l.map enc)) (hl : l'.length = n) :
    Own (Go.Sort.grow (Go.Sort.putRow enc (Go.Sort.ahead w q) g 0 l'.toArray) os).heap (.slice (some ⟨g, 0, none⟩) n cap) e 1 n (l'.map enc) ∧ Ext (fun k => k = g) w.heap (Go.Sort.grow (Go.Sort.putRow enc (Go.Sort.ahead w q) g 0 l'.toArray) os).heap := by
  obtain ⟨hl0, ⟨hv, _⟩ | ⟨g0, cap0, cur, hv, hg, hn, hc, hs, htk⟩⟩ := ho
  · cases hv
  · simp only [Value.slice.injEq, Option.some.injEq, Addr.mk.injEq] at hv
    obtain ⟨⟨rfl, _, _⟩, _, rfl⟩ := hv
    have hlt := lt_of_some hg
    have hm : (w.heap.modify g (Go.Sort.onCells (Go.Sort.putCells enc 0 l'.toArray)) ++ os)[g]? = some (.cells (Go.Sort.putCells enc 0 l'.toArray cur) e (0, 0)) := by
      rw [Array.getElem?_append, if_pos (by simpa using hlt), Array.getElem?_modify, if_pos rfl, hg]
      rfl
    refine ⟨⟨by simp [hl], .inr ⟨g, cap, _, rfl, hm, hn, hc, by simp [Go.Sort.putCells, hs], ?_⟩⟩, ⟨by show w.heap.size ≤ (w.heap.modify g _ ++ os).size; simp, fun b hb hne => ?_⟩⟩
    · apply List.ext_getElem?
      intro j
      simp only [Nat.mul_one, List.getElem?_take, Array.getElem?_toList, Go.Sort.putCells, Array.getElem?_mapIdx, List.getElem?_map]
      by_cases hj : j < n
      · have hjc : j < cur.size := by omega
        have hjl : j < l'.length := by omega
        simp [hj, hjc, hjl]
      · rw [if_neg hj, List.getElem?_eq_none (by omega)]
        rfl
    · show (w.heap.modify g _ ++ os)[b]? = _
      rw [Array.getElem?_append, if_pos (by simpa using hb), Array.getElem?_modify, if_neg (fun e => hne e.symm)]
theorem Own.slice' {v : Value} {e : TypeId} {sz n : Nat} {xs : List Value} (ho : Own h v e sz n xs) : (v = .slice none 0 0 ∧ n = 0) ∨ ∃ g cap, v = .slice (some ⟨g, 0, none⟩) n cap := by
  obtain ⟨_, h0 | ⟨g, cap, cur, hv, _⟩⟩ := ho
  · exact .inl h0
  · exact .inr ⟨g, cap, hv⟩
end
end Go.RK

/-
  PORTAL (layer 28): one portal among those of a set: found by its name.
-/
namespace Go.Proofs.YtbokngiajfdanaaGreatDoor
open Go Go.RK

/-- A set at block b, its map at m, of entries es; its portal of that name at p, with that data. -/
structure Pe (h : Heap) (b m : Nat) (es : List (List UInt8 × Value)) (p : Nat) (name : List UInt8) (d : PD) : Prop where
  set : h[b]? = some (.cells ⟨[.map (some m)]⟩ 98 (0, 0))
  map : Mp .string St h m es
  look : alook es name = some (.pointer (some ⟨p, 0, none⟩))
  blk : h[p]? = some (.cells ⟨d.cells⟩ 147 (0, 0))
  ok : d.ok h
  apart : ∀ k, d.F k → k ≠ p
theorem Pe.ne {es : List (List UInt8 × Value)} {h : Heap} {b m p : Nat} {name : List UInt8} {d : PD} (r : Pe h b m es p name d) : b ≠ p ∧ m ≠ p := by
  constructor
  · rintro rfl
    have := r.set
    rw [r.blk] at this
    simp only [Option.some.injEq, Obj.cells.injEq] at this
    exact absurd this.2.1 (by decide)
  · rintro rfl
    obtain ⟨_, _, e, _⟩ := r.map
    rw [r.blk] at e
    cases e
set_option maxHeartbeats 2000000 in
set_option maxRecDepth 100000 in
theorem of_e {es : List (List UInt8 × Value)} {h : Heap} {b m p : Nat} {name : List UInt8} {d : PD} (r : Pe h b m es p name d) :
    CallsH Tryz.prog 142 ⟨[.pointer (some ⟨b, 0, none⟩), St name]⟩ h fun u h' => u = .tuple ⟨[.pointer (some ⟨p, 0, none⟩), .bool true]⟩ ∧ h' = h := by
  obtain ⟨hb, hm, hv, _⟩ := r
  refine calls [(0, _), (1, _)] Tryz.func142 rfl Tryz.ntmps142 rfl ⟨rfl, rfl, trivial⟩ ?_
  all_goals (refine WC.sr ?_; refine Go ?_; refine WC.seq ?_; refine WC.sr ?_; refine Go ?_; refine WL.step (ok_eqlPn Tryz.underlying51 rfl rfl) rfl rfl rfl ?_; refine Go ?_; refine goP 10 ?_ TT.mk; refine Gg ?_; refine WL.step (ok_nilCheck rfl) rfl rfl rfl ?_; refine Gg ?_; refine Ld ?_; refine WL.step (ok_eqlMn Tryz.underlying96 rfl rfl) rfl rfl rfl ?_; refine Go ?_; refine Gs [(0, _), (1, _), (16, _)] ?_; refine goC 1 2 ?_ TT.mk; refine goB 2 ?_; refine WC.skip ?_; refine Gn ?_; refine WC.sr ?_; refine Go ?_; refine WL.step (ok_nilCheck rfl) rfl rfl rfl ?_; refine Go ?_; refine Ld ?_; refine Go ?_; refine WL.step ((ok_lookup keyS Tryz.underlying96 Tryz.underlying9 rfl rfl (by assumption) (by assumption)).1) rfl rfl rfl ?_; refine Go ?_; refine Gs [(6, _), (7, _)] ?_; refine WC.sr ?_; refine Go ?_; refine Gs [(4, _), (5, _)] ?_; refine Gt ?_; exact ⟨rfl, rfl⟩)
set_option maxHeartbeats 2000000 in
set_option maxRecDepth 100000 in
theorem ran_e {es : List (List UInt8 × Value)} {h : Heap} {b m p : Nat} {name : List UInt8} {d : PD} {v : Value} (r : Pe h b m es p name d) (L : List Rw) (hd : d.ran = false) (hL : Rws h v L) :
    CallsH Tryz.prog 91 ⟨[.pointer (some ⟨b, 0, none⟩), St name, v]⟩ h fun u h' => u = .bool true ∧ ∃ v' L', Pe h' b m es p name { d with vr := v', rs := L', ran := true } ∧ L'.map Rw.pl = L.map Rw.pl ∧ (∀ k, RwsF v' L' k → h.size ≤ k) ∧ Ext (fun k => k = p) h h' := by
  have hne := r.ne
  have hdF := r.apart
  have hof := of_e r
  obtain ⟨hb, hm, hlk, hp, hok, _⟩ := r
  have hpl := lt_of_some hp
  obtain ⟨text, vo, oids, vp, ps, vr, rs, ran, over⟩ := d
  simp only at hd
  subst hd
  dsimp only [PD.cells] at hp
  refine calls [(0, _), (1, _), (2, _)] Tryz.func91 rfl Tryz.ntmps91 rfl ⟨rfl, rfl, rfl, trivial⟩ ?_
  all_goals (refine WC.sr ?_; refine Go ?_; refine WC.sr ?_; refine Go ?_; refine WL.call (vs := [_, _]) rfl (fun a w => Tryz.call142 a w) rfl (hof) rfl rfl rfl ?_; rintro _ hz ⟨rfl, _⟩; subst hz; refine Go ?_; refine Gs [(2, _), (7, _), (8, _)] ?_; refine WC.seq ?_; refine WC.sr ?_; refine Go ?_; refine goP 17 ?_ TT.mk; refine Gg ?_; refine WL.step (ok_nilCheck rfl) rfl rfl rfl ?_; refine Gg ?_; refine Ld ?_; refine Go ?_; refine Gs [(2, _), (7, _), (22, _)] ?_; refine goC 1 2 ?_ TT.mk; refine goB 2 ?_; refine WC.skip ?_; refine Gn ?_; refine WC.sr ?_; refine Go ?_; refine WL.call (vs := [_]) rfl (fun a w => Tryz.call143 a w) rfl (table_port L hL) rfl rfl rfl ?_; rintro v2 h2 ⟨L2, hR2, hp2, hx2, hf2⟩; obtain ⟨A2, c2, rfl⟩ : ∃ A c, v2 = .slice A L2.length c := (by obtain ⟨_, ⟨_, A, c, e, _⟩, _⟩ := hR2; exact ⟨A, c, e⟩); refine WL.step (ok_nilCheck rfl) rfl rfl rfl ?_; refine Go ?_; refine WL.stepR0 (okE_store (fun w => Tryz.sizeOf4 w) rfl rfl (hx2.obj hp nos) (Nat.le_of_ble_eq_true rfl) rfl rfl) rfl rfl ?_; rintro _ h3 ⟨hb3, hx3⟩; refine WL.step (ok_nilCheck rfl) rfl rfl rfl ?_; refine Go ?_; refine WL.stepR0 (okE_store (fun w => Tryz.sizeOf145 w) rfl rfl hb3 (Nat.le_of_ble_eq_true rfl) rfl rfl) rfl rfl ?_; rintro _ h4 ⟨hb4, hx4⟩; have hx24 := hx3.trans hx4; have hx04 := (hx2.mono (S' := fun k => k = p) (fun _ _ e => e.elim)).trans hx24; refine Gn ?_; refine Gs [] ?_; refine WC.sr ?_; refine Go ?_; refine Gt ?_; exact ⟨rfl, _, L2, ⟨hx04.obj hb hne.1, hm.ext hx04 hne.2, hlk, hb4, ⟨hok.oids.ext' hx04 (fun k h1 h2 e => hdF k (.inl ⟨h1, h2⟩) e), hok.lo, hok.ps.ext hx04 (fun k hk e => hdF k (.inr (.inl hk)) e), hR2.ext hx24 (fun k hk e => by have := hf2 k hk; omega)⟩, fun k hk e => by rcases hk with hk | hk | hk; exact hdF k (.inl hk) e; exact hdF k (.inr (.inl hk)) e; have := hf2 k hk; omega⟩, hp2, hf2, hx04⟩)
set_option maxHeartbeats 2000000 in
set_option maxRecDepth 100000 in
theorem ran_eno {es : List (List UInt8 × Value)} {h : Heap} {b m p : Nat} {name : List UInt8} {d : PD} {v : Value} (r : Pe h b m es p name d) (hd : d.ran = true) :
    CallsH Tryz.prog 91 ⟨[.pointer (some ⟨b, 0, none⟩), St name, v]⟩ h fun u h' => u = .bool false ∧ h' = h := by
  have hof := of_e r
  obtain ⟨hb, hm, hlk, hp, hok, _⟩ := r
  obtain ⟨text, vo, oids, vp, ps, vr, rs, ran, over⟩ := d
  simp only at hd
  subst hd
  dsimp only [PD.cells] at hp
  refine calls [(0, _), (1, _), (2, _)] Tryz.func91 rfl Tryz.ntmps91 rfl ⟨rfl, rfl, rfl, trivial⟩ ?_
  all_goals (refine WC.sr ?_; refine Go ?_; refine WC.sr ?_; refine Go ?_; refine WL.call (vs := [_, _]) rfl (fun a w => Tryz.call142 a w) rfl (hof) rfl rfl rfl ?_; rintro _ hz ⟨rfl, _⟩; subst hz; refine Go ?_; refine Gs [(2, _), (7, _), (8, _)] ?_; refine WC.seq ?_; refine WC.sr ?_; refine Go ?_; refine goP 17 ?_ TT.mk; refine Gg ?_; refine WL.step (ok_nilCheck rfl) rfl rfl rfl ?_; refine Gg ?_; refine Ld ?_; refine Go ?_; refine Gs [(2, _), (7, _), (22, _)] ?_; refine goC 1 2 ?_ TT.mk; refine goB 1 ?_; refine WC.sr ?_; refine Go ?_; refine Gt ?_; exact ⟨rfl, rfl⟩)
theorem fetch_endE {es : List (List UInt8 × Value)} {h h' : Heap} {b m p n c0 : Nat} {A0 : Option Addr} {name text : List UInt8} {vo vp : Value} {oids : List Int} {ps : List Cel} {rs : List Rw} (hb : h[b]? = some (.cells ⟨[.map (some m)]⟩ 98 (0, 0))) (hm : Mp .string St h m es) (hlk : alook es name = some (.pointer (some ⟨p, 0, none⟩))) (hne : b ≠ p ∧ m ≠ p)
    (hdF : ∀ k, PD.F ⟨text, vo, oids, vp, ps, .slice A0 rs.length c0, rs, true, false⟩ k → k ≠ p) (hok : PD.ok h ⟨text, vo, oids, vp, ps, .slice A0 rs.length c0, rs, true, false⟩) (hn : n ≤ rs.length) (hx : Ext (fun k => k = p) h h')
    (hb4 : h'[p]? = some (.cells ⟨[St text, vo, vp, .slice (if c0 = n then A0 else A0.map (·.add (n * 1))) (rs.length - n) (c0 - n), .bool true, .bool (decide (((rs.length - n : Nat) : Int) = 0))]⟩ 147 (0, 0))) :
    ∃ wo vr', Value.tuple ⟨[.slice A0 n n, .bool (!decide (((rs.length - n : Nat) : Int) = 0))]⟩ = .tuple ⟨[wo, .bool (!decide (((rs.length - n : Nat) : Int) = 0))]⟩ ∧ Rws h' wo (rs.take n) ∧ Pe h' b m es p name ⟨text, vo, oids, vp, ps, vr', rs.drop n, true, decide (((rs.length - n : Nat) : Int) = 0)⟩ ∧ (∀ k, RwsF wo (rs.take n) k → RwsF (.slice A0 rs.length c0) rs k) ∧ (∀ k, RwsF vr' (rs.drop n) k → RwsF (.slice A0 rs.length c0) rs k) ∧ Ext (fun k => k = p) h h' := by
  obtain ⟨t1, t2⟩ := rws_take hok.rs hn
  obtain ⟨d1, d2⟩ := rws_drop hok.rs hn
  refine ⟨_, _, rfl, t1.ext hx fun k hk e => hdF k (.inr (.inr (t2 k hk))) e, ⟨hx.obj hb hne.1, hm.ext hx hne.2, hlk, hb4, ⟨hok.oids.ext' hx (fun k h1 h2 e => hdF k (.inl ⟨h1, h2⟩) e), hok.lo, hok.ps.ext hx (fun k hk e => hdF k (.inr (.inl hk)) e), d1.ext hx fun k hk e => hdF k (.inr (.inr (d2 k hk))) e⟩, fun k hk e => ?_⟩, t2, d2, hx⟩
  rcases hk with hk | hk | hk
  · exact hdF k (.inl hk) e
  · exact hdF k (.inr (.inl hk)) e
  · exact hdF k (.inr (.inr (d2 k hk))) e
set_option maxHeartbeats 2000000 in
set_option maxRecDepth 100000 in
theorem fetch_allE {es : List (List UInt8 × Value)} {h : Heap} {b m p : Nat} {name : List UInt8} {d : PD} (r : Pe h b m es p name d) (most : Int) (hmo : ¬ 0 < most) (hd : d.ran = true) (hv : d.over = false) :
    CallsH Tryz.prog 94 ⟨[.pointer (some ⟨b, 0, none⟩), St name, In most]⟩ h fun u h' => ∃ vo vr', u = .tuple ⟨[vo, .bool (!decide (((d.rs.length - d.rs.length : Nat) : Int) = 0))]⟩ ∧ Rws h' vo (d.rs.take d.rs.length) ∧ Pe h' b m es p name { d with vr := vr', rs := d.rs.drop d.rs.length, over := decide (((d.rs.length - d.rs.length : Nat) : Int) = 0) } ∧ (∀ k, RwsF vo (d.rs.take d.rs.length) k → RwsF d.vr d.rs k) ∧ (∀ k, RwsF vr' (d.rs.drop d.rs.length) k → RwsF d.vr d.rs k) ∧ Ext (fun k => k = p) h h' := by
  have hne := r.ne
  have hdF := r.apart
  have hof := of_e r
  obtain ⟨hb, hm, hlk, hp, hok, _⟩ := r
  obtain ⟨text, vo, oids, vp, ps, vr, rs, ran, over⟩ := d
  simp only at hd hv
  subst hd
  subst hv
  obtain ⟨A0, c0, rfl, _⟩ : ∃ A c, vr = .slice A rs.length c ∧ c ≤ maxLen := hok.rs.2.1.2
  dsimp only [PD.cells] at hp
  have hlr := hok.rs.2.1.1
  simp only at hlr
  unfold reachBytes at hlr
  have hcn : rs.length ≤ c0 := by
    obtain ⟨A', c', e, hc, _⟩ := hok.rs.1
    simp only [Value.slice.injEq] at e
    obtain ⟨_, _, rfl⟩ := e
    exact hc
  refine calls [(0, _), (1, _), (2, _)] Tryz.func94 rfl Tryz.ntmps94 rfl ⟨rfl, rfl, rfl, trivial⟩ ?_
  all_goals (refine WC.sr ?_; refine Go ?_; refine WC.sr ?_; refine Go ?_; refine WL.call (vs := [_, _]) rfl (fun a w => Tryz.call142 a w) rfl (hof) rfl rfl rfl ?_; rintro _ hz ⟨rfl, _⟩; subst hz; refine Go ?_; refine Gs [(2, _), (8, _), (9, _)] ?_; refine WC.seq ?_; refine WC.sr ?_; refine Go ?_; refine goP 20 ?_ TT.mk; refine Gg ?_; refine WL.step (ok_nilCheck rfl) rfl rfl rfl ?_; refine Gg ?_; refine Ld ?_; refine Gg ?_; refine Go ?_; refine goP 27 ?_ TT.mk; refine Gg ?_; refine WL.step (ok_nilCheck rfl) rfl rfl rfl ?_; refine Gg ?_; refine Ld ?_; refine Go ?_; refine Gs [(2, _), (8, _), (32, _)] ?_; refine goC 1 2 ?_ TT.mk; refine goB 2 ?_; refine WC.skip ?_; refine Gn ?_; refine WC.sr ?_; refine Go ?_; refine WL.step (ok_nilCheck rfl) rfl rfl rfl ?_; refine Go ?_; refine Ld ?_; refine Go ?_; refine Gs [(2, _), (8, _), (10, _)] ?_; refine WC.seq ?_; refine WC.sr ?_; refine Go ?_; refine goC 3 4 ?_ TT.mk; refine goB 4 ?_; refine WC.skip ?_; refine Gn ?_; refine WC.sr ?_; refine Go ?_; refine WL.step (ok_nilCheck rfl) rfl rfl rfl ?_; refine Go ?_; refine Ld ?_; refine Go ?_; refine WL.step (ok_slice_hmN Tryz.underlying145 (fun w => Tryz.sizeOf30 w) rfl rfl rfl (by omega)) rfl rfl rfl ?_; refine Go ?_; refine Gs [(8, _), (10, _), (11, _)] ?_; refine WC.sr ?_; refine Go ?_; refine WL.step (ok_nilCheck rfl) rfl rfl rfl ?_; refine Go ?_; refine Ld ?_; refine Go ?_; refine WL.step (ok_slice_lN Tryz.underlying145 (fun w => Tryz.sizeOf30 w) rfl rfl (by omega)) rfl rfl rfl ?_; refine WL.step (ok_nilCheck rfl) rfl rfl rfl ?_; refine Go ?_; refine WL.stepR0 (okE_store (fun w => Tryz.sizeOf145 w) rfl rfl hp (Nat.le_of_ble_eq_true rfl) rfl rfl) rfl rfl ?_; rintro _ h3 ⟨hb3, hx3⟩; refine Gn ?_; refine Gs [(8, _), (11, _)] ?_; refine WC.sr ?_; refine Go ?_; refine WL.step (ok_nilCheck rfl) rfl rfl rfl ?_; refine Go ?_; refine Ld ?_; refine WL.step (ok_lenL rfl Tryz.underlying145 rfl) rfl rfl rfl ?_; refine WL.step (ok_eql rfl rfl) rfl rfl rfl ?_; refine WL.step (ok_nilCheck rfl) rfl rfl rfl ?_; refine Go ?_; refine WL.stepR0 (okE_store (fun w => Tryz.sizeOf4 w) rfl rfl hb3 (Nat.le_of_ble_eq_true rfl) rfl rfl) rfl rfl ?_; rintro _ h4 ⟨hb4, hx4⟩; refine Gn ?_; refine Gs [(8, _), (11, _)] ?_; refine WC.seq ?_; refine WC.drawE fol (by kernel_rfl) ?_; refine WQ.stepE (ok_move rfl) rfl rfl rfl ?_; refine WQ.stepE (ok_move rfl) rfl rfl rfl ?_; refine WQ.stepE (ok_nilCheck rfl) rfl rfl rfl ?_; refine WQ.stepE (ok_fieldAddr rfl Tryz.underlying147 rfl (fun w => Tryz.sizeOf4 w)) rfl rfl rfl ?_; refine WQ.stepE (ok_load (fun w => Tryz.isAgg4 w) rfl (by first | assumption | exact cell_blk (by assumption) rfl)) rfl rfl rfl ?_; refine WQ.stepE (ok_not rfl) rfl rfl rfl ?_; refine WQ.stepE (ok_assign rfl) rfl rfl rfl ?_; refine WQ.stepE (ok_assign rfl) rfl rfl rfl ?_; refine WQ.nil ?_; refine Gn ?_; refine Gs [(6, _), (7, _)] ?_; refine Gt ?_; exact fetch_endE (n := rs.length) hb hm hlk hne hdF hok (by omega) (hx3.trans hx4) hb4)
set_option maxHeartbeats 2000000 in
set_option maxRecDepth 100000 in
theorem fetch_someE {es : List (List UInt8 × Value)} {h : Heap} {b m p n : Nat} {name : List UInt8} {d : PD} (r : Pe h b m es p name d) (most : Int) (hmo : 0 < most) (hn : min (d.rs.length : Int) most = (n : Int)) (hd : d.ran = true) (hv : d.over = false) :
    CallsH Tryz.prog 94 ⟨[.pointer (some ⟨b, 0, none⟩), St name, In most]⟩ h fun u h' => ∃ vo vr', u = .tuple ⟨[vo, .bool (!decide (((d.rs.length - n : Nat) : Int) = 0))]⟩ ∧ Rws h' vo (d.rs.take n) ∧ Pe h' b m es p name { d with vr := vr', rs := d.rs.drop n, over := decide (((d.rs.length - n : Nat) : Int) = 0) } ∧ (∀ k, RwsF vo (d.rs.take n) k → RwsF d.vr d.rs k) ∧ (∀ k, RwsF vr' (d.rs.drop n) k → RwsF d.vr d.rs k) ∧ Ext (fun k => k = p) h h' := by
  have hne := r.ne
  have hdF := r.apart
  have hof := of_e r
  obtain ⟨hb, hm, hlk, hp, hok, _⟩ := r
  obtain ⟨text, vo, oids, vp, ps, vr, rs, ran, over⟩ := d
  simp only at hd hv hn
  subst hd
  subst hv
  obtain ⟨A0, c0, rfl, _⟩ : ∃ A c, vr = .slice A rs.length c ∧ c ≤ maxLen := hok.rs.2.1.2
  dsimp only [PD.cells] at hp
  have hlr := hok.rs.2.1.1
  simp only at hlr
  unfold reachBytes at hlr
  have hcn : rs.length ≤ c0 := by
    obtain ⟨A', c', e, hc, _⟩ := hok.rs.1
    simp only [Value.slice.injEq] at e
    obtain ⟨_, _, rfl⟩ := e
    exact hc
  refine calls [(0, _), (1, _), (2, _)] Tryz.func94 rfl Tryz.ntmps94 rfl ⟨rfl, rfl, rfl, trivial⟩ ?_
  all_goals (refine WC.sr ?_; refine Go ?_; refine WC.sr ?_; refine Go ?_; refine WL.call (vs := [_, _]) rfl (fun a w => Tryz.call142 a w) rfl (hof) rfl rfl rfl ?_; rintro _ hz ⟨rfl, _⟩; subst hz; refine Go ?_; refine Gs [(2, _), (8, _), (9, _)] ?_; refine WC.seq ?_; refine WC.sr ?_; refine Go ?_; refine goP 20 ?_ TT.mk; refine Gg ?_; refine WL.step (ok_nilCheck rfl) rfl rfl rfl ?_; refine Gg ?_; refine Ld ?_; refine Gg ?_; refine Go ?_; refine goP 27 ?_ TT.mk; refine Gg ?_; refine WL.step (ok_nilCheck rfl) rfl rfl rfl ?_; refine Gg ?_; refine Ld ?_; refine Go ?_; refine Gs [(2, _), (8, _), (32, _)] ?_; refine goC 1 2 ?_ TT.mk; refine goB 2 ?_; refine WC.skip ?_; refine Gn ?_; refine WC.sr ?_; refine Go ?_; refine WL.step (ok_nilCheck rfl) rfl rfl rfl ?_; refine Go ?_; refine Ld ?_; refine Go ?_; refine Gs [(2, _), (8, _), (10, _)] ?_; refine WC.seq ?_; refine WC.sr ?_; refine Go ?_; refine goC 3 4 ?_ TT.mk; refine goB 3 ?_; refine WC.region ?_; refine Go ?_; refine WL.step (ok_min2 rfl rfl) rfl rfl rfl ?_; rw [show (if most < (rs.length : Int) then most else (rs.length : Int)) = (n : Int) by (split <;> omega)])
  all_goals (refine Go ?_; refine Gn ?_; refine WC.sr ?_; refine Go ?_; refine WL.step (ok_nilCheck rfl) rfl rfl rfl ?_; refine Go ?_; refine Ld ?_; refine Go ?_; refine WL.step (ok_slice_hmN Tryz.underlying145 (fun w => Tryz.sizeOf30 w) rfl rfl rfl (by omega)) rfl rfl rfl ?_; refine Go ?_; refine Gs [(8, _), (10, _), (11, _)] ?_; refine WC.sr ?_; refine Go ?_; refine WL.step (ok_nilCheck rfl) rfl rfl rfl ?_; refine Go ?_; refine Ld ?_; refine Go ?_; refine WL.step (ok_slice_lN Tryz.underlying145 (fun w => Tryz.sizeOf30 w) rfl rfl (by omega)) rfl rfl rfl ?_; refine WL.step (ok_nilCheck rfl) rfl rfl rfl ?_; refine Go ?_; refine WL.stepR0 (okE_store (fun w => Tryz.sizeOf145 w) rfl rfl hp (Nat.le_of_ble_eq_true rfl) rfl rfl) rfl rfl ?_; rintro _ h3 ⟨hb3, hx3⟩; refine Gn ?_; refine Gs [(8, _), (11, _)] ?_; refine WC.sr ?_; refine Go ?_; refine WL.step (ok_nilCheck rfl) rfl rfl rfl ?_; refine Go ?_; refine Ld ?_; refine WL.step (ok_lenL rfl Tryz.underlying145 rfl) rfl rfl rfl ?_; refine WL.step (ok_eql rfl rfl) rfl rfl rfl ?_; refine WL.step (ok_nilCheck rfl) rfl rfl rfl ?_; refine Go ?_; refine WL.stepR0 (okE_store (fun w => Tryz.sizeOf4 w) rfl rfl hb3 (Nat.le_of_ble_eq_true rfl) rfl rfl) rfl rfl ?_; rintro _ h4 ⟨hb4, hx4⟩; refine Gn ?_; refine Gs [(8, _), (11, _)] ?_; refine WC.seq ?_; refine WC.drawE fol (by kernel_rfl) ?_; refine WQ.stepE (ok_move rfl) rfl rfl rfl ?_; refine WQ.stepE (ok_move rfl) rfl rfl rfl ?_; refine WQ.stepE (ok_nilCheck rfl) rfl rfl rfl ?_; refine WQ.stepE (ok_fieldAddr rfl Tryz.underlying147 rfl (fun w => Tryz.sizeOf4 w)) rfl rfl rfl ?_; refine WQ.stepE (ok_load (fun w => Tryz.isAgg4 w) rfl (by first | assumption | exact cell_blk (by assumption) rfl)) rfl rfl rfl ?_; refine WQ.stepE (ok_not rfl) rfl rfl rfl ?_; refine WQ.stepE (ok_assign rfl) rfl rfl rfl ?_; refine WQ.stepE (ok_assign rfl) rfl rfl rfl ?_; refine WQ.nil ?_; refine Gn ?_; refine Gs [(6, _), (7, _)] ?_; refine Gt ?_; exact fetch_endE (n := n) hb hm hlk hne hdF hok (by omega) (hx3.trans hx4) hb4)
set_option maxHeartbeats 2000000 in
set_option maxRecDepth 100000 in
theorem fetch_overE {es : List (List UInt8 × Value)} {h : Heap} {b m p : Nat} {name : List UInt8} {d : PD} (r : Pe h b m es p name d) (most : Int) (hd : d.ran = true) (hv : d.over = true) :
    CallsH Tryz.prog 94 ⟨[.pointer (some ⟨b, 0, none⟩), St name, In most]⟩ h fun u h' => u = .tuple ⟨[.slice none 0 0, .bool false]⟩ ∧ h' = h := by
  have hof := of_e r
  obtain ⟨hb, hm, hlk, hp, hok, _⟩ := r
  obtain ⟨text, vo, oids, vp, ps, vr, rs, ran, over⟩ := d
  simp only at hd hv
  subst hd
  subst hv
  dsimp only [PD.cells] at hp
  refine calls [(0, _), (1, _), (2, _)] Tryz.func94 rfl Tryz.ntmps94 rfl ⟨rfl, rfl, rfl, trivial⟩ ?_
  all_goals (refine WC.sr ?_; refine Go ?_; refine WC.sr ?_; refine Go ?_; refine WL.call (vs := [_, _]) rfl (fun a w => Tryz.call142 a w) rfl (hof) rfl rfl rfl ?_; rintro _ hz ⟨rfl, _⟩; subst hz; refine Go ?_; refine Gs [(2, _), (8, _), (9, _)] ?_; refine WC.seq ?_; refine WC.sr ?_; refine Go ?_; refine goP 20 ?_ TT.mk; refine Gg ?_; refine WL.step (ok_nilCheck rfl) rfl rfl rfl ?_; refine Gg ?_; refine Ld ?_; refine Gg ?_; refine Go ?_; refine goP 27 ?_ TT.mk; refine Gg ?_; refine WL.step (ok_nilCheck rfl) rfl rfl rfl ?_; refine Gg ?_; refine Ld ?_; refine Go ?_; refine Gs [(2, _), (8, _), (32, _)] ?_; refine goC 1 2 ?_ TT.mk; refine goB 1 ?_; refine WC.sr ?_; refine Go ?_; refine Gt ?_; exact ⟨rfl, rfl⟩)
end Go.Proofs.YtbokngiajfdanaaGreatDoor


/-
  PORTAL (layer 28): a set of portals: Put, Get, Delete, Clear, Names.
-/
namespace Go.Proofs.YtbokngiajfdanaaGreatDoor
open Go Go.RK

/-- A portal among those of both sets: its block, what the code has, what the document has. -/
structure It28 where
  p : Nat
  d : PD
  e : PD
def ptE (i : It28) : Value := .pointer (some ⟨i.p, 0, none⟩)
theorem okE_clearM {P : Program} {f : Fr} {h : Heap} {dd : Option Tmp} {ty : TypeId} {pos : String} {af : Array Edge} {g : Option (Nat × Bool)} {x : Operand} {t kt et : TypeId} {ts : Array TypeId} {κ : Type} {d : TypeDesc} {enc : κ → Value} {m : Nat} {es : List (κ × Value)} (hts : ts = #[t]) (hu : P.underlying t = some (.map kt et)) (hx : f.ev x = some (.map (some m))) (hm : Mp d enc h m es) :
    OkR P f ⟨dd, .call { callee := .builtin .clear, args := #[x], argTypes := ts }, ty, pos, af, g⟩ h (fun _ h' => Mp d enc h' m ([] : List (κ × Value)) ∧ Ext (fun b => b = m) h h') := fun ρ w ha hw => by
  subst hts
  subst hw
  obtain ⟨arr, clock, hb, hs, he⟩ := hm
  refine ⟨.tuple #[], { w with heap := w.heap.setIfInBounds m (.map #[] clock) }, ⟨rfl, rfl, rfl, trivial⟩, ⟨⟨_, _, set_new hb, MapKept.stamped_empty _, rfl⟩, .set _ _ _ rfl⟩, .inl ?_⟩
  simp [execOp, resolve, invoke, builtin, ha _ _ hx, Builtin.clear_, run_underlying hu, MapKept.run_getObj_map hb, MapKept.run_setObj_map _ hb]
section
variable {h : Heap} {b m : Nat} {es : List (List UInt8 × Value)}
set_option maxHeartbeats 2000000 in
set_option maxRecDepth 100000 in
theorem of_none (name : List UInt8) (hb : h[b]? = some (.cells ⟨[.map (some m)]⟩ 98 (0, 0))) (hm : Mp .string St h m es) (hv : alook es name = none) :
    CallsH Tryz.prog 142 ⟨[.pointer (some ⟨b, 0, none⟩), St name]⟩ h fun u h' => u = .tuple ⟨[.pointer none, .bool false]⟩ ∧ h' = h := by
  refine calls [(0, _), (1, _)] Tryz.func142 rfl Tryz.ntmps142 rfl ⟨rfl, rfl, trivial⟩ ?_
  all_goals (refine WC.sr ?_; refine Go ?_; refine WC.seq ?_; refine WC.sr ?_; refine Go ?_; refine WL.step (ok_eqlPn Tryz.underlying51 rfl rfl) rfl rfl rfl ?_; refine Go ?_; refine goP 10 ?_ TT.mk; refine Gg ?_; refine WL.step (ok_nilCheck rfl) rfl rfl rfl ?_; refine Gg ?_; refine Ld ?_; refine WL.step (ok_eqlMn Tryz.underlying96 rfl rfl) rfl rfl rfl ?_; refine Go ?_; refine Gs [(0, _), (1, _), (16, _)] ?_; refine goC 1 2 ?_ TT.mk; refine goB 2 ?_; refine WC.skip ?_; refine Gn ?_; refine WC.sr ?_; refine Go ?_; refine WL.step (ok_nilCheck rfl) rfl rfl rfl ?_; refine Go ?_; refine Ld ?_; refine Go ?_; refine WL.step ((ok_lookup_no keyS Tryz.underlying96 Tryz.underlying9 (fun w => Tryz.zeroValue208 w) rfl rfl (by assumption) (by assumption)).1) rfl rfl rfl ?_; refine Go ?_; refine Gs [(6, _), (7, _)] ?_; refine WC.sr ?_; refine Go ?_; refine Gs [(4, _), (5, _)] ?_; refine Gt ?_; exact ⟨rfl, rfl⟩)
theorem set_ne (hb : h[b]? = some (.cells ⟨[.map (some m)]⟩ 98 (0, 0))) (hm : Mp .string St h m es) : b ≠ m := by
  rintro rfl
  obtain ⟨_, _, e, _⟩ := hm
  rw [hb] at e
  cases e
set_option maxHeartbeats 2000000 in
set_option maxRecDepth 100000 in
theorem put_e (name : List UInt8) (d : PD) (hb : h[b]? = some (.cells ⟨[.map (some m)]⟩ 98 (0, 0))) (hm : Mp .string St h m es) (hd : d.ok h) (hn : name = [] ∨ alook es name = none) :
    CallsH Tryz.prog 85 ⟨[.pointer (some ⟨b, 0, none⟩), St name, .agg ⟨d.cells⟩]⟩ h fun u h' => u = In 0 ∧ ∃ p d', Mp .string St h' m (aput es name (.pointer (some ⟨p, 0, none⟩))) ∧ h'[p]? = some (.cells ⟨PD.cells d'⟩ 147 (0, 0)) ∧ d'.ok h' ∧ d'.pl = d.pl ∧ h.size ≤ p ∧ (∀ k, d'.F k → h.size ≤ k ∧ k ≠ p) ∧ Ext (fun k => k = m) h h' := by
  have hbm := set_ne hb hm
  have hml := hm.lt
  have hcs : alook es name = none ∨ ∃ v, alook es name = some v ∧ name = [] := by
    rcases hv : alook es name with _ | v
    · exact .inl rfl
    · rcases hn with e | e
      · exact .inr ⟨v, rfl, e⟩
      · rw [hv] at e; cases e
  rcases hcs with hv | ⟨v0, hv, rfl⟩
  all_goals
    refine calls [(0, _), (1, _), (2, _)] Tryz.func85 rfl Tryz.ntmps85 rfl ⟨rfl, rfl, rfl, trivial⟩ ?_
    all_goals (refine WC.sr ?_; refine WL.stepR (okE_box rfl) rfl rfl rfl ?_; rintro _ h1 ⟨b5, rfl, hg5, hb5, hx5⟩; have hb' := hx5.obj hb nos; have hm' := hm.ext hx5 nos; have hd' := hd.ext hx5 (fun _ _ => nos); refine Go ?_; refine WC.seq ?_; refine WC.sr ?_; refine Go ?_; refine WL.step (ok_eqlPn Tryz.underlying51 rfl rfl) rfl rfl rfl ?_; refine Go ?_; refine goP 12 ?_ TT.mk; refine Gg ?_; refine WL.step (ok_nilCheck rfl) rfl rfl rfl ?_; refine Gg ?_; refine Ld ?_; refine WL.step (ok_eqlMn Tryz.underlying96 rfl rfl) rfl rfl rfl ?_; refine Go ?_; refine Gs [(0, _), (1, _), (5, _), (18, _)] ?_; refine goC 1 2 ?_ TT.mk; refine goB 2 ?_; refine WC.skip ?_; refine Gn ?_; refine WC.seq ?_; refine WC.sr ?_; refine Go ?_; refine WL.step (ok_nilCheck rfl) rfl rfl rfl ?_; refine Go ?_; refine Ld ?_; refine Go ?_; first | (refine WL.step ((ok_lookup keyS Tryz.underlying96 Tryz.underlying9 rfl rfl (by assumption) (by assumption)).1) rfl rfl rfl ?_) | (refine WL.step ((ok_lookup_no keyS Tryz.underlying96 Tryz.underlying9 (fun w => Tryz.zeroValue208 w) rfl rfl (by assumption) (by assumption)).1) rfl rfl rfl ?_))
    all_goals (refine Go ?_; refine Gs [(0, _), (1, _), (5, _), (8, _)] ?_; refine WC.sr ?_; refine Go ?_; refine goP 29 ?_ TT.mk; refine Gg ?_; refine Go ?_; refine Gs [(0, _), (1, _), (5, _), (32, _)] ?_; refine goC 3 4 ?_ TT.mk; refine goB 4 ?_; refine WC.skip ?_; refine Gn ?_; refine WC.sr ?_; refine WL.step (ok_loadN (fun w => Tryz.isAgg147 w) (fun w => Tryz.sizeOf147 w) rfl rfl (by exact At.of_block hb5)) rfl rfl rfl ?_; refine WL.call (vs := [_]) rfl (fun a w => Tryz.call134 a w) rfl (own_port d hd') rfl rfl rfl ?_; rintro _ h2 ⟨d2, rfl, ok2, pl2, hx2, hf2⟩; refine WL.stepR (okE_alloc (fun w => Tryz.zeroValue147 w)) rfl rfl rfl ?_; rintro _ h3 ⟨b3, rfl, hg3, hb3, hx3⟩; refine WL.stepR0 (okE_storeW (fun w => Tryz.sizeOf147 w) rfl rfl rfl (by assumption) rfl (pd_one ok2)) rfl rfl ?_; rintro _ h4 ⟨hb4, hx4⟩; have hx14 : Ext No h1 h4 := (hx2.trans hx3).trans' hx4 (fun k hk e => by have := hx2.size; omega); have hbb := hx14.obj hb' nos; have hmm := hm'.ext hx14 nos; refine Gn ?_; refine Gs [(0, _), (1, _), (9, _)] ?_; refine WC.sr ?_; refine Go ?_; refine WL.step (ok_nilCheck rfl) rfl rfl rfl ?_; refine Go ?_; refine Ld ?_; refine Go ?_; refine WL.stepR0 (ok_mapUpdate keyS Tryz.underlying96 Tryz.underlying9 rfl rfl rfl (by assumption)) rfl rfl ?_; rintro _ h6 ⟨hm6, hx6⟩; refine Gn ?_; refine Gs [] ?_; refine WC.sr ?_; refine Go ?_; refine Gt ?_; exact ⟨rfl, b3, d2, hm6, hx6.obj hb4 (fun e => by have := hx5.size; have := hx2.size; omega), (ok2.ext (hx3.trans' hx4 (S := No) (fun k hk e => by omega)) (fun _ _ => nos)).ext hx6 (fun k hk e => by have := hf2 k hk; have := hx5.size; omega), pl2, by have := hx5.size; have := hx2.size; omega, fun k hk => ⟨by have := hf2 k hk; have := hx5.size; omega, fun e => by have := ok2.lt hk; omega⟩, (hx5.mono (fun _ _ e => e.elim)).trans ((hx14.mono (fun _ _ e => e.elim)).trans hx6)⟩)
set_option maxHeartbeats 2000000 in
set_option maxRecDepth 100000 in
theorem put_tw (name : List UInt8) (d : PD) (hb : h[b]? = some (.cells ⟨[.map (some m)]⟩ 98 (0, 0))) (hm : Mp .string St h m es) {v : Value} (hv : alook es name = some v) (hn : name ≠ []) :
    CallsH Tryz.prog 85 ⟨[.pointer (some ⟨b, 0, none⟩), St name, .agg ⟨d.cells⟩]⟩ h fun u h' => u = In 8 ∧ Ext No h h' := by
  refine calls [(0, _), (1, _), (2, _)] Tryz.func85 rfl Tryz.ntmps85 rfl ⟨rfl, rfl, rfl, trivial⟩ ?_
  all_goals (refine WC.sr ?_; refine WL.stepR (okE_box rfl) rfl rfl rfl ?_; rintro _ h1 ⟨b5, rfl, hg5, hb5, hx5⟩; have hb' := hx5.obj hb nos; have hm' := hm.ext hx5 nos; refine Go ?_; refine WC.seq ?_; refine WC.sr ?_; refine Go ?_; refine WL.step (ok_eqlPn Tryz.underlying51 rfl rfl) rfl rfl rfl ?_; refine Go ?_; refine goP 12 ?_ TT.mk; refine Gg ?_; refine WL.step (ok_nilCheck rfl) rfl rfl rfl ?_; refine Gg ?_; refine Ld ?_; refine WL.step (ok_eqlMn Tryz.underlying96 rfl rfl) rfl rfl rfl ?_; refine Go ?_; refine Gs [(0, _), (1, _), (5, _), (18, _)] ?_; refine goC 1 2 ?_ TT.mk; refine goB 2 ?_; refine WC.skip ?_; refine Gn ?_; refine WC.seq ?_; refine WC.sr ?_; refine Go ?_; refine WL.step (ok_nilCheck rfl) rfl rfl rfl ?_; refine Go ?_; refine Ld ?_; refine Go ?_; refine WL.step ((ok_lookup keyS Tryz.underlying96 Tryz.underlying9 rfl rfl (by assumption) (by assumption)).1) rfl rfl rfl ?_; refine Go ?_; refine Gs [(0, _), (1, _), (5, _), (8, _)] ?_; refine WC.sr ?_; refine Go ?_; refine goP 29 ?_ TT.mk; refine Gg ?_; refine Go ?_; refine Gs [(0, _), (1, _), (5, _), (32, _)] ?_; refine goC 3 4 ?_ TT.mk; refine goB 3 ?_; refine WC.sr ?_; refine Go ?_; refine Gs [(6, _)] ?_; refine Gt ?_; exact ⟨rfl, hx5⟩)
set_option maxHeartbeats 2000000 in
set_option maxRecDepth 100000 in
theorem get_no (name : List UInt8) (hb : h[b]? = some (.cells ⟨[.map (some m)]⟩ 98 (0, 0))) (hm : Mp .string St h m es) (hv : alook es name = none) :
    CallsH Tryz.prog 135 ⟨[.pointer (some ⟨b, 0, none⟩), St name]⟩ h fun u h' => u = .tuple ⟨[.agg ⟨PD0.cells⟩, .bool false]⟩ ∧ Ext No h h' := by
  refine calls [(0, _), (1, _)] Tryz.func135 rfl Tryz.ntmps135 rfl ⟨rfl, rfl, trivial⟩ ?_
  all_goals (refine WC.sr ?_; refine WL.stepR (okE_alloc (fun w => Tryz.zeroValue147 w)) rfl rfl rfl ?_; rintro _ h1 ⟨b1, rfl, hg1, hb1, hx1⟩; refine Go ?_; refine WC.sr ?_; refine Go ?_; refine WL.call (vs := [_, _]) rfl (fun a w => Tryz.call142 a w) rfl (of_none name (hx1.obj hb nos) (hm.ext hx1 nos) hv) rfl rfl rfl ?_; rintro _ hz ⟨rfl, _⟩; subst hz; refine Go ?_; refine Gs [(4, _), (6, _), (7, _)] ?_; refine WC.seq ?_; refine WC.sr ?_; refine Go ?_; refine goC 1 2 ?_ TT.mk; refine goB 1 ?_; refine WC.sr ?_; refine WL.step (ok_buildF (vs := []) (cs := [_, _, _, _, _, _]) (fun | [] => [(St []), (.slice none 0 0), (.slice none 0 0), (.slice none 0 0), (.bool false), (.bool false)] | _ => []) rfl rfl (by kernel_rfl)) rfl rfl rfl ?_; refine WL.stepR0 (okE_storeW (fun w => Tryz.sizeOf147 w) rfl rfl rfl hb1 rfl (by simp [Value.oneCell'])) rfl rfl ?_; rintro _ h2 ⟨hb2, hx2⟩; refine Go ?_; refine Gs [(4, _), (5, _)] ?_; refine WC.ret ?_; repeat' (with_reducible first | refine thenP_r ?_ | refine blockP_r ?_))
  all_goals (refine retP_2 _ _ ⟨⟨_, rfl, ld_blk (fun w => Tryz.isAgg147 w) (fun w => Tryz.sizeOf147 w) (by assumption) rfl⟩, rfl, trivial⟩ ?_; exact ⟨rfl, hx1.trans' hx2 (fun k hk e => by omega)⟩)
theorem Pe.ext0 {h' : Heap} {p : Nat} {name : List UInt8} {d : PD} (r : Pe h b m es p name d) (a : Ext No h h') : Pe h' b m es p name d :=
  ⟨a.obj r.set nos, r.map.ext a nos, r.look, a.obj r.blk nos, r.ok.ext a (fun _ _ => nos), r.apart⟩
set_option maxHeartbeats 2000000 in
set_option maxRecDepth 100000 in
theorem del_e {p : Nat} {name : List UInt8} {d : PD} (r : Pe h b m es p name d) :
    CallsH Tryz.prog 96 ⟨[.pointer (some ⟨b, 0, none⟩), St name]⟩ h fun u h' => u = .bool true ∧ Mp .string St h' m (adel es name) ∧ Ext (fun k => k = m) h h' := by
  have hb := r.set
  have hm := r.map
  refine calls [(0, _), (1, _)] Tryz.func96 rfl Tryz.ntmps96 rfl ⟨rfl, rfl, trivial⟩ ?_
  all_goals (refine WC.sr ?_; refine Go ?_; refine WC.sr ?_; refine Go ?_; refine WL.call (vs := [_, _]) rfl (fun a w => Tryz.call142 a w) rfl (of_e r) rfl rfl rfl ?_; rintro _ hz ⟨rfl, _⟩; subst hz; refine Go ?_; refine Gs [(0, _), (1, _), (6, _)] ?_; refine WC.seq ?_; refine WC.sr ?_; refine Go ?_; refine goC 1 2 ?_ TT.mk; refine goB 1 ?_; refine WC.region ?_; refine Go ?_; refine WL.step (ok_nilCheck rfl) rfl rfl rfl ?_; refine Go ?_; refine Ld ?_; refine Go ?_; refine WL.stepR0 (ok_delete rfl keyS Tryz.underlying96 Tryz.underlying9 rfl rfl (by assumption)) rfl rfl ?_; rintro _ h1 ⟨hm1, hx1⟩; refine Gn ?_; refine Gn ?_; refine WC.sr ?_; refine Go ?_; refine Gs [(4, _)] ?_; refine Gt ?_; exact ⟨rfl, hm1, hx1⟩)
set_option maxHeartbeats 2000000 in
set_option maxRecDepth 100000 in
theorem del_no (name : List UInt8) (hb : h[b]? = some (.cells ⟨[.map (some m)]⟩ 98 (0, 0))) (hm : Mp .string St h m es) (hv : alook es name = none) :
    CallsH Tryz.prog 96 ⟨[.pointer (some ⟨b, 0, none⟩), St name]⟩ h fun u h' => u = .bool false ∧ h' = h := by
  refine calls [(0, _), (1, _)] Tryz.func96 rfl Tryz.ntmps96 rfl ⟨rfl, rfl, trivial⟩ ?_
  all_goals (refine WC.sr ?_; refine Go ?_; refine WC.sr ?_; refine Go ?_; refine WL.call (vs := [_, _]) rfl (fun a w => Tryz.call142 a w) rfl (of_none name hb hm hv) rfl rfl rfl ?_; rintro _ hz ⟨rfl, _⟩; subst hz; refine Go ?_; refine Gs [(0, _), (1, _), (6, _)] ?_; refine WC.seq ?_; refine WC.sr ?_; refine Go ?_; refine goC 1 2 ?_ TT.mk; refine goB 2 ?_; refine WC.skip ?_; refine Gn ?_; refine WC.sr ?_; refine Go ?_; refine Gs [(4, _)] ?_; refine Gt ?_; exact ⟨rfl, rfl⟩)
set_option maxHeartbeats 2000000 in
set_option maxRecDepth 100000 in
theorem clear_e (hb : h[b]? = some (.cells ⟨[.map (some m)]⟩ 98 (0, 0))) (hm : Mp .string St h m es) :
    CallsH Tryz.prog 45 ⟨[.pointer (some ⟨b, 0, none⟩)]⟩ h fun u h' => u = .tuple ⟨[]⟩ ∧ Mp .string St h' m ([] : List (List UInt8 × Value)) ∧ Ext (fun k => k = m) h h' := by
  refine calls [(0, _)] Tryz.func45 rfl Tryz.ntmps45 rfl ⟨rfl, trivial⟩ ?_
  all_goals (refine WC.sr ?_; refine Go ?_; refine WL.step (ok_neqPn Tryz.underlying51 rfl rfl) rfl rfl rfl ?_; refine Gn ?_; refine goC 1 2 ?_ TT.mk; refine goB 1 ?_; refine WC.region ?_; refine Go ?_; refine WL.step (ok_nilCheck rfl) rfl rfl rfl ?_; refine Go ?_; refine Ld ?_; refine WL.stepR0 (okE_clearM rfl Tryz.underlying96 rfl hm) rfl rfl ?_; rintro _ h1 ⟨hm1, hx1⟩; refine Gn ?_; refine Gn ?_; refine retP_n [] trivial ?_; exact ⟨rfl, hm1, hx1⟩)
end
theorem sort_str {h : Heap} {v : Value} (l : List (List UInt8)) (ho : Own h v 9 1 l.length (l.map St)) (hm : l.length ≤ 1000000) :
    CallsH Tryz.prog 26 ⟨[v]⟩ h fun u h' => u = .tuple ⟨[]⟩ ∧ Own h' v 9 1 l.length ((srtS l).map St) ∧ Ext (fun k => v.ownBlock = some k) h h' := by
  rcases ho.slice' with ⟨rfl, h0⟩ | ⟨g, cap, rfl⟩
  · obtain rfl := List.eq_nil_of_length_eq_zero h0
    exact fun w hw => (Tryz.slices_Sort_string_none none 0 w).mono fun e w' ⟨he, hb⟩ => ⟨⟨by rw [hb], by rw [hb], by rw [hb], trivial⟩, _, he, rfl, by rw [hb, hw]; simpa [srtS] using ho, by rw [hb, hw]; exact .refl _ _⟩
  · intro w hw
    subst hw
    refine (Tryz.slices_Sort_string g 0 cap l w (Own.holds St ho) (ho.lt rfl) (by omega)).mono fun e w' ⟨he, n, os, hb⟩ => ?_
    subst hb
    have := sorted_heap St (q := n) (os := os) ho (by unfold srtS; simp : (srtS l).length = l.length)
    exact ⟨⟨rfl, rfl, rfl, trivial⟩, _, he, rfl, this.1, this.2.mono fun k _ e => by rw [e]; rfl⟩
end Go.Proofs.YtbokngiajfdanaaGreatDoor


/-
  SESSIONS (layer 30): what a session holds; New; of one that no call made nothing is said.
-/
namespace Go.Proofs.YtbokngiajfdanaaGreatDoor
open Go Go.RK

/-- A session at bs: its statements L, its portals P, its engine's refused texts R. -/
structure Se (h : Heap) (bs ms bp mp be me : Nat) (st : Int) (sk ov : Bool) (cnt : Int) (L P R : List (List UInt8 × Value)) : Prop where
  blk : h[bs]? = some (.cells ⟨[.map (some ms), .pointer (some ⟨bp, 0, none⟩), .pointer (some ⟨be, 0, none⟩), .int .u8 st, .bool sk, .bool ov]⟩ 54 (0, 0))
  stm : Mp .string St h ms L
  pb : h[bp]? = some (.cells ⟨[.map (some mp)]⟩ 98 (0, 0))
  pm : Mp .string St h mp P
  eb : h[be]? = some (.cells ⟨[.map (some me), In cnt]⟩ 62 (0, 0))
  em : Mp .string St h me R
  ne : ms ≠ mp ∧ ms ≠ me ∧ mp ≠ me
theorem Se.ext0 {h h' : Heap} {bs ms bp mp be me : Nat} {st : Int} {sk ov : Bool} {cnt : Int} {L P R : List (List UInt8 × Value)} (k : Se h bs ms bp mp be me st sk ov cnt L P R) (x : Ext No h h') : Se h' bs ms bp mp be me st sk ov cnt L P R :=
  ⟨x.obj k.blk nos, k.stm.ext x nos, x.obj k.pb nos, k.pm.ext x nos, x.obj k.eb nos, k.em.ext x nos, k.ne⟩
/-- Messages stay. -/
def Kf (h h' : Heap) : Prop := ∀ (q : Nat) (cs : Array Value), h[q]? = some (Obj.cells cs 32 (0, 0)) → h'[q]? = some (Obj.cells cs 32 (0, 0))
theorem kf_no {h h' : Heap} (x : Ext No h h') : Kf h h' := fun _ _ hq => x.obj hq nos
theorem Kf.trans {h h1 h2 : Heap} (a : Kf h h1) (b : Kf h1 h2) : Kf h h2 := fun q cs hq => b q cs (a q cs hq)
theorem kf_map {h h' : Heap} {m : Nat} {es : List (List UInt8 × Value)} (k : Mp .string St h m es) (x : Ext (fun q => q = m) h h') : Kf h h' := fun q cs hq => x.obj hq fun e => by
  subst e
  obtain ⟨_, _, z, _⟩ := k
  rw [hq] at z
  cases z
theorem kf_blk {h h' : Heap} {q : Nat} {cs : Array Value} {TT : TypeId} (hb : h[q]? = some (.cells cs TT (0, 0))) (hT : TT ≠ 32) (x : Ext (fun z => z = q) h h') : Kf h h' := fun z ds hz => x.obj hz fun e => by
  subst e
  rw [hb] at hz
  simp only [Option.some.injEq, Obj.cells.injEq] at hz
  exact hT hz.2.1
set_option maxHeartbeats 2000000 in
set_option maxRecDepth 100000 in
theorem new_eng {h : Heap} : CallsH Tryz.prog 8 ⟨[]⟩ h fun u h' => ∃ be me, u = .pointer (some ⟨be, 0, none⟩) ∧ h'[be]? = some (.cells ⟨[.map (some me), In 0]⟩ 62 (0, 0)) ∧ Mp .string St h' me ([] : List (List UInt8 × Value)) ∧ h.size ≤ be ∧ h.size ≤ me ∧ Ext No h h' := by
  refine calls [] Tryz.func8 rfl Tryz.ntmps8 rfl trivial ?_
  all_goals (refine WC.sr ?_; refine Go ?_; refine WC.sr ?_; refine WL.stepR okE_makeMap rfl rfl rfl ?_; rintro _ h1 ⟨b1, rfl, hg1, hb1, hx1⟩; refine WL.step (ok_buildF (vs := [_]) (cs := [_, _]) (fun | [a0] => [a0, (.int .i64 0)] | _ => []) rfl rfl (by kernel_rfl)) rfl rfl rfl ?_; refine WL.stepR (okE_box rfl) rfl rfl rfl ?_; rintro _ h2 ⟨b2, rfl, hg2, hb2, hx2⟩; refine Go ?_; refine Gt ?_; exact ⟨b2, b1, rfl, hb2, ⟨_, _, hx2.obj hb1 id, MapKept.stamped_empty 0, rfl⟩, by have := hx1.size; omega, hg1, hx1.trans hx2⟩)
set_option maxHeartbeats 2000000 in
set_option maxRecDepth 100000 in
/-- New: the engine may be none. -/
theorem new_sess {h : Heap} (e : Option Addr) : CallsH Tryz.prog 7 ⟨[.pointer e]⟩ h fun u h' => ∃ bs ms bp mp, u = .pointer (some ⟨bs, 0, none⟩) ∧ h'[bs]? = some (.cells ⟨[.map (some ms), .pointer (some ⟨bp, 0, none⟩), .pointer e, .int .u8 73, .bool false, .bool false]⟩ 54 (0, 0)) ∧ Mp .string St h' ms ([] : List (List UInt8 × Value)) ∧
    h'[bp]? = some (.cells ⟨[.map (some mp)]⟩ 98 (0, 0)) ∧ Mp .string St h' mp ([] : List (List UInt8 × Value)) ∧ h.size ≤ ms ∧ ms < mp ∧ h.size ≤ bp ∧ h.size ≤ bs ∧ Ext No h h' := by
  refine calls [(0, _)] Tryz.func7 rfl Tryz.ntmps7 rfl ⟨rfl, trivial⟩ ?_
  all_goals (refine WC.sr ?_; refine Go ?_; refine WC.sr ?_; refine WL.stepR okE_makeMap rfl rfl rfl ?_; rintro _ h1 ⟨b1, rfl, hg1, hb1, hx1⟩; refine WL.call (vs := []) rfl (fun a w => Tryz.call20 a w) rfl (new_port) rfl rfl rfl ?_; rintro _ h2 ⟨bp, mp, rfl, hbp, hmp, hgp, hgm, hx2⟩; refine Go ?_; refine WL.step (ok_buildF (vs := [_, _, _, _]) (cs := [_, _, _, _, _, _]) (fun | [a0, a1, a2, a3] => [a0, a1, a2, a3, (.bool false), (.bool false)] | _ => []) rfl rfl (by kernel_rfl)) rfl rfl rfl ?_; refine WL.stepR (okE_box rfl) rfl rfl rfl ?_; rintro _ h3 ⟨b3, rfl, hg3, hb3, hx3⟩; have l1 := lt_of_some hb1; refine Go ?_; refine Gs [(2, _)] ?_; refine Gt ?_; exact ⟨b3, b1, bp, mp, rfl, hb3, ⟨_, _, (hx2.trans hx3).obj hb1 id, MapKept.stamped_empty 0, rfl⟩, hx3.obj hbp nos, hmp.ext hx3 nos, hg1, by omega, by have := hx1.size; omega, by have := hx1.size; have := hx2.size; omega, (hx1.trans hx2).trans hx3⟩)
section
variable {h : Heap} {b : Nat} {m p : Value} {e : Option Addr} {st : Int} {sk ov : Bool}
set_option maxHeartbeats 2000000 in
set_option maxRecDepth 100000 in
theorem ready_yes {a : Addr} (hb : h[b]? = some (.cells ⟨[m, p, .pointer (some a), .int .u8 st, .bool sk, .bool ov]⟩ 54 (0, 0))) : CallsH Tryz.prog 21 ⟨[.pointer (some ⟨b, 0, none⟩)]⟩ h fun u h' => u = .bool (!ov) ∧ h' = h := by
  cases ov
  all_goals
    refine calls [(0, _)] Tryz.func21 rfl Tryz.ntmps21 rfl ⟨rfl, trivial⟩ ?_
    all_goals (refine WC.sr ?_; refine Go ?_; refine WC.sr ?_; refine Go ?_; refine WL.step (ok_neqPn Tryz.underlying25 rfl rfl) rfl rfl rfl ?_; refine Go ?_; refine goP 5 ?_ TT.mk; refine Gg ?_; refine WL.step (ok_nilCheck rfl) rfl rfl rfl ?_; refine Gg ?_; refine Ld ?_; refine WL.step (ok_neqPn Tryz.underlying27 rfl rfl) rfl rfl rfl ?_; refine Go ?_; refine goP 12 ?_ TT.mk; refine Gg ?_; refine WL.step (ok_nilCheck rfl) rfl rfl rfl ?_; refine Gg ?_; refine Ld ?_; refine Gg ?_; refine Go ?_; refine Gs [(2, _)] ?_; refine Gt ?_; exact ⟨rfl, rfl⟩)
set_option maxHeartbeats 2000000 in
set_option maxRecDepth 100000 in
theorem skips_v (hb : h[b]? = some (.cells ⟨[m, p, .pointer e, .int .u8 st, .bool sk, .bool ov]⟩ 54 (0, 0))) : CallsH Tryz.prog 10 ⟨[.pointer (some ⟨b, 0, none⟩)]⟩ h fun u h' => u = .bool sk ∧ h' = h := by
  refine calls [(0, _)] Tryz.func10 rfl Tryz.ntmps10 rfl ⟨rfl, trivial⟩ ?_
  all_goals (refine WC.sr ?_; refine Go ?_; refine WC.sr ?_; refine Go ?_; refine WL.step (ok_neqPn Tryz.underlying25 rfl rfl) rfl rfl rfl ?_; refine Go ?_; refine goP 5 ?_ TT.mk; refine Gg ?_; refine WL.step (ok_nilCheck rfl) rfl rfl rfl ?_; refine Gg ?_; refine Ld ?_; refine Go ?_; refine Gs [(2, _)] ?_; refine Gt ?_; exact ⟨rfl, rfl⟩)
set_option maxHeartbeats 2000000 in
set_option maxRecDepth 100000 in
theorem over_v (hb : h[b]? = some (.cells ⟨[m, p, .pointer e, .int .u8 st, .bool sk, .bool ov]⟩ 54 (0, 0))) : CallsH Tryz.prog 11 ⟨[.pointer (some ⟨b, 0, none⟩)]⟩ h fun u h' => u = .bool ov ∧ h' = h := by
  refine calls [(0, _)] Tryz.func11 rfl Tryz.ntmps11 rfl ⟨rfl, trivial⟩ ?_
  all_goals (refine WC.sr ?_; refine Go ?_; refine WC.sr ?_; refine Go ?_; refine WL.step (ok_neqPn Tryz.underlying25 rfl rfl) rfl rfl rfl ?_; refine Go ?_; refine goP 5 ?_ TT.mk; refine Gg ?_; refine WL.step (ok_nilCheck rfl) rfl rfl rfl ?_; refine Gg ?_; refine Ld ?_; refine Go ?_; refine Gs [(2, _)] ?_; refine Gt ?_; exact ⟨rfl, rfl⟩)
set_option maxHeartbeats 2000000 in
set_option maxRecDepth 100000 in
theorem status_v (hb : h[b]? = some (.cells ⟨[m, p, .pointer e, .int .u8 st, .bool sk, .bool ov]⟩ 54 (0, 0))) : CallsH Tryz.prog 13 ⟨[.pointer (some ⟨b, 0, none⟩)]⟩ h fun u h' => u = .int .u8 st ∧ h' = h := by
  refine calls [(0, _)] Tryz.func13 rfl Tryz.ntmps13 rfl ⟨rfl, trivial⟩ ?_
  all_goals (refine WC.sr ?_; refine Go ?_; refine WC.seq ?_; refine WC.sr ?_; refine Go ?_; refine WL.step (ok_eqlPn Tryz.underlying25 rfl rfl) rfl rfl rfl ?_; refine Gn ?_; refine goC 1 2 ?_ TT.mk; refine goB 2 ?_; refine WC.skip ?_; refine Gn ?_; refine WC.sr ?_; refine Go ?_; refine WL.step (ok_nilCheck rfl) rfl rfl rfl ?_; refine Go ?_; refine Ld ?_; refine Go ?_; refine Gs [(2, _)] ?_; refine Gt ?_; exact ⟨rfl, rfl⟩)
end
set_option maxHeartbeats 2000000 in
set_option maxRecDepth 100000 in
/-- Names of a session: rising. -/
theorem names_v {h : Heap} {b m : Nat} {p : Value} {e : Option Addr} {st : Int} {sk ov : Bool} {es : List (List UInt8 × Value)} (hb : h[b]? = some (.cells ⟨[.map (some m), p, .pointer e, .int .u8 st, .bool sk, .bool ov]⟩ 54 (0, 0))) (hm : Mp .string St h m es) (hl : es.length ≤ 100000) :
    CallsH Tryz.prog 12 ⟨[.pointer (some ⟨b, 0, none⟩)]⟩ h fun u h' => ∃ N, N.Perm (es.map (·.1)) ∧ Own h' u 9 1 N.length ((srtS N).map St) ∧ Ext No h h' := by
  have hbl := lt_of_some hb
  have hml := hm.lt
  refine calls [(0, _)] Tryz.func12 rfl Tryz.ntmps12 rfl ⟨rfl, trivial⟩ ?_
  all_goals (refine WC.sr ?_; refine Go ?_; refine WC.seq ?_; refine WC.sr ?_; refine Go ?_; refine WL.step (ok_eqlPn Tryz.underlying25 rfl rfl) rfl rfl rfl ?_; refine Gn ?_; refine goC 1 2 ?_ TT.mk; refine goB 2 ?_; refine WC.skip ?_; refine Gn ?_; refine WC.sr ?_; refine Go ?_; refine WC.seq ?_; refine WC.sr ?_; refine Go ?_; refine WL.step (ok_nilCheck rfl) rfl rfl rfl ?_; refine Go ?_; refine Ld ?_; refine WL.stepR (okE_range Tryz.underlying50 rfl (by assumption)) rfl rfl rfl ?_; rintro _ h1 ⟨r1, rfl, hgr1, hit1, hx1⟩; refine Gn ?_; refine Gs [(3, _), (11, _)] ?_; refine WC.block ?_)
  -- loop 0: slots that turn [3], that stay [11]
  all_goals (refine WC.loopG (X := Value × List (List UInt8 × Value)) (fun x => ([(3, x.1)] : Fr)) [(11, _)] (fun x h' => It St h' r1 m es x.2 ∧ Own h' x.1 9 1 (x.2.map (·.1)).length ((x.2.map (·.1)).map St) ∧ Ext (fun k => k = r1) h1 h' ∧ ∀ k, x.1.ownBlock = some k → h1.size ≤ k) (fun x => es.length - x.2.length) ((.slice none 0 0, [])) ⟨rfl, rfl, trivial⟩ (by exact ⟨hit1, Own.nil _ _ _, .refl _ _, by simp [Value.ownBlock]⟩) ?_)
  all_goals (rintro ⟨v2, ds⟩ h2 ⟨hit2, ho2, hx2, hf2⟩
             simp only at hit2 ho2 hf2
             have hdl := sub_len hit2.nd hit2.sub
             have hml2 : (ds.map (·.1)).length = ds.length := List.length_map ..
             have hs2 := hx2.size
             have hrlt := hit1.lt
             have hs1 := hx1.size)
  all_goals (refine WC.sub [(3, _), (11, _)] ⟨rfl, rfl, trivial⟩ ?_; dsimp only)
  all_goals (refine WC.sr ?_; refine WL.stepR (okE_next keyS rfl hit2) rfl rfl rfl ?_; rintro v h3 (⟨rfl, hz, hperm⟩ | ⟨p, rfl, hp3, hnp, hit3, hil3, hx3⟩); try subst h3)
  all_goals (refine Go ?_; refine WC.seq ?_; refine goC 3 4 ?_ TT.mk)
  all_goals (first | (fail_if_success refine goB 3 ?_) | (
  refine goB 3 ?_
  all_goals (refine WC.skip ?_)
  skip))
  all_goals (first | (fail_if_success refine goB 4 ?_) | (
  refine goB 4 ?_
  all_goals (refine WC.exit ?_; repeat' (with_reducible first | refine thenP_x ?_ | refine blockP_miss rfl ?_ | refine blockP_hit ?_ | refine blockP_n ?_ | refine thenP_n ?_))
  all_goals (refine Br.out (i := 1000) ?_)
  skip))
  all_goals (refine Gn ?_; first | (refine Br.keep ?_) | (refine WC.block ?_))
  all_goals (first | (refine Br.keep ?_) | (refine WC.sr ?_))
  all_goals (first | (refine Br.keep ?_) | (refine WL.step (ok_entry rfl hil3) rfl rfl rfl ?_))
  all_goals (refine Go ?_; first | (refine Br.keep ?_) | (refine Gs [(3, _), (4, _), (11, _)] ?_))
  all_goals (first | (refine Br.keep ?_) | (refine WC.region ?_))
  all_goals (refine Go ?_)
  all_goals (first
               | (refine Br.keep ?_)
               | (refine WL.stepR (okE_buildSlice (vs := [_]) (cs := [_]) (fun | [a0] => [a0] | _ => []) Tryz.underlying35 rfl rfl (by kernel_rfl)) rfl rfl rfl ?_
                  rintro _ h4 ⟨b4, rfl, hg4, hb4, hx4⟩))
  all_goals (first
               | (refine Br.keep ?_)
               | (refine WL.stepR (ok_append (sz := 1) (bytes := 16) rfl Tryz.underlying35 (show Tryz.prog.info? 9 = some Tryz.t9 by kernel_rfl) rfl rfl rfl rfl (by decide) rfl rfl ((ho2.ext hx3 (fun k hk e => by have := hf2 k hk; omega)).ext hx4 (fun _ _ => nos)) (rd_blk hb4 rfl) (by simp [Value.oneCell']) (by simp only [maxLen]; omega) (by omega)) rfl rfl rfl ?_
                  rintro v5 h5 ⟨ho5, hx5, hl5⟩))
  all_goals (refine Go ?_; first | (refine Br.keep ?_) | (exact ⟨(_, ds ++ [p]), ⟨rfl, rfl, trivial⟩, (by exact ⟨hit3.ext ((hx4.mono fun _ _ e => e.elim).trans hx5) (fun e => by have := hf2 _ e; omega) (fun e => by have := hf2 _ e; omega), by simpa using ho5, (hx2.trans (hx3.trans' hx4 fun _ _ e => e.elim)).trans' hx5 (fun q hq e => by have := hf2 q e; omega), fresh_of hl5 hf2 (by have := hx3.size; have := hx4.size; omega)⟩), (by have hd3 := sub_len hit3.nd hit3.sub; simp at hd3 ⊢; omega)⟩))
  all_goals (try (refine Br.mk (i := 1000) ?_))
  all_goals (refine Gn ?_; refine WC.sr ?_; refine Go ?_; refine WL.call (vs := [_]) rfl (fun a w => Tryz.call26 a w) rfl (sort_str (ds.map (·.1)) ho2 (by omega)) rfl rfl rfl ?_; rintro _ h4 ⟨rfl, ho4, hx4⟩; refine Gn ?_; refine Gs [(3, _)] ?_; refine WC.sr ?_; refine Go ?_; refine Gt ?_; exact ⟨ds.map (·.1), hperm.map _, ho4, (hx1.trans' hx2 (fun q hq e => by omega)).trans' hx4 (fun q hq e => by have := hf2 q e; omega)⟩)
end Go.Proofs.YtbokngiajfdanaaGreatDoor


/-
  VALUES OF INTERFACE TYPES: made, and held against nil. No program is named here.
-/
namespace Go.RK
open Go

section
variable {P : Program} {f : Fr} {h : Heap} {d : Option Tmp} {ty : TypeId} {pos : String} {af : Array Edge} {g : Option (Nat × Bool)}
theorem ok_mkIface {x : Operand} {t : TypeId} {v : Value} (hu : ∃ u, P.underlying t = some u ∧ ∀ ms, u ≠ .interface ms) (hx : f.ev x = some v) : OkP P f ⟨d, .makeInterface t x, ty, pos, af, g⟩ h (.iface t v) := fun ρ w ha _ => by
  obtain ⟨u, h1, h2⟩ := hu
  have key : (Instr.makeInterface t v).run P w = .ok (.iface t v) w := by
    simp only [Instr.makeInterface, Sem.run_bind, run_underlying h1, Result.andThen_ok]
    cases u <;> first | rfl | exact absurd rfl (h2 _)
  simp [execOp, ha _ _ hx, key]
theorem ok_eqlIh {t t2 u : TypeId} {x y : Operand} {v : Value} (hu : P.underlying t = some (.interface (P.methodsAt t))) (hx : f.ev x = some (.iface u v)) (hy : f.ev y = some .nilIface) : OkP P f ⟨d, .binOp .eql t x y t2, ty, pos, af, g⟩ h (.bool false) := fun ρ w ha _ => by
  simp [execOp, ha _ _ hx, ha _ _ hy, eqGuard_at_iface, run_eql_held_nil w t u v hu]
theorem ok_neqIh {t t2 u : TypeId} {x y : Operand} {v : Value} (hu : P.underlying t = some (.interface (P.methodsAt t))) (hx : f.ev x = some (.iface u v)) (hy : f.ev y = some .nilIface) : OkP P f ⟨d, .binOp .neq t x y t2, ty, pos, af, g⟩ h (.bool true) := fun ρ w ha _ => by
  simp [execOp, ha _ _ hx, ha _ _ hy, eqGuard_at_iface, run_neq_held_nil w t u v hu]
theorem ok_eqlIn {t t2 : TypeId} {x : Operand} {c : Value} (hu : P.underlying t = some (.interface (P.methodsAt t))) (hx : f.ev x = some .nilIface) (hy : f.ev (.const c) = some .nilIface) : OkP P f ⟨d, .binOp .eql t x (.const c) t2, ty, pos, af, g⟩ h (.bool true) := fun ρ w ha _ => by
  have := ha _ _ hy
  simp [execOp, ha _ _ hx, this, eqGuard_nil_constR, run_eql_nil_nil w t hu]
theorem ok_neqIn {t t2 : TypeId} {x : Operand} {c : Value} (hu : P.underlying t = some (.interface (P.methodsAt t))) (hx : f.ev x = some .nilIface) (hy : f.ev (.const c) = some .nilIface) : OkP P f ⟨d, .binOp .neq t x (.const c) t2, ty, pos, af, g⟩ h (.bool false) := fun ρ w ha _ => by
  have := ha _ _ hy
  simp [execOp, ha _ _ hx, this, eqGuard_nil_constR, run_neq_nil_nil w t hu]
end
end Go.RK

/-
  SESSIONS (layers 26, 27, 29): what "begin" says.
-/
namespace Go.Proofs.YtbokngiajfdanaaGreatDoor
open Go Go.RK

abbrev beginL : List UInt8 := ([98, 101, 103, 105, 110] : List UInt8)
set_option maxHeartbeats 2000000 in
set_option maxRecDepth 100000 in
theorem trimL_no {h : Heap} (y : UInt8) (s : List UInt8) (c : Int) (hy : (y.toNat : Int) ≠ c) (hm : s.length ≤ 1000000) : CallsH Tryz.prog 178 ⟨[St (y :: s), .int .u8 c]⟩ h fun u h' => u = St (y :: s) ∧ h' = h := by
  have e0 : (y :: s)[0]? = some y := rfl
  refine calls [(0, _), (1, _)] Tryz.func178 rfl Tryz.ntmps178 rfl ⟨rfl, rfl, trivial⟩ ?_
  all_goals (refine WC.sr ?_; refine Go ?_; refine WC.seq ?_; refine WC.block ?_)
  -- loop 0: slots that turn [0], that stay [1]
  all_goals (refine WC.loopG (X := Unit) (fun x => ([(0, St (y :: s))] : Fr)) [(1, _)] (fun _ h' => h' = h) (fun _ => 0) (()) ⟨rfl, rfl, trivial⟩ (by exact rfl) ?_; rintro _ h1 hz; subst hz; refine WC.sub [(0, _), (1, _)] ⟨rfl, rfl, trivial⟩ ?_; refine WC.seq ?_; refine WC.sr ?_; refine Go ?_; refine goP 8 (Hb.mk fun hb => ?_) (Hb.mk fun hb => ?_))
  all_goals (refine Gg ?_; first | (refine WL.pass rfl rfl rfl ?_) | (refine WL.step (ok_idxS Tryz.underlying9 rfl rfl (by omega) e0) rfl rfl rfl ?_))
  all_goals (refine Gg ?_; refine Go ?_; refine Gs [(0, _), (1, _), (13, _)] ?_; refine goC 1 2 ?_ TT.mk; refine goB 2 ?_; refine WC.exit ?_; repeat' (with_reducible first | refine thenP_x ?_ | refine blockP_miss rfl ?_ | refine blockP_hit ?_ | refine blockP_n ?_ | refine thenP_n ?_))
  all_goals (refine Br.out (i := 1000) ?_; refine Gn ?_; refine Br.keep ?_; refine Br.keep ?_; refine Go ?_; refine Br.keep ?_; refine Go ?_; refine Br.keep ?_; try (refine Br.mk (i := 1000) ?_))
  all_goals (refine Gn ?_; refine WC.sr ?_; refine Go ?_; refine Gs [(4, _)] ?_; refine Gt ?_; first | exact ⟨rfl, rfl⟩ | (exfalso; simp at *; omega))
set_option maxHeartbeats 2000000 in
set_option maxRecDepth 100000 in
theorem trimR_no {h : Heap} (y : UInt8) (s : List UInt8) (c : Int) (hy : (y.toNat : Int) ≠ c) (hm : s.length ≤ 1000000) : CallsH Tryz.prog 179 ⟨[St (s ++ [y]), .int .u8 c]⟩ h fun u h' => u = St (s ++ [y]) ∧ h' = h := by
  have e0 : (s ++ [y])[s.length]? = some y := by simp
  have el : (s ++ [y]).length = s.length + 1 := by simp
  generalize s ++ [y] = t at *
  refine calls [(0, _), (1, _)] Tryz.func179 rfl Tryz.ntmps179 rfl ⟨rfl, rfl, trivial⟩ ?_
  all_goals (refine WC.sr ?_; refine Go ?_; refine WC.seq ?_; refine WC.block ?_)
  -- loop 0: slots that turn [0], that stay [1]
  all_goals (refine WC.loopG (X := Unit) (fun x => ([(0, St t)] : Fr)) [(1, _)] (fun _ h' => h' = h) (fun _ => 0) (()) ⟨rfl, rfl, trivial⟩ (by exact rfl) ?_; rintro _ h1 hz; subst hz; refine WC.sub [(0, _), (1, _)] ⟨rfl, rfl, trivial⟩ ?_; refine WC.seq ?_; refine WC.sr ?_; refine Go ?_; refine goP 8 ?_ TT.mk; refine WL.step (ok_move rfl) rfl rfl rfl ?_; refine WL.step (ok_move rfl) rfl rfl rfl ?_; refine WL.step (ok_lenS rfl Tryz.underlying9 rfl) rfl rfl rfl ?_; refine WL.step (ok_subI rfl rfl (by omega)) rfl rfl rfl ?_; rw [show ((t.length : Int) - 1) = ((s.length : Nat) : Int) by omega])
  all_goals (refine WL.step (ok_idxS Tryz.underlying9 rfl rfl (by omega) e0) rfl rfl rfl ?_; refine Gg ?_; refine Go ?_; refine Gs [(0, _), (1, _), (16, _)] ?_; refine goC 1 2 ?_ TT.mk; refine goB 2 ?_; refine WC.exit ?_; repeat' (with_reducible first | refine thenP_x ?_ | refine blockP_miss rfl ?_ | refine blockP_hit ?_ | refine blockP_n ?_ | refine thenP_n ?_))
  all_goals (refine Br.out (i := 1000) ?_; refine Gn ?_; refine Br.keep ?_; refine Br.keep ?_; refine Go ?_; refine Br.keep ?_; refine Go ?_; refine Br.keep ?_; try (refine Br.mk (i := 1000) ?_))
  all_goals (refine Gn ?_; refine WC.sr ?_; refine Go ?_; refine Gs [(4, _)] ?_; refine Gt ?_; first | exact ⟨rfl, rfl⟩ | (exfalso; simp at *; omega))
set_option maxHeartbeats 2000000 in
set_option maxRecDepth 100000 in
theorem trim_no {h : Heap} (y z : UInt8) (s : List UInt8) (hy : y ≠ 32) (hz : z ≠ 32) (hm : s.length ≤ 1000) : CallsH Tryz.prog 137 ⟨[St (y :: (s ++ [z])), St [32]]⟩ h fun u h' => u = St (y :: (s ++ [z])) ∧ h' = h := by
  have hy' : (y.toNat : Int) ≠ 32 := fun e => hy (UInt8.toNat_inj.1 (by show _ = 32; omega))
  have hz' : (z.toNat : Int) ≠ 32 := fun e => hz (UInt8.toNat_inj.1 (by show _ = 32; omega))
  have k1 := trimR_no (h := h) z (y :: s) 32 hz' (by simp; omega)
  have k2 := trimL_no (h := h) y (s ++ [z]) 32 hy' (by simp; omega)
  rw [List.cons_append] at k1
  have hne : y :: (s ++ [z]) ≠ [] := by simp
  generalize y :: (s ++ [z]) = t at *
  have e0 : ([32] : List UInt8)[0]? = some 32 := rfl
  refine calls [(0, _), (1, _)] Tryz.func137 rfl Tryz.ntmps137 rfl ⟨rfl, rfl, trivial⟩ ?_
  all_goals (refine WC.sr ?_; refine Go ?_; refine WC.seq ?_; refine WC.sr ?_; refine Go ?_; refine goP 9 ?_ TT.mk; refine Gg ?_; refine Go ?_; refine Gs [(0, _), (1, _), (12, _)] ?_; refine goC 1 2 ?_ TT.mk; refine goB 2 ?_; refine WC.skip ?_; refine Gn ?_; refine WC.seq ?_; refine WC.sr ?_; refine Go ?_; refine goP 17 ?_ TT.mk; refine Gg ?_; refine WL.step (ok_idxS Tryz.underlying9 rfl rfl (by omega) e0) rfl rfl rfl ?_; refine Gg ?_; refine Go ?_; refine Gs [(0, _), (1, _), (21, _)] ?_; refine goC 3 4 ?_ TT.mk; refine goB 3 ?_; refine WC.seq ?_; refine WC.drawH (fun h' => h' = h) 7 8 rfl fol ?_; refine WH.tk 0 rfl (fun hq hC => ok_move rfl) rfl rfl rfl ?_ (hC := rfl); refine WH.tk 1 rfl (fun hq hC => ok_move rfl) rfl rfl rfl ?_ (hC := rfl); refine WH.tk 2 rfl (fun hq hC => ok_idxS Tryz.underlying9 rfl rfl (by omega) e0) rfl rfl rfl ?_ (hC := rfl); refine WH.tk 4 rfl (fun hq hC => ok_move rfl) rfl rfl rfl ?_ (hC := rfl); refine WH.tk 5 rfl (fun hq hC => ok_idxS Tryz.underlying9 rfl rfl (by omega) e0) rfl rfl rfl ?_ (hC := rfl); refine WH.one 3 (by kernel_rfl) ?_; refine Comes1.call (vs := [_, _]) rfl rfl (fun a w => Tryz.call179 a w) rfl (k1) rfl rfl rfl ?_ (fun _ => by kernel_rfl); rintro _ hq ⟨rfl, hz1⟩; subst hz1; refine ⟨fun _ => rfl, ?_⟩; refine WH.one 6 (by kernel_rfl) ?_; refine Comes1.call (vs := [_, _]) rfl rfl (fun a w => Tryz.call178 a w) rfl (k2) rfl rfl rfl ?_ (fun _ => by kernel_rfl); rintro _ hq ⟨rfl, hz2⟩; subst hz2; refine ⟨fun _ => rfl, ?_⟩; refine WH.one 7 (by kernel_rfl) ?_; refine Comes1.run rfl (OkP.r (ok_assign rfl)) rfl rfl rfl ?_ (fun _ => by kernel_rfl); rintro _ hz ⟨rfl, _⟩; subst hz; refine ⟨fun e => (by cases e), ?_⟩; refine WH.done (by kernel_rfl) ?_; refine Gn ?_; refine Gs [(4, _)] ?_; refine Gt ?_; exact ⟨rfl, rfl⟩)
set_option maxHeartbeats 2000000 in
set_option maxRecDepth 100000 in
theorem word_begin {h : Heap} : CallsH Tryz.prog 138 ⟨[St beginL]⟩ h fun u h' => u = .tuple ⟨[In 2, .bool true]⟩ ∧ h' = h := by
  refine calls [(0, _)] Tryz.func138 rfl Tryz.ntmps138 rfl ⟨rfl, trivial⟩ ?_
  all_goals (refine WC.sr ?_; refine Go ?_; refine WC.seq ?_; refine WC.sr ?_; refine Go ?_; refine WC.block ?_; refine WC.sr ?_; refine Go ?_; refine Gs [(4, _), (5, _)] ?_; refine goC 1 2 ?_ TT.mk; refine goB 2 ?_; refine WC.sr ?_; refine Go ?_; refine goC 3 4 ?_ TT.mk; refine goB 3 ?_; refine WC.sr ?_; refine Go ?_; refine Gs [(2, _), (3, _)] ?_; refine Gt ?_; exact ⟨rfl, rfl⟩)
/-- A verb's cells. -/
def veC (k n : Int) (c : List UInt8) : List Value := [In k, In n, St c]
set_option maxHeartbeats 2000000 in
set_option maxRecDepth 100000 in
theorem parse_begin {h : Heap} : CallsH Tryz.prog 89 ⟨[St beginL]⟩ h fun u h' => u = .agg ⟨veC 2 0 []⟩ ∧ Ext No h h' := by
  have kt := fun h' => trim_no (h := h') 98 110 [101, 103, 105] (by decide) (by decide) (by decide)
  unfold veC
  refine calls [(0, _)] Tryz.func89 rfl Tryz.ntmps89 rfl ⟨rfl, trivial⟩ ?_
  all_goals (refine WC.sr ?_; refine WL.stepR (okE_alloc (fun w => Tryz.zeroValue152 w)) rfl rfl rfl ?_; rintro _ h1 ⟨b2, rfl, hg2, hb2, hx2⟩; refine Gn ?_; refine WC.sr ?_; refine Go ?_; refine WL.call (vs := [_, _]) rfl (fun a w => Tryz.call137 a w) rfl (kt _) rfl rfl rfl ?_; rintro _ hq ⟨rfl, hz⟩; subst hz; refine Go ?_; refine WC.seq ?_; refine WC.sr ?_; refine Go ?_; refine WL.call (vs := [_]) rfl (fun a w => Tryz.call138 a w) rfl (word_begin) rfl rfl rfl ?_; rintro _ hq ⟨rfl, hz⟩; subst hz; refine Go ?_; refine Gs [(2, _), (3, _), (4, _), (5, _)] ?_; refine WC.sr ?_; refine Go ?_; refine goC 1 2 ?_ TT.mk; refine goB 1 ?_; refine WC.sr ?_; refine Go ?_; refine WL.step (ok_buildF (vs := [_]) (cs := [_, _, _]) (fun | [a0] => [a0, (.int .i64 0), (St [])] | _ => []) rfl rfl (by kernel_rfl)) rfl rfl rfl ?_; refine WL.stepR0 (okE_storeW (fun w => Tryz.sizeOf152 w) rfl rfl rfl hb2 rfl (by simp [Value.oneCell'])) rfl rfl ?_; rintro _ h3 ⟨hb3, hx3⟩; refine Gn ?_; refine Gs [(2, _)] ?_; refine WC.ret ?_; repeat' (with_reducible first | refine thenP_r ?_ | refine blockP_r ?_))
  all_goals (refine retP_1 _ ⟨⟨_, rfl, ld_blk (fun w => Tryz.isAgg152 w) (fun w => Tryz.sizeOf152 w) hb3 rfl⟩, trivial⟩ ?_; exact ⟨rfl, hx2.trans' hx3 (fun q hq e => by omega)⟩)
set_option maxHeartbeats 2000000 in
set_option maxRecDepth 100000 in
theorem contains_v {h : Heap} {A : Option Addr} {c : Nat} (l : List Int) (x : Int) (hr : Rd h (.slice A l.length c) 1 l.length (ints l)) (hm : l.length ≤ maxLen) :
    CallsH Tryz.prog 188 ⟨[.slice A l.length c, In x]⟩ h fun u h' => u = .bool (decide (0 ≤ idxOf l x)) ∧ h' = h := by
  refine calls [(0, _), (1, _)] Tryz.func188 rfl Tryz.ntmps188 rfl ⟨rfl, rfl, trivial⟩ ?_
  all_goals (refine WC.sr ?_; refine Go ?_; refine WC.sr ?_; refine Go ?_; refine WL.call (vs := [_, _]) rfl (fun a w => Tryz.call211 a w) rfl (index_int l x hr hm) rfl rfl rfl ?_; rintro _ hq ⟨rfl, hz⟩; subst hz; refine WL.step (ok_geq rfl rfl) rfl rfl rfl ?_; refine Go ?_; refine Gs [(4, _)] ?_; refine Gt ?_; exact ⟨rfl, rfl⟩)
set_option maxHeartbeats 2000000 in
set_option maxRecDepth 100000 in
theorem one_v {h : Heap} {A : Option Addr} {cc : Nat} (k n : Int) (c : List UInt8) (l : List Int) (hr : Rd h (.slice A l.length cc) 1 l.length (ints l)) (hm : l.length ≤ maxLen) :
    CallsH Tryz.prog 141 ⟨[.agg ⟨veC k n c⟩, .slice A l.length cc]⟩ h fun u h' => u = .bool (decide (k ∈ l)) ∧ Ext No h h' := by
  have e : decide (0 ≤ idxOf l k) = decide (k ∈ l) := by
    rcases idxOf_cases l k with ⟨e, hn⟩ | ⟨j, e, hj, _⟩
    · rw [e, decide_eq_false hn]; rfl
    · rw [e, decide_eq_true (List.mem_of_getElem? hj)]; simp
  unfold veC
  refine calls [(0, _), (1, _)] Tryz.func141 rfl Tryz.ntmps141 rfl ⟨rfl, rfl, trivial⟩ ?_
  all_goals (refine WC.sr ?_; refine WL.stepR (okE_box rfl) rfl rfl rfl ?_; rintro _ h1 ⟨b2, rfl, hg2, hb2, hx2⟩; refine Go ?_; refine WC.sr ?_; refine Go ?_; refine WL.ld rfl (by first | exact cell_blk hb2 rfl | assumption | exact cell_blk (by assumption) rfl) rfl rfl rfl ?_; refine WL.call (vs := [_, _]) rfl (fun a w => Tryz.call188 a w) rfl (contains_v l k (hr.ext0 hx2) hm) rfl rfl rfl ?_; rintro _ hq ⟨rfl, hz⟩; subst hz; rw [e])
  all_goals (refine Go ?_; refine Gs [(4, _)] ?_; refine Gt ?_; exact ⟨rfl, hx2⟩)
set_option maxHeartbeats 2000000 in
set_option maxRecDepth 100000 in
theorem exit_v {h : Heap} (k n : Int) (c : List UInt8) : CallsH Tryz.prog 151 ⟨[.agg ⟨veC k n c⟩]⟩ h fun u h' => u = .bool (decide (k = 3 ∨ k = 4)) ∧ Ext No h h' := by
  have ko := fun h' (A : Option Addr) (cc : Nat) => one_v (h := h') (A := A) (cc := cc) k n c [3, 4]
  unfold veC at *
  refine calls [(0, _)] Tryz.func151 rfl Tryz.ntmps151 rfl ⟨rfl, trivial⟩ ?_
  all_goals (refine WC.sr ?_; refine WL.stepR (okE_box rfl) rfl rfl rfl ?_; rintro _ h1 ⟨b2, rfl, hg2, hb2, hx2⟩; refine Go ?_; refine WC.sr ?_; refine WL.step (ok_loadN (fun w => Tryz.isAgg152 w) (fun w => Tryz.sizeOf152 w) rfl rfl (by exact At.of_block hb2)) rfl rfl rfl ?_; refine WL.stepR (okE_buildSlice (vs := [_, _]) (cs := [_, _]) (fun | [a0, a1] => [a0, a1] | _ => []) Tryz.underlying29 rfl rfl (by kernel_rfl)) rfl rfl rfl ?_; rintro _ h3 ⟨b3, rfl, hg3, hb3, hx3⟩; refine WL.call (vs := [_, _]) rfl (fun a w => Tryz.call141 a w) rfl (ko _ _ _ (rd_blk hb3 rfl) (by decide)) rfl rfl rfl ?_; rintro _ h4 ⟨rfl, hx4⟩; refine Go ?_; refine Gs [(2, _)] ?_; refine Gt ?_; exact ⟨by simp, (hx2.trans hx3).trans hx4⟩)
set_option maxHeartbeats 2000000 in
set_option maxRecDepth 100000 in
theorem rowsV_v {h : Heap} (k n : Int) (c : List UInt8) : CallsH Tryz.prog 90 ⟨[.agg ⟨veC k n c⟩]⟩ h fun u h' => u = .bool (decide (k = 5 ∨ k = 6 ∨ k = 7)) ∧ Ext No h h' := by
  have ko := fun h' (A : Option Addr) (cc : Nat) => one_v (h := h') (A := A) (cc := cc) k n c [5, 6, 7]
  unfold veC at *
  refine calls [(0, _)] Tryz.func90 rfl Tryz.ntmps90 rfl ⟨rfl, trivial⟩ ?_
  all_goals (refine WC.sr ?_; refine WL.stepR (okE_box rfl) rfl rfl rfl ?_; rintro _ h1 ⟨b2, rfl, hg2, hb2, hx2⟩; refine Go ?_; refine WC.sr ?_; refine WL.step (ok_loadN (fun w => Tryz.isAgg152 w) (fun w => Tryz.sizeOf152 w) rfl rfl (by exact At.of_block hb2)) rfl rfl rfl ?_; refine WL.stepR (okE_buildSlice (vs := [_, _, _]) (cs := [_, _, _]) (fun | [a0, a1, a2] => [a0, a1, a2] | _ => []) Tryz.underlying29 rfl rfl (by kernel_rfl)) rfl rfl rfl ?_; rintro _ h3 ⟨b3, rfl, hg3, hb3, hx3⟩; refine WL.call (vs := [_, _]) rfl (fun a w => Tryz.call141 a w) rfl (ko _ _ _ (rd_blk hb3 rfl) (by decide)) rfl rfl rfl ?_; rintro _ h4 ⟨rfl, hx4⟩; refine Go ?_; refine Gs [(2, _)] ?_; refine Gt ?_; exact ⟨by simp, (hx2.trans hx3).trans hx4⟩)
set_option maxHeartbeats 2000000 in
set_option maxRecDepth 100000 in
theorem held_73 {h : Heap} : CallsH Tryz.prog 102 ⟨[.int .u8 73]⟩ h fun u h' => u = .int .u8 73 ∧ h' = h := by
  have kr : CallsH Tryz.prog 153 ⟨[.int .u8 73]⟩ h fun u h' => u = .bool true ∧ h' = h := by
    refine calls [(0, _)] Tryz.func153 rfl Tryz.ntmps153 rfl ⟨rfl, trivial⟩ ?_
    all_goals (refine WC.sr ?_; refine Go ?_; refine WC.seq ?_; refine WC.sr ?_; refine Go ?_; refine WC.block ?_; refine WC.seq ?_; refine WC.sr ?_; refine Go ?_; refine goC 1 2 ?_ TT.mk; refine goB 1 ?_; refine WC.skip ?_; refine Gn ?_; refine goC 5 6 ?_ TT.mk; refine goB 5 ?_; refine WC.sr ?_; refine Go ?_; refine Gt ?_; exact ⟨rfl, rfl⟩)
  refine calls [(0, _)] Tryz.func102 rfl Tryz.ntmps102 rfl ⟨rfl, trivial⟩ ?_
  all_goals (refine WC.sr ?_; refine Go ?_; refine WC.seq ?_; refine WC.sr ?_; refine Go ?_; refine WL.call (vs := [_]) rfl (fun a w => Tryz.call153 a w) rfl (kr) rfl rfl rfl ?_; rintro _ hz ⟨rfl, _⟩; subst hz; refine Go ?_; refine goC 1 2 ?_ TT.mk; refine goB 2 ?_; refine WC.skip ?_; refine Gn ?_; refine Gs [(0, _)] ?_; refine WC.sr ?_; refine Go ?_; refine Gt ?_; exact ⟨rfl, rfl⟩)
set_option maxHeartbeats 2000000 in
set_option maxRecDepth 100000 in
theorem next_begin {h : Heap} : CallsH Tryz.prog 150 ⟨[.int .u8 73, .agg ⟨veC 2 0 []⟩]⟩ h fun u h' => u = .tuple ⟨[.int .u8 84, St ([66, 69, 71, 73, 78] : List UInt8)]⟩ ∧ Ext No h h' := by
  have ke := fun h' => exit_v (h := h') 2 0 []
  unfold veC at *
  refine calls [(0, _), (1, _)] Tryz.func150 rfl Tryz.ntmps150 rfl ⟨rfl, rfl, trivial⟩ ?_
  all_goals (refine WC.sr ?_; refine WL.stepR (okE_box rfl) rfl rfl rfl ?_; rintro _ h1 ⟨b2, rfl, hg2, hb2, hx2⟩; refine Go ?_; refine WC.sr ?_; refine Go ?_; refine WL.call (vs := [_]) rfl (fun a w => Tryz.call102 a w) rfl (held_73) rfl rfl rfl ?_; rintro _ hz ⟨rfl, _⟩; subst hz; refine Go ?_; refine Gs [(0, _), (3, _)] ?_; refine WC.seq ?_; refine WC.sr ?_; refine WL.step (ok_loadN (fun w => Tryz.isAgg152 w) (fun w => Tryz.sizeOf152 w) rfl rfl (by exact At.of_block hb2)) rfl rfl rfl ?_; refine WL.call (vs := [_]) rfl (fun a w => Tryz.call151 a w) rfl (ke _) rfl rfl rfl ?_; rintro _ h3 ⟨rfl, hx3⟩; have hb3 := hx3.obj hb2 nos; refine Gn ?_; refine goC 1 2 ?_ TT.mk; refine goB 2 ?_; refine WC.skip ?_; refine Gn ?_; refine WC.seq ?_; refine WC.sr ?_; refine Go ?_; refine WL.ld rfl (by first | exact cell_blk hb3 rfl | assumption | exact cell_blk (by assumption) rfl) rfl rfl rfl ?_; refine Go ?_; refine Gs [(0, _), (15, _)] ?_; refine goC 3 4 ?_ TT.mk; refine goB 4 ?_; refine WC.skip ?_; refine Gn ?_; refine WC.seq ?_; refine WC.sr ?_; refine Go ?_; refine goC 5 6 ?_ TT.mk; refine goB 5 ?_; refine WC.region ?_; refine Go ?_; refine Gn ?_; refine WC.sr ?_; refine Go ?_; refine Gs [(4, _), (5, _)] ?_; refine Gt ?_; exact ⟨rfl, hx2.trans hx3⟩)
end Go.Proofs.YtbokngiajfdanaaGreatDoor


/-
  STATEMENTS' TEXTS (layer 26), by the code: blanks at the ends, the first word.
-/
namespace Go.Proofs.YtbokngiajfdanaaGreatDoor
open Go Go.RK

def trL (s : List UInt8) : List UInt8 := s.dropWhile (· == 32)
def trR (s : List UInt8) : List UInt8 := (s.reverse.dropWhile (· == 32)).reverse
def trimP (s : List UInt8) : List UInt8 := trL (trR s)
theorem trL_len (s : List UInt8) : (trL s).length ≤ s.length := (List.dropWhile_sublist _).length_le
theorem trR_len (s : List UInt8) : (trR s).length ≤ s.length := by unfold trR; rw [List.length_reverse]; have := (List.dropWhile_sublist (l := s.reverse) (· == (32 : UInt8))).length_le; simpa using this
theorem trR_snoc (s : List UInt8) : trR (s ++ [32]) = trR s := by simp [trR]
theorem trR_no {s : List UInt8} {y : UInt8} (hy : y ≠ 32) : trR (s ++ [y]) = s ++ [y] := by simp [trR, hy]
theorem trL_no {s : List UInt8} {y : UInt8} (hy : y ≠ 32) : trL (y :: s) = y :: s := by simp [trL, hy]
theorem head32 (x : List UInt8) : x = [] ∨ (∃ r, x = 32 :: r ∧ x.length = r.length + 1) ∨ ∃ y r, x = y :: r ∧ x.length = r.length + 1 ∧ y ≠ 32 ∧ (y.toNat : Int) ≠ 32 := by
  rcases x with _ | ⟨y, r⟩
  · exact .inl rfl
  · by_cases hy : y = 32
    · exact .inr (.inl ⟨r, by rw [hy], rfl⟩)
    · exact .inr (.inr ⟨y, r, rfl, rfl, hy, fun e => hy (UInt8.toNat_inj.1 (by show _ = 32; omega))⟩)
theorem last32 (x : List UInt8) : x = [] ∨ (∃ r, x = r ++ [32] ∧ x.length = r.length + 1) ∨ ∃ y r, x = r ++ [y] ∧ x.length = r.length + 1 ∧ y ≠ 32 ∧ (y.toNat : Int) ≠ 32 := by
  rcases head32 x.reverse with e | ⟨r, e, e1⟩ | ⟨y, r, e, e1, h1, h2⟩
  · exact .inl (by simpa using e)
  · exact .inr (.inl ⟨r.reverse, by simpa using congrArg List.reverse e, by simpa using e1⟩)
  · exact .inr (.inr ⟨y, r.reverse, by simpa using congrArg List.reverse e, by simpa using e1, h1, h2⟩)
theorem get_last (r : List UInt8) (y : UInt8) : (r ++ [y])[((r.length : Int)).toNat]? = some y := by simp
theorem take_last (r : List UInt8) (y : UInt8) : (r ++ [y]).take (((r.length : Nat) : Int)).toNat = r := by simp
theorem i32 : (((32 : UInt8).toNat : Nat) : Int) = 32 := rfl
set_option maxHeartbeats 2000000 in
set_option maxRecDepth 100000 in
theorem trimL_v {h : Heap} (s : List UInt8) : CallsH Tryz.prog 178 ⟨[St s, .int .u8 32]⟩ h fun u h' => u = St (trL s) ∧ h' = h := by
  refine calls [(0, _), (1, _)] Tryz.func178 rfl Tryz.ntmps178 rfl ⟨rfl, rfl, trivial⟩ ?_
  all_goals (refine WC.sr ?_; refine Go ?_; refine WC.seq ?_; refine WC.block ?_)
  -- loop 0: slots that turn [0], that stay [1]
  all_goals (refine WC.loopG (X := List UInt8) (fun x => ([(0, St x)] : Fr)) [(1, _)] (fun x h' => h' = h ∧ trL x = trL s ∧ x.length ≤ s.length) (fun x => x.length) (s) ⟨rfl, rfl, trivial⟩ (by exact ⟨rfl, rfl, Nat.le_refl _⟩) ?_; rintro x h1 ⟨hz, hx, hl⟩; subst hz; (have e0 : ∀ (y : UInt8) (r : List UInt8), (y :: r)[0]? = some y := fun _ _ => rfl); have hi := i32; rcases head32 x with rfl | ⟨r, rfl, hcl⟩ | ⟨y, r, rfl, hcl, hy, hyi⟩)
  all_goals (refine WC.sub [(0, _), (1, _)] ⟨rfl, rfl, trivial⟩ ?_; refine WC.seq ?_; refine WC.sr ?_; refine Go ?_; refine goP 8 ?_ TT.mk; refine Gg ?_; first | (refine WL.pass rfl rfl rfl ?_) | (refine WL.step (ok_idxS Tryz.underlying9 rfl rfl (by omega) (e0 _ _)) rfl rfl rfl ?_))
  all_goals (refine Gg ?_; refine Go ?_; refine Gs [(0, _), (1, _), (13, _)] ?_; refine goC 1 2 ?_ TT.mk)
  all_goals (first | (fail_if_success refine goB 1 ?_) | (
  refine goB 1 ?_
  all_goals (refine WC.skip ?_)
  skip))
  all_goals (first | (fail_if_success refine goB 2 ?_) | (
  refine goB 2 ?_
  all_goals (refine WC.exit ?_; repeat' (with_reducible first | refine thenP_x ?_ | refine blockP_miss rfl ?_ | refine blockP_hit ?_ | refine blockP_n ?_ | refine thenP_n ?_))
  all_goals (refine Br.out (i := 1000) ?_)
  skip))
  all_goals (refine Gn ?_; first | (refine Br.keep ?_) | (refine WC.block ?_))
  all_goals (first | (refine Br.keep ?_) | (refine WC.region ?_))
  all_goals (refine Go ?_; first | (refine Br.keep ?_) | (refine WL.step (ok_slice_sl Tryz.underlying9 rfl rfl (by first | omega | (simp <;> omega))) rfl rfl rfl ?_))
  all_goals (refine Go ?_; first | (refine Br.keep ?_) | (exact ⟨r, ⟨rfl, rfl, trivial⟩, (by exact ⟨rfl, by rw [← hx]; simp [trL], by simp at hl; omega⟩), (by simp)⟩))
  all_goals (try (refine Br.mk (i := 1000) ?_))
  all_goals (refine Gn ?_; refine WC.sr ?_; refine Go ?_; refine Gs [(4, _)] ?_; refine Gt ?_; exact ⟨congrArg St (by rw [← hx]; first | rfl | rw [trL_no hy]), rfl⟩)
set_option maxHeartbeats 2000000 in
set_option maxRecDepth 100000 in
theorem trimR_v {h : Heap} (s : List UInt8) (hm : s.length ≤ 1000000) : CallsH Tryz.prog 179 ⟨[St s, .int .u8 32]⟩ h fun u h' => u = St (trR s) ∧ h' = h := by
  refine calls [(0, _), (1, _)] Tryz.func179 rfl Tryz.ntmps179 rfl ⟨rfl, rfl, trivial⟩ ?_
  all_goals (refine WC.sr ?_; refine Go ?_; refine WC.seq ?_; refine WC.block ?_)
  -- loop 0: slots that turn [0], that stay [1]
  all_goals (refine WC.loopG (X := List UInt8) (fun x => ([(0, St x)] : Fr)) [(1, _)] (fun x h' => h' = h ∧ trR x = trR s ∧ x.length ≤ s.length) (fun x => x.length) (s) ⟨rfl, rfl, trivial⟩ (by exact ⟨rfl, rfl, Nat.le_refl _⟩) ?_; rintro x h1 ⟨hz, hx, hl⟩; subst hz; have hi := i32; rcases last32 x with rfl | ⟨r, rfl, hcl⟩ | ⟨y, r, rfl, hcl, hy, hyi⟩)
  all_goals (refine WC.sub [(0, _), (1, _)] ⟨rfl, rfl, trivial⟩ ?_; refine WC.seq ?_; refine WC.sr ?_; refine Go ?_; refine goP 8 ?_ TT.mk; first | (refine WL.pass rfl rfl rfl ?_) | (refine WL.step (ok_move rfl) rfl rfl rfl ?_))
  all_goals (first | (refine WL.pass rfl rfl rfl ?_) | (refine WL.step (ok_move rfl) rfl rfl rfl ?_))
  all_goals (first | (refine WL.pass rfl rfl rfl ?_) | (refine WL.step (ok_lenS rfl Tryz.underlying9 rfl) rfl rfl rfl ?_))
  all_goals (first | (refine WL.pass rfl rfl rfl ?_) | (refine WL.step (ok_subI rfl rfl (by omega)) rfl rfl rfl ?_))
  all_goals (try rw [hcl, show (((r.length + 1 : Nat) : Int) - 1) = ((r.length : Nat) : Int) by omega])
  all_goals (first | (refine WL.pass rfl rfl rfl ?_) | (refine WL.step (ok_idxS Tryz.underlying9 rfl rfl (by omega) (get_last r _)) rfl rfl rfl ?_))
  all_goals (refine Gg ?_; refine Go ?_; refine Gs [(0, _), (1, _), (16, _)] ?_; refine goC 1 2 ?_ TT.mk)
  all_goals (first | (fail_if_success refine goB 1 ?_) | (
  refine goB 1 ?_
  all_goals (refine WC.skip ?_)
  skip))
  all_goals (first | (fail_if_success refine goB 2 ?_) | (
  refine goB 2 ?_
  all_goals (refine WC.exit ?_; repeat' (with_reducible first | refine thenP_x ?_ | refine blockP_miss rfl ?_ | refine blockP_hit ?_ | refine blockP_n ?_ | refine thenP_n ?_))
  all_goals (refine Br.out (i := 1000) ?_)
  skip))
  all_goals (refine Gn ?_; first | (refine Br.keep ?_) | (refine WC.block ?_))
  all_goals (first | (refine Br.keep ?_) | (refine WC.region ?_))
  all_goals (first | (refine Br.keep ?_) | (refine WL.step (ok_move rfl) rfl rfl rfl ?_))
  all_goals (first | (refine Br.keep ?_) | (refine WL.step (ok_move rfl) rfl rfl rfl ?_))
  all_goals (first | (refine Br.keep ?_) | (refine WL.step (ok_lenS rfl Tryz.underlying9 rfl) rfl rfl rfl ?_))
  all_goals (first | (refine Br.keep ?_) | (refine WL.step (ok_subI rfl rfl (by omega)) rfl rfl rfl ?_))
  all_goals (first | (refine Br.keep ?_) | (rw [hcl, show (((r.length + 1 : Nat) : Int) - 1) = ((r.length : Nat) : Int) by omega]))
  all_goals (first | (refine Br.keep ?_) | (refine WL.step (ok_slice_sh Tryz.underlying9 rfl rfl (by first | omega | (simp <;> omega))) rfl rfl rfl ?_))
  all_goals (first | (refine Br.keep ?_) | (try rw [take_last]))
  all_goals (refine Go ?_; first | (refine Br.keep ?_) | (exact ⟨r, ⟨rfl, rfl, trivial⟩, (by exact ⟨rfl, by rw [← hx, trR_snoc], by simp at hl; omega⟩), (by simp)⟩))
  all_goals (try (refine Br.mk (i := 1000) ?_))
  all_goals (refine Gn ?_; refine WC.sr ?_; refine Go ?_; refine Gs [(4, _)] ?_; refine Gt ?_; exact ⟨congrArg St (by rw [← hx]; first | rfl | rw [trR_no hy]), rfl⟩)
set_option maxHeartbeats 2000000 in
set_option maxRecDepth 100000 in
theorem trim_v {h : Heap} (s : List UInt8) (hm : s.length ≤ 1000000) : CallsH Tryz.prog 137 ⟨[St s, St [32]]⟩ h fun u h' => u = St (trimP s) ∧ h' = h := by
  have k1 := trimR_v (h := h) s hm
  have k2 := trimL_v (h := h) (trR s)
  have e0 : ([32] : List UInt8)[0]? = some 32 := rfl
  by_cases hs : s = []
  · subst hs
    refine calls [(0, _), (1, _)] Tryz.func137 rfl Tryz.ntmps137 rfl ⟨rfl, rfl, trivial⟩ ?_
    all_goals (refine WC.sr ?_; refine Go ?_; refine WC.seq ?_; refine WC.sr ?_; refine Go ?_; refine goP 9 ?_ TT.mk; refine Gg ?_; refine Go ?_; refine Gs [(0, _), (1, _), (12, _)] ?_; refine goC 1 2 ?_ TT.mk; refine goB 1 ?_; refine WC.sr ?_; refine Go ?_; refine Gs [(4, _)] ?_; refine Gt ?_; exact ⟨rfl, rfl⟩)
  · have hs' : s ≠ [] := hs
    refine calls [(0, _), (1, _)] Tryz.func137 rfl Tryz.ntmps137 rfl ⟨rfl, rfl, trivial⟩ ?_
    all_goals (refine WC.sr ?_; refine Go ?_; refine WC.seq ?_; refine WC.sr ?_; refine Go ?_; refine goP 9 ?_ TT.mk; refine Gg ?_; refine Go ?_; refine Gs [(0, _), (1, _), (12, _)] ?_; refine goC 1 2 ?_ TT.mk; refine goB 2 ?_; refine WC.skip ?_; refine Gn ?_; refine WC.seq ?_; refine WC.sr ?_; refine Go ?_; refine goP 17 ?_ TT.mk; refine Gg ?_; refine WL.step (ok_idxS Tryz.underlying9 rfl rfl (by omega) e0) rfl rfl rfl ?_; refine Gg ?_; refine Go ?_; refine Gs [(0, _), (1, _), (21, _)] ?_; refine goC 3 4 ?_ TT.mk; refine goB 3 ?_; refine WC.seq ?_; refine WC.drawH (fun h' => h' = h) 7 8 rfl fol ?_; refine WH.tk 0 rfl (fun hq hC => ok_move rfl) rfl rfl rfl ?_ (hC := rfl); refine WH.tk 1 rfl (fun hq hC => ok_move rfl) rfl rfl rfl ?_ (hC := rfl); refine WH.tk 2 rfl (fun hq hC => ok_idxS Tryz.underlying9 rfl rfl (by omega) e0) rfl rfl rfl ?_ (hC := rfl); refine WH.tk 4 rfl (fun hq hC => ok_move rfl) rfl rfl rfl ?_ (hC := rfl); refine WH.tk 5 rfl (fun hq hC => ok_idxS Tryz.underlying9 rfl rfl (by omega) e0) rfl rfl rfl ?_ (hC := rfl); refine WH.one 3 (by kernel_rfl) ?_; refine Comes1.call (vs := [_, _]) rfl rfl (fun a w => Tryz.call179 a w) rfl (k1) rfl rfl rfl ?_ (fun _ => by kernel_rfl); rintro _ hq ⟨rfl, hz1⟩; subst hz1; refine ⟨fun _ => rfl, ?_⟩; refine WH.one 6 (by kernel_rfl) ?_; refine Comes1.call (vs := [_, _]) rfl rfl (fun a w => Tryz.call178 a w) rfl (k2) rfl rfl rfl ?_ (fun _ => by kernel_rfl); rintro _ hq ⟨rfl, hz2⟩; subst hz2; refine ⟨fun _ => rfl, ?_⟩; refine WH.one 7 (by kernel_rfl) ?_; refine Comes1.run rfl (OkP.r (ok_assign rfl)) rfl rfl rfl ?_ (fun _ => by kernel_rfl); rintro _ hz ⟨rfl, _⟩; subst hz; refine ⟨fun e => (by cases e), ?_⟩; refine WH.done (by kernel_rfl) ?_; refine Gn ?_; refine Gs [(4, _)] ?_; refine Gt ?_; exact ⟨rfl, rfl⟩)
/-- The first blank. -/
theorem ixl_v {h : Heap} (s : List UInt8) (c : UInt8) : CallsH Tryz.prog 116 ⟨[St s, By c]⟩ h fun u h' => u = In (Lib.indexByte s c) ∧ h' = h := fun w hw =>
  (Tryz.stringslite_IndexByte ⟨⟨s⟩⟩ c.toNat w).mono fun e w' ⟨he, hb⟩ => ⟨⟨by rw [hb], by rw [hb], by rw [hb], trivial⟩, _, he, by rw [show ((c.toNat : Int)).toNat.toUInt8 = c by simp], by rw [hb, hw]⟩
set_option maxHeartbeats 2000000 in
set_option maxRecDepth 100000 in
theorem index_v {h : Heap} (s : List UInt8) : CallsH Tryz.prog 209 ⟨[St s, St [32]]⟩ h fun u h' => u = In (Lib.indexByte s 32) ∧ h' = h := by
  have e0 : ([32] : List UInt8)[0]? = some 32 := rfl
  have k1 := ixl_v (h := h) s 32
  by_cases hs : s = [32]
  · subst hs
    refine calls [(0, _), (1, _)] Tryz.func209 rfl Tryz.ntmps209 rfl ⟨rfl, rfl, trivial⟩ ?_
    all_goals (refine WC.sr ?_; refine Go ?_; refine WC.sr ?_; refine Go ?_; refine WC.seq ?_; refine WC.block ?_; refine WC.sr ?_; refine Go ?_; refine goP 19 ?_ TT.mk; refine Gg ?_; refine Go ?_; refine Gs [(0, _), (1, _), (5, _), (16, _)] ?_; refine goC 1 2 ?_ TT.mk; refine goB 1 ?_; refine WC.sr ?_; refine Go ?_; refine Gs [(4, _)] ?_; refine Gt ?_; exact ⟨rfl, rfl⟩)
    -- loop 0: slots that turn [8, 10], that stay [0, 1, 5, 6, 7, 9]
  · have hs' : ¬ [32] = s := fun e => hs e.symm
    refine calls [(0, _), (1, _)] Tryz.func209 rfl Tryz.ntmps209 rfl ⟨rfl, rfl, trivial⟩ ?_
    all_goals (refine WC.sr ?_; refine Go ?_; refine WC.sr ?_; refine Go ?_; refine WC.seq ?_; refine WC.block ?_; refine WC.sr ?_; refine Go ?_; refine goP 19 ?_ TT.mk; refine Gg ?_; refine Go ?_; refine Gs [(0, _), (1, _), (5, _), (16, _)] ?_; refine goC 1 2 ?_ TT.mk; refine goB 2 ?_; refine WC.sr ?_; refine Go ?_; refine goC 3 4 ?_ TT.mk; refine goB 3 ?_; refine WC.sr ?_; refine Go ?_; refine WL.step (ok_idxS Tryz.underlying9 rfl rfl (by omega) e0) rfl rfl rfl ?_; refine WL.call (vs := [_, _]) rfl (fun a w => Tryz.call116 a w) rfl (k1) rfl rfl rfl ?_; rintro _ hq ⟨rfl, hz1⟩; subst hz1; refine Go ?_; refine Gs [(4, _)] ?_; refine Gt ?_; exact ⟨rfl, rfl⟩)
    -- loop 0: slots that turn [8, 10], that stay [0, 1, 5, 6, 7, 9]
end Go.Proofs.YtbokngiajfdanaaGreatDoor


/-
  STATEMENTS' TEXTS (layer 26), by the code: what a text says.
-/
namespace Go.Proofs.YtbokngiajfdanaaGreatDoor
open Go Go.RK

theorem ixb_cases (s : List UInt8) (c : UInt8) : Lib.indexByte s c = -1 ∨ ∃ i : Nat, Lib.indexByte s c = (i : Int) ∧ i < s.length := by
  have h1 := Lib.indexByte_ge s c
  by_cases h0 : 0 ≤ Lib.indexByte s c
  · refine .inr ⟨(Lib.indexByte s c).toNat, by omega, ?_⟩
    have := (Lib.indexByte_some (l := s) (c := c) (o := (Lib.indexByte s c).toNat) (by omega)).1
    exact (List.getElem?_eq_some_iff.1 this).1
  · exact .inl (by omega)
/-- A text cut at its first blank. -/
def cutP (s : List UInt8) : List UInt8 × List UInt8 × Bool := if 0 ≤ Lib.indexByte s 32 then (s.take (Lib.indexByte s 32).toNat, s.drop ((Lib.indexByte s 32).toNat + 1), true) else (s, [], false)
set_option maxHeartbeats 2000000 in
set_option maxRecDepth 100000 in
theorem cut_v {h : Heap} (s : List UInt8) (hm : s.length ≤ 1000000) : CallsH Tryz.prog 139 ⟨[St s, St [32]]⟩ h fun u h' => u = .tuple ⟨[St (cutP s).1, St (cutP s).2.1, .bool (cutP s).2.2]⟩ ∧ h' = h := by
  have k0 : CallsH Tryz.prog 185 ⟨[St s, St [32]]⟩ h fun u h' => u = .tuple ⟨[St (cutP s).1, St (cutP s).2.1, .bool (cutP s).2.2]⟩ ∧ h' = h := by
    have ki := index_v (h := h) s
    unfold cutP
    rcases ixb_cases s 32 with e | ⟨i, e, hi⟩
    · rw [e] at ki ⊢
      refine calls [(0, _), (1, _)] Tryz.func185 rfl Tryz.ntmps185 rfl ⟨rfl, rfl, trivial⟩ ?_
      all_goals (refine WC.sr ?_; refine Go ?_; refine WC.seq ?_; refine WC.sr ?_; refine Go ?_; refine WL.call (vs := [_, _]) rfl (fun a w => Tryz.call209 a w) rfl (ki) rfl rfl rfl ?_; rintro _ hq ⟨rfl, hz1⟩; subst hz1; refine Go ?_; refine Gs [(0, _), (1, _), (7, _)] ?_; refine WC.sr ?_; refine Go ?_; refine goC 1 2 ?_ TT.mk; refine goB 2 ?_; refine WC.skip ?_; refine Gn ?_; refine Gs [(0, _)] ?_; refine WC.sr ?_; refine Go ?_; refine Gt ?_; exact ⟨rfl, rfl⟩)
    · rw [e] at ki ⊢
      rw [if_pos (by omega)]
      have h32 : ([32] : List UInt8).length = 1 := rfl
      refine calls [(0, _), (1, _)] Tryz.func185 rfl Tryz.ntmps185 rfl ⟨rfl, rfl, trivial⟩ ?_
      all_goals (refine WC.sr ?_; refine Go ?_; refine WC.seq ?_; refine WC.sr ?_; refine Go ?_; refine WL.call (vs := [_, _]) rfl (fun a w => Tryz.call209 a w) rfl (ki) rfl rfl rfl ?_; rintro _ hq ⟨rfl, hz1⟩; subst hz1; refine Go ?_; refine Gs [(0, _), (1, _), (7, _)] ?_; refine WC.sr ?_; refine Go ?_; refine goC 1 2 ?_ TT.mk; refine goB 1 ?_; refine WC.seq ?_; refine WC.drawE fol (by kernel_rfl) ?_; refine WQ.stepE (ok_move rfl) rfl rfl rfl ?_; refine WQ.stepE (ok_move rfl) rfl rfl rfl ?_; refine WQ.stepE (ok_slice_sh Tryz.underlying9 rfl rfl (by first | omega | (simp <;> omega))) rfl rfl rfl ?_; refine WQ.stepE (ok_move rfl) rfl rfl rfl ?_; refine WQ.stepE (ok_move rfl) rfl rfl rfl ?_; refine WQ.stepE (ok_move rfl) rfl rfl rfl ?_; refine WQ.stepE (ok_lenS rfl Tryz.underlying9 rfl) rfl rfl rfl ?_; refine WQ.stepE (ok_addI rfl rfl (by omega)) rfl rfl rfl ?_; refine WQ.stepE (ok_slice_sl Tryz.underlying9 rfl rfl (by first | omega | (simp <;> omega))) rfl rfl rfl ?_; refine WQ.stepE (ok_assign rfl) rfl rfl rfl ?_; refine WQ.stepE (ok_assign rfl) rfl rfl rfl ?_; refine WQ.stepE (ok_assign rfl) rfl rfl rfl ?_; refine WQ.nil ?_; refine Gn ?_; refine Gs [(4, _), (5, _), (6, _)] ?_; refine Gt ?_; refine ⟨?_, rfl⟩; rw [show ((i : Int) + (([32] : List UInt8).length : Int)).toNat = (i : Int).toNat + 1 by rw [h32]; omega])
  refine calls [(0, _), (1, _)] Tryz.func139 rfl Tryz.ntmps139 rfl ⟨rfl, rfl, trivial⟩ ?_
  all_goals (refine WC.sr ?_; refine Go ?_; refine WC.sr ?_; refine Go ?_; refine WL.call (vs := [_, _]) rfl (fun a w => Tryz.call185 a w) rfl (k0) rfl rfl rfl ?_; rintro _ hq ⟨rfl, hz1⟩; subst hz1; refine Go ?_; refine Gs [(4, _), (5, _), (6, _)] ?_; refine Gt ?_; exact ⟨rfl, rfl⟩)
def wordP (s : List UInt8) : Option Int := if s = [] then some 1 else if s = ([98, 101, 103, 105, 110] : List UInt8) then some 2 else if s = ([99, 111, 109, 109, 105, 116] : List UInt8) then some 3 else if s = ([114, 111, 108, 108, 98, 97, 99, 107] : List UInt8) then some 4 else if s = ([101, 99, 104, 111] : List UInt8) then some 6 else if s = ([110, 101, 120, 116] : List UInt8) then some 7 else none
set_option maxHeartbeats 2000000 in
set_option maxRecDepth 100000 in
theorem word_v {h : Heap} (s : List UInt8) : CallsH Tryz.prog 138 ⟨[St s]⟩ h fun u h' => u = .tuple ⟨[In ((wordP s).getD 0), .bool (wordP s).isSome]⟩ ∧ h' = h := by
  rcases (show s = [] ∨ s = ([98, 101, 103, 105, 110] : List UInt8) ∨ s = ([99, 111, 109, 109, 105, 116] : List UInt8) ∨ s = ([114, 111, 108, 108, 98, 97, 99, 107] : List UInt8) ∨ s = ([101, 99, 104, 111] : List UInt8) ∨ s = ([110, 101, 120, 116] : List UInt8) ∨ (s ≠ [] ∧ s ≠ ([98, 101, 103, 105, 110] : List UInt8) ∧ s ≠ ([99, 111, 109, 109, 105, 116] : List UInt8) ∧ s ≠ ([114, 111, 108, 108, 98, 97, 99, 107] : List UInt8) ∧ s ≠ ([101, 99, 104, 111] : List UInt8) ∧ s ≠ ([110, 101, 120, 116] : List UInt8)) by
    by_cases e1 : s = []; exact .inl e1
    by_cases e2 : s = ([98, 101, 103, 105, 110] : List UInt8); exact .inr (.inl e2)
    by_cases e3 : s = ([99, 111, 109, 109, 105, 116] : List UInt8); exact .inr (.inr (.inl e3))
    by_cases e4 : s = ([114, 111, 108, 108, 98, 97, 99, 107] : List UInt8); exact .inr (.inr (.inr (.inl e4)))
    by_cases e5 : s = ([101, 99, 104, 111] : List UInt8); exact .inr (.inr (.inr (.inr (.inl e5))))
    by_cases e6 : s = ([110, 101, 120, 116] : List UInt8); exact .inr (.inr (.inr (.inr (.inr (.inl e6)))))
    exact .inr (.inr (.inr (.inr (.inr (.inr ⟨e1, e2, e3, e4, e5, e6⟩)))))) with rfl | rfl | rfl | rfl | rfl | rfl | ⟨e1, e2, e3, e4, e5, e6⟩
  all_goals
    refine calls [(0, _)] Tryz.func138 rfl Tryz.ntmps138 rfl ⟨rfl, trivial⟩ ?_
    all_goals (refine WC.sr ?_; refine Go ?_; refine WC.seq ?_; refine WC.sr ?_; refine Go ?_; refine WC.block ?_; refine WC.sr ?_; refine Go ?_; refine Gs [(4, _), (5, _)] ?_; refine goC 1 2 ?_ TT.mk)
    all_goals (first | (fail_if_success refine goB 1 ?_) | (
    refine goB 1 ?_
    all_goals (refine WC.sr ?_; refine Go ?_; refine Gt ?_; exact ⟨by first | rfl | (unfold wordP; rw [if_neg e1, if_neg e2, if_neg e3, if_neg e4, if_neg e5, if_neg e6]; rfl), rfl⟩)
    skip))
    all_goals (refine goB 2 ?_; refine WC.sr ?_; refine Go ?_; refine goC 3 4 ?_ TT.mk)
    all_goals (first | (fail_if_success refine goB 3 ?_) | (
    refine goB 3 ?_
    all_goals (refine WC.sr ?_; refine Go ?_; refine Gs [(2, _), (3, _)] ?_; refine Gt ?_; exact ⟨by first | rfl | (unfold wordP; rw [if_neg e1, if_neg e2, if_neg e3, if_neg e4, if_neg e5, if_neg e6]; rfl), rfl⟩)
    skip))
    all_goals (refine goB 4 ?_; refine WC.sr ?_; refine Go ?_; refine Gs [(4, _), (9, _)] ?_; refine goC 5 6 ?_ TT.mk)
    all_goals (first | (fail_if_success refine goB 5 ?_) | (
    refine goB 5 ?_
    all_goals (refine WC.sr ?_; refine Go ?_; refine Gt ?_; exact ⟨by first | rfl | (unfold wordP; rw [if_neg e1, if_neg e2, if_neg e3, if_neg e4, if_neg e5, if_neg e6]; rfl), rfl⟩)
    skip))
    all_goals (refine goB 6 ?_; refine WC.sr ?_; refine Go ?_; refine goC 7 8 ?_ TT.mk)
    all_goals (first | (fail_if_success refine goB 7 ?_) | (
    refine goB 7 ?_
    all_goals (refine WC.sr ?_; refine Go ?_; refine Gs [(2, _), (3, _)] ?_; refine Gt ?_; exact ⟨by first | rfl | (unfold wordP; rw [if_neg e1, if_neg e2, if_neg e3, if_neg e4, if_neg e5, if_neg e6]; rfl), rfl⟩)
    skip))
    all_goals (refine goB 8 ?_; refine WC.sr ?_; refine Go ?_; refine Gs [(4, _), (13, _)] ?_; refine goC 9 10 ?_ TT.mk)
    all_goals (first | (fail_if_success refine goB 9 ?_) | (
    refine goB 9 ?_
    all_goals (refine WC.sr ?_; refine Go ?_; refine Gt ?_; exact ⟨by first | rfl | (unfold wordP; rw [if_neg e1, if_neg e2, if_neg e3, if_neg e4, if_neg e5, if_neg e6]; rfl), rfl⟩)
    skip))
    all_goals (refine goB 10 ?_; refine WC.sr ?_; refine Go ?_; refine goC 11 12 ?_ TT.mk)
    all_goals (first | (fail_if_success refine goB 11 ?_) | (
    refine goB 11 ?_
    all_goals (refine WC.sr ?_; refine Go ?_; refine Gs [(2, _), (3, _)] ?_; refine Gt ?_; exact ⟨by first | rfl | (unfold wordP; rw [if_neg e1, if_neg e2, if_neg e3, if_neg e4, if_neg e5, if_neg e6]; rfl), rfl⟩)
    skip))
    all_goals (refine goB 12 ?_; refine WC.skip ?_; refine Gn ?_; refine Gs [] ?_; refine WC.sr ?_; refine Go ?_; refine Gt ?_; exact ⟨by first | rfl | (unfold wordP; rw [if_neg e1, if_neg e2, if_neg e3, if_neg e4, if_neg e5, if_neg e6]; rfl), rfl⟩)
def digB (y : UInt8) : Bool := decide (48 ≤ y.toNat) && decide (y.toNat ≤ 57)
def valD (s : List UInt8) : Int := s.foldl (fun n y => 10 * n + ((y.toNat : Int) - 48)) 0
def parseD (s : List UInt8) (most : Int) : Option Int := if s = [] ∨ 10 < s.length then none else if s[0]? = some 48 ∧ 1 < s.length then none else if s.all digB = true then (if most < valD s then none else some (valD s)) else none
theorem valD_snoc (l : List UInt8) (x : UInt8) : valD (l ++ [x]) = 10 * valD l + ((x.toNat : Int) - 48) := by simp [valD]
theorem wrap_u8 {a : Int} (h0 : 0 ≤ a) (h1 : a ≤ 255) : IntKind.u8.wrap a = a := by simp [IntKind.wrap, IntKind.bits, IntKind.signed]; omega
def digR (b : Bool) (y : UInt8) : Value := match b with
  | true => .tuple ⟨[In ((y.toNat : Int) - 48), .bool true]⟩
  | false => .tuple ⟨[In 0, .bool false]⟩
set_option maxHeartbeats 2000000 in
set_option maxRecDepth 100000 in
theorem digit_v {h : Heap} (y : UInt8) : CallsH Tryz.prog 210 ⟨[By y]⟩ h fun u h' => u = digR (digB y) y ∧ h' = h := by
  have hy := y.toNat_lt
  rcases (show digB y = true ∧ 48 ≤ (y.toNat : Int) ∧ (y.toNat : Int) ≤ 57 ∨ digB y = false ∧ (y.toNat : Int) < 48 ∨ digB y = false ∧ 48 ≤ (y.toNat : Int) ∧ 57 < (y.toNat : Int) by
    by_cases e1 : 48 ≤ y.toNat
    · by_cases e2 : y.toNat ≤ 57
      · exact .inl ⟨by simp [digB, e1, e2], by omega, by omega⟩
      · exact .inr (.inr ⟨by simp [digB, e2], by omega, by omega⟩)
    · exact .inr (.inl ⟨by simp [digB, e1], by omega⟩)) with ⟨e, h1, h2⟩ | ⟨e, h1⟩ | ⟨e, h1, h2⟩
  all_goals
    refine calls [(0, _)] Tryz.func210 rfl Tryz.ntmps210 rfl ⟨rfl, trivial⟩ ?_
    all_goals (refine WC.sr ?_; refine Go ?_; refine WC.seq ?_; refine WC.sr ?_; refine Go ?_; refine goP 6 ?_ TT.mk; refine Gg ?_; refine Go ?_; refine Gs [(0, _), (9, _)] ?_; refine goC 1 2 ?_ TT.mk)
    all_goals (first | (fail_if_success refine goB 1 ?_) | (
    refine goB 1 ?_
    all_goals (refine WC.sr ?_; refine Go ?_; refine Gt ?_)
    all_goals (rw [e]
               exact ⟨rfl, rfl⟩)
    skip))
    all_goals (refine goB 2 ?_; refine WC.skip ?_; refine Gn ?_; refine WC.sr ?_; refine WL.step (ok_move rfl) rfl rfl rfl ?_; refine WL.step (ok_sub rfl rfl) rfl rfl rfl ?_; try rw [wrap_u8 (by omega) (by omega)])
    all_goals (refine WL.step (ok_convI Tryz.underlying5 Tryz.underlying3 rfl (by omega)) rfl rfl rfl ?_; refine Go ?_; refine Gs [(2, _), (3, _)] ?_; refine Gt ?_)
    all_goals (rw [e]
               exact ⟨rfl, rfl⟩)
end Go.Proofs.YtbokngiajfdanaaGreatDoor


/-
  STATEMENTS' TEXTS (layer 26), by the code: Parse; a transaction's status (layer 29).
-/
namespace Go.Proofs.YtbokngiajfdanaaGreatDoor
open Go Go.RK

theorem digB_i {y : UInt8} (h : digB y = true) : 48 ≤ (y.toNat : Int) ∧ (y.toNat : Int) ≤ 57 := by
  simp [digB] at h
  omega
theorem valD_le : ∀ (n : Nat) (l : List UInt8), l.length = n → l.all digB = true → 0 ≤ valD l ∧ valD l + 1 ≤ 10 ^ n := by
  intro n
  induction n with
  | zero => intro l hl _; rw [List.eq_nil_of_length_eq_zero hl]; exact ⟨by decide, by decide⟩
  | succ n ih =>
    intro l hl ha
    rcases List.eq_nil_or_concat l with rfl | ⟨r, y, rfl⟩
    · simp at hl
    · rw [List.concat_eq_append] at *
      simp only [List.all_append, Bool.and_eq_true, List.all_cons, List.all_nil, Bool.and_true] at ha
      have := ih r (by simpa using hl) ha.1
      have hd := digB_i ha.2
      rw [valD_snoc, Int.pow_succ]
      omega
theorem pow10 {n : Nat} (h : n ≤ 10) : (10 : Int) ^ n ≤ 10000000000 := by
  match n, h with
  | 0, _ => decide
  | 1, _ => decide
  | 2, _ => decide
  | 3, _ => decide
  | 4, _ => decide
  | 5, _ => decide
  | 6, _ => decide
  | 7, _ => decide
  | 8, _ => decide
  | 9, _ => decide
  | 10, _ => decide
def resD (o : Option Int) : Value := .tuple ⟨[In (o.getD 0), .bool o.isSome]⟩
set_option maxHeartbeats 2000000 in
set_option maxRecDepth 100000 in
theorem parse_long {h : Heap} (s : List UInt8) (most : Int) (h1 : s = [] ∨ 10 < s.length) : CallsH Tryz.prog 186 ⟨[St s, In most]⟩ h fun u h' => u = resD none ∧ h' = h := by
  rcases h1 with rfl | h1
  · have hs : True := trivial
    refine calls [(0, _), (1, _)] Tryz.func186 rfl Tryz.ntmps186 rfl ⟨rfl, rfl, trivial⟩ ?_
    all_goals (refine WC.sr ?_; refine Go ?_; refine WC.seq ?_; refine WC.block ?_; refine WC.seq ?_; refine WC.sr ?_; refine Go ?_; refine Gs [(0, _), (1, _), (10, _)] ?_; refine goC 1 2 ?_ TT.mk; refine goB 1 ?_; refine WC.skip ?_; refine Gn ?_; refine goC 3 4 ?_ TT.mk; refine goB 3 ?_; refine WC.sr ?_; refine Go ?_; refine Gt ?_; exact ⟨rfl, rfl⟩)
    -- loop 0: slots that turn [6, 27], that stay [0, 1, 26]
  · have hs : s ≠ [] := fun e => by rw [e] at h1; simp at h1
    refine calls [(0, _), (1, _)] Tryz.func186 rfl Tryz.ntmps186 rfl ⟨rfl, rfl, trivial⟩ ?_
    all_goals (refine WC.sr ?_; refine Go ?_; refine WC.seq ?_; refine WC.block ?_; refine WC.seq ?_; refine WC.sr ?_; refine Go ?_; refine Gs [(0, _), (1, _), (10, _)] ?_; refine goC 1 2 ?_ TT.mk; refine goB 2 ?_; refine WC.region ?_; refine Go ?_; refine Gn ?_; refine goC 3 4 ?_ TT.mk; refine goB 3 ?_; refine WC.sr ?_; refine Go ?_; refine Gt ?_; exact ⟨rfl, rfl⟩)
    -- loop 0: slots that turn [6, 27], that stay [0, 1, 26]
set_option maxHeartbeats 2000000 in
set_option maxRecDepth 100000 in
theorem parse_zero {h : Heap} (s : List UInt8) (most : Int) (h1 : s ≠ [] ∧ s.length ≤ 10) (h2 : s[0]? = some 48 ∧ 1 < s.length) : CallsH Tryz.prog 186 ⟨[St s, In most]⟩ h fun u h' => u = resD none ∧ h' = h := by
  have hs := h1.1
  have e0 := h2.1
  have h48 : (((48 : UInt8).toNat : Nat) : Int) = 48 := rfl
  refine calls [(0, _), (1, _)] Tryz.func186 rfl Tryz.ntmps186 rfl ⟨rfl, rfl, trivial⟩ ?_
  all_goals (refine WC.sr ?_; refine Go ?_; refine WC.seq ?_; refine WC.block ?_; refine WC.seq ?_; refine WC.sr ?_; refine Go ?_; refine Gs [(0, _), (1, _), (10, _)] ?_; refine goC 1 2 ?_ TT.mk; refine goB 2 ?_; refine WC.region ?_; refine Go ?_; refine Gn ?_; refine goC 3 4 ?_ TT.mk; refine goB 4 ?_; refine WC.sr ?_; refine Go ?_; refine WL.step (ok_idxS Tryz.underlying9 rfl rfl (by omega) e0) rfl rfl rfl ?_; refine Go ?_; refine goP 20 ?_ TT.mk; refine Gg ?_; refine Go ?_; refine Gs [(0, _), (1, _), (16, _)] ?_; refine goC 5 6 ?_ TT.mk; refine goB 5 ?_; refine WC.sr ?_; refine Go ?_; refine Gt ?_; exact ⟨rfl, rfl⟩)
  -- loop 0: slots that turn [6, 27], that stay [0, 1, 26]
set_option maxHeartbeats 2000000 in
set_option maxRecDepth 100000 in
theorem parse_num {h : Heap} (s : List UInt8) (most : Int) (h1 : s ≠ [] ∧ s.length ≤ 10) (h2 : ¬ (s[0]? = some 48 ∧ 1 < s.length)) : CallsH Tryz.prog 186 ⟨[St s, In most]⟩ h fun u h' => u = resD (if s.all digB = true then (if most < valD s then none else some (valD s)) else none) ∧ h' = h := by
  have hs := h1.1
  have hp : 0 < s.length := List.length_pos_iff.2 hs
  obtain ⟨y0, e0⟩ : ∃ y, s[0]? = some y := ⟨_, List.getElem?_eq_getElem (by omega)⟩
  have hq : (y0.toNat : Int) ≠ 48 ∨ (y0.toNat : Int) = 48 ∧ ¬ (s.length : Int) > 1 := by
    by_cases e : (y0.toNat : Int) = 48
    · exact .inr ⟨e, fun e2 => h2 ⟨by rw [e0, show y0 = 48 from UInt8.toNat_inj.1 (by show _ = 48; omega)], by omega⟩⟩
    · exact .inl e
  have kd := fun (h' : Heap) (y : UInt8) => digit_v (h := h') y
  rcases hq with hq | ⟨hq, hq2⟩
  all_goals
    refine calls [(0, _), (1, _)] Tryz.func186 rfl Tryz.ntmps186 rfl ⟨rfl, rfl, trivial⟩ ?_
    all_goals (refine WC.sr ?_; refine Go ?_; refine WC.seq ?_; refine WC.block ?_; refine WC.seq ?_; refine WC.sr ?_; refine Go ?_; refine Gs [(0, _), (1, _), (10, _)] ?_; refine goC 1 2 ?_ TT.mk; refine goB 2 ?_; refine WC.region ?_; refine Go ?_; refine Gn ?_; refine goC 3 4 ?_ TT.mk; refine goB 4 ?_; refine WC.sr ?_; refine Go ?_; refine WL.step (ok_idxS Tryz.underlying9 rfl rfl (by omega) e0) rfl rfl rfl ?_; refine Go ?_; refine goP 20 ?_ TT.mk; refine Gg ?_; refine Go ?_; refine Gs [(0, _), (1, _), (16, _)] ?_; refine goC 5 6 ?_ TT.mk; refine goB 6 ?_; refine WC.skip ?_; refine Gn ?_; refine WC.sr ?_; refine Go ?_; refine WC.seq ?_; refine WC.sr ?_; refine Go ?_; refine WC.block ?_)
    -- loop 0: slots that turn [6, 27], that stay [0, 1, 26]
    all_goals (refine WC.loopG (X := Nat × Int) (fun x => ([(27, In (x.1 : Int)), (6, In x.2)] : Fr)) [(0, _), (1, _), (26, _)] (fun x h' => h' = h ∧ x.1 ≤ s.length ∧ x.2 = valD (s.take x.1) ∧ (s.take x.1).all digB = true) (fun x => s.length - x.1) ((0, 0)) ⟨rfl, rfl, rfl, rfl, rfl, trivial⟩ (by exact ⟨rfl, Nat.zero_le _, rfl, rfl⟩) ?_)
    all_goals (rintro ⟨j, n⟩ hh ⟨hz, hj, hn, ha⟩
               dsimp only at hj hn ha
               subst hz
               have hvl := valD_le j (s.take j) (by rw [List.length_take]; omega) ha
               have hpw := pow10 (show j ≤ 10 by omega))
    all_goals (refine WC.sub [(6, _), (27, _), (0, _), (1, _), (26, _)] ⟨rfl, rfl, rfl, rfl, rfl, trivial⟩ ?_; dsimp only)
    all_goals (refine WC.sr ?_; refine Go ?_; refine WC.seq ?_; refine goC 7 8 (Hb.mk fun hb => ?_) (Hb.mk fun hb => ?_))
    all_goals (first | (fail_if_success refine goB 7 ?_) | (
    refine goB 7 ?_
    all_goals (refine WC.skip ?_)
    skip))
    all_goals (first | (fail_if_success refine goB 8 ?_) | (
    refine goB 8 ?_
    all_goals (refine WC.exit ?_; repeat' (with_reducible first | refine thenP_x ?_ | refine blockP_miss rfl ?_ | refine blockP_hit ?_ | refine blockP_n ?_ | refine thenP_n ?_))
    all_goals (refine Br.out (i := 1001) ?_)
    skip))
    all_goals (refine Gn ?_; first | (refine Br.keep ?_) | (refine WC.seq ?_))
    all_goals (first | (refine Br.keep ?_) | (refine WC.block ?_))
    all_goals (first | (refine Br.keep ?_) | (refine WC.sr ?_))
    all_goals (refine Go ?_; first | (refine Br.keep ?_) | (refine WC.sr ?_))
    all_goals (first
                 | (refine Br.keep ?_)
                 | (obtain ⟨y, hy⟩ : ∃ y, s[j]? = some y := ⟨_, List.getElem?_eq_getElem (by omega)⟩
                    have hyl := y.toNat_lt))
    all_goals (first | (refine Br.keep ?_) | (refine WL.step (ok_move rfl) rfl rfl rfl ?_))
    all_goals (refine Go ?_; first | (refine Br.keep ?_) | (refine WL.step (ok_idxS Tryz.underlying9 rfl rfl (by omega) hy) rfl rfl rfl ?_))
    all_goals (first
                 | (refine Br.keep ?_)
                 | (refine WL.call (vs := [_]) rfl (fun a w => Tryz.call210 a w) rfl (kd _ y) rfl rfl rfl ?_
                    rintro _ hq0 ⟨rfl, hz1⟩
                    subst hz1
                    obtain ⟨bd, hdy⟩ : ∃ b, digB y = b := ⟨_, rfl⟩
                    rw [hdy]
                    have hdi := fun (e : bd = true) => digB_i (hdy.trans e)
                    cases bd
                    all_goals first | (have hdi := hdi rfl) | clear hdi
                    all_goals unfold digR))
    all_goals (refine Go ?_; first | (refine Br.keep ?_) | (refine Gs [(0, _), (1, _), (6, _), (8, _), (9, _), (26, _), (27, _)] ?_))
    all_goals (first | (refine Br.keep ?_) | (refine WC.seq ?_))
    all_goals (first | (refine Br.keep ?_) | (refine WC.sr ?_))
    all_goals (refine Go ?_; first | (refine Br.keep ?_) | (refine goC 9 10 ?_ TT.mk))
    all_goals (first | (fail_if_success refine goB 9 ?_) | (
    refine goB 9 ?_
    all_goals (refine WC.sr ?_; refine Go ?_; refine Gs [(4, _), (5, _)] ?_; refine Gt ?_)
    all_goals (first
                | (rw [if_neg (show ¬ s.all digB = true from fun e => by have := List.all_eq_true.1 e y (List.mem_of_getElem? hy); rw [hdy] at this; cases this)]; exact ⟨rfl, rfl⟩)
                | (rw [show s.take j = s from List.take_of_length_le (by omega)] at hn ha; subst hn; rw [if_pos ha, if_pos (by omega)]; exact ⟨rfl, rfl⟩)
                | (rw [show s.take j = s from List.take_of_length_le (by omega)] at hn ha; subst hn; rw [if_pos ha, if_neg (by omega)]; exact ⟨rfl, rfl⟩))
    skip))
    all_goals (first | (fail_if_success refine goB 10 ?_) | (
    refine goB 10 ?_
    all_goals (refine WC.skip ?_)
    skip))
    all_goals (refine Gn ?_; first | (refine Br.keep ?_) | (refine WC.region ?_))
    all_goals (refine Go ?_; first | (refine Br.keep ?_) | (refine WL.step (ok_mulI rfl rfl (by omega)) rfl rfl rfl ?_))
    all_goals (refine Go ?_; first | (refine Br.keep ?_) | (refine Gs [(0, _), (1, _), (6, _), (26, _), (27, _)] ?_))
    all_goals (first | (refine Br.keep ?_) | (refine WC.region ?_))
    all_goals (refine Go ?_; first | (refine Br.keep ?_) | (exact ⟨(j + 1, _), ⟨rfl, rfl, rfl, rfl, rfl, trivial⟩, (by exact ⟨rfl, by omega, by rw [List.take_add_one, hy, Option.toList_some, valD_snoc, ← hn], by rw [List.take_add_one, hy]; simp [ha, hdy]⟩), (by dsimp only; omega)⟩))
    all_goals (try (refine Br.mk (i := 1001) ?_))
    all_goals (refine Gn ?_; refine Gs [(1, _), (6, _)] ?_; refine WC.seq ?_; refine WC.sr ?_; refine Go ?_; refine goC 11 12 (Hb.mk fun hb => ?_) (Hb.mk fun hb => ?_))
    all_goals (first | (fail_if_success refine goB 11 ?_) | (
    refine goB 11 ?_
    all_goals (refine WC.sr ?_; refine Go ?_; refine Gs [(4, _), (5, _)] ?_; refine Gt ?_)
    all_goals (first
                | (rw [if_neg (show ¬ s.all digB = true from fun e => by have := List.all_eq_true.1 e y (List.mem_of_getElem? hy); rw [hdy] at this; cases this)]; exact ⟨rfl, rfl⟩)
                | (rw [show s.take j = s from List.take_of_length_le (by omega)] at hn ha; subst hn; rw [if_pos ha, if_pos (by omega)]; exact ⟨rfl, rfl⟩)
                | (rw [show s.take j = s from List.take_of_length_le (by omega)] at hn ha; subst hn; rw [if_pos ha, if_neg (by omega)]; exact ⟨rfl, rfl⟩))
    skip))
    all_goals (refine goB 12 ?_; refine WC.skip ?_; refine Gn ?_; refine Gs [(6, _)] ?_; refine WC.sr ?_; refine Go ?_; refine Gt ?_)
    all_goals (first
                | (rw [if_neg (show ¬ s.all digB = true from fun e => by have := List.all_eq_true.1 e y (List.mem_of_getElem? hy); rw [hdy] at this; cases this)]; exact ⟨rfl, rfl⟩)
                | (rw [show s.take j = s from List.take_of_length_le (by omega)] at hn ha; subst hn; rw [if_pos ha, if_pos (by omega)]; exact ⟨rfl, rfl⟩)
                | (rw [show s.take j = s from List.take_of_length_le (by omega)] at hn ha; subst hn; rw [if_pos ha, if_neg (by omega)]; exact ⟨rfl, rfl⟩))
end Go.Proofs.YtbokngiajfdanaaGreatDoor


