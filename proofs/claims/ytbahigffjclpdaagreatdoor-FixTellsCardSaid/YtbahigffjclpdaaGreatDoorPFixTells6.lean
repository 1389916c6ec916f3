/-
  SEVERAL TEXTS IN ONE: BkQ2, FixAw, Fx1, Fx2, Fx3.
-/
import Derived.Test.YtbahigffjclpdaaGreatDoorPFixTells5
/-
  REPLIES (layer 7): the body of a reply that may be, as the document writes it. Printed by encp.py.
-/
namespace Go.Proofs.YtbahigffjclpdaaGreatDoor
open Go Go.RK

set_option maxHeartbeats 4000000 in
set_option maxRecDepth 100000 in
theorem encQ_82 {h : Heap} (b : Bk) (hb : b.ok h) (hw : b.wf) (hmd : b.mid) (hmay : b.may) (hk : b.kind = 82) :
    CallsH Tryz.prog 55 ⟨[.agg ⟨b.cells⟩]⟩ h fun u h' => ∃ v', u = .tuple ⟨[.agg ⟨[.int .u8 82, v']⟩, In 0]⟩ ∧ Own h' v' 5 1 (encBk b).length (bys (encBk b)) ∧ Ext No h h' := by
  have kc := fun h' (hx : Ext No h h') => checkA07 b (hb.ext0 hx) hw.kind hmd
  have hL : encBk b = be 0 4 := by simp [encBk, hk]
  rw [hL]
  clear hL
  have hst := hw.status
  obtain ⟨md1, md2, md3, md4, md5, md6, md7, md8, md9, md10⟩ := hmd
  have m_c := hmay.cols.2
  have m_o := hmay.oids.2
  have m_n := hmay.n
  have m_m := hmay.m
  have m_r := hmay.row.2
  have hF : ∀ f ∈ b.fields, f.t.length ≤ 200000 ∧ 0 ≤ f.k ∧ f.k ≤ 255 := fun f hf => ⟨md7 f hf, hw.codes f hf⟩
  clear hw
  obtain ⟨ho, hc, hr, hf⟩ := hb
  obtain ⟨k, st, t, n, v, x, y, vo, lo, vc, lc, vr, lr, vf, lf⟩ := b
  dsimp only at hk hst ho hc hr hf md1 md2 md3 md4 md5 md6 md7 md8 md9 md10 m_c m_o m_n m_m m_r hF ⊢
  have hro := ho.1
  have hrc := hc.1
  have hrr := hr.1
  have hrf := hf.1
  obtain ⟨Ao, co, rfl, _⟩ := id hro
  obtain ⟨Ac, cc, rfl, _⟩ := id hrc
  obtain ⟨Ar, cr, rfl, _⟩ := id hrr
  obtain ⟨Af, cf, rfl, _⟩ := id hrf
  dsimp only [Bk.cells] at kc ⊢
  subst hk
  refine calls [(0, _)] Tryz.func55 rfl Tryz.ntmps55 rfl ⟨rfl, trivial⟩ ?_
  all_goals (refine WC.sr ?_)
  all_goals (refine WL.stepR (okE_box rfl) rfl rfl rfl ?_
             rintro _ h1 ⟨b1, rfl, hg1, hb1, hx1⟩)
  all_goals (refine WL.stepR (okE_alloc (fun w => Tryz.zeroValue85 w)) rfl rfl rfl ?_
             rintro _ h2 ⟨b2, rfl, hg2, hb2, hx2⟩)
  all_goals (have hX2 := hx1.trans hx2
             have hb12 := hx2.obj hb1 nos)
  all_goals (refine Go ?_)
  all_goals (refine WC.seq ?_)
  all_goals (refine WC.sr ?_)
  all_goals (refine WL.step (ok_loadN (fun w => Tryz.isAgg32 w) (fun w => Tryz.sizeOf32 w) rfl rfl (by exact At.of_block hb12)) rfl rfl rfl ?_)
  all_goals (refine WL.call (vs := [_]) rfl (fun a w => Tryz.call72 a w) rfl (kc _ hX2) rfl rfl rfl ?_
             rintro _ h3 ⟨⟨e, rfl, he⟩, hx3⟩
             obtain rfl := he.2 hmay)
  all_goals (have hb13 := hx3.obj hb12 nos
             have hb23 := hx3.obj hb2 nos
             have hX3 := hX2.trans hx3
             have l1 := lt_of_some hb13
             have l2 := lt_of_some hb23)
  all_goals (refine Go ?_)
  all_goals (refine WC.sub [(1, _), (2, _), (4, _)] ⟨rfl, rfl, rfl, trivial⟩ ?_)
  all_goals (refine WC.sr ?_)
  all_goals (refine Go ?_)
  all_goals (refine goC 1 2 ?_ ?_ <;> first | exact ⟨⟩ | refine Hb.mk fun hb => ?_ | skip)
  all_goals (first | (fail_if_success refine goB 1 ?_) | (
  refine goB 1 ?_
  all_goals (refine WC.sr ?_)
  all_goals (refine WL.step (ok_buildF (vs := []) (cs := [_, _]) (fun | [] => [(.int .u8 0), (.slice none 0 0)] | _ => []) rfl rfl (by kernel_rfl)) rfl rfl rfl ?_)
  all_goals (refine Go ?_)
  all_goals (refine WL.stepR0 (okE_storeW (fun w => Tryz.sizeOf85 w) rfl rfl rfl (by assumption) rfl (by simp [Value.oneCell'])) rfl rfl ?_
             rintro _ h1 ⟨hb1, hx1⟩)
  all_goals (refine Go ?_)
  all_goals (refine WC.sub [(2, _), (3, _)] ⟨rfl, rfl, trivial⟩ ?_)
  all_goals (refine WC.ret ?_)
  all_goals (repeat' (with_reducible first | refine thenP_r ?_ | refine blockP_r ?_))
  all_goals (refine retP_2 _ _ ⟨⟨_, rfl, ld_blk (fun w => Tryz.isAgg85 w) (fun w => Tryz.sizeOf85 w) hb7 rfl⟩, rfl, trivial⟩ ?_)
  all_goals (exact ⟨_, rfl, o6.ext hx7 (fun q hq e => by obtain ⟨_, z⟩ := own_kind o6 hq; rw [e, hb26] at z; simp at z), (hX3.trans x6).trans' hx7 (fun q hq e => by have := hx1.size; omega)⟩)
  skip))
  all_goals (first | (fail_if_success refine goB 2 ?_) | (
  refine goB 2 ?_
  all_goals (refine WC.skip ?_)
  skip))
  all_goals (refine Gn ?_)
  all_goals (refine WC.sr ?_)
  all_goals (refine Go ?_)
  all_goals (refine WC.seq ?_)
  all_goals (refine WC.sr ?_)
  all_goals (refine Go ?_)
  all_goals (refine WL.step (ok_load (fun w => Tryz.isAgg5 w) rfl (by first | exact cell_blk hb13 rfl | assumption | exact cell_blk (by assumption) rfl)) rfl rfl rfl ?_)
  all_goals (refine Gn ?_)
  all_goals (refine WC.sub [(1, _), (2, _), (5, _), (13, _)] ⟨rfl, rfl, rfl, rfl, trivial⟩ ?_)
  all_goals (refine WC.block ?_)
  all_goals (refine WC.sr ?_)
  all_goals (refine Go ?_)
  all_goals (refine goC 3 4 ?_ ?_ <;> first | exact ⟨⟩ | refine Hb.mk fun hb => ?_ | skip)
  all_goals (first | (fail_if_success refine goB 3 ?_) | (
  refine goB 3 ?_
  all_goals (refine WC.region ?_)
  all_goals (refine WL.call (vs := [_, _, _]) rfl (fun a w => Tryz.call73 a w) rfl (put01 [] 0 4 sz4 (rt4s (by omega)) (Rd.nil _ _) (by decide)) rfl rfl rfl ?_
             rintro v6 h6 ⟨oo6, hx6, hf6⟩
             have o6 : Own h6 v6 5 1 (be 0 4).length (bys (be 0 4)) := by simpa using oo6
             have x6 : Ext No h3 h6 := hx6)
  all_goals (refine Go ?_)
  skip))
  all_goals (first | (fail_if_success refine goB 4 ?_) | (
  refine goB 4 ?_
  all_goals (refine WC.sr ?_)
  all_goals (refine Go ?_)
  all_goals (refine goC 5 6 ?_ ?_ <;> first | exact ⟨⟩ | refine Hb.mk fun hb => ?_ | skip)
  all_goals (first | (fail_if_success refine goB 6 ?_) | (
  refine goB 6 ?_
  all_goals (refine WC.sr ?_)
  all_goals (refine Go ?_)
  all_goals (refine WC.sub [(1, _), (2, _), (5, _), (13, _), (25, _)] ⟨rfl, rfl, rfl, rfl, rfl, trivial⟩ ?_)
  all_goals (refine goC 7 8 ?_ ?_ <;> first | exact ⟨⟩ | refine Hb.mk fun hb => ?_ | skip)
  all_goals (first | (fail_if_success refine goB 8 ?_) | (
  refine goB 8 ?_
  all_goals (refine WC.sr ?_)
  all_goals (refine Go ?_)
  all_goals (refine goC 9 10 ?_ ?_ <;> first | exact ⟨⟩ | refine Hb.mk fun hb => ?_ | skip)
  all_goals (first | (fail_if_success refine goB 9 ?_) | (
  refine goB 9 ?_
  all_goals (refine WC.region ?_)
  all_goals (refine Go ?_)
  all_goals (refine WL.step (ok_load (fun w => Tryz.isAgg5 w) rfl (by first | assumption | exact cell_blk (by assumption) rfl)) rfl rfl rfl ?_)
  all_goals (refine WL.stepR (okE_buildSlice (vs := [_]) (cs := [_]) (fun | [a0] => [a0] | _ => []) Tryz.underlying24 rfl rfl (by kernel_rfl)) rfl rfl rfl ?_
             rintro _ h1 ⟨b1, rfl, hg1, hb1, hx1⟩)
  all_goals (refine Go ?_)
  skip))
  all_goals (first | (fail_if_success refine goB 10 ?_) | (
  refine goB 10 ?_
  all_goals (refine WC.sr ?_)
  all_goals (refine Go ?_)
  all_goals (refine WC.sub [(1, _), (2, _), (5, _), (13, _), (38, _)] ⟨rfl, rfl, rfl, rfl, rfl, trivial⟩ ?_)
  all_goals (refine goC 11 12 ?_ ?_ <;> first | exact ⟨⟩ | refine Hb.mk fun hb => ?_ | skip)
  all_goals (first | (fail_if_success refine goB 12 ?_) | (
  refine goB 12 ?_
  all_goals (refine WC.sr ?_)
  all_goals (refine Go ?_)
  all_goals (refine goC 13 14 ?_ ?_ <;> first | exact ⟨⟩ | refine Hb.mk fun hb => ?_ | skip)
  all_goals (first | (fail_if_success refine goB 14 ?_) | (
  refine goB 14 ?_
  all_goals (refine WC.sr ?_)
  all_goals (refine Go ?_)
  all_goals (refine WC.sub [(1, _), (2, _), (5, _), (13, _), (48, _)] ⟨rfl, rfl, rfl, rfl, rfl, trivial⟩ ?_)
  all_goals (refine goC 15 16 ?_ ?_ <;> first | exact ⟨⟩ | refine Hb.mk fun hb => ?_ | skip)
  all_goals (first | (fail_if_success refine goB 16 ?_) | (
  refine goB 16 ?_
  all_goals (refine WC.sr ?_)
  all_goals (refine Go ?_)
  all_goals (refine goC 17 18 ?_ ?_ <;> first | exact ⟨⟩ | refine Hb.mk fun hb => ?_ | skip)
  all_goals (first | (fail_if_success refine goB 18 ?_) | (
  refine goB 18 ?_
  all_goals (refine WC.seq ?_)
  all_goals (refine WC.sr ?_)
  all_goals (refine Go ?_)
  all_goals (refine WC.sub [(1, _), (2, _), (5, _), (13, _), (58, _)] ⟨rfl, rfl, rfl, rfl, rfl, trivial⟩ ?_)
  all_goals (refine goC 19 20 ?_ ?_ <;> first | exact ⟨⟩ | refine Hb.mk fun hb => ?_ | skip)
  all_goals (first | (fail_if_success refine goB 19 ?_) | (
  refine goB 19 ?_
  all_goals (refine WC.skip ?_)
  skip))
  all_goals (first | (fail_if_success refine goB 20 ?_) | (
  refine goB 20 ?_
  all_goals (refine WC.region ?_)
  all_goals (refine Go ?_)
  skip))
  all_goals (refine Gn ?_)
  all_goals (refine goC 21 22 ?_ ?_ <;> first | exact ⟨⟩ | refine Hb.mk fun hb => ?_ | skip)
  all_goals (first | (fail_if_success refine goB 22 ?_) | (
  refine goB 22 ?_
  all_goals (refine WC.skip ?_)
  skip))
  skip))
  skip))
  skip))
  skip))
  skip))
  skip))
  skip))
  skip))
  all_goals (refine Gn ?_)
  all_goals (refine WC.sr ?_)
  all_goals (have hb16 := x6.obj hb13 nos
             have hb26 := x6.obj hb23 nos
             obtain ⟨A6, c6, e6, _⟩ := o6.slice
             have hO := o6
             try rw [e6] at hO
             subst e6)
  all_goals (refine WL.step (ok_fieldAddr rfl Tryz.underlying32 rfl (fun w => Tryz.sizeOf5 w)) rfl rfl rfl ?_)
  all_goals (refine WL.step (ok_load (fun w => Tryz.isAgg5 w) rfl (by first | exact cell_blk hb16 rfl | assumption | exact cell_blk (by assumption) rfl)) rfl rfl rfl ?_)
  all_goals (refine Go ?_)
  all_goals (refine WL.step (ok_buildF (vs := [_, _]) (cs := [_, _]) (fun | [a0, a1] => [a0, a1] | _ => []) rfl rfl (by kernel_rfl)) rfl rfl rfl ?_)
  all_goals (refine WL.stepR0 (okE_storeW (fun w => Tryz.sizeOf85 w) rfl rfl rfl hb26 rfl (by simp [Value.oneCell'])) rfl rfl ?_
             rintro _ h7 ⟨hb7, hx7⟩)
  all_goals (refine Go ?_)
  all_goals (refine WC.sub [(2, _), (3, _)] ⟨rfl, rfl, trivial⟩ ?_)
  all_goals (refine WC.ret ?_)
  all_goals (repeat' (with_reducible first | refine thenP_r ?_ | refine blockP_r ?_))
  all_goals (refine retP_2 _ _ ⟨⟨_, rfl, ld_blk (fun w => Tryz.isAgg85 w) (fun w => Tryz.sizeOf85 w) hb7 rfl⟩, rfl, trivial⟩ ?_)
  all_goals (exact ⟨_, rfl, o6.ext hx7 (fun q hq e => by obtain ⟨_, z⟩ := own_kind o6 hq; rw [e, hb26] at z; simp at z), (hX3.trans x6).trans' hx7 (fun q hq e => by have := hx1.size; omega)⟩)
set_option maxHeartbeats 4000000 in
set_option maxRecDepth 100000 in
theorem encQ_83 {h : Heap} (b : Bk) (hb : b.ok h) (hw : b.wf) (hmd : b.mid) (hmay : b.may) (hk : b.kind = 83) :
    CallsH Tryz.prog 55 ⟨[.agg ⟨b.cells⟩]⟩ h fun u h' => ∃ v', u = .tuple ⟨[.agg ⟨[.int .u8 83, v']⟩, In 0]⟩ ∧ Own h' v' 5 1 (encBk b).length (bys (encBk b)) ∧ Ext No h h' := by
  have kc := fun h' (hx : Ext No h h') => checkA07 b (hb.ext0 hx) hw.kind hmd
  have hL : encBk b = b.name ++ [0] ++ b.value ++ [0] := by simp [encBk, hk]
  rw [hL]
  clear hL
  have hst := hw.status
  obtain ⟨md1, md2, md3, md4, md5, md6, md7, md8, md9, md10⟩ := hmd
  have m_c := hmay.cols.2
  have m_o := hmay.oids.2
  have m_n := hmay.n
  have m_m := hmay.m
  have m_r := hmay.row.2
  have hF : ∀ f ∈ b.fields, f.t.length ≤ 200000 ∧ 0 ≤ f.k ∧ f.k ≤ 255 := fun f hf => ⟨md7 f hf, hw.codes f hf⟩
  clear hw
  obtain ⟨ho, hc, hr, hf⟩ := hb
  obtain ⟨k, st, t, n, v, x, y, vo, lo, vc, lc, vr, lr, vf, lf⟩ := b
  dsimp only at hk hst ho hc hr hf md1 md2 md3 md4 md5 md6 md7 md8 md9 md10 m_c m_o m_n m_m m_r hF ⊢
  have hro := ho.1
  have hrc := hc.1
  have hrr := hr.1
  have hrf := hf.1
  obtain ⟨Ao, co, rfl, _⟩ := id hro
  obtain ⟨Ac, cc, rfl, _⟩ := id hrc
  obtain ⟨Ar, cr, rfl, _⟩ := id hrr
  obtain ⟨Af, cf, rfl, _⟩ := id hrf
  dsimp only [Bk.cells] at kc ⊢
  subst hk
  refine calls [(0, _)] Tryz.func55 rfl Tryz.ntmps55 rfl ⟨rfl, trivial⟩ ?_
  all_goals (refine WC.sr ?_)
  all_goals (refine WL.stepR (okE_box rfl) rfl rfl rfl ?_
             rintro _ h1 ⟨b1, rfl, hg1, hb1, hx1⟩)
  all_goals (refine WL.stepR (okE_alloc (fun w => Tryz.zeroValue85 w)) rfl rfl rfl ?_
             rintro _ h2 ⟨b2, rfl, hg2, hb2, hx2⟩)
  all_goals (have hX2 := hx1.trans hx2
             have hb12 := hx2.obj hb1 nos)
  all_goals (refine Go ?_)
  all_goals (refine WC.seq ?_)
  all_goals (refine WC.sr ?_)
  all_goals (refine WL.step (ok_loadN (fun w => Tryz.isAgg32 w) (fun w => Tryz.sizeOf32 w) rfl rfl (by exact At.of_block hb12)) rfl rfl rfl ?_)
  all_goals (refine WL.call (vs := [_]) rfl (fun a w => Tryz.call72 a w) rfl (kc _ hX2) rfl rfl rfl ?_
             rintro _ h3 ⟨⟨e, rfl, he⟩, hx3⟩
             obtain rfl := he.2 hmay)
  all_goals (have hb13 := hx3.obj hb12 nos
             have hb23 := hx3.obj hb2 nos
             have hX3 := hX2.trans hx3
             have l1 := lt_of_some hb13
             have l2 := lt_of_some hb23)
  all_goals (refine Go ?_)
  all_goals (refine WC.sub [(1, _), (2, _), (4, _)] ⟨rfl, rfl, rfl, trivial⟩ ?_)
  all_goals (refine WC.sr ?_)
  all_goals (refine Go ?_)
  all_goals (refine goC 1 2 ?_ ?_ <;> first | exact ⟨⟩ | refine Hb.mk fun hb => ?_ | skip)
  all_goals (first | (fail_if_success refine goB 1 ?_) | (
  refine goB 1 ?_
  all_goals (refine WC.sr ?_)
  all_goals (refine WL.step (ok_buildF (vs := []) (cs := [_, _]) (fun | [] => [(.int .u8 0), (.slice none 0 0)] | _ => []) rfl rfl (by kernel_rfl)) rfl rfl rfl ?_)
  all_goals (refine Go ?_)
  all_goals (refine WL.stepR0 (okE_storeW (fun w => Tryz.sizeOf85 w) rfl rfl rfl (by assumption) rfl (by simp [Value.oneCell'])) rfl rfl ?_
             rintro _ h1 ⟨hb1, hx1⟩)
  all_goals (refine Go ?_)
  all_goals (refine WC.sub [(2, _), (3, _)] ⟨rfl, rfl, trivial⟩ ?_)
  all_goals (refine WC.ret ?_)
  all_goals (repeat' (with_reducible first | refine thenP_r ?_ | refine blockP_r ?_))
  all_goals (refine retP_2 _ _ ⟨⟨_, rfl, ld_blk (fun w => Tryz.isAgg85 w) (fun w => Tryz.sizeOf85 w) hb7 rfl⟩, rfl, trivial⟩ ?_)
  all_goals (exact ⟨_, rfl, o6.ext hx7 (fun q hq e => by obtain ⟨_, z⟩ := own_kind o6 hq; rw [e, hb26] at z; simp at z), (hX3.trans x6).trans' hx7 (fun q hq e => by have := hx1.size; omega)⟩)
  skip))
  all_goals (first | (fail_if_success refine goB 2 ?_) | (
  refine goB 2 ?_
  all_goals (refine WC.skip ?_)
  skip))
  all_goals (refine Gn ?_)
  all_goals (refine WC.sr ?_)
  all_goals (refine Go ?_)
  all_goals (refine WC.seq ?_)
  all_goals (refine WC.sr ?_)
  all_goals (refine Go ?_)
  all_goals (refine WL.step (ok_load (fun w => Tryz.isAgg5 w) rfl (by first | exact cell_blk hb13 rfl | assumption | exact cell_blk (by assumption) rfl)) rfl rfl rfl ?_)
  all_goals (refine Gn ?_)
  all_goals (refine WC.sub [(1, _), (2, _), (5, _), (13, _)] ⟨rfl, rfl, rfl, rfl, trivial⟩ ?_)
  all_goals (refine WC.block ?_)
  all_goals (refine WC.sr ?_)
  all_goals (refine Go ?_)
  all_goals (refine goC 3 4 ?_ ?_ <;> first | exact ⟨⟩ | refine Hb.mk fun hb => ?_ | skip)
  all_goals (first | (fail_if_success refine goB 4 ?_) | (
  refine goB 4 ?_
  all_goals (refine WC.sr ?_)
  all_goals (refine Go ?_)
  all_goals (refine goC 5 6 ?_ ?_ <;> first | exact ⟨⟩ | refine Hb.mk fun hb => ?_ | skip)
  all_goals (first | (fail_if_success refine goB 5 ?_) | (
  refine goB 5 ?_
  all_goals (refine WC.drawH (fun h' => Ext No h3 h') 6 7 rfl fol ?_)
  all_goals (refine WH.tk 0 rfl (fun hq hC => ok_fieldAddr rfl Tryz.underlying32 rfl (fun w => Tryz.sizeOf9 w)) rfl rfl rfl ?_)
  all_goals (refine WH.tk 1 rfl (fun hq hC => ok_load (fun w => Tryz.isAgg9 w) rfl (by first | exact hC.cell (by first | exact cell_blk hb13 rfl | assumption | exact cell_blk (by assumption) rfl) nos)) rfl rfl rfl ?_)
  all_goals (refine WH.tk 3 rfl (fun hq hC => ok_fieldAddr rfl Tryz.underlying32 rfl (fun w => Tryz.sizeOf9 w)) rfl rfl rfl ?_)
  all_goals (refine WH.tk 4 rfl (fun hq hC => ok_load (fun w => Tryz.isAgg9 w) rfl (by first | exact hC.cell (by first | exact cell_blk hb13 rfl | assumption | exact cell_blk (by assumption) rfl) nos)) rfl rfl rfl ?_)
  all_goals (refine WH.one 2 (by kernel_rfl) ?_)
  all_goals (refine Comes1.call (vs := [_, _]) rfl rfl (fun a w => Tryz.call74 a w) rfl (str06 [] n (Own.nil _ _ _) (by simp only [List.length_nil]; omega)) rfl rfl rfl ?_ (fun _ => by kernel_rfl)
             rintro v5 h5 ⟨ho5, hr5⟩
             obtain ⟨hC5, hF5⟩ := hr5.fresh (.refl _ h3) (by simp [Value.ownBlock]))
  all_goals (refine ⟨fun _ => hC5, ?_⟩)
  all_goals (refine WH.one 5 (by kernel_rfl) ?_)
  all_goals (refine Comes1.call (vs := [_, _]) rfl rfl (fun a w => Tryz.call74 a w) rfl (str06 _ v ho5 (by simp only [List.length_append, List.length_cons, List.length_nil]; omega)) rfl rfl rfl ?_ (fun _ => by kernel_rfl)
             rintro v6 h6 ⟨ho6, hr6⟩
             obtain ⟨hC6, hF6⟩ := hr6.fresh hC5 hF5)
  all_goals (refine ⟨fun _ => hC6, ?_⟩)
  all_goals (have o6 : Own h6 v6 5 1 (n ++ [0] ++ v ++ [0]).length (bys (n ++ [0] ++ v ++ [0])) := by simpa using ho6
             have x6 : Ext No h3 h6 := hC6)
  all_goals (refine WH.one 6 (by kernel_rfl) ?_)
  all_goals (refine Comes1.run rfl (OkP.r (ok_assign rfl)) rfl rfl rfl ?_ (fun _ => by kernel_rfl)
             rintro _ hz ⟨rfl, _⟩
             subst hz)
  all_goals (refine ⟨fun _ => hC6, ?_⟩)
  all_goals (refine WH.done (by kernel_rfl) ?_)
  skip))
  all_goals (first | (fail_if_success refine goB 6 ?_) | (
  refine goB 6 ?_
  all_goals (refine WC.sr ?_)
  all_goals (refine Go ?_)
  all_goals (refine WC.sub [(1, _), (2, _), (5, _), (13, _), (25, _)] ⟨rfl, rfl, rfl, rfl, rfl, trivial⟩ ?_)
  all_goals (refine goC 7 8 ?_ ?_ <;> first | exact ⟨⟩ | refine Hb.mk fun hb => ?_ | skip)
  all_goals (first | (fail_if_success refine goB 8 ?_) | (
  refine goB 8 ?_
  all_goals (refine WC.sr ?_)
  all_goals (refine Go ?_)
  all_goals (refine goC 9 10 ?_ ?_ <;> first | exact ⟨⟩ | refine Hb.mk fun hb => ?_ | skip)
  all_goals (first | (fail_if_success refine goB 9 ?_) | (
  refine goB 9 ?_
  all_goals (refine WC.region ?_)
  all_goals (refine Go ?_)
  all_goals (refine WL.step (ok_load (fun w => Tryz.isAgg5 w) rfl (by first | assumption | exact cell_blk (by assumption) rfl)) rfl rfl rfl ?_)
  all_goals (refine WL.stepR (okE_buildSlice (vs := [_]) (cs := [_]) (fun | [a0] => [a0] | _ => []) Tryz.underlying24 rfl rfl (by kernel_rfl)) rfl rfl rfl ?_
             rintro _ h1 ⟨b1, rfl, hg1, hb1, hx1⟩)
  all_goals (refine Go ?_)
  skip))
  all_goals (first | (fail_if_success refine goB 10 ?_) | (
  refine goB 10 ?_
  all_goals (refine WC.sr ?_)
  all_goals (refine Go ?_)
  all_goals (refine WC.sub [(1, _), (2, _), (5, _), (13, _), (38, _)] ⟨rfl, rfl, rfl, rfl, rfl, trivial⟩ ?_)
  all_goals (refine goC 11 12 ?_ ?_ <;> first | exact ⟨⟩ | refine Hb.mk fun hb => ?_ | skip)
  all_goals (first | (fail_if_success refine goB 12 ?_) | (
  refine goB 12 ?_
  all_goals (refine WC.sr ?_)
  all_goals (refine Go ?_)
  all_goals (refine goC 13 14 ?_ ?_ <;> first | exact ⟨⟩ | refine Hb.mk fun hb => ?_ | skip)
  all_goals (first | (fail_if_success refine goB 14 ?_) | (
  refine goB 14 ?_
  all_goals (refine WC.sr ?_)
  all_goals (refine Go ?_)
  all_goals (refine WC.sub [(1, _), (2, _), (5, _), (13, _), (48, _)] ⟨rfl, rfl, rfl, rfl, rfl, trivial⟩ ?_)
  all_goals (refine goC 15 16 ?_ ?_ <;> first | exact ⟨⟩ | refine Hb.mk fun hb => ?_ | skip)
  all_goals (first | (fail_if_success refine goB 16 ?_) | (
  refine goB 16 ?_
  all_goals (refine WC.sr ?_)
  all_goals (refine Go ?_)
  all_goals (refine goC 17 18 ?_ ?_ <;> first | exact ⟨⟩ | refine Hb.mk fun hb => ?_ | skip)
  all_goals (first | (fail_if_success refine goB 18 ?_) | (
  refine goB 18 ?_
  all_goals (refine WC.seq ?_)
  all_goals (refine WC.sr ?_)
  all_goals (refine Go ?_)
  all_goals (refine WC.sub [(1, _), (2, _), (5, _), (13, _), (58, _)] ⟨rfl, rfl, rfl, rfl, rfl, trivial⟩ ?_)
  all_goals (refine goC 19 20 ?_ ?_ <;> first | exact ⟨⟩ | refine Hb.mk fun hb => ?_ | skip)
  all_goals (first | (fail_if_success refine goB 19 ?_) | (
  refine goB 19 ?_
  all_goals (refine WC.skip ?_)
  skip))
  all_goals (first | (fail_if_success refine goB 20 ?_) | (
  refine goB 20 ?_
  all_goals (refine WC.region ?_)
  all_goals (refine Go ?_)
  skip))
  all_goals (refine Gn ?_)
  all_goals (refine goC 21 22 ?_ ?_ <;> first | exact ⟨⟩ | refine Hb.mk fun hb => ?_ | skip)
  all_goals (first | (fail_if_success refine goB 22 ?_) | (
  refine goB 22 ?_
  all_goals (refine WC.skip ?_)
  skip))
  skip))
  skip))
  skip))
  skip))
  skip))
  skip))
  skip))
  skip))
  all_goals (refine Gn ?_)
  all_goals (refine WC.sr ?_)
  all_goals (have hb16 := x6.obj hb13 nos
             have hb26 := x6.obj hb23 nos
             obtain ⟨A6, c6, e6, _⟩ := o6.slice
             have hO := o6
             try rw [e6] at hO
             subst e6)
  all_goals (refine WL.step (ok_fieldAddr rfl Tryz.underlying32 rfl (fun w => Tryz.sizeOf5 w)) rfl rfl rfl ?_)
  all_goals (refine WL.step (ok_load (fun w => Tryz.isAgg5 w) rfl (by first | exact cell_blk hb16 rfl | assumption | exact cell_blk (by assumption) rfl)) rfl rfl rfl ?_)
  all_goals (refine Go ?_)
  all_goals (refine WL.step (ok_buildF (vs := [_, _]) (cs := [_, _]) (fun | [a0, a1] => [a0, a1] | _ => []) rfl rfl (by kernel_rfl)) rfl rfl rfl ?_)
  all_goals (refine WL.stepR0 (okE_storeW (fun w => Tryz.sizeOf85 w) rfl rfl rfl hb26 rfl (by simp [Value.oneCell'])) rfl rfl ?_
             rintro _ h7 ⟨hb7, hx7⟩)
  all_goals (refine Go ?_)
  all_goals (refine WC.sub [(2, _), (3, _)] ⟨rfl, rfl, trivial⟩ ?_)
  all_goals (refine WC.ret ?_)
  all_goals (repeat' (with_reducible first | refine thenP_r ?_ | refine blockP_r ?_))
  all_goals (refine retP_2 _ _ ⟨⟨_, rfl, ld_blk (fun w => Tryz.isAgg85 w) (fun w => Tryz.sizeOf85 w) hb7 rfl⟩, rfl, trivial⟩ ?_)
  all_goals (exact ⟨_, rfl, o6.ext hx7 (fun q hq e => by obtain ⟨_, z⟩ := own_kind o6 hq; rw [e, hb26] at z; simp at z), (hX3.trans x6).trans' hx7 (fun q hq e => by have := hx1.size; omega)⟩)
set_option maxHeartbeats 4000000 in
set_option maxRecDepth 100000 in
theorem encQ_75 {h : Heap} (b : Bk) (hb : b.ok h) (hw : b.wf) (hmd : b.mid) (hmay : b.may) (hk : b.kind = 75) :
    CallsH Tryz.prog 55 ⟨[.agg ⟨b.cells⟩]⟩ h fun u h' => ∃ v', u = .tuple ⟨[.agg ⟨[.int .u8 75, v']⟩, In 0]⟩ ∧ Own h' v' 5 1 (encBk b).length (bys (encBk b)) ∧ Ext No h h' := by
  have kc := fun h' (hx : Ext No h h') => checkA07 b (hb.ext0 hx) hw.kind hmd
  have hL : encBk b = be b.n 4 ++ be b.m 4 := by simp [encBk, hk]
  rw [hL]
  clear hL
  have hst := hw.status
  obtain ⟨md1, md2, md3, md4, md5, md6, md7, md8, md9, md10⟩ := hmd
  have m_c := hmay.cols.2
  have m_o := hmay.oids.2
  have m_n := hmay.n
  have m_m := hmay.m
  have m_r := hmay.row.2
  have hF : ∀ f ∈ b.fields, f.t.length ≤ 200000 ∧ 0 ≤ f.k ∧ f.k ≤ 255 := fun f hf => ⟨md7 f hf, hw.codes f hf⟩
  clear hw
  obtain ⟨ho, hc, hr, hf⟩ := hb
  obtain ⟨k, st, t, n, v, x, y, vo, lo, vc, lc, vr, lr, vf, lf⟩ := b
  dsimp only at hk hst ho hc hr hf md1 md2 md3 md4 md5 md6 md7 md8 md9 md10 m_c m_o m_n m_m m_r hF ⊢
  have hro := ho.1
  have hrc := hc.1
  have hrr := hr.1
  have hrf := hf.1
  obtain ⟨Ao, co, rfl, _⟩ := id hro
  obtain ⟨Ac, cc, rfl, _⟩ := id hrc
  obtain ⟨Ar, cr, rfl, _⟩ := id hrr
  obtain ⟨Af, cf, rfl, _⟩ := id hrf
  dsimp only [Bk.cells] at kc ⊢
  subst hk
  refine calls [(0, _)] Tryz.func55 rfl Tryz.ntmps55 rfl ⟨rfl, trivial⟩ ?_
  all_goals (refine WC.sr ?_)
  all_goals (refine WL.stepR (okE_box rfl) rfl rfl rfl ?_
             rintro _ h1 ⟨b1, rfl, hg1, hb1, hx1⟩)
  all_goals (refine WL.stepR (okE_alloc (fun w => Tryz.zeroValue85 w)) rfl rfl rfl ?_
             rintro _ h2 ⟨b2, rfl, hg2, hb2, hx2⟩)
  all_goals (have hX2 := hx1.trans hx2
             have hb12 := hx2.obj hb1 nos)
  all_goals (refine Go ?_)
  all_goals (refine WC.seq ?_)
  all_goals (refine WC.sr ?_)
  all_goals (refine WL.step (ok_loadN (fun w => Tryz.isAgg32 w) (fun w => Tryz.sizeOf32 w) rfl rfl (by exact At.of_block hb12)) rfl rfl rfl ?_)
  all_goals (refine WL.call (vs := [_]) rfl (fun a w => Tryz.call72 a w) rfl (kc _ hX2) rfl rfl rfl ?_
             rintro _ h3 ⟨⟨e, rfl, he⟩, hx3⟩
             obtain rfl := he.2 hmay)
  all_goals (have hb13 := hx3.obj hb12 nos
             have hb23 := hx3.obj hb2 nos
             have hX3 := hX2.trans hx3
             have l1 := lt_of_some hb13
             have l2 := lt_of_some hb23)
  all_goals (refine Go ?_)
  all_goals (refine WC.sub [(1, _), (2, _), (4, _)] ⟨rfl, rfl, rfl, trivial⟩ ?_)
  all_goals (refine WC.sr ?_)
  all_goals (refine Go ?_)
  all_goals (refine goC 1 2 ?_ ?_ <;> first | exact ⟨⟩ | refine Hb.mk fun hb => ?_ | skip)
  all_goals (first | (fail_if_success refine goB 1 ?_) | (
  refine goB 1 ?_
  all_goals (refine WC.sr ?_)
  all_goals (refine WL.step (ok_buildF (vs := []) (cs := [_, _]) (fun | [] => [(.int .u8 0), (.slice none 0 0)] | _ => []) rfl rfl (by kernel_rfl)) rfl rfl rfl ?_)
  all_goals (refine Go ?_)
  all_goals (refine WL.stepR0 (okE_storeW (fun w => Tryz.sizeOf85 w) rfl rfl rfl (by assumption) rfl (by simp [Value.oneCell'])) rfl rfl ?_
             rintro _ h1 ⟨hb1, hx1⟩)
  all_goals (refine Go ?_)
  all_goals (refine WC.sub [(2, _), (3, _)] ⟨rfl, rfl, trivial⟩ ?_)
  all_goals (refine WC.ret ?_)
  all_goals (repeat' (with_reducible first | refine thenP_r ?_ | refine blockP_r ?_))
  all_goals (refine retP_2 _ _ ⟨⟨_, rfl, ld_blk (fun w => Tryz.isAgg85 w) (fun w => Tryz.sizeOf85 w) hb7 rfl⟩, rfl, trivial⟩ ?_)
  all_goals (exact ⟨_, rfl, o6.ext hx7 (fun q hq e => by obtain ⟨_, z⟩ := own_kind o6 hq; rw [e, hb26] at z; simp at z), (hX3.trans x6).trans' hx7 (fun q hq e => by have := hx1.size; omega)⟩)
  skip))
  all_goals (first | (fail_if_success refine goB 2 ?_) | (
  refine goB 2 ?_
  all_goals (refine WC.skip ?_)
  skip))
  all_goals (refine Gn ?_)
  all_goals (refine WC.sr ?_)
  all_goals (refine Go ?_)
  all_goals (refine WC.seq ?_)
  all_goals (refine WC.sr ?_)
  all_goals (refine Go ?_)
  all_goals (refine WL.step (ok_load (fun w => Tryz.isAgg5 w) rfl (by first | exact cell_blk hb13 rfl | assumption | exact cell_blk (by assumption) rfl)) rfl rfl rfl ?_)
  all_goals (refine Gn ?_)
  all_goals (refine WC.sub [(1, _), (2, _), (5, _), (13, _)] ⟨rfl, rfl, rfl, rfl, trivial⟩ ?_)
  all_goals (refine WC.block ?_)
  all_goals (refine WC.sr ?_)
  all_goals (refine Go ?_)
  all_goals (refine goC 3 4 ?_ ?_ <;> first | exact ⟨⟩ | refine Hb.mk fun hb => ?_ | skip)
  all_goals (first | (fail_if_success refine goB 4 ?_) | (
  refine goB 4 ?_
  all_goals (refine WC.sr ?_)
  all_goals (refine Go ?_)
  all_goals (refine goC 5 6 ?_ ?_ <;> first | exact ⟨⟩ | refine Hb.mk fun hb => ?_ | skip)
  all_goals (first | (fail_if_success refine goB 6 ?_) | (
  refine goB 6 ?_
  all_goals (refine WC.sr ?_)
  all_goals (refine Go ?_)
  all_goals (refine WC.sub [(1, _), (2, _), (5, _), (13, _), (25, _)] ⟨rfl, rfl, rfl, rfl, rfl, trivial⟩ ?_)
  all_goals (refine goC 7 8 ?_ ?_ <;> first | exact ⟨⟩ | refine Hb.mk fun hb => ?_ | skip)
  all_goals (first | (fail_if_success refine goB 7 ?_) | (
  refine goB 7 ?_
  all_goals (refine WC.drawH (fun h' => Ext No h3 h') 6 7 rfl fol ?_)
  all_goals (refine WH.tk 0 rfl (fun hq hC => ok_fieldAddr rfl Tryz.underlying32 rfl (fun w => Tryz.sizeOf3 w)) rfl rfl rfl ?_)
  all_goals (refine WH.tk 1 rfl (fun hq hC => ok_load (fun w => Tryz.isAgg3 w) rfl (by first | exact hC.cell (by first | exact cell_blk hb13 rfl | assumption | exact cell_blk (by assumption) rfl) nos)) rfl rfl rfl ?_)
  all_goals (refine WH.tk 3 rfl (fun hq hC => ok_fieldAddr rfl Tryz.underlying32 rfl (fun w => Tryz.sizeOf3 w)) rfl rfl rfl ?_)
  all_goals (refine WH.tk 4 rfl (fun hq hC => ok_load (fun w => Tryz.isAgg3 w) rfl (by first | exact hC.cell (by first | exact cell_blk hb13 rfl | assumption | exact cell_blk (by assumption) rfl) nos)) rfl rfl rfl ?_)
  all_goals (refine WH.one 2 (by kernel_rfl) ?_)
  all_goals (refine Comes1.call (vs := [_, _, _]) rfl rfl (fun a w => Tryz.call73 a w) rfl (put01 [] x 4 sz4 (rt4s (by omega)) (Rd.nil _ _) (by decide)) rfl rfl rfl ?_ (fun _ => by kernel_rfl)
             rintro v5 h5 ⟨ho5, hC5, hF5⟩)
  all_goals (refine ⟨fun _ => hC5, ?_⟩)
  all_goals (refine WH.one 5 (by kernel_rfl) ?_)
  all_goals (refine Comes1.call (vs := [_, _, _]) rfl rfl (fun a w => Tryz.call73 a w) rfl (put01 _ y 4 sz4 (rt4s (by omega)) ho5.rd (by simp only [List.length_append, be_len, List.length_nil]; omega)) rfl rfl rfl ?_ (fun _ => by kernel_rfl)
             rintro v6 h6 ⟨ho6, hx6, hF6⟩
             have hC6 := hC5.trans hx6)
  all_goals (refine ⟨fun _ => hC6, ?_⟩)
  all_goals (have o6 : Own h6 v6 5 1 (be x 4 ++ be y 4).length (bys (be x 4 ++ be y 4)) := by simpa using ho6
             have x6 : Ext No h3 h6 := hC6)
  all_goals (refine WH.one 6 (by kernel_rfl) ?_)
  all_goals (refine Comes1.run rfl (OkP.r (ok_assign rfl)) rfl rfl rfl ?_ (fun _ => by kernel_rfl)
             rintro _ hz ⟨rfl, _⟩
             subst hz)
  all_goals (refine ⟨fun _ => hC6, ?_⟩)
  all_goals (refine WH.done (by kernel_rfl) ?_)
  skip))
  all_goals (first | (fail_if_success refine goB 8 ?_) | (
  refine goB 8 ?_
  all_goals (refine WC.sr ?_)
  all_goals (refine Go ?_)
  all_goals (refine goC 9 10 ?_ ?_ <;> first | exact ⟨⟩ | refine Hb.mk fun hb => ?_ | skip)
  all_goals (first | (fail_if_success refine goB 9 ?_) | (
  refine goB 9 ?_
  all_goals (refine WC.region ?_)
  all_goals (refine Go ?_)
  all_goals (refine WL.step (ok_load (fun w => Tryz.isAgg5 w) rfl (by first | assumption | exact cell_blk (by assumption) rfl)) rfl rfl rfl ?_)
  all_goals (refine WL.stepR (okE_buildSlice (vs := [_]) (cs := [_]) (fun | [a0] => [a0] | _ => []) Tryz.underlying24 rfl rfl (by kernel_rfl)) rfl rfl rfl ?_
             rintro _ h1 ⟨b1, rfl, hg1, hb1, hx1⟩)
  all_goals (refine Go ?_)
  skip))
  all_goals (first | (fail_if_success refine goB 10 ?_) | (
  refine goB 10 ?_
  all_goals (refine WC.sr ?_)
  all_goals (refine Go ?_)
  all_goals (refine WC.sub [(1, _), (2, _), (5, _), (13, _), (38, _)] ⟨rfl, rfl, rfl, rfl, rfl, trivial⟩ ?_)
  all_goals (refine goC 11 12 ?_ ?_ <;> first | exact ⟨⟩ | refine Hb.mk fun hb => ?_ | skip)
  all_goals (first | (fail_if_success refine goB 12 ?_) | (
  refine goB 12 ?_
  all_goals (refine WC.sr ?_)
  all_goals (refine Go ?_)
  all_goals (refine goC 13 14 ?_ ?_ <;> first | exact ⟨⟩ | refine Hb.mk fun hb => ?_ | skip)
  all_goals (first | (fail_if_success refine goB 14 ?_) | (
  refine goB 14 ?_
  all_goals (refine WC.sr ?_)
  all_goals (refine Go ?_)
  all_goals (refine WC.sub [(1, _), (2, _), (5, _), (13, _), (48, _)] ⟨rfl, rfl, rfl, rfl, rfl, trivial⟩ ?_)
  all_goals (refine goC 15 16 ?_ ?_ <;> first | exact ⟨⟩ | refine Hb.mk fun hb => ?_ | skip)
  all_goals (first | (fail_if_success refine goB 16 ?_) | (
  refine goB 16 ?_
  all_goals (refine WC.sr ?_)
  all_goals (refine Go ?_)
  all_goals (refine goC 17 18 ?_ ?_ <;> first | exact ⟨⟩ | refine Hb.mk fun hb => ?_ | skip)
  all_goals (first | (fail_if_success refine goB 18 ?_) | (
  refine goB 18 ?_
  all_goals (refine WC.seq ?_)
  all_goals (refine WC.sr ?_)
  all_goals (refine Go ?_)
  all_goals (refine WC.sub [(1, _), (2, _), (5, _), (13, _), (58, _)] ⟨rfl, rfl, rfl, rfl, rfl, trivial⟩ ?_)
  all_goals (refine goC 19 20 ?_ ?_ <;> first | exact ⟨⟩ | refine Hb.mk fun hb => ?_ | skip)
  all_goals (first | (fail_if_success refine goB 19 ?_) | (
  refine goB 19 ?_
  all_goals (refine WC.skip ?_)
  skip))
  all_goals (first | (fail_if_success refine goB 20 ?_) | (
  refine goB 20 ?_
  all_goals (refine WC.region ?_)
  all_goals (refine Go ?_)
  skip))
  all_goals (refine Gn ?_)
  all_goals (refine goC 21 22 ?_ ?_ <;> first | exact ⟨⟩ | refine Hb.mk fun hb => ?_ | skip)
  all_goals (first | (fail_if_success refine goB 22 ?_) | (
  refine goB 22 ?_
  all_goals (refine WC.skip ?_)
  skip))
  skip))
  skip))
  skip))
  skip))
  skip))
  skip))
  skip))
  skip))
  all_goals (refine Gn ?_)
  all_goals (refine WC.sr ?_)
  all_goals (have hb16 := x6.obj hb13 nos
             have hb26 := x6.obj hb23 nos
             obtain ⟨A6, c6, e6, _⟩ := o6.slice
             have hO := o6
             try rw [e6] at hO
             subst e6)
  all_goals (refine WL.step (ok_fieldAddr rfl Tryz.underlying32 rfl (fun w => Tryz.sizeOf5 w)) rfl rfl rfl ?_)
  all_goals (refine WL.step (ok_load (fun w => Tryz.isAgg5 w) rfl (by first | exact cell_blk hb16 rfl | assumption | exact cell_blk (by assumption) rfl)) rfl rfl rfl ?_)
  all_goals (refine Go ?_)
  all_goals (refine WL.step (ok_buildF (vs := [_, _]) (cs := [_, _]) (fun | [a0, a1] => [a0, a1] | _ => []) rfl rfl (by kernel_rfl)) rfl rfl rfl ?_)
  all_goals (refine WL.stepR0 (okE_storeW (fun w => Tryz.sizeOf85 w) rfl rfl rfl hb26 rfl (by simp [Value.oneCell'])) rfl rfl ?_
             rintro _ h7 ⟨hb7, hx7⟩)
  all_goals (refine Go ?_)
  all_goals (refine WC.sub [(2, _), (3, _)] ⟨rfl, rfl, trivial⟩ ?_)
  all_goals (refine WC.ret ?_)
  all_goals (repeat' (with_reducible first | refine thenP_r ?_ | refine blockP_r ?_))
  all_goals (refine retP_2 _ _ ⟨⟨_, rfl, ld_blk (fun w => Tryz.isAgg85 w) (fun w => Tryz.sizeOf85 w) hb7 rfl⟩, rfl, trivial⟩ ?_)
  all_goals (exact ⟨_, rfl, o6.ext hx7 (fun q hq e => by obtain ⟨_, z⟩ := own_kind o6 hq; rw [e, hb26] at z; simp at z), (hX3.trans x6).trans' hx7 (fun q hq e => by have := hx1.size; omega)⟩)
set_option maxHeartbeats 4000000 in
set_option maxRecDepth 100000 in
theorem encQ_90 {h : Heap} (b : Bk) (hb : b.ok h) (hw : b.wf) (hmd : b.mid) (hmay : b.may) (hk : b.kind = 90) :
    CallsH Tryz.prog 55 ⟨[.agg ⟨b.cells⟩]⟩ h fun u h' => ∃ v', u = .tuple ⟨[.agg ⟨[.int .u8 90, v']⟩, In 0]⟩ ∧ Own h' v' 5 1 (encBk b).length (bys (encBk b)) ∧ Ext No h h' := by
  have kc := fun h' (hx : Ext No h h') => checkA07 b (hb.ext0 hx) hw.kind hmd
  have hL : encBk b = [UInt8.ofNat b.status.toNat] := by simp [encBk, hk]
  rw [hL]
  clear hL
  have hst := hw.status
  obtain ⟨md1, md2, md3, md4, md5, md6, md7, md8, md9, md10⟩ := hmd
  have m_c := hmay.cols.2
  have m_o := hmay.oids.2
  have m_n := hmay.n
  have m_m := hmay.m
  have m_r := hmay.row.2
  have hF : ∀ f ∈ b.fields, f.t.length ≤ 200000 ∧ 0 ≤ f.k ∧ f.k ≤ 255 := fun f hf => ⟨md7 f hf, hw.codes f hf⟩
  clear hw
  obtain ⟨ho, hc, hr, hf⟩ := hb
  obtain ⟨k, st, t, n, v, x, y, vo, lo, vc, lc, vr, lr, vf, lf⟩ := b
  dsimp only at hk hst ho hc hr hf md1 md2 md3 md4 md5 md6 md7 md8 md9 md10 m_c m_o m_n m_m m_r hF ⊢
  have hro := ho.1
  have hrc := hc.1
  have hrr := hr.1
  have hrf := hf.1
  obtain ⟨Ao, co, rfl, _⟩ := id hro
  obtain ⟨Ac, cc, rfl, _⟩ := id hrc
  obtain ⟨Ar, cr, rfl, _⟩ := id hrr
  obtain ⟨Af, cf, rfl, _⟩ := id hrf
  dsimp only [Bk.cells] at kc ⊢
  subst hk
  refine calls [(0, _)] Tryz.func55 rfl Tryz.ntmps55 rfl ⟨rfl, trivial⟩ ?_
  all_goals (refine WC.sr ?_)
  all_goals (refine WL.stepR (okE_box rfl) rfl rfl rfl ?_
             rintro _ h1 ⟨b1, rfl, hg1, hb1, hx1⟩)
  all_goals (refine WL.stepR (okE_alloc (fun w => Tryz.zeroValue85 w)) rfl rfl rfl ?_
             rintro _ h2 ⟨b2, rfl, hg2, hb2, hx2⟩)
  all_goals (have hX2 := hx1.trans hx2
             have hb12 := hx2.obj hb1 nos)
  all_goals (refine Go ?_)
  all_goals (refine WC.seq ?_)
  all_goals (refine WC.sr ?_)
  all_goals (refine WL.step (ok_loadN (fun w => Tryz.isAgg32 w) (fun w => Tryz.sizeOf32 w) rfl rfl (by exact At.of_block hb12)) rfl rfl rfl ?_)
  all_goals (refine WL.call (vs := [_]) rfl (fun a w => Tryz.call72 a w) rfl (kc _ hX2) rfl rfl rfl ?_
             rintro _ h3 ⟨⟨e, rfl, he⟩, hx3⟩
             obtain rfl := he.2 hmay)
  all_goals (have hb13 := hx3.obj hb12 nos
             have hb23 := hx3.obj hb2 nos
             have hX3 := hX2.trans hx3
             have l1 := lt_of_some hb13
             have l2 := lt_of_some hb23)
  all_goals (refine Go ?_)
  all_goals (refine WC.sub [(1, _), (2, _), (4, _)] ⟨rfl, rfl, rfl, trivial⟩ ?_)
  all_goals (refine WC.sr ?_)
  all_goals (refine Go ?_)
  all_goals (refine goC 1 2 ?_ ?_ <;> first | exact ⟨⟩ | refine Hb.mk fun hb => ?_ | skip)
  all_goals (first | (fail_if_success refine goB 1 ?_) | (
  refine goB 1 ?_
  all_goals (refine WC.sr ?_)
  all_goals (refine WL.step (ok_buildF (vs := []) (cs := [_, _]) (fun | [] => [(.int .u8 0), (.slice none 0 0)] | _ => []) rfl rfl (by kernel_rfl)) rfl rfl rfl ?_)
  all_goals (refine Go ?_)
  all_goals (refine WL.stepR0 (okE_storeW (fun w => Tryz.sizeOf85 w) rfl rfl rfl (by assumption) rfl (by simp [Value.oneCell'])) rfl rfl ?_
             rintro _ h1 ⟨hb1, hx1⟩)
  all_goals (refine Go ?_)
  all_goals (refine WC.sub [(2, _), (3, _)] ⟨rfl, rfl, trivial⟩ ?_)
  all_goals (refine WC.ret ?_)
  all_goals (repeat' (with_reducible first | refine thenP_r ?_ | refine blockP_r ?_))
  all_goals (refine retP_2 _ _ ⟨⟨_, rfl, ld_blk (fun w => Tryz.isAgg85 w) (fun w => Tryz.sizeOf85 w) hb7 rfl⟩, rfl, trivial⟩ ?_)
  all_goals (exact ⟨_, rfl, o6.ext hx7 (fun q hq e => by obtain ⟨_, z⟩ := own_kind o6 hq; rw [e, hb26] at z; simp at z), (hX3.trans x6).trans' hx7 (fun q hq e => by have := hx1.size; omega)⟩)
  skip))
  all_goals (first | (fail_if_success refine goB 2 ?_) | (
  refine goB 2 ?_
  all_goals (refine WC.skip ?_)
  skip))
  all_goals (refine Gn ?_)
  all_goals (refine WC.sr ?_)
  all_goals (refine Go ?_)
  all_goals (refine WC.seq ?_)
  all_goals (refine WC.sr ?_)
  all_goals (refine Go ?_)
  all_goals (refine WL.step (ok_load (fun w => Tryz.isAgg5 w) rfl (by first | exact cell_blk hb13 rfl | assumption | exact cell_blk (by assumption) rfl)) rfl rfl rfl ?_)
  all_goals (refine Gn ?_)
  all_goals (refine WC.sub [(1, _), (2, _), (5, _), (13, _)] ⟨rfl, rfl, rfl, rfl, trivial⟩ ?_)
  all_goals (refine WC.block ?_)
  all_goals (refine WC.sr ?_)
  all_goals (refine Go ?_)
  all_goals (refine goC 3 4 ?_ ?_ <;> first | exact ⟨⟩ | refine Hb.mk fun hb => ?_ | skip)
  all_goals (first | (fail_if_success refine goB 4 ?_) | (
  refine goB 4 ?_
  all_goals (refine WC.sr ?_)
  all_goals (refine Go ?_)
  all_goals (refine goC 5 6 ?_ ?_ <;> first | exact ⟨⟩ | refine Hb.mk fun hb => ?_ | skip)
  all_goals (first | (fail_if_success refine goB 6 ?_) | (
  refine goB 6 ?_
  all_goals (refine WC.sr ?_)
  all_goals (refine Go ?_)
  all_goals (refine WC.sub [(1, _), (2, _), (5, _), (13, _), (25, _)] ⟨rfl, rfl, rfl, rfl, rfl, trivial⟩ ?_)
  all_goals (refine goC 7 8 ?_ ?_ <;> first | exact ⟨⟩ | refine Hb.mk fun hb => ?_ | skip)
  all_goals (first | (fail_if_success refine goB 8 ?_) | (
  refine goB 8 ?_
  all_goals (refine WC.sr ?_)
  all_goals (refine Go ?_)
  all_goals (refine goC 9 10 ?_ ?_ <;> first | exact ⟨⟩ | refine Hb.mk fun hb => ?_ | skip)
  all_goals (first | (fail_if_success refine goB 9 ?_) | (
  refine goB 9 ?_
  all_goals (refine WC.region ?_)
  all_goals (refine Go ?_)
  all_goals (refine WL.step (ok_load (fun w => Tryz.isAgg5 w) rfl (by first | exact cell_blk hb13 rfl | assumption | exact cell_blk (by assumption) rfl)) rfl rfl rfl ?_)
  all_goals (refine WL.stepR (okE_buildSlice (vs := [_]) (cs := [_]) (fun | [a0] => [a0] | _ => []) Tryz.underlying24 rfl rfl (by kernel_rfl)) rfl rfl rfl ?_
             rintro _ h6 ⟨b6, rfl, hg6, hb6, x6⟩)
  all_goals (have o6 : Own h6 _ 5 1 ([UInt8.ofNat st.toNat]).length (bys ([UInt8.ofNat st.toNat])) := own_blk (by show h6[b6]? = some (.cells ⟨bys [UInt8.ofNat st.toNat]⟩ 5 (0, 0)); rw [show bys [UInt8.ofNat st.toNat] = [.int .u8 st] by simp only [bys, List.map_cons, List.map_nil]; exact congrArg (fun z => [z]) (byK hst.1 hst.2)]; exact hb6) rfl (by simp [maxLen]))
  all_goals (refine Go ?_)
  skip))
  all_goals (first | (fail_if_success refine goB 10 ?_) | (
  refine goB 10 ?_
  all_goals (refine WC.sr ?_)
  all_goals (refine Go ?_)
  all_goals (refine WC.sub [(1, _), (2, _), (5, _), (13, _), (38, _)] ⟨rfl, rfl, rfl, rfl, rfl, trivial⟩ ?_)
  all_goals (refine goC 11 12 ?_ ?_ <;> first | exact ⟨⟩ | refine Hb.mk fun hb => ?_ | skip)
  all_goals (first | (fail_if_success refine goB 12 ?_) | (
  refine goB 12 ?_
  all_goals (refine WC.sr ?_)
  all_goals (refine Go ?_)
  all_goals (refine goC 13 14 ?_ ?_ <;> first | exact ⟨⟩ | refine Hb.mk fun hb => ?_ | skip)
  all_goals (first | (fail_if_success refine goB 14 ?_) | (
  refine goB 14 ?_
  all_goals (refine WC.sr ?_)
  all_goals (refine Go ?_)
  all_goals (refine WC.sub [(1, _), (2, _), (5, _), (13, _), (48, _)] ⟨rfl, rfl, rfl, rfl, rfl, trivial⟩ ?_)
  all_goals (refine goC 15 16 ?_ ?_ <;> first | exact ⟨⟩ | refine Hb.mk fun hb => ?_ | skip)
  all_goals (first | (fail_if_success refine goB 16 ?_) | (
  refine goB 16 ?_
  all_goals (refine WC.sr ?_)
  all_goals (refine Go ?_)
  all_goals (refine goC 17 18 ?_ ?_ <;> first | exact ⟨⟩ | refine Hb.mk fun hb => ?_ | skip)
  all_goals (first | (fail_if_success refine goB 18 ?_) | (
  refine goB 18 ?_
  all_goals (refine WC.seq ?_)
  all_goals (refine WC.sr ?_)
  all_goals (refine Go ?_)
  all_goals (refine WC.sub [(1, _), (2, _), (5, _), (13, _), (58, _)] ⟨rfl, rfl, rfl, rfl, rfl, trivial⟩ ?_)
  all_goals (refine goC 19 20 ?_ ?_ <;> first | exact ⟨⟩ | refine Hb.mk fun hb => ?_ | skip)
  all_goals (first | (fail_if_success refine goB 19 ?_) | (
  refine goB 19 ?_
  all_goals (refine WC.skip ?_)
  skip))
  all_goals (first | (fail_if_success refine goB 20 ?_) | (
  refine goB 20 ?_
  all_goals (refine WC.region ?_)
  all_goals (refine Go ?_)
  skip))
  all_goals (refine Gn ?_)
  all_goals (refine goC 21 22 ?_ ?_ <;> first | exact ⟨⟩ | refine Hb.mk fun hb => ?_ | skip)
  all_goals (first | (fail_if_success refine goB 22 ?_) | (
  refine goB 22 ?_
  all_goals (refine WC.skip ?_)
  skip))
  skip))
  skip))
  skip))
  skip))
  skip))
  skip))
  skip))
  skip))
  all_goals (refine Gn ?_)
  all_goals (refine WC.sr ?_)
  all_goals (have hb16 := x6.obj hb13 nos
             have hb26 := x6.obj hb23 nos
             obtain ⟨A6, c6, e6, _⟩ := o6.slice
             have hO := o6
             try rw [e6] at hO)
  all_goals (refine WL.step (ok_fieldAddr rfl Tryz.underlying32 rfl (fun w => Tryz.sizeOf5 w)) rfl rfl rfl ?_)
  all_goals (refine WL.step (ok_load (fun w => Tryz.isAgg5 w) rfl (by first | exact cell_blk hb16 rfl | assumption | exact cell_blk (by assumption) rfl)) rfl rfl rfl ?_)
  all_goals (refine Go ?_)
  all_goals (refine WL.step (ok_buildF (vs := [_, _]) (cs := [_, _]) (fun | [a0, a1] => [a0, a1] | _ => []) rfl rfl (by kernel_rfl)) rfl rfl rfl ?_)
  all_goals (refine WL.stepR0 (okE_storeW (fun w => Tryz.sizeOf85 w) rfl rfl rfl hb26 rfl (by simp [Value.oneCell'])) rfl rfl ?_
             rintro _ h7 ⟨hb7, hx7⟩)
  all_goals (refine Go ?_)
  all_goals (refine WC.sub [(2, _), (3, _)] ⟨rfl, rfl, trivial⟩ ?_)
  all_goals (refine WC.ret ?_)
  all_goals (repeat' (with_reducible first | refine thenP_r ?_ | refine blockP_r ?_))
  all_goals (refine retP_2 _ _ ⟨⟨_, rfl, ld_blk (fun w => Tryz.isAgg85 w) (fun w => Tryz.sizeOf85 w) hb7 rfl⟩, rfl, trivial⟩ ?_)
  all_goals (exact ⟨_, rfl, o6.ext hx7 (fun q hq e => by obtain ⟨_, z⟩ := own_kind o6 hq; rw [e, hb26] at z; simp at z), (hX3.trans x6).trans' hx7 (fun q hq e => by have := hx1.size; omega)⟩)
set_option maxHeartbeats 4000000 in
set_option maxRecDepth 100000 in
theorem encQ_67 {h : Heap} (b : Bk) (hb : b.ok h) (hw : b.wf) (hmd : b.mid) (hmay : b.may) (hk : b.kind = 67) :
    CallsH Tryz.prog 55 ⟨[.agg ⟨b.cells⟩]⟩ h fun u h' => ∃ v', u = .tuple ⟨[.agg ⟨[.int .u8 67, v']⟩, In 0]⟩ ∧ Own h' v' 5 1 (encBk b).length (bys (encBk b)) ∧ Ext No h h' := by
  have kc := fun h' (hx : Ext No h h') => checkA07 b (hb.ext0 hx) hw.kind hmd
  have hL : encBk b = b.tag ++ [0] := by simp [encBk, hk]
  rw [hL]
  clear hL
  have hst := hw.status
  obtain ⟨md1, md2, md3, md4, md5, md6, md7, md8, md9, md10⟩ := hmd
  have m_c := hmay.cols.2
  have m_o := hmay.oids.2
  have m_n := hmay.n
  have m_m := hmay.m
  have m_r := hmay.row.2
  have hF : ∀ f ∈ b.fields, f.t.length ≤ 200000 ∧ 0 ≤ f.k ∧ f.k ≤ 255 := fun f hf => ⟨md7 f hf, hw.codes f hf⟩
  clear hw
  obtain ⟨ho, hc, hr, hf⟩ := hb
  obtain ⟨k, st, t, n, v, x, y, vo, lo, vc, lc, vr, lr, vf, lf⟩ := b
  dsimp only at hk hst ho hc hr hf md1 md2 md3 md4 md5 md6 md7 md8 md9 md10 m_c m_o m_n m_m m_r hF ⊢
  have hro := ho.1
  have hrc := hc.1
  have hrr := hr.1
  have hrf := hf.1
  obtain ⟨Ao, co, rfl, _⟩ := id hro
  obtain ⟨Ac, cc, rfl, _⟩ := id hrc
  obtain ⟨Ar, cr, rfl, _⟩ := id hrr
  obtain ⟨Af, cf, rfl, _⟩ := id hrf
  dsimp only [Bk.cells] at kc ⊢
  subst hk
  refine calls [(0, _)] Tryz.func55 rfl Tryz.ntmps55 rfl ⟨rfl, trivial⟩ ?_
  all_goals (refine WC.sr ?_)
  all_goals (refine WL.stepR (okE_box rfl) rfl rfl rfl ?_
             rintro _ h1 ⟨b1, rfl, hg1, hb1, hx1⟩)
  all_goals (refine WL.stepR (okE_alloc (fun w => Tryz.zeroValue85 w)) rfl rfl rfl ?_
             rintro _ h2 ⟨b2, rfl, hg2, hb2, hx2⟩)
  all_goals (have hX2 := hx1.trans hx2
             have hb12 := hx2.obj hb1 nos)
  all_goals (refine Go ?_)
  all_goals (refine WC.seq ?_)
  all_goals (refine WC.sr ?_)
  all_goals (refine WL.step (ok_loadN (fun w => Tryz.isAgg32 w) (fun w => Tryz.sizeOf32 w) rfl rfl (by exact At.of_block hb12)) rfl rfl rfl ?_)
  all_goals (refine WL.call (vs := [_]) rfl (fun a w => Tryz.call72 a w) rfl (kc _ hX2) rfl rfl rfl ?_
             rintro _ h3 ⟨⟨e, rfl, he⟩, hx3⟩
             obtain rfl := he.2 hmay)
  all_goals (have hb13 := hx3.obj hb12 nos
             have hb23 := hx3.obj hb2 nos
             have hX3 := hX2.trans hx3
             have l1 := lt_of_some hb13
             have l2 := lt_of_some hb23)
  all_goals (refine Go ?_)
  all_goals (refine WC.sub [(1, _), (2, _), (4, _)] ⟨rfl, rfl, rfl, trivial⟩ ?_)
  all_goals (refine WC.sr ?_)
  all_goals (refine Go ?_)
  all_goals (refine goC 1 2 ?_ ?_ <;> first | exact ⟨⟩ | refine Hb.mk fun hb => ?_ | skip)
  all_goals (first | (fail_if_success refine goB 1 ?_) | (
  refine goB 1 ?_
  all_goals (refine WC.sr ?_)
  all_goals (refine WL.step (ok_buildF (vs := []) (cs := [_, _]) (fun | [] => [(.int .u8 0), (.slice none 0 0)] | _ => []) rfl rfl (by kernel_rfl)) rfl rfl rfl ?_)
  all_goals (refine Go ?_)
  all_goals (refine WL.stepR0 (okE_storeW (fun w => Tryz.sizeOf85 w) rfl rfl rfl (by assumption) rfl (by simp [Value.oneCell'])) rfl rfl ?_
             rintro _ h1 ⟨hb1, hx1⟩)
  all_goals (refine Go ?_)
  all_goals (refine WC.sub [(2, _), (3, _)] ⟨rfl, rfl, trivial⟩ ?_)
  all_goals (refine WC.ret ?_)
  all_goals (repeat' (with_reducible first | refine thenP_r ?_ | refine blockP_r ?_))
  all_goals (refine retP_2 _ _ ⟨⟨_, rfl, ld_blk (fun w => Tryz.isAgg85 w) (fun w => Tryz.sizeOf85 w) hb7 rfl⟩, rfl, trivial⟩ ?_)
  all_goals (exact ⟨_, rfl, o6.ext hx7 (fun q hq e => by obtain ⟨_, z⟩ := own_kind o6 hq; rw [e, hb26] at z; simp at z), (hX3.trans x6).trans' hx7 (fun q hq e => by have := hx1.size; omega)⟩)
  skip))
  all_goals (first | (fail_if_success refine goB 2 ?_) | (
  refine goB 2 ?_
  all_goals (refine WC.skip ?_)
  skip))
  all_goals (refine Gn ?_)
  all_goals (refine WC.sr ?_)
  all_goals (refine Go ?_)
  all_goals (refine WC.seq ?_)
  all_goals (refine WC.sr ?_)
  all_goals (refine Go ?_)
  all_goals (refine WL.step (ok_load (fun w => Tryz.isAgg5 w) rfl (by first | exact cell_blk hb13 rfl | assumption | exact cell_blk (by assumption) rfl)) rfl rfl rfl ?_)
  all_goals (refine Gn ?_)
  all_goals (refine WC.sub [(1, _), (2, _), (5, _), (13, _)] ⟨rfl, rfl, rfl, rfl, trivial⟩ ?_)
  all_goals (refine WC.block ?_)
  all_goals (refine WC.sr ?_)
  all_goals (refine Go ?_)
  all_goals (refine goC 3 4 ?_ ?_ <;> first | exact ⟨⟩ | refine Hb.mk fun hb => ?_ | skip)
  all_goals (first | (fail_if_success refine goB 4 ?_) | (
  refine goB 4 ?_
  all_goals (refine WC.sr ?_)
  all_goals (refine Go ?_)
  all_goals (refine goC 5 6 ?_ ?_ <;> first | exact ⟨⟩ | refine Hb.mk fun hb => ?_ | skip)
  all_goals (first | (fail_if_success refine goB 6 ?_) | (
  refine goB 6 ?_
  all_goals (refine WC.sr ?_)
  all_goals (refine Go ?_)
  all_goals (refine WC.sub [(1, _), (2, _), (5, _), (13, _), (25, _)] ⟨rfl, rfl, rfl, rfl, rfl, trivial⟩ ?_)
  all_goals (refine goC 7 8 ?_ ?_ <;> first | exact ⟨⟩ | refine Hb.mk fun hb => ?_ | skip)
  all_goals (first | (fail_if_success refine goB 8 ?_) | (
  refine goB 8 ?_
  all_goals (refine WC.sr ?_)
  all_goals (refine Go ?_)
  all_goals (refine goC 9 10 ?_ ?_ <;> first | exact ⟨⟩ | refine Hb.mk fun hb => ?_ | skip)
  all_goals (first | (fail_if_success refine goB 9 ?_) | (
  refine goB 9 ?_
  all_goals (refine WC.region ?_)
  all_goals (refine Go ?_)
  all_goals (refine WL.step (ok_load (fun w => Tryz.isAgg5 w) rfl (by first | assumption | exact cell_blk (by assumption) rfl)) rfl rfl rfl ?_)
  all_goals (refine WL.stepR (okE_buildSlice (vs := [_]) (cs := [_]) (fun | [a0] => [a0] | _ => []) Tryz.underlying24 rfl rfl (by kernel_rfl)) rfl rfl rfl ?_
             rintro _ h1 ⟨b1, rfl, hg1, hb1, hx1⟩)
  all_goals (refine Go ?_)
  skip))
  all_goals (first | (fail_if_success refine goB 10 ?_) | (
  refine goB 10 ?_
  all_goals (refine WC.sr ?_)
  all_goals (refine Go ?_)
  all_goals (refine WC.sub [(1, _), (2, _), (5, _), (13, _), (38, _)] ⟨rfl, rfl, rfl, rfl, rfl, trivial⟩ ?_)
  all_goals (refine goC 11 12 ?_ ?_ <;> first | exact ⟨⟩ | refine Hb.mk fun hb => ?_ | skip)
  all_goals (first | (fail_if_success refine goB 11 ?_) | (
  refine goB 11 ?_
  all_goals (refine WC.region ?_)
  all_goals (refine Go ?_)
  all_goals (refine WL.step (ok_load (fun w => Tryz.isAgg9 w) rfl (by first | exact cell_blk hb13 rfl | assumption | exact cell_blk (by assumption) rfl)) rfl rfl rfl ?_)
  all_goals (refine WL.call (vs := [_, _]) rfl (fun a w => Tryz.call74 a w) rfl (str06 [] t (Own.nil _ _ _) (by simp only [List.length_nil]; omega)) rfl rfl rfl ?_
             rintro v6 h6 ⟨ho6, hr6⟩
             obtain ⟨hC6, hF6⟩ := hr6.fresh (.refl _ h3) (by simp [Value.ownBlock])
             have o6 : Own h6 v6 5 1 (t ++ [0]).length (bys (t ++ [0])) := by simpa using ho6
             have x6 : Ext No h3 h6 := hC6)
  all_goals (refine Go ?_)
  skip))
  all_goals (first | (fail_if_success refine goB 12 ?_) | (
  refine goB 12 ?_
  all_goals (refine WC.sr ?_)
  all_goals (refine Go ?_)
  all_goals (refine goC 13 14 ?_ ?_ <;> first | exact ⟨⟩ | refine Hb.mk fun hb => ?_ | skip)
  all_goals (first | (fail_if_success refine goB 14 ?_) | (
  refine goB 14 ?_
  all_goals (refine WC.sr ?_)
  all_goals (refine Go ?_)
  all_goals (refine WC.sub [(1, _), (2, _), (5, _), (13, _), (48, _)] ⟨rfl, rfl, rfl, rfl, rfl, trivial⟩ ?_)
  all_goals (refine goC 15 16 ?_ ?_ <;> first | exact ⟨⟩ | refine Hb.mk fun hb => ?_ | skip)
  all_goals (first | (fail_if_success refine goB 16 ?_) | (
  refine goB 16 ?_
  all_goals (refine WC.sr ?_)
  all_goals (refine Go ?_)
  all_goals (refine goC 17 18 ?_ ?_ <;> first | exact ⟨⟩ | refine Hb.mk fun hb => ?_ | skip)
  all_goals (first | (fail_if_success refine goB 18 ?_) | (
  refine goB 18 ?_
  all_goals (refine WC.seq ?_)
  all_goals (refine WC.sr ?_)
  all_goals (refine Go ?_)
  all_goals (refine WC.sub [(1, _), (2, _), (5, _), (13, _), (58, _)] ⟨rfl, rfl, rfl, rfl, rfl, trivial⟩ ?_)
  all_goals (refine goC 19 20 ?_ ?_ <;> first | exact ⟨⟩ | refine Hb.mk fun hb => ?_ | skip)
  all_goals (first | (fail_if_success refine goB 19 ?_) | (
  refine goB 19 ?_
  all_goals (refine WC.skip ?_)
  skip))
  all_goals (first | (fail_if_success refine goB 20 ?_) | (
  refine goB 20 ?_
  all_goals (refine WC.region ?_)
  all_goals (refine Go ?_)
  skip))
  all_goals (refine Gn ?_)
  all_goals (refine goC 21 22 ?_ ?_ <;> first | exact ⟨⟩ | refine Hb.mk fun hb => ?_ | skip)
  all_goals (first | (fail_if_success refine goB 22 ?_) | (
  refine goB 22 ?_
  all_goals (refine WC.skip ?_)
  skip))
  skip))
  skip))
  skip))
  skip))
  skip))
  skip))
  skip))
  skip))
  all_goals (refine Gn ?_)
  all_goals (refine WC.sr ?_)
  all_goals (have hb16 := x6.obj hb13 nos
             have hb26 := x6.obj hb23 nos
             obtain ⟨A6, c6, e6, _⟩ := o6.slice
             have hO := o6
             try rw [e6] at hO
             subst e6)
  all_goals (refine WL.step (ok_fieldAddr rfl Tryz.underlying32 rfl (fun w => Tryz.sizeOf5 w)) rfl rfl rfl ?_)
  all_goals (refine WL.step (ok_load (fun w => Tryz.isAgg5 w) rfl (by first | exact cell_blk hb16 rfl | assumption | exact cell_blk (by assumption) rfl)) rfl rfl rfl ?_)
  all_goals (refine Go ?_)
  all_goals (refine WL.step (ok_buildF (vs := [_, _]) (cs := [_, _]) (fun | [a0, a1] => [a0, a1] | _ => []) rfl rfl (by kernel_rfl)) rfl rfl rfl ?_)
  all_goals (refine WL.stepR0 (okE_storeW (fun w => Tryz.sizeOf85 w) rfl rfl rfl hb26 rfl (by simp [Value.oneCell'])) rfl rfl ?_
             rintro _ h7 ⟨hb7, hx7⟩)
  all_goals (refine Go ?_)
  all_goals (refine WC.sub [(2, _), (3, _)] ⟨rfl, rfl, trivial⟩ ?_)
  all_goals (refine WC.ret ?_)
  all_goals (repeat' (with_reducible first | refine thenP_r ?_ | refine blockP_r ?_))
  all_goals (refine retP_2 _ _ ⟨⟨_, rfl, ld_blk (fun w => Tryz.isAgg85 w) (fun w => Tryz.sizeOf85 w) hb7 rfl⟩, rfl, trivial⟩ ?_)
  all_goals (exact ⟨_, rfl, o6.ext hx7 (fun q hq e => by obtain ⟨_, z⟩ := own_kind o6 hq; rw [e, hb26] at z; simp at z), (hX3.trans x6).trans' hx7 (fun q hq e => by have := hx1.size; omega)⟩)
set_option maxHeartbeats 4000000 in
set_option maxRecDepth 100000 in
theorem encQ_68 {h : Heap} (b : Bk) (hb : b.ok h) (hw : b.wf) (hmd : b.mid) (hmay : b.may) (hk : b.kind = 68) :
    CallsH Tryz.prog 55 ⟨[.agg ⟨b.cells⟩]⟩ h fun u h' => ∃ v', u = .tuple ⟨[.agg ⟨[.int .u8 68, v']⟩, In 0]⟩ ∧ Own h' v' 5 1 (encBk b).length (bys (encBk b)) ∧ Ext No h h' := by
  have kc := fun h' (hx : Ext No h h') => checkA07 b (hb.ext0 hx) hw.kind hmd
  have hL : encBk b = be b.row.length 2 ++ b.row.flatMap encCel := by simp [encBk, hk]
  rw [hL]
  clear hL
  have hst := hw.status
  obtain ⟨md1, md2, md3, md4, md5, md6, md7, md8, md9, md10⟩ := hmd
  have m_c := hmay.cols.2
  have m_o := hmay.oids.2
  have m_n := hmay.n
  have m_m := hmay.m
  have m_r := hmay.row.2
  have hF : ∀ f ∈ b.fields, f.t.length ≤ 200000 ∧ 0 ≤ f.k ∧ f.k ≤ 255 := fun f hf => ⟨md7 f hf, hw.codes f hf⟩
  clear hw
  obtain ⟨ho, hc, hr, hf⟩ := hb
  obtain ⟨k, st, t, n, v, x, y, vo, lo, vc, lc, vr, lr, vf, lf⟩ := b
  dsimp only at hk hst ho hc hr hf md1 md2 md3 md4 md5 md6 md7 md8 md9 md10 m_c m_o m_n m_m m_r hF ⊢
  have hro := ho.1
  have hrc := hc.1
  have hrr := hr.1
  have hrf := hf.1
  obtain ⟨Ao, co, rfl, _⟩ := id hro
  obtain ⟨Ac, cc, rfl, _⟩ := id hrc
  obtain ⟨Ar, cr, rfl, _⟩ := id hrr
  obtain ⟨Af, cf, rfl, _⟩ := id hrf
  dsimp only [Bk.cells] at kc ⊢
  subst hk
  refine calls [(0, _)] Tryz.func55 rfl Tryz.ntmps55 rfl ⟨rfl, trivial⟩ ?_
  all_goals (refine WC.sr ?_)
  all_goals (refine WL.stepR (okE_box rfl) rfl rfl rfl ?_
             rintro _ h1 ⟨b1, rfl, hg1, hb1, hx1⟩)
  all_goals (refine WL.stepR (okE_alloc (fun w => Tryz.zeroValue85 w)) rfl rfl rfl ?_
             rintro _ h2 ⟨b2, rfl, hg2, hb2, hx2⟩)
  all_goals (have hX2 := hx1.trans hx2
             have hb12 := hx2.obj hb1 nos)
  all_goals (refine Go ?_)
  all_goals (refine WC.seq ?_)
  all_goals (refine WC.sr ?_)
  all_goals (refine WL.step (ok_loadN (fun w => Tryz.isAgg32 w) (fun w => Tryz.sizeOf32 w) rfl rfl (by exact At.of_block hb12)) rfl rfl rfl ?_)
  all_goals (refine WL.call (vs := [_]) rfl (fun a w => Tryz.call72 a w) rfl (kc _ hX2) rfl rfl rfl ?_
             rintro _ h3 ⟨⟨e, rfl, he⟩, hx3⟩
             obtain rfl := he.2 hmay)
  all_goals (have hb13 := hx3.obj hb12 nos
             have hb23 := hx3.obj hb2 nos
             have hX3 := hX2.trans hx3
             have l1 := lt_of_some hb13
             have l2 := lt_of_some hb23)
  all_goals (refine Go ?_)
  all_goals (refine WC.sub [(1, _), (2, _), (4, _)] ⟨rfl, rfl, rfl, trivial⟩ ?_)
  all_goals (refine WC.sr ?_)
  all_goals (refine Go ?_)
  all_goals (refine goC 1 2 ?_ ?_ <;> first | exact ⟨⟩ | refine Hb.mk fun hb => ?_ | skip)
  all_goals (first | (fail_if_success refine goB 1 ?_) | (
  refine goB 1 ?_
  all_goals (refine WC.sr ?_)
  all_goals (refine WL.step (ok_buildF (vs := []) (cs := [_, _]) (fun | [] => [(.int .u8 0), (.slice none 0 0)] | _ => []) rfl rfl (by kernel_rfl)) rfl rfl rfl ?_)
  all_goals (refine Go ?_)
  all_goals (refine WL.stepR0 (okE_storeW (fun w => Tryz.sizeOf85 w) rfl rfl rfl (by assumption) rfl (by simp [Value.oneCell'])) rfl rfl ?_
             rintro _ h1 ⟨hb1, hx1⟩)
  all_goals (refine Go ?_)
  all_goals (refine WC.sub [(2, _), (3, _)] ⟨rfl, rfl, trivial⟩ ?_)
  all_goals (refine WC.ret ?_)
  all_goals (repeat' (with_reducible first | refine thenP_r ?_ | refine blockP_r ?_))
  all_goals (refine retP_2 _ _ ⟨⟨_, rfl, ld_blk (fun w => Tryz.isAgg85 w) (fun w => Tryz.sizeOf85 w) hb7 rfl⟩, rfl, trivial⟩ ?_)
  all_goals (exact ⟨_, rfl, o6.ext hx7 (fun q hq e => by obtain ⟨_, z⟩ := own_kind o6 hq; rw [e, hb26] at z; simp at z), (hX3.trans x6).trans' hx7 (fun q hq e => by have := hx1.size; omega)⟩)
  skip))
  all_goals (first | (fail_if_success refine goB 2 ?_) | (
  refine goB 2 ?_
  all_goals (refine WC.skip ?_)
  skip))
  all_goals (refine Gn ?_)
  all_goals (refine WC.sr ?_)
  all_goals (refine Go ?_)
  all_goals (refine WC.seq ?_)
  all_goals (refine WC.sr ?_)
  all_goals (refine Go ?_)
  all_goals (refine WL.step (ok_load (fun w => Tryz.isAgg5 w) rfl (by first | exact cell_blk hb13 rfl | assumption | exact cell_blk (by assumption) rfl)) rfl rfl rfl ?_)
  all_goals (refine Gn ?_)
  all_goals (refine WC.sub [(1, _), (2, _), (5, _), (13, _)] ⟨rfl, rfl, rfl, rfl, trivial⟩ ?_)
  all_goals (refine WC.block ?_)
  all_goals (refine WC.sr ?_)
  all_goals (refine Go ?_)
  all_goals (refine goC 3 4 ?_ ?_ <;> first | exact ⟨⟩ | refine Hb.mk fun hb => ?_ | skip)
  all_goals (first | (fail_if_success refine goB 4 ?_) | (
  refine goB 4 ?_
  all_goals (refine WC.sr ?_)
  all_goals (refine Go ?_)
  all_goals (refine goC 5 6 ?_ ?_ <;> first | exact ⟨⟩ | refine Hb.mk fun hb => ?_ | skip)
  all_goals (first | (fail_if_success refine goB 6 ?_) | (
  refine goB 6 ?_
  all_goals (refine WC.sr ?_)
  all_goals (refine Go ?_)
  all_goals (refine WC.sub [(1, _), (2, _), (5, _), (13, _), (25, _)] ⟨rfl, rfl, rfl, rfl, rfl, trivial⟩ ?_)
  all_goals (refine goC 7 8 ?_ ?_ <;> first | exact ⟨⟩ | refine Hb.mk fun hb => ?_ | skip)
  all_goals (first | (fail_if_success refine goB 8 ?_) | (
  refine goB 8 ?_
  all_goals (refine WC.sr ?_)
  all_goals (refine Go ?_)
  all_goals (refine goC 9 10 ?_ ?_ <;> first | exact ⟨⟩ | refine Hb.mk fun hb => ?_ | skip)
  all_goals (first | (fail_if_success refine goB 9 ?_) | (
  refine goB 9 ?_
  all_goals (refine WC.region ?_)
  all_goals (refine Go ?_)
  all_goals (refine WL.step (ok_load (fun w => Tryz.isAgg5 w) rfl (by first | assumption | exact cell_blk (by assumption) rfl)) rfl rfl rfl ?_)
  all_goals (refine WL.stepR (okE_buildSlice (vs := [_]) (cs := [_]) (fun | [a0] => [a0] | _ => []) Tryz.underlying24 rfl rfl (by kernel_rfl)) rfl rfl rfl ?_
             rintro _ h1 ⟨b1, rfl, hg1, hb1, hx1⟩)
  all_goals (refine Go ?_)
  skip))
  all_goals (first | (fail_if_success refine goB 10 ?_) | (
  refine goB 10 ?_
  all_goals (refine WC.sr ?_)
  all_goals (refine Go ?_)
  all_goals (refine WC.sub [(1, _), (2, _), (5, _), (13, _), (38, _)] ⟨rfl, rfl, rfl, rfl, rfl, trivial⟩ ?_)
  all_goals (refine goC 11 12 ?_ ?_ <;> first | exact ⟨⟩ | refine Hb.mk fun hb => ?_ | skip)
  all_goals (first | (fail_if_success refine goB 12 ?_) | (
  refine goB 12 ?_
  all_goals (refine WC.sr ?_)
  all_goals (refine Go ?_)
  all_goals (refine goC 13 14 ?_ ?_ <;> first | exact ⟨⟩ | refine Hb.mk fun hb => ?_ | skip)
  all_goals (first | (fail_if_success refine goB 13 ?_) | (
  refine goB 13 ?_
  all_goals (refine WC.region ?_)
  all_goals (refine Go ?_)
  all_goals (refine WL.step (ok_load (fun w => Tryz.isAgg29 w) rfl (by first | exact cell_blk hb13 rfl | assumption | exact cell_blk (by assumption) rfl)) rfl rfl rfl ?_)
  all_goals (refine WL.call (vs := [_, _]) rfl (fun a w => Tryz.call75 a w) rfl (put06 [] lr (Rd.nil _ _) (hr.ext0 hX3) (by decide) md3 md6) rfl rfl rfl ?_
             rintro v6 h6 ⟨ho6, hx6, hf6⟩
             have o6 : Own h6 v6 5 1 (be (lr.length : Int) 2 ++ lr.flatMap encCel).length (bys (be (lr.length : Int) 2 ++ lr.flatMap encCel)) := by simpa using ho6
             have x6 : Ext No h3 h6 := hx6)
  all_goals (refine Go ?_)
  skip))
  all_goals (first | (fail_if_success refine goB 14 ?_) | (
  refine goB 14 ?_
  all_goals (refine WC.sr ?_)
  all_goals (refine Go ?_)
  all_goals (refine WC.sub [(1, _), (2, _), (5, _), (13, _), (48, _)] ⟨rfl, rfl, rfl, rfl, rfl, trivial⟩ ?_)
  all_goals (refine goC 15 16 ?_ ?_ <;> first | exact ⟨⟩ | refine Hb.mk fun hb => ?_ | skip)
  all_goals (first | (fail_if_success refine goB 16 ?_) | (
  refine goB 16 ?_
  all_goals (refine WC.sr ?_)
  all_goals (refine Go ?_)
  all_goals (refine goC 17 18 ?_ ?_ <;> first | exact ⟨⟩ | refine Hb.mk fun hb => ?_ | skip)
  all_goals (first | (fail_if_success refine goB 18 ?_) | (
  refine goB 18 ?_
  all_goals (refine WC.seq ?_)
  all_goals (refine WC.sr ?_)
  all_goals (refine Go ?_)
  all_goals (refine WC.sub [(1, _), (2, _), (5, _), (13, _), (58, _)] ⟨rfl, rfl, rfl, rfl, rfl, trivial⟩ ?_)
  all_goals (refine goC 19 20 ?_ ?_ <;> first | exact ⟨⟩ | refine Hb.mk fun hb => ?_ | skip)
  all_goals (first | (fail_if_success refine goB 19 ?_) | (
  refine goB 19 ?_
  all_goals (refine WC.skip ?_)
  skip))
  all_goals (first | (fail_if_success refine goB 20 ?_) | (
  refine goB 20 ?_
  all_goals (refine WC.region ?_)
  all_goals (refine Go ?_)
  skip))
  all_goals (refine Gn ?_)
  all_goals (refine goC 21 22 ?_ ?_ <;> first | exact ⟨⟩ | refine Hb.mk fun hb => ?_ | skip)
  all_goals (first | (fail_if_success refine goB 22 ?_) | (
  refine goB 22 ?_
  all_goals (refine WC.skip ?_)
  skip))
  skip))
  skip))
  skip))
  skip))
  skip))
  skip))
  skip))
  skip))
  all_goals (refine Gn ?_)
  all_goals (refine WC.sr ?_)
  all_goals (have hb16 := x6.obj hb13 nos
             have hb26 := x6.obj hb23 nos
             obtain ⟨A6, c6, e6, _⟩ := o6.slice
             have hO := o6
             try rw [e6] at hO
             subst e6)
  all_goals (refine WL.step (ok_fieldAddr rfl Tryz.underlying32 rfl (fun w => Tryz.sizeOf5 w)) rfl rfl rfl ?_)
  all_goals (refine WL.step (ok_load (fun w => Tryz.isAgg5 w) rfl (by first | exact cell_blk hb16 rfl | assumption | exact cell_blk (by assumption) rfl)) rfl rfl rfl ?_)
  all_goals (refine Go ?_)
  all_goals (refine WL.step (ok_buildF (vs := [_, _]) (cs := [_, _]) (fun | [a0, a1] => [a0, a1] | _ => []) rfl rfl (by kernel_rfl)) rfl rfl rfl ?_)
  all_goals (refine WL.stepR0 (okE_storeW (fun w => Tryz.sizeOf85 w) rfl rfl rfl hb26 rfl (by simp [Value.oneCell'])) rfl rfl ?_
             rintro _ h7 ⟨hb7, hx7⟩)
  all_goals (refine Go ?_)
  all_goals (refine WC.sub [(2, _), (3, _)] ⟨rfl, rfl, trivial⟩ ?_)
  all_goals (refine WC.ret ?_)
  all_goals (repeat' (with_reducible first | refine thenP_r ?_ | refine blockP_r ?_))
  all_goals (refine retP_2 _ _ ⟨⟨_, rfl, ld_blk (fun w => Tryz.isAgg85 w) (fun w => Tryz.sizeOf85 w) hb7 rfl⟩, rfl, trivial⟩ ?_)
  all_goals (exact ⟨_, rfl, o6.ext hx7 (fun q hq e => by obtain ⟨_, z⟩ := own_kind o6 hq; rw [e, hb26] at z; simp at z), (hX3.trans x6).trans' hx7 (fun q hq e => by have := hx1.size; omega)⟩)
set_option maxHeartbeats 4000000 in
set_option maxRecDepth 100000 in
theorem encQ_84 {h : Heap} (b : Bk) (hb : b.ok h) (hw : b.wf) (hmd : b.mid) (hmay : b.may) (hk : b.kind = 84) :
    CallsH Tryz.prog 55 ⟨[.agg ⟨b.cells⟩]⟩ h fun u h' => ∃ v', u = .tuple ⟨[.agg ⟨[.int .u8 84, v']⟩, In 0]⟩ ∧ Own h' v' 5 1 (encBk b).length (bys (encBk b)) ∧ Ext No h h' := by
  have kc := fun h' (hx : Ext No h h') => checkA07 b (hb.ext0 hx) hw.kind hmd
  have hL : encBk b = be b.cols.length 2 ++ b.cols.flatMap encCol := by simp [encBk, hk]
  rw [hL]
  clear hL
  have hst := hw.status
  obtain ⟨md1, md2, md3, md4, md5, md6, md7, md8, md9, md10⟩ := hmd
  have m_c := hmay.cols.2
  have m_o := hmay.oids.2
  have m_n := hmay.n
  have m_m := hmay.m
  have m_r := hmay.row.2
  have hF : ∀ f ∈ b.fields, f.t.length ≤ 200000 ∧ 0 ≤ f.k ∧ f.k ≤ 255 := fun f hf => ⟨md7 f hf, hw.codes f hf⟩
  clear hw
  obtain ⟨ho, hc, hr, hf⟩ := hb
  obtain ⟨k, st, t, n, v, x, y, vo, lo, vc, lc, vr, lr, vf, lf⟩ := b
  dsimp only at hk hst ho hc hr hf md1 md2 md3 md4 md5 md6 md7 md8 md9 md10 m_c m_o m_n m_m m_r hF ⊢
  have hro := ho.1
  have hrc := hc.1
  have hrr := hr.1
  have hrf := hf.1
  obtain ⟨Ao, co, rfl, _⟩ := id hro
  obtain ⟨Ac, cc, rfl, _⟩ := id hrc
  obtain ⟨Ar, cr, rfl, _⟩ := id hrr
  obtain ⟨Af, cf, rfl, _⟩ := id hrf
  dsimp only [Bk.cells] at kc ⊢
  subst hk
  refine calls [(0, _)] Tryz.func55 rfl Tryz.ntmps55 rfl ⟨rfl, trivial⟩ ?_
  all_goals (refine WC.sr ?_)
  all_goals (refine WL.stepR (okE_box rfl) rfl rfl rfl ?_
             rintro _ h1 ⟨b1, rfl, hg1, hb1, hx1⟩)
  all_goals (refine WL.stepR (okE_alloc (fun w => Tryz.zeroValue85 w)) rfl rfl rfl ?_
             rintro _ h2 ⟨b2, rfl, hg2, hb2, hx2⟩)
  all_goals (have hX2 := hx1.trans hx2
             have hb12 := hx2.obj hb1 nos)
  all_goals (refine Go ?_)
  all_goals (refine WC.seq ?_)
  all_goals (refine WC.sr ?_)
  all_goals (refine WL.step (ok_loadN (fun w => Tryz.isAgg32 w) (fun w => Tryz.sizeOf32 w) rfl rfl (by exact At.of_block hb12)) rfl rfl rfl ?_)
  all_goals (refine WL.call (vs := [_]) rfl (fun a w => Tryz.call72 a w) rfl (kc _ hX2) rfl rfl rfl ?_
             rintro _ h3 ⟨⟨e, rfl, he⟩, hx3⟩
             obtain rfl := he.2 hmay)
  all_goals (have hb13 := hx3.obj hb12 nos
             have hb23 := hx3.obj hb2 nos
             have hX3 := hX2.trans hx3
             have l1 := lt_of_some hb13
             have l2 := lt_of_some hb23)
  all_goals (refine Go ?_)
  all_goals (refine WC.sub [(1, _), (2, _), (4, _)] ⟨rfl, rfl, rfl, trivial⟩ ?_)
  all_goals (refine WC.sr ?_)
  all_goals (refine Go ?_)
  all_goals (refine goC 1 2 ?_ ?_ <;> first | exact ⟨⟩ | refine Hb.mk fun hb => ?_ | skip)
  all_goals (first | (fail_if_success refine goB 1 ?_) | (
  refine goB 1 ?_
  all_goals (refine WC.sr ?_)
  all_goals (refine WL.step (ok_buildF (vs := []) (cs := [_, _]) (fun | [] => [(.int .u8 0), (.slice none 0 0)] | _ => []) rfl rfl (by kernel_rfl)) rfl rfl rfl ?_)
  all_goals (refine Go ?_)
  all_goals (refine WL.stepR0 (okE_storeW (fun w => Tryz.sizeOf85 w) rfl rfl rfl (by assumption) rfl (by simp [Value.oneCell'])) rfl rfl ?_
             rintro _ h1 ⟨hb1, hx1⟩)
  all_goals (refine Go ?_)
  all_goals (refine WC.sub [(2, _), (3, _)] ⟨rfl, rfl, trivial⟩ ?_)
  all_goals (refine WC.ret ?_)
  all_goals (repeat' (with_reducible first | refine thenP_r ?_ | refine blockP_r ?_))
  all_goals (refine retP_2 _ _ ⟨⟨_, rfl, ld_blk (fun w => Tryz.isAgg85 w) (fun w => Tryz.sizeOf85 w) hb7 rfl⟩, rfl, trivial⟩ ?_)
  all_goals (exact ⟨_, rfl, o6.ext hx7 (fun q hq e => by obtain ⟨_, z⟩ := own_kind o6 hq; rw [e, hb26] at z; simp at z), (hX3.trans x6).trans' hx7 (fun q hq e => by have := hx1.size; omega)⟩)
  skip))
  all_goals (first | (fail_if_success refine goB 2 ?_) | (
  refine goB 2 ?_
  all_goals (refine WC.skip ?_)
  skip))
  all_goals (refine Gn ?_)
  all_goals (refine WC.sr ?_)
  all_goals (refine Go ?_)
  all_goals (refine WC.seq ?_)
  all_goals (refine WC.sr ?_)
  all_goals (refine Go ?_)
  all_goals (refine WL.step (ok_load (fun w => Tryz.isAgg5 w) rfl (by first | exact cell_blk hb13 rfl | assumption | exact cell_blk (by assumption) rfl)) rfl rfl rfl ?_)
  all_goals (refine Gn ?_)
  all_goals (refine WC.sub [(1, _), (2, _), (5, _), (13, _)] ⟨rfl, rfl, rfl, rfl, trivial⟩ ?_)
  all_goals (refine WC.block ?_)
  all_goals (refine WC.sr ?_)
  all_goals (refine Go ?_)
  all_goals (refine goC 3 4 ?_ ?_ <;> first | exact ⟨⟩ | refine Hb.mk fun hb => ?_ | skip)
  all_goals (first | (fail_if_success refine goB 4 ?_) | (
  refine goB 4 ?_
  all_goals (refine WC.sr ?_)
  all_goals (refine Go ?_)
  all_goals (refine goC 5 6 ?_ ?_ <;> first | exact ⟨⟩ | refine Hb.mk fun hb => ?_ | skip)
  all_goals (first | (fail_if_success refine goB 6 ?_) | (
  refine goB 6 ?_
  all_goals (refine WC.sr ?_)
  all_goals (refine Go ?_)
  all_goals (refine WC.sub [(1, _), (2, _), (5, _), (13, _), (25, _)] ⟨rfl, rfl, rfl, rfl, rfl, trivial⟩ ?_)
  all_goals (refine goC 7 8 ?_ ?_ <;> first | exact ⟨⟩ | refine Hb.mk fun hb => ?_ | skip)
  all_goals (first | (fail_if_success refine goB 8 ?_) | (
  refine goB 8 ?_
  all_goals (refine WC.sr ?_)
  all_goals (refine Go ?_)
  all_goals (refine goC 9 10 ?_ ?_ <;> first | exact ⟨⟩ | refine Hb.mk fun hb => ?_ | skip)
  all_goals (first | (fail_if_success refine goB 9 ?_) | (
  refine goB 9 ?_
  all_goals (refine WC.region ?_)
  all_goals (refine Go ?_)
  all_goals (refine WL.step (ok_load (fun w => Tryz.isAgg5 w) rfl (by first | assumption | exact cell_blk (by assumption) rfl)) rfl rfl rfl ?_)
  all_goals (refine WL.stepR (okE_buildSlice (vs := [_]) (cs := [_]) (fun | [a0] => [a0] | _ => []) Tryz.underlying24 rfl rfl (by kernel_rfl)) rfl rfl rfl ?_
             rintro _ h1 ⟨b1, rfl, hg1, hb1, hx1⟩)
  all_goals (refine Go ?_)
  skip))
  all_goals (first | (fail_if_success refine goB 10 ?_) | (
  refine goB 10 ?_
  all_goals (refine WC.sr ?_)
  all_goals (refine Go ?_)
  all_goals (refine WC.sub [(1, _), (2, _), (5, _), (13, _), (38, _)] ⟨rfl, rfl, rfl, rfl, rfl, trivial⟩ ?_)
  all_goals (refine goC 11 12 ?_ ?_ <;> first | exact ⟨⟩ | refine Hb.mk fun hb => ?_ | skip)
  all_goals (first | (fail_if_success refine goB 12 ?_) | (
  refine goB 12 ?_
  all_goals (refine WC.sr ?_)
  all_goals (refine Go ?_)
  all_goals (refine goC 13 14 ?_ ?_ <;> first | exact ⟨⟩ | refine Hb.mk fun hb => ?_ | skip)
  all_goals (first | (fail_if_success refine goB 14 ?_) | (
  refine goB 14 ?_
  all_goals (refine WC.sr ?_)
  all_goals (refine Go ?_)
  all_goals (refine WC.sub [(1, _), (2, _), (5, _), (13, _), (48, _)] ⟨rfl, rfl, rfl, rfl, rfl, trivial⟩ ?_)
  all_goals (refine goC 15 16 ?_ ?_ <;> first | exact ⟨⟩ | refine Hb.mk fun hb => ?_ | skip)
  all_goals (first | (fail_if_success refine goB 15 ?_) | (
  refine goB 15 ?_
  all_goals (refine WC.region ?_)
  all_goals (refine Go ?_)
  all_goals (refine WL.step (ok_load (fun w => Tryz.isAgg28 w) rfl (by first | exact cell_blk hb13 rfl | assumption | exact cell_blk (by assumption) rfl)) rfl rfl rfl ?_)
  all_goals (refine WL.call (vs := [_]) rfl (fun a w => Tryz.call76 a w) rfl (described07 lc (hrc.ext0 hX3) md2 md5 m_c) rfl rfl rfl ?_
             rintro v6 h6 ⟨o6, x6, hf6⟩)
  all_goals (refine Go ?_)
  skip))
  all_goals (first | (fail_if_success refine goB 16 ?_) | (
  refine goB 16 ?_
  all_goals (refine WC.sr ?_)
  all_goals (refine Go ?_)
  all_goals (refine goC 17 18 ?_ ?_ <;> first | exact ⟨⟩ | refine Hb.mk fun hb => ?_ | skip)
  all_goals (first | (fail_if_success refine goB 18 ?_) | (
  refine goB 18 ?_
  all_goals (refine WC.seq ?_)
  all_goals (refine WC.sr ?_)
  all_goals (refine Go ?_)
  all_goals (refine WC.sub [(1, _), (2, _), (5, _), (13, _), (58, _)] ⟨rfl, rfl, rfl, rfl, rfl, trivial⟩ ?_)
  all_goals (refine goC 19 20 ?_ ?_ <;> first | exact ⟨⟩ | refine Hb.mk fun hb => ?_ | skip)
  all_goals (first | (fail_if_success refine goB 19 ?_) | (
  refine goB 19 ?_
  all_goals (refine WC.skip ?_)
  skip))
  all_goals (first | (fail_if_success refine goB 20 ?_) | (
  refine goB 20 ?_
  all_goals (refine WC.region ?_)
  all_goals (refine Go ?_)
  skip))
  all_goals (refine Gn ?_)
  all_goals (refine goC 21 22 ?_ ?_ <;> first | exact ⟨⟩ | refine Hb.mk fun hb => ?_ | skip)
  all_goals (first | (fail_if_success refine goB 22 ?_) | (
  refine goB 22 ?_
  all_goals (refine WC.skip ?_)
  skip))
  skip))
  skip))
  skip))
  skip))
  skip))
  skip))
  skip))
  skip))
  all_goals (refine Gn ?_)
  all_goals (refine WC.sr ?_)
  all_goals (have hb16 := x6.obj hb13 nos
             have hb26 := x6.obj hb23 nos
             obtain ⟨A6, c6, e6, _⟩ := o6.slice
             have hO := o6
             try rw [e6] at hO
             subst e6)
  all_goals (refine WL.step (ok_fieldAddr rfl Tryz.underlying32 rfl (fun w => Tryz.sizeOf5 w)) rfl rfl rfl ?_)
  all_goals (refine WL.step (ok_load (fun w => Tryz.isAgg5 w) rfl (by first | exact cell_blk hb16 rfl | assumption | exact cell_blk (by assumption) rfl)) rfl rfl rfl ?_)
  all_goals (refine Go ?_)
  all_goals (refine WL.step (ok_buildF (vs := [_, _]) (cs := [_, _]) (fun | [a0, a1] => [a0, a1] | _ => []) rfl rfl (by kernel_rfl)) rfl rfl rfl ?_)
  all_goals (refine WL.stepR0 (okE_storeW (fun w => Tryz.sizeOf85 w) rfl rfl rfl hb26 rfl (by simp [Value.oneCell'])) rfl rfl ?_
             rintro _ h7 ⟨hb7, hx7⟩)
  all_goals (refine Go ?_)
  all_goals (refine WC.sub [(2, _), (3, _)] ⟨rfl, rfl, trivial⟩ ?_)
  all_goals (refine WC.ret ?_)
  all_goals (repeat' (with_reducible first | refine thenP_r ?_ | refine blockP_r ?_))
  all_goals (refine retP_2 _ _ ⟨⟨_, rfl, ld_blk (fun w => Tryz.isAgg85 w) (fun w => Tryz.sizeOf85 w) hb7 rfl⟩, rfl, trivial⟩ ?_)
  all_goals (exact ⟨_, rfl, o6.ext hx7 (fun q hq e => by obtain ⟨_, z⟩ := own_kind o6 hq; rw [e, hb26] at z; simp at z), (hX3.trans x6).trans' hx7 (fun q hq e => by have := hx1.size; omega)⟩)
set_option maxHeartbeats 4000000 in
set_option maxRecDepth 100000 in
theorem encQ_116 {h : Heap} (b : Bk) (hb : b.ok h) (hw : b.wf) (hmd : b.mid) (hmay : b.may) (hk : b.kind = 116) :
    CallsH Tryz.prog 55 ⟨[.agg ⟨b.cells⟩]⟩ h fun u h' => ∃ v', u = .tuple ⟨[.agg ⟨[.int .u8 116, v']⟩, In 0]⟩ ∧ Own h' v' 5 1 (encBk b).length (bys (encBk b)) ∧ Ext No h h' := by
  have kc := fun h' (hx : Ext No h h') => checkA07 b (hb.ext0 hx) hw.kind hmd
  have hL : encBk b = be b.oids.length 2 ++ b.oids.flatMap fun n => be n 4 := by simp [encBk, hk]
  rw [hL]
  clear hL
  have hst := hw.status
  obtain ⟨md1, md2, md3, md4, md5, md6, md7, md8, md9, md10⟩ := hmd
  have m_c := hmay.cols.2
  have m_o := hmay.oids.2
  have m_n := hmay.n
  have m_m := hmay.m
  have m_r := hmay.row.2
  have hF : ∀ f ∈ b.fields, f.t.length ≤ 200000 ∧ 0 ≤ f.k ∧ f.k ≤ 255 := fun f hf => ⟨md7 f hf, hw.codes f hf⟩
  clear hw
  obtain ⟨ho, hc, hr, hf⟩ := hb
  obtain ⟨k, st, t, n, v, x, y, vo, lo, vc, lc, vr, lr, vf, lf⟩ := b
  dsimp only at hk hst ho hc hr hf md1 md2 md3 md4 md5 md6 md7 md8 md9 md10 m_c m_o m_n m_m m_r hF ⊢
  have hro := ho.1
  have hrc := hc.1
  have hrr := hr.1
  have hrf := hf.1
  obtain ⟨Ao, co, rfl, _⟩ := id hro
  obtain ⟨Ac, cc, rfl, _⟩ := id hrc
  obtain ⟨Ar, cr, rfl, _⟩ := id hrr
  obtain ⟨Af, cf, rfl, _⟩ := id hrf
  dsimp only [Bk.cells] at kc ⊢
  subst hk
  refine calls [(0, _)] Tryz.func55 rfl Tryz.ntmps55 rfl ⟨rfl, trivial⟩ ?_
  all_goals (refine WC.sr ?_)
  all_goals (refine WL.stepR (okE_box rfl) rfl rfl rfl ?_
             rintro _ h1 ⟨b1, rfl, hg1, hb1, hx1⟩)
  all_goals (refine WL.stepR (okE_alloc (fun w => Tryz.zeroValue85 w)) rfl rfl rfl ?_
             rintro _ h2 ⟨b2, rfl, hg2, hb2, hx2⟩)
  all_goals (have hX2 := hx1.trans hx2
             have hb12 := hx2.obj hb1 nos)
  all_goals (refine Go ?_)
  all_goals (refine WC.seq ?_)
  all_goals (refine WC.sr ?_)
  all_goals (refine WL.step (ok_loadN (fun w => Tryz.isAgg32 w) (fun w => Tryz.sizeOf32 w) rfl rfl (by exact At.of_block hb12)) rfl rfl rfl ?_)
  all_goals (refine WL.call (vs := [_]) rfl (fun a w => Tryz.call72 a w) rfl (kc _ hX2) rfl rfl rfl ?_
             rintro _ h3 ⟨⟨e, rfl, he⟩, hx3⟩
             obtain rfl := he.2 hmay)
  all_goals (have hb13 := hx3.obj hb12 nos
             have hb23 := hx3.obj hb2 nos
             have hX3 := hX2.trans hx3
             have l1 := lt_of_some hb13
             have l2 := lt_of_some hb23)
  all_goals (refine Go ?_)
  all_goals (refine WC.sub [(1, _), (2, _), (4, _)] ⟨rfl, rfl, rfl, trivial⟩ ?_)
  all_goals (refine WC.sr ?_)
  all_goals (refine Go ?_)
  all_goals (refine goC 1 2 ?_ ?_ <;> first | exact ⟨⟩ | refine Hb.mk fun hb => ?_ | skip)
  all_goals (first | (fail_if_success refine goB 1 ?_) | (
  refine goB 1 ?_
  all_goals (refine WC.sr ?_)
  all_goals (refine WL.step (ok_buildF (vs := []) (cs := [_, _]) (fun | [] => [(.int .u8 0), (.slice none 0 0)] | _ => []) rfl rfl (by kernel_rfl)) rfl rfl rfl ?_)
  all_goals (refine Go ?_)
  all_goals (refine WL.stepR0 (okE_storeW (fun w => Tryz.sizeOf85 w) rfl rfl rfl (by assumption) rfl (by simp [Value.oneCell'])) rfl rfl ?_
             rintro _ h1 ⟨hb1, hx1⟩)
  all_goals (refine Go ?_)
  all_goals (refine WC.sub [(2, _), (3, _)] ⟨rfl, rfl, trivial⟩ ?_)
  all_goals (refine WC.ret ?_)
  all_goals (repeat' (with_reducible first | refine thenP_r ?_ | refine blockP_r ?_))
  all_goals (refine retP_2 _ _ ⟨⟨_, rfl, ld_blk (fun w => Tryz.isAgg85 w) (fun w => Tryz.sizeOf85 w) hb7 rfl⟩, rfl, trivial⟩ ?_)
  all_goals (exact ⟨_, rfl, o6.ext hx7 (fun q hq e => by obtain ⟨_, z⟩ := own_kind o6 hq; rw [e, hb26] at z; simp at z), (hX3.trans x6).trans' hx7 (fun q hq e => by have := hx1.size; omega)⟩)
  skip))
  all_goals (first | (fail_if_success refine goB 2 ?_) | (
  refine goB 2 ?_
  all_goals (refine WC.skip ?_)
  skip))
  all_goals (refine Gn ?_)
  all_goals (refine WC.sr ?_)
  all_goals (refine Go ?_)
  all_goals (refine WC.seq ?_)
  all_goals (refine WC.sr ?_)
  all_goals (refine Go ?_)
  all_goals (refine WL.step (ok_load (fun w => Tryz.isAgg5 w) rfl (by first | exact cell_blk hb13 rfl | assumption | exact cell_blk (by assumption) rfl)) rfl rfl rfl ?_)
  all_goals (refine Gn ?_)
  all_goals (refine WC.sub [(1, _), (2, _), (5, _), (13, _)] ⟨rfl, rfl, rfl, rfl, trivial⟩ ?_)
  all_goals (refine WC.block ?_)
  all_goals (refine WC.sr ?_)
  all_goals (refine Go ?_)
  all_goals (refine goC 3 4 ?_ ?_ <;> first | exact ⟨⟩ | refine Hb.mk fun hb => ?_ | skip)
  all_goals (first | (fail_if_success refine goB 4 ?_) | (
  refine goB 4 ?_
  all_goals (refine WC.sr ?_)
  all_goals (refine Go ?_)
  all_goals (refine goC 5 6 ?_ ?_ <;> first | exact ⟨⟩ | refine Hb.mk fun hb => ?_ | skip)
  all_goals (first | (fail_if_success refine goB 6 ?_) | (
  refine goB 6 ?_
  all_goals (refine WC.sr ?_)
  all_goals (refine Go ?_)
  all_goals (refine WC.sub [(1, _), (2, _), (5, _), (13, _), (25, _)] ⟨rfl, rfl, rfl, rfl, rfl, trivial⟩ ?_)
  all_goals (refine goC 7 8 ?_ ?_ <;> first | exact ⟨⟩ | refine Hb.mk fun hb => ?_ | skip)
  all_goals (first | (fail_if_success refine goB 8 ?_) | (
  refine goB 8 ?_
  all_goals (refine WC.sr ?_)
  all_goals (refine Go ?_)
  all_goals (refine goC 9 10 ?_ ?_ <;> first | exact ⟨⟩ | refine Hb.mk fun hb => ?_ | skip)
  all_goals (first | (fail_if_success refine goB 9 ?_) | (
  refine goB 9 ?_
  all_goals (refine WC.region ?_)
  all_goals (refine Go ?_)
  all_goals (refine WL.step (ok_load (fun w => Tryz.isAgg5 w) rfl (by first | assumption | exact cell_blk (by assumption) rfl)) rfl rfl rfl ?_)
  all_goals (refine WL.stepR (okE_buildSlice (vs := [_]) (cs := [_]) (fun | [a0] => [a0] | _ => []) Tryz.underlying24 rfl rfl (by kernel_rfl)) rfl rfl rfl ?_
             rintro _ h1 ⟨b1, rfl, hg1, hb1, hx1⟩)
  all_goals (refine Go ?_)
  skip))
  all_goals (first | (fail_if_success refine goB 10 ?_) | (
  refine goB 10 ?_
  all_goals (refine WC.sr ?_)
  all_goals (refine Go ?_)
  all_goals (refine WC.sub [(1, _), (2, _), (5, _), (13, _), (38, _)] ⟨rfl, rfl, rfl, rfl, rfl, trivial⟩ ?_)
  all_goals (refine goC 11 12 ?_ ?_ <;> first | exact ⟨⟩ | refine Hb.mk fun hb => ?_ | skip)
  all_goals (first | (fail_if_success refine goB 12 ?_) | (
  refine goB 12 ?_
  all_goals (refine WC.sr ?_)
  all_goals (refine Go ?_)
  all_goals (refine goC 13 14 ?_ ?_ <;> first | exact ⟨⟩ | refine Hb.mk fun hb => ?_ | skip)
  all_goals (first | (fail_if_success refine goB 14 ?_) | (
  refine goB 14 ?_
  all_goals (refine WC.sr ?_)
  all_goals (refine Go ?_)
  all_goals (refine WC.sub [(1, _), (2, _), (5, _), (13, _), (48, _)] ⟨rfl, rfl, rfl, rfl, rfl, trivial⟩ ?_)
  all_goals (refine goC 15 16 ?_ ?_ <;> first | exact ⟨⟩ | refine Hb.mk fun hb => ?_ | skip)
  all_goals (first | (fail_if_success refine goB 16 ?_) | (
  refine goB 16 ?_
  all_goals (refine WC.sr ?_)
  all_goals (refine Go ?_)
  all_goals (refine goC 17 18 ?_ ?_ <;> first | exact ⟨⟩ | refine Hb.mk fun hb => ?_ | skip)
  all_goals (first | (fail_if_success refine goB 17 ?_) | (
  refine goB 17 ?_
  all_goals (refine WC.region ?_)
  all_goals (refine Go ?_)
  all_goals (refine WL.step (ok_load (fun w => Tryz.isAgg27 w) rfl (by first | exact cell_blk hb13 rfl | assumption | exact cell_blk (by assumption) rfl)) rfl rfl rfl ?_)
  all_goals (refine WL.call (vs := [_, _, _]) rfl (fun a w => Tryz.call77 a w) rfl (list06 [] lo (Rd.nil _ _) (hro.ext0 hX3) (by decide) md1 m_o) rfl rfl rfl ?_
             rintro v6 h6 ⟨ho6, hx6, hf6⟩
             have o6 : Own h6 v6 5 1 (be (lo.length : Int) 2 ++ lo.flatMap fun n => be n 4).length (bys (be (lo.length : Int) 2 ++ lo.flatMap fun n => be n 4)) := by simpa using ho6
             have x6 : Ext No h3 h6 := hx6)
  all_goals (refine Go ?_)
  skip))
  all_goals (first | (fail_if_success refine goB 18 ?_) | (
  refine goB 18 ?_
  all_goals (refine WC.seq ?_)
  all_goals (refine WC.sr ?_)
  all_goals (refine Go ?_)
  all_goals (refine WC.sub [(1, _), (2, _), (5, _), (13, _), (58, _)] ⟨rfl, rfl, rfl, rfl, rfl, trivial⟩ ?_)
  all_goals (refine goC 19 20 ?_ ?_ <;> first | exact ⟨⟩ | refine Hb.mk fun hb => ?_ | skip)
  all_goals (first | (fail_if_success refine goB 19 ?_) | (
  refine goB 19 ?_
  all_goals (refine WC.skip ?_)
  skip))
  all_goals (first | (fail_if_success refine goB 20 ?_) | (
  refine goB 20 ?_
  all_goals (refine WC.region ?_)
  all_goals (refine Go ?_)
  skip))
  all_goals (refine Gn ?_)
  all_goals (refine goC 21 22 ?_ ?_ <;> first | exact ⟨⟩ | refine Hb.mk fun hb => ?_ | skip)
  all_goals (first | (fail_if_success refine goB 22 ?_) | (
  refine goB 22 ?_
  all_goals (refine WC.skip ?_)
  skip))
  skip))
  skip))
  skip))
  skip))
  skip))
  skip))
  skip))
  skip))
  all_goals (refine Gn ?_)
  all_goals (refine WC.sr ?_)
  all_goals (have hb16 := x6.obj hb13 nos
             have hb26 := x6.obj hb23 nos
             obtain ⟨A6, c6, e6, _⟩ := o6.slice
             have hO := o6
             try rw [e6] at hO
             subst e6)
  all_goals (refine WL.step (ok_fieldAddr rfl Tryz.underlying32 rfl (fun w => Tryz.sizeOf5 w)) rfl rfl rfl ?_)
  all_goals (refine WL.step (ok_load (fun w => Tryz.isAgg5 w) rfl (by first | exact cell_blk hb16 rfl | assumption | exact cell_blk (by assumption) rfl)) rfl rfl rfl ?_)
  all_goals (refine Go ?_)
  all_goals (refine WL.step (ok_buildF (vs := [_, _]) (cs := [_, _]) (fun | [a0, a1] => [a0, a1] | _ => []) rfl rfl (by kernel_rfl)) rfl rfl rfl ?_)
  all_goals (refine WL.stepR0 (okE_storeW (fun w => Tryz.sizeOf85 w) rfl rfl rfl hb26 rfl (by simp [Value.oneCell'])) rfl rfl ?_
             rintro _ h7 ⟨hb7, hx7⟩)
  all_goals (refine Go ?_)
  all_goals (refine WC.sub [(2, _), (3, _)] ⟨rfl, rfl, trivial⟩ ?_)
  all_goals (refine WC.ret ?_)
  all_goals (repeat' (with_reducible first | refine thenP_r ?_ | refine blockP_r ?_))
  all_goals (refine retP_2 _ _ ⟨⟨_, rfl, ld_blk (fun w => Tryz.isAgg85 w) (fun w => Tryz.sizeOf85 w) hb7 rfl⟩, rfl, trivial⟩ ?_)
  all_goals (exact ⟨_, rfl, o6.ext hx7 (fun q hq e => by obtain ⟨_, z⟩ := own_kind o6 hq; rw [e, hb26] at z; simp at z), (hX3.trans x6).trans' hx7 (fun q hq e => by have := hx1.size; omega)⟩)
set_option maxHeartbeats 4000000 in
set_option maxRecDepth 100000 in
theorem encQ_69 {h : Heap} (b : Bk) (hb : b.ok h) (hw : b.wf) (hmd : b.mid) (hmay : b.may) (hk : b.kind = 69) :
    CallsH Tryz.prog 55 ⟨[.agg ⟨b.cells⟩]⟩ h fun u h' => ∃ v', u = .tuple ⟨[.agg ⟨[.int .u8 69, v']⟩, In 0]⟩ ∧ Own h' v' 5 1 (encBk b).length (bys (encBk b)) ∧ Ext No h h' := by
  have kc := fun h' (hx : Ext No h h') => checkA07 b (hb.ext0 hx) hw.kind hmd
  have hL : encBk b = encF b.fields ++ [0] := by simp [encBk, hk]
  rw [hL]
  clear hL
  have hst := hw.status
  obtain ⟨md1, md2, md3, md4, md5, md6, md7, md8, md9, md10⟩ := hmd
  have m_c := hmay.cols.2
  have m_o := hmay.oids.2
  have m_n := hmay.n
  have m_m := hmay.m
  have m_r := hmay.row.2
  have hF : ∀ f ∈ b.fields, f.t.length ≤ 200000 ∧ 0 ≤ f.k ∧ f.k ≤ 255 := fun f hf => ⟨md7 f hf, hw.codes f hf⟩
  clear hw
  obtain ⟨ho, hc, hr, hf⟩ := hb
  obtain ⟨k, st, t, n, v, x, y, vo, lo, vc, lc, vr, lr, vf, lf⟩ := b
  dsimp only at hk hst ho hc hr hf md1 md2 md3 md4 md5 md6 md7 md8 md9 md10 m_c m_o m_n m_m m_r hF ⊢
  have hro := ho.1
  have hrc := hc.1
  have hrr := hr.1
  have hrf := hf.1
  obtain ⟨Ao, co, rfl, _⟩ := id hro
  obtain ⟨Ac, cc, rfl, _⟩ := id hrc
  obtain ⟨Ar, cr, rfl, _⟩ := id hrr
  obtain ⟨Af, cf, rfl, _⟩ := id hrf
  dsimp only [Bk.cells] at kc ⊢
  subst hk
  refine calls [(0, _)] Tryz.func55 rfl Tryz.ntmps55 rfl ⟨rfl, trivial⟩ ?_
  all_goals (refine WC.sr ?_)
  all_goals (refine WL.stepR (okE_box rfl) rfl rfl rfl ?_
             rintro _ h1 ⟨b1, rfl, hg1, hb1, hx1⟩)
  all_goals (refine WL.stepR (okE_alloc (fun w => Tryz.zeroValue85 w)) rfl rfl rfl ?_
             rintro _ h2 ⟨b2, rfl, hg2, hb2, hx2⟩)
  all_goals (have hX2 := hx1.trans hx2
             have hb12 := hx2.obj hb1 nos)
  all_goals (refine Go ?_)
  all_goals (refine WC.seq ?_)
  all_goals (refine WC.sr ?_)
  all_goals (refine WL.step (ok_loadN (fun w => Tryz.isAgg32 w) (fun w => Tryz.sizeOf32 w) rfl rfl (by exact At.of_block hb12)) rfl rfl rfl ?_)
  all_goals (refine WL.call (vs := [_]) rfl (fun a w => Tryz.call72 a w) rfl (kc _ hX2) rfl rfl rfl ?_
             rintro _ h3 ⟨⟨e, rfl, he⟩, hx3⟩
             obtain rfl := he.2 hmay)
  all_goals (have hb13 := hx3.obj hb12 nos
             have hb23 := hx3.obj hb2 nos
             have hX3 := hX2.trans hx3
             have l1 := lt_of_some hb13
             have l2 := lt_of_some hb23)
  all_goals (refine Go ?_)
  all_goals (refine WC.sub [(1, _), (2, _), (4, _)] ⟨rfl, rfl, rfl, trivial⟩ ?_)
  all_goals (refine WC.sr ?_)
  all_goals (refine Go ?_)
  all_goals (refine goC 1 2 ?_ ?_ <;> first | exact ⟨⟩ | refine Hb.mk fun hb => ?_ | skip)
  all_goals (first | (fail_if_success refine goB 1 ?_) | (
  refine goB 1 ?_
  all_goals (refine WC.sr ?_)
  all_goals (refine WL.step (ok_buildF (vs := []) (cs := [_, _]) (fun | [] => [(.int .u8 0), (.slice none 0 0)] | _ => []) rfl rfl (by kernel_rfl)) rfl rfl rfl ?_)
  all_goals (refine Go ?_)
  all_goals (refine WL.stepR0 (okE_storeW (fun w => Tryz.sizeOf85 w) rfl rfl rfl (by assumption) rfl (by simp [Value.oneCell'])) rfl rfl ?_
             rintro _ h1 ⟨hb1, hx1⟩)
  all_goals (refine Go ?_)
  all_goals (refine WC.sub [(2, _), (3, _)] ⟨rfl, rfl, trivial⟩ ?_)
  all_goals (refine WC.ret ?_)
  all_goals (repeat' (with_reducible first | refine thenP_r ?_ | refine blockP_r ?_))
  all_goals (refine retP_2 _ _ ⟨⟨_, rfl, ld_blk (fun w => Tryz.isAgg85 w) (fun w => Tryz.sizeOf85 w) hb7 rfl⟩, rfl, trivial⟩ ?_)
  all_goals (exact ⟨_, rfl, o6.ext hx7 (fun q hq e => by obtain ⟨_, z⟩ := own_kind o6 hq; rw [e, hb26] at z; simp at z), (hX3.trans x6).trans' hx7 (fun q hq e => by have := hx1.size; omega)⟩)
  skip))
  all_goals (first | (fail_if_success refine goB 2 ?_) | (
  refine goB 2 ?_
  all_goals (refine WC.skip ?_)
  skip))
  all_goals (refine Gn ?_)
  all_goals (refine WC.sr ?_)
  all_goals (refine Go ?_)
  all_goals (refine WC.seq ?_)
  all_goals (refine WC.sr ?_)
  all_goals (refine Go ?_)
  all_goals (refine WL.step (ok_load (fun w => Tryz.isAgg5 w) rfl (by first | exact cell_blk hb13 rfl | assumption | exact cell_blk (by assumption) rfl)) rfl rfl rfl ?_)
  all_goals (refine Gn ?_)
  all_goals (refine WC.sub [(1, _), (2, _), (5, _), (13, _)] ⟨rfl, rfl, rfl, rfl, trivial⟩ ?_)
  all_goals (refine WC.block ?_)
  all_goals (refine WC.sr ?_)
  all_goals (refine Go ?_)
  all_goals (refine goC 3 4 ?_ ?_ <;> first | exact ⟨⟩ | refine Hb.mk fun hb => ?_ | skip)
  all_goals (first | (fail_if_success refine goB 4 ?_) | (
  refine goB 4 ?_
  all_goals (refine WC.sr ?_)
  all_goals (refine Go ?_)
  all_goals (refine goC 5 6 ?_ ?_ <;> first | exact ⟨⟩ | refine Hb.mk fun hb => ?_ | skip)
  all_goals (first | (fail_if_success refine goB 6 ?_) | (
  refine goB 6 ?_
  all_goals (refine WC.sr ?_)
  all_goals (refine Go ?_)
  all_goals (refine WC.sub [(1, _), (2, _), (5, _), (13, _), (25, _)] ⟨rfl, rfl, rfl, rfl, rfl, trivial⟩ ?_)
  all_goals (refine goC 7 8 ?_ ?_ <;> first | exact ⟨⟩ | refine Hb.mk fun hb => ?_ | skip)
  all_goals (first | (fail_if_success refine goB 8 ?_) | (
  refine goB 8 ?_
  all_goals (refine WC.sr ?_)
  all_goals (refine Go ?_)
  all_goals (refine goC 9 10 ?_ ?_ <;> first | exact ⟨⟩ | refine Hb.mk fun hb => ?_ | skip)
  all_goals (first | (fail_if_success refine goB 9 ?_) | (
  refine goB 9 ?_
  all_goals (refine WC.region ?_)
  all_goals (refine Go ?_)
  all_goals (refine WL.step (ok_load (fun w => Tryz.isAgg5 w) rfl (by first | assumption | exact cell_blk (by assumption) rfl)) rfl rfl rfl ?_)
  all_goals (refine WL.stepR (okE_buildSlice (vs := [_]) (cs := [_]) (fun | [a0] => [a0] | _ => []) Tryz.underlying24 rfl rfl (by kernel_rfl)) rfl rfl rfl ?_
             rintro _ h1 ⟨b1, rfl, hg1, hb1, hx1⟩)
  all_goals (refine Go ?_)
  skip))
  all_goals (first | (fail_if_success refine goB 10 ?_) | (
  refine goB 10 ?_
  all_goals (refine WC.sr ?_)
  all_goals (refine Go ?_)
  all_goals (refine WC.sub [(1, _), (2, _), (5, _), (13, _), (38, _)] ⟨rfl, rfl, rfl, rfl, rfl, trivial⟩ ?_)
  all_goals (refine goC 11 12 ?_ ?_ <;> first | exact ⟨⟩ | refine Hb.mk fun hb => ?_ | skip)
  all_goals (first | (fail_if_success refine goB 12 ?_) | (
  refine goB 12 ?_
  all_goals (refine WC.sr ?_)
  all_goals (refine Go ?_)
  all_goals (refine goC 13 14 ?_ ?_ <;> first | exact ⟨⟩ | refine Hb.mk fun hb => ?_ | skip)
  all_goals (first | (fail_if_success refine goB 14 ?_) | (
  refine goB 14 ?_
  all_goals (refine WC.sr ?_)
  all_goals (refine Go ?_)
  all_goals (refine WC.sub [(1, _), (2, _), (5, _), (13, _), (48, _)] ⟨rfl, rfl, rfl, rfl, rfl, trivial⟩ ?_)
  all_goals (refine goC 15 16 ?_ ?_ <;> first | exact ⟨⟩ | refine Hb.mk fun hb => ?_ | skip)
  all_goals (first | (fail_if_success refine goB 16 ?_) | (
  refine goB 16 ?_
  all_goals (refine WC.sr ?_)
  all_goals (refine Go ?_)
  all_goals (refine goC 17 18 ?_ ?_ <;> first | exact ⟨⟩ | refine Hb.mk fun hb => ?_ | skip)
  all_goals (first | (fail_if_success refine goB 18 ?_) | (
  refine goB 18 ?_
  all_goals (refine WC.seq ?_)
  all_goals (refine WC.sr ?_)
  all_goals (refine Go ?_)
  all_goals (refine WC.sub [(1, _), (2, _), (5, _), (13, _), (58, _)] ⟨rfl, rfl, rfl, rfl, rfl, trivial⟩ ?_)
  all_goals (refine goC 19 20 ?_ ?_ <;> first | exact ⟨⟩ | refine Hb.mk fun hb => ?_ | skip)
  all_goals (first | (fail_if_success refine goB 19 ?_) | (
  refine goB 19 ?_
  all_goals (refine WC.skip ?_)
  skip))
  all_goals (first | (fail_if_success refine goB 20 ?_) | (
  refine goB 20 ?_
  all_goals (refine WC.region ?_)
  all_goals (refine Go ?_)
  skip))
  all_goals (refine Gn ?_)
  all_goals (refine goC 21 22 ?_ ?_ <;> first | exact ⟨⟩ | refine Hb.mk fun hb => ?_ | skip)
  all_goals (first | (fail_if_success refine goB 21 ?_) | (
  refine goB 21 ?_
  all_goals (refine WC.region ?_)
  all_goals (refine Go ?_)
  all_goals (refine WL.step (ok_load (fun w => Tryz.isAgg30 w) rfl (by first | exact cell_blk hb13 rfl | assumption | exact cell_blk (by assumption) rfl)) rfl rfl rfl ?_)
  all_goals (refine WL.call (vs := [_]) rfl (fun a w => Tryz.call78 a w) rfl (told07 lf (hrf.ext0 hX3) md4 hF) rfl rfl rfl ?_
             rintro v6 h6 ⟨o6, x6, hf6⟩)
  all_goals (refine Go ?_)
  skip))
  all_goals (first | (fail_if_success refine goB 22 ?_) | (
  refine goB 22 ?_
  all_goals (refine WC.skip ?_)
  skip))
  skip))
  skip))
  skip))
  skip))
  skip))
  skip))
  skip))
  skip))
  all_goals (refine Gn ?_)
  all_goals (refine WC.sr ?_)
  all_goals (have hb16 := x6.obj hb13 nos
             have hb26 := x6.obj hb23 nos
             obtain ⟨A6, c6, e6, _⟩ := o6.slice
             have hO := o6
             try rw [e6] at hO
             subst e6)
  all_goals (refine WL.step (ok_fieldAddr rfl Tryz.underlying32 rfl (fun w => Tryz.sizeOf5 w)) rfl rfl rfl ?_)
  all_goals (refine WL.step (ok_load (fun w => Tryz.isAgg5 w) rfl (by first | exact cell_blk hb16 rfl | assumption | exact cell_blk (by assumption) rfl)) rfl rfl rfl ?_)
  all_goals (refine Go ?_)
  all_goals (refine WL.step (ok_buildF (vs := [_, _]) (cs := [_, _]) (fun | [a0, a1] => [a0, a1] | _ => []) rfl rfl (by kernel_rfl)) rfl rfl rfl ?_)
  all_goals (refine WL.stepR0 (okE_storeW (fun w => Tryz.sizeOf85 w) rfl rfl rfl hb26 rfl (by simp [Value.oneCell'])) rfl rfl ?_
             rintro _ h7 ⟨hb7, hx7⟩)
  all_goals (refine Go ?_)
  all_goals (refine WC.sub [(2, _), (3, _)] ⟨rfl, rfl, trivial⟩ ?_)
  all_goals (refine WC.ret ?_)
  all_goals (repeat' (with_reducible first | refine thenP_r ?_ | refine blockP_r ?_))
  all_goals (refine retP_2 _ _ ⟨⟨_, rfl, ld_blk (fun w => Tryz.isAgg85 w) (fun w => Tryz.sizeOf85 w) hb7 rfl⟩, rfl, trivial⟩ ?_)
  all_goals (exact ⟨_, rfl, o6.ext hx7 (fun q hq e => by obtain ⟨_, z⟩ := own_kind o6 hq; rw [e, hb26] at z; simp at z), (hX3.trans x6).trans' hx7 (fun q hq e => by have := hx1.size; omega)⟩)
set_option maxHeartbeats 4000000 in
set_option maxRecDepth 100000 in
theorem encQ_78 {h : Heap} (b : Bk) (hb : b.ok h) (hw : b.wf) (hmd : b.mid) (hmay : b.may) (hk : b.kind = 78) :
    CallsH Tryz.prog 55 ⟨[.agg ⟨b.cells⟩]⟩ h fun u h' => ∃ v', u = .tuple ⟨[.agg ⟨[.int .u8 78, v']⟩, In 0]⟩ ∧ Own h' v' 5 1 (encBk b).length (bys (encBk b)) ∧ Ext No h h' := by
  have kc := fun h' (hx : Ext No h h') => checkA07 b (hb.ext0 hx) hw.kind hmd
  have hL : encBk b = encF b.fields ++ [0] := by simp [encBk, hk]
  rw [hL]
  clear hL
  have hst := hw.status
  obtain ⟨md1, md2, md3, md4, md5, md6, md7, md8, md9, md10⟩ := hmd
  have m_c := hmay.cols.2
  have m_o := hmay.oids.2
  have m_n := hmay.n
  have m_m := hmay.m
  have m_r := hmay.row.2
  have hF : ∀ f ∈ b.fields, f.t.length ≤ 200000 ∧ 0 ≤ f.k ∧ f.k ≤ 255 := fun f hf => ⟨md7 f hf, hw.codes f hf⟩
  clear hw
  obtain ⟨ho, hc, hr, hf⟩ := hb
  obtain ⟨k, st, t, n, v, x, y, vo, lo, vc, lc, vr, lr, vf, lf⟩ := b
  dsimp only at hk hst ho hc hr hf md1 md2 md3 md4 md5 md6 md7 md8 md9 md10 m_c m_o m_n m_m m_r hF ⊢
  have hro := ho.1
  have hrc := hc.1
  have hrr := hr.1
  have hrf := hf.1
  obtain ⟨Ao, co, rfl, _⟩ := id hro
  obtain ⟨Ac, cc, rfl, _⟩ := id hrc
  obtain ⟨Ar, cr, rfl, _⟩ := id hrr
  obtain ⟨Af, cf, rfl, _⟩ := id hrf
  dsimp only [Bk.cells] at kc ⊢
  subst hk
  refine calls [(0, _)] Tryz.func55 rfl Tryz.ntmps55 rfl ⟨rfl, trivial⟩ ?_
  all_goals (refine WC.sr ?_)
  all_goals (refine WL.stepR (okE_box rfl) rfl rfl rfl ?_
             rintro _ h1 ⟨b1, rfl, hg1, hb1, hx1⟩)
  all_goals (refine WL.stepR (okE_alloc (fun w => Tryz.zeroValue85 w)) rfl rfl rfl ?_
             rintro _ h2 ⟨b2, rfl, hg2, hb2, hx2⟩)
  all_goals (have hX2 := hx1.trans hx2
             have hb12 := hx2.obj hb1 nos)
  all_goals (refine Go ?_)
  all_goals (refine WC.seq ?_)
  all_goals (refine WC.sr ?_)
  all_goals (refine WL.step (ok_loadN (fun w => Tryz.isAgg32 w) (fun w => Tryz.sizeOf32 w) rfl rfl (by exact At.of_block hb12)) rfl rfl rfl ?_)
  all_goals (refine WL.call (vs := [_]) rfl (fun a w => Tryz.call72 a w) rfl (kc _ hX2) rfl rfl rfl ?_
             rintro _ h3 ⟨⟨e, rfl, he⟩, hx3⟩
             obtain rfl := he.2 hmay)
  all_goals (have hb13 := hx3.obj hb12 nos
             have hb23 := hx3.obj hb2 nos
             have hX3 := hX2.trans hx3
             have l1 := lt_of_some hb13
             have l2 := lt_of_some hb23)
  all_goals (refine Go ?_)
  all_goals (refine WC.sub [(1, _), (2, _), (4, _)] ⟨rfl, rfl, rfl, trivial⟩ ?_)
  all_goals (refine WC.sr ?_)
  all_goals (refine Go ?_)
  all_goals (refine goC 1 2 ?_ ?_ <;> first | exact ⟨⟩ | refine Hb.mk fun hb => ?_ | skip)
  all_goals (first | (fail_if_success refine goB 1 ?_) | (
  refine goB 1 ?_
  all_goals (refine WC.sr ?_)
  all_goals (refine WL.step (ok_buildF (vs := []) (cs := [_, _]) (fun | [] => [(.int .u8 0), (.slice none 0 0)] | _ => []) rfl rfl (by kernel_rfl)) rfl rfl rfl ?_)
  all_goals (refine Go ?_)
  all_goals (refine WL.stepR0 (okE_storeW (fun w => Tryz.sizeOf85 w) rfl rfl rfl (by assumption) rfl (by simp [Value.oneCell'])) rfl rfl ?_
             rintro _ h1 ⟨hb1, hx1⟩)
  all_goals (refine Go ?_)
  all_goals (refine WC.sub [(2, _), (3, _)] ⟨rfl, rfl, trivial⟩ ?_)
  all_goals (refine WC.ret ?_)
  all_goals (repeat' (with_reducible first | refine thenP_r ?_ | refine blockP_r ?_))
  all_goals (refine retP_2 _ _ ⟨⟨_, rfl, ld_blk (fun w => Tryz.isAgg85 w) (fun w => Tryz.sizeOf85 w) hb7 rfl⟩, rfl, trivial⟩ ?_)
  all_goals (exact ⟨_, rfl, o6.ext hx7 (fun q hq e => by obtain ⟨_, z⟩ := own_kind o6 hq; rw [e, hb26] at z; simp at z), (hX3.trans x6).trans' hx7 (fun q hq e => by have := hx1.size; omega)⟩)
  skip))
  all_goals (first | (fail_if_success refine goB 2 ?_) | (
  refine goB 2 ?_
  all_goals (refine WC.skip ?_)
  skip))
  all_goals (refine Gn ?_)
  all_goals (refine WC.sr ?_)
  all_goals (refine Go ?_)
  all_goals (refine WC.seq ?_)
  all_goals (refine WC.sr ?_)
  all_goals (refine Go ?_)
  all_goals (refine WL.step (ok_load (fun w => Tryz.isAgg5 w) rfl (by first | exact cell_blk hb13 rfl | assumption | exact cell_blk (by assumption) rfl)) rfl rfl rfl ?_)
  all_goals (refine Gn ?_)
  all_goals (refine WC.sub [(1, _), (2, _), (5, _), (13, _)] ⟨rfl, rfl, rfl, rfl, trivial⟩ ?_)
  all_goals (refine WC.block ?_)
  all_goals (refine WC.sr ?_)
  all_goals (refine Go ?_)
  all_goals (refine goC 3 4 ?_ ?_ <;> first | exact ⟨⟩ | refine Hb.mk fun hb => ?_ | skip)
  all_goals (first | (fail_if_success refine goB 4 ?_) | (
  refine goB 4 ?_
  all_goals (refine WC.sr ?_)
  all_goals (refine Go ?_)
  all_goals (refine goC 5 6 ?_ ?_ <;> first | exact ⟨⟩ | refine Hb.mk fun hb => ?_ | skip)
  all_goals (first | (fail_if_success refine goB 6 ?_) | (
  refine goB 6 ?_
  all_goals (refine WC.sr ?_)
  all_goals (refine Go ?_)
  all_goals (refine WC.sub [(1, _), (2, _), (5, _), (13, _), (25, _)] ⟨rfl, rfl, rfl, rfl, rfl, trivial⟩ ?_)
  all_goals (refine goC 7 8 ?_ ?_ <;> first | exact ⟨⟩ | refine Hb.mk fun hb => ?_ | skip)
  all_goals (first | (fail_if_success refine goB 8 ?_) | (
  refine goB 8 ?_
  all_goals (refine WC.sr ?_)
  all_goals (refine Go ?_)
  all_goals (refine goC 9 10 ?_ ?_ <;> first | exact ⟨⟩ | refine Hb.mk fun hb => ?_ | skip)
  all_goals (first | (fail_if_success refine goB 9 ?_) | (
  refine goB 9 ?_
  all_goals (refine WC.region ?_)
  all_goals (refine Go ?_)
  all_goals (refine WL.step (ok_load (fun w => Tryz.isAgg5 w) rfl (by first | assumption | exact cell_blk (by assumption) rfl)) rfl rfl rfl ?_)
  all_goals (refine WL.stepR (okE_buildSlice (vs := [_]) (cs := [_]) (fun | [a0] => [a0] | _ => []) Tryz.underlying24 rfl rfl (by kernel_rfl)) rfl rfl rfl ?_
             rintro _ h1 ⟨b1, rfl, hg1, hb1, hx1⟩)
  all_goals (refine Go ?_)
  skip))
  all_goals (first | (fail_if_success refine goB 10 ?_) | (
  refine goB 10 ?_
  all_goals (refine WC.sr ?_)
  all_goals (refine Go ?_)
  all_goals (refine WC.sub [(1, _), (2, _), (5, _), (13, _), (38, _)] ⟨rfl, rfl, rfl, rfl, rfl, trivial⟩ ?_)
  all_goals (refine goC 11 12 ?_ ?_ <;> first | exact ⟨⟩ | refine Hb.mk fun hb => ?_ | skip)
  all_goals (first | (fail_if_success refine goB 12 ?_) | (
  refine goB 12 ?_
  all_goals (refine WC.sr ?_)
  all_goals (refine Go ?_)
  all_goals (refine goC 13 14 ?_ ?_ <;> first | exact ⟨⟩ | refine Hb.mk fun hb => ?_ | skip)
  all_goals (first | (fail_if_success refine goB 14 ?_) | (
  refine goB 14 ?_
  all_goals (refine WC.sr ?_)
  all_goals (refine Go ?_)
  all_goals (refine WC.sub [(1, _), (2, _), (5, _), (13, _), (48, _)] ⟨rfl, rfl, rfl, rfl, rfl, trivial⟩ ?_)
  all_goals (refine goC 15 16 ?_ ?_ <;> first | exact ⟨⟩ | refine Hb.mk fun hb => ?_ | skip)
  all_goals (first | (fail_if_success refine goB 16 ?_) | (
  refine goB 16 ?_
  all_goals (refine WC.sr ?_)
  all_goals (refine Go ?_)
  all_goals (refine goC 17 18 ?_ ?_ <;> first | exact ⟨⟩ | refine Hb.mk fun hb => ?_ | skip)
  all_goals (first | (fail_if_success refine goB 18 ?_) | (
  refine goB 18 ?_
  all_goals (refine WC.seq ?_)
  all_goals (refine WC.sr ?_)
  all_goals (refine Go ?_)
  all_goals (refine WC.sub [(1, _), (2, _), (5, _), (13, _), (58, _)] ⟨rfl, rfl, rfl, rfl, rfl, trivial⟩ ?_)
  all_goals (refine goC 19 20 ?_ ?_ <;> first | exact ⟨⟩ | refine Hb.mk fun hb => ?_ | skip)
  all_goals (first | (fail_if_success refine goB 19 ?_) | (
  refine goB 19 ?_
  all_goals (refine WC.skip ?_)
  skip))
  all_goals (first | (fail_if_success refine goB 20 ?_) | (
  refine goB 20 ?_
  all_goals (refine WC.region ?_)
  all_goals (refine Go ?_)
  skip))
  all_goals (refine Gn ?_)
  all_goals (refine goC 21 22 ?_ ?_ <;> first | exact ⟨⟩ | refine Hb.mk fun hb => ?_ | skip)
  all_goals (first | (fail_if_success refine goB 21 ?_) | (
  refine goB 21 ?_
  all_goals (refine WC.region ?_)
  all_goals (refine Go ?_)
  all_goals (refine WL.step (ok_load (fun w => Tryz.isAgg30 w) rfl (by first | exact cell_blk hb13 rfl | assumption | exact cell_blk (by assumption) rfl)) rfl rfl rfl ?_)
  all_goals (refine WL.call (vs := [_]) rfl (fun a w => Tryz.call78 a w) rfl (told07 lf (hrf.ext0 hX3) md4 hF) rfl rfl rfl ?_
             rintro v6 h6 ⟨o6, x6, hf6⟩)
  all_goals (refine Go ?_)
  skip))
  all_goals (first | (fail_if_success refine goB 22 ?_) | (
  refine goB 22 ?_
  all_goals (refine WC.skip ?_)
  skip))
  skip))
  skip))
  skip))
  skip))
  skip))
  skip))
  skip))
  skip))
  all_goals (refine Gn ?_)
  all_goals (refine WC.sr ?_)
  all_goals (have hb16 := x6.obj hb13 nos
             have hb26 := x6.obj hb23 nos
             obtain ⟨A6, c6, e6, _⟩ := o6.slice
             have hO := o6
             try rw [e6] at hO
             subst e6)
  all_goals (refine WL.step (ok_fieldAddr rfl Tryz.underlying32 rfl (fun w => Tryz.sizeOf5 w)) rfl rfl rfl ?_)
  all_goals (refine WL.step (ok_load (fun w => Tryz.isAgg5 w) rfl (by first | exact cell_blk hb16 rfl | assumption | exact cell_blk (by assumption) rfl)) rfl rfl rfl ?_)
  all_goals (refine Go ?_)
  all_goals (refine WL.step (ok_buildF (vs := [_, _]) (cs := [_, _]) (fun | [a0, a1] => [a0, a1] | _ => []) rfl rfl (by kernel_rfl)) rfl rfl rfl ?_)
  all_goals (refine WL.stepR0 (okE_storeW (fun w => Tryz.sizeOf85 w) rfl rfl rfl hb26 rfl (by simp [Value.oneCell'])) rfl rfl ?_
             rintro _ h7 ⟨hb7, hx7⟩)
  all_goals (refine Go ?_)
  all_goals (refine WC.sub [(2, _), (3, _)] ⟨rfl, rfl, trivial⟩ ?_)
  all_goals (refine WC.ret ?_)
  all_goals (repeat' (with_reducible first | refine thenP_r ?_ | refine blockP_r ?_))
  all_goals (refine retP_2 _ _ ⟨⟨_, rfl, ld_blk (fun w => Tryz.isAgg85 w) (fun w => Tryz.sizeOf85 w) hb7 rfl⟩, rfl, trivial⟩ ?_)
  all_goals (exact ⟨_, rfl, o6.ext hx7 (fun q hq e => by obtain ⟨_, z⟩ := own_kind o6 hq; rw [e, hb26] at z; simp at z), (hX3.trans x6).trans' hx7 (fun q hq e => by have := hx1.size; omega)⟩)
set_option maxHeartbeats 4000000 in
set_option maxRecDepth 100000 in
theorem encQ_0 {h : Heap} (b : Bk) (hb : b.ok h) (hw : b.wf) (hmd : b.mid) (hmay : b.may) (hk : (b.kind = 49 ∨ b.kind = 50 ∨ b.kind = 51 ∨ b.kind = 110 ∨ b.kind = 115 ∨ b.kind = 73)) :
    CallsH Tryz.prog 55 ⟨[.agg ⟨b.cells⟩]⟩ h fun u h' => ∃ v', u = .tuple ⟨[.agg ⟨[.int .u8 b.kind, v']⟩, In 0]⟩ ∧ Own h' v' 5 1 (encBk b).length (bys (encBk b)) ∧ Ext No h h' := by
  have kc := fun h' (hx : Ext No h h') => checkA07 b (hb.ext0 hx) hw.kind hmd
  have hL : encBk b = [] := by rcases hk with hk | hk | hk | hk | hk | hk <;> simp [encBk, hk]
  rw [hL]
  clear hL
  have hst := hw.status
  obtain ⟨md1, md2, md3, md4, md5, md6, md7, md8, md9, md10⟩ := hmd
  have m_c := hmay.cols.2
  have m_o := hmay.oids.2
  have m_n := hmay.n
  have m_m := hmay.m
  have m_r := hmay.row.2
  have hF : ∀ f ∈ b.fields, f.t.length ≤ 200000 ∧ 0 ≤ f.k ∧ f.k ≤ 255 := fun f hf => ⟨md7 f hf, hw.codes f hf⟩
  clear hw
  obtain ⟨ho, hc, hr, hf⟩ := hb
  obtain ⟨k, st, t, n, v, x, y, vo, lo, vc, lc, vr, lr, vf, lf⟩ := b
  dsimp only at hk hst ho hc hr hf md1 md2 md3 md4 md5 md6 md7 md8 md9 md10 m_c m_o m_n m_m m_r hF ⊢
  have hro := ho.1
  have hrc := hc.1
  have hrr := hr.1
  have hrf := hf.1
  obtain ⟨Ao, co, rfl, _⟩ := id hro
  obtain ⟨Ac, cc, rfl, _⟩ := id hrc
  obtain ⟨Ar, cr, rfl, _⟩ := id hrr
  obtain ⟨Af, cf, rfl, _⟩ := id hrf
  dsimp only [Bk.cells] at kc ⊢
  rcases hk with rfl | rfl | rfl | rfl | rfl | rfl
  all_goals
    refine calls [(0, _)] Tryz.func55 rfl Tryz.ntmps55 rfl ⟨rfl, trivial⟩ ?_
    all_goals (refine WC.sr ?_)
    all_goals (refine WL.stepR (okE_box rfl) rfl rfl rfl ?_
               rintro _ h1 ⟨b1, rfl, hg1, hb1, hx1⟩)
    all_goals (refine WL.stepR (okE_alloc (fun w => Tryz.zeroValue85 w)) rfl rfl rfl ?_
               rintro _ h2 ⟨b2, rfl, hg2, hb2, hx2⟩)
    all_goals (have hX2 := hx1.trans hx2
               have hb12 := hx2.obj hb1 nos)
    all_goals (refine Go ?_)
    all_goals (refine WC.seq ?_)
    all_goals (refine WC.sr ?_)
    all_goals (refine WL.step (ok_loadN (fun w => Tryz.isAgg32 w) (fun w => Tryz.sizeOf32 w) rfl rfl (by exact At.of_block hb12)) rfl rfl rfl ?_)
    all_goals (refine WL.call (vs := [_]) rfl (fun a w => Tryz.call72 a w) rfl (kc _ hX2) rfl rfl rfl ?_
               rintro _ h3 ⟨⟨e, rfl, he⟩, hx3⟩
               obtain rfl := he.2 hmay)
    all_goals (have hb13 := hx3.obj hb12 nos
               have hb23 := hx3.obj hb2 nos
               have hX3 := hX2.trans hx3
               have l1 := lt_of_some hb13
               have l2 := lt_of_some hb23)
    all_goals (refine Go ?_)
    all_goals (refine WC.sub [(1, _), (2, _), (4, _)] ⟨rfl, rfl, rfl, trivial⟩ ?_)
    all_goals (refine WC.sr ?_)
    all_goals (refine Go ?_)
    all_goals (refine goC 1 2 ?_ ?_ <;> first | exact ⟨⟩ | refine Hb.mk fun hb => ?_ | skip)
    all_goals (first | (fail_if_success refine goB 1 ?_) | (
    refine goB 1 ?_
    all_goals (refine WC.sr ?_)
    all_goals (refine WL.step (ok_buildF (vs := []) (cs := [_, _]) (fun | [] => [(.int .u8 0), (.slice none 0 0)] | _ => []) rfl rfl (by kernel_rfl)) rfl rfl rfl ?_)
    all_goals (refine Go ?_)
    all_goals (refine WL.stepR0 (okE_storeW (fun w => Tryz.sizeOf85 w) rfl rfl rfl (by assumption) rfl (by simp [Value.oneCell'])) rfl rfl ?_
               rintro _ h1 ⟨hb1, hx1⟩)
    all_goals (refine Go ?_)
    all_goals (refine WC.sub [(2, _), (3, _)] ⟨rfl, rfl, trivial⟩ ?_)
    all_goals (refine WC.ret ?_)
    all_goals (repeat' (with_reducible first | refine thenP_r ?_ | refine blockP_r ?_))
    all_goals (refine retP_2 _ _ ⟨⟨_, rfl, ld_blk (fun w => Tryz.isAgg85 w) (fun w => Tryz.sizeOf85 w) hb7 rfl⟩, rfl, trivial⟩ ?_)
    all_goals (exact ⟨_, rfl, o6.ext hx7 (fun q hq e => by obtain ⟨_, z⟩ := own_kind o6 hq; rw [e, hb26] at z; simp at z), (hX3.trans x6).trans' hx7 (fun q hq e => by have := hx1.size; omega)⟩)
    skip))
    all_goals (first | (fail_if_success refine goB 2 ?_) | (
    refine goB 2 ?_
    all_goals (refine WC.skip ?_)
    skip))
    all_goals (refine Gn ?_)
    all_goals (refine WC.sr ?_)
    all_goals (refine Go ?_)
    all_goals (refine WC.seq ?_)
    all_goals (refine WC.sr ?_)
    all_goals (refine Go ?_)
    all_goals (refine WL.step (ok_load (fun w => Tryz.isAgg5 w) rfl (by first | exact cell_blk hb13 rfl | assumption | exact cell_blk (by assumption) rfl)) rfl rfl rfl ?_)
    all_goals (have x6 := Ext.refl No h3
               have o6 := Own.nil h3 5 1)
    all_goals (refine Gn ?_)
    all_goals (refine WC.sub [(1, _), (2, _), (5, _), (13, _)] ⟨rfl, rfl, rfl, rfl, trivial⟩ ?_)
    all_goals (refine WC.block ?_)
    all_goals (refine WC.sr ?_)
    all_goals (refine Go ?_)
    all_goals (refine goC 3 4 ?_ ?_ <;> first | exact ⟨⟩ | refine Hb.mk fun hb => ?_ | skip)
    all_goals (first | (fail_if_success refine goB 4 ?_) | (
    refine goB 4 ?_
    all_goals (refine WC.sr ?_)
    all_goals (refine Go ?_)
    all_goals (refine goC 5 6 ?_ ?_ <;> first | exact ⟨⟩ | refine Hb.mk fun hb => ?_ | skip)
    all_goals (first | (fail_if_success refine goB 6 ?_) | (
    refine goB 6 ?_
    all_goals (refine WC.sr ?_)
    all_goals (refine Go ?_)
    all_goals (refine WC.sub [(1, _), (2, _), (5, _), (13, _), (25, _)] ⟨rfl, rfl, rfl, rfl, rfl, trivial⟩ ?_)
    all_goals (refine goC 7 8 ?_ ?_ <;> first | exact ⟨⟩ | refine Hb.mk fun hb => ?_ | skip)
    all_goals (first | (fail_if_success refine goB 8 ?_) | (
    refine goB 8 ?_
    all_goals (refine WC.sr ?_)
    all_goals (refine Go ?_)
    all_goals (refine goC 9 10 ?_ ?_ <;> first | exact ⟨⟩ | refine Hb.mk fun hb => ?_ | skip)
    all_goals (first | (fail_if_success refine goB 9 ?_) | (
    refine goB 9 ?_
    all_goals (refine WC.region ?_)
    all_goals (refine Go ?_)
    all_goals (refine WL.step (ok_load (fun w => Tryz.isAgg5 w) rfl (by first | assumption | exact cell_blk (by assumption) rfl)) rfl rfl rfl ?_)
    all_goals (refine WL.stepR (okE_buildSlice (vs := [_]) (cs := [_]) (fun | [a0] => [a0] | _ => []) Tryz.underlying24 rfl rfl (by kernel_rfl)) rfl rfl rfl ?_
               rintro _ h1 ⟨b1, rfl, hg1, hb1, hx1⟩)
    all_goals (refine Go ?_)
    skip))
    all_goals (first | (fail_if_success refine goB 10 ?_) | (
    refine goB 10 ?_
    all_goals (refine WC.sr ?_)
    all_goals (refine Go ?_)
    all_goals (refine WC.sub [(1, _), (2, _), (5, _), (13, _), (38, _)] ⟨rfl, rfl, rfl, rfl, rfl, trivial⟩ ?_)
    all_goals (refine goC 11 12 ?_ ?_ <;> first | exact ⟨⟩ | refine Hb.mk fun hb => ?_ | skip)
    all_goals (first | (fail_if_success refine goB 12 ?_) | (
    refine goB 12 ?_
    all_goals (refine WC.sr ?_)
    all_goals (refine Go ?_)
    all_goals (refine goC 13 14 ?_ ?_ <;> first | exact ⟨⟩ | refine Hb.mk fun hb => ?_ | skip)
    all_goals (first | (fail_if_success refine goB 14 ?_) | (
    refine goB 14 ?_
    all_goals (refine WC.sr ?_)
    all_goals (refine Go ?_)
    all_goals (refine WC.sub [(1, _), (2, _), (5, _), (13, _), (48, _)] ⟨rfl, rfl, rfl, rfl, rfl, trivial⟩ ?_)
    all_goals (refine goC 15 16 ?_ ?_ <;> first | exact ⟨⟩ | refine Hb.mk fun hb => ?_ | skip)
    all_goals (first | (fail_if_success refine goB 16 ?_) | (
    refine goB 16 ?_
    all_goals (refine WC.sr ?_)
    all_goals (refine Go ?_)
    all_goals (refine goC 17 18 ?_ ?_ <;> first | exact ⟨⟩ | refine Hb.mk fun hb => ?_ | skip)
    all_goals (first | (fail_if_success refine goB 18 ?_) | (
    refine goB 18 ?_
    all_goals (refine WC.seq ?_)
    all_goals (refine WC.sr ?_)
    all_goals (refine Go ?_)
    all_goals (refine WC.sub [(1, _), (2, _), (5, _), (13, _), (58, _)] ⟨rfl, rfl, rfl, rfl, rfl, trivial⟩ ?_)
    all_goals (refine goC 19 20 ?_ ?_ <;> first | exact ⟨⟩ | refine Hb.mk fun hb => ?_ | skip)
    all_goals (first | (fail_if_success refine goB 19 ?_) | (
    refine goB 19 ?_
    all_goals (refine WC.skip ?_)
    skip))
    all_goals (first | (fail_if_success refine goB 20 ?_) | (
    refine goB 20 ?_
    all_goals (refine WC.region ?_)
    all_goals (refine Go ?_)
    skip))
    all_goals (refine Gn ?_)
    all_goals (refine goC 21 22 ?_ ?_ <;> first | exact ⟨⟩ | refine Hb.mk fun hb => ?_ | skip)
    all_goals (first | (fail_if_success refine goB 22 ?_) | (
    refine goB 22 ?_
    all_goals (refine WC.skip ?_)
    skip))
    skip))
    skip))
    skip))
    skip))
    skip))
    skip))
    skip))
    skip))
    all_goals (refine Gn ?_)
    all_goals (refine WC.sr ?_)
    all_goals (have hb16 := x6.obj hb13 nos
               have hb26 := x6.obj hb23 nos
               obtain ⟨A6, c6, e6, _⟩ := o6.slice
               have hO := o6
               try rw [e6] at hO)
    all_goals (refine WL.step (ok_fieldAddr rfl Tryz.underlying32 rfl (fun w => Tryz.sizeOf5 w)) rfl rfl rfl ?_)
    all_goals (refine WL.step (ok_load (fun w => Tryz.isAgg5 w) rfl (by first | exact cell_blk hb16 rfl | assumption | exact cell_blk (by assumption) rfl)) rfl rfl rfl ?_)
    all_goals (refine Go ?_)
    all_goals (refine WL.step (ok_buildF (vs := [_, _]) (cs := [_, _]) (fun | [a0, a1] => [a0, a1] | _ => []) rfl rfl (by kernel_rfl)) rfl rfl rfl ?_)
    all_goals (refine WL.stepR0 (okE_storeW (fun w => Tryz.sizeOf85 w) rfl rfl rfl hb26 rfl (by simp [Value.oneCell'])) rfl rfl ?_
               rintro _ h7 ⟨hb7, hx7⟩)
    all_goals (refine Go ?_)
    all_goals (refine WC.sub [(2, _), (3, _)] ⟨rfl, rfl, trivial⟩ ?_)
    all_goals (refine WC.ret ?_)
    all_goals (repeat' (with_reducible first | refine thenP_r ?_ | refine blockP_r ?_))
    all_goals (refine retP_2 _ _ ⟨⟨_, rfl, ld_blk (fun w => Tryz.isAgg85 w) (fun w => Tryz.sizeOf85 w) hb7 rfl⟩, rfl, trivial⟩ ?_)
    all_goals (exact ⟨_, rfl, o6.ext hx7 (fun q hq e => by obtain ⟨_, z⟩ := own_kind o6 hq; rw [e, hb26] at z; simp at z), (hX3.trans x6).trans' hx7 (fun q hq e => by have := hx1.size; omega)⟩)
end Go.Proofs.YtbahigffjclpdaaGreatDoor


/-
  FIX (layer 25): the law's awake.
-/
namespace Go.Proofs.YtbahigffjclpdaaGreatDoor
open Go Go.RK

theorem fl4_len (s c x : List UInt8) : (fl4 s c x).length = 4 := rfl
theorem get67 (s c x : List UInt8) : getT 67 (fl4 s c x) = some c := rfl
theorem get77 (s c x : List UInt8) : getT 77 (fl4 s c x) = some x := rfl
theorem with77 (s c x y : List UInt8) : withF 77 y (fl4 s c x) = fl4 s c y := rfl
theorem fl4_ok {s c x : List UInt8} (h1 : cleanB s = true) (h2 : cleanB c = true) (h3 : cleanB x = true) : ∀ f ∈ fl4 s c x, f.okB := fun f hf => by
  simp only [fl4, List.mem_cons, List.not_mem_nil, or_false] at hf
  rcases hf with rfl | rfl | rfl | rfl
  · exact ⟨by show ¬ (83 : Int) = 0; decide, h1⟩
  · exact ⟨by show ¬ (86 : Int) = 0; decide, h1⟩
  · exact ⟨by show ¬ (67 : Int) = 0; decide, h2⟩
  · exact ⟨by show ¬ (77 : Int) = 0; decide, h3⟩
theorem fl4_le {s c x : List UInt8} (h1 : s.length ≤ 200000) (h2 : c.length ≤ 200000) (h3 : x.length ≤ 200000) : ∀ f ∈ fl4 s c x, f.t.length ≤ 200000 ∧ 0 ≤ f.k ∧ f.k ≤ 255 := fun f hf => by
  simp only [fl4, List.mem_cons, List.not_mem_nil, or_false] at hf
  rcases hf with rfl | rfl | rfl | rfl
  · exact ⟨h1, by show (0 : Int) ≤ 83; decide, by show (83 : Int) ≤ 255; decide⟩
  · exact ⟨h1, by show (0 : Int) ≤ 86; decide, by show (86 : Int) ≤ 255; decide⟩
  · exact ⟨h2, by show (0 : Int) ≤ 67; decide, by show (67 : Int) ≤ 255; decide⟩
  · exact ⟨h3, by show (0 : Int) ≤ 77; decide, by show (77 : Int) ≤ 255; decide⟩
/-- What fix.Back makes of a fault whose text turns to y. -/
theorem back_fl {h : Heap} {v : Value} (f t c x y : List UInt8) (hr : Rd h v 2 4 ((fl4 ([69, 82, 82, 79, 82] : List UInt8) c x).flatMap FieldD.cells)) (hM : Ml h) (hxl : x.length ≤ 100000) (hfl : f.length ≤ 10000) (htl : t.length ≤ 10000) (hy : renL c x f t = y) (he : f = t → y = x) :
    CallsH Tryz.prog 8 ⟨[.agg ⟨eC f t⟩, .agg ⟨eB v⟩]⟩ h fun u h' => ∃ v', u = .agg ⟨eB v'⟩ ∧ Own h' v' 54 2 4 ((fl4 ([69, 82, 82, 79, 82] : List UInt8) c y).flatMap FieldD.cells) ∧ Ext No h h' := by
  have k := back_e (fl4 ([69, 82, 82, 79, 82] : List UInt8) c x) f t c x hr (by show 4 ≤ _; decide) (get67 _ _ _) (get77 _ _ _) hM hxl hfl htl
  rw [hy, with77] at k
  by_cases e : f = t
  · rw [if_pos e] at k
    rw [he e]
    exact k
  · rw [if_neg e] at k
    exact k
set_option maxHeartbeats 4000000 in
set_option maxRecDepth 100000 in
theorem shown_fl {h : Heap} {v : Value} (f t c x y : List UInt8) (hr : Rd h v 2 4 ((fl4 ([69, 82, 82, 79, 82] : List UInt8) c x).flatMap FieldD.cells)) (hM : Ml h) (hxl : x.length ≤ 100000) (hfl : f.length ≤ 10000) (htl : t.length ≤ 10000) (hy : renL c x f t = y) (he : f = t → y = x) (hcl : c.length ≤ 1000) (hyl : y.length ≤ 100000) (hc1 : cleanB c = true) (hc2 : cleanB y = true) :
    CallsH Tryz.prog 11 ⟨[.agg ⟨eC f t⟩, .agg ⟨eB v⟩]⟩ h fun u h' => ∃ L : List UInt8, (encF (fl4 ([69, 82, 82, 79, 82] : List UInt8) c y)).length + 1 ≤ L.length ∧ Own h' u 5 1 L.length (bys L) ∧ Ext No h h' := by
  have kb := fun h' (hx : Ext No h h') => back_fl f t c x y (hr.ext0 hx) (hM.ext0 hx) hxl hfl htl hy he
  have hF := fl4_le (s := ([69, 82, 82, 79, 82] : List UInt8)) (c := c) (x := y) (by decide) (by omega) (by omega)
  have hok := fl4_ok (s := ([69, 82, 82, 79, 82] : List UInt8)) (c := c) (x := y) rfl hc1 hc2
  have hel := encF_len (fl4 ([69, 82, 82, 79, 82] : List UInt8) c y) 200000 (fun f hf => (hF f hf).1)
  rw [fl4_len] at hel
  obtain ⟨A, cc, rfl, _⟩ := id hr
  unfold eC eB at *
  refine calls [(0, _), (1, _)] Tryz.func11 rfl Tryz.ntmps11 rfl ⟨rfl, rfl, trivial⟩ ?_
  all_goals (refine WC.sr ?_)
  all_goals (refine WL.stepR (okE_box rfl) rfl rfl rfl ?_
             rintro _ h1 ⟨b1, rfl, hg1, hb1, hx1⟩)
  all_goals (refine WL.stepR (okE_box rfl) rfl rfl rfl ?_
             rintro _ h2 ⟨b2, rfl, hg2, hb2, hx2⟩)
  all_goals (have hb12 := hx2.obj hb1 nos
             have hX2 := hx1.trans hx2)
  all_goals (refine Go ?_)
  all_goals (refine WC.seq ?_)
  all_goals (refine WC.sr ?_)
  all_goals (refine Go ?_)
  all_goals (refine WL.step (ok_load (fun w => Tryz.isAgg4 w) rfl (by first | exact cell_blk hb12 rfl | assumption | exact cell_blk (by assumption) rfl)) rfl rfl rfl ?_)
  all_goals (refine Gn ?_)
  all_goals (refine WC.sub [(2, _), (3, _), (6, _)] ⟨rfl, rfl, rfl, trivial⟩ ?_)
  all_goals (refine goC 1 2 ?_ ?_ <;> first | exact ⟨⟩ | refine Hb.mk fun hb => ?_ | skip)
  all_goals (first | (fail_if_success refine goB 1 ?_) | (
  refine goB 1 ?_
  all_goals (refine WC.sr ?_)
  all_goals (refine Go ?_)
  all_goals (refine WC.ret ?_)
  all_goals (repeat' (with_reducible first | refine thenP_r ?_ | refine blockP_r ?_))
  all_goals (refine retP_1 _ ⟨rfl, trivial⟩ ?_)
  all_goals (exact ⟨L, hL, ho5, ((hX2.trans hx3).trans hx4).trans hx5⟩)
  skip))
  all_goals (first | (fail_if_success refine goB 2 ?_) | (
  refine goB 2 ?_
  all_goals (refine WC.skip ?_)
  skip))
  all_goals (refine Gn ?_)
  all_goals (refine WC.sr ?_)
  all_goals (refine WL.step (ok_loadN (fun w => Tryz.isAgg26 w) (fun w => Tryz.sizeOf26 w) rfl rfl (by exact At.of_block hb12)) rfl rfl rfl ?_)
  all_goals (refine WL.step (ok_loadN (fun w => Tryz.isAgg32 w) (fun w => Tryz.sizeOf32 w) rfl rfl (by exact At.of_block hb2)) rfl rfl rfl ?_)
  all_goals (refine WL.call (vs := [_, _]) rfl (fun a w => Tryz.call8 a w) rfl (kb _ hX2) rfl rfl rfl ?_
             rintro _ h3 ⟨v3, rfl, ho3, hx3⟩)
  all_goals (refine WL.stepR (okE_buildSlice (vs := [_]) (cs := [_, _, _, _, _, _, _, _, _, _, _]) (fun | [.agg ⟨[a0, a1, a2, a3, a4, a5, a6, a7, a8, a9, a10]⟩] => [a0, a1, a2, a3, a4, a5, a6, a7, a8, a9, a10] | _ => []) Tryz.underlying71 rfl rfl (by kernel_rfl)) rfl rfl rfl ?_
             rintro _ h4 ⟨b4, rfl, hg4, hb4, hx4⟩)
  all_goals (refine WL.call (vs := [_]) rfl (fun a w => Tryz.call34 a w) rfl (bbytes (fl4 ([69, 82, 82, 79, 82] : List UInt8) c y) hb4 (ho3.rd.ext0 hx4) hF (by show 4 ≤ _; decide) hok (by omega)) rfl rfl rfl ?_
             rintro v5 h5 ⟨L, hL, ho5, hx5⟩)
  all_goals (refine Go ?_)
  all_goals (refine WC.sub [(4, _)] ⟨rfl, trivial⟩ ?_)
  all_goals (refine WC.ret ?_)
  all_goals (repeat' (with_reducible first | refine thenP_r ?_ | refine blockP_r ?_))
  all_goals (refine retP_1 _ ⟨rfl, trivial⟩ ?_)
  all_goals (exact ⟨L, hL, ho5, ((hX2.trans hx3).trans hx4).trans hx5⟩)
set_option maxHeartbeats 4000000 in
set_option maxRecDepth 100000 in
theorem awake25 {h : Heap} (hM : Ml h) : CallsH Tryz.prog 6 ⟨[]⟩ h fun u h' => u = .bool true ∧ Ext No h h' := by
  have r1 : renL ([50, 54, 48, 48, 48] : List UInt8) (missL ([95, 110, 111, 110, 101] : List UInt8)) ([95, 110, 111, 110, 101] : List UInt8) ([97] : List UInt8) = missL ([97] : List UInt8) := by simp [renL, swapL]
  have r2 : renL ([50, 54, 48, 48, 48] : List UInt8) (missL ([97] : List UInt8)) ([95, 110, 111, 110, 101] : List UInt8) ([97] : List UInt8) = missL ([97] : List UInt8) := by simp [renL, swapL]
  have hle : 20 ≤ (encF (fl4 ([69, 82, 82, 79, 82] : List UInt8) ([50, 54, 48, 48, 48] : List UInt8) (missL ([97] : List UInt8)))).length := by decide
  refine calls [] Tryz.func6 rfl Tryz.ntmps6 rfl trivial ?_
  all_goals (refine WC.sr ?_)
  all_goals (refine Go ?_)
  all_goals (refine WC.sr ?_)
  all_goals (refine WL.step (ok_buildF (vs := [_, _]) (cs := [_, _, _, _, _, _, _, _]) (fun | [a2, a3] => [(.int .i64 0), (.bool false), a2, a3, (.slice none 0 0), (.slice none 0 0), (.slice none 0 0), (.slice none 0 0)] | _ => []) rfl rfl (by kernel_rfl)) rfl rfl rfl ?_)
  all_goals (refine WL.stepR (okE_alloc (fun w => Tryz.zeroValue26 w)) rfl rfl rfl ?_
             rintro _ h1 ⟨b1, rfl, hg1, hb1, hx1⟩)
  all_goals (refine WL.stepR0 (okE_storeW (fun w => Tryz.sizeOf26 w) rfl rfl rfl hb1 rfl (by simp [Value.oneCell'])) rfl rfl ?_
             rintro _ h2 ⟨hb2, hx2⟩)
  all_goals (have hX2 : Ext No h h2 := hx1.trans' hx2 (fun q hq e => by omega))
  all_goals (refine Gn ?_)
  all_goals (refine WC.seq ?_)
  all_goals (refine WC.drawH (fun h' => Ext No h2 h') 5 6 rfl fol ?_)
  all_goals (refine WH.tk 0 rfl (fun hq hC => ok_loadN (fun w => Tryz.isAgg26 w) (fun w => Tryz.sizeOf26 w) rfl rfl (by exact At.of_block (hC.obj hb2 nos))) rfl rfl rfl ?_)
  all_goals (refine WH.two 1 4 (by kernel_rfl) (Br.out (i := 5009) ?_) (Br.out (i := 5010) ?_))
  all_goals (first | (fail_if_success refine goB 5009 ?_) | (
  refine goB 5009 ?_
  all_goals (refine Comes1.call (vs := [_]) rfl rfl (fun a w => Tryz.call22 a w) rfl (missing_any ([95, 110, 111, 110, 101] : List UInt8) (by decide)) rfl rfl rfl ?_ (fun _ => by kernel_rfl)
             rintro _ g1 ⟨rfl, hy1⟩)
  all_goals (refine ⟨fun _ => by first | exact hy1 | exact hC4.trans hy1, ?_⟩)
  all_goals (have hC1 : Ext No h2 g1 := by first | exact hy1 | exact hC4.trans hy1)
  all_goals (refine WH.two 2 4 (by kernel_rfl) (Br.out (i := 5009) ?_) (Br.out (i := 5010) ?_))
  all_goals (first | (fail_if_success refine goB 5009 ?_) | (
  refine goB 5009 ?_
  all_goals (refine Comes1.call (vs := [_, _]) rfl rfl (fun a w => Tryz.call21 a w) rfl (error_v ([50, 54, 48, 48, 48] : List UInt8) (missL ([95, 110, 111, 110, 101] : List UInt8))) rfl rfl rfl ?_ (fun _ => by kernel_rfl)
             rintro _ g2 ⟨v2, rfl, ho2, hy2⟩)
  all_goals (refine ⟨fun _ => by first | exact hC1.trans hy2 | exact hC4.trans hy2, ?_⟩)
  all_goals (have hC2 : Ext No h2 g2 := by first | exact hC1.trans hy2 | exact hC4.trans hy2)
  all_goals (refine WH.two 3 4 (by kernel_rfl) (Br.out (i := 5009) ?_) (Br.out (i := 5010) ?_))
  all_goals (first | (fail_if_success refine goB 5009 ?_) | (
  refine goB 5009 ?_
  all_goals (refine Comes1.call (vs := [_, _]) rfl rfl (fun a w => Tryz.call8 a w) rfl (back_fl ([95, 110, 111, 110, 101] : List UInt8) ([97] : List UInt8) ([50, 54, 48, 48, 48] : List UInt8) (missL ([95, 110, 111, 110, 101] : List UInt8)) (missL ([97] : List UInt8)) (by first | exact ho2.rd | exact ho2.rd.ext0 hy4) ((hM.ext0 hX2).ext0 (by first | exact hC2 | exact hC4)) (by decide) (by decide) (by decide) r1 (fun e => absurd e (by decide))) rfl rfl rfl ?_ (fun _ => by kernel_rfl)
             rintro _ g3 ⟨v3, rfl, ho3, hy3⟩
             obtain ⟨A3, c3, rfl, _⟩ := ho3.slice)
  all_goals (refine ⟨fun _ => by first | exact hC2.trans hy3 | exact hC4.trans hy3, ?_⟩)
  all_goals (have hC3 : Ext No h2 g3 := by first | exact hC2.trans hy3 | exact hC4.trans hy3)
  all_goals (refine WH.one 4 (by kernel_rfl) ?_)
  all_goals (refine Comes1.run rfl (okE_alloc (fun w => Tryz.zeroValue32 w)) rfl rfl rfl ?_ (fun _ => by kernel_rfl)
             rintro _ g4 ⟨b4, rfl, hg4, hb4, hy4⟩)
  all_goals (refine ⟨fun _ => by first | exact hy4 | exact hC1.trans hy4 | exact hC2.trans hy4 | exact hC3.trans hy4, ?_⟩)
  all_goals (have hC4 : Ext No h2 g4 := by first | exact hy4 | exact hC1.trans hy4 | exact hC2.trans hy4 | exact hC3.trans hy4)
  all_goals (refine WH.one 5 (by kernel_rfl) ?_)
  all_goals (first
              | (have HO := ho3; have HB := hy3.obj hb4 nos; have HC := hC3)
              | (have HO := ho3; have HB := (hy2.trans hy3).obj hb4 nos; have HC := hC3)
              | (have HO := ho3; have HB := ((hy1.trans hy2).trans hy3).obj hb4 nos; have HC := hC3)
              | (have HO := ho3.ext hy4 (fun _ _ => nos); have HB := hb4; have HC := hC4)
             have hgb : h2.size ≤ b4 := by first | exact hg4 | exact Nat.le_trans hC1.size hg4 | exact Nat.le_trans hC2.size hg4 | exact Nat.le_trans hC3.size hg4)
  all_goals (refine Comes1.run0 rfl (okE_storeW (fun w => Tryz.sizeOf32 w) rfl rfl rfl HB rfl (by simp [eB, Value.oneCell'])) rfl rfl ?_ (fun _ => by kernel_rfl)
             rintro _ h5 ⟨hb5, hx5⟩)
  all_goals (refine ⟨fun e => (by cases e), ?_⟩)
  all_goals (have hO5 := HO.ext hx5 (fun q hq e => by obtain ⟨_, z⟩ := own_kind HO hq; rw [e, HB] at z; simp at z)
             have hX25 : Ext No h2 h5 := HC.trans' hx5 (fun q hq e => by omega)
             have hX5 := hX2.trans hX25
             have hb25 := hX25.obj hb2 nos
             have hb5' : h5[b4]? = some (.cells ⟨eB (.slice A3 4 c3)⟩ 32 (0, 0)) := hb5
             clear hb5)
  all_goals (refine WH.done (by kernel_rfl) ?_)
  skip))
  all_goals (first | (fail_if_success refine goB 5010 ?_) | (
  refine goB 5010 ?_
  all_goals (refine Comes1.run rfl (okE_alloc (fun w => Tryz.zeroValue32 w)) rfl rfl rfl ?_ (fun _ => by kernel_rfl)
             rintro _ g4 ⟨b4, rfl, hg4, hb4, hy4⟩)
  all_goals (refine ⟨fun _ => by first | exact hy4 | exact hC1.trans hy4 | exact hC2.trans hy4 | exact hC3.trans hy4, ?_⟩)
  all_goals (have hC4 : Ext No h2 g4 := by first | exact hy4 | exact hC1.trans hy4 | exact hC2.trans hy4 | exact hC3.trans hy4)
  all_goals (refine WH.one 3 (by kernel_rfl) ?_)
  all_goals (refine Comes1.call (vs := [_, _]) rfl rfl (fun a w => Tryz.call8 a w) rfl (back_fl ([95, 110, 111, 110, 101] : List UInt8) ([97] : List UInt8) ([50, 54, 48, 48, 48] : List UInt8) (missL ([95, 110, 111, 110, 101] : List UInt8)) (missL ([97] : List UInt8)) (by first | exact ho2.rd | exact ho2.rd.ext0 hy4) ((hM.ext0 hX2).ext0 (by first | exact hC2 | exact hC4)) (by decide) (by decide) (by decide) r1 (fun e => absurd e (by decide))) rfl rfl rfl ?_ (fun _ => by kernel_rfl)
             rintro _ g3 ⟨v3, rfl, ho3, hy3⟩
             obtain ⟨A3, c3, rfl, _⟩ := ho3.slice)
  all_goals (refine ⟨fun _ => by first | exact hC2.trans hy3 | exact hC4.trans hy3, ?_⟩)
  all_goals (have hC3 : Ext No h2 g3 := by first | exact hC2.trans hy3 | exact hC4.trans hy3)
  all_goals (refine WH.one 5 (by kernel_rfl) ?_)
  all_goals (first
              | (have HO := ho3; have HB := hy3.obj hb4 nos; have HC := hC3)
              | (have HO := ho3; have HB := (hy2.trans hy3).obj hb4 nos; have HC := hC3)
              | (have HO := ho3; have HB := ((hy1.trans hy2).trans hy3).obj hb4 nos; have HC := hC3)
              | (have HO := ho3.ext hy4 (fun _ _ => nos); have HB := hb4; have HC := hC4)
             have hgb : h2.size ≤ b4 := by first | exact hg4 | exact Nat.le_trans hC1.size hg4 | exact Nat.le_trans hC2.size hg4 | exact Nat.le_trans hC3.size hg4)
  all_goals (refine Comes1.run0 rfl (okE_storeW (fun w => Tryz.sizeOf32 w) rfl rfl rfl HB rfl (by simp [eB, Value.oneCell'])) rfl rfl ?_ (fun _ => by kernel_rfl)
             rintro _ h5 ⟨hb5, hx5⟩)
  all_goals (refine ⟨fun e => (by cases e), ?_⟩)
  all_goals (have hO5 := HO.ext hx5 (fun q hq e => by obtain ⟨_, z⟩ := own_kind HO hq; rw [e, HB] at z; simp at z)
             have hX25 : Ext No h2 h5 := HC.trans' hx5 (fun q hq e => by omega)
             have hX5 := hX2.trans hX25
             have hb25 := hX25.obj hb2 nos
             have hb5' : h5[b4]? = some (.cells ⟨eB (.slice A3 4 c3)⟩ 32 (0, 0)) := hb5
             clear hb5)
  all_goals (refine WH.done (by kernel_rfl) ?_)
  skip))
  skip))
  all_goals (first | (fail_if_success refine goB 5010 ?_) | (
  refine goB 5010 ?_
  all_goals (refine Comes1.run rfl (okE_alloc (fun w => Tryz.zeroValue32 w)) rfl rfl rfl ?_ (fun _ => by kernel_rfl)
             rintro _ g4 ⟨b4, rfl, hg4, hb4, hy4⟩)
  all_goals (refine ⟨fun _ => by first | exact hy4 | exact hC1.trans hy4 | exact hC2.trans hy4 | exact hC3.trans hy4, ?_⟩)
  all_goals (have hC4 : Ext No h2 g4 := by first | exact hy4 | exact hC1.trans hy4 | exact hC2.trans hy4 | exact hC3.trans hy4)
  all_goals (refine WH.one 2 (by kernel_rfl) ?_)
  all_goals (refine Comes1.call (vs := [_, _]) rfl rfl (fun a w => Tryz.call21 a w) rfl (error_v ([50, 54, 48, 48, 48] : List UInt8) (missL ([95, 110, 111, 110, 101] : List UInt8))) rfl rfl rfl ?_ (fun _ => by kernel_rfl)
             rintro _ g2 ⟨v2, rfl, ho2, hy2⟩)
  all_goals (refine ⟨fun _ => by first | exact hC1.trans hy2 | exact hC4.trans hy2, ?_⟩)
  all_goals (have hC2 : Ext No h2 g2 := by first | exact hC1.trans hy2 | exact hC4.trans hy2)
  all_goals (refine WH.one 3 (by kernel_rfl) ?_)
  all_goals (refine Comes1.call (vs := [_, _]) rfl rfl (fun a w => Tryz.call8 a w) rfl (back_fl ([95, 110, 111, 110, 101] : List UInt8) ([97] : List UInt8) ([50, 54, 48, 48, 48] : List UInt8) (missL ([95, 110, 111, 110, 101] : List UInt8)) (missL ([97] : List UInt8)) (by first | exact ho2.rd | exact ho2.rd.ext0 hy4) ((hM.ext0 hX2).ext0 (by first | exact hC2 | exact hC4)) (by decide) (by decide) (by decide) r1 (fun e => absurd e (by decide))) rfl rfl rfl ?_ (fun _ => by kernel_rfl)
             rintro _ g3 ⟨v3, rfl, ho3, hy3⟩
             obtain ⟨A3, c3, rfl, _⟩ := ho3.slice)
  all_goals (refine ⟨fun _ => by first | exact hC2.trans hy3 | exact hC4.trans hy3, ?_⟩)
  all_goals (have hC3 : Ext No h2 g3 := by first | exact hC2.trans hy3 | exact hC4.trans hy3)
  all_goals (refine WH.one 5 (by kernel_rfl) ?_)
  all_goals (first
              | (have HO := ho3; have HB := hy3.obj hb4 nos; have HC := hC3)
              | (have HO := ho3; have HB := (hy2.trans hy3).obj hb4 nos; have HC := hC3)
              | (have HO := ho3; have HB := ((hy1.trans hy2).trans hy3).obj hb4 nos; have HC := hC3)
              | (have HO := ho3.ext hy4 (fun _ _ => nos); have HB := hb4; have HC := hC4)
             have hgb : h2.size ≤ b4 := by first | exact hg4 | exact Nat.le_trans hC1.size hg4 | exact Nat.le_trans hC2.size hg4 | exact Nat.le_trans hC3.size hg4)
  all_goals (refine Comes1.run0 rfl (okE_storeW (fun w => Tryz.sizeOf32 w) rfl rfl rfl HB rfl (by simp [eB, Value.oneCell'])) rfl rfl ?_ (fun _ => by kernel_rfl)
             rintro _ h5 ⟨hb5, hx5⟩)
  all_goals (refine ⟨fun e => (by cases e), ?_⟩)
  all_goals (have hO5 := HO.ext hx5 (fun q hq e => by obtain ⟨_, z⟩ := own_kind HO hq; rw [e, HB] at z; simp at z)
             have hX25 : Ext No h2 h5 := HC.trans' hx5 (fun q hq e => by omega)
             have hX5 := hX2.trans hX25
             have hb25 := hX25.obj hb2 nos
             have hb5' : h5[b4]? = some (.cells ⟨eB (.slice A3 4 c3)⟩ 32 (0, 0)) := hb5
             clear hb5)
  all_goals (refine WH.done (by kernel_rfl) ?_)
  skip))
  skip))
  all_goals (first | (fail_if_success refine goB 5010 ?_) | (
  refine goB 5010 ?_
  all_goals (refine Comes1.run rfl (okE_alloc (fun w => Tryz.zeroValue32 w)) rfl rfl rfl ?_ (fun _ => by kernel_rfl)
             rintro _ g4 ⟨b4, rfl, hg4, hb4, hy4⟩)
  all_goals (refine ⟨fun _ => by first | exact hy4 | exact hC1.trans hy4 | exact hC2.trans hy4 | exact hC3.trans hy4, ?_⟩)
  all_goals (have hC4 : Ext No h2 g4 := by first | exact hy4 | exact hC1.trans hy4 | exact hC2.trans hy4 | exact hC3.trans hy4)
  all_goals (refine WH.one 1 (by kernel_rfl) ?_)
  all_goals (refine Comes1.call (vs := [_]) rfl rfl (fun a w => Tryz.call22 a w) rfl (missing_any ([95, 110, 111, 110, 101] : List UInt8) (by decide)) rfl rfl rfl ?_ (fun _ => by kernel_rfl)
             rintro _ g1 ⟨rfl, hy1⟩)
  all_goals (refine ⟨fun _ => by first | exact hy1 | exact hC4.trans hy1, ?_⟩)
  all_goals (have hC1 : Ext No h2 g1 := by first | exact hy1 | exact hC4.trans hy1)
  all_goals (refine WH.one 2 (by kernel_rfl) ?_)
  all_goals (refine Comes1.call (vs := [_, _]) rfl rfl (fun a w => Tryz.call21 a w) rfl (error_v ([50, 54, 48, 48, 48] : List UInt8) (missL ([95, 110, 111, 110, 101] : List UInt8))) rfl rfl rfl ?_ (fun _ => by kernel_rfl)
             rintro _ g2 ⟨v2, rfl, ho2, hy2⟩)
  all_goals (refine ⟨fun _ => by first | exact hC1.trans hy2 | exact hC4.trans hy2, ?_⟩)
  all_goals (have hC2 : Ext No h2 g2 := by first | exact hC1.trans hy2 | exact hC4.trans hy2)
  all_goals (refine WH.one 3 (by kernel_rfl) ?_)
  all_goals (refine Comes1.call (vs := [_, _]) rfl rfl (fun a w => Tryz.call8 a w) rfl (back_fl ([95, 110, 111, 110, 101] : List UInt8) ([97] : List UInt8) ([50, 54, 48, 48, 48] : List UInt8) (missL ([95, 110, 111, 110, 101] : List UInt8)) (missL ([97] : List UInt8)) (by first | exact ho2.rd | exact ho2.rd.ext0 hy4) ((hM.ext0 hX2).ext0 (by first | exact hC2 | exact hC4)) (by decide) (by decide) (by decide) r1 (fun e => absurd e (by decide))) rfl rfl rfl ?_ (fun _ => by kernel_rfl)
             rintro _ g3 ⟨v3, rfl, ho3, hy3⟩
             obtain ⟨A3, c3, rfl, _⟩ := ho3.slice)
  all_goals (refine ⟨fun _ => by first | exact hC2.trans hy3 | exact hC4.trans hy3, ?_⟩)
  all_goals (have hC3 : Ext No h2 g3 := by first | exact hC2.trans hy3 | exact hC4.trans hy3)
  all_goals (refine WH.one 5 (by kernel_rfl) ?_)
  all_goals (first
              | (have HO := ho3; have HB := hy3.obj hb4 nos; have HC := hC3)
              | (have HO := ho3; have HB := (hy2.trans hy3).obj hb4 nos; have HC := hC3)
              | (have HO := ho3; have HB := ((hy1.trans hy2).trans hy3).obj hb4 nos; have HC := hC3)
              | (have HO := ho3.ext hy4 (fun _ _ => nos); have HB := hb4; have HC := hC4)
             have hgb : h2.size ≤ b4 := by first | exact hg4 | exact Nat.le_trans hC1.size hg4 | exact Nat.le_trans hC2.size hg4 | exact Nat.le_trans hC3.size hg4)
  all_goals (refine Comes1.run0 rfl (okE_storeW (fun w => Tryz.sizeOf32 w) rfl rfl rfl HB rfl (by simp [eB, Value.oneCell'])) rfl rfl ?_ (fun _ => by kernel_rfl)
             rintro _ h5 ⟨hb5, hx5⟩)
  all_goals (refine ⟨fun e => (by cases e), ?_⟩)
  all_goals (have hO5 := HO.ext hx5 (fun q hq e => by obtain ⟨_, z⟩ := own_kind HO hq; rw [e, HB] at z; simp at z)
             have hX25 : Ext No h2 h5 := HC.trans' hx5 (fun q hq e => by omega)
             have hX5 := hX2.trans hX25
             have hb25 := hX25.obj hb2 nos
             have hb5' : h5[b4]? = some (.cells ⟨eB (.slice A3 4 c3)⟩ 32 (0, 0)) := hb5
             clear hb5)
  all_goals (refine WH.done (by kernel_rfl) ?_)
  skip))
  all_goals (refine Gn ?_)
  all_goals (refine WC.sub [(1, _), (2, _)] ⟨rfl, rfl, trivial⟩ ?_)
  all_goals (refine WC.sr ?_)
  all_goals (refine Go ?_)
  all_goals (refine WL.step (ok_load (fun w => Tryz.isAgg30 w) rfl (by first | exact cell_blk hb5' rfl | assumption | exact cell_blk (by assumption) rfl)) rfl rfl rfl ?_)
  all_goals (refine WL.call (vs := [_, _]) rfl (fun a w => Tryz.call23 a w) rfl (get_v (fl4 ([69, 82, 82, 79, 82] : List UInt8) ([50, 54, 48, 48, 48] : List UInt8) (missL ([97] : List UInt8))) 77 hO5.rd (by decide)) rfl rfl rfl ?_
             rintro _ h6 ⟨rfl, hx6⟩
             rw [get77])
  all_goals (refine Go ?_)
  all_goals (refine WC.sub [(1, _), (2, _), (3, _), (4, _)] ⟨rfl, rfl, rfl, rfl, trivial⟩ ?_)
  all_goals (refine WC.sr ?_)
  all_goals (refine Go ?_)
  all_goals (refine goP 17 ?_ ?_ <;> first | exact ⟨⟩ | refine Hb.mk fun hb => ?_ | skip)
  all_goals (refine Gg ?_)
  all_goals (first
               | (refine WL.pass rfl rfl rfl ?_)
               | (refine WL.call (vs := [_]) rfl (fun a w => Tryz.call22 a w) rfl (missing_any ([97] : List UInt8) (by decide)) rfl rfl rfl ?_
                  rintro _ h7 ⟨rfl, hx7⟩))
  all_goals (have hX57 := hx6.trans hx7)
  all_goals (refine Gg ?_)
  all_goals (refine Go ?_)
  all_goals (refine goP 22 ?_ ?_ <;> first | exact ⟨⟩ | refine Hb.mk fun hb => ?_ | skip)
  all_goals (first | (refine WL.pass rfl rfl rfl ?_) | (refine WL.step (ok_loadN (fun w => Tryz.isAgg26 w) (fun w => Tryz.sizeOf26 w) rfl rfl (by exact At.of_block (hX57.obj hb25 nos))) rfl rfl rfl ?_))
  all_goals (first | (refine WL.pass rfl rfl rfl ?_) | (refine WL.step (ok_loadN (fun w => Tryz.isAgg32 w) (fun w => Tryz.sizeOf32 w) rfl rfl (by exact At.of_block (hX57.obj hb5' nos))) rfl rfl rfl ?_))
  all_goals (first
               | (refine WL.pass rfl rfl rfl ?_)
               | (refine WL.call (vs := [_, _]) rfl (fun a w => Tryz.call11 a w) rfl (shown_fl ([95, 110, 111, 110, 101] : List UInt8) ([97] : List UInt8) ([50, 54, 48, 48, 48] : List UInt8) (missL ([97] : List UInt8)) (missL ([97] : List UInt8)) (hO5.rd.ext0 hX57) (hM.ext0 (hX5.trans hX57)) (by decide) (by decide) (by decide) r2 (fun _ => rfl) (by decide) (by decide) rfl (by decide)) rfl rfl rfl ?_
                  rintro v8 h8 ⟨L, hL, ho8, hx8⟩
                  obtain ⟨A8, c8, rfl, _⟩ := ho8.slice
                  have hL2 : (10 : Int) < (L.length : Int) := by omega))
  all_goals (refine Gg ?_)
  all_goals (refine Go ?_)
  all_goals (refine WC.sub [(0, _)] ⟨rfl, trivial⟩ ?_)
  all_goals (refine WC.ret ?_)
  all_goals (repeat' (with_reducible first | refine thenP_r ?_ | refine blockP_r ?_))
  all_goals (refine retP_1 _ ⟨rfl, trivial⟩ ?_)
  all_goals (exact ⟨rfl, (hX5.trans hX57).trans hx8⟩)
end Go.Proofs.YtbahigffjclpdaaGreatDoor


/-
  FIX (layer 25): a reply with lists of its own, of any kind.
-/
namespace Go.Proofs.YtbahigffjclpdaaGreatDoor
open Go Go.RK

theorem col_one {l : List ColD} : ∀ v ∈ l.flatMap ColD.cells, v.oneCell' = true := fun v hv => by
  obtain ⟨p, _, hp⟩ := List.mem_flatMap.1 hv
  simp only [ColD.cells, List.mem_cons, List.not_mem_nil, or_false] at hp
  rcases hp with rfl | rfl | rfl | rfl | rfl | rfl | rfl <;> rfl
set_option maxHeartbeats 2000000 in
set_option maxRecDepth 100000 in
theorem clone_col {h : Heap} {A : Option Addr} {c : Nat} (F : List ColD) (hr : Rd h (.slice A F.length c) 7 F.length (F.flatMap ColD.cells)) (hm : F.length ≤ 1000000) :
    CallsH Tryz.prog 44 ⟨[.slice A F.length c]⟩ h fun u h' => Own h' u 46 7 F.length (F.flatMap ColD.cells) ∧ Ext No h h' ∧ (∀ k, u.ownBlock = some k → h.size ≤ k) := by
  cases A with
  | none =>
    have h0 : F = [] := by
      cases F with
      | nil => rfl
      | cons a l => obtain ⟨b, o, e, _⟩ := Rd.at_ hr (by simp); cases e
    subst h0
    refine calls [(0, _)] Tryz.func44 rfl Tryz.ntmps44 rfl ⟨rfl, trivial⟩ ?_
    all_goals (refine WC.sr ?_)
    all_goals (refine Go ?_)
    all_goals (refine WC.seq ?_)
    all_goals (refine WC.sr ?_)
    all_goals (refine Go ?_)
    all_goals (refine WL.step (ok_eqlSn Tryz.underlying28 rfl rfl) rfl rfl rfl ?_)
    all_goals (refine Gn ?_)
    all_goals (refine goC 1 2 ?_ ?_ <;> first | exact ⟨⟩ | refine Hb.mk fun hb => ?_ | skip)
    all_goals (first | (fail_if_success refine goB 1 ?_) | (
    refine goB 1 ?_
    all_goals (refine WC.sr ?_)
    all_goals (refine Go ?_)
    all_goals (refine WC.ret ?_)
    all_goals (repeat' (with_reducible first | refine thenP_r ?_ | refine blockP_r ?_))
    all_goals (refine retP_1 _ ⟨rfl, trivial⟩ ?_)
    all_goals (exact ⟨Own.nil _ _ _, .refl _ _, by simp [Value.ownBlock]⟩)
    skip))
    all_goals (first | (fail_if_success refine goB 2 ?_) | (
    refine goB 2 ?_
    all_goals (refine WC.skip ?_)
    skip))
    all_goals (refine Gn ?_)
    all_goals (refine WC.sr ?_)
    all_goals (refine WL.stepR (okE_buildSlice (vs := []) (cs := []) (fun _ => []) Tryz.underlying28 rfl rfl (by kernel_rfl)) rfl rfl rfl ?_
               rintro _ h1 ⟨b1, rfl, hg1, hb1, hx1⟩)
    all_goals (refine Go ?_)
    all_goals (refine WL.stepR (ok_append (sz := 7) (bytes := 64) rfl Tryz.underlying28 (show Tryz.prog.info? 46 = some Tryz.t46 by kernel_rfl) rfl rfl rfl rfl (by decide) rfl rfl (by assumption) (by first | assumption | exact rd_blk (by assumption) rfl) (by simp [Value.oneCell']) (by simp only [maxLen]; omega) (by omega)) rfl rfl rfl ?_
               rintro v1 h1 ⟨ho1, hx1, hl1⟩)
    all_goals (refine Go ?_)
    all_goals (refine WC.sub [(2, _)] ⟨rfl, trivial⟩ ?_)
    all_goals (refine WC.ret ?_)
    all_goals (repeat' (with_reducible first | refine thenP_r ?_ | refine blockP_r ?_))
    all_goals (refine retP_1 _ ⟨rfl, trivial⟩ ?_)
    all_goals (exact ⟨Own.nil _ _ _, .refl _ _, by simp [Value.ownBlock]⟩)
  | some a =>
    refine calls [(0, _)] Tryz.func44 rfl Tryz.ntmps44 rfl ⟨rfl, trivial⟩ ?_
    all_goals (refine WC.sr ?_)
    all_goals (refine Go ?_)
    all_goals (refine WC.seq ?_)
    all_goals (refine WC.sr ?_)
    all_goals (refine Go ?_)
    all_goals (refine WL.step (ok_eqlSn Tryz.underlying28 rfl rfl) rfl rfl rfl ?_)
    all_goals (refine Gn ?_)
    all_goals (refine goC 1 2 ?_ ?_ <;> first | exact ⟨⟩ | refine Hb.mk fun hb => ?_ | skip)
    all_goals (first | (fail_if_success refine goB 1 ?_) | (
    refine goB 1 ?_
    all_goals (refine WC.sr ?_)
    all_goals (refine Go ?_)
    all_goals (refine WC.ret ?_)
    all_goals (repeat' (with_reducible first | refine thenP_r ?_ | refine blockP_r ?_))
    all_goals (refine retP_1 _ ⟨rfl, trivial⟩ ?_)
    all_goals (exact ⟨by simpa using ho2, hx1.trans' hx2 (fun k hk e => by simp [Value.ownBlock] at e; omega), fresh_of hl2 (fun k hk => by simp [Value.ownBlock] at hk; omega) hx1.size⟩)
    skip))
    all_goals (first | (fail_if_success refine goB 2 ?_) | (
    refine goB 2 ?_
    all_goals (refine WC.skip ?_)
    skip))
    all_goals (refine Gn ?_)
    all_goals (refine WC.sr ?_)
    all_goals (refine WL.stepR (okE_buildSlice (vs := []) (cs := []) (fun _ => []) Tryz.underlying28 rfl rfl (by kernel_rfl)) rfl rfl rfl ?_
               rintro _ h1 ⟨b1, rfl, hg1, hb1, hx1⟩)
    all_goals (refine Go ?_)
    all_goals (have hr1 := hr.ext0 hx1)
    all_goals (refine WL.stepR (ok_append (sz := 7) (bytes := 64) rfl Tryz.underlying28 (show Tryz.prog.info? 46 = some Tryz.t46 by kernel_rfl) rfl rfl rfl rfl (by decide) rfl rfl (own_blk hb1 rfl (by simp [maxLen])) hr1 col_one (by simp only [maxLen]; omega) (by omega)) rfl rfl rfl ?_
               rintro v2 h2 ⟨ho2, hx2, hl2⟩)
    all_goals (refine Go ?_)
    all_goals (refine WC.sub [(2, _)] ⟨rfl, trivial⟩ ?_)
    all_goals (refine WC.ret ?_)
    all_goals (repeat' (with_reducible first | refine thenP_r ?_ | refine blockP_r ?_))
    all_goals (refine retP_1 _ ⟨rfl, trivial⟩ ?_)
    all_goals (exact ⟨by simpa using ho2, hx1.trans' hx2 (fun k hk e => by simp [Value.ownBlock] at e; omega), fresh_of hl2 (fun k hk => by simp [Value.ownBlock] at hk; omega) hx1.size⟩)
set_option maxHeartbeats 2000000 in
set_option maxRecDepth 100000 in
theorem clone_cel {h : Heap} {A : Option Addr} {c : Nat} (F : List Cel) (hr : Rd h (.slice A F.length c) 2 F.length (F.flatMap Cel.cells)) (hs : ∀ x ∈ F, ∃ A n c, x.v = .slice A n c) (hm : F.length ≤ 1000000) :
    CallsH Tryz.prog 46 ⟨[.slice A F.length c]⟩ h fun u h' => Own h' u 50 2 F.length (F.flatMap Cel.cells) ∧ Ext No h h' ∧ (∀ k, u.ownBlock = some k → h.size ≤ k) := by
  have cel_one : ∀ v ∈ F.flatMap Cel.cells, v.oneCell' = true := fun v hv => by
    obtain ⟨p, hp0, hp⟩ := List.mem_flatMap.1 hv
    obtain ⟨A, n, c, e⟩ := hs p hp0
    simp only [Cel.cells, List.mem_cons, List.not_mem_nil, or_false] at hp
    rcases hp with rfl | rfl
    · rfl
    · rw [e]; rfl
  cases A with
  | none =>
    have h0 : F = [] := by
      cases F with
      | nil => rfl
      | cons a l => obtain ⟨b, o, e, _⟩ := Rd.at_ hr (by simp); cases e
    subst h0
    refine calls [(0, _)] Tryz.func46 rfl Tryz.ntmps46 rfl ⟨rfl, trivial⟩ ?_
    all_goals (refine WC.sr ?_)
    all_goals (refine Go ?_)
    all_goals (refine WC.seq ?_)
    all_goals (refine WC.sr ?_)
    all_goals (refine Go ?_)
    all_goals (refine WL.step (ok_eqlSn Tryz.underlying29 rfl rfl) rfl rfl rfl ?_)
    all_goals (refine Gn ?_)
    all_goals (refine goC 1 2 ?_ ?_ <;> first | exact ⟨⟩ | refine Hb.mk fun hb => ?_ | skip)
    all_goals (first | (fail_if_success refine goB 1 ?_) | (
    refine goB 1 ?_
    all_goals (refine WC.sr ?_)
    all_goals (refine Go ?_)
    all_goals (refine WC.ret ?_)
    all_goals (repeat' (with_reducible first | refine thenP_r ?_ | refine blockP_r ?_))
    all_goals (refine retP_1 _ ⟨rfl, trivial⟩ ?_)
    all_goals (exact ⟨Own.nil _ _ _, .refl _ _, by simp [Value.ownBlock]⟩)
    skip))
    all_goals (first | (fail_if_success refine goB 2 ?_) | (
    refine goB 2 ?_
    all_goals (refine WC.skip ?_)
    skip))
    all_goals (refine Gn ?_)
    all_goals (refine WC.sr ?_)
    all_goals (refine WL.stepR (okE_buildSlice (vs := []) (cs := []) (fun _ => []) Tryz.underlying29 rfl rfl (by kernel_rfl)) rfl rfl rfl ?_
               rintro _ h1 ⟨b1, rfl, hg1, hb1, hx1⟩)
    all_goals (refine Go ?_)
    all_goals (refine WL.stepR (ok_append (sz := 2) (bytes := 32) rfl Tryz.underlying29 (show Tryz.prog.info? 50 = some Tryz.t50 by kernel_rfl) rfl rfl rfl rfl (by decide) rfl rfl (by assumption) (by first | assumption | exact rd_blk (by assumption) rfl) (by simp [Value.oneCell']) (by simp only [maxLen]; omega) (by omega)) rfl rfl rfl ?_
               rintro v1 h1 ⟨ho1, hx1, hl1⟩)
    all_goals (refine Go ?_)
    all_goals (refine WC.sub [(2, _)] ⟨rfl, trivial⟩ ?_)
    all_goals (refine WC.ret ?_)
    all_goals (repeat' (with_reducible first | refine thenP_r ?_ | refine blockP_r ?_))
    all_goals (refine retP_1 _ ⟨rfl, trivial⟩ ?_)
    all_goals (exact ⟨Own.nil _ _ _, .refl _ _, by simp [Value.ownBlock]⟩)
  | some a =>
    refine calls [(0, _)] Tryz.func46 rfl Tryz.ntmps46 rfl ⟨rfl, trivial⟩ ?_
    all_goals (refine WC.sr ?_)
    all_goals (refine Go ?_)
    all_goals (refine WC.seq ?_)
    all_goals (refine WC.sr ?_)
    all_goals (refine Go ?_)
    all_goals (refine WL.step (ok_eqlSn Tryz.underlying29 rfl rfl) rfl rfl rfl ?_)
    all_goals (refine Gn ?_)
    all_goals (refine goC 1 2 ?_ ?_ <;> first | exact ⟨⟩ | refine Hb.mk fun hb => ?_ | skip)
    all_goals (first | (fail_if_success refine goB 1 ?_) | (
    refine goB 1 ?_
    all_goals (refine WC.sr ?_)
    all_goals (refine Go ?_)
    all_goals (refine WC.ret ?_)
    all_goals (repeat' (with_reducible first | refine thenP_r ?_ | refine blockP_r ?_))
    all_goals (refine retP_1 _ ⟨rfl, trivial⟩ ?_)
    all_goals (exact ⟨by simpa using ho2, hx1.trans' hx2 (fun k hk e => by simp [Value.ownBlock] at e; omega), fresh_of hl2 (fun k hk => by simp [Value.ownBlock] at hk; omega) hx1.size⟩)
    skip))
    all_goals (first | (fail_if_success refine goB 2 ?_) | (
    refine goB 2 ?_
    all_goals (refine WC.skip ?_)
    skip))
    all_goals (refine Gn ?_)
    all_goals (refine WC.sr ?_)
    all_goals (refine WL.stepR (okE_buildSlice (vs := []) (cs := []) (fun _ => []) Tryz.underlying29 rfl rfl (by kernel_rfl)) rfl rfl rfl ?_
               rintro _ h1 ⟨b1, rfl, hg1, hb1, hx1⟩)
    all_goals (refine Go ?_)
    all_goals (have hr1 := hr.ext0 hx1)
    all_goals (refine WL.stepR (ok_append (sz := 2) (bytes := 32) rfl Tryz.underlying29 (show Tryz.prog.info? 50 = some Tryz.t50 by kernel_rfl) rfl rfl rfl rfl (by decide) rfl rfl (own_blk hb1 rfl (by simp [maxLen])) hr1 cel_one (by simp only [maxLen]; omega) (by omega)) rfl rfl rfl ?_
               rintro v2 h2 ⟨ho2, hx2, hl2⟩)
    all_goals (refine Go ?_)
    all_goals (refine WC.sub [(2, _)] ⟨rfl, trivial⟩ ?_)
    all_goals (refine WC.ret ?_)
    all_goals (repeat' (with_reducible first | refine thenP_r ?_ | refine blockP_r ?_))
    all_goals (refine retP_1 _ ⟨rfl, trivial⟩ ?_)
    all_goals (exact ⟨by simpa using ho2, hx1.trans' hx2 (fun k hk e => by simp [Value.ownBlock] at e; omega), fresh_of hl2 (fun k hk => by simp [Value.ownBlock] at hk; omega) hx1.size⟩)
set_option maxHeartbeats 2000000 in
set_option maxRecDepth 100000 in
theorem clone_byt {h : Heap} {A : Option Addr} {c : Nat} (l : List UInt8) (hr : Rd h (.slice A l.length c) 1 l.length (bys l)) (hm : l.length ≤ 140737488355328) :
    CallsH Tryz.prog 47 ⟨[.slice A l.length c]⟩ h fun u h' => Own h' u 5 1 l.length (bys l) ∧ Ext No h h' ∧ (∀ k, u.ownBlock = some k → h.size ≤ k) := by
  cases A with
  | none =>
    have h0 : l = [] := by
      cases l with
      | nil => rfl
      | cons a l => obtain ⟨b, o, e, _⟩ := Rd.at_ hr (by simp); cases e
    subst h0
    refine calls [(0, _)] Tryz.func47 rfl Tryz.ntmps47 rfl ⟨rfl, trivial⟩ ?_
    all_goals (refine WC.sr ?_)
    all_goals (refine Go ?_)
    all_goals (refine WC.seq ?_)
    all_goals (refine WC.sr ?_)
    all_goals (refine Go ?_)
    all_goals (refine WL.step (ok_eqlSn Tryz.underlying24 rfl rfl) rfl rfl rfl ?_)
    all_goals (refine Gn ?_)
    all_goals (refine goC 1 2 ?_ ?_ <;> first | exact ⟨⟩ | refine Hb.mk fun hb => ?_ | skip)
    all_goals (first | (fail_if_success refine goB 1 ?_) | (
    refine goB 1 ?_
    all_goals (refine WC.sr ?_)
    all_goals (refine Go ?_)
    all_goals (refine WC.ret ?_)
    all_goals (repeat' (with_reducible first | refine thenP_r ?_ | refine blockP_r ?_))
    all_goals (refine retP_1 _ ⟨rfl, trivial⟩ ?_)
    all_goals (exact ⟨Own.nil _ _ _, .refl _ _, by simp [Value.ownBlock]⟩)
    skip))
    all_goals (first | (fail_if_success refine goB 2 ?_) | (
    refine goB 2 ?_
    all_goals (refine WC.skip ?_)
    skip))
    all_goals (refine Gn ?_)
    all_goals (refine WC.sr ?_)
    all_goals (refine WL.stepR (okE_buildSlice (vs := []) (cs := []) (fun _ => []) Tryz.underlying24 rfl rfl (by kernel_rfl)) rfl rfl rfl ?_
               rintro _ h1 ⟨b1, rfl, hg1, hb1, hx1⟩)
    all_goals (refine Go ?_)
    all_goals (refine WL.stepR (ok_append (sz := 1) (bytes := 1) rfl Tryz.underlying24 (show Tryz.prog.info? 5 = some Tryz.t5 by kernel_rfl) rfl rfl rfl rfl (by decide) rfl rfl (by assumption) (by first | assumption | exact rd_blk (by assumption) rfl) (by simp [Value.oneCell']) (by simp only [maxLen]; omega) (by omega)) rfl rfl rfl ?_
               rintro v1 h1 ⟨ho1, hx1, hl1⟩)
    all_goals (refine Go ?_)
    all_goals (refine WC.sub [(2, _)] ⟨rfl, trivial⟩ ?_)
    all_goals (refine WC.ret ?_)
    all_goals (repeat' (with_reducible first | refine thenP_r ?_ | refine blockP_r ?_))
    all_goals (refine retP_1 _ ⟨rfl, trivial⟩ ?_)
    all_goals (exact ⟨Own.nil _ _ _, .refl _ _, by simp [Value.ownBlock]⟩)
  | some a =>
    refine calls [(0, _)] Tryz.func47 rfl Tryz.ntmps47 rfl ⟨rfl, trivial⟩ ?_
    all_goals (refine WC.sr ?_)
    all_goals (refine Go ?_)
    all_goals (refine WC.seq ?_)
    all_goals (refine WC.sr ?_)
    all_goals (refine Go ?_)
    all_goals (refine WL.step (ok_eqlSn Tryz.underlying24 rfl rfl) rfl rfl rfl ?_)
    all_goals (refine Gn ?_)
    all_goals (refine goC 1 2 ?_ ?_ <;> first | exact ⟨⟩ | refine Hb.mk fun hb => ?_ | skip)
    all_goals (first | (fail_if_success refine goB 1 ?_) | (
    refine goB 1 ?_
    all_goals (refine WC.sr ?_)
    all_goals (refine Go ?_)
    all_goals (refine WC.ret ?_)
    all_goals (repeat' (with_reducible first | refine thenP_r ?_ | refine blockP_r ?_))
    all_goals (refine retP_1 _ ⟨rfl, trivial⟩ ?_)
    all_goals (exact ⟨by simpa using ho2, hx1.trans' hx2 (fun k hk e => by simp [Value.ownBlock] at e; omega), fresh_of hl2 (fun k hk => by simp [Value.ownBlock] at hk; omega) hx1.size⟩)
    skip))
    all_goals (first | (fail_if_success refine goB 2 ?_) | (
    refine goB 2 ?_
    all_goals (refine WC.skip ?_)
    skip))
    all_goals (refine Gn ?_)
    all_goals (refine WC.sr ?_)
    all_goals (refine WL.stepR (okE_buildSlice (vs := []) (cs := []) (fun _ => []) Tryz.underlying24 rfl rfl (by kernel_rfl)) rfl rfl rfl ?_
               rintro _ h1 ⟨b1, rfl, hg1, hb1, hx1⟩)
    all_goals (refine Go ?_)
    all_goals (have hr1 := hr.ext0 hx1)
    all_goals (refine WL.stepR (ok_append (sz := 1) (bytes := 1) rfl Tryz.underlying24 (show Tryz.prog.info? 5 = some Tryz.t5 by kernel_rfl) rfl rfl rfl rfl (by decide) rfl rfl (own_blk hb1 rfl (by simp [maxLen])) hr1 (by intro c hc; obtain ⟨b, _, rfl⟩ := List.mem_map.1 hc; rfl) (by simp only [maxLen]; omega) (by omega)) rfl rfl rfl ?_
               rintro v2 h2 ⟨ho2, hx2, hl2⟩)
    all_goals (refine Go ?_)
    all_goals (refine WC.sub [(2, _)] ⟨rfl, trivial⟩ ?_)
    all_goals (refine WC.ret ?_)
    all_goals (repeat' (with_reducible first | refine thenP_r ?_ | refine blockP_r ?_))
    all_goals (refine retP_1 _ ⟨rfl, trivial⟩ ?_)
    all_goals (exact ⟨by simpa using ho2, hx1.trans' hx2 (fun k hk e => by simp [Value.ownBlock] at e; omega), fresh_of hl2 (fun k hk => by simp [Value.ownBlock] at hk; omega) hx1.size⟩)
end Go.Proofs.YtbahigffjclpdaaGreatDoor


/-
  FIX (layer 25): a reply with lists of its own, of any kind: copied.
-/
namespace Go.Proofs.YtbahigffjclpdaaGreatDoor
open Go Go.RK

theorem set_same {α : Type} {L : List α} {j : Nat} {a : α} (h : L[j]? = some a) : L.set j a = L := by
  obtain ⟨h1, h2⟩ := List.getElem?_eq_some_iff.1 h
  subst h2
  exact List.set_getElem_self h1
/-- What is told lasts, whatever is written into boxes of replies. -/
def Bk.lasts (h : Heap) (b : Bk) : Prop := ∀ (S : Nat → Prop) (h' : Heap), Ext S h h' → (∀ q, S q → ∃ c, h[q]? = some (.cells c 32 (0, 0))) → b.ok h'
theorem Bk.lasts.ok {h : Heap} {b : Bk} (k : b.lasts h) : b.ok h := k No h (.refl _ _) (fun _ e => e.elim)
theorem Bk.lasts.step {h h' : Heap} {b : Bk} {S : Nat → Prop} (k : b.lasts h) (x : Ext S h h') (hs : ∀ q, S q → ∃ c, h[q]? = some (.cells c 32 (0, 0))) : b.lasts h' := fun S' h'' x' hs' => by
  refine k (fun q => ∃ c, h[q]? = some (.cells c 32 (0, 0))) h'' ((x.mono fun q _ e => hs q e).trans' x' fun q hq e => ?_) (fun q e => e)
  by_cases hS : S q
  · exact hs q hS
  · obtain ⟨c, hc⟩ := hs' q e
    obtain ⟨o, ho⟩ : ∃ o, h[q]? = some o := ⟨_, Array.getElem?_eq_getElem hq⟩
    have := x.obj ho hS
    rw [hc] at this
    exact ⟨c, by rw [ho, ← this]⟩
theorem Bk.lasts.at {h h' : Heap} {b : Bk} {p : Nat} {c : _} (k : b.lasts h) (hp : h[p]? = some (.cells c 32 (0, 0))) (x : Ext (fun q => q = p) h h') : b.lasts h' := k.step x (fun q e => ⟨c, e ▸ hp⟩)
theorem Bk.lasts.ext0 {h h' : Heap} {b : Bk} (k : b.lasts h) (x : Ext No h h') : b.lasts h' := k.step x (fun _ e => e.elim)
theorem own_last {h h' : Heap} {S : Nat → Prop} {T : TypeId} {sz n : Nat} {v : Value} {xs : List Value} (hT : T ≠ 32) (ho : Own h v T sz n xs) (x : Ext S h h') (hs : ∀ q, S q → ∃ c, h[q]? = some (.cells c 32 (0, 0))) : Own h' v T sz n xs :=
  ho.ext x fun q hq e => by
    obtain ⟨_, z⟩ := own_kind ho hq
    obtain ⟨_, y⟩ := hs q e
    rw [z] at y
    simp only [Option.some.injEq, Obj.cells.injEq] at y
    exact hT y.2.1
set_option maxHeartbeats 4000000 in
set_option maxRecDepth 100000 in
theorem copied_v {h : Heap} (b : Bk) (hb : b.ok h) (l1 : b.oids.length ≤ 1000000) (l2 : b.cols.length ≤ 1000000) (l3 : b.fields.length ≤ 1000000) (l4 : b.row.length ≤ 1000000) :
    CallsH Tryz.prog 29 ⟨[.agg ⟨b.cells⟩]⟩ h fun u h' => ∃ b' : Bk, u = .agg ⟨b'.cells⟩ ∧ b'.lasts h' ∧ b'.pl = b.pl ∧ Ext No h h' := by
  obtain ⟨ho, hc, hrw, hf⟩ := hb
  obtain ⟨k, st, t, n, v, x, y, vo, lo, vc, lc, vr, lr, vf, lf⟩ := b
  dsimp only at ho hc hrw hf l1 l2 l3 l4
  have hcel : ∀ c ∈ lr, ∃ A n cc, c.v = .slice A n cc := fun c hcm => by obtain ⟨A, cc, e, _⟩ := (hrw.2.2 c hcm).1; exact ⟨_, _, _, e⟩
  have hro := ho.1
  have hrc := hc.1
  have hrr := hrw.1
  have hrf := hf.1
  obtain ⟨Ao, co, rfl, _⟩ := id hro
  obtain ⟨Ac, cc, rfl, _⟩ := id hrc
  obtain ⟨Ar, cr, rfl, _⟩ := id hrr
  obtain ⟨Af, cf, rfl, _⟩ := id hrf
  dsimp only [Bk.cells]
  refine calls [(0, _)] Tryz.func29 rfl Tryz.ntmps29 rfl ⟨rfl, trivial⟩ ?_
  all_goals (refine WC.sr ?_)
  all_goals (refine WL.stepR (okE_box rfl) rfl rfl rfl ?_
             rintro _ h1 ⟨b1, rfl, hg1, hb1, hx1⟩)
  all_goals (refine WL.stepR (okE_alloc (fun w => Tryz.zeroValue32 w)) rfl rfl rfl ?_
             rintro _ h2 ⟨b2, rfl, hg2, hb2, hx2⟩)
  all_goals (have hb12 := hx2.obj hb1 nos
             have hX2 := hx1.trans hx2
             have lb1 := lt_of_some hb1)
  all_goals (refine Gn ?_)
  all_goals (refine WC.seq ?_)
  all_goals (refine WC.drawH (fun h' => Ext No h2 h') 12 20 rfl fol ?_)
  all_goals (refine WH.tk 0 rfl (fun hq hC => ok_fieldAddr rfl Tryz.underlying32 rfl (fun w => Tryz.sizeOf27 w)) rfl rfl rfl ?_)
  all_goals (refine WH.tk 1 rfl (fun hq hC => ok_load (fun w => Tryz.isAgg27 w) rfl (by first | exact hC.cell (by first | exact cell_blk hb12 rfl | assumption | exact cell_blk (by assumption) rfl) nos)) rfl rfl rfl ?_)
  all_goals (refine WH.tk 3 rfl (fun hq hC => ok_fieldAddr rfl Tryz.underlying32 rfl (fun w => Tryz.sizeOf28 w)) rfl rfl rfl ?_)
  all_goals (refine WH.tk 4 rfl (fun hq hC => ok_load (fun w => Tryz.isAgg28 w) rfl (by first | exact hC.cell (by first | exact cell_blk hb12 rfl | assumption | exact cell_blk (by assumption) rfl) nos)) rfl rfl rfl ?_)
  all_goals (refine WH.tk 6 rfl (fun hq hC => ok_fieldAddr rfl Tryz.underlying32 rfl (fun w => Tryz.sizeOf30 w)) rfl rfl rfl ?_)
  all_goals (refine WH.tk 7 rfl (fun hq hC => ok_load (fun w => Tryz.isAgg30 w) rfl (by first | exact hC.cell (by first | exact cell_blk hb12 rfl | assumption | exact cell_blk (by assumption) rfl) nos)) rfl rfl rfl ?_)
  all_goals (refine WH.tk 9 rfl (fun hq hC => ok_fieldAddr rfl Tryz.underlying32 rfl (fun w => Tryz.sizeOf29 w)) rfl rfl rfl ?_)
  all_goals (refine WH.tk 10 rfl (fun hq hC => ok_load (fun w => Tryz.isAgg29 w) rfl (by first | exact hC.cell (by first | exact cell_blk hb12 rfl | assumption | exact cell_blk (by assumption) rfl) nos)) rfl rfl rfl ?_)
  all_goals (refine WH.one 2 (by kernel_rfl) ?_)
  all_goals (refine Comes1.call (vs := [_]) rfl rfl (fun a w => Tryz.call43 a w) rfl (clone_int lo (hro.ext0 hX2) l1) rfl rfl rfl ?_ (fun _ => by kernel_rfl)
             rintro vo2 g1 ⟨oo1, hy1, _⟩
             obtain ⟨Ao2, co2, rfl, _⟩ := oo1.slice)
  all_goals (refine ⟨fun _ => hy1, ?_⟩)
  all_goals (refine WH.two 5 12 (by kernel_rfl) (Br.out (i := 5009) ?_) (Br.out (i := 5010) ?_))
  all_goals (first | (fail_if_success refine goB 5009 ?_) | (
  refine goB 5009 ?_
  all_goals (refine Comes1.call (vs := [_]) rfl rfl (fun a w => Tryz.call44 a w) rfl (clone_col lc (hrc.ext0 (hX2.trans hy1)) l2) rfl rfl rfl ?_ (fun _ => by kernel_rfl)
             rintro vc2 g2 ⟨oc2, hy2, _⟩
             obtain ⟨Ac2, cc2, rfl, _⟩ := oc2.slice)
  all_goals (refine ⟨fun _ => hy1.trans hy2, ?_⟩)
  all_goals (have hY2 := hy1.trans hy2)
  all_goals (refine WH.two 8 12 (by kernel_rfl) (Br.out (i := 5009) ?_) (Br.out (i := 5010) ?_))
  all_goals (first | (fail_if_success refine goB 5009 ?_) | (
  refine goB 5009 ?_
  all_goals (refine Comes1.call (vs := [_]) rfl rfl (fun a w => Tryz.call45 a w) rfl (clone_fld lf (hrf.ext0 (hX2.trans hY2)) l3) rfl rfl rfl ?_ (fun _ => by kernel_rfl)
             rintro vf2 g3 ⟨of3, hy3, _⟩
             obtain ⟨Af2, cf2, rfl, _⟩ := of3.slice)
  all_goals (refine ⟨fun _ => hY2.trans hy3, ?_⟩)
  all_goals (have hY3 := hY2.trans hy3)
  all_goals (refine WH.two 11 12 (by kernel_rfl) (Br.out (i := 5009) ?_) (Br.out (i := 5010) ?_))
  all_goals (first | (fail_if_success refine goB 5009 ?_) | (
  refine goB 5009 ?_
  all_goals (refine Comes1.call (vs := [_]) rfl rfl (fun a w => Tryz.call46 a w) rfl (clone_cel lr (hrr.ext0 (hX2.trans hY3)) hcel l4) rfl rfl rfl ?_ (fun _ => by kernel_rfl)
             rintro vr2 g4 ⟨or4, hy4, hf4⟩
             obtain ⟨Ar2, cr2, rfl, _⟩ := or4.slice)
  all_goals (refine ⟨fun _ => hY3.trans hy4, ?_⟩)
  all_goals (have hY4 := hY3.trans hy4)
  all_goals (refine WH.one 12 (by kernel_rfl) ?_)
  all_goals (refine Comes1.run rfl (OkP.r (ok_fieldAddr rfl Tryz.underlying32 rfl (fun w => Tryz.sizeOf27 w))) rfl rfl rfl ?_ (fun _ => by kernel_rfl)
             rintro _ hz ⟨rfl, _⟩
             subst hz)
  all_goals (refine ⟨fun e => (by cases e), ?_⟩)
  all_goals (refine WH.one 13 (by kernel_rfl) ?_)
  all_goals (refine Comes1.run0 rfl (okE_store (fun w => Tryz.sizeOf27 w) rfl rfl (hY4.obj hb12 nos) (Nat.le_of_ble_eq_true rfl) rfl rfl) rfl rfl ?_ (fun _ => by kernel_rfl)
             rintro _ h13 ⟨hb13, hx13⟩)
  all_goals (refine ⟨fun e => (by cases e), ?_⟩)
  all_goals (refine WH.one 14 (by kernel_rfl) ?_)
  all_goals (refine Comes1.run rfl (OkP.r (ok_fieldAddr rfl Tryz.underlying32 rfl (fun w => Tryz.sizeOf28 w))) rfl rfl rfl ?_ (fun _ => by kernel_rfl)
             rintro _ hz ⟨rfl, _⟩
             subst hz)
  all_goals (refine ⟨fun e => (by cases e), ?_⟩)
  all_goals (refine WH.one 15 (by kernel_rfl) ?_)
  all_goals (refine Comes1.run0 rfl (okE_store (fun w => Tryz.sizeOf28 w) rfl rfl hb13 (Nat.le_of_ble_eq_true rfl) rfl rfl) rfl rfl ?_ (fun _ => by kernel_rfl)
             rintro _ h15 ⟨hb15, hx15⟩)
  all_goals (refine ⟨fun e => (by cases e), ?_⟩)
  all_goals (refine WH.one 16 (by kernel_rfl) ?_)
  all_goals (refine Comes1.run rfl (OkP.r (ok_fieldAddr rfl Tryz.underlying32 rfl (fun w => Tryz.sizeOf30 w))) rfl rfl rfl ?_ (fun _ => by kernel_rfl)
             rintro _ hz ⟨rfl, _⟩
             subst hz)
  all_goals (refine ⟨fun e => (by cases e), ?_⟩)
  all_goals (refine WH.one 17 (by kernel_rfl) ?_)
  all_goals (refine Comes1.run0 rfl (okE_store (fun w => Tryz.sizeOf30 w) rfl rfl hb15 (Nat.le_of_ble_eq_true rfl) rfl rfl) rfl rfl ?_ (fun _ => by kernel_rfl)
             rintro _ h17 ⟨hb17, hx17⟩)
  all_goals (refine ⟨fun e => (by cases e), ?_⟩)
  all_goals (refine WH.one 18 (by kernel_rfl) ?_)
  all_goals (refine Comes1.run rfl (OkP.r (ok_fieldAddr rfl Tryz.underlying32 rfl (fun w => Tryz.sizeOf29 w))) rfl rfl rfl ?_ (fun _ => by kernel_rfl)
             rintro _ hz ⟨rfl, _⟩
             subst hz)
  all_goals (refine ⟨fun e => (by cases e), ?_⟩)
  all_goals (refine WH.one 19 (by kernel_rfl) ?_)
  all_goals (refine Comes1.run0 rfl (okE_store (fun w => Tryz.sizeOf29 w) rfl rfl hb17 (Nat.le_of_ble_eq_true rfl) rfl rfl) rfl rfl ?_ (fun _ => by kernel_rfl)
             rintro _ h19 ⟨hb19, hx19⟩)
  all_goals (refine ⟨fun e => (by cases e), ?_⟩)
  all_goals (have hZ : Ext (fun q => q = b1) g4 h19 := ((hx13.trans hx15).trans hx17).trans hx19
             have hB := hY4.obj hb12 nos
             have off : ∀ {T : TypeId} {sz m : Nat} {w : Value} {xs : List Value}, T ≠ 32 → Own g4 w T sz m xs → Own h19 w T sz m xs := fun {T} {sz} {m} {w} {xs} hT hO => hO.ext hZ (fun q hq e => by obtain ⟨_, z⟩ := own_kind hO hq; rw [e, hB] at z; simp only [Option.some.injEq, Obj.cells.injEq] at z; exact hT z.2.1.symm)
             have oo := off (by decide) (((oo1.ext hy2 (fun _ _ => nos)).ext hy3 (fun _ _ => nos)).ext hy4 (fun _ _ => nos))
             have oc := off (by decide) ((oc2.ext hy3 (fun _ _ => nos)).ext hy4 (fun _ _ => nos))
             have of' := off (by decide) (of3.ext hy4 (fun _ _ => nos))
             have or' := off (by decide) or4
             have hX19 : Ext No h h19 := (hX2.trans hY4).trans' hZ (fun q hq e => by omega)
             have hb219 := hZ.obj (hY4.obj hb2 nos) (fun e => by omega)
             clear hb13 hb15 hb17)
  all_goals (refine WH.done (by kernel_rfl) ?_)
  skip))
  all_goals (first | (fail_if_success refine goB 5010 ?_) | (
  refine goB 5010 ?_
  all_goals (refine Comes1.run rfl (OkP.r (ok_fieldAddr rfl Tryz.underlying32 rfl (fun w => Tryz.sizeOf27 w))) rfl rfl rfl ?_ (fun _ => by kernel_rfl)
             rintro _ hz ⟨rfl, _⟩
             subst hz)
  all_goals (refine ⟨fun e => (by cases e), ?_⟩)
  all_goals (refine WH.one 11 (by kernel_rfl) ?_)
  all_goals (refine Comes1.call (vs := [_]) rfl rfl (fun a w => Tryz.call46 a w) rfl (clone_cel lr (hrr.ext0 (hX2.trans hY3)) hcel l4) rfl rfl rfl ?_ (fun _ => by kernel_rfl)
             rintro vr2 g4 ⟨or4, hy4, hf4⟩
             obtain ⟨Ar2, cr2, rfl, _⟩ := or4.slice)
  all_goals (refine ⟨fun _ => hY3.trans hy4, ?_⟩)
  all_goals (have hY4 := hY3.trans hy4)
  all_goals (refine WH.one 13 (by kernel_rfl) ?_)
  all_goals (refine Comes1.run0 rfl (okE_store (fun w => Tryz.sizeOf27 w) rfl rfl (hY4.obj hb12 nos) (Nat.le_of_ble_eq_true rfl) rfl rfl) rfl rfl ?_ (fun _ => by kernel_rfl)
             rintro _ h13 ⟨hb13, hx13⟩)
  all_goals (refine ⟨fun e => (by cases e), ?_⟩)
  all_goals (refine WH.one 14 (by kernel_rfl) ?_)
  all_goals (refine Comes1.run rfl (OkP.r (ok_fieldAddr rfl Tryz.underlying32 rfl (fun w => Tryz.sizeOf28 w))) rfl rfl rfl ?_ (fun _ => by kernel_rfl)
             rintro _ hz ⟨rfl, _⟩
             subst hz)
  all_goals (refine ⟨fun e => (by cases e), ?_⟩)
  all_goals (refine WH.one 15 (by kernel_rfl) ?_)
  all_goals (refine Comes1.run0 rfl (okE_store (fun w => Tryz.sizeOf28 w) rfl rfl hb13 (Nat.le_of_ble_eq_true rfl) rfl rfl) rfl rfl ?_ (fun _ => by kernel_rfl)
             rintro _ h15 ⟨hb15, hx15⟩)
  all_goals (refine ⟨fun e => (by cases e), ?_⟩)
  all_goals (refine WH.one 16 (by kernel_rfl) ?_)
  all_goals (refine Comes1.run rfl (OkP.r (ok_fieldAddr rfl Tryz.underlying32 rfl (fun w => Tryz.sizeOf30 w))) rfl rfl rfl ?_ (fun _ => by kernel_rfl)
             rintro _ hz ⟨rfl, _⟩
             subst hz)
  all_goals (refine ⟨fun e => (by cases e), ?_⟩)
  all_goals (refine WH.one 17 (by kernel_rfl) ?_)
  all_goals (refine Comes1.run0 rfl (okE_store (fun w => Tryz.sizeOf30 w) rfl rfl hb15 (Nat.le_of_ble_eq_true rfl) rfl rfl) rfl rfl ?_ (fun _ => by kernel_rfl)
             rintro _ h17 ⟨hb17, hx17⟩)
  all_goals (refine ⟨fun e => (by cases e), ?_⟩)
  all_goals (refine WH.one 18 (by kernel_rfl) ?_)
  all_goals (refine Comes1.run rfl (OkP.r (ok_fieldAddr rfl Tryz.underlying32 rfl (fun w => Tryz.sizeOf29 w))) rfl rfl rfl ?_ (fun _ => by kernel_rfl)
             rintro _ hz ⟨rfl, _⟩
             subst hz)
  all_goals (refine ⟨fun e => (by cases e), ?_⟩)
  all_goals (refine WH.one 19 (by kernel_rfl) ?_)
  all_goals (refine Comes1.run0 rfl (okE_store (fun w => Tryz.sizeOf29 w) rfl rfl hb17 (Nat.le_of_ble_eq_true rfl) rfl rfl) rfl rfl ?_ (fun _ => by kernel_rfl)
             rintro _ h19 ⟨hb19, hx19⟩)
  all_goals (refine ⟨fun e => (by cases e), ?_⟩)
  all_goals (have hZ : Ext (fun q => q = b1) g4 h19 := ((hx13.trans hx15).trans hx17).trans hx19
             have hB := hY4.obj hb12 nos
             have off : ∀ {T : TypeId} {sz m : Nat} {w : Value} {xs : List Value}, T ≠ 32 → Own g4 w T sz m xs → Own h19 w T sz m xs := fun {T} {sz} {m} {w} {xs} hT hO => hO.ext hZ (fun q hq e => by obtain ⟨_, z⟩ := own_kind hO hq; rw [e, hB] at z; simp only [Option.some.injEq, Obj.cells.injEq] at z; exact hT z.2.1.symm)
             have oo := off (by decide) (((oo1.ext hy2 (fun _ _ => nos)).ext hy3 (fun _ _ => nos)).ext hy4 (fun _ _ => nos))
             have oc := off (by decide) ((oc2.ext hy3 (fun _ _ => nos)).ext hy4 (fun _ _ => nos))
             have of' := off (by decide) (of3.ext hy4 (fun _ _ => nos))
             have or' := off (by decide) or4
             have hX19 : Ext No h h19 := (hX2.trans hY4).trans' hZ (fun q hq e => by omega)
             have hb219 := hZ.obj (hY4.obj hb2 nos) (fun e => by omega)
             clear hb13 hb15 hb17)
  all_goals (refine WH.done (by kernel_rfl) ?_)
  skip))
  skip))
  all_goals (first | (fail_if_success refine goB 5010 ?_) | (
  refine goB 5010 ?_
  all_goals (refine Comes1.run rfl (OkP.r (ok_fieldAddr rfl Tryz.underlying32 rfl (fun w => Tryz.sizeOf27 w))) rfl rfl rfl ?_ (fun _ => by kernel_rfl)
             rintro _ hz ⟨rfl, _⟩
             subst hz)
  all_goals (refine ⟨fun e => (by cases e), ?_⟩)
  all_goals (refine WH.one 8 (by kernel_rfl) ?_)
  all_goals (refine Comes1.call (vs := [_]) rfl rfl (fun a w => Tryz.call45 a w) rfl (clone_fld lf (hrf.ext0 (hX2.trans hY2)) l3) rfl rfl rfl ?_ (fun _ => by kernel_rfl)
             rintro vf2 g3 ⟨of3, hy3, _⟩
             obtain ⟨Af2, cf2, rfl, _⟩ := of3.slice)
  all_goals (refine ⟨fun _ => hY2.trans hy3, ?_⟩)
  all_goals (have hY3 := hY2.trans hy3)
  all_goals (refine WH.one 11 (by kernel_rfl) ?_)
  all_goals (refine Comes1.call (vs := [_]) rfl rfl (fun a w => Tryz.call46 a w) rfl (clone_cel lr (hrr.ext0 (hX2.trans hY3)) hcel l4) rfl rfl rfl ?_ (fun _ => by kernel_rfl)
             rintro vr2 g4 ⟨or4, hy4, hf4⟩
             obtain ⟨Ar2, cr2, rfl, _⟩ := or4.slice)
  all_goals (refine ⟨fun _ => hY3.trans hy4, ?_⟩)
  all_goals (have hY4 := hY3.trans hy4)
  all_goals (refine WH.one 13 (by kernel_rfl) ?_)
  all_goals (refine Comes1.run0 rfl (okE_store (fun w => Tryz.sizeOf27 w) rfl rfl (hY4.obj hb12 nos) (Nat.le_of_ble_eq_true rfl) rfl rfl) rfl rfl ?_ (fun _ => by kernel_rfl)
             rintro _ h13 ⟨hb13, hx13⟩)
  all_goals (refine ⟨fun e => (by cases e), ?_⟩)
  all_goals (refine WH.one 14 (by kernel_rfl) ?_)
  all_goals (refine Comes1.run rfl (OkP.r (ok_fieldAddr rfl Tryz.underlying32 rfl (fun w => Tryz.sizeOf28 w))) rfl rfl rfl ?_ (fun _ => by kernel_rfl)
             rintro _ hz ⟨rfl, _⟩
             subst hz)
  all_goals (refine ⟨fun e => (by cases e), ?_⟩)
  all_goals (refine WH.one 15 (by kernel_rfl) ?_)
  all_goals (refine Comes1.run0 rfl (okE_store (fun w => Tryz.sizeOf28 w) rfl rfl hb13 (Nat.le_of_ble_eq_true rfl) rfl rfl) rfl rfl ?_ (fun _ => by kernel_rfl)
             rintro _ h15 ⟨hb15, hx15⟩)
  all_goals (refine ⟨fun e => (by cases e), ?_⟩)
  all_goals (refine WH.one 16 (by kernel_rfl) ?_)
  all_goals (refine Comes1.run rfl (OkP.r (ok_fieldAddr rfl Tryz.underlying32 rfl (fun w => Tryz.sizeOf30 w))) rfl rfl rfl ?_ (fun _ => by kernel_rfl)
             rintro _ hz ⟨rfl, _⟩
             subst hz)
  all_goals (refine ⟨fun e => (by cases e), ?_⟩)
  all_goals (refine WH.one 17 (by kernel_rfl) ?_)
  all_goals (refine Comes1.run0 rfl (okE_store (fun w => Tryz.sizeOf30 w) rfl rfl hb15 (Nat.le_of_ble_eq_true rfl) rfl rfl) rfl rfl ?_ (fun _ => by kernel_rfl)
             rintro _ h17 ⟨hb17, hx17⟩)
  all_goals (refine ⟨fun e => (by cases e), ?_⟩)
  all_goals (refine WH.one 18 (by kernel_rfl) ?_)
  all_goals (refine Comes1.run rfl (OkP.r (ok_fieldAddr rfl Tryz.underlying32 rfl (fun w => Tryz.sizeOf29 w))) rfl rfl rfl ?_ (fun _ => by kernel_rfl)
             rintro _ hz ⟨rfl, _⟩
             subst hz)
  all_goals (refine ⟨fun e => (by cases e), ?_⟩)
  all_goals (refine WH.one 19 (by kernel_rfl) ?_)
  all_goals (refine Comes1.run0 rfl (okE_store (fun w => Tryz.sizeOf29 w) rfl rfl hb17 (Nat.le_of_ble_eq_true rfl) rfl rfl) rfl rfl ?_ (fun _ => by kernel_rfl)
             rintro _ h19 ⟨hb19, hx19⟩)
  all_goals (refine ⟨fun e => (by cases e), ?_⟩)
  all_goals (have hZ : Ext (fun q => q = b1) g4 h19 := ((hx13.trans hx15).trans hx17).trans hx19
             have hB := hY4.obj hb12 nos
             have off : ∀ {T : TypeId} {sz m : Nat} {w : Value} {xs : List Value}, T ≠ 32 → Own g4 w T sz m xs → Own h19 w T sz m xs := fun {T} {sz} {m} {w} {xs} hT hO => hO.ext hZ (fun q hq e => by obtain ⟨_, z⟩ := own_kind hO hq; rw [e, hB] at z; simp only [Option.some.injEq, Obj.cells.injEq] at z; exact hT z.2.1.symm)
             have oo := off (by decide) (((oo1.ext hy2 (fun _ _ => nos)).ext hy3 (fun _ _ => nos)).ext hy4 (fun _ _ => nos))
             have oc := off (by decide) ((oc2.ext hy3 (fun _ _ => nos)).ext hy4 (fun _ _ => nos))
             have of' := off (by decide) (of3.ext hy4 (fun _ _ => nos))
             have or' := off (by decide) or4
             have hX19 : Ext No h h19 := (hX2.trans hY4).trans' hZ (fun q hq e => by omega)
             have hb219 := hZ.obj (hY4.obj hb2 nos) (fun e => by omega)
             clear hb13 hb15 hb17)
  all_goals (refine WH.done (by kernel_rfl) ?_)
  skip))
  skip))
  all_goals (first | (fail_if_success refine goB 5010 ?_) | (
  refine goB 5010 ?_
  all_goals (refine Comes1.run rfl (OkP.r (ok_fieldAddr rfl Tryz.underlying32 rfl (fun w => Tryz.sizeOf27 w))) rfl rfl rfl ?_ (fun _ => by kernel_rfl)
             rintro _ hz ⟨rfl, _⟩
             subst hz)
  all_goals (refine ⟨fun e => (by cases e), ?_⟩)
  all_goals (refine WH.one 5 (by kernel_rfl) ?_)
  all_goals (refine Comes1.call (vs := [_]) rfl rfl (fun a w => Tryz.call44 a w) rfl (clone_col lc (hrc.ext0 (hX2.trans hy1)) l2) rfl rfl rfl ?_ (fun _ => by kernel_rfl)
             rintro vc2 g2 ⟨oc2, hy2, _⟩
             obtain ⟨Ac2, cc2, rfl, _⟩ := oc2.slice)
  all_goals (refine ⟨fun _ => hy1.trans hy2, ?_⟩)
  all_goals (have hY2 := hy1.trans hy2)
  all_goals (refine WH.one 8 (by kernel_rfl) ?_)
  all_goals (refine Comes1.call (vs := [_]) rfl rfl (fun a w => Tryz.call45 a w) rfl (clone_fld lf (hrf.ext0 (hX2.trans hY2)) l3) rfl rfl rfl ?_ (fun _ => by kernel_rfl)
             rintro vf2 g3 ⟨of3, hy3, _⟩
             obtain ⟨Af2, cf2, rfl, _⟩ := of3.slice)
  all_goals (refine ⟨fun _ => hY2.trans hy3, ?_⟩)
  all_goals (have hY3 := hY2.trans hy3)
  all_goals (refine WH.one 11 (by kernel_rfl) ?_)
  all_goals (refine Comes1.call (vs := [_]) rfl rfl (fun a w => Tryz.call46 a w) rfl (clone_cel lr (hrr.ext0 (hX2.trans hY3)) hcel l4) rfl rfl rfl ?_ (fun _ => by kernel_rfl)
             rintro vr2 g4 ⟨or4, hy4, hf4⟩
             obtain ⟨Ar2, cr2, rfl, _⟩ := or4.slice)
  all_goals (refine ⟨fun _ => hY3.trans hy4, ?_⟩)
  all_goals (have hY4 := hY3.trans hy4)
  all_goals (refine WH.one 13 (by kernel_rfl) ?_)
  all_goals (refine Comes1.run0 rfl (okE_store (fun w => Tryz.sizeOf27 w) rfl rfl (hY4.obj hb12 nos) (Nat.le_of_ble_eq_true rfl) rfl rfl) rfl rfl ?_ (fun _ => by kernel_rfl)
             rintro _ h13 ⟨hb13, hx13⟩)
  all_goals (refine ⟨fun e => (by cases e), ?_⟩)
  all_goals (refine WH.one 14 (by kernel_rfl) ?_)
  all_goals (refine Comes1.run rfl (OkP.r (ok_fieldAddr rfl Tryz.underlying32 rfl (fun w => Tryz.sizeOf28 w))) rfl rfl rfl ?_ (fun _ => by kernel_rfl)
             rintro _ hz ⟨rfl, _⟩
             subst hz)
  all_goals (refine ⟨fun e => (by cases e), ?_⟩)
  all_goals (refine WH.one 15 (by kernel_rfl) ?_)
  all_goals (refine Comes1.run0 rfl (okE_store (fun w => Tryz.sizeOf28 w) rfl rfl hb13 (Nat.le_of_ble_eq_true rfl) rfl rfl) rfl rfl ?_ (fun _ => by kernel_rfl)
             rintro _ h15 ⟨hb15, hx15⟩)
  all_goals (refine ⟨fun e => (by cases e), ?_⟩)
  all_goals (refine WH.one 16 (by kernel_rfl) ?_)
  all_goals (refine Comes1.run rfl (OkP.r (ok_fieldAddr rfl Tryz.underlying32 rfl (fun w => Tryz.sizeOf30 w))) rfl rfl rfl ?_ (fun _ => by kernel_rfl)
             rintro _ hz ⟨rfl, _⟩
             subst hz)
  all_goals (refine ⟨fun e => (by cases e), ?_⟩)
  all_goals (refine WH.one 17 (by kernel_rfl) ?_)
  all_goals (refine Comes1.run0 rfl (okE_store (fun w => Tryz.sizeOf30 w) rfl rfl hb15 (Nat.le_of_ble_eq_true rfl) rfl rfl) rfl rfl ?_ (fun _ => by kernel_rfl)
             rintro _ h17 ⟨hb17, hx17⟩)
  all_goals (refine ⟨fun e => (by cases e), ?_⟩)
  all_goals (refine WH.one 18 (by kernel_rfl) ?_)
  all_goals (refine Comes1.run rfl (OkP.r (ok_fieldAddr rfl Tryz.underlying32 rfl (fun w => Tryz.sizeOf29 w))) rfl rfl rfl ?_ (fun _ => by kernel_rfl)
             rintro _ hz ⟨rfl, _⟩
             subst hz)
  all_goals (refine ⟨fun e => (by cases e), ?_⟩)
  all_goals (refine WH.one 19 (by kernel_rfl) ?_)
  all_goals (refine Comes1.run0 rfl (okE_store (fun w => Tryz.sizeOf29 w) rfl rfl hb17 (Nat.le_of_ble_eq_true rfl) rfl rfl) rfl rfl ?_ (fun _ => by kernel_rfl)
             rintro _ h19 ⟨hb19, hx19⟩)
  all_goals (refine ⟨fun e => (by cases e), ?_⟩)
  all_goals (have hZ : Ext (fun q => q = b1) g4 h19 := ((hx13.trans hx15).trans hx17).trans hx19
             have hB := hY4.obj hb12 nos
             have off : ∀ {T : TypeId} {sz m : Nat} {w : Value} {xs : List Value}, T ≠ 32 → Own g4 w T sz m xs → Own h19 w T sz m xs := fun {T} {sz} {m} {w} {xs} hT hO => hO.ext hZ (fun q hq e => by obtain ⟨_, z⟩ := own_kind hO hq; rw [e, hB] at z; simp only [Option.some.injEq, Obj.cells.injEq] at z; exact hT z.2.1.symm)
             have oo := off (by decide) (((oo1.ext hy2 (fun _ _ => nos)).ext hy3 (fun _ _ => nos)).ext hy4 (fun _ _ => nos))
             have oc := off (by decide) ((oc2.ext hy3 (fun _ _ => nos)).ext hy4 (fun _ _ => nos))
             have of' := off (by decide) (of3.ext hy4 (fun _ _ => nos))
             have or' := off (by decide) or4
             have hX19 : Ext No h h19 := (hX2.trans hY4).trans' hZ (fun q hq e => by omega)
             have hb219 := hZ.obj (hY4.obj hb2 nos) (fun e => by omega)
             clear hb13 hb15 hb17)
  all_goals (refine WH.done (by kernel_rfl) ?_)
  skip))
  all_goals (refine Gn ?_)
  all_goals (refine WC.sub [(1, _), (2, _)] ⟨rfl, rfl, trivial⟩ ?_)
  all_goals (refine WC.seq ?_)
  all_goals (refine WC.sr ?_)
  all_goals (refine Go ?_)
  all_goals (refine WL.step (ok_load (fun w => Tryz.isAgg29 w) rfl (by first | exact cell_blk hb19 rfl | assumption | exact cell_blk (by assumption) rfl)) rfl rfl rfl ?_)
  all_goals (refine Go ?_)
  all_goals (refine WC.block ?_)
  -- loop 0: slots that turn [23], that stay [1, 2, 22]
  all_goals (refine WC.loopG (X := Nat × List Cel) (fun x => ([(23, In (x.1 : Int))] : Fr)) [(1, _), (2, _), (22, _)] (fun x h' => x.1 ≤ lr.length ∧ x.2.length = lr.length ∧ x.2.map Cel.pl = lr.map Cel.pl ∧ Own h' (.slice Ar2 lr.length cr2) 50 2 lr.length (x.2.flatMap Cel.cells) ∧ (∀ i c, x.2[i]? = some c → (x.1 ≤ i ∧ c.ok h) ∨ (Own h' c.v 5 1 c.bytes.length (bys c.bytes) ∧ c.bytes.length ≤ reachBytes)) ∧ Ext (fun q => (Value.slice Ar2 lr.length cr2).ownBlock = some q) h19 h') (fun x => lr.length - x.1) ((0, lr)) ⟨rfl, rfl, rfl, rfl, trivial⟩ (by exact ⟨Nat.zero_le _, rfl, rfl, or', fun i c hc => .inl ⟨Nat.zero_le _, hrw.2.2 c (List.mem_of_getElem? hc)⟩, .refl _ _⟩) ?_)
  all_goals (rintro ⟨j, R⟩ h20 ⟨hj, hRl, hRp, hO, hRo, hx20⟩
             dsimp only at hj hRl hRp hO hRo)
  all_goals (refine WC.sub [(23, _), (1, _), (2, _), (22, _)] ⟨rfl, rfl, rfl, rfl, trivial⟩ ?_)
  all_goals (dsimp only)
  all_goals (refine WC.sr ?_)
  all_goals (refine Go ?_)
  all_goals (refine WC.seq ?_)
  all_goals (refine goC 1 2 ?_ ?_ <;> first | exact ⟨⟩ | refine Hb.mk fun hb => ?_ | skip)
  all_goals (first | (fail_if_success refine goB 1 ?_) | (
  refine goB 1 ?_
  all_goals (refine WC.skip ?_)
  skip))
  all_goals (first | (fail_if_success refine goB 2 ?_) | (
  refine goB 2 ?_
  all_goals (refine WC.exit ?_)
  all_goals (repeat' (with_reducible first | refine thenP_x ?_ | refine blockP_miss rfl ?_ | refine blockP_hit ?_ | refine blockP_n ?_ | refine thenP_n ?_))
  all_goals (refine Br.out (i := 1000) ?_)
  skip))
  all_goals (refine Gn ?_)
  all_goals (first | (refine Br.keep ?_) | (refine WC.seq ?_))
  all_goals (first | (refine Br.keep ?_) | (refine WC.block ?_))
  all_goals (first | (refine Br.keep ?_) | (refine WC.sr ?_))
  all_goals (refine Go ?_)
  all_goals (first
               | (refine Br.keep ?_)
               | (have hX20 : Ext No h h20 := hX19.trans' hx20 (fun q hq e => by have := hf4 q e; have := hY3.size; have := hX2.size; omega)
                  obtain ⟨c, hcj⟩ : ∃ c, R[j]? = some c := ⟨_, List.getElem?_eq_getElem (by omega)⟩
                  have hcm := List.mem_of_getElem? hcj
                  obtain ⟨cn, cv, cb⟩ := c
                  have hcr : Rd h20 cv 1 cb.length (bys cb) ∧ cb.length ≤ reachBytes := (hRo j _ hcj).elim (fun z => ⟨z.2.1.ext0 hX20, z.2.2⟩) (fun z => ⟨z.1.rd, z.2⟩)
                  have hcr1 := hcr.1
                  have hcr2 := hcr.2
                  unfold reachBytes at hcr2
                  obtain ⟨Ab, cbc, rfl, _⟩ := id hcr1
                  have hO2 := hO
                  rw [← hRl] at hO2
                  obtain ⟨g, gs, hAr, hg, hgl, hset⟩ := row_set Cel.len hO2 hcj
                  obtain ⟨bL, oL, hA, hbL, hat⟩ := Rd.at_ hO.rd (by omega)
                  have hcd : At h20 bL (oL + j * 2) [.bool cn, .slice Ab cb.length cbc] := At.elem Cel.len hat hcj
                  have hneB : (Value.slice Ar2 lr.length cr2).ownBlock ≠ some b1 := fun e => by obtain ⟨_, z⟩ := own_kind or' e; rw [hb19] at z; simp at z
                  have hb120 := hx20.obj hb19 hneB))
  all_goals (first | (refine Br.keep ?_) | (refine WC.drawH (fun h' => Ext No h20 h') 10 13 rfl fol ?_))
  all_goals (first | (refine Br.keep ?_) | (refine WH.tk 0 rfl (fun hq hC => ok_fieldAddr rfl Tryz.underlying32 rfl (fun w => Tryz.sizeOf29 w)) rfl rfl rfl ?_))
  all_goals (first | (refine Br.keep ?_) | (refine WH.tk 1 rfl (fun hq hC => ok_load (fun w => Tryz.isAgg29 w) rfl (by first | exact hC.cell (by first | exact cell_blk hb120 rfl | assumption | exact cell_blk (by assumption) rfl) nos)) rfl rfl rfl ?_))
  all_goals (first | (refine Br.keep ?_) | (refine WH.tk 2 rfl (fun hq hC => ok_move rfl) rfl rfl rfl ?_))
  all_goals (first | (refine Br.keep ?_) | (refine WH.tk 3 rfl (fun hq hC => ok_fieldAddr rfl Tryz.underlying32 rfl (fun w => Tryz.sizeOf29 w)) rfl rfl rfl ?_))
  all_goals (first | (refine Br.keep ?_) | (refine WH.tk 4 rfl (fun hq hC => ok_load (fun w => Tryz.isAgg29 w) rfl (by first | exact hC.cell (by first | exact cell_blk hb120 rfl | assumption | exact cell_blk (by assumption) rfl) nos)) rfl rfl rfl ?_))
  all_goals (first | (refine Br.keep ?_) | (refine WH.tk 5 rfl (fun hq hC => ok_move rfl) rfl rfl rfl ?_))
  all_goals (first | (refine Br.keep ?_) | (refine WH.tk 6 rfl (fun hq hC => ok_idxAddrA Tryz.underlying29 (fun w => Tryz.sizeOf50 w) rfl rfl rfl (by omega) (by first | rfl | assumption)) rfl rfl rfl ?_))
  all_goals (first | (refine Br.keep ?_) | (refine WH.tk 7 rfl (fun hq hC => ok_fieldAddr rfl Tryz.underlying50 rfl (fun w => Tryz.sizeOf24 w)) rfl rfl rfl ?_))
  all_goals (first | (refine Br.keep ?_) | (refine WH.tk 8 rfl (fun hq hC => ok_load (fun w => Tryz.isAgg24 w) rfl (by first | exact hC.cell (by first | exact hcd.get 1 rfl rfl | assumption | exact cell_blk (by assumption) rfl) nos)) rfl rfl rfl ?_))
  all_goals (first | (refine Br.keep ?_) | (refine WH.one 9 (by kernel_rfl) ?_))
  all_goals (first
               | (refine Br.keep ?_)
               | (refine Comes1.call (vs := [_]) rfl rfl (fun a w => Tryz.call47 a w) rfl (clone_byt cb hcr1 (by omega)) rfl rfl rfl ?_ (fun _ => by kernel_rfl)
                  rintro vb g21 ⟨ob, hx21, hfb⟩
                  obtain ⟨Ab2, cb2, rfl, _⟩ := ob.slice))
  all_goals (first | (refine Br.keep ?_) | (refine ⟨fun _ => hx21, ?_⟩))
  all_goals (first
               | (refine Br.keep ?_)
               | (subst hAr
                  cases hA))
  all_goals (first | (refine Br.keep ?_) | (refine WH.one 10 (by kernel_rfl) ?_))
  all_goals (first
               | (refine Br.keep ?_)
               | (refine Comes1.run rfl (OkP.r (ok_idxAddrA Tryz.underlying29 (fun w => Tryz.sizeOf50 w) rfl rfl rfl (by omega) (by first | rfl | assumption))) rfl rfl rfl ?_ (fun _ => by kernel_rfl)
                  rintro _ hz ⟨rfl, _⟩
                  subst hz))
  all_goals (first | (refine Br.keep ?_) | (refine ⟨fun e => (by cases e), ?_⟩))
  all_goals (first | (refine Br.keep ?_) | (refine WH.one 11 (by kernel_rfl) ?_))
  all_goals (first
               | (refine Br.keep ?_)
               | (refine Comes1.run rfl (OkP.r (ok_fieldAddr rfl Tryz.underlying50 rfl (fun w => Tryz.sizeOf24 w))) rfl rfl rfl ?_ (fun _ => by kernel_rfl)
                  rintro _ hz ⟨rfl, _⟩
                  subst hz))
  all_goals (first | (refine Br.keep ?_) | (refine ⟨fun e => (by cases e), ?_⟩))
  all_goals (first | (refine Br.keep ?_) | (refine WH.one 12 (by kernel_rfl) ?_))
  all_goals (first
               | (refine Br.keep ?_)
               | (refine Comes1.run0 rfl (okE_store (fun w => Tryz.sizeOf24 w) rfl rfl (hx21.obj hg nos) (by show 0 + j * 2 + 1 < gs.length; omega) rfl rfl) rfl rfl ?_ (fun _ => by kernel_rfl)
                  rintro _ h22 ⟨hb22, hx22⟩))
  all_goals (first | (refine Br.keep ?_) | (refine ⟨fun e => (by cases e), ?_⟩))
  all_goals (first
               | (refine Br.keep ?_)
               | (have hO22 := hset (j := 1) (q' := ⟨cn, .slice Ab2 cb.length cb2, cb⟩) (by decide) rfl (by simpa using hb22)
                  rw [hRl] at hO22
                  have hNew : ∀ i c, (R.set j (⟨cn, .slice Ab2 cb.length cb2, cb⟩ : Cel))[i]? = some c → (j + 1 ≤ i ∧ c.ok h) ∨ (Own h22 c.v 5 1 c.bytes.length (bys c.bytes) ∧ c.bytes.length ≤ reachBytes) := fun i c hc => by
                   rw [List.getElem?_set] at hc
                   by_cases hij : j = i
                   · rw [if_pos hij, if_pos (by omega)] at hc
                     obtain rfl := Option.some.inj hc
                     exact .inr ⟨ob.ext hx22 (fun q hq e => by obtain ⟨_, w⟩ := own_kind ob hq; rw [e, hx21.obj hg nos] at w; simp at w), hcr.2⟩
                   · rw [if_neg hij] at hc
                     refine (hRo i c hc).imp (fun z => ⟨by have := z.1; omega, z.2⟩) (fun z => ⟨(z.1.ext hx21 (fun _ _ => nos)).ext hx22 (fun q hq e => ?_), z.2⟩)
                     obtain ⟨_, w⟩ := own_kind (z.1.ext hx21 (fun _ _ => nos)) hq
                     rw [e, hx21.obj hg nos] at w
                     simp at w))
  all_goals (first | (refine Br.keep ?_) | (refine WH.done (by kernel_rfl) ?_))
  all_goals (refine Gn ?_)
  all_goals (first | (refine Br.keep ?_) | (refine WC.sub [(1, _), (2, _), (22, _), (23, _)] ⟨rfl, rfl, rfl, rfl, trivial⟩ ?_))
  all_goals (first | (refine Br.keep ?_) | (refine WC.region ?_))
  all_goals (refine Go ?_)
  all_goals (first | (refine Br.keep ?_) | (exact ⟨(j + 1, _), ⟨rfl, rfl, rfl, rfl, trivial⟩, (by exact ⟨by omega, by simp [hRl], by rw [← hRp, List.map_set, show Cel.pl ⟨cn, .slice Ab2 cb.length cb2, cb⟩ = Cel.pl ⟨cn, .slice Ab cb.length cbc, cb⟩ from rfl, ← List.map_set, set_same hcj], hO22, hNew, (hx20.trans' hx21 (fun q hq e => e.elim)).trans' hx22 (fun q hq e => by rw [e]; rfl)⟩), (by simp; omega)⟩))
  all_goals (try (refine Br.mk (i := 1000) ?_))
  all_goals (refine Gn ?_)
  all_goals (refine WC.sr ?_)
  all_goals (have hneB : (Value.slice Ar2 lr.length cr2).ownBlock ≠ some b1 := fun e => by obtain ⟨_, z⟩ := own_kind or' e; rw [hb19] at z; simp at z
             have hneC : (Value.slice Ar2 lr.length cr2).ownBlock ≠ some b2 := fun e => by obtain ⟨_, z⟩ := own_kind or' e; rw [hb219] at z; simp at z
             have hb120 := hx20.obj hb19 hneB
             have hb220 := hx20.obj hb219 hneC)
  all_goals (refine WL.step (ok_loadN (fun w => Tryz.isAgg32 w) (fun w => Tryz.sizeOf32 w) rfl rfl (by exact At.of_block hb120)) rfl rfl rfl ?_)
  all_goals (refine WL.stepR0 (okE_storeW (fun w => Tryz.sizeOf32 w) rfl rfl rfl hb220 rfl (by simp [Value.oneCell'])) rfl rfl ?_
             rintro _ h23 ⟨hb23, hx23⟩)
  all_goals (refine Gn ?_)
  all_goals (refine WC.sub [(2, _)] ⟨rfl, trivial⟩ ?_)
  all_goals (refine WC.ret ?_)
  all_goals (repeat' (with_reducible first | refine thenP_r ?_ | refine blockP_r ?_))
  all_goals (refine retP_1 _ ⟨⟨_, rfl, ld_blk (fun w => Tryz.isAgg32 w) (fun w => Tryz.sizeOf32 w) hb23 rfl⟩, trivial⟩ ?_)
  all_goals (have off2 : ∀ {T : TypeId} {sz m : Nat} {w : Value} {xs : List Value}, T ≠ 32 → T ≠ 50 → Own h19 w T sz m xs → Own h23 w T sz m xs := fun {T} {sz} {m} {w} {xs} hT hT2 hW => by
              have hW2 := hW.ext hx20 (fun q hq e => by obtain ⟨_, z⟩ := own_kind hW hq; obtain ⟨_, z2⟩ := own_kind or' e; rw [z] at z2; simp only [Option.some.injEq, Obj.cells.injEq] at z2; exact hT2 z2.2.1)
              exact hW2.ext hx23 (fun q hq e => by obtain ⟨_, z⟩ := own_kind hW2 hq; rw [e, hb220] at z; simp only [Option.some.injEq, Obj.cells.injEq] at z; exact hT z.2.1.symm)
             have hX23 : Ext No h h23 := (hX19.trans' hx20 (fun q hq e => by have := hf4 q e; have := hY3.size; have := hX2.size; omega)).trans' hx23 (fun q hq e => by have := hx1.size; omega)
             have hO23 := hO.ext hx23 (fun q hq e => by obtain ⟨_, z⟩ := own_kind hO hq; rw [e, hb220] at z; simp at z)
             obtain ⟨_, _, ecap, hcap⟩ := hO23.cap
             simp only [Value.slice.injEq] at ecap
             have hrowL : ∀ (S : Nat → Prop) (h24 : Heap), Ext S h23 h24 → (∀ q, S q → ∃ c, h23[q]? = some (.cells c 32 (0, 0))) → ∀ c ∈ R, c.ok h24 := fun S h24 hx24 hs24 c hc => by
              obtain ⟨i, hi⟩ := List.mem_iff_getElem?.1 hc
              have hil := (List.getElem?_eq_some_iff.1 hi).1
              exact (hRo i c hi).elim (fun z => by have := z.1; omega) (fun z => ⟨(own_last (by decide) (z.1.ext hx23 (fun q hq e => by obtain ⟨_, w⟩ := own_kind z.1 hq; rw [e, hb220] at w; simp at w)) hx24 hs24).rd, z.2⟩)
             refine ⟨⟨k, st, t, n, v, x, y, _, lo, _, lc, .slice Ar2 lr.length cr2, R, _, lf⟩, rfl, fun S h24 hx24 hs24 => ⟨⟨(own_last (by decide) (off2 (by decide) (by decide) oo) hx24 hs24).rd, ho.2⟩, ⟨(own_last (by decide) (off2 (by decide) (by decide) oc) hx24 hs24).rd, hc.2⟩, ⟨by rw [hRl]; exact (own_last (by decide) hO23 hx24 hs24).rd, ⟨by rw [hRl]; exact hrw.2.1.1, Ar2, cr2, by rw [hRl], by rw [ecap.2.2]; exact hcap⟩, hrowL S h24 hx24 hs24⟩, ⟨(own_last (by decide) (off2 (by decide) (by decide) of') hx24 hs24).rd, hf.2⟩⟩, ?_, hX23⟩
             simp only [Bk.pl, hRp])
end Go.Proofs.YtbahigffjclpdaaGreatDoor


/-
  FIX (layer 25): fix.Back of any reply.
-/
namespace Go.Proofs.YtbahigffjclpdaaGreatDoor
open Go Go.RK

/-- Fields of a fault with one name in the place of another one. -/
def renF (f t : List UInt8) (F : List FieldD) : List FieldD :=
  match getT 67 F, getT 77 F with
  | some c, some x => withF 77 (renL c x f t) F
  | _, _ => F
/-- Fields as a client gets them. -/
def fixF (k : Int) (f t : List UInt8) (F : List FieldD) : List FieldD := if k = 69 ∧ f ≠ t then renF f t F else F
theorem renF_len (f t : List UInt8) (F : List FieldD) : (renF f t F).length = F.length := by
  unfold renF
  split
  · exact withF_len _ _ _
  · rfl
theorem fixF_len (k : Int) (f t : List UInt8) (F : List FieldD) : (fixF k f t F).length = F.length := by
  unfold fixF
  split
  · exact renF_len _ _ _
  · rfl
set_option maxHeartbeats 4000000 in
set_option maxRecDepth 100000 in
theorem renamed_v {h : Heap} (b : Bk) (hb : b.lasts h) (ek : Int) (hd : Bool) (f t : List UInt8) (A1 A2 A3 A4 : Option Addr) (n1 n2 n3 n4 c1 c2 c3 c4 : Nat) (l3 : b.fields.length ≤ 1000000) (hM : Ml h) (hxl : ∀ x, getT 77 b.fields = some x → x.length ≤ 100000) (hfl : f.length ≤ 10000) (htl : t.length ≤ 10000) :
    CallsH Tryz.prog 30 ⟨[.agg ⟨[In ek, .bool hd, St f, St t, .slice A1 n1 c1, .slice A2 n2 c2, .slice A3 n3 c3, .slice A4 n4 c4]⟩, .agg ⟨b.cells⟩]⟩ h fun u h' => ∃ b' : Bk, u = .agg ⟨b'.cells⟩ ∧ b'.lasts h' ∧ b'.pl = { b with fields := renF f t b.fields }.pl ∧ Ext No h h' := by
  have hok := hb.ok
  have kg := fun h' (hx : Ext No h h') (cc : Int) => get_v b.fields cc (hok.4.1.ext0 hx) (show b.fields.length ≤ maxLen by unfold maxLen; omega)
  have kw := fun h' (hx : Ext No h h') (y : List UInt8) => with_v b.fields 77 y (hok.4.1.ext0 hx) l3
  have kr := fun h' (hx : Ext No h h') (c x : List UInt8) (e : getT 77 b.fields = some x) => rename_any c x f t (hM.ext0 hx) (hxl x e) hfl htl
  obtain ⟨o1, o2, o3, o4⟩ := hok
  have p1 := o1.1
  have p2 := o2.1
  have p3 := o3.1
  have p4 := o4.1
  obtain ⟨k, st, tg, n, v, x0, y0, vo, lo, vc, lc, vr, lr, vf, lf⟩ := b
  dsimp only at p1 p2 p3 p4 kg kw kr l3 ⊢
  obtain ⟨_, _, rfl, _⟩ := p1
  obtain ⟨_, _, rfl, _⟩ := p2
  obtain ⟨_, _, rfl, _⟩ := p3
  obtain ⟨_, _, rfl, _⟩ := p4
  dsimp only [Bk.cells]
  rcases hc : getT 67 lf with _ | c
  all_goals rcases hx : getT 77 lf with _ | x
  all_goals
    refine calls [(0, _), (1, _)] Tryz.func30 rfl Tryz.ntmps30 rfl ⟨rfl, rfl, trivial⟩ ?_
    all_goals (refine WC.sr ?_)
    all_goals (refine WL.stepR (okE_box rfl) rfl rfl rfl ?_
               rintro _ h1 ⟨b2, rfl, hg2, hb2, hx1⟩)
    all_goals (refine WL.stepR (okE_box rfl) rfl rfl rfl ?_
               rintro _ h2 ⟨b3, rfl, hg3, hb3, hx2⟩)
    all_goals (refine WL.stepR (okE_alloc (fun w => Tryz.zeroValue32 w)) rfl rfl rfl ?_
               rintro _ h3 ⟨b4, rfl, hg4, hb4, hx3⟩)
    all_goals (have hX3 := (hx1.trans hx2).trans hx3
               have hb23 := (hx2.trans hx3).obj hb2 nos
               have hb33 := hx3.obj hb3 nos)
    all_goals (refine Gn ?_)
    all_goals (refine WC.sr ?_)
    all_goals (refine Go ?_)
    all_goals (refine WL.step (ok_load (fun w => Tryz.isAgg30 w) rfl (by first | exact cell_blk hb33 rfl | assumption | exact cell_blk (by assumption) rfl)) rfl rfl rfl ?_)
    all_goals (refine WL.call (vs := [_, _]) rfl (fun a w => Tryz.call23 a w) rfl (kg _ hX3 67) rfl rfl rfl ?_
               rintro _ h4 ⟨rfl, hx4⟩
               rw [hc])
    all_goals (have hb34 := hx4.obj hb33 nos)
    all_goals (refine Go ?_)
    all_goals (refine WC.sub [(2, _), (3, _), (4, _), (5, _), (6, _)] ⟨rfl, rfl, rfl, rfl, rfl, trivial⟩ ?_)
    all_goals (refine WC.sr ?_)
    all_goals (refine Go ?_)
    all_goals (refine WL.step (ok_load (fun w => Tryz.isAgg30 w) rfl (by first | exact cell_blk hb34 rfl | assumption | exact cell_blk (by assumption) rfl)) rfl rfl rfl ?_)
    all_goals (refine WL.call (vs := [_, _]) rfl (fun a w => Tryz.call23 a w) rfl (kg _ (hX3.trans hx4) 77) rfl rfl rfl ?_
               rintro _ h5 ⟨rfl, hx5⟩
               rw [hx])
    all_goals (have hX5 := (hX3.trans hx4).trans hx5
               have hb35 := hx5.obj hb34 nos
               have hb25 := (hx4.trans hx5).obj hb23 nos
               have hb45 := (hx4.trans hx5).obj hb4 nos)
    all_goals (refine Go ?_)
    all_goals (refine WC.sub [(2, _), (3, _), (4, _), (5, _), (6, _), (7, _), (8, _)] ⟨rfl, rfl, rfl, rfl, rfl, rfl, rfl, trivial⟩ ?_)
    all_goals (refine WC.seq ?_)
    all_goals (refine WC.sr ?_)
    all_goals (refine Go ?_)
    all_goals (refine goP 22 ?_ ?_ <;> first | exact ⟨⟩ | refine Hb.mk fun hb => ?_ | skip)
    all_goals (refine Gg ?_)
    all_goals (refine Go ?_)
    all_goals (refine WC.sub [(2, _), (3, _), (4, _), (5, _), (7, _), (24, _)] ⟨rfl, rfl, rfl, rfl, rfl, rfl, trivial⟩ ?_)
    all_goals (refine goC 1 2 ?_ ?_ <;> first | exact ⟨⟩ | refine Hb.mk fun hb => ?_ | skip)
    all_goals (first | (fail_if_success refine goB 1 ?_) | (
    refine goB 1 ?_
    all_goals (refine WC.drawH (fun h' => Ext No h5 h') 10 12 rfl fol ?_)
    all_goals (refine WH.tk 0 rfl (fun hq hC => ok_fieldAddr rfl Tryz.underlying32 rfl (fun w => Tryz.sizeOf30 w)) rfl rfl rfl ?_)
    all_goals (refine WH.tk 1 rfl (fun hq hC => ok_load (fun w => Tryz.isAgg30 w) rfl (by first | exact hC.cell (by first | exact cell_blk hb35 rfl | assumption | exact cell_blk (by assumption) rfl) nos)) rfl rfl rfl ?_)
    all_goals (refine WH.tk 2 rfl (fun hq hC => ok_move rfl) rfl rfl rfl ?_)
    all_goals (refine WH.tk 3 rfl (fun hq hC => ok_move rfl) rfl rfl rfl ?_)
    all_goals (refine WH.tk 4 rfl (fun hq hC => ok_fieldAddr rfl Tryz.underlying26 rfl (fun w => Tryz.sizeOf9 w)) rfl rfl rfl ?_)
    all_goals (refine WH.tk 5 rfl (fun hq hC => ok_load (fun w => Tryz.isAgg9 w) rfl (by first | exact hC.cell (by first | exact cell_blk hb25 rfl | assumption | exact cell_blk (by assumption) rfl) nos)) rfl rfl rfl ?_)
    all_goals (refine WH.tk 6 rfl (fun hq hC => ok_fieldAddr rfl Tryz.underlying26 rfl (fun w => Tryz.sizeOf9 w)) rfl rfl rfl ?_)
    all_goals (refine WH.tk 7 rfl (fun hq hC => ok_load (fun w => Tryz.isAgg9 w) rfl (by first | exact hC.cell (by first | exact cell_blk hb25 rfl | assumption | exact cell_blk (by assumption) rfl) nos)) rfl rfl rfl ?_)
    all_goals (refine WH.one 8 (by kernel_rfl) ?_)
    all_goals (refine Comes1.call (vs := [_, _, _, _]) rfl rfl (fun a w => Tryz.call49 a w) rfl (kr _ hX5 _ _ hx) rfl rfl rfl ?_ (fun _ => by kernel_rfl)
               rintro _ h6 ⟨rfl, hx6⟩)
    all_goals (refine ⟨fun _ => hx6, ?_⟩)
    all_goals (refine WH.one 9 (by kernel_rfl) ?_)
    all_goals (refine Comes1.call (vs := [_, _, _]) rfl rfl (fun a w => Tryz.call48 a w) rfl (kw _ (hX5.trans hx6) _) rfl rfl rfl ?_ (fun _ => by kernel_rfl)
               rintro v7 h7 ⟨ho7, hx7, hf7⟩
               obtain ⟨A7, c7, rfl, _⟩ := ho7.slice)
    all_goals (refine ⟨fun _ => hx6.trans hx7, ?_⟩)
    all_goals (have hX7 := hx6.trans hx7)
    all_goals (refine WH.one 10 (by kernel_rfl) ?_)
    all_goals (refine Comes1.run rfl (OkP.r (ok_fieldAddr rfl Tryz.underlying32 rfl (fun w => Tryz.sizeOf30 w))) rfl rfl rfl ?_ (fun _ => by kernel_rfl)
               rintro _ hz ⟨rfl, _⟩
               subst hz)
    all_goals (refine ⟨fun e => (by cases e), ?_⟩)
    all_goals (refine WH.one 11 (by kernel_rfl) ?_)
    all_goals (refine Comes1.run0 rfl (okE_store (fun w => Tryz.sizeOf30 w) rfl rfl (hX7.obj hb35 nos) (Nat.le_of_ble_eq_true rfl) rfl rfl) rfl rfl ?_ (fun _ => by kernel_rfl)
               rintro _ h8 ⟨hb8, hx8⟩)
    all_goals (refine ⟨fun e => (by cases e), ?_⟩)
    all_goals (have hb48 := hx8.obj (hX7.obj hb45 nos) (fun e => by have := lt_of_some hb3; omega))
    all_goals (refine WH.done (by kernel_rfl) ?_)
    skip))
    all_goals (first | (fail_if_success refine goB 2 ?_) | (
    refine goB 2 ?_
    all_goals (refine WC.skip ?_)
    skip))
    all_goals (refine Gn ?_)
    all_goals (refine WC.sub [(3, _), (4, _)] ⟨rfl, rfl, trivial⟩ ?_)
    all_goals (refine WC.sr ?_)
    all_goals (refine WL.step (ok_loadN (fun w => Tryz.isAgg32 w) (fun w => Tryz.sizeOf32 w) rfl rfl (by exact (by first | exact At.of_block hb8 | exact At.of_block hb35))) rfl rfl rfl ?_)
    all_goals (refine WL.stepR0 (okE_storeW (fun w => Tryz.sizeOf32 w) rfl rfl rfl (by first | exact hb48 | exact hb45) rfl (by simp [Value.oneCell'])) rfl rfl ?_
               rintro _ h9 ⟨hb9, hx9⟩)
    all_goals (refine Gn ?_)
    all_goals (refine WC.ret ?_)
    all_goals (repeat' (with_reducible first | refine thenP_r ?_ | refine blockP_r ?_))
    all_goals (refine retP_1 _ ⟨⟨_, rfl, ld_blk (fun w => Tryz.isAgg32 w) (fun w => Tryz.sizeOf32 w) hb9 rfl⟩, trivial⟩ ?_)
    all_goals (first
                | (have hX8 : Ext No h h8 := (hX5.trans hX7).trans' hx8 (fun q hq e => by have := hx1.size; omega)
                   have ho8 := ho7.ext hx8 (fun q hq e => by obtain ⟨_, z⟩ := own_kind ho7 hq; rw [e, hX7.obj hb35 nos] at z; simp at z)
                   have ho9 := ho8.ext hx9 (fun q hq e => by obtain ⟨_, z⟩ := own_kind ho8 hq; rw [e, hb48] at z; simp at z)
                   have hX9 : Ext No h h9 := hX8.trans' hx9 (fun q hq e => by have := hx1.size; have := hx2.size; omega)
                   have hl9 := hb.ext0 hX9
                   refine ⟨⟨k, st, tg, n, v, x0, y0, _, lo, _, lc, _, lr, .slice A7 lf.length c7, withF 77 (renL c x f t) lf⟩, rfl, fun S h'' xS hS => ⟨(hl9 S h'' xS hS).1, (hl9 S h'' xS hS).2, (hl9 S h'' xS hS).3, ⟨by rw [withF_len]; exact (own_last (by decide) ho9 xS hS).rd, by rw [withF_len]; exact o4.2⟩⟩, ?_, hX9⟩
                   simp only [Bk.pl, renF, hc, hx])
                | (have hX9 : Ext No h h9 := hX5.trans' hx9 (fun q hq e => by have := hx1.size; have := hx2.size; omega)
                   refine ⟨⟨k, st, tg, n, v, x0, y0, _, lo, _, lc, _, lr, _, lf⟩, rfl, hb.ext0 hX9, ?_, hX9⟩
                   simp only [Bk.pl, renF, hc, hx]))
theorem getT_of {b b' : Bk} (e : b'.pl = b.pl) : b'.fields = b.fields := by
  simp only [Bk.pl, Prod.mk.injEq] at e
  exact e.2.2.2.2.2.2.2.2.2.2
set_option maxHeartbeats 4000000 in
set_option maxRecDepth 100000 in
theorem back_v {h : Heap} (b : Bk) (hb : b.ok h) (l1 : b.oids.length ≤ 1000000) (l2 : b.cols.length ≤ 1000000) (l3 : b.fields.length ≤ 1000000) (l4 : b.row.length ≤ 1000000) (ek : Int) (hd : Bool) (f t : List UInt8) (A1 A2 A3 A4 : Option Addr) (n1 n2 n3 n4 c1 c2 c3 c4 : Nat) (hM : Ml h) (hxl : ∀ x, getT 77 b.fields = some x → x.length ≤ 100000) (hfl : f.length ≤ 10000) (htl : t.length ≤ 10000) :
    CallsH Tryz.prog 8 ⟨[.agg ⟨[In ek, .bool hd, St f, St t, .slice A1 n1 c1, .slice A2 n2 c2, .slice A3 n3 c3, .slice A4 n4 c4]⟩, .agg ⟨b.cells⟩]⟩ h fun u h' => ∃ b' : Bk, u = .agg ⟨b'.cells⟩ ∧ b'.lasts h' ∧ b'.pl = { b with fields := fixF b.kind f t b.fields }.pl ∧ Ext No h h' := by
  have kc := fun h' (hx : Ext No h h') => copied_v b (hb.ext0 hx) l1 l2 l3 l4
  have kn := fun h' (hx : Ext No h h') (b' : Bk) (hb' : b'.lasts h') (e : b'.pl = b.pl) => renamed_v b' hb' ek hd f t A1 A2 A3 A4 n1 n2 n3 n4 c1 c2 c3 c4 (by rw [getT_of e]; exact l3) (hM.ext0 hx) (by rw [getT_of e]; exact hxl) hfl htl
  obtain ⟨k, st, tg, n, v, x, y, vo, lo, vc, lc, vr, lr, vf, lf⟩ := b
  dsimp only [Bk.cells] at kc kn ⊢
  by_cases hs : k = 69 ∧ f ≠ t
  · have hft := hs.2
    have hk := hs.1
    refine calls [(0, _), (1, _)] Tryz.func8 rfl Tryz.ntmps8 rfl ⟨rfl, rfl, trivial⟩ ?_
    all_goals (refine WC.sr ?_)
    all_goals (refine WL.stepR (okE_box rfl) rfl rfl rfl ?_
               rintro _ g1 ⟨b2, rfl, hg2, hb2, hx1⟩)
    all_goals (refine WL.stepR (okE_box rfl) rfl rfl rfl ?_
               rintro _ g2 ⟨b3, rfl, hg3, hb3, hx2⟩)
    all_goals (refine WL.stepR (okE_alloc (fun w => Tryz.zeroValue32 w)) rfl rfl rfl ?_
               rintro _ g3 ⟨b4, rfl, hg4, hb4, hx3⟩)
    all_goals (have hX3 := (hx1.trans hx2).trans hx3
               have hb23 := (hx2.trans hx3).obj hb2 nos
               have hb33 := hx3.obj hb3 nos)
    all_goals (refine Gn ?_)
    all_goals (refine WC.sr ?_)
    all_goals (refine WL.step (ok_loadN (fun w => Tryz.isAgg32 w) (fun w => Tryz.sizeOf32 w) rfl rfl (by exact At.of_block hb33)) rfl rfl rfl ?_)
    all_goals (refine WL.call (vs := [_]) rfl (fun a w => Tryz.call29 a w) rfl (kc _ hX3) rfl rfl rfl ?_
               rintro _ g4 ⟨bb, rfl, hok, hpl, hx4⟩
               have kn2 := fun h' (hx : Ext No h h') (hb' : bb.lasts h') => kn h' hx bb hb' hpl
               obtain ⟨o1, o2, o3, o4⟩ := hok.ok
               obtain ⟨k', st', tg', n', v', x', y', vo', lo', vc', lc', vr', lr', vf', lf'⟩ := bb
               dsimp only at o1 o2 o3 o4
               have q1 := o1.1
               have q2 := o2.1
               have q3 := o3.1
               have q4 := o4.1
               obtain ⟨_, _, rfl, _⟩ := q1
               obtain ⟨_, _, rfl, _⟩ := q2
               obtain ⟨_, _, rfl, _⟩ := q3
               obtain ⟨_, _, rfl, _⟩ := q4
               have hkk : k' = k := by have := congrArg Prod.fst hpl; exact this
               subst hkk
               dsimp only [Bk.cells] at kn2 ⊢)
    all_goals (refine WL.stepR0 (okE_storeW (fun w => Tryz.sizeOf32 w) rfl rfl rfl (hx4.obj hb33 nos) rfl (by simp [Value.oneCell'])) rfl rfl ?_
               rintro _ g5 ⟨hb5, hx5⟩)
    all_goals (have hb45 := hx5.obj (hx4.obj hb4 nos) (fun e => by have := lt_of_some hb3; omega)
               have hb25 := hx5.obj (hx4.obj hb23 nos) (fun e => by have := lt_of_some hb2; omega)
               have hl5 := hok.at (hx4.obj hb33 nos) hx5
               have hX5 : Ext No h g5 := (hX3.trans hx4).trans' hx5 (fun q hq e => by have := hx1.size; omega))
    all_goals (refine Gn ?_)
    all_goals (refine WC.sub [(2, _), (3, _), (4, _)] ⟨rfl, rfl, rfl, trivial⟩ ?_)
    all_goals (refine WC.seq ?_)
    all_goals (refine WC.sr ?_)
    all_goals (refine Go ?_)
    all_goals (refine WL.step (ok_load (fun w => Tryz.isAgg5 w) rfl (by first | exact cell_blk hb5 rfl | assumption | exact cell_blk (by assumption) rfl)) rfl rfl rfl ?_)
    all_goals (refine Go ?_)
    all_goals (refine goP 10 ?_ ?_ <;> first | exact ⟨⟩ | refine Hb.mk fun hb => ?_ | skip)
    all_goals (refine Gg ?_)
    all_goals (first | (refine WL.pass rfl rfl rfl ?_) | (refine WL.step (ok_load (fun w => Tryz.isAgg9 w) rfl (by first | exact cell_blk hb25 rfl | assumption | exact cell_blk (by assumption) rfl)) rfl rfl rfl ?_))
    all_goals (refine Gg ?_)
    all_goals (first | (refine WL.pass rfl rfl rfl ?_) | (refine WL.step (ok_load (fun w => Tryz.isAgg9 w) rfl (by first | exact cell_blk hb25 rfl | assumption | exact cell_blk (by assumption) rfl)) rfl rfl rfl ?_))
    all_goals (refine Gg ?_)
    all_goals (refine Go ?_)
    all_goals (refine WC.sub [(2, _), (3, _), (4, _), (16, _)] ⟨rfl, rfl, rfl, rfl, trivial⟩ ?_)
    all_goals (refine goC 1 2 ?_ ?_ <;> first | exact ⟨⟩ | refine Hb.mk fun hb => ?_ | skip)
    all_goals (first | (fail_if_success refine goB 1 ?_) | (
    refine goB 1 ?_
    all_goals (refine WC.sr ?_)
    all_goals (refine WL.step (ok_loadN (fun w => Tryz.isAgg26 w) (fun w => Tryz.sizeOf26 w) rfl rfl (by exact At.of_block hb25)) rfl rfl rfl ?_)
    all_goals (refine WL.step (ok_loadN (fun w => Tryz.isAgg32 w) (fun w => Tryz.sizeOf32 w) rfl rfl (by exact At.of_block hb5)) rfl rfl rfl ?_)
    all_goals (refine WL.call (vs := [_, _]) rfl (fun a w => Tryz.call30 a w) rfl (kn2 _ hX5 hl5) rfl rfl rfl ?_
               rintro _ g6 ⟨bc, rfl, hok6, hpl6, hx6⟩
               obtain ⟨s1, s2, s3, s4⟩ := hok6.ok
               obtain ⟨k6, st6, tg6, n6, v6, x6, y6, vo6, lo6, vc6, lc6, vr6, lr6, vf6, lf6⟩ := bc
               dsimp only at s1 s2 s3 s4
               have t1 := s1.1
               have t2 := s2.1
               have t3 := s3.1
               have t4 := s4.1
               obtain ⟨_, _, rfl, _⟩ := t1
               obtain ⟨_, _, rfl, _⟩ := t2
               obtain ⟨_, _, rfl, _⟩ := t3
               obtain ⟨_, _, rfl, _⟩ := t4
               dsimp only [Bk.cells])
    all_goals (refine WL.stepR0 (okE_storeW (fun w => Tryz.sizeOf32 w) rfl rfl rfl (hx6.obj hb45 nos) rfl (by simp [Value.oneCell'])) rfl rfl ?_
               rintro _ g7 ⟨hb7, hx7⟩)
    all_goals (refine Gn ?_)
    all_goals (refine WC.sub [(4, _)] ⟨rfl, trivial⟩ ?_)
    all_goals (refine WC.ret ?_)
    all_goals (repeat' (with_reducible first | refine thenP_r ?_ | refine blockP_r ?_))
    all_goals (refine retP_1 _ ⟨⟨_, rfl, ld_blk (fun w => Tryz.isAgg32 w) (fun w => Tryz.sizeOf32 w) hb7 rfl⟩, trivial⟩ ?_)
    all_goals (refine ⟨⟨k6, st6, tg6, n6, v6, x6, y6, _, lo6, _, lc6, _, lr6, _, lf6⟩, rfl, hok6.at (hx6.obj hb45 nos) hx7, ?_, (hX5.trans hx6).trans' hx7 (fun q hq e => by have := hx1.size; have := hx2.size; omega)⟩
               rw [hpl6]
               simp only [Bk.pl, Prod.mk.injEq] at hpl ⊢
               obtain ⟨_, e2, e3, e4, e5, e6, e7, e8, e9, e10, e11⟩ := hpl
               subst e2 e3 e4 e5 e6 e7 e8 e9 e11
               exact ⟨trivial, rfl, rfl, rfl, rfl, rfl, rfl, rfl, rfl, e10, by rw [fixF, if_pos hs]⟩)
    skip))
    all_goals (first | (fail_if_success refine goB 2 ?_) | (
    refine goB 2 ?_
    all_goals (refine WC.skip ?_)
    skip))
    all_goals (refine Gn ?_)
    all_goals (refine WC.sr ?_)
    all_goals (refine WL.step (ok_loadN (fun w => Tryz.isAgg32 w) (fun w => Tryz.sizeOf32 w) rfl rfl (by assumption)) rfl rfl rfl ?_)
    all_goals (refine WL.stepR0 (okE_storeW (fun w => Tryz.sizeOf32 w) rfl rfl rfl (by assumption) rfl (by simp [Value.oneCell'])) rfl rfl ?_
               rintro _ h1 ⟨hb1, hx1⟩)
    all_goals (refine Gn ?_)
    all_goals (refine WC.sub [(4, _)] ⟨rfl, trivial⟩ ?_)
    all_goals (refine WC.ret ?_)
    all_goals (repeat' (with_reducible first | refine thenP_r ?_ | refine blockP_r ?_))
    all_goals (refine retP_1 _ ⟨⟨_, rfl, ld_blk (fun w => Tryz.isAgg32 w) (fun w => Tryz.sizeOf32 w) hb7 rfl⟩, trivial⟩ ?_)
    all_goals (refine ⟨⟨k6, st6, tg6, n6, v6, x6, y6, _, lo6, _, lc6, _, lr6, _, lf6⟩, rfl, hok6.at (hx6.obj hb45 nos) hx7, ?_, (hX5.trans hx6).trans' hx7 (fun q hq e => by have := hx1.size; have := hx2.size; omega)⟩
               rw [hpl6]
               simp only [Bk.pl, Prod.mk.injEq] at hpl ⊢
               obtain ⟨_, e2, e3, e4, e5, e6, e7, e8, e9, e10, e11⟩ := hpl
               subst e2 e3 e4 e5 e6 e7 e8 e9 e11
               exact ⟨trivial, rfl, rfl, rfl, rfl, rfl, rfl, rfl, rfl, e10, by rw [fixF, if_pos hs]⟩)
  · have hs' : k ≠ 69 ∨ f = t := by
      by_cases h1 : k = 69
      · exact .inr (Classical.byContradiction fun h2 => hs ⟨h1, h2⟩)
      · exact .inl h1
    clear kn
    by_cases hk : k = 69
    all_goals
      refine calls [(0, _), (1, _)] Tryz.func8 rfl Tryz.ntmps8 rfl ⟨rfl, rfl, trivial⟩ ?_
      all_goals (refine WC.sr ?_)
      all_goals (refine WL.stepR (okE_box rfl) rfl rfl rfl ?_
                 rintro _ g1 ⟨b2, rfl, hg2, hb2, hx1⟩)
      all_goals (refine WL.stepR (okE_box rfl) rfl rfl rfl ?_
                 rintro _ g2 ⟨b3, rfl, hg3, hb3, hx2⟩)
      all_goals (refine WL.stepR (okE_alloc (fun w => Tryz.zeroValue32 w)) rfl rfl rfl ?_
                 rintro _ g3 ⟨b4, rfl, hg4, hb4, hx3⟩)
      all_goals (have hX3 := (hx1.trans hx2).trans hx3
                 have hb23 := (hx2.trans hx3).obj hb2 nos
                 have hb33 := hx3.obj hb3 nos)
      all_goals (refine Gn ?_)
      all_goals (refine WC.sr ?_)
      all_goals (refine WL.step (ok_loadN (fun w => Tryz.isAgg32 w) (fun w => Tryz.sizeOf32 w) rfl rfl (by exact At.of_block hb33)) rfl rfl rfl ?_)
      all_goals (refine WL.call (vs := [_]) rfl (fun a w => Tryz.call29 a w) rfl (kc _ hX3) rfl rfl rfl ?_
                 rintro _ g4 ⟨⟨k', st', tg', n', v', x', y', vo', lo', vc', lc', vr', lr', vf', lf'⟩, rfl, hok, hpl, hx4⟩
                 obtain ⟨o1, o2, o3, o4⟩ := hok.ok
                 dsimp only at o1 o2 o3 o4
                 have q1 := o1.1
                 have q2 := o2.1
                 have q3 := o3.1
                 have q4 := o4.1
                 obtain ⟨_, _, rfl, _⟩ := q1
                 obtain ⟨_, _, rfl, _⟩ := q2
                 obtain ⟨_, _, rfl, _⟩ := q3
                 obtain ⟨_, _, rfl, _⟩ := q4
                 have hkk : k' = k := by have := congrArg Prod.fst hpl; exact this
                 subst hkk
                 dsimp only)
      all_goals (refine WL.stepR0 (okE_storeW (fun w => Tryz.sizeOf32 w) rfl rfl rfl (hx4.obj hb33 nos) rfl (by simp [Value.oneCell'])) rfl rfl ?_
                 rintro _ g5 ⟨hb5, hx5⟩)
      all_goals (have hb45 := hx5.obj (hx4.obj hb4 nos) (fun e => by have := lt_of_some hb3; omega)
                 have hb25 := hx5.obj (hx4.obj hb23 nos) (fun e => by have := lt_of_some hb2; omega)
                 have hl5 := hok.at (hx4.obj hb33 nos) hx5)
      all_goals (refine Gn ?_)
      all_goals (refine WC.sub [(2, _), (3, _), (4, _)] ⟨rfl, rfl, rfl, trivial⟩ ?_)
      all_goals (refine WC.seq ?_)
      all_goals (refine WC.sr ?_)
      all_goals (refine Go ?_)
      all_goals (refine WL.step (ok_load (fun w => Tryz.isAgg5 w) rfl (by first | exact cell_blk hb5 rfl | assumption | exact cell_blk (by assumption) rfl)) rfl rfl rfl ?_)
      all_goals (refine Go ?_)
      all_goals (refine goP 10 ?_ ?_ <;> first | exact ⟨⟩ | refine Hb.mk fun hb => ?_ | skip)
      all_goals (refine Gg ?_)
      all_goals (first | (refine WL.pass rfl rfl rfl ?_) | (refine WL.step (ok_load (fun w => Tryz.isAgg9 w) rfl (by first | exact cell_blk hb25 rfl | assumption | exact cell_blk (by assumption) rfl)) rfl rfl rfl ?_))
      all_goals (refine Gg ?_)
      all_goals (first | (refine WL.pass rfl rfl rfl ?_) | (refine WL.step (ok_load (fun w => Tryz.isAgg9 w) rfl (by first | exact cell_blk hb25 rfl | assumption | exact cell_blk (by assumption) rfl)) rfl rfl rfl ?_))
      all_goals (first | (refine WL.pass rfl rfl rfl ?_) | ((first | (obtain rfl : f = t := hs'.resolve_left (fun z => z hk); refine WL.step (OkP.nbool_f rfl (ok_neqS rfl rfl)) rfl rfl rfl ?_))))
      all_goals (refine Go ?_)
      all_goals (refine WC.sub [(2, _), (3, _), (4, _), (16, _)] ⟨rfl, rfl, rfl, rfl, trivial⟩ ?_)
      all_goals (refine goC 1 2 ?_ ?_ <;> first | exact ⟨⟩ | refine Hb.mk fun hb => ?_ | skip)
      all_goals (first | (fail_if_success refine goB 2 ?_) | (
      refine goB 2 ?_
      all_goals (refine WC.skip ?_)
      skip))
      all_goals (refine Gn ?_)
      all_goals (refine WC.sr ?_)
      all_goals (refine WL.step (ok_loadN (fun w => Tryz.isAgg32 w) (fun w => Tryz.sizeOf32 w) rfl rfl (by exact At.of_block hb5)) rfl rfl rfl ?_)
      all_goals (refine WL.stepR0 (okE_storeW (fun w => Tryz.sizeOf32 w) rfl rfl rfl hb45 rfl (by simp [Value.oneCell'])) rfl rfl ?_
                 rintro _ g6 ⟨hb6, hx6⟩)
      all_goals (refine Gn ?_)
      all_goals (refine WC.sub [(4, _)] ⟨rfl, trivial⟩ ?_)
      all_goals (refine WC.ret ?_)
      all_goals (repeat' (with_reducible first | refine thenP_r ?_ | refine blockP_r ?_))
      all_goals (refine retP_1 _ ⟨⟨_, rfl, ld_blk (fun w => Tryz.isAgg32 w) (fun w => Tryz.sizeOf32 w) hb6 rfl⟩, trivial⟩ ?_)
      all_goals (exact ⟨⟨_, st', tg', n', v', x', y', _, lo', _, lc', _, lr', _, lf'⟩, rfl, hl5.at hb45 hx6, hpl.trans (by first | rw [fixF, if_neg hs] | simp only [fixF, hk, false_and, if_false]), ((hX3.trans hx4).trans' hx5 (fun q hq e => by have := hx1.size; omega)).trans' hx6 (fun q hq e => by have := hx1.size; have := hx2.size; omega)⟩)
end Go.Proofs.YtbahigffjclpdaaGreatDoor


