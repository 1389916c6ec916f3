/-
  SEVERAL TEXTS IN ONE: BkQ2w, Ec7w, OpU, Pn42, SeP41.
-/
import Derived.Test.YtbglafgndaekoaaGreatDoorPProxyNobody4
import Derived.Test.YtbglafgndaekoaaGreatDoorRows
import Derived.Lay
import Derived.LaidLaws
import Derived.LaidHandle
import Derived.Stop.Joined
/-
  REPLIES (layer 7): the body of a reply that may be, as the document writes it. Printed by encp.py.
-/
namespace Go.Proofs.YtbglafgndaekoaaGreatDoor
open Go Go.RK

set_option maxHeartbeats 4000000 in
set_option maxRecDepth 100000 in
theorem encW_82 {h : Heap} (b : Bk) (hb : b.ok h) (hw : b.wf) (hmd : b.big) (hmay : b.may) (hk : b.kind = 82) :
    CallsH Tryz.prog 22 ⟨[.agg ⟨b.cells⟩]⟩ h fun u h' => ∃ v', u = .tuple ⟨[.agg ⟨[.int .u8 82, v']⟩, In 0]⟩ ∧ Own h' v' 5 1 (encBk b).length (bys (encBk b)) ∧ Ext No h h' := by
  have kc := fun h' (hx : Ext No h h') => checkW07 b (hb.ext0 hx) hw.kind hmd
  have hL : encBk b = be 0 4 := by simp [encBk, hk]
  rw [hL]
  clear hL
  have hst := hw.status
  obtain ⟨md5, md6, md7, md8, md9, md10⟩ := hmd
  have md1 := hmay.oids.1
  have md2 := hmay.cols.1
  have md3 := hmay.row.1
  have md4 := hmay.fields.1
  have m_c := hmay.cols.2
  have m_o := hmay.oids.2
  have m_n := hmay.n
  have m_m := hmay.m
  have m_r := hmay.row.2
  have hF : ∀ f ∈ b.fields, f.t.length ≤ 1048576 ∧ 0 ≤ f.k ∧ f.k ≤ 255 := fun f hf => ⟨md7 f hf, hw.codes f hf⟩
  clear hw
  obtain ⟨ho, hc, hr, hf⟩ := hb
  obtain ⟨k, st, t, n, v, x, y, vo, lo, vc, lc, vr, lr, vf, lf⟩ := b
  dsimp only at hk hst ho hc hr hf md1 md2 md3 md4 md5 md6 md7 md8 md9 md10 m_c m_o m_n m_m m_r hF ⊢
  have hro := ho.1
  have hrc := hc.1
  have hrr := hr.1
  have hrf := hf.1
  obtain ⟨Ao, co, rfl, _⟩ := id hro
  obtain ⟨Ac, cc, rfl, _⟩ := id hrc
  obtain ⟨Ar, cr, rfl, _⟩ := id hrr
  obtain ⟨Af, cf, rfl, _⟩ := id hrf
  dsimp only [Bk.cells] at kc ⊢
  subst hk
  refine calls [(0, _)] Tryz.func22 rfl Tryz.ntmps22 rfl ⟨rfl, trivial⟩ ?_
  all_goals (refine WC.sr ?_)
  all_goals (refine WL.stepR (okE_box rfl) rfl rfl rfl ?_
             rintro _ h1 ⟨b1, rfl, hg1, hb1, hx1⟩)
  all_goals (refine WL.stepR (okE_alloc (fun w => Tryz.zeroValue54 w)) rfl rfl rfl ?_
             rintro _ h2 ⟨b2, rfl, hg2, hb2, hx2⟩)
  all_goals (have hX2 := hx1.trans hx2
             have hb12 := hx2.obj hb1 nos)
  all_goals (refine Go ?_)
  all_goals (refine WC.seq ?_)
  all_goals (refine WC.sr ?_)
  all_goals (refine WL.step (ok_loadN (fun w => Tryz.isAgg28 w) (fun w => Tryz.sizeOf28 w) rfl rfl (by exact At.of_block hb12)) rfl rfl rfl ?_)
  all_goals (refine WL.call (vs := [_]) rfl (fun a w => Tryz.call65 a w) rfl (kc _ hX2) rfl rfl rfl ?_
             rintro _ h3 ⟨⟨e, rfl, he⟩, hx3⟩
             obtain rfl := he.2 hmay)
  all_goals (have hb13 := hx3.obj hb12 nos
             have hb23 := hx3.obj hb2 nos
             have hX3 := hX2.trans hx3
             have l1 := lt_of_some hb13
             have l2 := lt_of_some hb23)
  all_goals (refine Go ?_)
  all_goals (refine Gs [(1, _), (2, _), (4, _)] ?_)
  all_goals (refine WC.sr ?_)
  all_goals (refine Go ?_)
  all_goals (refine goC 1 2 ?_ ?_ <;> first | exact ⟨⟩ | refine Hb.mk fun hb => ?_ | skip)
  all_goals (first | (fail_if_success refine goB 1 ?_) | (
  refine goB 1 ?_
  all_goals (refine WC.sr ?_)
  all_goals (refine WL.step (ok_buildF (vs := []) (cs := [_, _]) (fun | [] => [(.int .u8 0), (.slice none 0 0)] | _ => []) rfl rfl (by kernel_rfl)) rfl rfl rfl ?_)
  all_goals (refine Go ?_)
  all_goals (refine WL.stepR0 (okE_storeW (fun w => Tryz.sizeOf54 w) rfl rfl rfl (by assumption) rfl (by simp [Value.oneCell'])) rfl rfl ?_
             rintro _ h1 ⟨hb1, hx1⟩)
  all_goals (refine Go ?_)
  all_goals (refine Gs [(2, _), (3, _)] ?_)
  all_goals (refine WC.ret ?_)
  all_goals (repeat' (with_reducible first | refine thenP_r ?_ | refine blockP_r ?_))
  all_goals (refine retP_2 _ _ ⟨⟨_, rfl, ld_blk (fun w => Tryz.isAgg54 w) (fun w => Tryz.sizeOf54 w) hb7 rfl⟩, rfl, trivial⟩ ?_)
  all_goals (exact ⟨_, rfl, o6.ext hx7 (fun q hq e => by obtain ⟨_, z⟩ := own_kind o6 hq; rw [e, hb26] at z; simp at z), (hX3.trans x6).trans' hx7 (fun q hq e => by have := hx1.size; omega)⟩)
  skip))
  all_goals (first | (fail_if_success refine goB 2 ?_) | (
  refine goB 2 ?_
  all_goals (refine WC.skip ?_)
  skip))
  all_goals (refine Gn ?_)
  all_goals (refine WC.sr ?_)
  all_goals (refine Go ?_)
  all_goals (refine WC.seq ?_)
  all_goals (refine WC.sr ?_)
  all_goals (refine Go ?_)
  all_goals (refine WL.ld rfl (by first | exact cell_blk hb13 rfl | assumption | exact cell_blk (by assumption) rfl) rfl rfl rfl ?_)
  all_goals (refine Gn ?_)
  all_goals (refine Gs [(1, _), (2, _), (5, _), (13, _)] ?_)
  all_goals (refine WC.block ?_)
  all_goals (refine WC.sr ?_)
  all_goals (refine Go ?_)
  all_goals (refine goC 3 4 ?_ ?_ <;> first | exact ⟨⟩ | refine Hb.mk fun hb => ?_ | skip)
  all_goals (first | (fail_if_success refine goB 3 ?_) | (
  refine goB 3 ?_
  all_goals (refine WC.region ?_)
  all_goals (refine WL.call (vs := [_, _, _]) rfl (fun a w => Tryz.call66 a w) rfl (put01 [] 0 4 sz4 (rt4s (by omega)) (Rd.nil _ _) (by decide)) rfl rfl rfl ?_
             rintro v6 h6 ⟨oo6, hx6, hf6⟩
             have o6 : Own h6 v6 5 1 (be 0 4).length (bys (be 0 4)) := by simpa using oo6
             have x6 : Ext No h3 h6 := hx6)
  all_goals (refine Go ?_)
  skip))
  all_goals (first | (fail_if_success refine goB 4 ?_) | (
  refine goB 4 ?_
  all_goals (refine WC.sr ?_)
  all_goals (refine Go ?_)
  all_goals (refine goC 5 6 ?_ ?_ <;> first | exact ⟨⟩ | refine Hb.mk fun hb => ?_ | skip)
  all_goals (first | (fail_if_success refine goB 6 ?_) | (
  refine goB 6 ?_
  all_goals (refine WC.sr ?_)
  all_goals (refine Go ?_)
  all_goals (refine Gs [(1, _), (2, _), (5, _), (13, _), (25, _)] ?_)
  all_goals (refine goC 7 8 ?_ ?_ <;> first | exact ⟨⟩ | refine Hb.mk fun hb => ?_ | skip)
  all_goals (first | (fail_if_success refine goB 8 ?_) | (
  refine goB 8 ?_
  all_goals (refine WC.sr ?_)
  all_goals (refine Go ?_)
  all_goals (refine goC 9 10 ?_ ?_ <;> first | exact ⟨⟩ | refine Hb.mk fun hb => ?_ | skip)
  all_goals (first | (fail_if_success refine goB 9 ?_) | (
  refine goB 9 ?_
  all_goals (refine WC.region ?_)
  all_goals (refine Go ?_)
  all_goals (refine Ld ?_)
  all_goals (refine WL.stepR (okE_buildSlice (vs := [_]) (cs := [_]) (fun | [a0] => [a0] | _ => []) Tryz.underlying22 rfl rfl (by kernel_rfl)) rfl rfl rfl ?_
             rintro _ h1 ⟨b1, rfl, hg1, hb1, hx1⟩)
  all_goals (refine Go ?_)
  skip))
  all_goals (first | (fail_if_success refine goB 10 ?_) | (
  refine goB 10 ?_
  all_goals (refine WC.sr ?_)
  all_goals (refine Go ?_)
  all_goals (refine Gs [(1, _), (2, _), (5, _), (13, _), (38, _)] ?_)
  all_goals (refine goC 11 12 ?_ ?_ <;> first | exact ⟨⟩ | refine Hb.mk fun hb => ?_ | skip)
  all_goals (first | (fail_if_success refine goB 12 ?_) | (
  refine goB 12 ?_
  all_goals (refine WC.sr ?_)
  all_goals (refine Go ?_)
  all_goals (refine goC 13 14 ?_ ?_ <;> first | exact ⟨⟩ | refine Hb.mk fun hb => ?_ | skip)
  all_goals (first | (fail_if_success refine goB 14 ?_) | (
  refine goB 14 ?_
  all_goals (refine WC.sr ?_)
  all_goals (refine Go ?_)
  all_goals (refine Gs [(1, _), (2, _), (5, _), (13, _), (48, _)] ?_)
  all_goals (refine goC 15 16 ?_ ?_ <;> first | exact ⟨⟩ | refine Hb.mk fun hb => ?_ | skip)
  all_goals (first | (fail_if_success refine goB 16 ?_) | (
  refine goB 16 ?_
  all_goals (refine WC.sr ?_)
  all_goals (refine Go ?_)
  all_goals (refine goC 17 18 ?_ ?_ <;> first | exact ⟨⟩ | refine Hb.mk fun hb => ?_ | skip)
  all_goals (first | (fail_if_success refine goB 18 ?_) | (
  refine goB 18 ?_
  all_goals (refine WC.seq ?_)
  all_goals (refine WC.sr ?_)
  all_goals (refine Go ?_)
  all_goals (refine Gs [(1, _), (2, _), (5, _), (13, _), (58, _)] ?_)
  all_goals (refine goC 19 20 ?_ ?_ <;> first | exact ⟨⟩ | refine Hb.mk fun hb => ?_ | skip)
  all_goals (first | (fail_if_success refine goB 19 ?_) | (
  refine goB 19 ?_
  all_goals (refine WC.skip ?_)
  skip))
  all_goals (first | (fail_if_success refine goB 20 ?_) | (
  refine goB 20 ?_
  all_goals (refine WC.region ?_)
  all_goals (refine Go ?_)
  skip))
  all_goals (refine Gn ?_)
  all_goals (refine goC 21 22 ?_ ?_ <;> first | exact ⟨⟩ | refine Hb.mk fun hb => ?_ | skip)
  all_goals (first | (fail_if_success refine goB 22 ?_) | (
  refine goB 22 ?_
  all_goals (refine WC.skip ?_)
  skip))
  skip))
  skip))
  skip))
  skip))
  skip))
  skip))
  skip))
  skip))
  all_goals (refine Gn ?_)
  all_goals (refine WC.sr ?_)
  all_goals (have hb16 := x6.obj hb13 nos
             have hb26 := x6.obj hb23 nos
             obtain ⟨A6, c6, e6, _⟩ := o6.slice
             have hO := o6
             try rw [e6] at hO
             subst e6)
  all_goals (refine WL.step (ok_fieldAddr rfl Tryz.underlying28 rfl (fun w => Tryz.sizeOf5 w)) rfl rfl rfl ?_)
  all_goals (refine WL.ld rfl (by first | exact cell_blk hb16 rfl | assumption | exact cell_blk (by assumption) rfl) rfl rfl rfl ?_)
  all_goals (refine Go ?_)
  all_goals (refine WL.step (ok_buildF (vs := [_, _]) (cs := [_, _]) (fun | [a0, a1] => [a0, a1] | _ => []) rfl rfl (by kernel_rfl)) rfl rfl rfl ?_)
  all_goals (refine WL.stepR0 (okE_storeW (fun w => Tryz.sizeOf54 w) rfl rfl rfl hb26 rfl (by simp [Value.oneCell'])) rfl rfl ?_
             rintro _ h7 ⟨hb7, hx7⟩)
  all_goals (refine Go ?_)
  all_goals (refine Gs [(2, _), (3, _)] ?_)
  all_goals (refine WC.ret ?_)
  all_goals (repeat' (with_reducible first | refine thenP_r ?_ | refine blockP_r ?_))
  all_goals (refine retP_2 _ _ ⟨⟨_, rfl, ld_blk (fun w => Tryz.isAgg54 w) (fun w => Tryz.sizeOf54 w) hb7 rfl⟩, rfl, trivial⟩ ?_)
  all_goals (exact ⟨_, rfl, o6.ext hx7 (fun q hq e => by obtain ⟨_, z⟩ := own_kind o6 hq; rw [e, hb26] at z; simp at z), (hX3.trans x6).trans' hx7 (fun q hq e => by have := hx1.size; omega)⟩)
set_option maxHeartbeats 4000000 in
set_option maxRecDepth 100000 in
theorem encW_83 {h : Heap} (b : Bk) (hb : b.ok h) (hw : b.wf) (hmd : b.big) (hmay : b.may) (hk : b.kind = 83) :
    CallsH Tryz.prog 22 ⟨[.agg ⟨b.cells⟩]⟩ h fun u h' => ∃ v', u = .tuple ⟨[.agg ⟨[.int .u8 83, v']⟩, In 0]⟩ ∧ Own h' v' 5 1 (encBk b).length (bys (encBk b)) ∧ Ext No h h' := by
  have kc := fun h' (hx : Ext No h h') => checkW07 b (hb.ext0 hx) hw.kind hmd
  have hL : encBk b = b.name ++ [0] ++ b.value ++ [0] := by simp [encBk, hk]
  rw [hL]
  clear hL
  have hst := hw.status
  obtain ⟨md5, md6, md7, md8, md9, md10⟩ := hmd
  have md1 := hmay.oids.1
  have md2 := hmay.cols.1
  have md3 := hmay.row.1
  have md4 := hmay.fields.1
  have m_c := hmay.cols.2
  have m_o := hmay.oids.2
  have m_n := hmay.n
  have m_m := hmay.m
  have m_r := hmay.row.2
  have hF : ∀ f ∈ b.fields, f.t.length ≤ 1048576 ∧ 0 ≤ f.k ∧ f.k ≤ 255 := fun f hf => ⟨md7 f hf, hw.codes f hf⟩
  clear hw
  obtain ⟨ho, hc, hr, hf⟩ := hb
  obtain ⟨k, st, t, n, v, x, y, vo, lo, vc, lc, vr, lr, vf, lf⟩ := b
  dsimp only at hk hst ho hc hr hf md1 md2 md3 md4 md5 md6 md7 md8 md9 md10 m_c m_o m_n m_m m_r hF ⊢
  have hro := ho.1
  have hrc := hc.1
  have hrr := hr.1
  have hrf := hf.1
  obtain ⟨Ao, co, rfl, _⟩ := id hro
  obtain ⟨Ac, cc, rfl, _⟩ := id hrc
  obtain ⟨Ar, cr, rfl, _⟩ := id hrr
  obtain ⟨Af, cf, rfl, _⟩ := id hrf
  dsimp only [Bk.cells] at kc ⊢
  subst hk
  refine calls [(0, _)] Tryz.func22 rfl Tryz.ntmps22 rfl ⟨rfl, trivial⟩ ?_
  all_goals (refine WC.sr ?_)
  all_goals (refine WL.stepR (okE_box rfl) rfl rfl rfl ?_
             rintro _ h1 ⟨b1, rfl, hg1, hb1, hx1⟩)
  all_goals (refine WL.stepR (okE_alloc (fun w => Tryz.zeroValue54 w)) rfl rfl rfl ?_
             rintro _ h2 ⟨b2, rfl, hg2, hb2, hx2⟩)
  all_goals (have hX2 := hx1.trans hx2
             have hb12 := hx2.obj hb1 nos)
  all_goals (refine Go ?_)
  all_goals (refine WC.seq ?_)
  all_goals (refine WC.sr ?_)
  all_goals (refine WL.step (ok_loadN (fun w => Tryz.isAgg28 w) (fun w => Tryz.sizeOf28 w) rfl rfl (by exact At.of_block hb12)) rfl rfl rfl ?_)
  all_goals (refine WL.call (vs := [_]) rfl (fun a w => Tryz.call65 a w) rfl (kc _ hX2) rfl rfl rfl ?_
             rintro _ h3 ⟨⟨e, rfl, he⟩, hx3⟩
             obtain rfl := he.2 hmay)
  all_goals (have hb13 := hx3.obj hb12 nos
             have hb23 := hx3.obj hb2 nos
             have hX3 := hX2.trans hx3
             have l1 := lt_of_some hb13
             have l2 := lt_of_some hb23)
  all_goals (refine Go ?_)
  all_goals (refine Gs [(1, _), (2, _), (4, _)] ?_)
  all_goals (refine WC.sr ?_)
  all_goals (refine Go ?_)
  all_goals (refine goC 1 2 ?_ ?_ <;> first | exact ⟨⟩ | refine Hb.mk fun hb => ?_ | skip)
  all_goals (first | (fail_if_success refine goB 1 ?_) | (
  refine goB 1 ?_
  all_goals (refine WC.sr ?_)
  all_goals (refine WL.step (ok_buildF (vs := []) (cs := [_, _]) (fun | [] => [(.int .u8 0), (.slice none 0 0)] | _ => []) rfl rfl (by kernel_rfl)) rfl rfl rfl ?_)
  all_goals (refine Go ?_)
  all_goals (refine WL.stepR0 (okE_storeW (fun w => Tryz.sizeOf54 w) rfl rfl rfl (by assumption) rfl (by simp [Value.oneCell'])) rfl rfl ?_
             rintro _ h1 ⟨hb1, hx1⟩)
  all_goals (refine Go ?_)
  all_goals (refine Gs [(2, _), (3, _)] ?_)
  all_goals (refine WC.ret ?_)
  all_goals (repeat' (with_reducible first | refine thenP_r ?_ | refine blockP_r ?_))
  all_goals (refine retP_2 _ _ ⟨⟨_, rfl, ld_blk (fun w => Tryz.isAgg54 w) (fun w => Tryz.sizeOf54 w) hb7 rfl⟩, rfl, trivial⟩ ?_)
  all_goals (exact ⟨_, rfl, o6.ext hx7 (fun q hq e => by obtain ⟨_, z⟩ := own_kind o6 hq; rw [e, hb26] at z; simp at z), (hX3.trans x6).trans' hx7 (fun q hq e => by have := hx1.size; omega)⟩)
  skip))
  all_goals (first | (fail_if_success refine goB 2 ?_) | (
  refine goB 2 ?_
  all_goals (refine WC.skip ?_)
  skip))
  all_goals (refine Gn ?_)
  all_goals (refine WC.sr ?_)
  all_goals (refine Go ?_)
  all_goals (refine WC.seq ?_)
  all_goals (refine WC.sr ?_)
  all_goals (refine Go ?_)
  all_goals (refine WL.ld rfl (by first | exact cell_blk hb13 rfl | assumption | exact cell_blk (by assumption) rfl) rfl rfl rfl ?_)
  all_goals (refine Gn ?_)
  all_goals (refine Gs [(1, _), (2, _), (5, _), (13, _)] ?_)
  all_goals (refine WC.block ?_)
  all_goals (refine WC.sr ?_)
  all_goals (refine Go ?_)
  all_goals (refine goC 3 4 ?_ ?_ <;> first | exact ⟨⟩ | refine Hb.mk fun hb => ?_ | skip)
  all_goals (first | (fail_if_success refine goB 4 ?_) | (
  refine goB 4 ?_
  all_goals (refine WC.sr ?_)
  all_goals (refine Go ?_)
  all_goals (refine goC 5 6 ?_ ?_ <;> first | exact ⟨⟩ | refine Hb.mk fun hb => ?_ | skip)
  all_goals (first | (fail_if_success refine goB 5 ?_) | (
  refine goB 5 ?_
  all_goals (refine WC.drawH (fun h' => Ext No h3 h') 6 7 rfl fol ?_)
  all_goals (refine WH.tk 0 rfl (fun hq hC => ok_fieldAddr rfl Tryz.underlying28 rfl (fun w => Tryz.sizeOf9 w)) rfl rfl rfl ?_)
  all_goals (refine WH.tk 1 rfl (fun hq hC => ok_load (fun w => Tryz.isAgg9 w) rfl (by first | exact hC.cell (by first | exact cell_blk hb13 rfl | assumption | exact cell_blk (by assumption) rfl) nos)) rfl rfl rfl ?_)
  all_goals (refine WH.tk 3 rfl (fun hq hC => ok_fieldAddr rfl Tryz.underlying28 rfl (fun w => Tryz.sizeOf9 w)) rfl rfl rfl ?_)
  all_goals (refine WH.tk 4 rfl (fun hq hC => ok_load (fun w => Tryz.isAgg9 w) rfl (by first | exact hC.cell (by first | exact cell_blk hb13 rfl | assumption | exact cell_blk (by assumption) rfl) nos)) rfl rfl rfl ?_)
  all_goals (refine WH.one 2 (by kernel_rfl) ?_)
  all_goals (refine Comes1.call (vs := [_, _]) rfl rfl (fun a w => Tryz.call67 a w) rfl (str06 [] n (Own.nil _ _ _) (by simp only [List.length_nil]; omega)) rfl rfl rfl ?_ (fun _ => by kernel_rfl)
             rintro v5 h5 ⟨ho5, hr5⟩
             obtain ⟨hC5, hF5⟩ := hr5.fresh (.refl _ h3) (by simp [Value.ownBlock]))
  all_goals (refine ⟨fun _ => hC5, ?_⟩)
  all_goals (refine WH.one 5 (by kernel_rfl) ?_)
  all_goals (refine Comes1.call (vs := [_, _]) rfl rfl (fun a w => Tryz.call67 a w) rfl (str06 _ v ho5 (by simp only [List.length_append, List.length_cons, List.length_nil]; omega)) rfl rfl rfl ?_ (fun _ => by kernel_rfl)
             rintro v6 h6 ⟨ho6, hr6⟩
             obtain ⟨hC6, hF6⟩ := hr6.fresh hC5 hF5)
  all_goals (refine ⟨fun _ => hC6, ?_⟩)
  all_goals (have o6 : Own h6 v6 5 1 (n ++ [0] ++ v ++ [0]).length (bys (n ++ [0] ++ v ++ [0])) := by simpa using ho6
             have x6 : Ext No h3 h6 := hC6)
  all_goals (refine WH.one 6 (by kernel_rfl) ?_)
  all_goals (refine Comes1.run rfl (OkP.r (ok_assign rfl)) rfl rfl rfl ?_ (fun _ => by kernel_rfl)
             rintro _ hz ⟨rfl, _⟩
             subst hz)
  all_goals (refine ⟨fun _ => hC6, ?_⟩)
  all_goals (refine WH.done (by kernel_rfl) ?_)
  skip))
  all_goals (first | (fail_if_success refine goB 6 ?_) | (
  refine goB 6 ?_
  all_goals (refine WC.sr ?_)
  all_goals (refine Go ?_)
  all_goals (refine Gs [(1, _), (2, _), (5, _), (13, _), (25, _)] ?_)
  all_goals (refine goC 7 8 ?_ ?_ <;> first | exact ⟨⟩ | refine Hb.mk fun hb => ?_ | skip)
  all_goals (first | (fail_if_success refine goB 8 ?_) | (
  refine goB 8 ?_
  all_goals (refine WC.sr ?_)
  all_goals (refine Go ?_)
  all_goals (refine goC 9 10 ?_ ?_ <;> first | exact ⟨⟩ | refine Hb.mk fun hb => ?_ | skip)
  all_goals (first | (fail_if_success refine goB 9 ?_) | (
  refine goB 9 ?_
  all_goals (refine WC.region ?_)
  all_goals (refine Go ?_)
  all_goals (refine Ld ?_)
  all_goals (refine WL.stepR (okE_buildSlice (vs := [_]) (cs := [_]) (fun | [a0] => [a0] | _ => []) Tryz.underlying22 rfl rfl (by kernel_rfl)) rfl rfl rfl ?_
             rintro _ h1 ⟨b1, rfl, hg1, hb1, hx1⟩)
  all_goals (refine Go ?_)
  skip))
  all_goals (first | (fail_if_success refine goB 10 ?_) | (
  refine goB 10 ?_
  all_goals (refine WC.sr ?_)
  all_goals (refine Go ?_)
  all_goals (refine Gs [(1, _), (2, _), (5, _), (13, _), (38, _)] ?_)
  all_goals (refine goC 11 12 ?_ ?_ <;> first | exact ⟨⟩ | refine Hb.mk fun hb => ?_ | skip)
  all_goals (first | (fail_if_success refine goB 12 ?_) | (
  refine goB 12 ?_
  all_goals (refine WC.sr ?_)
  all_goals (refine Go ?_)
  all_goals (refine goC 13 14 ?_ ?_ <;> first | exact ⟨⟩ | refine Hb.mk fun hb => ?_ | skip)
  all_goals (first | (fail_if_success refine goB 14 ?_) | (
  refine goB 14 ?_
  all_goals (refine WC.sr ?_)
  all_goals (refine Go ?_)
  all_goals (refine Gs [(1, _), (2, _), (5, _), (13, _), (48, _)] ?_)
  all_goals (refine goC 15 16 ?_ ?_ <;> first | exact ⟨⟩ | refine Hb.mk fun hb => ?_ | skip)
  all_goals (first | (fail_if_success refine goB 16 ?_) | (
  refine goB 16 ?_
  all_goals (refine WC.sr ?_)
  all_goals (refine Go ?_)
  all_goals (refine goC 17 18 ?_ ?_ <;> first | exact ⟨⟩ | refine Hb.mk fun hb => ?_ | skip)
  all_goals (first | (fail_if_success refine goB 18 ?_) | (
  refine goB 18 ?_
  all_goals (refine WC.seq ?_)
  all_goals (refine WC.sr ?_)
  all_goals (refine Go ?_)
  all_goals (refine Gs [(1, _), (2, _), (5, _), (13, _), (58, _)] ?_)
  all_goals (refine goC 19 20 ?_ ?_ <;> first | exact ⟨⟩ | refine Hb.mk fun hb => ?_ | skip)
  all_goals (first | (fail_if_success refine goB 19 ?_) | (
  refine goB 19 ?_
  all_goals (refine WC.skip ?_)
  skip))
  all_goals (first | (fail_if_success refine goB 20 ?_) | (
  refine goB 20 ?_
  all_goals (refine WC.region ?_)
  all_goals (refine Go ?_)
  skip))
  all_goals (refine Gn ?_)
  all_goals (refine goC 21 22 ?_ ?_ <;> first | exact ⟨⟩ | refine Hb.mk fun hb => ?_ | skip)
  all_goals (first | (fail_if_success refine goB 22 ?_) | (
  refine goB 22 ?_
  all_goals (refine WC.skip ?_)
  skip))
  skip))
  skip))
  skip))
  skip))
  skip))
  skip))
  skip))
  skip))
  all_goals (refine Gn ?_)
  all_goals (refine WC.sr ?_)
  all_goals (have hb16 := x6.obj hb13 nos
             have hb26 := x6.obj hb23 nos
             obtain ⟨A6, c6, e6, _⟩ := o6.slice
             have hO := o6
             try rw [e6] at hO
             subst e6)
  all_goals (refine WL.step (ok_fieldAddr rfl Tryz.underlying28 rfl (fun w => Tryz.sizeOf5 w)) rfl rfl rfl ?_)
  all_goals (refine WL.ld rfl (by first | exact cell_blk hb16 rfl | assumption | exact cell_blk (by assumption) rfl) rfl rfl rfl ?_)
  all_goals (refine Go ?_)
  all_goals (refine WL.step (ok_buildF (vs := [_, _]) (cs := [_, _]) (fun | [a0, a1] => [a0, a1] | _ => []) rfl rfl (by kernel_rfl)) rfl rfl rfl ?_)
  all_goals (refine WL.stepR0 (okE_storeW (fun w => Tryz.sizeOf54 w) rfl rfl rfl hb26 rfl (by simp [Value.oneCell'])) rfl rfl ?_
             rintro _ h7 ⟨hb7, hx7⟩)
  all_goals (refine Go ?_)
  all_goals (refine Gs [(2, _), (3, _)] ?_)
  all_goals (refine WC.ret ?_)
  all_goals (repeat' (with_reducible first | refine thenP_r ?_ | refine blockP_r ?_))
  all_goals (refine retP_2 _ _ ⟨⟨_, rfl, ld_blk (fun w => Tryz.isAgg54 w) (fun w => Tryz.sizeOf54 w) hb7 rfl⟩, rfl, trivial⟩ ?_)
  all_goals (exact ⟨_, rfl, o6.ext hx7 (fun q hq e => by obtain ⟨_, z⟩ := own_kind o6 hq; rw [e, hb26] at z; simp at z), (hX3.trans x6).trans' hx7 (fun q hq e => by have := hx1.size; omega)⟩)
set_option maxHeartbeats 4000000 in
set_option maxRecDepth 100000 in
theorem encW_75 {h : Heap} (b : Bk) (hb : b.ok h) (hw : b.wf) (hmd : b.big) (hmay : b.may) (hk : b.kind = 75) :
    CallsH Tryz.prog 22 ⟨[.agg ⟨b.cells⟩]⟩ h fun u h' => ∃ v', u = .tuple ⟨[.agg ⟨[.int .u8 75, v']⟩, In 0]⟩ ∧ Own h' v' 5 1 (encBk b).length (bys (encBk b)) ∧ Ext No h h' := by
  have kc := fun h' (hx : Ext No h h') => checkW07 b (hb.ext0 hx) hw.kind hmd
  have hL : encBk b = be b.n 4 ++ be b.m 4 := by simp [encBk, hk]
  rw [hL]
  clear hL
  have hst := hw.status
  obtain ⟨md5, md6, md7, md8, md9, md10⟩ := hmd
  have md1 := hmay.oids.1
  have md2 := hmay.cols.1
  have md3 := hmay.row.1
  have md4 := hmay.fields.1
  have m_c := hmay.cols.2
  have m_o := hmay.oids.2
  have m_n := hmay.n
  have m_m := hmay.m
  have m_r := hmay.row.2
  have hF : ∀ f ∈ b.fields, f.t.length ≤ 1048576 ∧ 0 ≤ f.k ∧ f.k ≤ 255 := fun f hf => ⟨md7 f hf, hw.codes f hf⟩
  clear hw
  obtain ⟨ho, hc, hr, hf⟩ := hb
  obtain ⟨k, st, t, n, v, x, y, vo, lo, vc, lc, vr, lr, vf, lf⟩ := b
  dsimp only at hk hst ho hc hr hf md1 md2 md3 md4 md5 md6 md7 md8 md9 md10 m_c m_o m_n m_m m_r hF ⊢
  have hro := ho.1
  have hrc := hc.1
  have hrr := hr.1
  have hrf := hf.1
  obtain ⟨Ao, co, rfl, _⟩ := id hro
  obtain ⟨Ac, cc, rfl, _⟩ := id hrc
  obtain ⟨Ar, cr, rfl, _⟩ := id hrr
  obtain ⟨Af, cf, rfl, _⟩ := id hrf
  dsimp only [Bk.cells] at kc ⊢
  subst hk
  refine calls [(0, _)] Tryz.func22 rfl Tryz.ntmps22 rfl ⟨rfl, trivial⟩ ?_
  all_goals (refine WC.sr ?_)
  all_goals (refine WL.stepR (okE_box rfl) rfl rfl rfl ?_
             rintro _ h1 ⟨b1, rfl, hg1, hb1, hx1⟩)
  all_goals (refine WL.stepR (okE_alloc (fun w => Tryz.zeroValue54 w)) rfl rfl rfl ?_
             rintro _ h2 ⟨b2, rfl, hg2, hb2, hx2⟩)
  all_goals (have hX2 := hx1.trans hx2
             have hb12 := hx2.obj hb1 nos)
  all_goals (refine Go ?_)
  all_goals (refine WC.seq ?_)
  all_goals (refine WC.sr ?_)
  all_goals (refine WL.step (ok_loadN (fun w => Tryz.isAgg28 w) (fun w => Tryz.sizeOf28 w) rfl rfl (by exact At.of_block hb12)) rfl rfl rfl ?_)
  all_goals (refine WL.call (vs := [_]) rfl (fun a w => Tryz.call65 a w) rfl (kc _ hX2) rfl rfl rfl ?_
             rintro _ h3 ⟨⟨e, rfl, he⟩, hx3⟩
             obtain rfl := he.2 hmay)
  all_goals (have hb13 := hx3.obj hb12 nos
             have hb23 := hx3.obj hb2 nos
             have hX3 := hX2.trans hx3
             have l1 := lt_of_some hb13
             have l2 := lt_of_some hb23)
  all_goals (refine Go ?_)
  all_goals (refine Gs [(1, _), (2, _), (4, _)] ?_)
  all_goals (refine WC.sr ?_)
  all_goals (refine Go ?_)
  all_goals (refine goC 1 2 ?_ ?_ <;> first | exact ⟨⟩ | refine Hb.mk fun hb => ?_ | skip)
  all_goals (first | (fail_if_success refine goB 1 ?_) | (
  refine goB 1 ?_
  all_goals (refine WC.sr ?_)
  all_goals (refine WL.step (ok_buildF (vs := []) (cs := [_, _]) (fun | [] => [(.int .u8 0), (.slice none 0 0)] | _ => []) rfl rfl (by kernel_rfl)) rfl rfl rfl ?_)
  all_goals (refine Go ?_)
  all_goals (refine WL.stepR0 (okE_storeW (fun w => Tryz.sizeOf54 w) rfl rfl rfl (by assumption) rfl (by simp [Value.oneCell'])) rfl rfl ?_
             rintro _ h1 ⟨hb1, hx1⟩)
  all_goals (refine Go ?_)
  all_goals (refine Gs [(2, _), (3, _)] ?_)
  all_goals (refine WC.ret ?_)
  all_goals (repeat' (with_reducible first | refine thenP_r ?_ | refine blockP_r ?_))
  all_goals (refine retP_2 _ _ ⟨⟨_, rfl, ld_blk (fun w => Tryz.isAgg54 w) (fun w => Tryz.sizeOf54 w) hb7 rfl⟩, rfl, trivial⟩ ?_)
  all_goals (exact ⟨_, rfl, o6.ext hx7 (fun q hq e => by obtain ⟨_, z⟩ := own_kind o6 hq; rw [e, hb26] at z; simp at z), (hX3.trans x6).trans' hx7 (fun q hq e => by have := hx1.size; omega)⟩)
  skip))
  all_goals (first | (fail_if_success refine goB 2 ?_) | (
  refine goB 2 ?_
  all_goals (refine WC.skip ?_)
  skip))
  all_goals (refine Gn ?_)
  all_goals (refine WC.sr ?_)
  all_goals (refine Go ?_)
  all_goals (refine WC.seq ?_)
  all_goals (refine WC.sr ?_)
  all_goals (refine Go ?_)
  all_goals (refine WL.ld rfl (by first | exact cell_blk hb13 rfl | assumption | exact cell_blk (by assumption) rfl) rfl rfl rfl ?_)
  all_goals (refine Gn ?_)
  all_goals (refine Gs [(1, _), (2, _), (5, _), (13, _)] ?_)
  all_goals (refine WC.block ?_)
  all_goals (refine WC.sr ?_)
  all_goals (refine Go ?_)
  all_goals (refine goC 3 4 ?_ ?_ <;> first | exact ⟨⟩ | refine Hb.mk fun hb => ?_ | skip)
  all_goals (first | (fail_if_success refine goB 4 ?_) | (
  refine goB 4 ?_
  all_goals (refine WC.sr ?_)
  all_goals (refine Go ?_)
  all_goals (refine goC 5 6 ?_ ?_ <;> first | exact ⟨⟩ | refine Hb.mk fun hb => ?_ | skip)
  all_goals (first | (fail_if_success refine goB 6 ?_) | (
  refine goB 6 ?_
  all_goals (refine WC.sr ?_)
  all_goals (refine Go ?_)
  all_goals (refine Gs [(1, _), (2, _), (5, _), (13, _), (25, _)] ?_)
  all_goals (refine goC 7 8 ?_ ?_ <;> first | exact ⟨⟩ | refine Hb.mk fun hb => ?_ | skip)
  all_goals (first | (fail_if_success refine goB 7 ?_) | (
  refine goB 7 ?_
  all_goals (refine WC.drawH (fun h' => Ext No h3 h') 6 7 rfl fol ?_)
  all_goals (refine WH.tk 0 rfl (fun hq hC => ok_fieldAddr rfl Tryz.underlying28 rfl (fun w => Tryz.sizeOf3 w)) rfl rfl rfl ?_)
  all_goals (refine WH.tk 1 rfl (fun hq hC => ok_load (fun w => Tryz.isAgg3 w) rfl (by first | exact hC.cell (by first | exact cell_blk hb13 rfl | assumption | exact cell_blk (by assumption) rfl) nos)) rfl rfl rfl ?_)
  all_goals (refine WH.tk 3 rfl (fun hq hC => ok_fieldAddr rfl Tryz.underlying28 rfl (fun w => Tryz.sizeOf3 w)) rfl rfl rfl ?_)
  all_goals (refine WH.tk 4 rfl (fun hq hC => ok_load (fun w => Tryz.isAgg3 w) rfl (by first | exact hC.cell (by first | exact cell_blk hb13 rfl | assumption | exact cell_blk (by assumption) rfl) nos)) rfl rfl rfl ?_)
  all_goals (refine WH.one 2 (by kernel_rfl) ?_)
  all_goals (refine Comes1.call (vs := [_, _, _]) rfl rfl (fun a w => Tryz.call66 a w) rfl (put01 [] x 4 sz4 (rt4s (by omega)) (Rd.nil _ _) (by decide)) rfl rfl rfl ?_ (fun _ => by kernel_rfl)
             rintro v5 h5 ⟨ho5, hC5, hF5⟩)
  all_goals (refine ⟨fun _ => hC5, ?_⟩)
  all_goals (refine WH.one 5 (by kernel_rfl) ?_)
  all_goals (refine Comes1.call (vs := [_, _, _]) rfl rfl (fun a w => Tryz.call66 a w) rfl (put01 _ y 4 sz4 (rt4s (by omega)) ho5.rd (by simp only [List.length_append, be_len, List.length_nil]; omega)) rfl rfl rfl ?_ (fun _ => by kernel_rfl)
             rintro v6 h6 ⟨ho6, hx6, hF6⟩
             have hC6 := hC5.trans hx6)
  all_goals (refine ⟨fun _ => hC6, ?_⟩)
  all_goals (have o6 : Own h6 v6 5 1 (be x 4 ++ be y 4).length (bys (be x 4 ++ be y 4)) := by simpa using ho6
             have x6 : Ext No h3 h6 := hC6)
  all_goals (refine WH.one 6 (by kernel_rfl) ?_)
  all_goals (refine Comes1.run rfl (OkP.r (ok_assign rfl)) rfl rfl rfl ?_ (fun _ => by kernel_rfl)
             rintro _ hz ⟨rfl, _⟩
             subst hz)
  all_goals (refine ⟨fun _ => hC6, ?_⟩)
  all_goals (refine WH.done (by kernel_rfl) ?_)
  skip))
  all_goals (first | (fail_if_success refine goB 8 ?_) | (
  refine goB 8 ?_
  all_goals (refine WC.sr ?_)
  all_goals (refine Go ?_)
  all_goals (refine goC 9 10 ?_ ?_ <;> first | exact ⟨⟩ | refine Hb.mk fun hb => ?_ | skip)
  all_goals (first | (fail_if_success refine goB 9 ?_) | (
  refine goB 9 ?_
  all_goals (refine WC.region ?_)
  all_goals (refine Go ?_)
  all_goals (refine Ld ?_)
  all_goals (refine WL.stepR (okE_buildSlice (vs := [_]) (cs := [_]) (fun | [a0] => [a0] | _ => []) Tryz.underlying22 rfl rfl (by kernel_rfl)) rfl rfl rfl ?_
             rintro _ h1 ⟨b1, rfl, hg1, hb1, hx1⟩)
  all_goals (refine Go ?_)
  skip))
  all_goals (first | (fail_if_success refine goB 10 ?_) | (
  refine goB 10 ?_
  all_goals (refine WC.sr ?_)
  all_goals (refine Go ?_)
  all_goals (refine Gs [(1, _), (2, _), (5, _), (13, _), (38, _)] ?_)
  all_goals (refine goC 11 12 ?_ ?_ <;> first | exact ⟨⟩ | refine Hb.mk fun hb => ?_ | skip)
  all_goals (first | (fail_if_success refine goB 12 ?_) | (
  refine goB 12 ?_
  all_goals (refine WC.sr ?_)
  all_goals (refine Go ?_)
  all_goals (refine goC 13 14 ?_ ?_ <;> first | exact ⟨⟩ | refine Hb.mk fun hb => ?_ | skip)
  all_goals (first | (fail_if_success refine goB 14 ?_) | (
  refine goB 14 ?_
  all_goals (refine WC.sr ?_)
  all_goals (refine Go ?_)
  all_goals (refine Gs [(1, _), (2, _), (5, _), (13, _), (48, _)] ?_)
  all_goals (refine goC 15 16 ?_ ?_ <;> first | exact ⟨⟩ | refine Hb.mk fun hb => ?_ | skip)
  all_goals (first | (fail_if_success refine goB 16 ?_) | (
  refine goB 16 ?_
  all_goals (refine WC.sr ?_)
  all_goals (refine Go ?_)
  all_goals (refine goC 17 18 ?_ ?_ <;> first | exact ⟨⟩ | refine Hb.mk fun hb => ?_ | skip)
  all_goals (first | (fail_if_success refine goB 18 ?_) | (
  refine goB 18 ?_
  all_goals (refine WC.seq ?_)
  all_goals (refine WC.sr ?_)
  all_goals (refine Go ?_)
  all_goals (refine Gs [(1, _), (2, _), (5, _), (13, _), (58, _)] ?_)
  all_goals (refine goC 19 20 ?_ ?_ <;> first | exact ⟨⟩ | refine Hb.mk fun hb => ?_ | skip)
  all_goals (first | (fail_if_success refine goB 19 ?_) | (
  refine goB 19 ?_
  all_goals (refine WC.skip ?_)
  skip))
  all_goals (first | (fail_if_success refine goB 20 ?_) | (
  refine goB 20 ?_
  all_goals (refine WC.region ?_)
  all_goals (refine Go ?_)
  skip))
  all_goals (refine Gn ?_)
  all_goals (refine goC 21 22 ?_ ?_ <;> first | exact ⟨⟩ | refine Hb.mk fun hb => ?_ | skip)
  all_goals (first | (fail_if_success refine goB 22 ?_) | (
  refine goB 22 ?_
  all_goals (refine WC.skip ?_)
  skip))
  skip))
  skip))
  skip))
  skip))
  skip))
  skip))
  skip))
  skip))
  all_goals (refine Gn ?_)
  all_goals (refine WC.sr ?_)
  all_goals (have hb16 := x6.obj hb13 nos
             have hb26 := x6.obj hb23 nos
             obtain ⟨A6, c6, e6, _⟩ := o6.slice
             have hO := o6
             try rw [e6] at hO
             subst e6)
  all_goals (refine WL.step (ok_fieldAddr rfl Tryz.underlying28 rfl (fun w => Tryz.sizeOf5 w)) rfl rfl rfl ?_)
  all_goals (refine WL.ld rfl (by first | exact cell_blk hb16 rfl | assumption | exact cell_blk (by assumption) rfl) rfl rfl rfl ?_)
  all_goals (refine Go ?_)
  all_goals (refine WL.step (ok_buildF (vs := [_, _]) (cs := [_, _]) (fun | [a0, a1] => [a0, a1] | _ => []) rfl rfl (by kernel_rfl)) rfl rfl rfl ?_)
  all_goals (refine WL.stepR0 (okE_storeW (fun w => Tryz.sizeOf54 w) rfl rfl rfl hb26 rfl (by simp [Value.oneCell'])) rfl rfl ?_
             rintro _ h7 ⟨hb7, hx7⟩)
  all_goals (refine Go ?_)
  all_goals (refine Gs [(2, _), (3, _)] ?_)
  all_goals (refine WC.ret ?_)
  all_goals (repeat' (with_reducible first | refine thenP_r ?_ | refine blockP_r ?_))
  all_goals (refine retP_2 _ _ ⟨⟨_, rfl, ld_blk (fun w => Tryz.isAgg54 w) (fun w => Tryz.sizeOf54 w) hb7 rfl⟩, rfl, trivial⟩ ?_)
  all_goals (exact ⟨_, rfl, o6.ext hx7 (fun q hq e => by obtain ⟨_, z⟩ := own_kind o6 hq; rw [e, hb26] at z; simp at z), (hX3.trans x6).trans' hx7 (fun q hq e => by have := hx1.size; omega)⟩)
set_option maxHeartbeats 4000000 in
set_option maxRecDepth 100000 in
theorem encW_90 {h : Heap} (b : Bk) (hb : b.ok h) (hw : b.wf) (hmd : b.big) (hmay : b.may) (hk : b.kind = 90) :
    CallsH Tryz.prog 22 ⟨[.agg ⟨b.cells⟩]⟩ h fun u h' => ∃ v', u = .tuple ⟨[.agg ⟨[.int .u8 90, v']⟩, In 0]⟩ ∧ Own h' v' 5 1 (encBk b).length (bys (encBk b)) ∧ Ext No h h' := by
  have kc := fun h' (hx : Ext No h h') => checkW07 b (hb.ext0 hx) hw.kind hmd
  have hL : encBk b = [UInt8.ofNat b.status.toNat] := by simp [encBk, hk]
  rw [hL]
  clear hL
  have hst := hw.status
  obtain ⟨md5, md6, md7, md8, md9, md10⟩ := hmd
  have md1 := hmay.oids.1
  have md2 := hmay.cols.1
  have md3 := hmay.row.1
  have md4 := hmay.fields.1
  have m_c := hmay.cols.2
  have m_o := hmay.oids.2
  have m_n := hmay.n
  have m_m := hmay.m
  have m_r := hmay.row.2
  have hF : ∀ f ∈ b.fields, f.t.length ≤ 1048576 ∧ 0 ≤ f.k ∧ f.k ≤ 255 := fun f hf => ⟨md7 f hf, hw.codes f hf⟩
  clear hw
  obtain ⟨ho, hc, hr, hf⟩ := hb
  obtain ⟨k, st, t, n, v, x, y, vo, lo, vc, lc, vr, lr, vf, lf⟩ := b
  dsimp only at hk hst ho hc hr hf md1 md2 md3 md4 md5 md6 md7 md8 md9 md10 m_c m_o m_n m_m m_r hF ⊢
  have hro := ho.1
  have hrc := hc.1
  have hrr := hr.1
  have hrf := hf.1
  obtain ⟨Ao, co, rfl, _⟩ := id hro
  obtain ⟨Ac, cc, rfl, _⟩ := id hrc
  obtain ⟨Ar, cr, rfl, _⟩ := id hrr
  obtain ⟨Af, cf, rfl, _⟩ := id hrf
  dsimp only [Bk.cells] at kc ⊢
  subst hk
  refine calls [(0, _)] Tryz.func22 rfl Tryz.ntmps22 rfl ⟨rfl, trivial⟩ ?_
  all_goals (refine WC.sr ?_)
  all_goals (refine WL.stepR (okE_box rfl) rfl rfl rfl ?_
             rintro _ h1 ⟨b1, rfl, hg1, hb1, hx1⟩)
  all_goals (refine WL.stepR (okE_alloc (fun w => Tryz.zeroValue54 w)) rfl rfl rfl ?_
             rintro _ h2 ⟨b2, rfl, hg2, hb2, hx2⟩)
  all_goals (have hX2 := hx1.trans hx2
             have hb12 := hx2.obj hb1 nos)
  all_goals (refine Go ?_)
  all_goals (refine WC.seq ?_)
  all_goals (refine WC.sr ?_)
  all_goals (refine WL.step (ok_loadN (fun w => Tryz.isAgg28 w) (fun w => Tryz.sizeOf28 w) rfl rfl (by exact At.of_block hb12)) rfl rfl rfl ?_)
  all_goals (refine WL.call (vs := [_]) rfl (fun a w => Tryz.call65 a w) rfl (kc _ hX2) rfl rfl rfl ?_
             rintro _ h3 ⟨⟨e, rfl, he⟩, hx3⟩
             obtain rfl := he.2 hmay)
  all_goals (have hb13 := hx3.obj hb12 nos
             have hb23 := hx3.obj hb2 nos
             have hX3 := hX2.trans hx3
             have l1 := lt_of_some hb13
             have l2 := lt_of_some hb23)
  all_goals (refine Go ?_)
  all_goals (refine Gs [(1, _), (2, _), (4, _)] ?_)
  all_goals (refine WC.sr ?_)
  all_goals (refine Go ?_)
  all_goals (refine goC 1 2 ?_ ?_ <;> first | exact ⟨⟩ | refine Hb.mk fun hb => ?_ | skip)
  all_goals (first | (fail_if_success refine goB 1 ?_) | (
  refine goB 1 ?_
  all_goals (refine WC.sr ?_)
  all_goals (refine WL.step (ok_buildF (vs := []) (cs := [_, _]) (fun | [] => [(.int .u8 0), (.slice none 0 0)] | _ => []) rfl rfl (by kernel_rfl)) rfl rfl rfl ?_)
  all_goals (refine Go ?_)
  all_goals (refine WL.stepR0 (okE_storeW (fun w => Tryz.sizeOf54 w) rfl rfl rfl (by assumption) rfl (by simp [Value.oneCell'])) rfl rfl ?_
             rintro _ h1 ⟨hb1, hx1⟩)
  all_goals (refine Go ?_)
  all_goals (refine Gs [(2, _), (3, _)] ?_)
  all_goals (refine WC.ret ?_)
  all_goals (repeat' (with_reducible first | refine thenP_r ?_ | refine blockP_r ?_))
  all_goals (refine retP_2 _ _ ⟨⟨_, rfl, ld_blk (fun w => Tryz.isAgg54 w) (fun w => Tryz.sizeOf54 w) hb7 rfl⟩, rfl, trivial⟩ ?_)
  all_goals (exact ⟨_, rfl, o6.ext hx7 (fun q hq e => by obtain ⟨_, z⟩ := own_kind o6 hq; rw [e, hb26] at z; simp at z), (hX3.trans x6).trans' hx7 (fun q hq e => by have := hx1.size; omega)⟩)
  skip))
  all_goals (first | (fail_if_success refine goB 2 ?_) | (
  refine goB 2 ?_
  all_goals (refine WC.skip ?_)
  skip))
  all_goals (refine Gn ?_)
  all_goals (refine WC.sr ?_)
  all_goals (refine Go ?_)
  all_goals (refine WC.seq ?_)
  all_goals (refine WC.sr ?_)
  all_goals (refine Go ?_)
  all_goals (refine WL.ld rfl (by first | exact cell_blk hb13 rfl | assumption | exact cell_blk (by assumption) rfl) rfl rfl rfl ?_)
  all_goals (refine Gn ?_)
  all_goals (refine Gs [(1, _), (2, _), (5, _), (13, _)] ?_)
  all_goals (refine WC.block ?_)
  all_goals (refine WC.sr ?_)
  all_goals (refine Go ?_)
  all_goals (refine goC 3 4 ?_ ?_ <;> first | exact ⟨⟩ | refine Hb.mk fun hb => ?_ | skip)
  all_goals (first | (fail_if_success refine goB 4 ?_) | (
  refine goB 4 ?_
  all_goals (refine WC.sr ?_)
  all_goals (refine Go ?_)
  all_goals (refine goC 5 6 ?_ ?_ <;> first | exact ⟨⟩ | refine Hb.mk fun hb => ?_ | skip)
  all_goals (first | (fail_if_success refine goB 6 ?_) | (
  refine goB 6 ?_
  all_goals (refine WC.sr ?_)
  all_goals (refine Go ?_)
  all_goals (refine Gs [(1, _), (2, _), (5, _), (13, _), (25, _)] ?_)
  all_goals (refine goC 7 8 ?_ ?_ <;> first | exact ⟨⟩ | refine Hb.mk fun hb => ?_ | skip)
  all_goals (first | (fail_if_success refine goB 8 ?_) | (
  refine goB 8 ?_
  all_goals (refine WC.sr ?_)
  all_goals (refine Go ?_)
  all_goals (refine goC 9 10 ?_ ?_ <;> first | exact ⟨⟩ | refine Hb.mk fun hb => ?_ | skip)
  all_goals (first | (fail_if_success refine goB 9 ?_) | (
  refine goB 9 ?_
  all_goals (refine WC.region ?_)
  all_goals (refine Go ?_)
  all_goals (refine WL.ld rfl (by first | exact cell_blk hb13 rfl | assumption | exact cell_blk (by assumption) rfl) rfl rfl rfl ?_)
  all_goals (refine WL.stepR (okE_buildSlice (vs := [_]) (cs := [_]) (fun | [a0] => [a0] | _ => []) Tryz.underlying22 rfl rfl (by kernel_rfl)) rfl rfl rfl ?_
             rintro _ h6 ⟨b6, rfl, hg6, hb6, x6⟩)
  all_goals (have o6 : Own h6 _ 5 1 ([UInt8.ofNat st.toNat]).length (bys ([UInt8.ofNat st.toNat])) := own_blk (by show h6[b6]? = some (.cells ⟨bys [UInt8.ofNat st.toNat]⟩ 5 (0, 0)); rw [show bys [UInt8.ofNat st.toNat] = [.int .u8 st] by simp only [bys, List.map_cons, List.map_nil]; exact congrArg (fun z => [z]) (byK hst.1 hst.2)]; exact hb6) rfl (by simp [maxLen]))
  all_goals (refine Go ?_)
  skip))
  all_goals (first | (fail_if_success refine goB 10 ?_) | (
  refine goB 10 ?_
  all_goals (refine WC.sr ?_)
  all_goals (refine Go ?_)
  all_goals (refine Gs [(1, _), (2, _), (5, _), (13, _), (38, _)] ?_)
  all_goals (refine goC 11 12 ?_ ?_ <;> first | exact ⟨⟩ | refine Hb.mk fun hb => ?_ | skip)
  all_goals (first | (fail_if_success refine goB 12 ?_) | (
  refine goB 12 ?_
  all_goals (refine WC.sr ?_)
  all_goals (refine Go ?_)
  all_goals (refine goC 13 14 ?_ ?_ <;> first | exact ⟨⟩ | refine Hb.mk fun hb => ?_ | skip)
  all_goals (first | (fail_if_success refine goB 14 ?_) | (
  refine goB 14 ?_
  all_goals (refine WC.sr ?_)
  all_goals (refine Go ?_)
  all_goals (refine Gs [(1, _), (2, _), (5, _), (13, _), (48, _)] ?_)
  all_goals (refine goC 15 16 ?_ ?_ <;> first | exact ⟨⟩ | refine Hb.mk fun hb => ?_ | skip)
  all_goals (first | (fail_if_success refine goB 16 ?_) | (
  refine goB 16 ?_
  all_goals (refine WC.sr ?_)
  all_goals (refine Go ?_)
  all_goals (refine goC 17 18 ?_ ?_ <;> first | exact ⟨⟩ | refine Hb.mk fun hb => ?_ | skip)
  all_goals (first | (fail_if_success refine goB 18 ?_) | (
  refine goB 18 ?_
  all_goals (refine WC.seq ?_)
  all_goals (refine WC.sr ?_)
  all_goals (refine Go ?_)
  all_goals (refine Gs [(1, _), (2, _), (5, _), (13, _), (58, _)] ?_)
  all_goals (refine goC 19 20 ?_ ?_ <;> first | exact ⟨⟩ | refine Hb.mk fun hb => ?_ | skip)
  all_goals (first | (fail_if_success refine goB 19 ?_) | (
  refine goB 19 ?_
  all_goals (refine WC.skip ?_)
  skip))
  all_goals (first | (fail_if_success refine goB 20 ?_) | (
  refine goB 20 ?_
  all_goals (refine WC.region ?_)
  all_goals (refine Go ?_)
  skip))
  all_goals (refine Gn ?_)
  all_goals (refine goC 21 22 ?_ ?_ <;> first | exact ⟨⟩ | refine Hb.mk fun hb => ?_ | skip)
  all_goals (first | (fail_if_success refine goB 22 ?_) | (
  refine goB 22 ?_
  all_goals (refine WC.skip ?_)
  skip))
  skip))
  skip))
  skip))
  skip))
  skip))
  skip))
  skip))
  skip))
  all_goals (refine Gn ?_)
  all_goals (refine WC.sr ?_)
  all_goals (have hb16 := x6.obj hb13 nos
             have hb26 := x6.obj hb23 nos
             obtain ⟨A6, c6, e6, _⟩ := o6.slice
             have hO := o6
             try rw [e6] at hO)
  all_goals (refine WL.step (ok_fieldAddr rfl Tryz.underlying28 rfl (fun w => Tryz.sizeOf5 w)) rfl rfl rfl ?_)
  all_goals (refine WL.ld rfl (by first | exact cell_blk hb16 rfl | assumption | exact cell_blk (by assumption) rfl) rfl rfl rfl ?_)
  all_goals (refine Go ?_)
  all_goals (refine WL.step (ok_buildF (vs := [_, _]) (cs := [_, _]) (fun | [a0, a1] => [a0, a1] | _ => []) rfl rfl (by kernel_rfl)) rfl rfl rfl ?_)
  all_goals (refine WL.stepR0 (okE_storeW (fun w => Tryz.sizeOf54 w) rfl rfl rfl hb26 rfl (by simp [Value.oneCell'])) rfl rfl ?_
             rintro _ h7 ⟨hb7, hx7⟩)
  all_goals (refine Go ?_)
  all_goals (refine Gs [(2, _), (3, _)] ?_)
  all_goals (refine WC.ret ?_)
  all_goals (repeat' (with_reducible first | refine thenP_r ?_ | refine blockP_r ?_))
  all_goals (refine retP_2 _ _ ⟨⟨_, rfl, ld_blk (fun w => Tryz.isAgg54 w) (fun w => Tryz.sizeOf54 w) hb7 rfl⟩, rfl, trivial⟩ ?_)
  all_goals (exact ⟨_, rfl, o6.ext hx7 (fun q hq e => by obtain ⟨_, z⟩ := own_kind o6 hq; rw [e, hb26] at z; simp at z), (hX3.trans x6).trans' hx7 (fun q hq e => by have := hx1.size; omega)⟩)
set_option maxHeartbeats 4000000 in
set_option maxRecDepth 100000 in
theorem encW_67 {h : Heap} (b : Bk) (hb : b.ok h) (hw : b.wf) (hmd : b.big) (hmay : b.may) (hk : b.kind = 67) :
    CallsH Tryz.prog 22 ⟨[.agg ⟨b.cells⟩]⟩ h fun u h' => ∃ v', u = .tuple ⟨[.agg ⟨[.int .u8 67, v']⟩, In 0]⟩ ∧ Own h' v' 5 1 (encBk b).length (bys (encBk b)) ∧ Ext No h h' := by
  have kc := fun h' (hx : Ext No h h') => checkW07 b (hb.ext0 hx) hw.kind hmd
  have hL : encBk b = b.tag ++ [0] := by simp [encBk, hk]
  rw [hL]
  clear hL
  have hst := hw.status
  obtain ⟨md5, md6, md7, md8, md9, md10⟩ := hmd
  have md1 := hmay.oids.1
  have md2 := hmay.cols.1
  have md3 := hmay.row.1
  have md4 := hmay.fields.1
  have m_c := hmay.cols.2
  have m_o := hmay.oids.2
  have m_n := hmay.n
  have m_m := hmay.m
  have m_r := hmay.row.2
  have hF : ∀ f ∈ b.fields, f.t.length ≤ 1048576 ∧ 0 ≤ f.k ∧ f.k ≤ 255 := fun f hf => ⟨md7 f hf, hw.codes f hf⟩
  clear hw
  obtain ⟨ho, hc, hr, hf⟩ := hb
  obtain ⟨k, st, t, n, v, x, y, vo, lo, vc, lc, vr, lr, vf, lf⟩ := b
  dsimp only at hk hst ho hc hr hf md1 md2 md3 md4 md5 md6 md7 md8 md9 md10 m_c m_o m_n m_m m_r hF ⊢
  have hro := ho.1
  have hrc := hc.1
  have hrr := hr.1
  have hrf := hf.1
  obtain ⟨Ao, co, rfl, _⟩ := id hro
  obtain ⟨Ac, cc, rfl, _⟩ := id hrc
  obtain ⟨Ar, cr, rfl, _⟩ := id hrr
  obtain ⟨Af, cf, rfl, _⟩ := id hrf
  dsimp only [Bk.cells] at kc ⊢
  subst hk
  refine calls [(0, _)] Tryz.func22 rfl Tryz.ntmps22 rfl ⟨rfl, trivial⟩ ?_
  all_goals (refine WC.sr ?_)
  all_goals (refine WL.stepR (okE_box rfl) rfl rfl rfl ?_
             rintro _ h1 ⟨b1, rfl, hg1, hb1, hx1⟩)
  all_goals (refine WL.stepR (okE_alloc (fun w => Tryz.zeroValue54 w)) rfl rfl rfl ?_
             rintro _ h2 ⟨b2, rfl, hg2, hb2, hx2⟩)
  all_goals (have hX2 := hx1.trans hx2
             have hb12 := hx2.obj hb1 nos)
  all_goals (refine Go ?_)
  all_goals (refine WC.seq ?_)
  all_goals (refine WC.sr ?_)
  all_goals (refine WL.step (ok_loadN (fun w => Tryz.isAgg28 w) (fun w => Tryz.sizeOf28 w) rfl rfl (by exact At.of_block hb12)) rfl rfl rfl ?_)
  all_goals (refine WL.call (vs := [_]) rfl (fun a w => Tryz.call65 a w) rfl (kc _ hX2) rfl rfl rfl ?_
             rintro _ h3 ⟨⟨e, rfl, he⟩, hx3⟩
             obtain rfl := he.2 hmay)
  all_goals (have hb13 := hx3.obj hb12 nos
             have hb23 := hx3.obj hb2 nos
             have hX3 := hX2.trans hx3
             have l1 := lt_of_some hb13
             have l2 := lt_of_some hb23)
  all_goals (refine Go ?_)
  all_goals (refine Gs [(1, _), (2, _), (4, _)] ?_)
  all_goals (refine WC.sr ?_)
  all_goals (refine Go ?_)
  all_goals (refine goC 1 2 ?_ ?_ <;> first | exact ⟨⟩ | refine Hb.mk fun hb => ?_ | skip)
  all_goals (first | (fail_if_success refine goB 1 ?_) | (
  refine goB 1 ?_
  all_goals (refine WC.sr ?_)
  all_goals (refine WL.step (ok_buildF (vs := []) (cs := [_, _]) (fun | [] => [(.int .u8 0), (.slice none 0 0)] | _ => []) rfl rfl (by kernel_rfl)) rfl rfl rfl ?_)
  all_goals (refine Go ?_)
  all_goals (refine WL.stepR0 (okE_storeW (fun w => Tryz.sizeOf54 w) rfl rfl rfl (by assumption) rfl (by simp [Value.oneCell'])) rfl rfl ?_
             rintro _ h1 ⟨hb1, hx1⟩)
  all_goals (refine Go ?_)
  all_goals (refine Gs [(2, _), (3, _)] ?_)
  all_goals (refine WC.ret ?_)
  all_goals (repeat' (with_reducible first | refine thenP_r ?_ | refine blockP_r ?_))
  all_goals (refine retP_2 _ _ ⟨⟨_, rfl, ld_blk (fun w => Tryz.isAgg54 w) (fun w => Tryz.sizeOf54 w) hb7 rfl⟩, rfl, trivial⟩ ?_)
  all_goals (exact ⟨_, rfl, o6.ext hx7 (fun q hq e => by obtain ⟨_, z⟩ := own_kind o6 hq; rw [e, hb26] at z; simp at z), (hX3.trans x6).trans' hx7 (fun q hq e => by have := hx1.size; omega)⟩)
  skip))
  all_goals (first | (fail_if_success refine goB 2 ?_) | (
  refine goB 2 ?_
  all_goals (refine WC.skip ?_)
  skip))
  all_goals (refine Gn ?_)
  all_goals (refine WC.sr ?_)
  all_goals (refine Go ?_)
  all_goals (refine WC.seq ?_)
  all_goals (refine WC.sr ?_)
  all_goals (refine Go ?_)
  all_goals (refine WL.ld rfl (by first | exact cell_blk hb13 rfl | assumption | exact cell_blk (by assumption) rfl) rfl rfl rfl ?_)
  all_goals (refine Gn ?_)
  all_goals (refine Gs [(1, _), (2, _), (5, _), (13, _)] ?_)
  all_goals (refine WC.block ?_)
  all_goals (refine WC.sr ?_)
  all_goals (refine Go ?_)
  all_goals (refine goC 3 4 ?_ ?_ <;> first | exact ⟨⟩ | refine Hb.mk fun hb => ?_ | skip)
  all_goals (first | (fail_if_success refine goB 4 ?_) | (
  refine goB 4 ?_
  all_goals (refine WC.sr ?_)
  all_goals (refine Go ?_)
  all_goals (refine goC 5 6 ?_ ?_ <;> first | exact ⟨⟩ | refine Hb.mk fun hb => ?_ | skip)
  all_goals (first | (fail_if_success refine goB 6 ?_) | (
  refine goB 6 ?_
  all_goals (refine WC.sr ?_)
  all_goals (refine Go ?_)
  all_goals (refine Gs [(1, _), (2, _), (5, _), (13, _), (25, _)] ?_)
  all_goals (refine goC 7 8 ?_ ?_ <;> first | exact ⟨⟩ | refine Hb.mk fun hb => ?_ | skip)
  all_goals (first | (fail_if_success refine goB 8 ?_) | (
  refine goB 8 ?_
  all_goals (refine WC.sr ?_)
  all_goals (refine Go ?_)
  all_goals (refine goC 9 10 ?_ ?_ <;> first | exact ⟨⟩ | refine Hb.mk fun hb => ?_ | skip)
  all_goals (first | (fail_if_success refine goB 9 ?_) | (
  refine goB 9 ?_
  all_goals (refine WC.region ?_)
  all_goals (refine Go ?_)
  all_goals (refine Ld ?_)
  all_goals (refine WL.stepR (okE_buildSlice (vs := [_]) (cs := [_]) (fun | [a0] => [a0] | _ => []) Tryz.underlying22 rfl rfl (by kernel_rfl)) rfl rfl rfl ?_
             rintro _ h1 ⟨b1, rfl, hg1, hb1, hx1⟩)
  all_goals (refine Go ?_)
  skip))
  all_goals (first | (fail_if_success refine goB 10 ?_) | (
  refine goB 10 ?_
  all_goals (refine WC.sr ?_)
  all_goals (refine Go ?_)
  all_goals (refine Gs [(1, _), (2, _), (5, _), (13, _), (38, _)] ?_)
  all_goals (refine goC 11 12 ?_ ?_ <;> first | exact ⟨⟩ | refine Hb.mk fun hb => ?_ | skip)
  all_goals (first | (fail_if_success refine goB 11 ?_) | (
  refine goB 11 ?_
  all_goals (refine WC.region ?_)
  all_goals (refine Go ?_)
  all_goals (refine WL.ld rfl (by first | exact cell_blk hb13 rfl | assumption | exact cell_blk (by assumption) rfl) rfl rfl rfl ?_)
  all_goals (refine WL.call (vs := [_, _]) rfl (fun a w => Tryz.call67 a w) rfl (str06 [] t (Own.nil _ _ _) (by simp only [List.length_nil]; omega)) rfl rfl rfl ?_
             rintro v6 h6 ⟨ho6, hr6⟩
             obtain ⟨hC6, hF6⟩ := hr6.fresh (.refl _ h3) (by simp [Value.ownBlock])
             have o6 : Own h6 v6 5 1 (t ++ [0]).length (bys (t ++ [0])) := by simpa using ho6
             have x6 : Ext No h3 h6 := hC6)
  all_goals (refine Go ?_)
  skip))
  all_goals (first | (fail_if_success refine goB 12 ?_) | (
  refine goB 12 ?_
  all_goals (refine WC.sr ?_)
  all_goals (refine Go ?_)
  all_goals (refine goC 13 14 ?_ ?_ <;> first | exact ⟨⟩ | refine Hb.mk fun hb => ?_ | skip)
  all_goals (first | (fail_if_success refine goB 14 ?_) | (
  refine goB 14 ?_
  all_goals (refine WC.sr ?_)
  all_goals (refine Go ?_)
  all_goals (refine Gs [(1, _), (2, _), (5, _), (13, _), (48, _)] ?_)
  all_goals (refine goC 15 16 ?_ ?_ <;> first | exact ⟨⟩ | refine Hb.mk fun hb => ?_ | skip)
  all_goals (first | (fail_if_success refine goB 16 ?_) | (
  refine goB 16 ?_
  all_goals (refine WC.sr ?_)
  all_goals (refine Go ?_)
  all_goals (refine goC 17 18 ?_ ?_ <;> first | exact ⟨⟩ | refine Hb.mk fun hb => ?_ | skip)
  all_goals (first | (fail_if_success refine goB 18 ?_) | (
  refine goB 18 ?_
  all_goals (refine WC.seq ?_)
  all_goals (refine WC.sr ?_)
  all_goals (refine Go ?_)
  all_goals (refine Gs [(1, _), (2, _), (5, _), (13, _), (58, _)] ?_)
  all_goals (refine goC 19 20 ?_ ?_ <;> first | exact ⟨⟩ | refine Hb.mk fun hb => ?_ | skip)
  all_goals (first | (fail_if_success refine goB 19 ?_) | (
  refine goB 19 ?_
  all_goals (refine WC.skip ?_)
  skip))
  all_goals (first | (fail_if_success refine goB 20 ?_) | (
  refine goB 20 ?_
  all_goals (refine WC.region ?_)
  all_goals (refine Go ?_)
  skip))
  all_goals (refine Gn ?_)
  all_goals (refine goC 21 22 ?_ ?_ <;> first | exact ⟨⟩ | refine Hb.mk fun hb => ?_ | skip)
  all_goals (first | (fail_if_success refine goB 22 ?_) | (
  refine goB 22 ?_
  all_goals (refine WC.skip ?_)
  skip))
  skip))
  skip))
  skip))
  skip))
  skip))
  skip))
  skip))
  skip))
  all_goals (refine Gn ?_)
  all_goals (refine WC.sr ?_)
  all_goals (have hb16 := x6.obj hb13 nos
             have hb26 := x6.obj hb23 nos
             obtain ⟨A6, c6, e6, _⟩ := o6.slice
             have hO := o6
             try rw [e6] at hO
             subst e6)
  all_goals (refine WL.step (ok_fieldAddr rfl Tryz.underlying28 rfl (fun w => Tryz.sizeOf5 w)) rfl rfl rfl ?_)
  all_goals (refine WL.ld rfl (by first | exact cell_blk hb16 rfl | assumption | exact cell_blk (by assumption) rfl) rfl rfl rfl ?_)
  all_goals (refine Go ?_)
  all_goals (refine WL.step (ok_buildF (vs := [_, _]) (cs := [_, _]) (fun | [a0, a1] => [a0, a1] | _ => []) rfl rfl (by kernel_rfl)) rfl rfl rfl ?_)
  all_goals (refine WL.stepR0 (okE_storeW (fun w => Tryz.sizeOf54 w) rfl rfl rfl hb26 rfl (by simp [Value.oneCell'])) rfl rfl ?_
             rintro _ h7 ⟨hb7, hx7⟩)
  all_goals (refine Go ?_)
  all_goals (refine Gs [(2, _), (3, _)] ?_)
  all_goals (refine WC.ret ?_)
  all_goals (repeat' (with_reducible first | refine thenP_r ?_ | refine blockP_r ?_))
  all_goals (refine retP_2 _ _ ⟨⟨_, rfl, ld_blk (fun w => Tryz.isAgg54 w) (fun w => Tryz.sizeOf54 w) hb7 rfl⟩, rfl, trivial⟩ ?_)
  all_goals (exact ⟨_, rfl, o6.ext hx7 (fun q hq e => by obtain ⟨_, z⟩ := own_kind o6 hq; rw [e, hb26] at z; simp at z), (hX3.trans x6).trans' hx7 (fun q hq e => by have := hx1.size; omega)⟩)
set_option maxHeartbeats 4000000 in
set_option maxRecDepth 100000 in
theorem encW_68 {h : Heap} (b : Bk) (hb : b.ok h) (hw : b.wf) (hmd : b.big) (hmay : b.may) (hk : b.kind = 68) :
    CallsH Tryz.prog 22 ⟨[.agg ⟨b.cells⟩]⟩ h fun u h' => ∃ v', u = .tuple ⟨[.agg ⟨[.int .u8 68, v']⟩, In 0]⟩ ∧ Own h' v' 5 1 (encBk b).length (bys (encBk b)) ∧ Ext No h h' := by
  have kc := fun h' (hx : Ext No h h') => checkW07 b (hb.ext0 hx) hw.kind hmd
  have hL : encBk b = be b.row.length 2 ++ b.row.flatMap encCel := by simp [encBk, hk]
  rw [hL]
  clear hL
  have hst := hw.status
  obtain ⟨md5, md6, md7, md8, md9, md10⟩ := hmd
  have md1 := hmay.oids.1
  have md2 := hmay.cols.1
  have md3 := hmay.row.1
  have md4 := hmay.fields.1
  have m_c := hmay.cols.2
  have m_o := hmay.oids.2
  have m_n := hmay.n
  have m_m := hmay.m
  have m_r := hmay.row.2
  have hF : ∀ f ∈ b.fields, f.t.length ≤ 1048576 ∧ 0 ≤ f.k ∧ f.k ≤ 255 := fun f hf => ⟨md7 f hf, hw.codes f hf⟩
  clear hw
  obtain ⟨ho, hc, hr, hf⟩ := hb
  obtain ⟨k, st, t, n, v, x, y, vo, lo, vc, lc, vr, lr, vf, lf⟩ := b
  dsimp only at hk hst ho hc hr hf md1 md2 md3 md4 md5 md6 md7 md8 md9 md10 m_c m_o m_n m_m m_r hF ⊢
  have hro := ho.1
  have hrc := hc.1
  have hrr := hr.1
  have hrf := hf.1
  obtain ⟨Ao, co, rfl, _⟩ := id hro
  obtain ⟨Ac, cc, rfl, _⟩ := id hrc
  obtain ⟨Ar, cr, rfl, _⟩ := id hrr
  obtain ⟨Af, cf, rfl, _⟩ := id hrf
  dsimp only [Bk.cells] at kc ⊢
  subst hk
  refine calls [(0, _)] Tryz.func22 rfl Tryz.ntmps22 rfl ⟨rfl, trivial⟩ ?_
  all_goals (refine WC.sr ?_)
  all_goals (refine WL.stepR (okE_box rfl) rfl rfl rfl ?_
             rintro _ h1 ⟨b1, rfl, hg1, hb1, hx1⟩)
  all_goals (refine WL.stepR (okE_alloc (fun w => Tryz.zeroValue54 w)) rfl rfl rfl ?_
             rintro _ h2 ⟨b2, rfl, hg2, hb2, hx2⟩)
  all_goals (have hX2 := hx1.trans hx2
             have hb12 := hx2.obj hb1 nos)
  all_goals (refine Go ?_)
  all_goals (refine WC.seq ?_)
  all_goals (refine WC.sr ?_)
  all_goals (refine WL.step (ok_loadN (fun w => Tryz.isAgg28 w) (fun w => Tryz.sizeOf28 w) rfl rfl (by exact At.of_block hb12)) rfl rfl rfl ?_)
  all_goals (refine WL.call (vs := [_]) rfl (fun a w => Tryz.call65 a w) rfl (kc _ hX2) rfl rfl rfl ?_
             rintro _ h3 ⟨⟨e, rfl, he⟩, hx3⟩
             obtain rfl := he.2 hmay)
  all_goals (have hb13 := hx3.obj hb12 nos
             have hb23 := hx3.obj hb2 nos
             have hX3 := hX2.trans hx3
             have l1 := lt_of_some hb13
             have l2 := lt_of_some hb23)
  all_goals (refine Go ?_)
  all_goals (refine Gs [(1, _), (2, _), (4, _)] ?_)
  all_goals (refine WC.sr ?_)
  all_goals (refine Go ?_)
  all_goals (refine goC 1 2 ?_ ?_ <;> first | exact ⟨⟩ | refine Hb.mk fun hb => ?_ | skip)
  all_goals (first | (fail_if_success refine goB 1 ?_) | (
  refine goB 1 ?_
  all_goals (refine WC.sr ?_)
  all_goals (refine WL.step (ok_buildF (vs := []) (cs := [_, _]) (fun | [] => [(.int .u8 0), (.slice none 0 0)] | _ => []) rfl rfl (by kernel_rfl)) rfl rfl rfl ?_)
  all_goals (refine Go ?_)
  all_goals (refine WL.stepR0 (okE_storeW (fun w => Tryz.sizeOf54 w) rfl rfl rfl (by assumption) rfl (by simp [Value.oneCell'])) rfl rfl ?_
             rintro _ h1 ⟨hb1, hx1⟩)
  all_goals (refine Go ?_)
  all_goals (refine Gs [(2, _), (3, _)] ?_)
  all_goals (refine WC.ret ?_)
  all_goals (repeat' (with_reducible first | refine thenP_r ?_ | refine blockP_r ?_))
  all_goals (refine retP_2 _ _ ⟨⟨_, rfl, ld_blk (fun w => Tryz.isAgg54 w) (fun w => Tryz.sizeOf54 w) hb7 rfl⟩, rfl, trivial⟩ ?_)
  all_goals (exact ⟨_, rfl, o6.ext hx7 (fun q hq e => by obtain ⟨_, z⟩ := own_kind o6 hq; rw [e, hb26] at z; simp at z), (hX3.trans x6).trans' hx7 (fun q hq e => by have := hx1.size; omega)⟩)
  skip))
  all_goals (first | (fail_if_success refine goB 2 ?_) | (
  refine goB 2 ?_
  all_goals (refine WC.skip ?_)
  skip))
  all_goals (refine Gn ?_)
  all_goals (refine WC.sr ?_)
  all_goals (refine Go ?_)
  all_goals (refine WC.seq ?_)
  all_goals (refine WC.sr ?_)
  all_goals (refine Go ?_)
  all_goals (refine WL.ld rfl (by first | exact cell_blk hb13 rfl | assumption | exact cell_blk (by assumption) rfl) rfl rfl rfl ?_)
  all_goals (refine Gn ?_)
  all_goals (refine Gs [(1, _), (2, _), (5, _), (13, _)] ?_)
  all_goals (refine WC.block ?_)
  all_goals (refine WC.sr ?_)
  all_goals (refine Go ?_)
  all_goals (refine goC 3 4 ?_ ?_ <;> first | exact ⟨⟩ | refine Hb.mk fun hb => ?_ | skip)
  all_goals (first | (fail_if_success refine goB 4 ?_) | (
  refine goB 4 ?_
  all_goals (refine WC.sr ?_)
  all_goals (refine Go ?_)
  all_goals (refine goC 5 6 ?_ ?_ <;> first | exact ⟨⟩ | refine Hb.mk fun hb => ?_ | skip)
  all_goals (first | (fail_if_success refine goB 6 ?_) | (
  refine goB 6 ?_
  all_goals (refine WC.sr ?_)
  all_goals (refine Go ?_)
  all_goals (refine Gs [(1, _), (2, _), (5, _), (13, _), (25, _)] ?_)
  all_goals (refine goC 7 8 ?_ ?_ <;> first | exact ⟨⟩ | refine Hb.mk fun hb => ?_ | skip)
  all_goals (first | (fail_if_success refine goB 8 ?_) | (
  refine goB 8 ?_
  all_goals (refine WC.sr ?_)
  all_goals (refine Go ?_)
  all_goals (refine goC 9 10 ?_ ?_ <;> first | exact ⟨⟩ | refine Hb.mk fun hb => ?_ | skip)
  all_goals (first | (fail_if_success refine goB 9 ?_) | (
  refine goB 9 ?_
  all_goals (refine WC.region ?_)
  all_goals (refine Go ?_)
  all_goals (refine Ld ?_)
  all_goals (refine WL.stepR (okE_buildSlice (vs := [_]) (cs := [_]) (fun | [a0] => [a0] | _ => []) Tryz.underlying22 rfl rfl (by kernel_rfl)) rfl rfl rfl ?_
             rintro _ h1 ⟨b1, rfl, hg1, hb1, hx1⟩)
  all_goals (refine Go ?_)
  skip))
  all_goals (first | (fail_if_success refine goB 10 ?_) | (
  refine goB 10 ?_
  all_goals (refine WC.sr ?_)
  all_goals (refine Go ?_)
  all_goals (refine Gs [(1, _), (2, _), (5, _), (13, _), (38, _)] ?_)
  all_goals (refine goC 11 12 ?_ ?_ <;> first | exact ⟨⟩ | refine Hb.mk fun hb => ?_ | skip)
  all_goals (first | (fail_if_success refine goB 12 ?_) | (
  refine goB 12 ?_
  all_goals (refine WC.sr ?_)
  all_goals (refine Go ?_)
  all_goals (refine goC 13 14 ?_ ?_ <;> first | exact ⟨⟩ | refine Hb.mk fun hb => ?_ | skip)
  all_goals (first | (fail_if_success refine goB 13 ?_) | (
  refine goB 13 ?_
  all_goals (refine WC.region ?_)
  all_goals (refine Go ?_)
  all_goals (refine WL.ld rfl (by first | exact cell_blk hb13 rfl | assumption | exact cell_blk (by assumption) rfl) rfl rfl rfl ?_)
  all_goals (refine WL.call (vs := [_, _]) rfl (fun a w => Tryz.call68 a w) rfl (put06 [] lr (Rd.nil _ _) (hr.ext0 hX3) (by decide) md3 md6) rfl rfl rfl ?_
             rintro v6 h6 ⟨ho6, hx6, hf6⟩
             have o6 : Own h6 v6 5 1 (be (lr.length : Int) 2 ++ lr.flatMap encCel).length (bys (be (lr.length : Int) 2 ++ lr.flatMap encCel)) := by simpa using ho6
             have x6 : Ext No h3 h6 := hx6)
  all_goals (refine Go ?_)
  skip))
  all_goals (first | (fail_if_success refine goB 14 ?_) | (
  refine goB 14 ?_
  all_goals (refine WC.sr ?_)
  all_goals (refine Go ?_)
  all_goals (refine Gs [(1, _), (2, _), (5, _), (13, _), (48, _)] ?_)
  all_goals (refine goC 15 16 ?_ ?_ <;> first | exact ⟨⟩ | refine Hb.mk fun hb => ?_ | skip)
  all_goals (first | (fail_if_success refine goB 16 ?_) | (
  refine goB 16 ?_
  all_goals (refine WC.sr ?_)
  all_goals (refine Go ?_)
  all_goals (refine goC 17 18 ?_ ?_ <;> first | exact ⟨⟩ | refine Hb.mk fun hb => ?_ | skip)
  all_goals (first | (fail_if_success refine goB 18 ?_) | (
  refine goB 18 ?_
  all_goals (refine WC.seq ?_)
  all_goals (refine WC.sr ?_)
  all_goals (refine Go ?_)
  all_goals (refine Gs [(1, _), (2, _), (5, _), (13, _), (58, _)] ?_)
  all_goals (refine goC 19 20 ?_ ?_ <;> first | exact ⟨⟩ | refine Hb.mk fun hb => ?_ | skip)
  all_goals (first | (fail_if_success refine goB 19 ?_) | (
  refine goB 19 ?_
  all_goals (refine WC.skip ?_)
  skip))
  all_goals (first | (fail_if_success refine goB 20 ?_) | (
  refine goB 20 ?_
  all_goals (refine WC.region ?_)
  all_goals (refine Go ?_)
  skip))
  all_goals (refine Gn ?_)
  all_goals (refine goC 21 22 ?_ ?_ <;> first | exact ⟨⟩ | refine Hb.mk fun hb => ?_ | skip)
  all_goals (first | (fail_if_success refine goB 22 ?_) | (
  refine goB 22 ?_
  all_goals (refine WC.skip ?_)
  skip))
  skip))
  skip))
  skip))
  skip))
  skip))
  skip))
  skip))
  skip))
  all_goals (refine Gn ?_)
  all_goals (refine WC.sr ?_)
  all_goals (have hb16 := x6.obj hb13 nos
             have hb26 := x6.obj hb23 nos
             obtain ⟨A6, c6, e6, _⟩ := o6.slice
             have hO := o6
             try rw [e6] at hO
             subst e6)
  all_goals (refine WL.step (ok_fieldAddr rfl Tryz.underlying28 rfl (fun w => Tryz.sizeOf5 w)) rfl rfl rfl ?_)
  all_goals (refine WL.ld rfl (by first | exact cell_blk hb16 rfl | assumption | exact cell_blk (by assumption) rfl) rfl rfl rfl ?_)
  all_goals (refine Go ?_)
  all_goals (refine WL.step (ok_buildF (vs := [_, _]) (cs := [_, _]) (fun | [a0, a1] => [a0, a1] | _ => []) rfl rfl (by kernel_rfl)) rfl rfl rfl ?_)
  all_goals (refine WL.stepR0 (okE_storeW (fun w => Tryz.sizeOf54 w) rfl rfl rfl hb26 rfl (by simp [Value.oneCell'])) rfl rfl ?_
             rintro _ h7 ⟨hb7, hx7⟩)
  all_goals (refine Go ?_)
  all_goals (refine Gs [(2, _), (3, _)] ?_)
  all_goals (refine WC.ret ?_)
  all_goals (repeat' (with_reducible first | refine thenP_r ?_ | refine blockP_r ?_))
  all_goals (refine retP_2 _ _ ⟨⟨_, rfl, ld_blk (fun w => Tryz.isAgg54 w) (fun w => Tryz.sizeOf54 w) hb7 rfl⟩, rfl, trivial⟩ ?_)
  all_goals (exact ⟨_, rfl, o6.ext hx7 (fun q hq e => by obtain ⟨_, z⟩ := own_kind o6 hq; rw [e, hb26] at z; simp at z), (hX3.trans x6).trans' hx7 (fun q hq e => by have := hx1.size; omega)⟩)
set_option maxHeartbeats 4000000 in
set_option maxRecDepth 100000 in
theorem encW_84 {h : Heap} (b : Bk) (hb : b.ok h) (hw : b.wf) (hmd : b.big) (hmay : b.may) (hk : b.kind = 84) :
    CallsH Tryz.prog 22 ⟨[.agg ⟨b.cells⟩]⟩ h fun u h' => ∃ v', u = .tuple ⟨[.agg ⟨[.int .u8 84, v']⟩, In 0]⟩ ∧ Own h' v' 5 1 (encBk b).length (bys (encBk b)) ∧ Ext No h h' := by
  have kc := fun h' (hx : Ext No h h') => checkW07 b (hb.ext0 hx) hw.kind hmd
  have hL : encBk b = be b.cols.length 2 ++ b.cols.flatMap encCol := by simp [encBk, hk]
  rw [hL]
  clear hL
  have hst := hw.status
  obtain ⟨md5, md6, md7, md8, md9, md10⟩ := hmd
  have md1 := hmay.oids.1
  have md2 := hmay.cols.1
  have md3 := hmay.row.1
  have md4 := hmay.fields.1
  have m_c := hmay.cols.2
  have m_o := hmay.oids.2
  have m_n := hmay.n
  have m_m := hmay.m
  have m_r := hmay.row.2
  have hF : ∀ f ∈ b.fields, f.t.length ≤ 1048576 ∧ 0 ≤ f.k ∧ f.k ≤ 255 := fun f hf => ⟨md7 f hf, hw.codes f hf⟩
  clear hw
  obtain ⟨ho, hc, hr, hf⟩ := hb
  obtain ⟨k, st, t, n, v, x, y, vo, lo, vc, lc, vr, lr, vf, lf⟩ := b
  dsimp only at hk hst ho hc hr hf md1 md2 md3 md4 md5 md6 md7 md8 md9 md10 m_c m_o m_n m_m m_r hF ⊢
  have hro := ho.1
  have hrc := hc.1
  have hrr := hr.1
  have hrf := hf.1
  obtain ⟨Ao, co, rfl, _⟩ := id hro
  obtain ⟨Ac, cc, rfl, _⟩ := id hrc
  obtain ⟨Ar, cr, rfl, _⟩ := id hrr
  obtain ⟨Af, cf, rfl, _⟩ := id hrf
  dsimp only [Bk.cells] at kc ⊢
  subst hk
  refine calls [(0, _)] Tryz.func22 rfl Tryz.ntmps22 rfl ⟨rfl, trivial⟩ ?_
  all_goals (refine WC.sr ?_)
  all_goals (refine WL.stepR (okE_box rfl) rfl rfl rfl ?_
             rintro _ h1 ⟨b1, rfl, hg1, hb1, hx1⟩)
  all_goals (refine WL.stepR (okE_alloc (fun w => Tryz.zeroValue54 w)) rfl rfl rfl ?_
             rintro _ h2 ⟨b2, rfl, hg2, hb2, hx2⟩)
  all_goals (have hX2 := hx1.trans hx2
             have hb12 := hx2.obj hb1 nos)
  all_goals (refine Go ?_)
  all_goals (refine WC.seq ?_)
  all_goals (refine WC.sr ?_)
  all_goals (refine WL.step (ok_loadN (fun w => Tryz.isAgg28 w) (fun w => Tryz.sizeOf28 w) rfl rfl (by exact At.of_block hb12)) rfl rfl rfl ?_)
  all_goals (refine WL.call (vs := [_]) rfl (fun a w => Tryz.call65 a w) rfl (kc _ hX2) rfl rfl rfl ?_
             rintro _ h3 ⟨⟨e, rfl, he⟩, hx3⟩
             obtain rfl := he.2 hmay)
  all_goals (have hb13 := hx3.obj hb12 nos
             have hb23 := hx3.obj hb2 nos
             have hX3 := hX2.trans hx3
             have l1 := lt_of_some hb13
             have l2 := lt_of_some hb23)
  all_goals (refine Go ?_)
  all_goals (refine Gs [(1, _), (2, _), (4, _)] ?_)
  all_goals (refine WC.sr ?_)
  all_goals (refine Go ?_)
  all_goals (refine goC 1 2 ?_ ?_ <;> first | exact ⟨⟩ | refine Hb.mk fun hb => ?_ | skip)
  all_goals (first | (fail_if_success refine goB 1 ?_) | (
  refine goB 1 ?_
  all_goals (refine WC.sr ?_)
  all_goals (refine WL.step (ok_buildF (vs := []) (cs := [_, _]) (fun | [] => [(.int .u8 0), (.slice none 0 0)] | _ => []) rfl rfl (by kernel_rfl)) rfl rfl rfl ?_)
  all_goals (refine Go ?_)
  all_goals (refine WL.stepR0 (okE_storeW (fun w => Tryz.sizeOf54 w) rfl rfl rfl (by assumption) rfl (by simp [Value.oneCell'])) rfl rfl ?_
             rintro _ h1 ⟨hb1, hx1⟩)
  all_goals (refine Go ?_)
  all_goals (refine Gs [(2, _), (3, _)] ?_)
  all_goals (refine WC.ret ?_)
  all_goals (repeat' (with_reducible first | refine thenP_r ?_ | refine blockP_r ?_))
  all_goals (refine retP_2 _ _ ⟨⟨_, rfl, ld_blk (fun w => Tryz.isAgg54 w) (fun w => Tryz.sizeOf54 w) hb7 rfl⟩, rfl, trivial⟩ ?_)
  all_goals (exact ⟨_, rfl, o6.ext hx7 (fun q hq e => by obtain ⟨_, z⟩ := own_kind o6 hq; rw [e, hb26] at z; simp at z), (hX3.trans x6).trans' hx7 (fun q hq e => by have := hx1.size; omega)⟩)
  skip))
  all_goals (first | (fail_if_success refine goB 2 ?_) | (
  refine goB 2 ?_
  all_goals (refine WC.skip ?_)
  skip))
  all_goals (refine Gn ?_)
  all_goals (refine WC.sr ?_)
  all_goals (refine Go ?_)
  all_goals (refine WC.seq ?_)
  all_goals (refine WC.sr ?_)
  all_goals (refine Go ?_)
  all_goals (refine WL.ld rfl (by first | exact cell_blk hb13 rfl | assumption | exact cell_blk (by assumption) rfl) rfl rfl rfl ?_)
  all_goals (refine Gn ?_)
  all_goals (refine Gs [(1, _), (2, _), (5, _), (13, _)] ?_)
  all_goals (refine WC.block ?_)
  all_goals (refine WC.sr ?_)
  all_goals (refine Go ?_)
  all_goals (refine goC 3 4 ?_ ?_ <;> first | exact ⟨⟩ | refine Hb.mk fun hb => ?_ | skip)
  all_goals (first | (fail_if_success refine goB 4 ?_) | (
  refine goB 4 ?_
  all_goals (refine WC.sr ?_)
  all_goals (refine Go ?_)
  all_goals (refine goC 5 6 ?_ ?_ <;> first | exact ⟨⟩ | refine Hb.mk fun hb => ?_ | skip)
  all_goals (first | (fail_if_success refine goB 6 ?_) | (
  refine goB 6 ?_
  all_goals (refine WC.sr ?_)
  all_goals (refine Go ?_)
  all_goals (refine Gs [(1, _), (2, _), (5, _), (13, _), (25, _)] ?_)
  all_goals (refine goC 7 8 ?_ ?_ <;> first | exact ⟨⟩ | refine Hb.mk fun hb => ?_ | skip)
  all_goals (first | (fail_if_success refine goB 8 ?_) | (
  refine goB 8 ?_
  all_goals (refine WC.sr ?_)
  all_goals (refine Go ?_)
  all_goals (refine goC 9 10 ?_ ?_ <;> first | exact ⟨⟩ | refine Hb.mk fun hb => ?_ | skip)
  all_goals (first | (fail_if_success refine goB 9 ?_) | (
  refine goB 9 ?_
  all_goals (refine WC.region ?_)
  all_goals (refine Go ?_)
  all_goals (refine Ld ?_)
  all_goals (refine WL.stepR (okE_buildSlice (vs := [_]) (cs := [_]) (fun | [a0] => [a0] | _ => []) Tryz.underlying22 rfl rfl (by kernel_rfl)) rfl rfl rfl ?_
             rintro _ h1 ⟨b1, rfl, hg1, hb1, hx1⟩)
  all_goals (refine Go ?_)
  skip))
  all_goals (first | (fail_if_success refine goB 10 ?_) | (
  refine goB 10 ?_
  all_goals (refine WC.sr ?_)
  all_goals (refine Go ?_)
  all_goals (refine Gs [(1, _), (2, _), (5, _), (13, _), (38, _)] ?_)
  all_goals (refine goC 11 12 ?_ ?_ <;> first | exact ⟨⟩ | refine Hb.mk fun hb => ?_ | skip)
  all_goals (first | (fail_if_success refine goB 12 ?_) | (
  refine goB 12 ?_
  all_goals (refine WC.sr ?_)
  all_goals (refine Go ?_)
  all_goals (refine goC 13 14 ?_ ?_ <;> first | exact ⟨⟩ | refine Hb.mk fun hb => ?_ | skip)
  all_goals (first | (fail_if_success refine goB 14 ?_) | (
  refine goB 14 ?_
  all_goals (refine WC.sr ?_)
  all_goals (refine Go ?_)
  all_goals (refine Gs [(1, _), (2, _), (5, _), (13, _), (48, _)] ?_)
  all_goals (refine goC 15 16 ?_ ?_ <;> first | exact ⟨⟩ | refine Hb.mk fun hb => ?_ | skip)
  all_goals (first | (fail_if_success refine goB 15 ?_) | (
  refine goB 15 ?_
  all_goals (refine WC.region ?_)
  all_goals (refine Go ?_)
  all_goals (refine WL.ld rfl (by first | exact cell_blk hb13 rfl | assumption | exact cell_blk (by assumption) rfl) rfl rfl rfl ?_)
  all_goals (refine WL.call (vs := [_]) rfl (fun a w => Tryz.call69 a w) rfl (described07 lc (hrc.ext0 hX3) md2 md5 m_c) rfl rfl rfl ?_
             rintro v6 h6 ⟨o6, x6, hf6⟩)
  all_goals (refine Go ?_)
  skip))
  all_goals (first | (fail_if_success refine goB 16 ?_) | (
  refine goB 16 ?_
  all_goals (refine WC.sr ?_)
  all_goals (refine Go ?_)
  all_goals (refine goC 17 18 ?_ ?_ <;> first | exact ⟨⟩ | refine Hb.mk fun hb => ?_ | skip)
  all_goals (first | (fail_if_success refine goB 18 ?_) | (
  refine goB 18 ?_
  all_goals (refine WC.seq ?_)
  all_goals (refine WC.sr ?_)
  all_goals (refine Go ?_)
  all_goals (refine Gs [(1, _), (2, _), (5, _), (13, _), (58, _)] ?_)
  all_goals (refine goC 19 20 ?_ ?_ <;> first | exact ⟨⟩ | refine Hb.mk fun hb => ?_ | skip)
  all_goals (first | (fail_if_success refine goB 19 ?_) | (
  refine goB 19 ?_
  all_goals (refine WC.skip ?_)
  skip))
  all_goals (first | (fail_if_success refine goB 20 ?_) | (
  refine goB 20 ?_
  all_goals (refine WC.region ?_)
  all_goals (refine Go ?_)
  skip))
  all_goals (refine Gn ?_)
  all_goals (refine goC 21 22 ?_ ?_ <;> first | exact ⟨⟩ | refine Hb.mk fun hb => ?_ | skip)
  all_goals (first | (fail_if_success refine goB 22 ?_) | (
  refine goB 22 ?_
  all_goals (refine WC.skip ?_)
  skip))
  skip))
  skip))
  skip))
  skip))
  skip))
  skip))
  skip))
  skip))
  all_goals (refine Gn ?_)
  all_goals (refine WC.sr ?_)
  all_goals (have hb16 := x6.obj hb13 nos
             have hb26 := x6.obj hb23 nos
             obtain ⟨A6, c6, e6, _⟩ := o6.slice
             have hO := o6
             try rw [e6] at hO
             subst e6)
  all_goals (refine WL.step (ok_fieldAddr rfl Tryz.underlying28 rfl (fun w => Tryz.sizeOf5 w)) rfl rfl rfl ?_)
  all_goals (refine WL.ld rfl (by first | exact cell_blk hb16 rfl | assumption | exact cell_blk (by assumption) rfl) rfl rfl rfl ?_)
  all_goals (refine Go ?_)
  all_goals (refine WL.step (ok_buildF (vs := [_, _]) (cs := [_, _]) (fun | [a0, a1] => [a0, a1] | _ => []) rfl rfl (by kernel_rfl)) rfl rfl rfl ?_)
  all_goals (refine WL.stepR0 (okE_storeW (fun w => Tryz.sizeOf54 w) rfl rfl rfl hb26 rfl (by simp [Value.oneCell'])) rfl rfl ?_
             rintro _ h7 ⟨hb7, hx7⟩)
  all_goals (refine Go ?_)
  all_goals (refine Gs [(2, _), (3, _)] ?_)
  all_goals (refine WC.ret ?_)
  all_goals (repeat' (with_reducible first | refine thenP_r ?_ | refine blockP_r ?_))
  all_goals (refine retP_2 _ _ ⟨⟨_, rfl, ld_blk (fun w => Tryz.isAgg54 w) (fun w => Tryz.sizeOf54 w) hb7 rfl⟩, rfl, trivial⟩ ?_)
  all_goals (exact ⟨_, rfl, o6.ext hx7 (fun q hq e => by obtain ⟨_, z⟩ := own_kind o6 hq; rw [e, hb26] at z; simp at z), (hX3.trans x6).trans' hx7 (fun q hq e => by have := hx1.size; omega)⟩)
set_option maxHeartbeats 4000000 in
set_option maxRecDepth 100000 in
theorem encW_116 {h : Heap} (b : Bk) (hb : b.ok h) (hw : b.wf) (hmd : b.big) (hmay : b.may) (hk : b.kind = 116) :
    CallsH Tryz.prog 22 ⟨[.agg ⟨b.cells⟩]⟩ h fun u h' => ∃ v', u = .tuple ⟨[.agg ⟨[.int .u8 116, v']⟩, In 0]⟩ ∧ Own h' v' 5 1 (encBk b).length (bys (encBk b)) ∧ Ext No h h' := by
  have kc := fun h' (hx : Ext No h h') => checkW07 b (hb.ext0 hx) hw.kind hmd
  have hL : encBk b = be b.oids.length 2 ++ b.oids.flatMap fun n => be n 4 := by simp [encBk, hk]
  rw [hL]
  clear hL
  have hst := hw.status
  obtain ⟨md5, md6, md7, md8, md9, md10⟩ := hmd
  have md1 := hmay.oids.1
  have md2 := hmay.cols.1
  have md3 := hmay.row.1
  have md4 := hmay.fields.1
  have m_c := hmay.cols.2
  have m_o := hmay.oids.2
  have m_n := hmay.n
  have m_m := hmay.m
  have m_r := hmay.row.2
  have hF : ∀ f ∈ b.fields, f.t.length ≤ 1048576 ∧ 0 ≤ f.k ∧ f.k ≤ 255 := fun f hf => ⟨md7 f hf, hw.codes f hf⟩
  clear hw
  obtain ⟨ho, hc, hr, hf⟩ := hb
  obtain ⟨k, st, t, n, v, x, y, vo, lo, vc, lc, vr, lr, vf, lf⟩ := b
  dsimp only at hk hst ho hc hr hf md1 md2 md3 md4 md5 md6 md7 md8 md9 md10 m_c m_o m_n m_m m_r hF ⊢
  have hro := ho.1
  have hrc := hc.1
  have hrr := hr.1
  have hrf := hf.1
  obtain ⟨Ao, co, rfl, _⟩ := id hro
  obtain ⟨Ac, cc, rfl, _⟩ := id hrc
  obtain ⟨Ar, cr, rfl, _⟩ := id hrr
  obtain ⟨Af, cf, rfl, _⟩ := id hrf
  dsimp only [Bk.cells] at kc ⊢
  subst hk
  refine calls [(0, _)] Tryz.func22 rfl Tryz.ntmps22 rfl ⟨rfl, trivial⟩ ?_
  all_goals (refine WC.sr ?_)
  all_goals (refine WL.stepR (okE_box rfl) rfl rfl rfl ?_
             rintro _ h1 ⟨b1, rfl, hg1, hb1, hx1⟩)
  all_goals (refine WL.stepR (okE_alloc (fun w => Tryz.zeroValue54 w)) rfl rfl rfl ?_
             rintro _ h2 ⟨b2, rfl, hg2, hb2, hx2⟩)
  all_goals (have hX2 := hx1.trans hx2
             have hb12 := hx2.obj hb1 nos)
  all_goals (refine Go ?_)
  all_goals (refine WC.seq ?_)
  all_goals (refine WC.sr ?_)
  all_goals (refine WL.step (ok_loadN (fun w => Tryz.isAgg28 w) (fun w => Tryz.sizeOf28 w) rfl rfl (by exact At.of_block hb12)) rfl rfl rfl ?_)
  all_goals (refine WL.call (vs := [_]) rfl (fun a w => Tryz.call65 a w) rfl (kc _ hX2) rfl rfl rfl ?_
             rintro _ h3 ⟨⟨e, rfl, he⟩, hx3⟩
             obtain rfl := he.2 hmay)
  all_goals (have hb13 := hx3.obj hb12 nos
             have hb23 := hx3.obj hb2 nos
             have hX3 := hX2.trans hx3
             have l1 := lt_of_some hb13
             have l2 := lt_of_some hb23)
  all_goals (refine Go ?_)
  all_goals (refine Gs [(1, _), (2, _), (4, _)] ?_)
  all_goals (refine WC.sr ?_)
  all_goals (refine Go ?_)
  all_goals (refine goC 1 2 ?_ ?_ <;> first | exact ⟨⟩ | refine Hb.mk fun hb => ?_ | skip)
  all_goals (first | (fail_if_success refine goB 1 ?_) | (
  refine goB 1 ?_
  all_goals (refine WC.sr ?_)
  all_goals (refine WL.step (ok_buildF (vs := []) (cs := [_, _]) (fun | [] => [(.int .u8 0), (.slice none 0 0)] | _ => []) rfl rfl (by kernel_rfl)) rfl rfl rfl ?_)
  all_goals (refine Go ?_)
  all_goals (refine WL.stepR0 (okE_storeW (fun w => Tryz.sizeOf54 w) rfl rfl rfl (by assumption) rfl (by simp [Value.oneCell'])) rfl rfl ?_
             rintro _ h1 ⟨hb1, hx1⟩)
  all_goals (refine Go ?_)
  all_goals (refine Gs [(2, _), (3, _)] ?_)
  all_goals (refine WC.ret ?_)
  all_goals (repeat' (with_reducible first | refine thenP_r ?_ | refine blockP_r ?_))
  all_goals (refine retP_2 _ _ ⟨⟨_, rfl, ld_blk (fun w => Tryz.isAgg54 w) (fun w => Tryz.sizeOf54 w) hb7 rfl⟩, rfl, trivial⟩ ?_)
  all_goals (exact ⟨_, rfl, o6.ext hx7 (fun q hq e => by obtain ⟨_, z⟩ := own_kind o6 hq; rw [e, hb26] at z; simp at z), (hX3.trans x6).trans' hx7 (fun q hq e => by have := hx1.size; omega)⟩)
  skip))
  all_goals (first | (fail_if_success refine goB 2 ?_) | (
  refine goB 2 ?_
  all_goals (refine WC.skip ?_)
  skip))
  all_goals (refine Gn ?_)
  all_goals (refine WC.sr ?_)
  all_goals (refine Go ?_)
  all_goals (refine WC.seq ?_)
  all_goals (refine WC.sr ?_)
  all_goals (refine Go ?_)
  all_goals (refine WL.ld rfl (by first | exact cell_blk hb13 rfl | assumption | exact cell_blk (by assumption) rfl) rfl rfl rfl ?_)
  all_goals (refine Gn ?_)
  all_goals (refine Gs [(1, _), (2, _), (5, _), (13, _)] ?_)
  all_goals (refine WC.block ?_)
  all_goals (refine WC.sr ?_)
  all_goals (refine Go ?_)
  all_goals (refine goC 3 4 ?_ ?_ <;> first | exact ⟨⟩ | refine Hb.mk fun hb => ?_ | skip)
  all_goals (first | (fail_if_success refine goB 4 ?_) | (
  refine goB 4 ?_
  all_goals (refine WC.sr ?_)
  all_goals (refine Go ?_)
  all_goals (refine goC 5 6 ?_ ?_ <;> first | exact ⟨⟩ | refine Hb.mk fun hb => ?_ | skip)
  all_goals (first | (fail_if_success refine goB 6 ?_) | (
  refine goB 6 ?_
  all_goals (refine WC.sr ?_)
  all_goals (refine Go ?_)
  all_goals (refine Gs [(1, _), (2, _), (5, _), (13, _), (25, _)] ?_)
  all_goals (refine goC 7 8 ?_ ?_ <;> first | exact ⟨⟩ | refine Hb.mk fun hb => ?_ | skip)
  all_goals (first | (fail_if_success refine goB 8 ?_) | (
  refine goB 8 ?_
  all_goals (refine WC.sr ?_)
  all_goals (refine Go ?_)
  all_goals (refine goC 9 10 ?_ ?_ <;> first | exact ⟨⟩ | refine Hb.mk fun hb => ?_ | skip)
  all_goals (first | (fail_if_success refine goB 9 ?_) | (
  refine goB 9 ?_
  all_goals (refine WC.region ?_)
  all_goals (refine Go ?_)
  all_goals (refine Ld ?_)
  all_goals (refine WL.stepR (okE_buildSlice (vs := [_]) (cs := [_]) (fun | [a0] => [a0] | _ => []) Tryz.underlying22 rfl rfl (by kernel_rfl)) rfl rfl rfl ?_
             rintro _ h1 ⟨b1, rfl, hg1, hb1, hx1⟩)
  all_goals (refine Go ?_)
  skip))
  all_goals (first | (fail_if_success refine goB 10 ?_) | (
  refine goB 10 ?_
  all_goals (refine WC.sr ?_)
  all_goals (refine Go ?_)
  all_goals (refine Gs [(1, _), (2, _), (5, _), (13, _), (38, _)] ?_)
  all_goals (refine goC 11 12 ?_ ?_ <;> first | exact ⟨⟩ | refine Hb.mk fun hb => ?_ | skip)
  all_goals (first | (fail_if_success refine goB 12 ?_) | (
  refine goB 12 ?_
  all_goals (refine WC.sr ?_)
  all_goals (refine Go ?_)
  all_goals (refine goC 13 14 ?_ ?_ <;> first | exact ⟨⟩ | refine Hb.mk fun hb => ?_ | skip)
  all_goals (first | (fail_if_success refine goB 14 ?_) | (
  refine goB 14 ?_
  all_goals (refine WC.sr ?_)
  all_goals (refine Go ?_)
  all_goals (refine Gs [(1, _), (2, _), (5, _), (13, _), (48, _)] ?_)
  all_goals (refine goC 15 16 ?_ ?_ <;> first | exact ⟨⟩ | refine Hb.mk fun hb => ?_ | skip)
  all_goals (first | (fail_if_success refine goB 16 ?_) | (
  refine goB 16 ?_
  all_goals (refine WC.sr ?_)
  all_goals (refine Go ?_)
  all_goals (refine goC 17 18 ?_ ?_ <;> first | exact ⟨⟩ | refine Hb.mk fun hb => ?_ | skip)
  all_goals (first | (fail_if_success refine goB 17 ?_) | (
  refine goB 17 ?_
  all_goals (refine WC.region ?_)
  all_goals (refine Go ?_)
  all_goals (refine WL.ld rfl (by first | exact cell_blk hb13 rfl | assumption | exact cell_blk (by assumption) rfl) rfl rfl rfl ?_)
  all_goals (refine WL.call (vs := [_, _, _]) rfl (fun a w => Tryz.call70 a w) rfl (list06 [] lo (Rd.nil _ _) (hro.ext0 hX3) (by decide) md1 m_o) rfl rfl rfl ?_
             rintro v6 h6 ⟨ho6, hx6, hf6⟩
             have o6 : Own h6 v6 5 1 (be (lo.length : Int) 2 ++ lo.flatMap fun n => be n 4).length (bys (be (lo.length : Int) 2 ++ lo.flatMap fun n => be n 4)) := by simpa using ho6
             have x6 : Ext No h3 h6 := hx6)
  all_goals (refine Go ?_)
  skip))
  all_goals (first | (fail_if_success refine goB 18 ?_) | (
  refine goB 18 ?_
  all_goals (refine WC.seq ?_)
  all_goals (refine WC.sr ?_)
  all_goals (refine Go ?_)
  all_goals (refine Gs [(1, _), (2, _), (5, _), (13, _), (58, _)] ?_)
  all_goals (refine goC 19 20 ?_ ?_ <;> first | exact ⟨⟩ | refine Hb.mk fun hb => ?_ | skip)
  all_goals (first | (fail_if_success refine goB 19 ?_) | (
  refine goB 19 ?_
  all_goals (refine WC.skip ?_)
  skip))
  all_goals (first | (fail_if_success refine goB 20 ?_) | (
  refine goB 20 ?_
  all_goals (refine WC.region ?_)
  all_goals (refine Go ?_)
  skip))
  all_goals (refine Gn ?_)
  all_goals (refine goC 21 22 ?_ ?_ <;> first | exact ⟨⟩ | refine Hb.mk fun hb => ?_ | skip)
  all_goals (first | (fail_if_success refine goB 22 ?_) | (
  refine goB 22 ?_
  all_goals (refine WC.skip ?_)
  skip))
  skip))
  skip))
  skip))
  skip))
  skip))
  skip))
  skip))
  skip))
  all_goals (refine Gn ?_)
  all_goals (refine WC.sr ?_)
  all_goals (have hb16 := x6.obj hb13 nos
             have hb26 := x6.obj hb23 nos
             obtain ⟨A6, c6, e6, _⟩ := o6.slice
             have hO := o6
             try rw [e6] at hO
             subst e6)
  all_goals (refine WL.step (ok_fieldAddr rfl Tryz.underlying28 rfl (fun w => Tryz.sizeOf5 w)) rfl rfl rfl ?_)
  all_goals (refine WL.ld rfl (by first | exact cell_blk hb16 rfl | assumption | exact cell_blk (by assumption) rfl) rfl rfl rfl ?_)
  all_goals (refine Go ?_)
  all_goals (refine WL.step (ok_buildF (vs := [_, _]) (cs := [_, _]) (fun | [a0, a1] => [a0, a1] | _ => []) rfl rfl (by kernel_rfl)) rfl rfl rfl ?_)
  all_goals (refine WL.stepR0 (okE_storeW (fun w => Tryz.sizeOf54 w) rfl rfl rfl hb26 rfl (by simp [Value.oneCell'])) rfl rfl ?_
             rintro _ h7 ⟨hb7, hx7⟩)
  all_goals (refine Go ?_)
  all_goals (refine Gs [(2, _), (3, _)] ?_)
  all_goals (refine WC.ret ?_)
  all_goals (repeat' (with_reducible first | refine thenP_r ?_ | refine blockP_r ?_))
  all_goals (refine retP_2 _ _ ⟨⟨_, rfl, ld_blk (fun w => Tryz.isAgg54 w) (fun w => Tryz.sizeOf54 w) hb7 rfl⟩, rfl, trivial⟩ ?_)
  all_goals (exact ⟨_, rfl, o6.ext hx7 (fun q hq e => by obtain ⟨_, z⟩ := own_kind o6 hq; rw [e, hb26] at z; simp at z), (hX3.trans x6).trans' hx7 (fun q hq e => by have := hx1.size; omega)⟩)
set_option maxHeartbeats 4000000 in
set_option maxRecDepth 100000 in
theorem encW_69 {h : Heap} (b : Bk) (hb : b.ok h) (hw : b.wf) (hmd : b.big) (hmay : b.may) (hk : b.kind = 69) :
    CallsH Tryz.prog 22 ⟨[.agg ⟨b.cells⟩]⟩ h fun u h' => ∃ v', u = .tuple ⟨[.agg ⟨[.int .u8 69, v']⟩, In 0]⟩ ∧ Own h' v' 5 1 (encBk b).length (bys (encBk b)) ∧ Ext No h h' := by
  have kc := fun h' (hx : Ext No h h') => checkW07 b (hb.ext0 hx) hw.kind hmd
  have hL : encBk b = encF b.fields ++ [0] := by simp [encBk, hk]
  rw [hL]
  clear hL
  have hst := hw.status
  obtain ⟨md5, md6, md7, md8, md9, md10⟩ := hmd
  have md1 := hmay.oids.1
  have md2 := hmay.cols.1
  have md3 := hmay.row.1
  have md4 := hmay.fields.1
  have m_c := hmay.cols.2
  have m_o := hmay.oids.2
  have m_n := hmay.n
  have m_m := hmay.m
  have m_r := hmay.row.2
  have hF : ∀ f ∈ b.fields, f.t.length ≤ 1048576 ∧ 0 ≤ f.k ∧ f.k ≤ 255 := fun f hf => ⟨md7 f hf, hw.codes f hf⟩
  clear hw
  obtain ⟨ho, hc, hr, hf⟩ := hb
  obtain ⟨k, st, t, n, v, x, y, vo, lo, vc, lc, vr, lr, vf, lf⟩ := b
  dsimp only at hk hst ho hc hr hf md1 md2 md3 md4 md5 md6 md7 md8 md9 md10 m_c m_o m_n m_m m_r hF ⊢
  have hro := ho.1
  have hrc := hc.1
  have hrr := hr.1
  have hrf := hf.1
  obtain ⟨Ao, co, rfl, _⟩ := id hro
  obtain ⟨Ac, cc, rfl, _⟩ := id hrc
  obtain ⟨Ar, cr, rfl, _⟩ := id hrr
  obtain ⟨Af, cf, rfl, _⟩ := id hrf
  dsimp only [Bk.cells] at kc ⊢
  subst hk
  refine calls [(0, _)] Tryz.func22 rfl Tryz.ntmps22 rfl ⟨rfl, trivial⟩ ?_
  all_goals (refine WC.sr ?_)
  all_goals (refine WL.stepR (okE_box rfl) rfl rfl rfl ?_
             rintro _ h1 ⟨b1, rfl, hg1, hb1, hx1⟩)
  all_goals (refine WL.stepR (okE_alloc (fun w => Tryz.zeroValue54 w)) rfl rfl rfl ?_
             rintro _ h2 ⟨b2, rfl, hg2, hb2, hx2⟩)
  all_goals (have hX2 := hx1.trans hx2
             have hb12 := hx2.obj hb1 nos)
  all_goals (refine Go ?_)
  all_goals (refine WC.seq ?_)
  all_goals (refine WC.sr ?_)
  all_goals (refine WL.step (ok_loadN (fun w => Tryz.isAgg28 w) (fun w => Tryz.sizeOf28 w) rfl rfl (by exact At.of_block hb12)) rfl rfl rfl ?_)
  all_goals (refine WL.call (vs := [_]) rfl (fun a w => Tryz.call65 a w) rfl (kc _ hX2) rfl rfl rfl ?_
             rintro _ h3 ⟨⟨e, rfl, he⟩, hx3⟩
             obtain rfl := he.2 hmay)
  all_goals (have hb13 := hx3.obj hb12 nos
             have hb23 := hx3.obj hb2 nos
             have hX3 := hX2.trans hx3
             have l1 := lt_of_some hb13
             have l2 := lt_of_some hb23)
  all_goals (refine Go ?_)
  all_goals (refine Gs [(1, _), (2, _), (4, _)] ?_)
  all_goals (refine WC.sr ?_)
  all_goals (refine Go ?_)
  all_goals (refine goC 1 2 ?_ ?_ <;> first | exact ⟨⟩ | refine Hb.mk fun hb => ?_ | skip)
  all_goals (first | (fail_if_success refine goB 1 ?_) | (
  refine goB 1 ?_
  all_goals (refine WC.sr ?_)
  all_goals (refine WL.step (ok_buildF (vs := []) (cs := [_, _]) (fun | [] => [(.int .u8 0), (.slice none 0 0)] | _ => []) rfl rfl (by kernel_rfl)) rfl rfl rfl ?_)
  all_goals (refine Go ?_)
  all_goals (refine WL.stepR0 (okE_storeW (fun w => Tryz.sizeOf54 w) rfl rfl rfl (by assumption) rfl (by simp [Value.oneCell'])) rfl rfl ?_
             rintro _ h1 ⟨hb1, hx1⟩)
  all_goals (refine Go ?_)
  all_goals (refine Gs [(2, _), (3, _)] ?_)
  all_goals (refine WC.ret ?_)
  all_goals (repeat' (with_reducible first | refine thenP_r ?_ | refine blockP_r ?_))
  all_goals (refine retP_2 _ _ ⟨⟨_, rfl, ld_blk (fun w => Tryz.isAgg54 w) (fun w => Tryz.sizeOf54 w) hb7 rfl⟩, rfl, trivial⟩ ?_)
  all_goals (exact ⟨_, rfl, o6.ext hx7 (fun q hq e => by obtain ⟨_, z⟩ := own_kind o6 hq; rw [e, hb26] at z; simp at z), (hX3.trans x6).trans' hx7 (fun q hq e => by have := hx1.size; omega)⟩)
  skip))
  all_goals (first | (fail_if_success refine goB 2 ?_) | (
  refine goB 2 ?_
  all_goals (refine WC.skip ?_)
  skip))
  all_goals (refine Gn ?_)
  all_goals (refine WC.sr ?_)
  all_goals (refine Go ?_)
  all_goals (refine WC.seq ?_)
  all_goals (refine WC.sr ?_)
  all_goals (refine Go ?_)
  all_goals (refine WL.ld rfl (by first | exact cell_blk hb13 rfl | assumption | exact cell_blk (by assumption) rfl) rfl rfl rfl ?_)
  all_goals (refine Gn ?_)
  all_goals (refine Gs [(1, _), (2, _), (5, _), (13, _)] ?_)
  all_goals (refine WC.block ?_)
  all_goals (refine WC.sr ?_)
  all_goals (refine Go ?_)
  all_goals (refine goC 3 4 ?_ ?_ <;> first | exact ⟨⟩ | refine Hb.mk fun hb => ?_ | skip)
  all_goals (first | (fail_if_success refine goB 4 ?_) | (
  refine goB 4 ?_
  all_goals (refine WC.sr ?_)
  all_goals (refine Go ?_)
  all_goals (refine goC 5 6 ?_ ?_ <;> first | exact ⟨⟩ | refine Hb.mk fun hb => ?_ | skip)
  all_goals (first | (fail_if_success refine goB 6 ?_) | (
  refine goB 6 ?_
  all_goals (refine WC.sr ?_)
  all_goals (refine Go ?_)
  all_goals (refine Gs [(1, _), (2, _), (5, _), (13, _), (25, _)] ?_)
  all_goals (refine goC 7 8 ?_ ?_ <;> first | exact ⟨⟩ | refine Hb.mk fun hb => ?_ | skip)
  all_goals (first | (fail_if_success refine goB 8 ?_) | (
  refine goB 8 ?_
  all_goals (refine WC.sr ?_)
  all_goals (refine Go ?_)
  all_goals (refine goC 9 10 ?_ ?_ <;> first | exact ⟨⟩ | refine Hb.mk fun hb => ?_ | skip)
  all_goals (first | (fail_if_success refine goB 9 ?_) | (
  refine goB 9 ?_
  all_goals (refine WC.region ?_)
  all_goals (refine Go ?_)
  all_goals (refine Ld ?_)
  all_goals (refine WL.stepR (okE_buildSlice (vs := [_]) (cs := [_]) (fun | [a0] => [a0] | _ => []) Tryz.underlying22 rfl rfl (by kernel_rfl)) rfl rfl rfl ?_
             rintro _ h1 ⟨b1, rfl, hg1, hb1, hx1⟩)
  all_goals (refine Go ?_)
  skip))
  all_goals (first | (fail_if_success refine goB 10 ?_) | (
  refine goB 10 ?_
  all_goals (refine WC.sr ?_)
  all_goals (refine Go ?_)
  all_goals (refine Gs [(1, _), (2, _), (5, _), (13, _), (38, _)] ?_)
  all_goals (refine goC 11 12 ?_ ?_ <;> first | exact ⟨⟩ | refine Hb.mk fun hb => ?_ | skip)
  all_goals (first | (fail_if_success refine goB 12 ?_) | (
  refine goB 12 ?_
  all_goals (refine WC.sr ?_)
  all_goals (refine Go ?_)
  all_goals (refine goC 13 14 ?_ ?_ <;> first | exact ⟨⟩ | refine Hb.mk fun hb => ?_ | skip)
  all_goals (first | (fail_if_success refine goB 14 ?_) | (
  refine goB 14 ?_
  all_goals (refine WC.sr ?_)
  all_goals (refine Go ?_)
  all_goals (refine Gs [(1, _), (2, _), (5, _), (13, _), (48, _)] ?_)
  all_goals (refine goC 15 16 ?_ ?_ <;> first | exact ⟨⟩ | refine Hb.mk fun hb => ?_ | skip)
  all_goals (first | (fail_if_success refine goB 16 ?_) | (
  refine goB 16 ?_
  all_goals (refine WC.sr ?_)
  all_goals (refine Go ?_)
  all_goals (refine goC 17 18 ?_ ?_ <;> first | exact ⟨⟩ | refine Hb.mk fun hb => ?_ | skip)
  all_goals (first | (fail_if_success refine goB 18 ?_) | (
  refine goB 18 ?_
  all_goals (refine WC.seq ?_)
  all_goals (refine WC.sr ?_)
  all_goals (refine Go ?_)
  all_goals (refine Gs [(1, _), (2, _), (5, _), (13, _), (58, _)] ?_)
  all_goals (refine goC 19 20 ?_ ?_ <;> first | exact ⟨⟩ | refine Hb.mk fun hb => ?_ | skip)
  all_goals (first | (fail_if_success refine goB 19 ?_) | (
  refine goB 19 ?_
  all_goals (refine WC.skip ?_)
  skip))
  all_goals (first | (fail_if_success refine goB 20 ?_) | (
  refine goB 20 ?_
  all_goals (refine WC.region ?_)
  all_goals (refine Go ?_)
  skip))
  all_goals (refine Gn ?_)
  all_goals (refine goC 21 22 ?_ ?_ <;> first | exact ⟨⟩ | refine Hb.mk fun hb => ?_ | skip)
  all_goals (first | (fail_if_success refine goB 21 ?_) | (
  refine goB 21 ?_
  all_goals (refine WC.region ?_)
  all_goals (refine Go ?_)
  all_goals (refine WL.ld rfl (by first | exact cell_blk hb13 rfl | assumption | exact cell_blk (by assumption) rfl) rfl rfl rfl ?_)
  all_goals (refine WL.call (vs := [_]) rfl (fun a w => Tryz.call71 a w) rfl (told07 lf (hrf.ext0 hX3) md4 hF) rfl rfl rfl ?_
             rintro v6 h6 ⟨o6, x6, hf6⟩)
  all_goals (refine Go ?_)
  skip))
  all_goals (first | (fail_if_success refine goB 22 ?_) | (
  refine goB 22 ?_
  all_goals (refine WC.skip ?_)
  skip))
  skip))
  skip))
  skip))
  skip))
  skip))
  skip))
  skip))
  skip))
  all_goals (refine Gn ?_)
  all_goals (refine WC.sr ?_)
  all_goals (have hb16 := x6.obj hb13 nos
             have hb26 := x6.obj hb23 nos
             obtain ⟨A6, c6, e6, _⟩ := o6.slice
             have hO := o6
             try rw [e6] at hO
             subst e6)
  all_goals (refine WL.step (ok_fieldAddr rfl Tryz.underlying28 rfl (fun w => Tryz.sizeOf5 w)) rfl rfl rfl ?_)
  all_goals (refine WL.ld rfl (by first | exact cell_blk hb16 rfl | assumption | exact cell_blk (by assumption) rfl) rfl rfl rfl ?_)
  all_goals (refine Go ?_)
  all_goals (refine WL.step (ok_buildF (vs := [_, _]) (cs := [_, _]) (fun | [a0, a1] => [a0, a1] | _ => []) rfl rfl (by kernel_rfl)) rfl rfl rfl ?_)
  all_goals (refine WL.stepR0 (okE_storeW (fun w => Tryz.sizeOf54 w) rfl rfl rfl hb26 rfl (by simp [Value.oneCell'])) rfl rfl ?_
             rintro _ h7 ⟨hb7, hx7⟩)
  all_goals (refine Go ?_)
  all_goals (refine Gs [(2, _), (3, _)] ?_)
  all_goals (refine WC.ret ?_)
  all_goals (repeat' (with_reducible first | refine thenP_r ?_ | refine blockP_r ?_))
  all_goals (refine retP_2 _ _ ⟨⟨_, rfl, ld_blk (fun w => Tryz.isAgg54 w) (fun w => Tryz.sizeOf54 w) hb7 rfl⟩, rfl, trivial⟩ ?_)
  all_goals (exact ⟨_, rfl, o6.ext hx7 (fun q hq e => by obtain ⟨_, z⟩ := own_kind o6 hq; rw [e, hb26] at z; simp at z), (hX3.trans x6).trans' hx7 (fun q hq e => by have := hx1.size; omega)⟩)
set_option maxHeartbeats 4000000 in
set_option maxRecDepth 100000 in
theorem encW_78 {h : Heap} (b : Bk) (hb : b.ok h) (hw : b.wf) (hmd : b.big) (hmay : b.may) (hk : b.kind = 78) :
    CallsH Tryz.prog 22 ⟨[.agg ⟨b.cells⟩]⟩ h fun u h' => ∃ v', u = .tuple ⟨[.agg ⟨[.int .u8 78, v']⟩, In 0]⟩ ∧ Own h' v' 5 1 (encBk b).length (bys (encBk b)) ∧ Ext No h h' := by
  have kc := fun h' (hx : Ext No h h') => checkW07 b (hb.ext0 hx) hw.kind hmd
  have hL : encBk b = encF b.fields ++ [0] := by simp [encBk, hk]
  rw [hL]
  clear hL
  have hst := hw.status
  obtain ⟨md5, md6, md7, md8, md9, md10⟩ := hmd
  have md1 := hmay.oids.1
  have md2 := hmay.cols.1
  have md3 := hmay.row.1
  have md4 := hmay.fields.1
  have m_c := hmay.cols.2
  have m_o := hmay.oids.2
  have m_n := hmay.n
  have m_m := hmay.m
  have m_r := hmay.row.2
  have hF : ∀ f ∈ b.fields, f.t.length ≤ 1048576 ∧ 0 ≤ f.k ∧ f.k ≤ 255 := fun f hf => ⟨md7 f hf, hw.codes f hf⟩
  clear hw
  obtain ⟨ho, hc, hr, hf⟩ := hb
  obtain ⟨k, st, t, n, v, x, y, vo, lo, vc, lc, vr, lr, vf, lf⟩ := b
  dsimp only at hk hst ho hc hr hf md1 md2 md3 md4 md5 md6 md7 md8 md9 md10 m_c m_o m_n m_m m_r hF ⊢
  have hro := ho.1
  have hrc := hc.1
  have hrr := hr.1
  have hrf := hf.1
  obtain ⟨Ao, co, rfl, _⟩ := id hro
  obtain ⟨Ac, cc, rfl, _⟩ := id hrc
  obtain ⟨Ar, cr, rfl, _⟩ := id hrr
  obtain ⟨Af, cf, rfl, _⟩ := id hrf
  dsimp only [Bk.cells] at kc ⊢
  subst hk
  refine calls [(0, _)] Tryz.func22 rfl Tryz.ntmps22 rfl ⟨rfl, trivial⟩ ?_
  all_goals (refine WC.sr ?_)
  all_goals (refine WL.stepR (okE_box rfl) rfl rfl rfl ?_
             rintro _ h1 ⟨b1, rfl, hg1, hb1, hx1⟩)
  all_goals (refine WL.stepR (okE_alloc (fun w => Tryz.zeroValue54 w)) rfl rfl rfl ?_
             rintro _ h2 ⟨b2, rfl, hg2, hb2, hx2⟩)
  all_goals (have hX2 := hx1.trans hx2
             have hb12 := hx2.obj hb1 nos)
  all_goals (refine Go ?_)
  all_goals (refine WC.seq ?_)
  all_goals (refine WC.sr ?_)
  all_goals (refine WL.step (ok_loadN (fun w => Tryz.isAgg28 w) (fun w => Tryz.sizeOf28 w) rfl rfl (by exact At.of_block hb12)) rfl rfl rfl ?_)
  all_goals (refine WL.call (vs := [_]) rfl (fun a w => Tryz.call65 a w) rfl (kc _ hX2) rfl rfl rfl ?_
             rintro _ h3 ⟨⟨e, rfl, he⟩, hx3⟩
             obtain rfl := he.2 hmay)
  all_goals (have hb13 := hx3.obj hb12 nos
             have hb23 := hx3.obj hb2 nos
             have hX3 := hX2.trans hx3
             have l1 := lt_of_some hb13
             have l2 := lt_of_some hb23)
  all_goals (refine Go ?_)
  all_goals (refine Gs [(1, _), (2, _), (4, _)] ?_)
  all_goals (refine WC.sr ?_)
  all_goals (refine Go ?_)
  all_goals (refine goC 1 2 ?_ ?_ <;> first | exact ⟨⟩ | refine Hb.mk fun hb => ?_ | skip)
  all_goals (first | (fail_if_success refine goB 1 ?_) | (
  refine goB 1 ?_
  all_goals (refine WC.sr ?_)
  all_goals (refine WL.step (ok_buildF (vs := []) (cs := [_, _]) (fun | [] => [(.int .u8 0), (.slice none 0 0)] | _ => []) rfl rfl (by kernel_rfl)) rfl rfl rfl ?_)
  all_goals (refine Go ?_)
  all_goals (refine WL.stepR0 (okE_storeW (fun w => Tryz.sizeOf54 w) rfl rfl rfl (by assumption) rfl (by simp [Value.oneCell'])) rfl rfl ?_
             rintro _ h1 ⟨hb1, hx1⟩)
  all_goals (refine Go ?_)
  all_goals (refine Gs [(2, _), (3, _)] ?_)
  all_goals (refine WC.ret ?_)
  all_goals (repeat' (with_reducible first | refine thenP_r ?_ | refine blockP_r ?_))
  all_goals (refine retP_2 _ _ ⟨⟨_, rfl, ld_blk (fun w => Tryz.isAgg54 w) (fun w => Tryz.sizeOf54 w) hb7 rfl⟩, rfl, trivial⟩ ?_)
  all_goals (exact ⟨_, rfl, o6.ext hx7 (fun q hq e => by obtain ⟨_, z⟩ := own_kind o6 hq; rw [e, hb26] at z; simp at z), (hX3.trans x6).trans' hx7 (fun q hq e => by have := hx1.size; omega)⟩)
  skip))
  all_goals (first | (fail_if_success refine goB 2 ?_) | (
  refine goB 2 ?_
  all_goals (refine WC.skip ?_)
  skip))
  all_goals (refine Gn ?_)
  all_goals (refine WC.sr ?_)
  all_goals (refine Go ?_)
  all_goals (refine WC.seq ?_)
  all_goals (refine WC.sr ?_)
  all_goals (refine Go ?_)
  all_goals (refine WL.ld rfl (by first | exact cell_blk hb13 rfl | assumption | exact cell_blk (by assumption) rfl) rfl rfl rfl ?_)
  all_goals (refine Gn ?_)
  all_goals (refine Gs [(1, _), (2, _), (5, _), (13, _)] ?_)
  all_goals (refine WC.block ?_)
  all_goals (refine WC.sr ?_)
  all_goals (refine Go ?_)
  all_goals (refine goC 3 4 ?_ ?_ <;> first | exact ⟨⟩ | refine Hb.mk fun hb => ?_ | skip)
  all_goals (first | (fail_if_success refine goB 4 ?_) | (
  refine goB 4 ?_
  all_goals (refine WC.sr ?_)
  all_goals (refine Go ?_)
  all_goals (refine goC 5 6 ?_ ?_ <;> first | exact ⟨⟩ | refine Hb.mk fun hb => ?_ | skip)
  all_goals (first | (fail_if_success refine goB 6 ?_) | (
  refine goB 6 ?_
  all_goals (refine WC.sr ?_)
  all_goals (refine Go ?_)
  all_goals (refine Gs [(1, _), (2, _), (5, _), (13, _), (25, _)] ?_)
  all_goals (refine goC 7 8 ?_ ?_ <;> first | exact ⟨⟩ | refine Hb.mk fun hb => ?_ | skip)
  all_goals (first | (fail_if_success refine goB 8 ?_) | (
  refine goB 8 ?_
  all_goals (refine WC.sr ?_)
  all_goals (refine Go ?_)
  all_goals (refine goC 9 10 ?_ ?_ <;> first | exact ⟨⟩ | refine Hb.mk fun hb => ?_ | skip)
  all_goals (first | (fail_if_success refine goB 9 ?_) | (
  refine goB 9 ?_
  all_goals (refine WC.region ?_)
  all_goals (refine Go ?_)
  all_goals (refine Ld ?_)
  all_goals (refine WL.stepR (okE_buildSlice (vs := [_]) (cs := [_]) (fun | [a0] => [a0] | _ => []) Tryz.underlying22 rfl rfl (by kernel_rfl)) rfl rfl rfl ?_
             rintro _ h1 ⟨b1, rfl, hg1, hb1, hx1⟩)
  all_goals (refine Go ?_)
  skip))
  all_goals (first | (fail_if_success refine goB 10 ?_) | (
  refine goB 10 ?_
  all_goals (refine WC.sr ?_)
  all_goals (refine Go ?_)
  all_goals (refine Gs [(1, _), (2, _), (5, _), (13, _), (38, _)] ?_)
  all_goals (refine goC 11 12 ?_ ?_ <;> first | exact ⟨⟩ | refine Hb.mk fun hb => ?_ | skip)
  all_goals (first | (fail_if_success refine goB 12 ?_) | (
  refine goB 12 ?_
  all_goals (refine WC.sr ?_)
  all_goals (refine Go ?_)
  all_goals (refine goC 13 14 ?_ ?_ <;> first | exact ⟨⟩ | refine Hb.mk fun hb => ?_ | skip)
  all_goals (first | (fail_if_success refine goB 14 ?_) | (
  refine goB 14 ?_
  all_goals (refine WC.sr ?_)
  all_goals (refine Go ?_)
  all_goals (refine Gs [(1, _), (2, _), (5, _), (13, _), (48, _)] ?_)
  all_goals (refine goC 15 16 ?_ ?_ <;> first | exact ⟨⟩ | refine Hb.mk fun hb => ?_ | skip)
  all_goals (first | (fail_if_success refine goB 16 ?_) | (
  refine goB 16 ?_
  all_goals (refine WC.sr ?_)
  all_goals (refine Go ?_)
  all_goals (refine goC 17 18 ?_ ?_ <;> first | exact ⟨⟩ | refine Hb.mk fun hb => ?_ | skip)
  all_goals (first | (fail_if_success refine goB 18 ?_) | (
  refine goB 18 ?_
  all_goals (refine WC.seq ?_)
  all_goals (refine WC.sr ?_)
  all_goals (refine Go ?_)
  all_goals (refine Gs [(1, _), (2, _), (5, _), (13, _), (58, _)] ?_)
  all_goals (refine goC 19 20 ?_ ?_ <;> first | exact ⟨⟩ | refine Hb.mk fun hb => ?_ | skip)
  all_goals (first | (fail_if_success refine goB 19 ?_) | (
  refine goB 19 ?_
  all_goals (refine WC.skip ?_)
  skip))
  all_goals (first | (fail_if_success refine goB 20 ?_) | (
  refine goB 20 ?_
  all_goals (refine WC.region ?_)
  all_goals (refine Go ?_)
  skip))
  all_goals (refine Gn ?_)
  all_goals (refine goC 21 22 ?_ ?_ <;> first | exact ⟨⟩ | refine Hb.mk fun hb => ?_ | skip)
  all_goals (first | (fail_if_success refine goB 21 ?_) | (
  refine goB 21 ?_
  all_goals (refine WC.region ?_)
  all_goals (refine Go ?_)
  all_goals (refine WL.ld rfl (by first | exact cell_blk hb13 rfl | assumption | exact cell_blk (by assumption) rfl) rfl rfl rfl ?_)
  all_goals (refine WL.call (vs := [_]) rfl (fun a w => Tryz.call71 a w) rfl (told07 lf (hrf.ext0 hX3) md4 hF) rfl rfl rfl ?_
             rintro v6 h6 ⟨o6, x6, hf6⟩)
  all_goals (refine Go ?_)
  skip))
  all_goals (first | (fail_if_success refine goB 22 ?_) | (
  refine goB 22 ?_
  all_goals (refine WC.skip ?_)
  skip))
  skip))
  skip))
  skip))
  skip))
  skip))
  skip))
  skip))
  skip))
  all_goals (refine Gn ?_)
  all_goals (refine WC.sr ?_)
  all_goals (have hb16 := x6.obj hb13 nos
             have hb26 := x6.obj hb23 nos
             obtain ⟨A6, c6, e6, _⟩ := o6.slice
             have hO := o6
             try rw [e6] at hO
             subst e6)
  all_goals (refine WL.step (ok_fieldAddr rfl Tryz.underlying28 rfl (fun w => Tryz.sizeOf5 w)) rfl rfl rfl ?_)
  all_goals (refine WL.ld rfl (by first | exact cell_blk hb16 rfl | assumption | exact cell_blk (by assumption) rfl) rfl rfl rfl ?_)
  all_goals (refine Go ?_)
  all_goals (refine WL.step (ok_buildF (vs := [_, _]) (cs := [_, _]) (fun | [a0, a1] => [a0, a1] | _ => []) rfl rfl (by kernel_rfl)) rfl rfl rfl ?_)
  all_goals (refine WL.stepR0 (okE_storeW (fun w => Tryz.sizeOf54 w) rfl rfl rfl hb26 rfl (by simp [Value.oneCell'])) rfl rfl ?_
             rintro _ h7 ⟨hb7, hx7⟩)
  all_goals (refine Go ?_)
  all_goals (refine Gs [(2, _), (3, _)] ?_)
  all_goals (refine WC.ret ?_)
  all_goals (repeat' (with_reducible first | refine thenP_r ?_ | refine blockP_r ?_))
  all_goals (refine retP_2 _ _ ⟨⟨_, rfl, ld_blk (fun w => Tryz.isAgg54 w) (fun w => Tryz.sizeOf54 w) hb7 rfl⟩, rfl, trivial⟩ ?_)
  all_goals (exact ⟨_, rfl, o6.ext hx7 (fun q hq e => by obtain ⟨_, z⟩ := own_kind o6 hq; rw [e, hb26] at z; simp at z), (hX3.trans x6).trans' hx7 (fun q hq e => by have := hx1.size; omega)⟩)
set_option maxHeartbeats 4000000 in
set_option maxRecDepth 100000 in
theorem encW_0 {h : Heap} (b : Bk) (hb : b.ok h) (hw : b.wf) (hmd : b.big) (hmay : b.may) (hk : (b.kind = 49 ∨ b.kind = 50 ∨ b.kind = 51 ∨ b.kind = 110 ∨ b.kind = 115 ∨ b.kind = 73)) :
    CallsH Tryz.prog 22 ⟨[.agg ⟨b.cells⟩]⟩ h fun u h' => ∃ v', u = .tuple ⟨[.agg ⟨[.int .u8 b.kind, v']⟩, In 0]⟩ ∧ Own h' v' 5 1 (encBk b).length (bys (encBk b)) ∧ Ext No h h' := by
  have kc := fun h' (hx : Ext No h h') => checkW07 b (hb.ext0 hx) hw.kind hmd
  have hL : encBk b = [] := by rcases hk with hk | hk | hk | hk | hk | hk <;> simp [encBk, hk]
  rw [hL]
  clear hL
  have hst := hw.status
  obtain ⟨md5, md6, md7, md8, md9, md10⟩ := hmd
  have md1 := hmay.oids.1
  have md2 := hmay.cols.1
  have md3 := hmay.row.1
  have md4 := hmay.fields.1
  have m_c := hmay.cols.2
  have m_o := hmay.oids.2
  have m_n := hmay.n
  have m_m := hmay.m
  have m_r := hmay.row.2
  have hF : ∀ f ∈ b.fields, f.t.length ≤ 1048576 ∧ 0 ≤ f.k ∧ f.k ≤ 255 := fun f hf => ⟨md7 f hf, hw.codes f hf⟩
  clear hw
  obtain ⟨ho, hc, hr, hf⟩ := hb
  obtain ⟨k, st, t, n, v, x, y, vo, lo, vc, lc, vr, lr, vf, lf⟩ := b
  dsimp only at hk hst ho hc hr hf md1 md2 md3 md4 md5 md6 md7 md8 md9 md10 m_c m_o m_n m_m m_r hF ⊢
  have hro := ho.1
  have hrc := hc.1
  have hrr := hr.1
  have hrf := hf.1
  obtain ⟨Ao, co, rfl, _⟩ := id hro
  obtain ⟨Ac, cc, rfl, _⟩ := id hrc
  obtain ⟨Ar, cr, rfl, _⟩ := id hrr
  obtain ⟨Af, cf, rfl, _⟩ := id hrf
  dsimp only [Bk.cells] at kc ⊢
  rcases hk with rfl | rfl | rfl | rfl | rfl | rfl
  all_goals
    refine calls [(0, _)] Tryz.func22 rfl Tryz.ntmps22 rfl ⟨rfl, trivial⟩ ?_
    all_goals (refine WC.sr ?_)
    all_goals (refine WL.stepR (okE_box rfl) rfl rfl rfl ?_
               rintro _ h1 ⟨b1, rfl, hg1, hb1, hx1⟩)
    all_goals (refine WL.stepR (okE_alloc (fun w => Tryz.zeroValue54 w)) rfl rfl rfl ?_
               rintro _ h2 ⟨b2, rfl, hg2, hb2, hx2⟩)
    all_goals (have hX2 := hx1.trans hx2
               have hb12 := hx2.obj hb1 nos)
    all_goals (refine Go ?_)
    all_goals (refine WC.seq ?_)
    all_goals (refine WC.sr ?_)
    all_goals (refine WL.step (ok_loadN (fun w => Tryz.isAgg28 w) (fun w => Tryz.sizeOf28 w) rfl rfl (by exact At.of_block hb12)) rfl rfl rfl ?_)
    all_goals (refine WL.call (vs := [_]) rfl (fun a w => Tryz.call65 a w) rfl (kc _ hX2) rfl rfl rfl ?_
               rintro _ h3 ⟨⟨e, rfl, he⟩, hx3⟩
               obtain rfl := he.2 hmay)
    all_goals (have hb13 := hx3.obj hb12 nos
               have hb23 := hx3.obj hb2 nos
               have hX3 := hX2.trans hx3
               have l1 := lt_of_some hb13
               have l2 := lt_of_some hb23)
    all_goals (refine Go ?_)
    all_goals (refine Gs [(1, _), (2, _), (4, _)] ?_)
    all_goals (refine WC.sr ?_)
    all_goals (refine Go ?_)
    all_goals (refine goC 1 2 ?_ ?_ <;> first | exact ⟨⟩ | refine Hb.mk fun hb => ?_ | skip)
    all_goals (first | (fail_if_success refine goB 1 ?_) | (
    refine goB 1 ?_
    all_goals (refine WC.sr ?_)
    all_goals (refine WL.step (ok_buildF (vs := []) (cs := [_, _]) (fun | [] => [(.int .u8 0), (.slice none 0 0)] | _ => []) rfl rfl (by kernel_rfl)) rfl rfl rfl ?_)
    all_goals (refine Go ?_)
    all_goals (refine WL.stepR0 (okE_storeW (fun w => Tryz.sizeOf54 w) rfl rfl rfl (by assumption) rfl (by simp [Value.oneCell'])) rfl rfl ?_
               rintro _ h1 ⟨hb1, hx1⟩)
    all_goals (refine Go ?_)
    all_goals (refine Gs [(2, _), (3, _)] ?_)
    all_goals (refine WC.ret ?_)
    all_goals (repeat' (with_reducible first | refine thenP_r ?_ | refine blockP_r ?_))
    all_goals (refine retP_2 _ _ ⟨⟨_, rfl, ld_blk (fun w => Tryz.isAgg54 w) (fun w => Tryz.sizeOf54 w) hb7 rfl⟩, rfl, trivial⟩ ?_)
    all_goals (exact ⟨_, rfl, o6.ext hx7 (fun q hq e => by obtain ⟨_, z⟩ := own_kind o6 hq; rw [e, hb26] at z; simp at z), (hX3.trans x6).trans' hx7 (fun q hq e => by have := hx1.size; omega)⟩)
    skip))
    all_goals (first | (fail_if_success refine goB 2 ?_) | (
    refine goB 2 ?_
    all_goals (refine WC.skip ?_)
    skip))
    all_goals (refine Gn ?_)
    all_goals (refine WC.sr ?_)
    all_goals (refine Go ?_)
    all_goals (refine WC.seq ?_)
    all_goals (refine WC.sr ?_)
    all_goals (refine Go ?_)
    all_goals (refine WL.ld rfl (by first | exact cell_blk hb13 rfl | assumption | exact cell_blk (by assumption) rfl) rfl rfl rfl ?_)
    all_goals (have x6 := Ext.refl No h3
               have o6 := Own.nil h3 5 1)
    all_goals (refine Gn ?_)
    all_goals (refine Gs [(1, _), (2, _), (5, _), (13, _)] ?_)
    all_goals (refine WC.block ?_)
    all_goals (refine WC.sr ?_)
    all_goals (refine Go ?_)
    all_goals (refine goC 3 4 ?_ ?_ <;> first | exact ⟨⟩ | refine Hb.mk fun hb => ?_ | skip)
    all_goals (first | (fail_if_success refine goB 4 ?_) | (
    refine goB 4 ?_
    all_goals (refine WC.sr ?_)
    all_goals (refine Go ?_)
    all_goals (refine goC 5 6 ?_ ?_ <;> first | exact ⟨⟩ | refine Hb.mk fun hb => ?_ | skip)
    all_goals (first | (fail_if_success refine goB 6 ?_) | (
    refine goB 6 ?_
    all_goals (refine WC.sr ?_)
    all_goals (refine Go ?_)
    all_goals (refine Gs [(1, _), (2, _), (5, _), (13, _), (25, _)] ?_)
    all_goals (refine goC 7 8 ?_ ?_ <;> first | exact ⟨⟩ | refine Hb.mk fun hb => ?_ | skip)
    all_goals (first | (fail_if_success refine goB 8 ?_) | (
    refine goB 8 ?_
    all_goals (refine WC.sr ?_)
    all_goals (refine Go ?_)
    all_goals (refine goC 9 10 ?_ ?_ <;> first | exact ⟨⟩ | refine Hb.mk fun hb => ?_ | skip)
    all_goals (first | (fail_if_success refine goB 9 ?_) | (
    refine goB 9 ?_
    all_goals (refine WC.region ?_)
    all_goals (refine Go ?_)
    all_goals (refine Ld ?_)
    all_goals (refine WL.stepR (okE_buildSlice (vs := [_]) (cs := [_]) (fun | [a0] => [a0] | _ => []) Tryz.underlying22 rfl rfl (by kernel_rfl)) rfl rfl rfl ?_
               rintro _ h1 ⟨b1, rfl, hg1, hb1, hx1⟩)
    all_goals (refine Go ?_)
    skip))
    all_goals (first | (fail_if_success refine goB 10 ?_) | (
    refine goB 10 ?_
    all_goals (refine WC.sr ?_)
    all_goals (refine Go ?_)
    all_goals (refine Gs [(1, _), (2, _), (5, _), (13, _), (38, _)] ?_)
    all_goals (refine goC 11 12 ?_ ?_ <;> first | exact ⟨⟩ | refine Hb.mk fun hb => ?_ | skip)
    all_goals (first | (fail_if_success refine goB 12 ?_) | (
    refine goB 12 ?_
    all_goals (refine WC.sr ?_)
    all_goals (refine Go ?_)
    all_goals (refine goC 13 14 ?_ ?_ <;> first | exact ⟨⟩ | refine Hb.mk fun hb => ?_ | skip)
    all_goals (first | (fail_if_success refine goB 14 ?_) | (
    refine goB 14 ?_
    all_goals (refine WC.sr ?_)
    all_goals (refine Go ?_)
    all_goals (refine Gs [(1, _), (2, _), (5, _), (13, _), (48, _)] ?_)
    all_goals (refine goC 15 16 ?_ ?_ <;> first | exact ⟨⟩ | refine Hb.mk fun hb => ?_ | skip)
    all_goals (first | (fail_if_success refine goB 16 ?_) | (
    refine goB 16 ?_
    all_goals (refine WC.sr ?_)
    all_goals (refine Go ?_)
    all_goals (refine goC 17 18 ?_ ?_ <;> first | exact ⟨⟩ | refine Hb.mk fun hb => ?_ | skip)
    all_goals (first | (fail_if_success refine goB 18 ?_) | (
    refine goB 18 ?_
    all_goals (refine WC.seq ?_)
    all_goals (refine WC.sr ?_)
    all_goals (refine Go ?_)
    all_goals (refine Gs [(1, _), (2, _), (5, _), (13, _), (58, _)] ?_)
    all_goals (refine goC 19 20 ?_ ?_ <;> first | exact ⟨⟩ | refine Hb.mk fun hb => ?_ | skip)
    all_goals (first | (fail_if_success refine goB 19 ?_) | (
    refine goB 19 ?_
    all_goals (refine WC.skip ?_)
    skip))
    all_goals (first | (fail_if_success refine goB 20 ?_) | (
    refine goB 20 ?_
    all_goals (refine WC.region ?_)
    all_goals (refine Go ?_)
    skip))
    all_goals (refine Gn ?_)
    all_goals (refine goC 21 22 ?_ ?_ <;> first | exact ⟨⟩ | refine Hb.mk fun hb => ?_ | skip)
    all_goals (first | (fail_if_success refine goB 22 ?_) | (
    refine goB 22 ?_
    all_goals (refine WC.skip ?_)
    skip))
    skip))
    skip))
    skip))
    skip))
    skip))
    skip))
    skip))
    skip))
    all_goals (refine Gn ?_)
    all_goals (refine WC.sr ?_)
    all_goals (have hb16 := x6.obj hb13 nos
               have hb26 := x6.obj hb23 nos
               obtain ⟨A6, c6, e6, _⟩ := o6.slice
               have hO := o6
               try rw [e6] at hO)
    all_goals (refine WL.step (ok_fieldAddr rfl Tryz.underlying28 rfl (fun w => Tryz.sizeOf5 w)) rfl rfl rfl ?_)
    all_goals (refine WL.ld rfl (by first | exact cell_blk hb16 rfl | assumption | exact cell_blk (by assumption) rfl) rfl rfl rfl ?_)
    all_goals (refine Go ?_)
    all_goals (refine WL.step (ok_buildF (vs := [_, _]) (cs := [_, _]) (fun | [a0, a1] => [a0, a1] | _ => []) rfl rfl (by kernel_rfl)) rfl rfl rfl ?_)
    all_goals (refine WL.stepR0 (okE_storeW (fun w => Tryz.sizeOf54 w) rfl rfl rfl hb26 rfl (by simp [Value.oneCell'])) rfl rfl ?_
               rintro _ h7 ⟨hb7, hx7⟩)
    all_goals (refine Go ?_)
    all_goals (refine Gs [(2, _), (3, _)] ?_)
    all_goals (refine WC.ret ?_)
    all_goals (repeat' (with_reducible first | refine thenP_r ?_ | refine blockP_r ?_))
    all_goals (refine retP_2 _ _ ⟨⟨_, rfl, ld_blk (fun w => Tryz.isAgg54 w) (fun w => Tryz.sizeOf54 w) hb7 rfl⟩, rfl, trivial⟩ ?_)
    all_goals (exact ⟨_, rfl, o6.ext hx7 (fun q hq e => by obtain ⟨_, z⟩ := own_kind o6 hq; rw [e, hb26] at z; simp at z), (hX3.trans x6).trans' hx7 (fun q hq e => by have := hx1.size; omega)⟩)
end Go.Proofs.YtbglafgndaekoaaGreatDoor


/-
  REPLIES (layer 7): what the document's Encode gives of any reply whose texts are no longer than 2^20; a reply as a message (law 41).
-/
namespace Go.Proofs.YtbglafgndaekoaaGreatDoor
open Go Go.RK

set_option maxHeartbeats 4000000 in
set_option maxRecDepth 100000 in
theorem encN_07 {h : Heap} (b : Bk) (hb : b.ok h) (hw : b.wf) (hmd : b.big) (hmay : ¬ b.may) :
    CallsH Tryz.prog 22 ⟨[.agg ⟨b.cells⟩]⟩ h fun u h' => ∃ e, u = .tuple ⟨[.agg ⟨[.int .u8 0, nilV]⟩, In e]⟩ ∧ e ≠ 0 ∧ Ext No h h' := by
  have kc := fun h' (hx : Ext No h h') => checkW07 b (hb.ext0 hx) hw.kind hmd
  obtain ⟨k, st, t, n, v, x, y, vo, lo, vc, lc, vr, lr, vf, lf⟩ := b
  dsimp only [Bk.cells] at kc ⊢
  refine calls [(0, _)] Tryz.func22 rfl Tryz.ntmps22 rfl ⟨rfl, trivial⟩ ?_
  all_goals (refine WC.sr ?_)
  all_goals (refine WL.stepR (okE_box rfl) rfl rfl rfl ?_
             rintro _ h1 ⟨b1, rfl, hg1, hb1, hx1⟩)
  all_goals (refine WL.stepR (okE_alloc (fun w => Tryz.zeroValue54 w)) rfl rfl rfl ?_
             rintro _ h2 ⟨b2, rfl, hg2, hb2, hx2⟩)
  all_goals (have hX2 := hx1.trans hx2
             have hb12 := hx2.obj hb1 nos)
  all_goals (refine Go ?_)
  all_goals (refine WC.seq ?_)
  all_goals (refine WC.sr ?_)
  all_goals (refine WL.step (ok_loadN (fun w => Tryz.isAgg28 w) (fun w => Tryz.sizeOf28 w) rfl rfl (by exact At.of_block hb12)) rfl rfl rfl ?_)
  all_goals (refine WL.call (vs := [_]) rfl (fun a w => Tryz.call65 a w) rfl (kc _ hX2) rfl rfl rfl ?_
             rintro _ h3 ⟨⟨e, rfl, he⟩, hx3⟩
             have hne : e ≠ 0 := fun z => hmay (he.1 z))
  all_goals (have hb23 := hx3.obj hb2 nos)
  all_goals (refine Go ?_)
  all_goals (refine Gs [(1, _), (2, _), (4, _)] ?_)
  all_goals (refine WC.sr ?_)
  all_goals (refine Go ?_)
  all_goals (refine goC 1 2 ?_ ?_ <;> first | exact ⟨⟩ | refine Hb.mk fun hb => ?_ | skip)
  all_goals (first | (fail_if_success refine goB 1 ?_) | (
  refine goB 1 ?_
  all_goals (refine WC.sr ?_)
  all_goals (refine WL.step (ok_buildF (vs := []) (cs := [_, _]) (fun | [] => [(.int .u8 0), (.slice none 0 0)] | _ => []) rfl rfl (by kernel_rfl)) rfl rfl rfl ?_)
  all_goals (refine Go ?_)
  all_goals (refine WL.stepR0 (okE_storeW (fun w => Tryz.sizeOf54 w) rfl rfl rfl hb23 rfl (by simp [Value.oneCell'])) rfl rfl ?_
             rintro _ h4 ⟨hb4, hx4⟩)
  all_goals (refine Go ?_)
  all_goals (refine Gs [(2, _), (3, _)] ?_)
  all_goals (refine WC.ret ?_)
  all_goals (repeat' (with_reducible first | refine thenP_r ?_ | refine blockP_r ?_))
  all_goals (refine retP_2 _ _ ⟨⟨_, rfl, ld_blk (fun w => Tryz.isAgg54 w) (fun w => Tryz.sizeOf54 w) hb4 rfl⟩, rfl, trivial⟩ ?_)
  all_goals (exact ⟨_, rfl, hne, (hX2.trans hx3).trans' hx4 (fun q hq e => by have := hx1.size; omega)⟩)
  skip))
  all_goals (first | (fail_if_success refine goB 2 ?_) | (
  refine goB 2 ?_
  all_goals (refine WC.skip ?_)
  skip))
  all_goals (refine Gn ?_)
  all_goals (refine WC.sr ?_)
  all_goals (refine Go ?_)
  all_goals (refine WC.seq ?_)
  all_goals (refine WC.sr ?_)
  all_goals (refine Go ?_)
  all_goals (refine Ld ?_)
  all_goals (refine Gn ?_)
  all_goals (refine Gs [(1, _), (2, _), (5, _), (13, _)] ?_)
  all_goals (refine WC.block ?_)
  all_goals (refine WC.sr ?_)
  all_goals (refine Go ?_)
  all_goals (refine goC 3 4 ?_ ?_ <;> first | exact ⟨⟩ | refine Hb.mk fun hb => ?_ | skip)
  all_goals (first | (fail_if_success refine goB 4 ?_) | (
  refine goB 4 ?_
  all_goals (refine WC.sr ?_)
  all_goals (refine Go ?_)
  all_goals (refine goC 5 6 ?_ ?_ <;> first | exact ⟨⟩ | refine Hb.mk fun hb => ?_ | skip)
  all_goals (first | (fail_if_success refine goB 6 ?_) | (
  refine goB 6 ?_
  all_goals (refine WC.sr ?_)
  all_goals (refine Go ?_)
  all_goals (refine Gs [(1, _), (2, _), (5, _), (13, _), (25, _)] ?_)
  all_goals (refine goC 7 8 ?_ ?_ <;> first | exact ⟨⟩ | refine Hb.mk fun hb => ?_ | skip)
  all_goals (first | (fail_if_success refine goB 8 ?_) | (
  refine goB 8 ?_
  all_goals (refine WC.sr ?_)
  all_goals (refine Go ?_)
  all_goals (refine goC 9 10 ?_ ?_ <;> first | exact ⟨⟩ | refine Hb.mk fun hb => ?_ | skip)
  all_goals (first | (fail_if_success refine goB 9 ?_) | (
  refine goB 9 ?_
  all_goals (refine WC.region ?_)
  all_goals (refine Go ?_)
  all_goals (refine Ld ?_)
  all_goals (refine WL.stepR (okE_buildSlice (vs := [_]) (cs := [_]) (fun | [a0] => [a0] | _ => []) Tryz.underlying22 rfl rfl (by kernel_rfl)) rfl rfl rfl ?_
             rintro _ h1 ⟨b1, rfl, hg1, hb1, hx1⟩)
  all_goals (refine Go ?_)
  skip))
  all_goals (first | (fail_if_success refine goB 10 ?_) | (
  refine goB 10 ?_
  all_goals (refine WC.sr ?_)
  all_goals (refine Go ?_)
  all_goals (refine Gs [(1, _), (2, _), (5, _), (13, _), (38, _)] ?_)
  all_goals (refine goC 11 12 ?_ ?_ <;> first | exact ⟨⟩ | refine Hb.mk fun hb => ?_ | skip)
  all_goals (first | (fail_if_success refine goB 12 ?_) | (
  refine goB 12 ?_
  all_goals (refine WC.sr ?_)
  all_goals (refine Go ?_)
  all_goals (refine goC 13 14 ?_ ?_ <;> first | exact ⟨⟩ | refine Hb.mk fun hb => ?_ | skip)
  all_goals (first | (fail_if_success refine goB 14 ?_) | (
  refine goB 14 ?_
  all_goals (refine WC.sr ?_)
  all_goals (refine Go ?_)
  all_goals (refine Gs [(1, _), (2, _), (5, _), (13, _), (48, _)] ?_)
  all_goals (refine goC 15 16 ?_ ?_ <;> first | exact ⟨⟩ | refine Hb.mk fun hb => ?_ | skip)
  all_goals (first | (fail_if_success refine goB 16 ?_) | (
  refine goB 16 ?_
  all_goals (refine WC.sr ?_)
  all_goals (refine Go ?_)
  all_goals (refine goC 17 18 ?_ ?_ <;> first | exact ⟨⟩ | refine Hb.mk fun hb => ?_ | skip)
  all_goals (first | (fail_if_success refine goB 18 ?_) | (
  refine goB 18 ?_
  all_goals (refine WC.seq ?_)
  all_goals (refine WC.sr ?_)
  all_goals (refine Go ?_)
  all_goals (refine Gs [(1, _), (2, _), (5, _), (13, _), (58, _)] ?_)
  all_goals (refine goC 19 20 ?_ ?_ <;> first | exact ⟨⟩ | refine Hb.mk fun hb => ?_ | skip)
  all_goals (first | (fail_if_success refine goB 19 ?_) | (
  refine goB 19 ?_
  all_goals (refine WC.skip ?_)
  skip))
  all_goals (first | (fail_if_success refine goB 20 ?_) | (
  refine goB 20 ?_
  all_goals (refine WC.region ?_)
  all_goals (refine Go ?_)
  skip))
  all_goals (refine Gn ?_)
  all_goals (refine goC 21 22 ?_ ?_ <;> first | exact ⟨⟩ | refine Hb.mk fun hb => ?_ | skip)
  all_goals (first | (fail_if_success refine goB 22 ?_) | (
  refine goB 22 ?_
  all_goals (refine WC.skip ?_)
  skip))
  skip))
  skip))
  skip))
  skip))
  skip))
  skip))
  skip))
  skip))
  all_goals (refine Gn ?_)
  all_goals (refine WC.sr ?_)
  all_goals (refine Go ?_)
  all_goals (refine Ld ?_)
  all_goals (refine Go ?_)
  all_goals (refine WL.step (ok_buildF (vs := [_, _]) (cs := [_, _]) (fun | [a0, a1] => [a0, a1] | _ => []) rfl rfl (by kernel_rfl)) rfl rfl rfl ?_)
  all_goals (refine WL.stepR0 (okE_storeW (fun w => Tryz.sizeOf54 w) rfl rfl rfl (by assumption) rfl (by simp [Value.oneCell'])) rfl rfl ?_
             rintro _ h1 ⟨hb1, hx1⟩)
  all_goals (refine Go ?_)
  all_goals (refine Gs [(2, _), (3, _)] ?_)
  all_goals (refine WC.ret ?_)
  all_goals (repeat' (with_reducible first | refine thenP_r ?_ | refine blockP_r ?_))
  all_goals (refine retP_2 _ _ ⟨⟨_, rfl, ld_blk (fun w => Tryz.isAgg54 w) (fun w => Tryz.sizeOf54 w) hb4 rfl⟩, rfl, trivial⟩ ?_)
  all_goals (exact ⟨_, rfl, hne, (hX2.trans hx3).trans' hx4 (fun q hq e => by have := hx1.size; omega)⟩)
/-- What a call of Encode gives. -/
def EncR (b : Bk) (h : Heap) (u : Value) (h' : Heap) : Prop := (∃ k v e L, u = .tuple ⟨[.agg ⟨[.int .u8 k, v]⟩, In e]⟩ ∧ Own h' v 5 1 L.length (bys L) ∧ ((b.may ∧ e = 0 ∧ k = b.kind ∧ L = encBk b) ∨ (¬ b.may ∧ e ≠ 0))) ∧ Ext No h h'
theorem encR_yes {b : Bk} {h h' : Heap} {u : Value} {k : Int} (hm : b.may) (hk : b.kind = k) : (∃ v', u = .tuple ⟨[.agg ⟨[.int .u8 k, v']⟩, In 0]⟩ ∧ Own h' v' 5 1 (encBk b).length (bys (encBk b)) ∧ Ext No h h') → EncR b h u h' :=
  fun ⟨v, a, o, x⟩ => ⟨⟨_, v, 0, _, a, o, .inl ⟨hm, rfl, hk.symm, rfl⟩⟩, x⟩
theorem encR_no {b : Bk} {h h' : Heap} {u : Value} (hm : ¬ b.may) : (∃ e, u = .tuple ⟨[.agg ⟨[.int .u8 0, nilV]⟩, In e]⟩ ∧ e ≠ 0 ∧ Ext No h h') → EncR b h u h' :=
  fun ⟨e, a, o, x⟩ => ⟨⟨0, nilV, e, [], a, Own.nil _ _ _, .inr ⟨hm, o⟩⟩, x⟩
theorem encodeW07 {h : Heap} (b : Bk) (hb : b.ok h) (hw : b.wf) (hmd : b.big) : CallsH Tryz.prog 22 ⟨[.agg ⟨b.cells⟩]⟩ h (EncR b h) := by
  by_cases hm : b.may
  · rcases (may_kind hw.kind).1 hm.kind with k | k | k | k | k | k | k | k | k | k | k | k | k | k | k | k
    · exact (encW_82 b hb hw hmd hm k).mono fun _ _ => encR_yes hm k
    · exact (encW_83 b hb hw hmd hm k).mono fun _ _ => encR_yes hm k
    · exact (encW_75 b hb hw hmd hm k).mono fun _ _ => encR_yes hm k
    · exact (encW_90 b hb hw hmd hm k).mono fun _ _ => encR_yes hm k
    · exact (encW_0 b hb hw hmd hm (by omega)).mono fun _ _ => encR_yes hm rfl
    · exact (encW_0 b hb hw hmd hm (by omega)).mono fun _ _ => encR_yes hm rfl
    · exact (encW_0 b hb hw hmd hm (by omega)).mono fun _ _ => encR_yes hm rfl
    · exact (encW_0 b hb hw hmd hm (by omega)).mono fun _ _ => encR_yes hm rfl
    · exact (encW_0 b hb hw hmd hm (by omega)).mono fun _ _ => encR_yes hm rfl
    · exact (encW_0 b hb hw hmd hm (by omega)).mono fun _ _ => encR_yes hm rfl
    · exact (encW_67 b hb hw hmd hm k).mono fun _ _ => encR_yes hm k
    · exact (encW_68 b hb hw hmd hm k).mono fun _ _ => encR_yes hm k
    · exact (encW_84 b hb hw hmd hm k).mono fun _ _ => encR_yes hm k
    · exact (encW_116 b hb hw hmd hm k).mono fun _ _ => encR_yes hm k
    · exact (encW_69 b hb hw hmd hm k).mono fun _ _ => encR_yes hm k
    · exact (encW_78 b hb hw hmd hm k).mono fun _ _ => encR_yes hm k
  · exact (encN_07 b hb hw hmd hm).mono fun _ _ => encR_no hm
set_option maxHeartbeats 4000000 in
set_option maxRecDepth 100000 in
theorem msg41 {h : Heap} (b : Bk) (hb : b.ok h) (hw : b.wf) (hmd : b.big) : CallsH Tryz.prog 5 ⟨[.agg ⟨b.cells⟩]⟩ h fun u h' => (∃ k v, u = .agg ⟨[.int .u8 k, v]⟩ ∧ v.oneCell' = true) ∧ Ext No h h' := by
  have ke := fun h' (hx : Ext No h h') => encodeW07 b (hb.ext0 hx) hw hmd
  obtain ⟨k, st, t, n, v, x, y, vo, lo, vc, lc, vr, lr, vf, lf⟩ := b
  dsimp only [Bk.cells] at ke ⊢
  refine calls [(0, _)] Tryz.func5 rfl Tryz.ntmps5 rfl ⟨rfl, trivial⟩ ?_
  all_goals (refine WC.sr ?_)
  all_goals (refine WL.stepR (okE_box rfl) rfl rfl rfl ?_
             rintro _ h1 ⟨b1, rfl, hg1, hb1, hx1⟩)
  all_goals (refine WL.stepR (okE_alloc (fun w => Tryz.zeroValue54 w)) rfl rfl rfl ?_
             rintro _ h2 ⟨b2, rfl, hg2, hb2, hx2⟩)
  all_goals (have hX2 := hx1.trans hx2
             have hb12 := hx2.obj hb1 nos)
  all_goals (refine Gn ?_)
  all_goals (refine WC.sr ?_)
  all_goals (refine WL.step (ok_loadN (fun w => Tryz.isAgg28 w) (fun w => Tryz.sizeOf28 w) rfl rfl (by exact At.of_block hb12)) rfl rfl rfl ?_)
  all_goals (refine WL.call (vs := [_]) rfl (fun a w => Tryz.call22 a w) rfl (ke _ hX2) rfl rfl rfl ?_
             rintro _ h3 ⟨⟨k3, v3, e3, L3, rfl, ho3, hcase⟩, hx3⟩
             obtain ⟨A3, c3, rfl, _⟩ := id ho3.slice)
  all_goals (refine Go ?_)
  all_goals (refine WL.stepR (okE_alloc (fun w => Tryz.zeroValue54 w)) rfl rfl rfl ?_
             rintro _ h4 ⟨b4, rfl, hg4, hb4, hx4⟩)
  all_goals (refine WL.stepR0 (okE_storeW (fun w => Tryz.sizeOf54 w) rfl rfl rfl hb4 rfl (by simp [Value.oneCell'])) rfl rfl ?_
             rintro _ h5 ⟨hb45, hx5⟩)
  all_goals (have hX35 : Ext No h3 h5 := hx4.trans' hx5 (fun q hq e => by omega)
             have hX5 := (hX2.trans hx3).trans hX35
             have hb25 := (hx3.trans hX35).obj hb2 nos
             have hb15 := (hx3.trans hX35).obj hb12 nos
             clear hcase
             have hb2h : h.size ≤ b2 := by have := hx1.size; omega
             cases he : decide (e3 = 0))
  all_goals (refine Go ?_)
  all_goals (refine Gs [(1, _), (2, _), (3, _), (4, _)] ?_)
  all_goals (refine WC.seq ?_)
  all_goals (refine WC.sr ?_)
  all_goals (refine Go ?_)
  all_goals (refine goC 1 2 ?_ ?_ <;> first | exact ⟨⟩ | refine Hb.mk fun hb => ?_ | skip)
  all_goals (first | (fail_if_success refine goB 1 ?_) | (
  refine goB 1 ?_
  all_goals (refine WC.sr ?_)
  all_goals (refine Go ?_)
  all_goals (refine WL.ld rfl (by first | exact cell_blk hb15 rfl | assumption | exact cell_blk (by assumption) rfl) rfl rfl rfl ?_)
  all_goals (refine WL.step (ok_buildF (vs := [_]) (cs := [_, _]) (fun | [a0] => [a0, (.slice none 0 0)] | _ => []) rfl rfl (by kernel_rfl)) rfl rfl rfl ?_)
  all_goals (refine WL.stepR0 (okE_storeW (fun w => Tryz.sizeOf54 w) rfl rfl rfl hb25 rfl (by simp [Value.oneCell'])) rfl rfl ?_
             rintro _ h6 ⟨hb6, hx6⟩)
  all_goals (refine Gn ?_)
  all_goals (refine Gs [(2, _)] ?_)
  all_goals (refine WC.ret ?_)
  all_goals (repeat' (with_reducible first | refine thenP_r ?_ | refine blockP_r ?_))
  all_goals (refine retP_1 _ ⟨⟨_, rfl, ld_blk (fun w => Tryz.isAgg54 w) (fun w => Tryz.sizeOf54 w) hb6 rfl⟩, trivial⟩ ?_)
  all_goals (exact ⟨⟨_, _, rfl, rfl⟩, hX5.trans' hx6 (fun q hq e => by omega)⟩)
  skip))
  all_goals (first | (fail_if_success refine goB 2 ?_) | (
  refine goB 2 ?_
  all_goals (refine WC.skip ?_)
  skip))
  all_goals (refine Gn ?_)
  all_goals (refine Gs [(2, _), (3, _)] ?_)
  all_goals (refine WC.sr ?_)
  all_goals (refine WL.step (ok_loadN (fun w => Tryz.isAgg54 w) (fun w => Tryz.sizeOf54 w) rfl rfl (by exact At.of_block hb45)) rfl rfl rfl ?_)
  all_goals (refine WL.stepR0 (okE_storeW (fun w => Tryz.sizeOf54 w) rfl rfl rfl hb25 rfl (by simp [Value.oneCell'])) rfl rfl ?_
             rintro _ h6 ⟨hb6, hx6⟩)
  all_goals (refine Gn ?_)
  all_goals (refine WC.ret ?_)
  all_goals (repeat' (with_reducible first | refine thenP_r ?_ | refine blockP_r ?_))
  all_goals (refine retP_1 _ ⟨⟨_, rfl, ld_blk (fun w => Tryz.isAgg54 w) (fun w => Tryz.sizeOf54 w) hb6 rfl⟩, trivial⟩ ?_)
  all_goals (exact ⟨⟨_, _, rfl, rfl⟩, hX5.trans' hx6 (fun q hq e => by omega)⟩)
end Go.Proofs.YtbglafgndaekoaaGreatDoor


/-
  ARGUMENTS OF BOUNDED Rows.uptoBulk x.1 ≤ 1048576, READ AS PLAIN DATA (printed by opu.py).
-/
namespace Go.Proofs.YtbglafgndaekoaaGreatDoor
open Go Go.RK Go.ChangeShapes Go.WideShapes Go.ChangeAt Go.RowKit Go.Deep

theorem up_part {H : Type} {d : DataW H} {l : List (DataW H)} (h : d ∈ l) : Rows.uptoBulk d ≤ Rows.uptoBulkAll l := by
  induction l with
  | nil => cases h
  | cons x r ih =>
    simp only [Rows.uptoBulkAll]
    cases List.mem_cons.1 h with
    | inl e => subst e; omega
    | inr e => have := ih e; omega
theorem up_one {H : Type} (d : DataW H) : 1 ≤ Rows.uptoBulk d := by
  cases d with
  | lit l => cases l <;> simp [Rows.uptoBulk]
  | nil => simp [Rows.uptoBulk]
  | ptr d => simp [Rows.uptoBulk]
  | slice elems spare => simp [Rows.uptoBulk]
  | agg parts => simp [Rows.uptoBulk]
  | iface t d => simp [Rows.uptoBulk]
  | map entries => simp [Rows.uptoBulk]
  | held h => simp [Rows.uptoBulk]
theorem up_len {H : Type} (l : List (DataW H)) : l.length ≤ Rows.uptoBulkAll l := by
  induction l with
  | nil => simp [Rows.uptoBulkAll]
  | cons x r ih => have := up_one x; simp only [Rows.uptoBulkAll, List.length_cons]; omega
theorem up_slice {H : Type} (elems spare : List (DataW H)) : Rows.uptoBulkAll elems + 1 ≤ Rows.uptoBulk (.slice elems spare) := by
  simp only [Rows.uptoBulk]
  omega
/-- Whatever reads at type t, of bounded bulk, has cells of the form F a, with Q a. -/
def OpensU (P : Program) (w : World) (t : TypeId) {α : Type} (F : α → List Value) (Q : α → Prop) : Prop :=
  ∀ (H : Type) (enc : TypeId × Value → H) (base : Nat) (spare : Nat → Bool) (held : Bool) (fuel : Nat) (cs : List Value) (x : DataW H × List MemPlace), DataW.trod enc P w base spare held fuel t cs = some x → (∀ n ∈ x.1.weights P t, n ≤ reachBytes) → Rows.uptoBulk x.1 ≤ 1048576 → ∃ a, cs = F a ∧ Q a
section
variable {P : Program} {w : World} {t : TypeId}
theorem upU {α : Type} {F : α → List Value} {Q : α → Prop} (o : Opens P w t F Q) : OpensU P w t F Q := fun H enc base spare held fuel cs x h hz _ => o H enc base spare held fuel cs x h hz
theorem OpensU.map {α β : Type} {F : α → List Value} {Q : α → Prop} (o : OpensU P w t F Q) (g : α → β) {F' : β → List Value} {Q' : β → Prop} (hF : ∀ a, F a = F' (g a)) (hQ : ∀ a, Q a → Q' (g a)) : OpensU P w t F' Q' := by
  intro H enc base spare held fuel cs x h hz hu
  obtain ⟨a, rfl, q⟩ := o H enc base spare held fuel cs x h hz hu
  exact ⟨g a, hF a, hQ a q⟩
theorem opensU_string (ht : P.underlying t = some .string) : OpensU P w t (fun l : List UInt8 => [St l]) (fun l => l.length ≤ 1048576) := by
  intro H enc base spare held fuel cs x h hz hu
  obtain ⟨s, h1, h2, _⟩ := DataW.trod_string ht h
  rw [h2] at hu
  exact ⟨s.data.toList, h1, by simp [Rows.uptoBulk] at hu ⊢; omega⟩
/-- Fields, one behind the other from cell o on. -/
def OpensFU (P : Program) (w : World) (o : Nat) (fs : List Field) {α : Type} (F : α → List Value) (Q : α → Prop) : Prop :=
  ∀ (H : Type) (enc : TypeId × Value → H) (base : Nat) (spare : Nat → Bool) (held : Bool) (n : Nat) (cs : List Value),
    (∀ f ∈ fs, ∃ x, DataW.trod enc P w base spare held n f.type ((cs.drop f.offset).take (P.cellsOf f.type)) = some x ∧ (∀ n ∈ x.1.weights P f.type, n ≤ reachBytes) ∧ Rows.uptoBulk x.1 ≤ 1048576) → ∃ a, (cs.drop o).take (F a).length = F a ∧ (F a).length = (fs.map fun f => P.cellsOf f.type).sum ∧ Q a
theorem opensFU_nil {o : Nat} : OpensFU P w o [] (fun _ : Unit => []) (fun _ => True) := fun _ _ _ _ _ _ _ _ => ⟨(), by simp, by simp, trivial⟩
theorem opensFU_cons {α β : Type} {o : Nat} {f : Field} {fs : List Field} {F : α → List Value} {Q : α → Prop} {G : β → List Value} {R : β → Prop} {sz : Nat} (ho : f.offset = o) (h1 : OpensU P w f.type F Q) (hc : P.cellsOf f.type = sz) (hl : ∀ a, (F a).length = sz) (h2 : OpensFU P w (o + sz) fs G R) :
    OpensFU P w o (f :: fs) (fun p : α × β => F p.1 ++ G p.2) (fun p => Q p.1 ∧ R p.2) := by
  intro H enc base spare held n cs h
  obtain ⟨x, hx, hz, hu⟩ := h f (by simp)
  obtain ⟨a, ha, qa⟩ := h1 H enc base spare held n _ _ hx hz hu
  obtain ⟨b, hb, hbl, qb⟩ := h2 H enc base spare held n cs fun g hg => h g (by simp [hg])
  refine ⟨(a, b), ?_, ?_, qa, qb⟩
  · rw [ho, hc] at ha
    simp only [List.length_append]
    rw [List.take_add, hl, ha, List.drop_drop, hb]
  · simp [hl, hc, hbl]
theorem opensU_struct {α : Type} {fs : List Field} {F : α → List Value} {Q : α → Prop} (ht : P.underlying t = some (.struct ⟨fs⟩)) (hc : P.cellsOf t = (fs.map fun f => P.cellsOf f.type).sum) (hf : OpensFU P w 0 fs F Q) : OpensU P w t F Q := by
  intro H enc base spare held fuel cs x h hz hu
  obtain ⟨xs, n, _, rfl, hl, hxl, hi⟩ := DataW.trod_struct ht h
  obtain ⟨a, ha, hal, q⟩ := hf H enc base spare held n cs fun f hm => by
    obtain ⟨i, hi', e⟩ := List.mem_iff_getElem.1 hm
    have h1 := hi i f (by simp [← e, hi'])
    have h2 : i < xs.length := by rw [hxl]; simpa using hi'
    rw [List.getElem?_eq_getElem h2] at h1
    refine ⟨_, h1, fun m hm => hz m ?_, Nat.le_trans (up_part (l := xs.map (·.1)) (List.mem_map.2 ⟨_, List.getElem_mem h2, rfl⟩)) (by simp only [Rows.uptoBulk] at hu; omega)⟩
    simp only [DataW.weights, ht]
    exact DataW.weights_mem_each (j := i) (by simp [List.getElem?_eq_getElem hi', e]) (by simp [List.getElem?_eq_getElem h2]) m hm
  refine ⟨a, ?_, q⟩
  rw [← ha, List.drop_zero, List.take_of_length_le (by omega)]
theorem opensU_slice {α : Type} {e : TypeId} {F : α → List Value} {Q : α → Prop} {sz : Nat} (ht : P.underlying t = some (.slice e)) (hc : P.cellsOf e = sz) (hp : 0 < sz) (hl : ∀ a, (F a).length = sz) (h1 : OpensU P w e F Q) :
    OpensU P w t (fun p : Value × List α => [p.1]) (fun p => Rd w.heap p.1 sz p.2.length (p.2.flatMap F) ∧ p.2.length ≤ maxLen ∧ (∃ A c, p.1 = .slice A p.2.length c ∧ c ≤ maxLen) ∧ (∀ a ∈ p.2, Q a) ∧ p.2.length * P.bytesOf e ≤ reachBytes ∧ p.2.length ≤ 1048576) := by
  intro H enc base spare held fuel cs x h hz hu
  rcases open_slice ht h with ⟨rfl, _⟩ | ⟨a, len, cap, m, n, D, Pl, rfl, hb, hle, hm, hme, rfl, hi⟩
  · exact ⟨(.slice Option.none 0 0, []), rfl, Rd.nil _ _, by simp [maxLen], ⟨_, _, rfl, by simp [maxLen]⟩, by simp, by simp, by simp⟩
  · rw [hc] at hi
    have hml : len ≤ m := by rw [hme]; split <;> omega
    have key : ∀ k, k ≤ len → ∃ l : List α, l.length = k ∧ (∀ a ∈ l, Q a) ∧ ∀ (j : Nat) (v : Value), (l.flatMap F)[j]? = some v → w.cell? (a.add j) = some v := by
      intro k
      induction k with
      | zero => intro _; exact ⟨[], rfl, by simp, by simp⟩
      | succ k ih =>
        intro hk
        obtain ⟨l, hll, hq, hj⟩ := ih (by omega)
        obtain ⟨cs', hcs, htr⟩ := hi k (by omega)
        obtain ⟨b, rfl, qb⟩ := h1 H enc base spare held n _ _ htr (fun m hm => hz m (by
          simp only [DataW.weights, ht, List.mem_cons, List.mem_append]
          exact .inr (.inl (weightsAll_mem (List.mem_map.2 ⟨k, List.mem_range.2 (by omega), rfl⟩) m hm)))) (Nat.le_trans (up_part (List.mem_map.2 ⟨k, List.mem_range.2 (by omega), rfl⟩)) (Nat.le_trans (Nat.le_succ _) (Nat.le_trans (up_slice _ _) hu)))
        obtain ⟨_, hcl, hcell⟩ := World.cells?_some hcs
        have hfl : (l.flatMap F).length = k * sz := by rw [← hll]; exact length_flat hl l
        refine ⟨l ++ [b], by simp [hll], ?_, ?_⟩
        · intro c hcm
          rcases List.mem_append.1 hcm with hcm | hcm
          · exact hq c hcm
          · simp at hcm; subst hcm; exact qb
        · intro j v hv
          simp only [List.flatMap_append, List.flatMap_cons, List.flatMap_nil, List.append_nil] at hv
          by_cases hjl : j < (l.flatMap F).length
          · rw [List.getElem?_append_left hjl] at hv
            exact hj j v hv
          · rw [List.getElem?_append_right (by omega)] at hv
            have hlt := (List.getElem?_eq_some_iff.1 hv).1
            have h2 := hcell (j - (l.flatMap F).length) (by rw [← hl b]; exact hlt)
            rw [hv] at h2
            rw [← h2, Go.Deep.add_add]
            congr 2
            omega
    obtain ⟨l, hll, hq, hj⟩ := key len (Nat.le_refl _)
    refine ⟨(.slice (some a) len cap, l), rfl, ⟨some a, cap, by rw [hll], by show l.length ≤ cap; omega, ?_, fun hn => ?_⟩, by show l.length ≤ _; omega, ⟨_, _, by rw [hll], hm⟩, hq, by
      have := hz _ (by simp only [DataW.weights, ht]; exact List.mem_cons_self)
      refine Nat.le_trans (Nat.mul_le_mul_right _ ?_) this
      simp [hll], Nat.le_trans (by simp [hll]) (Nat.le_trans (up_len _) (Nat.le_trans (Nat.le_succ _) (Nat.le_trans (up_slice _ _) hu)))⟩
    · exact length_flat hl l
    · have h0 : 0 < (l.flatMap F).length := by
        cases l with
        | nil => simp at hn
        | cons a l => simp [hl]; omega
      have hc0 := hj 0 _ (List.getElem?_eq_getElem h0)
      rw [Addr.add_zero'] at hc0
      obtain ⟨b, o, spot⟩ := a
      have hs : spot = Option.none := cell_spot hc0
      subst hs
      refine ⟨b, o, rfl, cell_lt hc0, fun j v hv => ?_⟩
      have := hj j v hv
      rw [Addr.add_lit] at this
      exact this
end
theorem opensU_col (w : World) : OpensU Tryz.prog w 264 ColD.cells (fun c => c.nm.length ≤ 1048576) := by
  have h7 := opensFU_cons (P := Tryz.prog) (w := w) (o := 6) (f := ⟨ "Format", 3, 6, false, "", "", 56⟩) rfl (upU (opens_int Tryz.underlying3)) (by kernel_rfl) (fun _ => rfl) opensFU_nil
  have h6 := opensFU_cons (P := Tryz.prog) (w := w) (o := 5) (f := ⟨ "Mod", 3, 5, false, "", "", 48⟩) rfl (upU (opens_int Tryz.underlying3)) (by kernel_rfl) (fun _ => rfl) h7
  have h5 := opensFU_cons (P := Tryz.prog) (w := w) (o := 4) (f := ⟨ "Size", 3, 4, false, "", "", 40⟩) rfl (upU (opens_int Tryz.underlying3)) (by kernel_rfl) (fun _ => rfl) h6
  have h4 := opensFU_cons (P := Tryz.prog) (w := w) (o := 3) (f := ⟨ "OID", 3, 3, false, "", "", 32⟩) rfl (upU (opens_int Tryz.underlying3)) (by kernel_rfl) (fun _ => rfl) h5
  have h3 := opensFU_cons (P := Tryz.prog) (w := w) (o := 2) (f := ⟨ "Attr", 3, 2, false, "", "", 24⟩) rfl (upU (opens_int Tryz.underlying3)) (by kernel_rfl) (fun _ => rfl) h4
  have h2 := opensFU_cons (P := Tryz.prog) (w := w) (o := 1) (f := ⟨ "Table", 3, 1, false, "", "", 16⟩) rfl (upU (opens_int Tryz.underlying3)) (by kernel_rfl) (fun _ => rfl) h3
  have h1 := opensFU_cons (P := Tryz.prog) (w := w) (o := 0) (f := ⟨ "Name", 9, 0, false, "", "", 0⟩) rfl (opensU_string Tryz.underlying9) (by kernel_rfl) (fun _ => rfl) h2
  exact (opensU_struct Tryz.underlying264 (by kernel_rfl) h1).map (fun p => (⟨p.1, p.2.1, p.2.2.1, p.2.2.2.1, p.2.2.2.2.1, p.2.2.2.2.2.1, p.2.2.2.2.2.2.1⟩ : ColD)) (fun _ => rfl) (fun _ q => q.1)
theorem opensU_fld (w : World) : OpensU Tryz.prog w 266 FieldD.cells (fun f => (Lit.int .u8 f.k).wf = true ∧ f.t.length ≤ 1048576) := by
  have h2 := opensFU_cons (P := Tryz.prog) (w := w) (o := 1) (f := ⟨ "Text", 9, 1, false, "", "", 8⟩) rfl (opensU_string Tryz.underlying9) (by kernel_rfl) (fun _ => rfl) opensFU_nil
  have h1 := opensFU_cons (P := Tryz.prog) (w := w) (o := 0) (f := ⟨ "Code", 5, 0, false, "", "", 0⟩) rfl (upU (opens_int Tryz.underlying5)) (by kernel_rfl) (fun _ => rfl) h2
  exact (opensU_struct Tryz.underlying266 (by kernel_rfl) h1).map (fun p => (⟨p.1, p.2.1⟩ : FieldD)) (fun _ => rfl) (fun p q => ⟨q.1, q.2.1⟩)
theorem opensU_cell (w : World) : OpensU Tryz.prog w 262 Cel.cells (fun c => c.ok w.heap ∧ c.bytes.length ≤ 1048576) := by
  have h1 := opensFU_cons (P := Tryz.prog) (w := w) (o := 1) (f := ⟨ "Bytes", 22, 1, false, "", "", 8⟩) rfl (opensU_slice (sz := 1) (F := fun n : UInt8 => [By n]) Tryz.underlying22 (by kernel_rfl) (by decide) (fun _ => rfl) (upU (opens_byte Tryz.underlying5))) (by kernel_rfl) (fun _ => rfl) opensFU_nil
  have h2 := opensFU_cons (P := Tryz.prog) (w := w) (o := 0) (f := ⟨ "Null", 4, 0, false, "", "", 0⟩) rfl (upU (opens_bool Tryz.underlying4)) (by kernel_rfl) (fun _ => rfl) h1
  exact (opensU_struct Tryz.underlying262 (by kernel_rfl) h2).map (fun p => (⟨p.1, p.2.1.1, p.2.1.2⟩ : Cel)) (fun _ => rfl) (fun p q => ⟨⟨by have := q.2.1.1; rw [flat_one] at this; exact this, by simpa [show Tryz.prog.bytesOf 5 = 1 by kernel_rfl] using q.2.1.2.2.2.2.1⟩, q.2.1.2.2.2.2.2⟩)
theorem opensU_cells (w : World) : OpensU Tryz.prog w 25 (fun p : Value × List Cel => [p.1]) (fun p => Cels w.heap p.1 p.2 ∧ ∀ c ∈ p.2, c.bytes.length ≤ 1048576) :=
  (opensU_slice Tryz.underlying25 (by kernel_rfl) (by decide) Cel.len (opensU_cell w)).map id (fun _ => rfl) fun p q => ⟨⟨q.1, ⟨by have := q.2.2.2.2.1; rwa [show Tryz.prog.bytesOf 262 = 32 by kernel_rfl] at this, q.2.2.1⟩, fun c hc => (q.2.2.2.1 c hc).1⟩, fun c hc => (q.2.2.2.1 c hc).2⟩
theorem opensU_bk (w : World) : OpensU Tryz.prog w 28 Bk.cells (fun b => b.ok w.heap ∧ b.wf ∧ b.big) := by
  have h11 := opensFU_cons (P := Tryz.prog) (w := w) (o := 10) (f := ⟨ "Fields", 26, 10, false, "", "", 144⟩) rfl (opensU_slice Tryz.underlying26 (by kernel_rfl) (by decide) FieldD.len (opensU_fld w)) (by kernel_rfl) (fun _ => rfl) opensFU_nil
  have h10 := opensFU_cons (P := Tryz.prog) (w := w) (o := 9) (f := ⟨ "Row", 25, 9, false, "", "", 120⟩) rfl (opensU_cells w) (by kernel_rfl) (fun _ => rfl) h11
  have h9 := opensFU_cons (P := Tryz.prog) (w := w) (o := 8) (f := ⟨ "Cols", 24, 8, false, "", "", 96⟩) rfl (opensU_slice Tryz.underlying24 (by kernel_rfl) (by decide) ColD.len (opensU_col w)) (by kernel_rfl) (fun _ => rfl) h10
  have h8 := opensFU_cons (P := Tryz.prog) (w := w) (o := 7) (f := ⟨ "OIDs", 23, 7, false, "", "", 72⟩) rfl (opensU_slice (sz := 1) (F := fun n : Int => [In n]) Tryz.underlying23 (by kernel_rfl) (by decide) (fun _ => rfl) (upU (opens_int Tryz.underlying3))) (by kernel_rfl) (fun _ => rfl) h9
  have h7 := opensFU_cons (P := Tryz.prog) (w := w) (o := 6) (f := ⟨ "M", 3, 6, false, "", "", 64⟩) rfl (upU (opens_int Tryz.underlying3)) (by kernel_rfl) (fun _ => rfl) h8
  have h6 := opensFU_cons (P := Tryz.prog) (w := w) (o := 5) (f := ⟨ "N", 3, 5, false, "", "", 56⟩) rfl (upU (opens_int Tryz.underlying3)) (by kernel_rfl) (fun _ => rfl) h7
  have h5 := opensFU_cons (P := Tryz.prog) (w := w) (o := 4) (f := ⟨ "Value", 9, 4, false, "", "", 40⟩) rfl (opensU_string Tryz.underlying9) (by kernel_rfl) (fun _ => rfl) h6
  have h4 := opensFU_cons (P := Tryz.prog) (w := w) (o := 3) (f := ⟨ "Name", 9, 3, false, "", "", 24⟩) rfl (opensU_string Tryz.underlying9) (by kernel_rfl) (fun _ => rfl) h5
  have h3 := opensFU_cons (P := Tryz.prog) (w := w) (o := 2) (f := ⟨ "Tag", 9, 2, false, "", "", 8⟩) rfl (opensU_string Tryz.underlying9) (by kernel_rfl) (fun _ => rfl) h4
  have h2 := opensFU_cons (P := Tryz.prog) (w := w) (o := 1) (f := ⟨ "Status", 5, 1, false, "", "", 1⟩) rfl (upU (opens_int Tryz.underlying5)) (by kernel_rfl) (fun _ => rfl) h3
  have h1 := opensFU_cons (P := Tryz.prog) (w := w) (o := 0) (f := ⟨ "Kind", 5, 0, false, "", "", 0⟩) rfl (upU (opens_int Tryz.underlying5)) (by kernel_rfl) (fun _ => rfl) h2
  have h0 := opensU_struct Tryz.underlying28 (by kernel_rfl) h1
  refine h0.map (fun p => (⟨p.1, p.2.1, p.2.2.1, p.2.2.2.1, p.2.2.2.2.1, p.2.2.2.2.2.1, p.2.2.2.2.2.2.1, p.2.2.2.2.2.2.2.1.1, p.2.2.2.2.2.2.2.1.2, p.2.2.2.2.2.2.2.2.1.1, p.2.2.2.2.2.2.2.2.1.2, p.2.2.2.2.2.2.2.2.2.1.1, p.2.2.2.2.2.2.2.2.2.1.2, p.2.2.2.2.2.2.2.2.2.2.1.1, p.2.2.2.2.2.2.2.2.2.2.1.2⟩ : Bk)) (fun _ => rfl) (fun p q => ?_)
  obtain ⟨q1, q2, q3, q4, q5, q6, q7, q8, q9, q10, q11, _⟩ := q
  refine ⟨⟨⟨?_, q8.2.1⟩, ⟨q9.1, q9.2.1⟩, q10.1, ⟨q11.1, q11.2.1⟩⟩, ⟨wf_u8 q1, wf_u8 q2, fun f hf => wf_u8 (q11.2.2.2.1 f hf).1⟩, ⟨q9.2.2.2.1, q10.2, fun f hf => (q11.2.2.2.1 f hf).2, q3, q4, q5⟩⟩
  have := q8.1
  rw [flat_one] at this
  exact this

/-- A call of a pooler: its kind, who, a number, bytes, a reply. -/
abbrev DoP := (Int × Int × Int × Value) × Bk
def doC : DoP → List Value := fun p => [.int .i64 p.1.1, .int .i64 p.1.2.1, .int .i64 p.1.2.2.1, p.1.2.2.2] ++ p.2.cells
theorem opensU_do (w : World) : OpensU Tryz.prog w 30 doC (fun p => p.1.2.2.2.oneCell' = true ∧ p.2.ok w.heap ∧ p.2.wf ∧ p.2.big) := by
  have h0 := opensFU_cons (P := Tryz.prog) (w := w) (o := 4) (f := ⟨ "Reply", 28, 4, false, "", "", 48⟩) rfl (sz := 11) (opensU_bk w) (by kernel_rfl) (fun _ => rfl) opensFU_nil
  have h1 := opensFU_cons (P := Tryz.prog) (w := w) (o := 3) (f := ⟨ "Bytes", 22, 3, false, "", "", 24⟩) rfl (upU (opens_bytes Tryz.underlying22 (by kernel_rfl) (by kernel_rfl) Tryz.underlying5)) (by kernel_rfl) (fun _ => rfl) h0
  have h2 := opensFU_cons (P := Tryz.prog) (w := w) (o := 2) (f := ⟨ "N", 3, 2, false, "", "", 16⟩) rfl (upU (opens_int Tryz.underlying3)) (by kernel_rfl) (fun _ => rfl) h1
  have h3 := opensFU_cons (P := Tryz.prog) (w := w) (o := 1) (f := ⟨ "Who", 3, 1, false, "", "", 8⟩) rfl (upU (opens_int Tryz.underlying3)) (by kernel_rfl) (fun _ => rfl) h2
  have h4 := opensFU_cons (P := Tryz.prog) (w := w) (o := 0) (f := ⟨ "Op", 3, 0, false, "", "", 0⟩) rfl (upU (opens_int Tryz.underlying3)) (by kernel_rfl) (fun _ => rfl) h3
  exact (opensU_struct Tryz.underlying30 (by kernel_rfl) h4).map (fun p => (((p.1, p.2.1, p.2.2.1, p.2.2.2.1.1), p.2.2.2.2.1) : DoP)) (fun _ => by simp [doC]) (fun p q => by
    obtain ⟨_, _, _, ⟨⟨_, _, e, _⟩, _⟩, ⟨a, b, c⟩, _⟩ := q
    refine ⟨?_, a, b, c⟩
    show p.2.2.2.1.1.oneCell' = true
    rw [e]
    rfl)
end Go.Proofs.YtbglafgndaekoaaGreatDoor


/-
  ProxyNobody: the law.
-/
namespace Go.Proofs.YtbglafgndaekoaaGreatDoor
open Go Go.RK

theorem nobody41 {h : Heap} (p : DoP) (hp : p.1.2.2.2.oneCell' = true) (hb : p.2.ok h) (hw : p.2.wf) (hg : p.2.big) : CallsH Tryz.prog 3 ⟨[.agg ⟨doC p⟩]⟩ h fun u h' => u = .bool true ∧ Ext No h h' := by
  obtain ⟨⟨p1, p2, p3, p4⟩, b⟩ := p
  dsimp only at hp hb hw hg
  have hone : ∀ v ∈ doC ((p1, p2, p3, p4), b), v.oneCell' = true := by
    obtain ⟨⟨bo, _⟩, ⟨bc, _⟩, ⟨br, _⟩, bf, _⟩ := hb
    obtain ⟨k, st, t, n, v, x, y, wo, mo, wc, mc, wr, mr, wf, mf⟩ := b
    dsimp only at bo bc br bf
    obtain ⟨_, _, rfl, _⟩ := bo
    obtain ⟨_, _, rfl, _⟩ := bc
    obtain ⟨_, _, rfl, _⟩ := br
    obtain ⟨_, _, rfl, _⟩ := bf
    intro v hv
    dsimp only [doC, Bk.cells, List.cons_append, List.nil_append] at hv
    simp only [List.mem_cons, List.not_mem_nil, or_false] at hv
    rcases hv with rfl | rfl | rfl | rfl | rfl | rfl | rfl | rfl | rfl | rfl | rfl | rfl | rfl | rfl | rfl <;> first | rfl | exact hp
  let τ : Nat → Value := fun j => (doC ((p1, p2, p3, p4), b)).getD j (.bool true)
  have e1 : @vaL ⟨τ, h⟩ 0 15 = doC ((p1, p2, p3, p4), b) := rfl
  have e2 : @vaL ⟨τ, h⟩ 4 11 = b.cells := rfl
  have hv : @VaL ⟨τ, h⟩ (fun _ => Option.none) arg41 [.agg ⟨doC ((p1, p2, p3, p4), b)⟩] := by
    letI : Opq := ⟨τ, h⟩
    refine .cons (.agg ?_) .nil
    rw [← e1]; exact opL_va 15 0 fun j _ _ => getD_one hone j
  have km : @NOk ⟨τ, h⟩ Tryz.prog (natM natA) := by
    letI : Opq := ⟨τ, h⟩
    refine fixN_ok (@natA_ok ⟨τ, h⟩) (fun args w => Tryz.call5 args w) fun g hx => ?_
    rw [e2]
    exact (msg41 b (hb.ext0 hx) hw hg).mono fun u h' ⟨⟨k, v, a, o⟩, x⟩ => ⟨fun σ => by rw [a]; exact .agg (.cons (.any rfl) (.cons (.any o) .nil)), x⟩
  exact ev_true τ (by kernel_rfl) ev_nm km (by kernel_rfl) ev41 hv
end Go.Proofs.YtbglafgndaekoaaGreatDoor


/-
  POOLERS (layer 41): what the library's variables hold when a law is called.
-/
namespace Go.Proofs.YtbglafgndaekoaaGreatDoor
open Go Go.RK

def laidP : List (String × DataW Unit) := Rows.proxyNobodyUptoRow.laid.filter fun x => x.2.handleName?.isNone
noncomputable def laidWorld (os : Os) : World := (World.holding Tryz.prog os ⟨#[], #[], []⟩).layVars Tryz.prog laidP
theorem laidWorld_os (os : Os) : (laidWorld os).os = os := World.layVars_os _ _ _
theorem laidWorld_met (os : Os) (args : Array Value) : laidMetH Tryz.prog Rows.proxyNobodyUptoRow.laid ((laidWorld os).forCall (fun _ _ => 0) ⟨#[], args, []⟩).memory := by
  have e1 : (laidP.filter fun x => (laidP.map (·.1)).contains x.1) = laidP := List.filter_eq_self.2 fun x hx => List.contains_iff_mem.2 (List.mem_map.2 ⟨x, hx, rfl⟩)
  have e2 : (laidP.filter fun x => !(laidP.map (·.1)).contains x.1) = [] := List.filter_eq_nil_iff.2 fun x hx => by rw [List.contains_iff_mem.2 (List.mem_map.2 ⟨x, hx, rfl⟩)]; simp
  have h : laidMet Tryz.prog laidP (laidWorld os) := laidMet_layVars (w0 := World.holding Tryz.prog os ⟨#[], #[], []⟩) (laidP.map (·.1)) [] (by rw [e1]; rfl) (by rw [e1]; kernel_rfl) (by rw [e1]; kernel_rfl) (by rw [e2]; exact LaidIn.none)
  exact laidMetH_of_parts (h.of_heap (by simp [World.memory, World.forCall, Input.heap])) (by kernel_rfl)
end Go.Proofs.YtbglafgndaekoaaGreatDoor


