/-
  SEVERAL TEXTS IN ONE: BkQ2n, Ec7, PlB, FmB, PlF, Ln41, SeN.
-/
import Derived.Test.YtinjbljnbiiloaaGreatDoorPLinkNobody4
import Derived.Test.YtinjbljnbiiloaaGreatDoorRows
import Derived.Lay
import Derived.LaidLaws
import Derived.LaidHandle
import Derived.Stop.Joined
/-
  REPLIES (layer 7): the body of a reply that may be, as the document writes it. Printed by encp.py.
-/
namespace Go.Proofs.YtinjbljnbiiloaaGreatDoor
open Go Go.RK

set_option maxHeartbeats 4000000 in
set_option maxRecDepth 100000 in
theorem encQ_82 {h : Heap} (b : Bk) (hb : b.ok h) (hw : b.wf) (hmd : b.mid) (hmay : b.may) (hk : b.kind = 82) :
    CallsH Tryz.prog 49 ⟨[.agg ⟨b.cells⟩]⟩ h fun u h' => ∃ v', u = .tuple ⟨[.agg ⟨[.int .u8 82, v']⟩, In 0]⟩ ∧ Own h' v' 5 1 (encBk b).length (bys (encBk b)) ∧ Ext No h h' := by
  have kc := fun h' (hx : Ext No h h') => checkA07 b (hb.ext0 hx) hw.kind hmd
  have hL : encBk b = be 0 4 := by simp [encBk, hk]
  rw [hL]
  clear hL
  have hst := hw.status
  obtain ⟨md1, md2, md3, md4, md5, md6, md7, md8, md9, md10⟩ := hmd
  have m_c := hmay.cols.2
  have m_o := hmay.oids.2
  have m_n := hmay.n
  have m_m := hmay.m
  have m_r := hmay.row.2
  have hF : ∀ f ∈ b.fields, f.t.length ≤ 200000 ∧ 0 ≤ f.k ∧ f.k ≤ 255 := fun f hf => ⟨md7 f hf, hw.codes f hf⟩
  clear hw
  obtain ⟨ho, hc, hr, hf⟩ := hb
  obtain ⟨k, st, t, n, v, x, y, vo, lo, vc, lc, vr, lr, vf, lf⟩ := b
  dsimp only at hk hst ho hc hr hf md1 md2 md3 md4 md5 md6 md7 md8 md9 md10 m_c m_o m_n m_m m_r hF ⊢
  have hro := ho.1
  have hrc := hc.1
  have hrr := hr.1
  have hrf := hf.1
  obtain ⟨Ao, co, rfl, _⟩ := id hro
  obtain ⟨Ac, cc, rfl, _⟩ := id hrc
  obtain ⟨Ar, cr, rfl, _⟩ := id hrr
  obtain ⟨Af, cf, rfl, _⟩ := id hrf
  dsimp only [Bk.cells] at kc ⊢
  subst hk
  refine calls [(0, _)] Tryz.func49 rfl Tryz.ntmps49 rfl ⟨rfl, trivial⟩ ?_
  all_goals (refine WC.sr ?_)
  all_goals (refine WL.stepR (okE_box rfl) rfl rfl rfl ?_
             rintro _ h1 ⟨b1, rfl, hg1, hb1, hx1⟩)
  all_goals (refine WL.stepR (okE_alloc (fun w => Tryz.zeroValue50 w)) rfl rfl rfl ?_
             rintro _ h2 ⟨b2, rfl, hg2, hb2, hx2⟩)
  all_goals (have hX2 := hx1.trans hx2
             have hb12 := hx2.obj hb1 nos)
  all_goals (refine Go ?_)
  all_goals (refine WC.seq ?_)
  all_goals (refine WC.sr ?_)
  all_goals (refine WL.step (ok_loadN (fun w => Tryz.isAgg29 w) (fun w => Tryz.sizeOf29 w) rfl rfl (by exact At.of_block hb12)) rfl rfl rfl ?_)
  all_goals (refine WL.call (vs := [_]) rfl (fun a w => Tryz.call112 a w) rfl (kc _ hX2) rfl rfl rfl ?_
             rintro _ h3 ⟨⟨e, rfl, he⟩, hx3⟩
             obtain rfl := he.2 hmay)
  all_goals (have hb13 := hx3.obj hb12 nos
             have hb23 := hx3.obj hb2 nos
             have hX3 := hX2.trans hx3
             have l1 := lt_of_some hb13
             have l2 := lt_of_some hb23)
  all_goals (refine Go ?_)
  all_goals (refine Gs [(1, _), (2, _), (4, _)] ?_)
  all_goals (refine WC.sr ?_)
  all_goals (refine Go ?_)
  all_goals (refine goC 1 2 ?_ ?_ <;> first | exact ⟨⟩ | refine Hb.mk fun hb => ?_ | skip)
  all_goals (first | (fail_if_success refine goB 1 ?_) | (
  refine goB 1 ?_
  all_goals (refine WC.sr ?_)
  all_goals (refine WL.step (ok_buildF (vs := []) (cs := [_, _]) (fun | [] => [(.int .u8 0), (.slice none 0 0)] | _ => []) rfl rfl (by kernel_rfl)) rfl rfl rfl ?_)
  all_goals (refine Go ?_)
  all_goals (refine WL.stepR0 (okE_storeW (fun w => Tryz.sizeOf50 w) rfl rfl rfl (by assumption) rfl (by simp [Value.oneCell'])) rfl rfl ?_
             rintro _ h1 ⟨hb1, hx1⟩)
  all_goals (refine Go ?_)
  all_goals (refine Gs [(2, _), (3, _)] ?_)
  all_goals (refine WC.ret ?_)
  all_goals (repeat' (with_reducible first | refine thenP_r ?_ | refine blockP_r ?_))
  all_goals (refine retP_2 _ _ ⟨⟨_, rfl, ld_blk (fun w => Tryz.isAgg50 w) (fun w => Tryz.sizeOf50 w) hb7 rfl⟩, rfl, trivial⟩ ?_)
  all_goals (exact ⟨_, rfl, o6.ext hx7 (fun q hq e => by obtain ⟨_, z⟩ := own_kind o6 hq; rw [e, hb26] at z; simp at z), (hX3.trans x6).trans' hx7 (fun q hq e => by have := hx1.size; omega)⟩)
  skip))
  all_goals (first | (fail_if_success refine goB 2 ?_) | (
  refine goB 2 ?_
  all_goals (refine WC.skip ?_)
  skip))
  all_goals (refine Gn ?_)
  all_goals (refine WC.sr ?_)
  all_goals (refine Go ?_)
  all_goals (refine WC.seq ?_)
  all_goals (refine WC.sr ?_)
  all_goals (refine Go ?_)
  all_goals (refine WL.ld rfl (by first | exact cell_blk hb13 rfl | assumption | exact cell_blk (by assumption) rfl) rfl rfl rfl ?_)
  all_goals (refine Gn ?_)
  all_goals (refine Gs [(1, _), (2, _), (5, _), (13, _)] ?_)
  all_goals (refine WC.block ?_)
  all_goals (refine WC.sr ?_)
  all_goals (refine Go ?_)
  all_goals (refine goC 3 4 ?_ ?_ <;> first | exact ⟨⟩ | refine Hb.mk fun hb => ?_ | skip)
  all_goals (first | (fail_if_success refine goB 3 ?_) | (
  refine goB 3 ?_
  all_goals (refine WC.region ?_)
  all_goals (refine WL.call (vs := [_, _, _]) rfl (fun a w => Tryz.call113 a w) rfl (put01 [] 0 4 sz4 (rt4s (by omega)) (Rd.nil _ _) (by decide)) rfl rfl rfl ?_
             rintro v6 h6 ⟨oo6, hx6, hf6⟩
             have o6 : Own h6 v6 5 1 (be 0 4).length (bys (be 0 4)) := by simpa using oo6
             have x6 : Ext No h3 h6 := hx6)
  all_goals (refine Go ?_)
  skip))
  all_goals (first | (fail_if_success refine goB 4 ?_) | (
  refine goB 4 ?_
  all_goals (refine WC.sr ?_)
  all_goals (refine Go ?_)
  all_goals (refine goC 5 6 ?_ ?_ <;> first | exact ⟨⟩ | refine Hb.mk fun hb => ?_ | skip)
  all_goals (first | (fail_if_success refine goB 6 ?_) | (
  refine goB 6 ?_
  all_goals (refine WC.sr ?_)
  all_goals (refine Go ?_)
  all_goals (refine Gs [(1, _), (2, _), (5, _), (13, _), (25, _)] ?_)
  all_goals (refine goC 7 8 ?_ ?_ <;> first | exact ⟨⟩ | refine Hb.mk fun hb => ?_ | skip)
  all_goals (first | (fail_if_success refine goB 8 ?_) | (
  refine goB 8 ?_
  all_goals (refine WC.sr ?_)
  all_goals (refine Go ?_)
  all_goals (refine goC 9 10 ?_ ?_ <;> first | exact ⟨⟩ | refine Hb.mk fun hb => ?_ | skip)
  all_goals (first | (fail_if_success refine goB 9 ?_) | (
  refine goB 9 ?_
  all_goals (refine WC.region ?_)
  all_goals (refine Go ?_)
  all_goals (refine Ld ?_)
  all_goals (refine WL.stepR (okE_buildSlice (vs := [_]) (cs := [_]) (fun | [a0] => [a0] | _ => []) Tryz.underlying43 rfl rfl (by kernel_rfl)) rfl rfl rfl ?_
             rintro _ h1 ⟨b1, rfl, hg1, hb1, hx1⟩)
  all_goals (refine Go ?_)
  skip))
  all_goals (first | (fail_if_success refine goB 10 ?_) | (
  refine goB 10 ?_
  all_goals (refine WC.sr ?_)
  all_goals (refine Go ?_)
  all_goals (refine Gs [(1, _), (2, _), (5, _), (13, _), (38, _)] ?_)
  all_goals (refine goC 11 12 ?_ ?_ <;> first | exact ⟨⟩ | refine Hb.mk fun hb => ?_ | skip)
  all_goals (first | (fail_if_success refine goB 12 ?_) | (
  refine goB 12 ?_
  all_goals (refine WC.sr ?_)
  all_goals (refine Go ?_)
  all_goals (refine goC 13 14 ?_ ?_ <;> first | exact ⟨⟩ | refine Hb.mk fun hb => ?_ | skip)
  all_goals (first | (fail_if_success refine goB 14 ?_) | (
  refine goB 14 ?_
  all_goals (refine WC.sr ?_)
  all_goals (refine Go ?_)
  all_goals (refine Gs [(1, _), (2, _), (5, _), (13, _), (48, _)] ?_)
  all_goals (refine goC 15 16 ?_ ?_ <;> first | exact ⟨⟩ | refine Hb.mk fun hb => ?_ | skip)
  all_goals (first | (fail_if_success refine goB 16 ?_) | (
  refine goB 16 ?_
  all_goals (refine WC.sr ?_)
  all_goals (refine Go ?_)
  all_goals (refine goC 17 18 ?_ ?_ <;> first | exact ⟨⟩ | refine Hb.mk fun hb => ?_ | skip)
  all_goals (first | (fail_if_success refine goB 18 ?_) | (
  refine goB 18 ?_
  all_goals (refine WC.seq ?_)
  all_goals (refine WC.sr ?_)
  all_goals (refine Go ?_)
  all_goals (refine Gs [(1, _), (2, _), (5, _), (13, _), (58, _)] ?_)
  all_goals (refine goC 19 20 ?_ ?_ <;> first | exact ⟨⟩ | refine Hb.mk fun hb => ?_ | skip)
  all_goals (first | (fail_if_success refine goB 19 ?_) | (
  refine goB 19 ?_
  all_goals (refine WC.skip ?_)
  skip))
  all_goals (first | (fail_if_success refine goB 20 ?_) | (
  refine goB 20 ?_
  all_goals (refine WC.region ?_)
  all_goals (refine Go ?_)
  skip))
  all_goals (refine Gn ?_)
  all_goals (refine goC 21 22 ?_ ?_ <;> first | exact ⟨⟩ | refine Hb.mk fun hb => ?_ | skip)
  all_goals (first | (fail_if_success refine goB 22 ?_) | (
  refine goB 22 ?_
  all_goals (refine WC.skip ?_)
  skip))
  skip))
  skip))
  skip))
  skip))
  skip))
  skip))
  skip))
  skip))
  all_goals (refine Gn ?_)
  all_goals (refine WC.sr ?_)
  all_goals (have hb16 := x6.obj hb13 nos
             have hb26 := x6.obj hb23 nos
             obtain ⟨A6, c6, e6, _⟩ := o6.slice
             have hO := o6
             try rw [e6] at hO
             subst e6)
  all_goals (refine WL.step (ok_fieldAddr rfl Tryz.underlying29 rfl (fun w => Tryz.sizeOf5 w)) rfl rfl rfl ?_)
  all_goals (refine WL.ld rfl (by first | exact cell_blk hb16 rfl | assumption | exact cell_blk (by assumption) rfl) rfl rfl rfl ?_)
  all_goals (refine Go ?_)
  all_goals (refine WL.step (ok_buildF (vs := [_, _]) (cs := [_, _]) (fun | [a0, a1] => [a0, a1] | _ => []) rfl rfl (by kernel_rfl)) rfl rfl rfl ?_)
  all_goals (refine WL.stepR0 (okE_storeW (fun w => Tryz.sizeOf50 w) rfl rfl rfl hb26 rfl (by simp [Value.oneCell'])) rfl rfl ?_
             rintro _ h7 ⟨hb7, hx7⟩)
  all_goals (refine Go ?_)
  all_goals (refine Gs [(2, _), (3, _)] ?_)
  all_goals (refine WC.ret ?_)
  all_goals (repeat' (with_reducible first | refine thenP_r ?_ | refine blockP_r ?_))
  all_goals (refine retP_2 _ _ ⟨⟨_, rfl, ld_blk (fun w => Tryz.isAgg50 w) (fun w => Tryz.sizeOf50 w) hb7 rfl⟩, rfl, trivial⟩ ?_)
  all_goals (exact ⟨_, rfl, o6.ext hx7 (fun q hq e => by obtain ⟨_, z⟩ := own_kind o6 hq; rw [e, hb26] at z; simp at z), (hX3.trans x6).trans' hx7 (fun q hq e => by have := hx1.size; omega)⟩)
set_option maxHeartbeats 4000000 in
set_option maxRecDepth 100000 in
theorem encQ_83 {h : Heap} (b : Bk) (hb : b.ok h) (hw : b.wf) (hmd : b.mid) (hmay : b.may) (hk : b.kind = 83) :
    CallsH Tryz.prog 49 ⟨[.agg ⟨b.cells⟩]⟩ h fun u h' => ∃ v', u = .tuple ⟨[.agg ⟨[.int .u8 83, v']⟩, In 0]⟩ ∧ Own h' v' 5 1 (encBk b).length (bys (encBk b)) ∧ Ext No h h' := by
  have kc := fun h' (hx : Ext No h h') => checkA07 b (hb.ext0 hx) hw.kind hmd
  have hL : encBk b = b.name ++ [0] ++ b.value ++ [0] := by simp [encBk, hk]
  rw [hL]
  clear hL
  have hst := hw.status
  obtain ⟨md1, md2, md3, md4, md5, md6, md7, md8, md9, md10⟩ := hmd
  have m_c := hmay.cols.2
  have m_o := hmay.oids.2
  have m_n := hmay.n
  have m_m := hmay.m
  have m_r := hmay.row.2
  have hF : ∀ f ∈ b.fields, f.t.length ≤ 200000 ∧ 0 ≤ f.k ∧ f.k ≤ 255 := fun f hf => ⟨md7 f hf, hw.codes f hf⟩
  clear hw
  obtain ⟨ho, hc, hr, hf⟩ := hb
  obtain ⟨k, st, t, n, v, x, y, vo, lo, vc, lc, vr, lr, vf, lf⟩ := b
  dsimp only at hk hst ho hc hr hf md1 md2 md3 md4 md5 md6 md7 md8 md9 md10 m_c m_o m_n m_m m_r hF ⊢
  have hro := ho.1
  have hrc := hc.1
  have hrr := hr.1
  have hrf := hf.1
  obtain ⟨Ao, co, rfl, _⟩ := id hro
  obtain ⟨Ac, cc, rfl, _⟩ := id hrc
  obtain ⟨Ar, cr, rfl, _⟩ := id hrr
  obtain ⟨Af, cf, rfl, _⟩ := id hrf
  dsimp only [Bk.cells] at kc ⊢
  subst hk
  refine calls [(0, _)] Tryz.func49 rfl Tryz.ntmps49 rfl ⟨rfl, trivial⟩ ?_
  all_goals (refine WC.sr ?_)
  all_goals (refine WL.stepR (okE_box rfl) rfl rfl rfl ?_
             rintro _ h1 ⟨b1, rfl, hg1, hb1, hx1⟩)
  all_goals (refine WL.stepR (okE_alloc (fun w => Tryz.zeroValue50 w)) rfl rfl rfl ?_
             rintro _ h2 ⟨b2, rfl, hg2, hb2, hx2⟩)
  all_goals (have hX2 := hx1.trans hx2
             have hb12 := hx2.obj hb1 nos)
  all_goals (refine Go ?_)
  all_goals (refine WC.seq ?_)
  all_goals (refine WC.sr ?_)
  all_goals (refine WL.step (ok_loadN (fun w => Tryz.isAgg29 w) (fun w => Tryz.sizeOf29 w) rfl rfl (by exact At.of_block hb12)) rfl rfl rfl ?_)
  all_goals (refine WL.call (vs := [_]) rfl (fun a w => Tryz.call112 a w) rfl (kc _ hX2) rfl rfl rfl ?_
             rintro _ h3 ⟨⟨e, rfl, he⟩, hx3⟩
             obtain rfl := he.2 hmay)
  all_goals (have hb13 := hx3.obj hb12 nos
             have hb23 := hx3.obj hb2 nos
             have hX3 := hX2.trans hx3
             have l1 := lt_of_some hb13
             have l2 := lt_of_some hb23)
  all_goals (refine Go ?_)
  all_goals (refine Gs [(1, _), (2, _), (4, _)] ?_)
  all_goals (refine WC.sr ?_)
  all_goals (refine Go ?_)
  all_goals (refine goC 1 2 ?_ ?_ <;> first | exact ⟨⟩ | refine Hb.mk fun hb => ?_ | skip)
  all_goals (first | (fail_if_success refine goB 1 ?_) | (
  refine goB 1 ?_
  all_goals (refine WC.sr ?_)
  all_goals (refine WL.step (ok_buildF (vs := []) (cs := [_, _]) (fun | [] => [(.int .u8 0), (.slice none 0 0)] | _ => []) rfl rfl (by kernel_rfl)) rfl rfl rfl ?_)
  all_goals (refine Go ?_)
  all_goals (refine WL.stepR0 (okE_storeW (fun w => Tryz.sizeOf50 w) rfl rfl rfl (by assumption) rfl (by simp [Value.oneCell'])) rfl rfl ?_
             rintro _ h1 ⟨hb1, hx1⟩)
  all_goals (refine Go ?_)
  all_goals (refine Gs [(2, _), (3, _)] ?_)
  all_goals (refine WC.ret ?_)
  all_goals (repeat' (with_reducible first | refine thenP_r ?_ | refine blockP_r ?_))
  all_goals (refine retP_2 _ _ ⟨⟨_, rfl, ld_blk (fun w => Tryz.isAgg50 w) (fun w => Tryz.sizeOf50 w) hb7 rfl⟩, rfl, trivial⟩ ?_)
  all_goals (exact ⟨_, rfl, o6.ext hx7 (fun q hq e => by obtain ⟨_, z⟩ := own_kind o6 hq; rw [e, hb26] at z; simp at z), (hX3.trans x6).trans' hx7 (fun q hq e => by have := hx1.size; omega)⟩)
  skip))
  all_goals (first | (fail_if_success refine goB 2 ?_) | (
  refine goB 2 ?_
  all_goals (refine WC.skip ?_)
  skip))
  all_goals (refine Gn ?_)
  all_goals (refine WC.sr ?_)
  all_goals (refine Go ?_)
  all_goals (refine WC.seq ?_)
  all_goals (refine WC.sr ?_)
  all_goals (refine Go ?_)
  all_goals (refine WL.ld rfl (by first | exact cell_blk hb13 rfl | assumption | exact cell_blk (by assumption) rfl) rfl rfl rfl ?_)
  all_goals (refine Gn ?_)
  all_goals (refine Gs [(1, _), (2, _), (5, _), (13, _)] ?_)
  all_goals (refine WC.block ?_)
  all_goals (refine WC.sr ?_)
  all_goals (refine Go ?_)
  all_goals (refine goC 3 4 ?_ ?_ <;> first | exact ⟨⟩ | refine Hb.mk fun hb => ?_ | skip)
  all_goals (first | (fail_if_success refine goB 4 ?_) | (
  refine goB 4 ?_
  all_goals (refine WC.sr ?_)
  all_goals (refine Go ?_)
  all_goals (refine goC 5 6 ?_ ?_ <;> first | exact ⟨⟩ | refine Hb.mk fun hb => ?_ | skip)
  all_goals (first | (fail_if_success refine goB 5 ?_) | (
  refine goB 5 ?_
  all_goals (refine WC.drawH (fun h' => Ext No h3 h') 6 7 rfl fol ?_)
  all_goals (refine WH.tk 0 rfl (fun hq hC => ok_fieldAddr rfl Tryz.underlying29 rfl (fun w => Tryz.sizeOf9 w)) rfl rfl rfl ?_)
  all_goals (refine WH.tk 1 rfl (fun hq hC => ok_load (fun w => Tryz.isAgg9 w) rfl (by first | exact hC.cell (by first | exact cell_blk hb13 rfl | assumption | exact cell_blk (by assumption) rfl) nos)) rfl rfl rfl ?_)
  all_goals (refine WH.tk 3 rfl (fun hq hC => ok_fieldAddr rfl Tryz.underlying29 rfl (fun w => Tryz.sizeOf9 w)) rfl rfl rfl ?_)
  all_goals (refine WH.tk 4 rfl (fun hq hC => ok_load (fun w => Tryz.isAgg9 w) rfl (by first | exact hC.cell (by first | exact cell_blk hb13 rfl | assumption | exact cell_blk (by assumption) rfl) nos)) rfl rfl rfl ?_)
  all_goals (refine WH.one 2 (by kernel_rfl) ?_)
  all_goals (refine Comes1.call (vs := [_, _]) rfl rfl (fun a w => Tryz.call114 a w) rfl (str06 [] n (Own.nil _ _ _) (by simp only [List.length_nil]; omega)) rfl rfl rfl ?_ (fun _ => by kernel_rfl)
             rintro v5 h5 ⟨ho5, hr5⟩
             obtain ⟨hC5, hF5⟩ := hr5.fresh (.refl _ h3) (by simp [Value.ownBlock]))
  all_goals (refine ⟨fun _ => hC5, ?_⟩)
  all_goals (refine WH.one 5 (by kernel_rfl) ?_)
  all_goals (refine Comes1.call (vs := [_, _]) rfl rfl (fun a w => Tryz.call114 a w) rfl (str06 _ v ho5 (by simp only [List.length_append, List.length_cons, List.length_nil]; omega)) rfl rfl rfl ?_ (fun _ => by kernel_rfl)
             rintro v6 h6 ⟨ho6, hr6⟩
             obtain ⟨hC6, hF6⟩ := hr6.fresh hC5 hF5)
  all_goals (refine ⟨fun _ => hC6, ?_⟩)
  all_goals (have o6 : Own h6 v6 5 1 (n ++ [0] ++ v ++ [0]).length (bys (n ++ [0] ++ v ++ [0])) := by simpa using ho6
             have x6 : Ext No h3 h6 := hC6)
  all_goals (refine WH.one 6 (by kernel_rfl) ?_)
  all_goals (refine Comes1.run rfl (OkP.r (ok_assign rfl)) rfl rfl rfl ?_ (fun _ => by kernel_rfl)
             rintro _ hz ⟨rfl, _⟩
             subst hz)
  all_goals (refine ⟨fun _ => hC6, ?_⟩)
  all_goals (refine WH.done (by kernel_rfl) ?_)
  skip))
  all_goals (first | (fail_if_success refine goB 6 ?_) | (
  refine goB 6 ?_
  all_goals (refine WC.sr ?_)
  all_goals (refine Go ?_)
  all_goals (refine Gs [(1, _), (2, _), (5, _), (13, _), (25, _)] ?_)
  all_goals (refine goC 7 8 ?_ ?_ <;> first | exact ⟨⟩ | refine Hb.mk fun hb => ?_ | skip)
  all_goals (first | (fail_if_success refine goB 8 ?_) | (
  refine goB 8 ?_
  all_goals (refine WC.sr ?_)
  all_goals (refine Go ?_)
  all_goals (refine goC 9 10 ?_ ?_ <;> first | exact ⟨⟩ | refine Hb.mk fun hb => ?_ | skip)
  all_goals (first | (fail_if_success refine goB 9 ?_) | (
  refine goB 9 ?_
  all_goals (refine WC.region ?_)
  all_goals (refine Go ?_)
  all_goals (refine Ld ?_)
  all_goals (refine WL.stepR (okE_buildSlice (vs := [_]) (cs := [_]) (fun | [a0] => [a0] | _ => []) Tryz.underlying43 rfl rfl (by kernel_rfl)) rfl rfl rfl ?_
             rintro _ h1 ⟨b1, rfl, hg1, hb1, hx1⟩)
  all_goals (refine Go ?_)
  skip))
  all_goals (first | (fail_if_success refine goB 10 ?_) | (
  refine goB 10 ?_
  all_goals (refine WC.sr ?_)
  all_goals (refine Go ?_)
  all_goals (refine Gs [(1, _), (2, _), (5, _), (13, _), (38, _)] ?_)
  all_goals (refine goC 11 12 ?_ ?_ <;> first | exact ⟨⟩ | refine Hb.mk fun hb => ?_ | skip)
  all_goals (first | (fail_if_success refine goB 12 ?_) | (
  refine goB 12 ?_
  all_goals (refine WC.sr ?_)
  all_goals (refine Go ?_)
  all_goals (refine goC 13 14 ?_ ?_ <;> first | exact ⟨⟩ | refine Hb.mk fun hb => ?_ | skip)
  all_goals (first | (fail_if_success refine goB 14 ?_) | (
  refine goB 14 ?_
  all_goals (refine WC.sr ?_)
  all_goals (refine Go ?_)
  all_goals (refine Gs [(1, _), (2, _), (5, _), (13, _), (48, _)] ?_)
  all_goals (refine goC 15 16 ?_ ?_ <;> first | exact ⟨⟩ | refine Hb.mk fun hb => ?_ | skip)
  all_goals (first | (fail_if_success refine goB 16 ?_) | (
  refine goB 16 ?_
  all_goals (refine WC.sr ?_)
  all_goals (refine Go ?_)
  all_goals (refine goC 17 18 ?_ ?_ <;> first | exact ⟨⟩ | refine Hb.mk fun hb => ?_ | skip)
  all_goals (first | (fail_if_success refine goB 18 ?_) | (
  refine goB 18 ?_
  all_goals (refine WC.seq ?_)
  all_goals (refine WC.sr ?_)
  all_goals (refine Go ?_)
  all_goals (refine Gs [(1, _), (2, _), (5, _), (13, _), (58, _)] ?_)
  all_goals (refine goC 19 20 ?_ ?_ <;> first | exact ⟨⟩ | refine Hb.mk fun hb => ?_ | skip)
  all_goals (first | (fail_if_success refine goB 19 ?_) | (
  refine goB 19 ?_
  all_goals (refine WC.skip ?_)
  skip))
  all_goals (first | (fail_if_success refine goB 20 ?_) | (
  refine goB 20 ?_
  all_goals (refine WC.region ?_)
  all_goals (refine Go ?_)
  skip))
  all_goals (refine Gn ?_)
  all_goals (refine goC 21 22 ?_ ?_ <;> first | exact ⟨⟩ | refine Hb.mk fun hb => ?_ | skip)
  all_goals (first | (fail_if_success refine goB 22 ?_) | (
  refine goB 22 ?_
  all_goals (refine WC.skip ?_)
  skip))
  skip))
  skip))
  skip))
  skip))
  skip))
  skip))
  skip))
  skip))
  all_goals (refine Gn ?_)
  all_goals (refine WC.sr ?_)
  all_goals (have hb16 := x6.obj hb13 nos
             have hb26 := x6.obj hb23 nos
             obtain ⟨A6, c6, e6, _⟩ := o6.slice
             have hO := o6
             try rw [e6] at hO
             subst e6)
  all_goals (refine WL.step (ok_fieldAddr rfl Tryz.underlying29 rfl (fun w => Tryz.sizeOf5 w)) rfl rfl rfl ?_)
  all_goals (refine WL.ld rfl (by first | exact cell_blk hb16 rfl | assumption | exact cell_blk (by assumption) rfl) rfl rfl rfl ?_)
  all_goals (refine Go ?_)
  all_goals (refine WL.step (ok_buildF (vs := [_, _]) (cs := [_, _]) (fun | [a0, a1] => [a0, a1] | _ => []) rfl rfl (by kernel_rfl)) rfl rfl rfl ?_)
  all_goals (refine WL.stepR0 (okE_storeW (fun w => Tryz.sizeOf50 w) rfl rfl rfl hb26 rfl (by simp [Value.oneCell'])) rfl rfl ?_
             rintro _ h7 ⟨hb7, hx7⟩)
  all_goals (refine Go ?_)
  all_goals (refine Gs [(2, _), (3, _)] ?_)
  all_goals (refine WC.ret ?_)
  all_goals (repeat' (with_reducible first | refine thenP_r ?_ | refine blockP_r ?_))
  all_goals (refine retP_2 _ _ ⟨⟨_, rfl, ld_blk (fun w => Tryz.isAgg50 w) (fun w => Tryz.sizeOf50 w) hb7 rfl⟩, rfl, trivial⟩ ?_)
  all_goals (exact ⟨_, rfl, o6.ext hx7 (fun q hq e => by obtain ⟨_, z⟩ := own_kind o6 hq; rw [e, hb26] at z; simp at z), (hX3.trans x6).trans' hx7 (fun q hq e => by have := hx1.size; omega)⟩)
set_option maxHeartbeats 4000000 in
set_option maxRecDepth 100000 in
theorem encQ_75 {h : Heap} (b : Bk) (hb : b.ok h) (hw : b.wf) (hmd : b.mid) (hmay : b.may) (hk : b.kind = 75) :
    CallsH Tryz.prog 49 ⟨[.agg ⟨b.cells⟩]⟩ h fun u h' => ∃ v', u = .tuple ⟨[.agg ⟨[.int .u8 75, v']⟩, In 0]⟩ ∧ Own h' v' 5 1 (encBk b).length (bys (encBk b)) ∧ Ext No h h' := by
  have kc := fun h' (hx : Ext No h h') => checkA07 b (hb.ext0 hx) hw.kind hmd
  have hL : encBk b = be b.n 4 ++ be b.m 4 := by simp [encBk, hk]
  rw [hL]
  clear hL
  have hst := hw.status
  obtain ⟨md1, md2, md3, md4, md5, md6, md7, md8, md9, md10⟩ := hmd
  have m_c := hmay.cols.2
  have m_o := hmay.oids.2
  have m_n := hmay.n
  have m_m := hmay.m
  have m_r := hmay.row.2
  have hF : ∀ f ∈ b.fields, f.t.length ≤ 200000 ∧ 0 ≤ f.k ∧ f.k ≤ 255 := fun f hf => ⟨md7 f hf, hw.codes f hf⟩
  clear hw
  obtain ⟨ho, hc, hr, hf⟩ := hb
  obtain ⟨k, st, t, n, v, x, y, vo, lo, vc, lc, vr, lr, vf, lf⟩ := b
  dsimp only at hk hst ho hc hr hf md1 md2 md3 md4 md5 md6 md7 md8 md9 md10 m_c m_o m_n m_m m_r hF ⊢
  have hro := ho.1
  have hrc := hc.1
  have hrr := hr.1
  have hrf := hf.1
  obtain ⟨Ao, co, rfl, _⟩ := id hro
  obtain ⟨Ac, cc, rfl, _⟩ := id hrc
  obtain ⟨Ar, cr, rfl, _⟩ := id hrr
  obtain ⟨Af, cf, rfl, _⟩ := id hrf
  dsimp only [Bk.cells] at kc ⊢
  subst hk
  refine calls [(0, _)] Tryz.func49 rfl Tryz.ntmps49 rfl ⟨rfl, trivial⟩ ?_
  all_goals (refine WC.sr ?_)
  all_goals (refine WL.stepR (okE_box rfl) rfl rfl rfl ?_
             rintro _ h1 ⟨b1, rfl, hg1, hb1, hx1⟩)
  all_goals (refine WL.stepR (okE_alloc (fun w => Tryz.zeroValue50 w)) rfl rfl rfl ?_
             rintro _ h2 ⟨b2, rfl, hg2, hb2, hx2⟩)
  all_goals (have hX2 := hx1.trans hx2
             have hb12 := hx2.obj hb1 nos)
  all_goals (refine Go ?_)
  all_goals (refine WC.seq ?_)
  all_goals (refine WC.sr ?_)
  all_goals (refine WL.step (ok_loadN (fun w => Tryz.isAgg29 w) (fun w => Tryz.sizeOf29 w) rfl rfl (by exact At.of_block hb12)) rfl rfl rfl ?_)
  all_goals (refine WL.call (vs := [_]) rfl (fun a w => Tryz.call112 a w) rfl (kc _ hX2) rfl rfl rfl ?_
             rintro _ h3 ⟨⟨e, rfl, he⟩, hx3⟩
             obtain rfl := he.2 hmay)
  all_goals (have hb13 := hx3.obj hb12 nos
             have hb23 := hx3.obj hb2 nos
             have hX3 := hX2.trans hx3
             have l1 := lt_of_some hb13
             have l2 := lt_of_some hb23)
  all_goals (refine Go ?_)
  all_goals (refine Gs [(1, _), (2, _), (4, _)] ?_)
  all_goals (refine WC.sr ?_)
  all_goals (refine Go ?_)
  all_goals (refine goC 1 2 ?_ ?_ <;> first | exact ⟨⟩ | refine Hb.mk fun hb => ?_ | skip)
  all_goals (first | (fail_if_success refine goB 1 ?_) | (
  refine goB 1 ?_
  all_goals (refine WC.sr ?_)
  all_goals (refine WL.step (ok_buildF (vs := []) (cs := [_, _]) (fun | [] => [(.int .u8 0), (.slice none 0 0)] | _ => []) rfl rfl (by kernel_rfl)) rfl rfl rfl ?_)
  all_goals (refine Go ?_)
  all_goals (refine WL.stepR0 (okE_storeW (fun w => Tryz.sizeOf50 w) rfl rfl rfl (by assumption) rfl (by simp [Value.oneCell'])) rfl rfl ?_
             rintro _ h1 ⟨hb1, hx1⟩)
  all_goals (refine Go ?_)
  all_goals (refine Gs [(2, _), (3, _)] ?_)
  all_goals (refine WC.ret ?_)
  all_goals (repeat' (with_reducible first | refine thenP_r ?_ | refine blockP_r ?_))
  all_goals (refine retP_2 _ _ ⟨⟨_, rfl, ld_blk (fun w => Tryz.isAgg50 w) (fun w => Tryz.sizeOf50 w) hb7 rfl⟩, rfl, trivial⟩ ?_)
  all_goals (exact ⟨_, rfl, o6.ext hx7 (fun q hq e => by obtain ⟨_, z⟩ := own_kind o6 hq; rw [e, hb26] at z; simp at z), (hX3.trans x6).trans' hx7 (fun q hq e => by have := hx1.size; omega)⟩)
  skip))
  all_goals (first | (fail_if_success refine goB 2 ?_) | (
  refine goB 2 ?_
  all_goals (refine WC.skip ?_)
  skip))
  all_goals (refine Gn ?_)
  all_goals (refine WC.sr ?_)
  all_goals (refine Go ?_)
  all_goals (refine WC.seq ?_)
  all_goals (refine WC.sr ?_)
  all_goals (refine Go ?_)
  all_goals (refine WL.ld rfl (by first | exact cell_blk hb13 rfl | assumption | exact cell_blk (by assumption) rfl) rfl rfl rfl ?_)
  all_goals (refine Gn ?_)
  all_goals (refine Gs [(1, _), (2, _), (5, _), (13, _)] ?_)
  all_goals (refine WC.block ?_)
  all_goals (refine WC.sr ?_)
  all_goals (refine Go ?_)
  all_goals (refine goC 3 4 ?_ ?_ <;> first | exact ⟨⟩ | refine Hb.mk fun hb => ?_ | skip)
  all_goals (first | (fail_if_success refine goB 4 ?_) | (
  refine goB 4 ?_
  all_goals (refine WC.sr ?_)
  all_goals (refine Go ?_)
  all_goals (refine goC 5 6 ?_ ?_ <;> first | exact ⟨⟩ | refine Hb.mk fun hb => ?_ | skip)
  all_goals (first | (fail_if_success refine goB 6 ?_) | (
  refine goB 6 ?_
  all_goals (refine WC.sr ?_)
  all_goals (refine Go ?_)
  all_goals (refine Gs [(1, _), (2, _), (5, _), (13, _), (25, _)] ?_)
  all_goals (refine goC 7 8 ?_ ?_ <;> first | exact ⟨⟩ | refine Hb.mk fun hb => ?_ | skip)
  all_goals (first | (fail_if_success refine goB 7 ?_) | (
  refine goB 7 ?_
  all_goals (refine WC.drawH (fun h' => Ext No h3 h') 6 7 rfl fol ?_)
  all_goals (refine WH.tk 0 rfl (fun hq hC => ok_fieldAddr rfl Tryz.underlying29 rfl (fun w => Tryz.sizeOf3 w)) rfl rfl rfl ?_)
  all_goals (refine WH.tk 1 rfl (fun hq hC => ok_load (fun w => Tryz.isAgg3 w) rfl (by first | exact hC.cell (by first | exact cell_blk hb13 rfl | assumption | exact cell_blk (by assumption) rfl) nos)) rfl rfl rfl ?_)
  all_goals (refine WH.tk 3 rfl (fun hq hC => ok_fieldAddr rfl Tryz.underlying29 rfl (fun w => Tryz.sizeOf3 w)) rfl rfl rfl ?_)
  all_goals (refine WH.tk 4 rfl (fun hq hC => ok_load (fun w => Tryz.isAgg3 w) rfl (by first | exact hC.cell (by first | exact cell_blk hb13 rfl | assumption | exact cell_blk (by assumption) rfl) nos)) rfl rfl rfl ?_)
  all_goals (refine WH.one 2 (by kernel_rfl) ?_)
  all_goals (refine Comes1.call (vs := [_, _, _]) rfl rfl (fun a w => Tryz.call113 a w) rfl (put01 [] x 4 sz4 (rt4s (by omega)) (Rd.nil _ _) (by decide)) rfl rfl rfl ?_ (fun _ => by kernel_rfl)
             rintro v5 h5 ⟨ho5, hC5, hF5⟩)
  all_goals (refine ⟨fun _ => hC5, ?_⟩)
  all_goals (refine WH.one 5 (by kernel_rfl) ?_)
  all_goals (refine Comes1.call (vs := [_, _, _]) rfl rfl (fun a w => Tryz.call113 a w) rfl (put01 _ y 4 sz4 (rt4s (by omega)) ho5.rd (by simp only [List.length_append, be_len, List.length_nil]; omega)) rfl rfl rfl ?_ (fun _ => by kernel_rfl)
             rintro v6 h6 ⟨ho6, hx6, hF6⟩
             have hC6 := hC5.trans hx6)
  all_goals (refine ⟨fun _ => hC6, ?_⟩)
  all_goals (have o6 : Own h6 v6 5 1 (be x 4 ++ be y 4).length (bys (be x 4 ++ be y 4)) := by simpa using ho6
             have x6 : Ext No h3 h6 := hC6)
  all_goals (refine WH.one 6 (by kernel_rfl) ?_)
  all_goals (refine Comes1.run rfl (OkP.r (ok_assign rfl)) rfl rfl rfl ?_ (fun _ => by kernel_rfl)
             rintro _ hz ⟨rfl, _⟩
             subst hz)
  all_goals (refine ⟨fun _ => hC6, ?_⟩)
  all_goals (refine WH.done (by kernel_rfl) ?_)
  skip))
  all_goals (first | (fail_if_success refine goB 8 ?_) | (
  refine goB 8 ?_
  all_goals (refine WC.sr ?_)
  all_goals (refine Go ?_)
  all_goals (refine goC 9 10 ?_ ?_ <;> first | exact ⟨⟩ | refine Hb.mk fun hb => ?_ | skip)
  all_goals (first | (fail_if_success refine goB 9 ?_) | (
  refine goB 9 ?_
  all_goals (refine WC.region ?_)
  all_goals (refine Go ?_)
  all_goals (refine Ld ?_)
  all_goals (refine WL.stepR (okE_buildSlice (vs := [_]) (cs := [_]) (fun | [a0] => [a0] | _ => []) Tryz.underlying43 rfl rfl (by kernel_rfl)) rfl rfl rfl ?_
             rintro _ h1 ⟨b1, rfl, hg1, hb1, hx1⟩)
  all_goals (refine Go ?_)
  skip))
  all_goals (first | (fail_if_success refine goB 10 ?_) | (
  refine goB 10 ?_
  all_goals (refine WC.sr ?_)
  all_goals (refine Go ?_)
  all_goals (refine Gs [(1, _), (2, _), (5, _), (13, _), (38, _)] ?_)
  all_goals (refine goC 11 12 ?_ ?_ <;> first | exact ⟨⟩ | refine Hb.mk fun hb => ?_ | skip)
  all_goals (first | (fail_if_success refine goB 12 ?_) | (
  refine goB 12 ?_
  all_goals (refine WC.sr ?_)
  all_goals (refine Go ?_)
  all_goals (refine goC 13 14 ?_ ?_ <;> first | exact ⟨⟩ | refine Hb.mk fun hb => ?_ | skip)
  all_goals (first | (fail_if_success refine goB 14 ?_) | (
  refine goB 14 ?_
  all_goals (refine WC.sr ?_)
  all_goals (refine Go ?_)
  all_goals (refine Gs [(1, _), (2, _), (5, _), (13, _), (48, _)] ?_)
  all_goals (refine goC 15 16 ?_ ?_ <;> first | exact ⟨⟩ | refine Hb.mk fun hb => ?_ | skip)
  all_goals (first | (fail_if_success refine goB 16 ?_) | (
  refine goB 16 ?_
  all_goals (refine WC.sr ?_)
  all_goals (refine Go ?_)
  all_goals (refine goC 17 18 ?_ ?_ <;> first | exact ⟨⟩ | refine Hb.mk fun hb => ?_ | skip)
  all_goals (first | (fail_if_success refine goB 18 ?_) | (
  refine goB 18 ?_
  all_goals (refine WC.seq ?_)
  all_goals (refine WC.sr ?_)
  all_goals (refine Go ?_)
  all_goals (refine Gs [(1, _), (2, _), (5, _), (13, _), (58, _)] ?_)
  all_goals (refine goC 19 20 ?_ ?_ <;> first | exact ⟨⟩ | refine Hb.mk fun hb => ?_ | skip)
  all_goals (first | (fail_if_success refine goB 19 ?_) | (
  refine goB 19 ?_
  all_goals (refine WC.skip ?_)
  skip))
  all_goals (first | (fail_if_success refine goB 20 ?_) | (
  refine goB 20 ?_
  all_goals (refine WC.region ?_)
  all_goals (refine Go ?_)
  skip))
  all_goals (refine Gn ?_)
  all_goals (refine goC 21 22 ?_ ?_ <;> first | exact ⟨⟩ | refine Hb.mk fun hb => ?_ | skip)
  all_goals (first | (fail_if_success refine goB 22 ?_) | (
  refine goB 22 ?_
  all_goals (refine WC.skip ?_)
  skip))
  skip))
  skip))
  skip))
  skip))
  skip))
  skip))
  skip))
  skip))
  all_goals (refine Gn ?_)
  all_goals (refine WC.sr ?_)
  all_goals (have hb16 := x6.obj hb13 nos
             have hb26 := x6.obj hb23 nos
             obtain ⟨A6, c6, e6, _⟩ := o6.slice
             have hO := o6
             try rw [e6] at hO
             subst e6)
  all_goals (refine WL.step (ok_fieldAddr rfl Tryz.underlying29 rfl (fun w => Tryz.sizeOf5 w)) rfl rfl rfl ?_)
  all_goals (refine WL.ld rfl (by first | exact cell_blk hb16 rfl | assumption | exact cell_blk (by assumption) rfl) rfl rfl rfl ?_)
  all_goals (refine Go ?_)
  all_goals (refine WL.step (ok_buildF (vs := [_, _]) (cs := [_, _]) (fun | [a0, a1] => [a0, a1] | _ => []) rfl rfl (by kernel_rfl)) rfl rfl rfl ?_)
  all_goals (refine WL.stepR0 (okE_storeW (fun w => Tryz.sizeOf50 w) rfl rfl rfl hb26 rfl (by simp [Value.oneCell'])) rfl rfl ?_
             rintro _ h7 ⟨hb7, hx7⟩)
  all_goals (refine Go ?_)
  all_goals (refine Gs [(2, _), (3, _)] ?_)
  all_goals (refine WC.ret ?_)
  all_goals (repeat' (with_reducible first | refine thenP_r ?_ | refine blockP_r ?_))
  all_goals (refine retP_2 _ _ ⟨⟨_, rfl, ld_blk (fun w => Tryz.isAgg50 w) (fun w => Tryz.sizeOf50 w) hb7 rfl⟩, rfl, trivial⟩ ?_)
  all_goals (exact ⟨_, rfl, o6.ext hx7 (fun q hq e => by obtain ⟨_, z⟩ := own_kind o6 hq; rw [e, hb26] at z; simp at z), (hX3.trans x6).trans' hx7 (fun q hq e => by have := hx1.size; omega)⟩)
set_option maxHeartbeats 4000000 in
set_option maxRecDepth 100000 in
theorem encQ_90 {h : Heap} (b : Bk) (hb : b.ok h) (hw : b.wf) (hmd : b.mid) (hmay : b.may) (hk : b.kind = 90) :
    CallsH Tryz.prog 49 ⟨[.agg ⟨b.cells⟩]⟩ h fun u h' => ∃ v', u = .tuple ⟨[.agg ⟨[.int .u8 90, v']⟩, In 0]⟩ ∧ Own h' v' 5 1 (encBk b).length (bys (encBk b)) ∧ Ext No h h' := by
  have kc := fun h' (hx : Ext No h h') => checkA07 b (hb.ext0 hx) hw.kind hmd
  have hL : encBk b = [UInt8.ofNat b.status.toNat] := by simp [encBk, hk]
  rw [hL]
  clear hL
  have hst := hw.status
  obtain ⟨md1, md2, md3, md4, md5, md6, md7, md8, md9, md10⟩ := hmd
  have m_c := hmay.cols.2
  have m_o := hmay.oids.2
  have m_n := hmay.n
  have m_m := hmay.m
  have m_r := hmay.row.2
  have hF : ∀ f ∈ b.fields, f.t.length ≤ 200000 ∧ 0 ≤ f.k ∧ f.k ≤ 255 := fun f hf => ⟨md7 f hf, hw.codes f hf⟩
  clear hw
  obtain ⟨ho, hc, hr, hf⟩ := hb
  obtain ⟨k, st, t, n, v, x, y, vo, lo, vc, lc, vr, lr, vf, lf⟩ := b
  dsimp only at hk hst ho hc hr hf md1 md2 md3 md4 md5 md6 md7 md8 md9 md10 m_c m_o m_n m_m m_r hF ⊢
  have hro := ho.1
  have hrc := hc.1
  have hrr := hr.1
  have hrf := hf.1
  obtain ⟨Ao, co, rfl, _⟩ := id hro
  obtain ⟨Ac, cc, rfl, _⟩ := id hrc
  obtain ⟨Ar, cr, rfl, _⟩ := id hrr
  obtain ⟨Af, cf, rfl, _⟩ := id hrf
  dsimp only [Bk.cells] at kc ⊢
  subst hk
  refine calls [(0, _)] Tryz.func49 rfl Tryz.ntmps49 rfl ⟨rfl, trivial⟩ ?_
  all_goals (refine WC.sr ?_)
  all_goals (refine WL.stepR (okE_box rfl) rfl rfl rfl ?_
             rintro _ h1 ⟨b1, rfl, hg1, hb1, hx1⟩)
  all_goals (refine WL.stepR (okE_alloc (fun w => Tryz.zeroValue50 w)) rfl rfl rfl ?_
             rintro _ h2 ⟨b2, rfl, hg2, hb2, hx2⟩)
  all_goals (have hX2 := hx1.trans hx2
             have hb12 := hx2.obj hb1 nos)
  all_goals (refine Go ?_)
  all_goals (refine WC.seq ?_)
  all_goals (refine WC.sr ?_)
  all_goals (refine WL.step (ok_loadN (fun w => Tryz.isAgg29 w) (fun w => Tryz.sizeOf29 w) rfl rfl (by exact At.of_block hb12)) rfl rfl rfl ?_)
  all_goals (refine WL.call (vs := [_]) rfl (fun a w => Tryz.call112 a w) rfl (kc _ hX2) rfl rfl rfl ?_
             rintro _ h3 ⟨⟨e, rfl, he⟩, hx3⟩
             obtain rfl := he.2 hmay)
  all_goals (have hb13 := hx3.obj hb12 nos
             have hb23 := hx3.obj hb2 nos
             have hX3 := hX2.trans hx3
             have l1 := lt_of_some hb13
             have l2 := lt_of_some hb23)
  all_goals (refine Go ?_)
  all_goals (refine Gs [(1, _), (2, _), (4, _)] ?_)
  all_goals (refine WC.sr ?_)
  all_goals (refine Go ?_)
  all_goals (refine goC 1 2 ?_ ?_ <;> first | exact ⟨⟩ | refine Hb.mk fun hb => ?_ | skip)
  all_goals (first | (fail_if_success refine goB 1 ?_) | (
  refine goB 1 ?_
  all_goals (refine WC.sr ?_)
  all_goals (refine WL.step (ok_buildF (vs := []) (cs := [_, _]) (fun | [] => [(.int .u8 0), (.slice none 0 0)] | _ => []) rfl rfl (by kernel_rfl)) rfl rfl rfl ?_)
  all_goals (refine Go ?_)
  all_goals (refine WL.stepR0 (okE_storeW (fun w => Tryz.sizeOf50 w) rfl rfl rfl (by assumption) rfl (by simp [Value.oneCell'])) rfl rfl ?_
             rintro _ h1 ⟨hb1, hx1⟩)
  all_goals (refine Go ?_)
  all_goals (refine Gs [(2, _), (3, _)] ?_)
  all_goals (refine WC.ret ?_)
  all_goals (repeat' (with_reducible first | refine thenP_r ?_ | refine blockP_r ?_))
  all_goals (refine retP_2 _ _ ⟨⟨_, rfl, ld_blk (fun w => Tryz.isAgg50 w) (fun w => Tryz.sizeOf50 w) hb7 rfl⟩, rfl, trivial⟩ ?_)
  all_goals (exact ⟨_, rfl, o6.ext hx7 (fun q hq e => by obtain ⟨_, z⟩ := own_kind o6 hq; rw [e, hb26] at z; simp at z), (hX3.trans x6).trans' hx7 (fun q hq e => by have := hx1.size; omega)⟩)
  skip))
  all_goals (first | (fail_if_success refine goB 2 ?_) | (
  refine goB 2 ?_
  all_goals (refine WC.skip ?_)
  skip))
  all_goals (refine Gn ?_)
  all_goals (refine WC.sr ?_)
  all_goals (refine Go ?_)
  all_goals (refine WC.seq ?_)
  all_goals (refine WC.sr ?_)
  all_goals (refine Go ?_)
  all_goals (refine WL.ld rfl (by first | exact cell_blk hb13 rfl | assumption | exact cell_blk (by assumption) rfl) rfl rfl rfl ?_)
  all_goals (refine Gn ?_)
  all_goals (refine Gs [(1, _), (2, _), (5, _), (13, _)] ?_)
  all_goals (refine WC.block ?_)
  all_goals (refine WC.sr ?_)
  all_goals (refine Go ?_)
  all_goals (refine goC 3 4 ?_ ?_ <;> first | exact ⟨⟩ | refine Hb.mk fun hb => ?_ | skip)
  all_goals (first | (fail_if_success refine goB 4 ?_) | (
  refine goB 4 ?_
  all_goals (refine WC.sr ?_)
  all_goals (refine Go ?_)
  all_goals (refine goC 5 6 ?_ ?_ <;> first | exact ⟨⟩ | refine Hb.mk fun hb => ?_ | skip)
  all_goals (first | (fail_if_success refine goB 6 ?_) | (
  refine goB 6 ?_
  all_goals (refine WC.sr ?_)
  all_goals (refine Go ?_)
  all_goals (refine Gs [(1, _), (2, _), (5, _), (13, _), (25, _)] ?_)
  all_goals (refine goC 7 8 ?_ ?_ <;> first | exact ⟨⟩ | refine Hb.mk fun hb => ?_ | skip)
  all_goals (first | (fail_if_success refine goB 8 ?_) | (
  refine goB 8 ?_
  all_goals (refine WC.sr ?_)
  all_goals (refine Go ?_)
  all_goals (refine goC 9 10 ?_ ?_ <;> first | exact ⟨⟩ | refine Hb.mk fun hb => ?_ | skip)
  all_goals (first | (fail_if_success refine goB 9 ?_) | (
  refine goB 9 ?_
  all_goals (refine WC.region ?_)
  all_goals (refine Go ?_)
  all_goals (refine WL.ld rfl (by first | exact cell_blk hb13 rfl | assumption | exact cell_blk (by assumption) rfl) rfl rfl rfl ?_)
  all_goals (refine WL.stepR (okE_buildSlice (vs := [_]) (cs := [_]) (fun | [a0] => [a0] | _ => []) Tryz.underlying43 rfl rfl (by kernel_rfl)) rfl rfl rfl ?_
             rintro _ h6 ⟨b6, rfl, hg6, hb6, x6⟩)
  all_goals (have o6 : Own h6 _ 5 1 ([UInt8.ofNat st.toNat]).length (bys ([UInt8.ofNat st.toNat])) := own_blk (by show h6[b6]? = some (.cells ⟨bys [UInt8.ofNat st.toNat]⟩ 5 (0, 0)); rw [show bys [UInt8.ofNat st.toNat] = [.int .u8 st] by simp only [bys, List.map_cons, List.map_nil]; exact congrArg (fun z => [z]) (byK hst.1 hst.2)]; exact hb6) rfl (by simp [maxLen]))
  all_goals (refine Go ?_)
  skip))
  all_goals (first | (fail_if_success refine goB 10 ?_) | (
  refine goB 10 ?_
  all_goals (refine WC.sr ?_)
  all_goals (refine Go ?_)
  all_goals (refine Gs [(1, _), (2, _), (5, _), (13, _), (38, _)] ?_)
  all_goals (refine goC 11 12 ?_ ?_ <;> first | exact ⟨⟩ | refine Hb.mk fun hb => ?_ | skip)
  all_goals (first | (fail_if_success refine goB 12 ?_) | (
  refine goB 12 ?_
  all_goals (refine WC.sr ?_)
  all_goals (refine Go ?_)
  all_goals (refine goC 13 14 ?_ ?_ <;> first | exact ⟨⟩ | refine Hb.mk fun hb => ?_ | skip)
  all_goals (first | (fail_if_success refine goB 14 ?_) | (
  refine goB 14 ?_
  all_goals (refine WC.sr ?_)
  all_goals (refine Go ?_)
  all_goals (refine Gs [(1, _), (2, _), (5, _), (13, _), (48, _)] ?_)
  all_goals (refine goC 15 16 ?_ ?_ <;> first | exact ⟨⟩ | refine Hb.mk fun hb => ?_ | skip)
  all_goals (first | (fail_if_success refine goB 16 ?_) | (
  refine goB 16 ?_
  all_goals (refine WC.sr ?_)
  all_goals (refine Go ?_)
  all_goals (refine goC 17 18 ?_ ?_ <;> first | exact ⟨⟩ | refine Hb.mk fun hb => ?_ | skip)
  all_goals (first | (fail_if_success refine goB 18 ?_) | (
  refine goB 18 ?_
  all_goals (refine WC.seq ?_)
  all_goals (refine WC.sr ?_)
  all_goals (refine Go ?_)
  all_goals (refine Gs [(1, _), (2, _), (5, _), (13, _), (58, _)] ?_)
  all_goals (refine goC 19 20 ?_ ?_ <;> first | exact ⟨⟩ | refine Hb.mk fun hb => ?_ | skip)
  all_goals (first | (fail_if_success refine goB 19 ?_) | (
  refine goB 19 ?_
  all_goals (refine WC.skip ?_)
  skip))
  all_goals (first | (fail_if_success refine goB 20 ?_) | (
  refine goB 20 ?_
  all_goals (refine WC.region ?_)
  all_goals (refine Go ?_)
  skip))
  all_goals (refine Gn ?_)
  all_goals (refine goC 21 22 ?_ ?_ <;> first | exact ⟨⟩ | refine Hb.mk fun hb => ?_ | skip)
  all_goals (first | (fail_if_success refine goB 22 ?_) | (
  refine goB 22 ?_
  all_goals (refine WC.skip ?_)
  skip))
  skip))
  skip))
  skip))
  skip))
  skip))
  skip))
  skip))
  skip))
  all_goals (refine Gn ?_)
  all_goals (refine WC.sr ?_)
  all_goals (have hb16 := x6.obj hb13 nos
             have hb26 := x6.obj hb23 nos
             obtain ⟨A6, c6, e6, _⟩ := o6.slice
             have hO := o6
             try rw [e6] at hO)
  all_goals (refine WL.step (ok_fieldAddr rfl Tryz.underlying29 rfl (fun w => Tryz.sizeOf5 w)) rfl rfl rfl ?_)
  all_goals (refine WL.ld rfl (by first | exact cell_blk hb16 rfl | assumption | exact cell_blk (by assumption) rfl) rfl rfl rfl ?_)
  all_goals (refine Go ?_)
  all_goals (refine WL.step (ok_buildF (vs := [_, _]) (cs := [_, _]) (fun | [a0, a1] => [a0, a1] | _ => []) rfl rfl (by kernel_rfl)) rfl rfl rfl ?_)
  all_goals (refine WL.stepR0 (okE_storeW (fun w => Tryz.sizeOf50 w) rfl rfl rfl hb26 rfl (by simp [Value.oneCell'])) rfl rfl ?_
             rintro _ h7 ⟨hb7, hx7⟩)
  all_goals (refine Go ?_)
  all_goals (refine Gs [(2, _), (3, _)] ?_)
  all_goals (refine WC.ret ?_)
  all_goals (repeat' (with_reducible first | refine thenP_r ?_ | refine blockP_r ?_))
  all_goals (refine retP_2 _ _ ⟨⟨_, rfl, ld_blk (fun w => Tryz.isAgg50 w) (fun w => Tryz.sizeOf50 w) hb7 rfl⟩, rfl, trivial⟩ ?_)
  all_goals (exact ⟨_, rfl, o6.ext hx7 (fun q hq e => by obtain ⟨_, z⟩ := own_kind o6 hq; rw [e, hb26] at z; simp at z), (hX3.trans x6).trans' hx7 (fun q hq e => by have := hx1.size; omega)⟩)
set_option maxHeartbeats 4000000 in
set_option maxRecDepth 100000 in
theorem encQ_67 {h : Heap} (b : Bk) (hb : b.ok h) (hw : b.wf) (hmd : b.mid) (hmay : b.may) (hk : b.kind = 67) :
    CallsH Tryz.prog 49 ⟨[.agg ⟨b.cells⟩]⟩ h fun u h' => ∃ v', u = .tuple ⟨[.agg ⟨[.int .u8 67, v']⟩, In 0]⟩ ∧ Own h' v' 5 1 (encBk b).length (bys (encBk b)) ∧ Ext No h h' := by
  have kc := fun h' (hx : Ext No h h') => checkA07 b (hb.ext0 hx) hw.kind hmd
  have hL : encBk b = b.tag ++ [0] := by simp [encBk, hk]
  rw [hL]
  clear hL
  have hst := hw.status
  obtain ⟨md1, md2, md3, md4, md5, md6, md7, md8, md9, md10⟩ := hmd
  have m_c := hmay.cols.2
  have m_o := hmay.oids.2
  have m_n := hmay.n
  have m_m := hmay.m
  have m_r := hmay.row.2
  have hF : ∀ f ∈ b.fields, f.t.length ≤ 200000 ∧ 0 ≤ f.k ∧ f.k ≤ 255 := fun f hf => ⟨md7 f hf, hw.codes f hf⟩
  clear hw
  obtain ⟨ho, hc, hr, hf⟩ := hb
  obtain ⟨k, st, t, n, v, x, y, vo, lo, vc, lc, vr, lr, vf, lf⟩ := b
  dsimp only at hk hst ho hc hr hf md1 md2 md3 md4 md5 md6 md7 md8 md9 md10 m_c m_o m_n m_m m_r hF ⊢
  have hro := ho.1
  have hrc := hc.1
  have hrr := hr.1
  have hrf := hf.1
  obtain ⟨Ao, co, rfl, _⟩ := id hro
  obtain ⟨Ac, cc, rfl, _⟩ := id hrc
  obtain ⟨Ar, cr, rfl, _⟩ := id hrr
  obtain ⟨Af, cf, rfl, _⟩ := id hrf
  dsimp only [Bk.cells] at kc ⊢
  subst hk
  refine calls [(0, _)] Tryz.func49 rfl Tryz.ntmps49 rfl ⟨rfl, trivial⟩ ?_
  all_goals (refine WC.sr ?_)
  all_goals (refine WL.stepR (okE_box rfl) rfl rfl rfl ?_
             rintro _ h1 ⟨b1, rfl, hg1, hb1, hx1⟩)
  all_goals (refine WL.stepR (okE_alloc (fun w => Tryz.zeroValue50 w)) rfl rfl rfl ?_
             rintro _ h2 ⟨b2, rfl, hg2, hb2, hx2⟩)
  all_goals (have hX2 := hx1.trans hx2
             have hb12 := hx2.obj hb1 nos)
  all_goals (refine Go ?_)
  all_goals (refine WC.seq ?_)
  all_goals (refine WC.sr ?_)
  all_goals (refine WL.step (ok_loadN (fun w => Tryz.isAgg29 w) (fun w => Tryz.sizeOf29 w) rfl rfl (by exact At.of_block hb12)) rfl rfl rfl ?_)
  all_goals (refine WL.call (vs := [_]) rfl (fun a w => Tryz.call112 a w) rfl (kc _ hX2) rfl rfl rfl ?_
             rintro _ h3 ⟨⟨e, rfl, he⟩, hx3⟩
             obtain rfl := he.2 hmay)
  all_goals (have hb13 := hx3.obj hb12 nos
             have hb23 := hx3.obj hb2 nos
             have hX3 := hX2.trans hx3
             have l1 := lt_of_some hb13
             have l2 := lt_of_some hb23)
  all_goals (refine Go ?_)
  all_goals (refine Gs [(1, _), (2, _), (4, _)] ?_)
  all_goals (refine WC.sr ?_)
  all_goals (refine Go ?_)
  all_goals (refine goC 1 2 ?_ ?_ <;> first | exact ⟨⟩ | refine Hb.mk fun hb => ?_ | skip)
  all_goals (first | (fail_if_success refine goB 1 ?_) | (
  refine goB 1 ?_
  all_goals (refine WC.sr ?_)
  all_goals (refine WL.step (ok_buildF (vs := []) (cs := [_, _]) (fun | [] => [(.int .u8 0), (.slice none 0 0)] | _ => []) rfl rfl (by kernel_rfl)) rfl rfl rfl ?_)
  all_goals (refine Go ?_)
  all_goals (refine WL.stepR0 (okE_storeW (fun w => Tryz.sizeOf50 w) rfl rfl rfl (by assumption) rfl (by simp [Value.oneCell'])) rfl rfl ?_
             rintro _ h1 ⟨hb1, hx1⟩)
  all_goals (refine Go ?_)
  all_goals (refine Gs [(2, _), (3, _)] ?_)
  all_goals (refine WC.ret ?_)
  all_goals (repeat' (with_reducible first | refine thenP_r ?_ | refine blockP_r ?_))
  all_goals (refine retP_2 _ _ ⟨⟨_, rfl, ld_blk (fun w => Tryz.isAgg50 w) (fun w => Tryz.sizeOf50 w) hb7 rfl⟩, rfl, trivial⟩ ?_)
  all_goals (exact ⟨_, rfl, o6.ext hx7 (fun q hq e => by obtain ⟨_, z⟩ := own_kind o6 hq; rw [e, hb26] at z; simp at z), (hX3.trans x6).trans' hx7 (fun q hq e => by have := hx1.size; omega)⟩)
  skip))
  all_goals (first | (fail_if_success refine goB 2 ?_) | (
  refine goB 2 ?_
  all_goals (refine WC.skip ?_)
  skip))
  all_goals (refine Gn ?_)
  all_goals (refine WC.sr ?_)
  all_goals (refine Go ?_)
  all_goals (refine WC.seq ?_)
  all_goals (refine WC.sr ?_)
  all_goals (refine Go ?_)
  all_goals (refine WL.ld rfl (by first | exact cell_blk hb13 rfl | assumption | exact cell_blk (by assumption) rfl) rfl rfl rfl ?_)
  all_goals (refine Gn ?_)
  all_goals (refine Gs [(1, _), (2, _), (5, _), (13, _)] ?_)
  all_goals (refine WC.block ?_)
  all_goals (refine WC.sr ?_)
  all_goals (refine Go ?_)
  all_goals (refine goC 3 4 ?_ ?_ <;> first | exact ⟨⟩ | refine Hb.mk fun hb => ?_ | skip)
  all_goals (first | (fail_if_success refine goB 4 ?_) | (
  refine goB 4 ?_
  all_goals (refine WC.sr ?_)
  all_goals (refine Go ?_)
  all_goals (refine goC 5 6 ?_ ?_ <;> first | exact ⟨⟩ | refine Hb.mk fun hb => ?_ | skip)
  all_goals (first | (fail_if_success refine goB 6 ?_) | (
  refine goB 6 ?_
  all_goals (refine WC.sr ?_)
  all_goals (refine Go ?_)
  all_goals (refine Gs [(1, _), (2, _), (5, _), (13, _), (25, _)] ?_)
  all_goals (refine goC 7 8 ?_ ?_ <;> first | exact ⟨⟩ | refine Hb.mk fun hb => ?_ | skip)
  all_goals (first | (fail_if_success refine goB 8 ?_) | (
  refine goB 8 ?_
  all_goals (refine WC.sr ?_)
  all_goals (refine Go ?_)
  all_goals (refine goC 9 10 ?_ ?_ <;> first | exact ⟨⟩ | refine Hb.mk fun hb => ?_ | skip)
  all_goals (first | (fail_if_success refine goB 9 ?_) | (
  refine goB 9 ?_
  all_goals (refine WC.region ?_)
  all_goals (refine Go ?_)
  all_goals (refine Ld ?_)
  all_goals (refine WL.stepR (okE_buildSlice (vs := [_]) (cs := [_]) (fun | [a0] => [a0] | _ => []) Tryz.underlying43 rfl rfl (by kernel_rfl)) rfl rfl rfl ?_
             rintro _ h1 ⟨b1, rfl, hg1, hb1, hx1⟩)
  all_goals (refine Go ?_)
  skip))
  all_goals (first | (fail_if_success refine goB 10 ?_) | (
  refine goB 10 ?_
  all_goals (refine WC.sr ?_)
  all_goals (refine Go ?_)
  all_goals (refine Gs [(1, _), (2, _), (5, _), (13, _), (38, _)] ?_)
  all_goals (refine goC 11 12 ?_ ?_ <;> first | exact ⟨⟩ | refine Hb.mk fun hb => ?_ | skip)
  all_goals (first | (fail_if_success refine goB 11 ?_) | (
  refine goB 11 ?_
  all_goals (refine WC.region ?_)
  all_goals (refine Go ?_)
  all_goals (refine WL.ld rfl (by first | exact cell_blk hb13 rfl | assumption | exact cell_blk (by assumption) rfl) rfl rfl rfl ?_)
  all_goals (refine WL.call (vs := [_, _]) rfl (fun a w => Tryz.call114 a w) rfl (str06 [] t (Own.nil _ _ _) (by simp only [List.length_nil]; omega)) rfl rfl rfl ?_
             rintro v6 h6 ⟨ho6, hr6⟩
             obtain ⟨hC6, hF6⟩ := hr6.fresh (.refl _ h3) (by simp [Value.ownBlock])
             have o6 : Own h6 v6 5 1 (t ++ [0]).length (bys (t ++ [0])) := by simpa using ho6
             have x6 : Ext No h3 h6 := hC6)
  all_goals (refine Go ?_)
  skip))
  all_goals (first | (fail_if_success refine goB 12 ?_) | (
  refine goB 12 ?_
  all_goals (refine WC.sr ?_)
  all_goals (refine Go ?_)
  all_goals (refine goC 13 14 ?_ ?_ <;> first | exact ⟨⟩ | refine Hb.mk fun hb => ?_ | skip)
  all_goals (first | (fail_if_success refine goB 14 ?_) | (
  refine goB 14 ?_
  all_goals (refine WC.sr ?_)
  all_goals (refine Go ?_)
  all_goals (refine Gs [(1, _), (2, _), (5, _), (13, _), (48, _)] ?_)
  all_goals (refine goC 15 16 ?_ ?_ <;> first | exact ⟨⟩ | refine Hb.mk fun hb => ?_ | skip)
  all_goals (first | (fail_if_success refine goB 16 ?_) | (
  refine goB 16 ?_
  all_goals (refine WC.sr ?_)
  all_goals (refine Go ?_)
  all_goals (refine goC 17 18 ?_ ?_ <;> first | exact ⟨⟩ | refine Hb.mk fun hb => ?_ | skip)
  all_goals (first | (fail_if_success refine goB 18 ?_) | (
  refine goB 18 ?_
  all_goals (refine WC.seq ?_)
  all_goals (refine WC.sr ?_)
  all_goals (refine Go ?_)
  all_goals (refine Gs [(1, _), (2, _), (5, _), (13, _), (58, _)] ?_)
  all_goals (refine goC 19 20 ?_ ?_ <;> first | exact ⟨⟩ | refine Hb.mk fun hb => ?_ | skip)
  all_goals (first | (fail_if_success refine goB 19 ?_) | (
  refine goB 19 ?_
  all_goals (refine WC.skip ?_)
  skip))
  all_goals (first | (fail_if_success refine goB 20 ?_) | (
  refine goB 20 ?_
  all_goals (refine WC.region ?_)
  all_goals (refine Go ?_)
  skip))
  all_goals (refine Gn ?_)
  all_goals (refine goC 21 22 ?_ ?_ <;> first | exact ⟨⟩ | refine Hb.mk fun hb => ?_ | skip)
  all_goals (first | (fail_if_success refine goB 22 ?_) | (
  refine goB 22 ?_
  all_goals (refine WC.skip ?_)
  skip))
  skip))
  skip))
  skip))
  skip))
  skip))
  skip))
  skip))
  skip))
  all_goals (refine Gn ?_)
  all_goals (refine WC.sr ?_)
  all_goals (have hb16 := x6.obj hb13 nos
             have hb26 := x6.obj hb23 nos
             obtain ⟨A6, c6, e6, _⟩ := o6.slice
             have hO := o6
             try rw [e6] at hO
             subst e6)
  all_goals (refine WL.step (ok_fieldAddr rfl Tryz.underlying29 rfl (fun w => Tryz.sizeOf5 w)) rfl rfl rfl ?_)
  all_goals (refine WL.ld rfl (by first | exact cell_blk hb16 rfl | assumption | exact cell_blk (by assumption) rfl) rfl rfl rfl ?_)
  all_goals (refine Go ?_)
  all_goals (refine WL.step (ok_buildF (vs := [_, _]) (cs := [_, _]) (fun | [a0, a1] => [a0, a1] | _ => []) rfl rfl (by kernel_rfl)) rfl rfl rfl ?_)
  all_goals (refine WL.stepR0 (okE_storeW (fun w => Tryz.sizeOf50 w) rfl rfl rfl hb26 rfl (by simp [Value.oneCell'])) rfl rfl ?_
             rintro _ h7 ⟨hb7, hx7⟩)
  all_goals (refine Go ?_)
  all_goals (refine Gs [(2, _), (3, _)] ?_)
  all_goals (refine WC.ret ?_)
  all_goals (repeat' (with_reducible first | refine thenP_r ?_ | refine blockP_r ?_))
  all_goals (refine retP_2 _ _ ⟨⟨_, rfl, ld_blk (fun w => Tryz.isAgg50 w) (fun w => Tryz.sizeOf50 w) hb7 rfl⟩, rfl, trivial⟩ ?_)
  all_goals (exact ⟨_, rfl, o6.ext hx7 (fun q hq e => by obtain ⟨_, z⟩ := own_kind o6 hq; rw [e, hb26] at z; simp at z), (hX3.trans x6).trans' hx7 (fun q hq e => by have := hx1.size; omega)⟩)
set_option maxHeartbeats 4000000 in
set_option maxRecDepth 100000 in
theorem encQ_68 {h : Heap} (b : Bk) (hb : b.ok h) (hw : b.wf) (hmd : b.mid) (hmay : b.may) (hk : b.kind = 68) :
    CallsH Tryz.prog 49 ⟨[.agg ⟨b.cells⟩]⟩ h fun u h' => ∃ v', u = .tuple ⟨[.agg ⟨[.int .u8 68, v']⟩, In 0]⟩ ∧ Own h' v' 5 1 (encBk b).length (bys (encBk b)) ∧ Ext No h h' := by
  have kc := fun h' (hx : Ext No h h') => checkA07 b (hb.ext0 hx) hw.kind hmd
  have hL : encBk b = be b.row.length 2 ++ b.row.flatMap encCel := by simp [encBk, hk]
  rw [hL]
  clear hL
  have hst := hw.status
  obtain ⟨md1, md2, md3, md4, md5, md6, md7, md8, md9, md10⟩ := hmd
  have m_c := hmay.cols.2
  have m_o := hmay.oids.2
  have m_n := hmay.n
  have m_m := hmay.m
  have m_r := hmay.row.2
  have hF : ∀ f ∈ b.fields, f.t.length ≤ 200000 ∧ 0 ≤ f.k ∧ f.k ≤ 255 := fun f hf => ⟨md7 f hf, hw.codes f hf⟩
  clear hw
  obtain ⟨ho, hc, hr, hf⟩ := hb
  obtain ⟨k, st, t, n, v, x, y, vo, lo, vc, lc, vr, lr, vf, lf⟩ := b
  dsimp only at hk hst ho hc hr hf md1 md2 md3 md4 md5 md6 md7 md8 md9 md10 m_c m_o m_n m_m m_r hF ⊢
  have hro := ho.1
  have hrc := hc.1
  have hrr := hr.1
  have hrf := hf.1
  obtain ⟨Ao, co, rfl, _⟩ := id hro
  obtain ⟨Ac, cc, rfl, _⟩ := id hrc
  obtain ⟨Ar, cr, rfl, _⟩ := id hrr
  obtain ⟨Af, cf, rfl, _⟩ := id hrf
  dsimp only [Bk.cells] at kc ⊢
  subst hk
  refine calls [(0, _)] Tryz.func49 rfl Tryz.ntmps49 rfl ⟨rfl, trivial⟩ ?_
  all_goals (refine WC.sr ?_)
  all_goals (refine WL.stepR (okE_box rfl) rfl rfl rfl ?_
             rintro _ h1 ⟨b1, rfl, hg1, hb1, hx1⟩)
  all_goals (refine WL.stepR (okE_alloc (fun w => Tryz.zeroValue50 w)) rfl rfl rfl ?_
             rintro _ h2 ⟨b2, rfl, hg2, hb2, hx2⟩)
  all_goals (have hX2 := hx1.trans hx2
             have hb12 := hx2.obj hb1 nos)
  all_goals (refine Go ?_)
  all_goals (refine WC.seq ?_)
  all_goals (refine WC.sr ?_)
  all_goals (refine WL.step (ok_loadN (fun w => Tryz.isAgg29 w) (fun w => Tryz.sizeOf29 w) rfl rfl (by exact At.of_block hb12)) rfl rfl rfl ?_)
  all_goals (refine WL.call (vs := [_]) rfl (fun a w => Tryz.call112 a w) rfl (kc _ hX2) rfl rfl rfl ?_
             rintro _ h3 ⟨⟨e, rfl, he⟩, hx3⟩
             obtain rfl := he.2 hmay)
  all_goals (have hb13 := hx3.obj hb12 nos
             have hb23 := hx3.obj hb2 nos
             have hX3 := hX2.trans hx3
             have l1 := lt_of_some hb13
             have l2 := lt_of_some hb23)
  all_goals (refine Go ?_)
  all_goals (refine Gs [(1, _), (2, _), (4, _)] ?_)
  all_goals (refine WC.sr ?_)
  all_goals (refine Go ?_)
  all_goals (refine goC 1 2 ?_ ?_ <;> first | exact ⟨⟩ | refine Hb.mk fun hb => ?_ | skip)
  all_goals (first | (fail_if_success refine goB 1 ?_) | (
  refine goB 1 ?_
  all_goals (refine WC.sr ?_)
  all_goals (refine WL.step (ok_buildF (vs := []) (cs := [_, _]) (fun | [] => [(.int .u8 0), (.slice none 0 0)] | _ => []) rfl rfl (by kernel_rfl)) rfl rfl rfl ?_)
  all_goals (refine Go ?_)
  all_goals (refine WL.stepR0 (okE_storeW (fun w => Tryz.sizeOf50 w) rfl rfl rfl (by assumption) rfl (by simp [Value.oneCell'])) rfl rfl ?_
             rintro _ h1 ⟨hb1, hx1⟩)
  all_goals (refine Go ?_)
  all_goals (refine Gs [(2, _), (3, _)] ?_)
  all_goals (refine WC.ret ?_)
  all_goals (repeat' (with_reducible first | refine thenP_r ?_ | refine blockP_r ?_))
  all_goals (refine retP_2 _ _ ⟨⟨_, rfl, ld_blk (fun w => Tryz.isAgg50 w) (fun w => Tryz.sizeOf50 w) hb7 rfl⟩, rfl, trivial⟩ ?_)
  all_goals (exact ⟨_, rfl, o6.ext hx7 (fun q hq e => by obtain ⟨_, z⟩ := own_kind o6 hq; rw [e, hb26] at z; simp at z), (hX3.trans x6).trans' hx7 (fun q hq e => by have := hx1.size; omega)⟩)
  skip))
  all_goals (first | (fail_if_success refine goB 2 ?_) | (
  refine goB 2 ?_
  all_goals (refine WC.skip ?_)
  skip))
  all_goals (refine Gn ?_)
  all_goals (refine WC.sr ?_)
  all_goals (refine Go ?_)
  all_goals (refine WC.seq ?_)
  all_goals (refine WC.sr ?_)
  all_goals (refine Go ?_)
  all_goals (refine WL.ld rfl (by first | exact cell_blk hb13 rfl | assumption | exact cell_blk (by assumption) rfl) rfl rfl rfl ?_)
  all_goals (refine Gn ?_)
  all_goals (refine Gs [(1, _), (2, _), (5, _), (13, _)] ?_)
  all_goals (refine WC.block ?_)
  all_goals (refine WC.sr ?_)
  all_goals (refine Go ?_)
  all_goals (refine goC 3 4 ?_ ?_ <;> first | exact ⟨⟩ | refine Hb.mk fun hb => ?_ | skip)
  all_goals (first | (fail_if_success refine goB 4 ?_) | (
  refine goB 4 ?_
  all_goals (refine WC.sr ?_)
  all_goals (refine Go ?_)
  all_goals (refine goC 5 6 ?_ ?_ <;> first | exact ⟨⟩ | refine Hb.mk fun hb => ?_ | skip)
  all_goals (first | (fail_if_success refine goB 6 ?_) | (
  refine goB 6 ?_
  all_goals (refine WC.sr ?_)
  all_goals (refine Go ?_)
  all_goals (refine Gs [(1, _), (2, _), (5, _), (13, _), (25, _)] ?_)
  all_goals (refine goC 7 8 ?_ ?_ <;> first | exact ⟨⟩ | refine Hb.mk fun hb => ?_ | skip)
  all_goals (first | (fail_if_success refine goB 8 ?_) | (
  refine goB 8 ?_
  all_goals (refine WC.sr ?_)
  all_goals (refine Go ?_)
  all_goals (refine goC 9 10 ?_ ?_ <;> first | exact ⟨⟩ | refine Hb.mk fun hb => ?_ | skip)
  all_goals (first | (fail_if_success refine goB 9 ?_) | (
  refine goB 9 ?_
  all_goals (refine WC.region ?_)
  all_goals (refine Go ?_)
  all_goals (refine Ld ?_)
  all_goals (refine WL.stepR (okE_buildSlice (vs := [_]) (cs := [_]) (fun | [a0] => [a0] | _ => []) Tryz.underlying43 rfl rfl (by kernel_rfl)) rfl rfl rfl ?_
             rintro _ h1 ⟨b1, rfl, hg1, hb1, hx1⟩)
  all_goals (refine Go ?_)
  skip))
  all_goals (first | (fail_if_success refine goB 10 ?_) | (
  refine goB 10 ?_
  all_goals (refine WC.sr ?_)
  all_goals (refine Go ?_)
  all_goals (refine Gs [(1, _), (2, _), (5, _), (13, _), (38, _)] ?_)
  all_goals (refine goC 11 12 ?_ ?_ <;> first | exact ⟨⟩ | refine Hb.mk fun hb => ?_ | skip)
  all_goals (first | (fail_if_success refine goB 12 ?_) | (
  refine goB 12 ?_
  all_goals (refine WC.sr ?_)
  all_goals (refine Go ?_)
  all_goals (refine goC 13 14 ?_ ?_ <;> first | exact ⟨⟩ | refine Hb.mk fun hb => ?_ | skip)
  all_goals (first | (fail_if_success refine goB 13 ?_) | (
  refine goB 13 ?_
  all_goals (refine WC.region ?_)
  all_goals (refine Go ?_)
  all_goals (refine WL.ld rfl (by first | exact cell_blk hb13 rfl | assumption | exact cell_blk (by assumption) rfl) rfl rfl rfl ?_)
  all_goals (refine WL.call (vs := [_, _]) rfl (fun a w => Tryz.call115 a w) rfl (put06 [] lr (Rd.nil _ _) (hr.ext0 hX3) (by decide) md3 md6) rfl rfl rfl ?_
             rintro v6 h6 ⟨ho6, hx6, hf6⟩
             have o6 : Own h6 v6 5 1 (be (lr.length : Int) 2 ++ lr.flatMap encCel).length (bys (be (lr.length : Int) 2 ++ lr.flatMap encCel)) := by simpa using ho6
             have x6 : Ext No h3 h6 := hx6)
  all_goals (refine Go ?_)
  skip))
  all_goals (first | (fail_if_success refine goB 14 ?_) | (
  refine goB 14 ?_
  all_goals (refine WC.sr ?_)
  all_goals (refine Go ?_)
  all_goals (refine Gs [(1, _), (2, _), (5, _), (13, _), (48, _)] ?_)
  all_goals (refine goC 15 16 ?_ ?_ <;> first | exact ⟨⟩ | refine Hb.mk fun hb => ?_ | skip)
  all_goals (first | (fail_if_success refine goB 16 ?_) | (
  refine goB 16 ?_
  all_goals (refine WC.sr ?_)
  all_goals (refine Go ?_)
  all_goals (refine goC 17 18 ?_ ?_ <;> first | exact ⟨⟩ | refine Hb.mk fun hb => ?_ | skip)
  all_goals (first | (fail_if_success refine goB 18 ?_) | (
  refine goB 18 ?_
  all_goals (refine WC.seq ?_)
  all_goals (refine WC.sr ?_)
  all_goals (refine Go ?_)
  all_goals (refine Gs [(1, _), (2, _), (5, _), (13, _), (58, _)] ?_)
  all_goals (refine goC 19 20 ?_ ?_ <;> first | exact ⟨⟩ | refine Hb.mk fun hb => ?_ | skip)
  all_goals (first | (fail_if_success refine goB 19 ?_) | (
  refine goB 19 ?_
  all_goals (refine WC.skip ?_)
  skip))
  all_goals (first | (fail_if_success refine goB 20 ?_) | (
  refine goB 20 ?_
  all_goals (refine WC.region ?_)
  all_goals (refine Go ?_)
  skip))
  all_goals (refine Gn ?_)
  all_goals (refine goC 21 22 ?_ ?_ <;> first | exact ⟨⟩ | refine Hb.mk fun hb => ?_ | skip)
  all_goals (first | (fail_if_success refine goB 22 ?_) | (
  refine goB 22 ?_
  all_goals (refine WC.skip ?_)
  skip))
  skip))
  skip))
  skip))
  skip))
  skip))
  skip))
  skip))
  skip))
  all_goals (refine Gn ?_)
  all_goals (refine WC.sr ?_)
  all_goals (have hb16 := x6.obj hb13 nos
             have hb26 := x6.obj hb23 nos
             obtain ⟨A6, c6, e6, _⟩ := o6.slice
             have hO := o6
             try rw [e6] at hO
             subst e6)
  all_goals (refine WL.step (ok_fieldAddr rfl Tryz.underlying29 rfl (fun w => Tryz.sizeOf5 w)) rfl rfl rfl ?_)
  all_goals (refine WL.ld rfl (by first | exact cell_blk hb16 rfl | assumption | exact cell_blk (by assumption) rfl) rfl rfl rfl ?_)
  all_goals (refine Go ?_)
  all_goals (refine WL.step (ok_buildF (vs := [_, _]) (cs := [_, _]) (fun | [a0, a1] => [a0, a1] | _ => []) rfl rfl (by kernel_rfl)) rfl rfl rfl ?_)
  all_goals (refine WL.stepR0 (okE_storeW (fun w => Tryz.sizeOf50 w) rfl rfl rfl hb26 rfl (by simp [Value.oneCell'])) rfl rfl ?_
             rintro _ h7 ⟨hb7, hx7⟩)
  all_goals (refine Go ?_)
  all_goals (refine Gs [(2, _), (3, _)] ?_)
  all_goals (refine WC.ret ?_)
  all_goals (repeat' (with_reducible first | refine thenP_r ?_ | refine blockP_r ?_))
  all_goals (refine retP_2 _ _ ⟨⟨_, rfl, ld_blk (fun w => Tryz.isAgg50 w) (fun w => Tryz.sizeOf50 w) hb7 rfl⟩, rfl, trivial⟩ ?_)
  all_goals (exact ⟨_, rfl, o6.ext hx7 (fun q hq e => by obtain ⟨_, z⟩ := own_kind o6 hq; rw [e, hb26] at z; simp at z), (hX3.trans x6).trans' hx7 (fun q hq e => by have := hx1.size; omega)⟩)
set_option maxHeartbeats 4000000 in
set_option maxRecDepth 100000 in
theorem encQ_84 {h : Heap} (b : Bk) (hb : b.ok h) (hw : b.wf) (hmd : b.mid) (hmay : b.may) (hk : b.kind = 84) :
    CallsH Tryz.prog 49 ⟨[.agg ⟨b.cells⟩]⟩ h fun u h' => ∃ v', u = .tuple ⟨[.agg ⟨[.int .u8 84, v']⟩, In 0]⟩ ∧ Own h' v' 5 1 (encBk b).length (bys (encBk b)) ∧ Ext No h h' := by
  have kc := fun h' (hx : Ext No h h') => checkA07 b (hb.ext0 hx) hw.kind hmd
  have hL : encBk b = be b.cols.length 2 ++ b.cols.flatMap encCol := by simp [encBk, hk]
  rw [hL]
  clear hL
  have hst := hw.status
  obtain ⟨md1, md2, md3, md4, md5, md6, md7, md8, md9, md10⟩ := hmd
  have m_c := hmay.cols.2
  have m_o := hmay.oids.2
  have m_n := hmay.n
  have m_m := hmay.m
  have m_r := hmay.row.2
  have hF : ∀ f ∈ b.fields, f.t.length ≤ 200000 ∧ 0 ≤ f.k ∧ f.k ≤ 255 := fun f hf => ⟨md7 f hf, hw.codes f hf⟩
  clear hw
  obtain ⟨ho, hc, hr, hf⟩ := hb
  obtain ⟨k, st, t, n, v, x, y, vo, lo, vc, lc, vr, lr, vf, lf⟩ := b
  dsimp only at hk hst ho hc hr hf md1 md2 md3 md4 md5 md6 md7 md8 md9 md10 m_c m_o m_n m_m m_r hF ⊢
  have hro := ho.1
  have hrc := hc.1
  have hrr := hr.1
  have hrf := hf.1
  obtain ⟨Ao, co, rfl, _⟩ := id hro
  obtain ⟨Ac, cc, rfl, _⟩ := id hrc
  obtain ⟨Ar, cr, rfl, _⟩ := id hrr
  obtain ⟨Af, cf, rfl, _⟩ := id hrf
  dsimp only [Bk.cells] at kc ⊢
  subst hk
  refine calls [(0, _)] Tryz.func49 rfl Tryz.ntmps49 rfl ⟨rfl, trivial⟩ ?_
  all_goals (refine WC.sr ?_)
  all_goals (refine WL.stepR (okE_box rfl) rfl rfl rfl ?_
             rintro _ h1 ⟨b1, rfl, hg1, hb1, hx1⟩)
  all_goals (refine WL.stepR (okE_alloc (fun w => Tryz.zeroValue50 w)) rfl rfl rfl ?_
             rintro _ h2 ⟨b2, rfl, hg2, hb2, hx2⟩)
  all_goals (have hX2 := hx1.trans hx2
             have hb12 := hx2.obj hb1 nos)
  all_goals (refine Go ?_)
  all_goals (refine WC.seq ?_)
  all_goals (refine WC.sr ?_)
  all_goals (refine WL.step (ok_loadN (fun w => Tryz.isAgg29 w) (fun w => Tryz.sizeOf29 w) rfl rfl (by exact At.of_block hb12)) rfl rfl rfl ?_)
  all_goals (refine WL.call (vs := [_]) rfl (fun a w => Tryz.call112 a w) rfl (kc _ hX2) rfl rfl rfl ?_
             rintro _ h3 ⟨⟨e, rfl, he⟩, hx3⟩
             obtain rfl := he.2 hmay)
  all_goals (have hb13 := hx3.obj hb12 nos
             have hb23 := hx3.obj hb2 nos
             have hX3 := hX2.trans hx3
             have l1 := lt_of_some hb13
             have l2 := lt_of_some hb23)
  all_goals (refine Go ?_)
  all_goals (refine Gs [(1, _), (2, _), (4, _)] ?_)
  all_goals (refine WC.sr ?_)
  all_goals (refine Go ?_)
  all_goals (refine goC 1 2 ?_ ?_ <;> first | exact ⟨⟩ | refine Hb.mk fun hb => ?_ | skip)
  all_goals (first | (fail_if_success refine goB 1 ?_) | (
  refine goB 1 ?_
  all_goals (refine WC.sr ?_)
  all_goals (refine WL.step (ok_buildF (vs := []) (cs := [_, _]) (fun | [] => [(.int .u8 0), (.slice none 0 0)] | _ => []) rfl rfl (by kernel_rfl)) rfl rfl rfl ?_)
  all_goals (refine Go ?_)
  all_goals (refine WL.stepR0 (okE_storeW (fun w => Tryz.sizeOf50 w) rfl rfl rfl (by assumption) rfl (by simp [Value.oneCell'])) rfl rfl ?_
             rintro _ h1 ⟨hb1, hx1⟩)
  all_goals (refine Go ?_)
  all_goals (refine Gs [(2, _), (3, _)] ?_)
  all_goals (refine WC.ret ?_)
  all_goals (repeat' (with_reducible first | refine thenP_r ?_ | refine blockP_r ?_))
  all_goals (refine retP_2 _ _ ⟨⟨_, rfl, ld_blk (fun w => Tryz.isAgg50 w) (fun w => Tryz.sizeOf50 w) hb7 rfl⟩, rfl, trivial⟩ ?_)
  all_goals (exact ⟨_, rfl, o6.ext hx7 (fun q hq e => by obtain ⟨_, z⟩ := own_kind o6 hq; rw [e, hb26] at z; simp at z), (hX3.trans x6).trans' hx7 (fun q hq e => by have := hx1.size; omega)⟩)
  skip))
  all_goals (first | (fail_if_success refine goB 2 ?_) | (
  refine goB 2 ?_
  all_goals (refine WC.skip ?_)
  skip))
  all_goals (refine Gn ?_)
  all_goals (refine WC.sr ?_)
  all_goals (refine Go ?_)
  all_goals (refine WC.seq ?_)
  all_goals (refine WC.sr ?_)
  all_goals (refine Go ?_)
  all_goals (refine WL.ld rfl (by first | exact cell_blk hb13 rfl | assumption | exact cell_blk (by assumption) rfl) rfl rfl rfl ?_)
  all_goals (refine Gn ?_)
  all_goals (refine Gs [(1, _), (2, _), (5, _), (13, _)] ?_)
  all_goals (refine WC.block ?_)
  all_goals (refine WC.sr ?_)
  all_goals (refine Go ?_)
  all_goals (refine goC 3 4 ?_ ?_ <;> first | exact ⟨⟩ | refine Hb.mk fun hb => ?_ | skip)
  all_goals (first | (fail_if_success refine goB 4 ?_) | (
  refine goB 4 ?_
  all_goals (refine WC.sr ?_)
  all_goals (refine Go ?_)
  all_goals (refine goC 5 6 ?_ ?_ <;> first | exact ⟨⟩ | refine Hb.mk fun hb => ?_ | skip)
  all_goals (first | (fail_if_success refine goB 6 ?_) | (
  refine goB 6 ?_
  all_goals (refine WC.sr ?_)
  all_goals (refine Go ?_)
  all_goals (refine Gs [(1, _), (2, _), (5, _), (13, _), (25, _)] ?_)
  all_goals (refine goC 7 8 ?_ ?_ <;> first | exact ⟨⟩ | refine Hb.mk fun hb => ?_ | skip)
  all_goals (first | (fail_if_success refine goB 8 ?_) | (
  refine goB 8 ?_
  all_goals (refine WC.sr ?_)
  all_goals (refine Go ?_)
  all_goals (refine goC 9 10 ?_ ?_ <;> first | exact ⟨⟩ | refine Hb.mk fun hb => ?_ | skip)
  all_goals (first | (fail_if_success refine goB 9 ?_) | (
  refine goB 9 ?_
  all_goals (refine WC.region ?_)
  all_goals (refine Go ?_)
  all_goals (refine Ld ?_)
  all_goals (refine WL.stepR (okE_buildSlice (vs := [_]) (cs := [_]) (fun | [a0] => [a0] | _ => []) Tryz.underlying43 rfl rfl (by kernel_rfl)) rfl rfl rfl ?_
             rintro _ h1 ⟨b1, rfl, hg1, hb1, hx1⟩)
  all_goals (refine Go ?_)
  skip))
  all_goals (first | (fail_if_success refine goB 10 ?_) | (
  refine goB 10 ?_
  all_goals (refine WC.sr ?_)
  all_goals (refine Go ?_)
  all_goals (refine Gs [(1, _), (2, _), (5, _), (13, _), (38, _)] ?_)
  all_goals (refine goC 11 12 ?_ ?_ <;> first | exact ⟨⟩ | refine Hb.mk fun hb => ?_ | skip)
  all_goals (first | (fail_if_success refine goB 12 ?_) | (
  refine goB 12 ?_
  all_goals (refine WC.sr ?_)
  all_goals (refine Go ?_)
  all_goals (refine goC 13 14 ?_ ?_ <;> first | exact ⟨⟩ | refine Hb.mk fun hb => ?_ | skip)
  all_goals (first | (fail_if_success refine goB 14 ?_) | (
  refine goB 14 ?_
  all_goals (refine WC.sr ?_)
  all_goals (refine Go ?_)
  all_goals (refine Gs [(1, _), (2, _), (5, _), (13, _), (48, _)] ?_)
  all_goals (refine goC 15 16 ?_ ?_ <;> first | exact ⟨⟩ | refine Hb.mk fun hb => ?_ | skip)
  all_goals (first | (fail_if_success refine goB 15 ?_) | (
  refine goB 15 ?_
  all_goals (refine WC.region ?_)
  all_goals (refine Go ?_)
  all_goals (refine WL.ld rfl (by first | exact cell_blk hb13 rfl | assumption | exact cell_blk (by assumption) rfl) rfl rfl rfl ?_)
  all_goals (refine WL.call (vs := [_]) rfl (fun a w => Tryz.call116 a w) rfl (described07 lc (hrc.ext0 hX3) md2 md5 m_c) rfl rfl rfl ?_
             rintro v6 h6 ⟨o6, x6, hf6⟩)
  all_goals (refine Go ?_)
  skip))
  all_goals (first | (fail_if_success refine goB 16 ?_) | (
  refine goB 16 ?_
  all_goals (refine WC.sr ?_)
  all_goals (refine Go ?_)
  all_goals (refine goC 17 18 ?_ ?_ <;> first | exact ⟨⟩ | refine Hb.mk fun hb => ?_ | skip)
  all_goals (first | (fail_if_success refine goB 18 ?_) | (
  refine goB 18 ?_
  all_goals (refine WC.seq ?_)
  all_goals (refine WC.sr ?_)
  all_goals (refine Go ?_)
  all_goals (refine Gs [(1, _), (2, _), (5, _), (13, _), (58, _)] ?_)
  all_goals (refine goC 19 20 ?_ ?_ <;> first | exact ⟨⟩ | refine Hb.mk fun hb => ?_ | skip)
  all_goals (first | (fail_if_success refine goB 19 ?_) | (
  refine goB 19 ?_
  all_goals (refine WC.skip ?_)
  skip))
  all_goals (first | (fail_if_success refine goB 20 ?_) | (
  refine goB 20 ?_
  all_goals (refine WC.region ?_)
  all_goals (refine Go ?_)
  skip))
  all_goals (refine Gn ?_)
  all_goals (refine goC 21 22 ?_ ?_ <;> first | exact ⟨⟩ | refine Hb.mk fun hb => ?_ | skip)
  all_goals (first | (fail_if_success refine goB 22 ?_) | (
  refine goB 22 ?_
  all_goals (refine WC.skip ?_)
  skip))
  skip))
  skip))
  skip))
  skip))
  skip))
  skip))
  skip))
  skip))
  all_goals (refine Gn ?_)
  all_goals (refine WC.sr ?_)
  all_goals (have hb16 := x6.obj hb13 nos
             have hb26 := x6.obj hb23 nos
             obtain ⟨A6, c6, e6, _⟩ := o6.slice
             have hO := o6
             try rw [e6] at hO
             subst e6)
  all_goals (refine WL.step (ok_fieldAddr rfl Tryz.underlying29 rfl (fun w => Tryz.sizeOf5 w)) rfl rfl rfl ?_)
  all_goals (refine WL.ld rfl (by first | exact cell_blk hb16 rfl | assumption | exact cell_blk (by assumption) rfl) rfl rfl rfl ?_)
  all_goals (refine Go ?_)
  all_goals (refine WL.step (ok_buildF (vs := [_, _]) (cs := [_, _]) (fun | [a0, a1] => [a0, a1] | _ => []) rfl rfl (by kernel_rfl)) rfl rfl rfl ?_)
  all_goals (refine WL.stepR0 (okE_storeW (fun w => Tryz.sizeOf50 w) rfl rfl rfl hb26 rfl (by simp [Value.oneCell'])) rfl rfl ?_
             rintro _ h7 ⟨hb7, hx7⟩)
  all_goals (refine Go ?_)
  all_goals (refine Gs [(2, _), (3, _)] ?_)
  all_goals (refine WC.ret ?_)
  all_goals (repeat' (with_reducible first | refine thenP_r ?_ | refine blockP_r ?_))
  all_goals (refine retP_2 _ _ ⟨⟨_, rfl, ld_blk (fun w => Tryz.isAgg50 w) (fun w => Tryz.sizeOf50 w) hb7 rfl⟩, rfl, trivial⟩ ?_)
  all_goals (exact ⟨_, rfl, o6.ext hx7 (fun q hq e => by obtain ⟨_, z⟩ := own_kind o6 hq; rw [e, hb26] at z; simp at z), (hX3.trans x6).trans' hx7 (fun q hq e => by have := hx1.size; omega)⟩)
set_option maxHeartbeats 4000000 in
set_option maxRecDepth 100000 in
theorem encQ_116 {h : Heap} (b : Bk) (hb : b.ok h) (hw : b.wf) (hmd : b.mid) (hmay : b.may) (hk : b.kind = 116) :
    CallsH Tryz.prog 49 ⟨[.agg ⟨b.cells⟩]⟩ h fun u h' => ∃ v', u = .tuple ⟨[.agg ⟨[.int .u8 116, v']⟩, In 0]⟩ ∧ Own h' v' 5 1 (encBk b).length (bys (encBk b)) ∧ Ext No h h' := by
  have kc := fun h' (hx : Ext No h h') => checkA07 b (hb.ext0 hx) hw.kind hmd
  have hL : encBk b = be b.oids.length 2 ++ b.oids.flatMap fun n => be n 4 := by simp [encBk, hk]
  rw [hL]
  clear hL
  have hst := hw.status
  obtain ⟨md1, md2, md3, md4, md5, md6, md7, md8, md9, md10⟩ := hmd
  have m_c := hmay.cols.2
  have m_o := hmay.oids.2
  have m_n := hmay.n
  have m_m := hmay.m
  have m_r := hmay.row.2
  have hF : ∀ f ∈ b.fields, f.t.length ≤ 200000 ∧ 0 ≤ f.k ∧ f.k ≤ 255 := fun f hf => ⟨md7 f hf, hw.codes f hf⟩
  clear hw
  obtain ⟨ho, hc, hr, hf⟩ := hb
  obtain ⟨k, st, t, n, v, x, y, vo, lo, vc, lc, vr, lr, vf, lf⟩ := b
  dsimp only at hk hst ho hc hr hf md1 md2 md3 md4 md5 md6 md7 md8 md9 md10 m_c m_o m_n m_m m_r hF ⊢
  have hro := ho.1
  have hrc := hc.1
  have hrr := hr.1
  have hrf := hf.1
  obtain ⟨Ao, co, rfl, _⟩ := id hro
  obtain ⟨Ac, cc, rfl, _⟩ := id hrc
  obtain ⟨Ar, cr, rfl, _⟩ := id hrr
  obtain ⟨Af, cf, rfl, _⟩ := id hrf
  dsimp only [Bk.cells] at kc ⊢
  subst hk
  refine calls [(0, _)] Tryz.func49 rfl Tryz.ntmps49 rfl ⟨rfl, trivial⟩ ?_
  all_goals (refine WC.sr ?_)
  all_goals (refine WL.stepR (okE_box rfl) rfl rfl rfl ?_
             rintro _ h1 ⟨b1, rfl, hg1, hb1, hx1⟩)
  all_goals (refine WL.stepR (okE_alloc (fun w => Tryz.zeroValue50 w)) rfl rfl rfl ?_
             rintro _ h2 ⟨b2, rfl, hg2, hb2, hx2⟩)
  all_goals (have hX2 := hx1.trans hx2
             have hb12 := hx2.obj hb1 nos)
  all_goals (refine Go ?_)
  all_goals (refine WC.seq ?_)
  all_goals (refine WC.sr ?_)
  all_goals (refine WL.step (ok_loadN (fun w => Tryz.isAgg29 w) (fun w => Tryz.sizeOf29 w) rfl rfl (by exact At.of_block hb12)) rfl rfl rfl ?_)
  all_goals (refine WL.call (vs := [_]) rfl (fun a w => Tryz.call112 a w) rfl (kc _ hX2) rfl rfl rfl ?_
             rintro _ h3 ⟨⟨e, rfl, he⟩, hx3⟩
             obtain rfl := he.2 hmay)
  all_goals (have hb13 := hx3.obj hb12 nos
             have hb23 := hx3.obj hb2 nos
             have hX3 := hX2.trans hx3
             have l1 := lt_of_some hb13
             have l2 := lt_of_some hb23)
  all_goals (refine Go ?_)
  all_goals (refine Gs [(1, _), (2, _), (4, _)] ?_)
  all_goals (refine WC.sr ?_)
  all_goals (refine Go ?_)
  all_goals (refine goC 1 2 ?_ ?_ <;> first | exact ⟨⟩ | refine Hb.mk fun hb => ?_ | skip)
  all_goals (first | (fail_if_success refine goB 1 ?_) | (
  refine goB 1 ?_
  all_goals (refine WC.sr ?_)
  all_goals (refine WL.step (ok_buildF (vs := []) (cs := [_, _]) (fun | [] => [(.int .u8 0), (.slice none 0 0)] | _ => []) rfl rfl (by kernel_rfl)) rfl rfl rfl ?_)
  all_goals (refine Go ?_)
  all_goals (refine WL.stepR0 (okE_storeW (fun w => Tryz.sizeOf50 w) rfl rfl rfl (by assumption) rfl (by simp [Value.oneCell'])) rfl rfl ?_
             rintro _ h1 ⟨hb1, hx1⟩)
  all_goals (refine Go ?_)
  all_goals (refine Gs [(2, _), (3, _)] ?_)
  all_goals (refine WC.ret ?_)
  all_goals (repeat' (with_reducible first | refine thenP_r ?_ | refine blockP_r ?_))
  all_goals (refine retP_2 _ _ ⟨⟨_, rfl, ld_blk (fun w => Tryz.isAgg50 w) (fun w => Tryz.sizeOf50 w) hb7 rfl⟩, rfl, trivial⟩ ?_)
  all_goals (exact ⟨_, rfl, o6.ext hx7 (fun q hq e => by obtain ⟨_, z⟩ := own_kind o6 hq; rw [e, hb26] at z; simp at z), (hX3.trans x6).trans' hx7 (fun q hq e => by have := hx1.size; omega)⟩)
  skip))
  all_goals (first | (fail_if_success refine goB 2 ?_) | (
  refine goB 2 ?_
  all_goals (refine WC.skip ?_)
  skip))
  all_goals (refine Gn ?_)
  all_goals (refine WC.sr ?_)
  all_goals (refine Go ?_)
  all_goals (refine WC.seq ?_)
  all_goals (refine WC.sr ?_)
  all_goals (refine Go ?_)
  all_goals (refine WL.ld rfl (by first | exact cell_blk hb13 rfl | assumption | exact cell_blk (by assumption) rfl) rfl rfl rfl ?_)
  all_goals (refine Gn ?_)
  all_goals (refine Gs [(1, _), (2, _), (5, _), (13, _)] ?_)
  all_goals (refine WC.block ?_)
  all_goals (refine WC.sr ?_)
  all_goals (refine Go ?_)
  all_goals (refine goC 3 4 ?_ ?_ <;> first | exact ⟨⟩ | refine Hb.mk fun hb => ?_ | skip)
  all_goals (first | (fail_if_success refine goB 4 ?_) | (
  refine goB 4 ?_
  all_goals (refine WC.sr ?_)
  all_goals (refine Go ?_)
  all_goals (refine goC 5 6 ?_ ?_ <;> first | exact ⟨⟩ | refine Hb.mk fun hb => ?_ | skip)
  all_goals (first | (fail_if_success refine goB 6 ?_) | (
  refine goB 6 ?_
  all_goals (refine WC.sr ?_)
  all_goals (refine Go ?_)
  all_goals (refine Gs [(1, _), (2, _), (5, _), (13, _), (25, _)] ?_)
  all_goals (refine goC 7 8 ?_ ?_ <;> first | exact ⟨⟩ | refine Hb.mk fun hb => ?_ | skip)
  all_goals (first | (fail_if_success refine goB 8 ?_) | (
  refine goB 8 ?_
  all_goals (refine WC.sr ?_)
  all_goals (refine Go ?_)
  all_goals (refine goC 9 10 ?_ ?_ <;> first | exact ⟨⟩ | refine Hb.mk fun hb => ?_ | skip)
  all_goals (first | (fail_if_success refine goB 9 ?_) | (
  refine goB 9 ?_
  all_goals (refine WC.region ?_)
  all_goals (refine Go ?_)
  all_goals (refine Ld ?_)
  all_goals (refine WL.stepR (okE_buildSlice (vs := [_]) (cs := [_]) (fun | [a0] => [a0] | _ => []) Tryz.underlying43 rfl rfl (by kernel_rfl)) rfl rfl rfl ?_
             rintro _ h1 ⟨b1, rfl, hg1, hb1, hx1⟩)
  all_goals (refine Go ?_)
  skip))
  all_goals (first | (fail_if_success refine goB 10 ?_) | (
  refine goB 10 ?_
  all_goals (refine WC.sr ?_)
  all_goals (refine Go ?_)
  all_goals (refine Gs [(1, _), (2, _), (5, _), (13, _), (38, _)] ?_)
  all_goals (refine goC 11 12 ?_ ?_ <;> first | exact ⟨⟩ | refine Hb.mk fun hb => ?_ | skip)
  all_goals (first | (fail_if_success refine goB 12 ?_) | (
  refine goB 12 ?_
  all_goals (refine WC.sr ?_)
  all_goals (refine Go ?_)
  all_goals (refine goC 13 14 ?_ ?_ <;> first | exact ⟨⟩ | refine Hb.mk fun hb => ?_ | skip)
  all_goals (first | (fail_if_success refine goB 14 ?_) | (
  refine goB 14 ?_
  all_goals (refine WC.sr ?_)
  all_goals (refine Go ?_)
  all_goals (refine Gs [(1, _), (2, _), (5, _), (13, _), (48, _)] ?_)
  all_goals (refine goC 15 16 ?_ ?_ <;> first | exact ⟨⟩ | refine Hb.mk fun hb => ?_ | skip)
  all_goals (first | (fail_if_success refine goB 16 ?_) | (
  refine goB 16 ?_
  all_goals (refine WC.sr ?_)
  all_goals (refine Go ?_)
  all_goals (refine goC 17 18 ?_ ?_ <;> first | exact ⟨⟩ | refine Hb.mk fun hb => ?_ | skip)
  all_goals (first | (fail_if_success refine goB 17 ?_) | (
  refine goB 17 ?_
  all_goals (refine WC.region ?_)
  all_goals (refine Go ?_)
  all_goals (refine WL.ld rfl (by first | exact cell_blk hb13 rfl | assumption | exact cell_blk (by assumption) rfl) rfl rfl rfl ?_)
  all_goals (refine WL.call (vs := [_, _, _]) rfl (fun a w => Tryz.call117 a w) rfl (list06 [] lo (Rd.nil _ _) (hro.ext0 hX3) (by decide) md1 m_o) rfl rfl rfl ?_
             rintro v6 h6 ⟨ho6, hx6, hf6⟩
             have o6 : Own h6 v6 5 1 (be (lo.length : Int) 2 ++ lo.flatMap fun n => be n 4).length (bys (be (lo.length : Int) 2 ++ lo.flatMap fun n => be n 4)) := by simpa using ho6
             have x6 : Ext No h3 h6 := hx6)
  all_goals (refine Go ?_)
  skip))
  all_goals (first | (fail_if_success refine goB 18 ?_) | (
  refine goB 18 ?_
  all_goals (refine WC.seq ?_)
  all_goals (refine WC.sr ?_)
  all_goals (refine Go ?_)
  all_goals (refine Gs [(1, _), (2, _), (5, _), (13, _), (58, _)] ?_)
  all_goals (refine goC 19 20 ?_ ?_ <;> first | exact ⟨⟩ | refine Hb.mk fun hb => ?_ | skip)
  all_goals (first | (fail_if_success refine goB 19 ?_) | (
  refine goB 19 ?_
  all_goals (refine WC.skip ?_)
  skip))
  all_goals (first | (fail_if_success refine goB 20 ?_) | (
  refine goB 20 ?_
  all_goals (refine WC.region ?_)
  all_goals (refine Go ?_)
  skip))
  all_goals (refine Gn ?_)
  all_goals (refine goC 21 22 ?_ ?_ <;> first | exact ⟨⟩ | refine Hb.mk fun hb => ?_ | skip)
  all_goals (first | (fail_if_success refine goB 22 ?_) | (
  refine goB 22 ?_
  all_goals (refine WC.skip ?_)
  skip))
  skip))
  skip))
  skip))
  skip))
  skip))
  skip))
  skip))
  skip))
  all_goals (refine Gn ?_)
  all_goals (refine WC.sr ?_)
  all_goals (have hb16 := x6.obj hb13 nos
             have hb26 := x6.obj hb23 nos
             obtain ⟨A6, c6, e6, _⟩ := o6.slice
             have hO := o6
             try rw [e6] at hO
             subst e6)
  all_goals (refine WL.step (ok_fieldAddr rfl Tryz.underlying29 rfl (fun w => Tryz.sizeOf5 w)) rfl rfl rfl ?_)
  all_goals (refine WL.ld rfl (by first | exact cell_blk hb16 rfl | assumption | exact cell_blk (by assumption) rfl) rfl rfl rfl ?_)
  all_goals (refine Go ?_)
  all_goals (refine WL.step (ok_buildF (vs := [_, _]) (cs := [_, _]) (fun | [a0, a1] => [a0, a1] | _ => []) rfl rfl (by kernel_rfl)) rfl rfl rfl ?_)
  all_goals (refine WL.stepR0 (okE_storeW (fun w => Tryz.sizeOf50 w) rfl rfl rfl hb26 rfl (by simp [Value.oneCell'])) rfl rfl ?_
             rintro _ h7 ⟨hb7, hx7⟩)
  all_goals (refine Go ?_)
  all_goals (refine Gs [(2, _), (3, _)] ?_)
  all_goals (refine WC.ret ?_)
  all_goals (repeat' (with_reducible first | refine thenP_r ?_ | refine blockP_r ?_))
  all_goals (refine retP_2 _ _ ⟨⟨_, rfl, ld_blk (fun w => Tryz.isAgg50 w) (fun w => Tryz.sizeOf50 w) hb7 rfl⟩, rfl, trivial⟩ ?_)
  all_goals (exact ⟨_, rfl, o6.ext hx7 (fun q hq e => by obtain ⟨_, z⟩ := own_kind o6 hq; rw [e, hb26] at z; simp at z), (hX3.trans x6).trans' hx7 (fun q hq e => by have := hx1.size; omega)⟩)
set_option maxHeartbeats 4000000 in
set_option maxRecDepth 100000 in
theorem encQ_69 {h : Heap} (b : Bk) (hb : b.ok h) (hw : b.wf) (hmd : b.mid) (hmay : b.may) (hk : b.kind = 69) :
    CallsH Tryz.prog 49 ⟨[.agg ⟨b.cells⟩]⟩ h fun u h' => ∃ v', u = .tuple ⟨[.agg ⟨[.int .u8 69, v']⟩, In 0]⟩ ∧ Own h' v' 5 1 (encBk b).length (bys (encBk b)) ∧ Ext No h h' := by
  have kc := fun h' (hx : Ext No h h') => checkA07 b (hb.ext0 hx) hw.kind hmd
  have hL : encBk b = encF b.fields ++ [0] := by simp [encBk, hk]
  rw [hL]
  clear hL
  have hst := hw.status
  obtain ⟨md1, md2, md3, md4, md5, md6, md7, md8, md9, md10⟩ := hmd
  have m_c := hmay.cols.2
  have m_o := hmay.oids.2
  have m_n := hmay.n
  have m_m := hmay.m
  have m_r := hmay.row.2
  have hF : ∀ f ∈ b.fields, f.t.length ≤ 200000 ∧ 0 ≤ f.k ∧ f.k ≤ 255 := fun f hf => ⟨md7 f hf, hw.codes f hf⟩
  clear hw
  obtain ⟨ho, hc, hr, hf⟩ := hb
  obtain ⟨k, st, t, n, v, x, y, vo, lo, vc, lc, vr, lr, vf, lf⟩ := b
  dsimp only at hk hst ho hc hr hf md1 md2 md3 md4 md5 md6 md7 md8 md9 md10 m_c m_o m_n m_m m_r hF ⊢
  have hro := ho.1
  have hrc := hc.1
  have hrr := hr.1
  have hrf := hf.1
  obtain ⟨Ao, co, rfl, _⟩ := id hro
  obtain ⟨Ac, cc, rfl, _⟩ := id hrc
  obtain ⟨Ar, cr, rfl, _⟩ := id hrr
  obtain ⟨Af, cf, rfl, _⟩ := id hrf
  dsimp only [Bk.cells] at kc ⊢
  subst hk
  refine calls [(0, _)] Tryz.func49 rfl Tryz.ntmps49 rfl ⟨rfl, trivial⟩ ?_
  all_goals (refine WC.sr ?_)
  all_goals (refine WL.stepR (okE_box rfl) rfl rfl rfl ?_
             rintro _ h1 ⟨b1, rfl, hg1, hb1, hx1⟩)
  all_goals (refine WL.stepR (okE_alloc (fun w => Tryz.zeroValue50 w)) rfl rfl rfl ?_
             rintro _ h2 ⟨b2, rfl, hg2, hb2, hx2⟩)
  all_goals (have hX2 := hx1.trans hx2
             have hb12 := hx2.obj hb1 nos)
  all_goals (refine Go ?_)
  all_goals (refine WC.seq ?_)
  all_goals (refine WC.sr ?_)
  all_goals (refine WL.step (ok_loadN (fun w => Tryz.isAgg29 w) (fun w => Tryz.sizeOf29 w) rfl rfl (by exact At.of_block hb12)) rfl rfl rfl ?_)
  all_goals (refine WL.call (vs := [_]) rfl (fun a w => Tryz.call112 a w) rfl (kc _ hX2) rfl rfl rfl ?_
             rintro _ h3 ⟨⟨e, rfl, he⟩, hx3⟩
             obtain rfl := he.2 hmay)
  all_goals (have hb13 := hx3.obj hb12 nos
             have hb23 := hx3.obj hb2 nos
             have hX3 := hX2.trans hx3
             have l1 := lt_of_some hb13
             have l2 := lt_of_some hb23)
  all_goals (refine Go ?_)
  all_goals (refine Gs [(1, _), (2, _), (4, _)] ?_)
  all_goals (refine WC.sr ?_)
  all_goals (refine Go ?_)
  all_goals (refine goC 1 2 ?_ ?_ <;> first | exact ⟨⟩ | refine Hb.mk fun hb => ?_ | skip)
  all_goals (first | (fail_if_success refine goB 1 ?_) | (
  refine goB 1 ?_
  all_goals (refine WC.sr ?_)
  all_goals (refine WL.step (ok_buildF (vs := []) (cs := [_, _]) (fun | [] => [(.int .u8 0), (.slice none 0 0)] | _ => []) rfl rfl (by kernel_rfl)) rfl rfl rfl ?_)
  all_goals (refine Go ?_)
  all_goals (refine WL.stepR0 (okE_storeW (fun w => Tryz.sizeOf50 w) rfl rfl rfl (by assumption) rfl (by simp [Value.oneCell'])) rfl rfl ?_
             rintro _ h1 ⟨hb1, hx1⟩)
  all_goals (refine Go ?_)
  all_goals (refine Gs [(2, _), (3, _)] ?_)
  all_goals (refine WC.ret ?_)
  all_goals (repeat' (with_reducible first | refine thenP_r ?_ | refine blockP_r ?_))
  all_goals (refine retP_2 _ _ ⟨⟨_, rfl, ld_blk (fun w => Tryz.isAgg50 w) (fun w => Tryz.sizeOf50 w) hb7 rfl⟩, rfl, trivial⟩ ?_)
  all_goals (exact ⟨_, rfl, o6.ext hx7 (fun q hq e => by obtain ⟨_, z⟩ := own_kind o6 hq; rw [e, hb26] at z; simp at z), (hX3.trans x6).trans' hx7 (fun q hq e => by have := hx1.size; omega)⟩)
  skip))
  all_goals (first | (fail_if_success refine goB 2 ?_) | (
  refine goB 2 ?_
  all_goals (refine WC.skip ?_)
  skip))
  all_goals (refine Gn ?_)
  all_goals (refine WC.sr ?_)
  all_goals (refine Go ?_)
  all_goals (refine WC.seq ?_)
  all_goals (refine WC.sr ?_)
  all_goals (refine Go ?_)
  all_goals (refine WL.ld rfl (by first | exact cell_blk hb13 rfl | assumption | exact cell_blk (by assumption) rfl) rfl rfl rfl ?_)
  all_goals (refine Gn ?_)
  all_goals (refine Gs [(1, _), (2, _), (5, _), (13, _)] ?_)
  all_goals (refine WC.block ?_)
  all_goals (refine WC.sr ?_)
  all_goals (refine Go ?_)
  all_goals (refine goC 3 4 ?_ ?_ <;> first | exact ⟨⟩ | refine Hb.mk fun hb => ?_ | skip)
  all_goals (first | (fail_if_success refine goB 4 ?_) | (
  refine goB 4 ?_
  all_goals (refine WC.sr ?_)
  all_goals (refine Go ?_)
  all_goals (refine goC 5 6 ?_ ?_ <;> first | exact ⟨⟩ | refine Hb.mk fun hb => ?_ | skip)
  all_goals (first | (fail_if_success refine goB 6 ?_) | (
  refine goB 6 ?_
  all_goals (refine WC.sr ?_)
  all_goals (refine Go ?_)
  all_goals (refine Gs [(1, _), (2, _), (5, _), (13, _), (25, _)] ?_)
  all_goals (refine goC 7 8 ?_ ?_ <;> first | exact ⟨⟩ | refine Hb.mk fun hb => ?_ | skip)
  all_goals (first | (fail_if_success refine goB 8 ?_) | (
  refine goB 8 ?_
  all_goals (refine WC.sr ?_)
  all_goals (refine Go ?_)
  all_goals (refine goC 9 10 ?_ ?_ <;> first | exact ⟨⟩ | refine Hb.mk fun hb => ?_ | skip)
  all_goals (first | (fail_if_success refine goB 9 ?_) | (
  refine goB 9 ?_
  all_goals (refine WC.region ?_)
  all_goals (refine Go ?_)
  all_goals (refine Ld ?_)
  all_goals (refine WL.stepR (okE_buildSlice (vs := [_]) (cs := [_]) (fun | [a0] => [a0] | _ => []) Tryz.underlying43 rfl rfl (by kernel_rfl)) rfl rfl rfl ?_
             rintro _ h1 ⟨b1, rfl, hg1, hb1, hx1⟩)
  all_goals (refine Go ?_)
  skip))
  all_goals (first | (fail_if_success refine goB 10 ?_) | (
  refine goB 10 ?_
  all_goals (refine WC.sr ?_)
  all_goals (refine Go ?_)
  all_goals (refine Gs [(1, _), (2, _), (5, _), (13, _), (38, _)] ?_)
  all_goals (refine goC 11 12 ?_ ?_ <;> first | exact ⟨⟩ | refine Hb.mk fun hb => ?_ | skip)
  all_goals (first | (fail_if_success refine goB 12 ?_) | (
  refine goB 12 ?_
  all_goals (refine WC.sr ?_)
  all_goals (refine Go ?_)
  all_goals (refine goC 13 14 ?_ ?_ <;> first | exact ⟨⟩ | refine Hb.mk fun hb => ?_ | skip)
  all_goals (first | (fail_if_success refine goB 14 ?_) | (
  refine goB 14 ?_
  all_goals (refine WC.sr ?_)
  all_goals (refine Go ?_)
  all_goals (refine Gs [(1, _), (2, _), (5, _), (13, _), (48, _)] ?_)
  all_goals (refine goC 15 16 ?_ ?_ <;> first | exact ⟨⟩ | refine Hb.mk fun hb => ?_ | skip)
  all_goals (first | (fail_if_success refine goB 16 ?_) | (
  refine goB 16 ?_
  all_goals (refine WC.sr ?_)
  all_goals (refine Go ?_)
  all_goals (refine goC 17 18 ?_ ?_ <;> first | exact ⟨⟩ | refine Hb.mk fun hb => ?_ | skip)
  all_goals (first | (fail_if_success refine goB 18 ?_) | (
  refine goB 18 ?_
  all_goals (refine WC.seq ?_)
  all_goals (refine WC.sr ?_)
  all_goals (refine Go ?_)
  all_goals (refine Gs [(1, _), (2, _), (5, _), (13, _), (58, _)] ?_)
  all_goals (refine goC 19 20 ?_ ?_ <;> first | exact ⟨⟩ | refine Hb.mk fun hb => ?_ | skip)
  all_goals (first | (fail_if_success refine goB 19 ?_) | (
  refine goB 19 ?_
  all_goals (refine WC.skip ?_)
  skip))
  all_goals (first | (fail_if_success refine goB 20 ?_) | (
  refine goB 20 ?_
  all_goals (refine WC.region ?_)
  all_goals (refine Go ?_)
  skip))
  all_goals (refine Gn ?_)
  all_goals (refine goC 21 22 ?_ ?_ <;> first | exact ⟨⟩ | refine Hb.mk fun hb => ?_ | skip)
  all_goals (first | (fail_if_success refine goB 21 ?_) | (
  refine goB 21 ?_
  all_goals (refine WC.region ?_)
  all_goals (refine Go ?_)
  all_goals (refine WL.ld rfl (by first | exact cell_blk hb13 rfl | assumption | exact cell_blk (by assumption) rfl) rfl rfl rfl ?_)
  all_goals (refine WL.call (vs := [_]) rfl (fun a w => Tryz.call118 a w) rfl (told07 lf (hrf.ext0 hX3) md4 hF) rfl rfl rfl ?_
             rintro v6 h6 ⟨o6, x6, hf6⟩)
  all_goals (refine Go ?_)
  skip))
  all_goals (first | (fail_if_success refine goB 22 ?_) | (
  refine goB 22 ?_
  all_goals (refine WC.skip ?_)
  skip))
  skip))
  skip))
  skip))
  skip))
  skip))
  skip))
  skip))
  skip))
  all_goals (refine Gn ?_)
  all_goals (refine WC.sr ?_)
  all_goals (have hb16 := x6.obj hb13 nos
             have hb26 := x6.obj hb23 nos
             obtain ⟨A6, c6, e6, _⟩ := o6.slice
             have hO := o6
             try rw [e6] at hO
             subst e6)
  all_goals (refine WL.step (ok_fieldAddr rfl Tryz.underlying29 rfl (fun w => Tryz.sizeOf5 w)) rfl rfl rfl ?_)
  all_goals (refine WL.ld rfl (by first | exact cell_blk hb16 rfl | assumption | exact cell_blk (by assumption) rfl) rfl rfl rfl ?_)
  all_goals (refine Go ?_)
  all_goals (refine WL.step (ok_buildF (vs := [_, _]) (cs := [_, _]) (fun | [a0, a1] => [a0, a1] | _ => []) rfl rfl (by kernel_rfl)) rfl rfl rfl ?_)
  all_goals (refine WL.stepR0 (okE_storeW (fun w => Tryz.sizeOf50 w) rfl rfl rfl hb26 rfl (by simp [Value.oneCell'])) rfl rfl ?_
             rintro _ h7 ⟨hb7, hx7⟩)
  all_goals (refine Go ?_)
  all_goals (refine Gs [(2, _), (3, _)] ?_)
  all_goals (refine WC.ret ?_)
  all_goals (repeat' (with_reducible first | refine thenP_r ?_ | refine blockP_r ?_))
  all_goals (refine retP_2 _ _ ⟨⟨_, rfl, ld_blk (fun w => Tryz.isAgg50 w) (fun w => Tryz.sizeOf50 w) hb7 rfl⟩, rfl, trivial⟩ ?_)
  all_goals (exact ⟨_, rfl, o6.ext hx7 (fun q hq e => by obtain ⟨_, z⟩ := own_kind o6 hq; rw [e, hb26] at z; simp at z), (hX3.trans x6).trans' hx7 (fun q hq e => by have := hx1.size; omega)⟩)
set_option maxHeartbeats 4000000 in
set_option maxRecDepth 100000 in
theorem encQ_78 {h : Heap} (b : Bk) (hb : b.ok h) (hw : b.wf) (hmd : b.mid) (hmay : b.may) (hk : b.kind = 78) :
    CallsH Tryz.prog 49 ⟨[.agg ⟨b.cells⟩]⟩ h fun u h' => ∃ v', u = .tuple ⟨[.agg ⟨[.int .u8 78, v']⟩, In 0]⟩ ∧ Own h' v' 5 1 (encBk b).length (bys (encBk b)) ∧ Ext No h h' := by
  have kc := fun h' (hx : Ext No h h') => checkA07 b (hb.ext0 hx) hw.kind hmd
  have hL : encBk b = encF b.fields ++ [0] := by simp [encBk, hk]
  rw [hL]
  clear hL
  have hst := hw.status
  obtain ⟨md1, md2, md3, md4, md5, md6, md7, md8, md9, md10⟩ := hmd
  have m_c := hmay.cols.2
  have m_o := hmay.oids.2
  have m_n := hmay.n
  have m_m := hmay.m
  have m_r := hmay.row.2
  have hF : ∀ f ∈ b.fields, f.t.length ≤ 200000 ∧ 0 ≤ f.k ∧ f.k ≤ 255 := fun f hf => ⟨md7 f hf, hw.codes f hf⟩
  clear hw
  obtain ⟨ho, hc, hr, hf⟩ := hb
  obtain ⟨k, st, t, n, v, x, y, vo, lo, vc, lc, vr, lr, vf, lf⟩ := b
  dsimp only at hk hst ho hc hr hf md1 md2 md3 md4 md5 md6 md7 md8 md9 md10 m_c m_o m_n m_m m_r hF ⊢
  have hro := ho.1
  have hrc := hc.1
  have hrr := hr.1
  have hrf := hf.1
  obtain ⟨Ao, co, rfl, _⟩ := id hro
  obtain ⟨Ac, cc, rfl, _⟩ := id hrc
  obtain ⟨Ar, cr, rfl, _⟩ := id hrr
  obtain ⟨Af, cf, rfl, _⟩ := id hrf
  dsimp only [Bk.cells] at kc ⊢
  subst hk
  refine calls [(0, _)] Tryz.func49 rfl Tryz.ntmps49 rfl ⟨rfl, trivial⟩ ?_
  all_goals (refine WC.sr ?_)
  all_goals (refine WL.stepR (okE_box rfl) rfl rfl rfl ?_
             rintro _ h1 ⟨b1, rfl, hg1, hb1, hx1⟩)
  all_goals (refine WL.stepR (okE_alloc (fun w => Tryz.zeroValue50 w)) rfl rfl rfl ?_
             rintro _ h2 ⟨b2, rfl, hg2, hb2, hx2⟩)
  all_goals (have hX2 := hx1.trans hx2
             have hb12 := hx2.obj hb1 nos)
  all_goals (refine Go ?_)
  all_goals (refine WC.seq ?_)
  all_goals (refine WC.sr ?_)
  all_goals (refine WL.step (ok_loadN (fun w => Tryz.isAgg29 w) (fun w => Tryz.sizeOf29 w) rfl rfl (by exact At.of_block hb12)) rfl rfl rfl ?_)
  all_goals (refine WL.call (vs := [_]) rfl (fun a w => Tryz.call112 a w) rfl (kc _ hX2) rfl rfl rfl ?_
             rintro _ h3 ⟨⟨e, rfl, he⟩, hx3⟩
             obtain rfl := he.2 hmay)
  all_goals (have hb13 := hx3.obj hb12 nos
             have hb23 := hx3.obj hb2 nos
             have hX3 := hX2.trans hx3
             have l1 := lt_of_some hb13
             have l2 := lt_of_some hb23)
  all_goals (refine Go ?_)
  all_goals (refine Gs [(1, _), (2, _), (4, _)] ?_)
  all_goals (refine WC.sr ?_)
  all_goals (refine Go ?_)
  all_goals (refine goC 1 2 ?_ ?_ <;> first | exact ⟨⟩ | refine Hb.mk fun hb => ?_ | skip)
  all_goals (first | (fail_if_success refine goB 1 ?_) | (
  refine goB 1 ?_
  all_goals (refine WC.sr ?_)
  all_goals (refine WL.step (ok_buildF (vs := []) (cs := [_, _]) (fun | [] => [(.int .u8 0), (.slice none 0 0)] | _ => []) rfl rfl (by kernel_rfl)) rfl rfl rfl ?_)
  all_goals (refine Go ?_)
  all_goals (refine WL.stepR0 (okE_storeW (fun w => Tryz.sizeOf50 w) rfl rfl rfl (by assumption) rfl (by simp [Value.oneCell'])) rfl rfl ?_
             rintro _ h1 ⟨hb1, hx1⟩)
  all_goals (refine Go ?_)
  all_goals (refine Gs [(2, _), (3, _)] ?_)
  all_goals (refine WC.ret ?_)
  all_goals (repeat' (with_reducible first | refine thenP_r ?_ | refine blockP_r ?_))
  all_goals (refine retP_2 _ _ ⟨⟨_, rfl, ld_blk (fun w => Tryz.isAgg50 w) (fun w => Tryz.sizeOf50 w) hb7 rfl⟩, rfl, trivial⟩ ?_)
  all_goals (exact ⟨_, rfl, o6.ext hx7 (fun q hq e => by obtain ⟨_, z⟩ := own_kind o6 hq; rw [e, hb26] at z; simp at z), (hX3.trans x6).trans' hx7 (fun q hq e => by have := hx1.size; omega)⟩)
  skip))
  all_goals (first | (fail_if_success refine goB 2 ?_) | (
  refine goB 2 ?_
  all_goals (refine WC.skip ?_)
  skip))
  all_goals (refine Gn ?_)
  all_goals (refine WC.sr ?_)
  all_goals (refine Go ?_)
  all_goals (refine WC.seq ?_)
  all_goals (refine WC.sr ?_)
  all_goals (refine Go ?_)
  all_goals (refine WL.ld rfl (by first | exact cell_blk hb13 rfl | assumption | exact cell_blk (by assumption) rfl) rfl rfl rfl ?_)
  all_goals (refine Gn ?_)
  all_goals (refine Gs [(1, _), (2, _), (5, _), (13, _)] ?_)
  all_goals (refine WC.block ?_)
  all_goals (refine WC.sr ?_)
  all_goals (refine Go ?_)
  all_goals (refine goC 3 4 ?_ ?_ <;> first | exact ⟨⟩ | refine Hb.mk fun hb => ?_ | skip)
  all_goals (first | (fail_if_success refine goB 4 ?_) | (
  refine goB 4 ?_
  all_goals (refine WC.sr ?_)
  all_goals (refine Go ?_)
  all_goals (refine goC 5 6 ?_ ?_ <;> first | exact ⟨⟩ | refine Hb.mk fun hb => ?_ | skip)
  all_goals (first | (fail_if_success refine goB 6 ?_) | (
  refine goB 6 ?_
  all_goals (refine WC.sr ?_)
  all_goals (refine Go ?_)
  all_goals (refine Gs [(1, _), (2, _), (5, _), (13, _), (25, _)] ?_)
  all_goals (refine goC 7 8 ?_ ?_ <;> first | exact ⟨⟩ | refine Hb.mk fun hb => ?_ | skip)
  all_goals (first | (fail_if_success refine goB 8 ?_) | (
  refine goB 8 ?_
  all_goals (refine WC.sr ?_)
  all_goals (refine Go ?_)
  all_goals (refine goC 9 10 ?_ ?_ <;> first | exact ⟨⟩ | refine Hb.mk fun hb => ?_ | skip)
  all_goals (first | (fail_if_success refine goB 9 ?_) | (
  refine goB 9 ?_
  all_goals (refine WC.region ?_)
  all_goals (refine Go ?_)
  all_goals (refine Ld ?_)
  all_goals (refine WL.stepR (okE_buildSlice (vs := [_]) (cs := [_]) (fun | [a0] => [a0] | _ => []) Tryz.underlying43 rfl rfl (by kernel_rfl)) rfl rfl rfl ?_
             rintro _ h1 ⟨b1, rfl, hg1, hb1, hx1⟩)
  all_goals (refine Go ?_)
  skip))
  all_goals (first | (fail_if_success refine goB 10 ?_) | (
  refine goB 10 ?_
  all_goals (refine WC.sr ?_)
  all_goals (refine Go ?_)
  all_goals (refine Gs [(1, _), (2, _), (5, _), (13, _), (38, _)] ?_)
  all_goals (refine goC 11 12 ?_ ?_ <;> first | exact ⟨⟩ | refine Hb.mk fun hb => ?_ | skip)
  all_goals (first | (fail_if_success refine goB 12 ?_) | (
  refine goB 12 ?_
  all_goals (refine WC.sr ?_)
  all_goals (refine Go ?_)
  all_goals (refine goC 13 14 ?_ ?_ <;> first | exact ⟨⟩ | refine Hb.mk fun hb => ?_ | skip)
  all_goals (first | (fail_if_success refine goB 14 ?_) | (
  refine goB 14 ?_
  all_goals (refine WC.sr ?_)
  all_goals (refine Go ?_)
  all_goals (refine Gs [(1, _), (2, _), (5, _), (13, _), (48, _)] ?_)
  all_goals (refine goC 15 16 ?_ ?_ <;> first | exact ⟨⟩ | refine Hb.mk fun hb => ?_ | skip)
  all_goals (first | (fail_if_success refine goB 16 ?_) | (
  refine goB 16 ?_
  all_goals (refine WC.sr ?_)
  all_goals (refine Go ?_)
  all_goals (refine goC 17 18 ?_ ?_ <;> first | exact ⟨⟩ | refine Hb.mk fun hb => ?_ | skip)
  all_goals (first | (fail_if_success refine goB 18 ?_) | (
  refine goB 18 ?_
  all_goals (refine WC.seq ?_)
  all_goals (refine WC.sr ?_)
  all_goals (refine Go ?_)
  all_goals (refine Gs [(1, _), (2, _), (5, _), (13, _), (58, _)] ?_)
  all_goals (refine goC 19 20 ?_ ?_ <;> first | exact ⟨⟩ | refine Hb.mk fun hb => ?_ | skip)
  all_goals (first | (fail_if_success refine goB 19 ?_) | (
  refine goB 19 ?_
  all_goals (refine WC.skip ?_)
  skip))
  all_goals (first | (fail_if_success refine goB 20 ?_) | (
  refine goB 20 ?_
  all_goals (refine WC.region ?_)
  all_goals (refine Go ?_)
  skip))
  all_goals (refine Gn ?_)
  all_goals (refine goC 21 22 ?_ ?_ <;> first | exact ⟨⟩ | refine Hb.mk fun hb => ?_ | skip)
  all_goals (first | (fail_if_success refine goB 21 ?_) | (
  refine goB 21 ?_
  all_goals (refine WC.region ?_)
  all_goals (refine Go ?_)
  all_goals (refine WL.ld rfl (by first | exact cell_blk hb13 rfl | assumption | exact cell_blk (by assumption) rfl) rfl rfl rfl ?_)
  all_goals (refine WL.call (vs := [_]) rfl (fun a w => Tryz.call118 a w) rfl (told07 lf (hrf.ext0 hX3) md4 hF) rfl rfl rfl ?_
             rintro v6 h6 ⟨o6, x6, hf6⟩)
  all_goals (refine Go ?_)
  skip))
  all_goals (first | (fail_if_success refine goB 22 ?_) | (
  refine goB 22 ?_
  all_goals (refine WC.skip ?_)
  skip))
  skip))
  skip))
  skip))
  skip))
  skip))
  skip))
  skip))
  skip))
  all_goals (refine Gn ?_)
  all_goals (refine WC.sr ?_)
  all_goals (have hb16 := x6.obj hb13 nos
             have hb26 := x6.obj hb23 nos
             obtain ⟨A6, c6, e6, _⟩ := o6.slice
             have hO := o6
             try rw [e6] at hO
             subst e6)
  all_goals (refine WL.step (ok_fieldAddr rfl Tryz.underlying29 rfl (fun w => Tryz.sizeOf5 w)) rfl rfl rfl ?_)
  all_goals (refine WL.ld rfl (by first | exact cell_blk hb16 rfl | assumption | exact cell_blk (by assumption) rfl) rfl rfl rfl ?_)
  all_goals (refine Go ?_)
  all_goals (refine WL.step (ok_buildF (vs := [_, _]) (cs := [_, _]) (fun | [a0, a1] => [a0, a1] | _ => []) rfl rfl (by kernel_rfl)) rfl rfl rfl ?_)
  all_goals (refine WL.stepR0 (okE_storeW (fun w => Tryz.sizeOf50 w) rfl rfl rfl hb26 rfl (by simp [Value.oneCell'])) rfl rfl ?_
             rintro _ h7 ⟨hb7, hx7⟩)
  all_goals (refine Go ?_)
  all_goals (refine Gs [(2, _), (3, _)] ?_)
  all_goals (refine WC.ret ?_)
  all_goals (repeat' (with_reducible first | refine thenP_r ?_ | refine blockP_r ?_))
  all_goals (refine retP_2 _ _ ⟨⟨_, rfl, ld_blk (fun w => Tryz.isAgg50 w) (fun w => Tryz.sizeOf50 w) hb7 rfl⟩, rfl, trivial⟩ ?_)
  all_goals (exact ⟨_, rfl, o6.ext hx7 (fun q hq e => by obtain ⟨_, z⟩ := own_kind o6 hq; rw [e, hb26] at z; simp at z), (hX3.trans x6).trans' hx7 (fun q hq e => by have := hx1.size; omega)⟩)
set_option maxHeartbeats 4000000 in
set_option maxRecDepth 100000 in
theorem encQ_0 {h : Heap} (b : Bk) (hb : b.ok h) (hw : b.wf) (hmd : b.mid) (hmay : b.may) (hk : (b.kind = 49 ∨ b.kind = 50 ∨ b.kind = 51 ∨ b.kind = 110 ∨ b.kind = 115 ∨ b.kind = 73)) :
    CallsH Tryz.prog 49 ⟨[.agg ⟨b.cells⟩]⟩ h fun u h' => ∃ v', u = .tuple ⟨[.agg ⟨[.int .u8 b.kind, v']⟩, In 0]⟩ ∧ Own h' v' 5 1 (encBk b).length (bys (encBk b)) ∧ Ext No h h' := by
  have kc := fun h' (hx : Ext No h h') => checkA07 b (hb.ext0 hx) hw.kind hmd
  have hL : encBk b = [] := by rcases hk with hk | hk | hk | hk | hk | hk <;> simp [encBk, hk]
  rw [hL]
  clear hL
  have hst := hw.status
  obtain ⟨md1, md2, md3, md4, md5, md6, md7, md8, md9, md10⟩ := hmd
  have m_c := hmay.cols.2
  have m_o := hmay.oids.2
  have m_n := hmay.n
  have m_m := hmay.m
  have m_r := hmay.row.2
  have hF : ∀ f ∈ b.fields, f.t.length ≤ 200000 ∧ 0 ≤ f.k ∧ f.k ≤ 255 := fun f hf => ⟨md7 f hf, hw.codes f hf⟩
  clear hw
  obtain ⟨ho, hc, hr, hf⟩ := hb
  obtain ⟨k, st, t, n, v, x, y, vo, lo, vc, lc, vr, lr, vf, lf⟩ := b
  dsimp only at hk hst ho hc hr hf md1 md2 md3 md4 md5 md6 md7 md8 md9 md10 m_c m_o m_n m_m m_r hF ⊢
  have hro := ho.1
  have hrc := hc.1
  have hrr := hr.1
  have hrf := hf.1
  obtain ⟨Ao, co, rfl, _⟩ := id hro
  obtain ⟨Ac, cc, rfl, _⟩ := id hrc
  obtain ⟨Ar, cr, rfl, _⟩ := id hrr
  obtain ⟨Af, cf, rfl, _⟩ := id hrf
  dsimp only [Bk.cells] at kc ⊢
  rcases hk with rfl | rfl | rfl | rfl | rfl | rfl
  all_goals
    refine calls [(0, _)] Tryz.func49 rfl Tryz.ntmps49 rfl ⟨rfl, trivial⟩ ?_
    all_goals (refine WC.sr ?_)
    all_goals (refine WL.stepR (okE_box rfl) rfl rfl rfl ?_
               rintro _ h1 ⟨b1, rfl, hg1, hb1, hx1⟩)
    all_goals (refine WL.stepR (okE_alloc (fun w => Tryz.zeroValue50 w)) rfl rfl rfl ?_
               rintro _ h2 ⟨b2, rfl, hg2, hb2, hx2⟩)
    all_goals (have hX2 := hx1.trans hx2
               have hb12 := hx2.obj hb1 nos)
    all_goals (refine Go ?_)
    all_goals (refine WC.seq ?_)
    all_goals (refine WC.sr ?_)
    all_goals (refine WL.step (ok_loadN (fun w => Tryz.isAgg29 w) (fun w => Tryz.sizeOf29 w) rfl rfl (by exact At.of_block hb12)) rfl rfl rfl ?_)
    all_goals (refine WL.call (vs := [_]) rfl (fun a w => Tryz.call112 a w) rfl (kc _ hX2) rfl rfl rfl ?_
               rintro _ h3 ⟨⟨e, rfl, he⟩, hx3⟩
               obtain rfl := he.2 hmay)
    all_goals (have hb13 := hx3.obj hb12 nos
               have hb23 := hx3.obj hb2 nos
               have hX3 := hX2.trans hx3
               have l1 := lt_of_some hb13
               have l2 := lt_of_some hb23)
    all_goals (refine Go ?_)
    all_goals (refine Gs [(1, _), (2, _), (4, _)] ?_)
    all_goals (refine WC.sr ?_)
    all_goals (refine Go ?_)
    all_goals (refine goC 1 2 ?_ ?_ <;> first | exact ⟨⟩ | refine Hb.mk fun hb => ?_ | skip)
    all_goals (first | (fail_if_success refine goB 1 ?_) | (
    refine goB 1 ?_
    all_goals (refine WC.sr ?_)
    all_goals (refine WL.step (ok_buildF (vs := []) (cs := [_, _]) (fun | [] => [(.int .u8 0), (.slice none 0 0)] | _ => []) rfl rfl (by kernel_rfl)) rfl rfl rfl ?_)
    all_goals (refine Go ?_)
    all_goals (refine WL.stepR0 (okE_storeW (fun w => Tryz.sizeOf50 w) rfl rfl rfl (by assumption) rfl (by simp [Value.oneCell'])) rfl rfl ?_
               rintro _ h1 ⟨hb1, hx1⟩)
    all_goals (refine Go ?_)
    all_goals (refine Gs [(2, _), (3, _)] ?_)
    all_goals (refine WC.ret ?_)
    all_goals (repeat' (with_reducible first | refine thenP_r ?_ | refine blockP_r ?_))
    all_goals (refine retP_2 _ _ ⟨⟨_, rfl, ld_blk (fun w => Tryz.isAgg50 w) (fun w => Tryz.sizeOf50 w) hb7 rfl⟩, rfl, trivial⟩ ?_)
    all_goals (exact ⟨_, rfl, o6.ext hx7 (fun q hq e => by obtain ⟨_, z⟩ := own_kind o6 hq; rw [e, hb26] at z; simp at z), (hX3.trans x6).trans' hx7 (fun q hq e => by have := hx1.size; omega)⟩)
    skip))
    all_goals (first | (fail_if_success refine goB 2 ?_) | (
    refine goB 2 ?_
    all_goals (refine WC.skip ?_)
    skip))
    all_goals (refine Gn ?_)
    all_goals (refine WC.sr ?_)
    all_goals (refine Go ?_)
    all_goals (refine WC.seq ?_)
    all_goals (refine WC.sr ?_)
    all_goals (refine Go ?_)
    all_goals (refine WL.ld rfl (by first | exact cell_blk hb13 rfl | assumption | exact cell_blk (by assumption) rfl) rfl rfl rfl ?_)
    all_goals (have x6 := Ext.refl No h3
               have o6 := Own.nil h3 5 1)
    all_goals (refine Gn ?_)
    all_goals (refine Gs [(1, _), (2, _), (5, _), (13, _)] ?_)
    all_goals (refine WC.block ?_)
    all_goals (refine WC.sr ?_)
    all_goals (refine Go ?_)
    all_goals (refine goC 3 4 ?_ ?_ <;> first | exact ⟨⟩ | refine Hb.mk fun hb => ?_ | skip)
    all_goals (first | (fail_if_success refine goB 4 ?_) | (
    refine goB 4 ?_
    all_goals (refine WC.sr ?_)
    all_goals (refine Go ?_)
    all_goals (refine goC 5 6 ?_ ?_ <;> first | exact ⟨⟩ | refine Hb.mk fun hb => ?_ | skip)
    all_goals (first | (fail_if_success refine goB 6 ?_) | (
    refine goB 6 ?_
    all_goals (refine WC.sr ?_)
    all_goals (refine Go ?_)
    all_goals (refine Gs [(1, _), (2, _), (5, _), (13, _), (25, _)] ?_)
    all_goals (refine goC 7 8 ?_ ?_ <;> first | exact ⟨⟩ | refine Hb.mk fun hb => ?_ | skip)
    all_goals (first | (fail_if_success refine goB 8 ?_) | (
    refine goB 8 ?_
    all_goals (refine WC.sr ?_)
    all_goals (refine Go ?_)
    all_goals (refine goC 9 10 ?_ ?_ <;> first | exact ⟨⟩ | refine Hb.mk fun hb => ?_ | skip)
    all_goals (first | (fail_if_success refine goB 9 ?_) | (
    refine goB 9 ?_
    all_goals (refine WC.region ?_)
    all_goals (refine Go ?_)
    all_goals (refine Ld ?_)
    all_goals (refine WL.stepR (okE_buildSlice (vs := [_]) (cs := [_]) (fun | [a0] => [a0] | _ => []) Tryz.underlying43 rfl rfl (by kernel_rfl)) rfl rfl rfl ?_
               rintro _ h1 ⟨b1, rfl, hg1, hb1, hx1⟩)
    all_goals (refine Go ?_)
    skip))
    all_goals (first | (fail_if_success refine goB 10 ?_) | (
    refine goB 10 ?_
    all_goals (refine WC.sr ?_)
    all_goals (refine Go ?_)
    all_goals (refine Gs [(1, _), (2, _), (5, _), (13, _), (38, _)] ?_)
    all_goals (refine goC 11 12 ?_ ?_ <;> first | exact ⟨⟩ | refine Hb.mk fun hb => ?_ | skip)
    all_goals (first | (fail_if_success refine goB 12 ?_) | (
    refine goB 12 ?_
    all_goals (refine WC.sr ?_)
    all_goals (refine Go ?_)
    all_goals (refine goC 13 14 ?_ ?_ <;> first | exact ⟨⟩ | refine Hb.mk fun hb => ?_ | skip)
    all_goals (first | (fail_if_success refine goB 14 ?_) | (
    refine goB 14 ?_
    all_goals (refine WC.sr ?_)
    all_goals (refine Go ?_)
    all_goals (refine Gs [(1, _), (2, _), (5, _), (13, _), (48, _)] ?_)
    all_goals (refine goC 15 16 ?_ ?_ <;> first | exact ⟨⟩ | refine Hb.mk fun hb => ?_ | skip)
    all_goals (first | (fail_if_success refine goB 16 ?_) | (
    refine goB 16 ?_
    all_goals (refine WC.sr ?_)
    all_goals (refine Go ?_)
    all_goals (refine goC 17 18 ?_ ?_ <;> first | exact ⟨⟩ | refine Hb.mk fun hb => ?_ | skip)
    all_goals (first | (fail_if_success refine goB 18 ?_) | (
    refine goB 18 ?_
    all_goals (refine WC.seq ?_)
    all_goals (refine WC.sr ?_)
    all_goals (refine Go ?_)
    all_goals (refine Gs [(1, _), (2, _), (5, _), (13, _), (58, _)] ?_)
    all_goals (refine goC 19 20 ?_ ?_ <;> first | exact ⟨⟩ | refine Hb.mk fun hb => ?_ | skip)
    all_goals (first | (fail_if_success refine goB 19 ?_) | (
    refine goB 19 ?_
    all_goals (refine WC.skip ?_)
    skip))
    all_goals (first | (fail_if_success refine goB 20 ?_) | (
    refine goB 20 ?_
    all_goals (refine WC.region ?_)
    all_goals (refine Go ?_)
    skip))
    all_goals (refine Gn ?_)
    all_goals (refine goC 21 22 ?_ ?_ <;> first | exact ⟨⟩ | refine Hb.mk fun hb => ?_ | skip)
    all_goals (first | (fail_if_success refine goB 22 ?_) | (
    refine goB 22 ?_
    all_goals (refine WC.skip ?_)
    skip))
    skip))
    skip))
    skip))
    skip))
    skip))
    skip))
    skip))
    skip))
    all_goals (refine Gn ?_)
    all_goals (refine WC.sr ?_)
    all_goals (have hb16 := x6.obj hb13 nos
               have hb26 := x6.obj hb23 nos
               obtain ⟨A6, c6, e6, _⟩ := o6.slice
               have hO := o6
               try rw [e6] at hO)
    all_goals (refine WL.step (ok_fieldAddr rfl Tryz.underlying29 rfl (fun w => Tryz.sizeOf5 w)) rfl rfl rfl ?_)
    all_goals (refine WL.ld rfl (by first | exact cell_blk hb16 rfl | assumption | exact cell_blk (by assumption) rfl) rfl rfl rfl ?_)
    all_goals (refine Go ?_)
    all_goals (refine WL.step (ok_buildF (vs := [_, _]) (cs := [_, _]) (fun | [a0, a1] => [a0, a1] | _ => []) rfl rfl (by kernel_rfl)) rfl rfl rfl ?_)
    all_goals (refine WL.stepR0 (okE_storeW (fun w => Tryz.sizeOf50 w) rfl rfl rfl hb26 rfl (by simp [Value.oneCell'])) rfl rfl ?_
               rintro _ h7 ⟨hb7, hx7⟩)
    all_goals (refine Go ?_)
    all_goals (refine Gs [(2, _), (3, _)] ?_)
    all_goals (refine WC.ret ?_)
    all_goals (repeat' (with_reducible first | refine thenP_r ?_ | refine blockP_r ?_))
    all_goals (refine retP_2 _ _ ⟨⟨_, rfl, ld_blk (fun w => Tryz.isAgg50 w) (fun w => Tryz.sizeOf50 w) hb7 rfl⟩, rfl, trivial⟩ ?_)
    all_goals (exact ⟨_, rfl, o6.ext hx7 (fun q hq e => by obtain ⟨_, z⟩ := own_kind o6 hq; rw [e, hb26] at z; simp at z), (hX3.trans x6).trans' hx7 (fun q hq e => by have := hx1.size; omega)⟩)
end Go.Proofs.YtinjbljnbiiloaaGreatDoor


/-
  REPLIES (layer 7): what the document's Encode gives of any reply of middling size (FxT.w without the code's part); a reply as a message (law 40).
-/
namespace Go.Proofs.YtinjbljnbiiloaaGreatDoor
open Go Go.RK

set_option maxHeartbeats 4000000 in
set_option maxRecDepth 100000 in
theorem encN_07 {h : Heap} (b : Bk) (hb : b.ok h) (hw : b.wf) (hmd : b.mid) (hmay : ¬ b.may) :
    CallsH Tryz.prog 49 ⟨[.agg ⟨b.cells⟩]⟩ h fun u h' => ∃ e, u = .tuple ⟨[.agg ⟨[.int .u8 0, nilV]⟩, In e]⟩ ∧ e ≠ 0 ∧ Ext No h h' := by
  have kc := fun h' (hx : Ext No h h') => checkA07 b (hb.ext0 hx) hw.kind hmd
  obtain ⟨k, st, t, n, v, x, y, vo, lo, vc, lc, vr, lr, vf, lf⟩ := b
  dsimp only [Bk.cells] at kc ⊢
  refine calls [(0, _)] Tryz.func49 rfl Tryz.ntmps49 rfl ⟨rfl, trivial⟩ ?_
  all_goals (refine WC.sr ?_)
  all_goals (refine WL.stepR (okE_box rfl) rfl rfl rfl ?_
             rintro _ h1 ⟨b1, rfl, hg1, hb1, hx1⟩)
  all_goals (refine WL.stepR (okE_alloc (fun w => Tryz.zeroValue50 w)) rfl rfl rfl ?_
             rintro _ h2 ⟨b2, rfl, hg2, hb2, hx2⟩)
  all_goals (have hX2 := hx1.trans hx2
             have hb12 := hx2.obj hb1 nos)
  all_goals (refine Go ?_)
  all_goals (refine WC.seq ?_)
  all_goals (refine WC.sr ?_)
  all_goals (refine WL.step (ok_loadN (fun w => Tryz.isAgg29 w) (fun w => Tryz.sizeOf29 w) rfl rfl (by exact At.of_block hb12)) rfl rfl rfl ?_)
  all_goals (refine WL.call (vs := [_]) rfl (fun a w => Tryz.call112 a w) rfl (kc _ hX2) rfl rfl rfl ?_
             rintro _ h3 ⟨⟨e, rfl, he⟩, hx3⟩
             have hne : e ≠ 0 := fun z => hmay (he.1 z))
  all_goals (have hb23 := hx3.obj hb2 nos)
  all_goals (refine Go ?_)
  all_goals (refine Gs [(1, _), (2, _), (4, _)] ?_)
  all_goals (refine WC.sr ?_)
  all_goals (refine Go ?_)
  all_goals (refine goC 1 2 ?_ ?_ <;> first | exact ⟨⟩ | refine Hb.mk fun hb => ?_ | skip)
  all_goals (first | (fail_if_success refine goB 1 ?_) | (
  refine goB 1 ?_
  all_goals (refine WC.sr ?_)
  all_goals (refine WL.step (ok_buildF (vs := []) (cs := [_, _]) (fun | [] => [(.int .u8 0), (.slice none 0 0)] | _ => []) rfl rfl (by kernel_rfl)) rfl rfl rfl ?_)
  all_goals (refine Go ?_)
  all_goals (refine WL.stepR0 (okE_storeW (fun w => Tryz.sizeOf50 w) rfl rfl rfl hb23 rfl (by simp [Value.oneCell'])) rfl rfl ?_
             rintro _ h4 ⟨hb4, hx4⟩)
  all_goals (refine Go ?_)
  all_goals (refine Gs [(2, _), (3, _)] ?_)
  all_goals (refine WC.ret ?_)
  all_goals (repeat' (with_reducible first | refine thenP_r ?_ | refine blockP_r ?_))
  all_goals (refine retP_2 _ _ ⟨⟨_, rfl, ld_blk (fun w => Tryz.isAgg50 w) (fun w => Tryz.sizeOf50 w) hb4 rfl⟩, rfl, trivial⟩ ?_)
  all_goals (exact ⟨_, rfl, hne, (hX2.trans hx3).trans' hx4 (fun q hq e => by have := hx1.size; omega)⟩)
  skip))
  all_goals (first | (fail_if_success refine goB 2 ?_) | (
  refine goB 2 ?_
  all_goals (refine WC.skip ?_)
  skip))
  all_goals (refine Gn ?_)
  all_goals (refine WC.sr ?_)
  all_goals (refine Go ?_)
  all_goals (refine WC.seq ?_)
  all_goals (refine WC.sr ?_)
  all_goals (refine Go ?_)
  all_goals (refine Ld ?_)
  all_goals (refine Gn ?_)
  all_goals (refine Gs [(1, _), (2, _), (5, _), (13, _)] ?_)
  all_goals (refine WC.block ?_)
  all_goals (refine WC.sr ?_)
  all_goals (refine Go ?_)
  all_goals (refine goC 3 4 ?_ ?_ <;> first | exact ⟨⟩ | refine Hb.mk fun hb => ?_ | skip)
  all_goals (first | (fail_if_success refine goB 4 ?_) | (
  refine goB 4 ?_
  all_goals (refine WC.sr ?_)
  all_goals (refine Go ?_)
  all_goals (refine goC 5 6 ?_ ?_ <;> first | exact ⟨⟩ | refine Hb.mk fun hb => ?_ | skip)
  all_goals (first | (fail_if_success refine goB 6 ?_) | (
  refine goB 6 ?_
  all_goals (refine WC.sr ?_)
  all_goals (refine Go ?_)
  all_goals (refine Gs [(1, _), (2, _), (5, _), (13, _), (25, _)] ?_)
  all_goals (refine goC 7 8 ?_ ?_ <;> first | exact ⟨⟩ | refine Hb.mk fun hb => ?_ | skip)
  all_goals (first | (fail_if_success refine goB 8 ?_) | (
  refine goB 8 ?_
  all_goals (refine WC.sr ?_)
  all_goals (refine Go ?_)
  all_goals (refine goC 9 10 ?_ ?_ <;> first | exact ⟨⟩ | refine Hb.mk fun hb => ?_ | skip)
  all_goals (first | (fail_if_success refine goB 9 ?_) | (
  refine goB 9 ?_
  all_goals (refine WC.region ?_)
  all_goals (refine Go ?_)
  all_goals (refine Ld ?_)
  all_goals (refine WL.stepR (okE_buildSlice (vs := [_]) (cs := [_]) (fun | [a0] => [a0] | _ => []) Tryz.underlying43 rfl rfl (by kernel_rfl)) rfl rfl rfl ?_
             rintro _ h1 ⟨b1, rfl, hg1, hb1, hx1⟩)
  all_goals (refine Go ?_)
  skip))
  all_goals (first | (fail_if_success refine goB 10 ?_) | (
  refine goB 10 ?_
  all_goals (refine WC.sr ?_)
  all_goals (refine Go ?_)
  all_goals (refine Gs [(1, _), (2, _), (5, _), (13, _), (38, _)] ?_)
  all_goals (refine goC 11 12 ?_ ?_ <;> first | exact ⟨⟩ | refine Hb.mk fun hb => ?_ | skip)
  all_goals (first | (fail_if_success refine goB 12 ?_) | (
  refine goB 12 ?_
  all_goals (refine WC.sr ?_)
  all_goals (refine Go ?_)
  all_goals (refine goC 13 14 ?_ ?_ <;> first | exact ⟨⟩ | refine Hb.mk fun hb => ?_ | skip)
  all_goals (first | (fail_if_success refine goB 14 ?_) | (
  refine goB 14 ?_
  all_goals (refine WC.sr ?_)
  all_goals (refine Go ?_)
  all_goals (refine Gs [(1, _), (2, _), (5, _), (13, _), (48, _)] ?_)
  all_goals (refine goC 15 16 ?_ ?_ <;> first | exact ⟨⟩ | refine Hb.mk fun hb => ?_ | skip)
  all_goals (first | (fail_if_success refine goB 16 ?_) | (
  refine goB 16 ?_
  all_goals (refine WC.sr ?_)
  all_goals (refine Go ?_)
  all_goals (refine goC 17 18 ?_ ?_ <;> first | exact ⟨⟩ | refine Hb.mk fun hb => ?_ | skip)
  all_goals (first | (fail_if_success refine goB 18 ?_) | (
  refine goB 18 ?_
  all_goals (refine WC.seq ?_)
  all_goals (refine WC.sr ?_)
  all_goals (refine Go ?_)
  all_goals (refine Gs [(1, _), (2, _), (5, _), (13, _), (58, _)] ?_)
  all_goals (refine goC 19 20 ?_ ?_ <;> first | exact ⟨⟩ | refine Hb.mk fun hb => ?_ | skip)
  all_goals (first | (fail_if_success refine goB 19 ?_) | (
  refine goB 19 ?_
  all_goals (refine WC.skip ?_)
  skip))
  all_goals (first | (fail_if_success refine goB 20 ?_) | (
  refine goB 20 ?_
  all_goals (refine WC.region ?_)
  all_goals (refine Go ?_)
  skip))
  all_goals (refine Gn ?_)
  all_goals (refine goC 21 22 ?_ ?_ <;> first | exact ⟨⟩ | refine Hb.mk fun hb => ?_ | skip)
  all_goals (first | (fail_if_success refine goB 22 ?_) | (
  refine goB 22 ?_
  all_goals (refine WC.skip ?_)
  skip))
  skip))
  skip))
  skip))
  skip))
  skip))
  skip))
  skip))
  skip))
  all_goals (refine Gn ?_)
  all_goals (refine WC.sr ?_)
  all_goals (refine Go ?_)
  all_goals (refine Ld ?_)
  all_goals (refine Go ?_)
  all_goals (refine WL.step (ok_buildF (vs := [_, _]) (cs := [_, _]) (fun | [a0, a1] => [a0, a1] | _ => []) rfl rfl (by kernel_rfl)) rfl rfl rfl ?_)
  all_goals (refine WL.stepR0 (okE_storeW (fun w => Tryz.sizeOf50 w) rfl rfl rfl (by assumption) rfl (by simp [Value.oneCell'])) rfl rfl ?_
             rintro _ h1 ⟨hb1, hx1⟩)
  all_goals (refine Go ?_)
  all_goals (refine Gs [(2, _), (3, _)] ?_)
  all_goals (refine WC.ret ?_)
  all_goals (repeat' (with_reducible first | refine thenP_r ?_ | refine blockP_r ?_))
  all_goals (refine retP_2 _ _ ⟨⟨_, rfl, ld_blk (fun w => Tryz.isAgg50 w) (fun w => Tryz.sizeOf50 w) hb4 rfl⟩, rfl, trivial⟩ ?_)
  all_goals (exact ⟨_, rfl, hne, (hX2.trans hx3).trans' hx4 (fun q hq e => by have := hx1.size; omega)⟩)
/-- What a call of Encode gives. -/
def EncR (b : Bk) (h : Heap) (u : Value) (h' : Heap) : Prop := (∃ k v e L, u = .tuple ⟨[.agg ⟨[.int .u8 k, v]⟩, In e]⟩ ∧ Own h' v 5 1 L.length (bys L) ∧ ((b.may ∧ e = 0 ∧ k = b.kind ∧ L = encBk b) ∨ (¬ b.may ∧ e ≠ 0))) ∧ Ext No h h'
theorem encR_yes {b : Bk} {h h' : Heap} {u : Value} {k : Int} (hm : b.may) (hk : b.kind = k) : (∃ v', u = .tuple ⟨[.agg ⟨[.int .u8 k, v']⟩, In 0]⟩ ∧ Own h' v' 5 1 (encBk b).length (bys (encBk b)) ∧ Ext No h h') → EncR b h u h' :=
  fun ⟨v, a, o, x⟩ => ⟨⟨_, v, 0, _, a, o, .inl ⟨hm, rfl, hk.symm, rfl⟩⟩, x⟩
theorem encR_no {b : Bk} {h h' : Heap} {u : Value} (hm : ¬ b.may) : (∃ e, u = .tuple ⟨[.agg ⟨[.int .u8 0, nilV]⟩, In e]⟩ ∧ e ≠ 0 ∧ Ext No h h') → EncR b h u h' :=
  fun ⟨e, a, o, x⟩ => ⟨⟨0, nilV, e, [], a, Own.nil _ _ _, .inr ⟨hm, o⟩⟩, x⟩
theorem encodeA07 {h : Heap} (b : Bk) (hb : b.ok h) (hw : b.wf) (hmd : b.mid) : CallsH Tryz.prog 49 ⟨[.agg ⟨b.cells⟩]⟩ h (EncR b h) := by
  by_cases hm : b.may
  · rcases (may_kind hw.kind).1 hm.kind with k | k | k | k | k | k | k | k | k | k | k | k | k | k | k | k
    · exact (encQ_82 b hb hw hmd hm k).mono fun _ _ => encR_yes hm k
    · exact (encQ_83 b hb hw hmd hm k).mono fun _ _ => encR_yes hm k
    · exact (encQ_75 b hb hw hmd hm k).mono fun _ _ => encR_yes hm k
    · exact (encQ_90 b hb hw hmd hm k).mono fun _ _ => encR_yes hm k
    · exact (encQ_0 b hb hw hmd hm (by omega)).mono fun _ _ => encR_yes hm rfl
    · exact (encQ_0 b hb hw hmd hm (by omega)).mono fun _ _ => encR_yes hm rfl
    · exact (encQ_0 b hb hw hmd hm (by omega)).mono fun _ _ => encR_yes hm rfl
    · exact (encQ_0 b hb hw hmd hm (by omega)).mono fun _ _ => encR_yes hm rfl
    · exact (encQ_0 b hb hw hmd hm (by omega)).mono fun _ _ => encR_yes hm rfl
    · exact (encQ_0 b hb hw hmd hm (by omega)).mono fun _ _ => encR_yes hm rfl
    · exact (encQ_67 b hb hw hmd hm k).mono fun _ _ => encR_yes hm k
    · exact (encQ_68 b hb hw hmd hm k).mono fun _ _ => encR_yes hm k
    · exact (encQ_84 b hb hw hmd hm k).mono fun _ _ => encR_yes hm k
    · exact (encQ_116 b hb hw hmd hm k).mono fun _ _ => encR_yes hm k
    · exact (encQ_69 b hb hw hmd hm k).mono fun _ _ => encR_yes hm k
    · exact (encQ_78 b hb hw hmd hm k).mono fun _ _ => encR_yes hm k
  · exact (encN_07 b hb hw hmd hm).mono fun _ _ => encR_no hm
set_option maxHeartbeats 4000000 in
set_option maxRecDepth 100000 in
theorem msg40 {h : Heap} (b : Bk) (hb : b.ok h) (hw : b.wf) (hmd : b.mid) : CallsH Tryz.prog 9 ⟨[.agg ⟨b.cells⟩]⟩ h fun u h' => (∃ k v, u = .agg ⟨[.int .u8 k, v]⟩ ∧ v.oneCell' = true) ∧ Ext No h h' := by
  have ke := fun h' (hx : Ext No h h') => encodeA07 b (hb.ext0 hx) hw hmd
  obtain ⟨k, st, t, n, v, x, y, vo, lo, vc, lc, vr, lr, vf, lf⟩ := b
  dsimp only [Bk.cells] at ke ⊢
  refine calls [(0, _)] Tryz.func9 rfl Tryz.ntmps9 rfl ⟨rfl, trivial⟩ ?_
  all_goals (refine WC.sr ?_)
  all_goals (refine WL.stepR (okE_box rfl) rfl rfl rfl ?_
             rintro _ h1 ⟨b1, rfl, hg1, hb1, hx1⟩)
  all_goals (refine WL.stepR (okE_alloc (fun w => Tryz.zeroValue50 w)) rfl rfl rfl ?_
             rintro _ h2 ⟨b2, rfl, hg2, hb2, hx2⟩)
  all_goals (have hX2 := hx1.trans hx2
             have hb12 := hx2.obj hb1 nos)
  all_goals (refine Gn ?_)
  all_goals (refine WC.sr ?_)
  all_goals (refine WL.step (ok_loadN (fun w => Tryz.isAgg29 w) (fun w => Tryz.sizeOf29 w) rfl rfl (by exact At.of_block hb12)) rfl rfl rfl ?_)
  all_goals (refine WL.call (vs := [_]) rfl (fun a w => Tryz.call49 a w) rfl (ke _ hX2) rfl rfl rfl ?_
             rintro _ h3 ⟨⟨k3, v3, e3, L3, rfl, ho3, hcase⟩, hx3⟩
             obtain ⟨A3, c3, rfl, _⟩ := id ho3.slice)
  all_goals (refine Go ?_)
  all_goals (refine WL.stepR (okE_alloc (fun w => Tryz.zeroValue50 w)) rfl rfl rfl ?_
             rintro _ h4 ⟨b4, rfl, hg4, hb4, hx4⟩)
  all_goals (refine WL.stepR0 (okE_storeW (fun w => Tryz.sizeOf50 w) rfl rfl rfl hb4 rfl (by simp [Value.oneCell'])) rfl rfl ?_
             rintro _ h5 ⟨hb45, hx5⟩)
  all_goals (have hX35 : Ext No h3 h5 := hx4.trans' hx5 (fun q hq e => by omega)
             have hX5 := (hX2.trans hx3).trans hX35
             have hb25 := (hx3.trans hX35).obj hb2 nos
             have hb15 := (hx3.trans hX35).obj hb12 nos
             clear hcase
             have hb2h : h.size ≤ b2 := by have := hx1.size; omega
             cases he : decide (e3 = 0))
  all_goals (refine Go ?_)
  all_goals (refine Gs [(1, _), (2, _), (3, _), (4, _)] ?_)
  all_goals (refine WC.seq ?_)
  all_goals (refine WC.sr ?_)
  all_goals (refine Go ?_)
  all_goals (refine goC 1 2 ?_ ?_ <;> first | exact ⟨⟩ | refine Hb.mk fun hb => ?_ | skip)
  all_goals (first | (fail_if_success refine goB 1 ?_) | (
  refine goB 1 ?_
  all_goals (refine WC.sr ?_)
  all_goals (refine Go ?_)
  all_goals (refine WL.ld rfl (by first | exact cell_blk hb15 rfl | assumption | exact cell_blk (by assumption) rfl) rfl rfl rfl ?_)
  all_goals (refine WL.step (ok_buildF (vs := [_]) (cs := [_, _]) (fun | [a0] => [a0, (.slice none 0 0)] | _ => []) rfl rfl (by kernel_rfl)) rfl rfl rfl ?_)
  all_goals (refine WL.stepR0 (okE_storeW (fun w => Tryz.sizeOf50 w) rfl rfl rfl hb25 rfl (by simp [Value.oneCell'])) rfl rfl ?_
             rintro _ h6 ⟨hb6, hx6⟩)
  all_goals (refine Gn ?_)
  all_goals (refine Gs [(2, _)] ?_)
  all_goals (refine WC.ret ?_)
  all_goals (repeat' (with_reducible first | refine thenP_r ?_ | refine blockP_r ?_))
  all_goals (refine retP_1 _ ⟨⟨_, rfl, ld_blk (fun w => Tryz.isAgg50 w) (fun w => Tryz.sizeOf50 w) hb6 rfl⟩, trivial⟩ ?_)
  all_goals (exact ⟨⟨_, _, rfl, rfl⟩, hX5.trans' hx6 (fun q hq e => by omega)⟩)
  skip))
  all_goals (first | (fail_if_success refine goB 2 ?_) | (
  refine goB 2 ?_
  all_goals (refine WC.skip ?_)
  skip))
  all_goals (refine Gn ?_)
  all_goals (refine Gs [(2, _), (3, _)] ?_)
  all_goals (refine WC.sr ?_)
  all_goals (refine WL.step (ok_loadN (fun w => Tryz.isAgg50 w) (fun w => Tryz.sizeOf50 w) rfl rfl (by exact At.of_block hb45)) rfl rfl rfl ?_)
  all_goals (refine WL.stepR0 (okE_storeW (fun w => Tryz.sizeOf50 w) rfl rfl rfl hb25 rfl (by simp [Value.oneCell'])) rfl rfl ?_
             rintro _ h6 ⟨hb6, hx6⟩)
  all_goals (refine Gn ?_)
  all_goals (refine WC.ret ?_)
  all_goals (repeat' (with_reducible first | refine thenP_r ?_ | refine blockP_r ?_))
  all_goals (refine retP_1 _ ⟨⟨_, rfl, ld_blk (fun w => Tryz.isAgg50 w) (fun w => Tryz.sizeOf50 w) hb6 rfl⟩, trivial⟩ ?_)
  all_goals (exact ⟨⟨_, _, rfl, rfl⟩, hX5.trans' hx6 (fun q hq e => by omega)⟩)
end Go.Proofs.YtinjbljnbiiloaaGreatDoor


/-
  Whether a reply is plain, exactly (BkO.w tells one way only).
-/
namespace Go.Proofs.YtinjbljnbiiloaaGreatDoor
open Go Go.RK

def plainK (b : Bk) : Bool := decide ((b.oids.length ≤ 50 ∧ b.cols.length ≤ 50 ∧ b.row.length ≤ 50 ∧ b.fields.length ≤ 50) ∧ (b.cols.any fun c => decide (300 < c.nm.length)) = false ∧ (b.row.any fun c => decide (300 < c.bytes.length)) = false ∧ (b.fields.any fun c => decide (1000 < c.t.length)) = false ∧ b.tag.length ≤ 300 ∧ b.name.length ≤ 300 ∧ b.value.length ≤ 300)
theorem plainK_few {b : Bk} (h : plainK b = true) : b.few := by
  obtain ⟨⟨h1, h2, h3, h4⟩, h5, h6, h7, h8, h9, h10⟩ := of_decide_eq_true h
  exact ⟨h1, h2, h3, h4, any_le h5, any_le h6, any_le h7, h8, h9, h10⟩
set_option maxHeartbeats 4000000 in
set_option maxRecDepth 100000 in
theorem plain_backB {h : Heap} (b : Bk) (hb : b.ok h) : CallsH Tryz.prog 5 ⟨[.agg ⟨b.cells⟩]⟩ h fun u h' => u = .bool (plainK b) ∧ Ext No h h' := by
  obtain ⟨⟨ho, _⟩, ⟨hc, hcm⟩, hr, hf, hfm⟩ := hb
  obtain ⟨k, st, t, n, v, x, y, vo, lo, vc, lc, vr, lr, vf, lf⟩ := b
  dsimp only at ho hc hr hf hcm hfm
  obtain ⟨hr0, hr1, hr2⟩ := hr
  have hrm : lr.length ≤ maxLen := by have := hr1.1; unfold reachBytes at this; unfold maxLen; omega
  obtain ⟨Ao, co, rfl, _⟩ := id ho
  obtain ⟨Ac, cc, rfl, _⟩ := id hc
  obtain ⟨Ar, cr, rfl, _⟩ := id hr0
  obtain ⟨Af, cf, rfl, _⟩ := id hf
  dsimp only [Bk.cells]
  refine calls [(0, _)] Tryz.func5 rfl Tryz.ntmps5 rfl ⟨rfl, trivial⟩ ?_
  all_goals (refine WC.sr ?_)
  all_goals (refine WL.stepR (okE_box rfl) rfl rfl rfl ?_
             rintro _ g1 ⟨b1, rfl, hg1, hb1, hX1⟩)
  all_goals (refine Go ?_)
  all_goals (refine WC.seq ?_)
  all_goals (refine WC.sr ?_)
  all_goals (refine Go ?_)
  all_goals (refine Ld ?_)
  all_goals (refine Go ?_)
  all_goals (refine goP 8 ?_ ?_ <;> first | exact ⟨⟩ | refine Hb.mk fun hb => ?_ | skip)
  all_goals (refine Gg ?_)
  all_goals (first | (refine WL.pass rfl rfl rfl ?_) | (refine Ld ?_))
  all_goals (refine Gg ?_)
  all_goals (refine Go ?_)
  all_goals (refine goP 14 ?_ ?_ <;> first | exact ⟨⟩ | refine Hb.mk fun hb => ?_ | skip)
  all_goals (refine Gg ?_)
  all_goals (first | (refine WL.pass rfl rfl rfl ?_) | (refine Ld ?_))
  all_goals (refine Gg ?_)
  all_goals (refine Go ?_)
  all_goals (refine goP 20 ?_ ?_ <;> first | exact ⟨⟩ | refine Hb.mk fun hb => ?_ | skip)
  all_goals (refine Gg ?_)
  all_goals (first | (refine WL.pass rfl rfl rfl ?_) | (refine Ld ?_))
  all_goals (refine Gg ?_)
  all_goals (refine Go ?_)
  all_goals (refine Gs [(1, _), (25, _)] ?_)
  all_goals (refine goC 1 2 ?_ ?_ <;> first | exact ⟨⟩ | refine Hb.mk fun hb => ?_ | skip)
  all_goals (first | (fail_if_success refine goB 1 ?_) | (
  refine goB 1 ?_
  all_goals (refine WC.sr ?_)
  all_goals (refine Go ?_)
  all_goals (refine Gt ?_)
  all_goals (first
              | (refine ⟨congrArg Value.bool (decide_eq_false fun z => ?_).symm, ?_⟩
                 · obtain ⟨⟨z1, z2, z3, z4⟩, z5, z6, z7, z8, z9, z10⟩ := z
                   dsimp only at z1 z2 z3 z4 z5 z6 z7 z8 z9 z10
                   first | omega | (rw [ha1] at z5; cases z5; done) | (rw [ha2] at z6; cases z6; done) | (rw [ha3] at z7; cases z7; done)
                 · first | exact hX4 | exact hX3 | exact hX2 | exact hX1)
              | (refine ⟨congrArg Value.bool (decide_eq_decide.2 ⟨fun z => ⟨⟨?_, ?_, ?_, ?_⟩, ha1, ha2, ha3, ?_, ?_, ?_⟩, fun z => ?_⟩), hX4⟩
                 all_goals first | (obtain ⟨⟨z1, z2, z3, z4⟩, z5, z6, z7, z8, z9, z10⟩ := z; dsimp only at z1 z2 z3 z4 z8 z9 z10; omega) | (show _ ≤ _; (try dsimp only); omega)))
  skip))
  all_goals (first | (fail_if_success refine goB 2 ?_) | (
  refine goB 2 ?_
  all_goals (refine WC.skip ?_)
  skip))
  all_goals (refine Gn ?_)
  all_goals (refine WC.sr ?_)
  all_goals (refine Go ?_)
  all_goals (refine WL.ld rfl (by first | exact cell_blk hb1 rfl | assumption | exact cell_blk (by assumption) rfl) rfl rfl rfl ?_)
  all_goals (refine WL.call (vs := [_, _]) rfl (fun a w => Tryz.call23 a w) rfl (has_col lc (fun c => decide (300 < c.nm.length)) (fun a w => Tryz.call24 a w) (fs := []) (us := []) (hc.ext0 hX1) hcm (fun x hx h' hx' => bk1 x)) rfl rfl rfl ?_
             rintro _ g2 ⟨rfl, hx2⟩)
  all_goals (have hb2 := hx2.obj hb1 nos
             have hX2 := hX1.trans hx2
             cases ha1 : lc.any fun c => decide (300 < c.nm.length))
  all_goals (refine Go ?_)
  all_goals (refine goP 29 ?_ ?_ <;> first | exact ⟨⟩ | refine Hb.mk fun hb => ?_ | skip)
  all_goals (refine Gg ?_)
  all_goals (first | (refine WL.pass rfl rfl rfl ?_) | (refine WL.ld rfl (by first | exact cell_blk hb2 rfl | assumption | exact cell_blk (by assumption) rfl) rfl rfl rfl ?_))
  all_goals (first
               | (refine WL.pass rfl rfl rfl ?_)
               | (refine WL.call (vs := [_, _]) rfl (fun a w => Tryz.call21 a w) rfl (has_cel lr (fun c => decide (300 < c.bytes.length)) (fun a w => Tryz.call25 a w) (fs := []) (us := []) (hr0.ext0 hX2) hrm (fun x hx h' hx' => bk2 x (hr2 x hx))) rfl rfl rfl ?_
                  rintro _ g3 ⟨rfl, hx3⟩))
  all_goals (first
              | (have hb3 := hx3.obj hb2 nos
                 have hX3 := hX2.trans hx3
                 cases ha2 : lr.any fun c => decide (300 < c.bytes.length))
              | skip)
  all_goals (refine Go ?_)
  all_goals (refine Gs [(1, _), (3, _)] ?_)
  all_goals (refine WC.sr ?_)
  all_goals (refine Go ?_)
  all_goals (refine goP 35 ?_ ?_ <;> first | exact ⟨⟩ | refine Hb.mk fun hb => ?_ | skip)
  all_goals (refine Gg ?_)
  all_goals (first | (refine WL.pass rfl rfl rfl ?_) | (refine WL.ld rfl (by first | exact (by first | exact cell_blk hb3 rfl | exact cell_blk hb2 rfl) | assumption | exact cell_blk (by assumption) rfl) rfl rfl rfl ?_))
  all_goals (first
               | (refine WL.pass rfl rfl rfl ?_)
               | (refine WL.call (vs := [_, _]) rfl (fun a w => Tryz.call26 a w) rfl (has_fld lf (fun c => decide (1000 < c.t.length)) (fun a w => Tryz.call27 a w) (fs := []) (us := []) (hf.ext0 (by first | exact hX3 | exact hX2)) hfm (fun x hx h' hx' => bk3 x)) rfl rfl rfl ?_
                  rintro _ g4 ⟨rfl, hx4⟩))
  all_goals (first
              | (have hb4 := hx4.obj hb3 nos
                 have hX4 := hX3.trans hx4
                 cases ha3 : lf.any fun c => decide (1000 < c.t.length))
              | skip)
  all_goals (refine Go ?_)
  all_goals (refine Gs [(1, _), (3, _)] ?_)
  all_goals (refine WC.sr ?_)
  all_goals (refine Go ?_)
  all_goals (refine goP 42 ?_ ?_ <;> first | exact ⟨⟩ | refine Hb.mk fun hb => ?_ | skip)
  all_goals (refine Gg ?_)
  all_goals (first | (refine WL.pass rfl rfl rfl ?_) | (refine WL.ld rfl (by first | exact (by first | exact cell_blk hb4 rfl | exact cell_blk hb3 rfl | exact cell_blk hb2 rfl) | assumption | exact cell_blk (by assumption) rfl) rfl rfl rfl ?_))
  all_goals (refine Gg ?_)
  all_goals (refine Go ?_)
  all_goals (refine goP 48 ?_ ?_ <;> first | exact ⟨⟩ | refine Hb.mk fun hb => ?_ | skip)
  all_goals (refine Gg ?_)
  all_goals (first | (refine WL.pass rfl rfl rfl ?_) | (refine WL.ld rfl (by first | exact (by first | exact cell_blk hb4 rfl | exact cell_blk hb3 rfl | exact cell_blk hb2 rfl) | assumption | exact cell_blk (by assumption) rfl) rfl rfl rfl ?_))
  all_goals (refine Gg ?_)
  all_goals (refine Go ?_)
  all_goals (refine goP 54 ?_ ?_ <;> first | exact ⟨⟩ | refine Hb.mk fun hb => ?_ | skip)
  all_goals (refine Gg ?_)
  all_goals (first | (refine WL.pass rfl rfl rfl ?_) | (refine WL.ld rfl (by first | exact (by first | exact cell_blk hb4 rfl | exact cell_blk hb3 rfl | exact cell_blk hb2 rfl) | assumption | exact cell_blk (by assumption) rfl) rfl rfl rfl ?_))
  all_goals (refine Gg ?_)
  all_goals (refine Go ?_)
  all_goals (refine Gs [(2, _)] ?_)
  all_goals (refine Gt ?_)
  all_goals (first
              | (refine ⟨congrArg Value.bool (decide_eq_false fun z => ?_).symm, ?_⟩
                 · obtain ⟨⟨z1, z2, z3, z4⟩, z5, z6, z7, z8, z9, z10⟩ := z
                   dsimp only at z1 z2 z3 z4 z5 z6 z7 z8 z9 z10
                   first | omega | (rw [ha1] at z5; cases z5; done) | (rw [ha2] at z6; cases z6; done) | (rw [ha3] at z7; cases z7; done)
                 · first | exact hX4 | exact hX3 | exact hX2 | exact hX1)
              | (refine ⟨congrArg Value.bool (decide_eq_decide.2 ⟨fun z => ⟨⟨?_, ?_, ?_, ?_⟩, ha1, ha2, ha3, ?_, ?_, ?_⟩, fun z => ?_⟩), hX4⟩
                 all_goals first | (obtain ⟨⟨z1, z2, z3, z4⟩, z5, z6, z7, z8, z9, z10⟩ := z; dsimp only at z1 z2 z3 z4 z8 z9 z10; omega) | (show _ ≤ _; (try dsimp only); omega)))
end Go.Proofs.YtinjbljnbiiloaaGreatDoor


/-
  MESSAGES (layer 6), alone: Front.w without the entries, and what RwF tells of them.
-/
namespace Go.Proofs.YtinjbljnbiiloaaGreatDoor
open Go Go.RK

structure Fm where
  kind : Int
  what : Int
  name : List UInt8
  portal : List UInt8
  text : List UInt8
  vo : Value
  oids : List Int
  vf : Value
  formats : List Int
  vs : Value
  results : List Int
  vp : Value
  params : List Cel
  max : Int
def Fm.cells (b : Fm) : List Value := [.int .u8 b.kind, .int .u8 b.what, St b.name, St b.portal, St b.text, b.vo, b.vf, b.vs, b.vp, In b.max]
theorem Fm.len (b : Fm) : b.cells.length = 10 := rfl
structure Fm.ok (h : Heap) (b : Fm) : Prop where
  oids : Rd h b.vo 1 b.oids.length (ints b.oids) ∧ b.oids.length ≤ maxLen
  formats : Rd h b.vf 1 b.formats.length (ints b.formats) ∧ b.formats.length ≤ maxLen
  results : Rd h b.vs 1 b.results.length (ints b.results) ∧ b.results.length ≤ maxLen
  params : Cels h b.vp b.params
theorem Fm.ok.ext0 {h h' : Heap} {b : Fm} (k : b.ok h) (a : Ext No h h') : b.ok h' := ⟨⟨k.1.1.ext0 a, k.1.2⟩, ⟨k.2.1.ext0 a, k.2.2⟩, ⟨k.3.1.ext0 a, k.3.2⟩, k.4.ext0 a⟩
theorem Fm.ok.one {h : Heap} {e : Fm} (k : e.ok h) : ∀ v ∈ e.cells, v.oneCell' = true := by
  obtain ⟨A1, c1, e1, _⟩ := k.1.1
  obtain ⟨A2, c2, e2, _⟩ := k.2.1
  obtain ⟨A3, c3, e3, _⟩ := k.3.1
  obtain ⟨_, ⟨_, A4, c4, e4, _⟩, _⟩ := k.4
  simp [Fm.cells, Value.oneCell', e1, e2, e3, e4]
def Fm.pl (b : Fm) := (b.kind, b.what, b.name, b.portal, b.text, b.oids, b.formats, b.results, b.params.map Cel.pl, b.max)
def Fms (h : Heap) (v : Value) (L : List Fm) : Prop := Rd h v 10 L.length (L.flatMap Fm.cells) ∧ L.length ≤ maxLen ∧ ∀ e ∈ L, e.ok h
theorem Fms.ext0 {h h' : Heap} {v : Value} {L : List Fm} (k : Fms h v L) (a : Ext No h h') : Fms h' v L := ⟨k.1.ext0 a, k.2.1, fun r hr => (k.2.2 r hr).ext0 a⟩

theorem wf_u8f {n : Int} (h : (Lit.int .u8 n).wf = true) : 0 ≤ n ∧ n ≤ 255 := by simpa [Lit.wf, IntKind.min, IntKind.max, IntKind.signed, IntKind.bits] using h
theorem wf_i64f {n : Int} (h : (Lit.int .i64 n).wf = true) : -9223372036854775808 ≤ n ∧ n ≤ 9223372036854775807 := by simpa [Lit.wf, IntKind.min, IntKind.max, IntKind.signed, IntKind.bits] using h
theorem opens_fm (w : World) : Opens Tryz.prog w 25 Fm.cells (fun b => b.ok w.heap ∧ (0 ≤ b.kind ∧ b.kind ≤ 255) ∧ -9223372036854775808 ≤ b.max ∧ b.max ≤ 9223372036854775807) := by
  have hi : ∀ {v : Value} {l : List Int}, Rd w.heap v 1 l.length (l.flatMap fun n : Int => [In n]) → Rd w.heap v 1 l.length (ints l) := fun h => by rwa [flat_one] at h
  have h10 := opensF_cons (P := Tryz.prog) (w := w) (o := 9) (f := ⟨ "Max", 3, 9, false, "", "", 152⟩) rfl (opens_int Tryz.underlying3) (by kernel_rfl) (fun _ => rfl) opensF_nil
  have h9 := opensF_cons (P := Tryz.prog) (w := w) (o := 8) (f := ⟨ "Params", 23, 8, false, "", "", 128⟩) rfl (opens_cells w) (by kernel_rfl) (fun _ => rfl) h10
  have h8 := opensF_cons (P := Tryz.prog) (w := w) (o := 7) (f := ⟨ "Results", 22, 7, false, "", "", 104⟩) rfl (opens_slice (sz := 1) (F := fun n : Int => [In n]) Tryz.underlying22 (by kernel_rfl) (by decide) (fun _ => rfl) (opens_int Tryz.underlying3)) (by kernel_rfl) (fun _ => rfl) h9
  have h7 := opensF_cons (P := Tryz.prog) (w := w) (o := 6) (f := ⟨ "Formats", 22, 6, false, "", "", 80⟩) rfl (opens_slice (sz := 1) (F := fun n : Int => [In n]) Tryz.underlying22 (by kernel_rfl) (by decide) (fun _ => rfl) (opens_int Tryz.underlying3)) (by kernel_rfl) (fun _ => rfl) h8
  have h6 := opensF_cons (P := Tryz.prog) (w := w) (o := 5) (f := ⟨ "OIDs", 22, 5, false, "", "", 56⟩) rfl (opens_slice (sz := 1) (F := fun n : Int => [In n]) Tryz.underlying22 (by kernel_rfl) (by decide) (fun _ => rfl) (opens_int Tryz.underlying3)) (by kernel_rfl) (fun _ => rfl) h7
  have h5 := opensF_cons (P := Tryz.prog) (w := w) (o := 4) (f := ⟨ "Text", 9, 4, false, "", "", 40⟩) rfl (opens_string Tryz.underlying9) (by kernel_rfl) (fun _ => rfl) h6
  have h4 := opensF_cons (P := Tryz.prog) (w := w) (o := 3) (f := ⟨ "Portal", 9, 3, false, "", "", 24⟩) rfl (opens_string Tryz.underlying9) (by kernel_rfl) (fun _ => rfl) h5
  have h3 := opensF_cons (P := Tryz.prog) (w := w) (o := 2) (f := ⟨ "Name", 9, 2, false, "", "", 8⟩) rfl (opens_string Tryz.underlying9) (by kernel_rfl) (fun _ => rfl) h4
  have h2 := opensF_cons (P := Tryz.prog) (w := w) (o := 1) (f := ⟨ "What", 5, 1, false, "", "", 1⟩) rfl (opens_int Tryz.underlying5) (by kernel_rfl) (fun _ => rfl) h3
  have h1 := opensF_cons (P := Tryz.prog) (w := w) (o := 0) (f := ⟨ "Kind", 5, 0, false, "", "", 0⟩) rfl (opens_int Tryz.underlying5) (by kernel_rfl) (fun _ => rfl) h2
  have h0 := opens_struct Tryz.underlying25 (by kernel_rfl) h1
  refine h0.map (fun p => (⟨p.1, p.2.1, p.2.2.1, p.2.2.2.1, p.2.2.2.2.1, p.2.2.2.2.2.1.1, p.2.2.2.2.2.1.2, p.2.2.2.2.2.2.1.1, p.2.2.2.2.2.2.1.2, p.2.2.2.2.2.2.2.1.1, p.2.2.2.2.2.2.2.1.2, p.2.2.2.2.2.2.2.2.1.1, p.2.2.2.2.2.2.2.2.1.2, p.2.2.2.2.2.2.2.2.2.1⟩ : Fm)) (fun _ => rfl) (fun p q => ?_)
  obtain ⟨q1, q2, q3, q4, q5, q6, q7, q8, q9, q10, _⟩ := q
  exact ⟨⟨⟨hi q6.1, q6.2.1⟩, ⟨hi q7.1, q7.2.1⟩, ⟨hi q8.1, q8.2.1⟩, q9⟩, wf_u8f q1, wf_i64f q10⟩
end Go.Proofs.YtinjbljnbiiloaaGreatDoor


/-
  MESSAGES as they come in: whether each is plain, and what that tells (RwG.w without the registry).
-/
namespace Go.Proofs.YtinjbljnbiiloaaGreatDoor
open Go Go.RK

/-- Short enough to be tried. -/
structure Fm.few (b : Fm) : Prop where
  oids : b.oids.length ≤ 50
  formats : b.formats.length ≤ 50
  results : b.results.length ≤ 50
  params : b.params.length ≤ 50
  cells : ∀ c ∈ b.params, c.bytes.length ≤ 300
  name : b.name.length ≤ 300
  portal : b.portal.length ≤ 300
  text : b.text.length ≤ 1000
set_option maxHeartbeats 2000000 in
set_option maxRecDepth 100000 in
theorem pf1 {h h0 : Heap} (c : Cel) (hk : c.ok h0) : CallsH Tryz.prog 22 ⟨[.agg ⟨c.cells⟩]⟩ h fun u h' => u = .bool (decide (300 < c.bytes.length)) ∧ Ext No h h' := by
  obtain ⟨nl, v, bs⟩ := c
  obtain ⟨A, cc, e, _⟩ := hk.1
  simp only at e
  subst e
  dsimp only [Cel.cells]
  refine calls [(0, _)] Tryz.func22 rfl Tryz.ntmps22 rfl ⟨rfl, trivial⟩ ?_
  all_goals (refine WC.sr ?_)
  all_goals (refine WL.stepR (okE_box rfl) rfl rfl rfl ?_
             rintro _ h1 ⟨b1, rfl, hg1, hb1, hx1⟩)
  all_goals (refine Go ?_)
  all_goals (refine WC.sr ?_)
  all_goals (refine Go ?_)
  all_goals (refine Ld ?_)
  all_goals (refine Go ?_)
  all_goals (refine Gs [(2, _)] ?_)
  all_goals (refine Gt ?_)
  all_goals (exact ⟨congrArg Value.bool (decide_eq_decide.2 (by omega)), hx1⟩)
def plainB (b : Fm) : Bool := decide ((b.oids.length ≤ 50 ∧ b.formats.length ≤ 50 ∧ b.results.length ≤ 50 ∧ b.params.length ≤ 50) ∧ (b.params.any fun c => decide (300 < c.bytes.length)) = false ∧ b.name.length ≤ 300 ∧ b.portal.length ≤ 300 ∧ b.text.length ≤ 1000)
set_option maxHeartbeats 4000000 in
set_option maxRecDepth 100000 in
theorem plain_frontB {h : Heap} (b : Fm) (hb : b.ok h) : CallsH Tryz.prog 4 ⟨[.agg ⟨b.cells⟩]⟩ h fun u h' => u = .bool (plainB b) ∧ Ext No h h' := by
  obtain ⟨⟨ho, _⟩, ⟨hf, _⟩, ⟨hs, _⟩, hr⟩ := hb
  obtain ⟨k, w, n, p, t, vo, lo, vf, lf, vs, ls, vp, lp, mx⟩ := b
  dsimp only at ho hf hs hr
  obtain ⟨hr0, hr1, hr2⟩ := hr
  have hrm : lp.length ≤ maxLen := by have := hr1.1; unfold reachBytes at this; unfold maxLen; omega
  obtain ⟨Ao, co, rfl, _⟩ := id ho
  obtain ⟨Af, cf, rfl, _⟩ := id hf
  obtain ⟨As, cs, rfl, _⟩ := id hs
  obtain ⟨Ap, cp, rfl, _⟩ := id hr0
  dsimp only [Fm.cells]
  refine calls [(0, _)] Tryz.func4 rfl Tryz.ntmps4 rfl ⟨rfl, trivial⟩ ?_
  all_goals (refine WC.sr ?_)
  all_goals (refine WL.stepR (okE_box rfl) rfl rfl rfl ?_
             rintro _ g1 ⟨b1, rfl, hg1, hb1, hX1⟩)
  all_goals (refine Go ?_)
  all_goals (refine WC.seq ?_)
  all_goals (refine WC.sr ?_)
  all_goals (refine Go ?_)
  all_goals (refine Ld ?_)
  all_goals (refine Go ?_)
  all_goals (refine goP 7 ?_ ?_ <;> first | exact ⟨⟩ | refine Hb.mk fun hb => ?_ | skip)
  all_goals (refine Gg ?_)
  all_goals (first | (refine WL.pass rfl rfl rfl ?_) | (refine Ld ?_))
  all_goals (refine Gg ?_)
  all_goals (refine Go ?_)
  all_goals (refine goP 13 ?_ ?_ <;> first | exact ⟨⟩ | refine Hb.mk fun hb => ?_ | skip)
  all_goals (refine Gg ?_)
  all_goals (first | (refine WL.pass rfl rfl rfl ?_) | (refine Ld ?_))
  all_goals (refine Gg ?_)
  all_goals (refine Go ?_)
  all_goals (refine goP 19 ?_ ?_ <;> first | exact ⟨⟩ | refine Hb.mk fun hb => ?_ | skip)
  all_goals (refine Gg ?_)
  all_goals (first | (refine WL.pass rfl rfl rfl ?_) | (refine Ld ?_))
  all_goals (refine Gg ?_)
  all_goals (refine Go ?_)
  all_goals (refine Gs [(1, _), (24, _)] ?_)
  all_goals (refine goC 1 2 ?_ ?_ <;> first | exact ⟨⟩ | refine Hb.mk fun hb => ?_ | skip)
  all_goals (first | (fail_if_success refine goB 1 ?_) | (
  refine goB 1 ?_
  all_goals (refine WC.sr ?_)
  all_goals (refine Go ?_)
  all_goals (refine Gt ?_)
  all_goals (first
              | (refine ⟨congrArg Value.bool (decide_eq_false fun z => ?_).symm, ?_⟩
                 · obtain ⟨⟨z1, z2, z3, z4⟩, z5, z6, z7, z8⟩ := z
                   dsimp only at z1 z2 z3 z4 z5 z6 z7 z8
                   first | omega | (rw [ha1] at z5; cases z5)
                 · first | exact hX2 | exact hX1)
              | (refine ⟨congrArg Value.bool (decide_eq_decide.2 ⟨fun z => ⟨⟨?_, ?_, ?_, ?_⟩, ha1, ?_, ?_, ?_⟩, fun z => ?_⟩), hX2⟩
                 all_goals first | (obtain ⟨⟨z1, z2, z3, z4⟩, z5, z6, z7, z8⟩ := z; dsimp only at z1 z2 z3 z4 z6 z7 z8; omega) | (show _ ≤ _; (try dsimp only); omega)))
  skip))
  all_goals (first | (fail_if_success refine goB 2 ?_) | (
  refine goB 2 ?_
  all_goals (refine WC.skip ?_)
  skip))
  all_goals (refine Gn ?_)
  all_goals (refine WC.seq ?_)
  all_goals (refine WC.sr ?_)
  all_goals (refine Go ?_)
  all_goals (refine WL.ld rfl (by first | exact cell_blk hb1 rfl | assumption | exact cell_blk (by assumption) rfl) rfl rfl rfl ?_)
  all_goals (refine WL.call (vs := [_, _]) rfl (fun a w => Tryz.call21 a w) rfl (has_cel lp (fun c => decide (300 < c.bytes.length)) (fun a w => Tryz.call22 a w) (fs := []) (us := []) (hr0.ext0 hX1) hrm (fun x hx h' hx' => pf1 x (hr2 x hx))) rfl rfl rfl ?_
             rintro _ g2 ⟨rfl, hx2⟩)
  all_goals (have hb2 := hx2.obj hb1 nos
             have hX2 := hX1.trans hx2
             cases ha1 : lp.any fun c => decide (300 < c.bytes.length))
  all_goals (refine Gn ?_)
  all_goals (refine goC 3 4 ?_ ?_ <;> first | exact ⟨⟩ | refine Hb.mk fun hb => ?_ | skip)
  all_goals (first | (fail_if_success refine goB 3 ?_) | (
  refine goB 3 ?_
  all_goals (refine WC.sr ?_)
  all_goals (refine Go ?_)
  all_goals (refine Gs [(2, _)] ?_)
  all_goals (refine Gt ?_)
  all_goals (first
              | (refine ⟨congrArg Value.bool (decide_eq_false fun z => ?_).symm, ?_⟩
                 · obtain ⟨⟨z1, z2, z3, z4⟩, z5, z6, z7, z8⟩ := z
                   dsimp only at z1 z2 z3 z4 z5 z6 z7 z8
                   first | omega | (rw [ha1] at z5; cases z5)
                 · first | exact hX2 | exact hX1)
              | (refine ⟨congrArg Value.bool (decide_eq_decide.2 ⟨fun z => ⟨⟨?_, ?_, ?_, ?_⟩, ha1, ?_, ?_, ?_⟩, fun z => ?_⟩), hX2⟩
                 all_goals first | (obtain ⟨⟨z1, z2, z3, z4⟩, z5, z6, z7, z8⟩ := z; dsimp only at z1 z2 z3 z4 z6 z7 z8; omega) | (show _ ≤ _; (try dsimp only); omega)))
  skip))
  all_goals (first | (fail_if_success refine goB 4 ?_) | (
  refine goB 4 ?_
  all_goals (refine WC.skip ?_)
  skip))
  all_goals (refine Gn ?_)
  all_goals (refine Gs [(1, _)] ?_)
  all_goals (refine WC.sr ?_)
  all_goals (refine Go ?_)
  all_goals (refine WL.ld rfl (by first | exact cell_blk hb2 rfl | assumption | exact cell_blk (by assumption) rfl) rfl rfl rfl ?_)
  all_goals (refine Go ?_)
  all_goals (refine goP 32 ?_ ?_ <;> first | exact ⟨⟩ | refine Hb.mk fun hb => ?_ | skip)
  all_goals (refine Gg ?_)
  all_goals (first | (refine WL.pass rfl rfl rfl ?_) | (refine WL.ld rfl (by first | exact cell_blk hb2 rfl | assumption | exact cell_blk (by assumption) rfl) rfl rfl rfl ?_))
  all_goals (refine Gg ?_)
  all_goals (refine Go ?_)
  all_goals (refine goP 38 ?_ ?_ <;> first | exact ⟨⟩ | refine Hb.mk fun hb => ?_ | skip)
  all_goals (refine Gg ?_)
  all_goals (first | (refine WL.pass rfl rfl rfl ?_) | (refine WL.ld rfl (by first | exact cell_blk hb2 rfl | assumption | exact cell_blk (by assumption) rfl) rfl rfl rfl ?_))
  all_goals (refine Gg ?_)
  all_goals (refine Go ?_)
  all_goals (refine Gs [(2, _)] ?_)
  all_goals (refine Gt ?_)
  all_goals (first
              | (refine ⟨congrArg Value.bool (decide_eq_false fun z => ?_).symm, ?_⟩
                 · obtain ⟨⟨z1, z2, z3, z4⟩, z5, z6, z7, z8⟩ := z
                   dsimp only at z1 z2 z3 z4 z5 z6 z7 z8
                   first | omega | (rw [ha1] at z5; cases z5)
                 · first | exact hX2 | exact hX1)
              | (refine ⟨congrArg Value.bool (decide_eq_decide.2 ⟨fun z => ⟨⟨?_, ?_, ?_, ?_⟩, ha1, ?_, ?_, ?_⟩, fun z => ?_⟩), hX2⟩
                 all_goals first | (obtain ⟨⟨z1, z2, z3, z4⟩, z5, z6, z7, z8⟩ := z; dsimp only at z1 z2 z3 z4 z6 z7 z8; omega) | (show _ ≤ _; (try dsimp only); omega)))
end Go.Proofs.YtinjbljnbiiloaaGreatDoor


/-
  LinkNobody: the law.
-/
namespace Go.Proofs.YtinjbljnbiiloaaGreatDoor
open Go Go.RK

theorem few_mid {b : Bk} (h : b.few) : b.mid := by
  obtain ⟨h1, h2, h3, h4, h5, h6, h7, h8, h9, h10⟩ := h
  exact ⟨by omega, by omega, by omega, by omega, fun c hc => by have := h5 c hc; omega, fun c hc => by have := h6 c hc; omega, fun c hc => by have := h7 c hc; omega, by omega, by omega, by omega⟩
theorem nobody40 {h : Heap} (f : Fm) (b : Bk) (hf : f.ok h) (hb : b.ok h) (hw : b.wf) : CallsH Tryz.prog 3 ⟨[.agg ⟨f.cells⟩, .agg ⟨b.cells⟩]⟩ h fun u h' => u = .bool true ∧ Ext No h h' := by
  have hone : ∀ v ∈ f.cells ++ b.cells, v.oneCell' = true := by
    obtain ⟨⟨fo, _⟩, ⟨ff, _⟩, ⟨fs, _⟩, fr, _⟩ := hf
    obtain ⟨⟨bo, _⟩, ⟨bc, _⟩, ⟨br, _⟩, bf, _⟩ := hb
    obtain ⟨k, w, n, p, t, vo, lo, vf, lf, vs, ls, vp, lp, mx⟩ := f
    obtain ⟨k, st, t, n, v, x, y, wo, mo, wc, mc, wr, mr, wf, mf⟩ := b
    dsimp only at fo ff fs fr bo bc br bf
    obtain ⟨_, _, rfl, _⟩ := fo
    obtain ⟨_, _, rfl, _⟩ := ff
    obtain ⟨_, _, rfl, _⟩ := fs
    obtain ⟨_, _, rfl, _⟩ := fr
    obtain ⟨_, _, rfl, _⟩ := bo
    obtain ⟨_, _, rfl, _⟩ := bc
    obtain ⟨_, _, rfl, _⟩ := br
    obtain ⟨_, _, rfl, _⟩ := bf
    intro v hv
    dsimp only [Fm.cells, Bk.cells, List.cons_append, List.nil_append] at hv
    simp only [List.mem_cons, List.not_mem_nil, or_false] at hv
    rcases hv with rfl | rfl | rfl | rfl | rfl | rfl | rfl | rfl | rfl | rfl | rfl | rfl | rfl | rfl | rfl | rfl | rfl | rfl | rfl | rfl | rfl <;> rfl
  let τ : Nat → Value := fun j => (f.cells ++ b.cells).getD j (.bool true)
  have e1 : @vaL ⟨τ, h⟩ 0 10 = f.cells := rfl
  have e2 : @vaL ⟨τ, h⟩ 10 11 = b.cells := rfl
  have hv : @VaL ⟨τ, h⟩ (fun _ => Option.none) arg40 [.agg ⟨f.cells⟩, .agg ⟨b.cells⟩] := by
    letI : Opq := ⟨τ, h⟩
    refine .cons (.agg ?_) (.cons (.agg ?_) .nil)
    · rw [← e1]; exact opL_va 10 0 fun j _ _ => getD_one hone j
    · rw [← e2]; exact opL_va 11 10 fun j _ _ => getD_one hone j
  have kf : ∀ N : NatE, @NOk ⟨τ, h⟩ Tryz.prog N → @NOk ⟨τ, h⟩ Tryz.prog (natF (plainB f) N) := fun N hN => by
    letI : Opq := ⟨τ, h⟩
    refine fixN_ok hN (fun args w => Tryz.call4 args w) fun g hx => ?_
    rw [e1]
    exact (plain_frontB f (hf.ext0 hx)).mono fun u h' ⟨a, x⟩ => ⟨fun σ => by rw [a]; exact .bool _, x⟩
  have kk : ∀ N : NatE, @NOk ⟨τ, h⟩ Tryz.prog N → @NOk ⟨τ, h⟩ Tryz.prog (natK (plainK b) N) := fun N hN => by
    letI : Opq := ⟨τ, h⟩
    refine fixN_ok hN (fun args w => Tryz.call5 args w) fun g hx => ?_
    rw [e2]
    exact (plain_backB b (hb.ext0 hx)).mono fun u h' ⟨a, x⟩ => ⟨fun σ => by rw [a]; exact .bool _, x⟩
  have hI := @natA_ok ⟨τ, h⟩
  cases c1 : plainB f with
  | false =>
    rw [c1] at kf
    exact ev_true τ (by kernel_rfl) ev_nm (kf _ hI) (by kernel_rfl) ev40_f hv
  | true =>
    rw [c1] at kf
    cases c2 : plainK b with
    | false =>
      rw [c2] at kk
      exact ev_true τ (by kernel_rfl) ev_nm (kf _ (kk _ hI)) (by kernel_rfl) ev40_tf hv
    | true =>
      rw [c2] at kk
      have km : @NOk ⟨τ, h⟩ Tryz.prog (natM natA) := by
        letI : Opq := ⟨τ, h⟩
        refine fixN_ok hI (fun args w => Tryz.call9 args w) fun g hx => ?_
        rw [e2]
        exact (msg40 b (hb.ext0 hx) hw (few_mid (plainK_few c2))).mono fun u h' ⟨⟨k, v, a, o⟩, x⟩ => ⟨fun σ => by rw [a]; exact .agg (.cons (.any rfl) (.cons (.any o) .nil)), x⟩
      exact ev_true τ (by kernel_rfl) ev_nm (kf _ (kk _ km)) (by kernel_rfl) ev40_tt hv
end Go.Proofs.YtinjbljnbiiloaaGreatDoor


/-
  LINKS (layer 40): what the library's variables hold when a law is called.
-/
namespace Go.Proofs.YtinjbljnbiiloaaGreatDoor
open Go Go.RK

def laidP : List (String × DataW Unit) := Rows.linkNobodyRow.laid.filter fun x => x.2.handleName?.isNone
/-- A world in which the one handle is laid. -/
noncomputable def handWorld (os : Os) : World :=
  let w0 := World.holding Tryz.prog os ⟨#[], #[], []⟩
  { w0 with heap := w0.heap.modify 0 fun
      | .cells _ t frozen => .cells #[.iface 411 (.agg #[.pointer (some ⟨4, 241, none⟩)])] t frozen
      | o => o }
noncomputable def laidWorld (os : Os) : World := (handWorld os).layVars Tryz.prog laidP
theorem laidWorld_os (os : Os) : (laidWorld os).os = os := World.layVars_os _ _ _
theorem laidWorld_met (os : Os) (args : Array Value) : laidMetH Tryz.prog Rows.linkNobodyRow.laid ((laidWorld os).forCall (fun _ _ => 0) ⟨#[], args, []⟩).memory := by
  have e1 : (laidP.filter fun x => (laidP.map (·.1)).contains x.1) = laidP := List.filter_eq_self.2 fun x hx => List.contains_iff_mem.2 (List.mem_map.2 ⟨x, hx, rfl⟩)
  have e2 : (laidP.filter fun x => !(laidP.map (·.1)).contains x.1) = [] := List.filter_eq_nil_iff.2 fun x hx => by rw [List.contains_iff_mem.2 (List.mem_map.2 ⟨x, hx, rfl⟩)]; simp
  have h : laidMet Tryz.prog laidP (laidWorld os) := laidMet_layVars (w0 := handWorld os) (laidP.map (·.1)) [] (by rw [e1]; rfl) (by rw [e1]; kernel_rfl) (by rw [e1]; kernel_rfl) (by rw [e2]; exact LaidIn.none)
  exact laidMetH_of_parts (h.of_heap (by simp [World.memory, World.forCall, Input.heap])) (by kernel_rfl)
end Go.Proofs.YtinjbljnbiiloaaGreatDoor


