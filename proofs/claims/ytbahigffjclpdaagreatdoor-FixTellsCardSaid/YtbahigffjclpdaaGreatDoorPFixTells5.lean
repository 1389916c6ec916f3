/-
  SEVERAL TEXTS IN ONE: BkP, BkQ.
-/
import Derived.Test.YtbahigffjclpdaaGreatDoorPFixTells4
/-
  REPLIES (layer 7): the body of a reply that may be, as the code writes it. Printed by encp.py.
-/
namespace Go.Proofs.YtbahigffjclpdaaGreatDoor
open Go Go.RK

/-- The body of a reply. -/
def encBk (b : Bk) : List UInt8 :=
  if b.kind = 82 then be 0 4
  else if b.kind = 83 then b.name ++ [0] ++ b.value ++ [0]
  else if b.kind = 75 then be b.n 4 ++ be b.m 4
  else if b.kind = 90 then [UInt8.ofNat b.status.toNat]
  else if b.kind = 67 then b.tag ++ [0]
  else if b.kind = 68 then be b.row.length 2 ++ b.row.flatMap encCel
  else if b.kind = 84 then be b.cols.length 2 ++ b.cols.flatMap encCol
  else if b.kind = 116 then be b.oids.length 2 ++ b.oids.flatMap fun n => be n 4
  else if b.kind = 69 ∨ b.kind = 78 then encF b.fields ++ [0]
  else []
set_option maxHeartbeats 4000000 in
set_option maxRecDepth 100000 in
theorem encP_82 {h : Heap} (b : Bk) (hb : b.ok h) (hw : b.wf) (hmd : b.mid) (hmay : b.may) (hk : b.kind = 82) :
    CallsH Tryz.prog 53 ⟨[.agg ⟨b.cells⟩]⟩ h fun u h' => ∃ v', u = .tuple ⟨[.agg ⟨[.int .u8 82, v']⟩, In 0]⟩ ∧ Own h' v' 5 1 (encBk b).length (bys (encBk b)) ∧ Ext No h h' := by
  have kc := fun h' (hx : Ext No h h') => checkA_back b (hb.ext0 hx) hw.kind hmd
  have hL : encBk b = be 0 4 := by simp [encBk, hk]
  rw [hL]
  clear hL
  have hst := hw.status
  obtain ⟨md1, md2, md3, md4, md5, md6, md7, md8, md9, md10⟩ := hmd
  have m_c := hmay.cols.2
  have m_o := hmay.oids.2
  have m_n := hmay.n
  have m_m := hmay.m
  have m_r := hmay.row.2
  have hF : ∀ f ∈ b.fields, f.t.length ≤ 200000 ∧ 0 ≤ f.k ∧ f.k ≤ 255 := fun f hf => ⟨md7 f hf, hw.codes f hf⟩
  clear hw
  obtain ⟨ho, hc, hr, hf⟩ := hb
  obtain ⟨k, st, t, n, v, x, y, vo, lo, vc, lc, vr, lr, vf, lf⟩ := b
  dsimp only at hk hst ho hc hr hf md1 md2 md3 md4 md5 md6 md7 md8 md9 md10 m_c m_o m_n m_m m_r hF ⊢
  have hro := ho.1
  have hrc := hc.1
  have hrr := hr.1
  have hrf := hf.1
  obtain ⟨Ao, co, rfl, _⟩ := id hro
  obtain ⟨Ac, cc, rfl, _⟩ := id hrc
  obtain ⟨Ar, cr, rfl, _⟩ := id hrr
  obtain ⟨Af, cf, rfl, _⟩ := id hrf
  dsimp only [Bk.cells] at kc ⊢
  subst hk
  refine calls [(0, _)] Tryz.func53 rfl Tryz.ntmps53 rfl ⟨rfl, trivial⟩ ?_
  all_goals (refine WC.sr ?_)
  all_goals (refine WL.stepR (okE_box rfl) rfl rfl rfl ?_
             rintro _ h1 ⟨b1, rfl, hg1, hb1, hx1⟩)
  all_goals (refine WL.stepR (okE_alloc (fun w => Tryz.zeroValue85 w)) rfl rfl rfl ?_
             rintro _ h2 ⟨b2, rfl, hg2, hb2, hx2⟩)
  all_goals (have hX2 := hx1.trans hx2
             have hb12 := hx2.obj hb1 nos)
  all_goals (refine Go ?_)
  all_goals (refine WC.seq ?_)
  all_goals (refine WC.sr ?_)
  all_goals (refine WL.step (ok_loadN (fun w => Tryz.isAgg32 w) (fun w => Tryz.sizeOf32 w) rfl rfl (by exact At.of_block hb12)) rfl rfl rfl ?_)
  all_goals (refine WL.call (vs := [_]) rfl (fun a w => Tryz.call65 a w) rfl (kc _ hX2) rfl rfl rfl ?_
             rintro _ h3 ⟨⟨e, rfl, he⟩, hx3⟩
             obtain rfl := he.2 hmay)
  all_goals (have hb13 := hx3.obj hb12 nos
             have hb23 := hx3.obj hb2 nos
             have hX3 := hX2.trans hx3)
  all_goals (refine Go ?_)
  all_goals (refine WC.sub [(1, _), (2, _), (4, _)] ⟨rfl, rfl, rfl, trivial⟩ ?_)
  all_goals (refine WC.sr ?_)
  all_goals (refine Go ?_)
  all_goals (refine goC 1 2 ?_ ?_ <;> first | exact ⟨⟩ | refine Hb.mk fun hb => ?_ | skip)
  all_goals (first | (fail_if_success refine goB 1 ?_) | (
  refine goB 1 ?_
  all_goals (refine WC.sr ?_)
  all_goals (refine WL.step (ok_buildF (vs := []) (cs := [_, _]) (fun | [] => [(.int .u8 0), (.slice none 0 0)] | _ => []) rfl rfl (by kernel_rfl)) rfl rfl rfl ?_)
  all_goals (refine Go ?_)
  all_goals (refine WL.stepR0 (okE_storeW (fun w => Tryz.sizeOf85 w) rfl rfl rfl (by assumption) rfl (by simp [Value.oneCell'])) rfl rfl ?_
             rintro _ h1 ⟨hb1, hx1⟩)
  all_goals (refine Go ?_)
  all_goals (refine WC.sub [(2, _), (3, _)] ⟨rfl, rfl, trivial⟩ ?_)
  all_goals (refine WC.ret ?_)
  all_goals (repeat' (with_reducible first | refine thenP_r ?_ | refine blockP_r ?_))
  all_goals (refine retP_2 _ _ ⟨⟨_, rfl, ld_blk (fun w => Tryz.isAgg85 w) (fun w => Tryz.sizeOf85 w) hb7 rfl⟩, rfl, trivial⟩ ?_)
  all_goals (exact ⟨_, rfl, hw6.ext hx7 (fun q hq e => by obtain ⟨_, z⟩ := own_kind hw6 hq; rw [e, hb26] at z; simp at z), (hX3.trans w6.ext).trans' hx7 (fun q hq e => by have := hx1.size; omega)⟩)
  skip))
  all_goals (first | (fail_if_success refine goB 2 ?_) | (
  refine goB 2 ?_
  all_goals (refine WC.skip ?_)
  skip))
  all_goals (refine Gn ?_)
  all_goals (refine WC.sr ?_)
  all_goals (refine WL.step (ok_buildF (vs := []) (cs := [_]) (fun | [] => [(.slice none 0 0)] | _ => []) rfl rfl (by kernel_rfl)) rfl rfl rfl ?_)
  all_goals (refine WL.stepR (okE_box rfl) rfl rfl rfl ?_
             rintro _ h4 ⟨b5, rfl, hg5, hb5, hx4⟩)
  all_goals (have hb14 := hx4.obj hb13 nos
             have hb24 := hx4.obj hb23 nos
             have l1 := lt_of_some hb13
             have l2 := lt_of_some hb23
             have w4 : Wr h3 h4 b5 nilV [] := ⟨hb5, Own.nil _ _ _, ⟨by omega, by simp [Value.ownBlock]⟩, hx4⟩)
  all_goals (refine Go ?_)
  all_goals (refine WC.sub [(1, _), (2, _), (5, _)] ⟨rfl, rfl, rfl, trivial⟩ ?_)
  all_goals (refine WC.seq ?_)
  all_goals (refine WC.sr ?_)
  all_goals (refine Go ?_)
  all_goals (refine WL.step (ok_load (fun w => Tryz.isAgg5 w) rfl (by first | exact cell_blk hb14 rfl | assumption | exact cell_blk (by assumption) rfl)) rfl rfl rfl ?_)
  all_goals (refine Gn ?_)
  all_goals (refine WC.block ?_)
  all_goals (refine WC.sr ?_)
  all_goals (refine Go ?_)
  all_goals (refine goC 3 4 ?_ ?_ <;> first | exact ⟨⟩ | refine Hb.mk fun hb => ?_ | skip)
  all_goals (first | (fail_if_success refine goB 3 ?_) | (
  refine goB 3 ?_
  all_goals (refine WC.region ?_)
  all_goals (refine Go ?_)
  all_goals (refine WL.call (vs := [_, _, _]) rfl (fun a w => Tryz.call66 a w) rfl (num_w w4 0 4 sz4 (rt4s (by omega)) (by decide)) rfl rfl rfl ?_
             rintro _ h6 ⟨v6, w6a, t6⟩
             have w6 : Wr h3 h6 b5 v6 (be 0 4) := by simpa using w6a)
  all_goals (refine Gn ?_)
  skip))
  all_goals (first | (fail_if_success refine goB 4 ?_) | (
  refine goB 4 ?_
  all_goals (refine WC.sr ?_)
  all_goals (refine Go ?_)
  all_goals (refine WC.sub [(1, _), (2, _), (5, _), (19, _), (24, _)] ⟨rfl, rfl, rfl, rfl, rfl, trivial⟩ ?_)
  all_goals (refine goC 5 6 ?_ ?_ <;> first | exact ⟨⟩ | refine Hb.mk fun hb => ?_ | skip)
  all_goals (first | (fail_if_success refine goB 6 ?_) | (
  refine goB 6 ?_
  all_goals (refine WC.sr ?_)
  all_goals (refine Go ?_)
  all_goals (refine goC 7 8 ?_ ?_ <;> first | exact ⟨⟩ | refine Hb.mk fun hb => ?_ | skip)
  all_goals (first | (fail_if_success refine goB 8 ?_) | (
  refine goB 8 ?_
  all_goals (refine WC.sr ?_)
  all_goals (refine Go ?_)
  all_goals (refine WC.sub [(1, _), (2, _), (5, _), (19, _), (44, _)] ⟨rfl, rfl, rfl, rfl, rfl, trivial⟩ ?_)
  all_goals (refine goC 9 10 ?_ ?_ <;> first | exact ⟨⟩ | refine Hb.mk fun hb => ?_ | skip)
  all_goals (first | (fail_if_success refine goB 9 ?_) | (
  refine goB 9 ?_
  all_goals (refine WC.region ?_)
  all_goals (refine Go ?_)
  all_goals (refine WL.step (ok_load (fun w => Tryz.isAgg5 w) rfl (by first | assumption | exact cell_blk (by assumption) rfl)) rfl rfl rfl ?_)
  all_goals (refine WL.stepR (okE_buildSlice (vs := [_]) (cs := [_]) (fun | [a0] => [a0] | _ => []) Tryz.underlying24 rfl rfl (by kernel_rfl)) rfl rfl rfl ?_
             rintro _ h1 ⟨b1, rfl, hg1, hb1, hx1⟩)
  all_goals (refine WL.step (ok_nilCheck rfl) rfl rfl rfl ?_)
  all_goals (refine Go ?_)
  all_goals (refine WL.stepR0 (okE_store (fun w => Tryz.sizeOf24 w) rfl rfl (by assumption) (Nat.le_of_ble_eq_true rfl) rfl rfl) rfl rfl ?_
             rintro _ h1 ⟨hb1, hx1⟩)
  all_goals (refine Gn ?_)
  skip))
  all_goals (first | (fail_if_success refine goB 10 ?_) | (
  refine goB 10 ?_
  all_goals (refine WC.sr ?_)
  all_goals (refine Go ?_)
  all_goals (refine goC 11 12 ?_ ?_ <;> first | exact ⟨⟩ | refine Hb.mk fun hb => ?_ | skip)
  all_goals (first | (fail_if_success refine goB 12 ?_) | (
  refine goB 12 ?_
  all_goals (refine WC.sr ?_)
  all_goals (refine Go ?_)
  all_goals (refine WC.sub [(1, _), (2, _), (5, _), (19, _), (58, _)] ⟨rfl, rfl, rfl, rfl, rfl, trivial⟩ ?_)
  all_goals (refine goC 13 14 ?_ ?_ <;> first | exact ⟨⟩ | refine Hb.mk fun hb => ?_ | skip)
  all_goals (first | (fail_if_success refine goB 14 ?_) | (
  refine goB 14 ?_
  all_goals (refine WC.sr ?_)
  all_goals (refine Go ?_)
  all_goals (refine goC 15 16 ?_ ?_ <;> first | exact ⟨⟩ | refine Hb.mk fun hb => ?_ | skip)
  all_goals (first | (fail_if_success refine goB 16 ?_) | (
  refine goB 16 ?_
  all_goals (refine WC.sr ?_)
  all_goals (refine Go ?_)
  all_goals (refine WC.sub [(1, _), (2, _), (5, _), (19, _), (82, _)] ⟨rfl, rfl, rfl, rfl, rfl, trivial⟩ ?_)
  all_goals (refine goC 19 20 ?_ ?_ <;> first | exact ⟨⟩ | refine Hb.mk fun hb => ?_ | skip)
  all_goals (first | (fail_if_success refine goB 20 ?_) | (
  refine goB 20 ?_
  all_goals (refine WC.seq ?_)
  all_goals (refine WC.sr ?_)
  all_goals (refine Go ?_)
  all_goals (refine goC 23 24 ?_ ?_ <;> first | exact ⟨⟩ | refine Hb.mk fun hb => ?_ | skip)
  all_goals (first | (fail_if_success refine goB 23 ?_) | (
  refine goB 23 ?_
  all_goals (refine WC.skip ?_)
  skip))
  all_goals (first | (fail_if_success refine goB 24 ?_) | (
  refine goB 24 ?_
  all_goals (refine WC.region ?_)
  all_goals (refine Go ?_)
  skip))
  all_goals (refine Gn ?_)
  all_goals (refine goC 25 26 ?_ ?_ <;> first | exact ⟨⟩ | refine Hb.mk fun hb => ?_ | skip)
  all_goals (first | (fail_if_success refine goB 26 ?_) | (
  refine goB 26 ?_
  all_goals (refine WC.skip ?_)
  skip))
  skip))
  skip))
  skip))
  skip))
  skip))
  skip))
  skip))
  skip))
  all_goals (refine Gn ?_)
  all_goals (refine WC.seq ?_)
  all_goals (refine WC.drawH (fun h' => Ext No h6 h') 7 9 rfl fol ?_)
  all_goals (have hb16 := w6.ext.obj hb13 nos
             have hb26 := w6.ext.obj hb23 nos
             have hw6 := w6.own
             obtain ⟨A6, c6, e6, _⟩ := hw6.slice
             rw [e6] at w6 hw6)
  all_goals (refine WH.tk 0 rfl (fun hq hC => ok_fieldAddr rfl Tryz.underlying32 rfl (fun w => Tryz.sizeOf5 w)) rfl rfl rfl ?_)
  all_goals (refine WH.tk 1 rfl (fun hq hC => ok_load (fun w => Tryz.isAgg5 w) rfl (by first | exact hC.cell (by first | exact cell_blk hb16 rfl | assumption | exact cell_blk (by assumption) rfl) nos)) rfl rfl rfl ?_)
  all_goals (refine WH.tk 2 rfl (fun hq hC => ok_move rfl) rfl rfl rfl ?_)
  all_goals (refine WH.tk 3 rfl (fun hq hC => ok_nilCheck rfl) rfl rfl rfl ?_)
  all_goals (refine WH.tk 4 rfl (fun hq hC => ok_fieldAddr rfl Tryz.underlying97 rfl (fun w => Tryz.sizeOf24 w)) rfl rfl rfl ?_)
  all_goals (refine WH.tk 5 rfl (fun hq hC => ok_load (fun w => Tryz.isAgg24 w) rfl (by first | exact hC.cell (by first | exact cell_blk w6.blk rfl | assumption | exact cell_blk (by assumption) rfl) nos)) rfl rfl rfl ?_)
  all_goals (refine WH.tk 6 rfl (fun hq hC => ok_buildF (vs := [_, _]) (cs := [_, _]) (fun | [a0, a1] => [a0, a1] | _ => []) rfl rfl (by kernel_rfl)) rfl rfl rfl ?_)
  all_goals (refine WH.one 7 (by kernel_rfl) ?_)
  all_goals (refine Comes1.run0 rfl (okE_storeW (fun w => Tryz.sizeOf85 w) rfl rfl rfl hb26 rfl (by simp [Value.oneCell'])) rfl rfl ?_ (fun _ => by kernel_rfl)
             rintro _ h7 ⟨hb7, hx7⟩)
  all_goals (refine ⟨fun e => (by cases e), ?_⟩)
  all_goals (refine WH.one 8 (by kernel_rfl) ?_)
  all_goals (refine Comes1.run rfl (OkP.r (ok_assign rfl)) rfl rfl rfl ?_ (fun _ => by kernel_rfl)
             rintro _ hz ⟨rfl, _⟩
             subst hz)
  all_goals (refine ⟨fun e => (by cases e), ?_⟩)
  all_goals (refine WH.done (by kernel_rfl) ?_)
  all_goals (refine Gn ?_)
  all_goals (refine WC.sub [(2, _), (3, _)] ⟨rfl, rfl, trivial⟩ ?_)
  all_goals (refine WC.ret ?_)
  all_goals (repeat' (with_reducible first | refine thenP_r ?_ | refine blockP_r ?_))
  all_goals (refine retP_2 _ _ ⟨⟨_, rfl, ld_blk (fun w => Tryz.isAgg85 w) (fun w => Tryz.sizeOf85 w) hb7 rfl⟩, rfl, trivial⟩ ?_)
  all_goals (exact ⟨_, rfl, hw6.ext hx7 (fun q hq e => by obtain ⟨_, z⟩ := own_kind hw6 hq; rw [e, hb26] at z; simp at z), (hX3.trans w6.ext).trans' hx7 (fun q hq e => by have := hx1.size; omega)⟩)
set_option maxHeartbeats 4000000 in
set_option maxRecDepth 100000 in
theorem encP_83 {h : Heap} (b : Bk) (hb : b.ok h) (hw : b.wf) (hmd : b.mid) (hmay : b.may) (hk : b.kind = 83) :
    CallsH Tryz.prog 53 ⟨[.agg ⟨b.cells⟩]⟩ h fun u h' => ∃ v', u = .tuple ⟨[.agg ⟨[.int .u8 83, v']⟩, In 0]⟩ ∧ Own h' v' 5 1 (encBk b).length (bys (encBk b)) ∧ Ext No h h' := by
  have kc := fun h' (hx : Ext No h h') => checkA_back b (hb.ext0 hx) hw.kind hmd
  have hL : encBk b = b.name ++ [0] ++ b.value ++ [0] := by simp [encBk, hk]
  rw [hL]
  clear hL
  have hst := hw.status
  obtain ⟨md1, md2, md3, md4, md5, md6, md7, md8, md9, md10⟩ := hmd
  have m_c := hmay.cols.2
  have m_o := hmay.oids.2
  have m_n := hmay.n
  have m_m := hmay.m
  have m_r := hmay.row.2
  have hF : ∀ f ∈ b.fields, f.t.length ≤ 200000 ∧ 0 ≤ f.k ∧ f.k ≤ 255 := fun f hf => ⟨md7 f hf, hw.codes f hf⟩
  clear hw
  obtain ⟨ho, hc, hr, hf⟩ := hb
  obtain ⟨k, st, t, n, v, x, y, vo, lo, vc, lc, vr, lr, vf, lf⟩ := b
  dsimp only at hk hst ho hc hr hf md1 md2 md3 md4 md5 md6 md7 md8 md9 md10 m_c m_o m_n m_m m_r hF ⊢
  have hro := ho.1
  have hrc := hc.1
  have hrr := hr.1
  have hrf := hf.1
  obtain ⟨Ao, co, rfl, _⟩ := id hro
  obtain ⟨Ac, cc, rfl, _⟩ := id hrc
  obtain ⟨Ar, cr, rfl, _⟩ := id hrr
  obtain ⟨Af, cf, rfl, _⟩ := id hrf
  dsimp only [Bk.cells] at kc ⊢
  subst hk
  refine calls [(0, _)] Tryz.func53 rfl Tryz.ntmps53 rfl ⟨rfl, trivial⟩ ?_
  all_goals (refine WC.sr ?_)
  all_goals (refine WL.stepR (okE_box rfl) rfl rfl rfl ?_
             rintro _ h1 ⟨b1, rfl, hg1, hb1, hx1⟩)
  all_goals (refine WL.stepR (okE_alloc (fun w => Tryz.zeroValue85 w)) rfl rfl rfl ?_
             rintro _ h2 ⟨b2, rfl, hg2, hb2, hx2⟩)
  all_goals (have hX2 := hx1.trans hx2
             have hb12 := hx2.obj hb1 nos)
  all_goals (refine Go ?_)
  all_goals (refine WC.seq ?_)
  all_goals (refine WC.sr ?_)
  all_goals (refine WL.step (ok_loadN (fun w => Tryz.isAgg32 w) (fun w => Tryz.sizeOf32 w) rfl rfl (by exact At.of_block hb12)) rfl rfl rfl ?_)
  all_goals (refine WL.call (vs := [_]) rfl (fun a w => Tryz.call65 a w) rfl (kc _ hX2) rfl rfl rfl ?_
             rintro _ h3 ⟨⟨e, rfl, he⟩, hx3⟩
             obtain rfl := he.2 hmay)
  all_goals (have hb13 := hx3.obj hb12 nos
             have hb23 := hx3.obj hb2 nos
             have hX3 := hX2.trans hx3)
  all_goals (refine Go ?_)
  all_goals (refine WC.sub [(1, _), (2, _), (4, _)] ⟨rfl, rfl, rfl, trivial⟩ ?_)
  all_goals (refine WC.sr ?_)
  all_goals (refine Go ?_)
  all_goals (refine goC 1 2 ?_ ?_ <;> first | exact ⟨⟩ | refine Hb.mk fun hb => ?_ | skip)
  all_goals (first | (fail_if_success refine goB 1 ?_) | (
  refine goB 1 ?_
  all_goals (refine WC.sr ?_)
  all_goals (refine WL.step (ok_buildF (vs := []) (cs := [_, _]) (fun | [] => [(.int .u8 0), (.slice none 0 0)] | _ => []) rfl rfl (by kernel_rfl)) rfl rfl rfl ?_)
  all_goals (refine Go ?_)
  all_goals (refine WL.stepR0 (okE_storeW (fun w => Tryz.sizeOf85 w) rfl rfl rfl (by assumption) rfl (by simp [Value.oneCell'])) rfl rfl ?_
             rintro _ h1 ⟨hb1, hx1⟩)
  all_goals (refine Go ?_)
  all_goals (refine WC.sub [(2, _), (3, _)] ⟨rfl, rfl, trivial⟩ ?_)
  all_goals (refine WC.ret ?_)
  all_goals (repeat' (with_reducible first | refine thenP_r ?_ | refine blockP_r ?_))
  all_goals (refine retP_2 _ _ ⟨⟨_, rfl, ld_blk (fun w => Tryz.isAgg85 w) (fun w => Tryz.sizeOf85 w) hb7 rfl⟩, rfl, trivial⟩ ?_)
  all_goals (exact ⟨_, rfl, hw6.ext hx7 (fun q hq e => by obtain ⟨_, z⟩ := own_kind hw6 hq; rw [e, hb26] at z; simp at z), (hX3.trans w6.ext).trans' hx7 (fun q hq e => by have := hx1.size; omega)⟩)
  skip))
  all_goals (first | (fail_if_success refine goB 2 ?_) | (
  refine goB 2 ?_
  all_goals (refine WC.skip ?_)
  skip))
  all_goals (refine Gn ?_)
  all_goals (refine WC.sr ?_)
  all_goals (refine WL.step (ok_buildF (vs := []) (cs := [_]) (fun | [] => [(.slice none 0 0)] | _ => []) rfl rfl (by kernel_rfl)) rfl rfl rfl ?_)
  all_goals (refine WL.stepR (okE_box rfl) rfl rfl rfl ?_
             rintro _ h4 ⟨b5, rfl, hg5, hb5, hx4⟩)
  all_goals (have hb14 := hx4.obj hb13 nos
             have hb24 := hx4.obj hb23 nos
             have l1 := lt_of_some hb13
             have l2 := lt_of_some hb23
             have w4 : Wr h3 h4 b5 nilV [] := ⟨hb5, Own.nil _ _ _, ⟨by omega, by simp [Value.ownBlock]⟩, hx4⟩)
  all_goals (refine Go ?_)
  all_goals (refine WC.sub [(1, _), (2, _), (5, _)] ⟨rfl, rfl, rfl, trivial⟩ ?_)
  all_goals (refine WC.seq ?_)
  all_goals (refine WC.sr ?_)
  all_goals (refine Go ?_)
  all_goals (refine WL.step (ok_load (fun w => Tryz.isAgg5 w) rfl (by first | exact cell_blk hb14 rfl | assumption | exact cell_blk (by assumption) rfl)) rfl rfl rfl ?_)
  all_goals (refine Gn ?_)
  all_goals (refine WC.block ?_)
  all_goals (refine WC.sr ?_)
  all_goals (refine Go ?_)
  all_goals (refine goC 3 4 ?_ ?_ <;> first | exact ⟨⟩ | refine Hb.mk fun hb => ?_ | skip)
  all_goals (first | (fail_if_success refine goB 4 ?_) | (
  refine goB 4 ?_
  all_goals (refine WC.sr ?_)
  all_goals (refine Go ?_)
  all_goals (refine WC.sub [(1, _), (2, _), (5, _), (19, _), (24, _)] ⟨rfl, rfl, rfl, rfl, rfl, trivial⟩ ?_)
  all_goals (refine goC 5 6 ?_ ?_ <;> first | exact ⟨⟩ | refine Hb.mk fun hb => ?_ | skip)
  all_goals (first | (fail_if_success refine goB 5 ?_) | (
  refine goB 5 ?_
  all_goals (refine WC.sr ?_)
  all_goals (refine Go ?_)
  all_goals (refine WL.step (ok_load (fun w => Tryz.isAgg9 w) rfl (by first | exact cell_blk hb14 rfl | assumption | exact cell_blk (by assumption) rfl)) rfl rfl rfl ?_)
  all_goals (refine WL.call (vs := [_, _]) rfl (fun a w => Tryz.call67 a w) rfl (text_s w4 n (by simp only [List.length_nil]; omega)) rfl rfl rfl ?_
             rintro _ h5 ⟨v5, w5, t5⟩
             have hb15 := w5.ext.obj hb13 nos)
  all_goals (refine Gn ?_)
  all_goals (refine WC.sub [(1, _), (2, _), (5, _)] ⟨rfl, rfl, rfl, trivial⟩ ?_)
  all_goals (refine WC.region ?_)
  all_goals (refine Go ?_)
  all_goals (refine WL.step (ok_load (fun w => Tryz.isAgg9 w) rfl (by first | exact cell_blk hb15 rfl | assumption | exact cell_blk (by assumption) rfl)) rfl rfl rfl ?_)
  all_goals (refine WL.call (vs := [_, _]) rfl (fun a w => Tryz.call67 a w) rfl (text_s w5 v (by simp only [List.length_append, List.length_cons, List.length_nil]; omega)) rfl rfl rfl ?_
             rintro _ h6 ⟨v6, w6a, t6⟩
             have w6 : Wr h3 h6 b5 v6 (n ++ [0] ++ v ++ [0]) := by simpa using w6a)
  all_goals (refine Gn ?_)
  skip))
  all_goals (first | (fail_if_success refine goB 6 ?_) | (
  refine goB 6 ?_
  all_goals (refine WC.sr ?_)
  all_goals (refine Go ?_)
  all_goals (refine goC 7 8 ?_ ?_ <;> first | exact ⟨⟩ | refine Hb.mk fun hb => ?_ | skip)
  all_goals (first | (fail_if_success refine goB 8 ?_) | (
  refine goB 8 ?_
  all_goals (refine WC.sr ?_)
  all_goals (refine Go ?_)
  all_goals (refine WC.sub [(1, _), (2, _), (5, _), (19, _), (44, _)] ⟨rfl, rfl, rfl, rfl, rfl, trivial⟩ ?_)
  all_goals (refine goC 9 10 ?_ ?_ <;> first | exact ⟨⟩ | refine Hb.mk fun hb => ?_ | skip)
  all_goals (first | (fail_if_success refine goB 9 ?_) | (
  refine goB 9 ?_
  all_goals (refine WC.region ?_)
  all_goals (refine Go ?_)
  all_goals (refine WL.step (ok_load (fun w => Tryz.isAgg5 w) rfl (by first | assumption | exact cell_blk (by assumption) rfl)) rfl rfl rfl ?_)
  all_goals (refine WL.stepR (okE_buildSlice (vs := [_]) (cs := [_]) (fun | [a0] => [a0] | _ => []) Tryz.underlying24 rfl rfl (by kernel_rfl)) rfl rfl rfl ?_
             rintro _ h1 ⟨b1, rfl, hg1, hb1, hx1⟩)
  all_goals (refine WL.step (ok_nilCheck rfl) rfl rfl rfl ?_)
  all_goals (refine Go ?_)
  all_goals (refine WL.stepR0 (okE_store (fun w => Tryz.sizeOf24 w) rfl rfl (by assumption) (Nat.le_of_ble_eq_true rfl) rfl rfl) rfl rfl ?_
             rintro _ h1 ⟨hb1, hx1⟩)
  all_goals (refine Gn ?_)
  skip))
  all_goals (first | (fail_if_success refine goB 10 ?_) | (
  refine goB 10 ?_
  all_goals (refine WC.sr ?_)
  all_goals (refine Go ?_)
  all_goals (refine goC 11 12 ?_ ?_ <;> first | exact ⟨⟩ | refine Hb.mk fun hb => ?_ | skip)
  all_goals (first | (fail_if_success refine goB 12 ?_) | (
  refine goB 12 ?_
  all_goals (refine WC.sr ?_)
  all_goals (refine Go ?_)
  all_goals (refine WC.sub [(1, _), (2, _), (5, _), (19, _), (58, _)] ⟨rfl, rfl, rfl, rfl, rfl, trivial⟩ ?_)
  all_goals (refine goC 13 14 ?_ ?_ <;> first | exact ⟨⟩ | refine Hb.mk fun hb => ?_ | skip)
  all_goals (first | (fail_if_success refine goB 14 ?_) | (
  refine goB 14 ?_
  all_goals (refine WC.sr ?_)
  all_goals (refine Go ?_)
  all_goals (refine goC 15 16 ?_ ?_ <;> first | exact ⟨⟩ | refine Hb.mk fun hb => ?_ | skip)
  all_goals (first | (fail_if_success refine goB 16 ?_) | (
  refine goB 16 ?_
  all_goals (refine WC.sr ?_)
  all_goals (refine Go ?_)
  all_goals (refine WC.sub [(1, _), (2, _), (5, _), (19, _), (82, _)] ⟨rfl, rfl, rfl, rfl, rfl, trivial⟩ ?_)
  all_goals (refine goC 19 20 ?_ ?_ <;> first | exact ⟨⟩ | refine Hb.mk fun hb => ?_ | skip)
  all_goals (first | (fail_if_success refine goB 20 ?_) | (
  refine goB 20 ?_
  all_goals (refine WC.seq ?_)
  all_goals (refine WC.sr ?_)
  all_goals (refine Go ?_)
  all_goals (refine goC 23 24 ?_ ?_ <;> first | exact ⟨⟩ | refine Hb.mk fun hb => ?_ | skip)
  all_goals (first | (fail_if_success refine goB 23 ?_) | (
  refine goB 23 ?_
  all_goals (refine WC.skip ?_)
  skip))
  all_goals (first | (fail_if_success refine goB 24 ?_) | (
  refine goB 24 ?_
  all_goals (refine WC.region ?_)
  all_goals (refine Go ?_)
  skip))
  all_goals (refine Gn ?_)
  all_goals (refine goC 25 26 ?_ ?_ <;> first | exact ⟨⟩ | refine Hb.mk fun hb => ?_ | skip)
  all_goals (first | (fail_if_success refine goB 26 ?_) | (
  refine goB 26 ?_
  all_goals (refine WC.skip ?_)
  skip))
  skip))
  skip))
  skip))
  skip))
  skip))
  skip))
  skip))
  skip))
  all_goals (refine Gn ?_)
  all_goals (refine WC.seq ?_)
  all_goals (refine WC.drawH (fun h' => Ext No h6 h') 7 9 rfl fol ?_)
  all_goals (have hb16 := w6.ext.obj hb13 nos
             have hb26 := w6.ext.obj hb23 nos
             have hw6 := w6.own
             obtain ⟨A6, c6, e6, _⟩ := hw6.slice
             rw [e6] at w6 hw6)
  all_goals (refine WH.tk 0 rfl (fun hq hC => ok_fieldAddr rfl Tryz.underlying32 rfl (fun w => Tryz.sizeOf5 w)) rfl rfl rfl ?_)
  all_goals (refine WH.tk 1 rfl (fun hq hC => ok_load (fun w => Tryz.isAgg5 w) rfl (by first | exact hC.cell (by first | exact cell_blk hb16 rfl | assumption | exact cell_blk (by assumption) rfl) nos)) rfl rfl rfl ?_)
  all_goals (refine WH.tk 2 rfl (fun hq hC => ok_move rfl) rfl rfl rfl ?_)
  all_goals (refine WH.tk 3 rfl (fun hq hC => ok_nilCheck rfl) rfl rfl rfl ?_)
  all_goals (refine WH.tk 4 rfl (fun hq hC => ok_fieldAddr rfl Tryz.underlying97 rfl (fun w => Tryz.sizeOf24 w)) rfl rfl rfl ?_)
  all_goals (refine WH.tk 5 rfl (fun hq hC => ok_load (fun w => Tryz.isAgg24 w) rfl (by first | exact hC.cell (by first | exact cell_blk w6.blk rfl | assumption | exact cell_blk (by assumption) rfl) nos)) rfl rfl rfl ?_)
  all_goals (refine WH.tk 6 rfl (fun hq hC => ok_buildF (vs := [_, _]) (cs := [_, _]) (fun | [a0, a1] => [a0, a1] | _ => []) rfl rfl (by kernel_rfl)) rfl rfl rfl ?_)
  all_goals (refine WH.one 7 (by kernel_rfl) ?_)
  all_goals (refine Comes1.run0 rfl (okE_storeW (fun w => Tryz.sizeOf85 w) rfl rfl rfl hb26 rfl (by simp [Value.oneCell'])) rfl rfl ?_ (fun _ => by kernel_rfl)
             rintro _ h7 ⟨hb7, hx7⟩)
  all_goals (refine ⟨fun e => (by cases e), ?_⟩)
  all_goals (refine WH.one 8 (by kernel_rfl) ?_)
  all_goals (refine Comes1.run rfl (OkP.r (ok_assign rfl)) rfl rfl rfl ?_ (fun _ => by kernel_rfl)
             rintro _ hz ⟨rfl, _⟩
             subst hz)
  all_goals (refine ⟨fun e => (by cases e), ?_⟩)
  all_goals (refine WH.done (by kernel_rfl) ?_)
  all_goals (refine Gn ?_)
  all_goals (refine WC.sub [(2, _), (3, _)] ⟨rfl, rfl, trivial⟩ ?_)
  all_goals (refine WC.ret ?_)
  all_goals (repeat' (with_reducible first | refine thenP_r ?_ | refine blockP_r ?_))
  all_goals (refine retP_2 _ _ ⟨⟨_, rfl, ld_blk (fun w => Tryz.isAgg85 w) (fun w => Tryz.sizeOf85 w) hb7 rfl⟩, rfl, trivial⟩ ?_)
  all_goals (exact ⟨_, rfl, hw6.ext hx7 (fun q hq e => by obtain ⟨_, z⟩ := own_kind hw6 hq; rw [e, hb26] at z; simp at z), (hX3.trans w6.ext).trans' hx7 (fun q hq e => by have := hx1.size; omega)⟩)
set_option maxHeartbeats 4000000 in
set_option maxRecDepth 100000 in
theorem encP_75 {h : Heap} (b : Bk) (hb : b.ok h) (hw : b.wf) (hmd : b.mid) (hmay : b.may) (hk : b.kind = 75) :
    CallsH Tryz.prog 53 ⟨[.agg ⟨b.cells⟩]⟩ h fun u h' => ∃ v', u = .tuple ⟨[.agg ⟨[.int .u8 75, v']⟩, In 0]⟩ ∧ Own h' v' 5 1 (encBk b).length (bys (encBk b)) ∧ Ext No h h' := by
  have kc := fun h' (hx : Ext No h h') => checkA_back b (hb.ext0 hx) hw.kind hmd
  have hL : encBk b = be b.n 4 ++ be b.m 4 := by simp [encBk, hk]
  rw [hL]
  clear hL
  have hst := hw.status
  obtain ⟨md1, md2, md3, md4, md5, md6, md7, md8, md9, md10⟩ := hmd
  have m_c := hmay.cols.2
  have m_o := hmay.oids.2
  have m_n := hmay.n
  have m_m := hmay.m
  have m_r := hmay.row.2
  have hF : ∀ f ∈ b.fields, f.t.length ≤ 200000 ∧ 0 ≤ f.k ∧ f.k ≤ 255 := fun f hf => ⟨md7 f hf, hw.codes f hf⟩
  clear hw
  obtain ⟨ho, hc, hr, hf⟩ := hb
  obtain ⟨k, st, t, n, v, x, y, vo, lo, vc, lc, vr, lr, vf, lf⟩ := b
  dsimp only at hk hst ho hc hr hf md1 md2 md3 md4 md5 md6 md7 md8 md9 md10 m_c m_o m_n m_m m_r hF ⊢
  have hro := ho.1
  have hrc := hc.1
  have hrr := hr.1
  have hrf := hf.1
  obtain ⟨Ao, co, rfl, _⟩ := id hro
  obtain ⟨Ac, cc, rfl, _⟩ := id hrc
  obtain ⟨Ar, cr, rfl, _⟩ := id hrr
  obtain ⟨Af, cf, rfl, _⟩ := id hrf
  dsimp only [Bk.cells] at kc ⊢
  subst hk
  refine calls [(0, _)] Tryz.func53 rfl Tryz.ntmps53 rfl ⟨rfl, trivial⟩ ?_
  all_goals (refine WC.sr ?_)
  all_goals (refine WL.stepR (okE_box rfl) rfl rfl rfl ?_
             rintro _ h1 ⟨b1, rfl, hg1, hb1, hx1⟩)
  all_goals (refine WL.stepR (okE_alloc (fun w => Tryz.zeroValue85 w)) rfl rfl rfl ?_
             rintro _ h2 ⟨b2, rfl, hg2, hb2, hx2⟩)
  all_goals (have hX2 := hx1.trans hx2
             have hb12 := hx2.obj hb1 nos)
  all_goals (refine Go ?_)
  all_goals (refine WC.seq ?_)
  all_goals (refine WC.sr ?_)
  all_goals (refine WL.step (ok_loadN (fun w => Tryz.isAgg32 w) (fun w => Tryz.sizeOf32 w) rfl rfl (by exact At.of_block hb12)) rfl rfl rfl ?_)
  all_goals (refine WL.call (vs := [_]) rfl (fun a w => Tryz.call65 a w) rfl (kc _ hX2) rfl rfl rfl ?_
             rintro _ h3 ⟨⟨e, rfl, he⟩, hx3⟩
             obtain rfl := he.2 hmay)
  all_goals (have hb13 := hx3.obj hb12 nos
             have hb23 := hx3.obj hb2 nos
             have hX3 := hX2.trans hx3)
  all_goals (refine Go ?_)
  all_goals (refine WC.sub [(1, _), (2, _), (4, _)] ⟨rfl, rfl, rfl, trivial⟩ ?_)
  all_goals (refine WC.sr ?_)
  all_goals (refine Go ?_)
  all_goals (refine goC 1 2 ?_ ?_ <;> first | exact ⟨⟩ | refine Hb.mk fun hb => ?_ | skip)
  all_goals (first | (fail_if_success refine goB 1 ?_) | (
  refine goB 1 ?_
  all_goals (refine WC.sr ?_)
  all_goals (refine WL.step (ok_buildF (vs := []) (cs := [_, _]) (fun | [] => [(.int .u8 0), (.slice none 0 0)] | _ => []) rfl rfl (by kernel_rfl)) rfl rfl rfl ?_)
  all_goals (refine Go ?_)
  all_goals (refine WL.stepR0 (okE_storeW (fun w => Tryz.sizeOf85 w) rfl rfl rfl (by assumption) rfl (by simp [Value.oneCell'])) rfl rfl ?_
             rintro _ h1 ⟨hb1, hx1⟩)
  all_goals (refine Go ?_)
  all_goals (refine WC.sub [(2, _), (3, _)] ⟨rfl, rfl, trivial⟩ ?_)
  all_goals (refine WC.ret ?_)
  all_goals (repeat' (with_reducible first | refine thenP_r ?_ | refine blockP_r ?_))
  all_goals (refine retP_2 _ _ ⟨⟨_, rfl, ld_blk (fun w => Tryz.isAgg85 w) (fun w => Tryz.sizeOf85 w) hb7 rfl⟩, rfl, trivial⟩ ?_)
  all_goals (exact ⟨_, rfl, hw6.ext hx7 (fun q hq e => by obtain ⟨_, z⟩ := own_kind hw6 hq; rw [e, hb26] at z; simp at z), (hX3.trans w6.ext).trans' hx7 (fun q hq e => by have := hx1.size; omega)⟩)
  skip))
  all_goals (first | (fail_if_success refine goB 2 ?_) | (
  refine goB 2 ?_
  all_goals (refine WC.skip ?_)
  skip))
  all_goals (refine Gn ?_)
  all_goals (refine WC.sr ?_)
  all_goals (refine WL.step (ok_buildF (vs := []) (cs := [_]) (fun | [] => [(.slice none 0 0)] | _ => []) rfl rfl (by kernel_rfl)) rfl rfl rfl ?_)
  all_goals (refine WL.stepR (okE_box rfl) rfl rfl rfl ?_
             rintro _ h4 ⟨b5, rfl, hg5, hb5, hx4⟩)
  all_goals (have hb14 := hx4.obj hb13 nos
             have hb24 := hx4.obj hb23 nos
             have l1 := lt_of_some hb13
             have l2 := lt_of_some hb23
             have w4 : Wr h3 h4 b5 nilV [] := ⟨hb5, Own.nil _ _ _, ⟨by omega, by simp [Value.ownBlock]⟩, hx4⟩)
  all_goals (refine Go ?_)
  all_goals (refine WC.sub [(1, _), (2, _), (5, _)] ⟨rfl, rfl, rfl, trivial⟩ ?_)
  all_goals (refine WC.seq ?_)
  all_goals (refine WC.sr ?_)
  all_goals (refine Go ?_)
  all_goals (refine WL.step (ok_load (fun w => Tryz.isAgg5 w) rfl (by first | exact cell_blk hb14 rfl | assumption | exact cell_blk (by assumption) rfl)) rfl rfl rfl ?_)
  all_goals (refine Gn ?_)
  all_goals (refine WC.block ?_)
  all_goals (refine WC.sr ?_)
  all_goals (refine Go ?_)
  all_goals (refine goC 3 4 ?_ ?_ <;> first | exact ⟨⟩ | refine Hb.mk fun hb => ?_ | skip)
  all_goals (first | (fail_if_success refine goB 4 ?_) | (
  refine goB 4 ?_
  all_goals (refine WC.sr ?_)
  all_goals (refine Go ?_)
  all_goals (refine WC.sub [(1, _), (2, _), (5, _), (19, _), (24, _)] ⟨rfl, rfl, rfl, rfl, rfl, trivial⟩ ?_)
  all_goals (refine goC 5 6 ?_ ?_ <;> first | exact ⟨⟩ | refine Hb.mk fun hb => ?_ | skip)
  all_goals (first | (fail_if_success refine goB 6 ?_) | (
  refine goB 6 ?_
  all_goals (refine WC.sr ?_)
  all_goals (refine Go ?_)
  all_goals (refine goC 7 8 ?_ ?_ <;> first | exact ⟨⟩ | refine Hb.mk fun hb => ?_ | skip)
  all_goals (first | (fail_if_success refine goB 7 ?_) | (
  refine goB 7 ?_
  all_goals (refine WC.sr ?_)
  all_goals (refine Go ?_)
  all_goals (refine WL.step (ok_load (fun w => Tryz.isAgg3 w) rfl (by first | exact cell_blk hb14 rfl | assumption | exact cell_blk (by assumption) rfl)) rfl rfl rfl ?_)
  all_goals (refine WL.call (vs := [_, _, _]) rfl (fun a w => Tryz.call66 a w) rfl (num_w w4 x 4 sz4 (rt4s (by omega)) (by decide)) rfl rfl rfl ?_
             rintro _ h5 ⟨v5, w5, t5⟩
             have hb15 := w5.ext.obj hb13 nos)
  all_goals (refine Gn ?_)
  all_goals (refine WC.sub [(1, _), (2, _), (5, _)] ⟨rfl, rfl, rfl, trivial⟩ ?_)
  all_goals (refine WC.region ?_)
  all_goals (refine Go ?_)
  all_goals (refine WL.step (ok_load (fun w => Tryz.isAgg3 w) rfl (by first | exact cell_blk hb15 rfl | assumption | exact cell_blk (by assumption) rfl)) rfl rfl rfl ?_)
  all_goals (refine WL.call (vs := [_, _, _]) rfl (fun a w => Tryz.call66 a w) rfl (num_w w5 y 4 sz4 (rt4s (by omega)) (by simp only [List.length_append, be_len, List.length_nil]; omega)) rfl rfl rfl ?_
             rintro _ h6 ⟨v6, w6a, t6⟩
             have w6 : Wr h3 h6 b5 v6 (be x 4 ++ be y 4) := by simpa using w6a)
  all_goals (refine Gn ?_)
  skip))
  all_goals (first | (fail_if_success refine goB 8 ?_) | (
  refine goB 8 ?_
  all_goals (refine WC.sr ?_)
  all_goals (refine Go ?_)
  all_goals (refine WC.sub [(1, _), (2, _), (5, _), (19, _), (44, _)] ⟨rfl, rfl, rfl, rfl, rfl, trivial⟩ ?_)
  all_goals (refine goC 9 10 ?_ ?_ <;> first | exact ⟨⟩ | refine Hb.mk fun hb => ?_ | skip)
  all_goals (first | (fail_if_success refine goB 9 ?_) | (
  refine goB 9 ?_
  all_goals (refine WC.region ?_)
  all_goals (refine Go ?_)
  all_goals (refine WL.step (ok_load (fun w => Tryz.isAgg5 w) rfl (by first | assumption | exact cell_blk (by assumption) rfl)) rfl rfl rfl ?_)
  all_goals (refine WL.stepR (okE_buildSlice (vs := [_]) (cs := [_]) (fun | [a0] => [a0] | _ => []) Tryz.underlying24 rfl rfl (by kernel_rfl)) rfl rfl rfl ?_
             rintro _ h1 ⟨b1, rfl, hg1, hb1, hx1⟩)
  all_goals (refine WL.step (ok_nilCheck rfl) rfl rfl rfl ?_)
  all_goals (refine Go ?_)
  all_goals (refine WL.stepR0 (okE_store (fun w => Tryz.sizeOf24 w) rfl rfl (by assumption) (Nat.le_of_ble_eq_true rfl) rfl rfl) rfl rfl ?_
             rintro _ h1 ⟨hb1, hx1⟩)
  all_goals (refine Gn ?_)
  skip))
  all_goals (first | (fail_if_success refine goB 10 ?_) | (
  refine goB 10 ?_
  all_goals (refine WC.sr ?_)
  all_goals (refine Go ?_)
  all_goals (refine goC 11 12 ?_ ?_ <;> first | exact ⟨⟩ | refine Hb.mk fun hb => ?_ | skip)
  all_goals (first | (fail_if_success refine goB 12 ?_) | (
  refine goB 12 ?_
  all_goals (refine WC.sr ?_)
  all_goals (refine Go ?_)
  all_goals (refine WC.sub [(1, _), (2, _), (5, _), (19, _), (58, _)] ⟨rfl, rfl, rfl, rfl, rfl, trivial⟩ ?_)
  all_goals (refine goC 13 14 ?_ ?_ <;> first | exact ⟨⟩ | refine Hb.mk fun hb => ?_ | skip)
  all_goals (first | (fail_if_success refine goB 14 ?_) | (
  refine goB 14 ?_
  all_goals (refine WC.sr ?_)
  all_goals (refine Go ?_)
  all_goals (refine goC 15 16 ?_ ?_ <;> first | exact ⟨⟩ | refine Hb.mk fun hb => ?_ | skip)
  all_goals (first | (fail_if_success refine goB 16 ?_) | (
  refine goB 16 ?_
  all_goals (refine WC.sr ?_)
  all_goals (refine Go ?_)
  all_goals (refine WC.sub [(1, _), (2, _), (5, _), (19, _), (82, _)] ⟨rfl, rfl, rfl, rfl, rfl, trivial⟩ ?_)
  all_goals (refine goC 19 20 ?_ ?_ <;> first | exact ⟨⟩ | refine Hb.mk fun hb => ?_ | skip)
  all_goals (first | (fail_if_success refine goB 20 ?_) | (
  refine goB 20 ?_
  all_goals (refine WC.seq ?_)
  all_goals (refine WC.sr ?_)
  all_goals (refine Go ?_)
  all_goals (refine goC 23 24 ?_ ?_ <;> first | exact ⟨⟩ | refine Hb.mk fun hb => ?_ | skip)
  all_goals (first | (fail_if_success refine goB 23 ?_) | (
  refine goB 23 ?_
  all_goals (refine WC.skip ?_)
  skip))
  all_goals (first | (fail_if_success refine goB 24 ?_) | (
  refine goB 24 ?_
  all_goals (refine WC.region ?_)
  all_goals (refine Go ?_)
  skip))
  all_goals (refine Gn ?_)
  all_goals (refine goC 25 26 ?_ ?_ <;> first | exact ⟨⟩ | refine Hb.mk fun hb => ?_ | skip)
  all_goals (first | (fail_if_success refine goB 26 ?_) | (
  refine goB 26 ?_
  all_goals (refine WC.skip ?_)
  skip))
  skip))
  skip))
  skip))
  skip))
  skip))
  skip))
  skip))
  skip))
  all_goals (refine Gn ?_)
  all_goals (refine WC.seq ?_)
  all_goals (refine WC.drawH (fun h' => Ext No h6 h') 7 9 rfl fol ?_)
  all_goals (have hb16 := w6.ext.obj hb13 nos
             have hb26 := w6.ext.obj hb23 nos
             have hw6 := w6.own
             obtain ⟨A6, c6, e6, _⟩ := hw6.slice
             rw [e6] at w6 hw6)
  all_goals (refine WH.tk 0 rfl (fun hq hC => ok_fieldAddr rfl Tryz.underlying32 rfl (fun w => Tryz.sizeOf5 w)) rfl rfl rfl ?_)
  all_goals (refine WH.tk 1 rfl (fun hq hC => ok_load (fun w => Tryz.isAgg5 w) rfl (by first | exact hC.cell (by first | exact cell_blk hb16 rfl | assumption | exact cell_blk (by assumption) rfl) nos)) rfl rfl rfl ?_)
  all_goals (refine WH.tk 2 rfl (fun hq hC => ok_move rfl) rfl rfl rfl ?_)
  all_goals (refine WH.tk 3 rfl (fun hq hC => ok_nilCheck rfl) rfl rfl rfl ?_)
  all_goals (refine WH.tk 4 rfl (fun hq hC => ok_fieldAddr rfl Tryz.underlying97 rfl (fun w => Tryz.sizeOf24 w)) rfl rfl rfl ?_)
  all_goals (refine WH.tk 5 rfl (fun hq hC => ok_load (fun w => Tryz.isAgg24 w) rfl (by first | exact hC.cell (by first | exact cell_blk w6.blk rfl | assumption | exact cell_blk (by assumption) rfl) nos)) rfl rfl rfl ?_)
  all_goals (refine WH.tk 6 rfl (fun hq hC => ok_buildF (vs := [_, _]) (cs := [_, _]) (fun | [a0, a1] => [a0, a1] | _ => []) rfl rfl (by kernel_rfl)) rfl rfl rfl ?_)
  all_goals (refine WH.one 7 (by kernel_rfl) ?_)
  all_goals (refine Comes1.run0 rfl (okE_storeW (fun w => Tryz.sizeOf85 w) rfl rfl rfl hb26 rfl (by simp [Value.oneCell'])) rfl rfl ?_ (fun _ => by kernel_rfl)
             rintro _ h7 ⟨hb7, hx7⟩)
  all_goals (refine ⟨fun e => (by cases e), ?_⟩)
  all_goals (refine WH.one 8 (by kernel_rfl) ?_)
  all_goals (refine Comes1.run rfl (OkP.r (ok_assign rfl)) rfl rfl rfl ?_ (fun _ => by kernel_rfl)
             rintro _ hz ⟨rfl, _⟩
             subst hz)
  all_goals (refine ⟨fun e => (by cases e), ?_⟩)
  all_goals (refine WH.done (by kernel_rfl) ?_)
  all_goals (refine Gn ?_)
  all_goals (refine WC.sub [(2, _), (3, _)] ⟨rfl, rfl, trivial⟩ ?_)
  all_goals (refine WC.ret ?_)
  all_goals (repeat' (with_reducible first | refine thenP_r ?_ | refine blockP_r ?_))
  all_goals (refine retP_2 _ _ ⟨⟨_, rfl, ld_blk (fun w => Tryz.isAgg85 w) (fun w => Tryz.sizeOf85 w) hb7 rfl⟩, rfl, trivial⟩ ?_)
  all_goals (exact ⟨_, rfl, hw6.ext hx7 (fun q hq e => by obtain ⟨_, z⟩ := own_kind hw6 hq; rw [e, hb26] at z; simp at z), (hX3.trans w6.ext).trans' hx7 (fun q hq e => by have := hx1.size; omega)⟩)
set_option maxHeartbeats 4000000 in
set_option maxRecDepth 100000 in
theorem encP_90 {h : Heap} (b : Bk) (hb : b.ok h) (hw : b.wf) (hmd : b.mid) (hmay : b.may) (hk : b.kind = 90) :
    CallsH Tryz.prog 53 ⟨[.agg ⟨b.cells⟩]⟩ h fun u h' => ∃ v', u = .tuple ⟨[.agg ⟨[.int .u8 90, v']⟩, In 0]⟩ ∧ Own h' v' 5 1 (encBk b).length (bys (encBk b)) ∧ Ext No h h' := by
  have kc := fun h' (hx : Ext No h h') => checkA_back b (hb.ext0 hx) hw.kind hmd
  have hL : encBk b = [UInt8.ofNat b.status.toNat] := by simp [encBk, hk]
  rw [hL]
  clear hL
  have hst := hw.status
  obtain ⟨md1, md2, md3, md4, md5, md6, md7, md8, md9, md10⟩ := hmd
  have m_c := hmay.cols.2
  have m_o := hmay.oids.2
  have m_n := hmay.n
  have m_m := hmay.m
  have m_r := hmay.row.2
  have hF : ∀ f ∈ b.fields, f.t.length ≤ 200000 ∧ 0 ≤ f.k ∧ f.k ≤ 255 := fun f hf => ⟨md7 f hf, hw.codes f hf⟩
  clear hw
  obtain ⟨ho, hc, hr, hf⟩ := hb
  obtain ⟨k, st, t, n, v, x, y, vo, lo, vc, lc, vr, lr, vf, lf⟩ := b
  dsimp only at hk hst ho hc hr hf md1 md2 md3 md4 md5 md6 md7 md8 md9 md10 m_c m_o m_n m_m m_r hF ⊢
  have hro := ho.1
  have hrc := hc.1
  have hrr := hr.1
  have hrf := hf.1
  obtain ⟨Ao, co, rfl, _⟩ := id hro
  obtain ⟨Ac, cc, rfl, _⟩ := id hrc
  obtain ⟨Ar, cr, rfl, _⟩ := id hrr
  obtain ⟨Af, cf, rfl, _⟩ := id hrf
  dsimp only [Bk.cells] at kc ⊢
  subst hk
  refine calls [(0, _)] Tryz.func53 rfl Tryz.ntmps53 rfl ⟨rfl, trivial⟩ ?_
  all_goals (refine WC.sr ?_)
  all_goals (refine WL.stepR (okE_box rfl) rfl rfl rfl ?_
             rintro _ h1 ⟨b1, rfl, hg1, hb1, hx1⟩)
  all_goals (refine WL.stepR (okE_alloc (fun w => Tryz.zeroValue85 w)) rfl rfl rfl ?_
             rintro _ h2 ⟨b2, rfl, hg2, hb2, hx2⟩)
  all_goals (have hX2 := hx1.trans hx2
             have hb12 := hx2.obj hb1 nos)
  all_goals (refine Go ?_)
  all_goals (refine WC.seq ?_)
  all_goals (refine WC.sr ?_)
  all_goals (refine WL.step (ok_loadN (fun w => Tryz.isAgg32 w) (fun w => Tryz.sizeOf32 w) rfl rfl (by exact At.of_block hb12)) rfl rfl rfl ?_)
  all_goals (refine WL.call (vs := [_]) rfl (fun a w => Tryz.call65 a w) rfl (kc _ hX2) rfl rfl rfl ?_
             rintro _ h3 ⟨⟨e, rfl, he⟩, hx3⟩
             obtain rfl := he.2 hmay)
  all_goals (have hb13 := hx3.obj hb12 nos
             have hb23 := hx3.obj hb2 nos
             have hX3 := hX2.trans hx3)
  all_goals (refine Go ?_)
  all_goals (refine WC.sub [(1, _), (2, _), (4, _)] ⟨rfl, rfl, rfl, trivial⟩ ?_)
  all_goals (refine WC.sr ?_)
  all_goals (refine Go ?_)
  all_goals (refine goC 1 2 ?_ ?_ <;> first | exact ⟨⟩ | refine Hb.mk fun hb => ?_ | skip)
  all_goals (first | (fail_if_success refine goB 1 ?_) | (
  refine goB 1 ?_
  all_goals (refine WC.sr ?_)
  all_goals (refine WL.step (ok_buildF (vs := []) (cs := [_, _]) (fun | [] => [(.int .u8 0), (.slice none 0 0)] | _ => []) rfl rfl (by kernel_rfl)) rfl rfl rfl ?_)
  all_goals (refine Go ?_)
  all_goals (refine WL.stepR0 (okE_storeW (fun w => Tryz.sizeOf85 w) rfl rfl rfl (by assumption) rfl (by simp [Value.oneCell'])) rfl rfl ?_
             rintro _ h1 ⟨hb1, hx1⟩)
  all_goals (refine Go ?_)
  all_goals (refine WC.sub [(2, _), (3, _)] ⟨rfl, rfl, trivial⟩ ?_)
  all_goals (refine WC.ret ?_)
  all_goals (repeat' (with_reducible first | refine thenP_r ?_ | refine blockP_r ?_))
  all_goals (refine retP_2 _ _ ⟨⟨_, rfl, ld_blk (fun w => Tryz.isAgg85 w) (fun w => Tryz.sizeOf85 w) hb7 rfl⟩, rfl, trivial⟩ ?_)
  all_goals (exact ⟨_, rfl, hw6.ext hx7 (fun q hq e => by obtain ⟨_, z⟩ := own_kind hw6 hq; rw [e, hb26] at z; simp at z), (hX3.trans w6.ext).trans' hx7 (fun q hq e => by have := hx1.size; omega)⟩)
  skip))
  all_goals (first | (fail_if_success refine goB 2 ?_) | (
  refine goB 2 ?_
  all_goals (refine WC.skip ?_)
  skip))
  all_goals (refine Gn ?_)
  all_goals (refine WC.sr ?_)
  all_goals (refine WL.step (ok_buildF (vs := []) (cs := [_]) (fun | [] => [(.slice none 0 0)] | _ => []) rfl rfl (by kernel_rfl)) rfl rfl rfl ?_)
  all_goals (refine WL.stepR (okE_box rfl) rfl rfl rfl ?_
             rintro _ h4 ⟨b5, rfl, hg5, hb5, hx4⟩)
  all_goals (have hb14 := hx4.obj hb13 nos
             have hb24 := hx4.obj hb23 nos
             have l1 := lt_of_some hb13
             have l2 := lt_of_some hb23
             have w4 : Wr h3 h4 b5 nilV [] := ⟨hb5, Own.nil _ _ _, ⟨by omega, by simp [Value.ownBlock]⟩, hx4⟩)
  all_goals (refine Go ?_)
  all_goals (refine WC.sub [(1, _), (2, _), (5, _)] ⟨rfl, rfl, rfl, trivial⟩ ?_)
  all_goals (refine WC.seq ?_)
  all_goals (refine WC.sr ?_)
  all_goals (refine Go ?_)
  all_goals (refine WL.step (ok_load (fun w => Tryz.isAgg5 w) rfl (by first | exact cell_blk hb14 rfl | assumption | exact cell_blk (by assumption) rfl)) rfl rfl rfl ?_)
  all_goals (refine Gn ?_)
  all_goals (refine WC.block ?_)
  all_goals (refine WC.sr ?_)
  all_goals (refine Go ?_)
  all_goals (refine goC 3 4 ?_ ?_ <;> first | exact ⟨⟩ | refine Hb.mk fun hb => ?_ | skip)
  all_goals (first | (fail_if_success refine goB 4 ?_) | (
  refine goB 4 ?_
  all_goals (refine WC.sr ?_)
  all_goals (refine Go ?_)
  all_goals (refine WC.sub [(1, _), (2, _), (5, _), (19, _), (24, _)] ⟨rfl, rfl, rfl, rfl, rfl, trivial⟩ ?_)
  all_goals (refine goC 5 6 ?_ ?_ <;> first | exact ⟨⟩ | refine Hb.mk fun hb => ?_ | skip)
  all_goals (first | (fail_if_success refine goB 6 ?_) | (
  refine goB 6 ?_
  all_goals (refine WC.sr ?_)
  all_goals (refine Go ?_)
  all_goals (refine goC 7 8 ?_ ?_ <;> first | exact ⟨⟩ | refine Hb.mk fun hb => ?_ | skip)
  all_goals (first | (fail_if_success refine goB 8 ?_) | (
  refine goB 8 ?_
  all_goals (refine WC.sr ?_)
  all_goals (refine Go ?_)
  all_goals (refine WC.sub [(1, _), (2, _), (5, _), (19, _), (44, _)] ⟨rfl, rfl, rfl, rfl, rfl, trivial⟩ ?_)
  all_goals (refine goC 9 10 ?_ ?_ <;> first | exact ⟨⟩ | refine Hb.mk fun hb => ?_ | skip)
  all_goals (first | (fail_if_success refine goB 9 ?_) | (
  refine goB 9 ?_
  all_goals (refine WC.region ?_)
  all_goals (refine Go ?_)
  all_goals (refine WL.step (ok_load (fun w => Tryz.isAgg5 w) rfl (by first | exact cell_blk hb14 rfl | assumption | exact cell_blk (by assumption) rfl)) rfl rfl rfl ?_)
  all_goals (refine WL.stepR (okE_buildSlice (vs := [_]) (cs := [_]) (fun | [a0] => [a0] | _ => []) Tryz.underlying24 rfl rfl (by kernel_rfl)) rfl rfl rfl ?_
             rintro _ h5 ⟨b6, rfl, hg6, hb6, hx5⟩)
  all_goals (refine WL.step (ok_nilCheck rfl) rfl rfl rfl ?_)
  all_goals (refine Go ?_)
  all_goals (refine WL.stepR0 (okE_store (fun w => Tryz.sizeOf24 w) rfl rfl (hx5.obj w4.blk nos) (Nat.le_of_ble_eq_true rfl) rfl rfl) rfl rfl ?_
             rintro _ h6 ⟨hb66, hx6⟩)
  all_goals (have lb5 := lt_of_some w4.blk
             have hb6b := hx6.obj hb6 (fun e => by omega)
             have w6 : Wr h3 h6 b5 _ ([UInt8.ofNat st.toNat]) := ⟨hb66, own_blk (by show h6[b6]? = some (.cells ⟨bys [UInt8.ofNat st.toNat]⟩ 5 (0, 0)); rw [show bys [UInt8.ofNat st.toNat] = [.int .u8 st] by simp only [bys, List.map_cons, List.map_nil]; exact congrArg (fun z => [z]) (byK hst.1 hst.2)]; exact hb6b) rfl (by decide), ⟨w4.lo.1, fun q hq => by have : b6 = q := (by simpa [Value.ownBlock] using hq); have := hx4.size; omega⟩, (w4.ext.trans hx5).trans' hx6 (fun q hq e => by have := w4.lo.1; omega)⟩)
  all_goals (refine Gn ?_)
  skip))
  all_goals (first | (fail_if_success refine goB 10 ?_) | (
  refine goB 10 ?_
  all_goals (refine WC.sr ?_)
  all_goals (refine Go ?_)
  all_goals (refine goC 11 12 ?_ ?_ <;> first | exact ⟨⟩ | refine Hb.mk fun hb => ?_ | skip)
  all_goals (first | (fail_if_success refine goB 12 ?_) | (
  refine goB 12 ?_
  all_goals (refine WC.sr ?_)
  all_goals (refine Go ?_)
  all_goals (refine WC.sub [(1, _), (2, _), (5, _), (19, _), (58, _)] ⟨rfl, rfl, rfl, rfl, rfl, trivial⟩ ?_)
  all_goals (refine goC 13 14 ?_ ?_ <;> first | exact ⟨⟩ | refine Hb.mk fun hb => ?_ | skip)
  all_goals (first | (fail_if_success refine goB 14 ?_) | (
  refine goB 14 ?_
  all_goals (refine WC.sr ?_)
  all_goals (refine Go ?_)
  all_goals (refine goC 15 16 ?_ ?_ <;> first | exact ⟨⟩ | refine Hb.mk fun hb => ?_ | skip)
  all_goals (first | (fail_if_success refine goB 16 ?_) | (
  refine goB 16 ?_
  all_goals (refine WC.sr ?_)
  all_goals (refine Go ?_)
  all_goals (refine WC.sub [(1, _), (2, _), (5, _), (19, _), (82, _)] ⟨rfl, rfl, rfl, rfl, rfl, trivial⟩ ?_)
  all_goals (refine goC 19 20 ?_ ?_ <;> first | exact ⟨⟩ | refine Hb.mk fun hb => ?_ | skip)
  all_goals (first | (fail_if_success refine goB 20 ?_) | (
  refine goB 20 ?_
  all_goals (refine WC.seq ?_)
  all_goals (refine WC.sr ?_)
  all_goals (refine Go ?_)
  all_goals (refine goC 23 24 ?_ ?_ <;> first | exact ⟨⟩ | refine Hb.mk fun hb => ?_ | skip)
  all_goals (first | (fail_if_success refine goB 23 ?_) | (
  refine goB 23 ?_
  all_goals (refine WC.skip ?_)
  skip))
  all_goals (first | (fail_if_success refine goB 24 ?_) | (
  refine goB 24 ?_
  all_goals (refine WC.region ?_)
  all_goals (refine Go ?_)
  skip))
  all_goals (refine Gn ?_)
  all_goals (refine goC 25 26 ?_ ?_ <;> first | exact ⟨⟩ | refine Hb.mk fun hb => ?_ | skip)
  all_goals (first | (fail_if_success refine goB 26 ?_) | (
  refine goB 26 ?_
  all_goals (refine WC.skip ?_)
  skip))
  skip))
  skip))
  skip))
  skip))
  skip))
  skip))
  skip))
  skip))
  all_goals (refine Gn ?_)
  all_goals (refine WC.seq ?_)
  all_goals (refine WC.drawH (fun h' => Ext No h6 h') 7 9 rfl fol ?_)
  all_goals (have hb16 := w6.ext.obj hb13 nos
             have hb26 := w6.ext.obj hb23 nos
             have hw6 := w6.own
             obtain ⟨A6, c6, e6, _⟩ := hw6.slice
             rw [e6] at w6 hw6)
  all_goals (refine WH.tk 0 rfl (fun hq hC => ok_fieldAddr rfl Tryz.underlying32 rfl (fun w => Tryz.sizeOf5 w)) rfl rfl rfl ?_)
  all_goals (refine WH.tk 1 rfl (fun hq hC => ok_load (fun w => Tryz.isAgg5 w) rfl (by first | exact hC.cell (by first | exact cell_blk hb16 rfl | assumption | exact cell_blk (by assumption) rfl) nos)) rfl rfl rfl ?_)
  all_goals (refine WH.tk 2 rfl (fun hq hC => ok_move rfl) rfl rfl rfl ?_)
  all_goals (refine WH.tk 3 rfl (fun hq hC => ok_nilCheck rfl) rfl rfl rfl ?_)
  all_goals (refine WH.tk 4 rfl (fun hq hC => ok_fieldAddr rfl Tryz.underlying97 rfl (fun w => Tryz.sizeOf24 w)) rfl rfl rfl ?_)
  all_goals (refine WH.tk 5 rfl (fun hq hC => ok_load (fun w => Tryz.isAgg24 w) rfl (by first | exact hC.cell (by first | exact cell_blk w6.blk rfl | assumption | exact cell_blk (by assumption) rfl) nos)) rfl rfl rfl ?_)
  all_goals (refine WH.tk 6 rfl (fun hq hC => ok_buildF (vs := [_, _]) (cs := [_, _]) (fun | [a0, a1] => [a0, a1] | _ => []) rfl rfl (by kernel_rfl)) rfl rfl rfl ?_)
  all_goals (refine WH.one 7 (by kernel_rfl) ?_)
  all_goals (refine Comes1.run0 rfl (okE_storeW (fun w => Tryz.sizeOf85 w) rfl rfl rfl hb26 rfl (by simp [Value.oneCell'])) rfl rfl ?_ (fun _ => by kernel_rfl)
             rintro _ h7 ⟨hb7, hx7⟩)
  all_goals (refine ⟨fun e => (by cases e), ?_⟩)
  all_goals (refine WH.one 8 (by kernel_rfl) ?_)
  all_goals (refine Comes1.run rfl (OkP.r (ok_assign rfl)) rfl rfl rfl ?_ (fun _ => by kernel_rfl)
             rintro _ hz ⟨rfl, _⟩
             subst hz)
  all_goals (refine ⟨fun e => (by cases e), ?_⟩)
  all_goals (refine WH.done (by kernel_rfl) ?_)
  all_goals (refine Gn ?_)
  all_goals (refine WC.sub [(2, _), (3, _)] ⟨rfl, rfl, trivial⟩ ?_)
  all_goals (refine WC.ret ?_)
  all_goals (repeat' (with_reducible first | refine thenP_r ?_ | refine blockP_r ?_))
  all_goals (refine retP_2 _ _ ⟨⟨_, rfl, ld_blk (fun w => Tryz.isAgg85 w) (fun w => Tryz.sizeOf85 w) hb7 rfl⟩, rfl, trivial⟩ ?_)
  all_goals (exact ⟨_, rfl, hw6.ext hx7 (fun q hq e => by obtain ⟨_, z⟩ := own_kind hw6 hq; rw [e, hb26] at z; simp at z), (hX3.trans w6.ext).trans' hx7 (fun q hq e => by have := hx1.size; omega)⟩)
set_option maxHeartbeats 4000000 in
set_option maxRecDepth 100000 in
theorem encP_67 {h : Heap} (b : Bk) (hb : b.ok h) (hw : b.wf) (hmd : b.mid) (hmay : b.may) (hk : b.kind = 67) :
    CallsH Tryz.prog 53 ⟨[.agg ⟨b.cells⟩]⟩ h fun u h' => ∃ v', u = .tuple ⟨[.agg ⟨[.int .u8 67, v']⟩, In 0]⟩ ∧ Own h' v' 5 1 (encBk b).length (bys (encBk b)) ∧ Ext No h h' := by
  have kc := fun h' (hx : Ext No h h') => checkA_back b (hb.ext0 hx) hw.kind hmd
  have hL : encBk b = b.tag ++ [0] := by simp [encBk, hk]
  rw [hL]
  clear hL
  have hst := hw.status
  obtain ⟨md1, md2, md3, md4, md5, md6, md7, md8, md9, md10⟩ := hmd
  have m_c := hmay.cols.2
  have m_o := hmay.oids.2
  have m_n := hmay.n
  have m_m := hmay.m
  have m_r := hmay.row.2
  have hF : ∀ f ∈ b.fields, f.t.length ≤ 200000 ∧ 0 ≤ f.k ∧ f.k ≤ 255 := fun f hf => ⟨md7 f hf, hw.codes f hf⟩
  clear hw
  obtain ⟨ho, hc, hr, hf⟩ := hb
  obtain ⟨k, st, t, n, v, x, y, vo, lo, vc, lc, vr, lr, vf, lf⟩ := b
  dsimp only at hk hst ho hc hr hf md1 md2 md3 md4 md5 md6 md7 md8 md9 md10 m_c m_o m_n m_m m_r hF ⊢
  have hro := ho.1
  have hrc := hc.1
  have hrr := hr.1
  have hrf := hf.1
  obtain ⟨Ao, co, rfl, _⟩ := id hro
  obtain ⟨Ac, cc, rfl, _⟩ := id hrc
  obtain ⟨Ar, cr, rfl, _⟩ := id hrr
  obtain ⟨Af, cf, rfl, _⟩ := id hrf
  dsimp only [Bk.cells] at kc ⊢
  subst hk
  refine calls [(0, _)] Tryz.func53 rfl Tryz.ntmps53 rfl ⟨rfl, trivial⟩ ?_
  all_goals (refine WC.sr ?_)
  all_goals (refine WL.stepR (okE_box rfl) rfl rfl rfl ?_
             rintro _ h1 ⟨b1, rfl, hg1, hb1, hx1⟩)
  all_goals (refine WL.stepR (okE_alloc (fun w => Tryz.zeroValue85 w)) rfl rfl rfl ?_
             rintro _ h2 ⟨b2, rfl, hg2, hb2, hx2⟩)
  all_goals (have hX2 := hx1.trans hx2
             have hb12 := hx2.obj hb1 nos)
  all_goals (refine Go ?_)
  all_goals (refine WC.seq ?_)
  all_goals (refine WC.sr ?_)
  all_goals (refine WL.step (ok_loadN (fun w => Tryz.isAgg32 w) (fun w => Tryz.sizeOf32 w) rfl rfl (by exact At.of_block hb12)) rfl rfl rfl ?_)
  all_goals (refine WL.call (vs := [_]) rfl (fun a w => Tryz.call65 a w) rfl (kc _ hX2) rfl rfl rfl ?_
             rintro _ h3 ⟨⟨e, rfl, he⟩, hx3⟩
             obtain rfl := he.2 hmay)
  all_goals (have hb13 := hx3.obj hb12 nos
             have hb23 := hx3.obj hb2 nos
             have hX3 := hX2.trans hx3)
  all_goals (refine Go ?_)
  all_goals (refine WC.sub [(1, _), (2, _), (4, _)] ⟨rfl, rfl, rfl, trivial⟩ ?_)
  all_goals (refine WC.sr ?_)
  all_goals (refine Go ?_)
  all_goals (refine goC 1 2 ?_ ?_ <;> first | exact ⟨⟩ | refine Hb.mk fun hb => ?_ | skip)
  all_goals (first | (fail_if_success refine goB 1 ?_) | (
  refine goB 1 ?_
  all_goals (refine WC.sr ?_)
  all_goals (refine WL.step (ok_buildF (vs := []) (cs := [_, _]) (fun | [] => [(.int .u8 0), (.slice none 0 0)] | _ => []) rfl rfl (by kernel_rfl)) rfl rfl rfl ?_)
  all_goals (refine Go ?_)
  all_goals (refine WL.stepR0 (okE_storeW (fun w => Tryz.sizeOf85 w) rfl rfl rfl (by assumption) rfl (by simp [Value.oneCell'])) rfl rfl ?_
             rintro _ h1 ⟨hb1, hx1⟩)
  all_goals (refine Go ?_)
  all_goals (refine WC.sub [(2, _), (3, _)] ⟨rfl, rfl, trivial⟩ ?_)
  all_goals (refine WC.ret ?_)
  all_goals (repeat' (with_reducible first | refine thenP_r ?_ | refine blockP_r ?_))
  all_goals (refine retP_2 _ _ ⟨⟨_, rfl, ld_blk (fun w => Tryz.isAgg85 w) (fun w => Tryz.sizeOf85 w) hb7 rfl⟩, rfl, trivial⟩ ?_)
  all_goals (exact ⟨_, rfl, hw6.ext hx7 (fun q hq e => by obtain ⟨_, z⟩ := own_kind hw6 hq; rw [e, hb26] at z; simp at z), (hX3.trans w6.ext).trans' hx7 (fun q hq e => by have := hx1.size; omega)⟩)
  skip))
  all_goals (first | (fail_if_success refine goB 2 ?_) | (
  refine goB 2 ?_
  all_goals (refine WC.skip ?_)
  skip))
  all_goals (refine Gn ?_)
  all_goals (refine WC.sr ?_)
  all_goals (refine WL.step (ok_buildF (vs := []) (cs := [_]) (fun | [] => [(.slice none 0 0)] | _ => []) rfl rfl (by kernel_rfl)) rfl rfl rfl ?_)
  all_goals (refine WL.stepR (okE_box rfl) rfl rfl rfl ?_
             rintro _ h4 ⟨b5, rfl, hg5, hb5, hx4⟩)
  all_goals (have hb14 := hx4.obj hb13 nos
             have hb24 := hx4.obj hb23 nos
             have l1 := lt_of_some hb13
             have l2 := lt_of_some hb23
             have w4 : Wr h3 h4 b5 nilV [] := ⟨hb5, Own.nil _ _ _, ⟨by omega, by simp [Value.ownBlock]⟩, hx4⟩)
  all_goals (refine Go ?_)
  all_goals (refine WC.sub [(1, _), (2, _), (5, _)] ⟨rfl, rfl, rfl, trivial⟩ ?_)
  all_goals (refine WC.seq ?_)
  all_goals (refine WC.sr ?_)
  all_goals (refine Go ?_)
  all_goals (refine WL.step (ok_load (fun w => Tryz.isAgg5 w) rfl (by first | exact cell_blk hb14 rfl | assumption | exact cell_blk (by assumption) rfl)) rfl rfl rfl ?_)
  all_goals (refine Gn ?_)
  all_goals (refine WC.block ?_)
  all_goals (refine WC.sr ?_)
  all_goals (refine Go ?_)
  all_goals (refine goC 3 4 ?_ ?_ <;> first | exact ⟨⟩ | refine Hb.mk fun hb => ?_ | skip)
  all_goals (first | (fail_if_success refine goB 4 ?_) | (
  refine goB 4 ?_
  all_goals (refine WC.sr ?_)
  all_goals (refine Go ?_)
  all_goals (refine WC.sub [(1, _), (2, _), (5, _), (19, _), (24, _)] ⟨rfl, rfl, rfl, rfl, rfl, trivial⟩ ?_)
  all_goals (refine goC 5 6 ?_ ?_ <;> first | exact ⟨⟩ | refine Hb.mk fun hb => ?_ | skip)
  all_goals (first | (fail_if_success refine goB 6 ?_) | (
  refine goB 6 ?_
  all_goals (refine WC.sr ?_)
  all_goals (refine Go ?_)
  all_goals (refine goC 7 8 ?_ ?_ <;> first | exact ⟨⟩ | refine Hb.mk fun hb => ?_ | skip)
  all_goals (first | (fail_if_success refine goB 8 ?_) | (
  refine goB 8 ?_
  all_goals (refine WC.sr ?_)
  all_goals (refine Go ?_)
  all_goals (refine WC.sub [(1, _), (2, _), (5, _), (19, _), (44, _)] ⟨rfl, rfl, rfl, rfl, rfl, trivial⟩ ?_)
  all_goals (refine goC 9 10 ?_ ?_ <;> first | exact ⟨⟩ | refine Hb.mk fun hb => ?_ | skip)
  all_goals (first | (fail_if_success refine goB 9 ?_) | (
  refine goB 9 ?_
  all_goals (refine WC.region ?_)
  all_goals (refine Go ?_)
  all_goals (refine WL.step (ok_load (fun w => Tryz.isAgg5 w) rfl (by first | assumption | exact cell_blk (by assumption) rfl)) rfl rfl rfl ?_)
  all_goals (refine WL.stepR (okE_buildSlice (vs := [_]) (cs := [_]) (fun | [a0] => [a0] | _ => []) Tryz.underlying24 rfl rfl (by kernel_rfl)) rfl rfl rfl ?_
             rintro _ h1 ⟨b1, rfl, hg1, hb1, hx1⟩)
  all_goals (refine WL.step (ok_nilCheck rfl) rfl rfl rfl ?_)
  all_goals (refine Go ?_)
  all_goals (refine WL.stepR0 (okE_store (fun w => Tryz.sizeOf24 w) rfl rfl (by assumption) (Nat.le_of_ble_eq_true rfl) rfl rfl) rfl rfl ?_
             rintro _ h1 ⟨hb1, hx1⟩)
  all_goals (refine Gn ?_)
  skip))
  all_goals (first | (fail_if_success refine goB 10 ?_) | (
  refine goB 10 ?_
  all_goals (refine WC.sr ?_)
  all_goals (refine Go ?_)
  all_goals (refine goC 11 12 ?_ ?_ <;> first | exact ⟨⟩ | refine Hb.mk fun hb => ?_ | skip)
  all_goals (first | (fail_if_success refine goB 11 ?_) | (
  refine goB 11 ?_
  all_goals (refine WC.region ?_)
  all_goals (refine Go ?_)
  all_goals (refine WL.step (ok_load (fun w => Tryz.isAgg9 w) rfl (by first | exact cell_blk hb14 rfl | assumption | exact cell_blk (by assumption) rfl)) rfl rfl rfl ?_)
  all_goals (refine WL.call (vs := [_, _]) rfl (fun a w => Tryz.call67 a w) rfl (text_s w4 t (by simp only [List.length_nil]; omega)) rfl rfl rfl ?_
             rintro _ h6 ⟨v6, w6a, t6⟩
             have w6 : Wr h3 h6 b5 v6 (t ++ [0]) := by simpa using w6a)
  all_goals (refine Gn ?_)
  skip))
  all_goals (first | (fail_if_success refine goB 12 ?_) | (
  refine goB 12 ?_
  all_goals (refine WC.sr ?_)
  all_goals (refine Go ?_)
  all_goals (refine WC.sub [(1, _), (2, _), (5, _), (19, _), (58, _)] ⟨rfl, rfl, rfl, rfl, rfl, trivial⟩ ?_)
  all_goals (refine goC 13 14 ?_ ?_ <;> first | exact ⟨⟩ | refine Hb.mk fun hb => ?_ | skip)
  all_goals (first | (fail_if_success refine goB 14 ?_) | (
  refine goB 14 ?_
  all_goals (refine WC.sr ?_)
  all_goals (refine Go ?_)
  all_goals (refine goC 15 16 ?_ ?_ <;> first | exact ⟨⟩ | refine Hb.mk fun hb => ?_ | skip)
  all_goals (first | (fail_if_success refine goB 16 ?_) | (
  refine goB 16 ?_
  all_goals (refine WC.sr ?_)
  all_goals (refine Go ?_)
  all_goals (refine WC.sub [(1, _), (2, _), (5, _), (19, _), (82, _)] ⟨rfl, rfl, rfl, rfl, rfl, trivial⟩ ?_)
  all_goals (refine goC 19 20 ?_ ?_ <;> first | exact ⟨⟩ | refine Hb.mk fun hb => ?_ | skip)
  all_goals (first | (fail_if_success refine goB 20 ?_) | (
  refine goB 20 ?_
  all_goals (refine WC.seq ?_)
  all_goals (refine WC.sr ?_)
  all_goals (refine Go ?_)
  all_goals (refine goC 23 24 ?_ ?_ <;> first | exact ⟨⟩ | refine Hb.mk fun hb => ?_ | skip)
  all_goals (first | (fail_if_success refine goB 23 ?_) | (
  refine goB 23 ?_
  all_goals (refine WC.skip ?_)
  skip))
  all_goals (first | (fail_if_success refine goB 24 ?_) | (
  refine goB 24 ?_
  all_goals (refine WC.region ?_)
  all_goals (refine Go ?_)
  skip))
  all_goals (refine Gn ?_)
  all_goals (refine goC 25 26 ?_ ?_ <;> first | exact ⟨⟩ | refine Hb.mk fun hb => ?_ | skip)
  all_goals (first | (fail_if_success refine goB 26 ?_) | (
  refine goB 26 ?_
  all_goals (refine WC.skip ?_)
  skip))
  skip))
  skip))
  skip))
  skip))
  skip))
  skip))
  skip))
  skip))
  all_goals (refine Gn ?_)
  all_goals (refine WC.seq ?_)
  all_goals (refine WC.drawH (fun h' => Ext No h6 h') 7 9 rfl fol ?_)
  all_goals (have hb16 := w6.ext.obj hb13 nos
             have hb26 := w6.ext.obj hb23 nos
             have hw6 := w6.own
             obtain ⟨A6, c6, e6, _⟩ := hw6.slice
             rw [e6] at w6 hw6)
  all_goals (refine WH.tk 0 rfl (fun hq hC => ok_fieldAddr rfl Tryz.underlying32 rfl (fun w => Tryz.sizeOf5 w)) rfl rfl rfl ?_)
  all_goals (refine WH.tk 1 rfl (fun hq hC => ok_load (fun w => Tryz.isAgg5 w) rfl (by first | exact hC.cell (by first | exact cell_blk hb16 rfl | assumption | exact cell_blk (by assumption) rfl) nos)) rfl rfl rfl ?_)
  all_goals (refine WH.tk 2 rfl (fun hq hC => ok_move rfl) rfl rfl rfl ?_)
  all_goals (refine WH.tk 3 rfl (fun hq hC => ok_nilCheck rfl) rfl rfl rfl ?_)
  all_goals (refine WH.tk 4 rfl (fun hq hC => ok_fieldAddr rfl Tryz.underlying97 rfl (fun w => Tryz.sizeOf24 w)) rfl rfl rfl ?_)
  all_goals (refine WH.tk 5 rfl (fun hq hC => ok_load (fun w => Tryz.isAgg24 w) rfl (by first | exact hC.cell (by first | exact cell_blk w6.blk rfl | assumption | exact cell_blk (by assumption) rfl) nos)) rfl rfl rfl ?_)
  all_goals (refine WH.tk 6 rfl (fun hq hC => ok_buildF (vs := [_, _]) (cs := [_, _]) (fun | [a0, a1] => [a0, a1] | _ => []) rfl rfl (by kernel_rfl)) rfl rfl rfl ?_)
  all_goals (refine WH.one 7 (by kernel_rfl) ?_)
  all_goals (refine Comes1.run0 rfl (okE_storeW (fun w => Tryz.sizeOf85 w) rfl rfl rfl hb26 rfl (by simp [Value.oneCell'])) rfl rfl ?_ (fun _ => by kernel_rfl)
             rintro _ h7 ⟨hb7, hx7⟩)
  all_goals (refine ⟨fun e => (by cases e), ?_⟩)
  all_goals (refine WH.one 8 (by kernel_rfl) ?_)
  all_goals (refine Comes1.run rfl (OkP.r (ok_assign rfl)) rfl rfl rfl ?_ (fun _ => by kernel_rfl)
             rintro _ hz ⟨rfl, _⟩
             subst hz)
  all_goals (refine ⟨fun e => (by cases e), ?_⟩)
  all_goals (refine WH.done (by kernel_rfl) ?_)
  all_goals (refine Gn ?_)
  all_goals (refine WC.sub [(2, _), (3, _)] ⟨rfl, rfl, trivial⟩ ?_)
  all_goals (refine WC.ret ?_)
  all_goals (repeat' (with_reducible first | refine thenP_r ?_ | refine blockP_r ?_))
  all_goals (refine retP_2 _ _ ⟨⟨_, rfl, ld_blk (fun w => Tryz.isAgg85 w) (fun w => Tryz.sizeOf85 w) hb7 rfl⟩, rfl, trivial⟩ ?_)
  all_goals (exact ⟨_, rfl, hw6.ext hx7 (fun q hq e => by obtain ⟨_, z⟩ := own_kind hw6 hq; rw [e, hb26] at z; simp at z), (hX3.trans w6.ext).trans' hx7 (fun q hq e => by have := hx1.size; omega)⟩)
set_option maxHeartbeats 4000000 in
set_option maxRecDepth 100000 in
theorem encP_68 {h : Heap} (b : Bk) (hb : b.ok h) (hw : b.wf) (hmd : b.mid) (hmay : b.may) (hk : b.kind = 68) :
    CallsH Tryz.prog 53 ⟨[.agg ⟨b.cells⟩]⟩ h fun u h' => ∃ v', u = .tuple ⟨[.agg ⟨[.int .u8 68, v']⟩, In 0]⟩ ∧ Own h' v' 5 1 (encBk b).length (bys (encBk b)) ∧ Ext No h h' := by
  have kc := fun h' (hx : Ext No h h') => checkA_back b (hb.ext0 hx) hw.kind hmd
  have hL : encBk b = be b.row.length 2 ++ b.row.flatMap encCel := by simp [encBk, hk]
  rw [hL]
  clear hL
  have hst := hw.status
  obtain ⟨md1, md2, md3, md4, md5, md6, md7, md8, md9, md10⟩ := hmd
  have m_c := hmay.cols.2
  have m_o := hmay.oids.2
  have m_n := hmay.n
  have m_m := hmay.m
  have m_r := hmay.row.2
  have hF : ∀ f ∈ b.fields, f.t.length ≤ 200000 ∧ 0 ≤ f.k ∧ f.k ≤ 255 := fun f hf => ⟨md7 f hf, hw.codes f hf⟩
  clear hw
  obtain ⟨ho, hc, hr, hf⟩ := hb
  obtain ⟨k, st, t, n, v, x, y, vo, lo, vc, lc, vr, lr, vf, lf⟩ := b
  dsimp only at hk hst ho hc hr hf md1 md2 md3 md4 md5 md6 md7 md8 md9 md10 m_c m_o m_n m_m m_r hF ⊢
  have hro := ho.1
  have hrc := hc.1
  have hrr := hr.1
  have hrf := hf.1
  obtain ⟨Ao, co, rfl, _⟩ := id hro
  obtain ⟨Ac, cc, rfl, _⟩ := id hrc
  obtain ⟨Ar, cr, rfl, _⟩ := id hrr
  obtain ⟨Af, cf, rfl, _⟩ := id hrf
  dsimp only [Bk.cells] at kc ⊢
  subst hk
  refine calls [(0, _)] Tryz.func53 rfl Tryz.ntmps53 rfl ⟨rfl, trivial⟩ ?_
  all_goals (refine WC.sr ?_)
  all_goals (refine WL.stepR (okE_box rfl) rfl rfl rfl ?_
             rintro _ h1 ⟨b1, rfl, hg1, hb1, hx1⟩)
  all_goals (refine WL.stepR (okE_alloc (fun w => Tryz.zeroValue85 w)) rfl rfl rfl ?_
             rintro _ h2 ⟨b2, rfl, hg2, hb2, hx2⟩)
  all_goals (have hX2 := hx1.trans hx2
             have hb12 := hx2.obj hb1 nos)
  all_goals (refine Go ?_)
  all_goals (refine WC.seq ?_)
  all_goals (refine WC.sr ?_)
  all_goals (refine WL.step (ok_loadN (fun w => Tryz.isAgg32 w) (fun w => Tryz.sizeOf32 w) rfl rfl (by exact At.of_block hb12)) rfl rfl rfl ?_)
  all_goals (refine WL.call (vs := [_]) rfl (fun a w => Tryz.call65 a w) rfl (kc _ hX2) rfl rfl rfl ?_
             rintro _ h3 ⟨⟨e, rfl, he⟩, hx3⟩
             obtain rfl := he.2 hmay)
  all_goals (have hb13 := hx3.obj hb12 nos
             have hb23 := hx3.obj hb2 nos
             have hX3 := hX2.trans hx3)
  all_goals (refine Go ?_)
  all_goals (refine WC.sub [(1, _), (2, _), (4, _)] ⟨rfl, rfl, rfl, trivial⟩ ?_)
  all_goals (refine WC.sr ?_)
  all_goals (refine Go ?_)
  all_goals (refine goC 1 2 ?_ ?_ <;> first | exact ⟨⟩ | refine Hb.mk fun hb => ?_ | skip)
  all_goals (first | (fail_if_success refine goB 1 ?_) | (
  refine goB 1 ?_
  all_goals (refine WC.sr ?_)
  all_goals (refine WL.step (ok_buildF (vs := []) (cs := [_, _]) (fun | [] => [(.int .u8 0), (.slice none 0 0)] | _ => []) rfl rfl (by kernel_rfl)) rfl rfl rfl ?_)
  all_goals (refine Go ?_)
  all_goals (refine WL.stepR0 (okE_storeW (fun w => Tryz.sizeOf85 w) rfl rfl rfl (by assumption) rfl (by simp [Value.oneCell'])) rfl rfl ?_
             rintro _ h1 ⟨hb1, hx1⟩)
  all_goals (refine Go ?_)
  all_goals (refine WC.sub [(2, _), (3, _)] ⟨rfl, rfl, trivial⟩ ?_)
  all_goals (refine WC.ret ?_)
  all_goals (repeat' (with_reducible first | refine thenP_r ?_ | refine blockP_r ?_))
  all_goals (refine retP_2 _ _ ⟨⟨_, rfl, ld_blk (fun w => Tryz.isAgg85 w) (fun w => Tryz.sizeOf85 w) hb7 rfl⟩, rfl, trivial⟩ ?_)
  all_goals (exact ⟨_, rfl, hw6.ext hx7 (fun q hq e => by obtain ⟨_, z⟩ := own_kind hw6 hq; rw [e, hb26] at z; simp at z), (hX3.trans w6.ext).trans' hx7 (fun q hq e => by have := hx1.size; omega)⟩)
  skip))
  all_goals (first | (fail_if_success refine goB 2 ?_) | (
  refine goB 2 ?_
  all_goals (refine WC.skip ?_)
  skip))
  all_goals (refine Gn ?_)
  all_goals (refine WC.sr ?_)
  all_goals (refine WL.step (ok_buildF (vs := []) (cs := [_]) (fun | [] => [(.slice none 0 0)] | _ => []) rfl rfl (by kernel_rfl)) rfl rfl rfl ?_)
  all_goals (refine WL.stepR (okE_box rfl) rfl rfl rfl ?_
             rintro _ h4 ⟨b5, rfl, hg5, hb5, hx4⟩)
  all_goals (have hb14 := hx4.obj hb13 nos
             have hb24 := hx4.obj hb23 nos
             have l1 := lt_of_some hb13
             have l2 := lt_of_some hb23
             have w4 : Wr h3 h4 b5 nilV [] := ⟨hb5, Own.nil _ _ _, ⟨by omega, by simp [Value.ownBlock]⟩, hx4⟩)
  all_goals (refine Go ?_)
  all_goals (refine WC.sub [(1, _), (2, _), (5, _)] ⟨rfl, rfl, rfl, trivial⟩ ?_)
  all_goals (refine WC.seq ?_)
  all_goals (refine WC.sr ?_)
  all_goals (refine Go ?_)
  all_goals (refine WL.step (ok_load (fun w => Tryz.isAgg5 w) rfl (by first | exact cell_blk hb14 rfl | assumption | exact cell_blk (by assumption) rfl)) rfl rfl rfl ?_)
  all_goals (refine Gn ?_)
  all_goals (refine WC.block ?_)
  all_goals (refine WC.sr ?_)
  all_goals (refine Go ?_)
  all_goals (refine goC 3 4 ?_ ?_ <;> first | exact ⟨⟩ | refine Hb.mk fun hb => ?_ | skip)
  all_goals (first | (fail_if_success refine goB 4 ?_) | (
  refine goB 4 ?_
  all_goals (refine WC.sr ?_)
  all_goals (refine Go ?_)
  all_goals (refine WC.sub [(1, _), (2, _), (5, _), (19, _), (24, _)] ⟨rfl, rfl, rfl, rfl, rfl, trivial⟩ ?_)
  all_goals (refine goC 5 6 ?_ ?_ <;> first | exact ⟨⟩ | refine Hb.mk fun hb => ?_ | skip)
  all_goals (first | (fail_if_success refine goB 6 ?_) | (
  refine goB 6 ?_
  all_goals (refine WC.sr ?_)
  all_goals (refine Go ?_)
  all_goals (refine goC 7 8 ?_ ?_ <;> first | exact ⟨⟩ | refine Hb.mk fun hb => ?_ | skip)
  all_goals (first | (fail_if_success refine goB 8 ?_) | (
  refine goB 8 ?_
  all_goals (refine WC.sr ?_)
  all_goals (refine Go ?_)
  all_goals (refine WC.sub [(1, _), (2, _), (5, _), (19, _), (44, _)] ⟨rfl, rfl, rfl, rfl, rfl, trivial⟩ ?_)
  all_goals (refine goC 9 10 ?_ ?_ <;> first | exact ⟨⟩ | refine Hb.mk fun hb => ?_ | skip)
  all_goals (first | (fail_if_success refine goB 9 ?_) | (
  refine goB 9 ?_
  all_goals (refine WC.region ?_)
  all_goals (refine Go ?_)
  all_goals (refine WL.step (ok_load (fun w => Tryz.isAgg5 w) rfl (by first | assumption | exact cell_blk (by assumption) rfl)) rfl rfl rfl ?_)
  all_goals (refine WL.stepR (okE_buildSlice (vs := [_]) (cs := [_]) (fun | [a0] => [a0] | _ => []) Tryz.underlying24 rfl rfl (by kernel_rfl)) rfl rfl rfl ?_
             rintro _ h1 ⟨b1, rfl, hg1, hb1, hx1⟩)
  all_goals (refine WL.step (ok_nilCheck rfl) rfl rfl rfl ?_)
  all_goals (refine Go ?_)
  all_goals (refine WL.stepR0 (okE_store (fun w => Tryz.sizeOf24 w) rfl rfl (by assumption) (Nat.le_of_ble_eq_true rfl) rfl rfl) rfl rfl ?_
             rintro _ h1 ⟨hb1, hx1⟩)
  all_goals (refine Gn ?_)
  skip))
  all_goals (first | (fail_if_success refine goB 10 ?_) | (
  refine goB 10 ?_
  all_goals (refine WC.sr ?_)
  all_goals (refine Go ?_)
  all_goals (refine goC 11 12 ?_ ?_ <;> first | exact ⟨⟩ | refine Hb.mk fun hb => ?_ | skip)
  all_goals (first | (fail_if_success refine goB 12 ?_) | (
  refine goB 12 ?_
  all_goals (refine WC.sr ?_)
  all_goals (refine Go ?_)
  all_goals (refine WC.sub [(1, _), (2, _), (5, _), (19, _), (58, _)] ⟨rfl, rfl, rfl, rfl, rfl, trivial⟩ ?_)
  all_goals (refine goC 13 14 ?_ ?_ <;> first | exact ⟨⟩ | refine Hb.mk fun hb => ?_ | skip)
  all_goals (first | (fail_if_success refine goB 13 ?_) | (
  refine goB 13 ?_
  all_goals (refine WC.region ?_)
  all_goals (refine Go ?_)
  all_goals (refine WL.step (ok_load (fun w => Tryz.isAgg29 w) rfl (by first | exact cell_blk hb14 rfl | assumption | exact cell_blk (by assumption) rfl)) rfl rfl rfl ?_)
  all_goals (refine WL.call (vs := [_, _]) rfl (fun a w => Tryz.call68 a w) rfl (row_w w4 lr (hr.ext0 hX3) md3 md6 (by decide)) rfl rfl rfl ?_
             rintro _ h6 ⟨v6, w6a, t6⟩
             have w6 : Wr h3 h6 b5 v6 (be (lr.length : Int) 2 ++ lr.flatMap encCel) := by simpa using w6a)
  all_goals (refine Gn ?_)
  skip))
  all_goals (first | (fail_if_success refine goB 14 ?_) | (
  refine goB 14 ?_
  all_goals (refine WC.sr ?_)
  all_goals (refine Go ?_)
  all_goals (refine goC 15 16 ?_ ?_ <;> first | exact ⟨⟩ | refine Hb.mk fun hb => ?_ | skip)
  all_goals (first | (fail_if_success refine goB 16 ?_) | (
  refine goB 16 ?_
  all_goals (refine WC.sr ?_)
  all_goals (refine Go ?_)
  all_goals (refine WC.sub [(1, _), (2, _), (5, _), (19, _), (82, _)] ⟨rfl, rfl, rfl, rfl, rfl, trivial⟩ ?_)
  all_goals (refine goC 19 20 ?_ ?_ <;> first | exact ⟨⟩ | refine Hb.mk fun hb => ?_ | skip)
  all_goals (first | (fail_if_success refine goB 20 ?_) | (
  refine goB 20 ?_
  all_goals (refine WC.seq ?_)
  all_goals (refine WC.sr ?_)
  all_goals (refine Go ?_)
  all_goals (refine goC 23 24 ?_ ?_ <;> first | exact ⟨⟩ | refine Hb.mk fun hb => ?_ | skip)
  all_goals (first | (fail_if_success refine goB 23 ?_) | (
  refine goB 23 ?_
  all_goals (refine WC.skip ?_)
  skip))
  all_goals (first | (fail_if_success refine goB 24 ?_) | (
  refine goB 24 ?_
  all_goals (refine WC.region ?_)
  all_goals (refine Go ?_)
  skip))
  all_goals (refine Gn ?_)
  all_goals (refine goC 25 26 ?_ ?_ <;> first | exact ⟨⟩ | refine Hb.mk fun hb => ?_ | skip)
  all_goals (first | (fail_if_success refine goB 26 ?_) | (
  refine goB 26 ?_
  all_goals (refine WC.skip ?_)
  skip))
  skip))
  skip))
  skip))
  skip))
  skip))
  skip))
  skip))
  skip))
  all_goals (refine Gn ?_)
  all_goals (refine WC.seq ?_)
  all_goals (refine WC.drawH (fun h' => Ext No h6 h') 7 9 rfl fol ?_)
  all_goals (have hb16 := w6.ext.obj hb13 nos
             have hb26 := w6.ext.obj hb23 nos
             have hw6 := w6.own
             obtain ⟨A6, c6, e6, _⟩ := hw6.slice
             rw [e6] at w6 hw6)
  all_goals (refine WH.tk 0 rfl (fun hq hC => ok_fieldAddr rfl Tryz.underlying32 rfl (fun w => Tryz.sizeOf5 w)) rfl rfl rfl ?_)
  all_goals (refine WH.tk 1 rfl (fun hq hC => ok_load (fun w => Tryz.isAgg5 w) rfl (by first | exact hC.cell (by first | exact cell_blk hb16 rfl | assumption | exact cell_blk (by assumption) rfl) nos)) rfl rfl rfl ?_)
  all_goals (refine WH.tk 2 rfl (fun hq hC => ok_move rfl) rfl rfl rfl ?_)
  all_goals (refine WH.tk 3 rfl (fun hq hC => ok_nilCheck rfl) rfl rfl rfl ?_)
  all_goals (refine WH.tk 4 rfl (fun hq hC => ok_fieldAddr rfl Tryz.underlying97 rfl (fun w => Tryz.sizeOf24 w)) rfl rfl rfl ?_)
  all_goals (refine WH.tk 5 rfl (fun hq hC => ok_load (fun w => Tryz.isAgg24 w) rfl (by first | exact hC.cell (by first | exact cell_blk w6.blk rfl | assumption | exact cell_blk (by assumption) rfl) nos)) rfl rfl rfl ?_)
  all_goals (refine WH.tk 6 rfl (fun hq hC => ok_buildF (vs := [_, _]) (cs := [_, _]) (fun | [a0, a1] => [a0, a1] | _ => []) rfl rfl (by kernel_rfl)) rfl rfl rfl ?_)
  all_goals (refine WH.one 7 (by kernel_rfl) ?_)
  all_goals (refine Comes1.run0 rfl (okE_storeW (fun w => Tryz.sizeOf85 w) rfl rfl rfl hb26 rfl (by simp [Value.oneCell'])) rfl rfl ?_ (fun _ => by kernel_rfl)
             rintro _ h7 ⟨hb7, hx7⟩)
  all_goals (refine ⟨fun e => (by cases e), ?_⟩)
  all_goals (refine WH.one 8 (by kernel_rfl) ?_)
  all_goals (refine Comes1.run rfl (OkP.r (ok_assign rfl)) rfl rfl rfl ?_ (fun _ => by kernel_rfl)
             rintro _ hz ⟨rfl, _⟩
             subst hz)
  all_goals (refine ⟨fun e => (by cases e), ?_⟩)
  all_goals (refine WH.done (by kernel_rfl) ?_)
  all_goals (refine Gn ?_)
  all_goals (refine WC.sub [(2, _), (3, _)] ⟨rfl, rfl, trivial⟩ ?_)
  all_goals (refine WC.ret ?_)
  all_goals (repeat' (with_reducible first | refine thenP_r ?_ | refine blockP_r ?_))
  all_goals (refine retP_2 _ _ ⟨⟨_, rfl, ld_blk (fun w => Tryz.isAgg85 w) (fun w => Tryz.sizeOf85 w) hb7 rfl⟩, rfl, trivial⟩ ?_)
  all_goals (exact ⟨_, rfl, hw6.ext hx7 (fun q hq e => by obtain ⟨_, z⟩ := own_kind hw6 hq; rw [e, hb26] at z; simp at z), (hX3.trans w6.ext).trans' hx7 (fun q hq e => by have := hx1.size; omega)⟩)
set_option maxHeartbeats 4000000 in
set_option maxRecDepth 100000 in
theorem encP_84 {h : Heap} (b : Bk) (hb : b.ok h) (hw : b.wf) (hmd : b.mid) (hmay : b.may) (hk : b.kind = 84) :
    CallsH Tryz.prog 53 ⟨[.agg ⟨b.cells⟩]⟩ h fun u h' => ∃ v', u = .tuple ⟨[.agg ⟨[.int .u8 84, v']⟩, In 0]⟩ ∧ Own h' v' 5 1 (encBk b).length (bys (encBk b)) ∧ Ext No h h' := by
  have kc := fun h' (hx : Ext No h h') => checkA_back b (hb.ext0 hx) hw.kind hmd
  have hL : encBk b = be b.cols.length 2 ++ b.cols.flatMap encCol := by simp [encBk, hk]
  rw [hL]
  clear hL
  have hst := hw.status
  obtain ⟨md1, md2, md3, md4, md5, md6, md7, md8, md9, md10⟩ := hmd
  have m_c := hmay.cols.2
  have m_o := hmay.oids.2
  have m_n := hmay.n
  have m_m := hmay.m
  have m_r := hmay.row.2
  have hF : ∀ f ∈ b.fields, f.t.length ≤ 200000 ∧ 0 ≤ f.k ∧ f.k ≤ 255 := fun f hf => ⟨md7 f hf, hw.codes f hf⟩
  clear hw
  obtain ⟨ho, hc, hr, hf⟩ := hb
  obtain ⟨k, st, t, n, v, x, y, vo, lo, vc, lc, vr, lr, vf, lf⟩ := b
  dsimp only at hk hst ho hc hr hf md1 md2 md3 md4 md5 md6 md7 md8 md9 md10 m_c m_o m_n m_m m_r hF ⊢
  have hro := ho.1
  have hrc := hc.1
  have hrr := hr.1
  have hrf := hf.1
  obtain ⟨Ao, co, rfl, _⟩ := id hro
  obtain ⟨Ac, cc, rfl, _⟩ := id hrc
  obtain ⟨Ar, cr, rfl, _⟩ := id hrr
  obtain ⟨Af, cf, rfl, _⟩ := id hrf
  dsimp only [Bk.cells] at kc ⊢
  subst hk
  refine calls [(0, _)] Tryz.func53 rfl Tryz.ntmps53 rfl ⟨rfl, trivial⟩ ?_
  all_goals (refine WC.sr ?_)
  all_goals (refine WL.stepR (okE_box rfl) rfl rfl rfl ?_
             rintro _ h1 ⟨b1, rfl, hg1, hb1, hx1⟩)
  all_goals (refine WL.stepR (okE_alloc (fun w => Tryz.zeroValue85 w)) rfl rfl rfl ?_
             rintro _ h2 ⟨b2, rfl, hg2, hb2, hx2⟩)
  all_goals (have hX2 := hx1.trans hx2
             have hb12 := hx2.obj hb1 nos)
  all_goals (refine Go ?_)
  all_goals (refine WC.seq ?_)
  all_goals (refine WC.sr ?_)
  all_goals (refine WL.step (ok_loadN (fun w => Tryz.isAgg32 w) (fun w => Tryz.sizeOf32 w) rfl rfl (by exact At.of_block hb12)) rfl rfl rfl ?_)
  all_goals (refine WL.call (vs := [_]) rfl (fun a w => Tryz.call65 a w) rfl (kc _ hX2) rfl rfl rfl ?_
             rintro _ h3 ⟨⟨e, rfl, he⟩, hx3⟩
             obtain rfl := he.2 hmay)
  all_goals (have hb13 := hx3.obj hb12 nos
             have hb23 := hx3.obj hb2 nos
             have hX3 := hX2.trans hx3)
  all_goals (refine Go ?_)
  all_goals (refine WC.sub [(1, _), (2, _), (4, _)] ⟨rfl, rfl, rfl, trivial⟩ ?_)
  all_goals (refine WC.sr ?_)
  all_goals (refine Go ?_)
  all_goals (refine goC 1 2 ?_ ?_ <;> first | exact ⟨⟩ | refine Hb.mk fun hb => ?_ | skip)
  all_goals (first | (fail_if_success refine goB 1 ?_) | (
  refine goB 1 ?_
  all_goals (refine WC.sr ?_)
  all_goals (refine WL.step (ok_buildF (vs := []) (cs := [_, _]) (fun | [] => [(.int .u8 0), (.slice none 0 0)] | _ => []) rfl rfl (by kernel_rfl)) rfl rfl rfl ?_)
  all_goals (refine Go ?_)
  all_goals (refine WL.stepR0 (okE_storeW (fun w => Tryz.sizeOf85 w) rfl rfl rfl (by assumption) rfl (by simp [Value.oneCell'])) rfl rfl ?_
             rintro _ h1 ⟨hb1, hx1⟩)
  all_goals (refine Go ?_)
  all_goals (refine WC.sub [(2, _), (3, _)] ⟨rfl, rfl, trivial⟩ ?_)
  all_goals (refine WC.ret ?_)
  all_goals (repeat' (with_reducible first | refine thenP_r ?_ | refine blockP_r ?_))
  all_goals (refine retP_2 _ _ ⟨⟨_, rfl, ld_blk (fun w => Tryz.isAgg85 w) (fun w => Tryz.sizeOf85 w) hb7 rfl⟩, rfl, trivial⟩ ?_)
  all_goals (exact ⟨_, rfl, hw6.ext hx7 (fun q hq e => by obtain ⟨_, z⟩ := own_kind hw6 hq; rw [e, hb26] at z; simp at z), (hX3.trans w6.ext).trans' hx7 (fun q hq e => by have := hx1.size; omega)⟩)
  skip))
  all_goals (first | (fail_if_success refine goB 2 ?_) | (
  refine goB 2 ?_
  all_goals (refine WC.skip ?_)
  skip))
  all_goals (refine Gn ?_)
  all_goals (refine WC.sr ?_)
  all_goals (refine WL.step (ok_buildF (vs := []) (cs := [_]) (fun | [] => [(.slice none 0 0)] | _ => []) rfl rfl (by kernel_rfl)) rfl rfl rfl ?_)
  all_goals (refine WL.stepR (okE_box rfl) rfl rfl rfl ?_
             rintro _ h4 ⟨b5, rfl, hg5, hb5, hx4⟩)
  all_goals (have hb14 := hx4.obj hb13 nos
             have hb24 := hx4.obj hb23 nos
             have l1 := lt_of_some hb13
             have l2 := lt_of_some hb23
             have w4 : Wr h3 h4 b5 nilV [] := ⟨hb5, Own.nil _ _ _, ⟨by omega, by simp [Value.ownBlock]⟩, hx4⟩)
  all_goals (refine Go ?_)
  all_goals (refine WC.sub [(1, _), (2, _), (5, _)] ⟨rfl, rfl, rfl, trivial⟩ ?_)
  all_goals (refine WC.seq ?_)
  all_goals (refine WC.sr ?_)
  all_goals (refine Go ?_)
  all_goals (refine WL.step (ok_load (fun w => Tryz.isAgg5 w) rfl (by first | exact cell_blk hb14 rfl | assumption | exact cell_blk (by assumption) rfl)) rfl rfl rfl ?_)
  all_goals (refine Gn ?_)
  all_goals (refine WC.block ?_)
  all_goals (refine WC.sr ?_)
  all_goals (refine Go ?_)
  all_goals (refine goC 3 4 ?_ ?_ <;> first | exact ⟨⟩ | refine Hb.mk fun hb => ?_ | skip)
  all_goals (first | (fail_if_success refine goB 4 ?_) | (
  refine goB 4 ?_
  all_goals (refine WC.sr ?_)
  all_goals (refine Go ?_)
  all_goals (refine WC.sub [(1, _), (2, _), (5, _), (19, _), (24, _)] ⟨rfl, rfl, rfl, rfl, rfl, trivial⟩ ?_)
  all_goals (refine goC 5 6 ?_ ?_ <;> first | exact ⟨⟩ | refine Hb.mk fun hb => ?_ | skip)
  all_goals (first | (fail_if_success refine goB 6 ?_) | (
  refine goB 6 ?_
  all_goals (refine WC.sr ?_)
  all_goals (refine Go ?_)
  all_goals (refine goC 7 8 ?_ ?_ <;> first | exact ⟨⟩ | refine Hb.mk fun hb => ?_ | skip)
  all_goals (first | (fail_if_success refine goB 8 ?_) | (
  refine goB 8 ?_
  all_goals (refine WC.sr ?_)
  all_goals (refine Go ?_)
  all_goals (refine WC.sub [(1, _), (2, _), (5, _), (19, _), (44, _)] ⟨rfl, rfl, rfl, rfl, rfl, trivial⟩ ?_)
  all_goals (refine goC 9 10 ?_ ?_ <;> first | exact ⟨⟩ | refine Hb.mk fun hb => ?_ | skip)
  all_goals (first | (fail_if_success refine goB 9 ?_) | (
  refine goB 9 ?_
  all_goals (refine WC.region ?_)
  all_goals (refine Go ?_)
  all_goals (refine WL.step (ok_load (fun w => Tryz.isAgg5 w) rfl (by first | assumption | exact cell_blk (by assumption) rfl)) rfl rfl rfl ?_)
  all_goals (refine WL.stepR (okE_buildSlice (vs := [_]) (cs := [_]) (fun | [a0] => [a0] | _ => []) Tryz.underlying24 rfl rfl (by kernel_rfl)) rfl rfl rfl ?_
             rintro _ h1 ⟨b1, rfl, hg1, hb1, hx1⟩)
  all_goals (refine WL.step (ok_nilCheck rfl) rfl rfl rfl ?_)
  all_goals (refine Go ?_)
  all_goals (refine WL.stepR0 (okE_store (fun w => Tryz.sizeOf24 w) rfl rfl (by assumption) (Nat.le_of_ble_eq_true rfl) rfl rfl) rfl rfl ?_
             rintro _ h1 ⟨hb1, hx1⟩)
  all_goals (refine Gn ?_)
  skip))
  all_goals (first | (fail_if_success refine goB 10 ?_) | (
  refine goB 10 ?_
  all_goals (refine WC.sr ?_)
  all_goals (refine Go ?_)
  all_goals (refine goC 11 12 ?_ ?_ <;> first | exact ⟨⟩ | refine Hb.mk fun hb => ?_ | skip)
  all_goals (first | (fail_if_success refine goB 12 ?_) | (
  refine goB 12 ?_
  all_goals (refine WC.sr ?_)
  all_goals (refine Go ?_)
  all_goals (refine WC.sub [(1, _), (2, _), (5, _), (19, _), (58, _)] ⟨rfl, rfl, rfl, rfl, rfl, trivial⟩ ?_)
  all_goals (refine goC 13 14 ?_ ?_ <;> first | exact ⟨⟩ | refine Hb.mk fun hb => ?_ | skip)
  all_goals (first | (fail_if_success refine goB 14 ?_) | (
  refine goB 14 ?_
  all_goals (refine WC.sr ?_)
  all_goals (refine Go ?_)
  all_goals (refine goC 15 16 ?_ ?_ <;> first | exact ⟨⟩ | refine Hb.mk fun hb => ?_ | skip)
  all_goals (first | (fail_if_success refine goB 15 ?_) | (
  refine goB 15 ?_
  all_goals (refine WC.sr ?_)
  all_goals (refine Go ?_)
  all_goals (refine WL.step (ok_load (fun w => Tryz.isAgg28 w) rfl (by first | exact cell_blk hb14 rfl | assumption | exact cell_blk (by assumption) rfl)) rfl rfl rfl ?_)
  all_goals (refine Go ?_)
  all_goals (refine WL.call (vs := [_, _, _]) rfl (fun a w => Tryz.call66 a w) rfl (num_w w4 (lc.length : Int) 2 sz2 (rt2 (by omega)) (by decide)) rfl rfl rfl ?_
             rintro _ h5 ⟨v5, w5, t5⟩
             have hb15 := w5.ext.obj hb13 nos)
  all_goals (refine Gn ?_)
  all_goals (refine WC.sub [(1, _), (2, _), (5, _)] ⟨rfl, rfl, rfl, trivial⟩ ?_)
  all_goals (refine WC.sr ?_)
  all_goals (refine Go ?_)
  all_goals (refine WL.step (ok_load (fun w => Tryz.isAgg28 w) rfl (by first | exact cell_blk hb15 rfl | assumption | exact cell_blk (by assumption) rfl)) rfl rfl rfl ?_)
  all_goals (have hfl : ∀ j, ((lc.take j).flatMap encCol).length ≤ 110000 := fun j => Nat.le_trans (flat_take lc j fun x hx => encCol_len (md5 x hx)) (by omega))
  all_goals (refine Go ?_)
  all_goals (refine WC.block ?_)
  -- loop 0: slots that turn [74], that stay [1, 2, 5, 72, 73]
  all_goals (refine WC.loopG (X := Nat × Value) (fun x => ([(74, In (x.1 : Int))] : Fr)) [(1, _), (2, _), (5, _), (72, _), (73, _)] (fun y h' => y.1 ≤ lc.length ∧ Wr h3 h' b5 y.2 (be (lc.length : Int) 2 ++ (lc.take y.1).flatMap encCol)) (fun y => lc.length - y.1) ((0, v5)) ⟨rfl, rfl, rfl, rfl, rfl, rfl, trivial⟩ (by exact ⟨Nat.zero_le _, by simpa using w5⟩) ?_)
  all_goals (rintro ⟨j, v6⟩ h6 ⟨hj, w6⟩
             dsimp only at hj w6)
  all_goals (refine WC.sub [(74, _), (1, _), (2, _), (5, _), (72, _), (73, _)] ⟨rfl, rfl, rfl, rfl, rfl, rfl, trivial⟩ ?_)
  all_goals (dsimp only)
  all_goals (refine WC.sr ?_)
  all_goals (refine Go ?_)
  all_goals (refine WC.seq ?_)
  all_goals (refine goC 17 18 ?_ ?_ <;> first | exact ⟨⟩ | refine Hb.mk fun hb => ?_ | skip)
  all_goals (first | (fail_if_success refine goB 17 ?_) | (
  refine goB 17 ?_
  all_goals (refine WC.skip ?_)
  skip))
  all_goals (first | (fail_if_success refine goB 18 ?_) | (
  refine goB 18 ?_
  all_goals (refine WC.exit ?_)
  all_goals (repeat' (with_reducible first | refine thenP_x ?_ | refine blockP_miss rfl ?_ | refine blockP_hit ?_ | refine blockP_n ?_ | refine thenP_n ?_))
  all_goals (refine Br.out (i := 1001) ?_)
  skip))
  all_goals (refine Gn ?_)
  all_goals (first | (refine Br.keep ?_) | (refine WC.seq ?_))
  all_goals (first | (refine Br.keep ?_) | (refine WC.block ?_))
  all_goals (first | (refine Br.keep ?_) | (refine WC.sr ?_))
  all_goals (first
               | (refine Br.keep ?_)
               | (obtain ⟨bL, oL, hA, hbL, hat⟩ := Rd.at_ (hrc.ext0 hX3) (by omega)
                  obtain ⟨yy, hy⟩ : ∃ y, lc[j]? = some y := ⟨_, List.getElem?_eq_getElem (by omega)⟩
                  have hyn := md5 _ (List.mem_of_getElem? hy)
                  have hyc := m_c _ (List.mem_of_getElem? hy)
                  have hcd : At h6 bL (oL + j * 7) yy.cells := At.elem ColD.len (hat.ext w6.ext nos) hy
                  have hlj := hfl j))
  all_goals (first | (refine Br.keep ?_) | (refine WL.step (ok_idxAddrA Tryz.underlying28 (fun w => Tryz.sizeOf46 w) rfl rfl rfl (by omega) (by first | rfl | assumption)) rfl rfl rfl ?_))
  all_goals (first | (refine Br.keep ?_) | (refine WL.step (ok_loadN (fun w => Tryz.isAgg46 w) (fun w => Tryz.sizeOf46 w) rfl rfl (by exact hcd)) rfl rfl rfl ?_))
  all_goals (first
               | (refine Br.keep ?_)
               | (refine WL.stepR (okE_alloc (fun w => Tryz.zeroValue46 w)) rfl rfl rfl ?_
                  rintro _ h7 ⟨b7, rfl, hg7, hb7, hx7⟩))
  all_goals (first
               | (refine Br.keep ?_)
               | (refine WL.stepR0 (okE_storeW (fun w => Tryz.sizeOf46 w) rfl rfl rfl hb7 rfl (by simp [ColD.cells, Value.oneCell'])) rfl rfl ?_
                  rintro _ h8 ⟨hb8, hx8⟩))
  all_goals (first | (refine Br.keep ?_) | (have hX8 : Ext No h6 h8 := hx7.trans' hx8 (fun q hq e => by omega)))
  all_goals (refine Gn ?_)
  all_goals (first | (refine Br.keep ?_) | (refine WC.region ?_))
  all_goals (refine Go ?_)
  all_goals (first | (refine Br.keep ?_) | (refine WL.step (ok_loadN (fun w => Tryz.isAgg46 w) (fun w => Tryz.sizeOf46 w) rfl rfl (by exact At.of_block hb8)) rfl rfl rfl ?_))
  all_goals (first
               | (refine Br.keep ?_)
               | (refine WL.call (vs := [_, _]) rfl (fun a w => Tryz.call69 a w) rfl (column_w (w6.stay hX8) yy hyc hyn (by simp only [List.length_append, be_len]; omega)) rfl rfl rfl ?_
                  rintro _ h9 ⟨v9, w9, t9⟩))
  all_goals (refine Gn ?_)
  all_goals (first | (refine Br.keep ?_) | (refine WC.sub [(1, _), (2, _), (5, _), (72, _), (73, _), (74, _)] ⟨rfl, rfl, rfl, rfl, rfl, rfl, trivial⟩ ?_))
  all_goals (first | (refine Br.keep ?_) | (refine WC.region ?_))
  all_goals (refine Go ?_)
  all_goals (first | (refine Br.keep ?_) | (exact ⟨(j + 1, _), ⟨rfl, rfl, rfl, rfl, rfl, rfl, trivial⟩, (by exact ⟨by omega, by rw [flat_snoc hy, ← List.append_assoc]; exact w9⟩), (by simp; omega)⟩))
  all_goals (try (refine Br.mk (i := 1001) ?_))
  skip))
  all_goals (first | (fail_if_success refine goB 16 ?_) | (
  refine goB 16 ?_
  all_goals (refine WC.sr ?_)
  all_goals (refine Go ?_)
  all_goals (refine WC.sub [(1, _), (2, _), (5, _), (19, _), (82, _)] ⟨rfl, rfl, rfl, rfl, rfl, trivial⟩ ?_)
  all_goals (refine goC 19 20 ?_ ?_ <;> first | exact ⟨⟩ | refine Hb.mk fun hb => ?_ | skip)
  all_goals (first | (fail_if_success refine goB 20 ?_) | (
  refine goB 20 ?_
  all_goals (refine WC.seq ?_)
  all_goals (refine WC.sr ?_)
  all_goals (refine Go ?_)
  all_goals (refine goC 23 24 ?_ ?_ <;> first | exact ⟨⟩ | refine Hb.mk fun hb => ?_ | skip)
  all_goals (first | (fail_if_success refine goB 23 ?_) | (
  refine goB 23 ?_
  all_goals (refine WC.skip ?_)
  skip))
  all_goals (first | (fail_if_success refine goB 24 ?_) | (
  refine goB 24 ?_
  all_goals (refine WC.region ?_)
  all_goals (refine Go ?_)
  skip))
  all_goals (refine Gn ?_)
  all_goals (refine goC 25 26 ?_ ?_ <;> first | exact ⟨⟩ | refine Hb.mk fun hb => ?_ | skip)
  all_goals (first | (fail_if_success refine goB 26 ?_) | (
  refine goB 26 ?_
  all_goals (refine WC.skip ?_)
  skip))
  skip))
  skip))
  skip))
  skip))
  skip))
  skip))
  skip))
  skip))
  all_goals (refine Gn ?_)
  all_goals (refine WC.seq ?_)
  all_goals (refine WC.drawH (fun h' => Ext No h6 h') 7 9 rfl fol ?_)
  all_goals (rw [List.take_of_length_le (by omega)] at w6
             have hb16 := w6.ext.obj hb13 nos
             have hb26 := w6.ext.obj hb23 nos
             have hw6 := w6.own
             obtain ⟨A6, c6, e6, _⟩ := hw6.slice
             rw [e6] at w6 hw6)
  all_goals (refine WH.tk 0 rfl (fun hq hC => ok_fieldAddr rfl Tryz.underlying32 rfl (fun w => Tryz.sizeOf5 w)) rfl rfl rfl ?_)
  all_goals (refine WH.tk 1 rfl (fun hq hC => ok_load (fun w => Tryz.isAgg5 w) rfl (by first | exact hC.cell (by first | exact cell_blk hb16 rfl | assumption | exact cell_blk (by assumption) rfl) nos)) rfl rfl rfl ?_)
  all_goals (refine WH.tk 2 rfl (fun hq hC => ok_move rfl) rfl rfl rfl ?_)
  all_goals (refine WH.tk 3 rfl (fun hq hC => ok_nilCheck rfl) rfl rfl rfl ?_)
  all_goals (refine WH.tk 4 rfl (fun hq hC => ok_fieldAddr rfl Tryz.underlying97 rfl (fun w => Tryz.sizeOf24 w)) rfl rfl rfl ?_)
  all_goals (refine WH.tk 5 rfl (fun hq hC => ok_load (fun w => Tryz.isAgg24 w) rfl (by first | exact hC.cell (by first | exact cell_blk w6.blk rfl | assumption | exact cell_blk (by assumption) rfl) nos)) rfl rfl rfl ?_)
  all_goals (refine WH.tk 6 rfl (fun hq hC => ok_buildF (vs := [_, _]) (cs := [_, _]) (fun | [a0, a1] => [a0, a1] | _ => []) rfl rfl (by kernel_rfl)) rfl rfl rfl ?_)
  all_goals (refine WH.one 7 (by kernel_rfl) ?_)
  all_goals (refine Comes1.run0 rfl (okE_storeW (fun w => Tryz.sizeOf85 w) rfl rfl rfl hb26 rfl (by simp [Value.oneCell'])) rfl rfl ?_ (fun _ => by kernel_rfl)
             rintro _ h7 ⟨hb7, hx7⟩)
  all_goals (refine ⟨fun e => (by cases e), ?_⟩)
  all_goals (refine WH.one 8 (by kernel_rfl) ?_)
  all_goals (refine Comes1.run rfl (OkP.r (ok_assign rfl)) rfl rfl rfl ?_ (fun _ => by kernel_rfl)
             rintro _ hz ⟨rfl, _⟩
             subst hz)
  all_goals (refine ⟨fun e => (by cases e), ?_⟩)
  all_goals (refine WH.done (by kernel_rfl) ?_)
  all_goals (refine Gn ?_)
  all_goals (refine WC.sub [(2, _), (3, _)] ⟨rfl, rfl, trivial⟩ ?_)
  all_goals (refine WC.ret ?_)
  all_goals (repeat' (with_reducible first | refine thenP_r ?_ | refine blockP_r ?_))
  all_goals (refine retP_2 _ _ ⟨⟨_, rfl, ld_blk (fun w => Tryz.isAgg85 w) (fun w => Tryz.sizeOf85 w) hb7 rfl⟩, rfl, trivial⟩ ?_)
  all_goals (exact ⟨_, rfl, hw6.ext hx7 (fun q hq e => by obtain ⟨_, z⟩ := own_kind hw6 hq; rw [e, hb26] at z; simp at z), (hX3.trans w6.ext).trans' hx7 (fun q hq e => by have := hx1.size; omega)⟩)
set_option maxHeartbeats 4000000 in
set_option maxRecDepth 100000 in
theorem encP_116 {h : Heap} (b : Bk) (hb : b.ok h) (hw : b.wf) (hmd : b.mid) (hmay : b.may) (hk : b.kind = 116) :
    CallsH Tryz.prog 53 ⟨[.agg ⟨b.cells⟩]⟩ h fun u h' => ∃ v', u = .tuple ⟨[.agg ⟨[.int .u8 116, v']⟩, In 0]⟩ ∧ Own h' v' 5 1 (encBk b).length (bys (encBk b)) ∧ Ext No h h' := by
  have kc := fun h' (hx : Ext No h h') => checkA_back b (hb.ext0 hx) hw.kind hmd
  have hL : encBk b = be b.oids.length 2 ++ b.oids.flatMap fun n => be n 4 := by simp [encBk, hk]
  rw [hL]
  clear hL
  have hst := hw.status
  obtain ⟨md1, md2, md3, md4, md5, md6, md7, md8, md9, md10⟩ := hmd
  have m_c := hmay.cols.2
  have m_o := hmay.oids.2
  have m_n := hmay.n
  have m_m := hmay.m
  have m_r := hmay.row.2
  have hF : ∀ f ∈ b.fields, f.t.length ≤ 200000 ∧ 0 ≤ f.k ∧ f.k ≤ 255 := fun f hf => ⟨md7 f hf, hw.codes f hf⟩
  clear hw
  obtain ⟨ho, hc, hr, hf⟩ := hb
  obtain ⟨k, st, t, n, v, x, y, vo, lo, vc, lc, vr, lr, vf, lf⟩ := b
  dsimp only at hk hst ho hc hr hf md1 md2 md3 md4 md5 md6 md7 md8 md9 md10 m_c m_o m_n m_m m_r hF ⊢
  have hro := ho.1
  have hrc := hc.1
  have hrr := hr.1
  have hrf := hf.1
  obtain ⟨Ao, co, rfl, _⟩ := id hro
  obtain ⟨Ac, cc, rfl, _⟩ := id hrc
  obtain ⟨Ar, cr, rfl, _⟩ := id hrr
  obtain ⟨Af, cf, rfl, _⟩ := id hrf
  dsimp only [Bk.cells] at kc ⊢
  subst hk
  refine calls [(0, _)] Tryz.func53 rfl Tryz.ntmps53 rfl ⟨rfl, trivial⟩ ?_
  all_goals (refine WC.sr ?_)
  all_goals (refine WL.stepR (okE_box rfl) rfl rfl rfl ?_
             rintro _ h1 ⟨b1, rfl, hg1, hb1, hx1⟩)
  all_goals (refine WL.stepR (okE_alloc (fun w => Tryz.zeroValue85 w)) rfl rfl rfl ?_
             rintro _ h2 ⟨b2, rfl, hg2, hb2, hx2⟩)
  all_goals (have hX2 := hx1.trans hx2
             have hb12 := hx2.obj hb1 nos)
  all_goals (refine Go ?_)
  all_goals (refine WC.seq ?_)
  all_goals (refine WC.sr ?_)
  all_goals (refine WL.step (ok_loadN (fun w => Tryz.isAgg32 w) (fun w => Tryz.sizeOf32 w) rfl rfl (by exact At.of_block hb12)) rfl rfl rfl ?_)
  all_goals (refine WL.call (vs := [_]) rfl (fun a w => Tryz.call65 a w) rfl (kc _ hX2) rfl rfl rfl ?_
             rintro _ h3 ⟨⟨e, rfl, he⟩, hx3⟩
             obtain rfl := he.2 hmay)
  all_goals (have hb13 := hx3.obj hb12 nos
             have hb23 := hx3.obj hb2 nos
             have hX3 := hX2.trans hx3)
  all_goals (refine Go ?_)
  all_goals (refine WC.sub [(1, _), (2, _), (4, _)] ⟨rfl, rfl, rfl, trivial⟩ ?_)
  all_goals (refine WC.sr ?_)
  all_goals (refine Go ?_)
  all_goals (refine goC 1 2 ?_ ?_ <;> first | exact ⟨⟩ | refine Hb.mk fun hb => ?_ | skip)
  all_goals (first | (fail_if_success refine goB 1 ?_) | (
  refine goB 1 ?_
  all_goals (refine WC.sr ?_)
  all_goals (refine WL.step (ok_buildF (vs := []) (cs := [_, _]) (fun | [] => [(.int .u8 0), (.slice none 0 0)] | _ => []) rfl rfl (by kernel_rfl)) rfl rfl rfl ?_)
  all_goals (refine Go ?_)
  all_goals (refine WL.stepR0 (okE_storeW (fun w => Tryz.sizeOf85 w) rfl rfl rfl (by assumption) rfl (by simp [Value.oneCell'])) rfl rfl ?_
             rintro _ h1 ⟨hb1, hx1⟩)
  all_goals (refine Go ?_)
  all_goals (refine WC.sub [(2, _), (3, _)] ⟨rfl, rfl, trivial⟩ ?_)
  all_goals (refine WC.ret ?_)
  all_goals (repeat' (with_reducible first | refine thenP_r ?_ | refine blockP_r ?_))
  all_goals (refine retP_2 _ _ ⟨⟨_, rfl, ld_blk (fun w => Tryz.isAgg85 w) (fun w => Tryz.sizeOf85 w) hb7 rfl⟩, rfl, trivial⟩ ?_)
  all_goals (exact ⟨_, rfl, hw6.ext hx7 (fun q hq e => by obtain ⟨_, z⟩ := own_kind hw6 hq; rw [e, hb26] at z; simp at z), (hX3.trans w6.ext).trans' hx7 (fun q hq e => by have := hx1.size; omega)⟩)
  skip))
  all_goals (first | (fail_if_success refine goB 2 ?_) | (
  refine goB 2 ?_
  all_goals (refine WC.skip ?_)
  skip))
  all_goals (refine Gn ?_)
  all_goals (refine WC.sr ?_)
  all_goals (refine WL.step (ok_buildF (vs := []) (cs := [_]) (fun | [] => [(.slice none 0 0)] | _ => []) rfl rfl (by kernel_rfl)) rfl rfl rfl ?_)
  all_goals (refine WL.stepR (okE_box rfl) rfl rfl rfl ?_
             rintro _ h4 ⟨b5, rfl, hg5, hb5, hx4⟩)
  all_goals (have hb14 := hx4.obj hb13 nos
             have hb24 := hx4.obj hb23 nos
             have l1 := lt_of_some hb13
             have l2 := lt_of_some hb23
             have w4 : Wr h3 h4 b5 nilV [] := ⟨hb5, Own.nil _ _ _, ⟨by omega, by simp [Value.ownBlock]⟩, hx4⟩)
  all_goals (refine Go ?_)
  all_goals (refine WC.sub [(1, _), (2, _), (5, _)] ⟨rfl, rfl, rfl, trivial⟩ ?_)
  all_goals (refine WC.seq ?_)
  all_goals (refine WC.sr ?_)
  all_goals (refine Go ?_)
  all_goals (refine WL.step (ok_load (fun w => Tryz.isAgg5 w) rfl (by first | exact cell_blk hb14 rfl | assumption | exact cell_blk (by assumption) rfl)) rfl rfl rfl ?_)
  all_goals (refine Gn ?_)
  all_goals (refine WC.block ?_)
  all_goals (refine WC.sr ?_)
  all_goals (refine Go ?_)
  all_goals (refine goC 3 4 ?_ ?_ <;> first | exact ⟨⟩ | refine Hb.mk fun hb => ?_ | skip)
  all_goals (first | (fail_if_success refine goB 4 ?_) | (
  refine goB 4 ?_
  all_goals (refine WC.sr ?_)
  all_goals (refine Go ?_)
  all_goals (refine WC.sub [(1, _), (2, _), (5, _), (19, _), (24, _)] ⟨rfl, rfl, rfl, rfl, rfl, trivial⟩ ?_)
  all_goals (refine goC 5 6 ?_ ?_ <;> first | exact ⟨⟩ | refine Hb.mk fun hb => ?_ | skip)
  all_goals (first | (fail_if_success refine goB 6 ?_) | (
  refine goB 6 ?_
  all_goals (refine WC.sr ?_)
  all_goals (refine Go ?_)
  all_goals (refine goC 7 8 ?_ ?_ <;> first | exact ⟨⟩ | refine Hb.mk fun hb => ?_ | skip)
  all_goals (first | (fail_if_success refine goB 8 ?_) | (
  refine goB 8 ?_
  all_goals (refine WC.sr ?_)
  all_goals (refine Go ?_)
  all_goals (refine WC.sub [(1, _), (2, _), (5, _), (19, _), (44, _)] ⟨rfl, rfl, rfl, rfl, rfl, trivial⟩ ?_)
  all_goals (refine goC 9 10 ?_ ?_ <;> first | exact ⟨⟩ | refine Hb.mk fun hb => ?_ | skip)
  all_goals (first | (fail_if_success refine goB 9 ?_) | (
  refine goB 9 ?_
  all_goals (refine WC.region ?_)
  all_goals (refine Go ?_)
  all_goals (refine WL.step (ok_load (fun w => Tryz.isAgg5 w) rfl (by first | assumption | exact cell_blk (by assumption) rfl)) rfl rfl rfl ?_)
  all_goals (refine WL.stepR (okE_buildSlice (vs := [_]) (cs := [_]) (fun | [a0] => [a0] | _ => []) Tryz.underlying24 rfl rfl (by kernel_rfl)) rfl rfl rfl ?_
             rintro _ h1 ⟨b1, rfl, hg1, hb1, hx1⟩)
  all_goals (refine WL.step (ok_nilCheck rfl) rfl rfl rfl ?_)
  all_goals (refine Go ?_)
  all_goals (refine WL.stepR0 (okE_store (fun w => Tryz.sizeOf24 w) rfl rfl (by assumption) (Nat.le_of_ble_eq_true rfl) rfl rfl) rfl rfl ?_
             rintro _ h1 ⟨hb1, hx1⟩)
  all_goals (refine Gn ?_)
  skip))
  all_goals (first | (fail_if_success refine goB 10 ?_) | (
  refine goB 10 ?_
  all_goals (refine WC.sr ?_)
  all_goals (refine Go ?_)
  all_goals (refine goC 11 12 ?_ ?_ <;> first | exact ⟨⟩ | refine Hb.mk fun hb => ?_ | skip)
  all_goals (first | (fail_if_success refine goB 12 ?_) | (
  refine goB 12 ?_
  all_goals (refine WC.sr ?_)
  all_goals (refine Go ?_)
  all_goals (refine WC.sub [(1, _), (2, _), (5, _), (19, _), (58, _)] ⟨rfl, rfl, rfl, rfl, rfl, trivial⟩ ?_)
  all_goals (refine goC 13 14 ?_ ?_ <;> first | exact ⟨⟩ | refine Hb.mk fun hb => ?_ | skip)
  all_goals (first | (fail_if_success refine goB 14 ?_) | (
  refine goB 14 ?_
  all_goals (refine WC.sr ?_)
  all_goals (refine Go ?_)
  all_goals (refine goC 15 16 ?_ ?_ <;> first | exact ⟨⟩ | refine Hb.mk fun hb => ?_ | skip)
  all_goals (first | (fail_if_success refine goB 16 ?_) | (
  refine goB 16 ?_
  all_goals (refine WC.sr ?_)
  all_goals (refine Go ?_)
  all_goals (refine WC.sub [(1, _), (2, _), (5, _), (19, _), (82, _)] ⟨rfl, rfl, rfl, rfl, rfl, trivial⟩ ?_)
  all_goals (refine goC 19 20 ?_ ?_ <;> first | exact ⟨⟩ | refine Hb.mk fun hb => ?_ | skip)
  all_goals (first | (fail_if_success refine goB 19 ?_) | (
  refine goB 19 ?_
  all_goals (refine WC.sr ?_)
  all_goals (refine Go ?_)
  all_goals (refine WL.step (ok_load (fun w => Tryz.isAgg27 w) rfl (by first | exact cell_blk hb14 rfl | assumption | exact cell_blk (by assumption) rfl)) rfl rfl rfl ?_)
  all_goals (refine Go ?_)
  all_goals (refine WL.call (vs := [_, _, _]) rfl (fun a w => Tryz.call66 a w) rfl (num_w w4 (lo.length : Int) 2 sz2 (rt2 (by omega)) (by decide)) rfl rfl rfl ?_
             rintro _ h5 ⟨v5, w5, t5⟩
             have hb15 := w5.ext.obj hb13 nos)
  all_goals (refine Gn ?_)
  all_goals (refine WC.sub [(1, _), (2, _), (5, _)] ⟨rfl, rfl, rfl, trivial⟩ ?_)
  all_goals (refine WC.sr ?_)
  all_goals (refine Go ?_)
  all_goals (refine WL.step (ok_load (fun w => Tryz.isAgg27 w) rfl (by first | exact cell_blk hb15 rfl | assumption | exact cell_blk (by assumption) rfl)) rfl rfl rfl ?_)
  all_goals (have hfl : ∀ j, ((lo.take j).flatMap fun n => be n 4).length ≤ 1000 := fun j => Nat.le_trans (flat_take (n := 4) lo j fun x hx => by rw [be_len]; omega) (by omega))
  all_goals (refine Go ?_)
  all_goals (refine WC.block ?_)
  -- loop 1: slots that turn [92], that stay [1, 2, 5, 90, 91]
  all_goals (refine WC.loopG (X := Nat × Value) (fun x => ([(92, In (x.1 : Int))] : Fr)) [(1, _), (2, _), (5, _), (90, _), (91, _)] (fun y h' => y.1 ≤ lo.length ∧ Wr h3 h' b5 y.2 (be (lo.length : Int) 2 ++ (lo.take y.1).flatMap fun n => be n 4)) (fun y => lo.length - y.1) ((0, v5)) ⟨rfl, rfl, rfl, rfl, rfl, rfl, trivial⟩ (by exact ⟨Nat.zero_le _, by simpa using w5⟩) ?_)
  all_goals (rintro ⟨j, v6⟩ h6 ⟨hj, w6⟩
             dsimp only at hj w6)
  all_goals (refine WC.sub [(92, _), (1, _), (2, _), (5, _), (90, _), (91, _)] ⟨rfl, rfl, rfl, rfl, rfl, rfl, trivial⟩ ?_)
  all_goals (dsimp only)
  all_goals (refine WC.sr ?_)
  all_goals (refine Go ?_)
  all_goals (refine WC.seq ?_)
  all_goals (refine goC 21 22 ?_ ?_ <;> first | exact ⟨⟩ | refine Hb.mk fun hb => ?_ | skip)
  all_goals (first | (fail_if_success refine goB 21 ?_) | (
  refine goB 21 ?_
  all_goals (refine WC.skip ?_)
  skip))
  all_goals (first | (fail_if_success refine goB 22 ?_) | (
  refine goB 22 ?_
  all_goals (refine WC.exit ?_)
  all_goals (repeat' (with_reducible first | refine thenP_x ?_ | refine blockP_miss rfl ?_ | refine blockP_hit ?_ | refine blockP_n ?_ | refine thenP_n ?_))
  all_goals (refine Br.out (i := 1003) ?_)
  skip))
  all_goals (refine Gn ?_)
  all_goals (first | (refine Br.keep ?_) | (refine WC.seq ?_))
  all_goals (first | (refine Br.keep ?_) | (refine WC.block ?_))
  all_goals (first | (refine Br.keep ?_) | (refine WC.sr ?_))
  all_goals (first
               | (refine Br.keep ?_)
               | (obtain ⟨bL, oL, hA, hbL, hat⟩ := Rd.at_ (hro.ext0 hX3) (by omega)
                  obtain ⟨yy, hy⟩ : ∃ y, lo[j]? = some y := ⟨_, List.getElem?_eq_getElem (by omega)⟩
                  have hyo := m_o _ (List.mem_of_getElem? hy)
                  have hcd : cell h6 ⟨bL, oL + j * 1, none⟩ = some (In yy) := (hat.ext w6.ext nos).get j (get_int hy) (by omega)
                  have hlj := hfl j))
  all_goals (first | (refine Br.keep ?_) | (refine WL.step (ok_idxAddrA Tryz.underlying27 (fun w => Tryz.sizeOf3 w) rfl rfl rfl (by omega) (by first | rfl | assumption)) rfl rfl rfl ?_))
  all_goals (first | (refine Br.keep ?_) | (refine WL.step (ok_load (fun w => Tryz.isAgg3 w) rfl (by first | exact hcd | assumption | exact cell_blk (by assumption) rfl)) rfl rfl rfl ?_))
  all_goals (refine Go ?_)
  all_goals (first | (refine Br.keep ?_) | (refine WC.region ?_))
  all_goals (refine Go ?_)
  all_goals (first
               | (refine Br.keep ?_)
               | (refine WL.call (vs := [_, _, _]) rfl (fun a w => Tryz.call66 a w) rfl (num_w w6 yy 4 sz4 (rt4s (by omega)) (by simp only [List.length_append, be_len]; omega)) rfl rfl rfl ?_
                  rintro _ h9 ⟨v9, w9, t9⟩))
  all_goals (refine Gn ?_)
  all_goals (first | (refine Br.keep ?_) | (refine WC.sub [(1, _), (2, _), (5, _), (90, _), (91, _), (92, _)] ⟨rfl, rfl, rfl, rfl, rfl, rfl, trivial⟩ ?_))
  all_goals (first | (refine Br.keep ?_) | (refine WC.region ?_))
  all_goals (refine Go ?_)
  all_goals (first | (refine Br.keep ?_) | (exact ⟨(j + 1, _), ⟨rfl, rfl, rfl, rfl, rfl, rfl, trivial⟩, (by exact ⟨by omega, by rw [flat_snoc hy, ← List.append_assoc]; exact w9⟩), (by simp; omega)⟩))
  all_goals (try (refine Br.mk (i := 1003) ?_))
  skip))
  all_goals (first | (fail_if_success refine goB 20 ?_) | (
  refine goB 20 ?_
  all_goals (refine WC.seq ?_)
  all_goals (refine WC.sr ?_)
  all_goals (refine Go ?_)
  all_goals (refine goC 23 24 ?_ ?_ <;> first | exact ⟨⟩ | refine Hb.mk fun hb => ?_ | skip)
  all_goals (first | (fail_if_success refine goB 23 ?_) | (
  refine goB 23 ?_
  all_goals (refine WC.skip ?_)
  skip))
  all_goals (first | (fail_if_success refine goB 24 ?_) | (
  refine goB 24 ?_
  all_goals (refine WC.region ?_)
  all_goals (refine Go ?_)
  skip))
  all_goals (refine Gn ?_)
  all_goals (refine goC 25 26 ?_ ?_ <;> first | exact ⟨⟩ | refine Hb.mk fun hb => ?_ | skip)
  all_goals (first | (fail_if_success refine goB 26 ?_) | (
  refine goB 26 ?_
  all_goals (refine WC.skip ?_)
  skip))
  skip))
  skip))
  skip))
  skip))
  skip))
  skip))
  skip))
  skip))
  all_goals (refine Gn ?_)
  all_goals (refine WC.seq ?_)
  all_goals (refine WC.drawH (fun h' => Ext No h6 h') 7 9 rfl fol ?_)
  all_goals (rw [List.take_of_length_le (by omega)] at w6
             have hb16 := w6.ext.obj hb13 nos
             have hb26 := w6.ext.obj hb23 nos
             have hw6 := w6.own
             obtain ⟨A6, c6, e6, _⟩ := hw6.slice
             rw [e6] at w6 hw6)
  all_goals (refine WH.tk 0 rfl (fun hq hC => ok_fieldAddr rfl Tryz.underlying32 rfl (fun w => Tryz.sizeOf5 w)) rfl rfl rfl ?_)
  all_goals (refine WH.tk 1 rfl (fun hq hC => ok_load (fun w => Tryz.isAgg5 w) rfl (by first | exact hC.cell (by first | exact cell_blk hb16 rfl | assumption | exact cell_blk (by assumption) rfl) nos)) rfl rfl rfl ?_)
  all_goals (refine WH.tk 2 rfl (fun hq hC => ok_move rfl) rfl rfl rfl ?_)
  all_goals (refine WH.tk 3 rfl (fun hq hC => ok_nilCheck rfl) rfl rfl rfl ?_)
  all_goals (refine WH.tk 4 rfl (fun hq hC => ok_fieldAddr rfl Tryz.underlying97 rfl (fun w => Tryz.sizeOf24 w)) rfl rfl rfl ?_)
  all_goals (refine WH.tk 5 rfl (fun hq hC => ok_load (fun w => Tryz.isAgg24 w) rfl (by first | exact hC.cell (by first | exact cell_blk w6.blk rfl | assumption | exact cell_blk (by assumption) rfl) nos)) rfl rfl rfl ?_)
  all_goals (refine WH.tk 6 rfl (fun hq hC => ok_buildF (vs := [_, _]) (cs := [_, _]) (fun | [a0, a1] => [a0, a1] | _ => []) rfl rfl (by kernel_rfl)) rfl rfl rfl ?_)
  all_goals (refine WH.one 7 (by kernel_rfl) ?_)
  all_goals (refine Comes1.run0 rfl (okE_storeW (fun w => Tryz.sizeOf85 w) rfl rfl rfl hb26 rfl (by simp [Value.oneCell'])) rfl rfl ?_ (fun _ => by kernel_rfl)
             rintro _ h7 ⟨hb7, hx7⟩)
  all_goals (refine ⟨fun e => (by cases e), ?_⟩)
  all_goals (refine WH.one 8 (by kernel_rfl) ?_)
  all_goals (refine Comes1.run rfl (OkP.r (ok_assign rfl)) rfl rfl rfl ?_ (fun _ => by kernel_rfl)
             rintro _ hz ⟨rfl, _⟩
             subst hz)
  all_goals (refine ⟨fun e => (by cases e), ?_⟩)
  all_goals (refine WH.done (by kernel_rfl) ?_)
  all_goals (refine Gn ?_)
  all_goals (refine WC.sub [(2, _), (3, _)] ⟨rfl, rfl, trivial⟩ ?_)
  all_goals (refine WC.ret ?_)
  all_goals (repeat' (with_reducible first | refine thenP_r ?_ | refine blockP_r ?_))
  all_goals (refine retP_2 _ _ ⟨⟨_, rfl, ld_blk (fun w => Tryz.isAgg85 w) (fun w => Tryz.sizeOf85 w) hb7 rfl⟩, rfl, trivial⟩ ?_)
  all_goals (exact ⟨_, rfl, hw6.ext hx7 (fun q hq e => by obtain ⟨_, z⟩ := own_kind hw6 hq; rw [e, hb26] at z; simp at z), (hX3.trans w6.ext).trans' hx7 (fun q hq e => by have := hx1.size; omega)⟩)
set_option maxHeartbeats 4000000 in
set_option maxRecDepth 100000 in
theorem encP_69 {h : Heap} (b : Bk) (hb : b.ok h) (hw : b.wf) (hmd : b.mid) (hmay : b.may) (hk : b.kind = 69) :
    CallsH Tryz.prog 53 ⟨[.agg ⟨b.cells⟩]⟩ h fun u h' => ∃ v', u = .tuple ⟨[.agg ⟨[.int .u8 69, v']⟩, In 0]⟩ ∧ Own h' v' 5 1 (encBk b).length (bys (encBk b)) ∧ Ext No h h' := by
  have kc := fun h' (hx : Ext No h h') => checkA_back b (hb.ext0 hx) hw.kind hmd
  have hL : encBk b = encF b.fields ++ [0] := by simp [encBk, hk]
  rw [hL]
  clear hL
  have hst := hw.status
  obtain ⟨md1, md2, md3, md4, md5, md6, md7, md8, md9, md10⟩ := hmd
  have m_c := hmay.cols.2
  have m_o := hmay.oids.2
  have m_n := hmay.n
  have m_m := hmay.m
  have m_r := hmay.row.2
  have hF : ∀ f ∈ b.fields, f.t.length ≤ 200000 ∧ 0 ≤ f.k ∧ f.k ≤ 255 := fun f hf => ⟨md7 f hf, hw.codes f hf⟩
  clear hw
  obtain ⟨ho, hc, hr, hf⟩ := hb
  obtain ⟨k, st, t, n, v, x, y, vo, lo, vc, lc, vr, lr, vf, lf⟩ := b
  dsimp only at hk hst ho hc hr hf md1 md2 md3 md4 md5 md6 md7 md8 md9 md10 m_c m_o m_n m_m m_r hF ⊢
  have hro := ho.1
  have hrc := hc.1
  have hrr := hr.1
  have hrf := hf.1
  obtain ⟨Ao, co, rfl, _⟩ := id hro
  obtain ⟨Ac, cc, rfl, _⟩ := id hrc
  obtain ⟨Ar, cr, rfl, _⟩ := id hrr
  obtain ⟨Af, cf, rfl, _⟩ := id hrf
  dsimp only [Bk.cells] at kc ⊢
  subst hk
  refine calls [(0, _)] Tryz.func53 rfl Tryz.ntmps53 rfl ⟨rfl, trivial⟩ ?_
  all_goals (refine WC.sr ?_)
  all_goals (refine WL.stepR (okE_box rfl) rfl rfl rfl ?_
             rintro _ h1 ⟨b1, rfl, hg1, hb1, hx1⟩)
  all_goals (refine WL.stepR (okE_alloc (fun w => Tryz.zeroValue85 w)) rfl rfl rfl ?_
             rintro _ h2 ⟨b2, rfl, hg2, hb2, hx2⟩)
  all_goals (have hX2 := hx1.trans hx2
             have hb12 := hx2.obj hb1 nos)
  all_goals (refine Go ?_)
  all_goals (refine WC.seq ?_)
  all_goals (refine WC.sr ?_)
  all_goals (refine WL.step (ok_loadN (fun w => Tryz.isAgg32 w) (fun w => Tryz.sizeOf32 w) rfl rfl (by exact At.of_block hb12)) rfl rfl rfl ?_)
  all_goals (refine WL.call (vs := [_]) rfl (fun a w => Tryz.call65 a w) rfl (kc _ hX2) rfl rfl rfl ?_
             rintro _ h3 ⟨⟨e, rfl, he⟩, hx3⟩
             obtain rfl := he.2 hmay)
  all_goals (have hb13 := hx3.obj hb12 nos
             have hb23 := hx3.obj hb2 nos
             have hX3 := hX2.trans hx3)
  all_goals (refine Go ?_)
  all_goals (refine WC.sub [(1, _), (2, _), (4, _)] ⟨rfl, rfl, rfl, trivial⟩ ?_)
  all_goals (refine WC.sr ?_)
  all_goals (refine Go ?_)
  all_goals (refine goC 1 2 ?_ ?_ <;> first | exact ⟨⟩ | refine Hb.mk fun hb => ?_ | skip)
  all_goals (first | (fail_if_success refine goB 1 ?_) | (
  refine goB 1 ?_
  all_goals (refine WC.sr ?_)
  all_goals (refine WL.step (ok_buildF (vs := []) (cs := [_, _]) (fun | [] => [(.int .u8 0), (.slice none 0 0)] | _ => []) rfl rfl (by kernel_rfl)) rfl rfl rfl ?_)
  all_goals (refine Go ?_)
  all_goals (refine WL.stepR0 (okE_storeW (fun w => Tryz.sizeOf85 w) rfl rfl rfl (by assumption) rfl (by simp [Value.oneCell'])) rfl rfl ?_
             rintro _ h1 ⟨hb1, hx1⟩)
  all_goals (refine Go ?_)
  all_goals (refine WC.sub [(2, _), (3, _)] ⟨rfl, rfl, trivial⟩ ?_)
  all_goals (refine WC.ret ?_)
  all_goals (repeat' (with_reducible first | refine thenP_r ?_ | refine blockP_r ?_))
  all_goals (refine retP_2 _ _ ⟨⟨_, rfl, ld_blk (fun w => Tryz.isAgg85 w) (fun w => Tryz.sizeOf85 w) hb7 rfl⟩, rfl, trivial⟩ ?_)
  all_goals (exact ⟨_, rfl, hw6.ext hx7 (fun q hq e => by obtain ⟨_, z⟩ := own_kind hw6 hq; rw [e, hb26] at z; simp at z), (hX3.trans w6.ext).trans' hx7 (fun q hq e => by have := hx1.size; omega)⟩)
  skip))
  all_goals (first | (fail_if_success refine goB 2 ?_) | (
  refine goB 2 ?_
  all_goals (refine WC.skip ?_)
  skip))
  all_goals (refine Gn ?_)
  all_goals (refine WC.sr ?_)
  all_goals (refine WL.step (ok_buildF (vs := []) (cs := [_]) (fun | [] => [(.slice none 0 0)] | _ => []) rfl rfl (by kernel_rfl)) rfl rfl rfl ?_)
  all_goals (refine WL.stepR (okE_box rfl) rfl rfl rfl ?_
             rintro _ h4 ⟨b5, rfl, hg5, hb5, hx4⟩)
  all_goals (have hb14 := hx4.obj hb13 nos
             have hb24 := hx4.obj hb23 nos
             have l1 := lt_of_some hb13
             have l2 := lt_of_some hb23
             have w4 : Wr h3 h4 b5 nilV [] := ⟨hb5, Own.nil _ _ _, ⟨by omega, by simp [Value.ownBlock]⟩, hx4⟩)
  all_goals (refine Go ?_)
  all_goals (refine WC.sub [(1, _), (2, _), (5, _)] ⟨rfl, rfl, rfl, trivial⟩ ?_)
  all_goals (refine WC.seq ?_)
  all_goals (refine WC.sr ?_)
  all_goals (refine Go ?_)
  all_goals (refine WL.step (ok_load (fun w => Tryz.isAgg5 w) rfl (by first | exact cell_blk hb14 rfl | assumption | exact cell_blk (by assumption) rfl)) rfl rfl rfl ?_)
  all_goals (refine Gn ?_)
  all_goals (refine WC.block ?_)
  all_goals (refine WC.sr ?_)
  all_goals (refine Go ?_)
  all_goals (refine goC 3 4 ?_ ?_ <;> first | exact ⟨⟩ | refine Hb.mk fun hb => ?_ | skip)
  all_goals (first | (fail_if_success refine goB 4 ?_) | (
  refine goB 4 ?_
  all_goals (refine WC.sr ?_)
  all_goals (refine Go ?_)
  all_goals (refine WC.sub [(1, _), (2, _), (5, _), (19, _), (24, _)] ⟨rfl, rfl, rfl, rfl, rfl, trivial⟩ ?_)
  all_goals (refine goC 5 6 ?_ ?_ <;> first | exact ⟨⟩ | refine Hb.mk fun hb => ?_ | skip)
  all_goals (first | (fail_if_success refine goB 6 ?_) | (
  refine goB 6 ?_
  all_goals (refine WC.sr ?_)
  all_goals (refine Go ?_)
  all_goals (refine goC 7 8 ?_ ?_ <;> first | exact ⟨⟩ | refine Hb.mk fun hb => ?_ | skip)
  all_goals (first | (fail_if_success refine goB 8 ?_) | (
  refine goB 8 ?_
  all_goals (refine WC.sr ?_)
  all_goals (refine Go ?_)
  all_goals (refine WC.sub [(1, _), (2, _), (5, _), (19, _), (44, _)] ⟨rfl, rfl, rfl, rfl, rfl, trivial⟩ ?_)
  all_goals (refine goC 9 10 ?_ ?_ <;> first | exact ⟨⟩ | refine Hb.mk fun hb => ?_ | skip)
  all_goals (first | (fail_if_success refine goB 9 ?_) | (
  refine goB 9 ?_
  all_goals (refine WC.region ?_)
  all_goals (refine Go ?_)
  all_goals (refine WL.step (ok_load (fun w => Tryz.isAgg5 w) rfl (by first | assumption | exact cell_blk (by assumption) rfl)) rfl rfl rfl ?_)
  all_goals (refine WL.stepR (okE_buildSlice (vs := [_]) (cs := [_]) (fun | [a0] => [a0] | _ => []) Tryz.underlying24 rfl rfl (by kernel_rfl)) rfl rfl rfl ?_
             rintro _ h1 ⟨b1, rfl, hg1, hb1, hx1⟩)
  all_goals (refine WL.step (ok_nilCheck rfl) rfl rfl rfl ?_)
  all_goals (refine Go ?_)
  all_goals (refine WL.stepR0 (okE_store (fun w => Tryz.sizeOf24 w) rfl rfl (by assumption) (Nat.le_of_ble_eq_true rfl) rfl rfl) rfl rfl ?_
             rintro _ h1 ⟨hb1, hx1⟩)
  all_goals (refine Gn ?_)
  skip))
  all_goals (first | (fail_if_success refine goB 10 ?_) | (
  refine goB 10 ?_
  all_goals (refine WC.sr ?_)
  all_goals (refine Go ?_)
  all_goals (refine goC 11 12 ?_ ?_ <;> first | exact ⟨⟩ | refine Hb.mk fun hb => ?_ | skip)
  all_goals (first | (fail_if_success refine goB 12 ?_) | (
  refine goB 12 ?_
  all_goals (refine WC.sr ?_)
  all_goals (refine Go ?_)
  all_goals (refine WC.sub [(1, _), (2, _), (5, _), (19, _), (58, _)] ⟨rfl, rfl, rfl, rfl, rfl, trivial⟩ ?_)
  all_goals (refine goC 13 14 ?_ ?_ <;> first | exact ⟨⟩ | refine Hb.mk fun hb => ?_ | skip)
  all_goals (first | (fail_if_success refine goB 14 ?_) | (
  refine goB 14 ?_
  all_goals (refine WC.sr ?_)
  all_goals (refine Go ?_)
  all_goals (refine goC 15 16 ?_ ?_ <;> first | exact ⟨⟩ | refine Hb.mk fun hb => ?_ | skip)
  all_goals (first | (fail_if_success refine goB 16 ?_) | (
  refine goB 16 ?_
  all_goals (refine WC.sr ?_)
  all_goals (refine Go ?_)
  all_goals (refine WC.sub [(1, _), (2, _), (5, _), (19, _), (82, _)] ⟨rfl, rfl, rfl, rfl, rfl, trivial⟩ ?_)
  all_goals (refine goC 19 20 ?_ ?_ <;> first | exact ⟨⟩ | refine Hb.mk fun hb => ?_ | skip)
  all_goals (first | (fail_if_success refine goB 20 ?_) | (
  refine goB 20 ?_
  all_goals (refine WC.seq ?_)
  all_goals (refine WC.sr ?_)
  all_goals (refine Go ?_)
  all_goals (refine goC 23 24 ?_ ?_ <;> first | exact ⟨⟩ | refine Hb.mk fun hb => ?_ | skip)
  all_goals (first | (fail_if_success refine goB 23 ?_) | (
  refine goB 23 ?_
  all_goals (refine WC.skip ?_)
  skip))
  all_goals (first | (fail_if_success refine goB 24 ?_) | (
  refine goB 24 ?_
  all_goals (refine WC.region ?_)
  all_goals (refine Go ?_)
  skip))
  all_goals (refine Gn ?_)
  all_goals (refine goC 25 26 ?_ ?_ <;> first | exact ⟨⟩ | refine Hb.mk fun hb => ?_ | skip)
  all_goals (first | (fail_if_success refine goB 25 ?_) | (
  refine goB 25 ?_
  all_goals (refine WC.region ?_)
  all_goals (refine Go ?_)
  all_goals (refine WL.step (ok_load (fun w => Tryz.isAgg30 w) rfl (by first | exact cell_blk hb14 rfl | assumption | exact cell_blk (by assumption) rfl)) rfl rfl rfl ?_)
  all_goals (refine WL.call (vs := [_, _]) rfl (fun a w => Tryz.call70 a w) rfl (fields_w lf w4 (hf.1.ext0 hX3) hF md4) rfl rfl rfl ?_
             rintro _ h6 ⟨v6, w6, t6⟩)
  all_goals (refine Gn ?_)
  skip))
  all_goals (first | (fail_if_success refine goB 26 ?_) | (
  refine goB 26 ?_
  all_goals (refine WC.skip ?_)
  skip))
  skip))
  skip))
  skip))
  skip))
  skip))
  skip))
  skip))
  skip))
  all_goals (refine Gn ?_)
  all_goals (refine WC.seq ?_)
  all_goals (refine WC.drawH (fun h' => Ext No h6 h') 7 9 rfl fol ?_)
  all_goals (have hb16 := w6.ext.obj hb13 nos
             have hb26 := w6.ext.obj hb23 nos
             have hw6 := w6.own
             obtain ⟨A6, c6, e6, _⟩ := hw6.slice
             rw [e6] at w6 hw6)
  all_goals (refine WH.tk 0 rfl (fun hq hC => ok_fieldAddr rfl Tryz.underlying32 rfl (fun w => Tryz.sizeOf5 w)) rfl rfl rfl ?_)
  all_goals (refine WH.tk 1 rfl (fun hq hC => ok_load (fun w => Tryz.isAgg5 w) rfl (by first | exact hC.cell (by first | exact cell_blk hb16 rfl | assumption | exact cell_blk (by assumption) rfl) nos)) rfl rfl rfl ?_)
  all_goals (refine WH.tk 2 rfl (fun hq hC => ok_move rfl) rfl rfl rfl ?_)
  all_goals (refine WH.tk 3 rfl (fun hq hC => ok_nilCheck rfl) rfl rfl rfl ?_)
  all_goals (refine WH.tk 4 rfl (fun hq hC => ok_fieldAddr rfl Tryz.underlying97 rfl (fun w => Tryz.sizeOf24 w)) rfl rfl rfl ?_)
  all_goals (refine WH.tk 5 rfl (fun hq hC => ok_load (fun w => Tryz.isAgg24 w) rfl (by first | exact hC.cell (by first | exact cell_blk w6.blk rfl | assumption | exact cell_blk (by assumption) rfl) nos)) rfl rfl rfl ?_)
  all_goals (refine WH.tk 6 rfl (fun hq hC => ok_buildF (vs := [_, _]) (cs := [_, _]) (fun | [a0, a1] => [a0, a1] | _ => []) rfl rfl (by kernel_rfl)) rfl rfl rfl ?_)
  all_goals (refine WH.one 7 (by kernel_rfl) ?_)
  all_goals (refine Comes1.run0 rfl (okE_storeW (fun w => Tryz.sizeOf85 w) rfl rfl rfl hb26 rfl (by simp [Value.oneCell'])) rfl rfl ?_ (fun _ => by kernel_rfl)
             rintro _ h7 ⟨hb7, hx7⟩)
  all_goals (refine ⟨fun e => (by cases e), ?_⟩)
  all_goals (refine WH.one 8 (by kernel_rfl) ?_)
  all_goals (refine Comes1.run rfl (OkP.r (ok_assign rfl)) rfl rfl rfl ?_ (fun _ => by kernel_rfl)
             rintro _ hz ⟨rfl, _⟩
             subst hz)
  all_goals (refine ⟨fun e => (by cases e), ?_⟩)
  all_goals (refine WH.done (by kernel_rfl) ?_)
  all_goals (refine Gn ?_)
  all_goals (refine WC.sub [(2, _), (3, _)] ⟨rfl, rfl, trivial⟩ ?_)
  all_goals (refine WC.ret ?_)
  all_goals (repeat' (with_reducible first | refine thenP_r ?_ | refine blockP_r ?_))
  all_goals (refine retP_2 _ _ ⟨⟨_, rfl, ld_blk (fun w => Tryz.isAgg85 w) (fun w => Tryz.sizeOf85 w) hb7 rfl⟩, rfl, trivial⟩ ?_)
  all_goals (exact ⟨_, rfl, hw6.ext hx7 (fun q hq e => by obtain ⟨_, z⟩ := own_kind hw6 hq; rw [e, hb26] at z; simp at z), (hX3.trans w6.ext).trans' hx7 (fun q hq e => by have := hx1.size; omega)⟩)
set_option maxHeartbeats 4000000 in
set_option maxRecDepth 100000 in
theorem encP_78 {h : Heap} (b : Bk) (hb : b.ok h) (hw : b.wf) (hmd : b.mid) (hmay : b.may) (hk : b.kind = 78) :
    CallsH Tryz.prog 53 ⟨[.agg ⟨b.cells⟩]⟩ h fun u h' => ∃ v', u = .tuple ⟨[.agg ⟨[.int .u8 78, v']⟩, In 0]⟩ ∧ Own h' v' 5 1 (encBk b).length (bys (encBk b)) ∧ Ext No h h' := by
  have kc := fun h' (hx : Ext No h h') => checkA_back b (hb.ext0 hx) hw.kind hmd
  have hL : encBk b = encF b.fields ++ [0] := by simp [encBk, hk]
  rw [hL]
  clear hL
  have hst := hw.status
  obtain ⟨md1, md2, md3, md4, md5, md6, md7, md8, md9, md10⟩ := hmd
  have m_c := hmay.cols.2
  have m_o := hmay.oids.2
  have m_n := hmay.n
  have m_m := hmay.m
  have m_r := hmay.row.2
  have hF : ∀ f ∈ b.fields, f.t.length ≤ 200000 ∧ 0 ≤ f.k ∧ f.k ≤ 255 := fun f hf => ⟨md7 f hf, hw.codes f hf⟩
  clear hw
  obtain ⟨ho, hc, hr, hf⟩ := hb
  obtain ⟨k, st, t, n, v, x, y, vo, lo, vc, lc, vr, lr, vf, lf⟩ := b
  dsimp only at hk hst ho hc hr hf md1 md2 md3 md4 md5 md6 md7 md8 md9 md10 m_c m_o m_n m_m m_r hF ⊢
  have hro := ho.1
  have hrc := hc.1
  have hrr := hr.1
  have hrf := hf.1
  obtain ⟨Ao, co, rfl, _⟩ := id hro
  obtain ⟨Ac, cc, rfl, _⟩ := id hrc
  obtain ⟨Ar, cr, rfl, _⟩ := id hrr
  obtain ⟨Af, cf, rfl, _⟩ := id hrf
  dsimp only [Bk.cells] at kc ⊢
  subst hk
  refine calls [(0, _)] Tryz.func53 rfl Tryz.ntmps53 rfl ⟨rfl, trivial⟩ ?_
  all_goals (refine WC.sr ?_)
  all_goals (refine WL.stepR (okE_box rfl) rfl rfl rfl ?_
             rintro _ h1 ⟨b1, rfl, hg1, hb1, hx1⟩)
  all_goals (refine WL.stepR (okE_alloc (fun w => Tryz.zeroValue85 w)) rfl rfl rfl ?_
             rintro _ h2 ⟨b2, rfl, hg2, hb2, hx2⟩)
  all_goals (have hX2 := hx1.trans hx2
             have hb12 := hx2.obj hb1 nos)
  all_goals (refine Go ?_)
  all_goals (refine WC.seq ?_)
  all_goals (refine WC.sr ?_)
  all_goals (refine WL.step (ok_loadN (fun w => Tryz.isAgg32 w) (fun w => Tryz.sizeOf32 w) rfl rfl (by exact At.of_block hb12)) rfl rfl rfl ?_)
  all_goals (refine WL.call (vs := [_]) rfl (fun a w => Tryz.call65 a w) rfl (kc _ hX2) rfl rfl rfl ?_
             rintro _ h3 ⟨⟨e, rfl, he⟩, hx3⟩
             obtain rfl := he.2 hmay)
  all_goals (have hb13 := hx3.obj hb12 nos
             have hb23 := hx3.obj hb2 nos
             have hX3 := hX2.trans hx3)
  all_goals (refine Go ?_)
  all_goals (refine WC.sub [(1, _), (2, _), (4, _)] ⟨rfl, rfl, rfl, trivial⟩ ?_)
  all_goals (refine WC.sr ?_)
  all_goals (refine Go ?_)
  all_goals (refine goC 1 2 ?_ ?_ <;> first | exact ⟨⟩ | refine Hb.mk fun hb => ?_ | skip)
  all_goals (first | (fail_if_success refine goB 1 ?_) | (
  refine goB 1 ?_
  all_goals (refine WC.sr ?_)
  all_goals (refine WL.step (ok_buildF (vs := []) (cs := [_, _]) (fun | [] => [(.int .u8 0), (.slice none 0 0)] | _ => []) rfl rfl (by kernel_rfl)) rfl rfl rfl ?_)
  all_goals (refine Go ?_)
  all_goals (refine WL.stepR0 (okE_storeW (fun w => Tryz.sizeOf85 w) rfl rfl rfl (by assumption) rfl (by simp [Value.oneCell'])) rfl rfl ?_
             rintro _ h1 ⟨hb1, hx1⟩)
  all_goals (refine Go ?_)
  all_goals (refine WC.sub [(2, _), (3, _)] ⟨rfl, rfl, trivial⟩ ?_)
  all_goals (refine WC.ret ?_)
  all_goals (repeat' (with_reducible first | refine thenP_r ?_ | refine blockP_r ?_))
  all_goals (refine retP_2 _ _ ⟨⟨_, rfl, ld_blk (fun w => Tryz.isAgg85 w) (fun w => Tryz.sizeOf85 w) hb7 rfl⟩, rfl, trivial⟩ ?_)
  all_goals (exact ⟨_, rfl, hw6.ext hx7 (fun q hq e => by obtain ⟨_, z⟩ := own_kind hw6 hq; rw [e, hb26] at z; simp at z), (hX3.trans w6.ext).trans' hx7 (fun q hq e => by have := hx1.size; omega)⟩)
  skip))
  all_goals (first | (fail_if_success refine goB 2 ?_) | (
  refine goB 2 ?_
  all_goals (refine WC.skip ?_)
  skip))
  all_goals (refine Gn ?_)
  all_goals (refine WC.sr ?_)
  all_goals (refine WL.step (ok_buildF (vs := []) (cs := [_]) (fun | [] => [(.slice none 0 0)] | _ => []) rfl rfl (by kernel_rfl)) rfl rfl rfl ?_)
  all_goals (refine WL.stepR (okE_box rfl) rfl rfl rfl ?_
             rintro _ h4 ⟨b5, rfl, hg5, hb5, hx4⟩)
  all_goals (have hb14 := hx4.obj hb13 nos
             have hb24 := hx4.obj hb23 nos
             have l1 := lt_of_some hb13
             have l2 := lt_of_some hb23
             have w4 : Wr h3 h4 b5 nilV [] := ⟨hb5, Own.nil _ _ _, ⟨by omega, by simp [Value.ownBlock]⟩, hx4⟩)
  all_goals (refine Go ?_)
  all_goals (refine WC.sub [(1, _), (2, _), (5, _)] ⟨rfl, rfl, rfl, trivial⟩ ?_)
  all_goals (refine WC.seq ?_)
  all_goals (refine WC.sr ?_)
  all_goals (refine Go ?_)
  all_goals (refine WL.step (ok_load (fun w => Tryz.isAgg5 w) rfl (by first | exact cell_blk hb14 rfl | assumption | exact cell_blk (by assumption) rfl)) rfl rfl rfl ?_)
  all_goals (refine Gn ?_)
  all_goals (refine WC.block ?_)
  all_goals (refine WC.sr ?_)
  all_goals (refine Go ?_)
  all_goals (refine goC 3 4 ?_ ?_ <;> first | exact ⟨⟩ | refine Hb.mk fun hb => ?_ | skip)
  all_goals (first | (fail_if_success refine goB 4 ?_) | (
  refine goB 4 ?_
  all_goals (refine WC.sr ?_)
  all_goals (refine Go ?_)
  all_goals (refine WC.sub [(1, _), (2, _), (5, _), (19, _), (24, _)] ⟨rfl, rfl, rfl, rfl, rfl, trivial⟩ ?_)
  all_goals (refine goC 5 6 ?_ ?_ <;> first | exact ⟨⟩ | refine Hb.mk fun hb => ?_ | skip)
  all_goals (first | (fail_if_success refine goB 6 ?_) | (
  refine goB 6 ?_
  all_goals (refine WC.sr ?_)
  all_goals (refine Go ?_)
  all_goals (refine goC 7 8 ?_ ?_ <;> first | exact ⟨⟩ | refine Hb.mk fun hb => ?_ | skip)
  all_goals (first | (fail_if_success refine goB 8 ?_) | (
  refine goB 8 ?_
  all_goals (refine WC.sr ?_)
  all_goals (refine Go ?_)
  all_goals (refine WC.sub [(1, _), (2, _), (5, _), (19, _), (44, _)] ⟨rfl, rfl, rfl, rfl, rfl, trivial⟩ ?_)
  all_goals (refine goC 9 10 ?_ ?_ <;> first | exact ⟨⟩ | refine Hb.mk fun hb => ?_ | skip)
  all_goals (first | (fail_if_success refine goB 9 ?_) | (
  refine goB 9 ?_
  all_goals (refine WC.region ?_)
  all_goals (refine Go ?_)
  all_goals (refine WL.step (ok_load (fun w => Tryz.isAgg5 w) rfl (by first | assumption | exact cell_blk (by assumption) rfl)) rfl rfl rfl ?_)
  all_goals (refine WL.stepR (okE_buildSlice (vs := [_]) (cs := [_]) (fun | [a0] => [a0] | _ => []) Tryz.underlying24 rfl rfl (by kernel_rfl)) rfl rfl rfl ?_
             rintro _ h1 ⟨b1, rfl, hg1, hb1, hx1⟩)
  all_goals (refine WL.step (ok_nilCheck rfl) rfl rfl rfl ?_)
  all_goals (refine Go ?_)
  all_goals (refine WL.stepR0 (okE_store (fun w => Tryz.sizeOf24 w) rfl rfl (by assumption) (Nat.le_of_ble_eq_true rfl) rfl rfl) rfl rfl ?_
             rintro _ h1 ⟨hb1, hx1⟩)
  all_goals (refine Gn ?_)
  skip))
  all_goals (first | (fail_if_success refine goB 10 ?_) | (
  refine goB 10 ?_
  all_goals (refine WC.sr ?_)
  all_goals (refine Go ?_)
  all_goals (refine goC 11 12 ?_ ?_ <;> first | exact ⟨⟩ | refine Hb.mk fun hb => ?_ | skip)
  all_goals (first | (fail_if_success refine goB 12 ?_) | (
  refine goB 12 ?_
  all_goals (refine WC.sr ?_)
  all_goals (refine Go ?_)
  all_goals (refine WC.sub [(1, _), (2, _), (5, _), (19, _), (58, _)] ⟨rfl, rfl, rfl, rfl, rfl, trivial⟩ ?_)
  all_goals (refine goC 13 14 ?_ ?_ <;> first | exact ⟨⟩ | refine Hb.mk fun hb => ?_ | skip)
  all_goals (first | (fail_if_success refine goB 14 ?_) | (
  refine goB 14 ?_
  all_goals (refine WC.sr ?_)
  all_goals (refine Go ?_)
  all_goals (refine goC 15 16 ?_ ?_ <;> first | exact ⟨⟩ | refine Hb.mk fun hb => ?_ | skip)
  all_goals (first | (fail_if_success refine goB 16 ?_) | (
  refine goB 16 ?_
  all_goals (refine WC.sr ?_)
  all_goals (refine Go ?_)
  all_goals (refine WC.sub [(1, _), (2, _), (5, _), (19, _), (82, _)] ⟨rfl, rfl, rfl, rfl, rfl, trivial⟩ ?_)
  all_goals (refine goC 19 20 ?_ ?_ <;> first | exact ⟨⟩ | refine Hb.mk fun hb => ?_ | skip)
  all_goals (first | (fail_if_success refine goB 20 ?_) | (
  refine goB 20 ?_
  all_goals (refine WC.seq ?_)
  all_goals (refine WC.sr ?_)
  all_goals (refine Go ?_)
  all_goals (refine goC 23 24 ?_ ?_ <;> first | exact ⟨⟩ | refine Hb.mk fun hb => ?_ | skip)
  all_goals (first | (fail_if_success refine goB 23 ?_) | (
  refine goB 23 ?_
  all_goals (refine WC.skip ?_)
  skip))
  all_goals (first | (fail_if_success refine goB 24 ?_) | (
  refine goB 24 ?_
  all_goals (refine WC.region ?_)
  all_goals (refine Go ?_)
  skip))
  all_goals (refine Gn ?_)
  all_goals (refine goC 25 26 ?_ ?_ <;> first | exact ⟨⟩ | refine Hb.mk fun hb => ?_ | skip)
  all_goals (first | (fail_if_success refine goB 25 ?_) | (
  refine goB 25 ?_
  all_goals (refine WC.region ?_)
  all_goals (refine Go ?_)
  all_goals (refine WL.step (ok_load (fun w => Tryz.isAgg30 w) rfl (by first | exact cell_blk hb14 rfl | assumption | exact cell_blk (by assumption) rfl)) rfl rfl rfl ?_)
  all_goals (refine WL.call (vs := [_, _]) rfl (fun a w => Tryz.call70 a w) rfl (fields_w lf w4 (hf.1.ext0 hX3) hF md4) rfl rfl rfl ?_
             rintro _ h6 ⟨v6, w6, t6⟩)
  all_goals (refine Gn ?_)
  skip))
  all_goals (first | (fail_if_success refine goB 26 ?_) | (
  refine goB 26 ?_
  all_goals (refine WC.skip ?_)
  skip))
  skip))
  skip))
  skip))
  skip))
  skip))
  skip))
  skip))
  skip))
  all_goals (refine Gn ?_)
  all_goals (refine WC.seq ?_)
  all_goals (refine WC.drawH (fun h' => Ext No h6 h') 7 9 rfl fol ?_)
  all_goals (have hb16 := w6.ext.obj hb13 nos
             have hb26 := w6.ext.obj hb23 nos
             have hw6 := w6.own
             obtain ⟨A6, c6, e6, _⟩ := hw6.slice
             rw [e6] at w6 hw6)
  all_goals (refine WH.tk 0 rfl (fun hq hC => ok_fieldAddr rfl Tryz.underlying32 rfl (fun w => Tryz.sizeOf5 w)) rfl rfl rfl ?_)
  all_goals (refine WH.tk 1 rfl (fun hq hC => ok_load (fun w => Tryz.isAgg5 w) rfl (by first | exact hC.cell (by first | exact cell_blk hb16 rfl | assumption | exact cell_blk (by assumption) rfl) nos)) rfl rfl rfl ?_)
  all_goals (refine WH.tk 2 rfl (fun hq hC => ok_move rfl) rfl rfl rfl ?_)
  all_goals (refine WH.tk 3 rfl (fun hq hC => ok_nilCheck rfl) rfl rfl rfl ?_)
  all_goals (refine WH.tk 4 rfl (fun hq hC => ok_fieldAddr rfl Tryz.underlying97 rfl (fun w => Tryz.sizeOf24 w)) rfl rfl rfl ?_)
  all_goals (refine WH.tk 5 rfl (fun hq hC => ok_load (fun w => Tryz.isAgg24 w) rfl (by first | exact hC.cell (by first | exact cell_blk w6.blk rfl | assumption | exact cell_blk (by assumption) rfl) nos)) rfl rfl rfl ?_)
  all_goals (refine WH.tk 6 rfl (fun hq hC => ok_buildF (vs := [_, _]) (cs := [_, _]) (fun | [a0, a1] => [a0, a1] | _ => []) rfl rfl (by kernel_rfl)) rfl rfl rfl ?_)
  all_goals (refine WH.one 7 (by kernel_rfl) ?_)
  all_goals (refine Comes1.run0 rfl (okE_storeW (fun w => Tryz.sizeOf85 w) rfl rfl rfl hb26 rfl (by simp [Value.oneCell'])) rfl rfl ?_ (fun _ => by kernel_rfl)
             rintro _ h7 ⟨hb7, hx7⟩)
  all_goals (refine ⟨fun e => (by cases e), ?_⟩)
  all_goals (refine WH.one 8 (by kernel_rfl) ?_)
  all_goals (refine Comes1.run rfl (OkP.r (ok_assign rfl)) rfl rfl rfl ?_ (fun _ => by kernel_rfl)
             rintro _ hz ⟨rfl, _⟩
             subst hz)
  all_goals (refine ⟨fun e => (by cases e), ?_⟩)
  all_goals (refine WH.done (by kernel_rfl) ?_)
  all_goals (refine Gn ?_)
  all_goals (refine WC.sub [(2, _), (3, _)] ⟨rfl, rfl, trivial⟩ ?_)
  all_goals (refine WC.ret ?_)
  all_goals (repeat' (with_reducible first | refine thenP_r ?_ | refine blockP_r ?_))
  all_goals (refine retP_2 _ _ ⟨⟨_, rfl, ld_blk (fun w => Tryz.isAgg85 w) (fun w => Tryz.sizeOf85 w) hb7 rfl⟩, rfl, trivial⟩ ?_)
  all_goals (exact ⟨_, rfl, hw6.ext hx7 (fun q hq e => by obtain ⟨_, z⟩ := own_kind hw6 hq; rw [e, hb26] at z; simp at z), (hX3.trans w6.ext).trans' hx7 (fun q hq e => by have := hx1.size; omega)⟩)
set_option maxHeartbeats 4000000 in
set_option maxRecDepth 100000 in
theorem encP_0 {h : Heap} (b : Bk) (hb : b.ok h) (hw : b.wf) (hmd : b.mid) (hmay : b.may) (hk : (b.kind = 49 ∨ b.kind = 50 ∨ b.kind = 51 ∨ b.kind = 110 ∨ b.kind = 115 ∨ b.kind = 73)) :
    CallsH Tryz.prog 53 ⟨[.agg ⟨b.cells⟩]⟩ h fun u h' => ∃ v', u = .tuple ⟨[.agg ⟨[.int .u8 b.kind, v']⟩, In 0]⟩ ∧ Own h' v' 5 1 (encBk b).length (bys (encBk b)) ∧ Ext No h h' := by
  have kc := fun h' (hx : Ext No h h') => checkA_back b (hb.ext0 hx) hw.kind hmd
  have hL : encBk b = [] := by rcases hk with hk | hk | hk | hk | hk | hk <;> simp [encBk, hk]
  rw [hL]
  clear hL
  have hst := hw.status
  obtain ⟨md1, md2, md3, md4, md5, md6, md7, md8, md9, md10⟩ := hmd
  have m_c := hmay.cols.2
  have m_o := hmay.oids.2
  have m_n := hmay.n
  have m_m := hmay.m
  have m_r := hmay.row.2
  have hF : ∀ f ∈ b.fields, f.t.length ≤ 200000 ∧ 0 ≤ f.k ∧ f.k ≤ 255 := fun f hf => ⟨md7 f hf, hw.codes f hf⟩
  clear hw
  obtain ⟨ho, hc, hr, hf⟩ := hb
  obtain ⟨k, st, t, n, v, x, y, vo, lo, vc, lc, vr, lr, vf, lf⟩ := b
  dsimp only at hk hst ho hc hr hf md1 md2 md3 md4 md5 md6 md7 md8 md9 md10 m_c m_o m_n m_m m_r hF ⊢
  have hro := ho.1
  have hrc := hc.1
  have hrr := hr.1
  have hrf := hf.1
  obtain ⟨Ao, co, rfl, _⟩ := id hro
  obtain ⟨Ac, cc, rfl, _⟩ := id hrc
  obtain ⟨Ar, cr, rfl, _⟩ := id hrr
  obtain ⟨Af, cf, rfl, _⟩ := id hrf
  dsimp only [Bk.cells] at kc ⊢
  rcases hk with rfl | rfl | rfl | rfl | rfl | rfl
  all_goals
    refine calls [(0, _)] Tryz.func53 rfl Tryz.ntmps53 rfl ⟨rfl, trivial⟩ ?_
    all_goals (refine WC.sr ?_)
    all_goals (refine WL.stepR (okE_box rfl) rfl rfl rfl ?_
               rintro _ h1 ⟨b1, rfl, hg1, hb1, hx1⟩)
    all_goals (refine WL.stepR (okE_alloc (fun w => Tryz.zeroValue85 w)) rfl rfl rfl ?_
               rintro _ h2 ⟨b2, rfl, hg2, hb2, hx2⟩)
    all_goals (have hX2 := hx1.trans hx2
               have hb12 := hx2.obj hb1 nos)
    all_goals (refine Go ?_)
    all_goals (refine WC.seq ?_)
    all_goals (refine WC.sr ?_)
    all_goals (refine WL.step (ok_loadN (fun w => Tryz.isAgg32 w) (fun w => Tryz.sizeOf32 w) rfl rfl (by exact At.of_block hb12)) rfl rfl rfl ?_)
    all_goals (refine WL.call (vs := [_]) rfl (fun a w => Tryz.call65 a w) rfl (kc _ hX2) rfl rfl rfl ?_
               rintro _ h3 ⟨⟨e, rfl, he⟩, hx3⟩
               obtain rfl := he.2 hmay)
    all_goals (have hb13 := hx3.obj hb12 nos
               have hb23 := hx3.obj hb2 nos
               have hX3 := hX2.trans hx3)
    all_goals (refine Go ?_)
    all_goals (refine WC.sub [(1, _), (2, _), (4, _)] ⟨rfl, rfl, rfl, trivial⟩ ?_)
    all_goals (refine WC.sr ?_)
    all_goals (refine Go ?_)
    all_goals (refine goC 1 2 ?_ ?_ <;> first | exact ⟨⟩ | refine Hb.mk fun hb => ?_ | skip)
    all_goals (first | (fail_if_success refine goB 1 ?_) | (
    refine goB 1 ?_
    all_goals (refine WC.sr ?_)
    all_goals (refine WL.step (ok_buildF (vs := []) (cs := [_, _]) (fun | [] => [(.int .u8 0), (.slice none 0 0)] | _ => []) rfl rfl (by kernel_rfl)) rfl rfl rfl ?_)
    all_goals (refine Go ?_)
    all_goals (refine WL.stepR0 (okE_storeW (fun w => Tryz.sizeOf85 w) rfl rfl rfl (by assumption) rfl (by simp [Value.oneCell'])) rfl rfl ?_
               rintro _ h1 ⟨hb1, hx1⟩)
    all_goals (refine Go ?_)
    all_goals (refine WC.sub [(2, _), (3, _)] ⟨rfl, rfl, trivial⟩ ?_)
    all_goals (refine WC.ret ?_)
    all_goals (repeat' (with_reducible first | refine thenP_r ?_ | refine blockP_r ?_))
    all_goals (refine retP_2 _ _ ⟨⟨_, rfl, ld_blk (fun w => Tryz.isAgg85 w) (fun w => Tryz.sizeOf85 w) hb7 rfl⟩, rfl, trivial⟩ ?_)
    all_goals (exact ⟨_, rfl, hw6.ext hx7 (fun q hq e => by obtain ⟨_, z⟩ := own_kind hw6 hq; rw [e, hb26] at z; simp at z), (hX3.trans w6.ext).trans' hx7 (fun q hq e => by have := hx1.size; omega)⟩)
    skip))
    all_goals (first | (fail_if_success refine goB 2 ?_) | (
    refine goB 2 ?_
    all_goals (refine WC.skip ?_)
    skip))
    all_goals (refine Gn ?_)
    all_goals (refine WC.sr ?_)
    all_goals (refine WL.step (ok_buildF (vs := []) (cs := [_]) (fun | [] => [(.slice none 0 0)] | _ => []) rfl rfl (by kernel_rfl)) rfl rfl rfl ?_)
    all_goals (refine WL.stepR (okE_box rfl) rfl rfl rfl ?_
               rintro _ h4 ⟨b5, rfl, hg5, hb5, hx4⟩)
    all_goals (have hb14 := hx4.obj hb13 nos
               have hb24 := hx4.obj hb23 nos
               have l1 := lt_of_some hb13
               have l2 := lt_of_some hb23
               have w4 : Wr h3 h4 b5 nilV [] := ⟨hb5, Own.nil _ _ _, ⟨by omega, by simp [Value.ownBlock]⟩, hx4⟩)
    all_goals (refine Go ?_)
    all_goals (refine WC.sub [(1, _), (2, _), (5, _)] ⟨rfl, rfl, rfl, trivial⟩ ?_)
    all_goals (refine WC.seq ?_)
    all_goals (refine WC.sr ?_)
    all_goals (refine Go ?_)
    all_goals (refine WL.step (ok_load (fun w => Tryz.isAgg5 w) rfl (by first | exact cell_blk hb14 rfl | assumption | exact cell_blk (by assumption) rfl)) rfl rfl rfl ?_)
    all_goals (have w6 := w4)
    all_goals (refine Gn ?_)
    all_goals (refine WC.block ?_)
    all_goals (refine WC.sr ?_)
    all_goals (refine Go ?_)
    all_goals (refine goC 3 4 ?_ ?_ <;> first | exact ⟨⟩ | refine Hb.mk fun hb => ?_ | skip)
    all_goals (first | (fail_if_success refine goB 4 ?_) | (
    refine goB 4 ?_
    all_goals (refine WC.sr ?_)
    all_goals (refine Go ?_)
    all_goals (refine WC.sub [(1, _), (2, _), (5, _), (19, _), (24, _)] ⟨rfl, rfl, rfl, rfl, rfl, trivial⟩ ?_)
    all_goals (refine goC 5 6 ?_ ?_ <;> first | exact ⟨⟩ | refine Hb.mk fun hb => ?_ | skip)
    all_goals (first | (fail_if_success refine goB 6 ?_) | (
    refine goB 6 ?_
    all_goals (refine WC.sr ?_)
    all_goals (refine Go ?_)
    all_goals (refine goC 7 8 ?_ ?_ <;> first | exact ⟨⟩ | refine Hb.mk fun hb => ?_ | skip)
    all_goals (first | (fail_if_success refine goB 8 ?_) | (
    refine goB 8 ?_
    all_goals (refine WC.sr ?_)
    all_goals (refine Go ?_)
    all_goals (refine WC.sub [(1, _), (2, _), (5, _), (19, _), (44, _)] ⟨rfl, rfl, rfl, rfl, rfl, trivial⟩ ?_)
    all_goals (refine goC 9 10 ?_ ?_ <;> first | exact ⟨⟩ | refine Hb.mk fun hb => ?_ | skip)
    all_goals (first | (fail_if_success refine goB 9 ?_) | (
    refine goB 9 ?_
    all_goals (refine WC.region ?_)
    all_goals (refine Go ?_)
    all_goals (refine WL.step (ok_load (fun w => Tryz.isAgg5 w) rfl (by first | assumption | exact cell_blk (by assumption) rfl)) rfl rfl rfl ?_)
    all_goals (refine WL.stepR (okE_buildSlice (vs := [_]) (cs := [_]) (fun | [a0] => [a0] | _ => []) Tryz.underlying24 rfl rfl (by kernel_rfl)) rfl rfl rfl ?_
               rintro _ h1 ⟨b1, rfl, hg1, hb1, hx1⟩)
    all_goals (refine WL.step (ok_nilCheck rfl) rfl rfl rfl ?_)
    all_goals (refine Go ?_)
    all_goals (refine WL.stepR0 (okE_store (fun w => Tryz.sizeOf24 w) rfl rfl (by assumption) (Nat.le_of_ble_eq_true rfl) rfl rfl) rfl rfl ?_
               rintro _ h1 ⟨hb1, hx1⟩)
    all_goals (refine Gn ?_)
    skip))
    all_goals (first | (fail_if_success refine goB 10 ?_) | (
    refine goB 10 ?_
    all_goals (refine WC.sr ?_)
    all_goals (refine Go ?_)
    all_goals (refine goC 11 12 ?_ ?_ <;> first | exact ⟨⟩ | refine Hb.mk fun hb => ?_ | skip)
    all_goals (first | (fail_if_success refine goB 12 ?_) | (
    refine goB 12 ?_
    all_goals (refine WC.sr ?_)
    all_goals (refine Go ?_)
    all_goals (refine WC.sub [(1, _), (2, _), (5, _), (19, _), (58, _)] ⟨rfl, rfl, rfl, rfl, rfl, trivial⟩ ?_)
    all_goals (refine goC 13 14 ?_ ?_ <;> first | exact ⟨⟩ | refine Hb.mk fun hb => ?_ | skip)
    all_goals (first | (fail_if_success refine goB 14 ?_) | (
    refine goB 14 ?_
    all_goals (refine WC.sr ?_)
    all_goals (refine Go ?_)
    all_goals (refine goC 15 16 ?_ ?_ <;> first | exact ⟨⟩ | refine Hb.mk fun hb => ?_ | skip)
    all_goals (first | (fail_if_success refine goB 16 ?_) | (
    refine goB 16 ?_
    all_goals (refine WC.sr ?_)
    all_goals (refine Go ?_)
    all_goals (refine WC.sub [(1, _), (2, _), (5, _), (19, _), (82, _)] ⟨rfl, rfl, rfl, rfl, rfl, trivial⟩ ?_)
    all_goals (refine goC 19 20 ?_ ?_ <;> first | exact ⟨⟩ | refine Hb.mk fun hb => ?_ | skip)
    all_goals (first | (fail_if_success refine goB 20 ?_) | (
    refine goB 20 ?_
    all_goals (refine WC.seq ?_)
    all_goals (refine WC.sr ?_)
    all_goals (refine Go ?_)
    all_goals (refine goC 23 24 ?_ ?_ <;> first | exact ⟨⟩ | refine Hb.mk fun hb => ?_ | skip)
    all_goals (first | (fail_if_success refine goB 23 ?_) | (
    refine goB 23 ?_
    all_goals (refine WC.skip ?_)
    skip))
    all_goals (first | (fail_if_success refine goB 24 ?_) | (
    refine goB 24 ?_
    all_goals (refine WC.region ?_)
    all_goals (refine Go ?_)
    skip))
    all_goals (refine Gn ?_)
    all_goals (refine goC 25 26 ?_ ?_ <;> first | exact ⟨⟩ | refine Hb.mk fun hb => ?_ | skip)
    all_goals (first | (fail_if_success refine goB 26 ?_) | (
    refine goB 26 ?_
    all_goals (refine WC.skip ?_)
    skip))
    skip))
    skip))
    skip))
    skip))
    skip))
    skip))
    skip))
    skip))
    all_goals (refine Gn ?_)
    all_goals (refine WC.seq ?_)
    all_goals (refine WC.drawH (fun h' => Ext No h4 h') 7 9 rfl fol ?_)
    all_goals (have hb16 := w6.ext.obj hb13 nos
               have hb26 := w6.ext.obj hb23 nos
               have hw6 := w6.own
               obtain ⟨A6, c6, e6, _⟩ := hw6.slice
               rw [e6] at w6 hw6)
    all_goals (refine WH.tk 0 rfl (fun hq hC => ok_fieldAddr rfl Tryz.underlying32 rfl (fun w => Tryz.sizeOf5 w)) rfl rfl rfl ?_)
    all_goals (refine WH.tk 1 rfl (fun hq hC => ok_load (fun w => Tryz.isAgg5 w) rfl (by first | exact hC.cell (by first | exact cell_blk hb16 rfl | assumption | exact cell_blk (by assumption) rfl) nos)) rfl rfl rfl ?_)
    all_goals (refine WH.tk 2 rfl (fun hq hC => ok_move rfl) rfl rfl rfl ?_)
    all_goals (refine WH.tk 3 rfl (fun hq hC => ok_nilCheck rfl) rfl rfl rfl ?_)
    all_goals (refine WH.tk 4 rfl (fun hq hC => ok_fieldAddr rfl Tryz.underlying97 rfl (fun w => Tryz.sizeOf24 w)) rfl rfl rfl ?_)
    all_goals (refine WH.tk 5 rfl (fun hq hC => ok_load (fun w => Tryz.isAgg24 w) rfl (by first | exact hC.cell (by first | exact cell_blk w6.blk rfl | assumption | exact cell_blk (by assumption) rfl) nos)) rfl rfl rfl ?_)
    all_goals (refine WH.tk 6 rfl (fun hq hC => ok_buildF (vs := [_, _]) (cs := [_, _]) (fun | [a0, a1] => [a0, a1] | _ => []) rfl rfl (by kernel_rfl)) rfl rfl rfl ?_)
    all_goals (refine WH.one 7 (by kernel_rfl) ?_)
    all_goals (refine Comes1.run0 rfl (okE_storeW (fun w => Tryz.sizeOf85 w) rfl rfl rfl hb26 rfl (by simp [Value.oneCell'])) rfl rfl ?_ (fun _ => by kernel_rfl)
               rintro _ h7 ⟨hb7, hx7⟩)
    all_goals (refine ⟨fun e => (by cases e), ?_⟩)
    all_goals (refine WH.one 8 (by kernel_rfl) ?_)
    all_goals (refine Comes1.run rfl (OkP.r (ok_assign rfl)) rfl rfl rfl ?_ (fun _ => by kernel_rfl)
               rintro _ hz ⟨rfl, _⟩
               subst hz)
    all_goals (refine ⟨fun e => (by cases e), ?_⟩)
    all_goals (refine WH.done (by kernel_rfl) ?_)
    all_goals (refine Gn ?_)
    all_goals (refine WC.sub [(2, _), (3, _)] ⟨rfl, rfl, trivial⟩ ?_)
    all_goals (refine WC.ret ?_)
    all_goals (repeat' (with_reducible first | refine thenP_r ?_ | refine blockP_r ?_))
    all_goals (refine retP_2 _ _ ⟨⟨_, rfl, ld_blk (fun w => Tryz.isAgg85 w) (fun w => Tryz.sizeOf85 w) hb7 rfl⟩, rfl, trivial⟩ ?_)
    all_goals (exact ⟨_, rfl, hw6.ext hx7 (fun q hq e => by obtain ⟨_, z⟩ := own_kind hw6 hq; rw [e, hb26] at z; simp at z), (hX3.trans w6.ext).trans' hx7 (fun q hq e => by have := hx1.size; omega)⟩)
end Go.Proofs.YtbahigffjclpdaaGreatDoor


/-
  REPLIES (layer 7): bytes, as the document writes them.
-/
namespace Go.Proofs.YtbahigffjclpdaaGreatDoor
open Go Go.RK

/-- A step of a row of bytes. -/
def RStep (h : Heap) (v : Value) (h' : Heap) (v' : Value) : Prop := Ext (fun q => v.ownBlock = some q) h h' ∧ ∀ q, v'.ownBlock = some q → v.ownBlock = some q ∨ h.size ≤ q
theorem RStep.fresh {g h h' : Heap} {v v' : Value} (a : RStep h v h' v') (x : Ext No g h) (f : ∀ q, v.ownBlock = some q → g.size ≤ q) : Ext No g h' ∧ ∀ q, v'.ownBlock = some q → g.size ≤ q :=
  ⟨x.trans' a.1 (fun q hq e => by have := f q e; omega), fun q e => (a.2 q e).elim (f q) (fun z => by have := x.size; omega)⟩
set_option maxHeartbeats 2000000 in
set_option maxRecDepth 100000 in
theorem str06 {h : Heap} {v : Value} (l s : List UInt8) (hv : Own h v 5 1 l.length (bys l)) (hl : l.length + s.length ≤ 1000000000) :
    CallsH Tryz.prog 74 ⟨[v, St s]⟩ h fun u h' => Own h' u 5 1 (l ++ s ++ [0]).length (bys (l ++ s ++ [0])) ∧ RStep h v h' u := by
  obtain ⟨A0, c0, rfl, _⟩ := id hv.slice
  refine calls [(0, _), (1, _)] Tryz.func74 rfl Tryz.ntmps74 rfl ⟨rfl, rfl, trivial⟩ ?_
  all_goals (refine WC.sr ?_)
  all_goals (refine Go ?_)
  all_goals (refine WC.sr ?_)
  all_goals (refine Go ?_)
  all_goals (refine WL.stepR (okE_appendS rfl Tryz.underlying24 Tryz.underlying9 (show Tryz.prog.info? 5 = some Tryz.t5 by kernel_rfl) rfl rfl rfl rfl rfl hv (by omega)) rfl rfl rfl ?_
             rintro v1 h1 ⟨ho1, hx1, hl1, _⟩)
  all_goals (refine WL.stepR (okE_buildSlice (vs := [_]) (cs := [_]) (fun | [a0] => [a0] | _ => []) Tryz.underlying24 rfl rfl (by kernel_rfl)) rfl rfl rfl ?_
             rintro _ h2 ⟨b2, rfl, hg2, hb2, hx2⟩)
  all_goals (refine WL.stepR (ok_append (sz := 1) (bytes := 1) rfl Tryz.underlying24 (show Tryz.prog.info? 5 = some Tryz.t5 by kernel_rfl) rfl rfl rfl rfl (by decide) rfl rfl (ho1.ext hx2 (fun _ _ => nos)) (rd_blk hb2 rfl) (by simp [Value.oneCell']) (by simp only [maxLen]; omega) (by omega)) rfl rfl rfl ?_
             rintro v3 h3 ⟨ho3, hx3, hl3⟩)
  all_goals (refine Go ?_)
  all_goals (refine WC.sub [(4, _)] ⟨rfl, trivial⟩ ?_)
  all_goals (refine WC.ret ?_)
  all_goals (repeat' (with_reducible first | refine thenP_r ?_ | refine blockP_r ?_))
  all_goals (refine retP_1 _ ⟨rfl, trivial⟩ ?_)
  all_goals (have hf1 : ∀ q, v1.ownBlock = some q → (Value.slice A0 l.length c0).ownBlock = some q ∨ h.size ≤ q := hl1
             have s1 := hx1.size
             have s2 := hx2.size
             refine ⟨?_, (hx1.trans (hx2.mono fun _ _ e => e.elim)).trans' hx3 (fun q hq e => (hf1 q e).elim id (fun z => by omega)), fun q hq => hl3.elim (fun e => hf1 q (e ▸ hq)) (fun e => .inr (by rw [e] at hq; cases hq; omega))⟩
             rw [show (l ++ s ++ [(0 : UInt8)]).length = l.length + s.length + 1 by simp [Nat.add_assoc], show bys (l ++ s ++ [0]) = bys l ++ bys s ++ [Value.int .u8 0] by simp only [bys, List.map_append, List.map_cons, List.map_nil]; rfl]
             exact ho3)
set_option maxHeartbeats 2000000 in
set_option maxRecDepth 100000 in
theorem list06 {h : Heap} {v w : Value} (l : List UInt8) (L : List Int) (hv : Rd h v 1 l.length (bys l)) (hw : Rd h w 1 L.length (ints L)) (hl : l.length ≤ 1000000) (hm : L.length ≤ 100) (hn : ∀ n ∈ L, 0 ≤ n ∧ n ≤ 4294967295) :
    CallsH Tryz.prog 77 ⟨[v, w, In 4]⟩ h fun u h' => Own h' u 5 1 (l ++ be L.length 2 ++ L.flatMap fun n => be n 4).length (bys (l ++ be L.length 2 ++ L.flatMap fun n => be n 4)) ∧ Ext No h h' ∧ ∀ q, u.ownBlock = some q → h.size ≤ q := by
  obtain ⟨A0, c0, rfl, _⟩ := id hv
  obtain ⟨A, c, rfl, _⟩ := id hw
  have hfl : ∀ j, ((L.take j).flatMap fun n => be n 4).length ≤ 1000 := fun j => Nat.le_trans (flat_take (n := 4) L j fun x hx => by rw [be_len]; omega) (by omega)
  refine calls [(0, _), (1, _), (2, _)] Tryz.func77 rfl Tryz.ntmps77 rfl ⟨rfl, rfl, rfl, trivial⟩ ?_
  all_goals (refine WC.sr ?_)
  all_goals (refine Go ?_)
  all_goals (refine WC.sr ?_)
  all_goals (refine Go ?_)
  all_goals (refine WL.call (vs := [_, _, _]) rfl (fun a w => Tryz.call73 a w) rfl (put01 l (L.length : Int) 2 sz2 (rt2 (by omega)) hv (by omega)) rfl rfl rfl ?_
             rintro v1 h1 ⟨ho1, hx1, hf1⟩)
  all_goals (refine Go ?_)
  all_goals (refine WC.sub [(0, _), (1, _), (2, _)] ⟨rfl, rfl, rfl, trivial⟩ ?_)
  all_goals (refine WC.seq ?_)
  all_goals (refine WC.sr ?_)
  all_goals (refine Go ?_)
  all_goals (refine WC.block ?_)
  -- loop 0: slots that turn [0, 7], that stay [1, 2]
  all_goals (refine WC.loopG (X := Nat × Value) (fun x => ([(7, In (x.1 : Int)), (0, x.2)] : Fr)) [(1, _), (2, _)] (fun y h' => y.1 ≤ L.length ∧ Own h' y.2 5 1 (l ++ be (L.length : Int) 2 ++ (L.take y.1).flatMap fun n => be n 4).length (bys (l ++ be (L.length : Int) 2 ++ (L.take y.1).flatMap fun n => be n 4)) ∧ Ext No h h' ∧ ∀ q, y.2.ownBlock = some q → h.size ≤ q) (fun y => L.length - y.1) ((0, v1)) ⟨rfl, rfl, rfl, rfl, trivial⟩ (by exact ⟨Nat.zero_le _, by simpa using ho1, hx1, hf1⟩) ?_)
  all_goals (rintro ⟨k, u⟩ h2 ⟨hk, ho2, hx2, hf2⟩
             dsimp only at hk ho2 hf2)
  all_goals (refine WC.sub [(0, _), (7, _), (1, _), (2, _)] ⟨rfl, rfl, rfl, rfl, trivial⟩ ?_)
  all_goals (dsimp only)
  all_goals (refine WC.seq ?_)
  all_goals (refine WC.sr ?_)
  all_goals (refine Go ?_)
  all_goals (refine goC 1 2 ?_ ?_ <;> first | exact ⟨⟩ | refine Hb.mk fun hb => ?_ | skip)
  all_goals (first | (fail_if_success refine goB 1 ?_) | (
  refine goB 1 ?_
  all_goals (refine WC.skip ?_)
  skip))
  all_goals (first | (fail_if_success refine goB 2 ?_) | (
  refine goB 2 ?_
  all_goals (refine WC.exit ?_)
  all_goals (repeat' (with_reducible first | refine thenP_x ?_ | refine blockP_miss rfl ?_ | refine blockP_hit ?_ | refine blockP_n ?_ | refine thenP_n ?_))
  all_goals (refine Br.out (i := 1000) ?_)
  skip))
  all_goals (refine Gn ?_)
  all_goals (first | (refine Br.keep ?_) | (refine WC.sub [(0, _), (1, _), (2, _), (7, _)] ⟨rfl, rfl, rfl, rfl, trivial⟩ ?_))
  all_goals (first | (refine Br.keep ?_) | (refine WC.seq ?_))
  all_goals (first | (refine Br.keep ?_) | (refine WC.block ?_))
  all_goals (first | (refine Br.keep ?_) | (refine WC.region ?_))
  all_goals (first
               | (refine Br.keep ?_)
               | (obtain ⟨bL, oL, hA, hbL, hat⟩ := Rd.at_ (hw.ext0 hx2) (by omega)
                  obtain ⟨yy, hy⟩ : ∃ y, L[k]? = some y := ⟨_, List.getElem?_eq_getElem (by omega)⟩
                  have hyo := hn _ (List.mem_of_getElem? hy)
                  have hcd : cell h2 ⟨bL, oL + k * 1, none⟩ = some (In yy) := hat.get k (get_int hy) (by omega)
                  have hlj := hfl k))
  all_goals (first | (refine Br.keep ?_) | (refine WL.step (ok_move rfl) rfl rfl rfl ?_))
  all_goals (refine Go ?_)
  all_goals (first | (refine Br.keep ?_) | (refine WL.step (ok_idxAddrA Tryz.underlying27 (fun w => Tryz.sizeOf3 w) rfl rfl rfl (by omega) (by first | rfl | assumption)) rfl rfl rfl ?_))
  all_goals (first | (refine Br.keep ?_) | (refine WL.step (ok_load (fun w => Tryz.isAgg3 w) rfl (by first | exact hcd | assumption | exact cell_blk (by assumption) rfl)) rfl rfl rfl ?_))
  all_goals (refine Go ?_)
  all_goals (first
               | (refine Br.keep ?_)
               | (refine WL.call (vs := [_, _, _]) rfl (fun a w => Tryz.call73 a w) rfl (put01 _ yy 4 sz4 (rt4s (by omega)) ho2.rd (by simp only [List.length_append, be_len]; omega)) rfl rfl rfl ?_
                  rintro v3 h3 ⟨ho3, hx3, hf3⟩))
  all_goals (refine Go ?_)
  all_goals (first | (refine Br.keep ?_) | (refine WC.sub [(0, _), (1, _), (2, _), (7, _)] ⟨rfl, rfl, rfl, rfl, trivial⟩ ?_))
  all_goals (first | (refine Br.keep ?_) | (refine WC.region ?_))
  all_goals (refine Go ?_)
  all_goals (first | (refine Br.keep ?_) | (exact ⟨(k + 1, _), ⟨rfl, rfl, rfl, rfl, trivial⟩, (by exact ⟨by omega, by rw [flat_snoc hy, ← List.append_assoc]; exact ho3, hx2.trans hx3, fun q e => (by have := hf3 q e; have := hx2.size; omega)⟩), (by simp; omega)⟩))
  all_goals (try (refine Br.mk (i := 1000) ?_))
  all_goals (refine Gn ?_)
  all_goals (refine WC.sub [(0, _)] ⟨rfl, trivial⟩ ?_)
  all_goals (refine WC.sr ?_)
  all_goals (refine Go ?_)
  all_goals (refine WC.ret ?_)
  all_goals (repeat' (with_reducible first | refine thenP_r ?_ | refine blockP_r ?_))
  all_goals (refine retP_1 _ ⟨rfl, trivial⟩ ?_)
  all_goals (rw [List.take_of_length_le (by omega)] at ho2
             exact ⟨ho2, hx2, hf2⟩)
theorem be_neg1 : be (-1) 4 = be 4294967295 4 := by
  have h : ∀ i, i < 4 → bI (-1 + 256 ^ 4) i = bI (-1) i := fun i hi => bI_up hi
  exact (beK_congr (m := -1 + 256 ^ 4) (n := -1) h (by decide) 4).symm
set_option maxHeartbeats 2000000 in
set_option maxRecDepth 100000 in
theorem put06 {h : Heap} {v vr : Value} (l : List UInt8) (R : List Cel) (hv : Rd h v 1 l.length (bys l)) (hR : Cels h vr R) (hl : l.length ≤ 1000000) (hm : R.length ≤ 100) (hc : ∀ c ∈ R, c.bytes.length ≤ 1000) :
    CallsH Tryz.prog 75 ⟨[v, vr]⟩ h fun u h' => Own h' u 5 1 (l ++ be R.length 2 ++ R.flatMap encCel).length (bys (l ++ be R.length 2 ++ R.flatMap encCel)) ∧ Ext No h h' ∧ ∀ q, u.ownBlock = some q → h.size ≤ q := by
  obtain ⟨A0, c0, rfl, _⟩ := id hv
  obtain ⟨hr, ⟨_, A, cc, rfl, _⟩, hok⟩ := hR
  have hfl : ∀ k, ((R.take k).flatMap encCel).length ≤ 110000 := fun k => Nat.le_trans (flat_take R k fun x hx => encCel_len (hc x hx)) (by omega)
  refine calls [(0, _), (1, _)] Tryz.func75 rfl Tryz.ntmps75 rfl ⟨rfl, rfl, trivial⟩ ?_
  all_goals (refine WC.sr ?_)
  all_goals (refine Go ?_)
  all_goals (refine WC.sr ?_)
  all_goals (refine Go ?_)
  all_goals (refine WL.call (vs := [_, _, _]) rfl (fun a w => Tryz.call73 a w) rfl (put01 l (R.length : Int) 2 sz2 (rt2 (by omega)) hv (by omega)) rfl rfl rfl ?_
             rintro v1 h1 ⟨ho1, hx1, hf1⟩)
  all_goals (refine Go ?_)
  all_goals (refine WC.sub [(0, _), (1, _)] ⟨rfl, rfl, trivial⟩ ?_)
  all_goals (refine WC.seq ?_)
  all_goals (refine WC.sr ?_)
  all_goals (refine Go ?_)
  all_goals (refine WC.block ?_)
  -- loop 0: slots that turn [0, 5], that stay [1]
  all_goals (refine WC.loopG (X := Nat × Value) (fun x => ([(5, In (x.1 : Int)), (0, x.2)] : Fr)) [(1, _)] (fun y h' => y.1 ≤ R.length ∧ Own h' y.2 5 1 (l ++ be (R.length : Int) 2 ++ (R.take y.1).flatMap encCel).length (bys (l ++ be (R.length : Int) 2 ++ (R.take y.1).flatMap encCel)) ∧ Ext No h h' ∧ ∀ q, y.2.ownBlock = some q → h.size ≤ q) (fun y => R.length - y.1) ((0, v1)) ⟨rfl, rfl, rfl, trivial⟩ (by exact ⟨Nat.zero_le _, by simpa using ho1, hx1, hf1⟩) ?_)
  all_goals (rintro ⟨k, u⟩ h2 ⟨hk, ho2, hx2, hf2⟩
             dsimp only at hk ho2 hf2)
  all_goals (refine WC.sub [(0, _), (5, _), (1, _)] ⟨rfl, rfl, rfl, trivial⟩ ?_)
  all_goals (dsimp only)
  all_goals (refine WC.seq ?_)
  all_goals (refine WC.sr ?_)
  all_goals (refine Go ?_)
  all_goals (refine goC 1 2 ?_ ?_ <;> first | exact ⟨⟩ | refine Hb.mk fun hb => ?_ | skip)
  all_goals (first | (fail_if_success refine goB 1 ?_) | (
  refine goB 1 ?_
  all_goals (refine WC.skip ?_)
  skip))
  all_goals (first | (fail_if_success refine goB 2 ?_) | (
  refine goB 2 ?_
  all_goals (refine WC.exit ?_)
  all_goals (repeat' (with_reducible first | refine thenP_x ?_ | refine blockP_miss rfl ?_ | refine blockP_hit ?_ | refine blockP_n ?_ | refine thenP_n ?_))
  all_goals (refine Br.out (i := 1000) ?_)
  skip))
  all_goals (refine Gn ?_)
  all_goals (first | (refine Br.keep ?_) | (refine WC.sub [(0, _), (1, _), (5, _)] ⟨rfl, rfl, rfl, trivial⟩ ?_))
  all_goals (first | (refine Br.keep ?_) | (refine WC.seq ?_))
  all_goals (first | (refine Br.keep ?_) | (refine WC.block ?_))
  all_goals (first | (refine Br.keep ?_) | (refine WC.sr ?_))
  all_goals (first
               | (refine Br.keep ?_)
               | (obtain ⟨bL, oL, hA, hbL, hat⟩ := Rd.at_ (hr.ext0 hx2) (by omega)
                  obtain ⟨⟨yn, yv, yb⟩, hy⟩ : ∃ y, R[k]? = some y := ⟨_, List.getElem?_eq_getElem (by omega)⟩
                  have hyo := (hok _ (List.mem_of_getElem? hy)).1
                  have hyc := hc _ (List.mem_of_getElem? hy)
                  dsimp only at hyo hyc
                  obtain ⟨yA, yc, rfl, _⟩ := id hyo
                  have hcd : At h2 bL (oL + k * 2) [.bool yn, .slice yA yb.length yc] := At.elem Cel.len hat hy
                  have hlk := hfl k
                  have hl2 : (l ++ be (R.length : Int) 2 ++ (R.take k).flatMap encCel).length ≤ 2000000 := by simp only [List.length_append, be_len]; omega
                  have hx2' := hx2.size
                  have hl5 : (l ++ be (R.length : Int) 2 ++ (R.take k).flatMap encCel ++ be (yb.length : Int) 4).length ≤ 3000000 := by rw [List.length_append, be_len]; omega
                  cases yn))
  all_goals (first | (refine Br.keep ?_) | (refine WL.step (ok_move rfl) rfl rfl rfl ?_))
  all_goals (refine Go ?_)
  all_goals (first | (refine Br.keep ?_) | (refine WL.step (ok_idxAddrA Tryz.underlying29 (fun w => Tryz.sizeOf50 w) rfl rfl rfl (by omega) (by first | rfl | assumption)) rfl rfl rfl ?_))
  all_goals (refine Go ?_)
  all_goals (first | (refine Br.keep ?_) | (refine WL.step (ok_load (fun w => Tryz.isAgg4 w) rfl (by first | exact hcd.get 0 rfl rfl | assumption | exact cell_blk (by assumption) rfl)) rfl rfl rfl ?_))
  all_goals (refine Gn ?_)
  all_goals (first | (refine Br.keep ?_) | (refine WC.sub [(0, _), (1, _), (5, _), (20, _)] ⟨rfl, rfl, rfl, rfl, trivial⟩ ?_))
  all_goals (first | (refine Br.keep ?_) | (refine goC 3 4 ?_ ?_ <;> first | exact ⟨⟩ | refine Hb.mk fun hb => ?_ | skip))
  all_goals (first | (fail_if_success refine goB 3 ?_) | (
  refine goB 3 ?_
  all_goals (refine WC.region ?_)
  all_goals (refine Go ?_)
  all_goals (refine WL.call (vs := [_, _, _]) rfl (fun a w => Tryz.call73 a w) rfl (put01 _ (-1) 4 sz4 (rt4s (by omega)) ho2.rd (by omega)) rfl rfl rfl ?_
             rintro v5 h5 ⟨ho5, hx5, hf5⟩
             have hX5 := hx2.trans hx5
             have hF5 : ∀ q, v5.ownBlock = some q → h.size ≤ q := fun q e => by have := hf5 q e; omega
             have hO5 : Own h5 v5 5 1 (l ++ be (R.length : Int) 2 ++ (R.take (k + 1)).flatMap encCel).length (bys (l ++ be (R.length : Int) 2 ++ (R.take (k + 1)).flatMap encCel)) := by rw [flat_snoc hy, show encCel ⟨true, .slice yA yb.length yc, yb⟩ = be 4294967295 4 from rfl, ← be_neg1, ← List.append_assoc]; exact ho5)
  all_goals (refine Go ?_)
  skip))
  all_goals (first | (fail_if_success refine goB 4 ?_) | (
  refine goB 4 ?_
  all_goals (refine WC.drawH (fun h' => Ext No h2 h') 14 15 rfl fol ?_)
  all_goals (refine WH.tk 0 rfl (fun hq hC => ok_move rfl) rfl rfl rfl ?_)
  all_goals (refine WH.tk 1 rfl (fun hq hC => ok_move rfl) rfl rfl rfl ?_)
  all_goals (refine WH.tk 2 rfl (fun hq hC => ok_move rfl) rfl rfl rfl ?_)
  all_goals (refine WH.tk 3 rfl (fun hq hC => ok_idxAddrA Tryz.underlying29 (fun w => Tryz.sizeOf50 w) rfl rfl rfl (by omega) (by first | rfl | assumption)) rfl rfl rfl ?_)
  all_goals (refine WH.tk 4 rfl (fun hq hC => ok_fieldAddr rfl Tryz.underlying50 rfl (fun w => Tryz.sizeOf24 w)) rfl rfl rfl ?_)
  all_goals (refine WH.tk 5 rfl (fun hq hC => ok_load (fun w => Tryz.isAgg24 w) rfl (by first | exact hC.cell (by first | exact hcd.get 1 rfl rfl | assumption | exact cell_blk (by assumption) rfl) nos)) rfl rfl rfl ?_)
  all_goals (refine WH.tk 6 rfl (fun hq hC => ok_lenL rfl Tryz.underlying24 rfl) rfl rfl rfl ?_)
  all_goals (refine WH.tk 8 rfl (fun hq hC => ok_move rfl) rfl rfl rfl ?_)
  all_goals (refine WH.tk 9 rfl (fun hq hC => ok_move rfl) rfl rfl rfl ?_)
  all_goals (refine WH.tk 10 rfl (fun hq hC => ok_idxAddrA Tryz.underlying29 (fun w => Tryz.sizeOf50 w) rfl rfl rfl (by omega) (by first | rfl | assumption)) rfl rfl rfl ?_)
  all_goals (refine WH.tk 11 rfl (fun hq hC => ok_fieldAddr rfl Tryz.underlying50 rfl (fun w => Tryz.sizeOf24 w)) rfl rfl rfl ?_)
  all_goals (refine WH.tk 12 rfl (fun hq hC => ok_load (fun w => Tryz.isAgg24 w) rfl (by first | exact hC.cell (by first | exact hcd.get 1 rfl rfl | assumption | exact cell_blk (by assumption) rfl) nos)) rfl rfl rfl ?_)
  all_goals (refine WH.one 7 (by kernel_rfl) ?_)
  all_goals (refine Comes1.call (vs := [_, _, _]) rfl rfl (fun a w => Tryz.call73 a w) rfl (put01 _ (yb.length : Int) 4 sz4 (rt4s (by omega)) ho2.rd (by omega)) rfl rfl rfl ?_ (fun _ => by kernel_rfl)
             rintro v4 h4 ⟨ho4, hx4, hf4⟩)
  all_goals (refine ⟨fun _ => hx4, ?_⟩)
  all_goals (refine WH.one 13 (by kernel_rfl) ?_)
  all_goals (refine Comes1.run rfl (ok_append (sz := 1) (bytes := 1) rfl Tryz.underlying24 (show Tryz.prog.info? 5 = some Tryz.t5 by kernel_rfl) rfl rfl rfl rfl (by decide) rfl rfl ho4 ((hyo.ext0 hx2).ext0 hx4) (by intro c hc; obtain ⟨b, _, rfl⟩ := List.mem_map.1 hc; rfl) (by simp only [maxLen]; omega) (by omega)) rfl rfl rfl ?_ (fun _ => by kernel_rfl)
             rintro v5 h5 ⟨ho5, hx5, hl5⟩)
  all_goals (refine ⟨fun _ => hx4.trans' hx5 (fun q hq e => by have := hf4 q e; omega), ?_⟩)
  all_goals (have hC5 : Ext No h2 h5 := hx4.trans' hx5 (fun q hq e => by have := hf4 q e; omega)
             have hX5 := hx2.trans hC5
             have hF5 : ∀ q, v5.ownBlock = some q → h.size ≤ q := fun q e => hl5.elim (fun z => by have := hf4 q (z ▸ e); omega) (fun z => by rw [z] at e; cases e; have := hx4.size; omega)
             have hO5 : Own h5 v5 5 1 (l ++ be (R.length : Int) 2 ++ (R.take (k + 1)).flatMap encCel).length (bys (l ++ be (R.length : Int) 2 ++ (R.take (k + 1)).flatMap encCel)) := by rw [flat_snoc hy, show encCel ⟨false, .slice yA yb.length yc, yb⟩ = be yb.length 4 ++ yb from rfl, ← List.append_assoc, ← List.append_assoc, List.length_append (bs := yb), show ∀ m : List UInt8, bys (m ++ yb) = bys m ++ bys yb from fun m => List.map_append ..]; exact ho5)
  all_goals (refine WH.one 14 (by kernel_rfl) ?_)
  all_goals (refine Comes1.run rfl (OkP.r (ok_assign rfl)) rfl rfl rfl ?_ (fun _ => by kernel_rfl)
             rintro _ hz ⟨rfl, _⟩
             subst hz)
  all_goals (refine ⟨fun _ => hx4.trans' hx5 (fun q hq e => by have := hf4 q e; omega), ?_⟩)
  all_goals (refine WH.done (by kernel_rfl) ?_)
  skip))
  all_goals (refine Gn ?_)
  all_goals (first | (refine Br.keep ?_) | (refine WC.region ?_))
  all_goals (refine Go ?_)
  all_goals (first | (refine Br.keep ?_) | (exact ⟨(k + 1, _), ⟨rfl, rfl, rfl, trivial⟩, (by exact ⟨by omega, hO5, hX5, hF5⟩), (by simp; omega)⟩))
  all_goals (try (refine Br.mk (i := 1000) ?_))
  all_goals (refine Gn ?_)
  all_goals (refine WC.sub [(0, _)] ⟨rfl, trivial⟩ ?_)
  all_goals (refine WC.sr ?_)
  all_goals (refine Go ?_)
  all_goals (refine WC.ret ?_)
  all_goals (repeat' (with_reducible first | refine thenP_r ?_ | refine blockP_r ?_))
  all_goals (refine retP_1 _ ⟨rfl, trivial⟩ ?_)
  all_goals (rw [List.take_of_length_le (by omega)] at ho2
             exact ⟨ho2, hx2, hf2⟩)
set_option maxHeartbeats 2000000 in
set_option maxRecDepth 100000 in
theorem described07 {h : Heap} {vr : Value} (L : List ColD) (hr : Rd h vr 7 L.length (L.flatMap ColD.cells)) (hm : L.length ≤ 100) (hn : ∀ c ∈ L, c.nm.length ≤ 1000) (hc : ∀ c ∈ L, c.okB) :
    CallsH Tryz.prog 76 ⟨[vr]⟩ h fun u h' => Own h' u 5 1 (be (L.length : Int) 2 ++ L.flatMap encCol).length (bys (be (L.length : Int) 2 ++ L.flatMap encCol)) ∧ Ext No h h' ∧ ∀ q, u.ownBlock = some q → h.size ≤ q := by
  obtain ⟨A, cc, rfl, _⟩ := id hr
  have hfl : ∀ j, ((L.take j).flatMap encCol).length ≤ 110000 := fun j => Nat.le_trans (flat_take L j fun x hx => encCol_len (hn x hx)) (by omega)
  refine calls [(0, _)] Tryz.func76 rfl Tryz.ntmps76 rfl ⟨rfl, trivial⟩ ?_
  all_goals (refine WC.sr ?_)
  all_goals (refine Go ?_)
  all_goals (refine WC.sr ?_)
  all_goals (refine Go ?_)
  all_goals (refine WL.call (vs := [_, _, _]) rfl (fun a w => Tryz.call73 a w) rfl (put01 [] (L.length : Int) 2 sz2 (rt2 (by omega)) (Rd.nil _ _) (by decide)) rfl rfl rfl ?_
             rintro v1 h1 ⟨ho1, hx1, hf1⟩)
  all_goals (refine Go ?_)
  all_goals (refine WC.sub [(0, _), (3, _)] ⟨rfl, rfl, trivial⟩ ?_)
  all_goals (refine WC.seq ?_)
  all_goals (refine WC.sr ?_)
  all_goals (refine Go ?_)
  all_goals (refine WC.block ?_)
  -- loop 0: slots that turn [3, 4], that stay [0]
  all_goals (refine WC.loopG (X := Nat × Value) (fun x => ([(4, In (x.1 : Int)), (3, x.2)] : Fr)) [(0, _)] (fun y h' => y.1 ≤ L.length ∧ Own h' y.2 5 1 (be (L.length : Int) 2 ++ (L.take y.1).flatMap encCol).length (bys (be (L.length : Int) 2 ++ (L.take y.1).flatMap encCol)) ∧ Ext No h h' ∧ ∀ q, y.2.ownBlock = some q → h.size ≤ q) (fun y => L.length - y.1) ((0, v1)) ⟨rfl, rfl, rfl, trivial⟩ (by exact ⟨Nat.zero_le _, by simpa using ho1, hx1, hf1⟩) ?_)
  all_goals (rintro ⟨k, u⟩ h2 ⟨hk, ho2, hx2, hf2⟩
             dsimp only at hk ho2 hf2)
  all_goals (refine WC.sub [(3, _), (4, _), (0, _)] ⟨rfl, rfl, rfl, trivial⟩ ?_)
  all_goals (dsimp only)
  all_goals (refine WC.seq ?_)
  all_goals (refine WC.sr ?_)
  all_goals (refine Go ?_)
  all_goals (refine goC 1 2 ?_ ?_ <;> first | exact ⟨⟩ | refine Hb.mk fun hb => ?_ | skip)
  all_goals (first | (fail_if_success refine goB 1 ?_) | (
  refine goB 1 ?_
  all_goals (refine WC.skip ?_)
  skip))
  all_goals (first | (fail_if_success refine goB 2 ?_) | (
  refine goB 2 ?_
  all_goals (refine WC.exit ?_)
  all_goals (repeat' (with_reducible first | refine thenP_x ?_ | refine blockP_miss rfl ?_ | refine blockP_hit ?_ | refine blockP_n ?_ | refine thenP_n ?_))
  all_goals (refine Br.out (i := 1000) ?_)
  skip))
  all_goals (refine Gn ?_)
  all_goals (first | (refine Br.keep ?_) | (refine WC.sub [(0, _), (3, _), (4, _)] ⟨rfl, rfl, rfl, trivial⟩ ?_))
  all_goals (first | (refine Br.keep ?_) | (refine WC.seq ?_))
  all_goals (first | (refine Br.keep ?_) | (refine WC.block ?_))
  all_goals (first | (refine Br.keep ?_) | (refine WC.sr ?_))
  all_goals (first
               | (refine Br.keep ?_)
               | (obtain ⟨bL, oL, hA, hbL, hat⟩ := Rd.at_ (hr.ext0 hx2) (by omega)
                  obtain ⟨⟨nm, t, a, o, s, m, f⟩, hy⟩ : ∃ y, L[k]? = some y := ⟨_, List.getElem?_eq_getElem (by omega)⟩
                  have hyn := hn _ (List.mem_of_getElem? hy)
                  obtain ⟨c1, c2, c3, c4, c5, c6, c7⟩ := hc _ (List.mem_of_getElem? hy)
                  dsimp only at hyn c2 c3 c4 c5 c6 c7
                  have hcd : At h2 bL (oL + k * 7) [St nm, In t, In a, In o, In s, In m, In f] := At.elem ColD.len hat hy
                  have hlk := hfl k
                  have hl2 : (be (L.length : Int) 2 ++ (L.take k).flatMap encCol).length ≤ 200000 := by simp only [List.length_append, be_len]; omega
                  have hl3 : ∀ x : List UInt8, x.length ≤ 2000 → (be (L.length : Int) 2 ++ (L.take k).flatMap encCol ++ x).length ≤ 300000 := fun x hx => by rw [List.length_append]; omega))
  all_goals (first | (refine Br.keep ?_) | (refine WL.step (ok_move rfl) rfl rfl rfl ?_))
  all_goals (refine Go ?_)
  all_goals (first | (refine Br.keep ?_) | (refine WL.step (ok_idxAddrA Tryz.underlying28 (fun w => Tryz.sizeOf46 w) rfl rfl rfl (by omega) (by first | rfl | assumption)) rfl rfl rfl ?_))
  all_goals (first | (refine Br.keep ?_) | (refine WL.step (ok_loadN (fun w => Tryz.isAgg46 w) (fun w => Tryz.sizeOf46 w) rfl rfl (by exact hcd)) rfl rfl rfl ?_))
  all_goals (first
               | (refine Br.keep ?_)
               | (refine WL.stepR (okE_alloc (fun w => Tryz.zeroValue46 w)) rfl rfl rfl ?_
                  rintro _ h3 ⟨b5, rfl, hg5, hb5, hx3⟩))
  all_goals (first
               | (refine Br.keep ?_)
               | (refine WL.stepR0 (okE_storeW (fun w => Tryz.sizeOf46 w) rfl rfl rfl hb5 rfl (by simp [Value.oneCell'])) rfl rfl ?_
                  rintro _ h4 ⟨hb54, hx4⟩))
  all_goals (first
               | (refine Br.keep ?_)
               | (have hX4 : Ext No h2 h4 := hx3.trans' hx4 (fun q hq e => by omega)
                  have ho4 := ho2.ext hX4 (fun _ _ => nos)
                  have n5 : ¬ u.ownBlock = some b5 := fun e => by obtain ⟨_, z⟩ := own_kind ho4 e; rw [hb54] at z; simp at z
                  have s4 := hX4.size
                  have s2 := hx2.size))
  all_goals (refine Gn ?_)
  all_goals (first | (refine Br.keep ?_) | (refine WC.sub [(0, _), (3, _), (4, _), (5, _)] ⟨rfl, rfl, rfl, rfl, trivial⟩ ?_))
  all_goals (first | (refine Br.keep ?_) | (refine WC.seq ?_))
  all_goals (first | (refine Br.keep ?_) | (refine WC.drawH (fun h' => Ext (fun q => u.ownBlock = some q) h4 h') 10 11 rfl fol ?_))
  all_goals (first | (refine Br.keep ?_) | (refine WH.tk 0 rfl (fun hq hC => ok_move rfl) rfl rfl rfl ?_))
  all_goals (first | (refine Br.keep ?_) | (refine WH.tk 1 rfl (fun hq hC => ok_fieldAddr rfl Tryz.underlying46 rfl (fun w => Tryz.sizeOf9 w)) rfl rfl rfl ?_))
  all_goals (first | (refine Br.keep ?_) | (refine WH.tk 2 rfl (fun hq hC => ok_load (fun w => Tryz.isAgg9 w) rfl (by first | exact hC.cell (by first | exact cell_blk hb54 rfl | assumption | exact cell_blk (by assumption) rfl) n5)) rfl rfl rfl ?_))
  all_goals (first | (refine Br.keep ?_) | (refine WH.tk 4 rfl (fun hq hC => ok_fieldAddr rfl Tryz.underlying46 rfl (fun w => Tryz.sizeOf3 w)) rfl rfl rfl ?_))
  all_goals (first | (refine Br.keep ?_) | (refine WH.tk 5 rfl (fun hq hC => ok_load (fun w => Tryz.isAgg3 w) rfl (by first | exact hC.cell (by first | exact cell_blk hb54 rfl | assumption | exact cell_blk (by assumption) rfl) n5)) rfl rfl rfl ?_))
  all_goals (first | (refine Br.keep ?_) | (refine WH.tk 7 rfl (fun hq hC => ok_fieldAddr rfl Tryz.underlying46 rfl (fun w => Tryz.sizeOf3 w)) rfl rfl rfl ?_))
  all_goals (first | (refine Br.keep ?_) | (refine WH.tk 8 rfl (fun hq hC => ok_load (fun w => Tryz.isAgg3 w) rfl (by first | exact hC.cell (by first | exact cell_blk hb54 rfl | assumption | exact cell_blk (by assumption) rfl) n5)) rfl rfl rfl ?_))
  all_goals (first | (refine Br.keep ?_) | (refine WH.one 3 (by kernel_rfl) ?_))
  all_goals (first
               | (refine Br.keep ?_)
               | (refine Comes1.call (vs := [_, _]) rfl rfl (fun a w => Tryz.call74 a w) rfl (str06 _ nm ho4 (by omega)) rfl rfl rfl ?_ (fun _ => by kernel_rfl)
                  rintro v6 h6 ⟨ho6, hr6⟩
                  have hC6 := hr6.1
                  have hX6 : Ext No h h6 := (hx2.trans hX4).trans' hr6.1 (fun q hq e => by have := hf2 q e; omega)
                  have hF6 : ∀ q, v6.ownBlock = some q → h.size ≤ q := fun q e => (hr6.2 q e).elim (hf2 q) (fun z => by omega)
                  have hl6 := hl3 (nm ++ [0]) (by simp; omega)
                  rw [← List.append_assoc] at hl6))
  all_goals (first | (refine Br.keep ?_) | (refine ⟨fun _ => hC6, ?_⟩))
  all_goals (first | (refine Br.keep ?_) | (refine WH.one 6 (by kernel_rfl) ?_))
  all_goals (first
               | (refine Br.keep ?_)
               | (refine Comes1.call (vs := [_, _, _]) rfl rfl (fun a w => Tryz.call73 a w) rfl (put01 _ t 4 sz4 (rt4s (by omega)) ho6.rd (by omega)) rfl rfl rfl ?_ (fun _ => by kernel_rfl)
                  rintro v7 h7 ⟨ho7, hx7, hf7⟩
                  have hC7 : Ext (fun q => u.ownBlock = some q) h4 h7 := hC6.trans (hx7.mono fun _ _ e => e.elim)
                  have hl7 := hl3 (nm ++ [0] ++ be t 4) (by simp [be_len]; omega)
                  simp only [← List.append_assoc] at hl7))
  all_goals (first | (refine Br.keep ?_) | (refine ⟨fun _ => hC7, ?_⟩))
  all_goals (first | (refine Br.keep ?_) | (refine WH.one 9 (by kernel_rfl) ?_))
  all_goals (first
               | (refine Br.keep ?_)
               | (refine Comes1.call (vs := [_, _, _]) rfl rfl (fun a w => Tryz.call73 a w) rfl (put01 _ a 2 sz2 (rt2 (by omega)) ho7.rd (by omega)) rfl rfl rfl ?_ (fun _ => by kernel_rfl)
                  rintro v8 h8 ⟨ho8, hx8, hf8⟩
                  have hC8 : Ext (fun q => u.ownBlock = some q) h4 h8 := hC7.trans (hx8.mono fun _ _ e => e.elim)
                  have hl8 := hl3 (nm ++ [0] ++ be t 4 ++ be a 2) (by simp [be_len]; omega)
                  simp only [← List.append_assoc] at hl8
                  have hX8 : Ext No h h8 := (hX6.trans hx7).trans hx8
                  have hb58 := hC8.obj hb54 n5))
  all_goals (first | (refine Br.keep ?_) | (refine ⟨fun _ => hC8, ?_⟩))
  all_goals (first | (refine Br.keep ?_) | (refine WH.one 10 (by kernel_rfl) ?_))
  all_goals (first
               | (refine Br.keep ?_)
               | (refine Comes1.run rfl (OkP.r (ok_assign rfl)) rfl rfl rfl ?_ (fun _ => by kernel_rfl)
                  rintro _ hz ⟨rfl, _⟩
                  subst hz))
  all_goals (first | (refine Br.keep ?_) | (refine ⟨fun _ => hC8, ?_⟩))
  all_goals (first | (refine Br.keep ?_) | (refine WH.done (by kernel_rfl) ?_))
  all_goals (refine Gn ?_)
  all_goals (first | (refine Br.keep ?_) | (refine WC.sub [(0, _), (3, _), (4, _), (5, _)] ⟨rfl, rfl, rfl, rfl, trivial⟩ ?_))
  all_goals (first | (refine Br.keep ?_) | (refine WC.seq ?_))
  all_goals (first | (refine Br.keep ?_) | (refine WC.drawH (fun h' => Ext No h8 h') 7 8 rfl fol ?_))
  all_goals (first | (refine Br.keep ?_) | (refine WH.tk 0 rfl (fun hq hC => ok_move rfl) rfl rfl rfl ?_))
  all_goals (first | (refine Br.keep ?_) | (refine WH.tk 1 rfl (fun hq hC => ok_fieldAddr rfl Tryz.underlying46 rfl (fun w => Tryz.sizeOf3 w)) rfl rfl rfl ?_))
  all_goals (first | (refine Br.keep ?_) | (refine WH.tk 2 rfl (fun hq hC => ok_load (fun w => Tryz.isAgg3 w) rfl (by first | exact hC.cell (by first | exact cell_blk hb58 rfl | assumption | exact cell_blk (by assumption) rfl) nos)) rfl rfl rfl ?_))
  all_goals (first | (refine Br.keep ?_) | (refine WH.tk 4 rfl (fun hq hC => ok_fieldAddr rfl Tryz.underlying46 rfl (fun w => Tryz.sizeOf3 w)) rfl rfl rfl ?_))
  all_goals (first | (refine Br.keep ?_) | (refine WH.tk 5 rfl (fun hq hC => ok_load (fun w => Tryz.isAgg3 w) rfl (by first | exact hC.cell (by first | exact cell_blk hb58 rfl | assumption | exact cell_blk (by assumption) rfl) nos)) rfl rfl rfl ?_))
  all_goals (first | (refine Br.keep ?_) | (refine WH.one 3 (by kernel_rfl) ?_))
  all_goals (first
               | (refine Br.keep ?_)
               | (refine Comes1.call (vs := [_, _, _]) rfl rfl (fun a w => Tryz.call73 a w) rfl (put01 _ o 4 sz4 (rt4s (by omega)) ho8.rd (by omega)) rfl rfl rfl ?_ (fun _ => by kernel_rfl)
                  rintro v9 h9 ⟨ho9, hx9, hf9⟩
                  have hl9 := hl3 (nm ++ [0] ++ be t 4 ++ be a 2 ++ be o 4) (by simp [be_len]; omega)
                  simp only [← List.append_assoc] at hl9))
  all_goals (first | (refine Br.keep ?_) | (refine ⟨fun _ => hx9, ?_⟩))
  all_goals (first | (refine Br.keep ?_) | (refine WH.one 6 (by kernel_rfl) ?_))
  all_goals (first
               | (refine Br.keep ?_)
               | (refine Comes1.call (vs := [_, _, _]) rfl rfl (fun a w => Tryz.call73 a w) rfl (put01 _ s 2 sz2 (rt2 (by omega)) ho9.rd (by omega)) rfl rfl rfl ?_ (fun _ => by kernel_rfl)
                  rintro v10 h10 ⟨ho10, hx10, hf10⟩
                  have hC10 := hx9.trans hx10
                  have hl10 := hl3 (nm ++ [0] ++ be t 4 ++ be a 2 ++ be o 4 ++ be s 2) (by simp [be_len]; omega)
                  simp only [← List.append_assoc] at hl10
                  have hX10 := hX8.trans hC10
                  have hb510 := hC10.obj hb58 nos))
  all_goals (first | (refine Br.keep ?_) | (refine ⟨fun _ => hC10, ?_⟩))
  all_goals (first | (refine Br.keep ?_) | (refine WH.one 7 (by kernel_rfl) ?_))
  all_goals (first
               | (refine Br.keep ?_)
               | (refine Comes1.run rfl (OkP.r (ok_assign rfl)) rfl rfl rfl ?_ (fun _ => by kernel_rfl)
                  rintro _ hz ⟨rfl, _⟩
                  subst hz))
  all_goals (first | (refine Br.keep ?_) | (refine ⟨fun _ => hC10, ?_⟩))
  all_goals (first | (refine Br.keep ?_) | (refine WH.done (by kernel_rfl) ?_))
  all_goals (refine Gn ?_)
  all_goals (first | (refine Br.keep ?_) | (refine WC.sub [(0, _), (3, _), (4, _), (5, _)] ⟨rfl, rfl, rfl, rfl, trivial⟩ ?_))
  all_goals (first | (refine Br.keep ?_) | (refine WC.drawH (fun h' => Ext No h10 h') 7 8 rfl fol ?_))
  all_goals (first | (refine Br.keep ?_) | (refine WH.tk 0 rfl (fun hq hC => ok_move rfl) rfl rfl rfl ?_))
  all_goals (first | (refine Br.keep ?_) | (refine WH.tk 1 rfl (fun hq hC => ok_fieldAddr rfl Tryz.underlying46 rfl (fun w => Tryz.sizeOf3 w)) rfl rfl rfl ?_))
  all_goals (first | (refine Br.keep ?_) | (refine WH.tk 2 rfl (fun hq hC => ok_load (fun w => Tryz.isAgg3 w) rfl (by first | exact hC.cell (by first | exact cell_blk hb510 rfl | assumption | exact cell_blk (by assumption) rfl) nos)) rfl rfl rfl ?_))
  all_goals (first | (refine Br.keep ?_) | (refine WH.tk 4 rfl (fun hq hC => ok_fieldAddr rfl Tryz.underlying46 rfl (fun w => Tryz.sizeOf3 w)) rfl rfl rfl ?_))
  all_goals (first | (refine Br.keep ?_) | (refine WH.tk 5 rfl (fun hq hC => ok_load (fun w => Tryz.isAgg3 w) rfl (by first | exact hC.cell (by first | exact cell_blk hb510 rfl | assumption | exact cell_blk (by assumption) rfl) nos)) rfl rfl rfl ?_))
  all_goals (first | (refine Br.keep ?_) | (refine WH.one 3 (by kernel_rfl) ?_))
  all_goals (first
               | (refine Br.keep ?_)
               | (refine Comes1.call (vs := [_, _, _]) rfl rfl (fun a w => Tryz.call73 a w) rfl (put01 _ m 4 sz4 (rt4s (by omega)) ho10.rd (by omega)) rfl rfl rfl ?_ (fun _ => by kernel_rfl)
                  rintro v11 h11 ⟨ho11, hx11, hf11⟩
                  have hl11 := hl3 (nm ++ [0] ++ be t 4 ++ be a 2 ++ be o 4 ++ be s 2 ++ be m 4) (by simp [be_len]; omega)
                  simp only [← List.append_assoc] at hl11))
  all_goals (first | (refine Br.keep ?_) | (refine ⟨fun _ => hx11, ?_⟩))
  all_goals (first | (refine Br.keep ?_) | (refine WH.one 6 (by kernel_rfl) ?_))
  all_goals (first
               | (refine Br.keep ?_)
               | (refine Comes1.call (vs := [_, _, _]) rfl rfl (fun a w => Tryz.call73 a w) rfl (put01 _ f 2 sz2 (rt2 (by omega)) ho11.rd (by omega)) rfl rfl rfl ?_ (fun _ => by kernel_rfl)
                  rintro v12 h12 ⟨ho12, hx12, hf12⟩
                  have hC12 := hx11.trans hx12
                  have hX12 := hX10.trans hC12
                  have hF12 : ∀ q, v12.ownBlock = some q → h.size ≤ q := fun q e => by have := hf12 q e; have := (hX10.trans hx11).size; omega
                  have hO12 : Own h12 v12 5 1 (be (L.length : Int) 2 ++ (L.take (k + 1)).flatMap encCol).length (bys (be (L.length : Int) 2 ++ (L.take (k + 1)).flatMap encCol)) := by rw [flat_snoc hy]; simpa [encCol] using ho12))
  all_goals (first | (refine Br.keep ?_) | (refine ⟨fun _ => hC12, ?_⟩))
  all_goals (first | (refine Br.keep ?_) | (refine WH.one 7 (by kernel_rfl) ?_))
  all_goals (first
               | (refine Br.keep ?_)
               | (refine Comes1.run rfl (OkP.r (ok_assign rfl)) rfl rfl rfl ?_ (fun _ => by kernel_rfl)
                  rintro _ hz ⟨rfl, _⟩
                  subst hz))
  all_goals (first | (refine Br.keep ?_) | (refine ⟨fun _ => hC12, ?_⟩))
  all_goals (first | (refine Br.keep ?_) | (refine WH.done (by kernel_rfl) ?_))
  all_goals (refine Gn ?_)
  all_goals (first | (refine Br.keep ?_) | (refine WC.sub [(0, _), (3, _), (4, _)] ⟨rfl, rfl, rfl, trivial⟩ ?_))
  all_goals (first | (refine Br.keep ?_) | (refine WC.region ?_))
  all_goals (refine Go ?_)
  all_goals (first | (refine Br.keep ?_) | (exact ⟨(k + 1, _), ⟨rfl, rfl, rfl, trivial⟩, (by exact ⟨by omega, hO12, hX12, hF12⟩), (by simp; omega)⟩))
  all_goals (try (refine Br.mk (i := 1000) ?_))
  all_goals (refine Gn ?_)
  all_goals (refine WC.sub [(3, _)] ⟨rfl, trivial⟩ ?_)
  all_goals (refine WC.sr ?_)
  all_goals (refine Go ?_)
  all_goals (refine WC.ret ?_)
  all_goals (repeat' (with_reducible first | refine thenP_r ?_ | refine blockP_r ?_))
  all_goals (refine retP_1 _ ⟨rfl, trivial⟩ ?_)
  all_goals (rw [List.take_of_length_le (by omega)] at ho2
             exact ⟨ho2, hx2, hf2⟩)
set_option maxHeartbeats 2000000 in
set_option maxRecDepth 100000 in
theorem told07 {h : Heap} {vr : Value} (F : List FieldD) (hr : Rd h vr 2 F.length (F.flatMap FieldD.cells)) (hm : F.length ≤ 100) (hF : ∀ f ∈ F, f.t.length ≤ 200000 ∧ 0 ≤ f.k ∧ f.k ≤ 255) :
    CallsH Tryz.prog 78 ⟨[vr]⟩ h fun u h' => Own h' u 5 1 (encF F ++ [0]).length (bys (encF F ++ [0])) ∧ Ext No h h' ∧ ∀ q, u.ownBlock = some q → h.size ≤ q := by
  obtain ⟨A, cc, rfl, _⟩ := id hr
  have hlen : ∀ k, (encF (F.take k)).length ≤ 100 * 200002 := fun k => Nat.le_trans (encF_len (F.take k) 200000 (fun f hf => (hF f (List.mem_of_mem_take hf)).1)) (Nat.mul_le_mul (by rw [List.length_take]; omega) (Nat.le_refl _))
  refine calls [(0, _)] Tryz.func78 rfl Tryz.ntmps78 rfl ⟨rfl, trivial⟩ ?_
  all_goals (refine WC.sr ?_)
  all_goals (refine Go ?_)
  all_goals (refine WC.sr ?_)
  all_goals (refine Go ?_)
  all_goals (refine WC.seq ?_)
  all_goals (refine WC.sr ?_)
  all_goals (refine Go ?_)
  all_goals (refine WC.block ?_)
  -- loop 0: slots that turn [3, 4], that stay [0]
  all_goals (refine WC.loopG (X := Nat × Value) (fun x => ([(4, In (x.1 : Int)), (3, x.2)] : Fr)) [(0, _)] (fun y h' => y.1 ≤ F.length ∧ Own h' y.2 5 1 (encF (F.take y.1)).length (bys (encF (F.take y.1))) ∧ Ext No h h' ∧ ∀ q, y.2.ownBlock = some q → h.size ≤ q) (fun y => F.length - y.1) ((0, nilV)) ⟨rfl, rfl, rfl, trivial⟩ (by exact ⟨Nat.zero_le _, Own.nil _ _ _, .refl _ _, by simp [Value.ownBlock]⟩) ?_)
  all_goals (rintro ⟨k, u⟩ h2 ⟨hk, ho2, hx2, hf2⟩
             dsimp only at hk ho2 hf2)
  all_goals (refine WC.sub [(3, _), (4, _), (0, _)] ⟨rfl, rfl, rfl, trivial⟩ ?_)
  all_goals (dsimp only)
  all_goals (refine WC.seq ?_)
  all_goals (refine WC.sr ?_)
  all_goals (refine Go ?_)
  all_goals (refine goC 1 2 ?_ ?_ <;> first | exact ⟨⟩ | refine Hb.mk fun hb => ?_ | skip)
  all_goals (first | (fail_if_success refine goB 1 ?_) | (
  refine goB 1 ?_
  all_goals (refine WC.skip ?_)
  skip))
  all_goals (first | (fail_if_success refine goB 2 ?_) | (
  refine goB 2 ?_
  all_goals (refine WC.exit ?_)
  all_goals (repeat' (with_reducible first | refine thenP_x ?_ | refine blockP_miss rfl ?_ | refine blockP_hit ?_ | refine blockP_n ?_ | refine thenP_n ?_))
  all_goals (refine Br.out (i := 1000) ?_)
  skip))
  all_goals (refine Gn ?_)
  all_goals (first | (refine Br.keep ?_) | (refine WC.sub [(0, _), (3, _), (4, _)] ⟨rfl, rfl, rfl, trivial⟩ ?_))
  all_goals (first | (refine Br.keep ?_) | (refine WC.seq ?_))
  all_goals (first | (refine Br.keep ?_) | (refine WC.block ?_))
  all_goals (first | (refine Br.keep ?_) | (refine WC.drawH (fun h' => Ext (fun q => u.ownBlock = some q) h2 h') 14 15 rfl fol ?_))
  all_goals (first
               | (refine Br.keep ?_)
               | (obtain ⟨bL, oL, hA, hbL, hat⟩ := Rd.at_ hr (by omega)
                  obtain ⟨⟨yk, yt⟩, hy⟩ : ∃ y, F[k]? = some y := ⟨_, List.getElem?_eq_getElem (by omega)⟩
                  have hyF := hF _ (List.mem_of_getElem? hy)
                  dsimp only at hyF
                  have hcd : At h2 bL (oL + k * 2) [.int .u8 yk, St yt] := At.elem FieldD.len (hat.ext hx2 nos) hy
                  have hlk := hlen k
                  have s2 := hx2.size
                  have nL : ¬ u.ownBlock = some bL := fun e => by have := hf2 _ e; omega))
  all_goals (first | (refine Br.keep ?_) | (refine WH.tk 0 rfl (fun hq hC => ok_move rfl) rfl rfl rfl ?_))
  all_goals (first | (refine Br.keep ?_) | (refine WH.tk 1 rfl (fun hq hC => ok_move rfl) rfl rfl rfl ?_))
  all_goals (first | (refine Br.keep ?_) | (refine WH.tk 2 rfl (fun hq hC => ok_move rfl) rfl rfl rfl ?_))
  all_goals (first | (refine Br.keep ?_) | (refine WH.tk 3 rfl (fun hq hC => ok_idxAddrA Tryz.underlying30 (fun w => Tryz.sizeOf54 w) rfl rfl rfl (by omega) (by first | rfl | assumption)) rfl rfl rfl ?_))
  all_goals (first | (refine Br.keep ?_) | (refine WH.tk 4 rfl (fun hq hC => ok_fieldAddr rfl Tryz.underlying54 rfl (fun w => Tryz.sizeOf5 w)) rfl rfl rfl ?_))
  all_goals (first | (refine Br.keep ?_) | (refine WH.tk 5 rfl (fun hq hC => ok_load (fun w => Tryz.isAgg5 w) rfl (by first | exact hC.cell (by first | exact hcd.get 0 rfl rfl | assumption | exact cell_blk (by assumption) rfl) nL)) rfl rfl rfl ?_))
  all_goals (first | (refine Br.keep ?_) | (refine WH.tk 8 rfl (fun hq hC => ok_move rfl) rfl rfl rfl ?_))
  all_goals (first | (refine Br.keep ?_) | (refine WH.tk 9 rfl (fun hq hC => ok_move rfl) rfl rfl rfl ?_))
  all_goals (first | (refine Br.keep ?_) | (refine WH.tk 10 rfl (fun hq hC => ok_idxAddrA Tryz.underlying30 (fun w => Tryz.sizeOf54 w) rfl rfl rfl (by omega) (by first | rfl | assumption)) rfl rfl rfl ?_))
  all_goals (first | (refine Br.keep ?_) | (refine WH.tk 11 rfl (fun hq hC => ok_fieldAddr rfl Tryz.underlying54 rfl (fun w => Tryz.sizeOf9 w)) rfl rfl rfl ?_))
  all_goals (first | (refine Br.keep ?_) | (refine WH.tk 12 rfl (fun hq hC => ok_load (fun w => Tryz.isAgg9 w) rfl (by first | exact hC.cell (by first | exact hcd.get 1 rfl rfl | assumption | exact cell_blk (by assumption) rfl) nL)) rfl rfl rfl ?_))
  all_goals (first | (refine Br.keep ?_) | (refine WH.one 6 (by kernel_rfl) ?_))
  all_goals (first
               | (refine Br.keep ?_)
               | (refine Comes1.run rfl (okE_buildSlice (vs := [_]) (cs := [_]) (fun | [a0] => [a0] | _ => []) Tryz.underlying24 rfl rfl (by kernel_rfl)) rfl rfl rfl ?_ (fun _ => by kernel_rfl)
                  rintro _ h7 ⟨b7, rfl, hg7, hb7, hx7⟩))
  all_goals (first | (refine Br.keep ?_) | (refine ⟨fun _ => hx7.mono fun _ _ e => e.elim, ?_⟩))
  all_goals (first | (refine Br.keep ?_) | (have hC7 : Ext (fun q => u.ownBlock = some q) h2 h7 := hx7.mono fun _ _ e => e.elim))
  all_goals (first | (refine Br.keep ?_) | (refine WH.one 7 (by kernel_rfl) ?_))
  all_goals (first
               | (refine Br.keep ?_)
               | (refine Comes1.run rfl (ok_append (sz := 1) (bytes := 1) rfl Tryz.underlying24 (show Tryz.prog.info? 5 = some Tryz.t5 by kernel_rfl) rfl rfl rfl rfl (by decide) rfl rfl (ho2.ext hx7 (fun _ _ => nos)) (rd_blk hb7 rfl) (by simp [Value.oneCell']) (by simp only [maxLen]; omega) (by omega)) rfl rfl rfl ?_ (fun _ => by kernel_rfl)
                  rintro v8 h8 ⟨ho8, hx8, hl8⟩))
  all_goals (first | (refine Br.keep ?_) | (refine ⟨fun _ => hC7.trans hx8, ?_⟩))
  all_goals (first
               | (refine Br.keep ?_)
               | (have hC8 := hC7.trans hx8
                  have s7 := hx7.size
                  have s8 := hx8.size
                  have hX8 : Ext No h h8 := hx2.trans' hC8 (fun q hq e => by have := hf2 q e; omega)
                  have hF8 : ∀ q, v8.ownBlock = some q → h.size ≤ q := fun q e => hl8.elim (fun z => hf2 q (z ▸ e)) (fun z => by rw [z] at e; cases e; omega)
                  have hO8 : Own h8 v8 5 1 (encF (F.take k) ++ [UInt8.ofNat yk.toNat]).length (bys (encF (F.take k) ++ [UInt8.ofNat yk.toNat])) := by rw [show (encF (F.take k) ++ [UInt8.ofNat yk.toNat]).length = (encF (F.take k)).length + 1 by simp, show bys (encF (F.take k) ++ [UInt8.ofNat yk.toNat]) = bys (encF (F.take k)) ++ [Value.int .u8 yk] by simp only [bys, List.map_append, List.map_cons, List.map_nil]; exact congrArg (fun z => List.map By (encF (List.take k F)) ++ [z]) (byK hyF.2.1 hyF.2.2)]; exact ho8
                  have n8 : ∀ q, v8.ownBlock = some q → q < h2.size → u.ownBlock = some q := fun q e hq => hl8.elim (fun z => z ▸ e) (fun z => by rw [z] at e; cases e; omega)))
  all_goals (first | (refine Br.keep ?_) | (refine WH.one 13 (by kernel_rfl) ?_))
  all_goals (first
               | (refine Br.keep ?_)
               | (refine Comes1.call (vs := [_, _]) rfl rfl (fun a w => Tryz.call74 a w) rfl (str06 _ yt hO8 (by simp only [List.length_append, List.length_cons, List.length_nil]; omega)) rfl rfl rfl ?_ (fun _ => by kernel_rfl)
                  rintro v9 h9 ⟨ho9, hr9⟩
                  have hC9 : Ext (fun q => u.ownBlock = some q) h2 h9 := hC8.trans' hr9.1 (fun q hq e => n8 q e hq)
                  obtain ⟨hX9, hF9⟩ := hr9.fresh hX8 hF8))
  all_goals (first | (refine Br.keep ?_) | (refine ⟨fun _ => hC9, ?_⟩))
  all_goals (first | (refine Br.keep ?_) | (refine WH.one 14 (by kernel_rfl) ?_))
  all_goals (first
               | (refine Br.keep ?_)
               | (refine Comes1.run rfl (OkP.r (ok_assign rfl)) rfl rfl rfl ?_ (fun _ => by kernel_rfl)
                  rintro _ hz ⟨rfl, _⟩
                  subst hz))
  all_goals (first | (refine Br.keep ?_) | (refine ⟨fun _ => hC9, ?_⟩))
  all_goals (first | (refine Br.keep ?_) | (refine WH.done (by kernel_rfl) ?_))
  all_goals (refine Gn ?_)
  all_goals (first | (refine Br.keep ?_) | (refine WC.sub [(0, _), (3, _), (4, _)] ⟨rfl, rfl, rfl, trivial⟩ ?_))
  all_goals (first | (refine Br.keep ?_) | (refine WC.region ?_))
  all_goals (refine Go ?_)
  all_goals (first | (refine Br.keep ?_) | (exact ⟨(k + 1, _), ⟨rfl, rfl, rfl, trivial⟩, (by exact ⟨by omega, by rw [encF_snoc hy]; exact ho9, hX9, hF9⟩), (by simp; omega)⟩))
  all_goals (try (refine Br.mk (i := 1000) ?_))
  all_goals (refine Gn ?_)
  all_goals (refine WC.sub [(3, _)] ⟨rfl, trivial⟩ ?_)
  all_goals (refine WC.sr ?_)
  all_goals (refine Go ?_)
  all_goals (have hlk := hlen k)
  all_goals (refine WL.stepR (okE_buildSlice (vs := [_]) (cs := [_]) (fun | [a0] => [a0] | _ => []) Tryz.underlying24 rfl rfl (by kernel_rfl)) rfl rfl rfl ?_
             rintro _ h3 ⟨b3, rfl, hg3, hb3, hx3⟩)
  all_goals (refine WL.stepR (ok_append (sz := 1) (bytes := 1) rfl Tryz.underlying24 (show Tryz.prog.info? 5 = some Tryz.t5 by kernel_rfl) rfl rfl rfl rfl (by decide) rfl rfl (ho2.ext hx3 (fun _ _ => nos)) (rd_blk hb3 rfl) (by simp [Value.oneCell']) (by simp only [maxLen]; omega) (by omega)) rfl rfl rfl ?_
             rintro v4 h4 ⟨ho4, hx4, hl4⟩)
  all_goals (refine Go ?_)
  all_goals (refine WC.sub [(2, _)] ⟨rfl, trivial⟩ ?_)
  all_goals (refine WC.ret ?_)
  all_goals (repeat' (with_reducible first | refine thenP_r ?_ | refine blockP_r ?_))
  all_goals (refine retP_1 _ ⟨rfl, trivial⟩ ?_)
  all_goals (have e0 : F.take k = F := List.take_of_length_le (by omega)
             have s2 := hx2.size
             have s3 := hx3.size
             rw [e0] at ho4
             refine ⟨?_, (hx2.trans hx3).trans' hx4 (fun q hq e => by have := hf2 q e; omega), fun q e => hl4.elim (fun z => hf2 q (z ▸ e)) (fun z => by rw [z] at e; cases e; omega)⟩
             rw [show (encF F ++ [(0 : UInt8)]).length = (encF F).length + 1 by simp, show bys (encF F ++ [0]) = bys (encF F) ++ [Value.int .u8 0] by simp only [bys, List.map_append, List.map_cons, List.map_nil]; rfl]
             exact ho4)
end Go.Proofs.YtbahigffjclpdaaGreatDoor


