/-
  SEVERAL TEXTS IN ONE: FxT, FxU.
-/
import Derived.Test.YtbahigffjclpdaaGreatDoorPFixTells6
/-
  REPLIES (layers 4, 7, 8, 25): the bytes of any reply, by the code and by the document; the document's Back.
-/
namespace Go.Proofs.YtbahigffjclpdaaGreatDoor
open Go Go.RK

/-- A message's bytes. -/
def frB (k : Int) (l : List UInt8) : List UInt8 := [UInt8.ofNat k.toNat] ++ be (4 + (l.length : Int)) 4 ++ l
theorem bys_app (l m : List UInt8) : bys (l ++ m) = bys l ++ bys m := List.map_append ..
theorem bys_one {k : Int} (hk : 0 ≤ k ∧ k ≤ 255) : bys [UInt8.ofNat k.toNat] = [.int .u8 k] := congrArg (fun z => [z]) (byK hk.1 hk.2)
set_option maxHeartbeats 2000000 in
set_option maxRecDepth 100000 in
theorem frame_v {h : Heap} {v : Value} (k : Int) (hk : 0 < k ∧ k ≤ 255) (l : List UInt8) (hv : Rd h v 1 l.length (bys l)) (hl : l.length ≤ 1000000000) :
    CallsH Tryz.prog 54 ⟨[.agg ⟨[.int .u8 k, v]⟩]⟩ h fun u h' => Own h' u 5 1 (frB k l).length (bys (frB k l)) ∧ Ext No h h' := by
  obtain ⟨A, c, rfl, _⟩ := id hv
  refine calls [(0, _)] Tryz.func54 rfl Tryz.ntmps54 rfl ⟨rfl, trivial⟩ ?_
  all_goals (refine WC.sr ?_)
  all_goals (refine WL.stepR (okE_box rfl) rfl rfl rfl ?_
             rintro _ h1 ⟨b1, rfl, hg1, hb1, hx1⟩)
  all_goals (refine Go ?_)
  all_goals (refine WC.sr ?_)
  all_goals (refine Go ?_)
  all_goals (refine WC.seq ?_)
  all_goals (refine WC.sr ?_)
  all_goals (refine Go ?_)
  all_goals (refine WL.step (ok_load (fun w => Tryz.isAgg5 w) rfl (by first | assumption | exact cell_blk (by assumption) rfl)) rfl rfl rfl ?_)
  all_goals (refine Go ?_)
  all_goals (refine WC.sub [(1, _), (3, _), (6, _)] ⟨rfl, rfl, rfl, trivial⟩ ?_)
  all_goals (refine goC 1 2 ?_ ?_ <;> first | exact ⟨⟩ | refine Hb.mk fun hb => ?_ | skip)
  all_goals (first | (fail_if_success refine goB 1 ?_) | (
  refine goB 1 ?_
  all_goals (refine WC.region ?_)
  all_goals (refine Go ?_)
  all_goals (refine WL.step (ok_load (fun w => Tryz.isAgg5 w) rfl (by first | assumption | exact cell_blk (by assumption) rfl)) rfl rfl rfl ?_)
  all_goals (refine WL.stepR (okE_buildSlice (vs := [_]) (cs := [_]) (fun | [a0] => [a0] | _ => []) Tryz.underlying24 rfl rfl (by kernel_rfl)) rfl rfl rfl ?_
             rintro _ h2 ⟨b2, rfl, hg2, hb2, hx2⟩)
  all_goals (have hb12 := hx2.obj hb1 nos
             have hX2 := hx1.trans hx2
             have hr2 : Rd h2 (.slice (some ⟨b2, 0, none⟩) 1 1) 1 ([UInt8.ofNat k.toNat] : List UInt8).length (bys [UInt8.ofNat k.toNat]) := by rw [bys_one (by omega)]; exact rd_blk hb2 rfl)
  all_goals (refine Go ?_)
  skip))
  all_goals (first | (fail_if_success refine goB 2 ?_) | (
  refine goB 2 ?_
  all_goals (refine WC.skip ?_)
  skip))
  all_goals (refine Gn ?_)
  all_goals (refine WC.seq ?_)
  all_goals (refine WC.drawH (fun h' => Ext No h2 h') 9 10 rfl fol ?_)
  all_goals (refine WH.tk 0 rfl (fun hq hC => ok_move rfl) rfl rfl rfl ?_)
  all_goals (refine WH.tk 1 rfl (fun hq hC => ok_fieldAddr rfl Tryz.underlying85 rfl (fun w => Tryz.sizeOf24 w)) rfl rfl rfl ?_)
  all_goals (refine WH.tk 2 rfl (fun hq hC => ok_load (fun w => Tryz.isAgg24 w) rfl (by first | exact hC.cell (by first | exact cell_blk hb12 rfl | assumption | exact cell_blk (by assumption) rfl) nos)) rfl rfl rfl ?_)
  all_goals (refine WH.tk 3 rfl (fun hq hC => ok_lenL rfl Tryz.underlying24 rfl) rfl rfl rfl ?_)
  all_goals (first | (refine WH.tk 4 rfl (fun hq hC => ok_addI rfl rfl (by omega)) rfl rfl rfl ?_) | (refine WH.tk 4 rfl (fun hq hC => ok_add rfl rfl) rfl rfl rfl ?_))
  all_goals (refine WH.tk 6 rfl (fun hq hC => ok_fieldAddr rfl Tryz.underlying85 rfl (fun w => Tryz.sizeOf24 w)) rfl rfl rfl ?_)
  all_goals (refine WH.tk 7 rfl (fun hq hC => ok_load (fun w => Tryz.isAgg24 w) rfl (by first | exact hC.cell (by first | exact cell_blk hb12 rfl | assumption | exact cell_blk (by assumption) rfl) nos)) rfl rfl rfl ?_)
  all_goals (refine WH.one 5 (by kernel_rfl) ?_)
  all_goals (refine Comes1.call (vs := [_, _, _]) rfl rfl (fun a w => Tryz.call71 a w) rfl (put_v [UInt8.ofNat k.toNat] (4 + (l.length : Int)) 4 (.inr (.inr rfl)) (rtF ⟨by omega, by omega⟩) hr2 (by simp)) rfl rfl rfl ?_ (fun _ => by kernel_rfl)
             rintro v5 h5 ⟨ho5, hx5, hf5⟩)
  all_goals (refine ⟨fun _ => hx5, ?_⟩)
  all_goals (have hbl : ([UInt8.ofNat k.toNat] ++ be (4 + (l.length : Int)) 4).length = 5 := by simp [be_len])
  all_goals (refine WH.one 8 (by kernel_rfl) ?_)
  all_goals (refine Comes1.run rfl (ok_append (sz := 1) (bytes := 1) rfl Tryz.underlying24 (show Tryz.prog.info? 5 = some Tryz.t5 by kernel_rfl) rfl rfl rfl rfl (by decide) rfl rfl ho5 (hv.ext0 (hX2.trans hx5)) (by intro c hc; obtain ⟨b, _, rfl⟩ := List.mem_map.1 hc; rfl) (by simp only [maxLen]; omega) (by omega)) rfl rfl rfl ?_ (fun _ => by kernel_rfl)
             rintro v8 h8 ⟨ho8, hx8, hl8⟩)
  all_goals (refine ⟨fun _ => hx5.trans' hx8 (fun q hq e => by have := hf5 q e; omega), ?_⟩)
  all_goals (have hX8 := hx5.trans' hx8 (fun q hq e => by have := hf5 q e; omega))
  all_goals (refine WH.one 9 (by kernel_rfl) ?_)
  all_goals (refine Comes1.run rfl (OkP.r (ok_assign rfl)) rfl rfl rfl ?_ (fun _ => by kernel_rfl)
             rintro _ hz ⟨rfl, _⟩
             subst hz)
  all_goals (refine ⟨fun _ => hX8, ?_⟩)
  all_goals (refine WH.done (by kernel_rfl) ?_)
  all_goals (refine Gn ?_)
  all_goals (refine WC.sub [(2, _)] ⟨rfl, trivial⟩ ?_)
  all_goals (refine WC.ret ?_)
  all_goals (repeat' (with_reducible first | refine thenP_r ?_ | refine blockP_r ?_))
  all_goals (refine retP_1 _ ⟨rfl, trivial⟩ ?_)
  all_goals (exact ⟨by unfold frB; rw [List.length_append (bs := l), bys_app _ l]; exact ho8, hX2.trans hX8⟩)
set_option maxHeartbeats 4000000 in
set_option maxRecDepth 100000 in
theorem frame04 {h : Heap} {v : Value} (k : Int) (hk : 0 < k ∧ k ≤ 255) (l : List UInt8) (hv : Rd h v 1 l.length (bys l)) (hl : l.length ≤ 1000000000) :
    CallsH Tryz.prog 56 ⟨[.agg ⟨[.int .u8 k, v]⟩]⟩ h fun u h' => Own h' u 5 1 (frB k l).length (bys (frB k l)) ∧ Ext No h h' := by
  obtain ⟨A, c, rfl, _⟩ := id hv
  refine calls [(0, _)] Tryz.func56 rfl Tryz.ntmps56 rfl ⟨rfl, trivial⟩ ?_
  all_goals (refine WC.sr ?_)
  all_goals (refine WL.stepR (okE_box rfl) rfl rfl rfl ?_
             rintro _ h1 ⟨b1, rfl, hg1, hb1, hx1⟩)
  all_goals (refine Go ?_)
  all_goals (refine WC.sr ?_)
  all_goals (refine Go ?_)
  all_goals (refine WC.seq ?_)
  all_goals (refine WC.sr ?_)
  all_goals (refine Go ?_)
  all_goals (refine WL.step (ok_load (fun w => Tryz.isAgg5 w) rfl (by first | assumption | exact cell_blk (by assumption) rfl)) rfl rfl rfl ?_)
  all_goals (refine Go ?_)
  all_goals (refine WC.sub [(1, _), (3, _), (6, _)] ⟨rfl, rfl, rfl, trivial⟩ ?_)
  all_goals (refine goC 1 2 ?_ ?_ <;> first | exact ⟨⟩ | refine Hb.mk fun hb => ?_ | skip)
  all_goals (first | (fail_if_success refine goB 1 ?_) | (
  refine goB 1 ?_
  all_goals (refine WC.region ?_)
  all_goals (refine Go ?_)
  all_goals (refine WL.step (ok_load (fun w => Tryz.isAgg5 w) rfl (by first | assumption | exact cell_blk (by assumption) rfl)) rfl rfl rfl ?_)
  all_goals (refine WL.stepR (okE_buildSlice (vs := [_]) (cs := [_]) (fun | [a0] => [a0] | _ => []) Tryz.underlying24 rfl rfl (by kernel_rfl)) rfl rfl rfl ?_
             rintro _ h2 ⟨b2, rfl, hg2, hb2, hx2⟩)
  all_goals (refine WL.stepR (ok_append (sz := 1) (bytes := 1) rfl Tryz.underlying24 (show Tryz.prog.info? 5 = some Tryz.t5 by kernel_rfl) rfl rfl rfl rfl (by decide) rfl rfl (Own.nil _ 5 1) (rd_blk (len := 1) (sz := 1) (cs := [.int .u8 k]) hb2 rfl) (by simp [Value.oneCell']) (by simp only [maxLen]; omega) (by omega)) rfl rfl rfl ?_
             rintro v3 h3 ⟨ho3, hx3, hl3⟩)
  all_goals (have hX3 : Ext No h h3 := (hx1.trans hx2).trans (hx3.mono fun _ _ e => by simp [Value.ownBlock] at e)
             have hb13 := (hx2.trans (hx3.mono fun _ _ e => by simp [Value.ownBlock] at e)).obj hb1 nos
             have hr3 : Rd h3 v3 1 ([UInt8.ofNat k.toNat] : List UInt8).length (bys [UInt8.ofNat k.toNat]) := by
              rw [bys_one ⟨Int.le_of_lt hk.1, hk.2⟩]
              exact ho3.rd
             clear ho3 hl3)
  all_goals (refine Go ?_)
  skip))
  all_goals (first | (fail_if_success refine goB 2 ?_) | (
  refine goB 2 ?_
  all_goals (refine WC.skip ?_)
  skip))
  all_goals (refine Gn ?_)
  all_goals (refine WC.seq ?_)
  all_goals (refine WC.drawH (fun h' => Ext No h3 h') 9 10 rfl fol ?_)
  all_goals (refine WH.tk 0 rfl (fun hq hC => ok_move rfl) rfl rfl rfl ?_)
  all_goals (refine WH.tk 1 rfl (fun hq hC => ok_fieldAddr rfl Tryz.underlying85 rfl (fun w => Tryz.sizeOf24 w)) rfl rfl rfl ?_)
  all_goals (refine WH.tk 2 rfl (fun hq hC => ok_load (fun w => Tryz.isAgg24 w) rfl (by first | exact hC.cell (by first | exact cell_blk hb13 rfl | assumption | exact cell_blk (by assumption) rfl) nos)) rfl rfl rfl ?_)
  all_goals (refine WH.tk 3 rfl (fun hq hC => ok_lenL rfl Tryz.underlying24 rfl) rfl rfl rfl ?_)
  all_goals (first | (refine WH.tk 4 rfl (fun hq hC => ok_addI rfl rfl (by omega)) rfl rfl rfl ?_) | (refine WH.tk 4 rfl (fun hq hC => ok_add rfl rfl) rfl rfl rfl ?_))
  all_goals (refine WH.tk 6 rfl (fun hq hC => ok_fieldAddr rfl Tryz.underlying85 rfl (fun w => Tryz.sizeOf24 w)) rfl rfl rfl ?_)
  all_goals (refine WH.tk 7 rfl (fun hq hC => ok_load (fun w => Tryz.isAgg24 w) rfl (by first | exact hC.cell (by first | exact cell_blk hb13 rfl | assumption | exact cell_blk (by assumption) rfl) nos)) rfl rfl rfl ?_)
  all_goals (refine WH.one 5 (by kernel_rfl) ?_)
  all_goals (refine Comes1.call (vs := [_, _, _]) rfl rfl (fun a w => Tryz.call73 a w) rfl (put01 [UInt8.ofNat k.toNat] ((l.length : Int) + 4) 4 (.inr (.inr rfl)) (rtF ⟨by omega, by omega⟩) hr3 (by simp)) rfl rfl rfl ?_ (fun _ => by kernel_rfl)
             rintro v5 h5 ⟨ho5, hx5, hf5⟩
             rw [Int.add_comm] at ho5)
  all_goals (refine ⟨fun _ => hx5, ?_⟩)
  all_goals (have hbl : ([UInt8.ofNat k.toNat] ++ be (4 + (l.length : Int)) 4).length = 5 := by simp [be_len])
  all_goals (refine WH.one 8 (by kernel_rfl) ?_)
  all_goals (refine Comes1.run rfl (ok_append (sz := 1) (bytes := 1) rfl Tryz.underlying24 (show Tryz.prog.info? 5 = some Tryz.t5 by kernel_rfl) rfl rfl rfl rfl (by decide) rfl rfl ho5 (hv.ext0 (hX3.trans hx5)) (by intro c hc; obtain ⟨b, _, rfl⟩ := List.mem_map.1 hc; rfl) (by simp only [maxLen]; omega) (by omega)) rfl rfl rfl ?_ (fun _ => by kernel_rfl)
             rintro v8 h8 ⟨ho8, hx8, hl8⟩)
  all_goals (refine ⟨fun _ => hx5.trans' hx8 (fun q hq e => by have := hf5 q e; omega), ?_⟩)
  all_goals (have hX8 := hx5.trans' hx8 (fun q hq e => by have := hf5 q e; omega))
  all_goals (refine WH.one 9 (by kernel_rfl) ?_)
  all_goals (refine Comes1.run rfl (OkP.r (ok_assign rfl)) rfl rfl rfl ?_ (fun _ => by kernel_rfl)
             rintro _ hz ⟨rfl, _⟩
             subst hz)
  all_goals (refine ⟨fun _ => hX8, ?_⟩)
  all_goals (refine WH.done (by kernel_rfl) ?_)
  all_goals (refine Gn ?_)
  all_goals (refine WC.sub [(2, _)] ⟨rfl, trivial⟩ ?_)
  all_goals (refine WC.ret ?_)
  all_goals (repeat' (with_reducible first | refine thenP_r ?_ | refine blockP_r ?_))
  all_goals (refine retP_1 _ ⟨rfl, trivial⟩ ?_)
  all_goals (exact ⟨by unfold frB; rw [List.length_append (bs := l), bys_app _ l]; exact ho8, hX3.trans hX8⟩)
theorem encBk_len {b : Bk} (hm : b.mid) : (encBk b).length ≤ 100000000 := by
  obtain ⟨md1, md2, md3, md4, md5, md6, md7, md8, md9, md10⟩ := hm
  have e1 := flat_len b.row (f := encCel) (n := 1100) fun x hx => encCel_len (md6 x hx)
  have e2 := flat_len b.cols (f := encCol) (n := 1100) fun x hx => encCol_len (md5 x hx)
  have e3 := flat_len b.oids (f := fun n => be n 4) (n := 4) fun x hx => by rw [be_len]; omega
  have e4 := encF_len b.fields 200000 md7
  unfold encBk
  repeat' split
  all_goals simp only [List.length_append, List.length_cons, List.length_nil, be_len]
  all_goals omega
set_option maxHeartbeats 4000000 in
set_option maxRecDepth 100000 in
theorem encN_back {h : Heap} (b : Bk) (hb : b.ok h) (hw : b.wf) (hmd : b.mid) (hmay : ¬ b.may) :
    CallsH Tryz.prog 53 ⟨[.agg ⟨b.cells⟩]⟩ h fun u h' => ∃ e, u = .tuple ⟨[.agg ⟨[.int .u8 0, nilV]⟩, In e]⟩ ∧ e ≠ 0 ∧ Ext No h h' := by
  have kc := fun h' (hx : Ext No h h') => checkA_back b (hb.ext0 hx) hw.kind hmd
  obtain ⟨k, st, t, n, v, x, y, vo, lo, vc, lc, vr, lr, vf, lf⟩ := b
  dsimp only [Bk.cells] at kc ⊢
  refine calls [(0, _)] Tryz.func53 rfl Tryz.ntmps53 rfl ⟨rfl, trivial⟩ ?_
  all_goals (refine WC.sr ?_)
  all_goals (refine WL.stepR (okE_box rfl) rfl rfl rfl ?_
             rintro _ h1 ⟨b1, rfl, hg1, hb1, hx1⟩)
  all_goals (refine WL.stepR (okE_alloc (fun w => Tryz.zeroValue85 w)) rfl rfl rfl ?_
             rintro _ h2 ⟨b2, rfl, hg2, hb2, hx2⟩)
  all_goals (have hX2 := hx1.trans hx2
             have hb12 := hx2.obj hb1 nos)
  all_goals (refine Go ?_)
  all_goals (refine WC.seq ?_)
  all_goals (refine WC.sr ?_)
  all_goals (refine WL.step (ok_loadN (fun w => Tryz.isAgg32 w) (fun w => Tryz.sizeOf32 w) rfl rfl (by exact At.of_block hb12)) rfl rfl rfl ?_)
  all_goals (refine WL.call (vs := [_]) rfl (fun a w => Tryz.call65 a w) rfl (kc _ hX2) rfl rfl rfl ?_
             rintro _ h3 ⟨⟨e, rfl, he⟩, hx3⟩
             have hne : e ≠ 0 := fun z => hmay (he.1 z))
  all_goals (have hb23 := hx3.obj hb2 nos)
  all_goals (refine Go ?_)
  all_goals (refine WC.sub [(1, _), (2, _), (4, _)] ⟨rfl, rfl, rfl, trivial⟩ ?_)
  all_goals (refine WC.sr ?_)
  all_goals (refine Go ?_)
  all_goals (refine goC 1 2 ?_ ?_ <;> first | exact ⟨⟩ | refine Hb.mk fun hb => ?_ | skip)
  all_goals (first | (fail_if_success refine goB 1 ?_) | (
  refine goB 1 ?_
  all_goals (refine WC.sr ?_)
  all_goals (refine WL.step (ok_buildF (vs := []) (cs := [_, _]) (fun | [] => [(.int .u8 0), (.slice none 0 0)] | _ => []) rfl rfl (by kernel_rfl)) rfl rfl rfl ?_)
  all_goals (refine Go ?_)
  all_goals (refine WL.stepR0 (okE_storeW (fun w => Tryz.sizeOf85 w) rfl rfl rfl hb23 rfl (by simp [Value.oneCell'])) rfl rfl ?_
             rintro _ h4 ⟨hb4, hx4⟩)
  all_goals (refine Go ?_)
  all_goals (refine WC.sub [(2, _), (3, _)] ⟨rfl, rfl, trivial⟩ ?_)
  all_goals (refine WC.ret ?_)
  all_goals (repeat' (with_reducible first | refine thenP_r ?_ | refine blockP_r ?_))
  all_goals (refine retP_2 _ _ ⟨⟨_, rfl, ld_blk (fun w => Tryz.isAgg85 w) (fun w => Tryz.sizeOf85 w) hb4 rfl⟩, rfl, trivial⟩ ?_)
  all_goals (exact ⟨_, rfl, hne, (hX2.trans hx3).trans' hx4 (fun q hq e => by have := hx1.size; omega)⟩)
  skip))
  all_goals (first | (fail_if_success refine goB 2 ?_) | (
  refine goB 2 ?_
  all_goals (refine WC.skip ?_)
  skip))
  all_goals (refine Gn ?_)
  all_goals (refine WC.sr ?_)
  all_goals (refine WL.step (ok_buildF (vs := []) (cs := [_]) (fun | [] => [(.slice none 0 0)] | _ => []) rfl rfl (by kernel_rfl)) rfl rfl rfl ?_)
  all_goals (refine WL.stepR (okE_box rfl) rfl rfl rfl ?_
             rintro _ h1 ⟨b1, rfl, hg1, hb1, hx1⟩)
  all_goals (refine Go ?_)
  all_goals (refine WC.sub [(1, _), (2, _), (5, _)] ⟨rfl, rfl, rfl, trivial⟩ ?_)
  all_goals (refine WC.seq ?_)
  all_goals (refine WC.sr ?_)
  all_goals (refine Go ?_)
  all_goals (refine WL.step (ok_load (fun w => Tryz.isAgg5 w) rfl (by first | assumption | exact cell_blk (by assumption) rfl)) rfl rfl rfl ?_)
  all_goals (refine Gn ?_)
  all_goals (refine WC.block ?_)
  all_goals (refine WC.sr ?_)
  all_goals (refine Go ?_)
  all_goals (refine goC 3 4 ?_ ?_ <;> first | exact ⟨⟩ | refine Hb.mk fun hb => ?_ | skip)
  all_goals (first | (fail_if_success refine goB 4 ?_) | (
  refine goB 4 ?_
  all_goals (refine WC.sr ?_)
  all_goals (refine Go ?_)
  all_goals (refine WC.sub [(1, _), (2, _), (5, _), (19, _), (24, _)] ⟨rfl, rfl, rfl, rfl, rfl, trivial⟩ ?_)
  all_goals (refine goC 5 6 ?_ ?_ <;> first | exact ⟨⟩ | refine Hb.mk fun hb => ?_ | skip)
  all_goals (first | (fail_if_success refine goB 6 ?_) | (
  refine goB 6 ?_
  all_goals (refine WC.sr ?_)
  all_goals (refine Go ?_)
  all_goals (refine goC 7 8 ?_ ?_ <;> first | exact ⟨⟩ | refine Hb.mk fun hb => ?_ | skip)
  all_goals (first | (fail_if_success refine goB 8 ?_) | (
  refine goB 8 ?_
  all_goals (refine WC.sr ?_)
  all_goals (refine Go ?_)
  all_goals (refine WC.sub [(1, _), (2, _), (5, _), (19, _), (44, _)] ⟨rfl, rfl, rfl, rfl, rfl, trivial⟩ ?_)
  all_goals (refine goC 9 10 ?_ ?_ <;> first | exact ⟨⟩ | refine Hb.mk fun hb => ?_ | skip)
  all_goals (first | (fail_if_success refine goB 9 ?_) | (
  refine goB 9 ?_
  all_goals (refine WC.region ?_)
  all_goals (refine Go ?_)
  all_goals (refine WL.step (ok_load (fun w => Tryz.isAgg5 w) rfl (by first | assumption | exact cell_blk (by assumption) rfl)) rfl rfl rfl ?_)
  all_goals (refine WL.stepR (okE_buildSlice (vs := [_]) (cs := [_]) (fun | [a0] => [a0] | _ => []) Tryz.underlying24 rfl rfl (by kernel_rfl)) rfl rfl rfl ?_
             rintro _ h1 ⟨b1, rfl, hg1, hb1, hx1⟩)
  all_goals (refine WL.step (ok_nilCheck rfl) rfl rfl rfl ?_)
  all_goals (refine Go ?_)
  all_goals (refine WL.stepR0 (okE_store (fun w => Tryz.sizeOf24 w) rfl rfl (by assumption) (Nat.le_of_ble_eq_true rfl) rfl rfl) rfl rfl ?_
             rintro _ h1 ⟨hb1, hx1⟩)
  all_goals (refine Gn ?_)
  skip))
  all_goals (first | (fail_if_success refine goB 10 ?_) | (
  refine goB 10 ?_
  all_goals (refine WC.sr ?_)
  all_goals (refine Go ?_)
  all_goals (refine goC 11 12 ?_ ?_ <;> first | exact ⟨⟩ | refine Hb.mk fun hb => ?_ | skip)
  all_goals (first | (fail_if_success refine goB 12 ?_) | (
  refine goB 12 ?_
  all_goals (refine WC.sr ?_)
  all_goals (refine Go ?_)
  all_goals (refine WC.sub [(1, _), (2, _), (5, _), (19, _), (58, _)] ⟨rfl, rfl, rfl, rfl, rfl, trivial⟩ ?_)
  all_goals (refine goC 13 14 ?_ ?_ <;> first | exact ⟨⟩ | refine Hb.mk fun hb => ?_ | skip)
  all_goals (first | (fail_if_success refine goB 14 ?_) | (
  refine goB 14 ?_
  all_goals (refine WC.sr ?_)
  all_goals (refine Go ?_)
  all_goals (refine goC 15 16 ?_ ?_ <;> first | exact ⟨⟩ | refine Hb.mk fun hb => ?_ | skip)
  all_goals (first | (fail_if_success refine goB 16 ?_) | (
  refine goB 16 ?_
  all_goals (refine WC.sr ?_)
  all_goals (refine Go ?_)
  all_goals (refine WC.sub [(1, _), (2, _), (5, _), (19, _), (82, _)] ⟨rfl, rfl, rfl, rfl, rfl, trivial⟩ ?_)
  all_goals (refine goC 19 20 ?_ ?_ <;> first | exact ⟨⟩ | refine Hb.mk fun hb => ?_ | skip)
  all_goals (first | (fail_if_success refine goB 20 ?_) | (
  refine goB 20 ?_
  all_goals (refine WC.seq ?_)
  all_goals (refine WC.sr ?_)
  all_goals (refine Go ?_)
  all_goals (refine goC 23 24 ?_ ?_ <;> first | exact ⟨⟩ | refine Hb.mk fun hb => ?_ | skip)
  all_goals (first | (fail_if_success refine goB 23 ?_) | (
  refine goB 23 ?_
  all_goals (refine WC.skip ?_)
  skip))
  all_goals (first | (fail_if_success refine goB 24 ?_) | (
  refine goB 24 ?_
  all_goals (refine WC.region ?_)
  all_goals (refine Go ?_)
  skip))
  all_goals (refine Gn ?_)
  all_goals (refine goC 25 26 ?_ ?_ <;> first | exact ⟨⟩ | refine Hb.mk fun hb => ?_ | skip)
  all_goals (first | (fail_if_success refine goB 26 ?_) | (
  refine goB 26 ?_
  all_goals (refine WC.skip ?_)
  skip))
  skip))
  skip))
  skip))
  skip))
  skip))
  skip))
  skip))
  skip))
  all_goals (refine Gn ?_)
  all_goals (refine WC.seq ?_)
  all_goals (refine WC.drawE fol (by kernel_rfl) ?_)
  all_goals (refine WQ.stepE (ok_fieldAddr rfl Tryz.underlying32 rfl (fun w => Tryz.sizeOf5 w)) rfl rfl rfl ?_)
  all_goals (refine WQ.stepE (ok_load (fun w => Tryz.isAgg5 w) rfl (by first | assumption | exact cell_blk (by assumption) rfl)) rfl rfl rfl ?_)
  all_goals (refine WQ.stepE (ok_move rfl) rfl rfl rfl ?_)
  all_goals (refine WQ.stepE (ok_nilCheck rfl) rfl rfl rfl ?_)
  all_goals (refine WQ.stepE (ok_fieldAddr rfl Tryz.underlying97 rfl (fun w => Tryz.sizeOf24 w)) rfl rfl rfl ?_)
  all_goals (refine WQ.stepE (ok_load (fun w => Tryz.isAgg24 w) rfl (by first | assumption | exact cell_blk (by assumption) rfl)) rfl rfl rfl ?_)
  all_goals (refine WQ.stepE (ok_buildF (vs := [_, _]) (cs := [_, _]) (fun | [a0, a1] => [a0, a1] | _ => []) rfl rfl (by kernel_rfl)) rfl rfl rfl ?_)
  all_goals (refine WL.stepR0 (okE_storeW (fun w => Tryz.sizeOf85 w) rfl rfl rfl (by assumption) rfl (by simp [Value.oneCell'])) rfl rfl ?_
             rintro _ h1 ⟨hb1, hx1⟩)
  all_goals (refine WQ.stepE (ok_assign rfl) rfl rfl rfl ?_)
  all_goals (refine WQ.nil ?_)
  all_goals (refine Gn ?_)
  all_goals (refine WC.sub [(2, _), (3, _)] ⟨rfl, rfl, trivial⟩ ?_)
  all_goals (refine WC.ret ?_)
  all_goals (repeat' (with_reducible first | refine thenP_r ?_ | refine blockP_r ?_))
  all_goals (refine retP_2 _ _ ⟨⟨_, rfl, ld_blk (fun w => Tryz.isAgg85 w) (fun w => Tryz.sizeOf85 w) hb4 rfl⟩, rfl, trivial⟩ ?_)
  all_goals (exact ⟨_, rfl, hne, (hX2.trans hx3).trans' hx4 (fun q hq e => by have := hx1.size; omega)⟩)
set_option maxHeartbeats 4000000 in
set_option maxRecDepth 100000 in
theorem encN_07 {h : Heap} (b : Bk) (hb : b.ok h) (hw : b.wf) (hmd : b.mid) (hmay : ¬ b.may) :
    CallsH Tryz.prog 55 ⟨[.agg ⟨b.cells⟩]⟩ h fun u h' => ∃ e, u = .tuple ⟨[.agg ⟨[.int .u8 0, nilV]⟩, In e]⟩ ∧ e ≠ 0 ∧ Ext No h h' := by
  have kc := fun h' (hx : Ext No h h') => checkA07 b (hb.ext0 hx) hw.kind hmd
  obtain ⟨k, st, t, n, v, x, y, vo, lo, vc, lc, vr, lr, vf, lf⟩ := b
  dsimp only [Bk.cells] at kc ⊢
  refine calls [(0, _)] Tryz.func55 rfl Tryz.ntmps55 rfl ⟨rfl, trivial⟩ ?_
  all_goals (refine WC.sr ?_)
  all_goals (refine WL.stepR (okE_box rfl) rfl rfl rfl ?_
             rintro _ h1 ⟨b1, rfl, hg1, hb1, hx1⟩)
  all_goals (refine WL.stepR (okE_alloc (fun w => Tryz.zeroValue85 w)) rfl rfl rfl ?_
             rintro _ h2 ⟨b2, rfl, hg2, hb2, hx2⟩)
  all_goals (have hX2 := hx1.trans hx2
             have hb12 := hx2.obj hb1 nos)
  all_goals (refine Go ?_)
  all_goals (refine WC.seq ?_)
  all_goals (refine WC.sr ?_)
  all_goals (refine WL.step (ok_loadN (fun w => Tryz.isAgg32 w) (fun w => Tryz.sizeOf32 w) rfl rfl (by exact At.of_block hb12)) rfl rfl rfl ?_)
  all_goals (refine WL.call (vs := [_]) rfl (fun a w => Tryz.call72 a w) rfl (kc _ hX2) rfl rfl rfl ?_
             rintro _ h3 ⟨⟨e, rfl, he⟩, hx3⟩
             have hne : e ≠ 0 := fun z => hmay (he.1 z))
  all_goals (have hb23 := hx3.obj hb2 nos)
  all_goals (refine Go ?_)
  all_goals (refine WC.sub [(1, _), (2, _), (4, _)] ⟨rfl, rfl, rfl, trivial⟩ ?_)
  all_goals (refine WC.sr ?_)
  all_goals (refine Go ?_)
  all_goals (refine goC 1 2 ?_ ?_ <;> first | exact ⟨⟩ | refine Hb.mk fun hb => ?_ | skip)
  all_goals (first | (fail_if_success refine goB 1 ?_) | (
  refine goB 1 ?_
  all_goals (refine WC.sr ?_)
  all_goals (refine WL.step (ok_buildF (vs := []) (cs := [_, _]) (fun | [] => [(.int .u8 0), (.slice none 0 0)] | _ => []) rfl rfl (by kernel_rfl)) rfl rfl rfl ?_)
  all_goals (refine Go ?_)
  all_goals (refine WL.stepR0 (okE_storeW (fun w => Tryz.sizeOf85 w) rfl rfl rfl hb23 rfl (by simp [Value.oneCell'])) rfl rfl ?_
             rintro _ h4 ⟨hb4, hx4⟩)
  all_goals (refine Go ?_)
  all_goals (refine WC.sub [(2, _), (3, _)] ⟨rfl, rfl, trivial⟩ ?_)
  all_goals (refine WC.ret ?_)
  all_goals (repeat' (with_reducible first | refine thenP_r ?_ | refine blockP_r ?_))
  all_goals (refine retP_2 _ _ ⟨⟨_, rfl, ld_blk (fun w => Tryz.isAgg85 w) (fun w => Tryz.sizeOf85 w) hb4 rfl⟩, rfl, trivial⟩ ?_)
  all_goals (exact ⟨_, rfl, hne, (hX2.trans hx3).trans' hx4 (fun q hq e => by have := hx1.size; omega)⟩)
  skip))
  all_goals (first | (fail_if_success refine goB 2 ?_) | (
  refine goB 2 ?_
  all_goals (refine WC.skip ?_)
  skip))
  all_goals (refine Gn ?_)
  all_goals (refine WC.sr ?_)
  all_goals (refine Go ?_)
  all_goals (refine WC.seq ?_)
  all_goals (refine WC.sr ?_)
  all_goals (refine Go ?_)
  all_goals (refine WL.step (ok_load (fun w => Tryz.isAgg5 w) rfl (by first | assumption | exact cell_blk (by assumption) rfl)) rfl rfl rfl ?_)
  all_goals (refine Gn ?_)
  all_goals (refine WC.sub [(1, _), (2, _), (5, _), (13, _)] ⟨rfl, rfl, rfl, rfl, trivial⟩ ?_)
  all_goals (refine WC.block ?_)
  all_goals (refine WC.sr ?_)
  all_goals (refine Go ?_)
  all_goals (refine goC 3 4 ?_ ?_ <;> first | exact ⟨⟩ | refine Hb.mk fun hb => ?_ | skip)
  all_goals (first | (fail_if_success refine goB 4 ?_) | (
  refine goB 4 ?_
  all_goals (refine WC.sr ?_)
  all_goals (refine Go ?_)
  all_goals (refine goC 5 6 ?_ ?_ <;> first | exact ⟨⟩ | refine Hb.mk fun hb => ?_ | skip)
  all_goals (first | (fail_if_success refine goB 6 ?_) | (
  refine goB 6 ?_
  all_goals (refine WC.sr ?_)
  all_goals (refine Go ?_)
  all_goals (refine WC.sub [(1, _), (2, _), (5, _), (13, _), (25, _)] ⟨rfl, rfl, rfl, rfl, rfl, trivial⟩ ?_)
  all_goals (refine goC 7 8 ?_ ?_ <;> first | exact ⟨⟩ | refine Hb.mk fun hb => ?_ | skip)
  all_goals (first | (fail_if_success refine goB 8 ?_) | (
  refine goB 8 ?_
  all_goals (refine WC.sr ?_)
  all_goals (refine Go ?_)
  all_goals (refine goC 9 10 ?_ ?_ <;> first | exact ⟨⟩ | refine Hb.mk fun hb => ?_ | skip)
  all_goals (first | (fail_if_success refine goB 9 ?_) | (
  refine goB 9 ?_
  all_goals (refine WC.region ?_)
  all_goals (refine Go ?_)
  all_goals (refine WL.step (ok_load (fun w => Tryz.isAgg5 w) rfl (by first | assumption | exact cell_blk (by assumption) rfl)) rfl rfl rfl ?_)
  all_goals (refine WL.stepR (okE_buildSlice (vs := [_]) (cs := [_]) (fun | [a0] => [a0] | _ => []) Tryz.underlying24 rfl rfl (by kernel_rfl)) rfl rfl rfl ?_
             rintro _ h1 ⟨b1, rfl, hg1, hb1, hx1⟩)
  all_goals (refine Go ?_)
  skip))
  all_goals (first | (fail_if_success refine goB 10 ?_) | (
  refine goB 10 ?_
  all_goals (refine WC.sr ?_)
  all_goals (refine Go ?_)
  all_goals (refine WC.sub [(1, _), (2, _), (5, _), (13, _), (38, _)] ⟨rfl, rfl, rfl, rfl, rfl, trivial⟩ ?_)
  all_goals (refine goC 11 12 ?_ ?_ <;> first | exact ⟨⟩ | refine Hb.mk fun hb => ?_ | skip)
  all_goals (first | (fail_if_success refine goB 12 ?_) | (
  refine goB 12 ?_
  all_goals (refine WC.sr ?_)
  all_goals (refine Go ?_)
  all_goals (refine goC 13 14 ?_ ?_ <;> first | exact ⟨⟩ | refine Hb.mk fun hb => ?_ | skip)
  all_goals (first | (fail_if_success refine goB 14 ?_) | (
  refine goB 14 ?_
  all_goals (refine WC.sr ?_)
  all_goals (refine Go ?_)
  all_goals (refine WC.sub [(1, _), (2, _), (5, _), (13, _), (48, _)] ⟨rfl, rfl, rfl, rfl, rfl, trivial⟩ ?_)
  all_goals (refine goC 15 16 ?_ ?_ <;> first | exact ⟨⟩ | refine Hb.mk fun hb => ?_ | skip)
  all_goals (first | (fail_if_success refine goB 16 ?_) | (
  refine goB 16 ?_
  all_goals (refine WC.sr ?_)
  all_goals (refine Go ?_)
  all_goals (refine goC 17 18 ?_ ?_ <;> first | exact ⟨⟩ | refine Hb.mk fun hb => ?_ | skip)
  all_goals (first | (fail_if_success refine goB 18 ?_) | (
  refine goB 18 ?_
  all_goals (refine WC.seq ?_)
  all_goals (refine WC.sr ?_)
  all_goals (refine Go ?_)
  all_goals (refine WC.sub [(1, _), (2, _), (5, _), (13, _), (58, _)] ⟨rfl, rfl, rfl, rfl, rfl, trivial⟩ ?_)
  all_goals (refine goC 19 20 ?_ ?_ <;> first | exact ⟨⟩ | refine Hb.mk fun hb => ?_ | skip)
  all_goals (first | (fail_if_success refine goB 19 ?_) | (
  refine goB 19 ?_
  all_goals (refine WC.skip ?_)
  skip))
  all_goals (first | (fail_if_success refine goB 20 ?_) | (
  refine goB 20 ?_
  all_goals (refine WC.region ?_)
  all_goals (refine Go ?_)
  skip))
  all_goals (refine Gn ?_)
  all_goals (refine goC 21 22 ?_ ?_ <;> first | exact ⟨⟩ | refine Hb.mk fun hb => ?_ | skip)
  all_goals (first | (fail_if_success refine goB 22 ?_) | (
  refine goB 22 ?_
  all_goals (refine WC.skip ?_)
  skip))
  skip))
  skip))
  skip))
  skip))
  skip))
  skip))
  skip))
  skip))
  all_goals (refine Gn ?_)
  all_goals (refine WC.sr ?_)
  all_goals (refine Go ?_)
  all_goals (refine WL.step (ok_load (fun w => Tryz.isAgg5 w) rfl (by first | assumption | exact cell_blk (by assumption) rfl)) rfl rfl rfl ?_)
  all_goals (refine Go ?_)
  all_goals (refine WL.step (ok_buildF (vs := [_, _]) (cs := [_, _]) (fun | [a0, a1] => [a0, a1] | _ => []) rfl rfl (by kernel_rfl)) rfl rfl rfl ?_)
  all_goals (refine WL.stepR0 (okE_storeW (fun w => Tryz.sizeOf85 w) rfl rfl rfl (by assumption) rfl (by simp [Value.oneCell'])) rfl rfl ?_
             rintro _ h1 ⟨hb1, hx1⟩)
  all_goals (refine Go ?_)
  all_goals (refine WC.sub [(2, _), (3, _)] ⟨rfl, rfl, trivial⟩ ?_)
  all_goals (refine WC.ret ?_)
  all_goals (repeat' (with_reducible first | refine thenP_r ?_ | refine blockP_r ?_))
  all_goals (refine retP_2 _ _ ⟨⟨_, rfl, ld_blk (fun w => Tryz.isAgg85 w) (fun w => Tryz.sizeOf85 w) hb4 rfl⟩, rfl, trivial⟩ ?_)
  all_goals (exact ⟨_, rfl, hne, (hX2.trans hx3).trans' hx4 (fun q hq e => by have := hx1.size; omega)⟩)
/-- What a call of Encode gives. -/
def EncR (b : Bk) (h : Heap) (u : Value) (h' : Heap) : Prop := (∃ k v e L, u = .tuple ⟨[.agg ⟨[.int .u8 k, v]⟩, In e]⟩ ∧ Own h' v 5 1 L.length (bys L) ∧ ((b.may ∧ e = 0 ∧ k = b.kind ∧ L = encBk b) ∨ (¬ b.may ∧ e ≠ 0))) ∧ Ext No h h'
theorem encR_yes {b : Bk} {h h' : Heap} {u : Value} {k : Int} (hm : b.may) (hk : b.kind = k) : (∃ v', u = .tuple ⟨[.agg ⟨[.int .u8 k, v']⟩, In 0]⟩ ∧ Own h' v' 5 1 (encBk b).length (bys (encBk b)) ∧ Ext No h h') → EncR b h u h' :=
  fun ⟨v, a, o, x⟩ => ⟨⟨_, v, 0, _, a, o, .inl ⟨hm, rfl, hk.symm, rfl⟩⟩, x⟩
theorem encR_no {b : Bk} {h h' : Heap} {u : Value} (hm : ¬ b.may) : (∃ e, u = .tuple ⟨[.agg ⟨[.int .u8 0, nilV]⟩, In e]⟩ ∧ e ≠ 0 ∧ Ext No h h') → EncR b h u h' :=
  fun ⟨e, a, o, x⟩ => ⟨⟨0, nilV, e, [], a, Own.nil _ _ _, .inr ⟨hm, o⟩⟩, x⟩
theorem encodeA_back {h : Heap} (b : Bk) (hb : b.ok h) (hw : b.wf) (hmd : b.mid) : CallsH Tryz.prog 53 ⟨[.agg ⟨b.cells⟩]⟩ h (EncR b h) := by
  by_cases hm : b.may
  · rcases (may_kind hw.kind).1 hm.kind with k | k | k | k | k | k | k | k | k | k | k | k | k | k | k | k
    · exact (encP_82 b hb hw hmd hm k).mono fun _ _ => encR_yes hm k
    · exact (encP_83 b hb hw hmd hm k).mono fun _ _ => encR_yes hm k
    · exact (encP_75 b hb hw hmd hm k).mono fun _ _ => encR_yes hm k
    · exact (encP_90 b hb hw hmd hm k).mono fun _ _ => encR_yes hm k
    · exact (encP_0 b hb hw hmd hm (by omega)).mono fun _ _ => encR_yes hm rfl
    · exact (encP_0 b hb hw hmd hm (by omega)).mono fun _ _ => encR_yes hm rfl
    · exact (encP_0 b hb hw hmd hm (by omega)).mono fun _ _ => encR_yes hm rfl
    · exact (encP_0 b hb hw hmd hm (by omega)).mono fun _ _ => encR_yes hm rfl
    · exact (encP_0 b hb hw hmd hm (by omega)).mono fun _ _ => encR_yes hm rfl
    · exact (encP_0 b hb hw hmd hm (by omega)).mono fun _ _ => encR_yes hm rfl
    · exact (encP_67 b hb hw hmd hm k).mono fun _ _ => encR_yes hm k
    · exact (encP_68 b hb hw hmd hm k).mono fun _ _ => encR_yes hm k
    · exact (encP_84 b hb hw hmd hm k).mono fun _ _ => encR_yes hm k
    · exact (encP_116 b hb hw hmd hm k).mono fun _ _ => encR_yes hm k
    · exact (encP_69 b hb hw hmd hm k).mono fun _ _ => encR_yes hm k
    · exact (encP_78 b hb hw hmd hm k).mono fun _ _ => encR_yes hm k
  · exact (encN_back b hb hw hmd hm).mono fun _ _ => encR_no hm
theorem encodeA07 {h : Heap} (b : Bk) (hb : b.ok h) (hw : b.wf) (hmd : b.mid) : CallsH Tryz.prog 55 ⟨[.agg ⟨b.cells⟩]⟩ h (EncR b h) := by
  by_cases hm : b.may
  · rcases (may_kind hw.kind).1 hm.kind with k | k | k | k | k | k | k | k | k | k | k | k | k | k | k | k
    · exact (encQ_82 b hb hw hmd hm k).mono fun _ _ => encR_yes hm k
    · exact (encQ_83 b hb hw hmd hm k).mono fun _ _ => encR_yes hm k
    · exact (encQ_75 b hb hw hmd hm k).mono fun _ _ => encR_yes hm k
    · exact (encQ_90 b hb hw hmd hm k).mono fun _ _ => encR_yes hm k
    · exact (encQ_0 b hb hw hmd hm (by omega)).mono fun _ _ => encR_yes hm rfl
    · exact (encQ_0 b hb hw hmd hm (by omega)).mono fun _ _ => encR_yes hm rfl
    · exact (encQ_0 b hb hw hmd hm (by omega)).mono fun _ _ => encR_yes hm rfl
    · exact (encQ_0 b hb hw hmd hm (by omega)).mono fun _ _ => encR_yes hm rfl
    · exact (encQ_0 b hb hw hmd hm (by omega)).mono fun _ _ => encR_yes hm rfl
    · exact (encQ_0 b hb hw hmd hm (by omega)).mono fun _ _ => encR_yes hm rfl
    · exact (encQ_67 b hb hw hmd hm k).mono fun _ _ => encR_yes hm k
    · exact (encQ_68 b hb hw hmd hm k).mono fun _ _ => encR_yes hm k
    · exact (encQ_84 b hb hw hmd hm k).mono fun _ _ => encR_yes hm k
    · exact (encQ_116 b hb hw hmd hm k).mono fun _ _ => encR_yes hm k
    · exact (encQ_69 b hb hw hmd hm k).mono fun _ _ => encR_yes hm k
    · exact (encQ_78 b hb hw hmd hm k).mono fun _ _ => encR_yes hm k
  · exact (encN_07 b hb hw hmd hm).mono fun _ _ => encR_no hm
/-- The bytes of one reply. -/
def BysR (b : Bk) (h : Heap) (u : Value) (h' : Heap) : Prop := ∃ L, Own h' u 5 1 L.length (bys L) ∧ (b.may → L = frB b.kind (encBk b)) ∧ (¬ b.may → L = []) ∧ Ext No h h'
set_option maxHeartbeats 4000000 in
set_option maxRecDepth 100000 in
theorem bytesA_back {h : Heap} {p : Nat} (b : Bk) (hb0 : h[p]? = some (.cells ⟨b.cells⟩ 32 (0, 0))) (hb : b.ok h) (hw : b.wf) (hmd : b.mid) :
    CallsH Tryz.prog 34 ⟨[.slice (some ⟨p, 0, none⟩) 1 1]⟩ h (BysR b h) := by
  have ke := fun h' (hx : Ext No h h') => encodeA_back b (hb.ext0 hx) hw hmd
  have hel := encBk_len hmd
  have hkk : b.may → 0 < b.kind ∧ b.kind ≤ 255 := fun z => ⟨by have := (may_kind hw.kind).1 z.kind; unfold KnownK at this; omega, hw.kind.2⟩
  have hone : ∀ v ∈ b.cells, v.oneCell' = true := by
    obtain ⟨_, _, e1, _⟩ := hb.1.1
    obtain ⟨_, _, e2, _⟩ := hb.2.1
    obtain ⟨_, _, e3, _⟩ := hb.3.1
    obtain ⟨_, _, e4, _⟩ := hb.4.1
    simp [Bk.cells, Value.oneCell', e1, e2, e3, e4]
  refine calls [(0, _)] Tryz.func34 rfl Tryz.ntmps34 rfl ⟨rfl, trivial⟩ ?_
  all_goals (refine WC.sr ?_)
  all_goals (refine Go ?_)
  all_goals (refine WC.sr ?_)
  all_goals (refine Go ?_)
  all_goals (refine WC.seq ?_)
  all_goals (refine WC.sr ?_)
  all_goals (refine Go ?_)
  all_goals (refine WC.block ?_)
  -- loop 0: slots that turn [3, 10], that stay [8, 9]
  all_goals (refine WC.loopG (X := Nat × Value) (fun x => ([(10, In (x.1 : Int)), (3, x.2)] : Fr)) [(8, _), (9, _)] (fun y h' => Ext No h h' ∧ ((y.1 = 0 ∧ y.2 = nilV) ∨ (y.1 = 1 ∧ BysR b h y.2 h'))) (fun y => 1 - y.1) ((0, nilV)) ⟨rfl, rfl, rfl, rfl, trivial⟩ (by exact ⟨.refl _ _, .inl ⟨rfl, rfl⟩⟩) ?_)
  all_goals (rintro ⟨k, w⟩ h1 ⟨hx1, hI⟩
             dsimp only at hI)
  all_goals (refine WC.sub [(3, _), (10, _), (8, _), (9, _)] ⟨rfl, rfl, rfl, rfl, trivial⟩ ?_)
  all_goals (dsimp only)
  all_goals (refine WC.sr ?_)
  all_goals (refine Go ?_)
  all_goals (refine WC.seq ?_)
  all_goals (refine goC 1 2 ?_ ?_ <;> first | exact ⟨⟩ | refine Hb.mk fun hb => ?_ | skip)
  all_goals (first | (fail_if_success refine goB 1 ?_) | (
  refine goB 1 ?_
  all_goals (refine WC.skip ?_)
  skip))
  all_goals (first | (fail_if_success refine goB 2 ?_) | (
  refine goB 2 ?_
  all_goals (refine WC.exit ?_)
  all_goals (repeat' (with_reducible first | refine thenP_x ?_ | refine blockP_miss rfl ?_ | refine blockP_hit ?_ | refine blockP_n ?_ | refine thenP_n ?_))
  all_goals (refine Br.out (i := 1000) ?_)
  skip))
  all_goals (refine Gn ?_)
  all_goals (first | (refine Br.keep ?_) | (refine WC.seq ?_))
  all_goals (first | (refine Br.keep ?_) | (refine WC.block ?_))
  all_goals (first | (refine Br.keep ?_) | (refine WC.sr ?_))
  all_goals (first | (refine Br.keep ?_) | (obtain ⟨rfl, rfl⟩ : k = 0 ∧ w = nilV := by rcases hI with h | ⟨h, _⟩; exact h; exfalso; omega))
  all_goals (first | (refine Br.keep ?_) | (refine WL.step (ok_idxAddrA Tryz.underlying71 (fun w => Tryz.sizeOf32 w) rfl rfl rfl (by omega) (by first | rfl | assumption)) rfl rfl rfl ?_))
  all_goals (first | (refine Br.keep ?_) | (refine WL.step (ok_loadN (fun w => Tryz.isAgg32 w) (fun w => Tryz.sizeOf32 w) rfl rfl (by exact show At _ _ 0 b.cells from At.of_block (hx1.obj hb0 nos))) rfl rfl rfl ?_))
  all_goals (first
               | (refine Br.keep ?_)
               | (refine WL.stepR (okE_alloc (fun w => Tryz.zeroValue32 w)) rfl rfl rfl ?_
                  rintro _ h2 ⟨b2, rfl, hg2, hb2, hx2⟩))
  all_goals (first
               | (refine Br.keep ?_)
               | (refine WL.stepR0 (okE_storeW (fun w => Tryz.sizeOf32 w) rfl rfl rfl hb2 rfl hone) rfl rfl ?_
                  rintro _ h3 ⟨hb3, hx3⟩))
  all_goals (first | (refine Br.keep ?_) | (have hX3 := hx1.trans (hx2.trans' hx3 (fun q hq e => by omega))))
  all_goals (refine Gn ?_)
  all_goals (first | (refine Br.keep ?_) | (refine WC.sr ?_))
  all_goals (first | (refine Br.keep ?_) | (refine WL.step (ok_loadN (fun w => Tryz.isAgg32 w) (fun w => Tryz.sizeOf32 w) rfl rfl (by exact At.of_block hb3)) rfl rfl rfl ?_))
  all_goals (first
               | (refine Br.keep ?_)
               | (refine WL.call (vs := [_]) rfl (fun a w => Tryz.call53 a w) rfl (ke _ hX3) rfl rfl rfl ?_
                  rintro _ h4 ⟨⟨k4, v4, e4, L4, rfl, ho4, hcase⟩, hx4⟩
                  obtain ⟨A4, c4, rfl, _⟩ := id ho4.slice))
  all_goals (refine Go ?_)
  all_goals (first
               | (refine Br.keep ?_)
               | (refine WL.stepR (okE_alloc (fun w => Tryz.zeroValue85 w)) rfl rfl rfl ?_
                  rintro _ h5 ⟨b6, rfl, hg6, hb6, hx5⟩))
  all_goals (first
               | (refine Br.keep ?_)
               | (refine WL.stepR0 (okE_storeW (fun w => Tryz.sizeOf85 w) rfl rfl rfl hb6 rfl (by simp [Value.oneCell'])) rfl rfl ?_
                  rintro _ h6 ⟨hb66, hx6⟩))
  all_goals (first
               | (refine Br.keep ?_)
               | (have hX46 : Ext No h4 h6 := hx5.trans' hx6 (fun q hq e => by omega)
                  have ho6 := ho4.ext hX46 (fun _ _ => nos)
                  have hX6 := (hX3.trans hx4).trans hX46
                  rcases hcase with ⟨hm, rfl, rfl, rfl⟩ | ⟨hm, hne⟩))
  all_goals (refine Go ?_)
  all_goals (first | (refine Br.keep ?_) | (refine WC.sub [(3, _), (6, _), (7, _), (8, _), (9, _), (10, _)] ⟨rfl, rfl, rfl, rfl, rfl, rfl, trivial⟩ ?_))
  all_goals (first | (refine Br.keep ?_) | (refine WC.seq ?_))
  all_goals (first | (refine Br.keep ?_) | (refine WC.sr ?_))
  all_goals (refine Go ?_)
  all_goals (first | (refine Br.keep ?_) | (refine goC 3 4 ?_ ?_ <;> first | exact ⟨⟩ | refine Hb.mk fun hb => ?_ | skip))
  all_goals (first | (fail_if_success refine goB 3 ?_) | (
  refine goB 3 ?_
  all_goals (refine WC.exit ?_)
  all_goals (repeat' (with_reducible first | refine thenP_x ?_ | refine blockP_miss rfl ?_ | refine blockP_hit ?_ | refine blockP_n ?_ | refine thenP_n ?_))
  all_goals (refine Br.out (i := 1001) ?_)
  skip))
  all_goals (first | (fail_if_success refine goB 4 ?_) | (
  refine goB 4 ?_
  all_goals (refine WC.skip ?_)
  skip))
  all_goals (refine Gn ?_)
  all_goals (first | (refine Br.keep ?_) | (refine WC.region ?_))
  all_goals (refine Go ?_)
  all_goals (first | (refine Br.keep ?_) | (refine WL.step (ok_loadN (fun w => Tryz.isAgg85 w) (fun w => Tryz.sizeOf85 w) rfl rfl (by exact At.of_block hb66)) rfl rfl rfl ?_))
  all_goals (first
               | (refine Br.keep ?_)
               | (refine WL.call (vs := [_]) rfl (fun a w => Tryz.call54 a w) rfl (frame_v _ (hkk hm) _ ho6.rd (by omega)) rfl rfl rfl ?_
                  rintro v7 h7 ⟨ho7, hx7⟩
                  have hL7 : (frB b.kind (encBk b)).length ≤ 200000000 := by unfold frB; simp only [List.length_append, List.length_cons, List.length_nil, be_len]; omega
                  obtain ⟨A7, c7, rfl, _⟩ := id ho7.slice))
  all_goals (first
               | (refine Br.keep ?_)
               | (refine WL.stepR (ok_append (sz := 1) (bytes := 1) rfl Tryz.underlying24 (show Tryz.prog.info? 5 = some Tryz.t5 by kernel_rfl) rfl rfl rfl rfl (by decide) rfl rfl (Own.nil _ 5 1) ho7.rd (by intro c hc; obtain ⟨b, _, rfl⟩ := List.mem_map.1 hc; rfl) (by simp only [maxLen]; omega) (by omega)) rfl rfl rfl ?_
                  rintro v8 h8 ⟨ho8, hx8, hl8⟩))
  all_goals (first | (refine Br.keep ?_) | (have hX8 := (hX6.trans hx7).trans (hx8.mono fun _ _ e => by simp [Value.ownBlock] at e)))
  all_goals (refine Go ?_)
  all_goals (try (refine Br.mk (i := 1001) ?_))
  all_goals (refine Gn ?_)
  all_goals (first | (refine Br.keep ?_) | (refine WC.sub [(3, _), (8, _), (9, _), (10, _)] ⟨rfl, rfl, rfl, rfl, trivial⟩ ?_))
  all_goals (first | (refine Br.keep ?_) | (refine WC.region ?_))
  all_goals (refine Go ?_)
  all_goals (first | (refine Br.keep ?_) | (exact ⟨(0 + 1, _), ⟨rfl, rfl, rfl, rfl, trivial⟩, (by first | exact ⟨hX8, .inr ⟨rfl, _, by simpa using ho8, fun _ => rfl, fun z => absurd hm z, hX8⟩⟩ | exact ⟨hX6, .inr ⟨rfl, [], Own.nil _ _ _, fun z => absurd z hm, fun _ => rfl, hX6⟩⟩), (by first | omega | (dsimp only; omega) | simp)⟩))
  all_goals (try (refine Br.mk (i := 1000) ?_))
  all_goals (refine Gn ?_)
  all_goals (refine WC.sub [(3, _)] ⟨rfl, trivial⟩ ?_)
  all_goals (refine WC.sr ?_)
  all_goals (refine Go ?_)
  all_goals (refine WC.ret ?_)
  all_goals (repeat' (with_reducible first | refine thenP_r ?_ | refine blockP_r ?_))
  all_goals (refine retP_1 _ ⟨rfl, trivial⟩ ?_)
  all_goals (rcases hI with ⟨h, _⟩ | ⟨_, hB⟩
             · exfalso; omega
             · exact hB)
set_option maxHeartbeats 4000000 in
set_option maxRecDepth 100000 in
theorem bytesA07 {h : Heap} {p : Nat} (b : Bk) (hb0 : h[p]? = some (.cells ⟨b.cells⟩ 32 (0, 0))) (hb : b.ok h) (hw : b.wf) (hmd : b.mid) :
    CallsH Tryz.prog 35 ⟨[.slice (some ⟨p, 0, none⟩) 1 1]⟩ h (BysR b h) := by
  have ke := fun h' (hx : Ext No h h') => encodeA07 b (hb.ext0 hx) hw hmd
  have hel := encBk_len hmd
  have hkk : b.may → 0 < b.kind ∧ b.kind ≤ 255 := fun z => ⟨by have := (may_kind hw.kind).1 z.kind; unfold KnownK at this; omega, hw.kind.2⟩
  refine calls [(0, _)] Tryz.func35 rfl Tryz.ntmps35 rfl ⟨rfl, trivial⟩ ?_
  all_goals (refine WC.sr ?_)
  all_goals (refine Go ?_)
  all_goals (refine WC.sr ?_)
  all_goals (refine Go ?_)
  all_goals (refine WC.seq ?_)
  all_goals (refine WC.sr ?_)
  all_goals (refine Go ?_)
  all_goals (refine WC.block ?_)
  -- loop 0: slots that turn [3, 4], that stay [0]
  all_goals (refine WC.loopG (X := Nat × Value) (fun x => ([(4, In (x.1 : Int)), (3, x.2)] : Fr)) [(0, _)] (fun y h' => Ext No h h' ∧ ((y.1 = 0 ∧ y.2 = nilV) ∨ (y.1 = 1 ∧ BysR b h y.2 h'))) (fun y => 1 - y.1) ((0, nilV)) ⟨rfl, rfl, rfl, trivial⟩ (by exact ⟨.refl _ _, .inl ⟨rfl, rfl⟩⟩) ?_)
  all_goals (rintro ⟨k, w⟩ h1 ⟨hx1, hI⟩
             dsimp only at hI)
  all_goals (refine WC.sub [(3, _), (4, _), (0, _)] ⟨rfl, rfl, rfl, trivial⟩ ?_)
  all_goals (dsimp only)
  all_goals (refine WC.seq ?_)
  all_goals (refine WC.sr ?_)
  all_goals (refine Go ?_)
  all_goals (refine goC 1 2 ?_ ?_ <;> first | exact ⟨⟩ | refine Hb.mk fun hb => ?_ | skip)
  all_goals (first | (fail_if_success refine goB 1 ?_) | (
  refine goB 1 ?_
  all_goals (refine WC.skip ?_)
  skip))
  all_goals (first | (fail_if_success refine goB 2 ?_) | (
  refine goB 2 ?_
  all_goals (refine WC.exit ?_)
  all_goals (repeat' (with_reducible first | refine thenP_x ?_ | refine blockP_miss rfl ?_ | refine blockP_hit ?_ | refine blockP_n ?_ | refine thenP_n ?_))
  all_goals (refine Br.out (i := 1000) ?_)
  skip))
  all_goals (refine Gn ?_)
  all_goals (first | (refine Br.keep ?_) | (refine WC.sub [(0, _), (3, _), (4, _)] ⟨rfl, rfl, rfl, trivial⟩ ?_))
  all_goals (first | (refine Br.keep ?_) | (refine WC.seq ?_))
  all_goals (first | (refine Br.keep ?_) | (refine WC.block ?_))
  all_goals (first | (refine Br.keep ?_) | (refine WC.sr ?_))
  all_goals (first | (refine Br.keep ?_) | (obtain ⟨rfl, rfl⟩ : k = 0 ∧ w = nilV := by rcases hI with h | ⟨h, _⟩; exact h; exfalso; omega))
  all_goals (first | (refine Br.keep ?_) | (refine WL.step (ok_move rfl) rfl rfl rfl ?_))
  all_goals (refine Go ?_)
  all_goals (first | (refine Br.keep ?_) | (refine WL.step (ok_idxAddrA Tryz.underlying71 (fun w => Tryz.sizeOf32 w) rfl rfl rfl (by omega) (by first | rfl | assumption)) rfl rfl rfl ?_))
  all_goals (first | (refine Br.keep ?_) | (refine WL.step (ok_loadN (fun w => Tryz.isAgg32 w) (fun w => Tryz.sizeOf32 w) rfl rfl (by exact show At _ _ 0 b.cells from At.of_block (hx1.obj hb0 nos))) rfl rfl rfl ?_))
  all_goals (first
               | (refine Br.keep ?_)
               | (refine WL.call (vs := [_]) rfl (fun a w => Tryz.call55 a w) rfl (ke _ hx1) rfl rfl rfl ?_
                  rintro _ h4 ⟨⟨k4, v4, e4, L4, rfl, ho4, hcase⟩, hx4⟩
                  obtain ⟨A4, c4, rfl, _⟩ := id ho4.slice))
  all_goals (refine Go ?_)
  all_goals (first
               | (refine Br.keep ?_)
               | (refine WL.stepR (okE_alloc (fun w => Tryz.zeroValue85 w)) rfl rfl rfl ?_
                  rintro _ h5 ⟨b6, rfl, hg6, hb6, hx5⟩))
  all_goals (first
               | (refine Br.keep ?_)
               | (refine WL.stepR0 (okE_storeW (fun w => Tryz.sizeOf85 w) rfl rfl rfl hb6 rfl (by simp [Value.oneCell'])) rfl rfl ?_
                  rintro _ h6 ⟨hb66, hx6⟩))
  all_goals (first
               | (refine Br.keep ?_)
               | (have hX46 : Ext No h4 h6 := hx5.trans' hx6 (fun q hq e => by omega)
                  have ho6 := ho4.ext hX46 (fun _ _ => nos)
                  have hX6 := (hx1.trans hx4).trans hX46
                  rcases hcase with ⟨hm, rfl, rfl, rfl⟩ | ⟨hm, hne⟩))
  all_goals (refine Go ?_)
  all_goals (first | (refine Br.keep ?_) | (refine WC.sub [(0, _), (3, _), (4, _), (5, _), (6, _)] ⟨rfl, rfl, rfl, rfl, rfl, trivial⟩ ?_))
  all_goals (first | (refine Br.keep ?_) | (refine WC.sr ?_))
  all_goals (refine Go ?_)
  all_goals (first | (refine Br.keep ?_) | (refine goC 3 4 ?_ ?_ <;> first | exact ⟨⟩ | refine Hb.mk fun hb => ?_ | skip))
  all_goals (first | (fail_if_success refine goB 3 ?_) | (
  refine goB 3 ?_
  all_goals (refine WC.region ?_)
  all_goals (refine Go ?_)
  all_goals (refine WL.step (ok_loadN (fun w => Tryz.isAgg85 w) (fun w => Tryz.sizeOf85 w) rfl rfl (by exact At.of_block hb66)) rfl rfl rfl ?_)
  all_goals (refine WL.call (vs := [_]) rfl (fun a w => Tryz.call56 a w) rfl (frame04 _ (hkk hm) _ ho6.rd (by omega)) rfl rfl rfl ?_
             rintro v7 h7 ⟨ho7, hx7⟩
             have hL7 : (frB b.kind (encBk b)).length ≤ 200000000 := by unfold frB; simp only [List.length_append, List.length_cons, List.length_nil, be_len]; omega
             obtain ⟨A7, c7, rfl, _⟩ := id ho7.slice)
  all_goals (refine WL.stepR (ok_append (sz := 1) (bytes := 1) rfl Tryz.underlying24 (show Tryz.prog.info? 5 = some Tryz.t5 by kernel_rfl) rfl rfl rfl rfl (by decide) rfl rfl (Own.nil _ 5 1) ho7.rd (by intro c hc; obtain ⟨b, _, rfl⟩ := List.mem_map.1 hc; rfl) (by simp only [maxLen]; omega) (by omega)) rfl rfl rfl ?_
             rintro v8 h8 ⟨ho8, hx8, hl8⟩)
  all_goals (have hX8 := (hX6.trans hx7).trans (hx8.mono fun _ _ e => by simp [Value.ownBlock] at e))
  all_goals (refine Go ?_)
  skip))
  all_goals (first | (fail_if_success refine goB 4 ?_) | (
  refine goB 4 ?_
  all_goals (refine WC.skip ?_)
  skip))
  all_goals (refine Gn ?_)
  all_goals (first | (refine Br.keep ?_) | (refine WC.sub [(0, _), (3, _), (4, _)] ⟨rfl, rfl, rfl, trivial⟩ ?_))
  all_goals (first | (refine Br.keep ?_) | (refine WC.region ?_))
  all_goals (refine Go ?_)
  all_goals (first | (refine Br.keep ?_) | (exact ⟨(0 + 1, _), ⟨rfl, rfl, rfl, trivial⟩, (by first | exact ⟨hX8, .inr ⟨rfl, _, by simpa using ho8, fun _ => rfl, fun z => absurd hm z, hX8⟩⟩ | exact ⟨hX6, .inr ⟨rfl, [], Own.nil _ _ _, fun z => absurd z hm, fun _ => rfl, hX6⟩⟩), (by first | omega | (dsimp only; omega) | simp)⟩))
  all_goals (try (refine Br.mk (i := 1000) ?_))
  all_goals (refine Gn ?_)
  all_goals (refine WC.sub [(3, _)] ⟨rfl, trivial⟩ ?_)
  all_goals (refine WC.sr ?_)
  all_goals (refine Go ?_)
  all_goals (refine WC.ret ?_)
  all_goals (repeat' (with_reducible first | refine thenP_r ?_ | refine blockP_r ?_))
  all_goals (refine retP_1 _ ⟨rfl, trivial⟩ ?_)
  all_goals (rcases hI with ⟨h, _⟩ | ⟨_, hB⟩
             · exfalso; omega
             · exact hB)
end Go.Proofs.YtbahigffjclpdaaGreatDoor


/-
  FIX (layer 25): the document's Back; what is told is not long.
-/
namespace Go.Proofs.YtbahigffjclpdaaGreatDoor
open Go Go.RK

/-! ### in plain Lean -/
theorem replace_len (s old new : List UInt8) (ho : 1 ≤ old.length) : (Lib.replace s old new 1).length ≤ s.length + new.length := by
  rcases Lib.index_spec s old with ⟨h1, _⟩ | ⟨i, h1, h2, h3, _⟩
  · rw [replace_miss h1]; omega
  · have := Lib.index_room s old (by omega)
    rw [replace_hit ho h1]; simp; omega
theorem renL_len (c x f t : List UInt8) : (renL c x f t).length ≤ x.length + t.length + 100 := by
  have m1 := miss_len t
  have m2 := exis_len t
  have m3 := need_len t
  have m4 := need_len f
  have m5 := replace_len x (needL f) (needL t) (by omega)
  unfold renL swapL
  repeat' split
  all_goals omega
theorem withF_mem {c : Int} {t : List UInt8} {F : List FieldD} {g : FieldD} (h : g ∈ withF c t F) : g ∈ F ∨ g = ⟨c, t⟩ := by
  unfold withF at h
  split at h
  · exact .inl h
  · exact List.mem_or_eq_of_mem_set h
theorem getT_mem' {c : Int} {F : List FieldD} {x : List UInt8} (h : getT c F = some x) : ∃ f ∈ F, f.t = x := by
  unfold getT at h
  obtain ⟨f, hf, rfl⟩ := Option.map_eq_some_iff.1 h
  exact ⟨f, List.mem_of_find?_eq_some hf, rfl⟩
theorem fixF_mem {k : Int} {f t : List UInt8} {F : List FieldD} {n : Nat} (hF : ∀ g ∈ F, g.t.length ≤ n) {g : FieldD} (h : g ∈ fixF k f t F) : g.t.length ≤ n + t.length + 100 ∧ (g ∈ F ∨ g.k = 77) := by
  have hd : g ∈ F → g.t.length ≤ n + t.length + 100 ∧ (g ∈ F ∨ g.k = 77) := fun h => ⟨by have := hF g h; omega, .inl h⟩
  unfold fixF renF at h
  split at h
  · split at h
    · rename_i c x hc hx
      rcases withF_mem h with q | rfl
      · exact hd q
      · obtain ⟨y, hy, rfl⟩ := getT_mem' hx
        have := hF y hy
        have := renL_len c y.t f t
        exact ⟨by show (renL c y.t f t).length ≤ _; omega, .inr rfl⟩
    · exact hd h
  · exact hd h
theorem pl_of {a b : Bk} (e : a.pl = b.pl) : a.kind = b.kind ∧ a.status = b.status ∧ a.tag = b.tag ∧ a.name = b.name ∧ a.value = b.value ∧ a.n = b.n ∧ a.m = b.m ∧ a.oids = b.oids ∧ a.cols = b.cols ∧ a.row.map Cel.pl = b.row.map Cel.pl ∧ a.fields = b.fields := by
  simpa only [Bk.pl, Prod.mk.injEq] using e
theorem pl_row {a b : List Cel} (e : a.map Cel.pl = b.map Cel.pl) {n : Nat} (h : ∀ c ∈ b, c.bytes.length ≤ n) : ∀ c ∈ a, c.bytes.length ≤ n := fun c hc => by
  have : c.pl ∈ b.map Cel.pl := e ▸ List.mem_map_of_mem hc
  obtain ⟨d, hd, hp⟩ := List.mem_map.1 this
  have := h d hd
  have : d.bytes = c.bytes := congrArg Prod.snd hp
  rw [← this]; assumption
theorem mid_fix {b b' : Bk} {f t : List UInt8} (hf : b.few) (hw : b.wf) (ht : t.length ≤ 1000) (e : b'.pl = { b with fields := fixF b.kind f t b.fields }.pl) : b'.mid ∧ b'.wf := by
  obtain ⟨e1, e2, e3, e4, e5, e6, e7, e8, e9, e10, e11⟩ := pl_of e
  dsimp only at e1 e2 e3 e4 e5 e6 e7 e8 e9 e10 e11
  have hlen : b'.row.length = b.row.length := by have := congrArg List.length e10; simpa using this
  constructor
  · exact ⟨by rw [e8]; have := hf.1; omega, by rw [e9]; have := hf.2; omega, by rw [hlen]; have := hf.3; omega, by rw [e11, fixF_len]; have := hf.4; omega, fun c hc => by rw [e9] at hc; have := hf.names c hc; omega, fun c hc => by have := pl_row e10 hf.cells c hc; omega, fun g hg => by rw [e11] at hg; have := (fixF_mem hf.texts hg).1; omega, by rw [e3]; have := hf.tag; omega, by rw [e4]; have := hf.name; omega, by rw [e5]; have := hf.value; omega⟩
  · exact ⟨by rw [e1]; exact hw.1, by rw [e2]; exact hw.2, fun g hg => by rw [e11] at hg; rcases (fixF_mem hf.texts hg).2 with q | q; exact hw.3 g q; omega⟩
theorem okB_row {a b : List Cel} (e : a.map Cel.pl = b.map Cel.pl) : a.flatMap encCel = b.flatMap encCel := by
  induction a generalizing b with
  | nil => cases b with
    | nil => rfl
    | cons => simp at e
  | cons x a ih => cases b with
    | nil => simp at e
    | cons y b =>
      rw [List.map_cons, List.map_cons, List.cons.injEq] at e
      have e1 : x.null = y.null := congrArg Prod.fst e.1
      have e2 : x.bytes = y.bytes := congrArg Prod.snd e.1
      rw [List.flatMap_cons, List.flatMap_cons, ih e.2]
      unfold encCel
      rw [e1, e2]
theorem enc_pl {a b : Bk} (e : a.pl = b.pl) : encBk a = encBk b := by
  obtain ⟨e1, e2, e3, e4, e5, e6, e7, e8, e9, e10, e11⟩ := pl_of e
  have hlen : a.row.length = b.row.length := by have := congrArg List.length e10; simpa using this
  unfold encBk
  rw [e1, e2, e3, e4, e5, e6, e7, e8, e9, e11, okB_row e10, hlen]

set_option maxHeartbeats 2000000 in
set_option maxRecDepth 100000 in
/-! ### the document's -/
theorem get08 {h : Heap} {v : Value} (F : List FieldD) (c : Int) (hr : Rd h v 2 F.length (F.flatMap FieldD.cells)) (hm : F.length ≤ 1000000) : CallsH Tryz.prog 31 ⟨[v, .int .u8 c]⟩ h fun u h' => u = .tuple ⟨[St ((getT c F).getD []), .bool (getT c F).isSome]⟩ ∧ Ext No h h' := by
  obtain ⟨A, cc, rfl, _⟩ := id hr
  refine calls [(0, _), (1, _)] Tryz.func31 rfl Tryz.ntmps31 rfl ⟨rfl, rfl, trivial⟩ ?_
  all_goals (refine WC.sr ?_)
  all_goals (refine Go ?_)
  all_goals (refine WC.seq ?_)
  all_goals (refine WC.sr ?_)
  all_goals (refine Go ?_)
  all_goals (refine WC.block ?_)
  -- loop 0: slots that turn [6], that stay [0, 1]
  all_goals (refine WC.loopG (X := Nat) (fun x => ([(6, In (x : Int))] : Fr)) [(0, _), (1, _)] (fun k h' => h' = h ∧ k ≤ F.length ∧ ∀ x ∈ F.take k, atP c x = false) (fun k => F.length - k) (0) ⟨rfl, rfl, rfl, trivial⟩ (by exact ⟨rfl, Nat.zero_le _, by simp⟩) ?_)
  all_goals (rintro k h9 ⟨hz, hk, hn⟩
             subst h9)
  all_goals (refine WC.sub [(6, _), (0, _), (1, _)] ⟨rfl, rfl, rfl, trivial⟩ ?_)
  all_goals (refine WC.seq ?_)
  all_goals (refine WC.sr ?_)
  all_goals (refine Go ?_)
  all_goals (refine goC 1 2 ?_ ?_ <;> first | exact ⟨⟩ | refine Hb.mk fun hb => ?_ | skip)
  all_goals (first | (fail_if_success refine goB 1 ?_) | (
  refine goB 1 ?_
  all_goals (refine WC.skip ?_)
  skip))
  all_goals (first | (fail_if_success refine goB 2 ?_) | (
  refine goB 2 ?_
  all_goals (refine WC.exit ?_)
  all_goals (repeat' (with_reducible first | refine thenP_x ?_ | refine blockP_miss rfl ?_ | refine blockP_hit ?_ | refine blockP_n ?_ | refine thenP_n ?_))
  all_goals (refine Br.out (i := 1000) ?_)
  skip))
  all_goals (refine Gn ?_)
  all_goals (first | (refine Br.keep ?_) | (refine WC.sub [(0, _), (1, _), (6, _)] ⟨rfl, rfl, rfl, trivial⟩ ?_))
  all_goals (first | (refine Br.keep ?_) | (refine WC.seq ?_))
  all_goals (first | (refine Br.keep ?_) | (refine WC.block ?_))
  all_goals (first | (refine Br.keep ?_) | (refine WC.sr ?_))
  all_goals (first
               | (refine Br.keep ?_)
               | (obtain ⟨bL, oL, hA, hbL, hat⟩ := Rd.at_ hr (by omega)
                  obtain ⟨y, hy⟩ : ∃ y, F[k]? = some y := ⟨_, List.getElem?_eq_getElem (by omega)⟩
                  have hc : At h bL (oL + k * 2) [.int .u8 y.k, St y.t] := At.elem FieldD.len hat hy
                  have hyk : y.k = c ∨ y.k ≠ c := by omega
                  rcases hyk with hyk | hyk))
  all_goals (first | (refine Br.keep ?_) | (refine WL.step (ok_move rfl) rfl rfl rfl ?_))
  all_goals (refine Go ?_)
  all_goals (first | (refine Br.keep ?_) | (refine WL.step (ok_idxAddrA Tryz.underlying30 (fun w => Tryz.sizeOf54 w) rfl rfl rfl (by omega) (by first | rfl | assumption)) rfl rfl rfl ?_))
  all_goals (refine Go ?_)
  all_goals (first | (refine Br.keep ?_) | (refine WL.step (ok_load (fun w => Tryz.isAgg5 w) rfl (by first | exact hc.get 0 rfl rfl | assumption | exact cell_blk (by assumption) rfl)) rfl rfl rfl ?_))
  all_goals (refine Go ?_)
  all_goals (first | (refine Br.keep ?_) | (refine WC.sub [(0, _), (1, _), (6, _), (19, _)] ⟨rfl, rfl, rfl, rfl, trivial⟩ ?_))
  all_goals (first | (refine Br.keep ?_) | (refine goC 3 4 ?_ ?_ <;> first | exact ⟨⟩ | refine Hb.mk fun hb => ?_ | skip))
  all_goals (first | (fail_if_success refine goB 3 ?_) | (
  refine goB 3 ?_
  all_goals (refine WC.sr ?_)
  all_goals (refine Go ?_)
  all_goals (refine WL.step (ok_idxAddrA Tryz.underlying30 (fun w => Tryz.sizeOf54 w) rfl rfl rfl (by omega) (by first | rfl | assumption)) rfl rfl rfl ?_)
  all_goals (refine Go ?_)
  all_goals (refine WL.step (ok_load (fun w => Tryz.isAgg9 w) rfl (by first | exact hc.get 1 rfl rfl | assumption | exact cell_blk (by assumption) rfl)) rfl rfl rfl ?_)
  all_goals (refine Go ?_)
  all_goals (refine WC.sub [(4, _), (5, _)] ⟨rfl, rfl, trivial⟩ ?_)
  all_goals (refine WC.ret ?_)
  all_goals (repeat' (with_reducible first | refine thenP_r ?_ | refine blockP_r ?_))
  all_goals (refine retP_2 _ _ ⟨rfl, rfl, trivial⟩ ?_)
  all_goals (first
              | (have hm := getT_at hy (decide_eq_true hyk) hn; exact ⟨by rw [hm]; rfl, .refl _ _⟩)
              | exact ⟨by rw [getT_no (by rw [List.take_of_length_le (by omega)] at hn; exact hn)]; rfl, .refl _ _⟩)
  skip))
  all_goals (first | (fail_if_success refine goB 4 ?_) | (
  refine goB 4 ?_
  all_goals (refine WC.skip ?_)
  skip))
  all_goals (refine Gn ?_)
  all_goals (first | (refine Br.keep ?_) | (refine WC.region ?_))
  all_goals (refine Go ?_)
  all_goals (first | (refine Br.keep ?_) | (exact ⟨k + 1, ⟨rfl, rfl, rfl, trivial⟩, (by exact ⟨rfl, by omega, all_take hy hn (decide_eq_false hyk)⟩), (by omega)⟩))
  all_goals (try (refine Br.mk (i := 1000) ?_))
  all_goals (refine Gn ?_)
  all_goals (refine WC.sub [] trivial ?_)
  all_goals (refine WC.sr ?_)
  all_goals (refine Go ?_)
  all_goals (refine WC.ret ?_)
  all_goals (repeat' (with_reducible first | refine thenP_r ?_ | refine blockP_r ?_))
  all_goals (refine retP_2 _ _ ⟨rfl, rfl, trivial⟩ ?_)
  all_goals (first
              | (have hm := getT_at hy (decide_eq_true hyk) hn; exact ⟨by rw [hm]; rfl, .refl _ _⟩)
              | exact ⟨by rw [getT_no (by rw [List.take_of_length_le (by omega)] at hn; exact hn)]; rfl, .refl _ _⟩)
theorem idxP_hit {α : Type} {p : α → Bool} {F : List α} {k : Nat} {y : α} (h1 : F[k]? = some y) (h2 : p y = true) (h3 : ∀ x ∈ F.take k, p x = false) : idxP p F = (k : Int) := by
  have hk := List.getElem?_eq_some_iff.1 h1
  rcases idxP_cases p F with ⟨e, hno⟩ | ⟨j, z, e, hz, hp, hn⟩
  · rw [hno y (List.mem_of_getElem? h1)] at h2; cases h2
  · have hj := List.getElem?_eq_some_iff.1 hz
    have hj1 := hj.1
    have hk1 := hk.1
    rcases Nat.lt_trichotomy j k with q | q | q
    · have := h3 z (List.mem_take_iff_getElem.2 ⟨j, by omega, hj.2⟩)
      rw [hp] at this; cases this
    · rw [e, q]
    · have := hn y (List.mem_take_iff_getElem.2 ⟨k, by omega, hk.2⟩)
      rw [h2] at this; cases this
set_option maxHeartbeats 2000000 in
set_option maxRecDepth 100000 in
theorem with08 {h : Heap} {v : Value} (F : List FieldD) (c : Int) (t : List UInt8) (hr : Rd h v 2 F.length (F.flatMap FieldD.cells)) (hm : F.length ≤ 1000000) : CallsH Tryz.prog 32 ⟨[v, .int .u8 c, St t]⟩ h fun u h' => Own h' u 54 2 F.length ((withF c t F).flatMap FieldD.cells) ∧ Ext No h h' ∧ ∀ k, u.ownBlock = some k → h.size ≤ k := by
  obtain ⟨A, cc, rfl, _⟩ := id hr
  unfold withF
  refine calls [(0, _), (1, _), (2, _)] Tryz.func32 rfl Tryz.ntmps32 rfl ⟨rfl, rfl, rfl, trivial⟩ ?_
  all_goals (refine WC.sr ?_)
  all_goals (refine Go ?_)
  all_goals (refine WC.sr ?_)
  all_goals (refine Go ?_)
  all_goals (refine WL.stepR (ok_append (sz := 2) (bytes := 24) rfl Tryz.underlying30 (show Tryz.prog.info? 54 = some Tryz.t54 by kernel_rfl) rfl rfl rfl rfl (by decide) rfl rfl (Own.nil _ _ _) hr fld_one (by simp only [maxLen]; omega) (by omega)) rfl rfl rfl ?_
             rintro v1 h1 ⟨ho1, hx1, hl1⟩)
  all_goals (have hf1 : ∀ q, v1.ownBlock = some q → h.size ≤ q := fresh_of hl1 (fun k hk => by simp [Value.ownBlock] at hk) (Nat.le_refl _)
             have hX1 : Ext No h h1 := hx1.mono fun _ _ e => by simp [Value.ownBlock] at e
             have ho1 : Own h1 v1 54 2 F.length (F.flatMap FieldD.cells) := by simpa using ho1
             obtain ⟨A1, c1, rfl, _⟩ := id ho1.slice)
  all_goals (refine Go ?_)
  all_goals (refine WC.sub [(1, _), (2, _), (7, _)] ⟨rfl, rfl, rfl, trivial⟩ ?_)
  all_goals (refine WC.seq ?_)
  all_goals (refine WC.sr ?_)
  all_goals (refine Go ?_)
  all_goals (refine WC.block ?_)
  -- loop 0: slots that turn [8], that stay [1, 2, 7]
  all_goals (refine WC.loopG (X := Nat) (fun x => ([(8, In (x : Int))] : Fr)) [(1, _), (2, _), (7, _)] (fun k h' => h' = h1 ∧ k ≤ F.length ∧ ∀ x ∈ F.take k, atP c x = false) (fun k => F.length - k) (0) ⟨rfl, rfl, rfl, rfl, trivial⟩ (by exact ⟨rfl, Nat.zero_le _, by simp⟩) ?_)
  all_goals (rintro k h9 ⟨hz, hk, hn⟩
             subst h9)
  all_goals (refine WC.sub [(8, _), (1, _), (2, _), (7, _)] ⟨rfl, rfl, rfl, rfl, trivial⟩ ?_)
  all_goals (refine WC.seq ?_)
  all_goals (refine WC.sr ?_)
  all_goals (refine Go ?_)
  all_goals (refine goC 1 2 ?_ ?_ <;> first | exact ⟨⟩ | refine Hb.mk fun hb => ?_ | skip)
  all_goals (first | (fail_if_success refine goB 1 ?_) | (
  refine goB 1 ?_
  all_goals (refine WC.skip ?_)
  skip))
  all_goals (first | (fail_if_success refine goB 2 ?_) | (
  refine goB 2 ?_
  all_goals (refine WC.exit ?_)
  all_goals (repeat' (with_reducible first | refine thenP_x ?_ | refine blockP_miss rfl ?_ | refine blockP_hit ?_ | refine blockP_n ?_ | refine thenP_n ?_))
  all_goals (refine Br.out (i := 1000) ?_)
  skip))
  all_goals (refine Gn ?_)
  all_goals (first | (refine Br.keep ?_) | (refine WC.sub [(1, _), (2, _), (7, _), (8, _)] ⟨rfl, rfl, rfl, rfl, trivial⟩ ?_))
  all_goals (first | (refine Br.keep ?_) | (refine WC.seq ?_))
  all_goals (first | (refine Br.keep ?_) | (refine WC.block ?_))
  all_goals (first | (refine Br.keep ?_) | (refine WC.sr ?_))
  all_goals (first
               | (refine Br.keep ?_)
               | (obtain ⟨y, hy⟩ : ∃ y, F[k]? = some y := ⟨_, List.getElem?_eq_getElem (by omega)⟩
                  obtain ⟨g, gs, rfl, hg, hgl, hset⟩ := row_set FieldD.len ho1 hy
                  obtain ⟨bL, oL, hA, hbL, hat⟩ := Rd.at_ ho1.rd (by omega)
                  obtain ⟨rfl, rfl⟩ : bL = g ∧ oL = 0 := by cases hA; exact ⟨rfl, rfl⟩
                  have hc : At h1 bL (0 + k * 2) [.int .u8 y.k, St y.t] := At.elem FieldD.len hat hy
                  have hyk : y.k = c ∨ y.k ≠ c := by omega
                  rcases hyk with hyk | hyk))
  all_goals (first | (refine Br.keep ?_) | (refine WL.step (ok_move rfl) rfl rfl rfl ?_))
  all_goals (refine Go ?_)
  all_goals (first | (refine Br.keep ?_) | (refine WL.step (ok_idxAddrA Tryz.underlying30 (fun w => Tryz.sizeOf54 w) rfl rfl rfl (by omega) (by first | rfl | assumption)) rfl rfl rfl ?_))
  all_goals (refine Go ?_)
  all_goals (first | (refine Br.keep ?_) | (refine WL.step (ok_load (fun w => Tryz.isAgg5 w) rfl (by first | exact hc.get 0 rfl rfl | assumption | exact cell_blk (by assumption) rfl)) rfl rfl rfl ?_))
  all_goals (refine Go ?_)
  all_goals (first | (refine Br.keep ?_) | (refine WC.sub [(1, _), (2, _), (7, _), (8, _), (23, _)] ⟨rfl, rfl, rfl, rfl, rfl, trivial⟩ ?_))
  all_goals (first | (refine Br.keep ?_) | (refine goC 3 4 ?_ ?_ <;> first | exact ⟨⟩ | refine Hb.mk fun hb => ?_ | skip))
  all_goals (first | (fail_if_success refine goB 3 ?_) | (
  refine goB 3 ?_
  all_goals (refine WC.sr ?_)
  all_goals (refine Go ?_)
  all_goals (refine WL.step (ok_idxAddrA Tryz.underlying30 (fun w => Tryz.sizeOf54 w) rfl rfl rfl (by omega) (by first | rfl | assumption)) rfl rfl rfl ?_)
  all_goals (refine Go ?_)
  all_goals (refine WL.stepR0 (okE_store (fun w => Tryz.sizeOf9 w) rfl rfl hg (by show 0 + k * 2 + 1 < gs.length; omega) rfl rfl) rfl rfl ?_
             rintro _ h3 ⟨hb3, hx3⟩)
  all_goals (refine Gn ?_)
  all_goals (refine WC.sub [(7, _)] ⟨rfl, trivial⟩ ?_)
  all_goals (refine WC.sr ?_)
  all_goals (refine Go ?_)
  all_goals (refine WC.ret ?_)
  all_goals (repeat' (with_reducible first | refine thenP_r ?_ | refine blockP_r ?_))
  all_goals (refine retP_1 _ ⟨rfl, trivial⟩ ?_)
  all_goals (first
              | (have hi := idxP_hit hy (decide_eq_true hyk) hn
                 have hgf : h.size ≤ bL := hf1 bL rfl
                 rw [if_neg (by omega), show (idxP (atP c) F).toNat = k by omega]
                 exact ⟨hset (j := 1) (q' := ⟨c, t⟩) (by decide) (by subst hyk; rfl) (by simpa using hb3), hX1.trans' hx3 (fun q hq e => by omega), hf1⟩)
              | (rw [List.take_of_length_le (by omega)] at hn
                 rcases idxP_cases (atP c) F with ⟨e, hno⟩ | ⟨j, z, e, hz, hp, _⟩
                 · rw [if_pos (by omega)]; exact ⟨ho1, hX1, hf1⟩
                 · exfalso; rw [hn z (List.mem_of_getElem? hz)] at hp; cases hp))
  skip))
  all_goals (first | (fail_if_success refine goB 4 ?_) | (
  refine goB 4 ?_
  all_goals (refine WC.skip ?_)
  skip))
  all_goals (refine Gn ?_)
  all_goals (first | (refine Br.keep ?_) | (refine WC.region ?_))
  all_goals (refine Go ?_)
  all_goals (first | (refine Br.keep ?_) | (exact ⟨k + 1, ⟨rfl, rfl, rfl, rfl, trivial⟩, (by exact ⟨rfl, by omega, all_take hy hn (decide_eq_false hyk)⟩), (by omega)⟩))
  all_goals (try (refine Br.mk (i := 1000) ?_))
  all_goals (refine Gn ?_)
  all_goals (refine WC.sub [(7, _)] ⟨rfl, trivial⟩ ?_)
  all_goals (refine WC.sr ?_)
  all_goals (refine Go ?_)
  all_goals (refine WC.ret ?_)
  all_goals (repeat' (with_reducible first | refine thenP_r ?_ | refine blockP_r ?_))
  all_goals (refine retP_1 _ ⟨rfl, trivial⟩ ?_)
  all_goals (first
              | (have hi := idxP_hit hy (decide_eq_true hyk) hn
                 have hgf : h.size ≤ bL := hf1 bL rfl
                 rw [if_neg (by omega), show (idxP (atP c) F).toNat = k by omega]
                 exact ⟨hset (j := 1) (q' := ⟨c, t⟩) (by decide) (by subst hyk; rfl) (by simpa using hb3), hX1.trans' hx3 (fun q hq e => by omega), hf1⟩)
              | (rw [List.take_of_length_le (by omega)] at hn
                 rcases idxP_cases (atP c) F with ⟨e, hno⟩ | ⟨j, z, e, hz, hp, _⟩
                 · rw [if_pos (by omega)]; exact ⟨ho1, hX1, hf1⟩
                 · exfalso; rw [hn z (List.mem_of_getElem? hz)] at hp; cases hp))
set_option maxHeartbeats 4000000 in
set_option maxRecDepth 100000 in
theorem back25 {h : Heap} (b : Bk) (hb : b.ok h) (ek : Int) (hd : Bool) (f t : List UInt8) (A1 A2 A3 A4 : Option Addr) (n1 n2 n3 n4 c1 c2 c3 c4 : Nat) (l3 : b.fields.length ≤ 1000000) (hxl : ∀ x, getT 77 b.fields = some x → x.length ≤ 100000) (hfl : f.length ≤ 10000) (htl : t.length ≤ 10000) :
    CallsH Tryz.prog 9 ⟨[.agg ⟨[In ek, .bool hd, St f, St t, .slice A1 n1 c1, .slice A2 n2 c2, .slice A3 n3 c3, .slice A4 n4 c4]⟩, .agg ⟨b.cells⟩]⟩ h fun u h' => ∃ b' : Bk, u = .agg ⟨b'.cells⟩ ∧ b'.ok h' ∧ b'.pl = { b with fields := fixF b.kind f t b.fields }.pl ∧ Ext No h h' := by
  have hok := hb
  have kg := fun h' (hx : Ext No h h') (cc : Int) => get08 b.fields cc (hok.4.1.ext0 hx) l3
  have kw := fun h' (hx : Ext No h h') (y : List UInt8) => with08 b.fields 77 y (hok.4.1.ext0 hx) l3
  have kr := fun h' (c x : List UInt8) (e : getT 77 b.fields = some x) => rename_ref (h := h') c x f t (hxl x e) hfl htl
  obtain ⟨o1, o2, o3, o4⟩ := hok
  have p1 := o1.1
  have p2 := o2.1
  have p3 := o3.1
  have p4 := o4.1
  obtain ⟨k, st, tg, n, v, x0, y0, vo, lo, vc, lc, vr, lr, vf, lf⟩ := b
  dsimp only at p1 p2 p3 p4 kg kw kr l3 ⊢
  obtain ⟨_, _, rfl, _⟩ := p1
  obtain ⟨_, _, rfl, _⟩ := p2
  obtain ⟨_, _, rfl, _⟩ := p3
  obtain ⟨_, _, rfl, _⟩ := p4
  dsimp only [Bk.cells]
  by_cases hs : k = 69 ∧ f ≠ t
  · have hft := hs.2
    have hk := hs.1
    rcases hc : getT 67 lf with _ | c
    all_goals rcases hx : getT 77 lf with _ | x
    all_goals
      refine calls [(0, _), (1, _)] Tryz.func9 rfl Tryz.ntmps9 rfl ⟨rfl, rfl, trivial⟩ ?_
      all_goals (refine WC.sr ?_)
      all_goals (refine WL.stepR (okE_box rfl) rfl rfl rfl ?_
                 rintro _ h1 ⟨b2, rfl, hg2, hb2, hx1⟩)
      all_goals (refine WL.stepR (okE_box rfl) rfl rfl rfl ?_
                 rintro _ h2 ⟨b3, rfl, hg3, hb3, hx2⟩)
      all_goals (refine WL.stepR (okE_alloc (fun w => Tryz.zeroValue32 w)) rfl rfl rfl ?_
                 rintro _ h3 ⟨b4, rfl, hg4, hb4, hx3⟩)
      all_goals (have hX3 := (hx1.trans hx2).trans hx3
                 have hb23 := (hx2.trans hx3).obj hb2 nos
                 have hb33 := hx3.obj hb3 nos)
      all_goals (refine Gn ?_)
      all_goals (refine WC.seq ?_)
      all_goals (refine WC.sr ?_)
      all_goals (refine Go ?_)
      all_goals (refine WL.step (ok_load (fun w => Tryz.isAgg5 w) rfl (by first | exact cell_blk hb33 rfl | assumption | exact cell_blk (by assumption) rfl)) rfl rfl rfl ?_)
      all_goals (refine Go ?_)
      all_goals (refine goP 12 ?_ ?_ <;> first | exact ⟨⟩ | refine Hb.mk fun hb => ?_ | skip)
      all_goals (refine Gg ?_)
      all_goals (first | (refine WL.pass rfl rfl rfl ?_) | (refine WL.step (ok_load (fun w => Tryz.isAgg9 w) rfl (by first | exact cell_blk hb23 rfl | assumption | exact cell_blk (by assumption) rfl)) rfl rfl rfl ?_))
      all_goals (refine Gg ?_)
      all_goals (first | (refine WL.pass rfl rfl rfl ?_) | (refine WL.step (ok_load (fun w => Tryz.isAgg9 w) rfl (by first | exact cell_blk hb23 rfl | assumption | exact cell_blk (by assumption) rfl)) rfl rfl rfl ?_))
      all_goals (refine Gg ?_)
      all_goals (refine Go ?_)
      all_goals (refine WC.sub [(2, _), (3, _), (4, _), (18, _)] ⟨rfl, rfl, rfl, rfl, trivial⟩ ?_)
      all_goals (refine goC 1 2 ?_ ?_ <;> first | exact ⟨⟩ | refine Hb.mk fun hb => ?_ | skip)
      all_goals (first | (fail_if_success refine goB 1 ?_) | (
      refine goB 1 ?_
      all_goals (refine WC.sr ?_)
      all_goals (refine WL.step (ok_loadN (fun w => Tryz.isAgg32 w) (fun w => Tryz.sizeOf32 w) rfl rfl (by assumption)) rfl rfl rfl ?_)
      all_goals (refine WL.stepR0 (okE_storeW (fun w => Tryz.sizeOf32 w) rfl rfl rfl (by assumption) rfl (by simp [Value.oneCell'])) rfl rfl ?_
                 rintro _ h1 ⟨hb1, hx1⟩)
      all_goals (refine Gn ?_)
      all_goals (refine WC.sub [(4, _)] ⟨rfl, trivial⟩ ?_)
      all_goals (refine WC.ret ?_)
      all_goals (repeat' (with_reducible first | refine thenP_r ?_ | refine blockP_r ?_))
      all_goals (refine retP_1 _ ⟨⟨_, rfl, ld_blk (fun w => Tryz.isAgg32 w) (fun w => Tryz.sizeOf32 w) hb9 rfl⟩, trivial⟩ ?_)
      all_goals (first
                  | (have hX8 : Ext No h h8 := (hX5.trans hX7).trans' hx8 (fun q hq e => by have := hx1.size; omega)
                     have ho8 := ho7.ext hx8 (fun q hq e => by obtain ⟨_, z⟩ := own_kind ho7 hq; rw [e, hX7.obj hb35 nos] at z; simp at z)
                     have ho9 := ho8.ext hx9 (fun q hq e => by obtain ⟨_, z⟩ := own_kind ho8 hq; rw [e, hb48] at z; simp at z)
                     have hX9 : Ext No h h9 := hX8.trans' hx9 (fun q hq e => by have := hx1.size; have := hx2.size; omega)
                     have hl9 := hb.ext0 hX9
                     refine ⟨⟨k, st, tg, n, v, x0, y0, _, lo, _, lc, _, lr, .slice A7 lf.length c7, withF 77 (renL c x f t) lf⟩, rfl, ⟨hl9.1, hl9.2, hl9.3, ⟨by rw [withF_len]; exact ho9.rd, by rw [withF_len]; exact o4.2⟩⟩, ?_, hX9⟩
                     simp only [Bk.pl, fixF, if_pos hs, renF, hc, hx])
                  | (have hX9 : Ext No h h9 := hX5.trans' hx9 (fun q hq e => by have := hx1.size; have := hx2.size; omega)
                     refine ⟨⟨k, st, tg, n, v, x0, y0, _, lo, _, lc, _, lr, _, lf⟩, rfl, hb.ext0 hX9, ?_, hX9⟩
                     simp only [Bk.pl, fixF, if_pos hs, renF, hc, hx]))
      skip))
      all_goals (first | (fail_if_success refine goB 2 ?_) | (
      refine goB 2 ?_
      all_goals (refine WC.skip ?_)
      skip))
      all_goals (refine Gn ?_)
      all_goals (refine WC.sr ?_)
      all_goals (refine Go ?_)
      all_goals (refine WL.step (ok_load (fun w => Tryz.isAgg30 w) rfl (by first | exact cell_blk hb33 rfl | assumption | exact cell_blk (by assumption) rfl)) rfl rfl rfl ?_)
      all_goals (refine WL.call (vs := [_, _]) rfl (fun a w => Tryz.call31 a w) rfl (kg _ hX3 67) rfl rfl rfl ?_
                 rintro _ h4 ⟨rfl, hx4⟩
                 rw [hc])
      all_goals (have hb34 := hx4.obj hb33 nos)
      all_goals (refine Go ?_)
      all_goals (refine WC.sub [(2, _), (3, _), (4, _), (5, _), (6, _)] ⟨rfl, rfl, rfl, rfl, rfl, trivial⟩ ?_)
      all_goals (refine WC.sr ?_)
      all_goals (refine Go ?_)
      all_goals (refine WL.step (ok_load (fun w => Tryz.isAgg30 w) rfl (by first | exact cell_blk hb34 rfl | assumption | exact cell_blk (by assumption) rfl)) rfl rfl rfl ?_)
      all_goals (refine WL.call (vs := [_, _]) rfl (fun a w => Tryz.call31 a w) rfl (kg _ (hX3.trans hx4) 77) rfl rfl rfl ?_
                 rintro _ h5 ⟨rfl, hx5⟩
                 rw [hx])
      all_goals (have hX5 := (hX3.trans hx4).trans hx5
                 have hb35 := hx5.obj hb34 nos
                 have hb25 := (hx4.trans hx5).obj hb23 nos
                 have hb45 := (hx4.trans hx5).obj hb4 nos)
      all_goals (refine Go ?_)
      all_goals (refine WC.sub [(2, _), (3, _), (4, _), (5, _), (6, _), (7, _), (8, _)] ⟨rfl, rfl, rfl, rfl, rfl, rfl, rfl, trivial⟩ ?_)
      all_goals (refine WC.seq ?_)
      all_goals (refine WC.sr ?_)
      all_goals (refine Go ?_)
      all_goals (refine goP 34 ?_ ?_ <;> first | exact ⟨⟩ | refine Hb.mk fun hb => ?_ | skip)
      all_goals (refine Gg ?_)
      all_goals (refine Go ?_)
      all_goals (refine WC.sub [(2, _), (3, _), (4, _), (5, _), (7, _), (37, _)] ⟨rfl, rfl, rfl, rfl, rfl, rfl, trivial⟩ ?_)
      all_goals (refine goC 3 4 ?_ ?_ <;> first | exact ⟨⟩ | refine Hb.mk fun hb => ?_ | skip)
      all_goals (first | (fail_if_success refine goB 3 ?_) | (
      refine goB 3 ?_
      all_goals (refine WC.sr ?_)
      all_goals (refine WL.step (ok_loadN (fun w => Tryz.isAgg32 w) (fun w => Tryz.sizeOf32 w) rfl rfl (by exact At.of_block hb35)) rfl rfl rfl ?_)
      all_goals (refine WL.stepR0 (okE_storeW (fun w => Tryz.sizeOf32 w) rfl rfl rfl hb45 rfl (by simp [Value.oneCell'])) rfl rfl ?_
                 rintro _ h9 ⟨hb9, hx9⟩)
      all_goals (refine Gn ?_)
      all_goals (refine WC.sub [(4, _)] ⟨rfl, trivial⟩ ?_)
      all_goals (refine WC.ret ?_)
      all_goals (repeat' (with_reducible first | refine thenP_r ?_ | refine blockP_r ?_))
      all_goals (refine retP_1 _ ⟨⟨_, rfl, ld_blk (fun w => Tryz.isAgg32 w) (fun w => Tryz.sizeOf32 w) hb9 rfl⟩, trivial⟩ ?_)
      all_goals (first
                  | (have hX8 : Ext No h h8 := (hX5.trans hX7).trans' hx8 (fun q hq e => by have := hx1.size; omega)
                     have ho8 := ho7.ext hx8 (fun q hq e => by obtain ⟨_, z⟩ := own_kind ho7 hq; rw [e, hX7.obj hb35 nos] at z; simp at z)
                     have ho9 := ho8.ext hx9 (fun q hq e => by obtain ⟨_, z⟩ := own_kind ho8 hq; rw [e, hb48] at z; simp at z)
                     have hX9 : Ext No h h9 := hX8.trans' hx9 (fun q hq e => by have := hx1.size; have := hx2.size; omega)
                     have hl9 := hb.ext0 hX9
                     refine ⟨⟨k, st, tg, n, v, x0, y0, _, lo, _, lc, _, lr, .slice A7 lf.length c7, withF 77 (renL c x f t) lf⟩, rfl, ⟨hl9.1, hl9.2, hl9.3, ⟨by rw [withF_len]; exact ho9.rd, by rw [withF_len]; exact o4.2⟩⟩, ?_, hX9⟩
                     simp only [Bk.pl, fixF, if_pos hs, renF, hc, hx])
                  | (have hX9 : Ext No h h9 := hX5.trans' hx9 (fun q hq e => by have := hx1.size; have := hx2.size; omega)
                     refine ⟨⟨k, st, tg, n, v, x0, y0, _, lo, _, lc, _, lr, _, lf⟩, rfl, hb.ext0 hX9, ?_, hX9⟩
                     simp only [Bk.pl, fixF, if_pos hs, renF, hc, hx]))
      skip))
      all_goals (first | (fail_if_success refine goB 4 ?_) | (
      refine goB 4 ?_
      all_goals (refine WC.skip ?_)
      skip))
      all_goals (refine Gn ?_)
      all_goals (refine WC.seq ?_)
      all_goals (refine WC.drawH (fun h' => Ext No h5 h') 10 12 rfl fol ?_)
      all_goals (refine WH.tk 0 rfl (fun hq hC => ok_fieldAddr rfl Tryz.underlying32 rfl (fun w => Tryz.sizeOf30 w)) rfl rfl rfl ?_)
      all_goals (refine WH.tk 1 rfl (fun hq hC => ok_load (fun w => Tryz.isAgg30 w) rfl (by first | exact hC.cell (by first | exact cell_blk hb35 rfl | assumption | exact cell_blk (by assumption) rfl) nos)) rfl rfl rfl ?_)
      all_goals (refine WH.tk 2 rfl (fun hq hC => ok_move rfl) rfl rfl rfl ?_)
      all_goals (refine WH.tk 3 rfl (fun hq hC => ok_move rfl) rfl rfl rfl ?_)
      all_goals (refine WH.tk 4 rfl (fun hq hC => ok_fieldAddr rfl Tryz.underlying26 rfl (fun w => Tryz.sizeOf9 w)) rfl rfl rfl ?_)
      all_goals (refine WH.tk 5 rfl (fun hq hC => ok_load (fun w => Tryz.isAgg9 w) rfl (by first | exact hC.cell (by first | exact cell_blk hb25 rfl | assumption | exact cell_blk (by assumption) rfl) nos)) rfl rfl rfl ?_)
      all_goals (refine WH.tk 6 rfl (fun hq hC => ok_fieldAddr rfl Tryz.underlying26 rfl (fun w => Tryz.sizeOf9 w)) rfl rfl rfl ?_)
      all_goals (refine WH.tk 7 rfl (fun hq hC => ok_load (fun w => Tryz.isAgg9 w) rfl (by first | exact hC.cell (by first | exact cell_blk hb25 rfl | assumption | exact cell_blk (by assumption) rfl) nos)) rfl rfl rfl ?_)
      all_goals (refine WH.one 8 (by kernel_rfl) ?_)
      all_goals (refine Comes1.call (vs := [_, _, _, _]) rfl rfl (fun a w => Tryz.call33 a w) rfl (kr _ _ _ hx) rfl rfl rfl ?_ (fun _ => by kernel_rfl)
                 rintro _ h6 ⟨rfl, hx6⟩)
      all_goals (refine ⟨fun _ => hx6, ?_⟩)
      all_goals (refine WH.one 9 (by kernel_rfl) ?_)
      all_goals (refine Comes1.call (vs := [_, _, _]) rfl rfl (fun a w => Tryz.call32 a w) rfl (kw _ (hX5.trans hx6) _) rfl rfl rfl ?_ (fun _ => by kernel_rfl)
                 rintro v7 h7 ⟨ho7, hx7, hf7⟩
                 obtain ⟨A7, c7, rfl, _⟩ := ho7.slice)
      all_goals (refine ⟨fun _ => hx6.trans hx7, ?_⟩)
      all_goals (have hX7 := hx6.trans hx7)
      all_goals (refine WH.one 10 (by kernel_rfl) ?_)
      all_goals (refine Comes1.run rfl (OkP.r (ok_fieldAddr rfl Tryz.underlying32 rfl (fun w => Tryz.sizeOf30 w))) rfl rfl rfl ?_ (fun _ => by kernel_rfl)
                 rintro _ hz ⟨rfl, _⟩
                 subst hz)
      all_goals (refine ⟨fun e => (by cases e), ?_⟩)
      all_goals (refine WH.one 11 (by kernel_rfl) ?_)
      all_goals (refine Comes1.run0 rfl (okE_store (fun w => Tryz.sizeOf30 w) rfl rfl (hX7.obj hb35 nos) (Nat.le_of_ble_eq_true rfl) rfl rfl) rfl rfl ?_ (fun _ => by kernel_rfl)
                 rintro _ h8 ⟨hb8, hx8⟩)
      all_goals (refine ⟨fun e => (by cases e), ?_⟩)
      all_goals (have hb48 := hx8.obj (hX7.obj hb45 nos) (fun e => by have := lt_of_some hb3; omega))
      all_goals (refine WH.done (by kernel_rfl) ?_)
      all_goals (refine Gn ?_)
      all_goals (refine WC.sub [(3, _), (4, _)] ⟨rfl, rfl, trivial⟩ ?_)
      all_goals (refine WC.sr ?_)
      all_goals (refine WL.step (ok_loadN (fun w => Tryz.isAgg32 w) (fun w => Tryz.sizeOf32 w) rfl rfl (by exact At.of_block hb8)) rfl rfl rfl ?_)
      all_goals (refine WL.stepR0 (okE_storeW (fun w => Tryz.sizeOf32 w) rfl rfl rfl hb48 rfl (by simp [Value.oneCell'])) rfl rfl ?_
                 rintro _ h9 ⟨hb9, hx9⟩)
      all_goals (refine Gn ?_)
      all_goals (refine WC.ret ?_)
      all_goals (repeat' (with_reducible first | refine thenP_r ?_ | refine blockP_r ?_))
      all_goals (refine retP_1 _ ⟨⟨_, rfl, ld_blk (fun w => Tryz.isAgg32 w) (fun w => Tryz.sizeOf32 w) hb9 rfl⟩, trivial⟩ ?_)
      all_goals (first
                  | (have hX8 : Ext No h h8 := (hX5.trans hX7).trans' hx8 (fun q hq e => by have := hx1.size; omega)
                     have ho8 := ho7.ext hx8 (fun q hq e => by obtain ⟨_, z⟩ := own_kind ho7 hq; rw [e, hX7.obj hb35 nos] at z; simp at z)
                     have ho9 := ho8.ext hx9 (fun q hq e => by obtain ⟨_, z⟩ := own_kind ho8 hq; rw [e, hb48] at z; simp at z)
                     have hX9 : Ext No h h9 := hX8.trans' hx9 (fun q hq e => by have := hx1.size; have := hx2.size; omega)
                     have hl9 := hb.ext0 hX9
                     refine ⟨⟨k, st, tg, n, v, x0, y0, _, lo, _, lc, _, lr, .slice A7 lf.length c7, withF 77 (renL c x f t) lf⟩, rfl, ⟨hl9.1, hl9.2, hl9.3, ⟨by rw [withF_len]; exact ho9.rd, by rw [withF_len]; exact o4.2⟩⟩, ?_, hX9⟩
                     simp only [Bk.pl, fixF, if_pos hs, renF, hc, hx])
                  | (have hX9 : Ext No h h9 := hX5.trans' hx9 (fun q hq e => by have := hx1.size; have := hx2.size; omega)
                     refine ⟨⟨k, st, tg, n, v, x0, y0, _, lo, _, lc, _, lr, _, lf⟩, rfl, hb.ext0 hX9, ?_, hX9⟩
                     simp only [Bk.pl, fixF, if_pos hs, renF, hc, hx]))
  · have hs' : k ≠ 69 ∨ (k = 69 ∧ f = t) := by
      by_cases h1 : k = 69
      · exact .inr ⟨h1, Classical.byContradiction fun h2 => hs ⟨h1, h2⟩⟩
      · exact .inl h1
    clear kg kw kr hxl
    rcases hs' with hk | ⟨hk, rfl⟩
    all_goals
      refine calls [(0, _), (1, _)] Tryz.func9 rfl Tryz.ntmps9 rfl ⟨rfl, rfl, trivial⟩ ?_
      all_goals (refine WC.sr ?_)
      all_goals (refine WL.stepR (okE_box rfl) rfl rfl rfl ?_
                 rintro _ h1 ⟨b2, rfl, hg2, hb2, hx1⟩)
      all_goals (refine WL.stepR (okE_box rfl) rfl rfl rfl ?_
                 rintro _ h2 ⟨b3, rfl, hg3, hb3, hx2⟩)
      all_goals (refine WL.stepR (okE_alloc (fun w => Tryz.zeroValue32 w)) rfl rfl rfl ?_
                 rintro _ h3 ⟨b4, rfl, hg4, hb4, hx3⟩)
      all_goals (have hX3 := (hx1.trans hx2).trans hx3
                 have hb23 := (hx2.trans hx3).obj hb2 nos
                 have hb33 := hx3.obj hb3 nos)
      all_goals (refine Gn ?_)
      all_goals (refine WC.seq ?_)
      all_goals (refine WC.sr ?_)
      all_goals (refine Go ?_)
      all_goals (refine WL.step (ok_load (fun w => Tryz.isAgg5 w) rfl (by first | exact cell_blk hb33 rfl | assumption | exact cell_blk (by assumption) rfl)) rfl rfl rfl ?_)
      all_goals (refine Go ?_)
      all_goals (refine goP 12 ?_ ?_ <;> first | exact ⟨⟩ | refine Hb.mk fun hb => ?_ | skip)
      all_goals (refine Gg ?_)
      all_goals (first | (refine WL.pass rfl rfl rfl ?_) | (refine WL.step (ok_load (fun w => Tryz.isAgg9 w) rfl (by first | exact cell_blk hb23 rfl | assumption | exact cell_blk (by assumption) rfl)) rfl rfl rfl ?_))
      all_goals (refine Gg ?_)
      all_goals (first | (refine WL.pass rfl rfl rfl ?_) | (refine WL.step (ok_load (fun w => Tryz.isAgg9 w) rfl (by first | exact cell_blk hb23 rfl | assumption | exact cell_blk (by assumption) rfl)) rfl rfl rfl ?_))
      all_goals (refine Gg ?_)
      all_goals (refine Go ?_)
      all_goals (refine WC.sub [(2, _), (3, _), (4, _), (18, _)] ⟨rfl, rfl, rfl, rfl, trivial⟩ ?_)
      all_goals (refine goC 1 2 ?_ ?_ <;> first | exact ⟨⟩ | refine Hb.mk fun hb => ?_ | skip)
      all_goals (first | (fail_if_success refine goB 1 ?_) | (
      refine goB 1 ?_
      all_goals (refine WC.sr ?_)
      all_goals (refine WL.step (ok_loadN (fun w => Tryz.isAgg32 w) (fun w => Tryz.sizeOf32 w) rfl rfl (by exact At.of_block hb33)) rfl rfl rfl ?_)
      all_goals (refine WL.stepR0 (okE_storeW (fun w => Tryz.sizeOf32 w) rfl rfl rfl hb4 rfl (by simp [Value.oneCell'])) rfl rfl ?_
                 rintro _ h9 ⟨hb9, hx9⟩)
      all_goals (refine Gn ?_)
      all_goals (refine WC.sub [(4, _)] ⟨rfl, trivial⟩ ?_)
      all_goals (refine WC.ret ?_)
      all_goals (repeat' (with_reducible first | refine thenP_r ?_ | refine blockP_r ?_))
      all_goals (refine retP_1 _ ⟨⟨_, rfl, ld_blk (fun w => Tryz.isAgg32 w) (fun w => Tryz.sizeOf32 w) hb9 rfl⟩, trivial⟩ ?_)
      all_goals (have hX9 : Ext No h h9 := hX3.trans' hx9 (fun q hq e => by have := hx1.size; have := hx2.size; omega)
                 exact ⟨⟨k, st, tg, n, v, x0, y0, _, lo, _, lc, _, lr, _, lf⟩, rfl, hb.ext0 hX9, by simp only [Bk.pl, fixF, if_neg hs], hX9⟩)
      skip))
      all_goals (first | (fail_if_success refine goB 2 ?_) | (
      refine goB 2 ?_
      all_goals (refine WC.skip ?_)
      skip))
      all_goals (refine Gn ?_)
      all_goals (refine WC.sr ?_)
      all_goals (refine Go ?_)
      all_goals (refine WL.step (ok_load (fun w => Tryz.isAgg30 w) rfl (by first | assumption | exact cell_blk (by assumption) rfl)) rfl rfl rfl ?_)
      all_goals (fail "no contract for call of remuda/remudaref08.Get at 3.2")
      all_goals (refine Go ?_)
      all_goals (refine WC.sub [(2, _), (3, _), (4, _), (5, _), (6, _)] ⟨rfl, rfl, rfl, rfl, rfl, trivial⟩ ?_)
      all_goals (refine WC.sr ?_)
      all_goals (refine Go ?_)
      all_goals (refine WL.step (ok_load (fun w => Tryz.isAgg30 w) rfl (by first | assumption | exact cell_blk (by assumption) rfl)) rfl rfl rfl ?_)
      all_goals (fail "no contract for call of remuda/remudaref08.Get at 4.2")
      all_goals (refine Go ?_)
      all_goals (refine WC.sub [(2, _), (3, _), (4, _), (5, _), (6, _), (7, _), (8, _)] ⟨rfl, rfl, rfl, rfl, rfl, rfl, rfl, trivial⟩ ?_)
      all_goals (refine WC.seq ?_)
      all_goals (refine WC.sr ?_)
      all_goals (refine Go ?_)
      all_goals (refine goP 34 ?_ ?_ <;> first | exact ⟨⟩ | refine Hb.mk fun hb => ?_ | skip)
      all_goals (refine Gg ?_)
      all_goals (refine Go ?_)
      all_goals (refine WC.sub [(2, _), (3, _), (4, _), (5, _), (7, _), (37, _)] ⟨rfl, rfl, rfl, rfl, rfl, rfl, trivial⟩ ?_)
      all_goals (refine goC 3 4 ?_ ?_ <;> first | exact ⟨⟩ | refine Hb.mk fun hb => ?_ | skip)
      all_goals (first | (fail_if_success refine goB 3 ?_) | (
      refine goB 3 ?_
      all_goals (refine WC.sr ?_)
      all_goals (refine WL.step (ok_loadN (fun w => Tryz.isAgg32 w) (fun w => Tryz.sizeOf32 w) rfl rfl (by assumption)) rfl rfl rfl ?_)
      all_goals (refine WL.stepR0 (okE_storeW (fun w => Tryz.sizeOf32 w) rfl rfl rfl (by assumption) rfl (by simp [Value.oneCell'])) rfl rfl ?_
                 rintro _ h1 ⟨hb1, hx1⟩)
      all_goals (refine Gn ?_)
      all_goals (refine WC.sub [(4, _)] ⟨rfl, trivial⟩ ?_)
      all_goals (refine WC.ret ?_)
      all_goals (repeat' (with_reducible first | refine thenP_r ?_ | refine blockP_r ?_))
      all_goals (refine retP_1 _ ⟨⟨_, rfl, ld_blk (fun w => Tryz.isAgg32 w) (fun w => Tryz.sizeOf32 w) hb9 rfl⟩, trivial⟩ ?_)
      all_goals (have hX9 : Ext No h h9 := hX3.trans' hx9 (fun q hq e => by have := hx1.size; have := hx2.size; omega)
                 exact ⟨⟨k, st, tg, n, v, x0, y0, _, lo, _, lc, _, lr, _, lf⟩, rfl, hb.ext0 hX9, by simp only [Bk.pl, fixF, if_neg hs], hX9⟩)
      skip))
      all_goals (first | (fail_if_success refine goB 4 ?_) | (
      refine goB 4 ?_
      all_goals (refine WC.skip ?_)
      skip))
      all_goals (refine Gn ?_)
      all_goals (refine WC.seq ?_)
      all_goals (refine WC.drawE fol (by kernel_rfl) ?_)
      all_goals (refine WQ.stepE (ok_fieldAddr rfl Tryz.underlying32 rfl (fun w => Tryz.sizeOf30 w)) rfl rfl rfl ?_)
      all_goals (refine WQ.stepE (ok_load (fun w => Tryz.isAgg30 w) rfl (by first | assumption | exact cell_blk (by assumption) rfl)) rfl rfl rfl ?_)
      all_goals (refine WQ.stepE (ok_move rfl) rfl rfl rfl ?_)
      all_goals (refine WQ.stepE (ok_move rfl) rfl rfl rfl ?_)
      all_goals (refine WQ.stepE (ok_fieldAddr rfl Tryz.underlying26 rfl (fun w => Tryz.sizeOf9 w)) rfl rfl rfl ?_)
      all_goals (refine WQ.stepE (ok_load (fun w => Tryz.isAgg9 w) rfl (by first | assumption | exact cell_blk (by assumption) rfl)) rfl rfl rfl ?_)
      all_goals (refine WQ.stepE (ok_fieldAddr rfl Tryz.underlying26 rfl (fun w => Tryz.sizeOf9 w)) rfl rfl rfl ?_)
      all_goals (refine WQ.stepE (ok_load (fun w => Tryz.isAgg9 w) rfl (by first | assumption | exact cell_blk (by assumption) rfl)) rfl rfl rfl ?_)
      all_goals (fail "no contract for call of remuda/remudaref09.Rename at 7.8")
      all_goals (fail "no contract for call of remuda/remudaref08.With at 7.9")
      all_goals (refine WQ.stepE (ok_fieldAddr rfl Tryz.underlying32 rfl (fun w => Tryz.sizeOf30 w)) rfl rfl rfl ?_)
      all_goals (refine WL.stepR0 (okE_store (fun w => Tryz.sizeOf30 w) rfl rfl (by assumption) (Nat.le_of_ble_eq_true rfl) rfl rfl) rfl rfl ?_
                 rintro _ h1 ⟨hb1, hx1⟩)
      all_goals (refine WQ.nil ?_)
      all_goals (refine Gn ?_)
      all_goals (refine WC.sub [(3, _), (4, _)] ⟨rfl, rfl, trivial⟩ ?_)
      all_goals (refine WC.sr ?_)
      all_goals (refine WL.step (ok_loadN (fun w => Tryz.isAgg32 w) (fun w => Tryz.sizeOf32 w) rfl rfl (by assumption)) rfl rfl rfl ?_)
      all_goals (refine WL.stepR0 (okE_storeW (fun w => Tryz.sizeOf32 w) rfl rfl rfl (by assumption) rfl (by simp [Value.oneCell'])) rfl rfl ?_
                 rintro _ h1 ⟨hb1, hx1⟩)
      all_goals (refine Gn ?_)
      all_goals (refine WC.ret ?_)
      all_goals (repeat' (with_reducible first | refine thenP_r ?_ | refine blockP_r ?_))
      all_goals (refine retP_1 _ ⟨⟨_, rfl, ld_blk (fun w => Tryz.isAgg32 w) (fun w => Tryz.sizeOf32 w) hb9 rfl⟩, trivial⟩ ?_)
      all_goals (have hX9 : Ext No h h9 := hX3.trans' hx9 (fun q hq e => by have := hx1.size; have := hx2.size; omega)
                 exact ⟨⟨k, st, tg, n, v, x0, y0, _, lo, _, lc, _, lr, _, lf⟩, rfl, hb.ext0 hX9, by simp only [Bk.pl, fixF, if_neg hs], hX9⟩)
end Go.Proofs.YtbahigffjclpdaaGreatDoor


