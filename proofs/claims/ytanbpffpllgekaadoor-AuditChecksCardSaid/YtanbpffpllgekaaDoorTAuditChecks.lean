/-
  AuditChecks holds: whether any view may be, of any settings, is what the document says.
-/
import Derived.Test.YtanbpffpllgekaaDoorPAuditChecks4
import Derived.Test.YtanbpffpllgekaaDoorCards
import Derived.Test.YtanbpffpllgekaaDoorTie
import Derived.SevenTiedAt
namespace Go.Proofs.YtanbpffpllgekaaDoor
open Go Go.RK

set_option maxHeartbeats 2000000 in
set_option maxRecDepth 100000 in
theorem checks_law {h : Heap} (c : Cf) (V : VW) (s : SV) (oc : c.ok h) (ok : V.ok h) (os : s.ok h) (er : Er h) : CallsH Tryd.prog 3 ⟨[.agg ⟨c.cells⟩, .agg ⟨V.cells⟩, .agg ⟨s.cells⟩]⟩ h fun u h' => u = .bool true ∧ Ext No h h' := by
  have k0 := fun h' (hx : Ext No h h') => few47 V (ok.ext0 hx)
  have k1 := fun f h' (hx : Ext No h h') => check_v c V (oc.ext0 hx) (ok.ext0 hx) f (er.ext0 hx)
  have k2 := fun f h' (hx : Ext No h h') => check47 c V (oc.ext0 hx) (ok.ext0 hx) f
  have k3 := fun h' (hx : Ext No h h') => holders_v V (ok.ext0 hx)
  have k4 := fun h' (hx : Ext No h h') => holders47 V (ok.ext0 hx)
  have k5 := fun h' (hx : Ext No h h') => idle_v s (os.ext0 hx)
  have k6 := fun h' (hx : Ext No h h') => idle47 s (os.ext0 hx)
  obtain ⟨A1, c1, A2, c2, A3, c3, A4, c4, e1, e2, e3, e4⟩ := ok.slices
  obtain ⟨A5, c5, e5, _⟩ := id oc.p
  obtain ⟨A6, c6, e6, _⟩ := id os.c
  obtain ⟨A7, c7, e7, _⟩ := id os.p
  have hwf : s.ss.toNat < 256 := by have := s.ss.toBitVec.isLt; simpa using this
  generalize auR c V = R at k1 k2
  generalize idleB s = B at k5 k6
  unfold VW.cells Cf.cells SV.cells By at *
  rw [e1, e2, e3, e4] at k0 k3 k4
  rw [e1, e2, e3, e4, e5] at k1 k2
  rw [e6, e7] at k5 k6
  rw [e1, e2, e3, e4, e5, e6, e7]
  refine calls [(0, _), (1, _), (2, _)] Tryd.func3 rfl Tryd.ntmps3 rfl ⟨rfl, rfl, rfl, trivial⟩ ?_
  all_goals (refine WC.seq ?_)
  all_goals (refine WC.region ?_)
  all_goals (refine WL.stepR (okE_box rfl) rfl rfl rfl ?_
             rintro _ h1 ⟨b1, rfl, hg1, hb1, hx1⟩)
  all_goals (refine WL.stepR (okE_box rfl) rfl rfl rfl ?_
             rintro _ h2 ⟨b2, rfl, hg2, hb2, hx2⟩)
  all_goals (refine WL.stepR (okE_box rfl) rfl rfl rfl ?_
             rintro _ h3 ⟨b3, rfl, hg3, hb3, hx3⟩)
  all_goals (have hX3 := (hx1.trans hx2).trans hx3
             have hb13 := (hx2.trans hx3).obj hb1 nos
             have hb23 := hx3.obj hb2 nos
             clear hb1 hb2)
  all_goals (refine WL.step (ok_assign rfl) rfl rfl rfl ?_)
  all_goals (refine WL.nil ?_)
  all_goals (repeat' (with_reducible first | refine thenP_n ?_ | refine blockP_n ?_))
  all_goals (refine WC.sub [(3, _), (4, _), (5, _)] ⟨rfl, rfl, rfl, trivial⟩ ?_)
  all_goals (refine WC.seq ?_)
  all_goals (refine WC.seq ?_)
  all_goals (refine WC.region ?_)
  all_goals (refine WL.step (ok_loadN (fun w => Tryd.isAgg30 w) (fun w => Tryd.sizeOf30 w) rfl rfl (by exact At.of_block hb23)) rfl rfl rfl ?_)
  all_goals (refine WL.call (vs := [_]) rfl (fun a w => Tryd.call6 a w) rfl (k0 _ hX3) rfl rfl rfl ?_
             rintro _ h4 ⟨⟨fb, rfl, hfb⟩, hx4⟩)
  all_goals (have hX4 := hX3.trans hx4
             have hb14 := hx4.obj hb13 nos
             have hb24 := hx4.obj hb23 nos
             have hb34 := hx4.obj hb3 nos
             clear hb13 hb23 hb3
             cases fb)
  all_goals (refine WL.step (ok_not rfl) rfl rfl rfl ?_)
  all_goals (refine WL.step (ok_move rfl) rfl rfl rfl ?_)
  all_goals (try ((fail_if_success (refine WL.part 10 (b := true) rfl (fun _ => ?_) (fun _ => ?_))); (fail_if_success (refine WL.part 10 (b := false) rfl (fun _ => ?_) (fun _ => ?_))); (refine WL.part 10 rfl (fun hb => ?_) (fun hb => ?_) <;> (first | replace hb := of_decide_eq_true hb | replace hb := of_decide_eq_false hb | replace hb := of_decide_eq_false (nt hb) | replace hb := of_decide_eq_true (nf hb) | skip))))
  all_goals (first | (refine WL.pass rfl rfl rfl ?_) | (refine WL.step (ok_fieldAddr rfl Tryd.underlying24 rfl (fun w => Tryd.sizeOf22 w)) rfl rfl rfl ?_))
  all_goals (first | (refine WL.pass rfl rfl rfl ?_) | (refine WL.step (ok_load (fun w => Tryd.isAgg22 w) rfl (by first | assumption | exact cell_blk (by assumption) rfl)) rfl rfl rfl ?_))
  all_goals (first | (refine WL.pass rfl rfl rfl ?_) | (refine WL.step (ok_lenL rfl Tryd.underlying22 rfl) rfl rfl rfl ?_))
  all_goals (first | (refine WL.pass rfl rfl rfl ?_) | (first | (refine WL.step (OkP.bool_t (by omega) (ok_gtr rfl rfl)) rfl rfl rfl ?_) | (refine WL.step (OkP.bool_f (by omega) (ok_gtr rfl rfl)) rfl rfl rfl ?_) | (refine WL.step (ok_gtr rfl rfl) rfl rfl rfl ?_)))
  all_goals (first | (refine WL.step (ok_pick_t rfl rfl) rfl rfl rfl ?_) | (refine WL.step (ok_pick_f rfl rfl) rfl rfl rfl ?_))
  all_goals (refine WL.nil ?_)
  all_goals (repeat' (with_reducible first | refine thenP_n ?_ | refine blockP_n ?_))
  all_goals (refine WC.sub [(3, _), (4, _), (5, _), (15, _)] ⟨rfl, rfl, rfl, rfl, trivial⟩ ?_)
  all_goals (first | refine WC.condB_t 1 rfl ?_ | refine WC.condB_f 2 rfl ?_ | (refine WC.condB 1 2 rfl (fun hb => ?_) (fun hb => ?_) <;> (first | replace hb := of_decide_eq_true hb | replace hb := of_decide_eq_false hb | replace hb := of_decide_eq_false (nt hb) | replace hb := of_decide_eq_true (nf hb) | skip)))
  all_goals (first
    | (fail_if_success (refine Br.mk (i := 1) ?_))
    | (refine Br.mk (i := 1) ?_
       all_goals (refine WC.seq ?_)
       all_goals (refine WC.region ?_)
       all_goals (refine WL.call (vs := []) rfl (fun a w => Tryd.call7 a w) rfl (awake47 (er.ext0 hX4)) rfl rfl rfl ?_
                  rintro _ h9 ⟨rfl, hx9⟩)
       all_goals (refine WL.step (ok_assign rfl) rfl rfl rfl ?_)
       all_goals (refine WL.nil ?_)
       all_goals (repeat' (with_reducible first | refine thenP_n ?_ | refine blockP_n ?_))
       all_goals (refine WC.sub [(6, _)] ⟨rfl, trivial⟩ ?_)
       all_goals (refine WC.ret ?_)
       all_goals (repeat' (with_reducible first | refine thenP_r ?_ | refine blockP_r ?_))
       all_goals (refine retP_1 _ ⟨rfl, trivial⟩ ?_)
       all_goals (first | exact ⟨rfl, hX4.trans hx9⟩ | exact ⟨rfl, (hX4.trans hY11).trans hx12⟩)
       skip))
  all_goals (first
    | (fail_if_success (refine Br.mk (i := 2) ?_))
    | (refine Br.mk (i := 2) ?_
       all_goals (refine WC.skip ?_)
       skip))
  all_goals (repeat' (with_reducible first | refine thenP_n ?_ | refine blockP_n ?_))
  all_goals (refine WC.seq ?_)
  all_goals (refine WC.drawH (fun h' => Ext No h4 h') 24 25 rfl fol ?_)
  all_goals (refine WH.take 0 rfl (by kernel_rfl) (by kernel_rfl) (by kernel_rfl) (by kernel_rfl) rfl (by first | exact Ext.refl _ _ | assumption) (fun hq hC => ok_loadN (fun w => Tryd.isAgg24 w) (fun w => Tryd.sizeOf24 w) rfl rfl (by exact At.of_block (hC.obj hb14 nos))) rfl rfl rfl ?_)
  all_goals (refine WH.take 1 rfl (by kernel_rfl) (by kernel_rfl) (by kernel_rfl) (by kernel_rfl) rfl (by first | exact Ext.refl _ _ | assumption) (fun hq hC => ok_loadN (fun w => Tryd.isAgg30 w) (fun w => Tryd.sizeOf30 w) rfl rfl (by exact At.of_block (hC.obj hb24 nos))) rfl rfl rfl ?_)
  all_goals (refine WH.take 3 rfl (by kernel_rfl) (by kernel_rfl) (by kernel_rfl) (by kernel_rfl) rfl (by first | exact Ext.refl _ _ | assumption) (fun hq hC => ok_loadN (fun w => Tryd.isAgg24 w) (fun w => Tryd.sizeOf24 w) rfl rfl (by exact At.of_block (hC.obj hb14 nos))) rfl rfl rfl ?_)
  all_goals (refine WH.take 4 rfl (by kernel_rfl) (by kernel_rfl) (by kernel_rfl) (by kernel_rfl) rfl (by first | exact Ext.refl _ _ | assumption) (fun hq hC => ok_loadN (fun w => Tryd.isAgg30 w) (fun w => Tryd.sizeOf30 w) rfl rfl (by exact At.of_block (hC.obj hb24 nos))) rfl rfl rfl ?_)
  all_goals (refine WH.one 2 (by kernel_rfl) ?_)
  all_goals (refine Comes1.call (vs := [_, _]) rfl rfl (fun a w => Tryd.call8 a w) rfl (k1 (hfb rfl) _ hX4) rfl rfl rfl ?_ (fun _ => by kernel_rfl)
             rintro _ h5 ⟨rfl, hx5⟩)
  all_goals (refine ⟨fun _ => hx5, ?_⟩)
  all_goals (refine WH.one 5 (by kernel_rfl) ?_)
  all_goals (refine Comes1.call (vs := [_, _]) rfl rfl (fun a w => Tryd.call9 a w) rfl (k2 (hfb rfl) _ (hX4.trans hx5)) rfl rfl rfl ?_ (fun _ => by kernel_rfl)
             rintro _ h6 ⟨rfl, hx6⟩)
  all_goals (refine ⟨fun _ => hx5.trans hx6, ?_⟩)
  all_goals (have hY6 := hx5.trans hx6)
  all_goals (first | (refine WH.take 6 rfl (by kernel_rfl) (by kernel_rfl) (by kernel_rfl) (by kernel_rfl) rfl (by first | exact Ext.refl _ _ | assumption) (fun hq hC => OkP.bool_t (by omega) (ok_eql rfl rfl)) rfl rfl rfl ?_) | (refine WH.take 6 rfl (by kernel_rfl) (by kernel_rfl) (by kernel_rfl) (by kernel_rfl) rfl (by first | exact Ext.refl _ _ | assumption) (fun hq hC => OkP.bool_f (by omega) (ok_eql rfl rfl)) rfl rfl rfl ?_) | (refine WH.take 6 rfl (by kernel_rfl) (by kernel_rfl) (by kernel_rfl) (by kernel_rfl) rfl (by first | exact Ext.refl _ _ | assumption) (fun hq hC => ok_eql rfl rfl) rfl rfl rfl ?_))
  all_goals (refine WH.take 7 rfl (by kernel_rfl) (by kernel_rfl) (by kernel_rfl) (by kernel_rfl) rfl (by first | exact Ext.refl _ _ | assumption) (fun hq hC => ok_move rfl) rfl rfl rfl ?_)
  all_goals (try ((fail_if_success (refine WH.part 24 (b := true) rfl (fun _ => ?_) (fun _ => ?_))); (fail_if_success (refine WH.part 24 (b := false) rfl (fun _ => ?_) (fun _ => ?_))); (refine WH.part 24 rfl (fun hb => ?_) (fun hb => ?_))))
  all_goals (first | (refine WH.pass 8 rfl (by kernel_rfl) (by kernel_rfl) (by kernel_rfl) (by kernel_rfl) rfl (by first | exact Ext.refl _ _ | assumption) rfl rfl rfl ?_) | (refine WH.take 8 rfl (by kernel_rfl) (by kernel_rfl) (by kernel_rfl) (by kernel_rfl) rfl (by first | exact Ext.refl _ _ | assumption) (fun hq hC => ok_loadN (fun w => Tryd.isAgg30 w) (fun w => Tryd.sizeOf30 w) rfl rfl (by exact At.of_block (hC.obj hb24 nos))) rfl rfl rfl ?_))
  all_goals (first | (refine WH.pass 10 rfl (by kernel_rfl) (by kernel_rfl) (by kernel_rfl) (by kernel_rfl) rfl (by first | exact Ext.refl _ _ | assumption) rfl rfl rfl ?_) | (refine WH.take 10 rfl (by kernel_rfl) (by kernel_rfl) (by kernel_rfl) (by kernel_rfl) rfl (by first | exact Ext.refl _ _ | assumption) (fun hq hC => ok_loadN (fun w => Tryd.isAgg30 w) (fun w => Tryd.sizeOf30 w) rfl rfl (by exact At.of_block (hC.obj hb24 nos))) rfl rfl rfl ?_))
  all_goals (refine WH.one 9 (by kernel_rfl) ?_)
  all_goals (refine Comes1.call (vs := [_]) rfl rfl (fun a w => Tryd.call10 a w) rfl (k3 _ (hX4.trans hY6)) rfl rfl rfl ?_ (fun _ => by kernel_rfl)
             rintro _ h7 ⟨⟨r7, rfl, hr7⟩, hx7⟩)
  all_goals (refine ⟨fun _ => hY6.trans hx7, ?_⟩)
  all_goals (have hY7 := hY6.trans hx7)
  all_goals (refine WH.one 11 (by kernel_rfl) ?_)
  all_goals (refine Comes1.call (vs := [_]) rfl rfl (fun a w => Tryd.call11 a w) rfl (k4 _ (hX4.trans hY7)) rfl rfl rfl ?_ (fun _ => by kernel_rfl)
             rintro _ h8 ⟨⟨r8, rfl, hr8⟩, hx8⟩)
  all_goals (refine ⟨fun _ => hY7.trans hx8, ?_⟩)
  all_goals (have hY8 := hY7.trans hx8
             obtain rfl : r7 = r8 := Bool.eq_iff_iff.2 (hr7.trans hr8.symm))
  all_goals (first | (refine WH.pass 12 rfl (by kernel_rfl) (by kernel_rfl) (by kernel_rfl) (by kernel_rfl) rfl (by first | exact Ext.refl _ _ | assumption) rfl rfl rfl ?_) | (first | (refine WH.take 12 rfl (by kernel_rfl) (by kernel_rfl) (by kernel_rfl) (by kernel_rfl) rfl (by first | exact Ext.refl _ _ | assumption) (fun hq hC => OkP.bool_t (by rfl) (ok_eqlB Tryd.underlying4 rfl rfl)) rfl rfl rfl ?_) | (refine WH.take 12 rfl (by kernel_rfl) (by kernel_rfl) (by kernel_rfl) (by kernel_rfl) rfl (by first | exact Ext.refl _ _ | assumption) (fun hq hC => OkP.bool_f (by decide) (ok_eqlB Tryd.underlying4 rfl rfl)) rfl rfl rfl ?_) | (refine WH.take 12 rfl (by kernel_rfl) (by kernel_rfl) (by kernel_rfl) (by kernel_rfl) rfl (by first | exact Ext.refl _ _ | assumption) (fun hq hC => ok_eqlB Tryd.underlying4 rfl rfl) rfl rfl rfl ?_)))
  all_goals (first | (refine WH.take 13 rfl (by kernel_rfl) (by kernel_rfl) (by kernel_rfl) (by kernel_rfl) rfl (by first | exact Ext.refl _ _ | assumption) (fun hq hC => ok_pick_t rfl rfl) rfl rfl rfl ?_) | (refine WH.take 13 rfl (by kernel_rfl) (by kernel_rfl) (by kernel_rfl) (by kernel_rfl) rfl (by first | exact Ext.refl _ _ | assumption) (fun hq hC => ok_pick_f rfl rfl) rfl rfl rfl ?_))
  all_goals (refine WH.take 14 rfl (by kernel_rfl) (by kernel_rfl) (by kernel_rfl) (by kernel_rfl) rfl (by first | exact Ext.refl _ _ | assumption) (fun hq hC => ok_move rfl) rfl rfl rfl ?_)
  all_goals (try ((fail_if_success (refine WH.part 31 (b := true) rfl (fun _ => ?_) (fun _ => ?_))); (fail_if_success (refine WH.part 31 (b := false) rfl (fun _ => ?_) (fun _ => ?_))); (refine WH.part 31 rfl (fun hb => ?_) (fun hb => ?_))))
  all_goals (first | (refine WH.pass 15 rfl (by kernel_rfl) (by kernel_rfl) (by kernel_rfl) (by kernel_rfl) rfl (by first | exact Ext.refl _ _ | assumption) rfl rfl rfl ?_) | (refine WH.take 15 rfl (by kernel_rfl) (by kernel_rfl) (by kernel_rfl) (by kernel_rfl) rfl (by first | exact Ext.refl _ _ | assumption) (fun hq hC => ok_loadN (fun w => Tryd.isAgg32 w) (fun w => Tryd.sizeOf32 w) rfl rfl (by exact At.of_block (hC.obj hb34 nos))) rfl rfl rfl ?_))
  all_goals (first | (refine WH.pass 17 rfl (by kernel_rfl) (by kernel_rfl) (by kernel_rfl) (by kernel_rfl) rfl (by first | exact Ext.refl _ _ | assumption) rfl rfl rfl ?_) | (refine WH.take 17 rfl (by kernel_rfl) (by kernel_rfl) (by kernel_rfl) (by kernel_rfl) rfl (by first | exact Ext.refl _ _ | assumption) (fun hq hC => ok_loadN (fun w => Tryd.isAgg32 w) (fun w => Tryd.sizeOf32 w) rfl rfl (by exact At.of_block (hC.obj hb34 nos))) rfl rfl rfl ?_))
  all_goals (refine WH.one 16 (by kernel_rfl) ?_)
  all_goals (refine Comes1.call (vs := [_]) rfl rfl (fun a w => Tryd.call12 a w) rfl (k5 _ (hX4.trans hY8)) rfl rfl rfl ?_ (fun _ => by kernel_rfl)
             rintro _ h10 ⟨rfl, hx10⟩)
  all_goals (refine ⟨fun _ => hY8.trans hx10, ?_⟩)
  all_goals (have hY10 := hY8.trans hx10)
  all_goals (refine WH.one 18 (by kernel_rfl) ?_)
  all_goals (refine Comes1.call (vs := [_]) rfl rfl (fun a w => Tryd.call13 a w) rfl (k6 _ (hX4.trans hY10)) rfl rfl rfl ?_ (fun _ => by kernel_rfl)
             rintro _ h11 ⟨rfl, hx11⟩)
  all_goals (refine ⟨fun _ => hY10.trans hx11, ?_⟩)
  all_goals (have hY11 := hY10.trans hx11)
  all_goals (first | (refine WH.pass 19 rfl (by kernel_rfl) (by kernel_rfl) (by kernel_rfl) (by kernel_rfl) rfl (by first | exact Ext.refl _ _ | assumption) rfl rfl rfl ?_) | (first | (refine WH.take 19 rfl (by kernel_rfl) (by kernel_rfl) (by kernel_rfl) (by kernel_rfl) rfl (by first | exact Ext.refl _ _ | assumption) (fun hq hC => OkP.bool_t (by rfl) (ok_eqlB Tryd.underlying4 rfl rfl)) rfl rfl rfl ?_) | (refine WH.take 19 rfl (by kernel_rfl) (by kernel_rfl) (by kernel_rfl) (by kernel_rfl) rfl (by first | exact Ext.refl _ _ | assumption) (fun hq hC => OkP.bool_f (by decide) (ok_eqlB Tryd.underlying4 rfl rfl)) rfl rfl rfl ?_) | (refine WH.take 19 rfl (by kernel_rfl) (by kernel_rfl) (by kernel_rfl) (by kernel_rfl) rfl (by first | exact Ext.refl _ _ | assumption) (fun hq hC => ok_eqlB Tryd.underlying4 rfl rfl) rfl rfl rfl ?_)))
  all_goals (first | (refine WH.take 20 rfl (by kernel_rfl) (by kernel_rfl) (by kernel_rfl) (by kernel_rfl) rfl (by first | exact Ext.refl _ _ | assumption) (fun hq hC => ok_pick_t rfl rfl) rfl rfl rfl ?_) | (refine WH.take 20 rfl (by kernel_rfl) (by kernel_rfl) (by kernel_rfl) (by kernel_rfl) rfl (by first | exact Ext.refl _ _ | assumption) (fun hq hC => ok_pick_f rfl rfl) rfl rfl rfl ?_))
  all_goals (refine WH.take 21 rfl (by kernel_rfl) (by kernel_rfl) (by kernel_rfl) (by kernel_rfl) rfl (by first | exact Ext.refl _ _ | assumption) (fun hq hC => ok_move rfl) rfl rfl rfl ?_)
  all_goals (refine WH.one 22 (by kernel_rfl) ?_)
  all_goals (refine Comes1.call (vs := []) rfl rfl (fun a w => Tryd.call7 a w) rfl (awake47 (er.ext0 (hX4.trans hY11))) rfl rfl rfl ?_ (fun _ => by kernel_rfl)
             rintro _ h12 ⟨rfl, hx12⟩)
  all_goals (refine ⟨fun _ => hY11.trans hx12, ?_⟩)
  all_goals (have hY12 := hY11.trans hx12)
  all_goals (first | (refine WH.take 23 rfl (by kernel_rfl) (by kernel_rfl) (by kernel_rfl) (by kernel_rfl) rfl (by first | exact Ext.refl _ _ | assumption) (fun hq hC => ok_pick_t rfl rfl) rfl rfl rfl ?_) | (refine WH.take 23 rfl (by kernel_rfl) (by kernel_rfl) (by kernel_rfl) (by kernel_rfl) rfl (by first | exact Ext.refl _ _ | assumption) (fun hq hC => ok_pick_f rfl rfl) rfl rfl rfl ?_))
  all_goals (refine WH.one 24 (by kernel_rfl) ?_)
  all_goals (refine Comes1.run rfl (OkP.r (ok_assign rfl)) rfl rfl rfl ?_ (fun _ => by kernel_rfl)
             rintro _ hz ⟨rfl, _⟩
             subst hz)
  all_goals (refine ⟨fun e => (by cases e), ?_⟩)
  all_goals (refine WH.done (by kernel_rfl) ?_)
  all_goals (repeat' (with_reducible first | refine thenP_n ?_ | refine blockP_n ?_))
  all_goals (refine WC.sub [(6, _)] ⟨rfl, trivial⟩ ?_)
  all_goals (refine WC.ret ?_)
  all_goals (repeat' (with_reducible first | refine thenP_r ?_ | refine blockP_r ?_))
  all_goals (refine retP_1 _ ⟨rfl, trivial⟩ ?_)
  all_goals (first | exact ⟨rfl, hX4.trans hx9⟩ | exact ⟨rfl, (hX4.trans hY11).trans hx12⟩)

namespace LAuditChecks
open Go.ChangeShapes Go.WideShapes Go.ChangeAt Go.RowKit
open Go.ChangeMaps (open_string shut_string)
theorem own : ownKnob Tryd.prog.godebug = none := by kernel_rfl
theorem laidOut : laidOutB Tryd.prog = true := by kernel_rfl
set_option maxRecDepth 100000 in
theorem lifted (os : Os) (started : os.Started) (H : Type) (enc : TypeId × Value → H) :
    ReturnsInHanded {} Tryd.checked os 3 .any (fun w args => (Rows.auditChecksSpec.pre enc Tryd.prog Tryd.f3 [] false w args ∧ laidMetH Tryd.prog Rows.auditChecksRow.laid w) ∧ sizedMet enc Tryd.prog Tryd.f3 (OpenSpec.ofChange Rows.auditChecksSpec) false w args) (Rows.auditChecksSpec.post enc Tryd.prog Tryd.f3 false true false false) := by
  refine returnsInHanded_of_change_and (C := Tryd.checked) (X := fun w _ => laidMetH Tryd.prog Rows.auditChecksRow.laid w) (fun _ _ _ hh h => h.of_heap hh) own started (by kernel_rfl) Tryd.func3
    (ChangeSpec.witness_at (enc := enc) (C := Tryd.checked) (os := os) (X := fun w _ => laidMetH Tryd.prog Rows.auditChecksRow.laid w) false (laidWorld os) #[.agg #[(.int .i64 0), (.int .i64 0), (.int .i64 0), (.int .i64 0), (.int .i64 0), (.int .i64 0), (.slice none 0 0)], .agg #[(.slice none 0 0), (.slice none 0 0), (.slice none 0 0), (.slice none 0 0)], .agg #[(.int .i64 0), (.int .i64 0), (.int .i64 0), (.int .u8 0), (.slice none 0 0), (.slice none 0 0)]] 8 rfl (by kernel_rfl) (by kernel_rfl) (by kernel_rfl) (by kernel_rfl) (by kernel_rfl) (laidWorld_met os _)) ?_
  intro W base args ds gs before hval0 hW hcnd hsz0 hL _
  have hval : ∀ (j : Nat) t v, Tryd.f3.params[j]? = some t → args[j]? = some v → Value.okWide Tryd.prog W .any base t v := hval0
  have hsz := hsz0
  rw [Tryd.params3] at hsz
  clear hsz0
  have hW' := hW
  obtain ⟨p, q, hA0, hV, rfl, hfz, hnd⟩ := hW
  have hA : DataW.TrodAll enc Tryd.prog W 0 (fun _ => true) true Tryd.f3.params.toList args.toList ds p := hA0
  rw [Tryd.params3] at hA hval
  obtain ⟨v0, vs0, d0, ds0, p0, q0, hargs, rfl, rfl, h0, r0⟩ := trodAll_cons hA
  obtain ⟨v1, vs1, d1, ds1, p1, q1, rfl, rfl, rfl, h1, r1⟩ := trodAll_cons r0
  obtain ⟨v2, vs2, d2, ds2, p2, q2, rfl, rfl, rfl, h2, r2⟩ := trodAll_cons r1
  obtain ⟨rfl, rfl, rfl⟩ := trodAll_nil r2
  obtain rfl : args = #[v0, v1, v2] := by cases args; simp_all
  obtain ⟨rfl, rfl⟩ := trodVars_none hV
  have hz0 : ∀ n ∈ d0.weights Tryd.prog 24, n ≤ reachBytes := fun n hn => by simpa using List.all_eq_true.1 hsz n (DataW.weights_mem_each (j := 0) rfl rfl n hn)
  have k0 := h0
  have lt0 : ∀ x ∈ p0, x.block < W.heap.size := by obtain ⟨m, hm⟩ := k0; exact DataW.trod_lt m _ _ _ hm
  obtain ⟨cs0, rfl, hsz0⟩ := okWide_struct Tryd.underlying24 (hval 0 24 v0 rfl rfl)
  obtain ⟨fu0, hf0⟩ := h0
  obtain ⟨a0, e0, w0⟩ := opens_cfg W _ _ _ _ _ _ _ _ hf0 hz0
  obtain ⟨cs0⟩ := cs0
  obtain rfl := (show cs0 = _ from e0)
  have hz1 : ∀ n ∈ d1.weights Tryd.prog 30, n ≤ reachBytes := fun n hn => by simpa using List.all_eq_true.1 hsz n (DataW.weights_mem_each (j := 1) rfl rfl n hn)
  have k1 := h1
  have lt1 : ∀ x ∈ p1, x.block < W.heap.size := by obtain ⟨m, hm⟩ := k1; exact DataW.trod_lt m _ _ _ hm
  obtain ⟨cs1, rfl, hsz1⟩ := okWide_struct Tryd.underlying30 (hval 1 30 v1 rfl rfl)
  obtain ⟨fu1, hf1⟩ := h1
  obtain ⟨a1, e1, w1⟩ := opens_view W _ _ _ _ _ _ _ _ hf1 hz1
  obtain ⟨cs1⟩ := cs1
  obtain rfl := (show cs1 = _ from e1)
  have hz2 : ∀ n ∈ d2.weights Tryd.prog 32, n ≤ reachBytes := fun n hn => by simpa using List.all_eq_true.1 hsz n (DataW.weights_mem_each (j := 2) rfl rfl n hn)
  have k2 := h2
  have lt2 : ∀ x ∈ p2, x.block < W.heap.size := by obtain ⟨m, hm⟩ := k2; exact DataW.trod_lt m _ _ _ hm
  obtain ⟨cs2, rfl, hsz2⟩ := okWide_struct Tryd.underlying32 (hval 2 32 v2 rfl rfl)
  obtain ⟨fu2, hf2⟩ := h2
  obtain ⟨a2, e2, w2⟩ := opens_sv W _ _ _ _ _ _ _ _ hf2 hz2
  obtain ⟨cs2⟩ := cs2
  obtain rfl := (show cs2 = _ from e2)
  clear hA0 hval0
  refine (law_calls (checks_law a0 a1 a2 w0 w1 w2 (er_laid hL))).mono fun e W' ⟨he, bel⟩ => ?_
  subst he
  exact ⟨_, rfl, _, _, _, [], _, [], hW', trodAll_mk1 (shut_bool Tryd.underlying4 _), (trodAll_cons_mk (Below.trod laidOut (by kernel_rfl) (of_decide_eq_true (by kernel_rfl)) k0 bel lt0) (trodAll_cons_mk (Below.trod laidOut (by kernel_rfl) (of_decide_eq_true (by kernel_rfl)) k1 bel lt1) (trodAll_cons_mk (Below.trod laidOut (by kernel_rfl) (of_decide_eq_true (by kernel_rfl)) k2 bel lt2) trodAll_mk0))), rfl, bel.frame _, fun h => by cases h⟩
theorem over : Rows.auditChecksRow.holds Tryd.pinned (OpenSpec.ofChange Rows.auditChecksSpec) :=
  OpenClaim.holds_of_wide 3 Tryd.f3 rfl rfl rfl rfl rfl rfl rfl ⟨rfl, rfl, rfl, rfl, rfl⟩ rfl rfl rfl rfl rfl (by kernel_rfl) Tryd.func3 (by kernel_rfl)
    (of_decide_eq_true (by kernel_rfl)) (by unfold Func.isWrapper; first | (rw [if_pos (by decide +kernel)]; kernel_rfl) | (rw [if_neg (by decide +kernel)]; exact ⟨rfl, rfl⟩))
    (fun os started H enc _ => lifted os started H enc)
end LAuditChecks
theorem auditChecks_card : Rows.AuditChecksCardSaid :=
  Claim7.holds_tied_plain_at .later [] Rows.auditChecksCard.laidKinds true Rows.auditChecksCard.stood.harness true
    LAuditChecks.over (fun _ h => by cases h) (by kernel_rfl) (fun _ h => by cases h) auditChecks_row_tie rfl ⟨rfl, rfl⟩ (by kernel_rfl) rfl
    (fun f fn hf hfn => by
      obtain rfl : f = 3 := Option.some.inj ((show Tryd.prog.funcNamed Rows.auditChecksRow.func = some 3 by kernel_rfl).symm.trans hf) |>.symm
      obtain rfl : fn = Tryd.f3 := (Option.some.inj (Tryd.func3.symm.trans hfn)).symm
      exact ⟨by kernel_rfl, fun j t ht => by
        rw [Tryd.params3] at ht
        have hm : t ∈ [24, 30, 32] := by simpa using Array.mem_of_getElem? ht
        have hall : ([24, 30, 32].all fun u => !Tryd.prog.wantsStandIn u) = true := by kernel_rfl
        exact (show Tryd.prog.wantsStandIn t = false by simpa using List.all_eq_true.1 hall t hm)⟩)
    (by kernel_rfl)
#print axioms auditChecks_card
end Go.Proofs.YtanbpffpllgekaaDoor

