/-
  back.Check, of messages that may be: the fields of a kind; all of it.
-/
import Derived.Test.YtkpgnhhidnkmcaaGreatDoorBkChk
namespace Go.Proofs.YtkpgnhhidnkmcaaGreatDoor
open Go Go.RK

def zB (k : Int) : Bk := ⟨k, 0, [], [], [], 0, 0, .slice none 0 0, [], .slice none 0 0, [], .slice none 0 0, [], .slice none 0 0, []⟩
/-- A message with no fields but those that its body has. -/
def ofB (b : Bk) : Bk :=
  if b.kind = 83 then { zB b.kind with name := b.name, value := b.value }
  else if b.kind = 75 then { zB b.kind with n := b.n, m := b.m }
  else if b.kind = 90 then { zB b.kind with status := b.status }
  else if b.kind = 67 then { zB b.kind with tag := b.tag }
  else if b.kind = 68 then { zB b.kind with vr := b.vr, row := b.row }
  else if b.kind = 84 then { zB b.kind with vc := b.vc, cols := b.cols }
  else if b.kind = 116 then { zB b.kind with vo := b.vo, oids := b.oids }
  else if b.kind = 69 ∨ b.kind = 78 then { zB b.kind with vf := b.vf, fields := b.fields }
  else zB b.kind
theorem cels_no (h : Heap) : Cels h (.slice none 0 0) [] := ⟨Rd.nil _ _, ⟨by simp, _, _, rfl, by decide⟩, by simp⟩
theorem zB_ok (h : Heap) (k : Int) : (zB k).ok h := ⟨⟨Rd.nil _ _, by simp [zB]⟩, ⟨Rd.nil _ _, by simp [zB]⟩, cels_no h, ⟨Rd.nil _ _, by simp [zB]⟩⟩
theorem ofB_ok {h : Heap} {b : Bk} (k : b.ok h) : (ofB b).ok h := by
  obtain ⟨k1, k2, k3, k4⟩ := k
  obtain ⟨z1, z2, z3, z4⟩ := zB_ok h b.kind
  unfold ofB
  repeat' split
  all_goals first | exact ⟨z1, z2, z3, z4⟩ | exact ⟨z1, z2, k3, z4⟩ | exact ⟨z1, k2, z3, z4⟩ | exact ⟨k1, z2, z3, z4⟩ | exact ⟨z1, z2, z3, k4⟩
set_option maxHeartbeats 2000000 in
set_option maxRecDepth 100000 in
theorem of_back {h : Heap} (b : Bk) (hb : b.ok h) : CallsH Tryz.prog 106 ⟨[.agg ⟨b.cells⟩]⟩ h fun u h' => u = .agg ⟨(ofB b).cells⟩ ∧ Ext No h h' := by
  obtain ⟨k, st, t, n, v, x, y, vo, lo, vc, lc, vr, lr, vf, lf⟩ := b
  obtain ⟨⟨ho, _⟩, ⟨hc, _⟩, hr, hf, _⟩ := hb
  simp only at ho hc hr hf
  obtain ⟨A1, c1, rfl, _⟩ := id ho
  obtain ⟨A2, c2, rfl, _⟩ := id hc
  obtain ⟨_, ⟨_, A3, c3, rfl, _⟩, _⟩ := id hr
  obtain ⟨A4, c4, rfl, _⟩ := id hf
  dsimp only [Bk.cells]
  refine calls [(0, _)] Tryz.func106 rfl Tryz.ntmps106 rfl ⟨rfl, trivial⟩ ?_
  all_goals (refine WC.seq ?_)
  all_goals (refine WC.region ?_)
  all_goals (refine WL.stepR (okE_box rfl) rfl rfl rfl ?_
             rintro _ h1 ⟨b1, rfl, hg1, hb1, hx1⟩)
  all_goals (refine WL.stepR (okE_alloc (fun w => Tryz.zeroValue32 w)) rfl rfl rfl ?_
             rintro _ h2 ⟨b2, rfl, hg2, hb2, hx2⟩)
  all_goals (have hb1a := hx2.obj hb1 nos)
  all_goals (refine WL.nil ?_)
  all_goals (repeat' (with_reducible first | refine thenP_n ?_ | refine blockP_n ?_))
  all_goals (refine WC.seq ?_)
  all_goals (refine WC.region ?_)
  all_goals (refine WL.step (ok_fieldAddr rfl Tryz.underlying32 rfl (fun w => Tryz.sizeOf5 w)) rfl rfl rfl ?_)
  all_goals (refine WL.step (ok_load (fun w => Tryz.isAgg5 w) rfl (by first | assumption | exact cell_blk (by assumption) rfl)) rfl rfl rfl ?_)
  all_goals (refine WL.step (ok_buildF (vs := [_]) (cs := [_, _, _, _, _, _, _, _, _, _, _]) (fun | [a0] => [a0, (.int .u8 0), (St []), (St []), (St []), (.int .i64 0), (.int .i64 0), (.slice none 0 0), (.slice none 0 0), (.slice none 0 0), (.slice none 0 0)] | _ => []) rfl rfl (by kernel_rfl)) rfl rfl rfl ?_)
  all_goals (refine WL.stepR (okE_alloc (fun w => Tryz.zeroValue32 w)) rfl rfl rfl ?_
             rintro _ h3 ⟨b3, rfl, hg3, hb3, hx3⟩)
  all_goals (have hb1b := hx3.obj hb1a nos
             have hb2b := hx3.obj hb2 nos
             have n13 : ¬ b1 = b3 := by have := lt_of_some hb1a; omega
             have n23 : ¬ b2 = b3 := by have := lt_of_some hb2; omega)
  all_goals (refine WL.stepR0 (okE_storeW (fun w => Tryz.sizeOf32 w) rfl rfl rfl (by assumption) rfl (by simp [Value.oneCell'])) rfl rfl ?_
             rintro _ h4 ⟨hb4, hx4⟩)
  all_goals (have hb1c := hx4.obj hb1b n13
             have hb2c := hx4.obj hb2b n23
             have hX4 : Ext No h h4 := ((hx1.trans hx2).trans hx3).trans' hx4 (fun q hq e => by have := hx1.size; have := hx2.size; omega))
  all_goals (refine WL.nil ?_)
  all_goals (repeat' (with_reducible first | refine thenP_n ?_ | refine blockP_n ?_))
  all_goals (refine WC.sub [(1, _), (2, _), (3, _)] ⟨rfl, rfl, rfl, trivial⟩ ?_)
  all_goals (refine WC.seq ?_)
  all_goals (refine WC.seq ?_)
  all_goals (refine WC.region ?_)
  all_goals (refine WL.step (ok_fieldAddr rfl Tryz.underlying32 rfl (fun w => Tryz.sizeOf5 w)) rfl rfl rfl ?_)
  all_goals (refine WL.step (ok_load (fun w => Tryz.isAgg5 w) rfl (by first | assumption | exact cell_blk (by assumption) rfl)) rfl rfl rfl ?_)
  all_goals (refine WL.nil ?_)
  all_goals (repeat' (with_reducible first | refine thenP_n ?_ | refine blockP_n ?_))
  all_goals (refine WC.block ?_)
  all_goals (refine WC.seq ?_)
  all_goals (refine WC.region ?_)
  all_goals (first | (refine WL.step (OkP.bool_t (by omega) (ok_eql rfl rfl)) rfl rfl rfl ?_) | (refine WL.step (OkP.bool_f (by omega) (ok_eql rfl rfl)) rfl rfl rfl ?_) | (refine WL.step (ok_eql rfl rfl) rfl rfl rfl ?_))
  all_goals (refine WL.step (ok_assign rfl) rfl rfl rfl ?_)
  all_goals (refine WL.nil ?_)
  all_goals (repeat' (with_reducible first | refine thenP_n ?_ | refine blockP_n ?_))
  all_goals (first | refine WC.condB_t 1 rfl ?_ | refine WC.condB_f 2 rfl ?_ | (refine WC.condB 1 2 rfl (fun hb => ?_) (fun hb => ?_) <;> (first | replace hb := of_decide_eq_true hb | replace hb := of_decide_eq_false hb | replace hb := of_decide_eq_false (nt hb) | replace hb := of_decide_eq_true (nf hb) | skip)))
  all_goals (first
    | (fail_if_success (refine Br.mk (i := 1) ?_))
    | (refine Br.mk (i := 1) ?_
       all_goals (refine WC.drawH (fun h' => Ext (fun q => q = b3) h4 h') 7 8 rfl fol ?_)
       all_goals (refine WH.take 0 rfl (by kernel_rfl) (by kernel_rfl) (by kernel_rfl) (by kernel_rfl) rfl (by first | exact Ext.refl _ _ | assumption | exact hx5.trans hx6) (fun hq hC => ok_fieldAddr rfl Tryz.underlying32 rfl (fun w => Tryz.sizeOf9 w)) rfl rfl rfl ?_)
       all_goals (refine WH.take 1 rfl (by kernel_rfl) (by kernel_rfl) (by kernel_rfl) (by kernel_rfl) rfl (by first | exact Ext.refl _ _ | assumption | exact hx5.trans hx6) (fun hq hC => ok_load (fun w => Tryz.isAgg9 w) rfl (by first | exact hC.cell (by first | exact cell_blk hb1c rfl | assumption | exact cell_blk (by assumption) rfl) n13)) rfl rfl rfl ?_)
       all_goals (refine WH.take 2 rfl (by kernel_rfl) (by kernel_rfl) (by kernel_rfl) (by kernel_rfl) rfl (by first | exact Ext.refl _ _ | assumption | exact hx5.trans hx6) (fun hq hC => ok_fieldAddr rfl Tryz.underlying32 rfl (fun w => Tryz.sizeOf9 w)) rfl rfl rfl ?_)
       all_goals (refine WH.take 3 rfl (by kernel_rfl) (by kernel_rfl) (by kernel_rfl) (by kernel_rfl) rfl (by first | exact Ext.refl _ _ | assumption | exact hx5.trans hx6) (fun hq hC => ok_load (fun w => Tryz.isAgg9 w) rfl (by first | exact hC.cell (by first | exact cell_blk hb1c rfl | assumption | exact cell_blk (by assumption) rfl) n13)) rfl rfl rfl ?_)
       all_goals (refine WH.take 4 rfl (by kernel_rfl) (by kernel_rfl) (by kernel_rfl) (by kernel_rfl) rfl (by first | exact Ext.refl _ _ | assumption | exact hx5.trans hx6) (fun hq hC => ok_fieldAddr rfl Tryz.underlying32 rfl (fun w => Tryz.sizeOf9 w)) rfl rfl rfl ?_)
       all_goals (refine WH.one 5 (by kernel_rfl) ?_)
       all_goals (refine Comes1.run0 rfl (okE_store (fun w => Tryz.sizeOf9 w) rfl rfl (by assumption) (Nat.le_of_ble_eq_true rfl) rfl rfl) rfl rfl ?_ (fun _ => by kernel_rfl)
                  rintro _ h5 ⟨hb5, hx5⟩)
       all_goals (refine ⟨fun _ => hx5, ?_⟩)
       all_goals (refine WH.take 6 rfl (by kernel_rfl) (by kernel_rfl) (by kernel_rfl) (by kernel_rfl) rfl (by first | exact Ext.refl _ _ | assumption | exact hx5.trans hx6) (fun hq hC => ok_fieldAddr rfl Tryz.underlying32 rfl (fun w => Tryz.sizeOf9 w)) rfl rfl rfl ?_)
       all_goals (refine WH.one 7 (by kernel_rfl) ?_)
       all_goals (refine Comes1.run0 rfl (okE_store (fun w => Tryz.sizeOf9 w) rfl rfl (by assumption) (Nat.le_of_ble_eq_true rfl) rfl rfl) rfl rfl ?_ (fun _ => by kernel_rfl)
                  rintro _ h6 ⟨hb6, hx6⟩)
       all_goals (refine ⟨fun _ => hx5.trans hx6, ?_⟩)
       all_goals (have hE := hx5.trans hx6
                  have hb2z := hE.obj hb2c n23)
       all_goals (refine WH.done (by kernel_rfl) ?_)
       skip))
  all_goals (first
    | (fail_if_success (refine Br.mk (i := 2) ?_))
    | (refine Br.mk (i := 2) ?_
       all_goals (refine WC.seq ?_)
       all_goals (refine WC.region ?_)
       all_goals (first | (refine WL.step (OkP.bool_t (by omega) (ok_eql rfl rfl)) rfl rfl rfl ?_) | (refine WL.step (OkP.bool_f (by omega) (ok_eql rfl rfl)) rfl rfl rfl ?_) | (refine WL.step (ok_eql rfl rfl) rfl rfl rfl ?_))
       all_goals (refine WL.step (ok_assign rfl) rfl rfl rfl ?_)
       all_goals (refine WL.nil ?_)
       all_goals (repeat' (with_reducible first | refine thenP_n ?_ | refine blockP_n ?_))
       all_goals (refine WC.sub [(1, _), (2, _), (3, _), (8, _), (17, _)] ⟨rfl, rfl, rfl, rfl, rfl, trivial⟩ ?_)
       all_goals (first | refine WC.condB_t 3 rfl ?_ | refine WC.condB_f 4 rfl ?_ | (refine WC.condB 3 4 rfl (fun hb => ?_) (fun hb => ?_) <;> (first | replace hb := of_decide_eq_true hb | replace hb := of_decide_eq_false hb | replace hb := of_decide_eq_false (nt hb) | replace hb := of_decide_eq_true (nf hb) | skip)))
       all_goals (first
         | (fail_if_success (refine Br.mk (i := 3) ?_))
         | (refine Br.mk (i := 3) ?_
            all_goals (refine WC.drawH (fun h' => Ext (fun q => q = b3) h4 h') 7 8 rfl fol ?_)
            all_goals (refine WH.take 0 rfl (by kernel_rfl) (by kernel_rfl) (by kernel_rfl) (by kernel_rfl) rfl (by first | exact Ext.refl _ _ | assumption | exact hx5.trans hx6) (fun hq hC => ok_fieldAddr rfl Tryz.underlying32 rfl (fun w => Tryz.sizeOf3 w)) rfl rfl rfl ?_)
            all_goals (refine WH.take 1 rfl (by kernel_rfl) (by kernel_rfl) (by kernel_rfl) (by kernel_rfl) rfl (by first | exact Ext.refl _ _ | assumption | exact hx5.trans hx6) (fun hq hC => ok_load (fun w => Tryz.isAgg3 w) rfl (by first | exact hC.cell (by first | exact cell_blk hb1c rfl | assumption | exact cell_blk (by assumption) rfl) n13)) rfl rfl rfl ?_)
            all_goals (refine WH.take 2 rfl (by kernel_rfl) (by kernel_rfl) (by kernel_rfl) (by kernel_rfl) rfl (by first | exact Ext.refl _ _ | assumption | exact hx5.trans hx6) (fun hq hC => ok_fieldAddr rfl Tryz.underlying32 rfl (fun w => Tryz.sizeOf3 w)) rfl rfl rfl ?_)
            all_goals (refine WH.take 3 rfl (by kernel_rfl) (by kernel_rfl) (by kernel_rfl) (by kernel_rfl) rfl (by first | exact Ext.refl _ _ | assumption | exact hx5.trans hx6) (fun hq hC => ok_load (fun w => Tryz.isAgg3 w) rfl (by first | exact hC.cell (by first | exact cell_blk hb1c rfl | assumption | exact cell_blk (by assumption) rfl) n13)) rfl rfl rfl ?_)
            all_goals (refine WH.take 4 rfl (by kernel_rfl) (by kernel_rfl) (by kernel_rfl) (by kernel_rfl) rfl (by first | exact Ext.refl _ _ | assumption | exact hx5.trans hx6) (fun hq hC => ok_fieldAddr rfl Tryz.underlying32 rfl (fun w => Tryz.sizeOf3 w)) rfl rfl rfl ?_)
            all_goals (refine WH.one 5 (by kernel_rfl) ?_)
            all_goals (refine Comes1.run0 rfl (okE_store (fun w => Tryz.sizeOf3 w) rfl rfl (by assumption) (Nat.le_of_ble_eq_true rfl) rfl rfl) rfl rfl ?_ (fun _ => by kernel_rfl)
                       rintro _ h5 ⟨hb5, hx5⟩)
            all_goals (refine ⟨fun _ => hx5, ?_⟩)
            all_goals (refine WH.take 6 rfl (by kernel_rfl) (by kernel_rfl) (by kernel_rfl) (by kernel_rfl) rfl (by first | exact Ext.refl _ _ | assumption | exact hx5.trans hx6) (fun hq hC => ok_fieldAddr rfl Tryz.underlying32 rfl (fun w => Tryz.sizeOf3 w)) rfl rfl rfl ?_)
            all_goals (refine WH.one 7 (by kernel_rfl) ?_)
            all_goals (refine Comes1.run0 rfl (okE_store (fun w => Tryz.sizeOf3 w) rfl rfl (by assumption) (Nat.le_of_ble_eq_true rfl) rfl rfl) rfl rfl ?_ (fun _ => by kernel_rfl)
                       rintro _ h6 ⟨hb6, hx6⟩)
            all_goals (refine ⟨fun _ => hx5.trans hx6, ?_⟩)
            all_goals (have hE := hx5.trans hx6
                       have hb2z := hE.obj hb2c n23)
            all_goals (refine WH.done (by kernel_rfl) ?_)
            skip))
       all_goals (first
         | (fail_if_success (refine Br.mk (i := 4) ?_))
         | (refine Br.mk (i := 4) ?_
            all_goals (refine WC.seq ?_)
            all_goals (refine WC.region ?_)
            all_goals (first | (refine WL.step (OkP.bool_t (by omega) (ok_eql rfl rfl)) rfl rfl rfl ?_) | (refine WL.step (OkP.bool_f (by omega) (ok_eql rfl rfl)) rfl rfl rfl ?_) | (refine WL.step (ok_eql rfl rfl) rfl rfl rfl ?_))
            all_goals (refine WL.step (ok_assign rfl) rfl rfl rfl ?_)
            all_goals (refine WL.nil ?_)
            all_goals (repeat' (with_reducible first | refine thenP_n ?_ | refine blockP_n ?_))
            all_goals (first | refine WC.condB_t 5 rfl ?_ | refine WC.condB_f 6 rfl ?_ | (refine WC.condB 5 6 rfl (fun hb => ?_) (fun hb => ?_) <;> (first | replace hb := of_decide_eq_true hb | replace hb := of_decide_eq_false hb | replace hb := of_decide_eq_false (nt hb) | replace hb := of_decide_eq_true (nf hb) | skip)))
            all_goals (first
              | (fail_if_success (refine Br.mk (i := 5) ?_))
              | (refine Br.mk (i := 5) ?_
                 all_goals (refine WC.region ?_)
                 all_goals (refine WL.step (ok_fieldAddr rfl Tryz.underlying32 rfl (fun w => Tryz.sizeOf5 w)) rfl rfl rfl ?_)
                 all_goals (refine WL.step (ok_load (fun w => Tryz.isAgg5 w) rfl (by first | assumption | exact cell_blk (by assumption) rfl)) rfl rfl rfl ?_)
                 all_goals (refine WL.step (ok_fieldAddr rfl Tryz.underlying32 rfl (fun w => Tryz.sizeOf5 w)) rfl rfl rfl ?_)
                 all_goals (refine WL.stepR0 (okE_store (fun w => Tryz.sizeOf5 w) rfl rfl (by assumption) (Nat.le_of_ble_eq_true rfl) rfl rfl) rfl rfl ?_
                            rintro _ h5 ⟨hb5, hE⟩)
                 all_goals (have hb2z := hE.obj hb2c n23)
                 all_goals (refine WL.nil ?_)
                 skip))
            all_goals (first
              | (fail_if_success (refine Br.mk (i := 6) ?_))
              | (refine Br.mk (i := 6) ?_
                 all_goals (refine WC.seq ?_)
                 all_goals (refine WC.region ?_)
                 all_goals (first | (refine WL.step (OkP.bool_t (by omega) (ok_eql rfl rfl)) rfl rfl rfl ?_) | (refine WL.step (OkP.bool_f (by omega) (ok_eql rfl rfl)) rfl rfl rfl ?_) | (refine WL.step (ok_eql rfl rfl) rfl rfl rfl ?_))
                 all_goals (refine WL.step (ok_assign rfl) rfl rfl rfl ?_)
                 all_goals (refine WL.nil ?_)
                 all_goals (repeat' (with_reducible first | refine thenP_n ?_ | refine blockP_n ?_))
                 all_goals (refine WC.sub [(1, _), (2, _), (3, _), (8, _), (30, _)] ⟨rfl, rfl, rfl, rfl, rfl, trivial⟩ ?_)
                 all_goals (first | refine WC.condB_t 7 rfl ?_ | refine WC.condB_f 8 rfl ?_ | (refine WC.condB 7 8 rfl (fun hb => ?_) (fun hb => ?_) <;> (first | replace hb := of_decide_eq_true hb | replace hb := of_decide_eq_false hb | replace hb := of_decide_eq_false (nt hb) | replace hb := of_decide_eq_true (nf hb) | skip)))
                 all_goals (first
                   | (fail_if_success (refine Br.mk (i := 7) ?_))
                   | (refine Br.mk (i := 7) ?_
                      all_goals (refine WC.region ?_)
                      all_goals (refine WL.step (ok_fieldAddr rfl Tryz.underlying32 rfl (fun w => Tryz.sizeOf9 w)) rfl rfl rfl ?_)
                      all_goals (refine WL.step (ok_load (fun w => Tryz.isAgg9 w) rfl (by first | assumption | exact cell_blk (by assumption) rfl)) rfl rfl rfl ?_)
                      all_goals (refine WL.step (ok_fieldAddr rfl Tryz.underlying32 rfl (fun w => Tryz.sizeOf9 w)) rfl rfl rfl ?_)
                      all_goals (refine WL.stepR0 (okE_store (fun w => Tryz.sizeOf9 w) rfl rfl (by assumption) (Nat.le_of_ble_eq_true rfl) rfl rfl) rfl rfl ?_
                                 rintro _ h5 ⟨hb5, hE⟩)
                      all_goals (have hb2z := hE.obj hb2c n23)
                      all_goals (refine WL.nil ?_)
                      skip))
                 all_goals (first
                   | (fail_if_success (refine Br.mk (i := 8) ?_))
                   | (refine Br.mk (i := 8) ?_
                      all_goals (refine WC.seq ?_)
                      all_goals (refine WC.region ?_)
                      all_goals (first | (refine WL.step (OkP.bool_t (by omega) (ok_eql rfl rfl)) rfl rfl rfl ?_) | (refine WL.step (OkP.bool_f (by omega) (ok_eql rfl rfl)) rfl rfl rfl ?_) | (refine WL.step (ok_eql rfl rfl) rfl rfl rfl ?_))
                      all_goals (refine WL.step (ok_assign rfl) rfl rfl rfl ?_)
                      all_goals (refine WL.nil ?_)
                      all_goals (repeat' (with_reducible first | refine thenP_n ?_ | refine blockP_n ?_))
                      all_goals (first | refine WC.condB_t 9 rfl ?_ | refine WC.condB_f 10 rfl ?_ | (refine WC.condB 9 10 rfl (fun hb => ?_) (fun hb => ?_) <;> (first | replace hb := of_decide_eq_true hb | replace hb := of_decide_eq_false hb | replace hb := of_decide_eq_false (nt hb) | replace hb := of_decide_eq_true (nf hb) | skip)))
                      all_goals (first
                        | (fail_if_success (refine Br.mk (i := 9) ?_))
                        | (refine Br.mk (i := 9) ?_
                           all_goals (refine WC.region ?_)
                           all_goals (refine WL.step (ok_fieldAddr rfl Tryz.underlying32 rfl (fun w => Tryz.sizeOf29 w)) rfl rfl rfl ?_)
                           all_goals (refine WL.step (ok_load (fun w => Tryz.isAgg29 w) rfl (by first | assumption | exact cell_blk (by assumption) rfl)) rfl rfl rfl ?_)
                           all_goals (refine WL.step (ok_fieldAddr rfl Tryz.underlying32 rfl (fun w => Tryz.sizeOf29 w)) rfl rfl rfl ?_)
                           all_goals (refine WL.stepR0 (okE_store (fun w => Tryz.sizeOf29 w) rfl rfl (by assumption) (Nat.le_of_ble_eq_true rfl) rfl rfl) rfl rfl ?_
                                      rintro _ h5 ⟨hb5, hE⟩)
                           all_goals (have hb2z := hE.obj hb2c n23)
                           all_goals (refine WL.nil ?_)
                           skip))
                      all_goals (first
                        | (fail_if_success (refine Br.mk (i := 10) ?_))
                        | (refine Br.mk (i := 10) ?_
                           all_goals (refine WC.seq ?_)
                           all_goals (refine WC.region ?_)
                           all_goals (first | (refine WL.step (OkP.bool_t (by omega) (ok_eql rfl rfl)) rfl rfl rfl ?_) | (refine WL.step (OkP.bool_f (by omega) (ok_eql rfl rfl)) rfl rfl rfl ?_) | (refine WL.step (ok_eql rfl rfl) rfl rfl rfl ?_))
                           all_goals (refine WL.step (ok_assign rfl) rfl rfl rfl ?_)
                           all_goals (refine WL.nil ?_)
                           all_goals (repeat' (with_reducible first | refine thenP_n ?_ | refine blockP_n ?_))
                           all_goals (refine WC.sub [(1, _), (2, _), (3, _), (8, _), (40, _)] ⟨rfl, rfl, rfl, rfl, rfl, trivial⟩ ?_)
                           all_goals (first | refine WC.condB_t 11 rfl ?_ | refine WC.condB_f 12 rfl ?_ | (refine WC.condB 11 12 rfl (fun hb => ?_) (fun hb => ?_) <;> (first | replace hb := of_decide_eq_true hb | replace hb := of_decide_eq_false hb | replace hb := of_decide_eq_false (nt hb) | replace hb := of_decide_eq_true (nf hb) | skip)))
                           all_goals (first
                             | (fail_if_success (refine Br.mk (i := 11) ?_))
                             | (refine Br.mk (i := 11) ?_
                                all_goals (refine WC.region ?_)
                                all_goals (refine WL.step (ok_fieldAddr rfl Tryz.underlying32 rfl (fun w => Tryz.sizeOf28 w)) rfl rfl rfl ?_)
                                all_goals (refine WL.step (ok_load (fun w => Tryz.isAgg28 w) rfl (by first | assumption | exact cell_blk (by assumption) rfl)) rfl rfl rfl ?_)
                                all_goals (refine WL.step (ok_fieldAddr rfl Tryz.underlying32 rfl (fun w => Tryz.sizeOf28 w)) rfl rfl rfl ?_)
                                all_goals (refine WL.stepR0 (okE_store (fun w => Tryz.sizeOf28 w) rfl rfl (by assumption) (Nat.le_of_ble_eq_true rfl) rfl rfl) rfl rfl ?_
                                           rintro _ h5 ⟨hb5, hE⟩)
                                all_goals (have hb2z := hE.obj hb2c n23)
                                all_goals (refine WL.nil ?_)
                                skip))
                           all_goals (first
                             | (fail_if_success (refine Br.mk (i := 12) ?_))
                             | (refine Br.mk (i := 12) ?_
                                all_goals (refine WC.seq ?_)
                                all_goals (refine WC.region ?_)
                                all_goals (first | (refine WL.step (OkP.bool_t (by omega) (ok_eql rfl rfl)) rfl rfl rfl ?_) | (refine WL.step (OkP.bool_f (by omega) (ok_eql rfl rfl)) rfl rfl rfl ?_) | (refine WL.step (ok_eql rfl rfl) rfl rfl rfl ?_))
                                all_goals (refine WL.step (ok_assign rfl) rfl rfl rfl ?_)
                                all_goals (refine WL.nil ?_)
                                all_goals (repeat' (with_reducible first | refine thenP_n ?_ | refine blockP_n ?_))
                                all_goals (first | refine WC.condB_t 13 rfl ?_ | refine WC.condB_f 14 rfl ?_ | (refine WC.condB 13 14 rfl (fun hb => ?_) (fun hb => ?_) <;> (first | replace hb := of_decide_eq_true hb | replace hb := of_decide_eq_false hb | replace hb := of_decide_eq_false (nt hb) | replace hb := of_decide_eq_true (nf hb) | skip)))
                                all_goals (first
                                  | (fail_if_success (refine Br.mk (i := 13) ?_))
                                  | (refine Br.mk (i := 13) ?_
                                     all_goals (refine WC.region ?_)
                                     all_goals (refine WL.step (ok_fieldAddr rfl Tryz.underlying32 rfl (fun w => Tryz.sizeOf27 w)) rfl rfl rfl ?_)
                                     all_goals (refine WL.step (ok_load (fun w => Tryz.isAgg27 w) rfl (by first | assumption | exact cell_blk (by assumption) rfl)) rfl rfl rfl ?_)
                                     all_goals (refine WL.step (ok_fieldAddr rfl Tryz.underlying32 rfl (fun w => Tryz.sizeOf27 w)) rfl rfl rfl ?_)
                                     all_goals (refine WL.stepR0 (okE_store (fun w => Tryz.sizeOf27 w) rfl rfl (by assumption) (Nat.le_of_ble_eq_true rfl) rfl rfl) rfl rfl ?_
                                                rintro _ h5 ⟨hb5, hE⟩)
                                     all_goals (have hb2z := hE.obj hb2c n23)
                                     all_goals (refine WL.nil ?_)
                                     skip))
                                all_goals (first
                                  | (fail_if_success (refine Br.mk (i := 14) ?_))
                                  | (refine Br.mk (i := 14) ?_
                                     all_goals (refine WC.seq ?_)
                                     all_goals (refine WC.seq ?_)
                                     all_goals (refine WC.region ?_)
                                     all_goals (first | (refine WL.step (OkP.bool_t (by omega) (ok_eql rfl rfl)) rfl rfl rfl ?_) | (refine WL.step (OkP.bool_f (by omega) (ok_eql rfl rfl)) rfl rfl rfl ?_) | (refine WL.step (ok_eql rfl rfl) rfl rfl rfl ?_))
                                     all_goals (refine WL.step (ok_assign rfl) rfl rfl rfl ?_)
                                     all_goals (refine WL.nil ?_)
                                     all_goals (repeat' (with_reducible first | refine thenP_n ?_ | refine blockP_n ?_))
                                     all_goals (refine WC.sub [(1, _), (2, _), (3, _), (8, _), (50, _)] ⟨rfl, rfl, rfl, rfl, rfl, trivial⟩ ?_)
                                     all_goals (first | refine WC.condB_t 15 rfl ?_ | refine WC.condB_f 16 rfl ?_ | (refine WC.condB 15 16 rfl (fun hb => ?_) (fun hb => ?_) <;> (first | replace hb := of_decide_eq_true hb | replace hb := of_decide_eq_false hb | replace hb := of_decide_eq_false (nt hb) | replace hb := of_decide_eq_true (nf hb) | skip)))
                                     all_goals (first
                                       | (fail_if_success (refine Br.mk (i := 15) ?_))
                                       | (refine Br.mk (i := 15) ?_
                                          all_goals (refine WC.skip ?_)
                                          skip))
                                     all_goals (first
                                       | (fail_if_success (refine Br.mk (i := 16) ?_))
                                       | (refine Br.mk (i := 16) ?_
                                          all_goals (refine WC.region ?_)
                                          all_goals (first | (refine WL.step (OkP.bool_t (by omega) (ok_eql rfl rfl)) rfl rfl rfl ?_) | (refine WL.step (OkP.bool_f (by omega) (ok_eql rfl rfl)) rfl rfl rfl ?_) | (refine WL.step (ok_eql rfl rfl) rfl rfl rfl ?_))
                                          all_goals (refine WL.step (ok_assign rfl) rfl rfl rfl ?_)
                                          all_goals (refine WL.nil ?_)
                                          skip))
                                     all_goals (repeat' (with_reducible first | refine thenP_n ?_ | refine blockP_n ?_))
                                     all_goals (first | refine WC.condB_t 17 rfl ?_ | refine WC.condB_f 18 rfl ?_ | (refine WC.condB 17 18 rfl (fun hb => ?_) (fun hb => ?_) <;> (first | replace hb := of_decide_eq_true hb | replace hb := of_decide_eq_false hb | replace hb := of_decide_eq_false (nt hb) | replace hb := of_decide_eq_true (nf hb) | skip)))
                                     all_goals (first
                                       | (fail_if_success (refine Br.mk (i := 17) ?_))
                                       | (refine Br.mk (i := 17) ?_
                                          all_goals (refine WC.region ?_)
                                          all_goals (refine WL.step (ok_fieldAddr rfl Tryz.underlying32 rfl (fun w => Tryz.sizeOf30 w)) rfl rfl rfl ?_)
                                          all_goals (refine WL.step (ok_load (fun w => Tryz.isAgg30 w) rfl (by first | assumption | exact cell_blk (by assumption) rfl)) rfl rfl rfl ?_)
                                          all_goals (refine WL.step (ok_fieldAddr rfl Tryz.underlying32 rfl (fun w => Tryz.sizeOf30 w)) rfl rfl rfl ?_)
                                          all_goals (refine WL.stepR0 (okE_store (fun w => Tryz.sizeOf30 w) rfl rfl (by assumption) (Nat.le_of_ble_eq_true rfl) rfl rfl) rfl rfl ?_
                                                     rintro _ h5 ⟨hb5, hE⟩)
                                          all_goals (have hb2z := hE.obj hb2c n23)
                                          all_goals (refine WL.nil ?_)
                                          skip))
                                     all_goals (first
                                       | (fail_if_success (refine Br.mk (i := 18) ?_))
                                       | (refine Br.mk (i := 18) ?_
                                          all_goals (refine WC.skip ?_)
                                          skip))
                                     skip))
                                skip))
                           skip))
                      skip))
                 skip))
            skip))
       skip))
  all_goals (repeat' (with_reducible first | refine thenP_n ?_ | refine blockP_n ?_))
  all_goals (refine WC.seq ?_)
  all_goals (refine WC.region ?_)
  all_goals (refine WL.step (ok_loadN (fun w => Tryz.isAgg32 w) (fun w => Tryz.sizeOf32 w) rfl rfl (by exact (by first | exact At.of_block hb6 | exact At.of_block hb5 | exact At.of_block hb4))) rfl rfl rfl ?_)
  all_goals (refine WL.stepR0 (okE_storeW (fun w => Tryz.sizeOf32 w) rfl rfl rfl (by first | exact hb2z | exact hb2c) rfl (by simp [Value.oneCell'])) rfl rfl ?_
             rintro _ h9 ⟨hb9, hx9⟩)
  all_goals (refine WL.nil ?_)
  all_goals (repeat' (with_reducible first | refine thenP_n ?_ | refine blockP_n ?_))
  all_goals (refine WC.sub [(2, _)] ⟨rfl, trivial⟩ ?_)
  all_goals (refine WC.ret ?_)
  all_goals (repeat' (with_reducible first | refine thenP_r ?_ | refine blockP_r ?_))
  all_goals (refine retP_1 _ ⟨⟨_, rfl, ld_blk (fun w => Tryz.isAgg32 w) (fun w => Tryz.sizeOf32 w) (by assumption) rfl⟩, trivial⟩ ?_)
  all_goals (have hs1 := hx1.size
             have hs2 := hx2.size
             refine ⟨?_, by first | exact (hX4.trans' hE (fun q hq e => by omega)).trans' hx9 (fun q hq e => by omega) | exact hX4.trans' hx9 (fun q hq e => by omega)⟩
             first
              | (exfalso; omega)
              | (simp only [ofB, if_pos, *]; rfl)
              | (simp [ofB, zB, Bk.cells, *]; done))
/-! ### Check -/
def kindsB : List UInt8 := [82, 83, 75, 90, 49, 50, 51, 110, 115, 73, 67, 68, 84, 116, 69, 78]
set_option maxRecDepth 100000 in
theorem known_back {h : Heap} (k : UInt8) (hk : kindsB.contains k = true) : CallsH Tryz.prog 95 ⟨[By k]⟩ h fun u h' => u = .bool true ∧ Ext No h h' := by
  have e1 := Lib.contains_iff_indexByte [82, 83, 75, 90, 49, 50, 51, 110, 115, 73, 67, 68, 84, 116, 69, 78] k
  rw [show ([82, 83, 75, 90, 49, 50, 51, 110, 115, 73, 67, 68, 84, 116, 69, 78] : List UInt8).contains k = true from hk] at e1
  refine calls [(0, _)] Tryz.func95 rfl Tryz.ntmps95 rfl ⟨rfl, trivial⟩ ?_
  all_goals (refine WC.seq ?_)
  all_goals (refine WC.region ?_)
  all_goals (refine WL.step (ok_assign rfl) rfl rfl rfl ?_)
  all_goals (refine WL.nil ?_)
  all_goals (repeat' (with_reducible first | refine thenP_n ?_ | refine blockP_n ?_))
  all_goals (refine WC.seq ?_)
  all_goals (refine WC.region ?_)
  all_goals (refine WL.stepR (okE_buildSlice (vs := [_, _, _, _, _, _, _, _, _, _, _, _, _, _, _, _]) (cs := [_, _, _, _, _, _, _, _, _, _, _, _, _, _, _, _]) (fun | [a0, a1, a2, a3, a4, a5, a6, a7, a8, a9, a10, a11, a12, a13, a14, a15] => [a0, a1, a2, a3, a4, a5, a6, a7, a8, a9, a10, a11, a12, a13, a14, a15] | _ => []) Tryz.underlying24 rfl rfl (by kernel_rfl)) rfl rfl rfl ?_
             rintro _ h1 ⟨b1, rfl, hg1, hb1, hx1⟩)
  all_goals (refine WL.stepR (okE_convSS Tryz.underlying24 Tryz.underlying5 rfl (by assumption)) rfl rfl rfl ?_
             rintro _ h2 ⟨rfl, ⟨z2, hb2⟩, hx2⟩)
  all_goals (refine WL.step (ok_move rfl) rfl rfl rfl ?_)
  all_goals (refine WL.call (vs := [_, _]) rfl (fun a w => Tryz.call124 a w) rfl (indexByte_bys [82, 83, 75, 90, 49, 50, 51, 110, 115, 73, 67, 68, 84, 116, 69, 78] k (rd_blk hb2 rfl) (by simp)) rfl rfl rfl ?_
             rintro _ hz ⟨rfl, _⟩
             subst hz)
  all_goals (refine WL.step (OkP.bool_t (of_decide_eq_true e1.symm) (ok_geq rfl rfl)) rfl rfl rfl ?_)
  all_goals (refine WL.step (ok_assign rfl) rfl rfl rfl ?_)
  all_goals (refine WL.nil ?_)
  all_goals (repeat' (with_reducible first | refine thenP_n ?_ | refine blockP_n ?_))
  all_goals (refine WC.sub [(2, _)] ⟨rfl, trivial⟩ ?_)
  all_goals (refine WC.ret ?_)
  all_goals (repeat' (with_reducible first | refine thenP_r ?_ | refine blockP_r ?_))
  all_goals (refine retP_1 _ ⟨rfl, trivial⟩ ?_)
  all_goals (exact ⟨rfl, hx1.trans' hx2 (fun q hq e => by omega)⟩)
def Bk.stOk (b : Bk) : Prop := b.kind ≠ 90 ∨ b.status = 73 ∨ b.status = 84 ∨ b.status = 69
set_option maxRecDepth 100000 in
theorem status_ok {h : Heap} (b : Bk) (hb : b.ok h) (hs : b.stOk) : CallsH Tryz.prog 105 ⟨[.agg ⟨b.cells⟩]⟩ h fun u h' => u = .bool true ∧ Ext No h h' := by
  obtain ⟨k, st, t, n, v, x, y, vo, lo, vc, lc, vr, lr, vf, lf⟩ := b
  simp only [Bk.stOk] at hs
  dsimp only [Bk.cells]
  by_cases hk : k = 90
  · subst hk
    simp only [ne_eq, not_true_eq_false, false_or] at hs
    rcases hs with rfl | rfl | rfl
    all_goals
      refine calls [(0, _)] Tryz.func105 rfl Tryz.ntmps105 rfl ⟨rfl, trivial⟩ ?_
      all_goals (refine WC.seq ?_)
      all_goals (refine WC.region ?_)
      all_goals (refine WL.stepR (okE_box rfl) rfl rfl rfl ?_
                 rintro _ h1 ⟨b1, rfl, hg1, hb1, hx1⟩)
      all_goals (refine WL.step (ok_assign rfl) rfl rfl rfl ?_)
      all_goals (refine WL.nil ?_)
      all_goals (repeat' (with_reducible first | refine thenP_n ?_ | refine blockP_n ?_))
      all_goals (refine WC.seq ?_)
      all_goals (refine WC.region ?_)
      all_goals (refine WL.step (ok_fieldAddr rfl Tryz.underlying32 rfl (fun w => Tryz.sizeOf5 w)) rfl rfl rfl ?_)
      all_goals (refine WL.step (ok_load (fun w => Tryz.isAgg5 w) rfl (by first | assumption | exact cell_blk (by assumption) rfl)) rfl rfl rfl ?_)
      all_goals (first | (refine WL.step (OkP.nbool_t (by omega) (ok_neq rfl rfl)) rfl rfl rfl ?_) | (refine WL.step (OkP.nbool_f (by omega) (ok_neq rfl rfl)) rfl rfl rfl ?_) | (refine WL.step (ok_neq rfl rfl) rfl rfl rfl ?_))
      all_goals (refine WL.step (ok_move rfl) rfl rfl rfl ?_)
      all_goals (try ((fail_if_success (refine WL.part 6 (b := true) rfl (fun _ => ?_) (fun _ => ?_))); (fail_if_success (refine WL.part 6 (b := false) rfl (fun _ => ?_) (fun _ => ?_))); (refine WL.part 6 rfl (fun hb => ?_) (fun hb => ?_) <;> (first | replace hb := of_decide_eq_true hb | replace hb := of_decide_eq_false hb | replace hb := of_decide_eq_false (nt hb) | replace hb := of_decide_eq_true (nf hb) | skip))))
      all_goals (first | (refine WL.pass rfl rfl rfl ?_) | (refine WL.step (ok_fieldAddr rfl Tryz.underlying32 rfl (fun w => Tryz.sizeOf5 w)) rfl rfl rfl ?_))
      all_goals (first | (refine WL.pass rfl rfl rfl ?_) | (refine WL.step (ok_load (fun w => Tryz.isAgg5 w) rfl (by first | assumption | exact cell_blk (by assumption) rfl)) rfl rfl rfl ?_))
      all_goals (first | (refine WL.pass rfl rfl rfl ?_) | (first | (refine WL.step (OkP.bool_t (by omega) (ok_eql rfl rfl)) rfl rfl rfl ?_) | (refine WL.step (OkP.bool_f (by omega) (ok_eql rfl rfl)) rfl rfl rfl ?_) | (refine WL.step (ok_eql rfl rfl) rfl rfl rfl ?_)))
      all_goals (first | (refine WL.step (ok_pick_t rfl rfl) rfl rfl rfl ?_) | (refine WL.step (ok_pick_f rfl rfl) rfl rfl rfl ?_))
      all_goals (refine WL.step (ok_move rfl) rfl rfl rfl ?_)
      all_goals (try ((fail_if_success (refine WL.part 11 (b := true) rfl (fun _ => ?_) (fun _ => ?_))); (fail_if_success (refine WL.part 11 (b := false) rfl (fun _ => ?_) (fun _ => ?_))); (refine WL.part 11 rfl (fun hb => ?_) (fun hb => ?_) <;> (first | replace hb := of_decide_eq_true hb | replace hb := of_decide_eq_false hb | replace hb := of_decide_eq_false (nt hb) | replace hb := of_decide_eq_true (nf hb) | skip))))
      all_goals (first | (refine WL.pass rfl rfl rfl ?_) | (refine WL.step (ok_fieldAddr rfl Tryz.underlying32 rfl (fun w => Tryz.sizeOf5 w)) rfl rfl rfl ?_))
      all_goals (first | (refine WL.pass rfl rfl rfl ?_) | (refine WL.step (ok_load (fun w => Tryz.isAgg5 w) rfl (by first | assumption | exact cell_blk (by assumption) rfl)) rfl rfl rfl ?_))
      all_goals (first | (refine WL.pass rfl rfl rfl ?_) | (first | (refine WL.step (OkP.bool_t (by omega) (ok_eql rfl rfl)) rfl rfl rfl ?_) | (refine WL.step (OkP.bool_f (by omega) (ok_eql rfl rfl)) rfl rfl rfl ?_) | (refine WL.step (ok_eql rfl rfl) rfl rfl rfl ?_)))
      all_goals (first | (refine WL.step (ok_pick_t rfl rfl) rfl rfl rfl ?_) | (refine WL.step (ok_pick_f rfl rfl) rfl rfl rfl ?_))
      all_goals (refine WL.step (ok_move rfl) rfl rfl rfl ?_)
      all_goals (try ((fail_if_success (refine WL.part 16 (b := true) rfl (fun _ => ?_) (fun _ => ?_))); (fail_if_success (refine WL.part 16 (b := false) rfl (fun _ => ?_) (fun _ => ?_))); (refine WL.part 16 rfl (fun hb => ?_) (fun hb => ?_) <;> (first | replace hb := of_decide_eq_true hb | replace hb := of_decide_eq_false hb | replace hb := of_decide_eq_false (nt hb) | replace hb := of_decide_eq_true (nf hb) | skip))))
      all_goals (first | (refine WL.pass rfl rfl rfl ?_) | (refine WL.step (ok_fieldAddr rfl Tryz.underlying32 rfl (fun w => Tryz.sizeOf5 w)) rfl rfl rfl ?_))
      all_goals (first | (refine WL.pass rfl rfl rfl ?_) | (refine WL.step (ok_load (fun w => Tryz.isAgg5 w) rfl (by first | assumption | exact cell_blk (by assumption) rfl)) rfl rfl rfl ?_))
      all_goals (first | (refine WL.pass rfl rfl rfl ?_) | (first | (refine WL.step (OkP.bool_t (by omega) (ok_eql rfl rfl)) rfl rfl rfl ?_) | (refine WL.step (OkP.bool_f (by omega) (ok_eql rfl rfl)) rfl rfl rfl ?_) | (refine WL.step (ok_eql rfl rfl) rfl rfl rfl ?_)))
      all_goals (first | (refine WL.step (ok_pick_t rfl rfl) rfl rfl rfl ?_) | (refine WL.step (ok_pick_f rfl rfl) rfl rfl rfl ?_))
      all_goals (refine WL.step (ok_assign rfl) rfl rfl rfl ?_)
      all_goals (refine WL.nil ?_)
      all_goals (repeat' (with_reducible first | refine thenP_n ?_ | refine blockP_n ?_))
      all_goals (refine WC.sub [(2, _)] ⟨rfl, trivial⟩ ?_)
      all_goals (refine WC.ret ?_)
      all_goals (repeat' (with_reducible first | refine thenP_r ?_ | refine blockP_r ?_))
      all_goals (refine retP_1 _ ⟨rfl, trivial⟩ ?_)
      all_goals (exact ⟨rfl, hx1⟩)
  ·
    refine calls [(0, _)] Tryz.func105 rfl Tryz.ntmps105 rfl ⟨rfl, trivial⟩ ?_
    all_goals (refine WC.seq ?_)
    all_goals (refine WC.region ?_)
    all_goals (refine WL.stepR (okE_box rfl) rfl rfl rfl ?_
               rintro _ h1 ⟨b1, rfl, hg1, hb1, hx1⟩)
    all_goals (refine WL.step (ok_assign rfl) rfl rfl rfl ?_)
    all_goals (refine WL.nil ?_)
    all_goals (repeat' (with_reducible first | refine thenP_n ?_ | refine blockP_n ?_))
    all_goals (refine WC.seq ?_)
    all_goals (refine WC.region ?_)
    all_goals (refine WL.step (ok_fieldAddr rfl Tryz.underlying32 rfl (fun w => Tryz.sizeOf5 w)) rfl rfl rfl ?_)
    all_goals (refine WL.step (ok_load (fun w => Tryz.isAgg5 w) rfl (by first | assumption | exact cell_blk (by assumption) rfl)) rfl rfl rfl ?_)
    all_goals (first | (refine WL.step (OkP.nbool_t (by omega) (ok_neq rfl rfl)) rfl rfl rfl ?_) | (refine WL.step (OkP.nbool_f (by omega) (ok_neq rfl rfl)) rfl rfl rfl ?_) | (refine WL.step (ok_neq rfl rfl) rfl rfl rfl ?_))
    all_goals (refine WL.step (ok_move rfl) rfl rfl rfl ?_)
    all_goals (try ((fail_if_success (refine WL.part 6 (b := true) rfl (fun _ => ?_) (fun _ => ?_))); (fail_if_success (refine WL.part 6 (b := false) rfl (fun _ => ?_) (fun _ => ?_))); (refine WL.part 6 rfl (fun hb => ?_) (fun hb => ?_) <;> (first | replace hb := of_decide_eq_true hb | replace hb := of_decide_eq_false hb | replace hb := of_decide_eq_false (nt hb) | replace hb := of_decide_eq_true (nf hb) | skip))))
    all_goals (first | (refine WL.pass rfl rfl rfl ?_) | (refine WL.step (ok_fieldAddr rfl Tryz.underlying32 rfl (fun w => Tryz.sizeOf5 w)) rfl rfl rfl ?_))
    all_goals (first | (refine WL.pass rfl rfl rfl ?_) | (refine WL.step (ok_load (fun w => Tryz.isAgg5 w) rfl (by first | assumption | exact cell_blk (by assumption) rfl)) rfl rfl rfl ?_))
    all_goals (first | (refine WL.pass rfl rfl rfl ?_) | (first | (refine WL.step (OkP.bool_t (by omega) (ok_eql rfl rfl)) rfl rfl rfl ?_) | (refine WL.step (OkP.bool_f (by omega) (ok_eql rfl rfl)) rfl rfl rfl ?_) | (refine WL.step (ok_eql rfl rfl) rfl rfl rfl ?_)))
    all_goals (first | (refine WL.step (ok_pick_t rfl rfl) rfl rfl rfl ?_) | (refine WL.step (ok_pick_f rfl rfl) rfl rfl rfl ?_))
    all_goals (refine WL.step (ok_move rfl) rfl rfl rfl ?_)
    all_goals (try ((fail_if_success (refine WL.part 11 (b := true) rfl (fun _ => ?_) (fun _ => ?_))); (fail_if_success (refine WL.part 11 (b := false) rfl (fun _ => ?_) (fun _ => ?_))); (refine WL.part 11 rfl (fun hb => ?_) (fun hb => ?_) <;> (first | replace hb := of_decide_eq_true hb | replace hb := of_decide_eq_false hb | replace hb := of_decide_eq_false (nt hb) | replace hb := of_decide_eq_true (nf hb) | skip))))
    all_goals (first | (refine WL.pass rfl rfl rfl ?_) | (refine WL.step (ok_fieldAddr rfl Tryz.underlying32 rfl (fun w => Tryz.sizeOf5 w)) rfl rfl rfl ?_))
    all_goals (first | (refine WL.pass rfl rfl rfl ?_) | (refine WL.step (ok_load (fun w => Tryz.isAgg5 w) rfl (by first | assumption | exact cell_blk (by assumption) rfl)) rfl rfl rfl ?_))
    all_goals (first | (refine WL.pass rfl rfl rfl ?_) | (first | (refine WL.step (OkP.bool_t (by omega) (ok_eql rfl rfl)) rfl rfl rfl ?_) | (refine WL.step (OkP.bool_f (by omega) (ok_eql rfl rfl)) rfl rfl rfl ?_) | (refine WL.step (ok_eql rfl rfl) rfl rfl rfl ?_)))
    all_goals (first | (refine WL.step (ok_pick_t rfl rfl) rfl rfl rfl ?_) | (refine WL.step (ok_pick_f rfl rfl) rfl rfl rfl ?_))
    all_goals (refine WL.step (ok_move rfl) rfl rfl rfl ?_)
    all_goals (try ((fail_if_success (refine WL.part 16 (b := true) rfl (fun _ => ?_) (fun _ => ?_))); (fail_if_success (refine WL.part 16 (b := false) rfl (fun _ => ?_) (fun _ => ?_))); (refine WL.part 16 rfl (fun hb => ?_) (fun hb => ?_) <;> (first | replace hb := of_decide_eq_true hb | replace hb := of_decide_eq_false hb | replace hb := of_decide_eq_false (nt hb) | replace hb := of_decide_eq_true (nf hb) | skip))))
    all_goals (first | (refine WL.pass rfl rfl rfl ?_) | (refine WL.step (ok_fieldAddr rfl Tryz.underlying32 rfl (fun w => Tryz.sizeOf5 w)) rfl rfl rfl ?_))
    all_goals (first | (refine WL.pass rfl rfl rfl ?_) | (refine WL.step (ok_load (fun w => Tryz.isAgg5 w) rfl (by first | assumption | exact cell_blk (by assumption) rfl)) rfl rfl rfl ?_))
    all_goals (first | (refine WL.pass rfl rfl rfl ?_) | (first | (refine WL.step (OkP.bool_t (by omega) (ok_eql rfl rfl)) rfl rfl rfl ?_) | (refine WL.step (OkP.bool_f (by omega) (ok_eql rfl rfl)) rfl rfl rfl ?_) | (refine WL.step (ok_eql rfl rfl) rfl rfl rfl ?_)))
    all_goals (first | (refine WL.step (ok_pick_t rfl rfl) rfl rfl rfl ?_) | (refine WL.step (ok_pick_f rfl rfl) rfl rfl rfl ?_))
    all_goals (refine WL.step (ok_assign rfl) rfl rfl rfl ?_)
    all_goals (refine WL.nil ?_)
    all_goals (repeat' (with_reducible first | refine thenP_n ?_ | refine blockP_n ?_))
    all_goals (refine WC.sub [(2, _)] ⟨rfl, trivial⟩ ?_)
    all_goals (refine WC.ret ?_)
    all_goals (repeat' (with_reducible first | refine thenP_r ?_ | refine blockP_r ?_))
    all_goals (refine retP_1 _ ⟨rfl, trivial⟩ ?_)
    all_goals (exact ⟨rfl, hx1⟩)
/-- A message that may be. -/
structure Bk.may (b : Bk) : Prop where
  kind : ∃ k : UInt8, Value.int .u8 b.kind = By k ∧ kindsB.contains k = true
  tag : cleanB b.tag = true
  name : cleanB b.name = true
  value : cleanB b.value = true
  cols : b.cols.length ≤ 65535 ∧ ∀ c ∈ b.cols, c.okB
  fields : b.fields.length ≤ 65535 ∧ ∀ f ∈ b.fields, f.okB
  row : b.row.length ≤ 65535 ∧ ∀ c ∈ b.row, c.okB
  oids : b.oids.length ≤ 65535 ∧ ∀ n ∈ b.oids, 0 ≤ n ∧ n ≤ 4294967295
  n : 0 ≤ b.n ∧ b.n ≤ 4294967295
  m : 0 ≤ b.m ∧ b.m ≤ 4294967295
  st : b.stOk
  own : (ofB b).pl = b.pl
set_option maxHeartbeats 2000000 in
set_option maxRecDepth 100000 in
theorem check_back {h : Heap} (b : Bk) (hb : b.ok h) (hm : b.may) : CallsH Tryz.prog 75 ⟨[.agg ⟨b.cells⟩]⟩ h fun u h' => u = In 0 ∧ Ext No h h' := by
  have hof := fun {h' : Heap} (hx : Ext No h h') => of_back (h := h') b (hb.ext0 hx)
  have hst := fun {h' : Heap} (hx : Ext No h h') => status_ok (h := h') b (hb.ext0 hx) hm.st
  have hsa := fun {h' : Heap} (hx : Ext No h h') => same_back (h := h') b (ofB b) (hb.ext0 hx) (ofB_ok (hb.ext0 hx)) hm.own.symm
  obtain ⟨⟨k8, hk8, hkc⟩, h1, h2, h3, h4, h5, h6, h7, h8, h9, _, _⟩ := hm
  generalize ofB b = ob at hof hsa
  obtain ⟨ho, hc, hr, hf⟩ := hb
  obtain ⟨k, st, t, n, v, x, y, vo, lo, vc, lc, vr, lr, vf, lf⟩ := b
  simp only at hk8 h1 h2 h3 h4 h5 h6 h7 h8 h9 ho hc hr hf
  dsimp only [Bk.cells] at hof hst hsa ⊢
  have hkn : ∀ {h : Heap}, CallsH Tryz.prog 95 ⟨[.int .u8 k]⟩ h fun u h' => u = .bool true ∧ Ext No h h' := by rw [hk8]; exact known_back k8 hkc
  refine calls [(0, _)] Tryz.func75 rfl Tryz.ntmps75 rfl ⟨rfl, trivial⟩ ?_
  all_goals (refine WC.seq ?_)
  all_goals (refine WC.region ?_)
  all_goals (refine WL.stepR (okE_box rfl) rfl rfl rfl ?_
             rintro _ g1 ⟨b1, rfl, hg1, hb1, hx1⟩)
  all_goals (refine WL.step (ok_assign rfl) rfl rfl rfl ?_)
  all_goals (refine WL.nil ?_)
  all_goals (repeat' (with_reducible first | refine thenP_n ?_ | refine blockP_n ?_))
  all_goals (refine WC.seq ?_)
  all_goals (refine WC.seq ?_)
  all_goals (refine WC.region ?_)
  all_goals (refine WL.step (ok_fieldAddr rfl Tryz.underlying32 rfl (fun w => Tryz.sizeOf5 w)) rfl rfl rfl ?_)
  all_goals (refine WL.step (ok_load (fun w => Tryz.isAgg5 w) rfl (by first | assumption | exact cell_blk (by assumption) rfl)) rfl rfl rfl ?_)
  all_goals (refine WL.call (vs := [_]) rfl (fun a w => Tryz.call95 a w) rfl (hkn) rfl rfl rfl ?_
             rintro _ g2 ⟨rfl, hx2⟩)
  all_goals (have hb2 := hx2.obj hb1 nos
             have hX2 := hx1.trans hx2)
  all_goals (refine WL.step (ok_not rfl) rfl rfl rfl ?_)
  all_goals (refine WL.nil ?_)
  all_goals (repeat' (with_reducible first | refine thenP_n ?_ | refine blockP_n ?_))
  all_goals (refine WC.sub [(1, _), (8, _)] ⟨rfl, rfl, trivial⟩ ?_)
  all_goals (first | refine WC.condB_t 1 rfl ?_ | refine WC.condB_f 2 rfl ?_ | (refine WC.condB 1 2 rfl (fun hb => ?_) (fun hb => ?_) <;> (first | replace hb := of_decide_eq_true hb | replace hb := of_decide_eq_false hb | replace hb := of_decide_eq_false (nt hb) | replace hb := of_decide_eq_true (nf hb) | skip)))
  all_goals (first
    | (fail_if_success (refine Br.mk (i := 1) ?_))
    | (refine Br.mk (i := 1) ?_
       all_goals (refine WC.seq ?_)
       all_goals (refine WC.region ?_)
       all_goals (refine WL.step (ok_assign rfl) rfl rfl rfl ?_)
       all_goals (refine WL.nil ?_)
       all_goals (repeat' (with_reducible first | refine thenP_n ?_ | refine blockP_n ?_))
       all_goals (refine WC.ret ?_)
       all_goals (repeat' (with_reducible first | refine thenP_r ?_ | refine blockP_r ?_))
       all_goals (refine retP_1 _ ⟨rfl, trivial⟩ ?_)
       all_goals (exact ⟨rfl, hX8.trans hx9⟩)
       skip))
  all_goals (first
    | (fail_if_success (refine Br.mk (i := 2) ?_))
    | (refine Br.mk (i := 2) ?_
       all_goals (refine WC.skip ?_)
       skip))
  all_goals (repeat' (with_reducible first | refine thenP_n ?_ | refine blockP_n ?_))
  all_goals (refine WC.seq ?_)
  all_goals (refine WC.region ?_)
  all_goals (refine WL.step (ok_fieldAddr rfl Tryz.underlying32 rfl (fun w => Tryz.sizeOf9 w)) rfl rfl rfl ?_)
  all_goals (refine WL.step (ok_load (fun w => Tryz.isAgg9 w) rfl (by first | assumption | exact cell_blk (by assumption) rfl)) rfl rfl rfl ?_)
  all_goals (refine WL.call (vs := [_]) rfl (fun a w => Tryz.call96 a w) rfl ((clean_any t).as (congrArg Value.bool h1)) rfl rfl rfl ?_
             rintro _ hz ⟨rfl, _⟩
             subst hz)
  all_goals (refine WL.step (ok_move rfl) rfl rfl rfl ?_)
  all_goals (try ((fail_if_success (refine WL.part 12 (b := true) rfl (fun _ => ?_) (fun _ => ?_))); (fail_if_success (refine WL.part 12 (b := false) rfl (fun _ => ?_) (fun _ => ?_))); (refine WL.part 12 rfl (fun hb => ?_) (fun hb => ?_) <;> (first | replace hb := of_decide_eq_true hb | replace hb := of_decide_eq_false hb | replace hb := of_decide_eq_false (nt hb) | replace hb := of_decide_eq_true (nf hb) | skip))))
  all_goals (first | (refine WL.pass rfl rfl rfl ?_) | (refine WL.step (ok_fieldAddr rfl Tryz.underlying32 rfl (fun w => Tryz.sizeOf9 w)) rfl rfl rfl ?_))
  all_goals (first | (refine WL.pass rfl rfl rfl ?_) | (refine WL.step (ok_load (fun w => Tryz.isAgg9 w) rfl (by first | assumption | exact cell_blk (by assumption) rfl)) rfl rfl rfl ?_))
  all_goals (first
               | (refine WL.pass rfl rfl rfl ?_)
               | (refine WL.call (vs := [_]) rfl (fun a w => Tryz.call96 a w) rfl ((clean_any n).as (congrArg Value.bool h2)) rfl rfl rfl ?_
                  rintro _ hz ⟨rfl, _⟩
                  subst hz))
  all_goals (first | (refine WL.step (ok_pick_t rfl rfl) rfl rfl rfl ?_) | (refine WL.step (ok_pick_f rfl rfl) rfl rfl rfl ?_))
  all_goals (refine WL.step (ok_move rfl) rfl rfl rfl ?_)
  all_goals (try ((fail_if_success (refine WL.part 17 (b := true) rfl (fun _ => ?_) (fun _ => ?_))); (fail_if_success (refine WL.part 17 (b := false) rfl (fun _ => ?_) (fun _ => ?_))); (refine WL.part 17 rfl (fun hb => ?_) (fun hb => ?_) <;> (first | replace hb := of_decide_eq_true hb | replace hb := of_decide_eq_false hb | replace hb := of_decide_eq_false (nt hb) | replace hb := of_decide_eq_true (nf hb) | skip))))
  all_goals (first | (refine WL.pass rfl rfl rfl ?_) | (refine WL.step (ok_fieldAddr rfl Tryz.underlying32 rfl (fun w => Tryz.sizeOf9 w)) rfl rfl rfl ?_))
  all_goals (first | (refine WL.pass rfl rfl rfl ?_) | (refine WL.step (ok_load (fun w => Tryz.isAgg9 w) rfl (by first | assumption | exact cell_blk (by assumption) rfl)) rfl rfl rfl ?_))
  all_goals (first
               | (refine WL.pass rfl rfl rfl ?_)
               | (refine WL.call (vs := [_]) rfl (fun a w => Tryz.call96 a w) rfl ((clean_any v).as (congrArg Value.bool h3)) rfl rfl rfl ?_
                  rintro _ hz ⟨rfl, _⟩
                  subst hz))
  all_goals (first | (refine WL.step (ok_pick_t rfl rfl) rfl rfl rfl ?_) | (refine WL.step (ok_pick_f rfl rfl) rfl rfl rfl ?_))
  all_goals (refine WL.step (ok_assign rfl) rfl rfl rfl ?_)
  all_goals (refine WL.nil ?_)
  all_goals (repeat' (with_reducible first | refine thenP_n ?_ | refine blockP_n ?_))
  all_goals (refine WC.sub [(1, _), (3, _)] ⟨rfl, rfl, trivial⟩ ?_)
  all_goals (refine WC.seq ?_)
  all_goals (refine WC.region ?_)
  all_goals (refine WL.step (ok_fieldAddr rfl Tryz.underlying32 rfl (fun w => Tryz.sizeOf28 w)) rfl rfl rfl ?_)
  all_goals (refine WL.step (ok_load (fun w => Tryz.isAgg28 w) rfl (by first | assumption | exact cell_blk (by assumption) rfl)) rfl rfl rfl ?_)
  all_goals (refine WL.call (vs := [_, _]) rfl (fun a w => Tryz.call97 a w) rfl (every_col lc (hc.1.ext0 hX2) h4.1 (fun a w => Tryz.call98 a w) (fun c hc _ _ => column_ok c (h4.2 c hc))) rfl rfl rfl ?_
             rintro _ g3 ⟨rfl, hx3⟩)
  all_goals (have hb3 := hx3.obj hb2 nos
             have hX3 := hX2.trans hx3)
  all_goals (refine WL.step (ok_move rfl) rfl rfl rfl ?_)
  all_goals (try ((fail_if_success (refine WL.part 25 (b := true) rfl (fun _ => ?_) (fun _ => ?_))); (fail_if_success (refine WL.part 25 (b := false) rfl (fun _ => ?_) (fun _ => ?_))); (refine WL.part 25 rfl (fun hb => ?_) (fun hb => ?_) <;> (first | replace hb := of_decide_eq_true hb | replace hb := of_decide_eq_false hb | replace hb := of_decide_eq_false (nt hb) | replace hb := of_decide_eq_true (nf hb) | skip))))
  all_goals (first | (refine WL.pass rfl rfl rfl ?_) | (refine WL.step (ok_fieldAddr rfl Tryz.underlying32 rfl (fun w => Tryz.sizeOf30 w)) rfl rfl rfl ?_))
  all_goals (first | (refine WL.pass rfl rfl rfl ?_) | (refine WL.step (ok_load (fun w => Tryz.isAgg30 w) rfl (by first | assumption | exact cell_blk (by assumption) rfl)) rfl rfl rfl ?_))
  all_goals (first
               | (refine WL.pass rfl rfl rfl ?_)
               | (refine WL.call (vs := [_, _]) rfl (fun a w => Tryz.call99 a w) rfl (every_fld lf (hf.1.ext0 hX3) h5.1 (fun a w => Tryz.call100 a w) (fun c hc _ _ => field_ok c (h5.2 c hc))) rfl rfl rfl ?_
                  rintro _ g4 ⟨rfl, hx4⟩))
  all_goals (have hb4 := hx4.obj hb3 nos
             have hX4 := hX3.trans hx4)
  all_goals (first | (refine WL.step (ok_pick_t rfl rfl) rfl rfl rfl ?_) | (refine WL.step (ok_pick_f rfl rfl) rfl rfl rfl ?_))
  all_goals (refine WL.step (ok_move rfl) rfl rfl rfl ?_)
  all_goals (try ((fail_if_success (refine WL.part 30 (b := true) rfl (fun _ => ?_) (fun _ => ?_))); (fail_if_success (refine WL.part 30 (b := false) rfl (fun _ => ?_) (fun _ => ?_))); (refine WL.part 30 rfl (fun hb => ?_) (fun hb => ?_) <;> (first | replace hb := of_decide_eq_true hb | replace hb := of_decide_eq_false hb | replace hb := of_decide_eq_false (nt hb) | replace hb := of_decide_eq_true (nf hb) | skip))))
  all_goals (first | (refine WL.pass rfl rfl rfl ?_) | (refine WL.step (ok_fieldAddr rfl Tryz.underlying32 rfl (fun w => Tryz.sizeOf29 w)) rfl rfl rfl ?_))
  all_goals (first | (refine WL.pass rfl rfl rfl ?_) | (refine WL.step (ok_load (fun w => Tryz.isAgg29 w) rfl (by first | assumption | exact cell_blk (by assumption) rfl)) rfl rfl rfl ?_))
  all_goals (first
               | (refine WL.pass rfl rfl rfl ?_)
               | (refine WL.call (vs := [_, _]) rfl (fun a w => Tryz.call101 a w) rfl (every_cel lr (hr.1.ext0 hX4) h6.1 (fun a w => Tryz.call102 a w) (fun c hc _ _ => cell_ok c (hr.2.2 c hc) (h6.2 c hc))) rfl rfl rfl ?_
                  rintro _ g5 ⟨rfl, hx5⟩))
  all_goals (have hb5 := hx5.obj hb4 nos
             have hX5 := hX4.trans hx5)
  all_goals (first | (refine WL.step (ok_pick_t rfl rfl) rfl rfl rfl ?_) | (refine WL.step (ok_pick_f rfl rfl) rfl rfl rfl ?_))
  all_goals (refine WL.step (ok_move rfl) rfl rfl rfl ?_)
  all_goals (try ((fail_if_success (refine WL.part 35 (b := true) rfl (fun _ => ?_) (fun _ => ?_))); (fail_if_success (refine WL.part 35 (b := false) rfl (fun _ => ?_) (fun _ => ?_))); (refine WL.part 35 rfl (fun hb => ?_) (fun hb => ?_) <;> (first | replace hb := of_decide_eq_true hb | replace hb := of_decide_eq_false hb | replace hb := of_decide_eq_false (nt hb) | replace hb := of_decide_eq_true (nf hb) | skip))))
  all_goals (first | (refine WL.pass rfl rfl rfl ?_) | (refine WL.step (ok_fieldAddr rfl Tryz.underlying32 rfl (fun w => Tryz.sizeOf27 w)) rfl rfl rfl ?_))
  all_goals (first | (refine WL.pass rfl rfl rfl ?_) | (refine WL.step (ok_load (fun w => Tryz.isAgg27 w) rfl (by first | assumption | exact cell_blk (by assumption) rfl)) rfl rfl rfl ?_))
  all_goals (first
               | (refine WL.pass rfl rfl rfl ?_)
               | (refine WL.call (vs := [_, _]) rfl (fun a w => Tryz.call103 a w) rfl (every_int lo (ho.1.ext0 hX5) h7.1 h7.2) rfl rfl rfl ?_
                  rintro _ g6 ⟨rfl, hx6⟩))
  all_goals (have hb6 := hx6.obj hb5 nos
             have hX6 := hX5.trans hx6)
  all_goals (first | (refine WL.step (ok_pick_t rfl rfl) rfl rfl rfl ?_) | (refine WL.step (ok_pick_f rfl rfl) rfl rfl rfl ?_))
  all_goals (refine WL.step (ok_assign rfl) rfl rfl rfl ?_)
  all_goals (refine WL.nil ?_)
  all_goals (repeat' (with_reducible first | refine thenP_n ?_ | refine blockP_n ?_))
  all_goals (refine WC.sub [(1, _), (3, _), (4, _)] ⟨rfl, rfl, rfl, trivial⟩ ?_)
  all_goals (refine WC.seq ?_)
  all_goals (refine WC.seq ?_)
  all_goals (refine WC.drawH (fun h' => h'[b1]? = some (.cells ⟨[.int .u8 k, .int .u8 st, St t, St n, St v, In x, In y, vo, vc, vr, vf]⟩ 32 (0, 0))) 30 30 rfl fol ?_)
  all_goals (refine WH.take 0 rfl (by kernel_rfl) (by kernel_rfl) (by kernel_rfl) (by kernel_rfl) rfl (by first | exact hb6 | exact hb7 | exact hb8 | exact hb9) (fun hq hC => ok_move rfl) rfl rfl rfl ?_)
  all_goals (refine WH.take 1 rfl (by kernel_rfl) (by kernel_rfl) (by kernel_rfl) (by kernel_rfl) rfl (by first | exact hb6 | exact hb7 | exact hb8 | exact hb9) (fun hq hC => ok_not rfl) rfl rfl rfl ?_)
  all_goals (refine WH.take 2 rfl (by kernel_rfl) (by kernel_rfl) (by kernel_rfl) (by kernel_rfl) rfl (by first | exact hb6 | exact hb7 | exact hb8 | exact hb9) (fun hq hC => ok_move rfl) rfl rfl rfl ?_)
  all_goals (try ((fail_if_success (refine WH.part 42 (b := true) rfl (fun _ => ?_) (fun _ => ?_))); (fail_if_success (refine WH.part 42 (b := false) rfl (fun _ => ?_) (fun _ => ?_))); (refine WH.part 42 rfl (fun hb => ?_) (fun hb => ?_))))
  all_goals (first | (refine WH.pass 3 rfl (by kernel_rfl) (by kernel_rfl) (by kernel_rfl) (by kernel_rfl) rfl (by first | exact hb6 | exact hb7 | exact hb8 | exact hb9) rfl rfl rfl ?_) | (refine WH.take 3 rfl (by kernel_rfl) (by kernel_rfl) (by kernel_rfl) (by kernel_rfl) rfl (by first | exact hb6 | exact hb7 | exact hb8 | exact hb9) (fun hq hC => ok_move rfl) rfl rfl rfl ?_))
  all_goals (first | (refine WH.pass 4 rfl (by kernel_rfl) (by kernel_rfl) (by kernel_rfl) (by kernel_rfl) rfl (by first | exact hb6 | exact hb7 | exact hb8 | exact hb9) rfl rfl rfl ?_) | (refine WH.take 4 rfl (by kernel_rfl) (by kernel_rfl) (by kernel_rfl) (by kernel_rfl) rfl (by first | exact hb6 | exact hb7 | exact hb8 | exact hb9) (fun hq hC => ok_not rfl) rfl rfl rfl ?_))
  all_goals (first | (refine WH.take 5 rfl (by kernel_rfl) (by kernel_rfl) (by kernel_rfl) (by kernel_rfl) rfl (by first | exact hb6 | exact hb7 | exact hb8 | exact hb9) (fun hq hC => ok_pick_t rfl rfl) rfl rfl rfl ?_) | (refine WH.take 5 rfl (by kernel_rfl) (by kernel_rfl) (by kernel_rfl) (by kernel_rfl) rfl (by first | exact hb6 | exact hb7 | exact hb8 | exact hb9) (fun hq hC => ok_pick_f rfl rfl) rfl rfl rfl ?_))
  all_goals (refine WH.take 6 rfl (by kernel_rfl) (by kernel_rfl) (by kernel_rfl) (by kernel_rfl) rfl (by first | exact hb6 | exact hb7 | exact hb8 | exact hb9) (fun hq hC => ok_move rfl) rfl rfl rfl ?_)
  all_goals (try ((fail_if_success (refine WH.part 46 (b := true) rfl (fun _ => ?_) (fun _ => ?_))); (fail_if_success (refine WH.part 46 (b := false) rfl (fun _ => ?_) (fun _ => ?_))); (refine WH.part 46 rfl (fun hb => ?_) (fun hb => ?_))))
  all_goals (first | (refine WH.pass 7 rfl (by kernel_rfl) (by kernel_rfl) (by kernel_rfl) (by kernel_rfl) rfl (by first | exact hb6 | exact hb7 | exact hb8 | exact hb9) rfl rfl rfl ?_) | (refine WH.take 7 rfl (by kernel_rfl) (by kernel_rfl) (by kernel_rfl) (by kernel_rfl) rfl (by first | exact hb6 | exact hb7 | exact hb8 | exact hb9) (fun hq hC => ok_fieldAddr rfl Tryz.underlying32 rfl (fun w => Tryz.sizeOf3 w)) rfl rfl rfl ?_))
  all_goals (first | (refine WH.pass 8 rfl (by kernel_rfl) (by kernel_rfl) (by kernel_rfl) (by kernel_rfl) rfl (by first | exact hb6 | exact hb7 | exact hb8 | exact hb9) rfl rfl rfl ?_) | (refine WH.take 8 rfl (by kernel_rfl) (by kernel_rfl) (by kernel_rfl) (by kernel_rfl) rfl (by first | exact hb6 | exact hb7 | exact hb8 | exact hb9) (fun hq hC => ok_load (fun w => Tryz.isAgg3 w) rfl (cell_blk hC rfl)) rfl rfl rfl ?_))
  all_goals (refine WH.one 9 (by kernel_rfl) ?_)
  all_goals (refine Comes1.call (vs := [_]) rfl rfl (fun a w => Tryz.call104 a w) rfl (oid_ok x h8.1 h8.2) rfl rfl rfl ?_ (fun _ => by kernel_rfl)
             rintro _ hz ⟨rfl, _⟩
             subst hz)
  all_goals (refine ⟨fun _ => by first | assumption | trivial, ?_⟩)
  all_goals (first | (refine WH.pass 10 rfl (by kernel_rfl) (by kernel_rfl) (by kernel_rfl) (by kernel_rfl) rfl (by first | exact hb6 | exact hb7 | exact hb8 | exact hb9) rfl rfl rfl ?_) | (refine WH.take 10 rfl (by kernel_rfl) (by kernel_rfl) (by kernel_rfl) (by kernel_rfl) rfl (by first | exact hb6 | exact hb7 | exact hb8 | exact hb9) (fun hq hC => ok_not rfl) rfl rfl rfl ?_))
  all_goals (first | (refine WH.take 11 rfl (by kernel_rfl) (by kernel_rfl) (by kernel_rfl) (by kernel_rfl) rfl (by first | exact hb6 | exact hb7 | exact hb8 | exact hb9) (fun hq hC => ok_pick_t rfl rfl) rfl rfl rfl ?_) | (refine WH.take 11 rfl (by kernel_rfl) (by kernel_rfl) (by kernel_rfl) (by kernel_rfl) rfl (by first | exact hb6 | exact hb7 | exact hb8 | exact hb9) (fun hq hC => ok_pick_f rfl rfl) rfl rfl rfl ?_))
  all_goals (refine WH.take 12 rfl (by kernel_rfl) (by kernel_rfl) (by kernel_rfl) (by kernel_rfl) rfl (by first | exact hb6 | exact hb7 | exact hb8 | exact hb9) (fun hq hC => ok_move rfl) rfl rfl rfl ?_)
  all_goals (try ((fail_if_success (refine WH.part 52 (b := true) rfl (fun _ => ?_) (fun _ => ?_))); (fail_if_success (refine WH.part 52 (b := false) rfl (fun _ => ?_) (fun _ => ?_))); (refine WH.part 52 rfl (fun hb => ?_) (fun hb => ?_))))
  all_goals (first | (refine WH.pass 13 rfl (by kernel_rfl) (by kernel_rfl) (by kernel_rfl) (by kernel_rfl) rfl (by first | exact hb6 | exact hb7 | exact hb8 | exact hb9) rfl rfl rfl ?_) | (refine WH.take 13 rfl (by kernel_rfl) (by kernel_rfl) (by kernel_rfl) (by kernel_rfl) rfl (by first | exact hb6 | exact hb7 | exact hb8 | exact hb9) (fun hq hC => ok_fieldAddr rfl Tryz.underlying32 rfl (fun w => Tryz.sizeOf3 w)) rfl rfl rfl ?_))
  all_goals (first | (refine WH.pass 14 rfl (by kernel_rfl) (by kernel_rfl) (by kernel_rfl) (by kernel_rfl) rfl (by first | exact hb6 | exact hb7 | exact hb8 | exact hb9) rfl rfl rfl ?_) | (refine WH.take 14 rfl (by kernel_rfl) (by kernel_rfl) (by kernel_rfl) (by kernel_rfl) rfl (by first | exact hb6 | exact hb7 | exact hb8 | exact hb9) (fun hq hC => ok_load (fun w => Tryz.isAgg3 w) rfl (cell_blk hC rfl)) rfl rfl rfl ?_))
  all_goals (refine WH.one 15 (by kernel_rfl) ?_)
  all_goals (refine Comes1.call (vs := [_]) rfl rfl (fun a w => Tryz.call104 a w) rfl (oid_ok y h9.1 h9.2) rfl rfl rfl ?_ (fun _ => by kernel_rfl)
             rintro _ hz ⟨rfl, _⟩
             subst hz)
  all_goals (refine ⟨fun _ => by first | assumption | trivial, ?_⟩)
  all_goals (first | (refine WH.pass 16 rfl (by kernel_rfl) (by kernel_rfl) (by kernel_rfl) (by kernel_rfl) rfl (by first | exact hb6 | exact hb7 | exact hb8 | exact hb9) rfl rfl rfl ?_) | (refine WH.take 16 rfl (by kernel_rfl) (by kernel_rfl) (by kernel_rfl) (by kernel_rfl) rfl (by first | exact hb6 | exact hb7 | exact hb8 | exact hb9) (fun hq hC => ok_not rfl) rfl rfl rfl ?_))
  all_goals (first | (refine WH.take 17 rfl (by kernel_rfl) (by kernel_rfl) (by kernel_rfl) (by kernel_rfl) rfl (by first | exact hb6 | exact hb7 | exact hb8 | exact hb9) (fun hq hC => ok_pick_t rfl rfl) rfl rfl rfl ?_) | (refine WH.take 17 rfl (by kernel_rfl) (by kernel_rfl) (by kernel_rfl) (by kernel_rfl) rfl (by first | exact hb6 | exact hb7 | exact hb8 | exact hb9) (fun hq hC => ok_pick_f rfl rfl) rfl rfl rfl ?_))
  all_goals (refine WH.take 18 rfl (by kernel_rfl) (by kernel_rfl) (by kernel_rfl) (by kernel_rfl) rfl (by first | exact hb6 | exact hb7 | exact hb8 | exact hb9) (fun hq hC => ok_move rfl) rfl rfl rfl ?_)
  all_goals (try ((fail_if_success (refine WH.part 58 (b := true) rfl (fun _ => ?_) (fun _ => ?_))); (fail_if_success (refine WH.part 58 (b := false) rfl (fun _ => ?_) (fun _ => ?_))); (refine WH.part 58 rfl (fun hb => ?_) (fun hb => ?_))))
  all_goals (first | (refine WH.pass 19 rfl (by kernel_rfl) (by kernel_rfl) (by kernel_rfl) (by kernel_rfl) rfl (by first | exact hb6 | exact hb7 | exact hb8 | exact hb9) rfl rfl rfl ?_) | (refine WH.take 19 rfl (by kernel_rfl) (by kernel_rfl) (by kernel_rfl) (by kernel_rfl) rfl (by first | exact hb6 | exact hb7 | exact hb8 | exact hb9) (fun hq hC => ok_loadN (fun w => Tryz.isAgg32 w) (fun w => Tryz.sizeOf32 w) rfl rfl (by exact At.of_block hC)) rfl rfl rfl ?_))
  all_goals (refine WH.one 20 (by kernel_rfl) ?_)
  all_goals (refine Comes1.call (vs := [_]) rfl rfl (fun a w => Tryz.call105 a w) rfl (hst hX6) rfl rfl rfl ?_ (fun _ => by kernel_rfl)
             rintro _ g7 ⟨rfl, hx7⟩)
  all_goals (refine ⟨fun _ => hx7.obj hb6 nos, ?_⟩)
  all_goals (have hb7 := hx7.obj hb6 nos
             have hX7 := hX6.trans hx7)
  all_goals (first | (refine WH.pass 21 rfl (by kernel_rfl) (by kernel_rfl) (by kernel_rfl) (by kernel_rfl) rfl (by first | exact hb6 | exact hb7 | exact hb8 | exact hb9) rfl rfl rfl ?_) | (refine WH.take 21 rfl (by kernel_rfl) (by kernel_rfl) (by kernel_rfl) (by kernel_rfl) rfl (by first | exact hb6 | exact hb7 | exact hb8 | exact hb9) (fun hq hC => ok_not rfl) rfl rfl rfl ?_))
  all_goals (first | (refine WH.take 22 rfl (by kernel_rfl) (by kernel_rfl) (by kernel_rfl) (by kernel_rfl) rfl (by first | exact hb6 | exact hb7 | exact hb8 | exact hb9) (fun hq hC => ok_pick_t rfl rfl) rfl rfl rfl ?_) | (refine WH.take 22 rfl (by kernel_rfl) (by kernel_rfl) (by kernel_rfl) (by kernel_rfl) rfl (by first | exact hb6 | exact hb7 | exact hb8 | exact hb9) (fun hq hC => ok_pick_f rfl rfl) rfl rfl rfl ?_))
  all_goals (refine WH.take 23 rfl (by kernel_rfl) (by kernel_rfl) (by kernel_rfl) (by kernel_rfl) rfl (by first | exact hb6 | exact hb7 | exact hb8 | exact hb9) (fun hq hC => ok_move rfl) rfl rfl rfl ?_)
  all_goals (try ((fail_if_success (refine WH.part 63 (b := true) rfl (fun _ => ?_) (fun _ => ?_))); (fail_if_success (refine WH.part 63 (b := false) rfl (fun _ => ?_) (fun _ => ?_))); (refine WH.part 63 rfl (fun hb => ?_) (fun hb => ?_))))
  all_goals (first | (refine WH.pass 24 rfl (by kernel_rfl) (by kernel_rfl) (by kernel_rfl) (by kernel_rfl) rfl (by first | exact hb6 | exact hb7 | exact hb8 | exact hb9) rfl rfl rfl ?_) | (refine WH.take 24 rfl (by kernel_rfl) (by kernel_rfl) (by kernel_rfl) (by kernel_rfl) rfl (by first | exact hb6 | exact hb7 | exact hb8 | exact hb9) (fun hq hC => ok_loadN (fun w => Tryz.isAgg32 w) (fun w => Tryz.sizeOf32 w) rfl rfl (by exact At.of_block hC)) rfl rfl rfl ?_))
  all_goals (first | (refine WH.pass 25 rfl (by kernel_rfl) (by kernel_rfl) (by kernel_rfl) (by kernel_rfl) rfl (by first | exact hb6 | exact hb7 | exact hb8 | exact hb9) rfl rfl rfl ?_) | (refine WH.take 25 rfl (by kernel_rfl) (by kernel_rfl) (by kernel_rfl) (by kernel_rfl) rfl (by first | exact hb6 | exact hb7 | exact hb8 | exact hb9) (fun hq hC => ok_loadN (fun w => Tryz.isAgg32 w) (fun w => Tryz.sizeOf32 w) rfl rfl (by exact At.of_block hC)) rfl rfl rfl ?_))
  all_goals (refine WH.one 26 (by kernel_rfl) ?_)
  all_goals (refine Comes1.call (vs := [_]) rfl rfl (fun a w => Tryz.call106 a w) rfl (hof hX7) rfl rfl rfl ?_ (fun _ => by kernel_rfl)
             rintro _ g8 ⟨rfl, hx8⟩)
  all_goals (refine ⟨fun _ => hx8.obj hb7 nos, ?_⟩)
  all_goals (have hb8 := hx8.obj hb7 nos
             have hX8 := hX7.trans hx8)
  all_goals (refine WH.one 27 (by kernel_rfl) ?_)
  all_goals (refine Comes1.call (vs := [_, _]) rfl rfl (fun a w => Tryz.call9 a w) rfl (hsa hX8) rfl rfl rfl ?_ (fun _ => by kernel_rfl)
             rintro _ g9 ⟨rfl, hx9⟩)
  all_goals (refine ⟨fun _ => hx9.obj hb8 nos, ?_⟩)
  all_goals (have hb9 := hx9.obj hb8 nos)
  all_goals (first | (refine WH.pass 28 rfl (by kernel_rfl) (by kernel_rfl) (by kernel_rfl) (by kernel_rfl) rfl (by first | exact hb6 | exact hb7 | exact hb8 | exact hb9) rfl rfl rfl ?_) | (refine WH.take 28 rfl (by kernel_rfl) (by kernel_rfl) (by kernel_rfl) (by kernel_rfl) rfl (by first | exact hb6 | exact hb7 | exact hb8 | exact hb9) (fun hq hC => ok_not rfl) rfl rfl rfl ?_))
  all_goals (first | (refine WH.take 29 rfl (by kernel_rfl) (by kernel_rfl) (by kernel_rfl) (by kernel_rfl) rfl (by first | exact hb6 | exact hb7 | exact hb8 | exact hb9) (fun hq hC => ok_pick_t rfl rfl) rfl rfl rfl ?_) | (refine WH.take 29 rfl (by kernel_rfl) (by kernel_rfl) (by kernel_rfl) (by kernel_rfl) rfl (by first | exact hb6 | exact hb7 | exact hb8 | exact hb9) (fun hq hC => ok_pick_f rfl rfl) rfl rfl rfl ?_))
  all_goals (refine WH.done (by kernel_rfl) ?_)
  all_goals (repeat' (with_reducible first | refine thenP_n ?_ | refine blockP_n ?_))
  all_goals (refine WC.sub [(69, _)] ⟨rfl, trivial⟩ ?_)
  all_goals (first | refine WC.condB_t 3 rfl ?_ | refine WC.condB_f 4 rfl ?_ | (refine WC.condB 3 4 rfl (fun hb => ?_) (fun hb => ?_) <;> (first | replace hb := of_decide_eq_true hb | replace hb := of_decide_eq_false hb | replace hb := of_decide_eq_false (nt hb) | replace hb := of_decide_eq_true (nf hb) | skip)))
  all_goals (first
    | (fail_if_success (refine Br.mk (i := 3) ?_))
    | (refine Br.mk (i := 3) ?_
       all_goals (refine WC.seq ?_)
       all_goals (refine WC.region ?_)
       all_goals (refine WL.step (ok_assign rfl) rfl rfl rfl ?_)
       all_goals (refine WL.nil ?_)
       all_goals (repeat' (with_reducible first | refine thenP_n ?_ | refine blockP_n ?_))
       all_goals (refine WC.ret ?_)
       all_goals (repeat' (with_reducible first | refine thenP_r ?_ | refine blockP_r ?_))
       all_goals (refine retP_1 _ ⟨rfl, trivial⟩ ?_)
       all_goals (exact ⟨rfl, hX8.trans hx9⟩)
       skip))
  all_goals (first
    | (fail_if_success (refine Br.mk (i := 4) ?_))
    | (refine Br.mk (i := 4) ?_
       all_goals (refine WC.skip ?_)
       skip))
  all_goals (repeat' (with_reducible first | refine thenP_n ?_ | refine blockP_n ?_))
  all_goals (refine WC.seq ?_)
  all_goals (refine WC.region ?_)
  all_goals (refine WL.step (ok_assign rfl) rfl rfl rfl ?_)
  all_goals (refine WL.nil ?_)
  all_goals (repeat' (with_reducible first | refine thenP_n ?_ | refine blockP_n ?_))
  all_goals (refine WC.ret ?_)
  all_goals (repeat' (with_reducible first | refine thenP_r ?_ | refine blockP_r ?_))
  all_goals (refine retP_1 _ ⟨rfl, trivial⟩ ?_)
  all_goals (exact ⟨rfl, hX8.trans hx9⟩)
end Go.Proofs.YtkpgnhhidnkmcaaGreatDoor

