/-
  SEVERAL TEXTS IN ONE: BkChk2, K25, Flt, K18, Srl, SrlX, Str, Dig, Tell, K13.
-/
import Derived.Test.YtkpgnhhidnkmcaaGreatDoorPFixStays2
import Derived.Maps.RangeRun
import Derived.Below
import Derived.HandedShaped
import Derived.Handed
import Derived.Scope
/-
  back.Check, of messages that may be: the fields of a kind; all of it.
-/
namespace Go.Proofs.YtkpgnhhidnkmcaaGreatDoor
open Go Go.RK

def zB (k : Int) : Bk := ⟨k, 0, [], [], [], 0, 0, .slice none 0 0, [], .slice none 0 0, [], .slice none 0 0, [], .slice none 0 0, []⟩
/-- A message with no fields but those that its body has. -/
def ofB (b : Bk) : Bk :=
  if b.kind = 83 then { zB b.kind with name := b.name, value := b.value }
  else if b.kind = 75 then { zB b.kind with n := b.n, m := b.m }
  else if b.kind = 90 then { zB b.kind with status := b.status }
  else if b.kind = 67 then { zB b.kind with tag := b.tag }
  else if b.kind = 68 then { zB b.kind with vr := b.vr, row := b.row }
  else if b.kind = 84 then { zB b.kind with vc := b.vc, cols := b.cols }
  else if b.kind = 116 then { zB b.kind with vo := b.vo, oids := b.oids }
  else if b.kind = 69 ∨ b.kind = 78 then { zB b.kind with vf := b.vf, fields := b.fields }
  else zB b.kind
theorem cels_no (h : Heap) : Cels h (.slice none 0 0) [] := ⟨Rd.nil _ _, ⟨by simp, _, _, rfl, by decide⟩, by simp⟩
theorem zB_ok (h : Heap) (k : Int) : (zB k).ok h := ⟨⟨Rd.nil _ _, by simp [zB]⟩, ⟨Rd.nil _ _, by simp [zB]⟩, cels_no h, ⟨Rd.nil _ _, by simp [zB]⟩⟩
theorem ofB_ok {h : Heap} {b : Bk} (k : b.ok h) : (ofB b).ok h := by
  obtain ⟨k1, k2, k3, k4⟩ := k
  obtain ⟨z1, z2, z3, z4⟩ := zB_ok h b.kind
  unfold ofB
  repeat' split
  all_goals first | exact ⟨z1, z2, z3, z4⟩ | exact ⟨z1, z2, k3, z4⟩ | exact ⟨z1, k2, z3, z4⟩ | exact ⟨k1, z2, z3, z4⟩ | exact ⟨z1, z2, z3, k4⟩
set_option maxHeartbeats 2000000 in
set_option maxRecDepth 100000 in
theorem of_back {h : Heap} (b : Bk) (hb : b.ok h) : CallsH Tryz.prog 106 ⟨[.agg ⟨b.cells⟩]⟩ h fun u h' => u = .agg ⟨(ofB b).cells⟩ ∧ Ext No h h' := by
  obtain ⟨k, st, t, n, v, x, y, vo, lo, vc, lc, vr, lr, vf, lf⟩ := b
  obtain ⟨⟨ho, _⟩, ⟨hc, _⟩, hr, hf, _⟩ := hb
  simp only at ho hc hr hf
  obtain ⟨A1, c1, rfl, _⟩ := id ho
  obtain ⟨A2, c2, rfl, _⟩ := id hc
  obtain ⟨_, ⟨_, A3, c3, rfl, _⟩, _⟩ := id hr
  obtain ⟨A4, c4, rfl, _⟩ := id hf
  dsimp only [Bk.cells]
  refine calls [(0, _)] Tryz.func106 rfl Tryz.ntmps106 rfl ⟨rfl, trivial⟩ ?_
  all_goals (refine WC.seq ?_)
  all_goals (refine WC.region ?_)
  all_goals (refine WL.stepR (okE_box rfl) rfl rfl rfl ?_
             rintro _ h1 ⟨b1, rfl, hg1, hb1, hx1⟩)
  all_goals (refine WL.stepR (okE_alloc (fun w => Tryz.zeroValue32 w)) rfl rfl rfl ?_
             rintro _ h2 ⟨b2, rfl, hg2, hb2, hx2⟩)
  all_goals (have hb1a := hx2.obj hb1 nos)
  all_goals (refine WL.nil ?_)
  all_goals (repeat' (with_reducible first | refine thenP_n ?_ | refine blockP_n ?_))
  all_goals (refine WC.seq ?_)
  all_goals (refine WC.region ?_)
  all_goals (refine WL.step (ok_fieldAddr rfl Tryz.underlying32 rfl (fun w => Tryz.sizeOf5 w)) rfl rfl rfl ?_)
  all_goals (refine WL.step (ok_load (fun w => Tryz.isAgg5 w) rfl (by first | assumption | exact cell_blk (by assumption) rfl)) rfl rfl rfl ?_)
  all_goals (refine WL.step (ok_buildF (vs := [_]) (cs := [_, _, _, _, _, _, _, _, _, _, _]) (fun | [a0] => [a0, (.int .u8 0), (St []), (St []), (St []), (.int .i64 0), (.int .i64 0), (.slice none 0 0), (.slice none 0 0), (.slice none 0 0), (.slice none 0 0)] | _ => []) rfl rfl (by kernel_rfl)) rfl rfl rfl ?_)
  all_goals (refine WL.stepR (okE_alloc (fun w => Tryz.zeroValue32 w)) rfl rfl rfl ?_
             rintro _ h3 ⟨b3, rfl, hg3, hb3, hx3⟩)
  all_goals (have hb1b := hx3.obj hb1a nos
             have hb2b := hx3.obj hb2 nos
             have n13 : ¬ b1 = b3 := by have := lt_of_some hb1a; omega
             have n23 : ¬ b2 = b3 := by have := lt_of_some hb2; omega)
  all_goals (refine WL.stepR0 (okE_storeW (fun w => Tryz.sizeOf32 w) rfl rfl rfl (by assumption) rfl (by simp [Value.oneCell'])) rfl rfl ?_
             rintro _ h4 ⟨hb4, hx4⟩)
  all_goals (have hb1c := hx4.obj hb1b n13
             have hb2c := hx4.obj hb2b n23
             have hX4 : Ext No h h4 := ((hx1.trans hx2).trans hx3).trans' hx4 (fun q hq e => by have := hx1.size; have := hx2.size; omega))
  all_goals (refine WL.nil ?_)
  all_goals (repeat' (with_reducible first | refine thenP_n ?_ | refine blockP_n ?_))
  all_goals (refine WC.sub [(1, _), (2, _), (3, _)] ⟨rfl, rfl, rfl, trivial⟩ ?_)
  all_goals (refine WC.seq ?_)
  all_goals (refine WC.seq ?_)
  all_goals (refine WC.region ?_)
  all_goals (refine WL.step (ok_fieldAddr rfl Tryz.underlying32 rfl (fun w => Tryz.sizeOf5 w)) rfl rfl rfl ?_)
  all_goals (refine WL.step (ok_load (fun w => Tryz.isAgg5 w) rfl (by first | assumption | exact cell_blk (by assumption) rfl)) rfl rfl rfl ?_)
  all_goals (refine WL.nil ?_)
  all_goals (repeat' (with_reducible first | refine thenP_n ?_ | refine blockP_n ?_))
  all_goals (refine WC.block ?_)
  all_goals (refine WC.seq ?_)
  all_goals (refine WC.region ?_)
  all_goals (first | (refine WL.step (OkP.bool_t (by omega) (ok_eql rfl rfl)) rfl rfl rfl ?_) | (refine WL.step (OkP.bool_f (by omega) (ok_eql rfl rfl)) rfl rfl rfl ?_) | (refine WL.step (ok_eql rfl rfl) rfl rfl rfl ?_))
  all_goals (refine WL.step (ok_assign rfl) rfl rfl rfl ?_)
  all_goals (refine WL.nil ?_)
  all_goals (repeat' (with_reducible first | refine thenP_n ?_ | refine blockP_n ?_))
  all_goals (first | refine WC.condB_t 1 rfl ?_ | refine WC.condB_f 2 rfl ?_ | (refine WC.condB 1 2 rfl (fun hb => ?_) (fun hb => ?_) <;> (first | replace hb := of_decide_eq_true hb | replace hb := of_decide_eq_false hb | replace hb := of_decide_eq_false (nt hb) | replace hb := of_decide_eq_true (nf hb) | skip)))
  all_goals (first
    | (fail_if_success (refine Br.mk (i := 1) ?_))
    | (refine Br.mk (i := 1) ?_
       all_goals (refine WC.drawH (fun h' => Ext (fun q => q = b3) h4 h') 7 8 rfl fol ?_)
       all_goals (refine WH.take 0 rfl (by kernel_rfl) (by kernel_rfl) (by kernel_rfl) (by kernel_rfl) rfl (by first | exact Ext.refl _ _ | assumption | exact hx5.trans hx6) (fun hq hC => ok_fieldAddr rfl Tryz.underlying32 rfl (fun w => Tryz.sizeOf9 w)) rfl rfl rfl ?_)
       all_goals (refine WH.take 1 rfl (by kernel_rfl) (by kernel_rfl) (by kernel_rfl) (by kernel_rfl) rfl (by first | exact Ext.refl _ _ | assumption | exact hx5.trans hx6) (fun hq hC => ok_load (fun w => Tryz.isAgg9 w) rfl (by first | exact hC.cell (by first | exact cell_blk hb1c rfl | assumption | exact cell_blk (by assumption) rfl) n13)) rfl rfl rfl ?_)
       all_goals (refine WH.take 2 rfl (by kernel_rfl) (by kernel_rfl) (by kernel_rfl) (by kernel_rfl) rfl (by first | exact Ext.refl _ _ | assumption | exact hx5.trans hx6) (fun hq hC => ok_fieldAddr rfl Tryz.underlying32 rfl (fun w => Tryz.sizeOf9 w)) rfl rfl rfl ?_)
       all_goals (refine WH.take 3 rfl (by kernel_rfl) (by kernel_rfl) (by kernel_rfl) (by kernel_rfl) rfl (by first | exact Ext.refl _ _ | assumption | exact hx5.trans hx6) (fun hq hC => ok_load (fun w => Tryz.isAgg9 w) rfl (by first | exact hC.cell (by first | exact cell_blk hb1c rfl | assumption | exact cell_blk (by assumption) rfl) n13)) rfl rfl rfl ?_)
       all_goals (refine WH.take 4 rfl (by kernel_rfl) (by kernel_rfl) (by kernel_rfl) (by kernel_rfl) rfl (by first | exact Ext.refl _ _ | assumption | exact hx5.trans hx6) (fun hq hC => ok_fieldAddr rfl Tryz.underlying32 rfl (fun w => Tryz.sizeOf9 w)) rfl rfl rfl ?_)
       all_goals (refine WH.one 5 (by kernel_rfl) ?_)
       all_goals (refine Comes1.run0 rfl (okE_store (fun w => Tryz.sizeOf9 w) rfl rfl (by assumption) (Nat.le_of_ble_eq_true rfl) rfl rfl) rfl rfl ?_ (fun _ => by kernel_rfl)
                  rintro _ h5 ⟨hb5, hx5⟩)
       all_goals (refine ⟨fun _ => hx5, ?_⟩)
       all_goals (refine WH.take 6 rfl (by kernel_rfl) (by kernel_rfl) (by kernel_rfl) (by kernel_rfl) rfl (by first | exact Ext.refl _ _ | assumption | exact hx5.trans hx6) (fun hq hC => ok_fieldAddr rfl Tryz.underlying32 rfl (fun w => Tryz.sizeOf9 w)) rfl rfl rfl ?_)
       all_goals (refine WH.one 7 (by kernel_rfl) ?_)
       all_goals (refine Comes1.run0 rfl (okE_store (fun w => Tryz.sizeOf9 w) rfl rfl (by assumption) (Nat.le_of_ble_eq_true rfl) rfl rfl) rfl rfl ?_ (fun _ => by kernel_rfl)
                  rintro _ h6 ⟨hb6, hx6⟩)
       all_goals (refine ⟨fun _ => hx5.trans hx6, ?_⟩)
       all_goals (have hE := hx5.trans hx6
                  have hb2z := hE.obj hb2c n23)
       all_goals (refine WH.done (by kernel_rfl) ?_)
       skip))
  all_goals (first
    | (fail_if_success (refine Br.mk (i := 2) ?_))
    | (refine Br.mk (i := 2) ?_
       all_goals (refine WC.seq ?_)
       all_goals (refine WC.region ?_)
       all_goals (first | (refine WL.step (OkP.bool_t (by omega) (ok_eql rfl rfl)) rfl rfl rfl ?_) | (refine WL.step (OkP.bool_f (by omega) (ok_eql rfl rfl)) rfl rfl rfl ?_) | (refine WL.step (ok_eql rfl rfl) rfl rfl rfl ?_))
       all_goals (refine WL.step (ok_assign rfl) rfl rfl rfl ?_)
       all_goals (refine WL.nil ?_)
       all_goals (repeat' (with_reducible first | refine thenP_n ?_ | refine blockP_n ?_))
       all_goals (refine WC.sub [(1, _), (2, _), (3, _), (8, _), (17, _)] ⟨rfl, rfl, rfl, rfl, rfl, trivial⟩ ?_)
       all_goals (first | refine WC.condB_t 3 rfl ?_ | refine WC.condB_f 4 rfl ?_ | (refine WC.condB 3 4 rfl (fun hb => ?_) (fun hb => ?_) <;> (first | replace hb := of_decide_eq_true hb | replace hb := of_decide_eq_false hb | replace hb := of_decide_eq_false (nt hb) | replace hb := of_decide_eq_true (nf hb) | skip)))
       all_goals (first
         | (fail_if_success (refine Br.mk (i := 3) ?_))
         | (refine Br.mk (i := 3) ?_
            all_goals (refine WC.drawH (fun h' => Ext (fun q => q = b3) h4 h') 7 8 rfl fol ?_)
            all_goals (refine WH.take 0 rfl (by kernel_rfl) (by kernel_rfl) (by kernel_rfl) (by kernel_rfl) rfl (by first | exact Ext.refl _ _ | assumption | exact hx5.trans hx6) (fun hq hC => ok_fieldAddr rfl Tryz.underlying32 rfl (fun w => Tryz.sizeOf3 w)) rfl rfl rfl ?_)
            all_goals (refine WH.take 1 rfl (by kernel_rfl) (by kernel_rfl) (by kernel_rfl) (by kernel_rfl) rfl (by first | exact Ext.refl _ _ | assumption | exact hx5.trans hx6) (fun hq hC => ok_load (fun w => Tryz.isAgg3 w) rfl (by first | exact hC.cell (by first | exact cell_blk hb1c rfl | assumption | exact cell_blk (by assumption) rfl) n13)) rfl rfl rfl ?_)
            all_goals (refine WH.take 2 rfl (by kernel_rfl) (by kernel_rfl) (by kernel_rfl) (by kernel_rfl) rfl (by first | exact Ext.refl _ _ | assumption | exact hx5.trans hx6) (fun hq hC => ok_fieldAddr rfl Tryz.underlying32 rfl (fun w => Tryz.sizeOf3 w)) rfl rfl rfl ?_)
            all_goals (refine WH.take 3 rfl (by kernel_rfl) (by kernel_rfl) (by kernel_rfl) (by kernel_rfl) rfl (by first | exact Ext.refl _ _ | assumption | exact hx5.trans hx6) (fun hq hC => ok_load (fun w => Tryz.isAgg3 w) rfl (by first | exact hC.cell (by first | exact cell_blk hb1c rfl | assumption | exact cell_blk (by assumption) rfl) n13)) rfl rfl rfl ?_)
            all_goals (refine WH.take 4 rfl (by kernel_rfl) (by kernel_rfl) (by kernel_rfl) (by kernel_rfl) rfl (by first | exact Ext.refl _ _ | assumption | exact hx5.trans hx6) (fun hq hC => ok_fieldAddr rfl Tryz.underlying32 rfl (fun w => Tryz.sizeOf3 w)) rfl rfl rfl ?_)
            all_goals (refine WH.one 5 (by kernel_rfl) ?_)
            all_goals (refine Comes1.run0 rfl (okE_store (fun w => Tryz.sizeOf3 w) rfl rfl (by assumption) (Nat.le_of_ble_eq_true rfl) rfl rfl) rfl rfl ?_ (fun _ => by kernel_rfl)
                       rintro _ h5 ⟨hb5, hx5⟩)
            all_goals (refine ⟨fun _ => hx5, ?_⟩)
            all_goals (refine WH.take 6 rfl (by kernel_rfl) (by kernel_rfl) (by kernel_rfl) (by kernel_rfl) rfl (by first | exact Ext.refl _ _ | assumption | exact hx5.trans hx6) (fun hq hC => ok_fieldAddr rfl Tryz.underlying32 rfl (fun w => Tryz.sizeOf3 w)) rfl rfl rfl ?_)
            all_goals (refine WH.one 7 (by kernel_rfl) ?_)
            all_goals (refine Comes1.run0 rfl (okE_store (fun w => Tryz.sizeOf3 w) rfl rfl (by assumption) (Nat.le_of_ble_eq_true rfl) rfl rfl) rfl rfl ?_ (fun _ => by kernel_rfl)
                       rintro _ h6 ⟨hb6, hx6⟩)
            all_goals (refine ⟨fun _ => hx5.trans hx6, ?_⟩)
            all_goals (have hE := hx5.trans hx6
                       have hb2z := hE.obj hb2c n23)
            all_goals (refine WH.done (by kernel_rfl) ?_)
            skip))
       all_goals (first
         | (fail_if_success (refine Br.mk (i := 4) ?_))
         | (refine Br.mk (i := 4) ?_
            all_goals (refine WC.seq ?_)
            all_goals (refine WC.region ?_)
            all_goals (first | (refine WL.step (OkP.bool_t (by omega) (ok_eql rfl rfl)) rfl rfl rfl ?_) | (refine WL.step (OkP.bool_f (by omega) (ok_eql rfl rfl)) rfl rfl rfl ?_) | (refine WL.step (ok_eql rfl rfl) rfl rfl rfl ?_))
            all_goals (refine WL.step (ok_assign rfl) rfl rfl rfl ?_)
            all_goals (refine WL.nil ?_)
            all_goals (repeat' (with_reducible first | refine thenP_n ?_ | refine blockP_n ?_))
            all_goals (first | refine WC.condB_t 5 rfl ?_ | refine WC.condB_f 6 rfl ?_ | (refine WC.condB 5 6 rfl (fun hb => ?_) (fun hb => ?_) <;> (first | replace hb := of_decide_eq_true hb | replace hb := of_decide_eq_false hb | replace hb := of_decide_eq_false (nt hb) | replace hb := of_decide_eq_true (nf hb) | skip)))
            all_goals (first
              | (fail_if_success (refine Br.mk (i := 5) ?_))
              | (refine Br.mk (i := 5) ?_
                 all_goals (refine WC.region ?_)
                 all_goals (refine WL.step (ok_fieldAddr rfl Tryz.underlying32 rfl (fun w => Tryz.sizeOf5 w)) rfl rfl rfl ?_)
                 all_goals (refine WL.step (ok_load (fun w => Tryz.isAgg5 w) rfl (by first | assumption | exact cell_blk (by assumption) rfl)) rfl rfl rfl ?_)
                 all_goals (refine WL.step (ok_fieldAddr rfl Tryz.underlying32 rfl (fun w => Tryz.sizeOf5 w)) rfl rfl rfl ?_)
                 all_goals (refine WL.stepR0 (okE_store (fun w => Tryz.sizeOf5 w) rfl rfl (by assumption) (Nat.le_of_ble_eq_true rfl) rfl rfl) rfl rfl ?_
                            rintro _ h5 ⟨hb5, hE⟩)
                 all_goals (have hb2z := hE.obj hb2c n23)
                 all_goals (refine WL.nil ?_)
                 skip))
            all_goals (first
              | (fail_if_success (refine Br.mk (i := 6) ?_))
              | (refine Br.mk (i := 6) ?_
                 all_goals (refine WC.seq ?_)
                 all_goals (refine WC.region ?_)
                 all_goals (first | (refine WL.step (OkP.bool_t (by omega) (ok_eql rfl rfl)) rfl rfl rfl ?_) | (refine WL.step (OkP.bool_f (by omega) (ok_eql rfl rfl)) rfl rfl rfl ?_) | (refine WL.step (ok_eql rfl rfl) rfl rfl rfl ?_))
                 all_goals (refine WL.step (ok_assign rfl) rfl rfl rfl ?_)
                 all_goals (refine WL.nil ?_)
                 all_goals (repeat' (with_reducible first | refine thenP_n ?_ | refine blockP_n ?_))
                 all_goals (refine WC.sub [(1, _), (2, _), (3, _), (8, _), (30, _)] ⟨rfl, rfl, rfl, rfl, rfl, trivial⟩ ?_)
                 all_goals (first | refine WC.condB_t 7 rfl ?_ | refine WC.condB_f 8 rfl ?_ | (refine WC.condB 7 8 rfl (fun hb => ?_) (fun hb => ?_) <;> (first | replace hb := of_decide_eq_true hb | replace hb := of_decide_eq_false hb | replace hb := of_decide_eq_false (nt hb) | replace hb := of_decide_eq_true (nf hb) | skip)))
                 all_goals (first
                   | (fail_if_success (refine Br.mk (i := 7) ?_))
                   | (refine Br.mk (i := 7) ?_
                      all_goals (refine WC.region ?_)
                      all_goals (refine WL.step (ok_fieldAddr rfl Tryz.underlying32 rfl (fun w => Tryz.sizeOf9 w)) rfl rfl rfl ?_)
                      all_goals (refine WL.step (ok_load (fun w => Tryz.isAgg9 w) rfl (by first | assumption | exact cell_blk (by assumption) rfl)) rfl rfl rfl ?_)
                      all_goals (refine WL.step (ok_fieldAddr rfl Tryz.underlying32 rfl (fun w => Tryz.sizeOf9 w)) rfl rfl rfl ?_)
                      all_goals (refine WL.stepR0 (okE_store (fun w => Tryz.sizeOf9 w) rfl rfl (by assumption) (Nat.le_of_ble_eq_true rfl) rfl rfl) rfl rfl ?_
                                 rintro _ h5 ⟨hb5, hE⟩)
                      all_goals (have hb2z := hE.obj hb2c n23)
                      all_goals (refine WL.nil ?_)
                      skip))
                 all_goals (first
                   | (fail_if_success (refine Br.mk (i := 8) ?_))
                   | (refine Br.mk (i := 8) ?_
                      all_goals (refine WC.seq ?_)
                      all_goals (refine WC.region ?_)
                      all_goals (first | (refine WL.step (OkP.bool_t (by omega) (ok_eql rfl rfl)) rfl rfl rfl ?_) | (refine WL.step (OkP.bool_f (by omega) (ok_eql rfl rfl)) rfl rfl rfl ?_) | (refine WL.step (ok_eql rfl rfl) rfl rfl rfl ?_))
                      all_goals (refine WL.step (ok_assign rfl) rfl rfl rfl ?_)
                      all_goals (refine WL.nil ?_)
                      all_goals (repeat' (with_reducible first | refine thenP_n ?_ | refine blockP_n ?_))
                      all_goals (first | refine WC.condB_t 9 rfl ?_ | refine WC.condB_f 10 rfl ?_ | (refine WC.condB 9 10 rfl (fun hb => ?_) (fun hb => ?_) <;> (first | replace hb := of_decide_eq_true hb | replace hb := of_decide_eq_false hb | replace hb := of_decide_eq_false (nt hb) | replace hb := of_decide_eq_true (nf hb) | skip)))
                      all_goals (first
                        | (fail_if_success (refine Br.mk (i := 9) ?_))
                        | (refine Br.mk (i := 9) ?_
                           all_goals (refine WC.region ?_)
                           all_goals (refine WL.step (ok_fieldAddr rfl Tryz.underlying32 rfl (fun w => Tryz.sizeOf29 w)) rfl rfl rfl ?_)
                           all_goals (refine WL.step (ok_load (fun w => Tryz.isAgg29 w) rfl (by first | assumption | exact cell_blk (by assumption) rfl)) rfl rfl rfl ?_)
                           all_goals (refine WL.step (ok_fieldAddr rfl Tryz.underlying32 rfl (fun w => Tryz.sizeOf29 w)) rfl rfl rfl ?_)
                           all_goals (refine WL.stepR0 (okE_store (fun w => Tryz.sizeOf29 w) rfl rfl (by assumption) (Nat.le_of_ble_eq_true rfl) rfl rfl) rfl rfl ?_
                                      rintro _ h5 ⟨hb5, hE⟩)
                           all_goals (have hb2z := hE.obj hb2c n23)
                           all_goals (refine WL.nil ?_)
                           skip))
                      all_goals (first
                        | (fail_if_success (refine Br.mk (i := 10) ?_))
                        | (refine Br.mk (i := 10) ?_
                           all_goals (refine WC.seq ?_)
                           all_goals (refine WC.region ?_)
                           all_goals (first | (refine WL.step (OkP.bool_t (by omega) (ok_eql rfl rfl)) rfl rfl rfl ?_) | (refine WL.step (OkP.bool_f (by omega) (ok_eql rfl rfl)) rfl rfl rfl ?_) | (refine WL.step (ok_eql rfl rfl) rfl rfl rfl ?_))
                           all_goals (refine WL.step (ok_assign rfl) rfl rfl rfl ?_)
                           all_goals (refine WL.nil ?_)
                           all_goals (repeat' (with_reducible first | refine thenP_n ?_ | refine blockP_n ?_))
                           all_goals (refine WC.sub [(1, _), (2, _), (3, _), (8, _), (40, _)] ⟨rfl, rfl, rfl, rfl, rfl, trivial⟩ ?_)
                           all_goals (first | refine WC.condB_t 11 rfl ?_ | refine WC.condB_f 12 rfl ?_ | (refine WC.condB 11 12 rfl (fun hb => ?_) (fun hb => ?_) <;> (first | replace hb := of_decide_eq_true hb | replace hb := of_decide_eq_false hb | replace hb := of_decide_eq_false (nt hb) | replace hb := of_decide_eq_true (nf hb) | skip)))
                           all_goals (first
                             | (fail_if_success (refine Br.mk (i := 11) ?_))
                             | (refine Br.mk (i := 11) ?_
                                all_goals (refine WC.region ?_)
                                all_goals (refine WL.step (ok_fieldAddr rfl Tryz.underlying32 rfl (fun w => Tryz.sizeOf28 w)) rfl rfl rfl ?_)
                                all_goals (refine WL.step (ok_load (fun w => Tryz.isAgg28 w) rfl (by first | assumption | exact cell_blk (by assumption) rfl)) rfl rfl rfl ?_)
                                all_goals (refine WL.step (ok_fieldAddr rfl Tryz.underlying32 rfl (fun w => Tryz.sizeOf28 w)) rfl rfl rfl ?_)
                                all_goals (refine WL.stepR0 (okE_store (fun w => Tryz.sizeOf28 w) rfl rfl (by assumption) (Nat.le_of_ble_eq_true rfl) rfl rfl) rfl rfl ?_
                                           rintro _ h5 ⟨hb5, hE⟩)
                                all_goals (have hb2z := hE.obj hb2c n23)
                                all_goals (refine WL.nil ?_)
                                skip))
                           all_goals (first
                             | (fail_if_success (refine Br.mk (i := 12) ?_))
                             | (refine Br.mk (i := 12) ?_
                                all_goals (refine WC.seq ?_)
                                all_goals (refine WC.region ?_)
                                all_goals (first | (refine WL.step (OkP.bool_t (by omega) (ok_eql rfl rfl)) rfl rfl rfl ?_) | (refine WL.step (OkP.bool_f (by omega) (ok_eql rfl rfl)) rfl rfl rfl ?_) | (refine WL.step (ok_eql rfl rfl) rfl rfl rfl ?_))
                                all_goals (refine WL.step (ok_assign rfl) rfl rfl rfl ?_)
                                all_goals (refine WL.nil ?_)
                                all_goals (repeat' (with_reducible first | refine thenP_n ?_ | refine blockP_n ?_))
                                all_goals (first | refine WC.condB_t 13 rfl ?_ | refine WC.condB_f 14 rfl ?_ | (refine WC.condB 13 14 rfl (fun hb => ?_) (fun hb => ?_) <;> (first | replace hb := of_decide_eq_true hb | replace hb := of_decide_eq_false hb | replace hb := of_decide_eq_false (nt hb) | replace hb := of_decide_eq_true (nf hb) | skip)))
                                all_goals (first
                                  | (fail_if_success (refine Br.mk (i := 13) ?_))
                                  | (refine Br.mk (i := 13) ?_
                                     all_goals (refine WC.region ?_)
                                     all_goals (refine WL.step (ok_fieldAddr rfl Tryz.underlying32 rfl (fun w => Tryz.sizeOf27 w)) rfl rfl rfl ?_)
                                     all_goals (refine WL.step (ok_load (fun w => Tryz.isAgg27 w) rfl (by first | assumption | exact cell_blk (by assumption) rfl)) rfl rfl rfl ?_)
                                     all_goals (refine WL.step (ok_fieldAddr rfl Tryz.underlying32 rfl (fun w => Tryz.sizeOf27 w)) rfl rfl rfl ?_)
                                     all_goals (refine WL.stepR0 (okE_store (fun w => Tryz.sizeOf27 w) rfl rfl (by assumption) (Nat.le_of_ble_eq_true rfl) rfl rfl) rfl rfl ?_
                                                rintro _ h5 ⟨hb5, hE⟩)
                                     all_goals (have hb2z := hE.obj hb2c n23)
                                     all_goals (refine WL.nil ?_)
                                     skip))
                                all_goals (first
                                  | (fail_if_success (refine Br.mk (i := 14) ?_))
                                  | (refine Br.mk (i := 14) ?_
                                     all_goals (refine WC.seq ?_)
                                     all_goals (refine WC.seq ?_)
                                     all_goals (refine WC.region ?_)
                                     all_goals (first | (refine WL.step (OkP.bool_t (by omega) (ok_eql rfl rfl)) rfl rfl rfl ?_) | (refine WL.step (OkP.bool_f (by omega) (ok_eql rfl rfl)) rfl rfl rfl ?_) | (refine WL.step (ok_eql rfl rfl) rfl rfl rfl ?_))
                                     all_goals (refine WL.step (ok_assign rfl) rfl rfl rfl ?_)
                                     all_goals (refine WL.nil ?_)
                                     all_goals (repeat' (with_reducible first | refine thenP_n ?_ | refine blockP_n ?_))
                                     all_goals (refine WC.sub [(1, _), (2, _), (3, _), (8, _), (50, _)] ⟨rfl, rfl, rfl, rfl, rfl, trivial⟩ ?_)
                                     all_goals (first | refine WC.condB_t 15 rfl ?_ | refine WC.condB_f 16 rfl ?_ | (refine WC.condB 15 16 rfl (fun hb => ?_) (fun hb => ?_) <;> (first | replace hb := of_decide_eq_true hb | replace hb := of_decide_eq_false hb | replace hb := of_decide_eq_false (nt hb) | replace hb := of_decide_eq_true (nf hb) | skip)))
                                     all_goals (first
                                       | (fail_if_success (refine Br.mk (i := 15) ?_))
                                       | (refine Br.mk (i := 15) ?_
                                          all_goals (refine WC.skip ?_)
                                          skip))
                                     all_goals (first
                                       | (fail_if_success (refine Br.mk (i := 16) ?_))
                                       | (refine Br.mk (i := 16) ?_
                                          all_goals (refine WC.region ?_)
                                          all_goals (first | (refine WL.step (OkP.bool_t (by omega) (ok_eql rfl rfl)) rfl rfl rfl ?_) | (refine WL.step (OkP.bool_f (by omega) (ok_eql rfl rfl)) rfl rfl rfl ?_) | (refine WL.step (ok_eql rfl rfl) rfl rfl rfl ?_))
                                          all_goals (refine WL.step (ok_assign rfl) rfl rfl rfl ?_)
                                          all_goals (refine WL.nil ?_)
                                          skip))
                                     all_goals (repeat' (with_reducible first | refine thenP_n ?_ | refine blockP_n ?_))
                                     all_goals (first | refine WC.condB_t 17 rfl ?_ | refine WC.condB_f 18 rfl ?_ | (refine WC.condB 17 18 rfl (fun hb => ?_) (fun hb => ?_) <;> (first | replace hb := of_decide_eq_true hb | replace hb := of_decide_eq_false hb | replace hb := of_decide_eq_false (nt hb) | replace hb := of_decide_eq_true (nf hb) | skip)))
                                     all_goals (first
                                       | (fail_if_success (refine Br.mk (i := 17) ?_))
                                       | (refine Br.mk (i := 17) ?_
                                          all_goals (refine WC.region ?_)
                                          all_goals (refine WL.step (ok_fieldAddr rfl Tryz.underlying32 rfl (fun w => Tryz.sizeOf30 w)) rfl rfl rfl ?_)
                                          all_goals (refine WL.step (ok_load (fun w => Tryz.isAgg30 w) rfl (by first | assumption | exact cell_blk (by assumption) rfl)) rfl rfl rfl ?_)
                                          all_goals (refine WL.step (ok_fieldAddr rfl Tryz.underlying32 rfl (fun w => Tryz.sizeOf30 w)) rfl rfl rfl ?_)
                                          all_goals (refine WL.stepR0 (okE_store (fun w => Tryz.sizeOf30 w) rfl rfl (by assumption) (Nat.le_of_ble_eq_true rfl) rfl rfl) rfl rfl ?_
                                                     rintro _ h5 ⟨hb5, hE⟩)
                                          all_goals (have hb2z := hE.obj hb2c n23)
                                          all_goals (refine WL.nil ?_)
                                          skip))
                                     all_goals (first
                                       | (fail_if_success (refine Br.mk (i := 18) ?_))
                                       | (refine Br.mk (i := 18) ?_
                                          all_goals (refine WC.skip ?_)
                                          skip))
                                     skip))
                                skip))
                           skip))
                      skip))
                 skip))
            skip))
       skip))
  all_goals (repeat' (with_reducible first | refine thenP_n ?_ | refine blockP_n ?_))
  all_goals (refine WC.seq ?_)
  all_goals (refine WC.region ?_)
  all_goals (refine WL.step (ok_loadN (fun w => Tryz.isAgg32 w) (fun w => Tryz.sizeOf32 w) rfl rfl (by exact (by first | exact At.of_block hb6 | exact At.of_block hb5 | exact At.of_block hb4))) rfl rfl rfl ?_)
  all_goals (refine WL.stepR0 (okE_storeW (fun w => Tryz.sizeOf32 w) rfl rfl rfl (by first | exact hb2z | exact hb2c) rfl (by simp [Value.oneCell'])) rfl rfl ?_
             rintro _ h9 ⟨hb9, hx9⟩)
  all_goals (refine WL.nil ?_)
  all_goals (repeat' (with_reducible first | refine thenP_n ?_ | refine blockP_n ?_))
  all_goals (refine WC.sub [(2, _)] ⟨rfl, trivial⟩ ?_)
  all_goals (refine WC.ret ?_)
  all_goals (repeat' (with_reducible first | refine thenP_r ?_ | refine blockP_r ?_))
  all_goals (refine retP_1 _ ⟨⟨_, rfl, ld_blk (fun w => Tryz.isAgg32 w) (fun w => Tryz.sizeOf32 w) (by assumption) rfl⟩, trivial⟩ ?_)
  all_goals (have hs1 := hx1.size
             have hs2 := hx2.size
             refine ⟨?_, by first | exact (hX4.trans' hE (fun q hq e => by omega)).trans' hx9 (fun q hq e => by omega) | exact hX4.trans' hx9 (fun q hq e => by omega)⟩
             first
              | (exfalso; omega)
              | (simp only [ofB, if_pos, *]; rfl)
              | (simp [ofB, zB, Bk.cells, *]; done))
/-! ### Check -/
def kindsB : List UInt8 := [82, 83, 75, 90, 49, 50, 51, 110, 115, 73, 67, 68, 84, 116, 69, 78]
set_option maxRecDepth 100000 in
theorem known_back {h : Heap} (k : UInt8) (hk : kindsB.contains k = true) : CallsH Tryz.prog 95 ⟨[By k]⟩ h fun u h' => u = .bool true ∧ Ext No h h' := by
  have e1 := Lib.contains_iff_indexByte [82, 83, 75, 90, 49, 50, 51, 110, 115, 73, 67, 68, 84, 116, 69, 78] k
  rw [show ([82, 83, 75, 90, 49, 50, 51, 110, 115, 73, 67, 68, 84, 116, 69, 78] : List UInt8).contains k = true from hk] at e1
  refine calls [(0, _)] Tryz.func95 rfl Tryz.ntmps95 rfl ⟨rfl, trivial⟩ ?_
  all_goals (refine WC.seq ?_)
  all_goals (refine WC.region ?_)
  all_goals (refine WL.step (ok_assign rfl) rfl rfl rfl ?_)
  all_goals (refine WL.nil ?_)
  all_goals (repeat' (with_reducible first | refine thenP_n ?_ | refine blockP_n ?_))
  all_goals (refine WC.seq ?_)
  all_goals (refine WC.region ?_)
  all_goals (refine WL.stepR (okE_buildSlice (vs := [_, _, _, _, _, _, _, _, _, _, _, _, _, _, _, _]) (cs := [_, _, _, _, _, _, _, _, _, _, _, _, _, _, _, _]) (fun | [a0, a1, a2, a3, a4, a5, a6, a7, a8, a9, a10, a11, a12, a13, a14, a15] => [a0, a1, a2, a3, a4, a5, a6, a7, a8, a9, a10, a11, a12, a13, a14, a15] | _ => []) Tryz.underlying24 rfl rfl (by kernel_rfl)) rfl rfl rfl ?_
             rintro _ h1 ⟨b1, rfl, hg1, hb1, hx1⟩)
  all_goals (refine WL.stepR (okE_convSS Tryz.underlying24 Tryz.underlying5 rfl (by assumption)) rfl rfl rfl ?_
             rintro _ h2 ⟨rfl, ⟨z2, hb2⟩, hx2⟩)
  all_goals (refine WL.step (ok_move rfl) rfl rfl rfl ?_)
  all_goals (refine WL.call (vs := [_, _]) rfl (fun a w => Tryz.call124 a w) rfl (indexByte_bys [82, 83, 75, 90, 49, 50, 51, 110, 115, 73, 67, 68, 84, 116, 69, 78] k (rd_blk hb2 rfl) (by simp)) rfl rfl rfl ?_
             rintro _ hz ⟨rfl, _⟩
             subst hz)
  all_goals (refine WL.step (OkP.bool_t (of_decide_eq_true e1.symm) (ok_geq rfl rfl)) rfl rfl rfl ?_)
  all_goals (refine WL.step (ok_assign rfl) rfl rfl rfl ?_)
  all_goals (refine WL.nil ?_)
  all_goals (repeat' (with_reducible first | refine thenP_n ?_ | refine blockP_n ?_))
  all_goals (refine WC.sub [(2, _)] ⟨rfl, trivial⟩ ?_)
  all_goals (refine WC.ret ?_)
  all_goals (repeat' (with_reducible first | refine thenP_r ?_ | refine blockP_r ?_))
  all_goals (refine retP_1 _ ⟨rfl, trivial⟩ ?_)
  all_goals (exact ⟨rfl, hx1.trans' hx2 (fun q hq e => by omega)⟩)
def Bk.stOk (b : Bk) : Prop := b.kind ≠ 90 ∨ b.status = 73 ∨ b.status = 84 ∨ b.status = 69
set_option maxRecDepth 100000 in
theorem status_ok {h : Heap} (b : Bk) (hb : b.ok h) (hs : b.stOk) : CallsH Tryz.prog 105 ⟨[.agg ⟨b.cells⟩]⟩ h fun u h' => u = .bool true ∧ Ext No h h' := by
  obtain ⟨k, st, t, n, v, x, y, vo, lo, vc, lc, vr, lr, vf, lf⟩ := b
  simp only [Bk.stOk] at hs
  dsimp only [Bk.cells]
  by_cases hk : k = 90
  · subst hk
    simp only [ne_eq, not_true_eq_false, false_or] at hs
    rcases hs with rfl | rfl | rfl
    all_goals
      refine calls [(0, _)] Tryz.func105 rfl Tryz.ntmps105 rfl ⟨rfl, trivial⟩ ?_
      all_goals (refine WC.seq ?_)
      all_goals (refine WC.region ?_)
      all_goals (refine WL.stepR (okE_box rfl) rfl rfl rfl ?_
                 rintro _ h1 ⟨b1, rfl, hg1, hb1, hx1⟩)
      all_goals (refine WL.step (ok_assign rfl) rfl rfl rfl ?_)
      all_goals (refine WL.nil ?_)
      all_goals (repeat' (with_reducible first | refine thenP_n ?_ | refine blockP_n ?_))
      all_goals (refine WC.seq ?_)
      all_goals (refine WC.region ?_)
      all_goals (refine WL.step (ok_fieldAddr rfl Tryz.underlying32 rfl (fun w => Tryz.sizeOf5 w)) rfl rfl rfl ?_)
      all_goals (refine WL.step (ok_load (fun w => Tryz.isAgg5 w) rfl (by first | assumption | exact cell_blk (by assumption) rfl)) rfl rfl rfl ?_)
      all_goals (first | (refine WL.step (OkP.nbool_t (by omega) (ok_neq rfl rfl)) rfl rfl rfl ?_) | (refine WL.step (OkP.nbool_f (by omega) (ok_neq rfl rfl)) rfl rfl rfl ?_) | (refine WL.step (ok_neq rfl rfl) rfl rfl rfl ?_))
      all_goals (refine WL.step (ok_move rfl) rfl rfl rfl ?_)
      all_goals (try ((fail_if_success (refine WL.part 6 (b := true) rfl (fun _ => ?_) (fun _ => ?_))); (fail_if_success (refine WL.part 6 (b := false) rfl (fun _ => ?_) (fun _ => ?_))); (refine WL.part 6 rfl (fun hb => ?_) (fun hb => ?_) <;> (first | replace hb := of_decide_eq_true hb | replace hb := of_decide_eq_false hb | replace hb := of_decide_eq_false (nt hb) | replace hb := of_decide_eq_true (nf hb) | skip))))
      all_goals (first | (refine WL.pass rfl rfl rfl ?_) | (refine WL.step (ok_fieldAddr rfl Tryz.underlying32 rfl (fun w => Tryz.sizeOf5 w)) rfl rfl rfl ?_))
      all_goals (first | (refine WL.pass rfl rfl rfl ?_) | (refine WL.step (ok_load (fun w => Tryz.isAgg5 w) rfl (by first | assumption | exact cell_blk (by assumption) rfl)) rfl rfl rfl ?_))
      all_goals (first | (refine WL.pass rfl rfl rfl ?_) | (first | (refine WL.step (OkP.bool_t (by omega) (ok_eql rfl rfl)) rfl rfl rfl ?_) | (refine WL.step (OkP.bool_f (by omega) (ok_eql rfl rfl)) rfl rfl rfl ?_) | (refine WL.step (ok_eql rfl rfl) rfl rfl rfl ?_)))
      all_goals (first | (refine WL.step (ok_pick_t rfl rfl) rfl rfl rfl ?_) | (refine WL.step (ok_pick_f rfl rfl) rfl rfl rfl ?_))
      all_goals (refine WL.step (ok_move rfl) rfl rfl rfl ?_)
      all_goals (try ((fail_if_success (refine WL.part 11 (b := true) rfl (fun _ => ?_) (fun _ => ?_))); (fail_if_success (refine WL.part 11 (b := false) rfl (fun _ => ?_) (fun _ => ?_))); (refine WL.part 11 rfl (fun hb => ?_) (fun hb => ?_) <;> (first | replace hb := of_decide_eq_true hb | replace hb := of_decide_eq_false hb | replace hb := of_decide_eq_false (nt hb) | replace hb := of_decide_eq_true (nf hb) | skip))))
      all_goals (first | (refine WL.pass rfl rfl rfl ?_) | (refine WL.step (ok_fieldAddr rfl Tryz.underlying32 rfl (fun w => Tryz.sizeOf5 w)) rfl rfl rfl ?_))
      all_goals (first | (refine WL.pass rfl rfl rfl ?_) | (refine WL.step (ok_load (fun w => Tryz.isAgg5 w) rfl (by first | assumption | exact cell_blk (by assumption) rfl)) rfl rfl rfl ?_))
      all_goals (first | (refine WL.pass rfl rfl rfl ?_) | (first | (refine WL.step (OkP.bool_t (by omega) (ok_eql rfl rfl)) rfl rfl rfl ?_) | (refine WL.step (OkP.bool_f (by omega) (ok_eql rfl rfl)) rfl rfl rfl ?_) | (refine WL.step (ok_eql rfl rfl) rfl rfl rfl ?_)))
      all_goals (first | (refine WL.step (ok_pick_t rfl rfl) rfl rfl rfl ?_) | (refine WL.step (ok_pick_f rfl rfl) rfl rfl rfl ?_))
      all_goals (refine WL.step (ok_move rfl) rfl rfl rfl ?_)
      all_goals (try ((fail_if_success (refine WL.part 16 (b := true) rfl (fun _ => ?_) (fun _ => ?_))); (fail_if_success (refine WL.part 16 (b := false) rfl (fun _ => ?_) (fun _ => ?_))); (refine WL.part 16 rfl (fun hb => ?_) (fun hb => ?_) <;> (first | replace hb := of_decide_eq_true hb | replace hb := of_decide_eq_false hb | replace hb := of_decide_eq_false (nt hb) | replace hb := of_decide_eq_true (nf hb) | skip))))
      all_goals (first | (refine WL.pass rfl rfl rfl ?_) | (refine WL.step (ok_fieldAddr rfl Tryz.underlying32 rfl (fun w => Tryz.sizeOf5 w)) rfl rfl rfl ?_))
      all_goals (first | (refine WL.pass rfl rfl rfl ?_) | (refine WL.step (ok_load (fun w => Tryz.isAgg5 w) rfl (by first | assumption | exact cell_blk (by assumption) rfl)) rfl rfl rfl ?_))
      all_goals (first | (refine WL.pass rfl rfl rfl ?_) | (first | (refine WL.step (OkP.bool_t (by omega) (ok_eql rfl rfl)) rfl rfl rfl ?_) | (refine WL.step (OkP.bool_f (by omega) (ok_eql rfl rfl)) rfl rfl rfl ?_) | (refine WL.step (ok_eql rfl rfl) rfl rfl rfl ?_)))
      all_goals (first | (refine WL.step (ok_pick_t rfl rfl) rfl rfl rfl ?_) | (refine WL.step (ok_pick_f rfl rfl) rfl rfl rfl ?_))
      all_goals (refine WL.step (ok_assign rfl) rfl rfl rfl ?_)
      all_goals (refine WL.nil ?_)
      all_goals (repeat' (with_reducible first | refine thenP_n ?_ | refine blockP_n ?_))
      all_goals (refine WC.sub [(2, _)] ⟨rfl, trivial⟩ ?_)
      all_goals (refine WC.ret ?_)
      all_goals (repeat' (with_reducible first | refine thenP_r ?_ | refine blockP_r ?_))
      all_goals (refine retP_1 _ ⟨rfl, trivial⟩ ?_)
      all_goals (exact ⟨rfl, hx1⟩)
  ·
    refine calls [(0, _)] Tryz.func105 rfl Tryz.ntmps105 rfl ⟨rfl, trivial⟩ ?_
    all_goals (refine WC.seq ?_)
    all_goals (refine WC.region ?_)
    all_goals (refine WL.stepR (okE_box rfl) rfl rfl rfl ?_
               rintro _ h1 ⟨b1, rfl, hg1, hb1, hx1⟩)
    all_goals (refine WL.step (ok_assign rfl) rfl rfl rfl ?_)
    all_goals (refine WL.nil ?_)
    all_goals (repeat' (with_reducible first | refine thenP_n ?_ | refine blockP_n ?_))
    all_goals (refine WC.seq ?_)
    all_goals (refine WC.region ?_)
    all_goals (refine WL.step (ok_fieldAddr rfl Tryz.underlying32 rfl (fun w => Tryz.sizeOf5 w)) rfl rfl rfl ?_)
    all_goals (refine WL.step (ok_load (fun w => Tryz.isAgg5 w) rfl (by first | assumption | exact cell_blk (by assumption) rfl)) rfl rfl rfl ?_)
    all_goals (first | (refine WL.step (OkP.nbool_t (by omega) (ok_neq rfl rfl)) rfl rfl rfl ?_) | (refine WL.step (OkP.nbool_f (by omega) (ok_neq rfl rfl)) rfl rfl rfl ?_) | (refine WL.step (ok_neq rfl rfl) rfl rfl rfl ?_))
    all_goals (refine WL.step (ok_move rfl) rfl rfl rfl ?_)
    all_goals (try ((fail_if_success (refine WL.part 6 (b := true) rfl (fun _ => ?_) (fun _ => ?_))); (fail_if_success (refine WL.part 6 (b := false) rfl (fun _ => ?_) (fun _ => ?_))); (refine WL.part 6 rfl (fun hb => ?_) (fun hb => ?_) <;> (first | replace hb := of_decide_eq_true hb | replace hb := of_decide_eq_false hb | replace hb := of_decide_eq_false (nt hb) | replace hb := of_decide_eq_true (nf hb) | skip))))
    all_goals (first | (refine WL.pass rfl rfl rfl ?_) | (refine WL.step (ok_fieldAddr rfl Tryz.underlying32 rfl (fun w => Tryz.sizeOf5 w)) rfl rfl rfl ?_))
    all_goals (first | (refine WL.pass rfl rfl rfl ?_) | (refine WL.step (ok_load (fun w => Tryz.isAgg5 w) rfl (by first | assumption | exact cell_blk (by assumption) rfl)) rfl rfl rfl ?_))
    all_goals (first | (refine WL.pass rfl rfl rfl ?_) | (first | (refine WL.step (OkP.bool_t (by omega) (ok_eql rfl rfl)) rfl rfl rfl ?_) | (refine WL.step (OkP.bool_f (by omega) (ok_eql rfl rfl)) rfl rfl rfl ?_) | (refine WL.step (ok_eql rfl rfl) rfl rfl rfl ?_)))
    all_goals (first | (refine WL.step (ok_pick_t rfl rfl) rfl rfl rfl ?_) | (refine WL.step (ok_pick_f rfl rfl) rfl rfl rfl ?_))
    all_goals (refine WL.step (ok_move rfl) rfl rfl rfl ?_)
    all_goals (try ((fail_if_success (refine WL.part 11 (b := true) rfl (fun _ => ?_) (fun _ => ?_))); (fail_if_success (refine WL.part 11 (b := false) rfl (fun _ => ?_) (fun _ => ?_))); (refine WL.part 11 rfl (fun hb => ?_) (fun hb => ?_) <;> (first | replace hb := of_decide_eq_true hb | replace hb := of_decide_eq_false hb | replace hb := of_decide_eq_false (nt hb) | replace hb := of_decide_eq_true (nf hb) | skip))))
    all_goals (first | (refine WL.pass rfl rfl rfl ?_) | (refine WL.step (ok_fieldAddr rfl Tryz.underlying32 rfl (fun w => Tryz.sizeOf5 w)) rfl rfl rfl ?_))
    all_goals (first | (refine WL.pass rfl rfl rfl ?_) | (refine WL.step (ok_load (fun w => Tryz.isAgg5 w) rfl (by first | assumption | exact cell_blk (by assumption) rfl)) rfl rfl rfl ?_))
    all_goals (first | (refine WL.pass rfl rfl rfl ?_) | (first | (refine WL.step (OkP.bool_t (by omega) (ok_eql rfl rfl)) rfl rfl rfl ?_) | (refine WL.step (OkP.bool_f (by omega) (ok_eql rfl rfl)) rfl rfl rfl ?_) | (refine WL.step (ok_eql rfl rfl) rfl rfl rfl ?_)))
    all_goals (first | (refine WL.step (ok_pick_t rfl rfl) rfl rfl rfl ?_) | (refine WL.step (ok_pick_f rfl rfl) rfl rfl rfl ?_))
    all_goals (refine WL.step (ok_move rfl) rfl rfl rfl ?_)
    all_goals (try ((fail_if_success (refine WL.part 16 (b := true) rfl (fun _ => ?_) (fun _ => ?_))); (fail_if_success (refine WL.part 16 (b := false) rfl (fun _ => ?_) (fun _ => ?_))); (refine WL.part 16 rfl (fun hb => ?_) (fun hb => ?_) <;> (first | replace hb := of_decide_eq_true hb | replace hb := of_decide_eq_false hb | replace hb := of_decide_eq_false (nt hb) | replace hb := of_decide_eq_true (nf hb) | skip))))
    all_goals (first | (refine WL.pass rfl rfl rfl ?_) | (refine WL.step (ok_fieldAddr rfl Tryz.underlying32 rfl (fun w => Tryz.sizeOf5 w)) rfl rfl rfl ?_))
    all_goals (first | (refine WL.pass rfl rfl rfl ?_) | (refine WL.step (ok_load (fun w => Tryz.isAgg5 w) rfl (by first | assumption | exact cell_blk (by assumption) rfl)) rfl rfl rfl ?_))
    all_goals (first | (refine WL.pass rfl rfl rfl ?_) | (first | (refine WL.step (OkP.bool_t (by omega) (ok_eql rfl rfl)) rfl rfl rfl ?_) | (refine WL.step (OkP.bool_f (by omega) (ok_eql rfl rfl)) rfl rfl rfl ?_) | (refine WL.step (ok_eql rfl rfl) rfl rfl rfl ?_)))
    all_goals (first | (refine WL.step (ok_pick_t rfl rfl) rfl rfl rfl ?_) | (refine WL.step (ok_pick_f rfl rfl) rfl rfl rfl ?_))
    all_goals (refine WL.step (ok_assign rfl) rfl rfl rfl ?_)
    all_goals (refine WL.nil ?_)
    all_goals (repeat' (with_reducible first | refine thenP_n ?_ | refine blockP_n ?_))
    all_goals (refine WC.sub [(2, _)] ⟨rfl, trivial⟩ ?_)
    all_goals (refine WC.ret ?_)
    all_goals (repeat' (with_reducible first | refine thenP_r ?_ | refine blockP_r ?_))
    all_goals (refine retP_1 _ ⟨rfl, trivial⟩ ?_)
    all_goals (exact ⟨rfl, hx1⟩)
/-- A message that may be. -/
structure Bk.may (b : Bk) : Prop where
  kind : ∃ k : UInt8, Value.int .u8 b.kind = By k ∧ kindsB.contains k = true
  tag : cleanB b.tag = true
  name : cleanB b.name = true
  value : cleanB b.value = true
  cols : b.cols.length ≤ 65535 ∧ ∀ c ∈ b.cols, c.okB
  fields : b.fields.length ≤ 65535 ∧ ∀ f ∈ b.fields, f.okB
  row : b.row.length ≤ 65535 ∧ ∀ c ∈ b.row, c.okB
  oids : b.oids.length ≤ 65535 ∧ ∀ n ∈ b.oids, 0 ≤ n ∧ n ≤ 4294967295
  n : 0 ≤ b.n ∧ b.n ≤ 4294967295
  m : 0 ≤ b.m ∧ b.m ≤ 4294967295
  st : b.stOk
  own : (ofB b).pl = b.pl
set_option maxHeartbeats 2000000 in
set_option maxRecDepth 100000 in
theorem check_back {h : Heap} (b : Bk) (hb : b.ok h) (hm : b.may) : CallsH Tryz.prog 75 ⟨[.agg ⟨b.cells⟩]⟩ h fun u h' => u = In 0 ∧ Ext No h h' := by
  have hof := fun {h' : Heap} (hx : Ext No h h') => of_back (h := h') b (hb.ext0 hx)
  have hst := fun {h' : Heap} (hx : Ext No h h') => status_ok (h := h') b (hb.ext0 hx) hm.st
  have hsa := fun {h' : Heap} (hx : Ext No h h') => same_back (h := h') b (ofB b) (hb.ext0 hx) (ofB_ok (hb.ext0 hx)) hm.own.symm
  obtain ⟨⟨k8, hk8, hkc⟩, h1, h2, h3, h4, h5, h6, h7, h8, h9, _, _⟩ := hm
  generalize ofB b = ob at hof hsa
  obtain ⟨ho, hc, hr, hf⟩ := hb
  obtain ⟨k, st, t, n, v, x, y, vo, lo, vc, lc, vr, lr, vf, lf⟩ := b
  simp only at hk8 h1 h2 h3 h4 h5 h6 h7 h8 h9 ho hc hr hf
  dsimp only [Bk.cells] at hof hst hsa ⊢
  have hkn : ∀ {h : Heap}, CallsH Tryz.prog 95 ⟨[.int .u8 k]⟩ h fun u h' => u = .bool true ∧ Ext No h h' := by rw [hk8]; exact known_back k8 hkc
  refine calls [(0, _)] Tryz.func75 rfl Tryz.ntmps75 rfl ⟨rfl, trivial⟩ ?_
  all_goals (refine WC.seq ?_)
  all_goals (refine WC.region ?_)
  all_goals (refine WL.stepR (okE_box rfl) rfl rfl rfl ?_
             rintro _ g1 ⟨b1, rfl, hg1, hb1, hx1⟩)
  all_goals (refine WL.step (ok_assign rfl) rfl rfl rfl ?_)
  all_goals (refine WL.nil ?_)
  all_goals (repeat' (with_reducible first | refine thenP_n ?_ | refine blockP_n ?_))
  all_goals (refine WC.seq ?_)
  all_goals (refine WC.seq ?_)
  all_goals (refine WC.region ?_)
  all_goals (refine WL.step (ok_fieldAddr rfl Tryz.underlying32 rfl (fun w => Tryz.sizeOf5 w)) rfl rfl rfl ?_)
  all_goals (refine WL.step (ok_load (fun w => Tryz.isAgg5 w) rfl (by first | assumption | exact cell_blk (by assumption) rfl)) rfl rfl rfl ?_)
  all_goals (refine WL.call (vs := [_]) rfl (fun a w => Tryz.call95 a w) rfl (hkn) rfl rfl rfl ?_
             rintro _ g2 ⟨rfl, hx2⟩)
  all_goals (have hb2 := hx2.obj hb1 nos
             have hX2 := hx1.trans hx2)
  all_goals (refine WL.step (ok_not rfl) rfl rfl rfl ?_)
  all_goals (refine WL.nil ?_)
  all_goals (repeat' (with_reducible first | refine thenP_n ?_ | refine blockP_n ?_))
  all_goals (refine WC.sub [(1, _), (8, _)] ⟨rfl, rfl, trivial⟩ ?_)
  all_goals (first | refine WC.condB_t 1 rfl ?_ | refine WC.condB_f 2 rfl ?_ | (refine WC.condB 1 2 rfl (fun hb => ?_) (fun hb => ?_) <;> (first | replace hb := of_decide_eq_true hb | replace hb := of_decide_eq_false hb | replace hb := of_decide_eq_false (nt hb) | replace hb := of_decide_eq_true (nf hb) | skip)))
  all_goals (first
    | (fail_if_success (refine Br.mk (i := 1) ?_))
    | (refine Br.mk (i := 1) ?_
       all_goals (refine WC.seq ?_)
       all_goals (refine WC.region ?_)
       all_goals (refine WL.step (ok_assign rfl) rfl rfl rfl ?_)
       all_goals (refine WL.nil ?_)
       all_goals (repeat' (with_reducible first | refine thenP_n ?_ | refine blockP_n ?_))
       all_goals (refine WC.ret ?_)
       all_goals (repeat' (with_reducible first | refine thenP_r ?_ | refine blockP_r ?_))
       all_goals (refine retP_1 _ ⟨rfl, trivial⟩ ?_)
       all_goals (exact ⟨rfl, hX8.trans hx9⟩)
       skip))
  all_goals (first
    | (fail_if_success (refine Br.mk (i := 2) ?_))
    | (refine Br.mk (i := 2) ?_
       all_goals (refine WC.skip ?_)
       skip))
  all_goals (repeat' (with_reducible first | refine thenP_n ?_ | refine blockP_n ?_))
  all_goals (refine WC.seq ?_)
  all_goals (refine WC.region ?_)
  all_goals (refine WL.step (ok_fieldAddr rfl Tryz.underlying32 rfl (fun w => Tryz.sizeOf9 w)) rfl rfl rfl ?_)
  all_goals (refine WL.step (ok_load (fun w => Tryz.isAgg9 w) rfl (by first | assumption | exact cell_blk (by assumption) rfl)) rfl rfl rfl ?_)
  all_goals (refine WL.call (vs := [_]) rfl (fun a w => Tryz.call96 a w) rfl ((clean_any t).as (congrArg Value.bool h1)) rfl rfl rfl ?_
             rintro _ hz ⟨rfl, _⟩
             subst hz)
  all_goals (refine WL.step (ok_move rfl) rfl rfl rfl ?_)
  all_goals (try ((fail_if_success (refine WL.part 12 (b := true) rfl (fun _ => ?_) (fun _ => ?_))); (fail_if_success (refine WL.part 12 (b := false) rfl (fun _ => ?_) (fun _ => ?_))); (refine WL.part 12 rfl (fun hb => ?_) (fun hb => ?_) <;> (first | replace hb := of_decide_eq_true hb | replace hb := of_decide_eq_false hb | replace hb := of_decide_eq_false (nt hb) | replace hb := of_decide_eq_true (nf hb) | skip))))
  all_goals (first | (refine WL.pass rfl rfl rfl ?_) | (refine WL.step (ok_fieldAddr rfl Tryz.underlying32 rfl (fun w => Tryz.sizeOf9 w)) rfl rfl rfl ?_))
  all_goals (first | (refine WL.pass rfl rfl rfl ?_) | (refine WL.step (ok_load (fun w => Tryz.isAgg9 w) rfl (by first | assumption | exact cell_blk (by assumption) rfl)) rfl rfl rfl ?_))
  all_goals (first
               | (refine WL.pass rfl rfl rfl ?_)
               | (refine WL.call (vs := [_]) rfl (fun a w => Tryz.call96 a w) rfl ((clean_any n).as (congrArg Value.bool h2)) rfl rfl rfl ?_
                  rintro _ hz ⟨rfl, _⟩
                  subst hz))
  all_goals (first | (refine WL.step (ok_pick_t rfl rfl) rfl rfl rfl ?_) | (refine WL.step (ok_pick_f rfl rfl) rfl rfl rfl ?_))
  all_goals (refine WL.step (ok_move rfl) rfl rfl rfl ?_)
  all_goals (try ((fail_if_success (refine WL.part 17 (b := true) rfl (fun _ => ?_) (fun _ => ?_))); (fail_if_success (refine WL.part 17 (b := false) rfl (fun _ => ?_) (fun _ => ?_))); (refine WL.part 17 rfl (fun hb => ?_) (fun hb => ?_) <;> (first | replace hb := of_decide_eq_true hb | replace hb := of_decide_eq_false hb | replace hb := of_decide_eq_false (nt hb) | replace hb := of_decide_eq_true (nf hb) | skip))))
  all_goals (first | (refine WL.pass rfl rfl rfl ?_) | (refine WL.step (ok_fieldAddr rfl Tryz.underlying32 rfl (fun w => Tryz.sizeOf9 w)) rfl rfl rfl ?_))
  all_goals (first | (refine WL.pass rfl rfl rfl ?_) | (refine WL.step (ok_load (fun w => Tryz.isAgg9 w) rfl (by first | assumption | exact cell_blk (by assumption) rfl)) rfl rfl rfl ?_))
  all_goals (first
               | (refine WL.pass rfl rfl rfl ?_)
               | (refine WL.call (vs := [_]) rfl (fun a w => Tryz.call96 a w) rfl ((clean_any v).as (congrArg Value.bool h3)) rfl rfl rfl ?_
                  rintro _ hz ⟨rfl, _⟩
                  subst hz))
  all_goals (first | (refine WL.step (ok_pick_t rfl rfl) rfl rfl rfl ?_) | (refine WL.step (ok_pick_f rfl rfl) rfl rfl rfl ?_))
  all_goals (refine WL.step (ok_assign rfl) rfl rfl rfl ?_)
  all_goals (refine WL.nil ?_)
  all_goals (repeat' (with_reducible first | refine thenP_n ?_ | refine blockP_n ?_))
  all_goals (refine WC.sub [(1, _), (3, _)] ⟨rfl, rfl, trivial⟩ ?_)
  all_goals (refine WC.seq ?_)
  all_goals (refine WC.region ?_)
  all_goals (refine WL.step (ok_fieldAddr rfl Tryz.underlying32 rfl (fun w => Tryz.sizeOf28 w)) rfl rfl rfl ?_)
  all_goals (refine WL.step (ok_load (fun w => Tryz.isAgg28 w) rfl (by first | assumption | exact cell_blk (by assumption) rfl)) rfl rfl rfl ?_)
  all_goals (refine WL.call (vs := [_, _]) rfl (fun a w => Tryz.call97 a w) rfl (every_col lc (hc.1.ext0 hX2) h4.1 (fun a w => Tryz.call98 a w) (fun c hc _ _ => column_ok c (h4.2 c hc))) rfl rfl rfl ?_
             rintro _ g3 ⟨rfl, hx3⟩)
  all_goals (have hb3 := hx3.obj hb2 nos
             have hX3 := hX2.trans hx3)
  all_goals (refine WL.step (ok_move rfl) rfl rfl rfl ?_)
  all_goals (try ((fail_if_success (refine WL.part 25 (b := true) rfl (fun _ => ?_) (fun _ => ?_))); (fail_if_success (refine WL.part 25 (b := false) rfl (fun _ => ?_) (fun _ => ?_))); (refine WL.part 25 rfl (fun hb => ?_) (fun hb => ?_) <;> (first | replace hb := of_decide_eq_true hb | replace hb := of_decide_eq_false hb | replace hb := of_decide_eq_false (nt hb) | replace hb := of_decide_eq_true (nf hb) | skip))))
  all_goals (first | (refine WL.pass rfl rfl rfl ?_) | (refine WL.step (ok_fieldAddr rfl Tryz.underlying32 rfl (fun w => Tryz.sizeOf30 w)) rfl rfl rfl ?_))
  all_goals (first | (refine WL.pass rfl rfl rfl ?_) | (refine WL.step (ok_load (fun w => Tryz.isAgg30 w) rfl (by first | assumption | exact cell_blk (by assumption) rfl)) rfl rfl rfl ?_))
  all_goals (first
               | (refine WL.pass rfl rfl rfl ?_)
               | (refine WL.call (vs := [_, _]) rfl (fun a w => Tryz.call99 a w) rfl (every_fld lf (hf.1.ext0 hX3) h5.1 (fun a w => Tryz.call100 a w) (fun c hc _ _ => field_ok c (h5.2 c hc))) rfl rfl rfl ?_
                  rintro _ g4 ⟨rfl, hx4⟩))
  all_goals (have hb4 := hx4.obj hb3 nos
             have hX4 := hX3.trans hx4)
  all_goals (first | (refine WL.step (ok_pick_t rfl rfl) rfl rfl rfl ?_) | (refine WL.step (ok_pick_f rfl rfl) rfl rfl rfl ?_))
  all_goals (refine WL.step (ok_move rfl) rfl rfl rfl ?_)
  all_goals (try ((fail_if_success (refine WL.part 30 (b := true) rfl (fun _ => ?_) (fun _ => ?_))); (fail_if_success (refine WL.part 30 (b := false) rfl (fun _ => ?_) (fun _ => ?_))); (refine WL.part 30 rfl (fun hb => ?_) (fun hb => ?_) <;> (first | replace hb := of_decide_eq_true hb | replace hb := of_decide_eq_false hb | replace hb := of_decide_eq_false (nt hb) | replace hb := of_decide_eq_true (nf hb) | skip))))
  all_goals (first | (refine WL.pass rfl rfl rfl ?_) | (refine WL.step (ok_fieldAddr rfl Tryz.underlying32 rfl (fun w => Tryz.sizeOf29 w)) rfl rfl rfl ?_))
  all_goals (first | (refine WL.pass rfl rfl rfl ?_) | (refine WL.step (ok_load (fun w => Tryz.isAgg29 w) rfl (by first | assumption | exact cell_blk (by assumption) rfl)) rfl rfl rfl ?_))
  all_goals (first
               | (refine WL.pass rfl rfl rfl ?_)
               | (refine WL.call (vs := [_, _]) rfl (fun a w => Tryz.call101 a w) rfl (every_cel lr (hr.1.ext0 hX4) h6.1 (fun a w => Tryz.call102 a w) (fun c hc _ _ => cell_ok c (hr.2.2 c hc) (h6.2 c hc))) rfl rfl rfl ?_
                  rintro _ g5 ⟨rfl, hx5⟩))
  all_goals (have hb5 := hx5.obj hb4 nos
             have hX5 := hX4.trans hx5)
  all_goals (first | (refine WL.step (ok_pick_t rfl rfl) rfl rfl rfl ?_) | (refine WL.step (ok_pick_f rfl rfl) rfl rfl rfl ?_))
  all_goals (refine WL.step (ok_move rfl) rfl rfl rfl ?_)
  all_goals (try ((fail_if_success (refine WL.part 35 (b := true) rfl (fun _ => ?_) (fun _ => ?_))); (fail_if_success (refine WL.part 35 (b := false) rfl (fun _ => ?_) (fun _ => ?_))); (refine WL.part 35 rfl (fun hb => ?_) (fun hb => ?_) <;> (first | replace hb := of_decide_eq_true hb | replace hb := of_decide_eq_false hb | replace hb := of_decide_eq_false (nt hb) | replace hb := of_decide_eq_true (nf hb) | skip))))
  all_goals (first | (refine WL.pass rfl rfl rfl ?_) | (refine WL.step (ok_fieldAddr rfl Tryz.underlying32 rfl (fun w => Tryz.sizeOf27 w)) rfl rfl rfl ?_))
  all_goals (first | (refine WL.pass rfl rfl rfl ?_) | (refine WL.step (ok_load (fun w => Tryz.isAgg27 w) rfl (by first | assumption | exact cell_blk (by assumption) rfl)) rfl rfl rfl ?_))
  all_goals (first
               | (refine WL.pass rfl rfl rfl ?_)
               | (refine WL.call (vs := [_, _]) rfl (fun a w => Tryz.call103 a w) rfl (every_int lo (ho.1.ext0 hX5) h7.1 h7.2) rfl rfl rfl ?_
                  rintro _ g6 ⟨rfl, hx6⟩))
  all_goals (have hb6 := hx6.obj hb5 nos
             have hX6 := hX5.trans hx6)
  all_goals (first | (refine WL.step (ok_pick_t rfl rfl) rfl rfl rfl ?_) | (refine WL.step (ok_pick_f rfl rfl) rfl rfl rfl ?_))
  all_goals (refine WL.step (ok_assign rfl) rfl rfl rfl ?_)
  all_goals (refine WL.nil ?_)
  all_goals (repeat' (with_reducible first | refine thenP_n ?_ | refine blockP_n ?_))
  all_goals (refine WC.sub [(1, _), (3, _), (4, _)] ⟨rfl, rfl, rfl, trivial⟩ ?_)
  all_goals (refine WC.seq ?_)
  all_goals (refine WC.seq ?_)
  all_goals (refine WC.drawH (fun h' => h'[b1]? = some (.cells ⟨[.int .u8 k, .int .u8 st, St t, St n, St v, In x, In y, vo, vc, vr, vf]⟩ 32 (0, 0))) 30 30 rfl fol ?_)
  all_goals (refine WH.take 0 rfl (by kernel_rfl) (by kernel_rfl) (by kernel_rfl) (by kernel_rfl) rfl (by first | exact hb6 | exact hb7 | exact hb8 | exact hb9) (fun hq hC => ok_move rfl) rfl rfl rfl ?_)
  all_goals (refine WH.take 1 rfl (by kernel_rfl) (by kernel_rfl) (by kernel_rfl) (by kernel_rfl) rfl (by first | exact hb6 | exact hb7 | exact hb8 | exact hb9) (fun hq hC => ok_not rfl) rfl rfl rfl ?_)
  all_goals (refine WH.take 2 rfl (by kernel_rfl) (by kernel_rfl) (by kernel_rfl) (by kernel_rfl) rfl (by first | exact hb6 | exact hb7 | exact hb8 | exact hb9) (fun hq hC => ok_move rfl) rfl rfl rfl ?_)
  all_goals (try ((fail_if_success (refine WH.part 42 (b := true) rfl (fun _ => ?_) (fun _ => ?_))); (fail_if_success (refine WH.part 42 (b := false) rfl (fun _ => ?_) (fun _ => ?_))); (refine WH.part 42 rfl (fun hb => ?_) (fun hb => ?_))))
  all_goals (first | (refine WH.pass 3 rfl (by kernel_rfl) (by kernel_rfl) (by kernel_rfl) (by kernel_rfl) rfl (by first | exact hb6 | exact hb7 | exact hb8 | exact hb9) rfl rfl rfl ?_) | (refine WH.take 3 rfl (by kernel_rfl) (by kernel_rfl) (by kernel_rfl) (by kernel_rfl) rfl (by first | exact hb6 | exact hb7 | exact hb8 | exact hb9) (fun hq hC => ok_move rfl) rfl rfl rfl ?_))
  all_goals (first | (refine WH.pass 4 rfl (by kernel_rfl) (by kernel_rfl) (by kernel_rfl) (by kernel_rfl) rfl (by first | exact hb6 | exact hb7 | exact hb8 | exact hb9) rfl rfl rfl ?_) | (refine WH.take 4 rfl (by kernel_rfl) (by kernel_rfl) (by kernel_rfl) (by kernel_rfl) rfl (by first | exact hb6 | exact hb7 | exact hb8 | exact hb9) (fun hq hC => ok_not rfl) rfl rfl rfl ?_))
  all_goals (first | (refine WH.take 5 rfl (by kernel_rfl) (by kernel_rfl) (by kernel_rfl) (by kernel_rfl) rfl (by first | exact hb6 | exact hb7 | exact hb8 | exact hb9) (fun hq hC => ok_pick_t rfl rfl) rfl rfl rfl ?_) | (refine WH.take 5 rfl (by kernel_rfl) (by kernel_rfl) (by kernel_rfl) (by kernel_rfl) rfl (by first | exact hb6 | exact hb7 | exact hb8 | exact hb9) (fun hq hC => ok_pick_f rfl rfl) rfl rfl rfl ?_))
  all_goals (refine WH.take 6 rfl (by kernel_rfl) (by kernel_rfl) (by kernel_rfl) (by kernel_rfl) rfl (by first | exact hb6 | exact hb7 | exact hb8 | exact hb9) (fun hq hC => ok_move rfl) rfl rfl rfl ?_)
  all_goals (try ((fail_if_success (refine WH.part 46 (b := true) rfl (fun _ => ?_) (fun _ => ?_))); (fail_if_success (refine WH.part 46 (b := false) rfl (fun _ => ?_) (fun _ => ?_))); (refine WH.part 46 rfl (fun hb => ?_) (fun hb => ?_))))
  all_goals (first | (refine WH.pass 7 rfl (by kernel_rfl) (by kernel_rfl) (by kernel_rfl) (by kernel_rfl) rfl (by first | exact hb6 | exact hb7 | exact hb8 | exact hb9) rfl rfl rfl ?_) | (refine WH.take 7 rfl (by kernel_rfl) (by kernel_rfl) (by kernel_rfl) (by kernel_rfl) rfl (by first | exact hb6 | exact hb7 | exact hb8 | exact hb9) (fun hq hC => ok_fieldAddr rfl Tryz.underlying32 rfl (fun w => Tryz.sizeOf3 w)) rfl rfl rfl ?_))
  all_goals (first | (refine WH.pass 8 rfl (by kernel_rfl) (by kernel_rfl) (by kernel_rfl) (by kernel_rfl) rfl (by first | exact hb6 | exact hb7 | exact hb8 | exact hb9) rfl rfl rfl ?_) | (refine WH.take 8 rfl (by kernel_rfl) (by kernel_rfl) (by kernel_rfl) (by kernel_rfl) rfl (by first | exact hb6 | exact hb7 | exact hb8 | exact hb9) (fun hq hC => ok_load (fun w => Tryz.isAgg3 w) rfl (cell_blk hC rfl)) rfl rfl rfl ?_))
  all_goals (first
    | (refine WH.pass 9 rfl (by kernel_rfl) (by kernel_rfl) (by kernel_rfl) (by kernel_rfl) rfl (by first | exact hb6 | exact hb7 | exact hb8 | exact hb9) rfl rfl rfl ?_)
    | (all_goals (refine WH.one 9 (by kernel_rfl) ?_)
       all_goals (refine Comes1.call (vs := [_]) rfl rfl (fun a w => Tryz.call104 a w) rfl (oid_ok x h8.1 h8.2) rfl rfl rfl ?_ (fun _ => by kernel_rfl)
                  rintro _ hz ⟨rfl, _⟩
                  subst hz)
       all_goals (refine ⟨fun _ => by first | assumption | trivial, ?_⟩)
       skip))
  all_goals (first | (refine WH.pass 10 rfl (by kernel_rfl) (by kernel_rfl) (by kernel_rfl) (by kernel_rfl) rfl (by first | exact hb6 | exact hb7 | exact hb8 | exact hb9) rfl rfl rfl ?_) | (refine WH.take 10 rfl (by kernel_rfl) (by kernel_rfl) (by kernel_rfl) (by kernel_rfl) rfl (by first | exact hb6 | exact hb7 | exact hb8 | exact hb9) (fun hq hC => ok_not rfl) rfl rfl rfl ?_))
  all_goals (first | (refine WH.take 11 rfl (by kernel_rfl) (by kernel_rfl) (by kernel_rfl) (by kernel_rfl) rfl (by first | exact hb6 | exact hb7 | exact hb8 | exact hb9) (fun hq hC => ok_pick_t rfl rfl) rfl rfl rfl ?_) | (refine WH.take 11 rfl (by kernel_rfl) (by kernel_rfl) (by kernel_rfl) (by kernel_rfl) rfl (by first | exact hb6 | exact hb7 | exact hb8 | exact hb9) (fun hq hC => ok_pick_f rfl rfl) rfl rfl rfl ?_))
  all_goals (refine WH.take 12 rfl (by kernel_rfl) (by kernel_rfl) (by kernel_rfl) (by kernel_rfl) rfl (by first | exact hb6 | exact hb7 | exact hb8 | exact hb9) (fun hq hC => ok_move rfl) rfl rfl rfl ?_)
  all_goals (try ((fail_if_success (refine WH.part 52 (b := true) rfl (fun _ => ?_) (fun _ => ?_))); (fail_if_success (refine WH.part 52 (b := false) rfl (fun _ => ?_) (fun _ => ?_))); (refine WH.part 52 rfl (fun hb => ?_) (fun hb => ?_))))
  all_goals (first | (refine WH.pass 13 rfl (by kernel_rfl) (by kernel_rfl) (by kernel_rfl) (by kernel_rfl) rfl (by first | exact hb6 | exact hb7 | exact hb8 | exact hb9) rfl rfl rfl ?_) | (refine WH.take 13 rfl (by kernel_rfl) (by kernel_rfl) (by kernel_rfl) (by kernel_rfl) rfl (by first | exact hb6 | exact hb7 | exact hb8 | exact hb9) (fun hq hC => ok_fieldAddr rfl Tryz.underlying32 rfl (fun w => Tryz.sizeOf3 w)) rfl rfl rfl ?_))
  all_goals (first | (refine WH.pass 14 rfl (by kernel_rfl) (by kernel_rfl) (by kernel_rfl) (by kernel_rfl) rfl (by first | exact hb6 | exact hb7 | exact hb8 | exact hb9) rfl rfl rfl ?_) | (refine WH.take 14 rfl (by kernel_rfl) (by kernel_rfl) (by kernel_rfl) (by kernel_rfl) rfl (by first | exact hb6 | exact hb7 | exact hb8 | exact hb9) (fun hq hC => ok_load (fun w => Tryz.isAgg3 w) rfl (cell_blk hC rfl)) rfl rfl rfl ?_))
  all_goals (first
    | (refine WH.pass 15 rfl (by kernel_rfl) (by kernel_rfl) (by kernel_rfl) (by kernel_rfl) rfl (by first | exact hb6 | exact hb7 | exact hb8 | exact hb9) rfl rfl rfl ?_)
    | (all_goals (refine WH.one 15 (by kernel_rfl) ?_)
       all_goals (refine Comes1.call (vs := [_]) rfl rfl (fun a w => Tryz.call104 a w) rfl (oid_ok y h9.1 h9.2) rfl rfl rfl ?_ (fun _ => by kernel_rfl)
                  rintro _ hz ⟨rfl, _⟩
                  subst hz)
       all_goals (refine ⟨fun _ => by first | assumption | trivial, ?_⟩)
       skip))
  all_goals (first | (refine WH.pass 16 rfl (by kernel_rfl) (by kernel_rfl) (by kernel_rfl) (by kernel_rfl) rfl (by first | exact hb6 | exact hb7 | exact hb8 | exact hb9) rfl rfl rfl ?_) | (refine WH.take 16 rfl (by kernel_rfl) (by kernel_rfl) (by kernel_rfl) (by kernel_rfl) rfl (by first | exact hb6 | exact hb7 | exact hb8 | exact hb9) (fun hq hC => ok_not rfl) rfl rfl rfl ?_))
  all_goals (first | (refine WH.take 17 rfl (by kernel_rfl) (by kernel_rfl) (by kernel_rfl) (by kernel_rfl) rfl (by first | exact hb6 | exact hb7 | exact hb8 | exact hb9) (fun hq hC => ok_pick_t rfl rfl) rfl rfl rfl ?_) | (refine WH.take 17 rfl (by kernel_rfl) (by kernel_rfl) (by kernel_rfl) (by kernel_rfl) rfl (by first | exact hb6 | exact hb7 | exact hb8 | exact hb9) (fun hq hC => ok_pick_f rfl rfl) rfl rfl rfl ?_))
  all_goals (refine WH.take 18 rfl (by kernel_rfl) (by kernel_rfl) (by kernel_rfl) (by kernel_rfl) rfl (by first | exact hb6 | exact hb7 | exact hb8 | exact hb9) (fun hq hC => ok_move rfl) rfl rfl rfl ?_)
  all_goals (try ((fail_if_success (refine WH.part 58 (b := true) rfl (fun _ => ?_) (fun _ => ?_))); (fail_if_success (refine WH.part 58 (b := false) rfl (fun _ => ?_) (fun _ => ?_))); (refine WH.part 58 rfl (fun hb => ?_) (fun hb => ?_))))
  all_goals (first | (refine WH.pass 19 rfl (by kernel_rfl) (by kernel_rfl) (by kernel_rfl) (by kernel_rfl) rfl (by first | exact hb6 | exact hb7 | exact hb8 | exact hb9) rfl rfl rfl ?_) | (refine WH.take 19 rfl (by kernel_rfl) (by kernel_rfl) (by kernel_rfl) (by kernel_rfl) rfl (by first | exact hb6 | exact hb7 | exact hb8 | exact hb9) (fun hq hC => ok_loadN (fun w => Tryz.isAgg32 w) (fun w => Tryz.sizeOf32 w) rfl rfl (by exact At.of_block hC)) rfl rfl rfl ?_))
  all_goals (first
    | (refine WH.pass 20 rfl (by kernel_rfl) (by kernel_rfl) (by kernel_rfl) (by kernel_rfl) rfl (by first | exact hb6 | exact hb7 | exact hb8 | exact hb9) rfl rfl rfl ?_)
    | (all_goals (refine WH.one 20 (by kernel_rfl) ?_)
       all_goals (refine Comes1.call (vs := [_]) rfl rfl (fun a w => Tryz.call105 a w) rfl (hst hX6) rfl rfl rfl ?_ (fun _ => by kernel_rfl)
                  rintro _ g7 ⟨rfl, hx7⟩)
       all_goals (refine ⟨fun _ => hx7.obj hb6 nos, ?_⟩)
       all_goals (have hb7 := hx7.obj hb6 nos
                  have hX7 := hX6.trans hx7)
       skip))
  all_goals (first | (refine WH.pass 21 rfl (by kernel_rfl) (by kernel_rfl) (by kernel_rfl) (by kernel_rfl) rfl (by first | exact hb6 | exact hb7 | exact hb8 | exact hb9) rfl rfl rfl ?_) | (refine WH.take 21 rfl (by kernel_rfl) (by kernel_rfl) (by kernel_rfl) (by kernel_rfl) rfl (by first | exact hb6 | exact hb7 | exact hb8 | exact hb9) (fun hq hC => ok_not rfl) rfl rfl rfl ?_))
  all_goals (first | (refine WH.take 22 rfl (by kernel_rfl) (by kernel_rfl) (by kernel_rfl) (by kernel_rfl) rfl (by first | exact hb6 | exact hb7 | exact hb8 | exact hb9) (fun hq hC => ok_pick_t rfl rfl) rfl rfl rfl ?_) | (refine WH.take 22 rfl (by kernel_rfl) (by kernel_rfl) (by kernel_rfl) (by kernel_rfl) rfl (by first | exact hb6 | exact hb7 | exact hb8 | exact hb9) (fun hq hC => ok_pick_f rfl rfl) rfl rfl rfl ?_))
  all_goals (refine WH.take 23 rfl (by kernel_rfl) (by kernel_rfl) (by kernel_rfl) (by kernel_rfl) rfl (by first | exact hb6 | exact hb7 | exact hb8 | exact hb9) (fun hq hC => ok_move rfl) rfl rfl rfl ?_)
  all_goals (try ((fail_if_success (refine WH.part 63 (b := true) rfl (fun _ => ?_) (fun _ => ?_))); (fail_if_success (refine WH.part 63 (b := false) rfl (fun _ => ?_) (fun _ => ?_))); (refine WH.part 63 rfl (fun hb => ?_) (fun hb => ?_))))
  all_goals (first | (refine WH.pass 24 rfl (by kernel_rfl) (by kernel_rfl) (by kernel_rfl) (by kernel_rfl) rfl (by first | exact hb6 | exact hb7 | exact hb8 | exact hb9) rfl rfl rfl ?_) | (refine WH.take 24 rfl (by kernel_rfl) (by kernel_rfl) (by kernel_rfl) (by kernel_rfl) rfl (by first | exact hb6 | exact hb7 | exact hb8 | exact hb9) (fun hq hC => ok_loadN (fun w => Tryz.isAgg32 w) (fun w => Tryz.sizeOf32 w) rfl rfl (by exact At.of_block hC)) rfl rfl rfl ?_))
  all_goals (first | (refine WH.pass 25 rfl (by kernel_rfl) (by kernel_rfl) (by kernel_rfl) (by kernel_rfl) rfl (by first | exact hb6 | exact hb7 | exact hb8 | exact hb9) rfl rfl rfl ?_) | (refine WH.take 25 rfl (by kernel_rfl) (by kernel_rfl) (by kernel_rfl) (by kernel_rfl) rfl (by first | exact hb6 | exact hb7 | exact hb8 | exact hb9) (fun hq hC => ok_loadN (fun w => Tryz.isAgg32 w) (fun w => Tryz.sizeOf32 w) rfl rfl (by exact At.of_block hC)) rfl rfl rfl ?_))
  all_goals (first
    | (refine WH.pass 26 rfl (by kernel_rfl) (by kernel_rfl) (by kernel_rfl) (by kernel_rfl) rfl (by first | exact hb6 | exact hb7 | exact hb8 | exact hb9) rfl rfl rfl ?_)
    | (all_goals (refine WH.one 26 (by kernel_rfl) ?_)
       all_goals (refine Comes1.call (vs := [_]) rfl rfl (fun a w => Tryz.call106 a w) rfl (hof hX7) rfl rfl rfl ?_ (fun _ => by kernel_rfl)
                  rintro _ g8 ⟨rfl, hx8⟩)
       all_goals (refine ⟨fun _ => hx8.obj hb7 nos, ?_⟩)
       all_goals (have hb8 := hx8.obj hb7 nos
                  have hX8 := hX7.trans hx8)
       skip))
  all_goals (first
    | (refine WH.pass 27 rfl (by kernel_rfl) (by kernel_rfl) (by kernel_rfl) (by kernel_rfl) rfl (by first | exact hb6 | exact hb7 | exact hb8 | exact hb9) rfl rfl rfl ?_)
    | (all_goals (refine WH.one 27 (by kernel_rfl) ?_)
       all_goals (refine Comes1.call (vs := [_, _]) rfl rfl (fun a w => Tryz.call9 a w) rfl (hsa hX8) rfl rfl rfl ?_ (fun _ => by kernel_rfl)
                  rintro _ g9 ⟨rfl, hx9⟩)
       all_goals (refine ⟨fun _ => hx9.obj hb8 nos, ?_⟩)
       all_goals (have hb9 := hx9.obj hb8 nos)
       skip))
  all_goals (first | (refine WH.pass 28 rfl (by kernel_rfl) (by kernel_rfl) (by kernel_rfl) (by kernel_rfl) rfl (by first | exact hb6 | exact hb7 | exact hb8 | exact hb9) rfl rfl rfl ?_) | (refine WH.take 28 rfl (by kernel_rfl) (by kernel_rfl) (by kernel_rfl) (by kernel_rfl) rfl (by first | exact hb6 | exact hb7 | exact hb8 | exact hb9) (fun hq hC => ok_not rfl) rfl rfl rfl ?_))
  all_goals (first | (refine WH.take 29 rfl (by kernel_rfl) (by kernel_rfl) (by kernel_rfl) (by kernel_rfl) rfl (by first | exact hb6 | exact hb7 | exact hb8 | exact hb9) (fun hq hC => ok_pick_t rfl rfl) rfl rfl rfl ?_) | (refine WH.take 29 rfl (by kernel_rfl) (by kernel_rfl) (by kernel_rfl) (by kernel_rfl) rfl (by first | exact hb6 | exact hb7 | exact hb8 | exact hb9) (fun hq hC => ok_pick_f rfl rfl) rfl rfl rfl ?_))
  all_goals (refine WH.done (by kernel_rfl) ?_)
  all_goals (repeat' (with_reducible first | refine thenP_n ?_ | refine blockP_n ?_))
  all_goals (refine WC.sub [(69, _)] ⟨rfl, trivial⟩ ?_)
  all_goals (first | refine WC.condB_t 3 rfl ?_ | refine WC.condB_f 4 rfl ?_ | (refine WC.condB 3 4 rfl (fun hb => ?_) (fun hb => ?_) <;> (first | replace hb := of_decide_eq_true hb | replace hb := of_decide_eq_false hb | replace hb := of_decide_eq_false (nt hb) | replace hb := of_decide_eq_true (nf hb) | skip)))
  all_goals (first
    | (fail_if_success (refine Br.mk (i := 3) ?_))
    | (refine Br.mk (i := 3) ?_
       all_goals (refine WC.seq ?_)
       all_goals (refine WC.region ?_)
       all_goals (refine WL.step (ok_assign rfl) rfl rfl rfl ?_)
       all_goals (refine WL.nil ?_)
       all_goals (repeat' (with_reducible first | refine thenP_n ?_ | refine blockP_n ?_))
       all_goals (refine WC.ret ?_)
       all_goals (repeat' (with_reducible first | refine thenP_r ?_ | refine blockP_r ?_))
       all_goals (refine retP_1 _ ⟨rfl, trivial⟩ ?_)
       all_goals (exact ⟨rfl, hX8.trans hx9⟩)
       skip))
  all_goals (first
    | (fail_if_success (refine Br.mk (i := 4) ?_))
    | (refine Br.mk (i := 4) ?_
       all_goals (refine WC.skip ?_)
       skip))
  all_goals (repeat' (with_reducible first | refine thenP_n ?_ | refine blockP_n ?_))
  all_goals (refine WC.seq ?_)
  all_goals (refine WC.region ?_)
  all_goals (refine WL.step (ok_assign rfl) rfl rfl rfl ?_)
  all_goals (refine WL.nil ?_)
  all_goals (repeat' (with_reducible first | refine thenP_n ?_ | refine blockP_n ?_))
  all_goals (refine WC.ret ?_)
  all_goals (repeat' (with_reducible first | refine thenP_r ?_ | refine blockP_r ?_))
  all_goals (refine retP_1 _ ⟨rfl, trivial⟩ ?_)
  all_goals (exact ⟨rfl, hX8.trans hx9⟩)
end Go.Proofs.YtkpgnhhidnkmcaaGreatDoor

/-
  THE ADDRESS OF AN ARRAY's ENTRY. No program is named here.
-/
namespace Go.RK
open Go

section
variable {P : Program} {f : Fr} {h : Heap} {d : Option Tmp} {ty : TypeId} {pos : String} {af : Array Edge} {g : Option (Nat × Bool)}
theorem ok_idxAddrR {t e : TypeId} {x y : Operand} {b o l sz k : Nat} {kd : IntKind} {i : Int} (hu : P.underlying t = some (.array l e)) (hz : ∀ w, (sizeOf e).run P w = .ok sz w)
    (hx : f.ev x = some (.pointer (some ⟨b, o, Option.none⟩))) (hy : f.ev y = some (.int kd i)) (hi : i = (k : Int)) (hk : k < l) :
    OkP P f ⟨d, .indexAddr t x y, ty, pos, af, g⟩ h (.pointer (some ⟨b, o + k * sz, Option.none⟩)) := fun ρ w ha _ => by
  subst hi
  have h1 : (0 : Int) ≤ k ∧ (k : Int) < l := ⟨by omega, by omega⟩
  have hs : (Instr.sureAddr (.pointer (some ⟨b, o, Option.none⟩))).run P w = .ok ⟨b, o, Option.none⟩ w := rfl
  simp [execOp, ha _ _ hx, ha _ _ hy, Instr.indexAt, asIntOf, run_underlying hu, h1, hz, hs, hk, Addr.add_lit]
/-- A field, of one cell, of a struct's value. -/
theorem ok_field {t : TypeId} {x : Operand} {i : Nat} {fs : Array Field} {fl : Field} {cs : List Value} {v : Value} (hu : P.underlying t = some (.struct fs)) (hf : fs[i]? = some fl) (ha1 : ∀ w, (isAgg fl.type).run P w = .ok false w)
    (hx : f.ev x = some (.agg ⟨cs⟩)) (hv : cs[fl.offset]? = some v) : OkP P f ⟨d, .field t x i, ty, pos, af, g⟩ h v := fun ρ w ha _ => by
  simp [execOp, ha _ _ hx, Instr.field, run_underlying hu, hf, part, asAgg, ha1, hv]
end
end Go.RK
/-
  FAULTS (layer 8): fields of messages: found, set, made.
-/
namespace Go.Proofs.YtkpgnhhidnkmcaaGreatDoor
open Go Go.RK

abbrev atP (c : Int) (f : FieldD) : Bool := decide (f.k = c)
set_option maxRecDepth 100000 in
theorem atf {h : Heap} {b : Nat} {ty : TypeId} (x : FieldD) (c : Int) (hb : h[b]? = some (.cells ⟨[.int .u8 c]⟩ ty (0, 0))) : CallsH Tryz.prog 66 ⟨[.agg ⟨x.cells⟩, .pointer (some ⟨b, 0, none⟩)]⟩ h fun u h' => u = .bool (atP c x) ∧ Ext No h h' := by
  obtain ⟨k, t⟩ := x
  dsimp only [FieldD.cells, atP]
  refine calls [(0, _), (1, _)] Tryz.func66 rfl Tryz.ntmps66 rfl ⟨rfl, rfl, trivial⟩ ?_
  all_goals (refine WC.seq ?_)
  all_goals (refine WC.region ?_)
  all_goals (refine WL.stepR (okE_box rfl) rfl rfl rfl ?_
             rintro _ h1 ⟨b1, rfl, hg1, hb1, hx1⟩)
  all_goals (refine WL.step (ok_assign rfl) rfl rfl rfl ?_)
  all_goals (refine WL.nil ?_)
  all_goals (repeat' (with_reducible first | refine thenP_n ?_ | refine blockP_n ?_))
  all_goals (refine WC.seq ?_)
  all_goals (refine WC.region ?_)
  all_goals (refine WL.step (ok_fieldAddr rfl Tryz.underlying60 rfl (fun w => Tryz.sizeOf5 w)) rfl rfl rfl ?_)
  all_goals (refine WL.step (ok_load (fun w => Tryz.isAgg5 w) rfl (by first | assumption | exact cell_blk (by assumption) rfl)) rfl rfl rfl ?_)
  all_goals (refine WL.step (ok_load (fun w => Tryz.isAgg5 w) rfl (by first | exact cell_blk (hx1.obj hb nos) rfl | assumption | exact cell_blk (by assumption) rfl)) rfl rfl rfl ?_)
  all_goals (refine WL.step (ok_eql rfl rfl) rfl rfl rfl ?_)
  all_goals (refine WL.step (ok_assign rfl) rfl rfl rfl ?_)
  all_goals (refine WL.nil ?_)
  all_goals (repeat' (with_reducible first | refine thenP_n ?_ | refine blockP_n ?_))
  all_goals (refine WC.sub [(3, _)] ⟨rfl, trivial⟩ ?_)
  all_goals (refine WC.ret ?_)
  all_goals (repeat' (with_reducible first | refine thenP_r ?_ | refine blockP_r ?_))
  all_goals (refine retP_1 _ ⟨rfl, trivial⟩ ?_)
  all_goals (exact ⟨rfl, hx1⟩)
set_option maxRecDepth 100000 in
theorem at_v {h : Heap} {v : Value} (F : List FieldD) (c : Int) (hr : Rd h v 2 F.length (F.flatMap FieldD.cells)) (hm : F.length ≤ maxLen) : CallsH Tryz.prog 43 ⟨[v, .int .u8 c]⟩ h fun u h' => u = In (idxP (atP c) F) ∧ Ext No h h' := by
  refine calls [(0, _), (1, _)] Tryz.func43 rfl Tryz.ntmps43 rfl ⟨rfl, rfl, trivial⟩ ?_
  all_goals (refine WC.seq ?_)
  all_goals (refine WC.region ?_)
  all_goals (refine WL.stepR (okE_box rfl) rfl rfl rfl ?_
             rintro _ h1 ⟨b1, rfl, hg1, hb1, hx1⟩)
  all_goals (refine WL.step (ok_assign rfl) rfl rfl rfl ?_)
  all_goals (refine WL.nil ?_)
  all_goals (repeat' (with_reducible first | refine thenP_n ?_ | refine blockP_n ?_))
  all_goals (refine WC.seq ?_)
  all_goals (refine WC.region ?_)
  all_goals (refine WL.step (ok_move rfl) rfl rfl rfl ?_)
  all_goals (refine WL.step (ok_makeFunc (vs := []) (us := [_]) rfl rfl) rfl rfl rfl ?_)
  all_goals (refine WL.call (vs := [_, _]) rfl (fun a w => Tryz.call51 a w) rfl (indexFunc_fld F (atP c) (fun a w => Tryz.call66 a w) (fs := []) (us := [.pointer (some ⟨b1, 0, none⟩)]) (hr.ext0 hx1) hm (fun x hx h' hx' => atf x c (hx'.obj hb1 nos))) rfl rfl rfl ?_
             rintro _ h2 ⟨rfl, hx2⟩)
  all_goals (refine WL.step (ok_assign rfl) rfl rfl rfl ?_)
  all_goals (refine WL.nil ?_)
  all_goals (repeat' (with_reducible first | refine thenP_n ?_ | refine blockP_n ?_))
  all_goals (refine WC.sub [(4, _)] ⟨rfl, trivial⟩ ?_)
  all_goals (refine WC.ret ?_)
  all_goals (repeat' (with_reducible first | refine thenP_r ?_ | refine blockP_r ?_))
  all_goals (refine retP_1 _ ⟨rfl, trivial⟩ ?_)
  all_goals (exact ⟨rfl, hx1.trans hx2⟩)
def getT (c : Int) (F : List FieldD) : Option (List UInt8) := (F.find? (atP c)).map (·.t)
theorem getT_at {c : Int} {F : List FieldD} {k : Nat} {y : FieldD} (h1 : F[k]? = some y) (h2 : atP c y = true) (h3 : ∀ x ∈ F.take k, atP c x = false) : getT c F = some y.t := by
  have hk := (List.getElem?_eq_some_iff.1 h1)
  have e : F = F.take k ++ y :: F.drop (k + 1) := by
    conv => lhs; rw [← List.take_append_drop k F]
    rw [List.drop_eq_getElem_cons hk.1, hk.2]
  unfold getT
  rw [e, List.find?_append, List.find?_eq_none.2 (fun x hx => by rw [h3 x hx]; decide), Option.none_or, List.find?_cons, h2]
  rfl
theorem getT_no {c : Int} {F : List FieldD} (h : ∀ x ∈ F, atP c x = false) : getT c F = none := by
  unfold getT
  rw [List.find?_eq_none.2 (fun x hx => by rw [h x hx]; decide)]
  rfl
set_option maxRecDepth 100000 in
theorem get_v {h : Heap} {v : Value} (F : List FieldD) (c : Int) (hr : Rd h v 2 F.length (F.flatMap FieldD.cells)) (hm : F.length ≤ maxLen) : CallsH Tryz.prog 16 ⟨[v, .int .u8 c]⟩ h fun u h' => u = .tuple ⟨[St ((getT c F).getD []), .bool (getT c F).isSome]⟩ ∧ Ext No h h' := by
  have ka := at_v F c hr hm
  obtain ⟨A, cc, rfl, _⟩ := id hr
  rcases idxP_cases (atP c) F with ⟨e, hno⟩ | ⟨k, y, e, hy, hp, hn⟩
  · rw [e] at ka
    rw [getT_no hno]
    refine calls [(0, _), (1, _)] Tryz.func16 rfl Tryz.ntmps16 rfl ⟨rfl, rfl, trivial⟩ ?_
    all_goals (refine WC.seq ?_)
    all_goals (refine WC.region ?_)
    all_goals (refine WL.step (ok_assign rfl) rfl rfl rfl ?_)
    all_goals (refine WL.step (ok_assign rfl) rfl rfl rfl ?_)
    all_goals (refine WL.nil ?_)
    all_goals (repeat' (with_reducible first | refine thenP_n ?_ | refine blockP_n ?_))
    all_goals (refine WC.seq ?_)
    all_goals (refine WC.region ?_)
    all_goals (refine WL.step (ok_move rfl) rfl rfl rfl ?_)
    all_goals (refine WL.step (ok_move rfl) rfl rfl rfl ?_)
    all_goals (refine WL.call (vs := [_, _]) rfl (fun a w => Tryz.call43 a w) rfl (ka) rfl rfl rfl ?_
               rintro _ h1 ⟨rfl, hx1⟩)
    all_goals (refine WL.step (ok_assign rfl) rfl rfl rfl ?_)
    all_goals (refine WL.nil ?_)
    all_goals (repeat' (with_reducible first | refine thenP_n ?_ | refine blockP_n ?_))
    all_goals (refine WC.sub [(0, _), (6, _)] ⟨rfl, rfl, trivial⟩ ?_)
    all_goals (refine WC.seq ?_)
    all_goals (refine WC.seq ?_)
    all_goals (refine WC.region ?_)
    all_goals (refine WL.step (ok_move rfl) rfl rfl rfl ?_)
    all_goals (first | (refine WL.step (OkP.bool_t (by omega) (ok_lss rfl rfl)) rfl rfl rfl ?_) | (refine WL.step (OkP.bool_f (by omega) (ok_lss rfl rfl)) rfl rfl rfl ?_) | (refine WL.step (ok_lss rfl rfl) rfl rfl rfl ?_))
    all_goals (refine WL.nil ?_)
    all_goals (repeat' (with_reducible first | refine thenP_n ?_ | refine blockP_n ?_))
    all_goals (first | refine WC.condB_t 1 rfl ?_ | refine WC.condB_f 2 rfl ?_ | (refine WC.condB 1 2 rfl (fun hb => ?_) (fun hb => ?_) <;> (first | replace hb := of_decide_eq_true hb | replace hb := of_decide_eq_false hb | replace hb := of_decide_eq_false (nt hb) | replace hb := of_decide_eq_true (nf hb) | skip)))
    all_goals (first
      | (fail_if_success (refine Br.mk (i := 1) ?_))
      | (refine Br.mk (i := 1) ?_
         all_goals (refine WC.seq ?_)
         all_goals (refine WC.region ?_)
         all_goals (refine WL.step (ok_assign rfl) rfl rfl rfl ?_)
         all_goals (refine WL.step (ok_assign rfl) rfl rfl rfl ?_)
         all_goals (refine WL.nil ?_)
         all_goals (repeat' (with_reducible first | refine thenP_n ?_ | refine blockP_n ?_))
         all_goals (refine WC.sub [(4, _), (5, _)] ⟨rfl, rfl, trivial⟩ ?_)
         all_goals (refine WC.ret ?_)
         all_goals (repeat' (with_reducible first | refine thenP_r ?_ | refine blockP_r ?_))
         all_goals (refine retP_2 _ _ ⟨rfl, rfl, trivial⟩ ?_)
         all_goals (exact ⟨rfl, hx1⟩)
         skip))
    all_goals (first
      | (fail_if_success (refine Br.mk (i := 2) ?_))
      | (refine Br.mk (i := 2) ?_
         all_goals (refine WC.skip ?_)
         skip))
    all_goals (repeat' (with_reducible first | refine thenP_n ?_ | refine blockP_n ?_))
    all_goals (refine WC.seq ?_)
    all_goals (refine WC.region ?_)
    all_goals (refine WL.step (ok_move rfl) rfl rfl rfl ?_)
    all_goals (refine WL.step (ok_move rfl) rfl rfl rfl ?_)
    all_goals (refine WL.step (ok_idxAddrA Tryz.underlying30 (fun w => Tryz.sizeOf60 w) rfl rfl rfl (by omega) (by first | rfl | assumption)) rfl rfl rfl ?_)
    all_goals (refine WL.step (ok_fieldAddr rfl Tryz.underlying60 rfl (fun w => Tryz.sizeOf9 w)) rfl rfl rfl ?_)
    all_goals (refine WL.step (ok_load (fun w => Tryz.isAgg9 w) rfl (by first | assumption | exact cell_blk (by assumption) rfl)) rfl rfl rfl ?_)
    all_goals (refine WL.step (ok_assign rfl) rfl rfl rfl ?_)
    all_goals (refine WL.step (ok_assign rfl) rfl rfl rfl ?_)
    all_goals (refine WL.nil ?_)
    all_goals (repeat' (with_reducible first | refine thenP_n ?_ | refine blockP_n ?_))
    all_goals (refine WC.sub [(4, _), (5, _)] ⟨rfl, rfl, trivial⟩ ?_)
    all_goals (refine WC.ret ?_)
    all_goals (repeat' (with_reducible first | refine thenP_r ?_ | refine blockP_r ?_))
    all_goals (refine retP_2 _ _ ⟨rfl, rfl, trivial⟩ ?_)
    all_goals (exact ⟨rfl, hx1⟩)
  · rw [e] at ka
    rw [getT_at hy hp hn]
    have hkl := (List.getElem?_eq_some_iff.1 hy).1
    obtain ⟨bL, oL, hA, hbL, hat⟩ := Rd.at_ hr (by omega)
    have hc : At h bL (oL + k * 2) [.int .u8 y.k, St y.t] := At.elem FieldD.len hat hy
    refine calls [(0, _), (1, _)] Tryz.func16 rfl Tryz.ntmps16 rfl ⟨rfl, rfl, trivial⟩ ?_
    all_goals (refine WC.seq ?_)
    all_goals (refine WC.region ?_)
    all_goals (refine WL.step (ok_assign rfl) rfl rfl rfl ?_)
    all_goals (refine WL.step (ok_assign rfl) rfl rfl rfl ?_)
    all_goals (refine WL.nil ?_)
    all_goals (repeat' (with_reducible first | refine thenP_n ?_ | refine blockP_n ?_))
    all_goals (refine WC.seq ?_)
    all_goals (refine WC.region ?_)
    all_goals (refine WL.step (ok_move rfl) rfl rfl rfl ?_)
    all_goals (refine WL.step (ok_move rfl) rfl rfl rfl ?_)
    all_goals (refine WL.call (vs := [_, _]) rfl (fun a w => Tryz.call43 a w) rfl (ka) rfl rfl rfl ?_
               rintro _ h1 ⟨rfl, hx1⟩)
    all_goals (refine WL.step (ok_assign rfl) rfl rfl rfl ?_)
    all_goals (refine WL.nil ?_)
    all_goals (repeat' (with_reducible first | refine thenP_n ?_ | refine blockP_n ?_))
    all_goals (refine WC.sub [(0, _), (6, _)] ⟨rfl, rfl, trivial⟩ ?_)
    all_goals (refine WC.seq ?_)
    all_goals (refine WC.seq ?_)
    all_goals (refine WC.region ?_)
    all_goals (refine WL.step (ok_move rfl) rfl rfl rfl ?_)
    all_goals (first | (refine WL.step (OkP.bool_t (by omega) (ok_lss rfl rfl)) rfl rfl rfl ?_) | (refine WL.step (OkP.bool_f (by omega) (ok_lss rfl rfl)) rfl rfl rfl ?_) | (refine WL.step (ok_lss rfl rfl) rfl rfl rfl ?_))
    all_goals (refine WL.nil ?_)
    all_goals (repeat' (with_reducible first | refine thenP_n ?_ | refine blockP_n ?_))
    all_goals (first | refine WC.condB_t 1 rfl ?_ | refine WC.condB_f 2 rfl ?_ | (refine WC.condB 1 2 rfl (fun hb => ?_) (fun hb => ?_) <;> (first | replace hb := of_decide_eq_true hb | replace hb := of_decide_eq_false hb | replace hb := of_decide_eq_false (nt hb) | replace hb := of_decide_eq_true (nf hb) | skip)))
    all_goals (first
      | (fail_if_success (refine Br.mk (i := 1) ?_))
      | (refine Br.mk (i := 1) ?_
         all_goals (refine WC.seq ?_)
         all_goals (refine WC.region ?_)
         all_goals (refine WL.step (ok_assign rfl) rfl rfl rfl ?_)
         all_goals (refine WL.step (ok_assign rfl) rfl rfl rfl ?_)
         all_goals (refine WL.nil ?_)
         all_goals (repeat' (with_reducible first | refine thenP_n ?_ | refine blockP_n ?_))
         all_goals (refine WC.sub [(4, _), (5, _)] ⟨rfl, rfl, trivial⟩ ?_)
         all_goals (refine WC.ret ?_)
         all_goals (repeat' (with_reducible first | refine thenP_r ?_ | refine blockP_r ?_))
         all_goals (refine retP_2 _ _ ⟨rfl, rfl, trivial⟩ ?_)
         all_goals (exact ⟨rfl, hx1⟩)
         skip))
    all_goals (first
      | (fail_if_success (refine Br.mk (i := 2) ?_))
      | (refine Br.mk (i := 2) ?_
         all_goals (refine WC.skip ?_)
         skip))
    all_goals (repeat' (with_reducible first | refine thenP_n ?_ | refine blockP_n ?_))
    all_goals (refine WC.seq ?_)
    all_goals (refine WC.region ?_)
    all_goals (refine WL.step (ok_move rfl) rfl rfl rfl ?_)
    all_goals (refine WL.step (ok_move rfl) rfl rfl rfl ?_)
    all_goals (refine WL.step (ok_idxAddrA Tryz.underlying30 (fun w => Tryz.sizeOf60 w) rfl rfl rfl (by omega) (by first | rfl | assumption)) rfl rfl rfl ?_)
    all_goals (refine WL.step (ok_fieldAddr rfl Tryz.underlying60 rfl (fun w => Tryz.sizeOf9 w)) rfl rfl rfl ?_)
    all_goals (refine WL.step (ok_load (fun w => Tryz.isAgg9 w) rfl (by first | exact (hc.ext hx1 nos).get 1 rfl rfl | assumption | exact cell_blk (by assumption) rfl)) rfl rfl rfl ?_)
    all_goals (refine WL.step (ok_assign rfl) rfl rfl rfl ?_)
    all_goals (refine WL.step (ok_assign rfl) rfl rfl rfl ?_)
    all_goals (refine WL.nil ?_)
    all_goals (repeat' (with_reducible first | refine thenP_n ?_ | refine blockP_n ?_))
    all_goals (refine WC.sub [(4, _), (5, _)] ⟨rfl, rfl, trivial⟩ ?_)
    all_goals (refine WC.ret ?_)
    all_goals (repeat' (with_reducible first | refine thenP_r ?_ | refine blockP_r ?_))
    all_goals (refine retP_2 _ _ ⟨rfl, rfl, trivial⟩ ?_)
    all_goals (exact ⟨rfl, hx1⟩)
theorem fld_one {l : List FieldD} : ∀ v ∈ l.flatMap FieldD.cells, v.oneCell' = true := fun v hv => by
  obtain ⟨p, _, hp⟩ := List.mem_flatMap.1 hv
  simp only [FieldD.cells, List.mem_cons, List.not_mem_nil, or_false] at hp
  rcases hp with rfl | rfl <;> rfl
set_option maxRecDepth 100000 in
theorem clone_fld {h : Heap} {A : Option Addr} {c : Nat} (F : List FieldD) (hr : Rd h (.slice A F.length c) 2 F.length (F.flatMap FieldD.cells)) (hm : F.length ≤ 1000000) :
    CallsH Tryz.prog 54 ⟨[.slice A F.length c]⟩ h fun u h' => Own h' u 60 2 F.length (F.flatMap FieldD.cells) ∧ Ext No h h' ∧ (∀ k, u.ownBlock = some k → h.size ≤ k) := by
  cases A with
  | none =>
    have h0 : F = [] := by
      cases F with
      | nil => rfl
      | cons a l => obtain ⟨b, o, e, _⟩ := Rd.at_ hr (by simp); cases e
    subst h0
    refine calls [(0, _)] Tryz.func54 rfl Tryz.ntmps54 rfl ⟨rfl, trivial⟩ ?_
    all_goals (refine WC.seq ?_)
    all_goals (refine WC.region ?_)
    all_goals (refine WL.step (ok_assign rfl) rfl rfl rfl ?_)
    all_goals (refine WL.nil ?_)
    all_goals (repeat' (with_reducible first | refine thenP_n ?_ | refine blockP_n ?_))
    all_goals (refine WC.seq ?_)
    all_goals (refine WC.seq ?_)
    all_goals (refine WC.region ?_)
    all_goals (refine WL.step (ok_move rfl) rfl rfl rfl ?_)
    all_goals (refine WL.step (ok_eqlSn Tryz.underlying30 rfl rfl) rfl rfl rfl ?_)
    all_goals (refine WL.nil ?_)
    all_goals (repeat' (with_reducible first | refine thenP_n ?_ | refine blockP_n ?_))
    all_goals (first | refine WC.condB_t 1 rfl ?_ | refine WC.condB_f 2 rfl ?_ | (refine WC.condB 1 2 rfl (fun hb => ?_) (fun hb => ?_) <;> (first | replace hb := of_decide_eq_true hb | replace hb := of_decide_eq_false hb | replace hb := of_decide_eq_false (nt hb) | replace hb := of_decide_eq_true (nf hb) | skip)))
    all_goals (first
      | (fail_if_success (refine Br.mk (i := 1) ?_))
      | (refine Br.mk (i := 1) ?_
         all_goals (refine WC.seq ?_)
         all_goals (refine WC.region ?_)
         all_goals (refine WL.step (ok_assign rfl) rfl rfl rfl ?_)
         all_goals (refine WL.nil ?_)
         all_goals (repeat' (with_reducible first | refine thenP_n ?_ | refine blockP_n ?_))
         all_goals (refine WC.ret ?_)
         all_goals (repeat' (with_reducible first | refine thenP_r ?_ | refine blockP_r ?_))
         all_goals (refine retP_1 _ ⟨rfl, trivial⟩ ?_)
         all_goals (exact ⟨Own.nil _ _ _, .refl _ _, by simp [Value.ownBlock]⟩)
         skip))
    all_goals (first
      | (fail_if_success (refine Br.mk (i := 2) ?_))
      | (refine Br.mk (i := 2) ?_
         all_goals (refine WC.skip ?_)
         skip))
    all_goals (repeat' (with_reducible first | refine thenP_n ?_ | refine blockP_n ?_))
    all_goals (refine WC.seq ?_)
    all_goals (refine WC.region ?_)
    all_goals (refine WL.stepR (okE_buildSlice (vs := []) (cs := []) (fun _ => []) Tryz.underlying30 rfl rfl (by kernel_rfl)) rfl rfl rfl ?_
               rintro _ h1 ⟨b1, rfl, hg1, hb1, hx1⟩)
    all_goals (refine WL.step (ok_move rfl) rfl rfl rfl ?_)
    all_goals (refine WL.stepR (ok_append (sz := 2) (bytes := 24) rfl Tryz.underlying30 (show Tryz.prog.info? 60 = some Tryz.t60 by kernel_rfl) rfl rfl rfl rfl (by decide) rfl rfl (by assumption) (by first | assumption | exact rd_blk (by assumption) rfl) (by simp [Value.oneCell']) (by simp only [maxLen]; omega) (by omega)) rfl rfl rfl ?_
               rintro v1 h1 ⟨ho1, hx1, hl1⟩)
    all_goals (refine WL.step (ok_assign rfl) rfl rfl rfl ?_)
    all_goals (refine WL.nil ?_)
    all_goals (repeat' (with_reducible first | refine thenP_n ?_ | refine blockP_n ?_))
    all_goals (refine WC.sub [(2, _)] ⟨rfl, trivial⟩ ?_)
    all_goals (refine WC.ret ?_)
    all_goals (repeat' (with_reducible first | refine thenP_r ?_ | refine blockP_r ?_))
    all_goals (refine retP_1 _ ⟨rfl, trivial⟩ ?_)
    all_goals (exact ⟨Own.nil _ _ _, .refl _ _, by simp [Value.ownBlock]⟩)
  | some a =>
    refine calls [(0, _)] Tryz.func54 rfl Tryz.ntmps54 rfl ⟨rfl, trivial⟩ ?_
    all_goals (refine WC.seq ?_)
    all_goals (refine WC.region ?_)
    all_goals (refine WL.step (ok_assign rfl) rfl rfl rfl ?_)
    all_goals (refine WL.nil ?_)
    all_goals (repeat' (with_reducible first | refine thenP_n ?_ | refine blockP_n ?_))
    all_goals (refine WC.seq ?_)
    all_goals (refine WC.seq ?_)
    all_goals (refine WC.region ?_)
    all_goals (refine WL.step (ok_move rfl) rfl rfl rfl ?_)
    all_goals (refine WL.step (ok_eqlSn Tryz.underlying30 rfl rfl) rfl rfl rfl ?_)
    all_goals (refine WL.nil ?_)
    all_goals (repeat' (with_reducible first | refine thenP_n ?_ | refine blockP_n ?_))
    all_goals (first | refine WC.condB_t 1 rfl ?_ | refine WC.condB_f 2 rfl ?_ | (refine WC.condB 1 2 rfl (fun hb => ?_) (fun hb => ?_) <;> (first | replace hb := of_decide_eq_true hb | replace hb := of_decide_eq_false hb | replace hb := of_decide_eq_false (nt hb) | replace hb := of_decide_eq_true (nf hb) | skip)))
    all_goals (first
      | (fail_if_success (refine Br.mk (i := 1) ?_))
      | (refine Br.mk (i := 1) ?_
         all_goals (refine WC.seq ?_)
         all_goals (refine WC.region ?_)
         all_goals (refine WL.step (ok_assign rfl) rfl rfl rfl ?_)
         all_goals (refine WL.nil ?_)
         all_goals (repeat' (with_reducible first | refine thenP_n ?_ | refine blockP_n ?_))
         all_goals (refine WC.ret ?_)
         all_goals (repeat' (with_reducible first | refine thenP_r ?_ | refine blockP_r ?_))
         all_goals (refine retP_1 _ ⟨rfl, trivial⟩ ?_)
         all_goals (exact ⟨by simpa using ho2, hx1.trans' hx2 (fun k hk e => by simp [Value.ownBlock] at e; omega), fresh_of hl2 (fun k hk => by simp [Value.ownBlock] at hk; omega) hx1.size⟩)
         skip))
    all_goals (first
      | (fail_if_success (refine Br.mk (i := 2) ?_))
      | (refine Br.mk (i := 2) ?_
         all_goals (refine WC.skip ?_)
         skip))
    all_goals (repeat' (with_reducible first | refine thenP_n ?_ | refine blockP_n ?_))
    all_goals (refine WC.seq ?_)
    all_goals (refine WC.region ?_)
    all_goals (refine WL.stepR (okE_buildSlice (vs := []) (cs := []) (fun _ => []) Tryz.underlying30 rfl rfl (by kernel_rfl)) rfl rfl rfl ?_
               rintro _ h1 ⟨b1, rfl, hg1, hb1, hx1⟩)
    all_goals (refine WL.step (ok_move rfl) rfl rfl rfl ?_)
    all_goals (have hr1 := hr.ext0 hx1)
    all_goals (refine WL.stepR (ok_append (sz := 2) (bytes := 24) rfl Tryz.underlying30 (show Tryz.prog.info? 60 = some Tryz.t60 by kernel_rfl) rfl rfl rfl rfl (by decide) rfl rfl (own_blk hb1 rfl (by simp [maxLen])) hr1 fld_one (by simp only [maxLen]; omega) (by omega)) rfl rfl rfl ?_
               rintro v2 h2 ⟨ho2, hx2, hl2⟩)
    all_goals (refine WL.step (ok_assign rfl) rfl rfl rfl ?_)
    all_goals (refine WL.nil ?_)
    all_goals (repeat' (with_reducible first | refine thenP_n ?_ | refine blockP_n ?_))
    all_goals (refine WC.sub [(2, _)] ⟨rfl, trivial⟩ ?_)
    all_goals (refine WC.ret ?_)
    all_goals (repeat' (with_reducible first | refine thenP_r ?_ | refine blockP_r ?_))
    all_goals (refine retP_1 _ ⟨rfl, trivial⟩ ?_)
    all_goals (exact ⟨by simpa using ho2, hx1.trans' hx2 (fun k hk e => by simp [Value.ownBlock] at e; omega), fresh_of hl2 (fun k hk => by simp [Value.ownBlock] at hk; omega) hx1.size⟩)
/-- The first field of a code has another text. -/
def withF (c : Int) (t : List UInt8) (F : List FieldD) : List FieldD := if idxP (atP c) F < 0 then F else F.set (idxP (atP c) F).toNat ⟨c, t⟩
theorem withF_len (c : Int) (t : List UInt8) (F : List FieldD) : (withF c t F).length = F.length := by unfold withF; split <;> simp
end Go.Proofs.YtkpgnhhidnkmcaaGreatDoor

/-
  RANGES OVER MAPS: an iterator, what has come out of it so far, in whatever order. No program is named here.
-/
namespace Go.RK
open Go Go.MapKept Go.ChangeMaps

/-- Block r goes over the map in block m, that holds es; ds has come out so far. -/
structure ItA {κ : Type} (enc : κ → Value) (h : Heap) (r m : Nat) (es ds : List (κ × Value)) (arr : Array MapEntry) (clock since c0 : Nat) (seen : Array Nat) : Prop where
  it : h[r]? = some (.mapIter (some m) since seen c0)
  mp : h[m]? = some (.map arr clock)
  st : Stamped arr clock
  kv : arr.toList.map (fun e => (e.key, e.val)) = es.map fun p => (enc p.1, p.2)
  old : ∀ x ∈ arr.toList, x.born < since
  le : since ≤ c0
  le2 : since ≤ clock
  seen : ∀ x ∈ arr.toList, (seen.contains x.born = true ↔ ∃ p ∈ ds, (x.key, x.val) = (enc p.1, p.2))
  sub : ∀ p ∈ ds, p ∈ es
  nd : ds.Nodup
def It {κ : Type} (enc : κ → Value) (h : Heap) (r m : Nat) (es ds : List (κ × Value)) : Prop := ∃ arr clock since c0 seen, ItA enc h r m es ds arr clock since c0 seen
/-- p came out last. -/
def ItL {κ : Type} (enc : κ → Value) (h : Heap) (r m : Nat) (p : κ × Value) : Prop := ∃ arr clock since seen e, h[r]? = some (.mapIter (some m) since (Array.push seen e.born) clock) ∧ h[m]? = some (.map arr clock) ∧ (arr.toList.map (·.born)).Nodup ∧ e ∈ arr.toList ∧ e.key = enc p.1 ∧ e.val = p.2
/-- An iterator over no map. -/
def ItN (h : Heap) (r : Nat) : Prop := ∃ a s c, h[r]? = some (.mapIter Option.none a s c)
theorem key_inj {l : List MapEntry} (hn : (l.map (·.key)).Nodup) {x e : MapEntry} (hx : x ∈ l) (he : e ∈ l) (h : x.key = e.key) : x = e := by
  induction l with
  | nil => cases hx
  | cons a l ih =>
    simp only [List.map_cons, List.nodup_cons, List.mem_map, not_exists, not_and] at hn
    rcases List.mem_cons.1 hx with h1 | h1
    · rcases List.mem_cons.1 he with h2 | h2
      · rw [h1, h2]
      · exact absurd (h1 ▸ h).symm (hn.1 e h2)
    · rcases List.mem_cons.1 he with h2 | h2
      · exact absurd (h2 ▸ h) (hn.1 x h1)
      · exact ih hn.2 h1 h2

section
variable {P : Program} {f : Fr} {h h' : Heap} {d : Option Tmp} {ty : TypeId} {pos : String} {af : Array Edge} {g : Option (Nat × Bool)}
variable {κ : Type} {dsc : TypeDesc} {enc : κ → Value} {r m : Nat} {es ds : List (κ × Value)}
theorem It.ext {S : Nat → Prop} (i : It enc h r m es ds) (a : Ext S h h') (hr : ¬ S r) (hm : ¬ S m) : It enc h' r m es ds := by
  obtain ⟨arr, clock, since, c0, seen, k⟩ := i
  exact ⟨arr, clock, since, c0, seen, ⟨a.obj k.it hr, a.obj k.mp hm, k.st, k.kv, k.old, k.le, k.le2, k.seen, k.sub, k.nd⟩⟩
theorem ItL.ext {S : Nat → Prop} {p : κ × Value} (i : ItL enc h r m p) (a : Ext S h h') (hr : ¬ S r) (hm : ¬ S m) : ItL enc h' r m p := by
  obtain ⟨arr, clock, since, seen, e, h1, h2, h3⟩ := i
  exact ⟨arr, clock, since, seen, e, a.obj h1 hr, a.obj h2 hm, h3⟩
theorem It.map (i : It enc h r m es ds) : Mp dsc enc h m es := by
  obtain ⟨arr, clock, since, c0, seen, k⟩ := i
  exact ⟨arr, clock, k.mp, k.st, k.kv⟩
theorem It.lt (i : It enc h r m es ds) : r < h.size := by
  obtain ⟨arr, clock, since, c0, seen, k⟩ := i
  exact lt_of_some k.it
theorem It.sub (i : It enc h r m es ds) : ∀ p ∈ ds, p ∈ es := by
  obtain ⟨arr, clock, since, c0, seen, k⟩ := i
  exact k.sub
theorem It.nd (i : It enc h r m es ds) : ds.Nodup := by
  obtain ⟨arr, clock, since, c0, seen, k⟩ := i
  exact k.nd
theorem nodup_fst {α β : Type} {l : List (α × β)} (h : (l.map (·.1)).Nodup) : l.Nodup := by
  induction l with
  | nil => simp
  | cons a l ih =>
    simp only [List.map_cons, List.nodup_cons, List.mem_map, not_exists, not_and] at h ⊢
    exact ⟨fun ha => h.1 a ha rfl, ih h.2⟩
theorem sub_len {α : Type} {l m : List α} (h : l.Nodup) (hs : ∀ x ∈ l, x ∈ m) : l.length ≤ m.length := by
  have _inst : DecidableEq α := fun a b => Classical.propDecidable (a = b)
  induction l generalizing m with
  | nil => simp
  | cons a l ih =>
    have ha := hs a List.mem_cons_self
    have h1 := (List.nodup_cons.1 h)
    have := ih (m := m.erase a) h1.2 fun x hx => (List.mem_erase_of_ne (by intro e; subst e; exact h1.1 hx)).2 (hs x (List.mem_cons_of_mem _ hx))
    rw [List.length_erase_of_mem ha] at this
    have := List.length_pos_of_mem ha
    simp
    omega
theorem okE_range {t kt et : TypeId} {x : Operand} (hu : P.underlying t = some (.map kt et)) (hx : f.ev x = some (.map (some m))) (hm : Mp dsc enc h m es) :
    OkR P f ⟨d, .range t x, ty, pos, af, g⟩ h (fun v h' => ∃ r, v = .pointer (some ⟨r, 0, Option.none⟩) ∧ h.size ≤ r ∧ It enc h' r m es [] ∧ Ext No h h') := fun ρ w ha hw => by
  subst hw
  obtain ⟨arr, clock, hb, hs, hkv⟩ := hm
  have hr := run_range_map (P := P) w t kt et m arr clock hu hb
  refine ⟨_, w.alloc (.mapIter (some m) clock #[] clock), ⟨rfl, rfl, rfl, trivial⟩, ⟨w.heap.size, rfl, Nat.le_refl _, ⟨arr, clock, clock, clock, #[], ?_⟩, Ext.push _ _ _⟩, .inl ?_⟩
  · exact ⟨push_new _ _, (Ext.push No _ _).obj hb nos, hs, hkv, hs.1, Nat.le_refl _, Nat.le_refl _, fun x hx => by simp, by simp, by simp⟩
  · simp [execOp, ha _ _ hx, hr]
theorem okE_rangeN {t kt et : TypeId} {x : Operand} (hu : P.underlying t = some (.map kt et)) (hx : f.ev x = some (.map Option.none)) :
    OkR P f ⟨d, .range t x, ty, pos, af, g⟩ h (fun v h' => ∃ r, v = .pointer (some ⟨r, 0, Option.none⟩) ∧ h.size ≤ r ∧ ItN h' r ∧ Ext No h h') := fun ρ w ha hw => by
  subst hw
  have hr := run_range_nilMap (P := P) w t kt et hu
  refine ⟨_, w.alloc (.mapIter Option.none 0 #[] 0), ⟨rfl, rfl, rfl, trivial⟩, ⟨w.heap.size, rfl, Nat.le_refl _, ⟨_, _, _, push_new _ _⟩, Ext.push _ _ _⟩, .inl ?_⟩
  simp [execOp, ha _ _ hx, hr]
theorem ok_nextN {x : Operand} (hx : f.ev x = some (.pointer (some ⟨r, 0, Option.none⟩))) (hi : ItN h r) :
    OkP P f ⟨d, .next x false, ty, pos, af, g⟩ h (.tuple ⟨[.bool false]⟩) := fun ρ w ha hw => by
  subst hw
  obtain ⟨a, s, c, hr⟩ := hi
  simp only [execOp, ha _ _ hx, Instr.next, getObj, Sem.run_bind, Sem.run, hr, Result.andThen]
  rfl
theorem okE_next (E : KeyEnc κ dsc enc) {x : Operand} (hx : f.ev x = some (.pointer (some ⟨r, 0, Option.none⟩))) (hi : It enc h r m es ds) :
    OkR P f ⟨d, .next x false, ty, pos, af, g⟩ h (fun v h' => (v = .tuple ⟨[.bool false]⟩ ∧ h' = h ∧ ds.Perm es) ∨ ∃ p, v = .tuple ⟨[.bool true, enc p.1, p.2]⟩ ∧ p ∈ es ∧ p ∉ ds ∧ It enc h' r m es (ds ++ [p]) ∧ ItL enc h' r m p ∧ Ext (fun k => k = r) h h') := fun ρ w ha hw => by
  subst hw
  obtain ⟨arr, clock, since, c0, seen, k⟩ := hi
  have hrm : r ≠ m := fun e => by have := k.it; rw [e, k.mp] at this; cases this
  have hes : es.Nodup := nodup_fst (Mp.nodup E ⟨arr, clock, k.mp, k.st, k.kv⟩)
  rcases run_next_at (P := P) w ty r m since c0 seen arr clock k.it k.mp k.old k.le with ⟨h0, hr⟩ | ⟨e, he, w1, hw1, hr⟩
  · refine ⟨_, w, .refl w, .inl ⟨rfl, rfl, ?_⟩, .inl (by simp [execOp, ha _ _ hx, hr])⟩
    refine (List.perm_ext_iff_of_nodup k.nd hes).2 fun p => ⟨k.sub p, fun hp => ?_⟩
    have : (enc p.1, p.2) ∈ arr.toList.map (fun e => (e.key, e.val)) := by rw [k.kv]; exact List.mem_map.2 ⟨p, hp, rfl⟩
    obtain ⟨x, hx1, hx2⟩ := List.mem_map.1 this
    obtain ⟨q, hq, hq2⟩ := (k.seen x hx1).1 (all_seen arr seen h0 x hx1)
    rw [hx2] at hq2
    simp only [Prod.mk.injEq] at hq2
    obtain rfl : p = q := Prod.ext (E.inj _ _ hq2.1) hq2.2
    exact hq
  · obtain ⟨he1, he2⟩ := mem_left he
    have : (e.key, e.val) ∈ es.map fun p => (enc p.1, p.2) := by rw [← k.kv]; exact List.mem_map.2 ⟨e, he1, rfl⟩
    obtain ⟨p, hp, hpe⟩ := List.mem_map.1 this
    simp only [Prod.mk.injEq] at hpe
    have hnp : p ∉ ds := fun hin => by
      have := (k.seen e he1).2 ⟨p, hin, by rw [hpe.1, hpe.2]⟩
      rw [he2] at this
      cases this
    have hheap : (setBlock w1 r (.mapIter (some m) since (seen.push e.born) clock)).heap = w.heap.setIfInBounds r (.mapIter (some m) since (seen.push e.born) clock) := by
      rcases hw1 with rfl | rfl <;> rfl
    have hlt := lt_of_some k.it
    have hit : (w.heap.setIfInBounds r (.mapIter (some m) since (seen.push e.born) clock))[r]? = some (.mapIter (some m) since (seen.push e.born) clock) := by simp [hlt]
    have hmp : (w.heap.setIfInBounds r (.mapIter (some m) since (seen.push e.born) clock))[m]? = some (.map arr clock) := by
      rw [Array.getElem?_setIfInBounds_ne hrm]
      exact k.mp
    refine ⟨_, setBlock w1 r (.mapIter (some m) since (seen.push e.born) clock), ?_, .inr ⟨p, rfl, hp, hnp, ?_, ?_, ?_⟩, .inl (by simp [execOp, ha _ _ hx, hr, hpe.1, hpe.2])⟩
    · rcases hw1 with rfl | rfl <;> exact ⟨rfl, rfl, rfl, trivial⟩
    · rw [hheap]
      refine ⟨arr, clock, since, clock, seen.push e.born, ⟨hit, hmp, k.st, k.kv, k.old, k.le2, k.le2, fun x hx1 => ?_, fun q hq => ?_, ?_⟩⟩
      · rw [contains_push]
        constructor
        · intro hc
          rw [Bool.or_eq_true] at hc
          rcases hc with hc | hc
          · obtain ⟨q, hq, hq2⟩ := (k.seen x hx1).1 hc
            exact ⟨q, List.mem_append_left _ hq, hq2⟩
          · obtain rfl := born_inj k.st.2.1 hx1 he1 (by simpa using hc)
            exact ⟨p, by simp, by rw [hpe.1, hpe.2]⟩
        · rintro ⟨q, hq, hq2⟩
          rw [Bool.or_eq_true]
          rcases List.mem_append.1 hq with hq | hq
          · exact .inl ((k.seen x hx1).2 ⟨q, hq, hq2⟩)
          · obtain rfl := List.mem_singleton.1 hq
            simp only [Prod.mk.injEq] at hq2
            obtain rfl := key_inj k.st.2.2 hx1 he1 (by rw [hq2.1, hpe.1])
            exact .inr (by simp)
      · rcases List.mem_append.1 hq with hq | hq
        · exact k.sub q hq
        · obtain rfl := List.mem_singleton.1 hq
          exact hp
      · exact List.nodup_append.2 ⟨k.nd, by simp, fun a ha b hb e => hnp (by simp at hb; subst hb; subst e; exact ha)⟩
    · rw [hheap]
      exact ⟨arr, clock, since, seen, e, hit, hmp, k.st.2.1, he1, hpe.1.symm, hpe.2.symm⟩
    · rw [hheap]
      exact Ext.set _ _ _ rfl
theorem ok_entry {x : Operand} {p : κ × Value} (hx : f.ev x = some (.pointer (some ⟨r, 0, Option.none⟩))) (hi : ItL enc h r m p) :
    OkP P f ⟨d, .entry x, ty, pos, af, g⟩ h (.tuple ⟨[enc p.1, p.2]⟩) := fun ρ w ha hw => by
  subst hw
  obtain ⟨arr, clock, since, seen, e, h1, h2, h3, h4, h5, h6⟩ := hi
  have hr := run_entry_at (P := P) w r m since seen arr clock e h1 h2 h4 h3
  simp [execOp, ha _ _ hx, hr, h5, h6]
end
end Go.RK
/-
  LISTS SORTED BY A TEXT, AND MAPS, in plain Lean: what is set, let go and found is alike in both; names sorted.
-/
namespace Go.Proofs.YtkpgnhhidnkmcaaGreatDoor
open Go Go.RK

theorem bytesLess_lt : ∀ (x y : List UInt8), Op.bytesLess x y = decide (x < y)
  | [], [] => by simp [Op.bytesLess]
  | _ :: _, [] => by simp [Op.bytesLess]
  | [], _ :: _ => by simp [Op.bytesLess]
  | a :: x, b :: y => by
    rw [Op.bytesLess, bytesLess_lt x y]
    simp only [List.cons_lt_cons_iff]
    by_cases h1 : a < b <;> by_cases h2 : a = b <;> by_cases h3 : x < y <;> simp [h1, h2, h3]
theorem lt_tri {a b : List UInt8} (h1 : ¬ a < b) (h2 : ¬ b < a) : a = b := List.le_antisymm (List.not_lt.1 h2) (List.not_lt.1 h1)

section
variable {α β : Type}
/-- Rising, each key once. -/
def Rise (L : List (List UInt8 × α)) : Prop := L.Pairwise fun a b => a.1 < b.1
def setL : List (List UInt8 × α) → List UInt8 → α → List (List UInt8 × α)
  | [], n, v => [(n, v)]
  | (m, w) :: L, n, v => if m < n then (m, w) :: setL L n v else if m = n then (n, v) :: L else (n, v) :: (m, w) :: L
def delL (L : List (List UInt8 × α)) (n : List UInt8) : List (List UInt8 × α) := L.filter fun p => decide (p.1 ≠ n)
def getL (L : List (List UInt8 × α)) (n : List UInt8) : Option α := (L.find? fun p => decide (p.1 = n)).map (·.2)
theorem Rise.nd {L : List (List UInt8 × α)} (h : Rise L) : (L.map (·.1)).Nodup := by
  refine List.pairwise_map.2 (h.imp fun {a b} hab e => ?_)
  rw [e] at hab
  exact List.lt_irrefl _ hab
theorem mem_setL {L : List (List UInt8 × α)} {n : List UInt8} {v : α} {p : List UInt8 × α} (h : p ∈ setL L n v) : p = (n, v) ∨ p ∈ L := by
  induction L with
  | nil => simpa [setL] using h
  | cons a L ih =>
    obtain ⟨m, w⟩ := a
    unfold setL at h
    split at h
    · rcases List.mem_cons.1 h with rfl | h
      · exact .inr List.mem_cons_self
      · exact (ih h).imp id (List.mem_cons_of_mem _)
    · split at h
      · rcases List.mem_cons.1 h with rfl | h
        · exact .inl rfl
        · exact .inr (List.mem_cons_of_mem _ h)
      · rcases List.mem_cons.1 h with rfl | h
        · exact .inl rfl
        · exact .inr h
theorem Rise.set {L : List (List UInt8 × α)} (h : Rise L) (n : List UInt8) (v : α) : Rise (setL L n v) := by
  induction L with
  | nil => simp [setL, Rise]
  | cons a L ih =>
    obtain ⟨m, w⟩ := a
    obtain ⟨h1, h2⟩ := List.pairwise_cons.1 h
    unfold setL
    split
    · rename_i hlt
      refine List.pairwise_cons.2 ⟨fun p hp => ?_, ih h2⟩
      rcases mem_setL hp with rfl | hp
      · exact hlt
      · exact h1 p hp
    · rename_i hlt
      split
      · rename_i he
        subst he
        exact List.pairwise_cons.2 ⟨h1, h2⟩
      · rename_i hne
        have hnm : n < m := by
          rcases Decidable.em (n < m) with h | h
          · exact h
          · exact absurd (lt_tri hlt h) hne
        refine List.pairwise_cons.2 ⟨fun p hp => ?_, h⟩
        rcases List.mem_cons.1 hp with rfl | hp
        · exact hnm
        · exact List.lt_trans hnm (h1 p hp)
theorem Rise.del {L : List (List UInt8 × α)} (h : Rise L) (n : List UInt8) : Rise (delL L n) := List.Pairwise.filter _ h
theorem getL_nil (n : List UInt8) : getL ([] : List (List UInt8 × α)) n = none := rfl
theorem getL_cons (p : List UInt8 × α) (L : List (List UInt8 × α)) (n : List UInt8) : getL (p :: L) n = if p.1 = n then some p.2 else getL L n := by
  unfold getL
  rw [List.find?_cons]
  by_cases h : p.1 = n <;> simp [h]
theorem getL_mem {L : List (List UInt8 × α)} {n : List UInt8} {v : α} (h : getL L n = some v) : (n, v) ∈ L := by
  unfold getL at h
  obtain ⟨p, hp, rfl⟩ := Option.map_eq_some_iff.1 h
  have h1 := List.find?_some hp
  simp at h1
  rw [← h1]
  exact List.mem_of_find?_eq_some hp
theorem getL_no {L : List (List UInt8 × α)} {n : List UInt8} (h : getL L n = none) : ∀ p ∈ L, p.1 ≠ n := by
  unfold getL at h
  rw [Option.map_eq_none_iff, List.find?_eq_none] at h
  exact fun p hp e => h p hp (by simp [e])
theorem getL_of {L : List (List UInt8 × α)} (hn : (L.map (·.1)).Nodup) {n : List UInt8} {v : α} (h : (n, v) ∈ L) : getL L n = some v := by
  induction L with
  | nil => cases h
  | cons a L ih =>
    rw [getL_cons]
    simp only [List.map_cons, List.nodup_cons, List.mem_map, not_exists, not_and] at hn
    rcases List.mem_cons.1 h with rfl | h
    · rw [if_pos rfl]
    · rw [if_neg (fun e => hn.1 (n, v) h e.symm)]
      exact ih hn.2 h
theorem getL_perm {E L : List (List UInt8 × α)} (hp : E.Perm L) (hn : (L.map (·.1)).Nodup) (n : List UInt8) : getL E n = getL L n := by
  have hn' : (E.map (·.1)).Nodup := (hp.map _).nodup_iff.2 hn
  rcases h : getL L n with _ | v
  · rcases h2 : getL E n with _ | v
    · rfl
    · exact absurd rfl (getL_no h (n, v) (hp.mem_iff.1 (getL_mem h2)))
  · exact getL_of hn' (hp.mem_iff.2 (getL_mem h))
/-- Replaced where it is there. -/
theorem setL_there {L : List (List UInt8 × α)} (h : Rise L) {n : List UInt8} {v : α} (hn : (getL L n).isSome = true) : setL L n v = L.map fun p => if p.1 = n then (n, v) else p := by
  induction L with
  | nil => simp [getL_nil] at hn
  | cons a L ih =>
    obtain ⟨m, w⟩ := a
    obtain ⟨h1, h2⟩ := List.pairwise_cons.1 h
    rw [getL_cons] at hn
    unfold setL
    by_cases he : m = n
    · subst he
      rw [if_neg (List.lt_irrefl _), if_pos rfl, List.map_cons, if_pos rfl]
      congr 1
      refine (List.map_id L).symm.trans (List.map_congr_left fun p hp => ?_)
      have := h1 p hp
      rw [if_neg (fun e => by rw [e] at this; exact List.lt_irrefl _ this)]
      rfl
    · rw [if_neg he] at hn
      rcases hg : getL L n with _ | u
      · rw [hg] at hn; cases hn
      · have := h1 _ (getL_mem hg)
        rw [if_pos this, List.map_cons, if_neg he, ih h2 hn]
theorem setL_new {L : List (List UInt8 × α)} {n : List UInt8} {v : α} (hn : getL L n = none) : (setL L n v).Perm ((n, v) :: L) := by
  induction L with
  | nil => exact .refl _
  | cons a L ih =>
    obtain ⟨m, w⟩ := a
    rw [getL_cons] at hn
    unfold setL
    by_cases he : m = n
    · rw [if_pos he] at hn; cases hn
    · rw [if_neg he] at hn
      split
      · exact ((ih hn).cons _).trans (.swap _ _ _)
      · exact .refl _
theorem setL_len {L : List (List UInt8 × α)} (h : Rise L) (n : List UInt8) (v : α) : (setL L n v).length = if (getL L n).isSome = true then L.length else L.length + 1 := by
  split
  · rename_i hs
    rw [setL_there h hs]
    simp
  · rename_i hs
    have : getL L n = none := by cases hg : getL L n <;> simp_all
    have := (setL_new (v := v) this).length_eq
    simpa using this
/-- At the first place that is not before it. -/
theorem setL_at {L : List (List UInt8 × α)} {n : List UInt8} {v : α} : ∀ {k : Nat}, (∀ p ∈ L.take k, p.1 < n) → (∀ p, L[k]? = some p → ¬ p.1 < n) → k ≤ L.length →
    setL L n v = match L[k]? with | some p => if p.1 = n then L.set k (n, v) else L.take k ++ (n, v) :: L.drop k | none => L ++ [(n, v)] := by
  induction L with
  | nil =>
    intro k _ _ hk
    obtain rfl : k = 0 := (by simpa using hk)
    rfl
  | cons a L ih =>
    obtain ⟨m, w⟩ := a
    intro k h1 h2 hk
    rcases k with _ | k
    · have := h2 (m, w) rfl
      simp only at this
      unfold setL
      simp only [List.getElem?_cons_zero, List.set_cons_zero, List.take_zero, List.drop_zero, List.nil_append]
      rw [if_neg this]
    · have hm : m < n := h1 (m, w) (by simp)
      have := ih (k := k) (fun p hp => h1 p (by simp [hp])) (fun p hp => h2 p (by simpa using hp)) (by simpa using hk)
      unfold setL
      rw [if_pos hm, this]
      simp only [List.getElem?_cons_succ, List.set_cons_succ, List.take_succ_cons, List.drop_succ_cons, List.cons_append]
      rcases L[k]? with _ | p
      · rfl
      · simp only
        split <;> rfl

/-! ### maps -/
def encE (f : α → Value) (E : List (List UInt8 × α)) : List (List UInt8 × Value) := E.map fun p => (p.1, f p.2)
theorem alook_enc (f : α → Value) (E : List (List UInt8 × α)) (n : List UInt8) : alook (encE f E) n = (getL E n).map f := by
  unfold alook encE getL
  induction E with
  | nil => rfl
  | cons a E ih =>
    simp only [List.map_cons, List.find?_cons]
    by_cases h : a.1 = n <;> simp [h] at ih ⊢
    exact ih
/-- What the map has behind a set. -/
def putE (E : List (List UInt8 × α)) (n : List UInt8) (v : α) : List (List UInt8 × α) := if (getL E n).isSome = true then E.map (fun p => if p.1 = n then (n, v) else p) else E ++ [(n, v)]
theorem aput_enc (f : α → Value) (E : List (List UInt8 × α)) (n : List UInt8) (v : α) : aput (encE f E) n (f v) = encE f (putE E n v) := by
  unfold aput putE
  rw [alook_enc]
  rcases getL E n with _ | w
  · simp [encE]
  · simp only [Option.map_some, Option.isSome_some, if_true, encE, List.map_map]
    refine List.map_congr_left fun p _ => ?_
    simp only [Function.comp]
    split <;> rfl
theorem adel_enc (f : α → Value) (E : List (List UInt8 × α)) (n : List UInt8) : adel (encE f E) n = encE f (delL E n) := by
  unfold adel encE delL
  rw [List.filter_map]
  rfl
theorem put_perm {E L : List (List UInt8 × α)} (hp : E.Perm L) (h : Rise L) (n : List UInt8) (v : α) : (putE E n v).Perm (setL L n v) := by
  have hg := getL_perm hp h.nd n
  unfold putE
  rw [hg]
  split
  · rename_i hs
    rw [setL_there h hs]
    exact hp.map _
  · rename_i hs
    have hno : getL L n = none := by cases hg : getL L n <;> simp_all
    exact ((List.perm_append_comm.trans (hp.cons _)).trans (setL_new hno).symm)
theorem del_perm {E L : List (List UInt8 × α)} (hp : E.Perm L) (n : List UInt8) : (delL E n).Perm (delL L n) := hp.filter _
theorem enc_len (f : α → Value) (E : List (List UInt8 × α)) : (encE f E).length = E.length := by simp [encE]
theorem enc_keys (f : α → Value) (E : List (List UInt8 × α)) : (encE f E).map (·.1) = E.map (·.1) := by simp [encE, List.map_map, Function.comp_def]
/-- The names of a list, sorted. -/
def srtS (l : List (List UInt8)) : List (List UInt8) := l.mergeSort fun x y => decide (x ≤ y)
theorem srtS_rise {l : List (List UInt8)} {L : List (List UInt8 × α)} (h : Rise L) (hp : l.Perm (L.map (·.1))) : srtS l = L.map (·.1) := by
  have tr : ∀ a b c : List UInt8, decide (a ≤ b) = true → decide (b ≤ c) = true → decide (a ≤ c) = true := fun a b c h1 h2 => by simp only [decide_eq_true_eq] at *; exact List.le_trans h1 h2
  have hto : ∀ a b : List UInt8, (decide (a ≤ b) || decide (b ≤ a)) = true := fun a b => by simp only [Bool.or_eq_true, decide_eq_true_eq]; exact List.le_total a b
  refine List.Perm.eq_of_pairwise (le := fun a b => decide (a ≤ b) = true) (fun a b _ _ h1 h2 => ?_) (List.pairwise_mergeSort tr hto l) ?_ ((List.mergeSort_perm l _).trans hp)
  · simp only [decide_eq_true_eq] at h1 h2
    exact List.le_antisymm h1 h2
  · exact List.pairwise_map.2 (h.imp fun {a b} hab => decide_eq_true (List.le_of_lt hab))
end
end Go.Proofs.YtkpgnhhidnkmcaaGreatDoor

/-
  LISTS RISING BY A TEXT: where one is set, let go; rows of structs: a cell set, a part taken.
-/
namespace Go.Proofs.YtkpgnhhidnkmcaaGreatDoor
open Go Go.RK

theorem At.tl {h : Heap} {b o : Nat} {x : Value} {xs : List Value} (a : At h b o (x :: xs)) : At h b (o + 1) xs := fun j v hj => by
  have := a (j + 1) v (by simpa using hj)
  rwa [show o + (j + 1) = o + 1 + j by omega] at this
theorem setL_del {α : Type} {L : List (List UInt8 × α)} (h : Rise L) (n : List UInt8) (v : α) : setL (delL L n) n v = setL L n v := by
  induction L with
  | nil => rfl
  | cons p L ih =>
    obtain ⟨m, w⟩ := p
    rw [Rise, List.pairwise_cons] at h
    have hall : ∀ q ∈ L, m < q.1 := h.1
    have keep : n ≤ m → delL L n = L := fun hn => List.filter_eq_self.2 fun q hq => by
      have h1 := hall q hq
      have h2 : q.1 ≠ n := fun e => by
        rw [e] at h1
        exact absurd hn (List.not_le.2 h1)
      simpa using h2
    have e1 : delL ((m, w) :: L) n = if m = n then delL L n else (m, w) :: delL L n := by
      unfold delL
      by_cases e : m = n <;> simp [e]
    rw [e1]
    by_cases e : m = n
    · subst e
      rw [if_pos rfl, keep (List.le_refl _)]
      conv => rhs; unfold setL
      rw [if_neg (List.lt_irrefl _), if_pos rfl]
      rcases L with _ | ⟨⟨q, u⟩, L⟩
      · rfl
      · have hq : m < q := hall (q, u) (.head _)
        unfold setL
        rw [if_neg (List.not_lt.2 (List.le_of_lt hq)), if_neg (fun e => by rw [e] at hq; exact List.lt_irrefl _ hq)]
    · rw [if_neg e]
      unfold setL
      by_cases hlt : m < n
      · rw [if_pos hlt, if_pos hlt, ih h.2]
      · rw [if_neg hlt, if_neg hlt, if_neg e, if_neg e, keep (List.not_lt.1 hlt)]
theorem pos_of {α : Type} {L : List (List UInt8 × α)} (h : Rise L) {n : List UInt8} {v : α} (hg : getL L n = some v) : ∃ k, L[k]? = some (n, v) ∧ (∀ p ∈ L.take k, p.1 ≠ n) ∧ delL L n = L.take k ++ L.drop (k + 1) := by
  obtain ⟨k, hk⟩ := List.mem_iff_getElem?.1 (getL_mem hg)
  have hkl := List.getElem?_eq_some_iff.1 hk
  have h1 : ∀ p ∈ L.take k, p.1 ≠ n := by
    intro p hp e
    obtain ⟨j, hj⟩ := List.mem_iff_getElem?.1 hp
    rw [List.getElem?_take] at hj
    split at hj
    · rename_i hjk
      have hjl := List.getElem?_eq_some_iff.1 hj
      have := List.pairwise_iff_getElem.1 h j k hjl.1 hkl.1 hjk
      rw [hjl.2, hkl.2, e] at this
      exact List.lt_irrefl _ this
    · cases hj
  have h2 : ∀ p ∈ L.drop (k + 1), p.1 ≠ n := by
    intro p hp e
    obtain ⟨j, hj⟩ := List.mem_iff_getElem?.1 hp
    rw [List.getElem?_drop] at hj
    have hjl := List.getElem?_eq_some_iff.1 hj
    have := List.pairwise_iff_getElem.1 h k (k + 1 + j) hkl.1 hjl.1 (by omega)
    rw [hjl.2, hkl.2, e] at this
    exact List.lt_irrefl _ this
  refine ⟨k, hk, h1, ?_⟩
  conv => lhs; rw [← List.take_append_drop k L, show L.drop k = (n, v) :: L.drop (k + 1) by rw [List.drop_eq_getElem_cons hkl.1, hkl.2]]
  unfold delL
  rw [List.filter_append, List.filter_cons_of_neg (by simp), List.filter_eq_self.2 (fun p hp => by simpa using h1 p hp), List.filter_eq_self.2 (fun p hp => by simpa using h2 p hp)]
theorem delL_none {α : Type} {L : List (List UInt8 × α)} {n : List UInt8} (h : getL L n = none) : delL L n = L :=
  List.filter_eq_self.2 fun p hp => by simpa using getL_no h p hp
theorem delL_le {α : Type} (L : List (List UInt8 × α)) (n : List UInt8) : (delL L n).length ≤ L.length := List.length_filter_le _ _
theorem setL_out {α : Type} {L : List (List UInt8 × α)} {k : Nat} {n : List UInt8} {v : α} (hk : k ≤ L.length) (h1 : ∀ p ∈ L.take k, p.1 < n) (h2 : ∀ p, L[k]? = some p → ¬ p.1 < n) (h3 : ∀ p ∈ L, p.1 ≠ n) : setL L n v = L.take k ++ (n, v) :: L.drop k := by
  rw [setL_at h1 h2 hk]
  rcases hq : L[k]? with _ | q
  · have := List.getElem?_eq_none_iff.1 hq
    simp only
    rw [List.take_of_length_le this, List.drop_of_length_le this]
  · simp only
    rw [if_neg (h3 q (List.mem_of_getElem? hq))]
theorem take_lt {α : Type} {L : List (List UInt8 × α)} {k : Nat} {n : List UInt8} {y : List UInt8 × α} (h : ∀ p ∈ L.take k, p.1 < n) (hy : L[k]? = some y) (hn : y.1 < n) : ∀ p ∈ L.take (k + 1), p.1 < n := by
  intro p hp
  rw [List.take_add_one, hy] at hp
  simp only [Option.toList_some, List.mem_append, List.mem_singleton] at hp
  rcases hp with hp | rfl
  · exact h p hp
  · exact hn
theorem take_ne {α : Type} {L : List (List UInt8 × α)} {k : Nat} {n : List UInt8} {y : List UInt8 × α} (h : ∀ p ∈ L.take k, p.1 ≠ n) (hy : L[k]? = some y) (hn : y.1 ≠ n) : ∀ p ∈ L.take (k + 1), p.1 ≠ n := by
  intro p hp
  rw [List.take_add_one, hy] at hp
  simp only [Option.toList_some, List.mem_append, List.mem_singleton] at hp
  rcases hp with hp | rfl
  · exact h p hp
  · exact hn
theorem getL_out {α : Type} {L : List (List UInt8 × α)} {k : Nat} {n : List UInt8} (h : ∀ p ∈ L.take k, p.1 ≠ n) (hk : L.length ≤ k) : getL L n = none := by
  rw [List.take_of_length_le hk] at h
  unfold getL
  rw [Option.map_eq_none_iff, List.find?_eq_none]
  exact fun p hp => by simpa using h p hp
theorem getL_hit {α : Type} {L : List (List UInt8 × α)} (hri : Rise L) {k : Nat} {n : List UInt8} {v : α} (h : L[k]? = some (n, v)) : getL L n = some v := getL_of hri.nd (List.mem_of_getElem? h)
theorem flat_set {α : Type} {F : α → List Value} {sz : Nat} (hF : ∀ a, (F a).length = sz) {x : Value} {q q' : α} {j : Nat} (hj : j < sz) (hq : (F q).set j x = F q') : ∀ {L : List α} {k : Nat}, L[k]? = some q → (L.flatMap F).set (k * sz + j) x = (L.set k q').flatMap F
  | [], k, h => by cases h
  | a :: L, 0, h => by
    simp only [List.getElem?_cons_zero, Option.some.injEq] at h
    subst h
    rw [List.flatMap_cons, Nat.zero_mul, Nat.zero_add, List.set_append_left _ _ (by rw [hF]; exact hj), hq]
    rfl
  | a :: L, k + 1, h => by
    have ih := flat_set hF hj hq (L := L) (k := k) (by simpa using h)
    rw [List.flatMap_cons, List.set_append_right _ _ (by rw [hF, Nat.succ_mul]; omega), hF, show (k + 1) * sz + j - sz = k * sz + j by rw [Nat.succ_mul]; omega, ih]
    rfl
theorem setL_in {α : Type} {L : List (List UInt8 × α)} (hri : Rise L) {k : Nat} {n : List UInt8} {u v : α} (hk : L[k]? = some (n, u)) : setL L n v = L.set k (n, v) := by
  have hkl := List.getElem?_eq_some_iff.1 hk
  have h1 : ∀ p ∈ L.take k, p.1 < n := by
    intro p hp
    obtain ⟨j, hj⟩ := List.mem_iff_getElem?.1 hp
    rw [List.getElem?_take] at hj
    split at hj
    · rename_i hjk
      have hjl := List.getElem?_eq_some_iff.1 hj
      have := List.pairwise_iff_getElem.1 hri j k hjl.1 hkl.1 hjk
      rwa [hjl.2, hkl.2] at this
    · cases hj
  rw [setL_at h1 (fun p hp => by rw [hk] at hp; obtain rfl := Option.some.inj hp; exact List.lt_irrefl _) (Nat.le_of_lt hkl.1), hk]
  simp
theorem mem_set {α : Type} {L : List α} {k : Nat} {x y : α} (h : y ∈ L.set k x) : y = x ∨ y ∈ L := by
  rcases List.mem_or_eq_of_mem_set h with h | h
  · exact .inr h
  · exact .inl h
section
variable {α : Type} {F : α → List Value} {sz : Nat} (hF : ∀ a, (F a).length = sz)
include hF
theorem fl_len (l : List α) : (l.flatMap F).length = l.length * sz := by
  induction l with
  | nil => simp
  | cons a l ih => rw [List.flatMap_cons, List.length_append, ih, hF, List.length_cons, Nat.succ_mul]; omega
theorem fl_take (l : List α) (k : Nat) : (l.flatMap F).take (k * sz) = (l.take k).flatMap F := by
  rcases Nat.le_total k l.length with h | h
  · conv => lhs; rw [← List.take_append_drop k l, List.flatMap_append]
    have e : ((l.take k).flatMap F).length = k * sz := by rw [fl_len hF, List.length_take, Nat.min_eq_left h]
    rw [List.take_append_of_le_length (by omega), List.take_of_length_le (by omega)]
  · rw [List.take_of_length_le h, List.take_of_length_le (by rw [fl_len hF]; exact Nat.mul_le_mul_right _ h)]
theorem fl_drop (l : List α) (k : Nat) : (l.flatMap F).drop (k * sz) = (l.drop k).flatMap F := by
  rcases Nat.le_total k l.length with h | h
  · conv => lhs; rw [← List.take_append_drop k l, List.flatMap_append]
    have e : ((l.take k).flatMap F).length = k * sz := by rw [fl_len hF, List.length_take, Nat.min_eq_left h]
    rw [List.drop_append_of_le_length (by omega), List.drop_of_length_le (by omega), List.nil_append]
  · rw [List.drop_of_length_le h, List.drop_of_length_le (by rw [fl_len hF]; exact Nat.mul_le_mul_right _ h)]; rfl
/-- One cell of a row of one's own is set. -/
theorem row_set {h : Heap} {A : Option Addr} {c : Nat} {T : TypeId} {L : List α} {k : Nat} {q : α} (ho : Own h (.slice A L.length c) T sz L.length (L.flatMap F)) (hk : L[k]? = some q) : ∃ g gs, A = some ⟨g, 0, none⟩ ∧ h[g]? = some (.cells ⟨gs⟩ T (0, 0)) ∧ L.length * sz ≤ gs.length ∧
    ∀ {h' : Heap} {x : Value} {q' : α} {j : Nat}, j < sz → (F q).set j x = F q' → h'[g]? = some (.cells ⟨gs.set (k * sz + j) x⟩ T (0, 0)) → Own h' (.slice A L.length c) T sz L.length ((L.set k q').flatMap F) := by
  have hkl := (List.getElem?_eq_some_iff.1 hk).1
  obtain ⟨hl, ⟨e1, e2⟩ | ⟨g, cap, ⟨gs⟩, e1, hg, hn, hm, hs, ht⟩⟩ := ho
  · omega
  · simp only [Value.slice.injEq] at e1
    obtain ⟨rfl, _, rfl⟩ := e1
    have hs' : gs.length = c * sz := by simpa using hs
    refine ⟨g, gs, rfl, hg, by rw [hs']; exact Nat.mul_le_mul_right _ hn, fun {h'} {x} {q'} {j} hj hq hb => ?_⟩
    have e : (gs.set (k * sz + j) x).take (L.length * sz) = (L.set k q').flatMap F := by
      rw [List.take_set, show gs.take (L.length * sz) = L.flatMap F from ht]
      exact flat_set hF hj hq hk
    have := Own.of_block hb hn hm (by rw [List.length_set]; exact hs') e
    simpa using this
end
end Go.Proofs.YtkpgnhhidnkmcaaGreatDoor

/-
  package strings by the shelf's contracts: Split at one byte, Replace, Join of three.
-/
namespace Go.Proofs.YtkpgnhhidnkmcaaGreatDoor
open Go Go.RK Go.RowKit

/-! ### a text cut at a byte, in plain Lean -/
def segStep (c : UInt8) (st : List (List UInt8) × List UInt8) (a : UInt8) : List (List UInt8) × List UInt8 := if a = c then (st.1 ++ [st.2], []) else (st.1, st.2 ++ [a])
def seg (c : UInt8) (s : List UInt8) : List (List UInt8) × List UInt8 := s.foldl (segStep c) ([], [])
/-- The pieces between bytes c. -/
def pieces (c : UInt8) (s : List UInt8) : List (List UInt8) := (seg c s).1 ++ [(seg c s).2]
theorem seg_from (c : UInt8) (r : List UInt8) : ∀ (I J : List (List UInt8)) (q : List UInt8), r.foldl (segStep c) (I ++ J, q) = (I ++ (r.foldl (segStep c) (J, q)).1, (r.foldl (segStep c) (J, q)).2) := by
  induction r with
  | nil => exact fun _ _ _ => rfl
  | cons a r ih =>
    intro I J q
    simp only [List.foldl_cons, segStep]
    split
    · rw [List.append_assoc]; exact ih I (J ++ [q]) []
    · exact ih I J (q ++ [a])
theorem seg_no {c : UInt8} (p : List UInt8) (h : c ∉ p) : ∀ (J : List (List UInt8)) (q : List UInt8), p.foldl (segStep c) (J, q) = (J, q ++ p) := by
  induction p with
  | nil => intro J q; simp
  | cons a p ih =>
    intro J q
    simp only [List.mem_cons, not_or] at h
    simp only [List.foldl_cons, segStep, if_neg (Ne.symm h.1)]
    rw [ih h.2]
    simp
theorem pieces_no {c : UInt8} {s : List UInt8} (h : c ∉ s) : pieces c s = [s] := by
  unfold pieces seg
  rw [seg_no s h]
  rfl
theorem pieces_app {c : UInt8} {p r : List UInt8} (h : c ∉ p) : pieces c (p ++ c :: r) = p :: pieces c r := by
  have e : seg c (p ++ c :: r) = (p :: (seg c r).1, (seg c r).2) := by
    unfold seg
    rw [List.foldl_append, seg_no p h, List.foldl_cons]
    show List.foldl (segStep c) (segStep c ([], [] ++ p) c) r = _
    rw [show segStep c ([], [] ++ p) c = ([p] ++ [], []) by simp [segStep], seg_from]
    rfl
  unfold pieces
  rw [e]
  rfl
theorem index_at (c : UInt8) {p r : List UInt8} (h : c ∉ p) : Lib.index (p ++ c :: r) [c] = p.length := by
  refine Lib.index_first (by simp) (by simp [Lib.occAt]) fun j hj => ?_
  rw [Lib.occAt, List.drop_append_of_le_length (by omega), List.drop_eq_getElem_cons hj]
  have : p[j] ≠ c := fun e => h (e ▸ List.getElem_mem hj)
  simp only [List.cons_append, List.isPrefixOf, Bool.and_eq_false_iff, beq_eq_false_iff_ne]
  exact .inl (Ne.symm this)
theorem split_pieces (c : UInt8) : ∀ (n : Nat) (s : List UInt8), s.length ≤ n → Lib.splitK [c] 0 (s.count c) s = pieces c s := by
  intro n
  induction n with
  | zero =>
    intro s hs
    obtain rfl := List.eq_nil_of_length_eq_zero (Nat.le_zero.1 hs)
    rfl
  | succ n ih =>
    intro s hs
    by_cases h : c ∈ s
    · obtain ⟨p, r, rfl, hp⟩ := List.eq_append_cons_of_mem h
      have hc : (p ++ c :: r).count c = r.count c + 1 := by simp [List.count_eq_zero.2 hp]
      have hi := index_at c (r := r) hp
      rw [hc, Lib.splitK, if_neg (by rw [hi, beq_iff_eq]; omega), hi, pieces_app hp]
      simp only [Int.toNat_natCast, Nat.add_zero, List.length_singleton, List.take_left]
      rw [show p ++ c :: r = (p ++ [c]) ++ r by simp, List.drop_left' (by simp), ih r (by simp at hs; omega)]
    · rw [List.count_eq_zero.2 h, pieces_no h]
      rfl
theorem pieces_len (c : UInt8) (s : List UInt8) : (pieces c s).length ≤ s.length + 1 := by
  have key : ∀ (r : List UInt8) (J : List (List UInt8)) (q : List UInt8), (r.foldl (segStep c) (J, q)).1.length ≤ J.length + r.length := by
    intro r
    induction r with
    | nil => exact fun _ _ => Nat.le_refl _
    | cons a r ih =>
      intro J q
      simp only [List.foldl_cons, segStep]
      split
      · have := ih (J ++ [q]) []
        simp at this ⊢; omega
      · have := ih J (q ++ [a])
        simp at this ⊢; omega
  have := key s [] []
  simp only [pieces, seg, List.length_append, List.length_singleton]
  simp at this
  omega
theorem pieces_each (c : UInt8) (s : List UInt8) : ∀ p ∈ pieces c s, p.length ≤ s.length := by
  have key : ∀ (r : List UInt8) (J : List (List UInt8)) (q : List UInt8) (n : Nat), (∀ p ∈ J, p.length ≤ n) → q.length + r.length ≤ n → (∀ p ∈ (r.foldl (segStep c) (J, q)).1, p.length ≤ n) ∧ (r.foldl (segStep c) (J, q)).2.length ≤ n := by
    intro r
    induction r with
    | nil => exact fun _ _ _ h h2 => ⟨h, by simpa using h2⟩
    | cons a r ih =>
      intro J q n h h2
      simp only [List.length_cons] at h2
      simp only [List.foldl_cons, segStep]
      split
      · exact ih _ _ n (fun p hp => by rcases List.mem_append.1 hp with hp | hp; exact h p hp; simp at hp; subst hp; omega) (by simp; omega)
      · exact ih _ _ n h (by simp; omega)
  have := key s [] [] s.length (by simp) (by simp)
  intro p hp
  rcases List.mem_append.1 hp with hp | hp
  · exact this.1 p hp
  · simp at hp; subst hp; exact this.2

/-! ### the contracts -/
/-- The library's own number lies where it lies. -/
def Ml (h : Heap) : Prop := ∃ m, cell h ⟨0, 0, none⟩ = some (In m)
theorem Ml.ext0 {h h' : Heap} (m : Ml h) (a : Ext No h h') : Ml h' := by
  obtain ⟨k, hk⟩ := m
  exact ⟨k, a.cell hk nos⟩
theorem below_calls {P : Program} {k : FuncId} {args : Array Value} {h : Heap} {v : Value} (hc : ∀ w : World, w.heap = h → Calls P k args w fun e w' => e = .returned v ∧ Below w.heap.size w w') : CallsH P k args h fun u h' => u = v ∧ Ext No h h' :=
  fun w hw => (hc w hw).mono fun e w' ⟨he, hb⟩ => ⟨⟨hb.tape, hb.os, hb.output, trivial⟩, v, he, rfl, by subst hw; exact ⟨hb.size, fun b hlt _ => hb.block b hlt⟩⟩
theorem St_data (l : List UInt8) : (ByteArray.mk ⟨l⟩).data.toList = l := rfl
theorem join3 {h : Heap} {b : Nat} (a c d : List UInt8) (hb : h[b]? = some (.cells ⟨[St a, St c, St d]⟩ 9 (0, 0))) (hl : a.length + c.length + d.length ≤ 1000000) :
    CallsH Tryz.prog 68 ⟨[.slice (some ⟨b, 0, none⟩) 3 3, St [32]]⟩ h fun u h' => u = St (a ++ [32] ++ c ++ [32] ++ d) ∧ Ext No h h' := by
  have e : Lib.join ([ByteArray.mk ⟨a⟩, ⟨⟨c⟩⟩, ⟨⟨d⟩⟩].map (·.data.toList)) (ByteArray.mk ⟨[32]⟩).data.toList = a ++ [32] ++ c ++ [32] ++ d := by
    show Lib.join [a, c, d] [32] = _
    rw [Lib.join_cons]
    simp [Lib.joinTail]
  refine below_calls fun w hw => ?_
  subst hw
  have := Tryz.strings_Join b 0 3 [⟨⟨a⟩⟩, ⟨⟨c⟩⟩, ⟨⟨d⟩⟩] ⟨⟨[32]⟩⟩ w (fun j x hj => ?_) (lt_of_some hb) (by simp) (by simp) (by rw [e]; simp; omega)
  · rw [e] at this
    exact this
  · rw [cell_eq, cell_of hb, Nat.zero_add]
    rcases j with _ | _ | _ | j <;> simp at hj ⊢
    all_goals (subst hj; rfl)
theorem replace_any {h : Heap} (s old new : List UInt8) (hM : Ml h) (hs : s.length ≤ 100000) (ho : 1 ≤ old.length) (hn : new.length ≤ 100000) :
    CallsH Tryz.prog 74 ⟨[St s, St old, St new, In 1]⟩ h fun u h' => u = St (Lib.replace s old new 1) ∧ Ext No h h' := by
  obtain ⟨m, hm⟩ := hM
  refine below_calls fun w hw => ?_
  subst hw
  have hc : Lib.countB ⟨⟨s⟩⟩ ⟨⟨old⟩⟩ ≤ s.length := Lib.countB_le ⟨⟨old⟩⟩ ho s.length ⟨⟨s⟩⟩ (Nat.le_refl _)
  have hmul : Lib.countB ⟨⟨s⟩⟩ ⟨⟨old⟩⟩ * new.length ≤ 100000 * 100000 := Nat.mul_le_mul (by omega) hn
  exact Tryz.strings_Replace ⟨⟨s⟩⟩ ⟨⟨old⟩⟩ ⟨⟨new⟩⟩ 1 m w (show s.length < 4294967281 by omega) hm ho (show s.length + Lib.countB ⟨⟨s⟩⟩ ⟨⟨old⟩⟩ * new.length ≤ 140737488355328 by omega)
end Go.Proofs.YtkpgnhhidnkmcaaGreatDoor

/-
  NUMBERS IN DIGITS: package digits' Text (with strings.Builder) and the document's.
-/
namespace Go.Proofs.YtkpgnhhidnkmcaaGreatDoor
open Go Go.RK

/-- A number's digits, from the last one on. -/
def rdig (m : Nat) : List UInt8 := if m < 10 then [UInt8.ofNat (48 + m)] else UInt8.ofNat (48 + m % 10) :: rdig (m / 10)
/-- A number in digits. -/
def dig (m : Nat) : List UInt8 := (rdig m).reverse
def deci (n : Int) : List UInt8 := if n < 0 then 45 :: dig n.natAbs else dig n.natAbs
theorem rdig_lt {m : Nat} (h : m < 10) : rdig m = [UInt8.ofNat (48 + m)] := by unfold rdig; rw [if_pos h]
theorem rdig_ge {m : Nat} (h : ¬ m < 10) : rdig m = UInt8.ofNat (48 + m % 10) :: rdig (m / 10) := by rw [rdig, if_neg h]
theorem dig_lt {m : Nat} (h : m < 10) : dig m = [UInt8.ofNat (48 + m)] := by unfold dig; rw [rdig_lt h]; rfl
theorem dig_ge {m : Nat} (h : ¬ m < 10) : dig m = dig (m / 10) ++ [UInt8.ofNat (48 + m % 10)] := by unfold dig; rw [rdig_ge h]; simp
theorem rdig_len (k m : Nat) (h : m < 10 ^ (k + 1)) : (rdig m).length ≤ k + 1 := by
  induction k generalizing m with
  | zero => rw [rdig_lt (by omega)]; simp
  | succ k ih =>
    by_cases h1 : m < 10
    · rw [rdig_lt h1]; simp
    · rw [rdig_ge h1]
      have : m / 10 < 10 ^ (k + 1) := by
        rw [Nat.div_lt_iff_lt_mul (by omega)]
        rw [Nat.pow_succ] at h
        exact h
      have := ih _ this
      simp; omega
theorem rdig_len20 (m : Nat) (h : m ≤ 9223372036854775808) : (rdig m).length ≤ 20 := rdig_len 19 m (by omega)
theorem dig_len (m : Nat) (h : m ≤ 9223372036854775808) : (dig m).length ≤ 20 := by unfold dig; simpa using rdig_len20 m h
theorem rdig_pos (m : Nat) : 0 < (rdig m).length := by unfold rdig; split <;> simp
theorem deci_len (n : Int) (h : n.natAbs ≤ 9223372036854775808) : (deci n).length ≤ 21 := by
  have := dig_len _ h
  unfold deci
  split <;> simp <;> omega
theorem by_dig (m : Nat) : By (UInt8.ofNat (48 + m % 10)) = .int .u8 (48 + (m % 10 : Nat)) := by
  have : (UInt8.ofNat (48 + m % 10)).toNat = 48 + m % 10 := by simp; omega
  unfold By
  rw [this]
  simp
theorem tdiv_neg10 (m : Nat) : (-(m : Int)).tdiv 10 = -((m / 10 : Nat) : Int) := by rw [Int.neg_tdiv]; rfl
theorem tmod_neg10 (m : Nat) : (-(m : Int)).tmod 10 = -((m % 10 : Nat) : Int) := by rw [Int.neg_tmod]; rfl
theorem tdiv_pos10 (m : Nat) : (m : Int).tdiv 10 = ((m / 10 : Nat) : Int) := rfl
theorem tmod_pos10 (m : Nat) : (m : Int).tmod 10 = ((m % 10 : Nat) : Int) := rfl

/-! ### package strings: Builder -/
/-- A builder that no text was asked of, with these bytes. -/
def Bl (h : Heap) (b : Nat) (v : Value) (bs : List UInt8) : Prop := (∃ p, h[b]? = some (.cells ⟨[p, v]⟩ 100 (0, 0)) ∧ (p = .pointer none ∨ p = .pointer (some ⟨b, 0, none⟩))) ∧ Own h v 5 1 bs.length (bys bs) ∧ (bs = [] → v = .slice none 0 0)
theorem noEscape (v : Value) (w : World) : (callFunc 119 #[v]).run Tryz.prog w = .ok (.value v) w := by
  rw [run_callFunc_extern (P := Tryz.prog) (fn := Tryz.f119) (e := Extern.AbiNoEscape.same) (by kernel_rfl) (by kernel_rfl) rfl (by kernel_rfl) (by kernel_rfl)]
  rfl
set_option maxRecDepth 100000 in
theorem copyCheck {h : Heap} {b : Nat} {v : Value} {bs : List UInt8} (r : Bl h b v bs) :
    CallsH Tryz.prog 91 ⟨[.pointer (some ⟨b, 0, none⟩)]⟩ h fun u h' => u = .tuple ⟨[]⟩ ∧ h'[b]? = some (.cells ⟨[.pointer (some ⟨b, 0, none⟩), v]⟩ 100 (0, 0)) ∧ Ext (fun k => k = b) h h' := by
  obtain ⟨⟨p, hb, rfl | rfl⟩, ho, _⟩ := r
  · obtain ⟨A, c, rfl, _⟩ := ho.slice
    refine calls [(0, _)] Tryz.func91 rfl Tryz.ntmps91 rfl ⟨rfl, trivial⟩ ?_
    all_goals (refine WC.seq ?_)
    all_goals (refine WC.region ?_)
    all_goals (refine WL.step (ok_move rfl) rfl rfl rfl ?_)
    all_goals (refine WL.step (ok_nilCheck rfl) rfl rfl rfl ?_)
    all_goals (refine WL.step (ok_fieldAddr rfl Tryz.underlying100 rfl (fun w => Tryz.sizeOf98 w)) rfl rfl rfl ?_)
    all_goals (refine WL.step (ok_load (fun w => Tryz.isAgg98 w) rfl (by first | assumption | exact cell_blk (by assumption) rfl)) rfl rfl rfl ?_)
    all_goals (refine WL.step (ok_eqlPn Tryz.underlying98 rfl rfl) rfl rfl rfl ?_)
    all_goals (refine WL.nil ?_)
    all_goals (repeat' (with_reducible first | refine thenP_n ?_ | refine blockP_n ?_))
    all_goals (refine WC.sub [(0, _), (6, _)] ⟨rfl, rfl, trivial⟩ ?_)
    all_goals (first | refine WC.condB_t 1 rfl ?_ | refine WC.condB_f 2 rfl ?_ | (refine WC.condB 1 2 rfl (fun hb => ?_) (fun hb => ?_) <;> (first | replace hb := of_decide_eq_true hb | replace hb := of_decide_eq_false hb | replace hb := of_decide_eq_false (nt hb) | replace hb := of_decide_eq_true (nf hb) | skip)))
    all_goals (first
      | (fail_if_success (refine Br.mk (i := 1) ?_))
      | (refine Br.mk (i := 1) ?_
         all_goals (refine WC.region ?_)
         all_goals (refine WL.step (ok_move rfl) rfl rfl rfl ?_)
         all_goals (refine WL.step (ok_move rfl) rfl rfl rfl ?_)
         all_goals (refine WL.step (ok_toUnsafe Tryz.underlying98 Tryz.underlying140 (show Tryz.prog.info? 100 = some Tryz.t100 by kernel_rfl) (by decide) rfl (by assumption) (Nat.le_of_ble_eq_true rfl)) rfl rfl rfl ?_)
         all_goals (refine WL.step (ok_extern (fun w => noEscape _ w) rfl) rfl rfl rfl ?_)
         all_goals (refine WL.step (ok_fromUnsafe Tryz.underlying140 Tryz.underlying98 (show Tryz.prog.info? 100 = some Tryz.t100 by kernel_rfl) rfl (by assumption) (by kernel_rfl)) rfl rfl rfl ?_)
         all_goals (refine WL.step (ok_nilCheck rfl) rfl rfl rfl ?_)
         all_goals (refine WL.step (ok_fieldAddr rfl Tryz.underlying100 rfl (fun w => Tryz.sizeOf98 w)) rfl rfl rfl ?_)
         all_goals (refine WL.stepR0 (okE_store (fun w => Tryz.sizeOf98 w) rfl rfl (by assumption) (Nat.le_of_ble_eq_true rfl) rfl rfl) rfl rfl ?_
                    rintro _ h1 ⟨hb1, hx1⟩)
         all_goals (refine WL.nil ?_)
         skip))
    all_goals (first
      | (fail_if_success (refine Br.mk (i := 2) ?_))
      | (refine Br.mk (i := 2) ?_
         all_goals (refine WC.seq ?_)
         all_goals (refine WC.region ?_)
         all_goals (refine WL.step (ok_move rfl) rfl rfl rfl ?_)
         all_goals (refine WL.step (ok_nilCheck rfl) rfl rfl rfl ?_)
         all_goals (refine WL.step (ok_fieldAddr rfl Tryz.underlying100 rfl (fun w => Tryz.sizeOf98 w)) rfl rfl rfl ?_)
         all_goals (refine WL.step (ok_load (fun w => Tryz.isAgg98 w) rfl (by first | assumption | exact cell_blk (by assumption) rfl)) rfl rfl rfl ?_)
         all_goals (refine WL.step (ok_move rfl) rfl rfl rfl ?_)
         all_goals (refine WL.step (ok_neqPn Tryz.underlying98 rfl rfl) rfl rfl rfl ?_)
         all_goals (refine WL.nil ?_)
         all_goals (repeat' (with_reducible first | refine thenP_n ?_ | refine blockP_n ?_))
         all_goals (refine WC.sub [(19, _)] ⟨rfl, trivial⟩ ?_)
         all_goals (first | refine WC.condB_t 3 rfl ?_ | refine WC.condB_f 4 rfl ?_ | (refine WC.condB 3 4 rfl (fun hb => ?_) (fun hb => ?_) <;> (first | replace hb := of_decide_eq_true hb | replace hb := of_decide_eq_false hb | replace hb := of_decide_eq_false (nt hb) | replace hb := of_decide_eq_true (nf hb) | skip)))
         all_goals (first
           | (fail_if_success (refine Br.mk (i := 3) ?_))
           | (refine Br.mk (i := 3) ?_
              fail "refused"
              skip))
         all_goals (first
           | (fail_if_success (refine Br.mk (i := 4) ?_))
           | (refine Br.mk (i := 4) ?_
              all_goals (refine WC.skip ?_)
              skip))
         skip))
    all_goals (repeat' (with_reducible first | refine thenP_n ?_ | refine blockP_n ?_))
    all_goals (refine retP_n [] trivial ?_)
    all_goals (exact ⟨rfl, hb1, hx1⟩)
  · obtain ⟨A, c, rfl, _⟩ := ho.slice
    refine calls [(0, _)] Tryz.func91 rfl Tryz.ntmps91 rfl ⟨rfl, trivial⟩ ?_
    all_goals (refine WC.seq ?_)
    all_goals (refine WC.region ?_)
    all_goals (refine WL.step (ok_move rfl) rfl rfl rfl ?_)
    all_goals (refine WL.step (ok_nilCheck rfl) rfl rfl rfl ?_)
    all_goals (refine WL.step (ok_fieldAddr rfl Tryz.underlying100 rfl (fun w => Tryz.sizeOf98 w)) rfl rfl rfl ?_)
    all_goals (refine WL.step (ok_load (fun w => Tryz.isAgg98 w) rfl (by first | assumption | exact cell_blk (by assumption) rfl)) rfl rfl rfl ?_)
    all_goals (refine WL.step (ok_eqlPn Tryz.underlying98 rfl rfl) rfl rfl rfl ?_)
    all_goals (refine WL.nil ?_)
    all_goals (repeat' (with_reducible first | refine thenP_n ?_ | refine blockP_n ?_))
    all_goals (refine WC.sub [(0, _), (6, _)] ⟨rfl, rfl, trivial⟩ ?_)
    all_goals (first | refine WC.condB_t 1 rfl ?_ | refine WC.condB_f 2 rfl ?_ | (refine WC.condB 1 2 rfl (fun hb => ?_) (fun hb => ?_) <;> (first | replace hb := of_decide_eq_true hb | replace hb := of_decide_eq_false hb | replace hb := of_decide_eq_false (nt hb) | replace hb := of_decide_eq_true (nf hb) | skip)))
    all_goals (first
      | (fail_if_success (refine Br.mk (i := 1) ?_))
      | (refine Br.mk (i := 1) ?_
         all_goals (refine WC.region ?_)
         all_goals (refine WL.step (ok_move rfl) rfl rfl rfl ?_)
         all_goals (refine WL.step (ok_move rfl) rfl rfl rfl ?_)
         all_goals (refine WL.step (ok_toUnsafe Tryz.underlying98 Tryz.underlying140 (show Tryz.prog.info? 100 = some Tryz.t100 by kernel_rfl) (by decide) rfl (by assumption) (Nat.le_of_ble_eq_true rfl)) rfl rfl rfl ?_)
         all_goals (refine WL.step (ok_extern ? rfl) rfl rfl rfl ?_)
         all_goals (refine WL.step (ok_fromUnsafe Tryz.underlying140 Tryz.underlying98 (show Tryz.prog.info? 100 = some Tryz.t100 by kernel_rfl) rfl (by assumption) (by kernel_rfl)) rfl rfl rfl ?_)
         all_goals (refine WL.step (ok_nilCheck rfl) rfl rfl rfl ?_)
         all_goals (refine WL.step (ok_fieldAddr rfl Tryz.underlying100 rfl (fun w => Tryz.sizeOf98 w)) rfl rfl rfl ?_)
         all_goals (refine WL.stepR0 (okE_store (fun w => Tryz.sizeOf98 w) rfl rfl (by assumption) (Nat.le_of_ble_eq_true rfl) rfl rfl) rfl rfl ?_
                    rintro _ h1 ⟨hb1, hx1⟩)
         all_goals (refine WL.nil ?_)
         skip))
    all_goals (first
      | (fail_if_success (refine Br.mk (i := 2) ?_))
      | (refine Br.mk (i := 2) ?_
         all_goals (refine WC.seq ?_)
         all_goals (refine WC.region ?_)
         all_goals (refine WL.step (ok_move rfl) rfl rfl rfl ?_)
         all_goals (refine WL.step (ok_nilCheck rfl) rfl rfl rfl ?_)
         all_goals (refine WL.step (ok_fieldAddr rfl Tryz.underlying100 rfl (fun w => Tryz.sizeOf98 w)) rfl rfl rfl ?_)
         all_goals (refine WL.step (ok_load (fun w => Tryz.isAgg98 w) rfl (by first | assumption | exact cell_blk (by assumption) rfl)) rfl rfl rfl ?_)
         all_goals (refine WL.step (ok_move rfl) rfl rfl rfl ?_)
         all_goals (refine WL.step (ok_neqPs Tryz.underlying98 (show Tryz.prog.info? 100 = some Tryz.t100 by kernel_rfl) rfl rfl) rfl rfl rfl ?_)
         all_goals (refine WL.nil ?_)
         all_goals (repeat' (with_reducible first | refine thenP_n ?_ | refine blockP_n ?_))
         all_goals (refine WC.sub [(19, _)] ⟨rfl, trivial⟩ ?_)
         all_goals (first | refine WC.condB_t 3 rfl ?_ | refine WC.condB_f 4 rfl ?_ | (refine WC.condB 3 4 rfl (fun hb => ?_) (fun hb => ?_) <;> (first | replace hb := of_decide_eq_true hb | replace hb := of_decide_eq_false hb | replace hb := of_decide_eq_false (nt hb) | replace hb := of_decide_eq_true (nf hb) | skip)))
         all_goals (first
           | (fail_if_success (refine Br.mk (i := 3) ?_))
           | (refine Br.mk (i := 3) ?_
              fail "refused"
              skip))
         all_goals (first
           | (fail_if_success (refine Br.mk (i := 4) ?_))
           | (refine Br.mk (i := 4) ?_
              all_goals (refine WC.skip ?_)
              skip))
         skip))
    all_goals (repeat' (with_reducible first | refine thenP_n ?_ | refine blockP_n ?_))
    all_goals (refine retP_n [] trivial ?_)
    all_goals (exact ⟨rfl, hb, .refl _ _⟩)
set_option maxRecDepth 100000 in
theorem writeByte {h : Heap} {b : Nat} {v : Value} {bs : List UInt8} (r : Bl h b v bs) (c : UInt8) (hm : bs.length ≤ 1000000) :
    CallsH Tryz.prog 71 ⟨[.pointer (some ⟨b, 0, none⟩), By c]⟩ h fun u h' => u = .nilIface ∧ ∃ v', Bl h' b v' (bs ++ [c]) ∧ Ext (fun k => k = b ∨ v.ownBlock = some k) h h' ∧ ∀ k, v'.ownBlock = some k → v.ownBlock = some k ∨ h.size ≤ k := by
  have r0 := r
  obtain ⟨⟨p, hb, _⟩, ho, _⟩ := r
  obtain ⟨A, c0, rfl, _⟩ := ho.slice
  have hne : (Value.slice A bs.length c0).ownBlock ≠ some b := own_ne ho hb (by decide)
  refine calls [(0, _), (1, _)] Tryz.func71 rfl Tryz.ntmps71 rfl ⟨rfl, rfl, trivial⟩ ?_
  all_goals (refine WC.seq ?_)
  all_goals (refine WC.region ?_)
  all_goals (refine WL.step (ok_assign rfl) rfl rfl rfl ?_)
  all_goals (refine WL.nil ?_)
  all_goals (repeat' (with_reducible first | refine thenP_n ?_ | refine blockP_n ?_))
  all_goals (refine WC.seq ?_)
  all_goals (refine WC.region ?_)
  all_goals (refine WL.step (ok_move rfl) rfl rfl rfl ?_)
  all_goals (refine WL.call (vs := [_]) rfl (fun a w => Tryz.call91 a w) rfl (copyCheck r0) rfl rfl rfl ?_
             rintro _ h1 ⟨rfl, hb1, hx1⟩)
  all_goals (have ho1 := ho.ext hx1 (fun k hk e => hne (by rw [hk, e])))
  all_goals (refine WL.nil ?_)
  all_goals (repeat' (with_reducible first | refine thenP_n ?_ | refine blockP_n ?_))
  all_goals (refine WC.seq ?_)
  all_goals (refine WC.region ?_)
  all_goals (refine WL.step (ok_move rfl) rfl rfl rfl ?_)
  all_goals (refine WL.step (ok_move rfl) rfl rfl rfl ?_)
  all_goals (refine WL.step (ok_nilCheck rfl) rfl rfl rfl ?_)
  all_goals (refine WL.step (ok_fieldAddr rfl Tryz.underlying100 rfl (fun w => Tryz.sizeOf24 w)) rfl rfl rfl ?_)
  all_goals (refine WL.step (ok_load (fun w => Tryz.isAgg24 w) rfl (by first | assumption | exact cell_blk (by assumption) rfl)) rfl rfl rfl ?_)
  all_goals (refine WL.step (ok_move rfl) rfl rfl rfl ?_)
  all_goals (refine WL.stepR (okE_buildSlice (vs := [_]) (cs := [_]) (fun | [a0] => [a0] | _ => []) Tryz.underlying24 rfl rfl (by kernel_rfl)) rfl rfl rfl ?_
             rintro _ h3 ⟨b3, rfl, hg3, hb3, hx3⟩)
  all_goals (have ho3 := ho1.ext hx3 (fun _ _ => nos)
             have hb3' := hx3.obj hb1 nos)
  all_goals (refine WL.stepR (ok_append (sz := 1) (bytes := 1) rfl Tryz.underlying24 (show Tryz.prog.info? 5 = some Tryz.t5 by kernel_rfl) rfl rfl rfl rfl (by decide) rfl rfl ho3 (rd_blk hb3 rfl) (by simp [Value.oneCell']) (by simp only [maxLen]; omega) (by omega)) rfl rfl rfl ?_
             rintro v4 h4 ⟨ho4, hx4, hl4⟩)
  all_goals (obtain ⟨A4, c4, rfl, _⟩ := ho4.slice
             have hb4 := hx4.obj hb3' (fun e => hne e))
  all_goals (refine WL.step (ok_nilCheck rfl) rfl rfl rfl ?_)
  all_goals (refine WL.step (ok_fieldAddr rfl Tryz.underlying100 rfl (fun w => Tryz.sizeOf24 w)) rfl rfl rfl ?_)
  all_goals (refine WL.stepR0 (okE_store (fun w => Tryz.sizeOf24 w) rfl rfl hb4 (Nat.le_of_ble_eq_true rfl) rfl rfl) rfl rfl ?_
             rintro _ h5 ⟨hb5, hx5⟩)
  all_goals (refine WL.nil ?_)
  all_goals (repeat' (with_reducible first | refine thenP_n ?_ | refine blockP_n ?_))
  all_goals (refine WC.sub [] trivial ?_)
  all_goals (refine WC.seq ?_)
  all_goals (refine WC.region ?_)
  all_goals (refine WL.step (ok_assign rfl) rfl rfl rfl ?_)
  all_goals (refine WL.nil ?_)
  all_goals (repeat' (with_reducible first | refine thenP_n ?_ | refine blockP_n ?_))
  all_goals (refine WC.ret ?_)
  all_goals (repeat' (with_reducible first | refine thenP_r ?_ | refine blockP_r ?_))
  all_goals (refine retP_1 _ ⟨rfl, trivial⟩ ?_)
  all_goals (exact ⟨rfl, _, ⟨⟨_, hb5, .inr rfl⟩, by simpa using ho4.ext hx5 (fun k hk e => own_ne ho4 hb4 (by decide) (by rw [hk, e])), by simp⟩, (((hx1.mono (fun k _ e => .inl e)).trans (hx3.mono (fun k _ e => e.elim))).trans' hx4 (fun k _ e => .inr e)).trans' hx5 (fun k _ e => .inl e), kin_of hl4 (Nat.le_trans hx1.size hx3.size)⟩)
set_option maxRecDepth 100000 in
theorem builderString {h : Heap} {b : Nat} {v : Value} {bs : List UInt8} (r : Bl h b v bs) (hm : bs.length ≤ 1000000) :
    CallsH Tryz.prog 72 ⟨[.pointer (some ⟨b, 0, none⟩)]⟩ h fun u h' => u = St bs ∧ Ext (fun k => v.ownBlock = some k) h h' := by
  obtain ⟨⟨p, hb, _⟩, ho, hnn⟩ := r
  rcases ho with ⟨_, ⟨rfl, h0⟩ | ⟨g, cap, cur, rfl, hg, hn, hcm, hcs, hct⟩⟩
  · obtain rfl := List.eq_nil_of_length_eq_zero h0
    refine calls [(0, _)] Tryz.func72 rfl Tryz.ntmps72 rfl ⟨rfl, trivial⟩ ?_
    all_goals (refine WC.seq ?_)
    all_goals (refine WC.region ?_)
    all_goals (refine WL.step (ok_assign rfl) rfl rfl rfl ?_)
    all_goals (refine WL.nil ?_)
    all_goals (repeat' (with_reducible first | refine thenP_n ?_ | refine blockP_n ?_))
    all_goals (refine WC.seq ?_)
    all_goals (refine WC.drawT 10 fol (by kernel_rfl) ?_)
    all_goals (show WS _ _ _ [_, _, _, _, _, _, _, _, _, _] _ _ _)
    all_goals (refine WS.step (ok_move rfl) rfl rfl rfl ?_)
    all_goals (refine WS.step (ok_nilCheck rfl) rfl rfl rfl ?_)
    all_goals (refine WS.step (ok_fieldAddr rfl Tryz.underlying100 rfl (fun w => Tryz.sizeOf24 w)) rfl rfl rfl ?_)
    all_goals (refine WS.step (ok_load (fun w => Tryz.isAgg24 w) rfl (by first | assumption | exact cell_blk (by assumption) rfl)) rfl rfl rfl ?_)
    all_goals (first | (refine WS.step (ok_sliceData rfl (by omega)) rfl rfl rfl ?_) | (refine WS.step (ok_sliceData0 rfl) rfl rfl rfl ?_))
    all_goals (refine WS.step (ok_move rfl) rfl rfl rfl ?_)
    all_goals (refine WS.step (ok_nilCheck rfl) rfl rfl rfl ?_)
    all_goals (refine WS.step (ok_fieldAddr rfl Tryz.underlying100 rfl (fun w => Tryz.sizeOf24 w)) rfl rfl rfl ?_)
    all_goals (refine WS.step (ok_load (fun w => Tryz.isAgg24 w) rfl (by first | assumption | exact cell_blk (by assumption) rfl)) rfl rfl rfl ?_)
    all_goals (refine WS.step (ok_lenL rfl Tryz.underlying24 rfl) rfl rfl rfl ?_)
    all_goals (refine WS.nil ?_)
    all_goals (show WL _ _ _ [_, _] _ _ _)
    all_goals (refine WL.stepR (okE_unsafeString0 rfl rfl rfl) rfl rfl rfl ?_
               rintro _ hz ⟨rfl, _⟩
               subst hz)
    all_goals (refine WL.step (ok_assign rfl) rfl rfl rfl ?_)
    all_goals (refine WL.nil ?_)
    all_goals (repeat' (with_reducible first | refine thenP_n ?_ | refine blockP_n ?_))
    all_goals (refine WC.sub [(2, _)] ⟨rfl, trivial⟩ ?_)
    all_goals (refine WC.ret ?_)
    all_goals (repeat' (with_reducible first | refine thenP_r ?_ | refine blockP_r ?_))
    all_goals (refine retP_1 _ ⟨rfl, trivial⟩ ?_)
    all_goals (exact ⟨rfl, .refl _ _⟩)
  · have hg' : h[g]? = some (.cells ⟨cur.toList⟩ 5 (0, 0)) := hg
    by_cases hc0 : cap = 0
    · have h0 : bs = [] := List.eq_nil_of_length_eq_zero (by omega)
      cases hnn h0
    ·
      refine calls [(0, _)] Tryz.func72 rfl Tryz.ntmps72 rfl ⟨rfl, trivial⟩ ?_
      all_goals (refine WC.seq ?_)
      all_goals (refine WC.region ?_)
      all_goals (refine WL.step (ok_assign rfl) rfl rfl rfl ?_)
      all_goals (refine WL.nil ?_)
      all_goals (repeat' (with_reducible first | refine thenP_n ?_ | refine blockP_n ?_))
      all_goals (refine WC.seq ?_)
      all_goals (refine WC.drawT 10 fol (by kernel_rfl) ?_)
      all_goals (show WS _ _ _ [_, _, _, _, _, _, _, _, _, _] _ _ _)
      all_goals (refine WS.step (ok_move rfl) rfl rfl rfl ?_)
      all_goals (refine WS.step (ok_nilCheck rfl) rfl rfl rfl ?_)
      all_goals (refine WS.step (ok_fieldAddr rfl Tryz.underlying100 rfl (fun w => Tryz.sizeOf24 w)) rfl rfl rfl ?_)
      all_goals (refine WS.step (ok_load (fun w => Tryz.isAgg24 w) rfl (by first | assumption | exact cell_blk (by assumption) rfl)) rfl rfl rfl ?_)
      all_goals (first | (refine WS.step (ok_sliceData rfl (by omega)) rfl rfl rfl ?_) | (refine WS.step (ok_sliceData0 rfl) rfl rfl rfl ?_))
      all_goals (refine WS.step (ok_move rfl) rfl rfl rfl ?_)
      all_goals (refine WS.step (ok_nilCheck rfl) rfl rfl rfl ?_)
      all_goals (refine WS.step (ok_fieldAddr rfl Tryz.underlying100 rfl (fun w => Tryz.sizeOf24 w)) rfl rfl rfl ?_)
      all_goals (refine WS.step (ok_load (fun w => Tryz.isAgg24 w) rfl (by first | assumption | exact cell_blk (by assumption) rfl)) rfl rfl rfl ?_)
      all_goals (refine WS.step (ok_lenL rfl Tryz.underlying24 rfl) rfl rfl rfl ?_)
      all_goals (refine WS.nil ?_)
      all_goals (show WL _ _ _ [_, _] _ _ _)
      all_goals (refine WL.stepR (okE_unsafeString rfl Tryz.underlying125 (by kernel_rfl) rfl rfl rfl hg' (by simpa using hct) (by unfold maxLen; omega)) rfl rfl rfl ?_
                 rintro _ h1 ⟨rfl, hx1⟩)
      all_goals (refine WL.step (ok_assign rfl) rfl rfl rfl ?_)
      all_goals (refine WL.nil ?_)
      all_goals (repeat' (with_reducible first | refine thenP_n ?_ | refine blockP_n ?_))
      all_goals (refine WC.sub [(2, _)] ⟨rfl, trivial⟩ ?_)
      all_goals (refine WC.ret ?_)
      all_goals (repeat' (with_reducible first | refine thenP_r ?_ | refine blockP_r ?_))
      all_goals (refine retP_1 _ ⟨rfl, trivial⟩ ?_)
      all_goals (exact ⟨rfl, hx1.mono (fun k _ e => by rw [e]; rfl)⟩)
set_option maxRecDepth 100000 in
theorem least_any {h : Heap} (m : Nat) (hm : m ≤ 9223372036854775808) :
    CallsH Tryz.prog 70 ⟨[In (-(m : Int))]⟩ h fun u h' => Own h' u 5 1 (rdig m).length (bys (rdig m)) ∧ Ext No h h' ∧ ∀ k, u.ownBlock = some k → h.size ≤ k := by
  have hlm := rdig_len20 m hm
  refine calls [(0, _)] Tryz.func70 rfl Tryz.ntmps70 rfl ⟨rfl, trivial⟩ ?_
  all_goals (refine WC.seq ?_)
  all_goals (refine WC.region ?_)
  all_goals (refine WL.step (ok_assign rfl) rfl rfl rfl ?_)
  all_goals (refine WL.nil ?_)
  all_goals (repeat' (with_reducible first | refine thenP_n ?_ | refine blockP_n ?_))
  all_goals (refine WC.seq ?_)
  all_goals (refine WC.region ?_)
  all_goals (refine WL.step (ok_assign rfl) rfl rfl rfl ?_)
  all_goals (refine WL.nil ?_)
  all_goals (repeat' (with_reducible first | refine thenP_n ?_ | refine blockP_n ?_))
  all_goals (refine WC.block ?_)
  -- loop 0: slots that turn [0, 3], that stay []
  all_goals (refine WC.loopG (X := List UInt8 × Value × Nat) (fun x => ([(3, x.2.1), (0, In (-(x.2.2 : Int)))] : Fr)) [] (fun x h' => x.2.2 ≤ m ∧ x.1 ++ rdig x.2.2 = rdig m ∧ Own h' x.2.1 5 1 x.1.length (bys x.1) ∧ Ext No h h' ∧ ∀ k, x.2.1.ownBlock = some k → h.size ≤ k) (fun x => x.2.2) (([], .slice none 0 0, m)) ⟨rfl, rfl, trivial⟩ (by exact ⟨Nat.le_refl _, rfl, Own.nil _ _ _, .refl _ _, by simp [Value.ownBlock]⟩) ?_)
  all_goals (rintro ⟨out, v1, q⟩ h1 ⟨hq, hout, ho1, hx1, hf1⟩
             simp only at hq hout ho1 hf1
             obtain ⟨A1, c1, rfl, _⟩ := ho1.slice
             have hlo := congrArg List.length hout
             rw [List.length_append] at hlo
             have hpos := rdig_pos q
             have e1 := tdiv_neg10 q
             have e2 := tmod_neg10 q)
  all_goals (refine WC.sub [(0, _), (3, _)] ⟨rfl, rfl, trivial⟩ ?_)
  all_goals (dsimp only)
  all_goals (refine WC.block ?_)
  all_goals (refine WC.seq ?_)
  all_goals (refine WC.region ?_)
  all_goals (refine WL.step (ok_move rfl) rfl rfl rfl ?_)
  all_goals (refine WL.step (ok_move rfl) rfl rfl rfl ?_)
  all_goals (refine WL.step (ok_rem rfl rfl (by decide)) rfl rfl rfl ?_)
  all_goals (rw [e2])
  all_goals (first | (refine WL.step (ok_subI rfl rfl (by omega)) rfl rfl rfl ?_) | (refine WL.step (ok_sub rfl rfl) rfl rfl rfl ?_))
  all_goals (first | (refine WL.step (ok_convU8 Tryz.underlying3 Tryz.underlying5 rfl (by omega)) rfl rfl rfl ?_) | (refine WL.step (ok_conv Tryz.underlying3 Tryz.underlying5 rfl) rfl rfl rfl ?_))
  all_goals (rw [show (48 - -((q % 10 : Nat) : Int)) = 48 + (q % 10 : Nat) by omega, ← by_dig])
  all_goals (refine WL.stepR (okE_buildSlice (vs := [_]) (cs := [_]) (fun | [a0] => [a0] | _ => []) Tryz.underlying24 rfl rfl (by kernel_rfl)) rfl rfl rfl ?_
             rintro _ h3 ⟨b3, rfl, hg3, hb3, hx3⟩)
  all_goals (refine WL.stepR (ok_append (sz := 1) (bytes := 1) rfl Tryz.underlying24 (show Tryz.prog.info? 5 = some Tryz.t5 by kernel_rfl) rfl rfl rfl rfl (by decide) rfl rfl (ho1.ext hx3 (fun _ _ => nos)) (rd_blk hb3 rfl) (by simp [Value.oneCell']) (by simp only [maxLen]; omega) (by omega)) rfl rfl rfl ?_
             rintro v4 h4 ⟨ho4, hx4, hl4⟩)
  all_goals (have hf4 := fresh_of hl4 hf1 (by have := hx1.size; have := hx3.size; omega)
             have hE4 := (hx1.trans hx3).trans' hx4 (fun q hq e => by have := hf1 q e; omega))
  all_goals (refine WL.step (ok_assign rfl) rfl rfl rfl ?_)
  all_goals (refine WL.nil ?_)
  all_goals (repeat' (with_reducible first | refine thenP_n ?_ | refine blockP_n ?_))
  all_goals (refine WC.sub [(0, _), (3, _)] ⟨rfl, rfl, trivial⟩ ?_)
  all_goals (refine WC.seq ?_)
  all_goals (refine WC.region ?_)
  all_goals (refine WL.step (ok_move rfl) rfl rfl rfl ?_)
  all_goals (first | (refine WL.step (ok_quoI rfl rfl (by decide) (tdiv_in (by omega) (by decide))) rfl rfl rfl ?_) | (refine WL.step (ok_quo rfl rfl (by decide)) rfl rfl rfl ?_))
  all_goals (rw [e1])
  all_goals (refine WL.step (ok_assign rfl) rfl rfl rfl ?_)
  all_goals (refine WL.nil ?_)
  all_goals (repeat' (with_reducible first | refine thenP_n ?_ | refine blockP_n ?_))
  all_goals (refine WC.seq ?_)
  all_goals (refine WC.region ?_)
  all_goals (refine WL.step (ok_move rfl) rfl rfl rfl ?_)
  all_goals (first | (refine WL.step (OkP.bool_t (by omega) (ok_eql rfl rfl)) rfl rfl rfl ?_) | (refine WL.step (OkP.bool_f (by omega) (ok_eql rfl rfl)) rfl rfl rfl ?_) | (refine WL.step (ok_eql rfl rfl) rfl rfl rfl ?_))
  all_goals (refine WL.nil ?_)
  all_goals (repeat' (with_reducible first | refine thenP_n ?_ | refine blockP_n ?_))
  all_goals (first | refine WC.condB_t 1 rfl ?_ | refine WC.condB_f 2 rfl ?_ | (refine WC.condB 1 2 rfl (fun hb => ?_) (fun hb => ?_) <;> (first | replace hb := of_decide_eq_true hb | replace hb := of_decide_eq_false hb | replace hb := of_decide_eq_false (nt hb) | replace hb := of_decide_eq_true (nf hb) | skip)))
  all_goals (first
    | (fail_if_success (refine Br.mk (i := 1) ?_))
    | (refine Br.mk (i := 1) ?_
       all_goals (refine WC.seq ?_)
       all_goals (refine WC.region ?_)
       all_goals (refine WL.step (ok_move rfl) rfl rfl rfl ?_)
       all_goals (refine WL.step (ok_assign rfl) rfl rfl rfl ?_)
       all_goals (refine WL.nil ?_)
       all_goals (repeat' (with_reducible first | refine thenP_n ?_ | refine blockP_n ?_))
       all_goals (refine WC.sub [(2, _)] ⟨rfl, trivial⟩ ?_)
       all_goals (refine WC.ret ?_)
       all_goals (repeat' (with_reducible first | refine thenP_r ?_ | refine blockP_r ?_))
       all_goals (refine retP_1 _ ⟨rfl, trivial⟩ ?_)
       all_goals (exact ⟨by rw [← hout, rdig_lt (m := q) (by omega)]; have e9 : q % 10 = q := Nat.mod_eq_of_lt (by omega); rw [e9] at ho4; simpa using ho4, hE4, hf4⟩)
       skip))
  all_goals (first
    | (fail_if_success (refine Br.mk (i := 2) ?_))
    | (refine Br.mk (i := 2) ?_
       all_goals (refine WC.skip ?_)
       skip))
  all_goals (repeat' (with_reducible first | refine thenP_n ?_ | refine blockP_n ?_))
  all_goals (exact ⟨(out ++ [UInt8.ofNat (48 + q % 10)], _, q / 10), ⟨rfl, rfl, trivial⟩, (by exact ⟨by simp; omega, by rw [← hout, rdig_ge (m := q) (by omega)]; simp, by simpa using ho4, hE4, hf4⟩), (by simp; omega)⟩)
  all_goals (repeat' (with_reducible first | refine thenP_n ?_ | refine blockP_n ?_))
  all_goals (refine retP_n [] trivial ?_)
  all_goals (exact ⟨by rw [← hout, rdig_lt (m := q) (by omega)]; have e9 : q % 10 = q := Nat.mod_eq_of_lt (by omega); rw [e9] at ho4; simpa using ho4, hE4, hf4⟩)
theorem get_by {l : List UInt8} {j : Nat} {y : UInt8} (hy : l[j]? = some y) : (bys l)[j]? = some (By y) := by simp [hy]
theorem drop_snoc {l : List UInt8} {j : Nat} {y : UInt8} (hy : l[j]? = some y) : (l.drop j).reverse = (l.drop (j + 1)).reverse ++ [y] := by
  rw [List.drop_eq_getElem?_toList_append, hy]
  simp
theorem own_blt {h : Heap} {b : Nat} {v : Value} {bs : List UInt8} (r : Bl h b v bs) : b < h.size := by
  obtain ⟨⟨p, hb, _⟩, _⟩ := r
  exact lt_of_some hb
set_option maxRecDepth 100000 in
theorem text_pos {h : Heap} (m : Nat) (hm : m ≤ 9223372036854775807) :
    CallsH Tryz.prog 46 ⟨[In m]⟩ h fun u h' => u = St (deci m) ∧ Ext No h h' := by
  have ed : deci (m : Int) = dig m := by unfold deci; rw [if_neg (by omega)]; rfl
  have hlm := rdig_len20 m (by omega)
  refine calls [(0, _)] Tryz.func46 rfl Tryz.ntmps46 rfl ⟨rfl, trivial⟩ ?_
  all_goals (refine WC.seq ?_)
  all_goals (refine WC.region ?_)
  all_goals (refine WL.step (ok_assign rfl) rfl rfl rfl ?_)
  all_goals (refine WL.nil ?_)
  all_goals (repeat' (with_reducible first | refine thenP_n ?_ | refine blockP_n ?_))
  all_goals (refine WC.seq ?_)
  all_goals (refine WC.region ?_)
  all_goals (refine WL.step (ok_move rfl) rfl rfl rfl ?_)
  all_goals (first | (refine WL.step (OkP.bool_t (by omega) (ok_lss rfl rfl)) rfl rfl rfl ?_) | (refine WL.step (OkP.bool_f (by omega) (ok_lss rfl rfl)) rfl rfl rfl ?_) | (refine WL.step (ok_lss rfl rfl) rfl rfl rfl ?_))
  all_goals (refine WL.step (ok_assign rfl) rfl rfl rfl ?_)
  all_goals (refine WL.nil ?_)
  all_goals (repeat' (with_reducible first | refine thenP_n ?_ | refine blockP_n ?_))
  all_goals (refine WC.seq ?_)
  all_goals (refine WC.seq ?_)
  all_goals (refine WC.region ?_)
  all_goals (refine WL.step (ok_move rfl) rfl rfl rfl ?_)
  all_goals (refine WL.step (ok_not rfl) rfl rfl rfl ?_)
  all_goals (refine WL.nil ?_)
  all_goals (repeat' (with_reducible first | refine thenP_n ?_ | refine blockP_n ?_))
  all_goals (refine WC.sub [(0, _), (3, _), (10, _)] ⟨rfl, rfl, rfl, trivial⟩ ?_)
  all_goals (first | refine WC.condB_t 1 rfl ?_ | refine WC.condB_f 2 rfl ?_ | (refine WC.condB 1 2 rfl (fun hb => ?_) (fun hb => ?_) <;> (first | replace hb := of_decide_eq_true hb | replace hb := of_decide_eq_false hb | replace hb := of_decide_eq_false (nt hb) | replace hb := of_decide_eq_true (nf hb) | skip)))
  all_goals (first
    | (fail_if_success (refine Br.mk (i := 1) ?_))
    | (refine Br.mk (i := 1) ?_
       all_goals (refine WC.region ?_)
       all_goals (refine WL.step (ok_move rfl) rfl rfl rfl ?_)
       all_goals (first | (refine WL.step (ok_negI rfl (by omega)) rfl rfl rfl ?_) | (refine WL.step (ok_neg rfl) rfl rfl rfl ?_))
       all_goals (refine WL.step (ok_assign rfl) rfl rfl rfl ?_)
       all_goals (refine WL.nil ?_)
       skip))
  all_goals (first
    | (fail_if_success (refine Br.mk (i := 2) ?_))
    | (refine Br.mk (i := 2) ?_
       all_goals (refine WC.skip ?_)
       skip))
  all_goals (repeat' (with_reducible first | refine thenP_n ?_ | refine blockP_n ?_))
  all_goals (refine WC.seq ?_)
  all_goals (refine WC.region ?_)
  all_goals (refine WL.step (ok_move rfl) rfl rfl rfl ?_)
  all_goals (refine WL.call (vs := [_]) rfl (fun a w => Tryz.call70 a w) rfl (least_any m (by omega)) rfl rfl rfl ?_
             rintro v4 h4 ⟨ho4, hx4, hf4⟩)
  all_goals (obtain ⟨A4, c4, rfl, _⟩ := ho4.slice)
  all_goals (refine WL.step (ok_assign rfl) rfl rfl rfl ?_)
  all_goals (refine WL.nil ?_)
  all_goals (repeat' (with_reducible first | refine thenP_n ?_ | refine blockP_n ?_))
  all_goals (refine WC.sub [(3, _), (4, _)] ⟨rfl, rfl, trivial⟩ ?_)
  all_goals (refine WC.seq ?_)
  all_goals (refine WC.seq ?_)
  all_goals (refine WC.region ?_)
  all_goals (refine WL.step (ok_move rfl) rfl rfl rfl ?_)
  all_goals (refine WL.nil ?_)
  all_goals (repeat' (with_reducible first | refine thenP_n ?_ | refine blockP_n ?_))
  all_goals (first | refine WC.condB_t 3 rfl ?_ | refine WC.condB_f 4 rfl ?_ | (refine WC.condB 3 4 rfl (fun hb => ?_) (fun hb => ?_) <;> (first | replace hb := of_decide_eq_true hb | replace hb := of_decide_eq_false hb | replace hb := of_decide_eq_false (nt hb) | replace hb := of_decide_eq_true (nf hb) | skip)))
  all_goals (first
    | (fail_if_success (refine Br.mk (i := 3) ?_))
    | (refine Br.mk (i := 3) ?_
       all_goals (refine WC.region ?_)
       all_goals (refine WL.step (ok_move rfl) rfl rfl rfl ?_)
       all_goals (refine WL.stepR (okE_buildSlice (vs := [_]) (cs := [_]) (fun | [a0] => [a0] | _ => []) Tryz.underlying24 rfl rfl (by kernel_rfl)) rfl rfl rfl ?_
                  rintro _ h1 ⟨b1, rfl, hg1, hb1, hx1⟩)
       all_goals (refine WL.stepR (ok_append (sz := 1) (bytes := 1) rfl Tryz.underlying24 (show Tryz.prog.info? 5 = some Tryz.t5 by kernel_rfl) rfl rfl rfl rfl (by decide) rfl rfl (by assumption) (by first | assumption | exact rd_blk (by assumption) rfl) (by simp [Value.oneCell']) (by simp only [maxLen]; omega) (by omega)) rfl rfl rfl ?_
                  rintro v1 h1 ⟨ho1, hx1, hl1⟩)
       all_goals (refine WL.step (ok_assign rfl) rfl rfl rfl ?_)
       all_goals (refine WL.nil ?_)
       skip))
  all_goals (first
    | (fail_if_success (refine Br.mk (i := 4) ?_))
    | (refine Br.mk (i := 4) ?_
       all_goals (refine WC.skip ?_)
       skip))
  all_goals (repeat' (with_reducible first | refine thenP_n ?_ | refine blockP_n ?_))
  all_goals (refine WC.seq ?_)
  all_goals (refine WC.region ?_)
  all_goals (refine WL.stepR (okE_alloc (fun w => Tryz.zeroValue100 w)) rfl rfl rfl ?_
             rintro _ h5 ⟨b5, rfl, hg5, hb5, hx5⟩)
  all_goals (have hob := ho4.ext hx5 (fun _ _ => nos)
             have hfb : ∀ k, (Value.slice A4 (rdig m).length c4).ownBlock = some k → k < b5 := fun k e => by have := ho4.lt e; omega)
  all_goals (refine WL.nil ?_)
  all_goals (repeat' (with_reducible first | refine thenP_n ?_ | refine blockP_n ?_))
  all_goals (refine WC.seq ?_)
  all_goals (refine WC.seq ?_)
  all_goals (refine WC.region ?_)
  all_goals (refine WL.step (ok_move rfl) rfl rfl rfl ?_)
  all_goals (refine WL.step (ok_lenL rfl Tryz.underlying24 rfl) rfl rfl rfl ?_)
  all_goals (first | (refine WL.step (ok_subI rfl rfl (by omega)) rfl rfl rfl ?_) | (refine WL.step (ok_sub rfl rfl) rfl rfl rfl ?_))
  all_goals (refine WL.step (ok_assign rfl) rfl rfl rfl ?_)
  all_goals (refine WL.nil ?_)
  all_goals (repeat' (with_reducible first | refine thenP_n ?_ | refine blockP_n ?_))
  all_goals (refine WC.sub [(4, _), (5, _), (6, _)] ⟨rfl, rfl, rfl, trivial⟩ ?_)
  all_goals (refine WC.block ?_)
  -- loop 0: slots that turn [6], that stay [4, 5]
  all_goals (refine WC.loopG (X := Nat × Value) (fun x => ([(6, In ((x.1 : Int) - 1))] : Fr)) [(4, _), (5, _)] (fun x h' => x.1 ≤ (rdig m).length ∧ Bl h' b5 x.2 ((rdig m).drop x.1).reverse ∧ Own h' (Value.slice A4 (rdig m).length c4) 5 1 (rdig m).length (bys (rdig m)) ∧ Ext No h h' ∧ h.size ≤ b5 ∧ ∀ k, x.2.ownBlock = some k → b5 < k) (fun x => x.1) (((rdig m).length, .slice none 0 0)) ⟨rfl, rfl, rfl, trivial⟩ (by exact ⟨Nat.le_refl _, by simpa [Bl] using (⟨⟨_, hb5, .inl rfl⟩, Own.nil _ _ _⟩ : _ ∧ _), hob, hx4.trans hx5, Nat.le_trans hx4.size hg5, by simp [Value.ownBlock]⟩) ?_)
  all_goals (rintro ⟨k, v6⟩ h6 ⟨hk, hbl, ho6, hx6, hg6, hf6⟩
             simp only at hk hbl hf6)
  all_goals (refine WC.sub [(6, _), (4, _), (5, _)] ⟨rfl, rfl, rfl, trivial⟩ ?_)
  all_goals (dsimp only)
  all_goals (refine WC.seq ?_)
  all_goals (refine WC.seq ?_)
  all_goals (refine WC.region ?_)
  all_goals (refine WL.step (ok_move rfl) rfl rfl rfl ?_)
  all_goals (first | (refine WL.step (OkP.bool_t (by omega) (ok_geq rfl rfl)) rfl rfl rfl ?_) | (refine WL.step (OkP.bool_f (by omega) (ok_geq rfl rfl)) rfl rfl rfl ?_) | (refine WL.step (ok_geq rfl rfl) rfl rfl rfl ?_))
  all_goals (refine WL.nil ?_)
  all_goals (repeat' (with_reducible first | refine thenP_n ?_ | refine blockP_n ?_))
  all_goals (first | refine WC.condB_t 5 rfl ?_ | refine WC.condB_f 6 rfl ?_ | (refine WC.condB 5 6 rfl (fun hb => ?_) (fun hb => ?_) <;> (first | replace hb := of_decide_eq_true hb | replace hb := of_decide_eq_false hb | replace hb := of_decide_eq_false (nt hb) | replace hb := of_decide_eq_true (nf hb) | skip)))
  all_goals (first
    | (fail_if_success (refine Br.mk (i := 5) ?_))
    | (refine Br.mk (i := 5) ?_
       all_goals (refine WC.skip ?_)
       skip))
  all_goals (first
    | (fail_if_success (refine Br.mk (i := 6) ?_))
    | (refine Br.mk (i := 6) ?_
       all_goals (refine WC.exit ?_)
       all_goals (repeat' (with_reducible first | refine thenP_x ?_ | refine blockP_miss rfl ?_ | refine blockP_hit ?_ | refine blockP_n ?_ | refine thenP_n ?_))
       all_goals (refine Br.out (i := 1000) ?_)
       skip))
  all_goals (first | (refine Br.keep ?_) | (repeat' (with_reducible first | refine thenP_n ?_ | refine blockP_n ?_)))
  all_goals (first | (refine Br.keep ?_) | (refine WC.seq ?_))
  all_goals (first | (refine Br.keep ?_) | (refine WC.block ?_))
  all_goals (first
               | (refine Br.keep ?_)
               | (obtain ⟨bL, oL, hA, hbL, hat⟩ := Rd.at_ ho6.rd (by omega)
                  obtain ⟨j, rfl⟩ : ∃ j, k = j + 1 := ⟨k - 1, by omega⟩
                  obtain ⟨y, hy⟩ : ∃ y, (rdig m)[j]? = some y := ⟨_, List.getElem?_eq_getElem (by omega)⟩
                  have hc := hat.get (p := oL + j * 1) (v := By y) j (get_by hy) (by omega)
                  have e8 : (((j + 1 : Nat) : Int) - 1) = (j : Nat) := by omega
                  rw [e8]))
  all_goals (first | (refine Br.keep ?_) | (refine WC.region ?_))
  all_goals (first | (refine Br.keep ?_) | (refine WL.step (ok_move rfl) rfl rfl rfl ?_))
  all_goals (first | (refine Br.keep ?_) | (refine WL.step (ok_move rfl) rfl rfl rfl ?_))
  all_goals (first | (refine Br.keep ?_) | (refine WL.step (ok_idxAddrA Tryz.underlying24 (fun w => Tryz.sizeOf5 w) rfl rfl rfl (by omega) (by first | rfl | assumption)) rfl rfl rfl ?_))
  all_goals (first | (refine Br.keep ?_) | (refine WL.step (ok_load (fun w => Tryz.isAgg5 w) rfl (by first | assumption | exact cell_blk (by assumption) rfl)) rfl rfl rfl ?_))
  all_goals (first
               | (refine Br.keep ?_)
               | (refine WL.call (vs := [_, _]) rfl (fun a w => Tryz.call71 a w) rfl (writeByte hbl y (by simp; omega)) rfl rfl rfl ?_
                  rintro _ h7 ⟨rfl, v7, hbl7, hx7, hk7⟩))
  all_goals (first | (refine Br.keep ?_) | (refine WL.nil ?_))
  all_goals (first | (refine Br.keep ?_) | (repeat' (with_reducible first | refine thenP_n ?_ | refine blockP_n ?_)))
  all_goals (first | (refine Br.keep ?_) | (refine WC.sub [(4, _), (5, _), (6, _)] ⟨rfl, rfl, rfl, trivial⟩ ?_))
  all_goals (first | (refine Br.keep ?_) | (refine WC.region ?_))
  all_goals (first | (refine Br.keep ?_) | (refine WL.step (ok_move rfl) rfl rfl rfl ?_))
  all_goals (first | (refine Br.keep ?_) | (first | (refine WL.step (ok_subI rfl rfl (by omega)) rfl rfl rfl ?_) | (refine WL.step (ok_sub rfl rfl) rfl rfl rfl ?_)))
  all_goals (first | (refine Br.keep ?_) | (refine WL.step (ok_assign rfl) rfl rfl rfl ?_))
  all_goals (first | (refine Br.keep ?_) | (refine WL.nil ?_))
  all_goals (first | (refine Br.keep ?_) | (repeat' (with_reducible first | refine thenP_n ?_ | refine blockP_n ?_)))
  all_goals (first | (refine Br.keep ?_) | (exact ⟨(j, _), ⟨rfl, rfl, rfl, trivial⟩, (by exact ⟨by simp; omega, by rw [drop_snoc hy]; exact hbl7, ho6.ext hx7 (fun q hq e => e.elim (fun e => by have := hfb q hq; omega) (fun e => by have := hfb q hq; have := hf6 q e; omega)), hx6.trans' hx7 (fun q hq e => e.elim (fun e => by omega) (fun e => by have := hf6 q e; omega)), hg6, fun q hq => (hk7 q hq).elim (hf6 q) (fun e => Nat.lt_of_lt_of_le (own_blt hbl) e)⟩), (by simp)⟩))
  all_goals (try (refine Br.mk (i := 1000) ?_))
  all_goals (repeat' (with_reducible first | refine thenP_n ?_ | refine blockP_n ?_))
  all_goals (refine WC.sub [(5, _)] ⟨rfl, trivial⟩ ?_)
  all_goals (refine WC.seq ?_)
  all_goals (refine WC.region ?_)
  all_goals (refine WL.call (vs := [_]) rfl (fun a w => Tryz.call72 a w) rfl (builderString hbl (by simp; omega)) rfl rfl rfl ?_
             rintro _ h8 ⟨rfl, hx8⟩)
  all_goals (refine WL.step (ok_assign rfl) rfl rfl rfl ?_)
  all_goals (refine WL.nil ?_)
  all_goals (repeat' (with_reducible first | refine thenP_n ?_ | refine blockP_n ?_))
  all_goals (refine WC.ret ?_)
  all_goals (repeat' (with_reducible first | refine thenP_r ?_ | refine blockP_r ?_))
  all_goals (refine retP_1 _ ⟨rfl, trivial⟩ ?_)
  all_goals (exact ⟨by rw [show k = 0 by omega, ed]; simp [dig], hx6.trans' hx8 (fun q hq e => by have := hf6 q e; omega)⟩)
set_option maxRecDepth 100000 in
theorem text_neg {h : Heap} (m : Nat) (h0 : 0 < m) (hm : m ≤ 9223372036854775808) :
    CallsH Tryz.prog 46 ⟨[In (-(m : Int))]⟩ h fun u h' => u = St (deci (-(m : Int))) ∧ Ext No h h' := by
  have ed : deci (-(m : Int)) = 45 :: dig m := by unfold deci; rw [if_pos (by omega)]; simp
  have hlm := rdig_len20 m (by omega)
  refine calls [(0, _)] Tryz.func46 rfl Tryz.ntmps46 rfl ⟨rfl, trivial⟩ ?_
  all_goals (refine WC.seq ?_)
  all_goals (refine WC.region ?_)
  all_goals (refine WL.step (ok_assign rfl) rfl rfl rfl ?_)
  all_goals (refine WL.nil ?_)
  all_goals (repeat' (with_reducible first | refine thenP_n ?_ | refine blockP_n ?_))
  all_goals (refine WC.seq ?_)
  all_goals (refine WC.region ?_)
  all_goals (refine WL.step (ok_move rfl) rfl rfl rfl ?_)
  all_goals (first | (refine WL.step (OkP.bool_t (by omega) (ok_lss rfl rfl)) rfl rfl rfl ?_) | (refine WL.step (OkP.bool_f (by omega) (ok_lss rfl rfl)) rfl rfl rfl ?_) | (refine WL.step (ok_lss rfl rfl) rfl rfl rfl ?_))
  all_goals (refine WL.step (ok_assign rfl) rfl rfl rfl ?_)
  all_goals (refine WL.nil ?_)
  all_goals (repeat' (with_reducible first | refine thenP_n ?_ | refine blockP_n ?_))
  all_goals (refine WC.seq ?_)
  all_goals (refine WC.seq ?_)
  all_goals (refine WC.region ?_)
  all_goals (refine WL.step (ok_move rfl) rfl rfl rfl ?_)
  all_goals (refine WL.step (ok_not rfl) rfl rfl rfl ?_)
  all_goals (refine WL.nil ?_)
  all_goals (repeat' (with_reducible first | refine thenP_n ?_ | refine blockP_n ?_))
  all_goals (refine WC.sub [(0, _), (3, _), (10, _)] ⟨rfl, rfl, rfl, trivial⟩ ?_)
  all_goals (first | refine WC.condB_t 1 rfl ?_ | refine WC.condB_f 2 rfl ?_ | (refine WC.condB 1 2 rfl (fun hb => ?_) (fun hb => ?_) <;> (first | replace hb := of_decide_eq_true hb | replace hb := of_decide_eq_false hb | replace hb := of_decide_eq_false (nt hb) | replace hb := of_decide_eq_true (nf hb) | skip)))
  all_goals (first
    | (fail_if_success (refine Br.mk (i := 1) ?_))
    | (refine Br.mk (i := 1) ?_
       all_goals (refine WC.region ?_)
       all_goals (refine WL.step (ok_move rfl) rfl rfl rfl ?_)
       all_goals (first | (refine WL.step (ok_negI rfl (by omega)) rfl rfl rfl ?_) | (refine WL.step (ok_neg rfl) rfl rfl rfl ?_))
       all_goals (refine WL.step (ok_assign rfl) rfl rfl rfl ?_)
       all_goals (refine WL.nil ?_)
       skip))
  all_goals (first
    | (fail_if_success (refine Br.mk (i := 2) ?_))
    | (refine Br.mk (i := 2) ?_
       all_goals (refine WC.skip ?_)
       skip))
  all_goals (repeat' (with_reducible first | refine thenP_n ?_ | refine blockP_n ?_))
  all_goals (refine WC.seq ?_)
  all_goals (refine WC.region ?_)
  all_goals (refine WL.step (ok_move rfl) rfl rfl rfl ?_)
  all_goals (refine WL.call (vs := [_]) rfl (fun a w => Tryz.call70 a w) rfl (least_any m (by omega)) rfl rfl rfl ?_
             rintro v4 h4 ⟨ho4, hx4, hf4⟩)
  all_goals (refine WL.step (ok_assign rfl) rfl rfl rfl ?_)
  all_goals (refine WL.nil ?_)
  all_goals (repeat' (with_reducible first | refine thenP_n ?_ | refine blockP_n ?_))
  all_goals (refine WC.sub [(3, _), (4, _)] ⟨rfl, rfl, trivial⟩ ?_)
  all_goals (refine WC.seq ?_)
  all_goals (refine WC.seq ?_)
  all_goals (refine WC.region ?_)
  all_goals (refine WL.step (ok_move rfl) rfl rfl rfl ?_)
  all_goals (refine WL.nil ?_)
  all_goals (repeat' (with_reducible first | refine thenP_n ?_ | refine blockP_n ?_))
  all_goals (first | refine WC.condB_t 3 rfl ?_ | refine WC.condB_f 4 rfl ?_ | (refine WC.condB 3 4 rfl (fun hb => ?_) (fun hb => ?_) <;> (first | replace hb := of_decide_eq_true hb | replace hb := of_decide_eq_false hb | replace hb := of_decide_eq_false (nt hb) | replace hb := of_decide_eq_true (nf hb) | skip)))
  all_goals (first
    | (fail_if_success (refine Br.mk (i := 3) ?_))
    | (refine Br.mk (i := 3) ?_
       all_goals (refine WC.region ?_)
       all_goals (refine WL.step (ok_move rfl) rfl rfl rfl ?_)
       all_goals (refine WL.stepR (okE_buildSlice (vs := [_]) (cs := [_]) (fun | [a0] => [a0] | _ => []) Tryz.underlying24 rfl rfl (by kernel_rfl)) rfl rfl rfl ?_
                  rintro _ h3 ⟨b3, rfl, hg3, hb3, hx3⟩)
       all_goals (refine WL.stepR (ok_append (sz := 1) (bytes := 1) rfl Tryz.underlying24 (show Tryz.prog.info? 5 = some Tryz.t5 by kernel_rfl) rfl rfl rfl rfl (by decide) rfl rfl (ho4.ext hx3 (fun _ _ => nos)) (rd_blk hb3 rfl) (by simp [Value.oneCell']) (by simp only [maxLen]; omega) (by omega)) rfl rfl rfl ?_
                  rintro v7 h7 ⟨ho7, hx7, hl7⟩)
       all_goals (have hf7 := fresh_of hl7 hf4 (by have := hx4.size; have := hx3.size; omega)
                  have hX7 := (hx4.trans hx3).trans' hx7 (fun q hq e => by have := hf4 q e; omega)
                  have e45 : bys (rdig m) ++ [.int .u8 45] = bys (rdig m ++ [45]) := by simp
                  have l45 : (rdig m).length + 1 = (rdig m ++ [45]).length := by simp
                  rw [e45, l45] at ho7
                  have hlf : (rdig m ++ [45]).length ≤ 21 := by omega
                  obtain ⟨A7, c7, rfl, _⟩ := ho7.slice)
       all_goals (refine WL.step (ok_assign rfl) rfl rfl rfl ?_)
       all_goals (refine WL.nil ?_)
       skip))
  all_goals (first
    | (fail_if_success (refine Br.mk (i := 4) ?_))
    | (refine Br.mk (i := 4) ?_
       all_goals (refine WC.skip ?_)
       skip))
  all_goals (repeat' (with_reducible first | refine thenP_n ?_ | refine blockP_n ?_))
  all_goals (refine WC.seq ?_)
  all_goals (refine WC.region ?_)
  all_goals (refine WL.stepR (okE_alloc (fun w => Tryz.zeroValue100 w)) rfl rfl rfl ?_
             rintro _ h5 ⟨b5, rfl, hg5, hb5, hx5⟩)
  all_goals (have hob := ho7.ext hx5 (fun _ _ => nos)
             have hfb : ∀ k, (Value.slice A7 (rdig m ++ [45]).length c7).ownBlock = some k → k < b5 := fun k e => by have := ho7.lt e; omega)
  all_goals (refine WL.nil ?_)
  all_goals (repeat' (with_reducible first | refine thenP_n ?_ | refine blockP_n ?_))
  all_goals (refine WC.seq ?_)
  all_goals (refine WC.seq ?_)
  all_goals (refine WC.region ?_)
  all_goals (refine WL.step (ok_move rfl) rfl rfl rfl ?_)
  all_goals (refine WL.step (ok_lenL rfl Tryz.underlying24 rfl) rfl rfl rfl ?_)
  all_goals (first | (refine WL.step (ok_subI rfl rfl (by omega)) rfl rfl rfl ?_) | (refine WL.step (ok_sub rfl rfl) rfl rfl rfl ?_))
  all_goals (refine WL.step (ok_assign rfl) rfl rfl rfl ?_)
  all_goals (refine WL.nil ?_)
  all_goals (repeat' (with_reducible first | refine thenP_n ?_ | refine blockP_n ?_))
  all_goals (refine WC.sub [(4, _), (5, _), (6, _)] ⟨rfl, rfl, rfl, trivial⟩ ?_)
  all_goals (refine WC.block ?_)
  -- loop 0: slots that turn [6], that stay [4, 5]
  all_goals (refine WC.loopG (X := Nat × Value) (fun x => ([(6, In ((x.1 : Int) - 1))] : Fr)) [(4, _), (5, _)] (fun x h' => x.1 ≤ (rdig m ++ [45]).length ∧ Bl h' b5 x.2 ((rdig m ++ [45]).drop x.1).reverse ∧ Own h' (Value.slice A7 (rdig m ++ [45]).length c7) 5 1 (rdig m ++ [45]).length (bys (rdig m ++ [45])) ∧ Ext No h h' ∧ h.size ≤ b5 ∧ ∀ k, x.2.ownBlock = some k → b5 < k) (fun x => x.1) (((rdig m ++ [45]).length, .slice none 0 0)) ⟨rfl, rfl, rfl, trivial⟩ (by exact ⟨Nat.le_refl _, by simpa [Bl] using (⟨⟨_, hb5, .inl rfl⟩, Own.nil _ _ _⟩ : _ ∧ _), hob, hX7.trans hx5, Nat.le_trans hX7.size hg5, by simp [Value.ownBlock]⟩) ?_)
  all_goals (rintro ⟨k, v6⟩ h6 ⟨hk, hbl, ho6, hx6, hg6, hf6⟩
             simp only at hk hbl hf6)
  all_goals (refine WC.sub [(6, _), (4, _), (5, _)] ⟨rfl, rfl, rfl, trivial⟩ ?_)
  all_goals (dsimp only)
  all_goals (refine WC.seq ?_)
  all_goals (refine WC.seq ?_)
  all_goals (refine WC.region ?_)
  all_goals (refine WL.step (ok_move rfl) rfl rfl rfl ?_)
  all_goals (first | (refine WL.step (OkP.bool_t (by omega) (ok_geq rfl rfl)) rfl rfl rfl ?_) | (refine WL.step (OkP.bool_f (by omega) (ok_geq rfl rfl)) rfl rfl rfl ?_) | (refine WL.step (ok_geq rfl rfl) rfl rfl rfl ?_))
  all_goals (refine WL.nil ?_)
  all_goals (repeat' (with_reducible first | refine thenP_n ?_ | refine blockP_n ?_))
  all_goals (first | refine WC.condB_t 5 rfl ?_ | refine WC.condB_f 6 rfl ?_ | (refine WC.condB 5 6 rfl (fun hb => ?_) (fun hb => ?_) <;> (first | replace hb := of_decide_eq_true hb | replace hb := of_decide_eq_false hb | replace hb := of_decide_eq_false (nt hb) | replace hb := of_decide_eq_true (nf hb) | skip)))
  all_goals (first
    | (fail_if_success (refine Br.mk (i := 5) ?_))
    | (refine Br.mk (i := 5) ?_
       all_goals (refine WC.skip ?_)
       skip))
  all_goals (first
    | (fail_if_success (refine Br.mk (i := 6) ?_))
    | (refine Br.mk (i := 6) ?_
       all_goals (refine WC.exit ?_)
       all_goals (repeat' (with_reducible first | refine thenP_x ?_ | refine blockP_miss rfl ?_ | refine blockP_hit ?_ | refine blockP_n ?_ | refine thenP_n ?_))
       all_goals (refine Br.out (i := 1000) ?_)
       skip))
  all_goals (first | (refine Br.keep ?_) | (repeat' (with_reducible first | refine thenP_n ?_ | refine blockP_n ?_)))
  all_goals (first | (refine Br.keep ?_) | (refine WC.seq ?_))
  all_goals (first | (refine Br.keep ?_) | (refine WC.block ?_))
  all_goals (first
               | (refine Br.keep ?_)
               | (obtain ⟨bL, oL, hA, hbL, hat⟩ := Rd.at_ ho6.rd (by omega)
                  obtain ⟨j, rfl⟩ : ∃ j, k = j + 1 := ⟨k - 1, by omega⟩
                  obtain ⟨y, hy⟩ : ∃ y, (rdig m ++ [45])[j]? = some y := ⟨_, List.getElem?_eq_getElem (by omega)⟩
                  have hc := hat.get (p := oL + j * 1) (v := By y) j (get_by hy) (by omega)
                  have e8 : (((j + 1 : Nat) : Int) - 1) = (j : Nat) := by omega
                  rw [e8]))
  all_goals (first | (refine Br.keep ?_) | (refine WC.region ?_))
  all_goals (first | (refine Br.keep ?_) | (refine WL.step (ok_move rfl) rfl rfl rfl ?_))
  all_goals (first | (refine Br.keep ?_) | (refine WL.step (ok_move rfl) rfl rfl rfl ?_))
  all_goals (first | (refine Br.keep ?_) | (refine WL.step (ok_idxAddrA Tryz.underlying24 (fun w => Tryz.sizeOf5 w) rfl rfl rfl (by omega) (by first | rfl | assumption)) rfl rfl rfl ?_))
  all_goals (first | (refine Br.keep ?_) | (refine WL.step (ok_load (fun w => Tryz.isAgg5 w) rfl (by first | assumption | exact cell_blk (by assumption) rfl)) rfl rfl rfl ?_))
  all_goals (first
               | (refine Br.keep ?_)
               | (refine WL.call (vs := [_, _]) rfl (fun a w => Tryz.call71 a w) rfl (writeByte hbl y (by simp; omega)) rfl rfl rfl ?_
                  rintro _ h7 ⟨rfl, v7, hbl7, hx7, hk7⟩))
  all_goals (first | (refine Br.keep ?_) | (refine WL.nil ?_))
  all_goals (first | (refine Br.keep ?_) | (repeat' (with_reducible first | refine thenP_n ?_ | refine blockP_n ?_)))
  all_goals (first | (refine Br.keep ?_) | (refine WC.sub [(4, _), (5, _), (6, _)] ⟨rfl, rfl, rfl, trivial⟩ ?_))
  all_goals (first | (refine Br.keep ?_) | (refine WC.region ?_))
  all_goals (first | (refine Br.keep ?_) | (refine WL.step (ok_move rfl) rfl rfl rfl ?_))
  all_goals (first | (refine Br.keep ?_) | (first | (refine WL.step (ok_subI rfl rfl (by omega)) rfl rfl rfl ?_) | (refine WL.step (ok_sub rfl rfl) rfl rfl rfl ?_)))
  all_goals (first | (refine Br.keep ?_) | (refine WL.step (ok_assign rfl) rfl rfl rfl ?_))
  all_goals (first | (refine Br.keep ?_) | (refine WL.nil ?_))
  all_goals (first | (refine Br.keep ?_) | (repeat' (with_reducible first | refine thenP_n ?_ | refine blockP_n ?_)))
  all_goals (first | (refine Br.keep ?_) | (exact ⟨(j, _), ⟨rfl, rfl, rfl, trivial⟩, (by exact ⟨by simp; omega, by rw [drop_snoc hy]; exact hbl7, ho6.ext hx7 (fun q hq e => e.elim (fun e => by have := hfb q hq; omega) (fun e => by have := hfb q hq; have := hf6 q e; omega)), hx6.trans' hx7 (fun q hq e => e.elim (fun e => by omega) (fun e => by have := hf6 q e; omega)), hg6, fun q hq => (hk7 q hq).elim (hf6 q) (fun e => Nat.lt_of_lt_of_le (own_blt hbl) e)⟩), (by simp)⟩))
  all_goals (try (refine Br.mk (i := 1000) ?_))
  all_goals (repeat' (with_reducible first | refine thenP_n ?_ | refine blockP_n ?_))
  all_goals (refine WC.sub [(5, _)] ⟨rfl, trivial⟩ ?_)
  all_goals (refine WC.seq ?_)
  all_goals (refine WC.region ?_)
  all_goals (refine WL.call (vs := [_]) rfl (fun a w => Tryz.call72 a w) rfl (builderString hbl (by simp; omega)) rfl rfl rfl ?_
             rintro _ h8 ⟨rfl, hx8⟩)
  all_goals (refine WL.step (ok_assign rfl) rfl rfl rfl ?_)
  all_goals (refine WL.nil ?_)
  all_goals (repeat' (with_reducible first | refine thenP_n ?_ | refine blockP_n ?_))
  all_goals (refine WC.ret ?_)
  all_goals (repeat' (with_reducible first | refine thenP_r ?_ | refine blockP_r ?_))
  all_goals (refine retP_1 _ ⟨rfl, trivial⟩ ?_)
  all_goals (exact ⟨by rw [show k = 0 by omega, ed]; simp [dig], hx6.trans' hx8 (fun q hq e => by have := hf6 q e; omega)⟩)
theorem text_any {h : Heap} (n : Int) (h0 : -9223372036854775808 ≤ n) (h1 : n ≤ 9223372036854775807) :
    CallsH Tryz.prog 46 ⟨[In n]⟩ h fun u h' => u = St (deci n) ∧ Ext No h h' := by
  by_cases hp : 0 ≤ n
  · obtain ⟨m, rfl⟩ := Int.eq_ofNat_of_zero_le hp
    exact text_pos m (by omega)
  · obtain ⟨m, rfl⟩ : ∃ m : Nat, n = -(m : Int) := ⟨n.natAbs, by omega⟩
    exact text_neg m (by omega) (by omega)
end Go.Proofs.YtkpgnhhidnkmcaaGreatDoor

/-
  TELL (layer 9): what is said of names, and the document's words.
-/
namespace Go.Proofs.YtkpgnhhidnkmcaaGreatDoor
open Go Go.RK

def quoteL (n : List UInt8) : List UInt8 := [34] ++ n ++ [34]
def saysL (t n w : List UInt8) : List UInt8 := t ++ [32] ++ quoteL n ++ [32] ++ w
def missL (n : List UInt8) : List UInt8 := if n = [] then ([117, 110, 110, 97, 109, 101, 100, 32, 112, 114, 101, 112, 97, 114, 101, 100, 32, 115, 116, 97, 116, 101, 109, 101, 110, 116, 32, 100, 111, 101, 115, 32, 110, 111, 116, 32, 101, 120, 105, 115, 116] : List UInt8) else saysL ([112, 114, 101, 112, 97, 114, 101, 100, 32, 115, 116, 97, 116, 101, 109, 101, 110, 116] : List UInt8) n ([100, 111, 101, 115, 32, 110, 111, 116, 32, 101, 120, 105, 115, 116] : List UInt8)
def exisL (n : List UInt8) : List UInt8 := saysL ([112, 114, 101, 112, 97, 114, 101, 100, 32, 115, 116, 97, 116, 101, 109, 101, 110, 116] : List UInt8) n ([97, 108, 114, 101, 97, 100, 121, 32, 101, 120, 105, 115, 116, 115] : List UInt8)
def needL (n : List UInt8) : List UInt8 := ([44, 32, 98, 117, 116, 32, 112, 114, 101, 112, 97, 114, 101, 100, 32, 115, 116, 97, 116, 101, 109, 101, 110, 116, 32] : List UInt8) ++ quoteL n ++ ([32, 114, 101, 113, 117, 105, 114, 101, 115, 32] : List UInt8)
def arityL (p : Int) (n : List UInt8) (w : Int) : List UInt8 := ([98, 105, 110, 100, 32, 109, 101, 115, 115, 97, 103, 101, 32, 115, 117, 112, 112, 108, 105, 101, 115, 32] : List UInt8) ++ deci p ++ ([32, 112, 97, 114, 97, 109, 101, 116, 101, 114, 115] : List UInt8) ++ needL n ++ deci w
theorem quote_len (n : List UInt8) : (quoteL n).length = n.length + 2 := by simp [quoteL]
theorem need_len (n : List UInt8) : (needL n).length = n.length + 37 := by simp [needL, quote_len]

set_option maxRecDepth 100000 in
theorem quote_any {h : Heap} (n : List UInt8) (hn : n.length ≤ 1000000) : CallsH Tryz.prog 69 ⟨[St n]⟩ h fun u h' => u = St (quoteL n) ∧ h' = h := by
  refine calls [(0, _)] Tryz.func69 rfl Tryz.ntmps69 rfl ⟨rfl, trivial⟩ ?_
  all_goals (refine WC.seq ?_)
  all_goals (refine WC.region ?_)
  all_goals (refine WL.step (ok_assign rfl) rfl rfl rfl ?_)
  all_goals (refine WL.nil ?_)
  all_goals (repeat' (with_reducible first | refine thenP_n ?_ | refine blockP_n ?_))
  all_goals (refine WC.seq ?_)
  all_goals (refine WC.region ?_)
  all_goals (refine WL.step (ok_move rfl) rfl rfl rfl ?_)
  all_goals (refine WL.step (ok_catS rfl rfl (by first | (simp only [List.length_append, List.length_cons, List.length_nil]; omega) | (simp; omega))) rfl rfl rfl ?_)
  all_goals (refine WL.step (ok_catS rfl rfl (by first | (simp only [List.length_append, List.length_cons, List.length_nil]; omega) | (simp; omega))) rfl rfl rfl ?_)
  all_goals (refine WL.step (ok_assign rfl) rfl rfl rfl ?_)
  all_goals (refine WL.nil ?_)
  all_goals (repeat' (with_reducible first | refine thenP_n ?_ | refine blockP_n ?_))
  all_goals (refine WC.sub [(2, _)] ⟨rfl, trivial⟩ ?_)
  all_goals (refine WC.ret ?_)
  all_goals (repeat' (with_reducible first | refine thenP_r ?_ | refine blockP_r ?_))
  all_goals (refine retP_1 _ ⟨rfl, trivial⟩ ?_)
  all_goals (exact ⟨rfl, rfl⟩)
set_option maxRecDepth 100000 in
theorem quote_ref {h : Heap} (n : List UInt8) (hn : n.length ≤ 1000000) : CallsH Tryz.prog 61 ⟨[St n]⟩ h fun u h' => u = St (quoteL n) ∧ Ext No h h' := by
  refine calls [(0, _)] Tryz.func61 rfl Tryz.ntmps61 rfl ⟨rfl, trivial⟩ ?_
  all_goals (refine WC.seq ?_)
  all_goals (refine WC.region ?_)
  all_goals (refine WL.step (ok_assign rfl) rfl rfl rfl ?_)
  all_goals (refine WL.nil ?_)
  all_goals (repeat' (with_reducible first | refine thenP_n ?_ | refine blockP_n ?_))
  all_goals (refine WC.seq ?_)
  all_goals (refine WC.region ?_)
  all_goals (refine WL.stepR (okE_buildSlice (vs := [_]) (cs := [_]) (fun | [a0] => [a0] | _ => []) Tryz.underlying24 rfl rfl (by kernel_rfl)) rfl rfl rfl ?_
             rintro _ h1 ⟨b1, rfl, hg1, hb1, hx1⟩)
  all_goals (refine WL.step (ok_convBS Tryz.underlying24 Tryz.underlying5 Tryz.underlying9 rfl (show Rd h1 (.slice (some ⟨b1, 0, none⟩) 1 1) 1 ([34] : List UInt8).length (bys [34]) from rd_blk hb1 rfl)) rfl rfl rfl ?_)
  all_goals (refine WL.step (ok_move rfl) rfl rfl rfl ?_)
  all_goals (refine WL.step (ok_catS rfl rfl (by first | (simp only [List.length_append, List.length_cons, List.length_nil]; omega) | (simp; omega))) rfl rfl rfl ?_)
  all_goals (refine WL.stepR (okE_buildSlice (vs := [_]) (cs := [_]) (fun | [a0] => [a0] | _ => []) Tryz.underlying24 rfl rfl (by kernel_rfl)) rfl rfl rfl ?_
             rintro _ h2 ⟨b2, rfl, hg2, hb2, hx2⟩)
  all_goals (refine WL.step (ok_convBS Tryz.underlying24 Tryz.underlying5 Tryz.underlying9 rfl (show Rd h2 (.slice (some ⟨b2, 0, none⟩) 1 1) 1 ([34] : List UInt8).length (bys [34]) from rd_blk hb2 rfl)) rfl rfl rfl ?_)
  all_goals (refine WL.step (ok_catS rfl rfl (by first | (simp only [List.length_append, List.length_cons, List.length_nil]; omega) | (simp; omega))) rfl rfl rfl ?_)
  all_goals (refine WL.step (ok_assign rfl) rfl rfl rfl ?_)
  all_goals (refine WL.nil ?_)
  all_goals (repeat' (with_reducible first | refine thenP_n ?_ | refine blockP_n ?_))
  all_goals (refine WC.sub [(2, _)] ⟨rfl, trivial⟩ ?_)
  all_goals (refine WC.ret ?_)
  all_goals (repeat' (with_reducible first | refine thenP_r ?_ | refine blockP_r ?_))
  all_goals (refine retP_1 _ ⟨rfl, trivial⟩ ?_)
  all_goals (exact ⟨rfl, hx1.trans hx2⟩)
set_option maxRecDepth 100000 in
theorem says_any {h : Heap} (t n w : List UInt8) (ht : t.length ≤ 100) (hn : n.length ≤ 100000) (hw : w.length ≤ 100) : CallsH Tryz.prog 45 ⟨[St t, St n, St w]⟩ h fun u h' => u = St (saysL t n w) ∧ Ext No h h' := by
  have hq := quote_len n
  refine calls [(0, _), (1, _), (2, _)] Tryz.func45 rfl Tryz.ntmps45 rfl ⟨rfl, rfl, rfl, trivial⟩ ?_
  all_goals (refine WC.seq ?_)
  all_goals (refine WC.region ?_)
  all_goals (refine WL.step (ok_assign rfl) rfl rfl rfl ?_)
  all_goals (refine WL.nil ?_)
  all_goals (repeat' (with_reducible first | refine thenP_n ?_ | refine blockP_n ?_))
  all_goals (refine WC.seq ?_)
  all_goals (refine WC.region ?_)
  all_goals (refine WL.step (ok_move rfl) rfl rfl rfl ?_)
  all_goals (refine WL.step (ok_move rfl) rfl rfl rfl ?_)
  all_goals (refine WL.call (vs := [_]) rfl (fun a w => Tryz.call69 a w) rfl (quote_any n (by omega)) rfl rfl rfl ?_
             rintro _ hz ⟨rfl, _⟩
             subst hz)
  all_goals (refine WL.step (ok_move rfl) rfl rfl rfl ?_)
  all_goals (refine WL.stepR (okE_buildSlice (vs := [_, _, _]) (cs := [_, _, _]) (fun | [a0, a1, a2] => [a0, a1, a2] | _ => []) Tryz.underlying96 rfl rfl (by kernel_rfl)) rfl rfl rfl ?_
             rintro _ h1 ⟨b1, rfl, hg1, hb1, hx1⟩)
  all_goals (refine WL.call (vs := [_, _]) rfl (fun a w => Tryz.call68 a w) rfl (join3 t (quoteL n) w hb1 (by omega)) rfl rfl rfl ?_
             rintro _ h2 ⟨rfl, hx2⟩)
  all_goals (refine WL.step (ok_assign rfl) rfl rfl rfl ?_)
  all_goals (refine WL.nil ?_)
  all_goals (repeat' (with_reducible first | refine thenP_n ?_ | refine blockP_n ?_))
  all_goals (refine WC.sub [(6, _)] ⟨rfl, trivial⟩ ?_)
  all_goals (refine WC.ret ?_)
  all_goals (repeat' (with_reducible first | refine thenP_r ?_ | refine blockP_r ?_))
  all_goals (refine retP_1 _ ⟨rfl, trivial⟩ ?_)
  all_goals (exact ⟨rfl, hx1.trans hx2⟩)
set_option maxRecDepth 100000 in
theorem missing_any {h : Heap} (n : List UInt8) (hn : n.length ≤ 100000) : CallsH Tryz.prog 18 ⟨[St n]⟩ h fun u h' => u = St (missL n) ∧ Ext No h h' := by
  by_cases h0 : n = []
  · subst h0
    refine calls [(0, _)] Tryz.func18 rfl Tryz.ntmps18 rfl ⟨rfl, trivial⟩ ?_
    all_goals (refine WC.seq ?_)
    all_goals (refine WC.region ?_)
    all_goals (refine WL.step (ok_assign rfl) rfl rfl rfl ?_)
    all_goals (refine WL.nil ?_)
    all_goals (repeat' (with_reducible first | refine thenP_n ?_ | refine blockP_n ?_))
    all_goals (refine WC.seq ?_)
    all_goals (refine WC.seq ?_)
    all_goals (refine WC.region ?_)
    all_goals (refine WL.step (ok_move rfl) rfl rfl rfl ?_)
    all_goals (first | (refine WL.step (OkP.bool_t (by first | rfl | assumption | decide) (ok_eqlS rfl rfl)) rfl rfl rfl ?_) | (refine WL.step (OkP.bool_f (by first | assumption | decide) (ok_eqlS rfl rfl)) rfl rfl rfl ?_) | (refine WL.step (ok_eqlS rfl rfl) rfl rfl rfl ?_))
    all_goals (refine WL.nil ?_)
    all_goals (repeat' (with_reducible first | refine thenP_n ?_ | refine blockP_n ?_))
    all_goals (first | refine WC.condB_t 1 rfl ?_ | refine WC.condB_f 2 rfl ?_ | (refine WC.condB 1 2 rfl (fun hb => ?_) (fun hb => ?_) <;> (first | replace hb := of_decide_eq_true hb | replace hb := of_decide_eq_false hb | replace hb := of_decide_eq_false (nt hb) | replace hb := of_decide_eq_true (nf hb) | skip)))
    all_goals (first
      | (fail_if_success (refine Br.mk (i := 1) ?_))
      | (refine Br.mk (i := 1) ?_
         all_goals (refine WC.seq ?_)
         all_goals (refine WC.region ?_)
         all_goals (refine WL.step (ok_assign rfl) rfl rfl rfl ?_)
         all_goals (refine WL.nil ?_)
         all_goals (repeat' (with_reducible first | refine thenP_n ?_ | refine blockP_n ?_))
         all_goals (refine WC.ret ?_)
         all_goals (repeat' (with_reducible first | refine thenP_r ?_ | refine blockP_r ?_))
         all_goals (refine retP_1 _ ⟨rfl, trivial⟩ ?_)
         all_goals (exact ⟨rfl, .refl _ _⟩)
         skip))
    all_goals (first
      | (fail_if_success (refine Br.mk (i := 2) ?_))
      | (refine Br.mk (i := 2) ?_
         all_goals (refine WC.skip ?_)
         skip))
    all_goals (repeat' (with_reducible first | refine thenP_n ?_ | refine blockP_n ?_))
    all_goals (refine WC.seq ?_)
    all_goals (refine WC.region ?_)
    all_goals (refine WL.step (ok_move rfl) rfl rfl rfl ?_)
    all_goals (fail "no contract for call of remuda/tell.says at 3.1")
    all_goals (refine WL.step (ok_assign rfl) rfl rfl rfl ?_)
    all_goals (refine WL.nil ?_)
    all_goals (repeat' (with_reducible first | refine thenP_n ?_ | refine blockP_n ?_))
    all_goals (refine WC.sub [(2, _)] ⟨rfl, trivial⟩ ?_)
    all_goals (refine WC.ret ?_)
    all_goals (repeat' (with_reducible first | refine thenP_r ?_ | refine blockP_r ?_))
    all_goals (refine retP_1 _ ⟨rfl, trivial⟩ ?_)
    all_goals (exact ⟨rfl, .refl _ _⟩)
  · rw [missL, if_neg h0]
    refine calls [(0, _)] Tryz.func18 rfl Tryz.ntmps18 rfl ⟨rfl, trivial⟩ ?_
    all_goals (refine WC.seq ?_)
    all_goals (refine WC.region ?_)
    all_goals (refine WL.step (ok_assign rfl) rfl rfl rfl ?_)
    all_goals (refine WL.nil ?_)
    all_goals (repeat' (with_reducible first | refine thenP_n ?_ | refine blockP_n ?_))
    all_goals (refine WC.seq ?_)
    all_goals (refine WC.seq ?_)
    all_goals (refine WC.region ?_)
    all_goals (refine WL.step (ok_move rfl) rfl rfl rfl ?_)
    all_goals (first | (refine WL.step (OkP.bool_t (by first | rfl | assumption | decide) (ok_eqlS rfl rfl)) rfl rfl rfl ?_) | (refine WL.step (OkP.bool_f (by first | assumption | decide) (ok_eqlS rfl rfl)) rfl rfl rfl ?_) | (refine WL.step (ok_eqlS rfl rfl) rfl rfl rfl ?_))
    all_goals (refine WL.nil ?_)
    all_goals (repeat' (with_reducible first | refine thenP_n ?_ | refine blockP_n ?_))
    all_goals (first | refine WC.condB_t 1 rfl ?_ | refine WC.condB_f 2 rfl ?_ | (refine WC.condB 1 2 rfl (fun hb => ?_) (fun hb => ?_) <;> (first | replace hb := of_decide_eq_true hb | replace hb := of_decide_eq_false hb | replace hb := of_decide_eq_false (nt hb) | replace hb := of_decide_eq_true (nf hb) | skip)))
    all_goals (first
      | (fail_if_success (refine Br.mk (i := 1) ?_))
      | (refine Br.mk (i := 1) ?_
         all_goals (refine WC.seq ?_)
         all_goals (refine WC.region ?_)
         all_goals (refine WL.step (ok_assign rfl) rfl rfl rfl ?_)
         all_goals (refine WL.nil ?_)
         all_goals (repeat' (with_reducible first | refine thenP_n ?_ | refine blockP_n ?_))
         all_goals (refine WC.ret ?_)
         all_goals (repeat' (with_reducible first | refine thenP_r ?_ | refine blockP_r ?_))
         all_goals (refine retP_1 _ ⟨rfl, trivial⟩ ?_)
         all_goals (exact ⟨rfl, hx2⟩)
         skip))
    all_goals (first
      | (fail_if_success (refine Br.mk (i := 2) ?_))
      | (refine Br.mk (i := 2) ?_
         all_goals (refine WC.skip ?_)
         skip))
    all_goals (repeat' (with_reducible first | refine thenP_n ?_ | refine blockP_n ?_))
    all_goals (refine WC.seq ?_)
    all_goals (refine WC.region ?_)
    all_goals (refine WL.step (ok_move rfl) rfl rfl rfl ?_)
    all_goals (refine WL.call (vs := [_, _, _]) rfl (fun a w => Tryz.call45 a w) rfl (says_any ([112, 114, 101, 112, 97, 114, 101, 100, 32, 115, 116, 97, 116, 101, 109, 101, 110, 116] : List UInt8) n ([100, 111, 101, 115, 32, 110, 111, 116, 32, 101, 120, 105, 115, 116] : List UInt8) (by simp) hn (by simp)) rfl rfl rfl ?_
               rintro _ h2 ⟨rfl, hx2⟩)
    all_goals (refine WL.step (ok_assign rfl) rfl rfl rfl ?_)
    all_goals (refine WL.nil ?_)
    all_goals (repeat' (with_reducible first | refine thenP_n ?_ | refine blockP_n ?_))
    all_goals (refine WC.sub [(2, _)] ⟨rfl, trivial⟩ ?_)
    all_goals (refine WC.ret ?_)
    all_goals (repeat' (with_reducible first | refine thenP_r ?_ | refine blockP_r ?_))
    all_goals (refine retP_1 _ ⟨rfl, trivial⟩ ?_)
    all_goals (exact ⟨rfl, hx2⟩)
set_option maxRecDepth 100000 in
theorem exists_any {h : Heap} (n : List UInt8) (hn : n.length ≤ 100000) : CallsH Tryz.prog 19 ⟨[St n]⟩ h fun u h' => u = St (exisL n) ∧ Ext No h h' := by
  refine calls [(0, _)] Tryz.func19 rfl Tryz.ntmps19 rfl ⟨rfl, trivial⟩ ?_
  all_goals (refine WC.seq ?_)
  all_goals (refine WC.region ?_)
  all_goals (refine WL.step (ok_assign rfl) rfl rfl rfl ?_)
  all_goals (refine WL.nil ?_)
  all_goals (repeat' (with_reducible first | refine thenP_n ?_ | refine blockP_n ?_))
  all_goals (refine WC.seq ?_)
  all_goals (refine WC.region ?_)
  all_goals (refine WL.step (ok_move rfl) rfl rfl rfl ?_)
  all_goals (refine WL.call (vs := [_, _, _]) rfl (fun a w => Tryz.call45 a w) rfl (says_any ([112, 114, 101, 112, 97, 114, 101, 100, 32, 115, 116, 97, 116, 101, 109, 101, 110, 116] : List UInt8) n ([97, 108, 114, 101, 97, 100, 121, 32, 101, 120, 105, 115, 116, 115] : List UInt8) (by simp) hn (by simp)) rfl rfl rfl ?_
             rintro _ h2 ⟨rfl, hx2⟩)
  all_goals (refine WL.step (ok_assign rfl) rfl rfl rfl ?_)
  all_goals (refine WL.nil ?_)
  all_goals (repeat' (with_reducible first | refine thenP_n ?_ | refine blockP_n ?_))
  all_goals (refine WC.ret ?_)
  all_goals (repeat' (with_reducible first | refine thenP_r ?_ | refine blockP_r ?_))
  all_goals (refine retP_1 _ ⟨rfl, trivial⟩ ?_)
  all_goals (exact ⟨rfl, hx2⟩)
set_option maxRecDepth 100000 in
theorem needs_any {h : Heap} (n : List UInt8) (hn : n.length ≤ 100000) : CallsH Tryz.prog 47 ⟨[St n]⟩ h fun u h' => u = St (needL n) ∧ h' = h := by
  have hq := quote_len n
  refine calls [(0, _)] Tryz.func47 rfl Tryz.ntmps47 rfl ⟨rfl, trivial⟩ ?_
  all_goals (refine WC.seq ?_)
  all_goals (refine WC.region ?_)
  all_goals (refine WL.step (ok_assign rfl) rfl rfl rfl ?_)
  all_goals (refine WL.nil ?_)
  all_goals (repeat' (with_reducible first | refine thenP_n ?_ | refine blockP_n ?_))
  all_goals (refine WC.seq ?_)
  all_goals (refine WC.region ?_)
  all_goals (refine WL.step (ok_move rfl) rfl rfl rfl ?_)
  all_goals (refine WL.call (vs := [_]) rfl (fun a w => Tryz.call69 a w) rfl (quote_any n (by omega)) rfl rfl rfl ?_
             rintro _ hz ⟨rfl, _⟩
             subst hz)
  all_goals (refine WL.step (ok_catS rfl rfl (by first | (simp only [List.length_append, List.length_cons, List.length_nil]; omega) | (simp; omega))) rfl rfl rfl ?_)
  all_goals (refine WL.step (ok_catS rfl rfl (by first | (simp only [List.length_append, List.length_cons, List.length_nil]; omega) | (simp; omega))) rfl rfl rfl ?_)
  all_goals (refine WL.step (ok_assign rfl) rfl rfl rfl ?_)
  all_goals (refine WL.nil ?_)
  all_goals (repeat' (with_reducible first | refine thenP_n ?_ | refine blockP_n ?_))
  all_goals (refine WC.sub [(2, _)] ⟨rfl, trivial⟩ ?_)
  all_goals (refine WC.ret ?_)
  all_goals (repeat' (with_reducible first | refine thenP_r ?_ | refine blockP_r ?_))
  all_goals (refine retP_1 _ ⟨rfl, trivial⟩ ?_)
  all_goals (exact ⟨rfl, rfl⟩)
set_option maxRecDepth 100000 in
theorem arity_any {h : Heap} (p : Int) (n : List UInt8) (w : Int) (hn : n.length ≤ 100000) (hp : -9223372036854775808 ≤ p ∧ p ≤ 9223372036854775807) (hw : -9223372036854775808 ≤ w ∧ w ≤ 9223372036854775807) :
    CallsH Tryz.prog 20 ⟨[In p, St n, In w]⟩ h fun u h' => u = St (arityL p n w) ∧ Ext No h h' := by
  have hq := need_len n
  have hlp := deci_len p (by omega)
  have hlw := deci_len w (by omega)
  refine calls [(0, _), (1, _), (2, _)] Tryz.func20 rfl Tryz.ntmps20 rfl ⟨rfl, rfl, rfl, trivial⟩ ?_
  all_goals (refine WC.seq ?_)
  all_goals (refine WC.region ?_)
  all_goals (refine WL.step (ok_assign rfl) rfl rfl rfl ?_)
  all_goals (refine WL.nil ?_)
  all_goals (repeat' (with_reducible first | refine thenP_n ?_ | refine blockP_n ?_))
  all_goals (refine WC.seq ?_)
  all_goals (refine WC.region ?_)
  all_goals (refine WL.step (ok_move rfl) rfl rfl rfl ?_)
  all_goals (refine WL.call (vs := [_]) rfl (fun a w => Tryz.call46 a w) rfl (text_any p hp.1 hp.2) rfl rfl rfl ?_
             rintro _ h1 ⟨rfl, hx1⟩)
  all_goals (refine WL.step (ok_catS rfl rfl (by first | (simp only [List.length_append, List.length_cons, List.length_nil]; omega) | (simp; omega))) rfl rfl rfl ?_)
  all_goals (refine WL.step (ok_catS rfl rfl (by first | (simp only [List.length_append, List.length_cons, List.length_nil]; omega) | (simp; omega))) rfl rfl rfl ?_)
  all_goals (refine WL.step (ok_move rfl) rfl rfl rfl ?_)
  all_goals (refine WL.call (vs := [_]) rfl (fun a w => Tryz.call47 a w) rfl (needs_any n hn) rfl rfl rfl ?_
             rintro _ hz ⟨rfl, _⟩
             subst hz)
  all_goals (refine WL.step (ok_catS rfl rfl (by first | (simp only [List.length_append, List.length_cons, List.length_nil]; omega) | (simp; omega))) rfl rfl rfl ?_)
  all_goals (refine WL.step (ok_move rfl) rfl rfl rfl ?_)
  all_goals (refine WL.call (vs := [_]) rfl (fun a w => Tryz.call46 a w) rfl (text_any w hw.1 hw.2) rfl rfl rfl ?_
             rintro _ h2 ⟨rfl, hx2⟩)
  all_goals (refine WL.step (ok_catS rfl rfl (by first | (simp only [List.length_append, List.length_cons, List.length_nil]; omega) | (simp; omega))) rfl rfl rfl ?_)
  all_goals (refine WL.step (ok_assign rfl) rfl rfl rfl ?_)
  all_goals (refine WL.nil ?_)
  all_goals (repeat' (with_reducible first | refine thenP_n ?_ | refine blockP_n ?_))
  all_goals (refine WC.sub [(6, _)] ⟨rfl, trivial⟩ ?_)
  all_goals (refine WC.ret ?_)
  all_goals (repeat' (with_reducible first | refine thenP_r ?_ | refine blockP_r ?_))
  all_goals (refine retP_1 _ ⟨rfl, trivial⟩ ?_)
  all_goals (exact ⟨rfl, hx1.trans hx2⟩)

set_option maxRecDepth 100000 in
/-! ### the document's -/
theorem missing_ref {h : Heap} (n : List UInt8) (hn : n.length ≤ 100000) : CallsH Tryz.prog 59 ⟨[St n]⟩ h fun u h' => u = St (missL n) ∧ Ext No h h' := by
  have hq := quote_len n
  by_cases h0 : n = []
  · subst h0
    refine calls [(0, _)] Tryz.func59 rfl Tryz.ntmps59 rfl ⟨rfl, trivial⟩ ?_
    all_goals (refine WC.seq ?_)
    all_goals (refine WC.region ?_)
    all_goals (refine WL.step (ok_assign rfl) rfl rfl rfl ?_)
    all_goals (refine WL.nil ?_)
    all_goals (repeat' (with_reducible first | refine thenP_n ?_ | refine blockP_n ?_))
    all_goals (refine WC.seq ?_)
    all_goals (refine WC.seq ?_)
    all_goals (refine WC.region ?_)
    all_goals (refine WL.step (ok_move rfl) rfl rfl rfl ?_)
    all_goals (first | (refine WL.step (OkP.bool_t (by first | rfl | assumption | decide) (ok_eqlS rfl rfl)) rfl rfl rfl ?_) | (refine WL.step (OkP.bool_f (by first | assumption | decide) (ok_eqlS rfl rfl)) rfl rfl rfl ?_) | (refine WL.step (ok_eqlS rfl rfl) rfl rfl rfl ?_))
    all_goals (refine WL.nil ?_)
    all_goals (repeat' (with_reducible first | refine thenP_n ?_ | refine blockP_n ?_))
    all_goals (first | refine WC.condB_t 1 rfl ?_ | refine WC.condB_f 2 rfl ?_ | (refine WC.condB 1 2 rfl (fun hb => ?_) (fun hb => ?_) <;> (first | replace hb := of_decide_eq_true hb | replace hb := of_decide_eq_false hb | replace hb := of_decide_eq_false (nt hb) | replace hb := of_decide_eq_true (nf hb) | skip)))
    all_goals (first
      | (fail_if_success (refine Br.mk (i := 1) ?_))
      | (refine Br.mk (i := 1) ?_
         all_goals (refine WC.seq ?_)
         all_goals (refine WC.region ?_)
         all_goals (refine WL.step (ok_assign rfl) rfl rfl rfl ?_)
         all_goals (refine WL.nil ?_)
         all_goals (repeat' (with_reducible first | refine thenP_n ?_ | refine blockP_n ?_))
         all_goals (refine WC.ret ?_)
         all_goals (repeat' (with_reducible first | refine thenP_r ?_ | refine blockP_r ?_))
         all_goals (refine retP_1 _ ⟨rfl, trivial⟩ ?_)
         all_goals (exact ⟨rfl, .refl _ _⟩)
         skip))
    all_goals (first
      | (fail_if_success (refine Br.mk (i := 2) ?_))
      | (refine Br.mk (i := 2) ?_
         all_goals (refine WC.skip ?_)
         skip))
    all_goals (repeat' (with_reducible first | refine thenP_n ?_ | refine blockP_n ?_))
    all_goals (refine WC.seq ?_)
    all_goals (refine WC.region ?_)
    all_goals (refine WL.step (ok_move rfl) rfl rfl rfl ?_)
    all_goals (fail "no contract for call of remuda/remudaref02.Quote at 3.1")
    all_goals (refine WL.step (ok_catS rfl rfl (by first | (simp only [List.length_append, List.length_cons, List.length_nil]; omega) | (simp; omega))) rfl rfl rfl ?_)
    all_goals (refine WL.step (ok_catS rfl rfl (by first | (simp only [List.length_append, List.length_cons, List.length_nil]; omega) | (simp; omega))) rfl rfl rfl ?_)
    all_goals (refine WL.step (ok_assign rfl) rfl rfl rfl ?_)
    all_goals (refine WL.nil ?_)
    all_goals (repeat' (with_reducible first | refine thenP_n ?_ | refine blockP_n ?_))
    all_goals (refine WC.sub [(2, _)] ⟨rfl, trivial⟩ ?_)
    all_goals (refine WC.ret ?_)
    all_goals (repeat' (with_reducible first | refine thenP_r ?_ | refine blockP_r ?_))
    all_goals (refine retP_1 _ ⟨rfl, trivial⟩ ?_)
    all_goals (exact ⟨rfl, .refl _ _⟩)
  · rw [missL, if_neg h0]
    refine calls [(0, _)] Tryz.func59 rfl Tryz.ntmps59 rfl ⟨rfl, trivial⟩ ?_
    all_goals (refine WC.seq ?_)
    all_goals (refine WC.region ?_)
    all_goals (refine WL.step (ok_assign rfl) rfl rfl rfl ?_)
    all_goals (refine WL.nil ?_)
    all_goals (repeat' (with_reducible first | refine thenP_n ?_ | refine blockP_n ?_))
    all_goals (refine WC.seq ?_)
    all_goals (refine WC.seq ?_)
    all_goals (refine WC.region ?_)
    all_goals (refine WL.step (ok_move rfl) rfl rfl rfl ?_)
    all_goals (first | (refine WL.step (OkP.bool_t (by first | rfl | assumption | decide) (ok_eqlS rfl rfl)) rfl rfl rfl ?_) | (refine WL.step (OkP.bool_f (by first | assumption | decide) (ok_eqlS rfl rfl)) rfl rfl rfl ?_) | (refine WL.step (ok_eqlS rfl rfl) rfl rfl rfl ?_))
    all_goals (refine WL.nil ?_)
    all_goals (repeat' (with_reducible first | refine thenP_n ?_ | refine blockP_n ?_))
    all_goals (first | refine WC.condB_t 1 rfl ?_ | refine WC.condB_f 2 rfl ?_ | (refine WC.condB 1 2 rfl (fun hb => ?_) (fun hb => ?_) <;> (first | replace hb := of_decide_eq_true hb | replace hb := of_decide_eq_false hb | replace hb := of_decide_eq_false (nt hb) | replace hb := of_decide_eq_true (nf hb) | skip)))
    all_goals (first
      | (fail_if_success (refine Br.mk (i := 1) ?_))
      | (refine Br.mk (i := 1) ?_
         all_goals (refine WC.seq ?_)
         all_goals (refine WC.region ?_)
         all_goals (refine WL.step (ok_assign rfl) rfl rfl rfl ?_)
         all_goals (refine WL.nil ?_)
         all_goals (repeat' (with_reducible first | refine thenP_n ?_ | refine blockP_n ?_))
         all_goals (refine WC.ret ?_)
         all_goals (repeat' (with_reducible first | refine thenP_r ?_ | refine blockP_r ?_))
         all_goals (refine retP_1 _ ⟨rfl, trivial⟩ ?_)
         all_goals (exact ⟨by simp [saysL], hx2⟩)
         skip))
    all_goals (first
      | (fail_if_success (refine Br.mk (i := 2) ?_))
      | (refine Br.mk (i := 2) ?_
         all_goals (refine WC.skip ?_)
         skip))
    all_goals (repeat' (with_reducible first | refine thenP_n ?_ | refine blockP_n ?_))
    all_goals (refine WC.seq ?_)
    all_goals (refine WC.region ?_)
    all_goals (refine WL.step (ok_move rfl) rfl rfl rfl ?_)
    all_goals (refine WL.call (vs := [_]) rfl (fun a w => Tryz.call61 a w) rfl (quote_ref n (by omega)) rfl rfl rfl ?_
               rintro _ h2 ⟨rfl, hx2⟩)
    all_goals (refine WL.step (ok_catS rfl rfl (by first | (simp only [List.length_append, List.length_cons, List.length_nil]; omega) | (simp; omega))) rfl rfl rfl ?_)
    all_goals (refine WL.step (ok_catS rfl rfl (by first | (simp only [List.length_append, List.length_cons, List.length_nil]; omega) | (simp; omega))) rfl rfl rfl ?_)
    all_goals (refine WL.step (ok_assign rfl) rfl rfl rfl ?_)
    all_goals (refine WL.nil ?_)
    all_goals (repeat' (with_reducible first | refine thenP_n ?_ | refine blockP_n ?_))
    all_goals (refine WC.sub [(2, _)] ⟨rfl, trivial⟩ ?_)
    all_goals (refine WC.ret ?_)
    all_goals (repeat' (with_reducible first | refine thenP_r ?_ | refine blockP_r ?_))
    all_goals (refine retP_1 _ ⟨rfl, trivial⟩ ?_)
    all_goals (exact ⟨by simp [saysL], hx2⟩)
set_option maxRecDepth 100000 in
theorem exists_ref {h : Heap} (n : List UInt8) (hn : n.length ≤ 100000) : CallsH Tryz.prog 60 ⟨[St n]⟩ h fun u h' => u = St (exisL n) ∧ Ext No h h' := by
  have hq := quote_len n
  refine calls [(0, _)] Tryz.func60 rfl Tryz.ntmps60 rfl ⟨rfl, trivial⟩ ?_
  all_goals (refine WC.seq ?_)
  all_goals (refine WC.region ?_)
  all_goals (refine WL.step (ok_assign rfl) rfl rfl rfl ?_)
  all_goals (refine WL.nil ?_)
  all_goals (repeat' (with_reducible first | refine thenP_n ?_ | refine blockP_n ?_))
  all_goals (refine WC.seq ?_)
  all_goals (refine WC.region ?_)
  all_goals (refine WL.step (ok_move rfl) rfl rfl rfl ?_)
  all_goals (refine WL.call (vs := [_]) rfl (fun a w => Tryz.call61 a w) rfl (quote_ref n (by omega)) rfl rfl rfl ?_
             rintro _ h2 ⟨rfl, hx2⟩)
  all_goals (refine WL.step (ok_catS rfl rfl (by first | (simp only [List.length_append, List.length_cons, List.length_nil]; omega) | (simp; omega))) rfl rfl rfl ?_)
  all_goals (refine WL.step (ok_catS rfl rfl (by first | (simp only [List.length_append, List.length_cons, List.length_nil]; omega) | (simp; omega))) rfl rfl rfl ?_)
  all_goals (refine WL.step (ok_assign rfl) rfl rfl rfl ?_)
  all_goals (refine WL.nil ?_)
  all_goals (repeat' (with_reducible first | refine thenP_n ?_ | refine blockP_n ?_))
  all_goals (refine WC.sub [(2, _)] ⟨rfl, trivial⟩ ?_)
  all_goals (refine WC.ret ?_)
  all_goals (repeat' (with_reducible first | refine thenP_r ?_ | refine blockP_r ?_))
  all_goals (refine retP_1 _ ⟨rfl, trivial⟩ ?_)
  all_goals (exact ⟨by simp [exisL, saysL], hx2⟩)
end Go.Proofs.YtkpgnhhidnkmcaaGreatDoor

/-
  A ROW THAT LISTS VARIABLES, THE WORLD's SHAPE KEPT: what the lift of such a row asks. No program is named here.
-/
namespace Go.RK
open Go
variable {H : Type} {enc : TypeId × Value → H}

theorem returnsInHanded_both {a : Assume} {C : Checked} {os : Os} {f : FuncId} {fn : Func} {s : ChangeSpec} {conds : List PathCond} {apart fresh handsOn again : Bool} {X : World → Array Value → Prop}
    (own : ownKnob C.prog.godebug = none) (started : os.Started) (noInit : C.prog.inits.idxOf? f = none) (hfn : C.prog.funcs[f]? = some fn)
    (witness : ∃ (w : World) (tape : Tape) (i : Input), w.os = os ∧ (w.forCall tape i).Shaped C.prog ∧ i.vars = [] ∧ Input.okWide C.prog (w.forCall tape i) .any w.heap.size f i ∧
      ((s.pre enc C.prog fn conds apart (w.forCall tape i).memory i.args ∧ X (w.forCall tape i).memory i.args) ∧ sizedMet enc C.prog fn (OpenSpec.ofChange s) apart (w.forCall tape i).memory i.args) ∧ a.holds C.prog (lone (Frame.enter C.prog f i.args .normal) [] (w.forCall tape i)))
    (contract : ∀ (W : World) (base : Nat) (args : Array Value) (ds gs : List (DataW H)) (before : List MemPlace),
      (∀ (j : Nat) t v, fn.params[j]? = some t → args[j]? = some v → Value.okWide C.prog W .any base t v) →
      DataW.Whole enc C.prog fn.params.toList s.vars apart W args.toList ds gs before →
      conds.all (PathCond.test C.prog ⟨fn.params.toList, ds, s.plain.varTypes C.prog, gs⟩) = true →
      (DataW.weightsEach C.prog (fn.params.toList ++ s.plain.varTypes C.prog) (ds ++ gs)).all (· ≤ reachBytes) = true →
      W.ShapedOpen C.prog →
      Calls C.prog f args W fun e W' => ∃ v, e = .returned v ∧ s.post enc C.prog fn apart fresh handsOn again W args v W') :
    ReturnsInHanded a C os f .any (fun w args => (s.pre enc C.prog fn conds apart w args ∧ X w args) ∧ sizedMet enc C.prog fn (OpenSpec.ofChange s) apart w args) (s.post enc C.prog fn apart fresh handsOn again) := by
  refine returnsInHanded_of_calls own started noInit witness ?_
  intro w tape i _ hsh _ hok hpre _
  obtain ⟨_, _, _, fn', hfn', _, _, _, _, hval⟩ := hok
  have e : fn' = fn := Option.some.inj (hfn'.symm.trans hfn)
  subst e
  obtain ⟨⟨⟨ds, gs, before, hw, hc⟩, _⟩, hz⟩ := hpre
  have hw' := DataW.Whole.of_heap (w' := w.forCall tape i) (by rfl) hw
  refine (contract (w.forCall tape i) w.heap.size i.args ds gs before hval hw' hc (hz.weights hw) hsh).mono fun e W' ⟨v, he, hp⟩ => ?_
  subst he
  exact ChangeSpec.post_blind hp

/-! ### a scope through which no goto goes -/
def scopeP (Q : Post) : Post
  | .goto _, _, _ => False
  | e, f, h => Q e f h
section
variable {P : Program} {n : Env} {Q : Post} {f : Fr} {h : Heap}
theorem WC.scope {c : Code} (hc : WC P n c (scopeP Q) f h) (hro : n.ro = Option.none := by rfl) : WC P n (.scope c) Q f h := fun a w ha hw => by
  obtain ⟨m, ds, ro⟩ := n
  obtain rfl : ro = Option.none := hro
  exact wpIn_wide.2 (wp_scope_straight (Go.wp_mono (wpIn_wide.1 (hc a w ha hw)) fun e _ _ ⟨hl, hs, g, hg, q⟩ => by
    cases e <;> first | exact ⟨hl, hs, g, hg, q⟩ | exact q.elim))
theorem scopeP_n (hq : Q .normal f h) : scopeP Q .normal f h := hq
theorem scopeP_x {i : Nat} (hq : Q (.exit i) f h) : scopeP Q (.exit i) f h := hq
theorem scopeP_r (hq : Q .ret f h) : scopeP Q .ret f h := hq
end
end Go.RK
