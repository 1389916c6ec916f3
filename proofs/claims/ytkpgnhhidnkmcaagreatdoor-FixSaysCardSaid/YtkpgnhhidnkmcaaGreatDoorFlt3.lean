/-
  FIX (layer 25): a fault as clients get it.
-/
import Derived.Test.YtkpgnhhidnkmcaaGreatDoorFlt2
namespace Go.Proofs.YtkpgnhhidnkmcaaGreatDoor
open Go Go.RK

set_option maxHeartbeats 1000000 in
set_option maxRecDepth 100000 in
theorem copied_e {h : Heap} {v : Value} (F : List FieldD) (hr : Rd h v 2 F.length (F.flatMap FieldD.cells)) (hm : F.length ≤ 1000000) : CallsH Tryz.prog 34 ⟨[.agg ⟨eB v⟩]⟩ h fun u h' => ∃ v', u = .agg ⟨eB v'⟩ ∧ Own h' v' 60 2 F.length (F.flatMap FieldD.cells) ∧ Ext No h h' := by
  obtain ⟨A, c, rfl, _⟩ := id hr
  unfold eB
  refine calls [(0, _)] Tryz.func34 rfl Tryz.ntmps34 rfl ⟨rfl, trivial⟩ ?_
  all_goals (refine WC.seq ?_)
  all_goals (refine WC.region ?_)
  all_goals (refine WL.stepR (okE_box rfl) rfl rfl rfl ?_
             rintro _ h1 ⟨b1, rfl, hg1, hb1, hx1⟩)
  all_goals (refine WL.stepR (okE_alloc (fun w => Tryz.zeroValue32 w)) rfl rfl rfl ?_
             rintro _ h2 ⟨b2, rfl, hg2, hb2, hx2⟩)
  all_goals (have hb12 := hx2.obj hb1 nos
             have hX2 := hx1.trans hx2
             have l1 := lt_of_some hb1)
  all_goals (refine WL.nil ?_)
  all_goals (repeat' (with_reducible first | refine thenP_n ?_ | refine blockP_n ?_))
  all_goals (refine WC.seq ?_)
  all_goals (refine WC.drawH (fun h' => Ext No h2 h') 12 20 rfl fol ?_)
  all_goals (refine WH.take 0 rfl (by kernel_rfl) (by kernel_rfl) (by kernel_rfl) (by kernel_rfl) rfl (by first | exact Ext.refl _ _ | assumption) (fun hq hC => ok_fieldAddr rfl Tryz.underlying32 rfl (fun w => Tryz.sizeOf27 w)) rfl rfl rfl ?_)
  all_goals (refine WH.take 1 rfl (by kernel_rfl) (by kernel_rfl) (by kernel_rfl) (by kernel_rfl) rfl (by first | exact Ext.refl _ _ | assumption) (fun hq hC => ok_load (fun w => Tryz.isAgg27 w) rfl (by first | exact hC.cell (by first | exact cell_blk hb12 rfl | assumption | exact cell_blk (by assumption) rfl) nos)) rfl rfl rfl ?_)
  all_goals (refine WH.take 3 rfl (by kernel_rfl) (by kernel_rfl) (by kernel_rfl) (by kernel_rfl) rfl (by first | exact Ext.refl _ _ | assumption) (fun hq hC => ok_fieldAddr rfl Tryz.underlying32 rfl (fun w => Tryz.sizeOf28 w)) rfl rfl rfl ?_)
  all_goals (refine WH.take 4 rfl (by kernel_rfl) (by kernel_rfl) (by kernel_rfl) (by kernel_rfl) rfl (by first | exact Ext.refl _ _ | assumption) (fun hq hC => ok_load (fun w => Tryz.isAgg28 w) rfl (by first | exact hC.cell (by first | exact cell_blk hb12 rfl | assumption | exact cell_blk (by assumption) rfl) nos)) rfl rfl rfl ?_)
  all_goals (refine WH.take 6 rfl (by kernel_rfl) (by kernel_rfl) (by kernel_rfl) (by kernel_rfl) rfl (by first | exact Ext.refl _ _ | assumption) (fun hq hC => ok_fieldAddr rfl Tryz.underlying32 rfl (fun w => Tryz.sizeOf30 w)) rfl rfl rfl ?_)
  all_goals (refine WH.take 7 rfl (by kernel_rfl) (by kernel_rfl) (by kernel_rfl) (by kernel_rfl) rfl (by first | exact Ext.refl _ _ | assumption) (fun hq hC => ok_load (fun w => Tryz.isAgg30 w) rfl (by first | exact hC.cell (by first | exact cell_blk hb12 rfl | assumption | exact cell_blk (by assumption) rfl) nos)) rfl rfl rfl ?_)
  all_goals (refine WH.take 9 rfl (by kernel_rfl) (by kernel_rfl) (by kernel_rfl) (by kernel_rfl) rfl (by first | exact Ext.refl _ _ | assumption) (fun hq hC => ok_fieldAddr rfl Tryz.underlying32 rfl (fun w => Tryz.sizeOf29 w)) rfl rfl rfl ?_)
  all_goals (refine WH.take 10 rfl (by kernel_rfl) (by kernel_rfl) (by kernel_rfl) (by kernel_rfl) rfl (by first | exact Ext.refl _ _ | assumption) (fun hq hC => ok_load (fun w => Tryz.isAgg29 w) rfl (by first | exact hC.cell (by first | exact cell_blk hb12 rfl | assumption | exact cell_blk (by assumption) rfl) nos)) rfl rfl rfl ?_)
  all_goals (refine WH.one 2 (by kernel_rfl) ?_)
  all_goals (refine Comes1.call (vs := [_]) rfl rfl (fun a w => Tryz.call52 a w) rfl (cln_int) rfl rfl rfl ?_ (fun _ => by kernel_rfl)
             rintro _ hz ⟨rfl, _⟩
             subst hz)
  all_goals (refine ⟨fun _ => .refl _ _, ?_⟩)
  all_goals (refine WH.two 5 12 (by kernel_rfl) (Br.out (i := 5009) ?_) (Br.out (i := 5010) ?_))
  all_goals (first
    | (fail_if_success (refine Br.mk (i := 5009) ?_))
    | (refine Br.mk (i := 5009) ?_
       all_goals (refine Comes1.call (vs := [_]) rfl rfl (fun a w => Tryz.call53 a w) rfl (cln_col) rfl rfl rfl ?_ (fun _ => by kernel_rfl)
                  rintro _ hz ⟨rfl, _⟩
                  subst hz)
       all_goals (refine ⟨fun _ => .refl _ _, ?_⟩)
       all_goals (refine WH.two 8 12 (by kernel_rfl) (Br.out (i := 5009) ?_) (Br.out (i := 5010) ?_))
       all_goals (first
         | (fail_if_success (refine Br.mk (i := 5009) ?_))
         | (refine Br.mk (i := 5009) ?_
            all_goals (refine Comes1.call (vs := [_]) rfl rfl (fun a w => Tryz.call54 a w) rfl (clone_fld F (hr.ext0 hX2) hm) rfl rfl rfl ?_ (fun _ => by kernel_rfl)
                       rintro v8 h8 ⟨ho8, hx8, hf8⟩
                       obtain ⟨A8, c8, rfl, _⟩ := ho8.slice)
            all_goals (refine ⟨fun _ => hx8, ?_⟩)
            all_goals (refine WH.two 11 12 (by kernel_rfl) (Br.out (i := 5009) ?_) (Br.out (i := 5010) ?_))
            all_goals (first
              | (fail_if_success (refine Br.mk (i := 5009) ?_))
              | (refine Br.mk (i := 5009) ?_
                 all_goals (refine Comes1.call (vs := [_]) rfl rfl (fun a w => Tryz.call55 a w) rfl (cln_cel) rfl rfl rfl ?_ (fun _ => by kernel_rfl)
                            rintro _ hz ⟨rfl, _⟩
                            subst hz)
                 all_goals (refine ⟨fun _ => hx8, ?_⟩)
                 all_goals (refine WH.one 12 (by kernel_rfl) ?_)
                 all_goals (refine Comes1.run rfl (OkP.r (ok_fieldAddr rfl Tryz.underlying32 rfl (fun w => Tryz.sizeOf27 w))) rfl rfl rfl ?_ (fun _ => by kernel_rfl)
                            rintro _ hz ⟨rfl, _⟩
                            subst hz)
                 all_goals (refine ⟨fun e => (by cases e), ?_⟩)
                 all_goals (refine WH.one 13 (by kernel_rfl) ?_)
                 all_goals (refine Comes1.run0 rfl (okE_store (fun w => Tryz.sizeOf27 w) rfl rfl (hx8.obj hb12 nos) (Nat.le_of_ble_eq_true rfl) rfl rfl) rfl rfl ?_ (fun _ => by kernel_rfl)
                            rintro _ h13 ⟨hb13, hx13⟩)
                 all_goals (refine ⟨fun e => (by cases e), ?_⟩)
                 all_goals (refine WH.one 14 (by kernel_rfl) ?_)
                 all_goals (refine Comes1.run rfl (OkP.r (ok_fieldAddr rfl Tryz.underlying32 rfl (fun w => Tryz.sizeOf28 w))) rfl rfl rfl ?_ (fun _ => by kernel_rfl)
                            rintro _ hz ⟨rfl, _⟩
                            subst hz)
                 all_goals (refine ⟨fun e => (by cases e), ?_⟩)
                 all_goals (refine WH.one 15 (by kernel_rfl) ?_)
                 all_goals (refine Comes1.run0 rfl (okE_store (fun w => Tryz.sizeOf28 w) rfl rfl hb13 (Nat.le_of_ble_eq_true rfl) rfl rfl) rfl rfl ?_ (fun _ => by kernel_rfl)
                            rintro _ h15 ⟨hb15, hx15⟩)
                 all_goals (refine ⟨fun e => (by cases e), ?_⟩)
                 all_goals (refine WH.one 16 (by kernel_rfl) ?_)
                 all_goals (refine Comes1.run rfl (OkP.r (ok_fieldAddr rfl Tryz.underlying32 rfl (fun w => Tryz.sizeOf30 w))) rfl rfl rfl ?_ (fun _ => by kernel_rfl)
                            rintro _ hz ⟨rfl, _⟩
                            subst hz)
                 all_goals (refine ⟨fun e => (by cases e), ?_⟩)
                 all_goals (refine WH.one 17 (by kernel_rfl) ?_)
                 all_goals (refine Comes1.run0 rfl (okE_store (fun w => Tryz.sizeOf30 w) rfl rfl hb15 (Nat.le_of_ble_eq_true rfl) rfl rfl) rfl rfl ?_ (fun _ => by kernel_rfl)
                            rintro _ h17 ⟨hb17, hx17⟩)
                 all_goals (refine ⟨fun e => (by cases e), ?_⟩)
                 all_goals (refine WH.one 18 (by kernel_rfl) ?_)
                 all_goals (refine Comes1.run rfl (OkP.r (ok_fieldAddr rfl Tryz.underlying32 rfl (fun w => Tryz.sizeOf29 w))) rfl rfl rfl ?_ (fun _ => by kernel_rfl)
                            rintro _ hz ⟨rfl, _⟩
                            subst hz)
                 all_goals (refine ⟨fun e => (by cases e), ?_⟩)
                 all_goals (refine WH.one 19 (by kernel_rfl) ?_)
                 all_goals (refine Comes1.run0 rfl (okE_store (fun w => Tryz.sizeOf29 w) rfl rfl hb17 (Nat.le_of_ble_eq_true rfl) rfl rfl) rfl rfl ?_ (fun _ => by kernel_rfl)
                            rintro _ h19 ⟨hb19, hx19⟩)
                 all_goals (refine ⟨fun e => (by cases e), ?_⟩)
                 all_goals (have hX19 : Ext (fun q => q = b1) h8 h19 := ((hx13.trans hx15).trans hx17).trans hx19
                            have hX219 : Ext No h h19 := (hX2.trans hx8).trans' hX19 (fun q hq e => by omega)
                            have ho19 := ho8.ext hX19 (fun q hq e => by obtain ⟨_, z⟩ := own_kind ho8 hq; rw [e, hx8.obj hb12 nos] at z; simp at z)
                            have hb219 := hX19.obj (hx8.obj hb2 nos) (fun e => by omega))
                 all_goals (refine WH.done (by kernel_rfl) ?_)
                 skip))
            all_goals (first
              | (fail_if_success (refine Br.mk (i := 5010) ?_))
              | (refine Br.mk (i := 5010) ?_
                 all_goals (refine Comes1.run rfl (OkP.r (ok_fieldAddr rfl Tryz.underlying32 rfl (fun w => Tryz.sizeOf27 w))) rfl rfl rfl ?_ (fun _ => by kernel_rfl)
                            rintro _ hz ⟨rfl, _⟩
                            subst hz)
                 all_goals (refine ⟨fun e => (by cases e), ?_⟩)
                 all_goals (refine WH.one 11 (by kernel_rfl) ?_)
                 all_goals (refine Comes1.call (vs := [_]) rfl rfl (fun a w => Tryz.call55 a w) rfl (cln_cel) rfl rfl rfl ?_ (fun _ => by kernel_rfl)
                            rintro _ hz ⟨rfl, _⟩
                            subst hz)
                 all_goals (refine ⟨fun _ => hx8, ?_⟩)
                 all_goals (refine WH.one 13 (by kernel_rfl) ?_)
                 all_goals (refine Comes1.run0 rfl (okE_store (fun w => Tryz.sizeOf27 w) rfl rfl (hx8.obj hb12 nos) (Nat.le_of_ble_eq_true rfl) rfl rfl) rfl rfl ?_ (fun _ => by kernel_rfl)
                            rintro _ h13 ⟨hb13, hx13⟩)
                 all_goals (refine ⟨fun e => (by cases e), ?_⟩)
                 all_goals (refine WH.one 14 (by kernel_rfl) ?_)
                 all_goals (refine Comes1.run rfl (OkP.r (ok_fieldAddr rfl Tryz.underlying32 rfl (fun w => Tryz.sizeOf28 w))) rfl rfl rfl ?_ (fun _ => by kernel_rfl)
                            rintro _ hz ⟨rfl, _⟩
                            subst hz)
                 all_goals (refine ⟨fun e => (by cases e), ?_⟩)
                 all_goals (refine WH.one 15 (by kernel_rfl) ?_)
                 all_goals (refine Comes1.run0 rfl (okE_store (fun w => Tryz.sizeOf28 w) rfl rfl hb13 (Nat.le_of_ble_eq_true rfl) rfl rfl) rfl rfl ?_ (fun _ => by kernel_rfl)
                            rintro _ h15 ⟨hb15, hx15⟩)
                 all_goals (refine ⟨fun e => (by cases e), ?_⟩)
                 all_goals (refine WH.one 16 (by kernel_rfl) ?_)
                 all_goals (refine Comes1.run rfl (OkP.r (ok_fieldAddr rfl Tryz.underlying32 rfl (fun w => Tryz.sizeOf30 w))) rfl rfl rfl ?_ (fun _ => by kernel_rfl)
                            rintro _ hz ⟨rfl, _⟩
                            subst hz)
                 all_goals (refine ⟨fun e => (by cases e), ?_⟩)
                 all_goals (refine WH.one 17 (by kernel_rfl) ?_)
                 all_goals (refine Comes1.run0 rfl (okE_store (fun w => Tryz.sizeOf30 w) rfl rfl hb15 (Nat.le_of_ble_eq_true rfl) rfl rfl) rfl rfl ?_ (fun _ => by kernel_rfl)
                            rintro _ h17 ⟨hb17, hx17⟩)
                 all_goals (refine ⟨fun e => (by cases e), ?_⟩)
                 all_goals (refine WH.one 18 (by kernel_rfl) ?_)
                 all_goals (refine Comes1.run rfl (OkP.r (ok_fieldAddr rfl Tryz.underlying32 rfl (fun w => Tryz.sizeOf29 w))) rfl rfl rfl ?_ (fun _ => by kernel_rfl)
                            rintro _ hz ⟨rfl, _⟩
                            subst hz)
                 all_goals (refine ⟨fun e => (by cases e), ?_⟩)
                 all_goals (refine WH.one 19 (by kernel_rfl) ?_)
                 all_goals (refine Comes1.run0 rfl (okE_store (fun w => Tryz.sizeOf29 w) rfl rfl hb17 (Nat.le_of_ble_eq_true rfl) rfl rfl) rfl rfl ?_ (fun _ => by kernel_rfl)
                            rintro _ h19 ⟨hb19, hx19⟩)
                 all_goals (refine ⟨fun e => (by cases e), ?_⟩)
                 all_goals (have hX19 : Ext (fun q => q = b1) h8 h19 := ((hx13.trans hx15).trans hx17).trans hx19
                            have hX219 : Ext No h h19 := (hX2.trans hx8).trans' hX19 (fun q hq e => by omega)
                            have ho19 := ho8.ext hX19 (fun q hq e => by obtain ⟨_, z⟩ := own_kind ho8 hq; rw [e, hx8.obj hb12 nos] at z; simp at z)
                            have hb219 := hX19.obj (hx8.obj hb2 nos) (fun e => by omega))
                 all_goals (refine WH.done (by kernel_rfl) ?_)
                 skip))
            skip))
       all_goals (first
         | (fail_if_success (refine Br.mk (i := 5010) ?_))
         | (refine Br.mk (i := 5010) ?_
            all_goals (refine Comes1.run rfl (OkP.r (ok_fieldAddr rfl Tryz.underlying32 rfl (fun w => Tryz.sizeOf27 w))) rfl rfl rfl ?_ (fun _ => by kernel_rfl)
                       rintro _ hz ⟨rfl, _⟩
                       subst hz)
            all_goals (refine ⟨fun e => (by cases e), ?_⟩)
            all_goals (refine WH.one 8 (by kernel_rfl) ?_)
            all_goals (refine Comes1.call (vs := [_]) rfl rfl (fun a w => Tryz.call54 a w) rfl (clone_fld F (hr.ext0 hX2) hm) rfl rfl rfl ?_ (fun _ => by kernel_rfl)
                       rintro v8 h8 ⟨ho8, hx8, hf8⟩
                       obtain ⟨A8, c8, rfl, _⟩ := ho8.slice)
            all_goals (refine ⟨fun _ => hx8, ?_⟩)
            all_goals (refine WH.one 11 (by kernel_rfl) ?_)
            all_goals (refine Comes1.call (vs := [_]) rfl rfl (fun a w => Tryz.call55 a w) rfl (cln_cel) rfl rfl rfl ?_ (fun _ => by kernel_rfl)
                       rintro _ hz ⟨rfl, _⟩
                       subst hz)
            all_goals (refine ⟨fun _ => hx8, ?_⟩)
            all_goals (refine WH.one 13 (by kernel_rfl) ?_)
            all_goals (refine Comes1.run0 rfl (okE_store (fun w => Tryz.sizeOf27 w) rfl rfl (hx8.obj hb12 nos) (Nat.le_of_ble_eq_true rfl) rfl rfl) rfl rfl ?_ (fun _ => by kernel_rfl)
                       rintro _ h13 ⟨hb13, hx13⟩)
            all_goals (refine ⟨fun e => (by cases e), ?_⟩)
            all_goals (refine WH.one 14 (by kernel_rfl) ?_)
            all_goals (refine Comes1.run rfl (OkP.r (ok_fieldAddr rfl Tryz.underlying32 rfl (fun w => Tryz.sizeOf28 w))) rfl rfl rfl ?_ (fun _ => by kernel_rfl)
                       rintro _ hz ⟨rfl, _⟩
                       subst hz)
            all_goals (refine ⟨fun e => (by cases e), ?_⟩)
            all_goals (refine WH.one 15 (by kernel_rfl) ?_)
            all_goals (refine Comes1.run0 rfl (okE_store (fun w => Tryz.sizeOf28 w) rfl rfl hb13 (Nat.le_of_ble_eq_true rfl) rfl rfl) rfl rfl ?_ (fun _ => by kernel_rfl)
                       rintro _ h15 ⟨hb15, hx15⟩)
            all_goals (refine ⟨fun e => (by cases e), ?_⟩)
            all_goals (refine WH.one 16 (by kernel_rfl) ?_)
            all_goals (refine Comes1.run rfl (OkP.r (ok_fieldAddr rfl Tryz.underlying32 rfl (fun w => Tryz.sizeOf30 w))) rfl rfl rfl ?_ (fun _ => by kernel_rfl)
                       rintro _ hz ⟨rfl, _⟩
                       subst hz)
            all_goals (refine ⟨fun e => (by cases e), ?_⟩)
            all_goals (refine WH.one 17 (by kernel_rfl) ?_)
            all_goals (refine Comes1.run0 rfl (okE_store (fun w => Tryz.sizeOf30 w) rfl rfl hb15 (Nat.le_of_ble_eq_true rfl) rfl rfl) rfl rfl ?_ (fun _ => by kernel_rfl)
                       rintro _ h17 ⟨hb17, hx17⟩)
            all_goals (refine ⟨fun e => (by cases e), ?_⟩)
            all_goals (refine WH.one 18 (by kernel_rfl) ?_)
            all_goals (refine Comes1.run rfl (OkP.r (ok_fieldAddr rfl Tryz.underlying32 rfl (fun w => Tryz.sizeOf29 w))) rfl rfl rfl ?_ (fun _ => by kernel_rfl)
                       rintro _ hz ⟨rfl, _⟩
                       subst hz)
            all_goals (refine ⟨fun e => (by cases e), ?_⟩)
            all_goals (refine WH.one 19 (by kernel_rfl) ?_)
            all_goals (refine Comes1.run0 rfl (okE_store (fun w => Tryz.sizeOf29 w) rfl rfl hb17 (Nat.le_of_ble_eq_true rfl) rfl rfl) rfl rfl ?_ (fun _ => by kernel_rfl)
                       rintro _ h19 ⟨hb19, hx19⟩)
            all_goals (refine ⟨fun e => (by cases e), ?_⟩)
            all_goals (have hX19 : Ext (fun q => q = b1) h8 h19 := ((hx13.trans hx15).trans hx17).trans hx19
                       have hX219 : Ext No h h19 := (hX2.trans hx8).trans' hX19 (fun q hq e => by omega)
                       have ho19 := ho8.ext hX19 (fun q hq e => by obtain ⟨_, z⟩ := own_kind ho8 hq; rw [e, hx8.obj hb12 nos] at z; simp at z)
                       have hb219 := hX19.obj (hx8.obj hb2 nos) (fun e => by omega))
            all_goals (refine WH.done (by kernel_rfl) ?_)
            skip))
       skip))
  all_goals (first
    | (fail_if_success (refine Br.mk (i := 5010) ?_))
    | (refine Br.mk (i := 5010) ?_
       all_goals (refine Comes1.run rfl (OkP.r (ok_fieldAddr rfl Tryz.underlying32 rfl (fun w => Tryz.sizeOf27 w))) rfl rfl rfl ?_ (fun _ => by kernel_rfl)
                  rintro _ hz ⟨rfl, _⟩
                  subst hz)
       all_goals (refine ⟨fun e => (by cases e), ?_⟩)
       all_goals (refine WH.one 5 (by kernel_rfl) ?_)
       all_goals (refine Comes1.call (vs := [_]) rfl rfl (fun a w => Tryz.call53 a w) rfl (cln_col) rfl rfl rfl ?_ (fun _ => by kernel_rfl)
                  rintro _ hz ⟨rfl, _⟩
                  subst hz)
       all_goals (refine ⟨fun _ => .refl _ _, ?_⟩)
       all_goals (refine WH.one 8 (by kernel_rfl) ?_)
       all_goals (refine Comes1.call (vs := [_]) rfl rfl (fun a w => Tryz.call54 a w) rfl (clone_fld F (hr.ext0 hX2) hm) rfl rfl rfl ?_ (fun _ => by kernel_rfl)
                  rintro v8 h8 ⟨ho8, hx8, hf8⟩
                  obtain ⟨A8, c8, rfl, _⟩ := ho8.slice)
       all_goals (refine ⟨fun _ => hx8, ?_⟩)
       all_goals (refine WH.one 11 (by kernel_rfl) ?_)
       all_goals (refine Comes1.call (vs := [_]) rfl rfl (fun a w => Tryz.call55 a w) rfl (cln_cel) rfl rfl rfl ?_ (fun _ => by kernel_rfl)
                  rintro _ hz ⟨rfl, _⟩
                  subst hz)
       all_goals (refine ⟨fun _ => hx8, ?_⟩)
       all_goals (refine WH.one 13 (by kernel_rfl) ?_)
       all_goals (refine Comes1.run0 rfl (okE_store (fun w => Tryz.sizeOf27 w) rfl rfl (hx8.obj hb12 nos) (Nat.le_of_ble_eq_true rfl) rfl rfl) rfl rfl ?_ (fun _ => by kernel_rfl)
                  rintro _ h13 ⟨hb13, hx13⟩)
       all_goals (refine ⟨fun e => (by cases e), ?_⟩)
       all_goals (refine WH.one 14 (by kernel_rfl) ?_)
       all_goals (refine Comes1.run rfl (OkP.r (ok_fieldAddr rfl Tryz.underlying32 rfl (fun w => Tryz.sizeOf28 w))) rfl rfl rfl ?_ (fun _ => by kernel_rfl)
                  rintro _ hz ⟨rfl, _⟩
                  subst hz)
       all_goals (refine ⟨fun e => (by cases e), ?_⟩)
       all_goals (refine WH.one 15 (by kernel_rfl) ?_)
       all_goals (refine Comes1.run0 rfl (okE_store (fun w => Tryz.sizeOf28 w) rfl rfl hb13 (Nat.le_of_ble_eq_true rfl) rfl rfl) rfl rfl ?_ (fun _ => by kernel_rfl)
                  rintro _ h15 ⟨hb15, hx15⟩)
       all_goals (refine ⟨fun e => (by cases e), ?_⟩)
       all_goals (refine WH.one 16 (by kernel_rfl) ?_)
       all_goals (refine Comes1.run rfl (OkP.r (ok_fieldAddr rfl Tryz.underlying32 rfl (fun w => Tryz.sizeOf30 w))) rfl rfl rfl ?_ (fun _ => by kernel_rfl)
                  rintro _ hz ⟨rfl, _⟩
                  subst hz)
       all_goals (refine ⟨fun e => (by cases e), ?_⟩)
       all_goals (refine WH.one 17 (by kernel_rfl) ?_)
       all_goals (refine Comes1.run0 rfl (okE_store (fun w => Tryz.sizeOf30 w) rfl rfl hb15 (Nat.le_of_ble_eq_true rfl) rfl rfl) rfl rfl ?_ (fun _ => by kernel_rfl)
                  rintro _ h17 ⟨hb17, hx17⟩)
       all_goals (refine ⟨fun e => (by cases e), ?_⟩)
       all_goals (refine WH.one 18 (by kernel_rfl) ?_)
       all_goals (refine Comes1.run rfl (OkP.r (ok_fieldAddr rfl Tryz.underlying32 rfl (fun w => Tryz.sizeOf29 w))) rfl rfl rfl ?_ (fun _ => by kernel_rfl)
                  rintro _ hz ⟨rfl, _⟩
                  subst hz)
       all_goals (refine ⟨fun e => (by cases e), ?_⟩)
       all_goals (refine WH.one 19 (by kernel_rfl) ?_)
       all_goals (refine Comes1.run0 rfl (okE_store (fun w => Tryz.sizeOf29 w) rfl rfl hb17 (Nat.le_of_ble_eq_true rfl) rfl rfl) rfl rfl ?_ (fun _ => by kernel_rfl)
                  rintro _ h19 ⟨hb19, hx19⟩)
       all_goals (refine ⟨fun e => (by cases e), ?_⟩)
       all_goals (have hX19 : Ext (fun q => q = b1) h8 h19 := ((hx13.trans hx15).trans hx17).trans hx19
                  have hX219 : Ext No h h19 := (hX2.trans hx8).trans' hX19 (fun q hq e => by omega)
                  have ho19 := ho8.ext hX19 (fun q hq e => by obtain ⟨_, z⟩ := own_kind ho8 hq; rw [e, hx8.obj hb12 nos] at z; simp at z)
                  have hb219 := hX19.obj (hx8.obj hb2 nos) (fun e => by omega))
       all_goals (refine WH.done (by kernel_rfl) ?_)
       skip))
  all_goals (repeat' (with_reducible first | refine thenP_n ?_ | refine blockP_n ?_))
  all_goals (refine WC.sub [(1, _), (2, _)] ⟨rfl, rfl, trivial⟩ ?_)
  all_goals (refine WC.seq ?_)
  all_goals (refine WC.seq ?_)
  all_goals (refine WC.region ?_)
  all_goals (refine WL.step (ok_fieldAddr rfl Tryz.underlying32 rfl (fun w => Tryz.sizeOf29 w)) rfl rfl rfl ?_)
  all_goals (refine WL.step (ok_load (fun w => Tryz.isAgg29 w) rfl (by first | exact cell_blk hb19 rfl | assumption | exact cell_blk (by assumption) rfl)) rfl rfl rfl ?_)
  all_goals (refine WL.step (ok_lenL rfl Tryz.underlying29 rfl) rfl rfl rfl ?_)
  all_goals (refine WL.step (ok_move rfl) rfl rfl rfl ?_)
  all_goals (refine WL.nil ?_)
  all_goals (repeat' (with_reducible first | refine thenP_n ?_ | refine blockP_n ?_))
  all_goals (refine WC.block ?_)
  -- loop 0: slots that turn [23], that stay [1, 2, 22]
  all_goals (refine WC.loopG (X := Nat) (fun x => ([(23, In (x : Int))] : Fr)) [(1, _), (2, _), (22, _)] (fun k h' => h' = h19 ∧ k = 0) (fun k => 0 - k) (0) ⟨rfl, rfl, rfl, rfl, trivial⟩ (by exact ⟨rfl, rfl⟩) ?_)
  all_goals (rintro k _ ⟨rfl, rfl⟩)
  all_goals (refine WC.sub [(23, _), (1, _), (2, _), (22, _)] ⟨rfl, rfl, rfl, rfl, trivial⟩ ?_)
  all_goals (refine WC.seq ?_)
  all_goals (refine WC.region ?_)
  all_goals (first | (refine WL.step (OkP.bool_t (by omega) (ok_lss rfl rfl)) rfl rfl rfl ?_) | (refine WL.step (OkP.bool_f (by omega) (ok_lss rfl rfl)) rfl rfl rfl ?_) | (refine WL.step (ok_lss rfl rfl) rfl rfl rfl ?_))
  all_goals (refine WL.nil ?_)
  all_goals (repeat' (with_reducible first | refine thenP_n ?_ | refine blockP_n ?_))
  all_goals (refine WC.seq ?_)
  all_goals (first | refine WC.condB_t 1 rfl ?_ | refine WC.condB_f 2 rfl ?_ | (refine WC.condB 1 2 rfl (fun hb => ?_) (fun hb => ?_) <;> (first | replace hb := of_decide_eq_true hb | replace hb := of_decide_eq_false hb | replace hb := of_decide_eq_false (nt hb) | replace hb := of_decide_eq_true (nf hb) | skip)))
  all_goals (first
    | (fail_if_success (refine Br.mk (i := 1) ?_))
    | (refine Br.mk (i := 1) ?_
       all_goals (refine WC.skip ?_)
       skip))
  all_goals (first
    | (fail_if_success (refine Br.mk (i := 2) ?_))
    | (refine Br.mk (i := 2) ?_
       all_goals (refine WC.exit ?_)
       all_goals (repeat' (with_reducible first | refine thenP_x ?_ | refine blockP_miss rfl ?_ | refine blockP_hit ?_ | refine blockP_n ?_ | refine thenP_n ?_))
       all_goals (refine Br.out (i := 1000) ?_)
       skip))
  all_goals (first | (refine Br.keep ?_) | (repeat' (with_reducible first | refine thenP_n ?_ | refine blockP_n ?_)))
  all_goals (first | (refine Br.keep ?_) | (refine WC.seq ?_))
  all_goals (first | (refine Br.keep ?_) | (refine WC.block ?_))
  all_goals (first | (refine Br.keep ?_) | (refine WC.seq ?_))
  all_goals (first | (refine Br.keep ?_) | (refine WC.region ?_))
  all_goals (first | (refine Br.keep ?_) | (refine WL.step (ok_move rfl) rfl rfl rfl ?_))
  all_goals (first | (refine Br.keep ?_) | (refine WL.step (ok_assign rfl) rfl rfl rfl ?_))
  all_goals (first | (refine Br.keep ?_) | (refine WL.nil ?_))
  all_goals (first | (refine Br.keep ?_) | (repeat' (with_reducible first | refine thenP_n ?_ | refine blockP_n ?_)))
  all_goals (first | (refine Br.keep ?_) | (refine WC.drawE fol (by kernel_rfl) ?_))
  all_goals (first | (refine Br.keep ?_) | (refine WQ.stepE (ok_fieldAddr rfl Tryz.underlying32 rfl (fun w => Tryz.sizeOf29 w)) rfl rfl rfl ?_))
  all_goals (first | (refine Br.keep ?_) | (refine WQ.stepE (ok_load (fun w => Tryz.isAgg29 w) rfl (by first | assumption | exact cell_blk (by assumption) rfl)) rfl rfl rfl ?_))
  all_goals (first | (refine Br.keep ?_) | (refine WQ.stepE (ok_move rfl) rfl rfl rfl ?_))
  all_goals (first | (refine Br.keep ?_) | (refine WQ.stepE (ok_fieldAddr rfl Tryz.underlying32 rfl (fun w => Tryz.sizeOf29 w)) rfl rfl rfl ?_))
  all_goals (first | (refine Br.keep ?_) | (refine WQ.stepE (ok_load (fun w => Tryz.isAgg29 w) rfl (by first | assumption | exact cell_blk (by assumption) rfl)) rfl rfl rfl ?_))
  all_goals (first | (refine Br.keep ?_) | (refine WQ.stepE (ok_move rfl) rfl rfl rfl ?_))
  all_goals (first | (refine Br.keep ?_) | (refine WQ.stepE (ok_idxAddrA Tryz.underlying29 (fun w => Tryz.sizeOf56 w) rfl rfl rfl (by omega) (by first | rfl | assumption)) rfl rfl rfl ?_))
  all_goals (first | (refine Br.keep ?_) | (refine WQ.stepE (ok_fieldAddr rfl Tryz.underlying56 rfl (fun w => Tryz.sizeOf24 w)) rfl rfl rfl ?_))
  all_goals (first | (refine Br.keep ?_) | (refine WQ.stepE (ok_load (fun w => Tryz.isAgg24 w) rfl (by first | assumption | exact cell_blk (by assumption) rfl)) rfl rfl rfl ?_))
  all_goals (first | (refine Br.keep ?_) | (fail "no contract for call of slices.Clone[[]byte,byte] at 5.9"))
  all_goals (first | (refine Br.keep ?_) | (refine WQ.stepE (ok_idxAddrA Tryz.underlying29 (fun w => Tryz.sizeOf56 w) rfl rfl rfl (by omega) (by first | rfl | assumption)) rfl rfl rfl ?_))
  all_goals (first | (refine Br.keep ?_) | (refine WQ.stepE (ok_fieldAddr rfl Tryz.underlying56 rfl (fun w => Tryz.sizeOf24 w)) rfl rfl rfl ?_))
  all_goals (first
               | (refine Br.keep ?_)
               | (refine WL.stepR0 (okE_store (fun w => Tryz.sizeOf24 w) rfl rfl (by assumption) (Nat.le_of_ble_eq_true rfl) rfl rfl) rfl rfl ?_
                  rintro _ h1 ⟨hb1, hx1⟩))
  all_goals (first | (refine Br.keep ?_) | (refine WQ.nil ?_))
  all_goals (first | (refine Br.keep ?_) | (repeat' (with_reducible first | refine thenP_n ?_ | refine blockP_n ?_)))
  all_goals (first | (refine Br.keep ?_) | (refine WC.sub [(1, _), (2, _), (22, _), (23, _)] ⟨rfl, rfl, rfl, rfl, trivial⟩ ?_))
  all_goals (first | (refine Br.keep ?_) | (refine WC.region ?_))
  all_goals (first | (refine Br.keep ?_) | (first | (refine WL.step (ok_addI rfl rfl (by omega)) rfl rfl rfl ?_) | (refine WL.step (ok_add rfl rfl) rfl rfl rfl ?_)))
  all_goals (first | (refine Br.keep ?_) | (refine WL.step (ok_move rfl) rfl rfl rfl ?_))
  all_goals (first | (refine Br.keep ?_) | (refine WL.nil ?_))
  all_goals (first | (refine Br.keep ?_) | (repeat' (with_reducible first | refine thenP_n ?_ | refine blockP_n ?_)))
  all_goals (first | (refine Br.keep ?_) | (exact ⟨k + 1, ⟨rfl, rfl, rfl, rfl, trivial⟩, (by fail "none"), (by omega)⟩))
  all_goals (try (refine Br.mk (i := 1000) ?_))
  all_goals (repeat' (with_reducible first | refine thenP_n ?_ | refine blockP_n ?_))
  all_goals (refine WC.seq ?_)
  all_goals (refine WC.region ?_)
  all_goals (refine WL.step (ok_loadN (fun w => Tryz.isAgg32 w) (fun w => Tryz.sizeOf32 w) rfl rfl (by exact At.of_block hb19)) rfl rfl rfl ?_)
  all_goals (refine WL.stepR0 (okE_storeW (fun w => Tryz.sizeOf32 w) rfl rfl rfl hb219 rfl (by simp [Value.oneCell'])) rfl rfl ?_
             rintro _ h20 ⟨hb20, hx20⟩)
  all_goals (refine WL.nil ?_)
  all_goals (repeat' (with_reducible first | refine thenP_n ?_ | refine blockP_n ?_))
  all_goals (refine WC.sub [(2, _)] ⟨rfl, trivial⟩ ?_)
  all_goals (refine WC.ret ?_)
  all_goals (repeat' (with_reducible first | refine thenP_r ?_ | refine blockP_r ?_))
  all_goals (refine retP_1 _ ⟨⟨_, rfl, ld_blk (fun w => Tryz.isAgg32 w) (fun w => Tryz.sizeOf32 w) hb20 rfl⟩, trivial⟩ ?_)
  all_goals (exact ⟨_, rfl, ho19.ext hx20 (fun q hq e => by obtain ⟨_, z⟩ := own_kind ho19 hq; rw [e, hb219] at z; simp at z), hX219.trans' hx20 (fun q hq e => by have := hx1.size; omega)⟩)
/-- An entry that renames. -/
def eC (f t : List UInt8) : List Value := [In 0, .bool false, St f, St t, nilV, nilV, nilV, nilV]
set_option maxHeartbeats 1000000 in
set_option maxRecDepth 100000 in
theorem renamed_e {h : Heap} {v : Value} (F : List FieldD) (f t c x : List UInt8) (hr : Rd h v 2 F.length (F.flatMap FieldD.cells)) (hm : F.length ≤ 1000000) (hc : getT 67 F = some c) (hx : getT 77 F = some x) (hM : Ml h) (hxl : x.length ≤ 100000) (hfl : f.length ≤ 10000) (htl : t.length ≤ 10000) :
    CallsH Tryz.prog 35 ⟨[.agg ⟨eC f t⟩, .agg ⟨eB v⟩]⟩ h fun u h' => ∃ v', u = .agg ⟨eB v'⟩ ∧ Own h' v' 60 2 F.length ((withF 77 (renL c x f t) F).flatMap FieldD.cells) ∧ Ext No h h' := by
  have kg := fun h' (hx : Ext No h h') (cc : Int) => get_v F cc (hr.ext0 hx) (show F.length ≤ maxLen by unfold maxLen; omega)
  have kw := fun h' (hx : Ext No h h') (y : List UInt8) => with_v F 77 y (hr.ext0 hx) hm
  have kr := fun h' (hx : Ext No h h') => rename_any c x f t (hM.ext0 hx) hxl hfl htl
  obtain ⟨A, cc, rfl, _⟩ := id hr
  unfold eB eC
  refine calls [(0, _), (1, _)] Tryz.func35 rfl Tryz.ntmps35 rfl ⟨rfl, rfl, trivial⟩ ?_
  all_goals (refine WC.seq ?_)
  all_goals (refine WC.region ?_)
  all_goals (refine WL.stepR (okE_box rfl) rfl rfl rfl ?_
             rintro _ h1 ⟨b2, rfl, hg2, hb2, hx1⟩)
  all_goals (refine WL.stepR (okE_box rfl) rfl rfl rfl ?_
             rintro _ h2 ⟨b3, rfl, hg3, hb3, hx2⟩)
  all_goals (refine WL.stepR (okE_alloc (fun w => Tryz.zeroValue32 w)) rfl rfl rfl ?_
             rintro _ h3 ⟨b4, rfl, hg4, hb4, hx3⟩)
  all_goals (have hX3 := (hx1.trans hx2).trans hx3
             have hb23 := (hx2.trans hx3).obj hb2 nos
             have hb33 := hx3.obj hb3 nos)
  all_goals (refine WL.nil ?_)
  all_goals (repeat' (with_reducible first | refine thenP_n ?_ | refine blockP_n ?_))
  all_goals (refine WC.seq ?_)
  all_goals (refine WC.region ?_)
  all_goals (refine WL.step (ok_fieldAddr rfl Tryz.underlying32 rfl (fun w => Tryz.sizeOf30 w)) rfl rfl rfl ?_)
  all_goals (refine WL.step (ok_load (fun w => Tryz.isAgg30 w) rfl (by first | exact cell_blk hb33 rfl | assumption | exact cell_blk (by assumption) rfl)) rfl rfl rfl ?_)
  all_goals (refine WL.call (vs := [_, _]) rfl (fun a w => Tryz.call16 a w) rfl (kg _ hX3 67) rfl rfl rfl ?_
             rintro _ h4 ⟨rfl, hx4⟩
             rw [hc])
  all_goals (have hb34 := hx4.obj hb33 nos)
  all_goals (refine WL.step (ok_move rfl) rfl rfl rfl ?_)
  all_goals (refine WL.step (ok_extract rfl rfl) rfl rfl rfl ?_)
  all_goals (refine WL.step (ok_extract rfl rfl) rfl rfl rfl ?_)
  all_goals (refine WL.step (ok_assign rfl) rfl rfl rfl ?_)
  all_goals (refine WL.step (ok_assign rfl) rfl rfl rfl ?_)
  all_goals (refine WL.nil ?_)
  all_goals (repeat' (with_reducible first | refine thenP_n ?_ | refine blockP_n ?_))
  all_goals (refine WC.sub [(2, _), (3, _), (4, _), (5, _), (6, _)] ⟨rfl, rfl, rfl, rfl, rfl, trivial⟩ ?_)
  all_goals (refine WC.seq ?_)
  all_goals (refine WC.region ?_)
  all_goals (refine WL.step (ok_fieldAddr rfl Tryz.underlying32 rfl (fun w => Tryz.sizeOf30 w)) rfl rfl rfl ?_)
  all_goals (refine WL.step (ok_load (fun w => Tryz.isAgg30 w) rfl (by first | exact cell_blk hb34 rfl | assumption | exact cell_blk (by assumption) rfl)) rfl rfl rfl ?_)
  all_goals (refine WL.call (vs := [_, _]) rfl (fun a w => Tryz.call16 a w) rfl (kg _ (hX3.trans hx4) 77) rfl rfl rfl ?_
             rintro _ h5 ⟨rfl, hx5⟩
             rw [hx])
  all_goals (have hX5 := (hX3.trans hx4).trans hx5
             have hb35 := hx5.obj hb34 nos
             have hb25 := (hx4.trans hx5).obj hb23 nos)
  all_goals (refine WL.step (ok_move rfl) rfl rfl rfl ?_)
  all_goals (refine WL.step (ok_extract rfl rfl) rfl rfl rfl ?_)
  all_goals (refine WL.step (ok_extract rfl rfl) rfl rfl rfl ?_)
  all_goals (refine WL.step (ok_assign rfl) rfl rfl rfl ?_)
  all_goals (refine WL.step (ok_assign rfl) rfl rfl rfl ?_)
  all_goals (refine WL.nil ?_)
  all_goals (repeat' (with_reducible first | refine thenP_n ?_ | refine blockP_n ?_))
  all_goals (refine WC.sub [(2, _), (3, _), (4, _), (5, _), (6, _), (7, _), (8, _)] ⟨rfl, rfl, rfl, rfl, rfl, rfl, rfl, trivial⟩ ?_)
  all_goals (refine WC.seq ?_)
  all_goals (refine WC.seq ?_)
  all_goals (refine WC.region ?_)
  all_goals (refine WL.step (ok_move rfl) rfl rfl rfl ?_)
  all_goals (refine WL.step (ok_move rfl) rfl rfl rfl ?_)
  all_goals (try ((fail_if_success (refine WL.part 22 (b := true) rfl (fun _ => ?_) (fun _ => ?_))); (fail_if_success (refine WL.part 22 (b := false) rfl (fun _ => ?_) (fun _ => ?_))); (refine WL.part 22 rfl (fun hb => ?_) (fun hb => ?_) <;> (first | replace hb := of_decide_eq_true hb | replace hb := of_decide_eq_false hb | replace hb := of_decide_eq_false (nt hb) | replace hb := of_decide_eq_true (nf hb) | skip))))
  all_goals (first | (refine WL.pass rfl rfl rfl ?_) | (refine WL.step (ok_move rfl) rfl rfl rfl ?_))
  all_goals (first | (refine WL.step (ok_pick_t rfl rfl) rfl rfl rfl ?_) | (refine WL.step (ok_pick_f rfl rfl) rfl rfl rfl ?_))
  all_goals (refine WL.nil ?_)
  all_goals (repeat' (with_reducible first | refine thenP_n ?_ | refine blockP_n ?_))
  all_goals (refine WC.sub [(2, _), (3, _), (4, _), (5, _), (7, _), (24, _)] ⟨rfl, rfl, rfl, rfl, rfl, rfl, trivial⟩ ?_)
  all_goals (first | refine WC.condB_t 1 rfl ?_ | refine WC.condB_f 2 rfl ?_ | (refine WC.condB 1 2 rfl (fun hb => ?_) (fun hb => ?_) <;> (first | replace hb := of_decide_eq_true hb | replace hb := of_decide_eq_false hb | replace hb := of_decide_eq_false (nt hb) | replace hb := of_decide_eq_true (nf hb) | skip)))
  all_goals (first
    | (fail_if_success (refine Br.mk (i := 1) ?_))
    | (refine Br.mk (i := 1) ?_
       all_goals (refine WC.drawH (fun h' => Ext No h5 h') 10 12 rfl fol ?_)
       all_goals (refine WH.take 0 rfl (by kernel_rfl) (by kernel_rfl) (by kernel_rfl) (by kernel_rfl) rfl (by first | exact Ext.refl _ _ | assumption) (fun hq hC => ok_fieldAddr rfl Tryz.underlying32 rfl (fun w => Tryz.sizeOf30 w)) rfl rfl rfl ?_)
       all_goals (refine WH.take 1 rfl (by kernel_rfl) (by kernel_rfl) (by kernel_rfl) (by kernel_rfl) rfl (by first | exact Ext.refl _ _ | assumption) (fun hq hC => ok_load (fun w => Tryz.isAgg30 w) rfl (by first | exact hC.cell (by first | exact cell_blk hb35 rfl | assumption | exact cell_blk (by assumption) rfl) nos)) rfl rfl rfl ?_)
       all_goals (refine WH.take 2 rfl (by kernel_rfl) (by kernel_rfl) (by kernel_rfl) (by kernel_rfl) rfl (by first | exact Ext.refl _ _ | assumption) (fun hq hC => ok_move rfl) rfl rfl rfl ?_)
       all_goals (refine WH.take 3 rfl (by kernel_rfl) (by kernel_rfl) (by kernel_rfl) (by kernel_rfl) rfl (by first | exact Ext.refl _ _ | assumption) (fun hq hC => ok_move rfl) rfl rfl rfl ?_)
       all_goals (refine WH.take 4 rfl (by kernel_rfl) (by kernel_rfl) (by kernel_rfl) (by kernel_rfl) rfl (by first | exact Ext.refl _ _ | assumption) (fun hq hC => ok_fieldAddr rfl Tryz.underlying26 rfl (fun w => Tryz.sizeOf9 w)) rfl rfl rfl ?_)
       all_goals (refine WH.take 5 rfl (by kernel_rfl) (by kernel_rfl) (by kernel_rfl) (by kernel_rfl) rfl (by first | exact Ext.refl _ _ | assumption) (fun hq hC => ok_load (fun w => Tryz.isAgg9 w) rfl (by first | exact hC.cell (by first | exact cell_blk hb25 rfl | assumption | exact cell_blk (by assumption) rfl) nos)) rfl rfl rfl ?_)
       all_goals (refine WH.take 6 rfl (by kernel_rfl) (by kernel_rfl) (by kernel_rfl) (by kernel_rfl) rfl (by first | exact Ext.refl _ _ | assumption) (fun hq hC => ok_fieldAddr rfl Tryz.underlying26 rfl (fun w => Tryz.sizeOf9 w)) rfl rfl rfl ?_)
       all_goals (refine WH.take 7 rfl (by kernel_rfl) (by kernel_rfl) (by kernel_rfl) (by kernel_rfl) rfl (by first | exact Ext.refl _ _ | assumption) (fun hq hC => ok_load (fun w => Tryz.isAgg9 w) rfl (by first | exact hC.cell (by first | exact cell_blk hb25 rfl | assumption | exact cell_blk (by assumption) rfl) nos)) rfl rfl rfl ?_)
       all_goals (refine WH.one 8 (by kernel_rfl) ?_)
       all_goals (refine Comes1.call (vs := [_, _, _, _]) rfl rfl (fun a w => Tryz.call58 a w) rfl (kr _ hX5) rfl rfl rfl ?_ (fun _ => by kernel_rfl)
                  rintro _ h6 ⟨rfl, hx6⟩)
       all_goals (refine ⟨fun _ => hx6, ?_⟩)
       all_goals (refine WH.one 9 (by kernel_rfl) ?_)
       all_goals (refine Comes1.call (vs := [_, _, _]) rfl rfl (fun a w => Tryz.call57 a w) rfl (kw _ (hX5.trans hx6) _) rfl rfl rfl ?_ (fun _ => by kernel_rfl)
                  rintro v7 h7 ⟨ho7, hx7, hf7⟩
                  obtain ⟨A7, c7, rfl, _⟩ := ho7.slice)
       all_goals (refine ⟨fun _ => hx6.trans hx7, ?_⟩)
       all_goals (have hX7 := hx6.trans hx7)
       all_goals (refine WH.one 10 (by kernel_rfl) ?_)
       all_goals (refine Comes1.run rfl (OkP.r (ok_fieldAddr rfl Tryz.underlying32 rfl (fun w => Tryz.sizeOf30 w))) rfl rfl rfl ?_ (fun _ => by kernel_rfl)
                  rintro _ hz ⟨rfl, _⟩
                  subst hz)
       all_goals (refine ⟨fun e => (by cases e), ?_⟩)
       all_goals (refine WH.one 11 (by kernel_rfl) ?_)
       all_goals (refine Comes1.run0 rfl (okE_store (fun w => Tryz.sizeOf30 w) rfl rfl (hX7.obj hb35 nos) (Nat.le_of_ble_eq_true rfl) rfl rfl) rfl rfl ?_ (fun _ => by kernel_rfl)
                  rintro _ h8 ⟨hb8, hx8⟩)
       all_goals (refine ⟨fun e => (by cases e), ?_⟩)
       all_goals (have hb48 := hx8.obj (hX7.obj ((hx4.trans hx5).obj hb4 nos) nos) (fun e => by have := lt_of_some hb3; omega))
       all_goals (refine WH.done (by kernel_rfl) ?_)
       skip))
  all_goals (first
    | (fail_if_success (refine Br.mk (i := 2) ?_))
    | (refine Br.mk (i := 2) ?_
       all_goals (refine WC.skip ?_)
       skip))
  all_goals (repeat' (with_reducible first | refine thenP_n ?_ | refine blockP_n ?_))
  all_goals (refine WC.sub [(3, _), (4, _)] ⟨rfl, rfl, trivial⟩ ?_)
  all_goals (refine WC.seq ?_)
  all_goals (refine WC.region ?_)
  all_goals (refine WL.step (ok_loadN (fun w => Tryz.isAgg32 w) (fun w => Tryz.sizeOf32 w) rfl rfl (by exact At.of_block hb8)) rfl rfl rfl ?_)
  all_goals (refine WL.stepR0 (okE_storeW (fun w => Tryz.sizeOf32 w) rfl rfl rfl hb48 rfl (by simp [Value.oneCell'])) rfl rfl ?_
             rintro _ h9 ⟨hb9, hx9⟩)
  all_goals (refine WL.nil ?_)
  all_goals (repeat' (with_reducible first | refine thenP_n ?_ | refine blockP_n ?_))
  all_goals (refine WC.ret ?_)
  all_goals (repeat' (with_reducible first | refine thenP_r ?_ | refine blockP_r ?_))
  all_goals (refine retP_1 _ ⟨⟨_, rfl, ld_blk (fun w => Tryz.isAgg32 w) (fun w => Tryz.sizeOf32 w) hb9 rfl⟩, trivial⟩ ?_)
  all_goals (have hX8 : Ext No h h8 := (hX5.trans hX7).trans' hx8 (fun q hq e => by have := hx1.size; omega)
             have ho8 := ho7.ext hx8 (fun q hq e => by obtain ⟨_, z⟩ := own_kind ho7 hq; rw [e, hX7.obj hb35 nos] at z; simp at z)
             exact ⟨_, rfl, ho8.ext hx9 (fun q hq e => by obtain ⟨_, z⟩ := own_kind ho8 hq; rw [e, hb48] at z; simp at z), hX8.trans' hx9 (fun q hq e => by have := hx1.size; have := hx2.size; omega)⟩)
set_option maxRecDepth 100000 in
theorem back_e {h : Heap} {v : Value} (F : List FieldD) (f t c x : List UInt8) (hr : Rd h v 2 F.length (F.flatMap FieldD.cells)) (hm : F.length ≤ 1000000) (hc : getT 67 F = some c) (hx : getT 77 F = some x) (hM : Ml h) (hxl : x.length ≤ 100000) (hfl : f.length ≤ 10000) (htl : t.length ≤ 10000) :
    CallsH Tryz.prog 10 ⟨[.agg ⟨eC f t⟩, .agg ⟨eB v⟩]⟩ h fun u h' => ∃ v', u = .agg ⟨eB v'⟩ ∧ Own h' v' 60 2 F.length ((if f = t then F else withF 77 (renL c x f t) F).flatMap FieldD.cells) ∧ Ext No h h' := by
  have kc := fun h' (hx : Ext No h h') => copied_e F (hr.ext0 hx) hm
  unfold eC
  by_cases hft : f = t
  · subst hft
    rw [if_pos rfl]
    obtain ⟨A, cc, rfl, _⟩ := id hr
    refine calls [(0, _), (1, _)] Tryz.func10 rfl Tryz.ntmps10 rfl ⟨rfl, rfl, trivial⟩ ?_
    all_goals (refine WC.seq ?_)
    all_goals (refine WC.region ?_)
    all_goals (refine WL.stepR (okE_box rfl) rfl rfl rfl ?_
               rintro _ h1 ⟨b2, rfl, hg2, hb2, hx1⟩)
    all_goals (refine WL.stepR (okE_box rfl) rfl rfl rfl ?_
               rintro _ h2 ⟨b3, rfl, hg3, hb3, hx2⟩)
    all_goals (refine WL.stepR (okE_alloc (fun w => Tryz.zeroValue32 w)) rfl rfl rfl ?_
               rintro _ h3 ⟨b4, rfl, hg4, hb4, hx3⟩)
    all_goals (have hX3 := (hx1.trans hx2).trans hx3
               have hb23 := (hx2.trans hx3).obj hb2 nos
               have hb33 := hx3.obj hb3 nos)
    all_goals (refine WL.nil ?_)
    all_goals (repeat' (with_reducible first | refine thenP_n ?_ | refine blockP_n ?_))
    all_goals (refine WC.seq ?_)
    all_goals (refine WC.region ?_)
    all_goals (refine WL.step (ok_loadN (fun w => Tryz.isAgg32 w) (fun w => Tryz.sizeOf32 w) rfl rfl (by exact At.of_block hb33)) rfl rfl rfl ?_)
    all_goals (refine WL.call (vs := [_]) rfl (fun a w => Tryz.call34 a w) rfl (kc _ hX3) rfl rfl rfl ?_
               rintro _ h4 ⟨v4, rfl, ho4, hx4⟩
               obtain ⟨A4, c4, rfl, _⟩ := ho4.slice
               unfold eB)
    all_goals (refine WL.stepR0 (okE_storeW (fun w => Tryz.sizeOf32 w) rfl rfl rfl (hx4.obj hb33 nos) rfl (by simp [Value.oneCell'])) rfl rfl ?_
               rintro _ h5 ⟨hb5, hx5⟩)
    all_goals (have hb45 := hx5.obj (hx4.obj hb4 nos) (fun e => by have := lt_of_some hb3; omega)
               have hb25 := hx5.obj (hx4.obj hb23 nos) (fun e => by have := lt_of_some hb2; omega))
    all_goals (refine WL.nil ?_)
    all_goals (repeat' (with_reducible first | refine thenP_n ?_ | refine blockP_n ?_))
    all_goals (refine WC.sub [(2, _), (3, _), (4, _)] ⟨rfl, rfl, rfl, trivial⟩ ?_)
    all_goals (refine WC.seq ?_)
    all_goals (refine WC.seq ?_)
    all_goals (refine WC.region ?_)
    all_goals (refine WL.step (ok_fieldAddr rfl Tryz.underlying32 rfl (fun w => Tryz.sizeOf5 w)) rfl rfl rfl ?_)
    all_goals (refine WL.step (ok_load (fun w => Tryz.isAgg5 w) rfl (by first | exact cell_blk hb5 rfl | assumption | exact cell_blk (by assumption) rfl)) rfl rfl rfl ?_)
    all_goals (first | (refine WL.step (OkP.bool_t (by omega) (ok_eql rfl rfl)) rfl rfl rfl ?_) | (refine WL.step (OkP.bool_f (by omega) (ok_eql rfl rfl)) rfl rfl rfl ?_) | (refine WL.step (ok_eql rfl rfl) rfl rfl rfl ?_))
    all_goals (refine WL.step (ok_move rfl) rfl rfl rfl ?_)
    all_goals (try ((fail_if_success (refine WL.part 10 (b := true) rfl (fun _ => ?_) (fun _ => ?_))); (fail_if_success (refine WL.part 10 (b := false) rfl (fun _ => ?_) (fun _ => ?_))); (refine WL.part 10 rfl (fun hb => ?_) (fun hb => ?_) <;> (first | replace hb := of_decide_eq_true hb | replace hb := of_decide_eq_false hb | replace hb := of_decide_eq_false (nt hb) | replace hb := of_decide_eq_true (nf hb) | skip))))
    all_goals (first | (refine WL.pass rfl rfl rfl ?_) | (refine WL.step (ok_fieldAddr rfl Tryz.underlying26 rfl (fun w => Tryz.sizeOf9 w)) rfl rfl rfl ?_))
    all_goals (first | (refine WL.pass rfl rfl rfl ?_) | (refine WL.step (ok_load (fun w => Tryz.isAgg9 w) rfl (by first | exact cell_blk hb25 rfl | assumption | exact cell_blk (by assumption) rfl)) rfl rfl rfl ?_))
    all_goals (first | (refine WL.pass rfl rfl rfl ?_) | (refine WL.step (ok_fieldAddr rfl Tryz.underlying26 rfl (fun w => Tryz.sizeOf9 w)) rfl rfl rfl ?_))
    all_goals (first | (refine WL.pass rfl rfl rfl ?_) | (refine WL.step (ok_load (fun w => Tryz.isAgg9 w) rfl (by first | exact cell_blk hb25 rfl | assumption | exact cell_blk (by assumption) rfl)) rfl rfl rfl ?_))
    all_goals (first | (refine WL.pass rfl rfl rfl ?_) | (first | (refine WL.step (OkP.nbool_f (by first | rfl | assumption | decide) (ok_neqS rfl rfl)) rfl rfl rfl ?_) | (refine WL.step (OkP.nbool_t (by first | assumption | decide) (ok_neqS rfl rfl)) rfl rfl rfl ?_) | (refine WL.step (ok_neqS rfl rfl) rfl rfl rfl ?_)))
    all_goals (first | (refine WL.step (ok_pick_t rfl rfl) rfl rfl rfl ?_) | (refine WL.step (ok_pick_f rfl rfl) rfl rfl rfl ?_))
    all_goals (refine WL.nil ?_)
    all_goals (repeat' (with_reducible first | refine thenP_n ?_ | refine blockP_n ?_))
    all_goals (refine WC.sub [(2, _), (3, _), (4, _), (16, _)] ⟨rfl, rfl, rfl, rfl, trivial⟩ ?_)
    all_goals (first | refine WC.condB_t 1 rfl ?_ | refine WC.condB_f 2 rfl ?_ | (refine WC.condB 1 2 rfl (fun hb => ?_) (fun hb => ?_) <;> (first | replace hb := of_decide_eq_true hb | replace hb := of_decide_eq_false hb | replace hb := of_decide_eq_false (nt hb) | replace hb := of_decide_eq_true (nf hb) | skip)))
    all_goals (first
      | (fail_if_success (refine Br.mk (i := 1) ?_))
      | (refine Br.mk (i := 1) ?_
         all_goals (refine WC.seq ?_)
         all_goals (refine WC.region ?_)
         all_goals (refine WL.step (ok_loadN (fun w => Tryz.isAgg26 w) (fun w => Tryz.sizeOf26 w) rfl rfl (by assumption)) rfl rfl rfl ?_)
         all_goals (refine WL.step (ok_loadN (fun w => Tryz.isAgg32 w) (fun w => Tryz.sizeOf32 w) rfl rfl (by assumption)) rfl rfl rfl ?_)
         all_goals (fail "no contract for call of remuda/fix.renamed at 3.2")
         all_goals (refine WL.stepR0 (okE_storeW (fun w => Tryz.sizeOf32 w) rfl rfl rfl (by assumption) rfl (by simp [Value.oneCell'])) rfl rfl ?_
                    rintro _ h1 ⟨hb1, hx1⟩)
         all_goals (refine WL.nil ?_)
         all_goals (repeat' (with_reducible first | refine thenP_n ?_ | refine blockP_n ?_))
         all_goals (refine WC.sub [(4, _)] ⟨rfl, trivial⟩ ?_)
         all_goals (refine WC.ret ?_)
         all_goals (repeat' (with_reducible first | refine thenP_r ?_ | refine blockP_r ?_))
         all_goals (refine retP_1 _ ⟨⟨_, rfl, ld_blk (fun w => Tryz.isAgg32 w) (fun w => Tryz.sizeOf32 w) hb6 rfl⟩, trivial⟩ ?_)
         all_goals (have ho5 := ho4.ext hx5 (fun q hq e => by obtain ⟨_, z⟩ := own_kind ho4 hq; rw [e, hx4.obj hb33 nos] at z; simp at z)
                    exact ⟨_, rfl, ho5.ext hx6 (fun q hq e => by obtain ⟨_, z⟩ := own_kind ho5 hq; rw [e, hb45] at z; simp at z), ((hX3.trans hx4).trans' hx5 (fun q hq e => by have := hx1.size; omega)).trans' hx6 (fun q hq e => by have := hx1.size; have := hx2.size; omega)⟩)
         skip))
    all_goals (first
      | (fail_if_success (refine Br.mk (i := 2) ?_))
      | (refine Br.mk (i := 2) ?_
         all_goals (refine WC.skip ?_)
         skip))
    all_goals (repeat' (with_reducible first | refine thenP_n ?_ | refine blockP_n ?_))
    all_goals (refine WC.seq ?_)
    all_goals (refine WC.region ?_)
    all_goals (refine WL.step (ok_loadN (fun w => Tryz.isAgg32 w) (fun w => Tryz.sizeOf32 w) rfl rfl (by exact At.of_block hb5)) rfl rfl rfl ?_)
    all_goals (refine WL.stepR0 (okE_storeW (fun w => Tryz.sizeOf32 w) rfl rfl rfl hb45 rfl (by simp [Value.oneCell'])) rfl rfl ?_
               rintro _ h6 ⟨hb6, hx6⟩)
    all_goals (refine WL.nil ?_)
    all_goals (repeat' (with_reducible first | refine thenP_n ?_ | refine blockP_n ?_))
    all_goals (refine WC.sub [(4, _)] ⟨rfl, trivial⟩ ?_)
    all_goals (refine WC.ret ?_)
    all_goals (repeat' (with_reducible first | refine thenP_r ?_ | refine blockP_r ?_))
    all_goals (refine retP_1 _ ⟨⟨_, rfl, ld_blk (fun w => Tryz.isAgg32 w) (fun w => Tryz.sizeOf32 w) hb6 rfl⟩, trivial⟩ ?_)
    all_goals (have ho5 := ho4.ext hx5 (fun q hq e => by obtain ⟨_, z⟩ := own_kind ho4 hq; rw [e, hx4.obj hb33 nos] at z; simp at z)
               exact ⟨_, rfl, ho5.ext hx6 (fun q hq e => by obtain ⟨_, z⟩ := own_kind ho5 hq; rw [e, hb45] at z; simp at z), ((hX3.trans hx4).trans' hx5 (fun q hq e => by have := hx1.size; omega)).trans' hx6 (fun q hq e => by have := hx1.size; have := hx2.size; omega)⟩)
  · rw [if_neg hft]
    have kn := fun h' (x0 : Ext No h h') v' (ho : Own h' v' 60 2 F.length (F.flatMap FieldD.cells)) => renamed_e F f t c x ho.rd hm hc hx (hM.ext0 x0) hxl hfl htl
    obtain ⟨A, cc, rfl, _⟩ := id hr
    unfold eC at kn
    refine calls [(0, _), (1, _)] Tryz.func10 rfl Tryz.ntmps10 rfl ⟨rfl, rfl, trivial⟩ ?_
    all_goals (refine WC.seq ?_)
    all_goals (refine WC.region ?_)
    all_goals (refine WL.stepR (okE_box rfl) rfl rfl rfl ?_
               rintro _ h1 ⟨b2, rfl, hg2, hb2, hx1⟩)
    all_goals (refine WL.stepR (okE_box rfl) rfl rfl rfl ?_
               rintro _ h2 ⟨b3, rfl, hg3, hb3, hx2⟩)
    all_goals (refine WL.stepR (okE_alloc (fun w => Tryz.zeroValue32 w)) rfl rfl rfl ?_
               rintro _ h3 ⟨b4, rfl, hg4, hb4, hx3⟩)
    all_goals (have hX3 := (hx1.trans hx2).trans hx3
               have hb23 := (hx2.trans hx3).obj hb2 nos
               have hb33 := hx3.obj hb3 nos)
    all_goals (refine WL.nil ?_)
    all_goals (repeat' (with_reducible first | refine thenP_n ?_ | refine blockP_n ?_))
    all_goals (refine WC.seq ?_)
    all_goals (refine WC.region ?_)
    all_goals (refine WL.step (ok_loadN (fun w => Tryz.isAgg32 w) (fun w => Tryz.sizeOf32 w) rfl rfl (by exact At.of_block hb33)) rfl rfl rfl ?_)
    all_goals (refine WL.call (vs := [_]) rfl (fun a w => Tryz.call34 a w) rfl (kc _ hX3) rfl rfl rfl ?_
               rintro _ h4 ⟨v4, rfl, ho4, hx4⟩
               obtain ⟨A4, c4, rfl, _⟩ := ho4.slice
               unfold eB)
    all_goals (refine WL.stepR0 (okE_storeW (fun w => Tryz.sizeOf32 w) rfl rfl rfl (hx4.obj hb33 nos) rfl (by simp [Value.oneCell'])) rfl rfl ?_
               rintro _ h5 ⟨hb5, hx5⟩)
    all_goals (have hb45 := hx5.obj (hx4.obj hb4 nos) (fun e => by have := lt_of_some hb3; omega)
               have hb25 := hx5.obj (hx4.obj hb23 nos) (fun e => by have := lt_of_some hb2; omega)
               have ho5 := ho4.ext hx5 (fun q hq e => by obtain ⟨_, z⟩ := own_kind ho4 hq; rw [e, hx4.obj hb33 nos] at z; simp at z)
               have hX5 := (hX3.trans hx4).trans' hx5 (fun q hq e => by have := hx1.size; omega))
    all_goals (refine WL.nil ?_)
    all_goals (repeat' (with_reducible first | refine thenP_n ?_ | refine blockP_n ?_))
    all_goals (refine WC.sub [(2, _), (3, _), (4, _)] ⟨rfl, rfl, rfl, trivial⟩ ?_)
    all_goals (refine WC.seq ?_)
    all_goals (refine WC.seq ?_)
    all_goals (refine WC.region ?_)
    all_goals (refine WL.step (ok_fieldAddr rfl Tryz.underlying32 rfl (fun w => Tryz.sizeOf5 w)) rfl rfl rfl ?_)
    all_goals (refine WL.step (ok_load (fun w => Tryz.isAgg5 w) rfl (by first | exact cell_blk hb5 rfl | assumption | exact cell_blk (by assumption) rfl)) rfl rfl rfl ?_)
    all_goals (first | (refine WL.step (OkP.bool_t (by omega) (ok_eql rfl rfl)) rfl rfl rfl ?_) | (refine WL.step (OkP.bool_f (by omega) (ok_eql rfl rfl)) rfl rfl rfl ?_) | (refine WL.step (ok_eql rfl rfl) rfl rfl rfl ?_))
    all_goals (refine WL.step (ok_move rfl) rfl rfl rfl ?_)
    all_goals (try ((fail_if_success (refine WL.part 10 (b := true) rfl (fun _ => ?_) (fun _ => ?_))); (fail_if_success (refine WL.part 10 (b := false) rfl (fun _ => ?_) (fun _ => ?_))); (refine WL.part 10 rfl (fun hb => ?_) (fun hb => ?_) <;> (first | replace hb := of_decide_eq_true hb | replace hb := of_decide_eq_false hb | replace hb := of_decide_eq_false (nt hb) | replace hb := of_decide_eq_true (nf hb) | skip))))
    all_goals (first | (refine WL.pass rfl rfl rfl ?_) | (refine WL.step (ok_fieldAddr rfl Tryz.underlying26 rfl (fun w => Tryz.sizeOf9 w)) rfl rfl rfl ?_))
    all_goals (first | (refine WL.pass rfl rfl rfl ?_) | (refine WL.step (ok_load (fun w => Tryz.isAgg9 w) rfl (by first | exact cell_blk hb25 rfl | assumption | exact cell_blk (by assumption) rfl)) rfl rfl rfl ?_))
    all_goals (first | (refine WL.pass rfl rfl rfl ?_) | (refine WL.step (ok_fieldAddr rfl Tryz.underlying26 rfl (fun w => Tryz.sizeOf9 w)) rfl rfl rfl ?_))
    all_goals (first | (refine WL.pass rfl rfl rfl ?_) | (refine WL.step (ok_load (fun w => Tryz.isAgg9 w) rfl (by first | exact cell_blk hb25 rfl | assumption | exact cell_blk (by assumption) rfl)) rfl rfl rfl ?_))
    all_goals (first | (refine WL.pass rfl rfl rfl ?_) | (first | (refine WL.step (OkP.nbool_f (by first | rfl | assumption | decide) (ok_neqS rfl rfl)) rfl rfl rfl ?_) | (refine WL.step (OkP.nbool_t (by first | assumption | decide) (ok_neqS rfl rfl)) rfl rfl rfl ?_) | (refine WL.step (ok_neqS rfl rfl) rfl rfl rfl ?_)))
    all_goals (first | (refine WL.step (ok_pick_t rfl rfl) rfl rfl rfl ?_) | (refine WL.step (ok_pick_f rfl rfl) rfl rfl rfl ?_))
    all_goals (refine WL.nil ?_)
    all_goals (repeat' (with_reducible first | refine thenP_n ?_ | refine blockP_n ?_))
    all_goals (refine WC.sub [(2, _), (3, _), (4, _), (16, _)] ⟨rfl, rfl, rfl, rfl, trivial⟩ ?_)
    all_goals (first | refine WC.condB_t 1 rfl ?_ | refine WC.condB_f 2 rfl ?_ | (refine WC.condB 1 2 rfl (fun hb => ?_) (fun hb => ?_) <;> (first | replace hb := of_decide_eq_true hb | replace hb := of_decide_eq_false hb | replace hb := of_decide_eq_false (nt hb) | replace hb := of_decide_eq_true (nf hb) | skip)))
    all_goals (first
      | (fail_if_success (refine Br.mk (i := 1) ?_))
      | (refine Br.mk (i := 1) ?_
         all_goals (refine WC.seq ?_)
         all_goals (refine WC.region ?_)
         all_goals (refine WL.step (ok_loadN (fun w => Tryz.isAgg26 w) (fun w => Tryz.sizeOf26 w) rfl rfl (by exact At.of_block hb25)) rfl rfl rfl ?_)
         all_goals (refine WL.step (ok_loadN (fun w => Tryz.isAgg32 w) (fun w => Tryz.sizeOf32 w) rfl rfl (by exact At.of_block hb5)) rfl rfl rfl ?_)
         all_goals (refine WL.call (vs := [_, _]) rfl (fun a w => Tryz.call35 a w) rfl (kn _ hX5 _ ho5) rfl rfl rfl ?_
                    rintro _ h6 ⟨v6, rfl, ho6, hx6⟩
                    obtain ⟨A6, c6, rfl, _⟩ := ho6.slice
                    unfold eB)
         all_goals (refine WL.stepR0 (okE_storeW (fun w => Tryz.sizeOf32 w) rfl rfl rfl (hx6.obj hb45 nos) rfl (by simp [Value.oneCell'])) rfl rfl ?_
                    rintro _ h7 ⟨hb7, hx7⟩)
         all_goals (refine WL.nil ?_)
         all_goals (repeat' (with_reducible first | refine thenP_n ?_ | refine blockP_n ?_))
         all_goals (refine WC.sub [(4, _)] ⟨rfl, trivial⟩ ?_)
         all_goals (refine WC.ret ?_)
         all_goals (repeat' (with_reducible first | refine thenP_r ?_ | refine blockP_r ?_))
         all_goals (refine retP_1 _ ⟨⟨_, rfl, ld_blk (fun w => Tryz.isAgg32 w) (fun w => Tryz.sizeOf32 w) hb7 rfl⟩, trivial⟩ ?_)
         all_goals (exact ⟨_, rfl, ho6.ext hx7 (fun q hq e => by obtain ⟨_, z⟩ := own_kind ho6 hq; rw [e, hx6.obj hb45 nos] at z; simp at z), (hX5.trans hx6).trans' hx7 (fun q hq e => by have := hx1.size; have := hx2.size; omega)⟩)
         skip))
    all_goals (first
      | (fail_if_success (refine Br.mk (i := 2) ?_))
      | (refine Br.mk (i := 2) ?_
         all_goals (refine WC.skip ?_)
         skip))
    all_goals (repeat' (with_reducible first | refine thenP_n ?_ | refine blockP_n ?_))
    all_goals (refine WC.seq ?_)
    all_goals (refine WC.region ?_)
    all_goals (refine WL.step (ok_loadN (fun w => Tryz.isAgg32 w) (fun w => Tryz.sizeOf32 w) rfl rfl (by assumption)) rfl rfl rfl ?_)
    all_goals (refine WL.stepR0 (okE_storeW (fun w => Tryz.sizeOf32 w) rfl rfl rfl (by assumption) rfl (by simp [Value.oneCell'])) rfl rfl ?_
               rintro _ h1 ⟨hb1, hx1⟩)
    all_goals (refine WL.nil ?_)
    all_goals (repeat' (with_reducible first | refine thenP_n ?_ | refine blockP_n ?_))
    all_goals (refine WC.sub [(4, _)] ⟨rfl, trivial⟩ ?_)
    all_goals (refine WC.ret ?_)
    all_goals (repeat' (with_reducible first | refine thenP_r ?_ | refine blockP_r ?_))
    all_goals (refine retP_1 _ ⟨⟨_, rfl, ld_blk (fun w => Tryz.isAgg32 w) (fun w => Tryz.sizeOf32 w) hb7 rfl⟩, trivial⟩ ?_)
    all_goals (exact ⟨_, rfl, ho6.ext hx7 (fun q hq e => by obtain ⟨_, z⟩ := own_kind ho6 hq; rw [e, hx6.obj hb45 nos] at z; simp at z), (hX5.trans hx6).trans' hx7 (fun q hq e => by have := hx1.size; have := hx2.size; omega)⟩)
end Go.Proofs.YtkpgnhhidnkmcaaGreatDoor

