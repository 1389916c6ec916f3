/-
  FIX (layer 25): a fault's bytes, as clients get them; the law's awake.
-/
import Derived.Test.YtkpgnhhidnkmcaaGreatDoorFlt4
namespace Go.Proofs.YtkpgnhhidnkmcaaGreatDoor
open Go Go.RK

def eBk (v : Value) (F : List FieldD) : Bk := ⟨69, 0, [], [], [], 0, 0, nilV, [], nilV, [], nilV, [], v, F⟩
theorem eBk_ok {h : Heap} {v : Value} {F : List FieldD} (hr : Rd h v 2 F.length (F.flatMap FieldD.cells)) (hm : F.length ≤ 100) : (eBk v F).ok h := ⟨⟨Rd.nil _ _, by show (0 : Nat) ≤ _; omega⟩, ⟨Rd.nil _ _, by show (0 : Nat) ≤ _; omega⟩, cels_no h, ⟨hr, by show F.length ≤ _; unfold maxLen; omega⟩⟩
theorem eBk_may {v : Value} {F : List FieldD} (hm : F.length ≤ 100) (hF : ∀ f ∈ F, f.okB) : (eBk v F).may := ⟨⟨69, rfl, rfl⟩, rfl, rfl, rfl, ⟨by show (0 : Nat) ≤ _; omega, fun _ h => by cases h⟩, ⟨by show F.length ≤ _; omega, hF⟩, ⟨by show (0 : Nat) ≤ _; omega, fun _ h => by cases h⟩, ⟨by show (0 : Nat) ≤ _; omega, fun _ h => by cases h⟩, ⟨by show (0 : Int) ≤ 0; decide, by show (0 : Int) ≤ 4294967295; decide⟩, ⟨by show (0 : Int) ≤ 0; decide, by show (0 : Int) ≤ 4294967295; decide⟩, .inl (by show ¬ (69 : Int) = 90; decide), rfl⟩
set_option maxHeartbeats 1000000 in
set_option maxRecDepth 100000 in
theorem encode_e {h : Heap} {v : Value} (F : List FieldD) (hr : Rd h v 2 F.length (F.flatMap FieldD.cells)) (hF : ∀ f ∈ F, f.t.length ≤ 200000 ∧ 0 ≤ f.k ∧ f.k ≤ 255) (hm : F.length ≤ 100) (hok : ∀ f ∈ F, f.okB) :
    CallsH Tryz.prog 62 ⟨[.agg ⟨eB v⟩]⟩ h fun u h' => ∃ v', u = .tuple ⟨[.agg ⟨[.int .u8 69, v']⟩, In 0]⟩ ∧ Own h' v' 5 1 (encF F ++ [0]).length (bys (encF F ++ [0])) ∧ Ext No h h' := by
  have kc := fun h' (hx : Ext No h h') => check_back (eBk v F) (eBk_ok (hr.ext0 hx) hm) (eBk_may hm hok)
  obtain ⟨A, c, rfl, _⟩ := id hr
  unfold eB
  simp only [eBk, Bk.cells] at kc
  refine calls [(0, _)] Tryz.func62 rfl Tryz.ntmps62 rfl ⟨rfl, trivial⟩ ?_
  all_goals (refine WC.seq ?_)
  all_goals (refine WC.region ?_)
  all_goals (refine WL.stepR (okE_box rfl) rfl rfl rfl ?_
             rintro _ h1 ⟨b1, rfl, hg1, hb1, hx1⟩)
  all_goals (refine WL.stepR (okE_alloc (fun w => Tryz.zeroValue89 w)) rfl rfl rfl ?_
             rintro _ h2 ⟨b2, rfl, hg2, hb2, hx2⟩)
  all_goals (have hX2 := hx1.trans hx2
             have hb12 := hx2.obj hb1 nos
             have s1 := hx1.size
             have s2 := hx2.size)
  all_goals (refine WL.step (ok_assign rfl) rfl rfl rfl ?_)
  all_goals (refine WL.nil ?_)
  all_goals (repeat' (with_reducible first | refine thenP_n ?_ | refine blockP_n ?_))
  all_goals (refine WC.seq ?_)
  all_goals (refine WC.seq ?_)
  all_goals (refine WC.region ?_)
  all_goals (refine WL.step (ok_loadN (fun w => Tryz.isAgg32 w) (fun w => Tryz.sizeOf32 w) rfl rfl (by exact At.of_block hb12)) rfl rfl rfl ?_)
  all_goals (refine WL.call (vs := [_]) rfl (fun a w => Tryz.call75 a w) rfl (kc _ hX2) rfl rfl rfl ?_
             rintro _ h3 ⟨rfl, hx3⟩)
  all_goals (have hb13 := hx3.obj hb12 nos)
  all_goals (refine WL.step (ok_assign rfl) rfl rfl rfl ?_)
  all_goals (refine WL.nil ?_)
  all_goals (repeat' (with_reducible first | refine thenP_n ?_ | refine blockP_n ?_))
  all_goals (refine WC.sub [(1, _), (2, _), (4, _)] ⟨rfl, rfl, rfl, trivial⟩ ?_)
  all_goals (refine WC.seq ?_)
  all_goals (refine WC.region ?_)
  all_goals (refine WL.step (ok_move rfl) rfl rfl rfl ?_)
  all_goals (first | (refine WL.step (OkP.nbool_t (by omega) (ok_neq rfl rfl)) rfl rfl rfl ?_) | (refine WL.step (OkP.nbool_f (by omega) (ok_neq rfl rfl)) rfl rfl rfl ?_) | (refine WL.step (ok_neq rfl rfl) rfl rfl rfl ?_))
  all_goals (refine WL.nil ?_)
  all_goals (repeat' (with_reducible first | refine thenP_n ?_ | refine blockP_n ?_))
  all_goals (first | refine WC.condB_t 1 rfl ?_ | refine WC.condB_f 2 rfl ?_ | (refine WC.condB 1 2 rfl (fun hb => ?_) (fun hb => ?_) <;> (first | replace hb := of_decide_eq_true hb | replace hb := of_decide_eq_false hb | replace hb := of_decide_eq_false (nt hb) | replace hb := of_decide_eq_true (nf hb) | skip)))
  all_goals (first
    | (fail_if_success (refine Br.mk (i := 1) ?_))
    | (refine Br.mk (i := 1) ?_
       all_goals (refine WC.seq ?_)
       all_goals (refine WC.region ?_)
       all_goals (refine WL.step (ok_buildF (vs := []) (cs := [_, _]) (fun | [] => [(.int .u8 0), (.slice none 0 0)] | _ => []) rfl rfl (by kernel_rfl)) rfl rfl rfl ?_)
       all_goals (refine WL.step (ok_move rfl) rfl rfl rfl ?_)
       all_goals (refine WL.stepR0 (okE_storeW (fun w => Tryz.sizeOf89 w) rfl rfl rfl (by assumption) rfl (by simp [Value.oneCell'])) rfl rfl ?_
                  rintro _ h1 ⟨hb1, hx1⟩)
       all_goals (refine WL.step (ok_assign rfl) rfl rfl rfl ?_)
       all_goals (refine WL.nil ?_)
       all_goals (repeat' (with_reducible first | refine thenP_n ?_ | refine blockP_n ?_))
       all_goals (refine WC.sub [(2, _), (3, _)] ⟨rfl, rfl, trivial⟩ ?_)
       all_goals (refine WC.ret ?_)
       all_goals (repeat' (with_reducible first | refine thenP_r ?_ | refine blockP_r ?_))
       all_goals (refine retP_2 _ _ ⟨⟨_, rfl, ld_blk (fun w => Tryz.isAgg89 w) (fun w => Tryz.sizeOf89 w) hb7 rfl⟩, rfl, trivial⟩ ?_)
       all_goals (exact ⟨_, rfl, hw6.ext hx7 (fun q hq e => by obtain ⟨_, z⟩ := own_kind hw6 hq; rw [e, hb26] at z; simp at z), w6.ext.trans' hx7 (fun q hq e => by omega)⟩)
       skip))
  all_goals (first
    | (fail_if_success (refine Br.mk (i := 2) ?_))
    | (refine Br.mk (i := 2) ?_
       all_goals (refine WC.skip ?_)
       skip))
  all_goals (repeat' (with_reducible first | refine thenP_n ?_ | refine blockP_n ?_))
  all_goals (refine WC.seq ?_)
  all_goals (refine WC.region ?_)
  all_goals (refine WL.step (ok_buildF (vs := []) (cs := [_]) (fun | [] => [(.slice none 0 0)] | _ => []) rfl rfl (by kernel_rfl)) rfl rfl rfl ?_)
  all_goals (refine WL.stepR (okE_box rfl) rfl rfl rfl ?_
             rintro _ h4 ⟨b5, rfl, hg5, hb5, hx4⟩)
  all_goals (have hb14 := hx4.obj hb13 nos
             have hb24 := (hx3.trans hx4).obj hb2 nos
             have hX4 := (hX2.trans hx3).trans hx4
             have s3 := hx3.size
             have w4 : Wr h h4 b5 nilV [] := ⟨hb5, Own.nil _ _ _, ⟨by omega, by simp [Value.ownBlock]⟩, hX4⟩
             have l2 := lt_of_some hb2
             have l1 := lt_of_some hb1)
  all_goals (refine WL.step (ok_assign rfl) rfl rfl rfl ?_)
  all_goals (refine WL.nil ?_)
  all_goals (repeat' (with_reducible first | refine thenP_n ?_ | refine blockP_n ?_))
  all_goals (refine WC.sub [(1, _), (2, _), (5, _)] ⟨rfl, rfl, rfl, trivial⟩ ?_)
  all_goals (refine WC.seq ?_)
  all_goals (refine WC.seq ?_)
  all_goals (refine WC.region ?_)
  all_goals (refine WL.step (ok_fieldAddr rfl Tryz.underlying32 rfl (fun w => Tryz.sizeOf5 w)) rfl rfl rfl ?_)
  all_goals (refine WL.step (ok_load (fun w => Tryz.isAgg5 w) rfl (by first | exact cell_blk hb14 rfl | assumption | exact cell_blk (by assumption) rfl)) rfl rfl rfl ?_)
  all_goals (refine WL.nil ?_)
  all_goals (repeat' (with_reducible first | refine thenP_n ?_ | refine blockP_n ?_))
  all_goals (refine WC.block ?_)
  all_goals (refine WC.seq ?_)
  all_goals (refine WC.region ?_)
  all_goals (first | (refine WL.step (OkP.bool_t (by omega) (ok_eql rfl rfl)) rfl rfl rfl ?_) | (refine WL.step (OkP.bool_f (by omega) (ok_eql rfl rfl)) rfl rfl rfl ?_) | (refine WL.step (ok_eql rfl rfl) rfl rfl rfl ?_))
  all_goals (refine WL.step (ok_assign rfl) rfl rfl rfl ?_)
  all_goals (refine WL.nil ?_)
  all_goals (repeat' (with_reducible first | refine thenP_n ?_ | refine blockP_n ?_))
  all_goals (first | refine WC.condB_t 3 rfl ?_ | refine WC.condB_f 4 rfl ?_ | (refine WC.condB 3 4 rfl (fun hb => ?_) (fun hb => ?_) <;> (first | replace hb := of_decide_eq_true hb | replace hb := of_decide_eq_false hb | replace hb := of_decide_eq_false (nt hb) | replace hb := of_decide_eq_true (nf hb) | skip)))
  all_goals (first
    | (fail_if_success (refine Br.mk (i := 3) ?_))
    | (refine Br.mk (i := 3) ?_
       all_goals (refine WC.region ?_)
       all_goals (refine WL.step (ok_move rfl) rfl rfl rfl ?_)
       all_goals (fail "no contract for call of (*remuda/back.writer).num at 7.1")
       all_goals (refine WL.nil ?_)
       skip))
  all_goals (first
    | (fail_if_success (refine Br.mk (i := 4) ?_))
    | (refine Br.mk (i := 4) ?_
       all_goals (refine WC.seq ?_)
       all_goals (refine WC.region ?_)
       all_goals (first | (refine WL.step (OkP.bool_t (by omega) (ok_eql rfl rfl)) rfl rfl rfl ?_) | (refine WL.step (OkP.bool_f (by omega) (ok_eql rfl rfl)) rfl rfl rfl ?_) | (refine WL.step (ok_eql rfl rfl) rfl rfl rfl ?_))
       all_goals (refine WL.step (ok_assign rfl) rfl rfl rfl ?_)
       all_goals (refine WL.nil ?_)
       all_goals (repeat' (with_reducible first | refine thenP_n ?_ | refine blockP_n ?_))
       all_goals (refine WC.sub [(1, _), (2, _), (5, _), (19, _), (24, _)] ⟨rfl, rfl, rfl, rfl, rfl, trivial⟩ ?_)
       all_goals (first | refine WC.condB_t 5 rfl ?_ | refine WC.condB_f 6 rfl ?_ | (refine WC.condB 5 6 rfl (fun hb => ?_) (fun hb => ?_) <;> (first | replace hb := of_decide_eq_true hb | replace hb := of_decide_eq_false hb | replace hb := of_decide_eq_false (nt hb) | replace hb := of_decide_eq_true (nf hb) | skip)))
       all_goals (first
         | (fail_if_success (refine Br.mk (i := 5) ?_))
         | (refine Br.mk (i := 5) ?_
            all_goals (refine WC.seq ?_)
            all_goals (refine WC.region ?_)
            all_goals (refine WL.step (ok_move rfl) rfl rfl rfl ?_)
            all_goals (refine WL.step (ok_fieldAddr rfl Tryz.underlying32 rfl (fun w => Tryz.sizeOf9 w)) rfl rfl rfl ?_)
            all_goals (refine WL.step (ok_load (fun w => Tryz.isAgg9 w) rfl (by first | assumption | exact cell_blk (by assumption) rfl)) rfl rfl rfl ?_)
            all_goals (fail "no contract for call of (*remuda/back.writer).text at 9.3")
            all_goals (refine WL.nil ?_)
            all_goals (repeat' (with_reducible first | refine thenP_n ?_ | refine blockP_n ?_))
            all_goals (refine WC.sub [(1, _), (2, _), (5, _)] ⟨rfl, rfl, rfl, trivial⟩ ?_)
            all_goals (refine WC.region ?_)
            all_goals (refine WL.step (ok_move rfl) rfl rfl rfl ?_)
            all_goals (refine WL.step (ok_fieldAddr rfl Tryz.underlying32 rfl (fun w => Tryz.sizeOf9 w)) rfl rfl rfl ?_)
            all_goals (refine WL.step (ok_load (fun w => Tryz.isAgg9 w) rfl (by first | assumption | exact cell_blk (by assumption) rfl)) rfl rfl rfl ?_)
            all_goals (fail "no contract for call of (*remuda/back.writer).text at 10.3")
            all_goals (refine WL.nil ?_)
            skip))
       all_goals (first
         | (fail_if_success (refine Br.mk (i := 6) ?_))
         | (refine Br.mk (i := 6) ?_
            all_goals (refine WC.seq ?_)
            all_goals (refine WC.region ?_)
            all_goals (first | (refine WL.step (OkP.bool_t (by omega) (ok_eql rfl rfl)) rfl rfl rfl ?_) | (refine WL.step (OkP.bool_f (by omega) (ok_eql rfl rfl)) rfl rfl rfl ?_) | (refine WL.step (ok_eql rfl rfl) rfl rfl rfl ?_))
            all_goals (refine WL.step (ok_assign rfl) rfl rfl rfl ?_)
            all_goals (refine WL.nil ?_)
            all_goals (repeat' (with_reducible first | refine thenP_n ?_ | refine blockP_n ?_))
            all_goals (first | refine WC.condB_t 7 rfl ?_ | refine WC.condB_f 8 rfl ?_ | (refine WC.condB 7 8 rfl (fun hb => ?_) (fun hb => ?_) <;> (first | replace hb := of_decide_eq_true hb | replace hb := of_decide_eq_false hb | replace hb := of_decide_eq_false (nt hb) | replace hb := of_decide_eq_true (nf hb) | skip)))
            all_goals (first
              | (fail_if_success (refine Br.mk (i := 7) ?_))
              | (refine Br.mk (i := 7) ?_
                 all_goals (refine WC.seq ?_)
                 all_goals (refine WC.region ?_)
                 all_goals (refine WL.step (ok_move rfl) rfl rfl rfl ?_)
                 all_goals (refine WL.step (ok_fieldAddr rfl Tryz.underlying32 rfl (fun w => Tryz.sizeOf3 w)) rfl rfl rfl ?_)
                 all_goals (refine WL.step (ok_load (fun w => Tryz.isAgg3 w) rfl (by first | assumption | exact cell_blk (by assumption) rfl)) rfl rfl rfl ?_)
                 all_goals (fail "no contract for call of (*remuda/back.writer).num at 12.3")
                 all_goals (refine WL.nil ?_)
                 all_goals (repeat' (with_reducible first | refine thenP_n ?_ | refine blockP_n ?_))
                 all_goals (refine WC.sub [(1, _), (2, _), (5, _)] ⟨rfl, rfl, rfl, trivial⟩ ?_)
                 all_goals (refine WC.region ?_)
                 all_goals (refine WL.step (ok_move rfl) rfl rfl rfl ?_)
                 all_goals (refine WL.step (ok_fieldAddr rfl Tryz.underlying32 rfl (fun w => Tryz.sizeOf3 w)) rfl rfl rfl ?_)
                 all_goals (refine WL.step (ok_load (fun w => Tryz.isAgg3 w) rfl (by first | assumption | exact cell_blk (by assumption) rfl)) rfl rfl rfl ?_)
                 all_goals (fail "no contract for call of (*remuda/back.writer).num at 13.3")
                 all_goals (refine WL.nil ?_)
                 skip))
            all_goals (first
              | (fail_if_success (refine Br.mk (i := 8) ?_))
              | (refine Br.mk (i := 8) ?_
                 all_goals (refine WC.seq ?_)
                 all_goals (refine WC.region ?_)
                 all_goals (first | (refine WL.step (OkP.bool_t (by omega) (ok_eql rfl rfl)) rfl rfl rfl ?_) | (refine WL.step (OkP.bool_f (by omega) (ok_eql rfl rfl)) rfl rfl rfl ?_) | (refine WL.step (ok_eql rfl rfl) rfl rfl rfl ?_))
                 all_goals (refine WL.step (ok_assign rfl) rfl rfl rfl ?_)
                 all_goals (refine WL.nil ?_)
                 all_goals (repeat' (with_reducible first | refine thenP_n ?_ | refine blockP_n ?_))
                 all_goals (refine WC.sub [(1, _), (2, _), (5, _), (19, _), (44, _)] ⟨rfl, rfl, rfl, rfl, rfl, trivial⟩ ?_)
                 all_goals (first | refine WC.condB_t 9 rfl ?_ | refine WC.condB_f 10 rfl ?_ | (refine WC.condB 9 10 rfl (fun hb => ?_) (fun hb => ?_) <;> (first | replace hb := of_decide_eq_true hb | replace hb := of_decide_eq_false hb | replace hb := of_decide_eq_false (nt hb) | replace hb := of_decide_eq_true (nf hb) | skip)))
                 all_goals (first
                   | (fail_if_success (refine Br.mk (i := 9) ?_))
                   | (refine Br.mk (i := 9) ?_
                      all_goals (refine WC.region ?_)
                      all_goals (refine WL.step (ok_move rfl) rfl rfl rfl ?_)
                      all_goals (refine WL.step (ok_fieldAddr rfl Tryz.underlying32 rfl (fun w => Tryz.sizeOf5 w)) rfl rfl rfl ?_)
                      all_goals (refine WL.step (ok_load (fun w => Tryz.isAgg5 w) rfl (by first | assumption | exact cell_blk (by assumption) rfl)) rfl rfl rfl ?_)
                      all_goals (refine WL.stepR (okE_buildSlice (vs := [_]) (cs := [_]) (fun | [a0] => [a0] | _ => []) Tryz.underlying24 rfl rfl (by kernel_rfl)) rfl rfl rfl ?_
                                 rintro _ h1 ⟨b1, rfl, hg1, hb1, hx1⟩)
                      all_goals (refine WL.step (ok_nilCheck rfl) rfl rfl rfl ?_)
                      all_goals (refine WL.step (ok_fieldAddr rfl Tryz.underlying109 rfl (fun w => Tryz.sizeOf24 w)) rfl rfl rfl ?_)
                      all_goals (refine WL.stepR0 (okE_store (fun w => Tryz.sizeOf24 w) rfl rfl (by assumption) (Nat.le_of_ble_eq_true rfl) rfl rfl) rfl rfl ?_
                                 rintro _ h1 ⟨hb1, hx1⟩)
                      all_goals (refine WL.nil ?_)
                      skip))
                 all_goals (first
                   | (fail_if_success (refine Br.mk (i := 10) ?_))
                   | (refine Br.mk (i := 10) ?_
                      all_goals (refine WC.seq ?_)
                      all_goals (refine WC.region ?_)
                      all_goals (first | (refine WL.step (OkP.bool_t (by omega) (ok_eql rfl rfl)) rfl rfl rfl ?_) | (refine WL.step (OkP.bool_f (by omega) (ok_eql rfl rfl)) rfl rfl rfl ?_) | (refine WL.step (ok_eql rfl rfl) rfl rfl rfl ?_))
                      all_goals (refine WL.step (ok_assign rfl) rfl rfl rfl ?_)
                      all_goals (refine WL.nil ?_)
                      all_goals (repeat' (with_reducible first | refine thenP_n ?_ | refine blockP_n ?_))
                      all_goals (first | refine WC.condB_t 11 rfl ?_ | refine WC.condB_f 12 rfl ?_ | (refine WC.condB 11 12 rfl (fun hb => ?_) (fun hb => ?_) <;> (first | replace hb := of_decide_eq_true hb | replace hb := of_decide_eq_false hb | replace hb := of_decide_eq_false (nt hb) | replace hb := of_decide_eq_true (nf hb) | skip)))
                      all_goals (first
                        | (fail_if_success (refine Br.mk (i := 11) ?_))
                        | (refine Br.mk (i := 11) ?_
                           all_goals (refine WC.region ?_)
                           all_goals (refine WL.step (ok_move rfl) rfl rfl rfl ?_)
                           all_goals (refine WL.step (ok_fieldAddr rfl Tryz.underlying32 rfl (fun w => Tryz.sizeOf9 w)) rfl rfl rfl ?_)
                           all_goals (refine WL.step (ok_load (fun w => Tryz.isAgg9 w) rfl (by first | assumption | exact cell_blk (by assumption) rfl)) rfl rfl rfl ?_)
                           all_goals (fail "no contract for call of (*remuda/back.writer).text at 17.3")
                           all_goals (refine WL.nil ?_)
                           skip))
                      all_goals (first
                        | (fail_if_success (refine Br.mk (i := 12) ?_))
                        | (refine Br.mk (i := 12) ?_
                           all_goals (refine WC.seq ?_)
                           all_goals (refine WC.region ?_)
                           all_goals (first | (refine WL.step (OkP.bool_t (by omega) (ok_eql rfl rfl)) rfl rfl rfl ?_) | (refine WL.step (OkP.bool_f (by omega) (ok_eql rfl rfl)) rfl rfl rfl ?_) | (refine WL.step (ok_eql rfl rfl) rfl rfl rfl ?_))
                           all_goals (refine WL.step (ok_assign rfl) rfl rfl rfl ?_)
                           all_goals (refine WL.nil ?_)
                           all_goals (repeat' (with_reducible first | refine thenP_n ?_ | refine blockP_n ?_))
                           all_goals (refine WC.sub [(1, _), (2, _), (5, _), (19, _), (58, _)] ⟨rfl, rfl, rfl, rfl, rfl, trivial⟩ ?_)
                           all_goals (first | refine WC.condB_t 13 rfl ?_ | refine WC.condB_f 14 rfl ?_ | (refine WC.condB 13 14 rfl (fun hb => ?_) (fun hb => ?_) <;> (first | replace hb := of_decide_eq_true hb | replace hb := of_decide_eq_false hb | replace hb := of_decide_eq_false (nt hb) | replace hb := of_decide_eq_true (nf hb) | skip)))
                           all_goals (first
                             | (fail_if_success (refine Br.mk (i := 13) ?_))
                             | (refine Br.mk (i := 13) ?_
                                all_goals (refine WC.region ?_)
                                all_goals (refine WL.step (ok_move rfl) rfl rfl rfl ?_)
                                all_goals (refine WL.step (ok_fieldAddr rfl Tryz.underlying32 rfl (fun w => Tryz.sizeOf29 w)) rfl rfl rfl ?_)
                                all_goals (refine WL.step (ok_load (fun w => Tryz.isAgg29 w) rfl (by first | assumption | exact cell_blk (by assumption) rfl)) rfl rfl rfl ?_)
                                all_goals (fail "no contract for call of (*remuda/back.writer).row at 19.3")
                                all_goals (refine WL.nil ?_)
                                skip))
                           all_goals (first
                             | (fail_if_success (refine Br.mk (i := 14) ?_))
                             | (refine Br.mk (i := 14) ?_
                                all_goals (refine WC.seq ?_)
                                all_goals (refine WC.region ?_)
                                all_goals (first | (refine WL.step (OkP.bool_t (by omega) (ok_eql rfl rfl)) rfl rfl rfl ?_) | (refine WL.step (OkP.bool_f (by omega) (ok_eql rfl rfl)) rfl rfl rfl ?_) | (refine WL.step (ok_eql rfl rfl) rfl rfl rfl ?_))
                                all_goals (refine WL.step (ok_assign rfl) rfl rfl rfl ?_)
                                all_goals (refine WL.nil ?_)
                                all_goals (repeat' (with_reducible first | refine thenP_n ?_ | refine blockP_n ?_))
                                all_goals (first | refine WC.condB_t 15 rfl ?_ | refine WC.condB_f 16 rfl ?_ | (refine WC.condB 15 16 rfl (fun hb => ?_) (fun hb => ?_) <;> (first | replace hb := of_decide_eq_true hb | replace hb := of_decide_eq_false hb | replace hb := of_decide_eq_false (nt hb) | replace hb := of_decide_eq_true (nf hb) | skip)))
                                all_goals (first
                                  | (fail_if_success (refine Br.mk (i := 15) ?_))
                                  | (refine Br.mk (i := 15) ?_
                                     all_goals (refine WC.seq ?_)
                                     all_goals (refine WC.region ?_)
                                     all_goals (refine WL.step (ok_move rfl) rfl rfl rfl ?_)
                                     all_goals (refine WL.step (ok_fieldAddr rfl Tryz.underlying32 rfl (fun w => Tryz.sizeOf28 w)) rfl rfl rfl ?_)
                                     all_goals (refine WL.step (ok_load (fun w => Tryz.isAgg28 w) rfl (by first | assumption | exact cell_blk (by assumption) rfl)) rfl rfl rfl ?_)
                                     all_goals (refine WL.step (ok_lenL rfl Tryz.underlying28 rfl) rfl rfl rfl ?_)
                                     all_goals (fail "no contract for call of (*remuda/back.writer).num at 21.4")
                                     all_goals (refine WL.nil ?_)
                                     all_goals (repeat' (with_reducible first | refine thenP_n ?_ | refine blockP_n ?_))
                                     all_goals (refine WC.sub [(1, _), (2, _), (5, _)] ⟨rfl, rfl, rfl, trivial⟩ ?_)
                                     all_goals (refine WC.seq ?_)
                                     all_goals (refine WC.region ?_)
                                     all_goals (refine WL.step (ok_fieldAddr rfl Tryz.underlying32 rfl (fun w => Tryz.sizeOf28 w)) rfl rfl rfl ?_)
                                     all_goals (refine WL.step (ok_load (fun w => Tryz.isAgg28 w) rfl (by first | assumption | exact cell_blk (by assumption) rfl)) rfl rfl rfl ?_)
                                     all_goals (refine WL.step (ok_lenL rfl Tryz.underlying28 rfl) rfl rfl rfl ?_)
                                     all_goals (refine WL.step (ok_move rfl) rfl rfl rfl ?_)
                                     all_goals (refine WL.nil ?_)
                                     all_goals (repeat' (with_reducible first | refine thenP_n ?_ | refine blockP_n ?_))
                                     all_goals (refine WC.block ?_)
                                     -- loop 0: slots that turn [74], that stay [1, 2, 5, 72, 73]
                                     all_goals (refine WC.loopG (fun x => (None : Fr)) [(1, _), (2, _), (5, _), (72, _), (73, _)] (None) (None) (None) ⟨rfl, rfl, rfl, rfl, rfl, rfl, trivial⟩ (by exact ⟨⟩) ?_)
                                     all_goals (rintro x h1 hI)
                                     all_goals (refine WC.sub [(74, _), (1, _), (2, _), (5, _), (72, _), (73, _)] ⟨rfl, rfl, rfl, rfl, rfl, rfl, trivial⟩ ?_)
                                     all_goals (refine WC.seq ?_)
                                     all_goals (refine WC.region ?_)
                                     all_goals (first | (refine WL.step (OkP.bool_t (by omega) (ok_lss rfl rfl)) rfl rfl rfl ?_) | (refine WL.step (OkP.bool_f (by omega) (ok_lss rfl rfl)) rfl rfl rfl ?_) | (refine WL.step (ok_lss rfl rfl) rfl rfl rfl ?_))
                                     all_goals (refine WL.nil ?_)
                                     all_goals (repeat' (with_reducible first | refine thenP_n ?_ | refine blockP_n ?_))
                                     all_goals (refine WC.seq ?_)
                                     all_goals (first | refine WC.condB_t 17 rfl ?_ | refine WC.condB_f 18 rfl ?_ | (refine WC.condB 17 18 rfl (fun hb => ?_) (fun hb => ?_) <;> (first | replace hb := of_decide_eq_true hb | replace hb := of_decide_eq_false hb | replace hb := of_decide_eq_false (nt hb) | replace hb := of_decide_eq_true (nf hb) | skip)))
                                     all_goals (first
                                       | (fail_if_success (refine Br.mk (i := 17) ?_))
                                       | (refine Br.mk (i := 17) ?_
                                          all_goals (refine WC.skip ?_)
                                          skip))
                                     all_goals (first
                                       | (fail_if_success (refine Br.mk (i := 18) ?_))
                                       | (refine Br.mk (i := 18) ?_
                                          all_goals (refine WC.exit ?_)
                                          all_goals (repeat' (with_reducible first | refine thenP_x ?_ | refine blockP_miss rfl ?_ | refine blockP_hit ?_ | refine blockP_n ?_ | refine thenP_n ?_))
                                          all_goals (refine Br.out (i := 1001) ?_)
                                          skip))
                                     all_goals (first | (refine Br.keep ?_) | (repeat' (with_reducible first | refine thenP_n ?_ | refine blockP_n ?_)))
                                     all_goals (first | (refine Br.keep ?_) | (refine WC.seq ?_))
                                     all_goals (first | (refine Br.keep ?_) | (refine WC.block ?_))
                                     all_goals (first | (refine Br.keep ?_) | (refine WC.seq ?_))
                                     all_goals (first | (refine Br.keep ?_) | (refine WC.region ?_))
                                     all_goals (first | (refine Br.keep ?_) | (refine WL.step (ok_idxAddrA Tryz.underlying28 (fun w => Tryz.sizeOf52 w) rfl rfl rfl (by omega) (by first | rfl | assumption)) rfl rfl rfl ?_))
                                     all_goals (first | (refine Br.keep ?_) | (refine WL.step (ok_loadN (fun w => Tryz.isAgg52 w) (fun w => Tryz.sizeOf52 w) rfl rfl (by assumption)) rfl rfl rfl ?_))
                                     all_goals (first
                                                  | (refine Br.keep ?_)
                                                  | (refine WL.stepR (okE_alloc (fun w => Tryz.zeroValue52 w)) rfl rfl rfl ?_
                                                     rintro _ h1 ⟨b1, rfl, hg1, hb1, hx1⟩))
                                     all_goals (first
                                                  | (refine Br.keep ?_)
                                                  | (refine WL.stepR0 (okE_storeW (fun w => Tryz.sizeOf52 w) rfl rfl rfl (by assumption) rfl (by simp [Value.oneCell'])) rfl rfl ?_
                                                     rintro _ h1 ⟨hb1, hx1⟩))
                                     all_goals (first | (refine Br.keep ?_) | (refine WL.nil ?_))
                                     all_goals (first | (refine Br.keep ?_) | (repeat' (with_reducible first | refine thenP_n ?_ | refine blockP_n ?_)))
                                     all_goals (first | (refine Br.keep ?_) | (refine WC.region ?_))
                                     all_goals (first | (refine Br.keep ?_) | (refine WL.step (ok_move rfl) rfl rfl rfl ?_))
                                     all_goals (first | (refine Br.keep ?_) | (refine WL.step (ok_loadN (fun w => Tryz.isAgg52 w) (fun w => Tryz.sizeOf52 w) rfl rfl (by assumption)) rfl rfl rfl ?_))
                                     all_goals (first | (refine Br.keep ?_) | (fail "no contract for call of (*remuda/back.writer).column at 25.2"))
                                     all_goals (first | (refine Br.keep ?_) | (refine WL.nil ?_))
                                     all_goals (first | (refine Br.keep ?_) | (repeat' (with_reducible first | refine thenP_n ?_ | refine blockP_n ?_)))
                                     all_goals (first | (refine Br.keep ?_) | (refine WC.sub [(1, _), (2, _), (5, _), (72, _), (73, _), (74, _)] ⟨rfl, rfl, rfl, rfl, rfl, rfl, trivial⟩ ?_))
                                     all_goals (first | (refine Br.keep ?_) | (refine WC.region ?_))
                                     all_goals (first | (refine Br.keep ?_) | (first | (refine WL.step (ok_addI rfl rfl (by omega)) rfl rfl rfl ?_) | (refine WL.step (ok_add rfl rfl) rfl rfl rfl ?_)))
                                     all_goals (first | (refine Br.keep ?_) | (refine WL.step (ok_move rfl) rfl rfl rfl ?_))
                                     all_goals (first | (refine Br.keep ?_) | (refine WL.nil ?_))
                                     all_goals (first | (refine Br.keep ?_) | (repeat' (with_reducible first | refine thenP_n ?_ | refine blockP_n ?_)))
                                     all_goals (first | (refine Br.keep ?_) | (exact ⟨None, ⟨rfl, rfl, rfl, rfl, rfl, rfl, trivial⟩, (by exact ⟨⟩), (by simp; omega)⟩))
                                     all_goals (try (refine Br.mk (i := 1001) ?_))
                                     skip))
                                all_goals (first
                                  | (fail_if_success (refine Br.mk (i := 16) ?_))
                                  | (refine Br.mk (i := 16) ?_
                                     all_goals (refine WC.seq ?_)
                                     all_goals (refine WC.region ?_)
                                     all_goals (first | (refine WL.step (OkP.bool_t (by omega) (ok_eql rfl rfl)) rfl rfl rfl ?_) | (refine WL.step (OkP.bool_f (by omega) (ok_eql rfl rfl)) rfl rfl rfl ?_) | (refine WL.step (ok_eql rfl rfl) rfl rfl rfl ?_))
                                     all_goals (refine WL.step (ok_assign rfl) rfl rfl rfl ?_)
                                     all_goals (refine WL.nil ?_)
                                     all_goals (repeat' (with_reducible first | refine thenP_n ?_ | refine blockP_n ?_))
                                     all_goals (refine WC.sub [(1, _), (2, _), (5, _), (19, _), (82, _)] ⟨rfl, rfl, rfl, rfl, rfl, trivial⟩ ?_)
                                     all_goals (first | refine WC.condB_t 19 rfl ?_ | refine WC.condB_f 20 rfl ?_ | (refine WC.condB 19 20 rfl (fun hb => ?_) (fun hb => ?_) <;> (first | replace hb := of_decide_eq_true hb | replace hb := of_decide_eq_false hb | replace hb := of_decide_eq_false (nt hb) | replace hb := of_decide_eq_true (nf hb) | skip)))
                                     all_goals (first
                                       | (fail_if_success (refine Br.mk (i := 19) ?_))
                                       | (refine Br.mk (i := 19) ?_
                                          all_goals (refine WC.seq ?_)
                                          all_goals (refine WC.region ?_)
                                          all_goals (refine WL.step (ok_move rfl) rfl rfl rfl ?_)
                                          all_goals (refine WL.step (ok_fieldAddr rfl Tryz.underlying32 rfl (fun w => Tryz.sizeOf27 w)) rfl rfl rfl ?_)
                                          all_goals (refine WL.step (ok_load (fun w => Tryz.isAgg27 w) rfl (by first | assumption | exact cell_blk (by assumption) rfl)) rfl rfl rfl ?_)
                                          all_goals (refine WL.step (ok_lenL rfl Tryz.underlying27 rfl) rfl rfl rfl ?_)
                                          all_goals (fail "no contract for call of (*remuda/back.writer).num at 28.4")
                                          all_goals (refine WL.nil ?_)
                                          all_goals (repeat' (with_reducible first | refine thenP_n ?_ | refine blockP_n ?_))
                                          all_goals (refine WC.sub [(1, _), (2, _), (5, _)] ⟨rfl, rfl, rfl, trivial⟩ ?_)
                                          all_goals (refine WC.seq ?_)
                                          all_goals (refine WC.region ?_)
                                          all_goals (refine WL.step (ok_fieldAddr rfl Tryz.underlying32 rfl (fun w => Tryz.sizeOf27 w)) rfl rfl rfl ?_)
                                          all_goals (refine WL.step (ok_load (fun w => Tryz.isAgg27 w) rfl (by first | assumption | exact cell_blk (by assumption) rfl)) rfl rfl rfl ?_)
                                          all_goals (refine WL.step (ok_lenL rfl Tryz.underlying27 rfl) rfl rfl rfl ?_)
                                          all_goals (refine WL.step (ok_move rfl) rfl rfl rfl ?_)
                                          all_goals (refine WL.nil ?_)
                                          all_goals (repeat' (with_reducible first | refine thenP_n ?_ | refine blockP_n ?_))
                                          all_goals (refine WC.block ?_)
                                          -- loop 1: slots that turn [92], that stay [1, 2, 5, 90, 91]
                                          all_goals (refine WC.loopG (fun x => (None : Fr)) [(1, _), (2, _), (5, _), (90, _), (91, _)] (None) (None) (None) ⟨rfl, rfl, rfl, rfl, rfl, rfl, trivial⟩ (by exact ⟨⟩) ?_)
                                          all_goals (rintro x h1 hI)
                                          all_goals (refine WC.sub [(92, _), (1, _), (2, _), (5, _), (90, _), (91, _)] ⟨rfl, rfl, rfl, rfl, rfl, rfl, trivial⟩ ?_)
                                          all_goals (refine WC.seq ?_)
                                          all_goals (refine WC.region ?_)
                                          all_goals (first | (refine WL.step (OkP.bool_t (by omega) (ok_lss rfl rfl)) rfl rfl rfl ?_) | (refine WL.step (OkP.bool_f (by omega) (ok_lss rfl rfl)) rfl rfl rfl ?_) | (refine WL.step (ok_lss rfl rfl) rfl rfl rfl ?_))
                                          all_goals (refine WL.nil ?_)
                                          all_goals (repeat' (with_reducible first | refine thenP_n ?_ | refine blockP_n ?_))
                                          all_goals (refine WC.seq ?_)
                                          all_goals (first | refine WC.condB_t 21 rfl ?_ | refine WC.condB_f 22 rfl ?_ | (refine WC.condB 21 22 rfl (fun hb => ?_) (fun hb => ?_) <;> (first | replace hb := of_decide_eq_true hb | replace hb := of_decide_eq_false hb | replace hb := of_decide_eq_false (nt hb) | replace hb := of_decide_eq_true (nf hb) | skip)))
                                          all_goals (first
                                            | (fail_if_success (refine Br.mk (i := 21) ?_))
                                            | (refine Br.mk (i := 21) ?_
                                               all_goals (refine WC.skip ?_)
                                               skip))
                                          all_goals (first
                                            | (fail_if_success (refine Br.mk (i := 22) ?_))
                                            | (refine Br.mk (i := 22) ?_
                                               all_goals (refine WC.exit ?_)
                                               all_goals (repeat' (with_reducible first | refine thenP_x ?_ | refine blockP_miss rfl ?_ | refine blockP_hit ?_ | refine blockP_n ?_ | refine thenP_n ?_))
                                               all_goals (refine Br.out (i := 1003) ?_)
                                               skip))
                                          all_goals (first | (refine Br.keep ?_) | (repeat' (with_reducible first | refine thenP_n ?_ | refine blockP_n ?_)))
                                          all_goals (first | (refine Br.keep ?_) | (refine WC.seq ?_))
                                          all_goals (first | (refine Br.keep ?_) | (refine WC.block ?_))
                                          all_goals (first | (refine Br.keep ?_) | (refine WC.seq ?_))
                                          all_goals (first | (refine Br.keep ?_) | (refine WC.region ?_))
                                          all_goals (first | (refine Br.keep ?_) | (refine WL.step (ok_idxAddrA Tryz.underlying27 (fun w => Tryz.sizeOf3 w) rfl rfl rfl (by omega) (by first | rfl | assumption)) rfl rfl rfl ?_))
                                          all_goals (first | (refine Br.keep ?_) | (refine WL.step (ok_load (fun w => Tryz.isAgg3 w) rfl (by first | assumption | exact cell_blk (by assumption) rfl)) rfl rfl rfl ?_))
                                          all_goals (first | (refine Br.keep ?_) | (refine WL.step (ok_assign rfl) rfl rfl rfl ?_))
                                          all_goals (first | (refine Br.keep ?_) | (refine WL.nil ?_))
                                          all_goals (first | (refine Br.keep ?_) | (repeat' (with_reducible first | refine thenP_n ?_ | refine blockP_n ?_)))
                                          all_goals (first | (refine Br.keep ?_) | (refine WC.region ?_))
                                          all_goals (first | (refine Br.keep ?_) | (refine WL.step (ok_move rfl) rfl rfl rfl ?_))
                                          all_goals (first | (refine Br.keep ?_) | (refine WL.step (ok_move rfl) rfl rfl rfl ?_))
                                          all_goals (first | (refine Br.keep ?_) | (fail "no contract for call of (*remuda/back.writer).num at 32.2"))
                                          all_goals (first | (refine Br.keep ?_) | (refine WL.nil ?_))
                                          all_goals (first | (refine Br.keep ?_) | (repeat' (with_reducible first | refine thenP_n ?_ | refine blockP_n ?_)))
                                          all_goals (first | (refine Br.keep ?_) | (refine WC.sub [(1, _), (2, _), (5, _), (90, _), (91, _), (92, _)] ⟨rfl, rfl, rfl, rfl, rfl, rfl, trivial⟩ ?_))
                                          all_goals (first | (refine Br.keep ?_) | (refine WC.region ?_))
                                          all_goals (first | (refine Br.keep ?_) | (first | (refine WL.step (ok_addI rfl rfl (by omega)) rfl rfl rfl ?_) | (refine WL.step (ok_add rfl rfl) rfl rfl rfl ?_)))
                                          all_goals (first | (refine Br.keep ?_) | (refine WL.step (ok_move rfl) rfl rfl rfl ?_))
                                          all_goals (first | (refine Br.keep ?_) | (refine WL.nil ?_))
                                          all_goals (first | (refine Br.keep ?_) | (repeat' (with_reducible first | refine thenP_n ?_ | refine blockP_n ?_)))
                                          all_goals (first | (refine Br.keep ?_) | (exact ⟨None, ⟨rfl, rfl, rfl, rfl, rfl, rfl, trivial⟩, (by exact ⟨⟩), (by simp; omega)⟩))
                                          all_goals (try (refine Br.mk (i := 1003) ?_))
                                          skip))
                                     all_goals (first
                                       | (fail_if_success (refine Br.mk (i := 20) ?_))
                                       | (refine Br.mk (i := 20) ?_
                                          all_goals (refine WC.seq ?_)
                                          all_goals (refine WC.seq ?_)
                                          all_goals (refine WC.region ?_)
                                          all_goals (first | (refine WL.step (OkP.bool_t (by omega) (ok_eql rfl rfl)) rfl rfl rfl ?_) | (refine WL.step (OkP.bool_f (by omega) (ok_eql rfl rfl)) rfl rfl rfl ?_) | (refine WL.step (ok_eql rfl rfl) rfl rfl rfl ?_))
                                          all_goals (refine WL.step (ok_assign rfl) rfl rfl rfl ?_)
                                          all_goals (refine WL.nil ?_)
                                          all_goals (repeat' (with_reducible first | refine thenP_n ?_ | refine blockP_n ?_))
                                          all_goals (first | refine WC.condB_t 23 rfl ?_ | refine WC.condB_f 24 rfl ?_ | (refine WC.condB 23 24 rfl (fun hb => ?_) (fun hb => ?_) <;> (first | replace hb := of_decide_eq_true hb | replace hb := of_decide_eq_false hb | replace hb := of_decide_eq_false (nt hb) | replace hb := of_decide_eq_true (nf hb) | skip)))
                                          all_goals (first
                                            | (fail_if_success (refine Br.mk (i := 23) ?_))
                                            | (refine Br.mk (i := 23) ?_
                                               all_goals (refine WC.skip ?_)
                                               skip))
                                          all_goals (first
                                            | (fail_if_success (refine Br.mk (i := 24) ?_))
                                            | (refine Br.mk (i := 24) ?_
                                               all_goals (refine WC.region ?_)
                                               all_goals (first | (refine WL.step (OkP.bool_t (by omega) (ok_eql rfl rfl)) rfl rfl rfl ?_) | (refine WL.step (OkP.bool_f (by omega) (ok_eql rfl rfl)) rfl rfl rfl ?_) | (refine WL.step (ok_eql rfl rfl) rfl rfl rfl ?_))
                                               all_goals (refine WL.step (ok_assign rfl) rfl rfl rfl ?_)
                                               all_goals (refine WL.nil ?_)
                                               skip))
                                          all_goals (repeat' (with_reducible first | refine thenP_n ?_ | refine blockP_n ?_))
                                          all_goals (first | refine WC.condB_t 25 rfl ?_ | refine WC.condB_f 26 rfl ?_ | (refine WC.condB 25 26 rfl (fun hb => ?_) (fun hb => ?_) <;> (first | replace hb := of_decide_eq_true hb | replace hb := of_decide_eq_false hb | replace hb := of_decide_eq_false (nt hb) | replace hb := of_decide_eq_true (nf hb) | skip)))
                                          all_goals (first
                                            | (fail_if_success (refine Br.mk (i := 25) ?_))
                                            | (refine Br.mk (i := 25) ?_
                                               all_goals (refine WC.region ?_)
                                               all_goals (refine WL.step (ok_move rfl) rfl rfl rfl ?_)
                                               all_goals (refine WL.step (ok_fieldAddr rfl Tryz.underlying32 rfl (fun w => Tryz.sizeOf30 w)) rfl rfl rfl ?_)
                                               all_goals (refine WL.step (ok_load (fun w => Tryz.isAgg30 w) rfl (by first | exact cell_blk hb14 rfl | assumption | exact cell_blk (by assumption) rfl)) rfl rfl rfl ?_)
                                               all_goals (refine WL.call (vs := [_, _]) rfl (fun a w => Tryz.call80 a w) rfl (fields_w F w4 hr hF hm) rfl rfl rfl ?_
                                                          rintro _ h6 ⟨v6, w6, hx6⟩)
                                               all_goals (have hb16 := hx6.obj hb14 (fun e => by omega)
                                                          have hb26 := hx6.obj hb24 (fun e => by omega)
                                                          have hw6 := w6.own
                                                          obtain ⟨A6, c6, rfl, _⟩ := hw6.slice)
                                               all_goals (refine WL.nil ?_)
                                               skip))
                                          all_goals (first
                                            | (fail_if_success (refine Br.mk (i := 26) ?_))
                                            | (refine Br.mk (i := 26) ?_
                                               all_goals (refine WC.skip ?_)
                                               skip))
                                          skip))
                                     skip))
                                skip))
                           skip))
                      skip))
                 skip))
            skip))
       skip))
  all_goals (repeat' (with_reducible first | refine thenP_n ?_ | refine blockP_n ?_))
  all_goals (refine WC.seq ?_)
  all_goals (refine WC.drawH (fun h' => Ext No h6 h') 7 9 rfl fol ?_)
  all_goals (refine WH.take 0 rfl (by kernel_rfl) (by kernel_rfl) (by kernel_rfl) (by kernel_rfl) rfl (by first | exact Ext.refl _ _ | assumption) (fun hq hC => ok_fieldAddr rfl Tryz.underlying32 rfl (fun w => Tryz.sizeOf5 w)) rfl rfl rfl ?_)
  all_goals (refine WH.take 1 rfl (by kernel_rfl) (by kernel_rfl) (by kernel_rfl) (by kernel_rfl) rfl (by first | exact Ext.refl _ _ | assumption) (fun hq hC => ok_load (fun w => Tryz.isAgg5 w) rfl (by first | exact hC.cell (by first | exact cell_blk hb16 rfl | assumption | exact cell_blk (by assumption) rfl) nos)) rfl rfl rfl ?_)
  all_goals (refine WH.take 2 rfl (by kernel_rfl) (by kernel_rfl) (by kernel_rfl) (by kernel_rfl) rfl (by first | exact Ext.refl _ _ | assumption) (fun hq hC => ok_move rfl) rfl rfl rfl ?_)
  all_goals (refine WH.take 3 rfl (by kernel_rfl) (by kernel_rfl) (by kernel_rfl) (by kernel_rfl) rfl (by first | exact Ext.refl _ _ | assumption) (fun hq hC => ok_nilCheck rfl) rfl rfl rfl ?_)
  all_goals (refine WH.take 4 rfl (by kernel_rfl) (by kernel_rfl) (by kernel_rfl) (by kernel_rfl) rfl (by first | exact Ext.refl _ _ | assumption) (fun hq hC => ok_fieldAddr rfl Tryz.underlying109 rfl (fun w => Tryz.sizeOf24 w)) rfl rfl rfl ?_)
  all_goals (refine WH.take 5 rfl (by kernel_rfl) (by kernel_rfl) (by kernel_rfl) (by kernel_rfl) rfl (by first | exact Ext.refl _ _ | assumption) (fun hq hC => ok_load (fun w => Tryz.isAgg24 w) rfl (by first | exact hC.cell (by first | exact cell_blk w6.blk rfl | assumption | exact cell_blk (by assumption) rfl) nos)) rfl rfl rfl ?_)
  all_goals (refine WH.take 6 rfl (by kernel_rfl) (by kernel_rfl) (by kernel_rfl) (by kernel_rfl) rfl (by first | exact Ext.refl _ _ | assumption) (fun hq hC => ok_buildF (vs := [_, _]) (cs := [_, _]) (fun | [a0, a1] => [a0, a1] | _ => []) rfl rfl (by kernel_rfl)) rfl rfl rfl ?_)
  all_goals (refine WH.one 7 (by kernel_rfl) ?_)
  all_goals (refine Comes1.run0 rfl (okE_storeW (fun w => Tryz.sizeOf89 w) rfl rfl rfl hb26 rfl (by simp [Value.oneCell'])) rfl rfl ?_ (fun _ => by kernel_rfl)
             rintro _ h7 ⟨hb7, hx7⟩)
  all_goals (refine ⟨fun e => (by cases e), ?_⟩)
  all_goals (refine WH.one 8 (by kernel_rfl) ?_)
  all_goals (refine Comes1.run rfl (OkP.r (ok_assign rfl)) rfl rfl rfl ?_ (fun _ => by kernel_rfl)
             rintro _ hz ⟨rfl, _⟩
             subst hz)
  all_goals (refine ⟨fun e => (by cases e), ?_⟩)
  all_goals (refine WH.done (by kernel_rfl) ?_)
  all_goals (repeat' (with_reducible first | refine thenP_n ?_ | refine blockP_n ?_))
  all_goals (refine WC.sub [(2, _), (3, _)] ⟨rfl, rfl, trivial⟩ ?_)
  all_goals (refine WC.ret ?_)
  all_goals (repeat' (with_reducible first | refine thenP_r ?_ | refine blockP_r ?_))
  all_goals (refine retP_2 _ _ ⟨⟨_, rfl, ld_blk (fun w => Tryz.isAgg89 w) (fun w => Tryz.sizeOf89 w) hb7 rfl⟩, rfl, trivial⟩ ?_)
  all_goals (exact ⟨_, rfl, hw6.ext hx7 (fun q hq e => by obtain ⟨_, z⟩ := own_kind hw6 hq; rw [e, hb26] at z; simp at z), w6.ext.trans' hx7 (fun q hq e => by omega)⟩)
theorem rtF {n : Int} (h : 0 ≤ n ∧ n ≤ 4294967295) : Rt n 4 := by
  unfold Rt
  rw [show (256 : Int) ^ 4 = 4294967296 from rfl]
  omega
set_option maxRecDepth 100000 in
theorem fbytes {h : Heap} {v : Value} (l : List UInt8) (hv : Rd h v 1 l.length (bys l)) (hl : l.length ≤ 1000000000) :
    CallsH Tryz.prog 63 ⟨[.agg ⟨[.int .u8 69, v]⟩]⟩ h fun u h' => ∃ L : List UInt8, l.length ≤ L.length ∧ L.length ≤ l.length + 5 ∧ Own h' u 5 1 L.length (bys L) ∧ Ext No h h' := by
  obtain ⟨A, c, rfl, _⟩ := id hv
  refine calls [(0, _)] Tryz.func63 rfl Tryz.ntmps63 rfl ⟨rfl, trivial⟩ ?_
  all_goals (refine WC.seq ?_)
  all_goals (refine WC.region ?_)
  all_goals (refine WL.stepR (okE_box rfl) rfl rfl rfl ?_
             rintro _ h1 ⟨b1, rfl, hg1, hb1, hx1⟩)
  all_goals (refine WL.step (ok_assign rfl) rfl rfl rfl ?_)
  all_goals (refine WL.nil ?_)
  all_goals (repeat' (with_reducible first | refine thenP_n ?_ | refine blockP_n ?_))
  all_goals (refine WC.seq ?_)
  all_goals (refine WC.region ?_)
  all_goals (refine WL.step (ok_assign rfl) rfl rfl rfl ?_)
  all_goals (refine WL.nil ?_)
  all_goals (repeat' (with_reducible first | refine thenP_n ?_ | refine blockP_n ?_))
  all_goals (refine WC.seq ?_)
  all_goals (refine WC.seq ?_)
  all_goals (refine WC.region ?_)
  all_goals (refine WL.step (ok_fieldAddr rfl Tryz.underlying89 rfl (fun w => Tryz.sizeOf5 w)) rfl rfl rfl ?_)
  all_goals (refine WL.step (ok_load (fun w => Tryz.isAgg5 w) rfl (by first | assumption | exact cell_blk (by assumption) rfl)) rfl rfl rfl ?_)
  all_goals (first | (refine WL.step (OkP.nbool_t (by omega) (ok_neq rfl rfl)) rfl rfl rfl ?_) | (refine WL.step (OkP.nbool_f (by omega) (ok_neq rfl rfl)) rfl rfl rfl ?_) | (refine WL.step (ok_neq rfl rfl) rfl rfl rfl ?_))
  all_goals (refine WL.nil ?_)
  all_goals (repeat' (with_reducible first | refine thenP_n ?_ | refine blockP_n ?_))
  all_goals (refine WC.sub [(1, _), (3, _), (6, _)] ⟨rfl, rfl, rfl, trivial⟩ ?_)
  all_goals (first | refine WC.condB_t 1 rfl ?_ | refine WC.condB_f 2 rfl ?_ | (refine WC.condB 1 2 rfl (fun hb => ?_) (fun hb => ?_) <;> (first | replace hb := of_decide_eq_true hb | replace hb := of_decide_eq_false hb | replace hb := of_decide_eq_false (nt hb) | replace hb := of_decide_eq_true (nf hb) | skip)))
  all_goals (first
    | (fail_if_success (refine Br.mk (i := 1) ?_))
    | (refine Br.mk (i := 1) ?_
       all_goals (refine WC.region ?_)
       all_goals (refine WL.step (ok_fieldAddr rfl Tryz.underlying89 rfl (fun w => Tryz.sizeOf5 w)) rfl rfl rfl ?_)
       all_goals (refine WL.step (ok_load (fun w => Tryz.isAgg5 w) rfl (by first | assumption | exact cell_blk (by assumption) rfl)) rfl rfl rfl ?_)
       all_goals (refine WL.stepR (okE_buildSlice (vs := [_]) (cs := [_]) (fun | [a0] => [a0] | _ => []) Tryz.underlying24 rfl rfl (by kernel_rfl)) rfl rfl rfl ?_
                  rintro _ h2 ⟨b2, rfl, hg2, hb2, hx2⟩)
       all_goals (have hb12 := hx2.obj hb1 nos
                  have hX2 := hx1.trans hx2
                  have hr2 : Rd h2 (.slice (some ⟨b2, 0, none⟩) 1 1) 1 ([69] : List UInt8).length (bys [69]) := rd_blk hb2 rfl)
       all_goals (refine WL.step (ok_assign rfl) rfl rfl rfl ?_)
       all_goals (refine WL.nil ?_)
       skip))
  all_goals (first
    | (fail_if_success (refine Br.mk (i := 2) ?_))
    | (refine Br.mk (i := 2) ?_
       all_goals (refine WC.skip ?_)
       skip))
  all_goals (repeat' (with_reducible first | refine thenP_n ?_ | refine blockP_n ?_))
  all_goals (refine WC.seq ?_)
  all_goals (refine WC.drawH (fun h' => Ext No h2 h') 9 10 rfl fol ?_)
  all_goals (refine WH.take 0 rfl (by kernel_rfl) (by kernel_rfl) (by kernel_rfl) (by kernel_rfl) rfl (by first | exact Ext.refl _ _ | assumption) (fun hq hC => ok_move rfl) rfl rfl rfl ?_)
  all_goals (refine WH.take 1 rfl (by kernel_rfl) (by kernel_rfl) (by kernel_rfl) (by kernel_rfl) rfl (by first | exact Ext.refl _ _ | assumption) (fun hq hC => ok_fieldAddr rfl Tryz.underlying89 rfl (fun w => Tryz.sizeOf24 w)) rfl rfl rfl ?_)
  all_goals (refine WH.take 2 rfl (by kernel_rfl) (by kernel_rfl) (by kernel_rfl) (by kernel_rfl) rfl (by first | exact Ext.refl _ _ | assumption) (fun hq hC => ok_load (fun w => Tryz.isAgg24 w) rfl (by first | exact hC.cell (by first | exact cell_blk hb12 rfl | assumption | exact cell_blk (by assumption) rfl) nos)) rfl rfl rfl ?_)
  all_goals (refine WH.take 3 rfl (by kernel_rfl) (by kernel_rfl) (by kernel_rfl) (by kernel_rfl) rfl (by first | exact Ext.refl _ _ | assumption) (fun hq hC => ok_lenL rfl Tryz.underlying24 rfl) rfl rfl rfl ?_)
  all_goals (first | (refine WH.take 4 rfl (by kernel_rfl) (by kernel_rfl) (by kernel_rfl) (by kernel_rfl) rfl (by first | exact Ext.refl _ _ | assumption) (fun hq hC => ok_addI rfl rfl (by omega)) rfl rfl rfl ?_) | (refine WH.take 4 rfl (by kernel_rfl) (by kernel_rfl) (by kernel_rfl) (by kernel_rfl) rfl (by first | exact Ext.refl _ _ | assumption) (fun hq hC => ok_add rfl rfl) rfl rfl rfl ?_))
  all_goals (refine WH.take 6 rfl (by kernel_rfl) (by kernel_rfl) (by kernel_rfl) (by kernel_rfl) rfl (by first | exact Ext.refl _ _ | assumption) (fun hq hC => ok_fieldAddr rfl Tryz.underlying89 rfl (fun w => Tryz.sizeOf24 w)) rfl rfl rfl ?_)
  all_goals (refine WH.take 7 rfl (by kernel_rfl) (by kernel_rfl) (by kernel_rfl) (by kernel_rfl) rfl (by first | exact Ext.refl _ _ | assumption) (fun hq hC => ok_load (fun w => Tryz.isAgg24 w) rfl (by first | exact hC.cell (by first | exact cell_blk hb12 rfl | assumption | exact cell_blk (by assumption) rfl) nos)) rfl rfl rfl ?_)
  all_goals (refine WH.one 5 (by kernel_rfl) ?_)
  all_goals (refine Comes1.call (vs := [_, _, _]) rfl rfl (fun a w => Tryz.call81 a w) rfl (put_v [69] (4 + (l.length : Int)) 4 (.inr (.inr rfl)) (rtF ⟨by omega, by omega⟩) hr2 (by decide)) rfl rfl rfl ?_ (fun _ => by kernel_rfl)
             rintro v5 h5 ⟨ho5, hx5, hf5⟩)
  all_goals (refine ⟨fun _ => hx5, ?_⟩)
  all_goals (have hbl : ([69] ++ be (4 + (l.length : Int)) 4).length = 5 := by simp [be_len])
  all_goals (refine WH.one 8 (by kernel_rfl) ?_)
  all_goals (refine Comes1.run rfl (ok_append (sz := 1) (bytes := 1) rfl Tryz.underlying24 (show Tryz.prog.info? 5 = some Tryz.t5 by kernel_rfl) rfl rfl rfl rfl (by decide) rfl rfl ho5 (hv.ext0 (hX2.trans hx5)) (by intro c hc; obtain ⟨b, _, rfl⟩ := List.mem_map.1 hc; rfl) (by simp only [maxLen]; omega) (by omega)) rfl rfl rfl ?_ (fun _ => by kernel_rfl)
             rintro v8 h8 ⟨ho8, hx8, hl8⟩)
  all_goals (refine ⟨fun _ => hx5.trans' hx8 (fun q hq e => by have := hf5 q e; omega), ?_⟩)
  all_goals (have hX8 := hx5.trans' hx8 (fun q hq e => by have := hf5 q e; omega))
  all_goals (refine WH.one 9 (by kernel_rfl) ?_)
  all_goals (refine Comes1.run rfl (OkP.r (ok_assign rfl)) rfl rfl rfl ?_ (fun _ => by kernel_rfl)
             rintro _ hz ⟨rfl, _⟩
             subst hz)
  all_goals (refine ⟨fun _ => hX8, ?_⟩)
  all_goals (refine WH.done (by kernel_rfl) ?_)
  all_goals (repeat' (with_reducible first | refine thenP_n ?_ | refine blockP_n ?_))
  all_goals (refine WC.sub [(2, _)] ⟨rfl, trivial⟩ ?_)
  all_goals (refine WC.ret ?_)
  all_goals (repeat' (with_reducible first | refine thenP_r ?_ | refine blockP_r ?_))
  all_goals (refine retP_1 _ ⟨rfl, trivial⟩ ?_)
  all_goals (exact ⟨([69] ++ be (4 + (l.length : Int)) 4) ++ l, by simp; omega, by simp [be_len]; omega, by rw [List.length_append, show bys (([69] ++ be (4 + (l.length : Int)) 4) ++ l) = bys ([69] ++ be (4 + (l.length : Int)) 4) ++ bys l from List.map_append ..]; exact ho8, hX2.trans hX8⟩)
set_option maxRecDepth 100000 in
theorem bbytes {h : Heap} {b : Nat} {v : Value} (F : List FieldD) (hB0 : h[b]? = some (.cells ⟨eB v⟩ 32 (0, 0))) (hr : Rd h v 2 F.length (F.flatMap FieldD.cells)) (hF : ∀ f ∈ F, f.t.length ≤ 200000 ∧ 0 ≤ f.k ∧ f.k ≤ 255) (hm : F.length ≤ 100) (hok : ∀ f ∈ F, f.okB) (hl : (encF F).length ≤ 100000000) :
    CallsH Tryz.prog 39 ⟨[.slice (some ⟨b, 0, none⟩) 1 1]⟩ h fun u h' => ∃ L : List UInt8, (encF F).length + 1 ≤ L.length ∧ Own h' u 5 1 L.length (bys L) ∧ Ext No h h' := by
  have ke := fun h' (hx : Ext No h h') => encode_e F (hr.ext0 hx) hF hm hok
  obtain ⟨A, c, rfl, _⟩ := id hr
  unfold eB at *
  refine calls [(0, _)] Tryz.func39 rfl Tryz.ntmps39 rfl ⟨rfl, trivial⟩ ?_
  all_goals (refine WC.seq ?_)
  all_goals (refine WC.region ?_)
  all_goals (refine WL.step (ok_assign rfl) rfl rfl rfl ?_)
  all_goals (refine WL.nil ?_)
  all_goals (repeat' (with_reducible first | refine thenP_n ?_ | refine blockP_n ?_))
  all_goals (refine WC.seq ?_)
  all_goals (refine WC.region ?_)
  all_goals (refine WL.step (ok_assign rfl) rfl rfl rfl ?_)
  all_goals (refine WL.nil ?_)
  all_goals (repeat' (with_reducible first | refine thenP_n ?_ | refine blockP_n ?_))
  all_goals (refine WC.seq ?_)
  all_goals (refine WC.seq ?_)
  all_goals (refine WC.region ?_)
  all_goals (refine WL.step (ok_move rfl) rfl rfl rfl ?_)
  all_goals (refine WL.step (ok_lenL rfl Tryz.underlying73 rfl) rfl rfl rfl ?_)
  all_goals (refine WL.step (ok_move rfl) rfl rfl rfl ?_)
  all_goals (refine WL.nil ?_)
  all_goals (repeat' (with_reducible first | refine thenP_n ?_ | refine blockP_n ?_))
  all_goals (refine WC.block ?_)
  -- loop 0: slots that turn [3, 10], that stay [8, 9]
  all_goals (refine WC.loopG (X := Nat × Value) (fun x => ([(10, In (x.1 : Int)), (3, x.2)] : Fr)) [(8, _), (9, _)] (fun y h' => Ext No h h' ∧ ((y.1 = 0 ∧ y.2 = nilV) ∨ (y.1 = 1 ∧ ∃ L : List UInt8, (encF F).length + 1 ≤ L.length ∧ Own h' y.2 5 1 L.length (bys L)))) (fun y => 1 - y.1) ((0, nilV)) ⟨rfl, rfl, rfl, rfl, trivial⟩ (by exact ⟨.refl _ _, .inl ⟨rfl, rfl⟩⟩) ?_)
  all_goals (rintro ⟨k, w⟩ h1 ⟨hx1, hI⟩
             dsimp only at hI)
  all_goals (refine WC.sub [(3, _), (10, _), (8, _), (9, _)] ⟨rfl, rfl, rfl, rfl, trivial⟩ ?_)
  all_goals (dsimp only)
  all_goals (refine WC.seq ?_)
  all_goals (refine WC.region ?_)
  all_goals (first | (refine WL.step (OkP.bool_t (by omega) (ok_lss rfl rfl)) rfl rfl rfl ?_) | (refine WL.step (OkP.bool_f (by omega) (ok_lss rfl rfl)) rfl rfl rfl ?_) | (refine WL.step (ok_lss rfl rfl) rfl rfl rfl ?_))
  all_goals (refine WL.nil ?_)
  all_goals (repeat' (with_reducible first | refine thenP_n ?_ | refine blockP_n ?_))
  all_goals (refine WC.seq ?_)
  all_goals (first | refine WC.condB_t 1 rfl ?_ | refine WC.condB_f 2 rfl ?_ | (refine WC.condB 1 2 rfl (fun hb => ?_) (fun hb => ?_) <;> (first | replace hb := of_decide_eq_true hb | replace hb := of_decide_eq_false hb | replace hb := of_decide_eq_false (nt hb) | replace hb := of_decide_eq_true (nf hb) | skip)))
  all_goals (first
    | (fail_if_success (refine Br.mk (i := 1) ?_))
    | (refine Br.mk (i := 1) ?_
       all_goals (refine WC.skip ?_)
       skip))
  all_goals (first
    | (fail_if_success (refine Br.mk (i := 2) ?_))
    | (refine Br.mk (i := 2) ?_
       all_goals (refine WC.exit ?_)
       all_goals (repeat' (with_reducible first | refine thenP_x ?_ | refine blockP_miss rfl ?_ | refine blockP_hit ?_ | refine blockP_n ?_ | refine thenP_n ?_))
       all_goals (refine Br.out (i := 1000) ?_)
       skip))
  all_goals (first | (refine Br.keep ?_) | (repeat' (with_reducible first | refine thenP_n ?_ | refine blockP_n ?_)))
  all_goals (first | (refine Br.keep ?_) | (refine WC.seq ?_))
  all_goals (first | (refine Br.keep ?_) | (refine WC.block ?_))
  all_goals (first | (refine Br.keep ?_) | (refine WC.seq ?_))
  all_goals (first | (refine Br.keep ?_) | (refine WC.region ?_))
  all_goals (first | (refine Br.keep ?_) | (obtain ⟨rfl, rfl⟩ : k = 0 ∧ w = nilV := by rcases hI with h | ⟨h, _⟩; exact h; exfalso; omega))
  all_goals (first | (refine Br.keep ?_) | (refine WL.step (ok_idxAddrA Tryz.underlying73 (fun w => Tryz.sizeOf32 w) rfl rfl rfl (by omega) (by first | rfl | assumption)) rfl rfl rfl ?_))
  all_goals (first | (refine Br.keep ?_) | (refine WL.step (ok_loadN (fun w => Tryz.isAgg32 w) (fun w => Tryz.sizeOf32 w) rfl rfl (by exact show At _ _ 0 (eB (.slice A F.length c)) from At.of_block (hx1.obj hB0 nos))) rfl rfl rfl ?_))
  all_goals (first
               | (refine Br.keep ?_)
               | (refine WL.stepR (okE_alloc (fun w => Tryz.zeroValue32 w)) rfl rfl rfl ?_
                  rintro _ h2 ⟨b2, rfl, hg2, hb2, hx2⟩))
  all_goals (first
               | (refine Br.keep ?_)
               | (refine WL.stepR0 (okE_storeW (fun w => Tryz.sizeOf32 w) rfl rfl rfl hb2 rfl (by simp [eB, Value.oneCell'])) rfl rfl ?_
                  rintro _ h3 ⟨hb3, hx3⟩))
  all_goals (first | (refine Br.keep ?_) | (have hX3 := hx1.trans (hx2.trans' hx3 (fun q hq e => by omega))))
  all_goals (first | (refine Br.keep ?_) | (refine WL.nil ?_))
  all_goals (first | (refine Br.keep ?_) | (repeat' (with_reducible first | refine thenP_n ?_ | refine blockP_n ?_)))
  all_goals (first | (refine Br.keep ?_) | (refine WC.seq ?_))
  all_goals (first | (refine Br.keep ?_) | (refine WC.region ?_))
  all_goals (first | (refine Br.keep ?_) | (refine WL.step (ok_loadN (fun w => Tryz.isAgg32 w) (fun w => Tryz.sizeOf32 w) rfl rfl (by exact At.of_block hb3)) rfl rfl rfl ?_))
  all_goals (first
               | (refine Br.keep ?_)
               | (refine WL.call (vs := [_]) rfl (fun a w => Tryz.call62 a w) rfl (ke _ hX3) rfl rfl rfl ?_
                  rintro _ h4 ⟨v4, rfl, ho4, hx4⟩
                  obtain ⟨A4, c4, rfl, _⟩ := ho4.slice))
  all_goals (first | (refine Br.keep ?_) | (refine WL.step (ok_move rfl) rfl rfl rfl ?_))
  all_goals (first | (refine Br.keep ?_) | (refine WL.step (ok_extract rfl rfl) rfl rfl rfl ?_))
  all_goals (first | (refine Br.keep ?_) | (refine WL.step (ok_extract rfl rfl) rfl rfl rfl ?_))
  all_goals (first
               | (refine Br.keep ?_)
               | (refine WL.stepR (okE_alloc (fun w => Tryz.zeroValue89 w)) rfl rfl rfl ?_
                  rintro _ h5 ⟨b6, rfl, hg6, hb6, hx5⟩))
  all_goals (first
               | (refine Br.keep ?_)
               | (refine WL.stepR0 (okE_storeW (fun w => Tryz.sizeOf89 w) rfl rfl rfl hb6 rfl (by simp [Value.oneCell'])) rfl rfl ?_
                  rintro _ h6 ⟨hb66, hx6⟩))
  all_goals (first
               | (refine Br.keep ?_)
               | (have hX46 : Ext No h4 h6 := hx5.trans' hx6 (fun q hq e => by omega)
                  have ho6 := ho4.ext hX46 (fun _ _ => nos)))
  all_goals (first | (refine Br.keep ?_) | (refine WL.step (ok_assign rfl) rfl rfl rfl ?_))
  all_goals (first | (refine Br.keep ?_) | (refine WL.nil ?_))
  all_goals (first | (refine Br.keep ?_) | (repeat' (with_reducible first | refine thenP_n ?_ | refine blockP_n ?_)))
  all_goals (first | (refine Br.keep ?_) | (refine WC.sub [(3, _), (6, _), (7, _), (8, _), (9, _), (10, _)] ⟨rfl, rfl, rfl, rfl, rfl, rfl, trivial⟩ ?_))
  all_goals (first | (refine Br.keep ?_) | (refine WC.seq ?_))
  all_goals (first | (refine Br.keep ?_) | (refine WC.seq ?_))
  all_goals (first | (refine Br.keep ?_) | (refine WC.region ?_))
  all_goals (first | (refine Br.keep ?_) | (refine WL.step (ok_move rfl) rfl rfl rfl ?_))
  all_goals (first | (refine Br.keep ?_) | (first | (refine WL.step (OkP.nbool_t (by omega) (ok_neq rfl rfl)) rfl rfl rfl ?_) | (refine WL.step (OkP.nbool_f (by omega) (ok_neq rfl rfl)) rfl rfl rfl ?_) | (refine WL.step (ok_neq rfl rfl) rfl rfl rfl ?_)))
  all_goals (first | (refine Br.keep ?_) | (refine WL.nil ?_))
  all_goals (first | (refine Br.keep ?_) | (repeat' (with_reducible first | refine thenP_n ?_ | refine blockP_n ?_)))
  all_goals (first | (refine Br.keep ?_) | (first | refine WC.condB_t 3 rfl ?_ | refine WC.condB_f 4 rfl ?_ | (refine WC.condB 3 4 rfl (fun hb => ?_) (fun hb => ?_) <;> (first | replace hb := of_decide_eq_true hb | replace hb := of_decide_eq_false hb | replace hb := of_decide_eq_false (nt hb) | replace hb := of_decide_eq_true (nf hb) | skip))))
  all_goals (first
    | (fail_if_success (refine Br.mk (i := 3) ?_))
    | (refine Br.mk (i := 3) ?_
       all_goals (refine WC.exit ?_)
       all_goals (repeat' (with_reducible first | refine thenP_x ?_ | refine blockP_miss rfl ?_ | refine blockP_hit ?_ | refine blockP_n ?_ | refine thenP_n ?_))
       all_goals (refine Br.out (i := 1001) ?_)
       skip))
  all_goals (first
    | (fail_if_success (refine Br.mk (i := 4) ?_))
    | (refine Br.mk (i := 4) ?_
       all_goals (refine WC.skip ?_)
       skip))
  all_goals (first | (refine Br.keep ?_) | (repeat' (with_reducible first | refine thenP_n ?_ | refine blockP_n ?_)))
  all_goals (first | (refine Br.keep ?_) | (refine WC.region ?_))
  all_goals (first | (refine Br.keep ?_) | (refine WL.step (ok_move rfl) rfl rfl rfl ?_))
  all_goals (first | (refine Br.keep ?_) | (refine WL.step (ok_loadN (fun w => Tryz.isAgg89 w) (fun w => Tryz.sizeOf89 w) rfl rfl (by exact At.of_block hb66)) rfl rfl rfl ?_))
  all_goals (first
               | (refine Br.keep ?_)
               | (refine WL.call (vs := [_]) rfl (fun a w => Tryz.call63 a w) rfl (fbytes (encF F ++ [0]) ho6.rd (by simp only [List.length_append, List.length_cons, List.length_nil]; omega)) rfl rfl rfl ?_
                  rintro v7 h7 ⟨L, hL1, hL2, ho7, hx7⟩
                  have hL3 : L.length ≤ 200000000 := by simp only [List.length_append, List.length_cons, List.length_nil] at hL2; omega
                  obtain ⟨A7, c7, rfl, _⟩ := ho7.slice))
  all_goals (first
               | (refine Br.keep ?_)
               | (refine WL.stepR (ok_append (sz := 1) (bytes := 1) rfl Tryz.underlying24 (show Tryz.prog.info? 5 = some Tryz.t5 by kernel_rfl) rfl rfl rfl rfl (by decide) rfl rfl (Own.nil _ _ _) ho7.rd (by intro c hc; obtain ⟨b, _, rfl⟩ := List.mem_map.1 hc; rfl) (by simp only [maxLen]; omega) (by omega)) rfl rfl rfl ?_
                  rintro v8 h8 ⟨ho8, hx8, hl8⟩))
  all_goals (first | (refine Br.keep ?_) | (refine WL.step (ok_assign rfl) rfl rfl rfl ?_))
  all_goals (first | (refine Br.keep ?_) | (refine WL.nil ?_))
  all_goals (first | (refine Br.keep ?_) | (repeat' (with_reducible first | refine thenP_n ?_ | refine blockP_n ?_)))
  all_goals (try (refine Br.mk (i := 1001) ?_))
  all_goals (first | (refine Br.keep ?_) | (repeat' (with_reducible first | refine thenP_n ?_ | refine blockP_n ?_)))
  all_goals (first | (refine Br.keep ?_) | (refine WC.sub [(3, _), (8, _), (9, _), (10, _)] ⟨rfl, rfl, rfl, rfl, trivial⟩ ?_))
  all_goals (first | (refine Br.keep ?_) | (refine WC.region ?_))
  all_goals (first | (refine Br.keep ?_) | (first | (refine WL.step (ok_addI rfl rfl (by omega)) rfl rfl rfl ?_) | (refine WL.step (ok_add rfl rfl) rfl rfl rfl ?_)))
  all_goals (first | (refine Br.keep ?_) | (refine WL.step (ok_move rfl) rfl rfl rfl ?_))
  all_goals (first | (refine Br.keep ?_) | (refine WL.nil ?_))
  all_goals (first | (refine Br.keep ?_) | (repeat' (with_reducible first | refine thenP_n ?_ | refine blockP_n ?_)))
  all_goals (first | (refine Br.keep ?_) | (exact ⟨(0 + 1, _), ⟨rfl, rfl, rfl, rfl, trivial⟩, (by exact ⟨((hX3.trans hx4).trans hX46).trans (hx7.trans (hx8.mono fun _ _ e => by cases e)), .inr ⟨rfl, L, by simp only [List.length_append, List.length_cons, List.length_nil] at hL1; omega, by simpa using ho8⟩⟩), (by first | omega | (dsimp only; omega) | simp)⟩))
  all_goals (try (refine Br.mk (i := 1000) ?_))
  all_goals (repeat' (with_reducible first | refine thenP_n ?_ | refine blockP_n ?_))
  all_goals (refine WC.sub [(3, _)] ⟨rfl, trivial⟩ ?_)
  all_goals (refine WC.seq ?_)
  all_goals (refine WC.region ?_)
  all_goals (refine WL.step (ok_move rfl) rfl rfl rfl ?_)
  all_goals (refine WL.step (ok_assign rfl) rfl rfl rfl ?_)
  all_goals (refine WL.nil ?_)
  all_goals (repeat' (with_reducible first | refine thenP_n ?_ | refine blockP_n ?_))
  all_goals (refine WC.ret ?_)
  all_goals (repeat' (with_reducible first | refine thenP_r ?_ | refine blockP_r ?_))
  all_goals (refine retP_1 _ ⟨rfl, trivial⟩ ?_)
  all_goals (rcases hI with ⟨h, _⟩ | ⟨_, L, h1, h2⟩
             · exfalso; omega
             · exact ⟨L, h1, h2, hx1⟩)
end Go.Proofs.YtkpgnhhidnkmcaaGreatDoor

