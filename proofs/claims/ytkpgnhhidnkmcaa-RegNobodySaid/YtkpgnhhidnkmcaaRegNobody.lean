/-
  RegNobody holds: a registry that no call made has nothing.
-/
import Derived.Test.YtkpgnhhidnkmcaaR14
import Derived.Test.YtkpgnhhidnkmcaaRows
namespace Go.Proofs.Ytkpgnhhidnkmcaa
open Go Go.RK

set_option maxHeartbeats 1000000 in
set_option maxRecDepth 100000 in
theorem nobody14 {h : Heap} (s : Stm) (id : Int) (ok : stOk h s) : CallsH Try.prog 7 ⟨[.agg ⟨stC s⟩, In id]⟩ h fun u h' => u = .bool true ∧ Ext No h h' := by
  have okk : ∀ h', Ext No h h' → stOk h' s := fun h' x => ⟨ok.1.ext0 x, ok.2⟩
  refine callsD [(0, _), (1, _)] Try.func7 rfl Try.ntmps7 rfl ⟨rfl, rfl, trivial⟩ ?_
  all_goals (refine WD.seq ?_)
  all_goals (refine WD.of ?_)
  all_goals (refine WC.region ?_)
  all_goals (refine WL.stepR (okE_box rfl) rfl rfl rfl ?_
             rintro _ h0 ⟨b2, rfl, hg2, hb2, hx0⟩)
  all_goals (refine WL.stepR (okE_alloc (fun w => Try.zeroValue4 w)) rfl rfl rfl ?_
             rintro _ h1 ⟨b4, rfl, hg4, hb4, hx1⟩)
  all_goals (refine WL.nil ?_)
  all_goals (repeat' (with_reducible first | refine thenP_n ?_ | refine blockP_n ?_))
  all_goals (refine WD.sub [(1, _), (2, _), (4, _)] ⟨rfl, rfl, rfl, trivial⟩ ?_)
  all_goals (refine WD.seq ?_)
  all_goals (refine WD.of ?_)
  all_goals (refine WC.seq ?_)
  all_goals (refine WC.region ?_)
  all_goals (refine WL.call (vs := []) rfl (fun a w => Try.call20 a w) rfl (awake14) rfl rfl rfl ?_
             rintro _ h2 ⟨rfl, hx2⟩)
  all_goals (refine WL.step (ok_not rfl) rfl rfl rfl ?_)
  all_goals (refine WL.nil ?_)
  all_goals (repeat' (with_reducible first | refine thenP_n ?_ | refine blockP_n ?_))
  all_goals (first | refine WC.condB_t 1 rfl ?_ | refine WC.condB_f 2 rfl ?_ | (refine WC.condB 1 2 rfl (fun hb => ?_) (fun hb => ?_) <;> (first | replace hb := of_decide_eq_true hb | replace hb := of_decide_eq_false hb | replace hb := of_decide_eq_false (nt hb) | replace hb := of_decide_eq_true (nf hb) | skip)))
  all_goals (first
    | (fail_if_success (refine Br.mk (i := 1) ?_))
    | (refine Br.mk (i := 1) ?_
       all_goals (refine WC.seq ?_)
       all_goals (refine WC.region ?_)
       all_goals (refine WL.stepR0 (okE_store (fun w => Try.sizeOf4 w) rfl rfl (by assumption) (Nat.le_of_ble_eq_true rfl) rfl rfl) rfl rfl ?_
                  rintro _ h1 ⟨hb1, hx1⟩)
       all_goals (refine WL.nil ?_)
       all_goals (repeat' (with_reducible first | refine thenP_n ?_ | refine blockP_n ?_))
       all_goals (refine WC.sub [(4, _)] ⟨rfl, trivial⟩ ?_)
       all_goals (refine WC.ret ?_)
       all_goals (repeat' (with_reducible first | refine thenP_r ?_ | refine blockP_r ?_))
       all_goals (first
                   | (fail_if_success (have := hoD); skip)
                   | (have hoD9 : open_ h12 D := ((hx10.trans hx11).trans hx12).obj hoD nos; have hoDz : open_ h13 D := hx13.obj hoD9 (fun e => by have e' : D = b4 := e; have := lt_of_some hb48; omega); have hb13' := shut_blk hoDz hb13))
       all_goals (with_reducible first | refine retD_0 ?_ | refine retD_1 (by assumption) ?_)
       all_goals (refine retP_1 _ ⟨⟨_, rfl, ld_cell (fun w => Try.isAgg4 w) (cell_blk (by assumption) rfl)⟩, trivial⟩ ?_)
       all_goals (exact ⟨rfl, ((((hX9.trans hx10).trans hx11).trans hx12).trans' hx13 (fun q hq e => by omega)).trans' (shut1 hoDz) (fun q hq e => by have e' : q = D := e; omega)⟩)
       skip))
  all_goals (first
    | (fail_if_success (refine Br.mk (i := 2) ?_))
    | (refine Br.mk (i := 2) ?_
       all_goals (refine WC.skip ?_)
       skip))
  all_goals (repeat' (with_reducible first | refine thenP_n ?_ | refine blockP_n ?_))
  all_goals (refine WD.sub [(1, _), (2, _), (4, _)] ⟨rfl, rfl, rfl, trivial⟩ ?_)
  all_goals (refine WD.seq ?_)
  all_goals (refine WD.of ?_)
  all_goals (refine WC.region ?_)
  all_goals (refine WL.step (ok_assign rfl) rfl rfl rfl ?_)
  all_goals (refine WL.nil ?_)
  all_goals (repeat' (with_reducible first | refine thenP_n ?_ | refine blockP_n ?_))
  all_goals (refine WD.sub [(1, _), (2, _), (4, _), (5, _)] ⟨rfl, rfl, rfl, rfl, trivial⟩ ?_)
  all_goals (refine WD.seq ?_)
  all_goals (refine WD.of ?_)
  all_goals (refine WC.region ?_)
  all_goals (refine WL.stepR (okE_alloc (fun w => Try.zeroValue73 w)) rfl rfl rfl ?_
             rintro _ h3 ⟨b6, rfl, hg6, hb6, hx3⟩)
  all_goals (refine WL.nil ?_)
  all_goals (repeat' (with_reducible first | refine thenP_n ?_ | refine blockP_n ?_))
  all_goals (refine WD.sub [(1, _), (2, _), (4, _), (5, _), (6, _)] ⟨rfl, rfl, rfl, rfl, rfl, trivial⟩ ?_)
  all_goals (refine WD.seq ?_)
  all_goals (refine WD.of ?_)
  all_goals (refine WC.region ?_)
  all_goals (refine WL.step (ok_move rfl) rfl rfl rfl ?_)
  all_goals (refine WL.step (ok_move rfl) rfl rfl rfl ?_)
  all_goals (refine WL.call (vs := [_, _]) rfl (fun a w => Try.call29 a w) rfl (get_none14 nor_nil id) rfl rfl rfl ?_
             rintro _ h4 ⟨rfl, hx4⟩)
  all_goals (refine WL.step (ok_move rfl) rfl rfl rfl ?_)
  all_goals (refine WL.step (ok_extract rfl rfl) rfl rfl rfl ?_)
  all_goals (refine WL.step (ok_extract rfl rfl) rfl rfl rfl ?_)
  all_goals (refine WL.stepR (okE_alloc (fun w => Try.zeroValue57 w)) rfl rfl rfl ?_
             rintro _ h5 ⟨b7, rfl, hg7, hb7, hx5⟩)
  all_goals (refine WL.stepR0 (okE_storeW (fun w => Try.sizeOf57 w) rfl rfl rfl hb7 rfl (by simp [Value.oneCell'])) rfl rfl ?_
             rintro _ h6 ⟨hb76, hx6⟩)
  all_goals (have hs0 := hx0.size
             have hs1 := hx1.size
             have hs2 := hx2.size
             have hs3 := hx3.size
             have hs4 := hx4.size
             have hs5 := hx5.size
             have hs6 := hx6.size
             have l2 := lt_of_some hb2
             have l4 := lt_of_some hb4
             have l6 := lt_of_some hb6
             have hX45 := (hx4.trans hx5).trans' hx6 (fun q hq e => by omega)
             have hb66 := hX45.obj hb6 nos
             have hX3 := ((hx0.trans hx1).trans hx2).trans hx3
             have hb26 := (((hx1.trans hx2).trans hx3).trans hX45).obj hb2 nos
             have hb46 := ((hx2.trans hx3).trans hX45).obj hb4 nos)
  all_goals (refine WL.step (ok_assign rfl) rfl rfl rfl ?_)
  all_goals (refine WL.nil ?_)
  all_goals (repeat' (with_reducible first | refine thenP_n ?_ | refine blockP_n ?_))
  all_goals (refine WD.sub [(1, _), (2, _), (4, _), (5, _), (6, _), (8, _)] ⟨rfl, rfl, rfl, rfl, rfl, rfl, trivial⟩ ?_)
  all_goals (refine WD.seq ?_)
  all_goals (refine WD.of ?_)
  all_goals (refine WC.region ?_)
  all_goals (refine WL.step (ok_loadN (fun w => Try.isAgg57 w) (fun w => Try.sizeOf57 w) rfl rfl (by exact At.of_block hb26)) rfl rfl rfl ?_)
  all_goals (refine WL.call (vs := [_, _]) rfl (fun a w => Try.call31 a w) rfl (find_none (nor_zero hb66) s) rfl rfl rfl ?_
             rintro _ h7 ⟨rfl, hx7⟩)
  all_goals (refine WL.step (ok_move rfl) rfl rfl rfl ?_)
  all_goals (refine WL.step (ok_extract rfl rfl) rfl rfl rfl ?_)
  all_goals (refine WL.step (ok_extract rfl rfl) rfl rfl rfl ?_)
  all_goals (refine WL.step (ok_assign rfl) rfl rfl rfl ?_)
  all_goals (refine WL.step (ok_assign rfl) rfl rfl rfl ?_)
  all_goals (refine WL.nil ?_)
  all_goals (repeat' (with_reducible first | refine thenP_n ?_ | refine blockP_n ?_))
  all_goals (refine WD.sub [(1, _), (2, _), (4, _), (5, _), (6, _), (8, _), (10, _)] ⟨rfl, rfl, rfl, rfl, rfl, rfl, rfl, trivial⟩ ?_)
  all_goals (refine WD.seq ?_)
  all_goals (refine WD.seq ?_)
  all_goals (refine WD.of ?_)
  all_goals (refine WC.region ?_)
  all_goals (refine WL.step (ok_move rfl) rfl rfl rfl ?_)
  all_goals (refine WL.call (vs := [_]) rfl (fun a w => Try.call37 a w) rfl (all_r) rfl rfl rfl ?_
             rintro _ h8 ⟨bx, rfl, hbx, hgx, hx8⟩)
  all_goals (have hX78 := hx7.trans hx8
             have hX8 := (hX3.trans hX45).trans hX78
             have hb68 := hX78.obj hb66 nos
             have hb28 := hX78.obj hb26 nos
             have hb48 := hX78.obj hb46 nos
             have lx := lt_of_some hbx
             have hs7 := hX78.size)
  all_goals (refine WL.nil ?_)
  all_goals (repeat' (with_reducible first | refine thenP_n ?_ | refine blockP_n ?_))
  all_goals (refine WD.sub [(1, _), (2, _), (4, _), (5, _), (6, _), (8, _), (10, _), (25, _)] ⟨rfl, rfl, rfl, rfl, rfl, rfl, rfl, rfl, trivial⟩ ?_)
  all_goals (refine WD.block ?_)
  all_goals (refine WD.range (L := ([] : List En)) (enc := enR) rfl (fun a w => Try.call49 a w) (fun h' hx => rnil_seq (hx.obj hbx nos) nor_nil) (fun q e => by rw [e]; exact lx) (fun _ => rfl) (by kernel_rfl) (X := Unit) (fun k _ h' => Ext No h8 h') (fun _ _ _ => False) (fun _ _ => False) (()) (fun h' hx => hx) (fun _ _ _ _ _ e => e.elim) (fun _ e => e.elim) (fun k x h1 h2 S hJ hx hS => hJ.trans' hx (fun q hq e => by have := (hS q e (Nat.lt_of_lt_of_le hq hJ.size)).1; omega)) (fun _ _ _ _ _ e _ _ => e.elim) (fun l k x h1 a hL hJ => Br.out (i := 8000) ?_) (fun D x h1 hJ hoD hD hnD => Br.out (i := 8001) ?_) (fun _ _ _ e _ _ _ => e.elim) (fun _ _ _ _ e _ _ _ => e.elim))
  all_goals (first
    | (fail_if_success (refine Br.mk (i := 8000) ?_))
    | (refine Br.mk (i := 8000) ?_
       all_goals (cases hL)
       all_goals (refine WC.sub [(4, _)] ⟨rfl, trivial⟩ ?_)
       all_goals (refine WC.skip ?_)
       all_goals (repeat' (with_reducible first | refine thenP_n ?_ | refine blockP_n ?_))
       all_goals (refine ⟨rfl, fun h2 hJ2 => ?_⟩)
       all_goals (refine WC.block ?_)
       all_goals (refine WC.seq ?_)
       all_goals (refine WC.region ?_)
       all_goals (refine WL.stepR0 (okE_store (fun w => Try.sizeOf4 w) rfl rfl (by assumption) (Nat.le_of_ble_eq_true rfl) rfl rfl) rfl rfl ?_
                  rintro _ h1 ⟨hb1, hx1⟩)
       all_goals (refine WL.nil ?_)
       all_goals (repeat' (with_reducible first | refine thenP_n ?_ | refine blockP_n ?_))
       all_goals (refine WC.ret ?_)
       all_goals (repeat' (with_reducible first | refine thenP_r ?_ | refine blockP_r ?_))
       all_goals (skip)
       all_goals (repeat' (with_reducible first | refine thenP_n ?_ | refine blockP_n ?_))
       all_goals (try (refine Br.mk (i := 7999) ?_))
       all_goals (skip)
       skip))
  all_goals (try (refine Br.mk (i := 8001) ?_))
  all_goals (have hX9 := hX8.trans hJ
             have hb29 := hJ.obj hb28 nos
             have hb69 := hJ.obj hb68 nos
             have hb49 := hJ.obj hb48 nos)
  all_goals (repeat' (with_reducible first | refine thenP_n ?_ | refine blockP_n ?_))
  all_goals (refine WD.sub [(1, _), (2, _), (4, _), (5, _), (6, _), (8, _), (10, _)] ⟨rfl, rfl, rfl, rfl, rfl, rfl, rfl, trivial⟩ ?_)
  all_goals (refine WD.of ?_)
  all_goals (refine WC.seq ?_)
  all_goals (refine WC.region ?_)
  all_goals (refine WL.step (ok_move rfl) rfl rfl rfl ?_)
  all_goals (refine WL.step (ok_loadN (fun w => Try.isAgg57 w) (fun w => Try.sizeOf57 w) rfl rfl (by exact At.of_block hb29)) rfl rfl rfl ?_)
  all_goals (refine WL.call (vs := [_, _]) rfl (fun a w => Try.call23 a w) rfl (put_none14 nor_nil s (okk _ hX9)) rfl rfl rfl ?_
             rintro _ h10 ⟨rfl, hx10⟩)
  all_goals (have hb2a := hx10.obj hb29 nos
             have hb6a := hx10.obj hb69 nos
             have hb4a := hx10.obj hb49 nos)
  all_goals (first | (refine WL.step (OkP.bool_t (by omega) (ok_eql rfl rfl)) rfl rfl rfl ?_) | (refine WL.step (OkP.bool_f (by omega) (ok_eql rfl rfl)) rfl rfl rfl ?_) | (refine WL.step (ok_eql rfl rfl) rfl rfl rfl ?_))
  all_goals (refine WL.step (ok_move rfl) rfl rfl rfl ?_)
  all_goals (try ((fail_if_success (refine WL.part 32 (b := true) rfl (fun _ => ?_) (fun _ => ?_))); (fail_if_success (refine WL.part 32 (b := false) rfl (fun _ => ?_) (fun _ => ?_))); (refine WL.part 32 rfl (fun hb => ?_) (fun hb => ?_) <;> (first | replace hb := of_decide_eq_true hb | replace hb := of_decide_eq_false hb | replace hb := of_decide_eq_false (nt hb) | replace hb := of_decide_eq_true (nf hb) | skip))))
  all_goals (first | (refine WL.pass rfl rfl rfl ?_) | (refine WL.step (ok_loadN (fun w => Try.isAgg57 w) (fun w => Try.sizeOf57 w) rfl rfl (by exact At.of_block hb2a)) rfl rfl rfl ?_))
  all_goals (first
               | (refine WL.pass rfl rfl rfl ?_)
               | (refine WL.call (vs := [_, _]) rfl (fun a w => Try.call23 a w) rfl (put_none14 (nor_zero hb6a) s (okk _ (hX9.trans hx10))) rfl rfl rfl ?_
                  rintro _ h11 ⟨rfl, hx11⟩))
  all_goals (have hb6b := hx11.obj hb6a nos
             have hb4b := hx11.obj hb4a nos)
  all_goals (first | (refine WL.pass rfl rfl rfl ?_) | (first | (refine WL.step (OkP.bool_t (by omega) (ok_eql rfl rfl)) rfl rfl rfl ?_) | (refine WL.step (OkP.bool_f (by omega) (ok_eql rfl rfl)) rfl rfl rfl ?_) | (refine WL.step (ok_eql rfl rfl) rfl rfl rfl ?_)))
  all_goals (first | (refine WL.step (ok_pick_t rfl rfl) rfl rfl rfl ?_) | (refine WL.step (ok_pick_f rfl rfl) rfl rfl rfl ?_))
  all_goals (refine WL.step (ok_move rfl) rfl rfl rfl ?_)
  all_goals (try ((fail_if_success (refine WL.part 37 (b := true) rfl (fun _ => ?_) (fun _ => ?_))); (fail_if_success (refine WL.part 37 (b := false) rfl (fun _ => ?_) (fun _ => ?_))); (refine WL.part 37 rfl (fun hb => ?_) (fun hb => ?_) <;> (first | replace hb := of_decide_eq_true hb | replace hb := of_decide_eq_false hb | replace hb := of_decide_eq_false (nt hb) | replace hb := of_decide_eq_true (nf hb) | skip))))
  all_goals (first | (refine WL.pass rfl rfl rfl ?_) | (refine WL.step (ok_move rfl) rfl rfl rfl ?_))
  all_goals (first | (refine WL.pass rfl rfl rfl ?_) | (refine WL.step (ok_move rfl) rfl rfl rfl ?_))
  all_goals (first
               | (refine WL.pass rfl rfl rfl ?_)
               | (refine WL.call (vs := [_, _]) rfl (fun a w => Try.call25 a w) rfl (ref_none nor_nil id) rfl rfl rfl ?_
                  rintro _ hz ⟨rfl, _⟩
                  subst hz))
  all_goals (first | (refine WL.pass rfl rfl rfl ?_) | (refine WL.step (ok_not rfl) rfl rfl rfl ?_))
  all_goals (first | (refine WL.step (ok_pick_t rfl rfl) rfl rfl rfl ?_) | (refine WL.step (ok_pick_f rfl rfl) rfl rfl rfl ?_))
  all_goals (refine WL.step (ok_move rfl) rfl rfl rfl ?_)
  all_goals (try ((fail_if_success (refine WL.part 43 (b := true) rfl (fun _ => ?_) (fun _ => ?_))); (fail_if_success (refine WL.part 43 (b := false) rfl (fun _ => ?_) (fun _ => ?_))); (refine WL.part 43 rfl (fun hb => ?_) (fun hb => ?_) <;> (first | replace hb := of_decide_eq_true hb | replace hb := of_decide_eq_false hb | replace hb := of_decide_eq_false (nt hb) | replace hb := of_decide_eq_true (nf hb) | skip))))
  all_goals (first | (refine WL.pass rfl rfl rfl ?_) | (refine WL.step (ok_move rfl) rfl rfl rfl ?_))
  all_goals (first
               | (refine WL.pass rfl rfl rfl ?_)
               | (refine WL.call (vs := [_, _]) rfl (fun a w => Try.call27 a w) rfl (drop_none (nor_zero hb6b) id) rfl rfl rfl ?_
                  rintro _ hz ⟨rfl, _⟩
                  subst hz))
  all_goals (first | (refine WL.pass rfl rfl rfl ?_) | (refine WL.step (ok_not rfl) rfl rfl rfl ?_))
  all_goals (first | (refine WL.step (ok_pick_t rfl rfl) rfl rfl rfl ?_) | (refine WL.step (ok_pick_f rfl rfl) rfl rfl rfl ?_))
  all_goals (refine WL.step (ok_move rfl) rfl rfl rfl ?_)
  all_goals (try ((fail_if_success (refine WL.part 48 (b := true) rfl (fun _ => ?_) (fun _ => ?_))); (fail_if_success (refine WL.part 48 (b := false) rfl (fun _ => ?_) (fun _ => ?_))); (refine WL.part 48 rfl (fun hb => ?_) (fun hb => ?_) <;> (first | replace hb := of_decide_eq_true hb | replace hb := of_decide_eq_false hb | replace hb := of_decide_eq_false (nt hb) | replace hb := of_decide_eq_true (nf hb) | skip))))
  all_goals (first | (refine WL.pass rfl rfl rfl ?_) | (refine WL.step (ok_move rfl) rfl rfl rfl ?_))
  all_goals (first | (refine WL.pass rfl rfl rfl ?_) | (refine WL.step (ok_not rfl) rfl rfl rfl ?_))
  all_goals (first | (refine WL.step (ok_pick_t rfl rfl) rfl rfl rfl ?_) | (refine WL.step (ok_pick_f rfl rfl) rfl rfl rfl ?_))
  all_goals (refine WL.step (ok_move rfl) rfl rfl rfl ?_)
  all_goals (try ((fail_if_success (refine WL.part 52 (b := true) rfl (fun _ => ?_) (fun _ => ?_))); (fail_if_success (refine WL.part 52 (b := false) rfl (fun _ => ?_) (fun _ => ?_))); (refine WL.part 52 rfl (fun hb => ?_) (fun hb => ?_) <;> (first | replace hb := of_decide_eq_true hb | replace hb := of_decide_eq_false hb | replace hb := of_decide_eq_false (nt hb) | replace hb := of_decide_eq_true (nf hb) | skip))))
  all_goals (first | (refine WL.pass rfl rfl rfl ?_) | (refine WL.step (ok_move rfl) rfl rfl rfl ?_))
  all_goals (first | (refine WL.pass rfl rfl rfl ?_) | (refine WL.step (ok_not rfl) rfl rfl rfl ?_))
  all_goals (first | (refine WL.step (ok_pick_t rfl rfl) rfl rfl rfl ?_) | (refine WL.step (ok_pick_f rfl rfl) rfl rfl rfl ?_))
  all_goals (refine WL.step (ok_move rfl) rfl rfl rfl ?_)
  all_goals (try ((fail_if_success (refine WL.part 56 (b := true) rfl (fun _ => ?_) (fun _ => ?_))); (fail_if_success (refine WL.part 56 (b := false) rfl (fun _ => ?_) (fun _ => ?_))); (refine WL.part 56 rfl (fun hb => ?_) (fun hb => ?_) <;> (first | replace hb := of_decide_eq_true hb | replace hb := of_decide_eq_false hb | replace hb := of_decide_eq_false (nt hb) | replace hb := of_decide_eq_true (nf hb) | skip))))
  all_goals (first | (refine WL.pass rfl rfl rfl ?_) | (refine WL.step (ok_move rfl) rfl rfl rfl ?_))
  all_goals (first | (refine WL.pass rfl rfl rfl ?_) | (refine WL.step (ok_move rfl) rfl rfl rfl ?_))
  all_goals (first
               | (refine WL.pass rfl rfl rfl ?_)
               | (refine WL.call (vs := [_, _]) rfl (fun a w => Try.call34 a w) rfl (refs_none nor_nil id) rfl rfl rfl ?_
                  rintro _ hz ⟨rfl, _⟩
                  subst hz))
  all_goals (first | (refine WL.pass rfl rfl rfl ?_) | (first | (refine WL.step (OkP.bool_t (by omega) (ok_eql rfl rfl)) rfl rfl rfl ?_) | (refine WL.step (OkP.bool_f (by omega) (ok_eql rfl rfl)) rfl rfl rfl ?_) | (refine WL.step (ok_eql rfl rfl) rfl rfl rfl ?_)))
  all_goals (first | (refine WL.step (ok_pick_t rfl rfl) rfl rfl rfl ?_) | (refine WL.step (ok_pick_f rfl rfl) rfl rfl rfl ?_))
  all_goals (refine WL.step (ok_move rfl) rfl rfl rfl ?_)
  all_goals (try ((fail_if_success (refine WL.part 62 (b := true) rfl (fun _ => ?_) (fun _ => ?_))); (fail_if_success (refine WL.part 62 (b := false) rfl (fun _ => ?_) (fun _ => ?_))); (refine WL.part 62 rfl (fun hb => ?_) (fun hb => ?_) <;> (first | replace hb := of_decide_eq_true hb | replace hb := of_decide_eq_false hb | replace hb := of_decide_eq_false (nt hb) | replace hb := of_decide_eq_true (nf hb) | skip))))
  all_goals (first
               | (refine WL.pass rfl rfl rfl ?_)
               | (refine WL.call (vs := [_]) rfl (fun a w => Try.call38 a w) rfl (len_none14 (nor_zero hb6b)) rfl rfl rfl ?_
                  rintro _ hz ⟨rfl, _⟩
                  subst hz))
  all_goals (first | (refine WL.pass rfl rfl rfl ?_) | (first | (refine WL.step (OkP.bool_t (by omega) (ok_eql rfl rfl)) rfl rfl rfl ?_) | (refine WL.step (OkP.bool_f (by omega) (ok_eql rfl rfl)) rfl rfl rfl ?_) | (refine WL.step (ok_eql rfl rfl) rfl rfl rfl ?_)))
  all_goals (first | (refine WL.step (ok_pick_t rfl rfl) rfl rfl rfl ?_) | (refine WL.step (ok_pick_f rfl rfl) rfl rfl rfl ?_))
  all_goals (refine WL.step (ok_move rfl) rfl rfl rfl ?_)
  all_goals (try ((fail_if_success (refine WL.part 66 (b := true) rfl (fun _ => ?_) (fun _ => ?_))); (fail_if_success (refine WL.part 66 (b := false) rfl (fun _ => ?_) (fun _ => ?_))); (refine WL.part 66 rfl (fun hb => ?_) (fun hb => ?_) <;> (first | replace hb := of_decide_eq_true hb | replace hb := of_decide_eq_false hb | replace hb := of_decide_eq_false (nt hb) | replace hb := of_decide_eq_true (nf hb) | skip))))
  all_goals (first
               | (refine WL.pass rfl rfl rfl ?_)
               | (refine WL.call (vs := []) rfl (fun a w => Try.call20 a w) rfl (awake14) rfl rfl rfl ?_
                  rintro _ h12 ⟨rfl, hx12⟩))
  all_goals (have hb4c := hx12.obj hb4b nos)
  all_goals (first | (refine WL.step (ok_pick_t rfl rfl) rfl rfl rfl ?_) | (refine WL.step (ok_pick_f rfl rfl) rfl rfl rfl ?_))
  all_goals (refine WL.stepR0 (okE_store (fun w => Try.sizeOf4 w) rfl rfl hb4c (Nat.le_of_ble_eq_true rfl) rfl rfl) rfl rfl ?_
             rintro _ h13 ⟨hb13, hx13⟩)
  all_goals (refine WL.nil ?_)
  all_goals (repeat' (with_reducible first | refine thenP_n ?_ | refine blockP_n ?_))
  all_goals (refine WC.sub [(4, _)] ⟨rfl, trivial⟩ ?_)
  all_goals (refine WC.ret ?_)
  all_goals (repeat' (with_reducible first | refine thenP_r ?_ | refine blockP_r ?_))
  all_goals (first
              | (fail_if_success (have := hoD); skip)
              | (have hoD9 : open_ h12 D := ((hx10.trans hx11).trans hx12).obj hoD nos; have hoDz : open_ h13 D := hx13.obj hoD9 (fun e => by have e' : D = b4 := e; have := lt_of_some hb48; omega); have hb13' := shut_blk hoDz hb13))
  all_goals (with_reducible first | refine retD_0 ?_ | refine retD_1 (by assumption) ?_)
  all_goals (refine retP_1 _ ⟨⟨_, rfl, ld_cell (fun w => Try.isAgg4 w) (cell_blk (by assumption) rfl)⟩, trivial⟩ ?_)
  all_goals (exact ⟨rfl, ((((hX9.trans hx10).trans hx11).trans hx12).trans' hx13 (fun q hq e => by omega)).trans' (shut1 hoDz) (fun q hq e => by have e' : q = D := e; omega)⟩)

namespace LRegNobody
open Go.ChangeShapes Go.WideShapes Go.ChangeAt Go.RowKit
open Go.ChangeMaps (open_string shut_string)
theorem own : ownKnob Try.prog.godebug = none := by kernel_rfl
theorem laidOut : laidOutB Try.prog = true := by kernel_rfl
set_option maxRecDepth 100000 in
theorem lifted (os : Os) (started : os.Started) (H : Type) (enc : TypeId × Value → H) :
    ReturnsInHanded {} Try.checked os 7 .any (Rows.regNobodySpec.pre6 enc Try.prog Try.f7 Rows.regNobodyRow.domain false) (Rows.regNobodySpec.post enc Try.prog Try.f7 false true false false) := by
  refine returnsInHanded_of_change_sized (C := Try.checked) own started (by kernel_rfl) Try.func7
    (ChangeSpec.witness6 (enc := enc) (C := Try.checked) false ⟨#[], #[.agg #[(.string ByteArray.empty), (.slice none 0 0)], .int .i64 0], []⟩ 8 (by kernel_rfl) (by kernel_rfl) (by kernel_rfl) (by kernel_rfl)) ?_
  intro W base args ds gs before hval0 hW hcnd hsz0 _
  have hval : ∀ (j : Nat) t v, Try.f7.params[j]? = some t → args[j]? = some v → Value.okWide Try.prog W .any base t v := hval0
  have hsz := hsz0
  rw [Try.params7] at hsz
  clear hsz0
  have hW' := hW
  obtain ⟨p, q, hA0, hV, rfl, hfz, hnd⟩ := hW
  have hA : DataW.TrodAll enc Try.prog W 0 (fun _ => true) true Try.f7.params.toList args.toList ds p := hA0
  rw [Try.params7] at hA hval
  obtain ⟨v0, vs0, d0, ds0, p0, q0, hargs, rfl, rfl, h0, r0⟩ := trodAll_cons hA
  obtain ⟨v1, vs1, d1, ds1, p1, q1, rfl, rfl, rfl, h1, r1⟩ := trodAll_cons r0
  obtain ⟨rfl, rfl, rfl⟩ := trodAll_nil r1
  obtain rfl : args = #[v0, v1] := by cases args; simp_all
  obtain ⟨rfl, rfl⟩ := trodVars_none hV
  have hz0 : ∀ n ∈ d0.weights Try.prog 57, n ≤ reachBytes := fun n hn => by simpa using List.all_eq_true.1 hsz n (DataW.weights_mem_each (j := 0) rfl rfl n hn)
  have k0 := h0
  have lt0 : ∀ x ∈ p0, x.block < W.heap.size := by obtain ⟨m, hm⟩ := k0; exact DataW.trod_lt m _ _ _ hm
  obtain ⟨cs0, rfl, hsz0⟩ := okWide_struct Try.underlying57 (hval 0 57 v0 rfl rfl)
  obtain ⟨fu0, hf0⟩ := h0
  obtain ⟨a0, e0, w0⟩ := opens_stm W _ _ _ _ _ _ _ _ hf0 hz0
  obtain ⟨cs0⟩ := cs0
  obtain rfl := (show cs0 = _ from e0)
  have hz1 : ∀ n ∈ d1.weights Try.prog 3, n ≤ reachBytes := fun n hn => by simpa using List.all_eq_true.1 hsz n (DataW.weights_mem_each (j := 1) rfl rfl n hn)
  have k1 := h1
  have lt1 : ∀ x ∈ p1, x.block < W.heap.size := by obtain ⟨m, hm⟩ := k1; exact DataW.trod_lt m _ _ _ hm
  obtain ⟨a1, rfl, e1, _, w1⟩ := open_int Try.underlying3 (hval 1 3 v1 rfl rfl) h1
  clear hA0 hval0
  refine (law_calls (nobody14 a0 a1 w0)).mono fun e W' ⟨he, bel⟩ => ?_
  subst he
  exact ⟨_, rfl, _, _, _, [], _, [], hW', trodAll_mk1 (shut_bool Try.underlying4 _), (trodAll_cons_mk (Below.trod laidOut (by kernel_rfl) (of_decide_eq_true (by kernel_rfl)) k0 bel lt0) (trodAll_cons_mk (Below.trod laidOut (by kernel_rfl) (of_decide_eq_true (by kernel_rfl)) k1 bel lt1) trodAll_mk0)), rfl, bel.frame _, fun h => by cases h⟩
theorem over : Rows.regNobodyRow.holds Try.pinned (OpenSpec.ofChange Rows.regNobodySpec) :=
  OpenClaim.holds_of_wide 7 Try.f7 rfl rfl rfl rfl rfl rfl rfl ⟨rfl, rfl, rfl, rfl, rfl⟩ rfl rfl rfl rfl rfl (by kernel_rfl) Try.func7 (by kernel_rfl)
    (of_decide_eq_true (by kernel_rfl)) (by unfold Func.isWrapper; first | (rw [if_pos (by decide +kernel)]; kernel_rfl) | (rw [if_neg (by decide +kernel)]; exact ⟨rfl, rfl⟩))
    (fun os started H enc _ => lifted os started H enc)
end LRegNobody
theorem regNobody_proved : Rows.RegNobodySaid := LRegNobody.over
#print axioms regNobody_proved
end Go.Proofs.Ytkpgnhhidnkmcaa

