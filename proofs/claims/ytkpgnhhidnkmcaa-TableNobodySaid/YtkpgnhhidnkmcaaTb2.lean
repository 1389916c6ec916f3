/-
  TABLE (layer 15): All, and the law's look at both tables.
-/
import Derived.Test.YtkpgnhhidnkmcaaTbAll
import Derived.Test.YtkpgnhhidnkmcaaK12
namespace Go.Proofs.Ytkpgnhhidnkmcaa
open Go Go.RK

abbrev nmN (p : NI) : List Value := [St p.1, In p.2]
theorem nmN_len (p : NI) : (nmN p).length = 2 := rfl
set_option maxRecDepth 100000 in
theorem all_t {h : Heap} {v : Value} : CallsH Try.prog 18 ⟨[v]⟩ h fun u h' => ∃ bx, u = .func (.func 40) #[] #[.pointer (some ⟨bx, 0, none⟩)] ∧ h'[bx]? = some (.cells v.cells 24 (0, 0)) ∧ h.size ≤ bx ∧ Ext No h h' := by
  refine calls [(0, _)] Try.func18 rfl Try.ntmps18 rfl ⟨rfl, trivial⟩ ?_
  all_goals (refine WC.seq ?_)
  all_goals (refine WC.region ?_)
  all_goals (refine WL.stepR (okE_box rfl) rfl rfl rfl ?_
             rintro _ h1 ⟨b1, rfl, hg1, hb1, hx1⟩)
  all_goals (refine WL.step (ok_assign rfl) rfl rfl rfl ?_)
  all_goals (refine WL.nil ?_)
  all_goals (repeat' (with_reducible first | refine thenP_n ?_ | refine blockP_n ?_))
  all_goals (refine WC.seq ?_)
  all_goals (refine WC.region ?_)
  all_goals (refine WL.step (ok_makeFunc (vs := []) (us := [_]) rfl rfl) rfl rfl rfl ?_)
  all_goals (refine WL.step (ok_assign rfl) rfl rfl rfl ?_)
  all_goals (refine WL.nil ?_)
  all_goals (repeat' (with_reducible first | refine thenP_n ?_ | refine blockP_n ?_))
  all_goals (refine WC.ret ?_)
  all_goals (repeat' (with_reducible first | refine thenP_r ?_ | refine blockP_r ?_))
  all_goals (refine retP_1 _ ⟨rfl, trivial⟩ ?_)
  all_goals (exact ⟨_, rfl, hb1, hg1, hx1⟩)
set_option maxHeartbeats 1000000 in
set_option maxRecDepth 100000 in
theorem same15 {h : Heap} {b m bt : Nat} {most most' : Int} {E L : List NI} {v : Value} (t : Tb h b m most (encE In E)) (hp : E.Perm L) (hri : Rise L) (hl : L.length ≤ 1000000)
    (ht : h[bt]? = some (.cells ⟨[v, In most']⟩ 77 (0, 0))) (hr : Rd h v 2 L.length (L.flatMap nmN)) :
    CallsH Try.prog 17 ⟨[.pointer (some ⟨b, 0, none⟩), .pointer (some ⟨bt, 0, none⟩)]⟩ h fun u h' => u = .bool true ∧ Ext No h h' := by
  obtain ⟨A, c, rfl, _⟩ := id hr
  have hlen : (encE In E).length = L.length := by rw [enc_len, hp.length_eq]
  have lb := lt_of_some t.cells
  have lm := t.map.lt
  have lt' := lt_of_some ht
  refine callsD [(0, _), (1, _)] Try.func17 rfl Try.ntmps17 rfl ⟨rfl, rfl, trivial⟩ ?_
  all_goals (refine WD.seq ?_)
  all_goals (refine WD.of ?_)
  all_goals (refine WC.region ?_)
  all_goals (refine WL.stepR (okE_box rfl) rfl rfl rfl ?_
             rintro _ h1 ⟨b3, rfl, hg3, hb3, hx1⟩)
  all_goals (refine WL.stepR (okE_alloc (fun w => Try.zeroValue4 w)) rfl rfl rfl ?_
             rintro _ h2 ⟨b4, rfl, hg4, hb4, hx2⟩)
  all_goals (refine WL.nil ?_)
  all_goals (repeat' (with_reducible first | refine thenP_n ?_ | refine blockP_n ?_))
  all_goals (refine WD.sub [(0, _), (3, _), (4, _)] ⟨rfl, rfl, rfl, trivial⟩ ?_)
  all_goals (refine WD.seq ?_)
  all_goals (refine WD.of ?_)
  all_goals (refine WC.region ?_)
  all_goals (refine WL.stepR (okE_alloc (fun w => Try.zeroValue3 w)) rfl rfl rfl ?_
             rintro _ h3 ⟨b5, rfl, hg5, hb5, hx3⟩)
  all_goals (refine WL.stepR0 (okE_store (fun w => Try.sizeOf3 w) rfl rfl hb5 (Nat.le_of_ble_eq_true rfl) rfl rfl) rfl rfl ?_
             rintro _ h4 ⟨hb54, hx4⟩)
  all_goals (refine WL.nil ?_)
  all_goals (repeat' (with_reducible first | refine thenP_n ?_ | refine blockP_n ?_))
  all_goals (refine WD.sub [(0, _), (3, _), (4, _), (5, _)] ⟨rfl, rfl, rfl, rfl, trivial⟩ ?_)
  all_goals (refine WD.seq ?_)
  all_goals (refine WD.seq ?_)
  all_goals (refine WD.of ?_)
  all_goals (refine WC.region ?_)
  all_goals (refine WL.step (ok_move rfl) rfl rfl rfl ?_)
  all_goals (refine WL.call (vs := [_]) rfl (fun a w => Try.call18 a w) rfl (all_t) rfl rfl rfl ?_
             rintro _ h5 ⟨bx, rfl, hbx, hgx, hx5⟩)
  all_goals (have hX3 := (hx1.trans hx2).trans hx3
             have hX4 : Ext No h h4 := hX3.trans' hx4 (fun q hq e => by have := hx1.size; have := hx2.size; omega)
             have hX5 := hX4.trans hx5
             have hs1 := hx1.size
             have hs2 := hx2.size
             have hs3 := hx3.size
             have hs4 := hx4.size
             have hs5 := hx5.size
             have hb35 := hx5.obj (hx4.obj ((hx2.trans hx3).obj hb3 nos) (fun e => by have := lt_of_some hb3; omega)) nos
             have hb45 := hx5.obj (hx4.obj (hx3.obj hb4 nos) (fun e => by have := lt_of_some hb4; omega)) nos
             have hb55 := hx5.obj hb54 nos
             have l3 := lt_of_some hb3
             have l4 := lt_of_some hb4
             have l5 := lt_of_some hb5
             have lx := lt_of_some hbx)
  all_goals (refine WL.nil ?_)
  all_goals (repeat' (with_reducible first | refine thenP_n ?_ | refine blockP_n ?_))
  all_goals (refine WD.sub [(0, _), (3, _), (4, _), (5, _), (9, _)] ⟨rfl, rfl, rfl, rfl, rfl, trivial⟩ ?_)
  all_goals (refine WD.block ?_)
  all_goals (refine WD.range (L := L) (enc := fun p : NI => [St p.1, In p.2]) rfl (fun a w => Try.call40 a w) (fun h' hx => tall_seq ((t.ext hX5 nos nos).ext hx nos nos) hp hri hl (hx.obj hbx nos)) (fun q e => by rcases e with rfl | rfl | rfl <;> omega) (fun _ => rfl) (by kernel_rfl) (X := Unit) (fun k _ h' => Ext (fun q => q = b5) h5 h' ∧ h'[b5]? = some (.cells ⟨[In (k : Int)]⟩ 3 (0, 0))) (fun _ _ _ => False) (fun _ q => q = b5) (()) (fun h' hx => ⟨hx.mono fun _ _ e => e.elim, hx.obj hb55 nos⟩) (fun k x h' hJ q e => ⟨e ▸ lt_of_some hJ.2, fun e2 => by rcases e2 with rfl | rfl | rfl <;> omega⟩) (fun q e => by omega) (fun k x h1 h2 S hJ hx hS => ⟨hJ.1.trans' hx (fun q hq e => by have := (hS q e (Nat.lt_of_lt_of_le hq hJ.1.size)).1; omega), hx.obj hJ.2 (fun e => (hS b5 e (lt_of_some hJ.2)).2 rfl)⟩) (fun _ _ _ _ _ e _ _ => e.elim) (fun l k x h1 a hL hJ => Br.out (i := 8000) ?_) (fun D x h1 hJ hoD hD hnD => Br.out (i := 8001) ?_) (fun _ _ _ e _ _ _ => e.elim) (fun _ _ _ _ e _ _ _ => e.elim))
  all_goals (first
    | (fail_if_success (refine Br.mk (i := 8000) ?_))
    | (refine Br.mk (i := 8000) ?_
       all_goals (obtain ⟨nm, id⟩ := a)
       all_goals (refine WC.sub [(3, _), (4, _), (5, _), (10, _), (11, _)] ⟨rfl, rfl, rfl, rfl, rfl, trivial⟩ ?_)
       all_goals (refine WC.seq ?_)
       all_goals (refine WC.region ?_)
       all_goals (refine WL.step (ok_assign rfl) rfl rfl rfl ?_)
       all_goals (refine WL.nil ?_)
       all_goals (repeat' (with_reducible first | refine thenP_n ?_ | refine blockP_n ?_))
       all_goals (refine WC.region ?_)
       all_goals (refine WL.step (ok_assign rfl) rfl rfl rfl ?_)
       all_goals (refine WL.nil ?_)
       all_goals (repeat' (with_reducible first | refine thenP_n ?_ | refine blockP_n ?_))
       all_goals (refine ⟨rfl, fun h2 hJ2 => ?_⟩)
       all_goals (obtain ⟨hx6, hb56⟩ := hJ2
                  have hlk := (List.getElem?_eq_some_iff.1 hL).1
                  have hb36 := hx6.obj hb35 (fun e => by omega)
                  have ht6 := hx6.obj (hX5.obj ht nos) (fun e => by omega)
                  obtain ⟨bL, oL, hA, hbL, hat⟩ := Rd.at_ hr (by omega)
                  subst hA
                  have hat6 : At h2 bL oL (L.flatMap nmN) := (hat.ext hX5 nos).ext hx6 (fun e => by omega)
                  have hcd : At h2 bL (oL + k * 2) [St nm, In id] := At.elem nmN_len hat6 hL)
       all_goals (refine WC.block ?_)
       all_goals (refine WC.seq ?_)
       all_goals (refine WC.seq ?_)
       all_goals (refine WC.drawE fol (by kernel_rfl) ?_)
       all_goals (refine WQ.stepE (ok_load (fun w => Try.isAgg3 w) rfl (by first | assumption | exact cell_blk (by assumption) rfl)) rfl rfl rfl ?_)
       all_goals (refine WQ.stepE (ok_load (fun w => Try.isAgg28 w) rfl (by first | assumption | exact cell_blk (by assumption) rfl)) rfl rfl rfl ?_)
       all_goals (refine WQ.stepE (ok_nilCheck rfl) rfl rfl rfl ?_)
       all_goals (refine WQ.stepE (ok_fieldAddr rfl Try.underlying77 rfl (fun w => Try.sizeOf75 w)) rfl rfl rfl ?_)
       all_goals (refine WQ.stepE (ok_load (fun w => Try.isAgg75 w) rfl (by first | assumption | exact cell_blk (by assumption) rfl)) rfl rfl rfl ?_)
       all_goals (refine WQ.stepE (ok_lenL rfl Try.underlying75 rfl) rfl rfl rfl ?_)
       all_goals (first | (refine WQ.stepE (OkP.bool_t (by omega) (ok_geq rfl rfl)) rfl rfl rfl ?_) | (refine WQ.stepE (OkP.bool_f (by omega) (ok_geq rfl rfl)) rfl rfl rfl ?_) | (refine WQ.stepE (ok_geq rfl rfl) rfl rfl rfl ?_))
       all_goals (refine WQ.stepE (ok_move rfl) rfl rfl rfl ?_)
       all_goals (try ((fail_if_success (refine WQ.part 19 (b := true) rfl (fun _ => ?_) (fun _ => ?_))); (fail_if_success (refine WQ.part 19 (b := false) rfl (fun _ => ?_) (fun _ => ?_))); (refine WQ.part 19 rfl (fun hb => ?_) (fun hb => ?_) <;> (first | replace hb := of_decide_eq_true hb | replace hb := of_decide_eq_false hb | replace hb := of_decide_eq_false (nt hb) | replace hb := of_decide_eq_true (nf hb) | skip))))
       all_goals (first | (refine WQ.pass rfl rfl rfl ?_) | (refine WQ.stepE (ok_load (fun w => Try.isAgg28 w) rfl (by first | assumption | exact cell_blk (by assumption) rfl)) rfl rfl rfl ?_))
       all_goals (first | (refine WQ.pass rfl rfl rfl ?_) | (refine WQ.stepE (ok_nilCheck rfl) rfl rfl rfl ?_))
       all_goals (first | (refine WQ.pass rfl rfl rfl ?_) | (refine WQ.stepE (ok_fieldAddr rfl Try.underlying77 rfl (fun w => Try.sizeOf75 w)) rfl rfl rfl ?_))
       all_goals (first | (refine WQ.pass rfl rfl rfl ?_) | (refine WQ.stepE (ok_load (fun w => Try.isAgg75 w) rfl (by first | assumption | exact cell_blk (by assumption) rfl)) rfl rfl rfl ?_))
       all_goals (first | (refine WQ.pass rfl rfl rfl ?_) | (refine WQ.stepE (ok_load (fun w => Try.isAgg3 w) rfl (by first | assumption | exact cell_blk (by assumption) rfl)) rfl rfl rfl ?_))
       all_goals (first | (refine WQ.pass rfl rfl rfl ?_) | (refine WQ.stepE (ok_idxAddrA Try.underlying75 (fun w => Try.sizeOf79 w) rfl rfl rfl (by omega) (by first | rfl | assumption)) rfl rfl rfl ?_))
       all_goals (first | (refine WQ.pass rfl rfl rfl ?_) | (refine WQ.stepE (ok_fieldAddr rfl Try.underlying79 rfl (fun w => Try.sizeOf9 w)) rfl rfl rfl ?_))
       all_goals (first | (refine WQ.pass rfl rfl rfl ?_) | (refine WQ.stepE (ok_load (fun w => Try.isAgg9 w) rfl (by first | exact hcd.get 0 rfl rfl | assumption | exact cell_blk (by assumption) rfl)) rfl rfl rfl ?_))
       all_goals (first | (refine WQ.pass rfl rfl rfl ?_) | (refine WQ.stepE (ok_move rfl) rfl rfl rfl ?_))
       all_goals (first | (refine WQ.pass rfl rfl rfl ?_) | (first | (refine WQ.stepE (OkP.nbool_f (by first | rfl | assumption | decide) (ok_neqS rfl rfl)) rfl rfl rfl ?_) | (refine WQ.stepE (OkP.nbool_t (by first | assumption | decide) (ok_neqS rfl rfl)) rfl rfl rfl ?_) | (refine WQ.stepE (ok_neqS rfl rfl) rfl rfl rfl ?_)))
       all_goals (first | (refine WQ.stepE (ok_pick_t rfl rfl) rfl rfl rfl ?_) | (refine WQ.stepE (ok_pick_f rfl rfl) rfl rfl rfl ?_))
       all_goals (refine WQ.stepE (ok_move rfl) rfl rfl rfl ?_)
       all_goals (try ((fail_if_success (refine WQ.part 31 (b := true) rfl (fun _ => ?_) (fun _ => ?_))); (fail_if_success (refine WQ.part 31 (b := false) rfl (fun _ => ?_) (fun _ => ?_))); (refine WQ.part 31 rfl (fun hb => ?_) (fun hb => ?_) <;> (first | replace hb := of_decide_eq_true hb | replace hb := of_decide_eq_false hb | replace hb := of_decide_eq_false (nt hb) | replace hb := of_decide_eq_true (nf hb) | skip))))
       all_goals (first | (refine WQ.pass rfl rfl rfl ?_) | (refine WQ.stepE (ok_load (fun w => Try.isAgg28 w) rfl (by first | assumption | exact cell_blk (by assumption) rfl)) rfl rfl rfl ?_))
       all_goals (first | (refine WQ.pass rfl rfl rfl ?_) | (refine WQ.stepE (ok_nilCheck rfl) rfl rfl rfl ?_))
       all_goals (first | (refine WQ.pass rfl rfl rfl ?_) | (refine WQ.stepE (ok_fieldAddr rfl Try.underlying77 rfl (fun w => Try.sizeOf75 w)) rfl rfl rfl ?_))
       all_goals (first | (refine WQ.pass rfl rfl rfl ?_) | (refine WQ.stepE (ok_load (fun w => Try.isAgg75 w) rfl (by first | assumption | exact cell_blk (by assumption) rfl)) rfl rfl rfl ?_))
       all_goals (first | (refine WQ.pass rfl rfl rfl ?_) | (refine WQ.stepE (ok_load (fun w => Try.isAgg3 w) rfl (by first | assumption | exact cell_blk (by assumption) rfl)) rfl rfl rfl ?_))
       all_goals (first | (refine WQ.pass rfl rfl rfl ?_) | (refine WQ.stepE (ok_idxAddrA Try.underlying75 (fun w => Try.sizeOf79 w) rfl rfl rfl (by omega) (by first | rfl | assumption)) rfl rfl rfl ?_))
       all_goals (first | (refine WQ.pass rfl rfl rfl ?_) | (refine WQ.stepE (ok_fieldAddr rfl Try.underlying79 rfl (fun w => Try.sizeOf3 w)) rfl rfl rfl ?_))
       all_goals (first | (refine WQ.pass rfl rfl rfl ?_) | (refine WQ.stepE (ok_load (fun w => Try.isAgg3 w) rfl (by first | exact hcd.get 1 rfl rfl | assumption | exact cell_blk (by assumption) rfl)) rfl rfl rfl ?_))
       all_goals (first | (refine WQ.pass rfl rfl rfl ?_) | (refine WQ.stepE (ok_move rfl) rfl rfl rfl ?_))
       all_goals (first | (refine WQ.pass rfl rfl rfl ?_) | (first | (refine WQ.stepE (OkP.nbool_t (by omega) (ok_neq rfl rfl)) rfl rfl rfl ?_) | (refine WQ.stepE (OkP.nbool_f (by omega) (ok_neq rfl rfl)) rfl rfl rfl ?_) | (refine WQ.stepE (ok_neq rfl rfl) rfl rfl rfl ?_)))
       all_goals (first | (refine WQ.stepE (ok_pick_t rfl rfl) rfl rfl rfl ?_) | (refine WQ.stepE (ok_pick_f rfl rfl) rfl rfl rfl ?_))
       all_goals (refine WQ.nil ?_)
       all_goals (repeat' (with_reducible first | refine thenP_n ?_ | refine blockP_n ?_))
       all_goals (refine WC.sub [(4, _), (5, _), (42, _)] ⟨rfl, rfl, rfl, trivial⟩ ?_)
       all_goals (first | refine WC.condB_t 1 rfl ?_ | refine WC.condB_f 2 rfl ?_ | (refine WC.condB 1 2 rfl (fun hb => ?_) (fun hb => ?_) <;> (first | replace hb := of_decide_eq_true hb | replace hb := of_decide_eq_false hb | replace hb := of_decide_eq_false (nt hb) | replace hb := of_decide_eq_true (nf hb) | skip)))
       all_goals (first
         | (fail_if_success (refine Br.mk (i := 1) ?_))
         | (refine Br.mk (i := 1) ?_
            all_goals (refine WC.seq ?_)
            all_goals (refine WC.region ?_)
            all_goals (refine WL.stepR0 (okE_store (fun w => Try.sizeOf4 w) rfl rfl (by assumption) (Nat.le_of_ble_eq_true rfl) rfl rfl) rfl rfl ?_
                       rintro _ h1 ⟨hb1, hx1⟩)
            all_goals (refine WL.nil ?_)
            all_goals (repeat' (with_reducible first | refine thenP_n ?_ | refine blockP_n ?_))
            all_goals (refine WC.ret ?_)
            all_goals (repeat' (with_reducible first | refine thenP_r ?_ | refine blockP_r ?_))
            all_goals (fail "retx?")
            skip))
       all_goals (first
         | (fail_if_success (refine Br.mk (i := 2) ?_))
         | (refine Br.mk (i := 2) ?_
            all_goals (refine WC.skip ?_)
            skip))
       all_goals (repeat' (with_reducible first | refine thenP_n ?_ | refine blockP_n ?_))
       all_goals (refine WC.region ?_)
       all_goals (refine WL.step (ok_load (fun w => Try.isAgg3 w) rfl (by first | assumption | exact cell_blk (by assumption) rfl)) rfl rfl rfl ?_)
       all_goals (first | (refine WL.step (ok_addI rfl rfl (by omega)) rfl rfl rfl ?_) | (refine WL.step (ok_add rfl rfl) rfl rfl rfl ?_))
       all_goals (refine WL.stepR0 (okE_store (fun w => Try.sizeOf3 w) rfl rfl hb56 (Nat.le_of_ble_eq_true rfl) rfl rfl) rfl rfl ?_
                  rintro _ h7 ⟨hb57, hx7⟩)
       all_goals (refine WL.nil ?_)
       all_goals (repeat' (with_reducible first | refine thenP_n ?_ | refine blockP_n ?_))
       all_goals (try (refine Br.mk (i := 7999) ?_))
       all_goals (exact ⟨(), hx7, fun q e => .inl e, hx6.trans hx7, by simpa using hb57⟩)
       skip))
  all_goals (try (refine Br.mk (i := 8001) ?_))
  all_goals (obtain ⟨hx6, hb56⟩ := hJ
             have hb36 := hx6.obj hb35 (fun e => by omega)
             have hb46 := hx6.obj hb45 (fun e => by omega)
             have ht6 := hx6.obj (hX5.obj ht nos) (fun e => by omega)
             have t6 := (t.ext hX5 nos nos).ext hx6 (fun e => by omega) (fun e => by omega))
  all_goals (repeat' (with_reducible first | refine thenP_n ?_ | refine blockP_n ?_))
  all_goals (refine WD.sub [(0, _), (3, _), (4, _), (5, _)] ⟨rfl, rfl, rfl, rfl, trivial⟩ ?_)
  all_goals (refine WD.of ?_)
  all_goals (refine WC.seq ?_)
  all_goals (refine WC.drawH (fun h' => Ext No h1 h') 13 14 rfl fol ?_)
  all_goals (refine WH.take 0 rfl (by kernel_rfl) (by kernel_rfl) (by kernel_rfl) (by kernel_rfl) rfl (by first | exact Ext.refl _ _ | assumption) (fun hq hC => ok_load (fun w => Try.isAgg3 w) rfl (by first | exact hC.cell (by first | assumption | assumption | exact cell_blk (by assumption) rfl) nos)) rfl rfl rfl ?_)
  all_goals (refine WH.take 1 rfl (by kernel_rfl) (by kernel_rfl) (by kernel_rfl) (by kernel_rfl) rfl (by first | exact Ext.refl _ _ | assumption) (fun hq hC => ok_load (fun w => Try.isAgg28 w) rfl (by first | exact hC.cell (by first | assumption | assumption | exact cell_blk (by assumption) rfl) nos)) rfl rfl rfl ?_)
  all_goals (refine WH.take 2 rfl (by kernel_rfl) (by kernel_rfl) (by kernel_rfl) (by kernel_rfl) rfl (by first | exact Ext.refl _ _ | assumption) (fun hq hC => ok_nilCheck rfl) rfl rfl rfl ?_)
  all_goals (refine WH.take 3 rfl (by kernel_rfl) (by kernel_rfl) (by kernel_rfl) (by kernel_rfl) rfl (by first | exact Ext.refl _ _ | assumption) (fun hq hC => ok_fieldAddr rfl Try.underlying77 rfl (fun w => Try.sizeOf75 w)) rfl rfl rfl ?_)
  all_goals (refine WH.take 4 rfl (by kernel_rfl) (by kernel_rfl) (by kernel_rfl) (by kernel_rfl) rfl (by first | exact Ext.refl _ _ | assumption) (fun hq hC => ok_load (fun w => Try.isAgg75 w) rfl (by first | exact hC.cell (by first | assumption | assumption | exact cell_blk (by assumption) rfl) nos)) rfl rfl rfl ?_)
  all_goals (refine WH.take 5 rfl (by kernel_rfl) (by kernel_rfl) (by kernel_rfl) (by kernel_rfl) rfl (by first | exact Ext.refl _ _ | assumption) (fun hq hC => ok_lenL rfl Try.underlying75 rfl) rfl rfl rfl ?_)
  all_goals (first | (refine WH.take 6 rfl (by kernel_rfl) (by kernel_rfl) (by kernel_rfl) (by kernel_rfl) rfl (by first | exact Ext.refl _ _ | assumption) (fun hq hC => OkP.bool_t (by omega) (ok_eql rfl rfl)) rfl rfl rfl ?_) | (refine WH.take 6 rfl (by kernel_rfl) (by kernel_rfl) (by kernel_rfl) (by kernel_rfl) rfl (by first | exact Ext.refl _ _ | assumption) (fun hq hC => OkP.bool_f (by omega) (ok_eql rfl rfl)) rfl rfl rfl ?_) | (refine WH.take 6 rfl (by kernel_rfl) (by kernel_rfl) (by kernel_rfl) (by kernel_rfl) rfl (by first | exact Ext.refl _ _ | assumption) (fun hq hC => ok_eql rfl rfl) rfl rfl rfl ?_))
  all_goals (refine WH.take 7 rfl (by kernel_rfl) (by kernel_rfl) (by kernel_rfl) (by kernel_rfl) rfl (by first | exact Ext.refl _ _ | assumption) (fun hq hC => ok_move rfl) rfl rfl rfl ?_)
  all_goals (try ((fail_if_success (refine WH.part 52 (b := true) rfl (fun _ => ?_) (fun _ => ?_))); (fail_if_success (refine WH.part 52 (b := false) rfl (fun _ => ?_) (fun _ => ?_))); (refine WH.part 52 rfl (fun hb => ?_) (fun hb => ?_))))
  all_goals (first | (refine WH.pass 8 rfl (by kernel_rfl) (by kernel_rfl) (by kernel_rfl) (by kernel_rfl) rfl (by first | exact Ext.refl _ _ | assumption) rfl rfl rfl ?_) | (refine WH.take 8 rfl (by kernel_rfl) (by kernel_rfl) (by kernel_rfl) (by kernel_rfl) rfl (by first | exact Ext.refl _ _ | assumption) (fun hq hC => ok_move rfl) rfl rfl rfl ?_))
  all_goals (first | (refine WH.pass 10 rfl (by kernel_rfl) (by kernel_rfl) (by kernel_rfl) (by kernel_rfl) rfl (by first | exact Ext.refl _ _ | assumption) rfl rfl rfl ?_) | (refine WH.take 10 rfl (by kernel_rfl) (by kernel_rfl) (by kernel_rfl) (by kernel_rfl) rfl (by first | exact Ext.refl _ _ | assumption) (fun hq hC => ok_load (fun w => Try.isAgg3 w) rfl (by first | exact hC.cell (by first | assumption | assumption | exact cell_blk (by assumption) rfl) nos)) rfl rfl rfl ?_))
  all_goals (refine WH.one 9 (by kernel_rfl) ?_)
  all_goals (refine Comes1.call (vs := [_]) rfl rfl (fun a w => Try.call19 a w) rfl (len_yes (t6)) rfl rfl rfl ?_ (fun _ => by kernel_rfl)
             rintro _ hz ⟨rfl, ez⟩
             subst ez
             rw [hlen])
  all_goals (refine ⟨fun _ => .refl _ _, ?_⟩)
  all_goals (first | (refine WH.pass 11 rfl (by kernel_rfl) (by kernel_rfl) (by kernel_rfl) (by kernel_rfl) rfl (by first | exact Ext.refl _ _ | assumption) rfl rfl rfl ?_) | (first | (refine WH.take 11 rfl (by kernel_rfl) (by kernel_rfl) (by kernel_rfl) (by kernel_rfl) rfl (by first | exact Ext.refl _ _ | assumption) (fun hq hC => OkP.bool_t (by omega) (ok_eql rfl rfl)) rfl rfl rfl ?_) | (refine WH.take 11 rfl (by kernel_rfl) (by kernel_rfl) (by kernel_rfl) (by kernel_rfl) rfl (by first | exact Ext.refl _ _ | assumption) (fun hq hC => OkP.bool_f (by omega) (ok_eql rfl rfl)) rfl rfl rfl ?_) | (refine WH.take 11 rfl (by kernel_rfl) (by kernel_rfl) (by kernel_rfl) (by kernel_rfl) rfl (by first | exact Ext.refl _ _ | assumption) (fun hq hC => ok_eql rfl rfl) rfl rfl rfl ?_)))
  all_goals (first | (refine WH.take 12 rfl (by kernel_rfl) (by kernel_rfl) (by kernel_rfl) (by kernel_rfl) rfl (by first | exact Ext.refl _ _ | assumption) (fun hq hC => ok_pick_t rfl rfl) rfl rfl rfl ?_) | (refine WH.take 12 rfl (by kernel_rfl) (by kernel_rfl) (by kernel_rfl) (by kernel_rfl) rfl (by first | exact Ext.refl _ _ | assumption) (fun hq hC => ok_pick_f rfl rfl) rfl rfl rfl ?_))
  all_goals (refine WH.one 13 (by kernel_rfl) ?_)
  all_goals (refine Comes1.run0 rfl (okE_store (fun w => Try.sizeOf4 w) rfl rfl hb46 (Nat.le_of_ble_eq_true rfl) rfl rfl) rfl rfl ?_ (fun _ => by kernel_rfl)
             rintro _ h8 ⟨hb48, hx8⟩)
  all_goals (refine ⟨fun e => (by cases e), ?_⟩)
  all_goals (refine WH.done (by kernel_rfl) ?_)
  all_goals (repeat' (with_reducible first | refine thenP_n ?_ | refine blockP_n ?_))
  all_goals (refine WC.sub [(4, _)] ⟨rfl, trivial⟩ ?_)
  all_goals (refine WC.ret ?_)
  all_goals (repeat' (with_reducible first | refine thenP_r ?_ | refine blockP_r ?_))
  all_goals (have hoD8 : open_ h8 D := hx8.obj hoD (fun e => by have e' : D = b4 := e; omega)
             have hb48' := shut_blk hoD8 hb48)
  all_goals (with_reducible first | refine retD_0 ?_ | refine retD_1 (by assumption) ?_)
  all_goals (refine retP_1 _ ⟨⟨_, rfl, ld_cell (fun w => Try.isAgg4 w) (cell_blk (by assumption) rfl)⟩, trivial⟩ ?_)
  all_goals (exact ⟨rfl, ((hX5.trans' hx6 (fun q hq e => by omega)).trans' hx8 (fun q hq e => by omega)).trans' (shut1 hoD8) (fun q hq e => by have e' : q = D := e; omega)⟩)
end Go.Proofs.Ytkpgnhhidnkmcaa

