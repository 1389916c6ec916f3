/-
  REGISTRY (layer 14): the law's look at both registries.
-/
import Derived.Test.YtkpgnhhidnkmcaaR14e
import Derived.Test.YtkpgnhhidnkmcaaK12
namespace Go.Proofs.Ytkpgnhhidnkmcaa
open Go Go.RK

abbrev pr (e : En) : Int × Int × List UInt8 × List Int := (e.id, e.rf, e.t, e.o)
section
variable {B B' : Nat} {c : Int} {h h' : Heap} {b m1 m2 bt : Nat} {v : Value} {last last' : Int} {L G : List En}
theorem pr_at (hpr : G.map pr = L.map pr) {k : Nat} {a : En} (ha : L[k]? = some a) : ∃ p w, G[k]? = some ⟨a.id, a.rf, a.t, a.o, p, w⟩ := by
  have h1 : (G.map pr)[k]? = some (pr a) := by rw [hpr]; simp [ha]
  rw [List.getElem?_map, Option.map_eq_some_iff] at h1
  obtain ⟨⟨i, r, t, o, p, w⟩, hd, e⟩ := h1
  simp only [pr, Prod.mk.injEq] at e
  obtain ⟨rfl, rfl, rfl, rfl⟩ := e
  exact ⟨p, w, hd⟩
set_option maxHeartbeats 1000000 in
set_option maxRecDepth 100000 in
theorem same14 (r : Rg B c h b m1 m2 last L) (q : R14 B' h bt v last' G) (hpr : G.map pr = L.map pr) :
    CallsH Try.prog 36 ⟨[ptE b, ptE bt]⟩ h fun u h' => u = .bool true ∧ Ext No h h' := by
  have hr := q.own.rd
  have ht := q.blk
  have hDl : G.length = L.length := by have := congrArg List.length hpr; simpa using this
  rw [hDl] at hr
  have hr2 := hr
  obtain ⟨A, cc, rfl, _⟩ := hr2
  have lt' := lt_of_some ht
  have bd := r.bd
  obtain ⟨l1, l2, l3, l4, l5⟩ := r.lt
  unfold ptE
  refine callsD [(0, _), (1, _)] Try.func36 rfl Try.ntmps36 rfl ⟨rfl, rfl, trivial⟩ ?_
  all_goals (refine WD.seq ?_)
  all_goals (refine WD.of ?_)
  all_goals (refine WC.region ?_)
  all_goals (refine WL.stepR (okE_box rfl) rfl rfl rfl ?_
             rintro _ h1 ⟨b3, rfl, hg3, hb3, hx1⟩)
  all_goals (refine WL.stepR (okE_alloc (fun w => Try.zeroValue4 w)) rfl rfl rfl ?_
             rintro _ h2 ⟨b4, rfl, hg4, hb4, hx2⟩)
  all_goals (refine WL.nil ?_)
  all_goals (repeat' (with_reducible first | refine thenP_n ?_ | refine blockP_n ?_))
  all_goals (refine WD.sub [(0, _), (3, _), (4, _)] ⟨rfl, rfl, rfl, trivial⟩ ?_)
  all_goals (refine WD.seq ?_)
  all_goals (refine WD.of ?_)
  all_goals (refine WC.region ?_)
  all_goals (refine WL.stepR (okE_alloc (fun w => Try.zeroValue3 w)) rfl rfl rfl ?_
             rintro _ h3 ⟨b5, rfl, hg5, hb5, hx3⟩)
  all_goals (refine WL.stepR0 (okE_store (fun w => Try.sizeOf3 w) rfl rfl hb5 (Nat.le_of_ble_eq_true rfl) rfl rfl) rfl rfl ?_
             rintro _ h4 ⟨hb54, hx4⟩)
  all_goals (refine WL.nil ?_)
  all_goals (repeat' (with_reducible first | refine thenP_n ?_ | refine blockP_n ?_))
  all_goals (refine WD.sub [(0, _), (3, _), (4, _), (5, _)] ⟨rfl, rfl, rfl, rfl, trivial⟩ ?_)
  all_goals (refine WD.seq ?_)
  all_goals (refine WD.seq ?_)
  all_goals (refine WD.of ?_)
  all_goals (refine WC.region ?_)
  all_goals (refine WL.step (ok_move rfl) rfl rfl rfl ?_)
  all_goals (refine WL.call (vs := [_]) rfl (fun a w => Try.call37 a w) rfl (all_r) rfl rfl rfl ?_
             rintro _ h5 ⟨bx, rfl, hbx, hgx, hx5⟩)
  all_goals (have hX3 := (hx1.trans hx2).trans hx3
             have hX4 : Ext No h h4 := hX3.trans' hx4 (fun q hq e => by have := hx1.size; have := hx2.size; omega)
             have hX5 := hX4.trans hx5
             have hs1 := hx1.size
             have hs2 := hx2.size
             have hs3 := hx3.size
             have hs4 := hx4.size
             have hs5 := hx5.size
             have hb35 := hx5.obj (hx4.obj ((hx2.trans hx3).obj hb3 nos) (fun e => by have := lt_of_some hb3; omega)) nos
             have hb45 := hx5.obj (hx4.obj (hx3.obj hb4 nos) (fun e => by have := lt_of_some hb4; omega)) nos
             have hb55 := hx5.obj hb54 nos
             have b3l := lt_of_some hb3
             have b4l := lt_of_some hb4
             have b5l := lt_of_some hb5
             have lx := lt_of_some hbx)
  all_goals (refine WL.nil ?_)
  all_goals (repeat' (with_reducible first | refine thenP_n ?_ | refine blockP_n ?_))
  all_goals (refine WD.sub [(0, _), (3, _), (4, _), (5, _), (9, _)] ⟨rfl, rfl, rfl, rfl, rfl, trivial⟩ ?_)
  all_goals (refine WD.block ?_)
  all_goals (refine WD.range (L := L) (enc := enR) rfl (fun a w => Try.call49 a w) (fun h' hx => rg_seq ((r.ext0 hX5).ext0 hx) (hx.obj hbx nos)) (fun q e => by rcases (show q = bx ∨ MR b m1 m2 L q from e) with rfl | e; exact lx; have := MR.lt r e; omega) (fun _ => rfl) (by kernel_rfl) (X := Unit) (fun k _ h' => Ext (fun q => q = b5) h5 h' ∧ h'[b5]? = some (.cells ⟨[In (k : Int)]⟩ 3 (0, 0))) (fun _ _ _ => False) (fun _ q => q = b5) (()) (fun h' hx => ⟨hx.mono fun _ _ e => e.elim, hx.obj hb55 nos⟩) (fun k x h' hJ q e => ⟨e ▸ lt_of_some hJ.2, fun e2 => by subst e; rcases (show q = bx ∨ MR b m1 m2 L q from e2) with e | e; omega; have := MR.lt r e; omega⟩) (fun q e => by omega) (fun k x h1 h2 S hJ hx hS => ⟨hJ.1.trans' hx (fun q hq e => by have := (hS q e (Nat.lt_of_lt_of_le hq hJ.1.size)).1; omega), hx.obj hJ.2 (fun e => (hS b5 e (lt_of_some hJ.2)).2 rfl)⟩) (fun _ _ _ _ _ e _ _ => e.elim) (fun l k x h1 a hL hJ => Br.out (i := 8000) ?_) (fun D x h1 hJ hoD hD hnD => Br.out (i := 8001) ?_) (fun _ _ _ e _ _ _ => e.elim) (fun _ _ _ _ e _ _ _ => e.elim))
  all_goals (first
    | (fail_if_success (refine Br.mk (i := 8000) ?_))
    | (refine Br.mk (i := 8000) ?_
       all_goals (refine WC.sub [(3, _), (4, _), (5, _), (10, _), (11, _)] ⟨rfl, rfl, rfl, rfl, rfl, trivial⟩ ?_)
       all_goals (refine WC.seq ?_)
       all_goals (refine WC.region ?_)
       all_goals (refine WL.step (ok_assign rfl) rfl rfl rfl ?_)
       all_goals (refine WL.nil ?_)
       all_goals (repeat' (with_reducible first | refine thenP_n ?_ | refine blockP_n ?_))
       all_goals (refine WC.region ?_)
       all_goals (refine WL.step (ok_assign rfl) rfl rfl rfl ?_)
       all_goals (refine WL.nil ?_)
       all_goals (repeat' (with_reducible first | refine thenP_n ?_ | refine blockP_n ?_))
       all_goals (refine ⟨rfl, fun h2 hJ2 => ?_⟩)
       all_goals (obtain ⟨hx6, hb56⟩ := hJ2
                  have hlk := (List.getElem?_eq_some_iff.1 hL).1
                  have hb36 := hx6.obj hb35 (fun e => by omega)
                  have ht6 := hx6.obj (hX5.obj ht nos) (fun e => by omega)
                  obtain ⟨p', w', hdk⟩ := pr_at hpr hL
                  obtain ⟨bL, oL, hA, hbL, hat⟩ := Rd.at_ hr (by omega)
                  subst hA
                  have hat6 : At h2 bL oL (G.flatMap dC) := (hat.ext hX5 nos).ext hx6 (fun e => by omega)
                  have hcd : At h2 bL (oL + k * 4) [In a.id, In a.rf, St a.t, w'] := At.elem dC_len hat6 hdk)
       all_goals (refine WC.block ?_)
       all_goals (refine WC.seq ?_)
       all_goals (refine WC.seq ?_)
       all_goals (refine WC.drawE fol (by kernel_rfl) ?_)
       all_goals (refine WQ.stepE (ok_load (fun w => Try.isAgg3 w) rfl (by first | assumption | exact cell_blk (by assumption) rfl)) rfl rfl rfl ?_)
       all_goals (refine WQ.stepE (ok_load (fun w => Try.isAgg51 w) rfl (by first | assumption | exact cell_blk (by assumption) rfl)) rfl rfl rfl ?_)
       all_goals (refine WQ.stepE (ok_nilCheck rfl) rfl rfl rfl ?_)
       all_goals (refine WQ.stepE (ok_fieldAddr rfl Try.underlying54 rfl (fun w => Try.sizeOf52 w)) rfl rfl rfl ?_)
       all_goals (refine WQ.stepE (ok_load (fun w => Try.isAgg52 w) rfl (by first | assumption | exact cell_blk (by assumption) rfl)) rfl rfl rfl ?_)
       all_goals (refine WQ.stepE (ok_lenL rfl Try.underlying52 rfl) rfl rfl rfl ?_)
       all_goals (first | (refine WQ.stepE (OkP.bool_t (by omega) (ok_geq rfl rfl)) rfl rfl rfl ?_) | (refine WQ.stepE (OkP.bool_f (by omega) (ok_geq rfl rfl)) rfl rfl rfl ?_) | (refine WQ.stepE (ok_geq rfl rfl) rfl rfl rfl ?_))
       all_goals (refine WQ.stepE (ok_move rfl) rfl rfl rfl ?_)
       all_goals (try ((fail_if_success (refine WQ.part 19 (b := true) rfl (fun _ => ?_) (fun _ => ?_))); (fail_if_success (refine WQ.part 19 (b := false) rfl (fun _ => ?_) (fun _ => ?_))); (refine WQ.part 19 rfl (fun hb => ?_) (fun hb => ?_) <;> (first | replace hb := of_decide_eq_true hb | replace hb := of_decide_eq_false hb | replace hb := of_decide_eq_false (nt hb) | replace hb := of_decide_eq_true (nf hb) | skip))))
       all_goals (first | (refine WQ.pass rfl rfl rfl ?_) | (refine WQ.stepE (ok_load (fun w => Try.isAgg51 w) rfl (by first | assumption | exact cell_blk (by assumption) rfl)) rfl rfl rfl ?_))
       all_goals (first | (refine WQ.pass rfl rfl rfl ?_) | (refine WQ.stepE (ok_nilCheck rfl) rfl rfl rfl ?_))
       all_goals (first | (refine WQ.pass rfl rfl rfl ?_) | (refine WQ.stepE (ok_fieldAddr rfl Try.underlying54 rfl (fun w => Try.sizeOf52 w)) rfl rfl rfl ?_))
       all_goals (first | (refine WQ.pass rfl rfl rfl ?_) | (refine WQ.stepE (ok_load (fun w => Try.isAgg52 w) rfl (by first | assumption | exact cell_blk (by assumption) rfl)) rfl rfl rfl ?_))
       all_goals (first | (refine WQ.pass rfl rfl rfl ?_) | (refine WQ.stepE (ok_load (fun w => Try.isAgg3 w) rfl (by first | assumption | exact cell_blk (by assumption) rfl)) rfl rfl rfl ?_))
       all_goals (first | (refine WQ.pass rfl rfl rfl ?_) | (refine WQ.stepE (ok_idxAddrA Try.underlying52 (fun w => Try.sizeOf88 w) rfl rfl rfl (by omega) (by first | rfl | assumption)) rfl rfl rfl ?_))
       all_goals (first | (refine WQ.pass rfl rfl rfl ?_) | (refine WQ.stepE (ok_fieldAddr rfl Try.underlying88 rfl (fun w => Try.sizeOf3 w)) rfl rfl rfl ?_))
       all_goals (first | (refine WQ.pass rfl rfl rfl ?_) | (refine WQ.stepE (ok_load (fun w => Try.isAgg3 w) rfl (by first | exact hcd.get 0 rfl rfl | assumption | exact cell_blk (by assumption) rfl)) rfl rfl rfl ?_))
       all_goals (first | (refine WQ.pass rfl rfl rfl ?_) | (refine WQ.stepE (ok_move rfl) rfl rfl rfl ?_))
       all_goals (first | (refine WQ.pass rfl rfl rfl ?_) | (first | (refine WQ.stepE (OkP.nbool_t (by omega) (ok_neq rfl rfl)) rfl rfl rfl ?_) | (refine WQ.stepE (OkP.nbool_f (by omega) (ok_neq rfl rfl)) rfl rfl rfl ?_) | (refine WQ.stepE (ok_neq rfl rfl) rfl rfl rfl ?_)))
       all_goals (first | (refine WQ.stepE (ok_pick_t rfl rfl) rfl rfl rfl ?_) | (refine WQ.stepE (ok_pick_f rfl rfl) rfl rfl rfl ?_))
       all_goals (refine WQ.stepE (ok_move rfl) rfl rfl rfl ?_)
       all_goals (try ((fail_if_success (refine WQ.part 31 (b := true) rfl (fun _ => ?_) (fun _ => ?_))); (fail_if_success (refine WQ.part 31 (b := false) rfl (fun _ => ?_) (fun _ => ?_))); (refine WQ.part 31 rfl (fun hb => ?_) (fun hb => ?_) <;> (first | replace hb := of_decide_eq_true hb | replace hb := of_decide_eq_false hb | replace hb := of_decide_eq_false (nt hb) | replace hb := of_decide_eq_true (nf hb) | skip))))
       all_goals (first | (refine WQ.pass rfl rfl rfl ?_) | (refine WQ.stepE (ok_load (fun w => Try.isAgg51 w) rfl (by first | assumption | exact cell_blk (by assumption) rfl)) rfl rfl rfl ?_))
       all_goals (first | (refine WQ.pass rfl rfl rfl ?_) | (refine WQ.stepE (ok_nilCheck rfl) rfl rfl rfl ?_))
       all_goals (first | (refine WQ.pass rfl rfl rfl ?_) | (refine WQ.stepE (ok_fieldAddr rfl Try.underlying54 rfl (fun w => Try.sizeOf52 w)) rfl rfl rfl ?_))
       all_goals (first | (refine WQ.pass rfl rfl rfl ?_) | (refine WQ.stepE (ok_load (fun w => Try.isAgg52 w) rfl (by first | assumption | exact cell_blk (by assumption) rfl)) rfl rfl rfl ?_))
       all_goals (first | (refine WQ.pass rfl rfl rfl ?_) | (refine WQ.stepE (ok_load (fun w => Try.isAgg3 w) rfl (by first | assumption | exact cell_blk (by assumption) rfl)) rfl rfl rfl ?_))
       all_goals (first | (refine WQ.pass rfl rfl rfl ?_) | (refine WQ.stepE (ok_idxAddrA Try.underlying52 (fun w => Try.sizeOf88 w) rfl rfl rfl (by omega) (by first | rfl | assumption)) rfl rfl rfl ?_))
       all_goals (first | (refine WQ.pass rfl rfl rfl ?_) | (refine WQ.stepE (ok_fieldAddr rfl Try.underlying88 rfl (fun w => Try.sizeOf3 w)) rfl rfl rfl ?_))
       all_goals (first | (refine WQ.pass rfl rfl rfl ?_) | (refine WQ.stepE (ok_load (fun w => Try.isAgg3 w) rfl (by first | exact hcd.get 1 rfl rfl | assumption | exact cell_blk (by assumption) rfl)) rfl rfl rfl ?_))
       all_goals (first | (refine WQ.pass rfl rfl rfl ?_) | (refine WQ.stepE (ok_move rfl) rfl rfl rfl ?_))
       all_goals (first | (refine WQ.pass rfl rfl rfl ?_) | (first | (refine WQ.stepE (OkP.nbool_t (by omega) (ok_neq rfl rfl)) rfl rfl rfl ?_) | (refine WQ.stepE (OkP.nbool_f (by omega) (ok_neq rfl rfl)) rfl rfl rfl ?_) | (refine WQ.stepE (ok_neq rfl rfl) rfl rfl rfl ?_)))
       all_goals (first | (refine WQ.stepE (ok_pick_t rfl rfl) rfl rfl rfl ?_) | (refine WQ.stepE (ok_pick_f rfl rfl) rfl rfl rfl ?_))
       all_goals (refine WQ.nil ?_)
       all_goals (repeat' (with_reducible first | refine thenP_n ?_ | refine blockP_n ?_))
       all_goals (refine WC.sub [(4, _), (5, _), (42, _)] ⟨rfl, rfl, rfl, trivial⟩ ?_)
       all_goals (first | refine WC.condB_t 1 rfl ?_ | refine WC.condB_f 2 rfl ?_ | (refine WC.condB 1 2 rfl (fun hb => ?_) (fun hb => ?_) <;> (first | replace hb := of_decide_eq_true hb | replace hb := of_decide_eq_false hb | replace hb := of_decide_eq_false (nt hb) | replace hb := of_decide_eq_true (nf hb) | skip)))
       all_goals (first
         | (fail_if_success (refine Br.mk (i := 1) ?_))
         | (refine Br.mk (i := 1) ?_
            all_goals (refine WC.seq ?_)
            all_goals (refine WC.region ?_)
            all_goals (refine WL.stepR0 (okE_store (fun w => Try.sizeOf4 w) rfl rfl (by assumption) (Nat.le_of_ble_eq_true rfl) rfl rfl) rfl rfl ?_
                       rintro _ h1 ⟨hb1, hx1⟩)
            all_goals (refine WL.nil ?_)
            all_goals (repeat' (with_reducible first | refine thenP_n ?_ | refine blockP_n ?_))
            all_goals (refine WC.ret ?_)
            all_goals (repeat' (with_reducible first | refine thenP_r ?_ | refine blockP_r ?_))
            all_goals (fail "retx?")
            skip))
       all_goals (first
         | (fail_if_success (refine Br.mk (i := 2) ?_))
         | (refine Br.mk (i := 2) ?_
            all_goals (refine WC.skip ?_)
            skip))
       all_goals (repeat' (with_reducible first | refine thenP_n ?_ | refine blockP_n ?_))
       all_goals (refine WC.region ?_)
       all_goals (refine WL.step (ok_load (fun w => Try.isAgg3 w) rfl (by first | assumption | exact cell_blk (by assumption) rfl)) rfl rfl rfl ?_)
       all_goals (first | (refine WL.step (ok_addI rfl rfl (by omega)) rfl rfl rfl ?_) | (refine WL.step (ok_add rfl rfl) rfl rfl rfl ?_))
       all_goals (refine WL.stepR0 (okE_store (fun w => Try.sizeOf3 w) rfl rfl hb56 (Nat.le_of_ble_eq_true rfl) rfl rfl) rfl rfl ?_
                  rintro _ h7 ⟨hb57, hx7⟩)
       all_goals (refine WL.nil ?_)
       all_goals (repeat' (with_reducible first | refine thenP_n ?_ | refine blockP_n ?_))
       all_goals (try (refine Br.mk (i := 7999) ?_))
       all_goals (exact ⟨(), hx7, fun q e => .inl e, hx6.trans hx7, by simpa using hb57⟩)
       skip))
  all_goals (try (refine Br.mk (i := 8001) ?_))
  all_goals (obtain ⟨hx6, hb56⟩ := hJ
             have hb36 := hx6.obj hb35 (fun e => by omega)
             have hb46 := hx6.obj hb45 (fun e => by omega)
             have ht6 := hx6.obj (hX5.obj ht nos) (fun e => by omega)
             have r6 := (r.ext0 hX5).ext hx6 (fun e => by omega) (fun e => by omega) (fun e => by omega) (fun e he => ⟨fun z => by have := l4 e he; omega, fun q hq z => by have := l5 e he q hq; omega⟩))
  all_goals (repeat' (with_reducible first | refine thenP_n ?_ | refine blockP_n ?_))
  all_goals (refine WD.sub [(0, _), (3, _), (4, _), (5, _)] ⟨rfl, rfl, rfl, rfl, trivial⟩ ?_)
  all_goals (refine WD.of ?_)
  all_goals (refine WC.seq ?_)
  all_goals (refine WC.drawH (fun h' => Ext No h1 h') 13 14 rfl fol ?_)
  all_goals (refine WH.take 0 rfl (by kernel_rfl) (by kernel_rfl) (by kernel_rfl) (by kernel_rfl) rfl (by first | exact Ext.refl _ _ | assumption) (fun hq hC => ok_load (fun w => Try.isAgg3 w) rfl (by first | exact hC.cell (by first | assumption | assumption | exact cell_blk (by assumption) rfl) nos)) rfl rfl rfl ?_)
  all_goals (refine WH.take 1 rfl (by kernel_rfl) (by kernel_rfl) (by kernel_rfl) (by kernel_rfl) rfl (by first | exact Ext.refl _ _ | assumption) (fun hq hC => ok_load (fun w => Try.isAgg51 w) rfl (by first | exact hC.cell (by first | assumption | assumption | exact cell_blk (by assumption) rfl) nos)) rfl rfl rfl ?_)
  all_goals (refine WH.take 2 rfl (by kernel_rfl) (by kernel_rfl) (by kernel_rfl) (by kernel_rfl) rfl (by first | exact Ext.refl _ _ | assumption) (fun hq hC => ok_nilCheck rfl) rfl rfl rfl ?_)
  all_goals (refine WH.take 3 rfl (by kernel_rfl) (by kernel_rfl) (by kernel_rfl) (by kernel_rfl) rfl (by first | exact Ext.refl _ _ | assumption) (fun hq hC => ok_fieldAddr rfl Try.underlying54 rfl (fun w => Try.sizeOf52 w)) rfl rfl rfl ?_)
  all_goals (refine WH.take 4 rfl (by kernel_rfl) (by kernel_rfl) (by kernel_rfl) (by kernel_rfl) rfl (by first | exact Ext.refl _ _ | assumption) (fun hq hC => ok_load (fun w => Try.isAgg52 w) rfl (by first | exact hC.cell (by first | assumption | assumption | exact cell_blk (by assumption) rfl) nos)) rfl rfl rfl ?_)
  all_goals (refine WH.take 5 rfl (by kernel_rfl) (by kernel_rfl) (by kernel_rfl) (by kernel_rfl) rfl (by first | exact Ext.refl _ _ | assumption) (fun hq hC => ok_lenL rfl Try.underlying52 rfl) rfl rfl rfl ?_)
  all_goals (first | (refine WH.take 6 rfl (by kernel_rfl) (by kernel_rfl) (by kernel_rfl) (by kernel_rfl) rfl (by first | exact Ext.refl _ _ | assumption) (fun hq hC => OkP.bool_t (by omega) (ok_eql rfl rfl)) rfl rfl rfl ?_) | (refine WH.take 6 rfl (by kernel_rfl) (by kernel_rfl) (by kernel_rfl) (by kernel_rfl) rfl (by first | exact Ext.refl _ _ | assumption) (fun hq hC => OkP.bool_f (by omega) (ok_eql rfl rfl)) rfl rfl rfl ?_) | (refine WH.take 6 rfl (by kernel_rfl) (by kernel_rfl) (by kernel_rfl) (by kernel_rfl) rfl (by first | exact Ext.refl _ _ | assumption) (fun hq hC => ok_eql rfl rfl) rfl rfl rfl ?_))
  all_goals (refine WH.take 7 rfl (by kernel_rfl) (by kernel_rfl) (by kernel_rfl) (by kernel_rfl) rfl (by first | exact Ext.refl _ _ | assumption) (fun hq hC => ok_move rfl) rfl rfl rfl ?_)
  all_goals (try ((fail_if_success (refine WH.part 52 (b := true) rfl (fun _ => ?_) (fun _ => ?_))); (fail_if_success (refine WH.part 52 (b := false) rfl (fun _ => ?_) (fun _ => ?_))); (refine WH.part 52 rfl (fun hb => ?_) (fun hb => ?_))))
  all_goals (first | (refine WH.pass 8 rfl (by kernel_rfl) (by kernel_rfl) (by kernel_rfl) (by kernel_rfl) rfl (by first | exact Ext.refl _ _ | assumption) rfl rfl rfl ?_) | (refine WH.take 8 rfl (by kernel_rfl) (by kernel_rfl) (by kernel_rfl) (by kernel_rfl) rfl (by first | exact Ext.refl _ _ | assumption) (fun hq hC => ok_move rfl) rfl rfl rfl ?_))
  all_goals (first | (refine WH.pass 10 rfl (by kernel_rfl) (by kernel_rfl) (by kernel_rfl) (by kernel_rfl) rfl (by first | exact Ext.refl _ _ | assumption) rfl rfl rfl ?_) | (refine WH.take 10 rfl (by kernel_rfl) (by kernel_rfl) (by kernel_rfl) (by kernel_rfl) rfl (by first | exact Ext.refl _ _ | assumption) (fun hq hC => ok_load (fun w => Try.isAgg3 w) rfl (by first | exact hC.cell (by first | assumption | assumption | exact cell_blk (by assumption) rfl) nos)) rfl rfl rfl ?_))
  all_goals (refine WH.one 9 (by kernel_rfl) ?_)
  all_goals (refine Comes1.call (vs := [_]) rfl rfl (fun a w => Try.call38 a w) rfl (rg_len r6) rfl rfl rfl ?_ (fun _ => by kernel_rfl)
             rintro _ hz ⟨rfl, ez⟩
             subst ez)
  all_goals (refine ⟨fun _ => .refl _ _, ?_⟩)
  all_goals (first | (refine WH.pass 11 rfl (by kernel_rfl) (by kernel_rfl) (by kernel_rfl) (by kernel_rfl) rfl (by first | exact Ext.refl _ _ | assumption) rfl rfl rfl ?_) | (first | (refine WH.take 11 rfl (by kernel_rfl) (by kernel_rfl) (by kernel_rfl) (by kernel_rfl) rfl (by first | exact Ext.refl _ _ | assumption) (fun hq hC => OkP.bool_t (by omega) (ok_eql rfl rfl)) rfl rfl rfl ?_) | (refine WH.take 11 rfl (by kernel_rfl) (by kernel_rfl) (by kernel_rfl) (by kernel_rfl) rfl (by first | exact Ext.refl _ _ | assumption) (fun hq hC => OkP.bool_f (by omega) (ok_eql rfl rfl)) rfl rfl rfl ?_) | (refine WH.take 11 rfl (by kernel_rfl) (by kernel_rfl) (by kernel_rfl) (by kernel_rfl) rfl (by first | exact Ext.refl _ _ | assumption) (fun hq hC => ok_eql rfl rfl) rfl rfl rfl ?_)))
  all_goals (first | (refine WH.take 12 rfl (by kernel_rfl) (by kernel_rfl) (by kernel_rfl) (by kernel_rfl) rfl (by first | exact Ext.refl _ _ | assumption) (fun hq hC => ok_pick_t rfl rfl) rfl rfl rfl ?_) | (refine WH.take 12 rfl (by kernel_rfl) (by kernel_rfl) (by kernel_rfl) (by kernel_rfl) rfl (by first | exact Ext.refl _ _ | assumption) (fun hq hC => ok_pick_f rfl rfl) rfl rfl rfl ?_))
  all_goals (refine WH.one 13 (by kernel_rfl) ?_)
  all_goals (refine Comes1.run0 rfl (okE_store (fun w => Try.sizeOf4 w) rfl rfl hb46 (Nat.le_of_ble_eq_true rfl) rfl rfl) rfl rfl ?_ (fun _ => by kernel_rfl)
             rintro _ h8 ⟨hb48, hx8⟩)
  all_goals (refine ⟨fun e => (by cases e), ?_⟩)
  all_goals (refine WH.done (by kernel_rfl) ?_)
  all_goals (repeat' (with_reducible first | refine thenP_n ?_ | refine blockP_n ?_))
  all_goals (refine WC.sub [(4, _)] ⟨rfl, trivial⟩ ?_)
  all_goals (refine WC.ret ?_)
  all_goals (repeat' (with_reducible first | refine thenP_r ?_ | refine blockP_r ?_))
  all_goals (have hoD8 : open_ h8 D := hx8.obj hoD (fun e => by have e' : D = b4 := e; omega)
             have hb48' := shut_blk hoD8 hb48)
  all_goals (with_reducible first | refine retD_0 ?_ | refine retD_1 (by assumption) ?_)
  all_goals (refine retP_1 _ ⟨⟨_, rfl, ld_cell (fun w => Try.isAgg4 w) (cell_blk (by assumption) rfl)⟩, trivial⟩ ?_)
  all_goals (exact ⟨rfl, ((hX5.trans' hx6 (fun q hq e => by omega)).trans' hx8 (fun q hq e => by omega)).trans' (shut1 hoD8) (fun q hq e => by have e' : q = D := e; omega)⟩)
end
end Go.Proofs.Ytkpgnhhidnkmcaa

