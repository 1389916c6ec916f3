/-
  VIEW: two views, the same or not; awake.
-/
import Derived.Test.YtfadcbbjjdmmfaaView7
namespace Go.Proofs.Ytfadcbbjjdmmfaa
open Go Go.RK

/-- Whether two views are the same. -/
def sameB (V X : VW) : Bool := decide (V.c.map CV.pl = X.c.map CV.pl) && decide (V.s.map SV.pl = X.s.map SV.pl) && decide (V.r = X.r) && decide (V.w = X.w)
theorem sameB_self (V : VW) : sameB V V = true := by simp [sameB]
set_option maxHeartbeats 1000000 in
set_option maxRecDepth 100000 in
theorem same_v {h : Heap} (V X : VW) (ok : V.ok h) (ox : X.ok h) (f : Few V) : CallsH Try.prog 31 ⟨[.agg ⟨V.cells⟩, .agg ⟨X.cells⟩]⟩ h fun u h' => u = .bool (sameB V X) ∧ Ext No h h' := by
  have hft : ∀ c ∈ V.c, c.t.length ≤ 1000 := fun c hc => by have := f.t c hc; omega
  have hfq : ∀ s ∈ V.s, s.c.length ≤ 1000 ∧ s.p.length ≤ 1000 := fun s hs => by have := f.q s hs; omega
  have hfc := f.c
  have hfs := f.s
  have hfr := f.r
  have hfw := f.w
  obtain ⟨vc, C, vs, S, vr, R, vw, W⟩ := V
  obtain ⟨vc2, C2, vs2, S2, vr2, R2, vw2, W2⟩ := X
  obtain ⟨hc, hcl, hco, hs, hsl, hso, hr, hrl, hw, hwl⟩ := ok
  obtain ⟨gc, gcl, gco, gs, gsl, gso, gr, grl, gw, gwl⟩ := ox
  simp only at hc hcl hco hs hsl hso hr hrl hw hwl gc gcl gco gs gsl gso gr grl gw gwl hft hfq hfc hfs hfr hfw
  obtain ⟨A1, c1, rfl, _⟩ := id hc
  obtain ⟨A2, c2, rfl, _⟩ := id hs
  obtain ⟨A3, c3, rfl, _⟩ := id hr
  obtain ⟨A4, c4, rfl, _⟩ := id hw
  obtain ⟨B1, d1, rfl, _⟩ := id gc
  obtain ⟨B2, d2, rfl, _⟩ := id gs
  obtain ⟨B3, d3, rfl, _⟩ := id gr
  obtain ⟨B4, d4, rfl, _⟩ := id gw
  dsimp only [VW.cells]
  unfold sameB
  dsimp only
  by_cases q1 : C.map CV.pl = C2.map CV.pl
  all_goals
    by_cases q2 : S.map SV.pl = S2.map SV.pl
    all_goals
      by_cases q3 : R = R2
      all_goals
        refine calls [(0, _), (1, _)] Try.func31 rfl Try.ntmps31 rfl ⟨rfl, rfl, trivial⟩ ?_
        all_goals (refine WC.seq ?_)
        all_goals (refine WC.region ?_)
        all_goals (refine WL.stepR (okE_box rfl) rfl rfl rfl ?_
                   rintro _ h1 ⟨b1, rfl, hg1, hb1, hx1⟩)
        all_goals (refine WL.stepR (okE_box rfl) rfl rfl rfl ?_
                   rintro _ h2 ⟨b2, rfl, hg2, hb2, hx2⟩)
        all_goals (have hb12 := hx2.obj hb1 nos
                   have hX2 := hx1.trans hx2
                   clear hb1)
        all_goals (refine WL.step (ok_assign rfl) rfl rfl rfl ?_)
        all_goals (refine WL.nil ?_)
        all_goals (repeat' (with_reducible first | refine thenP_n ?_ | refine blockP_n ?_))
        all_goals (refine WC.seq ?_)
        all_goals (refine WC.region ?_)
        all_goals (refine WL.step (ok_fieldAddr rfl Try.underlying46 rfl (fun w => Try.sizeOf42 w)) rfl rfl rfl ?_)
        all_goals (refine WL.step (ok_load (fun w => Try.isAgg42 w) rfl (by first | assumption | exact cell_blk (by assumption) rfl)) rfl rfl rfl ?_)
        all_goals (refine WL.step (ok_fieldAddr rfl Try.underlying46 rfl (fun w => Try.sizeOf42 w)) rfl rfl rfl ?_)
        all_goals (refine WL.step (ok_load (fun w => Try.isAgg42 w) rfl (by first | assumption | exact cell_blk (by assumption) rfl)) rfl rfl rfl ?_)
        all_goals (refine WL.call (vs := [_, _, _]) rfl (fun a w => Try.call55 a w) rfl (clients_eq C C2 (hc.ext0 hX2) (gc.ext0 hX2) (fun c h' => (hco c h').ext0 hX2) (fun c h' => (gco c h').ext0 hX2) (by omega) hft) rfl rfl rfl ?_
                   rintro _ h3 ⟨rfl, hx3⟩)
        all_goals (first | rw [decide_eq_true q1] | rw [decide_eq_false q1]
                   have hX3 := hX2.trans hx3
                   have hb13 := hx3.obj hb12 nos
                   have hb23 := hx3.obj hb2 nos)
        all_goals (refine WL.step (ok_move rfl) rfl rfl rfl ?_)
        all_goals (try ((fail_if_success (refine WL.part 11 (b := true) rfl (fun _ => ?_) (fun _ => ?_))); (fail_if_success (refine WL.part 11 (b := false) rfl (fun _ => ?_) (fun _ => ?_))); (refine WL.part 11 rfl (fun hb => ?_) (fun hb => ?_) <;> (first | replace hb := of_decide_eq_true hb | replace hb := of_decide_eq_false hb | replace hb := of_decide_eq_false (nt hb) | replace hb := of_decide_eq_true (nf hb) | skip))))
        all_goals (first | (refine WL.pass rfl rfl rfl ?_) | (refine WL.step (ok_fieldAddr rfl Try.underlying46 rfl (fun w => Try.sizeOf43 w)) rfl rfl rfl ?_))
        all_goals (first | (refine WL.pass rfl rfl rfl ?_) | (refine WL.step (ok_load (fun w => Try.isAgg43 w) rfl (by first | assumption | exact cell_blk (by assumption) rfl)) rfl rfl rfl ?_))
        all_goals (first | (refine WL.pass rfl rfl rfl ?_) | (refine WL.step (ok_fieldAddr rfl Try.underlying46 rfl (fun w => Try.sizeOf43 w)) rfl rfl rfl ?_))
        all_goals (first | (refine WL.pass rfl rfl rfl ?_) | (refine WL.step (ok_load (fun w => Try.isAgg43 w) rfl (by first | assumption | exact cell_blk (by assumption) rfl)) rfl rfl rfl ?_))
        all_goals (first
                     | (refine WL.pass rfl rfl rfl ?_)
                     | (refine WL.call (vs := [_, _, _]) rfl (fun a w => Try.call57 a w) rfl (servers_eq S S2 (hs.ext0 hX3) (gs.ext0 hX3) (fun c h' => (hso c h').ext0 hX3) (fun c h' => (gso c h').ext0 hX3) (by omega) hfq) rfl rfl rfl ?_
                        rintro _ h4 ⟨rfl, hx4⟩))
        all_goals (first
                    | (have hX4 := hX3.trans hx4; have hb14 := hx4.obj hb13 nos; have hb24 := hx4.obj hb23 nos; first | rw [decide_eq_true q2] | rw [decide_eq_false q2])
                    | skip)
        all_goals (first | (refine WL.step (ok_pick_t rfl rfl) rfl rfl rfl ?_) | (refine WL.step (ok_pick_f rfl rfl) rfl rfl rfl ?_))
        all_goals (refine WL.step (ok_assign rfl) rfl rfl rfl ?_)
        all_goals (refine WL.nil ?_)
        all_goals (repeat' (with_reducible first | refine thenP_n ?_ | refine blockP_n ?_))
        all_goals (refine WC.sub [(2, _), (3, _), (5, _)] ⟨rfl, rfl, rfl, trivial⟩ ?_)
        all_goals (refine WC.seq ?_)
        all_goals (refine WC.region ?_)
        all_goals (refine WL.step (ok_move rfl) rfl rfl rfl ?_)
        all_goals (refine WL.step (ok_move rfl) rfl rfl rfl ?_)
        all_goals (try ((fail_if_success (refine WL.part 19 (b := true) rfl (fun _ => ?_) (fun _ => ?_))); (fail_if_success (refine WL.part 19 (b := false) rfl (fun _ => ?_) (fun _ => ?_))); (refine WL.part 19 rfl (fun hb => ?_) (fun hb => ?_) <;> (first | replace hb := of_decide_eq_true hb | replace hb := of_decide_eq_false hb | replace hb := of_decide_eq_false (nt hb) | replace hb := of_decide_eq_true (nf hb) | skip))))
        all_goals (first | (refine WL.pass rfl rfl rfl ?_) | (refine WL.step (ok_fieldAddr rfl Try.underlying46 rfl (fun w => Try.sizeOf44 w)) rfl rfl rfl ?_))
        all_goals (first | (refine WL.pass rfl rfl rfl ?_) | (refine WL.step (ok_load (fun w => Try.isAgg44 w) rfl (by first | assumption | exact cell_blk (by assumption) rfl)) rfl rfl rfl ?_))
        all_goals (first | (refine WL.pass rfl rfl rfl ?_) | (refine WL.step (ok_fieldAddr rfl Try.underlying46 rfl (fun w => Try.sizeOf44 w)) rfl rfl rfl ?_))
        all_goals (first | (refine WL.pass rfl rfl rfl ?_) | (refine WL.step (ok_load (fun w => Try.isAgg44 w) rfl (by first | assumption | exact cell_blk (by assumption) rfl)) rfl rfl rfl ?_))
        all_goals (first
                     | (refine WL.pass rfl rfl rfl ?_)
                     | (refine WL.call (vs := [_, _]) rfl (fun a w => Try.call59 a w) rfl (equal_cn R R2 (hr.ext0 hX4) (gr.ext0 hX4) (by omega)) rfl rfl rfl ?_
                        rintro _ hz ⟨rfl, _⟩
                        subst hz))
        all_goals ((first | rw [decide_eq_true q3] | rw [decide_eq_false q3] | skip))
        all_goals (first | (refine WL.step (ok_pick_t rfl rfl) rfl rfl rfl ?_) | (refine WL.step (ok_pick_f rfl rfl) rfl rfl rfl ?_))
        all_goals (refine WL.step (ok_move rfl) rfl rfl rfl ?_)
        all_goals (try ((fail_if_success (refine WL.part 26 (b := true) rfl (fun _ => ?_) (fun _ => ?_))); (fail_if_success (refine WL.part 26 (b := false) rfl (fun _ => ?_) (fun _ => ?_))); (refine WL.part 26 rfl (fun hb => ?_) (fun hb => ?_) <;> (first | replace hb := of_decide_eq_true hb | replace hb := of_decide_eq_false hb | replace hb := of_decide_eq_false (nt hb) | replace hb := of_decide_eq_true (nf hb) | skip))))
        all_goals (first | (refine WL.pass rfl rfl rfl ?_) | (refine WL.step (ok_fieldAddr rfl Try.underlying46 rfl (fun w => Try.sizeOf36 w)) rfl rfl rfl ?_))
        all_goals (first | (refine WL.pass rfl rfl rfl ?_) | (refine WL.step (ok_load (fun w => Try.isAgg36 w) rfl (by first | assumption | exact cell_blk (by assumption) rfl)) rfl rfl rfl ?_))
        all_goals (first | (refine WL.pass rfl rfl rfl ?_) | (refine WL.step (ok_fieldAddr rfl Try.underlying46 rfl (fun w => Try.sizeOf36 w)) rfl rfl rfl ?_))
        all_goals (first | (refine WL.pass rfl rfl rfl ?_) | (refine WL.step (ok_load (fun w => Try.isAgg36 w) rfl (by first | assumption | exact cell_blk (by assumption) rfl)) rfl rfl rfl ?_))
        all_goals (first
                     | (refine WL.pass rfl rfl rfl ?_)
                     | (refine WL.call (vs := [_, _]) rfl (fun a w => Try.call23 a w) rfl (equal_int W W2 (hw.ext0 hX4) (gw.ext0 hX4) (by unfold maxLen; omega)) rfl rfl rfl ?_
                        rintro _ hz ⟨rfl, _⟩
                        subst hz))
        all_goals (first | (refine WL.step (ok_pick_t rfl rfl) rfl rfl rfl ?_) | (refine WL.step (ok_pick_f rfl rfl) rfl rfl rfl ?_))
        all_goals (refine WL.step (ok_assign rfl) rfl rfl rfl ?_)
        all_goals (refine WL.nil ?_)
        all_goals (repeat' (with_reducible first | refine thenP_n ?_ | refine blockP_n ?_))
        all_goals (refine WC.sub [(4, _)] ⟨rfl, trivial⟩ ?_)
        all_goals (refine WC.ret ?_)
        all_goals (repeat' (with_reducible first | refine thenP_r ?_ | refine blockP_r ?_))
        all_goals (refine retP_1 _ ⟨rfl, trivial⟩ ?_)
        all_goals (first
                    | (refine ⟨congrArg Value.bool ?_, hX4⟩; simp [q1, q2, q3]; done)
                    | (refine ⟨congrArg Value.bool ?_, hX3⟩; simp [q1, q2, q3]; done))
set_option maxHeartbeats 2000000 in
set_option maxRecDepth 100000 in
theorem same46 {h : Heap} (V X : VW) (ok : V.ok h) (ox : X.ok h) (f : Few V) : CallsH Try.prog 32 ⟨[.agg ⟨V.cells⟩, .agg ⟨X.cells⟩]⟩ h fun u h' => u = .bool (sameB V X) ∧ Ext No h h' := by
  have hft : ∀ c ∈ V.c, c.t.length ≤ 1000 := fun c hc => by have := f.t c hc; omega
  have hfq : ∀ s ∈ V.s, s.c.length ≤ 1000 ∧ s.p.length ≤ 1000 := fun s hs => by have := f.q s hs; omega
  have hfc := f.c
  have hfs := f.s
  have hfr := f.r
  have hfw := f.w
  obtain ⟨vc, C, vs, S, vr, R, vw, W⟩ := V
  obtain ⟨vc2, C2, vs2, S2, vr2, R2, vw2, W2⟩ := X
  obtain ⟨hc, hcl, hco, hs, hsl, hso, hr, hrl, hw, hwl⟩ := ok
  obtain ⟨gc, gcl, gco, gs, gsl, gso, gr, grl, gw, gwl⟩ := ox
  simp only at hc hcl hco hs hsl hso hr hrl hw hwl gc gcl gco gs gsl gso gr grl gw gwl hft hfq hfc hfs hfr hfw
  obtain ⟨A1, c1, rfl, _⟩ := id hc
  obtain ⟨A2, c2, rfl, _⟩ := id hs
  obtain ⟨A3, c3, rfl, _⟩ := id hr
  obtain ⟨A4, c4, rfl, _⟩ := id hw
  obtain ⟨B1, d1, rfl, _⟩ := id gc
  obtain ⟨B2, d2, rfl, _⟩ := id gs
  obtain ⟨B3, d3, rfl, _⟩ := id gr
  obtain ⟨B4, d4, rfl, _⟩ := id gw
  dsimp only [VW.cells]
  unfold sameB
  dsimp only
  have hcs : ¬ C.length = C2.length ∨ (C.length = C2.length ∧ ¬ S.length = S2.length) ∨ (C.length = C2.length ∧ S.length = S2.length) := by omega
  rcases hcs with n1 | ⟨n1, n2⟩ | ⟨n1, n2⟩
  all_goals
    by_cases q3 : R = R2
    all_goals
      refine calls [(0, _), (1, _)] Try.func32 rfl Try.ntmps32 rfl ⟨rfl, rfl, trivial⟩ ?_
      all_goals (refine WC.seq ?_)
      all_goals (refine WC.region ?_)
      all_goals (refine WL.stepR (okE_box rfl) rfl rfl rfl ?_
                 rintro _ h1 ⟨b1, rfl, hg1, hb1, hx1⟩)
      all_goals (refine WL.stepR (okE_box rfl) rfl rfl rfl ?_
                 rintro _ h2 ⟨b2, rfl, hg2, hb2, hx2⟩)
      all_goals (have hb12 := hx2.obj hb1 nos
                 have hX2 := hx1.trans hx2
                 clear hb1)
      all_goals (refine WL.step (ok_assign rfl) rfl rfl rfl ?_)
      all_goals (refine WL.nil ?_)
      all_goals (repeat' (with_reducible first | refine thenP_n ?_ | refine blockP_n ?_))
      all_goals (refine WC.seq ?_)
      all_goals (refine WC.seq ?_)
      all_goals (refine WC.region ?_)
      all_goals (refine WL.step (ok_fieldAddr rfl Try.underlying46 rfl (fun w => Try.sizeOf42 w)) rfl rfl rfl ?_)
      all_goals (refine WL.step (ok_load (fun w => Try.isAgg42 w) rfl (by first | assumption | exact cell_blk (by assumption) rfl)) rfl rfl rfl ?_)
      all_goals (refine WL.step (ok_lenL rfl Try.underlying42 rfl) rfl rfl rfl ?_)
      all_goals (refine WL.step (ok_fieldAddr rfl Try.underlying46 rfl (fun w => Try.sizeOf42 w)) rfl rfl rfl ?_)
      all_goals (refine WL.step (ok_load (fun w => Try.isAgg42 w) rfl (by first | assumption | exact cell_blk (by assumption) rfl)) rfl rfl rfl ?_)
      all_goals (refine WL.step (ok_lenL rfl Try.underlying42 rfl) rfl rfl rfl ?_)
      all_goals (first | (refine WL.step (OkP.nbool_t (by omega) (ok_neq rfl rfl)) rfl rfl rfl ?_) | (refine WL.step (OkP.nbool_f (by omega) (ok_neq rfl rfl)) rfl rfl rfl ?_) | (refine WL.step (ok_neq rfl rfl) rfl rfl rfl ?_))
      all_goals (refine WL.step (ok_move rfl) rfl rfl rfl ?_)
      all_goals (try ((fail_if_success (refine WL.part 14 (b := true) rfl (fun _ => ?_) (fun _ => ?_))); (fail_if_success (refine WL.part 14 (b := false) rfl (fun _ => ?_) (fun _ => ?_))); (refine WL.part 14 rfl (fun hb => ?_) (fun hb => ?_) <;> (first | replace hb := of_decide_eq_true hb | replace hb := of_decide_eq_false hb | replace hb := of_decide_eq_false (nt hb) | replace hb := of_decide_eq_true (nf hb) | skip))))
      all_goals (first | (refine WL.pass rfl rfl rfl ?_) | (refine WL.step (ok_fieldAddr rfl Try.underlying46 rfl (fun w => Try.sizeOf43 w)) rfl rfl rfl ?_))
      all_goals (first | (refine WL.pass rfl rfl rfl ?_) | (refine WL.step (ok_load (fun w => Try.isAgg43 w) rfl (by first | assumption | exact cell_blk (by assumption) rfl)) rfl rfl rfl ?_))
      all_goals (first | (refine WL.pass rfl rfl rfl ?_) | (refine WL.step (ok_lenL rfl Try.underlying43 rfl) rfl rfl rfl ?_))
      all_goals (first | (refine WL.pass rfl rfl rfl ?_) | (refine WL.step (ok_fieldAddr rfl Try.underlying46 rfl (fun w => Try.sizeOf43 w)) rfl rfl rfl ?_))
      all_goals (first | (refine WL.pass rfl rfl rfl ?_) | (refine WL.step (ok_load (fun w => Try.isAgg43 w) rfl (by first | assumption | exact cell_blk (by assumption) rfl)) rfl rfl rfl ?_))
      all_goals (first | (refine WL.pass rfl rfl rfl ?_) | (refine WL.step (ok_lenL rfl Try.underlying43 rfl) rfl rfl rfl ?_))
      all_goals (first | (refine WL.pass rfl rfl rfl ?_) | (first | (refine WL.step (OkP.nbool_t (by omega) (ok_neq rfl rfl)) rfl rfl rfl ?_) | (refine WL.step (OkP.nbool_f (by omega) (ok_neq rfl rfl)) rfl rfl rfl ?_) | (refine WL.step (ok_neq rfl rfl) rfl rfl rfl ?_)))
      all_goals (first | (refine WL.step (ok_pick_t rfl rfl) rfl rfl rfl ?_) | (refine WL.step (ok_pick_f rfl rfl) rfl rfl rfl ?_))
      all_goals (refine WL.nil ?_)
      all_goals (repeat' (with_reducible first | refine thenP_n ?_ | refine blockP_n ?_))
      all_goals (refine WC.sub [(2, _), (3, _), (22, _)] ⟨rfl, rfl, rfl, trivial⟩ ?_)
      all_goals (first | refine WC.condB_t 1 rfl ?_ | refine WC.condB_f 2 rfl ?_ | (refine WC.condB 1 2 rfl (fun hb => ?_) (fun hb => ?_) <;> (first | replace hb := of_decide_eq_true hb | replace hb := of_decide_eq_false hb | replace hb := of_decide_eq_false (nt hb) | replace hb := of_decide_eq_true (nf hb) | skip)))
      all_goals (first
        | (fail_if_success (refine Br.mk (i := 1) ?_))
        | (refine Br.mk (i := 1) ?_
           all_goals (refine WC.seq ?_)
           all_goals (refine WC.region ?_)
           all_goals (refine WL.step (ok_assign rfl) rfl rfl rfl ?_)
           all_goals (refine WL.nil ?_)
           all_goals (repeat' (with_reducible first | refine thenP_n ?_ | refine blockP_n ?_))
           all_goals (refine WC.ret ?_)
           all_goals (repeat' (with_reducible first | refine thenP_r ?_ | refine blockP_r ?_))
           all_goals (refine retP_1 _ ⟨rfl, trivial⟩ ?_)
           all_goals (first
                       | (have e1 : ¬ C.map CV.pl = C2.map CV.pl := map_neX hc1 hc2 hq; refine ⟨congrArg Value.bool ?_, hX5.trans hx6⟩; simp [e1]; done)
                       | (have e1 : ¬ S.map SV.pl = S2.map SV.pl := map_neX hs1 hs2 hq; refine ⟨congrArg Value.bool ?_, hX7.trans hx8⟩; simp [e1]; done)
                       | (refine ⟨congrArg Value.bool ?_, hX7⟩; simp [hn, hm, q3]; done)
                       | (have e1 : ¬ C.map CV.pl = C2.map CV.pl := fun e => n1 (by have := congrArg List.length e; simpa using this); refine ⟨congrArg Value.bool ?_, hX2⟩; simp [e1]; done)
                       | (have e1 : ¬ S.map SV.pl = S2.map SV.pl := fun e => n2 (by have := congrArg List.length e; simpa using this); refine ⟨congrArg Value.bool ?_, hX2⟩; simp [e1]; done))
           skip))
      all_goals (first
        | (fail_if_success (refine Br.mk (i := 2) ?_))
        | (refine Br.mk (i := 2) ?_
           all_goals (refine WC.skip ?_)
           skip))
      all_goals (repeat' (with_reducible first | refine thenP_n ?_ | refine blockP_n ?_))
      all_goals (refine WC.seq ?_)
      all_goals (refine WC.seq ?_)
      all_goals (refine WC.region ?_)
      all_goals (refine WL.step (ok_assign rfl) rfl rfl rfl ?_)
      all_goals (refine WL.nil ?_)
      all_goals (repeat' (with_reducible first | refine thenP_n ?_ | refine blockP_n ?_))
      all_goals (refine WC.block ?_)
      -- loop 0: slots that turn [5], that stay [2, 3]
      all_goals (refine WC.loopG (X := Nat) (fun x => ([(5, In (x : Int))] : Fr)) [(2, _), (3, _)] (fun k h' => Ext No h2 h' ∧ k ≤ C.length ∧ (C.take k).map CV.pl = (C2.take k).map CV.pl) (fun k => C.length - k) (0) ⟨rfl, rfl, rfl, trivial⟩ (by exact ⟨.refl _ _, Nat.zero_le _, by simp⟩) ?_)
      all_goals (rintro k h5 ⟨hx5, hk, hn⟩
                 have hb15 := hx5.obj hb12 nos
                 have hb25 := hx5.obj hb2 nos
                 have hX5 := hX2.trans hx5)
      all_goals (refine WC.sub [(5, _), (2, _), (3, _)] ⟨rfl, rfl, rfl, trivial⟩ ?_)
      all_goals (refine WC.seq ?_)
      all_goals (refine WC.seq ?_)
      all_goals (refine WC.region ?_)
      all_goals (refine WL.step (ok_move rfl) rfl rfl rfl ?_)
      all_goals (refine WL.step (ok_fieldAddr rfl Try.underlying46 rfl (fun w => Try.sizeOf42 w)) rfl rfl rfl ?_)
      all_goals (refine WL.step (ok_load (fun w => Try.isAgg42 w) rfl (by first | assumption | exact cell_blk (by assumption) rfl)) rfl rfl rfl ?_)
      all_goals (refine WL.step (ok_lenL rfl Try.underlying42 rfl) rfl rfl rfl ?_)
      all_goals (first | (refine WL.step (OkP.bool_t (by omega) (ok_lss rfl rfl)) rfl rfl rfl ?_) | (refine WL.step (OkP.bool_f (by omega) (ok_lss rfl rfl)) rfl rfl rfl ?_) | (refine WL.step (ok_lss rfl rfl) rfl rfl rfl ?_))
      all_goals (refine WL.nil ?_)
      all_goals (repeat' (with_reducible first | refine thenP_n ?_ | refine blockP_n ?_))
      all_goals (refine WC.sub [(2, _), (3, _), (5, _), (27, _)] ⟨rfl, rfl, rfl, rfl, trivial⟩ ?_)
      all_goals (first | refine WC.condB_t 3 rfl ?_ | refine WC.condB_f 4 rfl ?_ | (refine WC.condB 3 4 rfl (fun hb => ?_) (fun hb => ?_) <;> (first | replace hb := of_decide_eq_true hb | replace hb := of_decide_eq_false hb | replace hb := of_decide_eq_false (nt hb) | replace hb := of_decide_eq_true (nf hb) | skip)))
      all_goals (first
        | (fail_if_success (refine Br.mk (i := 3) ?_))
        | (refine Br.mk (i := 3) ?_
           all_goals (refine WC.skip ?_)
           skip))
      all_goals (first
        | (fail_if_success (refine Br.mk (i := 4) ?_))
        | (refine Br.mk (i := 4) ?_
           all_goals (refine WC.exit ?_)
           all_goals (repeat' (with_reducible first | refine thenP_x ?_ | refine blockP_miss rfl ?_ | refine blockP_hit ?_ | refine blockP_n ?_ | refine thenP_n ?_))
           all_goals (refine Br.out (i := 1000) ?_)
           skip))
      all_goals (first | (refine Br.keep ?_) | (repeat' (with_reducible first | refine thenP_n ?_ | refine blockP_n ?_)))
      all_goals (first | (refine Br.keep ?_) | (refine WC.seq ?_))
      all_goals (first | (refine Br.keep ?_) | (refine WC.block ?_))
      all_goals (first | (refine Br.keep ?_) | (refine WC.seq ?_))
      all_goals (first | (refine Br.keep ?_) | (refine WC.drawH (fun h' => Ext No h5 h') 12 12 rfl fol ?_))
      all_goals (first
                   | (refine Br.keep ?_)
                   | (obtain ⟨b, o, hA, hbL, hat⟩ := Rd.at_ (hc.ext0 hX5) (by omega)
                      obtain ⟨b', o', hB, hb', hat2⟩ := Rd.at_ (gc.ext0 hX5) (by omega)
                      obtain ⟨x, hc1⟩ : ∃ y, C[k]? = some y := ⟨_, List.getElem?_eq_getElem (by omega)⟩
                      obtain ⟨y, hc2⟩ : ∃ y, C2[k]? = some y := ⟨_, List.getElem?_eq_getElem (by omega)⟩
                      have ok1 := (hco _ (List.mem_of_getElem? hc1)).ext0 hX5
                      have ok2 := (gco _ (List.mem_of_getElem? hc2)).ext0 hX5
                      have htx := hft _ (List.mem_of_getElem? hc1)
                      obtain ⟨p1, s1, e1, v1, t1⟩ := x
                      obtain ⟨p2, s2, e2, v2, t2⟩ := y
                      obtain ⟨T1, u1, ev1, _⟩ := id ok1.1
                      obtain ⟨T2, u2, ev2, _⟩ := id ok2.1
                      simp only at ev1 ev2
                      subst ev1 ev2
                      have at1 : At h5 b (o + k * 4) [In p1, In s1, In e1, .slice T1 t1.length u1] := At.elem CV.len hat hc1
                      have at2 : At h5 b' (o' + k * 4) [In p2, In s2, In e2, .slice T2 t2.length u2] := At.elem CV.len hat2 hc2))
      all_goals (first | (refine Br.keep ?_) | (refine WH.take 0 rfl (by kernel_rfl) (by kernel_rfl) (by kernel_rfl) (by kernel_rfl) rfl (by first | exact Ext.refl _ _ | assumption) (fun hq hC => ok_fieldAddr rfl Try.underlying46 rfl (fun w => Try.sizeOf42 w)) rfl rfl rfl ?_))
      all_goals (first | (refine Br.keep ?_) | (refine WH.take 1 rfl (by kernel_rfl) (by kernel_rfl) (by kernel_rfl) (by kernel_rfl) rfl (by first | exact Ext.refl _ _ | assumption) (fun hq hC => ok_load (fun w => Try.isAgg42 w) rfl (by first | exact hC.cell (by first | assumption | assumption | exact cell_blk (by assumption) rfl) nos)) rfl rfl rfl ?_))
      all_goals (first | (refine Br.keep ?_) | (refine WH.take 2 rfl (by kernel_rfl) (by kernel_rfl) (by kernel_rfl) (by kernel_rfl) rfl (by first | exact Ext.refl _ _ | assumption) (fun hq hC => ok_move rfl) rfl rfl rfl ?_))
      all_goals (first | (refine Br.keep ?_) | (refine WH.take 3 rfl (by kernel_rfl) (by kernel_rfl) (by kernel_rfl) (by kernel_rfl) rfl (by first | exact Ext.refl _ _ | assumption) (fun hq hC => ok_idxAddrA Try.underlying42 (fun w => Try.sizeOf82 w) rfl rfl rfl (by omega) (by first | rfl | assumption)) rfl rfl rfl ?_))
      all_goals (first | (refine Br.keep ?_) | (refine WH.take 4 rfl (by kernel_rfl) (by kernel_rfl) (by kernel_rfl) (by kernel_rfl) rfl (by first | exact Ext.refl _ _ | assumption) (fun hq hC => ok_loadN (fun w => Try.isAgg82 w) (fun w => Try.sizeOf82 w) rfl rfl (by exact at1.ext hC nos)) rfl rfl rfl ?_))
      all_goals (first | (refine Br.keep ?_) | (refine WH.take 5 rfl (by kernel_rfl) (by kernel_rfl) (by kernel_rfl) (by kernel_rfl) rfl (by first | exact Ext.refl _ _ | assumption) (fun hq hC => ok_fieldAddr rfl Try.underlying46 rfl (fun w => Try.sizeOf42 w)) rfl rfl rfl ?_))
      all_goals (first | (refine Br.keep ?_) | (refine WH.take 6 rfl (by kernel_rfl) (by kernel_rfl) (by kernel_rfl) (by kernel_rfl) rfl (by first | exact Ext.refl _ _ | assumption) (fun hq hC => ok_load (fun w => Try.isAgg42 w) rfl (by first | exact hC.cell (by first | assumption | assumption | exact cell_blk (by assumption) rfl) nos)) rfl rfl rfl ?_))
      all_goals (first | (refine Br.keep ?_) | (refine WH.take 7 rfl (by kernel_rfl) (by kernel_rfl) (by kernel_rfl) (by kernel_rfl) rfl (by first | exact Ext.refl _ _ | assumption) (fun hq hC => ok_move rfl) rfl rfl rfl ?_))
      all_goals (first | (refine Br.keep ?_) | (refine WH.take 8 rfl (by kernel_rfl) (by kernel_rfl) (by kernel_rfl) (by kernel_rfl) rfl (by first | exact Ext.refl _ _ | assumption) (fun hq hC => ok_idxAddrA Try.underlying42 (fun w => Try.sizeOf82 w) rfl rfl rfl (by omega) (by first | rfl | assumption)) rfl rfl rfl ?_))
      all_goals (first | (refine Br.keep ?_) | (refine WH.take 9 rfl (by kernel_rfl) (by kernel_rfl) (by kernel_rfl) (by kernel_rfl) rfl (by first | exact Ext.refl _ _ | assumption) (fun hq hC => ok_loadN (fun w => Try.isAgg82 w) (fun w => Try.sizeOf82 w) rfl rfl (by exact at2.ext hC nos)) rfl rfl rfl ?_))
      all_goals (first | (refine Br.keep ?_) | (refine WH.one 10 (by kernel_rfl) ?_))
      all_goals (first
                   | (refine Br.keep ?_)
                   | (refine Comes1.call (vs := [_, _]) rfl rfl (fun a w => Try.call60 a w) rfl (client46 ⟨p1, s1, e1, _, t1⟩ ⟨p2, s2, e2, _, t2⟩ ok1 ok2 htx) rfl rfl rfl ?_ (fun _ => by kernel_rfl)
                      rintro _ h6 ⟨rfl, hx6⟩))
      all_goals (first | (refine Br.keep ?_) | (refine ⟨fun _ => hx6, ?_⟩))
      all_goals (first
                   | (refine Br.keep ?_)
                   | (by_cases hq : CV.pl ⟨p1, s1, e1, .slice T1 t1.length u1, t1⟩ = CV.pl ⟨p2, s2, e2, .slice T2 t2.length u2, t2⟩
                      all_goals (first | rw [decide_eq_true hq] | rw [decide_eq_false hq])))
      all_goals (first | (refine Br.keep ?_) | (refine WH.take 11 rfl (by kernel_rfl) (by kernel_rfl) (by kernel_rfl) (by kernel_rfl) rfl (by first | exact Ext.refl _ _ | assumption) (fun hq hC => ok_not rfl) rfl rfl rfl ?_))
      all_goals (first | (refine Br.keep ?_) | (refine WH.done (by kernel_rfl) ?_))
      all_goals (first | (refine Br.keep ?_) | (repeat' (with_reducible first | refine thenP_n ?_ | refine blockP_n ?_)))
      all_goals (first | (refine Br.keep ?_) | (refine WC.sub [(2, _), (3, _), (5, _), (41, _)] ⟨rfl, rfl, rfl, rfl, trivial⟩ ?_))
      all_goals (first | (refine Br.keep ?_) | (first | refine WC.condB_t 5 rfl ?_ | refine WC.condB_f 6 rfl ?_ | (refine WC.condB 5 6 rfl (fun hb => ?_) (fun hb => ?_) <;> (first | replace hb := of_decide_eq_true hb | replace hb := of_decide_eq_false hb | replace hb := of_decide_eq_false (nt hb) | replace hb := of_decide_eq_true (nf hb) | skip))))
      all_goals (first
        | (fail_if_success (refine Br.mk (i := 5) ?_))
        | (refine Br.mk (i := 5) ?_
           all_goals (refine WC.seq ?_)
           all_goals (refine WC.region ?_)
           all_goals (refine WL.step (ok_assign rfl) rfl rfl rfl ?_)
           all_goals (refine WL.nil ?_)
           all_goals (repeat' (with_reducible first | refine thenP_n ?_ | refine blockP_n ?_))
           all_goals (refine WC.sub [(4, _)] ⟨rfl, trivial⟩ ?_)
           all_goals (refine WC.ret ?_)
           all_goals (repeat' (with_reducible first | refine thenP_r ?_ | refine blockP_r ?_))
           all_goals (refine retP_1 _ ⟨rfl, trivial⟩ ?_)
           all_goals (first
                       | (have e1 : ¬ C.map CV.pl = C2.map CV.pl := map_neX hc1 hc2 hq; refine ⟨congrArg Value.bool ?_, hX5.trans hx6⟩; simp [e1]; done)
                       | (have e1 : ¬ S.map SV.pl = S2.map SV.pl := map_neX hs1 hs2 hq; refine ⟨congrArg Value.bool ?_, hX7.trans hx8⟩; simp [e1]; done)
                       | (refine ⟨congrArg Value.bool ?_, hX7⟩; simp [hn, hm, q3]; done)
                       | (have e1 : ¬ C.map CV.pl = C2.map CV.pl := fun e => n1 (by have := congrArg List.length e; simpa using this); refine ⟨congrArg Value.bool ?_, hX2⟩; simp [e1]; done)
                       | (have e1 : ¬ S.map SV.pl = S2.map SV.pl := fun e => n2 (by have := congrArg List.length e; simpa using this); refine ⟨congrArg Value.bool ?_, hX2⟩; simp [e1]; done))
           skip))
      all_goals (first
        | (fail_if_success (refine Br.mk (i := 6) ?_))
        | (refine Br.mk (i := 6) ?_
           all_goals (refine WC.skip ?_)
           skip))
      all_goals (first | (refine Br.keep ?_) | (repeat' (with_reducible first | refine thenP_n ?_ | refine blockP_n ?_)))
      all_goals (first | (refine Br.keep ?_) | (refine WC.region ?_))
      all_goals (first | (refine Br.keep ?_) | (refine WL.step (ok_move rfl) rfl rfl rfl ?_))
      all_goals (first | (refine Br.keep ?_) | (first | (refine WL.step (ok_addI rfl rfl (by omega)) rfl rfl rfl ?_) | (refine WL.step (ok_add rfl rfl) rfl rfl rfl ?_)))
      all_goals (first | (refine Br.keep ?_) | (refine WL.step (ok_assign rfl) rfl rfl rfl ?_))
      all_goals (first | (refine Br.keep ?_) | (refine WL.nil ?_))
      all_goals (first | (refine Br.keep ?_) | (repeat' (with_reducible first | refine thenP_n ?_ | refine blockP_n ?_)))
      all_goals (first | (refine Br.keep ?_) | (exact ⟨k + 1, ⟨rfl, rfl, rfl, trivial⟩, (by exact ⟨hx5.trans hx6, by omega, map_takeX hn hc1 hc2 hq⟩), (by omega)⟩))
      all_goals (try (refine Br.mk (i := 1000) ?_))
      all_goals (repeat' (with_reducible first | refine thenP_n ?_ | refine blockP_n ?_))
      all_goals (refine WC.seq ?_)
      all_goals (refine WC.seq ?_)
      all_goals (refine WC.region ?_)
      all_goals (refine WL.step (ok_assign rfl) rfl rfl rfl ?_)
      all_goals (refine WL.nil ?_)
      all_goals (repeat' (with_reducible first | refine thenP_n ?_ | refine blockP_n ?_))
      all_goals (refine WC.block ?_)
      -- loop 1: slots that turn [6], that stay [2, 3]
      all_goals (refine WC.loopG (X := Nat) (fun x => ([(6, In (x : Int))] : Fr)) [(2, _), (3, _)] (fun k h' => Ext No h2 h' ∧ k ≤ S.length ∧ (S.take k).map SV.pl = (S2.take k).map SV.pl) (fun k => S.length - k) (0) ⟨rfl, rfl, rfl, trivial⟩ (by exact ⟨hx5, Nat.zero_le _, by simp⟩) ?_)
      all_goals (rintro j h7 ⟨hx7, hj, hm⟩
                 have hb17 := hx7.obj hb12 nos
                 have hb27 := hx7.obj hb2 nos
                 have hX7 := hX2.trans hx7)
      all_goals (refine WC.sub [(6, _), (2, _), (3, _)] ⟨rfl, rfl, rfl, trivial⟩ ?_)
      all_goals (refine WC.seq ?_)
      all_goals (refine WC.seq ?_)
      all_goals (refine WC.region ?_)
      all_goals (refine WL.step (ok_move rfl) rfl rfl rfl ?_)
      all_goals (refine WL.step (ok_fieldAddr rfl Try.underlying46 rfl (fun w => Try.sizeOf43 w)) rfl rfl rfl ?_)
      all_goals (refine WL.step (ok_load (fun w => Try.isAgg43 w) rfl (by first | assumption | exact cell_blk (by assumption) rfl)) rfl rfl rfl ?_)
      all_goals (refine WL.step (ok_lenL rfl Try.underlying43 rfl) rfl rfl rfl ?_)
      all_goals (first | (refine WL.step (OkP.bool_t (by omega) (ok_lss rfl rfl)) rfl rfl rfl ?_) | (refine WL.step (OkP.bool_f (by omega) (ok_lss rfl rfl)) rfl rfl rfl ?_) | (refine WL.step (ok_lss rfl rfl) rfl rfl rfl ?_))
      all_goals (refine WL.nil ?_)
      all_goals (repeat' (with_reducible first | refine thenP_n ?_ | refine blockP_n ?_))
      all_goals (refine WC.sub [(2, _), (3, _), (6, _), (46, _)] ⟨rfl, rfl, rfl, rfl, trivial⟩ ?_)
      all_goals (first | refine WC.condB_t 7 rfl ?_ | refine WC.condB_f 8 rfl ?_ | (refine WC.condB 7 8 rfl (fun hb => ?_) (fun hb => ?_) <;> (first | replace hb := of_decide_eq_true hb | replace hb := of_decide_eq_false hb | replace hb := of_decide_eq_false (nt hb) | replace hb := of_decide_eq_true (nf hb) | skip)))
      all_goals (first
        | (fail_if_success (refine Br.mk (i := 7) ?_))
        | (refine Br.mk (i := 7) ?_
           all_goals (refine WC.skip ?_)
           skip))
      all_goals (first
        | (fail_if_success (refine Br.mk (i := 8) ?_))
        | (refine Br.mk (i := 8) ?_
           all_goals (refine WC.exit ?_)
           all_goals (repeat' (with_reducible first | refine thenP_x ?_ | refine blockP_miss rfl ?_ | refine blockP_hit ?_ | refine blockP_n ?_ | refine thenP_n ?_))
           all_goals (refine Br.out (i := 1002) ?_)
           skip))
      all_goals (first | (refine Br.keep ?_) | (repeat' (with_reducible first | refine thenP_n ?_ | refine blockP_n ?_)))
      all_goals (first | (refine Br.keep ?_) | (refine WC.seq ?_))
      all_goals (first | (refine Br.keep ?_) | (refine WC.block ?_))
      all_goals (first | (refine Br.keep ?_) | (refine WC.seq ?_))
      all_goals (first | (refine Br.keep ?_) | (refine WC.drawH (fun h' => Ext No h7 h') 12 12 rfl fol ?_))
      all_goals (first
                   | (refine Br.keep ?_)
                   | (obtain ⟨b, o, hA, hbL, hat⟩ := Rd.at_ (hs.ext0 hX7) (by omega)
                      obtain ⟨b', o', hB, hb', hat2⟩ := Rd.at_ (gs.ext0 hX7) (by omega)
                      obtain ⟨x, hs1⟩ : ∃ y, S[j]? = some y := ⟨_, List.getElem?_eq_getElem (by omega)⟩
                      obtain ⟨y, hs2⟩ : ∃ y, S2[j]? = some y := ⟨_, List.getElem?_eq_getElem (by omega)⟩
                      have ok1 := (hso _ (List.mem_of_getElem? hs1)).ext0 hX7
                      have ok2 := (gso _ (List.mem_of_getElem? hs2)).ext0 hX7
                      have htx := hfq _ (List.mem_of_getElem? hs1)
                      obtain ⟨p1, s1, e1, z1, v1, t1, w1, y1⟩ := x
                      obtain ⟨p2, s2, e2, z2, v2, t2, w2, y2⟩ := y
                      obtain ⟨T1, u1, ev1, _⟩ := id ok1.c
                      obtain ⟨T2, u2, ev2, _⟩ := id ok2.c
                      obtain ⟨T3, u3, ev3, _⟩ := id ok1.p
                      obtain ⟨T4, u4, ev4, _⟩ := id ok2.p
                      simp only at ev1 ev2 ev3 ev4
                      subst ev1 ev2 ev3 ev4
                      have at1 : At h7 b (o + j * 6) [In p1, In s1, In e1, By z1, .slice T1 t1.length u1, .slice T3 y1.length u3] := At.elem SV.len hat hs1
                      have at2 : At h7 b' (o' + j * 6) [In p2, In s2, In e2, By z2, .slice T2 t2.length u2, .slice T4 y2.length u4] := At.elem SV.len hat2 hs2))
      all_goals (first | (refine Br.keep ?_) | (refine WH.take 0 rfl (by kernel_rfl) (by kernel_rfl) (by kernel_rfl) (by kernel_rfl) rfl (by first | exact Ext.refl _ _ | assumption) (fun hq hC => ok_fieldAddr rfl Try.underlying46 rfl (fun w => Try.sizeOf43 w)) rfl rfl rfl ?_))
      all_goals (first | (refine Br.keep ?_) | (refine WH.take 1 rfl (by kernel_rfl) (by kernel_rfl) (by kernel_rfl) (by kernel_rfl) rfl (by first | exact Ext.refl _ _ | assumption) (fun hq hC => ok_load (fun w => Try.isAgg43 w) rfl (by first | exact hC.cell (by first | assumption | assumption | exact cell_blk (by assumption) rfl) nos)) rfl rfl rfl ?_))
      all_goals (first | (refine Br.keep ?_) | (refine WH.take 2 rfl (by kernel_rfl) (by kernel_rfl) (by kernel_rfl) (by kernel_rfl) rfl (by first | exact Ext.refl _ _ | assumption) (fun hq hC => ok_move rfl) rfl rfl rfl ?_))
      all_goals (first | (refine Br.keep ?_) | (refine WH.take 3 rfl (by kernel_rfl) (by kernel_rfl) (by kernel_rfl) (by kernel_rfl) rfl (by first | exact Ext.refl _ _ | assumption) (fun hq hC => ok_idxAddrA Try.underlying43 (fun w => Try.sizeOf84 w) rfl rfl rfl (by omega) (by first | rfl | assumption)) rfl rfl rfl ?_))
      all_goals (first | (refine Br.keep ?_) | (refine WH.take 4 rfl (by kernel_rfl) (by kernel_rfl) (by kernel_rfl) (by kernel_rfl) rfl (by first | exact Ext.refl _ _ | assumption) (fun hq hC => ok_loadN (fun w => Try.isAgg84 w) (fun w => Try.sizeOf84 w) rfl rfl (by exact at1.ext hC nos)) rfl rfl rfl ?_))
      all_goals (first | (refine Br.keep ?_) | (refine WH.take 5 rfl (by kernel_rfl) (by kernel_rfl) (by kernel_rfl) (by kernel_rfl) rfl (by first | exact Ext.refl _ _ | assumption) (fun hq hC => ok_fieldAddr rfl Try.underlying46 rfl (fun w => Try.sizeOf43 w)) rfl rfl rfl ?_))
      all_goals (first | (refine Br.keep ?_) | (refine WH.take 6 rfl (by kernel_rfl) (by kernel_rfl) (by kernel_rfl) (by kernel_rfl) rfl (by first | exact Ext.refl _ _ | assumption) (fun hq hC => ok_load (fun w => Try.isAgg43 w) rfl (by first | exact hC.cell (by first | assumption | assumption | exact cell_blk (by assumption) rfl) nos)) rfl rfl rfl ?_))
      all_goals (first | (refine Br.keep ?_) | (refine WH.take 7 rfl (by kernel_rfl) (by kernel_rfl) (by kernel_rfl) (by kernel_rfl) rfl (by first | exact Ext.refl _ _ | assumption) (fun hq hC => ok_move rfl) rfl rfl rfl ?_))
      all_goals (first | (refine Br.keep ?_) | (refine WH.take 8 rfl (by kernel_rfl) (by kernel_rfl) (by kernel_rfl) (by kernel_rfl) rfl (by first | exact Ext.refl _ _ | assumption) (fun hq hC => ok_idxAddrA Try.underlying43 (fun w => Try.sizeOf84 w) rfl rfl rfl (by omega) (by first | rfl | assumption)) rfl rfl rfl ?_))
      all_goals (first | (refine Br.keep ?_) | (refine WH.take 9 rfl (by kernel_rfl) (by kernel_rfl) (by kernel_rfl) (by kernel_rfl) rfl (by first | exact Ext.refl _ _ | assumption) (fun hq hC => ok_loadN (fun w => Try.isAgg84 w) (fun w => Try.sizeOf84 w) rfl rfl (by exact at2.ext hC nos)) rfl rfl rfl ?_))
      all_goals (first | (refine Br.keep ?_) | (refine WH.one 10 (by kernel_rfl) ?_))
      all_goals (first
                   | (refine Br.keep ?_)
                   | (refine Comes1.call (vs := [_, _]) rfl rfl (fun a w => Try.call61 a w) rfl (server46 ⟨p1, s1, e1, z1, _, t1, _, y1⟩ ⟨p2, s2, e2, z2, _, t2, _, y2⟩ ok1 ok2 htx.1 htx.2) rfl rfl rfl ?_ (fun _ => by kernel_rfl)
                      rintro _ h8 ⟨rfl, hx8⟩))
      all_goals (first | (refine Br.keep ?_) | (refine ⟨fun _ => hx8, ?_⟩))
      all_goals (first
                   | (refine Br.keep ?_)
                   | (by_cases hq : SV.pl ⟨p1, s1, e1, z1, .slice T1 t1.length u1, t1, .slice T3 y1.length u3, y1⟩ = SV.pl ⟨p2, s2, e2, z2, .slice T2 t2.length u2, t2, .slice T4 y2.length u4, y2⟩
                      all_goals (first | rw [decide_eq_true hq] | rw [decide_eq_false hq])))
      all_goals (first | (refine Br.keep ?_) | (refine WH.take 11 rfl (by kernel_rfl) (by kernel_rfl) (by kernel_rfl) (by kernel_rfl) rfl (by first | exact Ext.refl _ _ | assumption) (fun hq hC => ok_not rfl) rfl rfl rfl ?_))
      all_goals (first | (refine Br.keep ?_) | (refine WH.done (by kernel_rfl) ?_))
      all_goals (first | (refine Br.keep ?_) | (repeat' (with_reducible first | refine thenP_n ?_ | refine blockP_n ?_)))
      all_goals (first | (refine Br.keep ?_) | (refine WC.sub [(2, _), (3, _), (6, _), (60, _)] ⟨rfl, rfl, rfl, rfl, trivial⟩ ?_))
      all_goals (first | (refine Br.keep ?_) | (first | refine WC.condB_t 9 rfl ?_ | refine WC.condB_f 10 rfl ?_ | (refine WC.condB 9 10 rfl (fun hb => ?_) (fun hb => ?_) <;> (first | replace hb := of_decide_eq_true hb | replace hb := of_decide_eq_false hb | replace hb := of_decide_eq_false (nt hb) | replace hb := of_decide_eq_true (nf hb) | skip))))
      all_goals (first
        | (fail_if_success (refine Br.mk (i := 9) ?_))
        | (refine Br.mk (i := 9) ?_
           all_goals (refine WC.seq ?_)
           all_goals (refine WC.region ?_)
           all_goals (refine WL.step (ok_assign rfl) rfl rfl rfl ?_)
           all_goals (refine WL.nil ?_)
           all_goals (repeat' (with_reducible first | refine thenP_n ?_ | refine blockP_n ?_))
           all_goals (refine WC.sub [(4, _)] ⟨rfl, trivial⟩ ?_)
           all_goals (refine WC.ret ?_)
           all_goals (repeat' (with_reducible first | refine thenP_r ?_ | refine blockP_r ?_))
           all_goals (refine retP_1 _ ⟨rfl, trivial⟩ ?_)
           all_goals (first
                       | (have e1 : ¬ C.map CV.pl = C2.map CV.pl := map_neX hc1 hc2 hq; refine ⟨congrArg Value.bool ?_, hX5.trans hx6⟩; simp [e1]; done)
                       | (have e1 : ¬ S.map SV.pl = S2.map SV.pl := map_neX hs1 hs2 hq; refine ⟨congrArg Value.bool ?_, hX7.trans hx8⟩; simp [e1]; done)
                       | (refine ⟨congrArg Value.bool ?_, hX7⟩; simp [hn, hm, q3]; done)
                       | (have e1 : ¬ C.map CV.pl = C2.map CV.pl := fun e => n1 (by have := congrArg List.length e; simpa using this); refine ⟨congrArg Value.bool ?_, hX2⟩; simp [e1]; done)
                       | (have e1 : ¬ S.map SV.pl = S2.map SV.pl := fun e => n2 (by have := congrArg List.length e; simpa using this); refine ⟨congrArg Value.bool ?_, hX2⟩; simp [e1]; done))
           skip))
      all_goals (first
        | (fail_if_success (refine Br.mk (i := 10) ?_))
        | (refine Br.mk (i := 10) ?_
           all_goals (refine WC.skip ?_)
           skip))
      all_goals (first | (refine Br.keep ?_) | (repeat' (with_reducible first | refine thenP_n ?_ | refine blockP_n ?_)))
      all_goals (first | (refine Br.keep ?_) | (refine WC.region ?_))
      all_goals (first | (refine Br.keep ?_) | (refine WL.step (ok_move rfl) rfl rfl rfl ?_))
      all_goals (first | (refine Br.keep ?_) | (first | (refine WL.step (ok_addI rfl rfl (by omega)) rfl rfl rfl ?_) | (refine WL.step (ok_add rfl rfl) rfl rfl rfl ?_)))
      all_goals (first | (refine Br.keep ?_) | (refine WL.step (ok_assign rfl) rfl rfl rfl ?_))
      all_goals (first | (refine Br.keep ?_) | (refine WL.nil ?_))
      all_goals (first | (refine Br.keep ?_) | (repeat' (with_reducible first | refine thenP_n ?_ | refine blockP_n ?_)))
      all_goals (first | (refine Br.keep ?_) | (exact ⟨j + 1, ⟨rfl, rfl, rfl, trivial⟩, (by exact ⟨hx7.trans hx8, by omega, map_takeX hm hs1 hs2 hq⟩), (by omega)⟩))
      all_goals (try (refine Br.mk (i := 1002) ?_))
      all_goals (repeat' (with_reducible first | refine thenP_n ?_ | refine blockP_n ?_))
      all_goals (refine WC.seq ?_)
      all_goals (refine WC.region ?_)
      all_goals (rw [List.take_of_length_le (by omega), List.take_of_length_le (by omega)] at hn hm)
      all_goals (refine WL.step (ok_fieldAddr rfl Try.underlying46 rfl (fun w => Try.sizeOf44 w)) rfl rfl rfl ?_)
      all_goals (refine WL.step (ok_load (fun w => Try.isAgg44 w) rfl (by first | assumption | exact cell_blk (by assumption) rfl)) rfl rfl rfl ?_)
      all_goals (refine WL.step (ok_fieldAddr rfl Try.underlying46 rfl (fun w => Try.sizeOf44 w)) rfl rfl rfl ?_)
      all_goals (refine WL.step (ok_load (fun w => Try.isAgg44 w) rfl (by first | assumption | exact cell_blk (by assumption) rfl)) rfl rfl rfl ?_)
      all_goals (refine WL.call (vs := [_, _]) rfl (fun a w => Try.call28 a w) rfl (counts46 R R2 (hr.ext0 hX7) (gr.ext0 hX7) (by omega)) rfl rfl rfl ?_
                 rintro _ hz ⟨rfl, _⟩
                 subst hz)
      all_goals ((first | rw [decide_eq_true q3] | rw [decide_eq_false q3]))
      all_goals (refine WL.step (ok_move rfl) rfl rfl rfl ?_)
      all_goals (try ((fail_if_success (refine WL.part 66 (b := true) rfl (fun _ => ?_) (fun _ => ?_))); (fail_if_success (refine WL.part 66 (b := false) rfl (fun _ => ?_) (fun _ => ?_))); (refine WL.part 66 rfl (fun hb => ?_) (fun hb => ?_) <;> (first | replace hb := of_decide_eq_true hb | replace hb := of_decide_eq_false hb | replace hb := of_decide_eq_false (nt hb) | replace hb := of_decide_eq_true (nf hb) | skip))))
      all_goals (first | (refine WL.pass rfl rfl rfl ?_) | (refine WL.step (ok_fieldAddr rfl Try.underlying46 rfl (fun w => Try.sizeOf36 w)) rfl rfl rfl ?_))
      all_goals (first | (refine WL.pass rfl rfl rfl ?_) | (refine WL.step (ok_load (fun w => Try.isAgg36 w) rfl (by first | assumption | exact cell_blk (by assumption) rfl)) rfl rfl rfl ?_))
      all_goals (first | (refine WL.pass rfl rfl rfl ?_) | (refine WL.step (ok_fieldAddr rfl Try.underlying46 rfl (fun w => Try.sizeOf36 w)) rfl rfl rfl ?_))
      all_goals (first | (refine WL.pass rfl rfl rfl ?_) | (refine WL.step (ok_load (fun w => Try.isAgg36 w) rfl (by first | assumption | exact cell_blk (by assumption) rfl)) rfl rfl rfl ?_))
      all_goals (first
                   | (refine WL.pass rfl rfl rfl ?_)
                   | (refine WL.call (vs := [_, _]) rfl (fun a w => Try.call62 a w) rfl (ints46 W W2 (hw.ext0 hX7) (gw.ext0 hX7) (by omega)) rfl rfl rfl ?_
                      rintro _ hz ⟨rfl, _⟩
                      subst hz))
      all_goals (first | (refine WL.step (ok_pick_t rfl rfl) rfl rfl rfl ?_) | (refine WL.step (ok_pick_f rfl rfl) rfl rfl rfl ?_))
      all_goals (refine WL.step (ok_assign rfl) rfl rfl rfl ?_)
      all_goals (refine WL.nil ?_)
      all_goals (repeat' (with_reducible first | refine thenP_n ?_ | refine blockP_n ?_))
      all_goals (refine WC.sub [(4, _)] ⟨rfl, trivial⟩ ?_)
      all_goals (refine WC.ret ?_)
      all_goals (repeat' (with_reducible first | refine thenP_r ?_ | refine blockP_r ?_))
      all_goals (refine retP_1 _ ⟨rfl, trivial⟩ ?_)
      all_goals (first
                  | (have e1 : ¬ C.map CV.pl = C2.map CV.pl := map_neX hc1 hc2 hq; refine ⟨congrArg Value.bool ?_, hX5.trans hx6⟩; simp [e1]; done)
                  | (have e1 : ¬ S.map SV.pl = S2.map SV.pl := map_neX hs1 hs2 hq; refine ⟨congrArg Value.bool ?_, hX7.trans hx8⟩; simp [e1]; done)
                  | (refine ⟨congrArg Value.bool ?_, hX7⟩; simp [hn, hm, q3]; done)
                  | (have e1 : ¬ C.map CV.pl = C2.map CV.pl := fun e => n1 (by have := congrArg List.length e; simpa using this); refine ⟨congrArg Value.bool ?_, hX2⟩; simp [e1]; done)
                  | (have e1 : ¬ S.map SV.pl = S2.map SV.pl := fun e => n2 (by have := congrArg List.length e; simpa using this); refine ⟨congrArg Value.bool ?_, hX2⟩; simp [e1]; done))
end Go.Proofs.Ytfadcbbjjdmmfaa

