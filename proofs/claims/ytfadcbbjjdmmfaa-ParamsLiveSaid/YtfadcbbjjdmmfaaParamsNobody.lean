/-
  ParamsNobody holds: parameters that no call made are none.
-/
import Derived.Test.YtfadcbbjjdmmfaaPar2
import Derived.Test.YtfadcbbjjdmmfaaRows
namespace Go.Proofs.Ytfadcbbjjdmmfaa
open Go Go.RK

theorem opens_pr (w : World) : Opens Try.prog w 63 prC (fun _ => True) := by
  have h1 := opensF_cons (P := Try.prog) (w := w) (o := 1) (f := ⟨ "Value", 9, 1, false, "", "", 16⟩) rfl (opens_string Try.underlying9) (by kernel_rfl) (fun _ => rfl) opensF_nil
  have h2 := opensF_cons (P := Try.prog) (w := w) (o := 0) (f := ⟨ "Name", 9, 0, false, "", "", 0⟩) rfl (opens_string Try.underlying9) (by kernel_rfl) (fun _ => rfl) h1
  exact (opens_struct Try.underlying63 (by kernel_rfl) h2).map (fun p => ((p.1, p.2.1) : Pr)) (fun _ => rfl) (fun _ _ => trivial)
theorem opens_prs (w : World) : Opens Try.prog w 56 (fun p : Value × List Pr => [p.1]) (fun p => Rd w.heap p.1 2 p.2.length (p.2.flatMap prC) ∧ p.2.length ≤ 1000000000000000) :=
  (opens_slice Try.underlying56 (by kernel_rfl) (by decide) prC_len (opens_pr w)).map id (fun _ => rfl) fun p q => ⟨q.1, by have := q.2.2.2.2; rw [show Try.prog.bytesOf 63 = 32 by kernel_rfl] at this; unfold reachBytes at this; show p.2.length ≤ _; omega⟩
set_option maxHeartbeats 1000000 in
set_option maxRecDepth 100000 in
theorem nobody53 {h : Heap} {v : Value} (n w : List UInt8) (l : List Pr) (hr : Rd h v 2 l.length (l.flatMap prC)) (hm : l.length ≤ 1000000000000000) :
    CallsH Try.prog 10 ⟨[St n, St w, v]⟩ h fun u h' => u = .bool true ∧ Ext No h h' := by
  refine calls [(0, _), (1, _), (2, _)] Try.func10 rfl Try.ntmps10 rfl ⟨rfl, rfl, rfl, trivial⟩ ?_
  all_goals (refine WC.seq ?_)
  all_goals (refine WC.region ?_)
  all_goals (refine WL.step (ok_assign rfl) rfl rfl rfl ?_)
  all_goals (refine WL.nil ?_)
  all_goals (repeat' (with_reducible first | refine thenP_n ?_ | refine blockP_n ?_))
  all_goals (refine WC.seq ?_)
  all_goals (refine WC.seq ?_)
  all_goals (refine WC.region ?_)
  all_goals (refine WL.step (ok_move rfl) rfl rfl rfl ?_)
  all_goals (refine WL.call (vs := [_]) rfl (fun a w => Try.call33 a w) rfl (far53 l hr hm) rfl rfl rfl ?_
             rintro _ h1 ⟨rfl, hx1⟩)
  all_goals (cases hfar : farP l)
  all_goals (refine WL.nil ?_)
  all_goals (repeat' (with_reducible first | refine thenP_n ?_ | refine blockP_n ?_))
  all_goals (first | refine WC.condB_t 1 rfl ?_ | refine WC.condB_f 2 rfl ?_ | (refine WC.condB 1 2 rfl (fun hb => ?_) (fun hb => ?_) <;> (first | replace hb := of_decide_eq_true hb | replace hb := of_decide_eq_false hb | replace hb := of_decide_eq_false (nt hb) | replace hb := of_decide_eq_true (nf hb) | skip)))
  all_goals (first
    | (fail_if_success (refine Br.mk (i := 1) ?_))
    | (refine Br.mk (i := 1) ?_
       all_goals (refine WC.seq ?_)
       all_goals (refine WC.region ?_)
       all_goals (refine WL.call (vs := []) rfl (fun a w => Try.call34 a w) rfl (awake53) rfl rfl rfl ?_
                  rintro _ h9 ⟨rfl, hx9⟩)
       all_goals (refine WL.step (ok_assign rfl) rfl rfl rfl ?_)
       all_goals (refine WL.nil ?_)
       all_goals (repeat' (with_reducible first | refine thenP_n ?_ | refine blockP_n ?_))
       all_goals (refine WC.sub [(6, _)] ⟨rfl, trivial⟩ ?_)
       all_goals (refine WC.ret ?_)
       all_goals (repeat' (with_reducible first | refine thenP_r ?_ | refine blockP_r ?_))
       all_goals (refine retP_1 _ ⟨rfl, trivial⟩ ?_)
       all_goals (first | exact ⟨rfl, (((hX3.trans hx4).trans hx5).trans hx6).trans hx9⟩ | exact ⟨rfl, hx1.trans hx9⟩)
       skip))
  all_goals (first
    | (fail_if_success (refine Br.mk (i := 2) ?_))
    | (refine Br.mk (i := 2) ?_
       all_goals (refine WC.skip ?_)
       skip))
  all_goals (repeat' (with_reducible first | refine thenP_n ?_ | refine blockP_n ?_))
  all_goals (refine WC.seq ?_)
  all_goals (refine WC.region ?_)
  all_goals (refine WL.step (ok_assign rfl) rfl rfl rfl ?_)
  all_goals (refine WL.nil ?_)
  all_goals (repeat' (with_reducible first | refine thenP_n ?_ | refine blockP_n ?_))
  all_goals (refine WC.seq ?_)
  all_goals (refine WC.region ?_)
  all_goals (have hl60 := farP_no hfar)
  all_goals (refine WL.stepR (okE_alloc (fun w => Try.zeroValue76 w)) rfl rfl rfl ?_
             rintro _ h2 ⟨b2, rfl, hg2, hb2, hx2⟩)
  all_goals (have hX2 := hx1.trans hx2)
  all_goals (refine WL.nil ?_)
  all_goals (repeat' (with_reducible first | refine thenP_n ?_ | refine blockP_n ?_))
  all_goals (refine WC.seq ?_)
  all_goals (refine WC.region ?_)
  all_goals (refine WL.step (ok_move rfl) rfl rfl rfl ?_)
  all_goals (refine WL.step (ok_move rfl) rfl rfl rfl ?_)
  all_goals (refine WL.call (vs := [_, _]) rfl (fun a w => Try.call39 a w) rfl (get_none ready_nil n) rfl rfl rfl ?_
             rintro _ hz ⟨rfl, _⟩
             subst hz)
  all_goals (refine WL.step (ok_move rfl) rfl rfl rfl ?_)
  all_goals (refine WL.step (ok_extract rfl rfl) rfl rfl rfl ?_)
  all_goals (refine WL.step (ok_extract rfl rfl) rfl rfl rfl ?_)
  all_goals (refine WL.step (ok_assign rfl) rfl rfl rfl ?_)
  all_goals (refine WL.step (ok_assign rfl) rfl rfl rfl ?_)
  all_goals (refine WL.nil ?_)
  all_goals (repeat' (with_reducible first | refine thenP_n ?_ | refine blockP_n ?_))
  all_goals (refine WC.sub [(0, _), (1, _), (2, _), (7, _), (8, _), (10, _)] ⟨rfl, rfl, rfl, rfl, rfl, rfl, trivial⟩ ?_)
  all_goals (refine WC.seq ?_)
  all_goals (refine WC.region ?_)
  all_goals (refine WL.step (ok_move rfl) rfl rfl rfl ?_)
  all_goals (refine WL.call (vs := [_]) rfl (fun a w => Try.call35 a w) rfl (new_pa l (hr.ext0 hX2) (by omega)) rfl rfl rfl ?_
             rintro _ h3 ⟨b, m, rfl, r3, hgb, hgm, hx3⟩)
  all_goals (have hX3 := hX2.trans hx3
             have hb3 := hx3.obj hb2 nos)
  all_goals (refine WL.step (ok_assign rfl) rfl rfl rfl ?_)
  all_goals (refine WL.nil ?_)
  all_goals (repeat' (with_reducible first | refine thenP_n ?_ | refine blockP_n ?_))
  all_goals (refine WC.seq ?_)
  all_goals (refine WC.region ?_)
  all_goals (refine WL.step (ok_move rfl) rfl rfl rfl ?_)
  all_goals (refine WL.step (ok_move rfl) rfl rfl rfl ?_)
  all_goals (refine WL.step (ok_move rfl) rfl rfl rfl ?_)
  all_goals (refine WL.call (vs := [_, _, _]) rfl (fun a w => Try.call37 a w) rfl (set_none ready_nil n w) rfl rfl rfl ?_
             rintro _ hz ⟨rfl, _⟩
             subst hz)
  all_goals (refine WL.step (ok_not rfl) rfl rfl rfl ?_)
  all_goals (refine WL.step (ok_move rfl) rfl rfl rfl ?_)
  all_goals (try ((fail_if_success (refine WL.part 28 (b := true) rfl (fun _ => ?_) (fun _ => ?_))); (fail_if_success (refine WL.part 28 (b := false) rfl (fun _ => ?_) (fun _ => ?_))); (refine WL.part 28 rfl (fun hb => ?_) (fun hb => ?_) <;> (first | replace hb := of_decide_eq_true hb | replace hb := of_decide_eq_false hb | replace hb := of_decide_eq_false (nt hb) | replace hb := of_decide_eq_true (nf hb) | skip))))
  all_goals (first | (refine WL.pass rfl rfl rfl ?_) | (refine WL.step (ok_move rfl) rfl rfl rfl ?_))
  all_goals (first | (refine WL.pass rfl rfl rfl ?_) | (refine WL.step (ok_move rfl) rfl rfl rfl ?_))
  all_goals (first
               | (refine WL.pass rfl rfl rfl ?_)
               | (refine WL.call (vs := [_, _, _]) rfl (fun a w => Try.call37 a w) rfl (set_none (ready_zero hb3) n w) rfl rfl rfl ?_
                  rintro _ hz ⟨rfl, _⟩
                  subst hz))
  all_goals (first | (refine WL.pass rfl rfl rfl ?_) | (refine WL.step (ok_not rfl) rfl rfl rfl ?_))
  all_goals (first | (refine WL.step (ok_pick_t rfl rfl) rfl rfl rfl ?_) | (refine WL.step (ok_pick_f rfl rfl) rfl rfl rfl ?_))
  all_goals (refine WL.step (ok_move rfl) rfl rfl rfl ?_)
  all_goals (try ((fail_if_success (refine WL.part 34 (b := true) rfl (fun _ => ?_) (fun _ => ?_))); (fail_if_success (refine WL.part 34 (b := false) rfl (fun _ => ?_) (fun _ => ?_))); (refine WL.part 34 rfl (fun hb => ?_) (fun hb => ?_) <;> (first | replace hb := of_decide_eq_true hb | replace hb := of_decide_eq_false hb | replace hb := of_decide_eq_false (nt hb) | replace hb := of_decide_eq_true (nf hb) | skip))))
  all_goals (first | (refine WL.pass rfl rfl rfl ?_) | (refine WL.step (ok_move rfl) rfl rfl rfl ?_))
  all_goals (first | (refine WL.pass rfl rfl rfl ?_) | (refine WL.step (ok_not rfl) rfl rfl rfl ?_))
  all_goals (first | (refine WL.step (ok_pick_t rfl rfl) rfl rfl rfl ?_) | (refine WL.step (ok_pick_f rfl rfl) rfl rfl rfl ?_))
  all_goals (refine WL.step (ok_move rfl) rfl rfl rfl ?_)
  all_goals (try ((fail_if_success (refine WL.part 38 (b := true) rfl (fun _ => ?_) (fun _ => ?_))); (fail_if_success (refine WL.part 38 (b := false) rfl (fun _ => ?_) (fun _ => ?_))); (refine WL.part 38 rfl (fun hb => ?_) (fun hb => ?_) <;> (first | replace hb := of_decide_eq_true hb | replace hb := of_decide_eq_false hb | replace hb := of_decide_eq_false (nt hb) | replace hb := of_decide_eq_true (nf hb) | skip))))
  all_goals (first | (refine WL.pass rfl rfl rfl ?_) | (refine WL.step (ok_move rfl) rfl rfl rfl ?_))
  all_goals (first
               | (refine WL.pass rfl rfl rfl ?_)
               | (refine WL.call (vs := [_]) rfl (fun a w => Try.call45 a w) rfl (len_none ready_nil) rfl rfl rfl ?_
                  rintro _ hz ⟨rfl, _⟩
                  subst hz))
  all_goals (first | (refine WL.pass rfl rfl rfl ?_) | (first | (refine WL.step (OkP.bool_t (by omega) (ok_eql rfl rfl)) rfl rfl rfl ?_) | (refine WL.step (OkP.bool_f (by omega) (ok_eql rfl rfl)) rfl rfl rfl ?_) | (refine WL.step (ok_eql rfl rfl) rfl rfl rfl ?_)))
  all_goals (first | (refine WL.step (ok_pick_t rfl rfl) rfl rfl rfl ?_) | (refine WL.step (ok_pick_f rfl rfl) rfl rfl rfl ?_))
  all_goals (refine WL.step (ok_move rfl) rfl rfl rfl ?_)
  all_goals (try ((fail_if_success (refine WL.part 43 (b := true) rfl (fun _ => ?_) (fun _ => ?_))); (fail_if_success (refine WL.part 43 (b := false) rfl (fun _ => ?_) (fun _ => ?_))); (refine WL.part 43 rfl (fun hb => ?_) (fun hb => ?_) <;> (first | replace hb := of_decide_eq_true hb | replace hb := of_decide_eq_false hb | replace hb := of_decide_eq_false (nt hb) | replace hb := of_decide_eq_true (nf hb) | skip))))
  all_goals (first
               | (refine WL.pass rfl rfl rfl ?_)
               | (refine WL.call (vs := [_]) rfl (fun a w => Try.call45 a w) rfl (len_none (ready_zero hb3)) rfl rfl rfl ?_
                  rintro _ hz ⟨rfl, _⟩
                  subst hz))
  all_goals (first | (refine WL.pass rfl rfl rfl ?_) | (first | (refine WL.step (OkP.bool_t (by omega) (ok_eql rfl rfl)) rfl rfl rfl ?_) | (refine WL.step (OkP.bool_f (by omega) (ok_eql rfl rfl)) rfl rfl rfl ?_) | (refine WL.step (ok_eql rfl rfl) rfl rfl rfl ?_)))
  all_goals (first | (refine WL.step (ok_pick_t rfl rfl) rfl rfl rfl ?_) | (refine WL.step (ok_pick_f rfl rfl) rfl rfl rfl ?_))
  all_goals (refine WL.step (ok_move rfl) rfl rfl rfl ?_)
  all_goals (try ((fail_if_success (refine WL.part 47 (b := true) rfl (fun _ => ?_) (fun _ => ?_))); (fail_if_success (refine WL.part 47 (b := false) rfl (fun _ => ?_) (fun _ => ?_))); (refine WL.part 47 rfl (fun hb => ?_) (fun hb => ?_) <;> (first | replace hb := of_decide_eq_true hb | replace hb := of_decide_eq_false hb | replace hb := of_decide_eq_false (nt hb) | replace hb := of_decide_eq_true (nf hb) | skip))))
  all_goals (first | (refine WL.pass rfl rfl rfl ?_) | (refine WL.step (ok_move rfl) rfl rfl rfl ?_))
  all_goals (first
               | (refine WL.pass rfl rfl rfl ?_)
               | (refine WL.call (vs := [_]) rfl (fun a w => Try.call44 a w) rfl (all_none ready_nil) rfl rfl rfl ?_
                  rintro _ hz ⟨rfl, _⟩
                  subst hz))
  all_goals (first | (refine WL.pass rfl rfl rfl ?_) | (refine WL.step (ok_lenL rfl Try.underlying56 rfl) rfl rfl rfl ?_))
  all_goals (first | (refine WL.pass rfl rfl rfl ?_) | (first | (refine WL.step (OkP.bool_t (by omega) (ok_eql rfl rfl)) rfl rfl rfl ?_) | (refine WL.step (OkP.bool_f (by omega) (ok_eql rfl rfl)) rfl rfl rfl ?_) | (refine WL.step (ok_eql rfl rfl) rfl rfl rfl ?_)))
  all_goals (first | (refine WL.step (ok_pick_t rfl rfl) rfl rfl rfl ?_) | (refine WL.step (ok_pick_f rfl rfl) rfl rfl rfl ?_))
  all_goals (refine WL.step (ok_move rfl) rfl rfl rfl ?_)
  all_goals (try ((fail_if_success (refine WL.part 53 (b := true) rfl (fun _ => ?_) (fun _ => ?_))); (fail_if_success (refine WL.part 53 (b := false) rfl (fun _ => ?_) (fun _ => ?_))); (refine WL.part 53 rfl (fun hb => ?_) (fun hb => ?_) <;> (first | replace hb := of_decide_eq_true hb | replace hb := of_decide_eq_false hb | replace hb := of_decide_eq_false (nt hb) | replace hb := of_decide_eq_true (nf hb) | skip))))
  all_goals (first | (refine WL.pass rfl rfl rfl ?_) | (refine WL.step (ok_move rfl) rfl rfl rfl ?_))
  all_goals (first | (refine WL.pass rfl rfl rfl ?_) | (refine WL.step (ok_move rfl) rfl rfl rfl ?_))
  all_goals (first
               | (refine WL.pass rfl rfl rfl ?_)
               | (refine WL.call (vs := [_, _]) rfl (fun a w => Try.call42 a w) rfl (diff_nil _) rfl rfl rfl ?_
                  rintro _ h4 ⟨rfl, hx4⟩))
  all_goals (first | (refine WL.pass rfl rfl rfl ?_) | (refine WL.step (ok_lenL rfl Try.underlying56 rfl) rfl rfl rfl ?_))
  all_goals (first | (refine WL.pass rfl rfl rfl ?_) | (first | (refine WL.step (OkP.bool_t (by omega) (ok_eql rfl rfl)) rfl rfl rfl ?_) | (refine WL.step (OkP.bool_f (by omega) (ok_eql rfl rfl)) rfl rfl rfl ?_) | (refine WL.step (ok_eql rfl rfl) rfl rfl rfl ?_)))
  all_goals (first | (refine WL.step (ok_pick_t rfl rfl) rfl rfl rfl ?_) | (refine WL.step (ok_pick_f rfl rfl) rfl rfl rfl ?_))
  all_goals (refine WL.step (ok_move rfl) rfl rfl rfl ?_)
  all_goals (try ((fail_if_success (refine WL.part 60 (b := true) rfl (fun _ => ?_) (fun _ => ?_))); (fail_if_success (refine WL.part 60 (b := false) rfl (fun _ => ?_) (fun _ => ?_))); (refine WL.part 60 rfl (fun hb => ?_) (fun hb => ?_) <;> (first | replace hb := of_decide_eq_true hb | replace hb := of_decide_eq_false hb | replace hb := of_decide_eq_false (nt hb) | replace hb := of_decide_eq_true (nf hb) | skip))))
  all_goals (first | (refine WL.pass rfl rfl rfl ?_) | (refine WL.step (ok_move rfl) rfl rfl rfl ?_))
  all_goals (first | (refine WL.pass rfl rfl rfl ?_) | (refine WL.step (ok_move rfl) rfl rfl rfl ?_))
  all_goals (first
               | (refine WL.pass rfl rfl rfl ?_)
               | (refine WL.call (vs := [_, _]) rfl (fun a w => Try.call42 a w) rfl (diff_none (r3.ext0 hx4) (fun _ _ => ready_nil)) rfl rfl rfl ?_
                  rintro _ h5 ⟨⟨A5, c5, rfl⟩, hx5⟩))
  all_goals (first | (refine WL.pass rfl rfl rfl ?_) | (refine WL.step (ok_lenL rfl Try.underlying56 rfl) rfl rfl rfl ?_))
  all_goals (first | (refine WL.pass rfl rfl rfl ?_) | (first | (refine WL.step (OkP.bool_t (by omega) (ok_eql rfl rfl)) rfl rfl rfl ?_) | (refine WL.step (OkP.bool_f (by omega) (ok_eql rfl rfl)) rfl rfl rfl ?_) | (refine WL.step (ok_eql rfl rfl) rfl rfl rfl ?_)))
  all_goals (first | (refine WL.step (ok_pick_t rfl rfl) rfl rfl rfl ?_) | (refine WL.step (ok_pick_f rfl rfl) rfl rfl rfl ?_))
  all_goals (refine WL.step (ok_move rfl) rfl rfl rfl ?_)
  all_goals (try ((fail_if_success (refine WL.part 67 (b := true) rfl (fun _ => ?_) (fun _ => ?_))); (fail_if_success (refine WL.part 67 (b := false) rfl (fun _ => ?_) (fun _ => ?_))); (refine WL.part 67 rfl (fun hb => ?_) (fun hb => ?_) <;> (first | replace hb := of_decide_eq_true hb | replace hb := of_decide_eq_false hb | replace hb := of_decide_eq_false (nt hb) | replace hb := of_decide_eq_true (nf hb) | skip))))
  all_goals (first | (refine WL.pass rfl rfl rfl ?_) | (refine WL.step (ok_move rfl) rfl rfl rfl ?_))
  all_goals (first
               | (refine WL.pass rfl rfl rfl ?_)
               | (refine WL.call (vs := [_, _]) rfl (fun a w => Try.call42 a w) rfl (diff_none ((r3.ext0 hx4).ext0 hx5) (fun _ hx => ready_zero (hx.obj (hx5.obj (hx4.obj hb3 nos) nos) nos))) rfl rfl rfl ?_
                  rintro _ h6 ⟨⟨A6, c6, rfl⟩, hx6⟩))
  all_goals (first | (refine WL.pass rfl rfl rfl ?_) | (refine WL.step (ok_lenL rfl Try.underlying56 rfl) rfl rfl rfl ?_))
  all_goals (first | (refine WL.pass rfl rfl rfl ?_) | (first | (refine WL.step (OkP.bool_t (by omega) (ok_eql rfl rfl)) rfl rfl rfl ?_) | (refine WL.step (OkP.bool_f (by omega) (ok_eql rfl rfl)) rfl rfl rfl ?_) | (refine WL.step (ok_eql rfl rfl) rfl rfl rfl ?_)))
  all_goals (first | (refine WL.step (ok_pick_t rfl rfl) rfl rfl rfl ?_) | (refine WL.step (ok_pick_f rfl rfl) rfl rfl rfl ?_))
  all_goals (refine WL.step (ok_move rfl) rfl rfl rfl ?_)
  all_goals (try ((fail_if_success (refine WL.part 73 (b := true) rfl (fun _ => ?_) (fun _ => ?_))); (fail_if_success (refine WL.part 73 (b := false) rfl (fun _ => ?_) (fun _ => ?_))); (refine WL.part 73 rfl (fun hb => ?_) (fun hb => ?_) <;> (first | replace hb := of_decide_eq_true hb | replace hb := of_decide_eq_false hb | replace hb := of_decide_eq_false (nt hb) | replace hb := of_decide_eq_true (nf hb) | skip))))
  all_goals (first
               | (refine WL.pass rfl rfl rfl ?_)
               | (refine WL.call (vs := []) rfl (fun a w => Try.call34 a w) rfl (awake53) rfl rfl rfl ?_
                  rintro _ h9 ⟨rfl, hx9⟩))
  all_goals (first | (refine WL.step (ok_pick_t rfl rfl) rfl rfl rfl ?_) | (refine WL.step (ok_pick_f rfl rfl) rfl rfl rfl ?_))
  all_goals (refine WL.step (ok_assign rfl) rfl rfl rfl ?_)
  all_goals (refine WL.nil ?_)
  all_goals (repeat' (with_reducible first | refine thenP_n ?_ | refine blockP_n ?_))
  all_goals (refine WC.sub [(6, _)] ⟨rfl, trivial⟩ ?_)
  all_goals (refine WC.ret ?_)
  all_goals (repeat' (with_reducible first | refine thenP_r ?_ | refine blockP_r ?_))
  all_goals (refine retP_1 _ ⟨rfl, trivial⟩ ?_)
  all_goals (first | exact ⟨rfl, (((hX3.trans hx4).trans hx5).trans hx6).trans hx9⟩ | exact ⟨rfl, hx1.trans hx9⟩)

namespace LParamsNobody
open Go.ChangeShapes Go.WideShapes Go.ChangeAt Go.RowKit
open Go.ChangeMaps (open_string shut_string)
theorem own : ownKnob Try.prog.godebug = none := by kernel_rfl
theorem laidOut : laidOutB Try.prog = true := by kernel_rfl
set_option maxRecDepth 100000 in
theorem lifted (os : Os) (started : os.Started) (H : Type) (enc : TypeId × Value → H) :
    ReturnsInHanded {} Try.checked os 10 .any (Rows.paramsNobodySpec.pre6 enc Try.prog Try.f10 Rows.paramsNobodyRow.domain false) (Rows.paramsNobodySpec.post enc Try.prog Try.f10 false true false false) := by
  refine returnsInHanded_of_change_sized (C := Try.checked) own started (by kernel_rfl) Try.func10
    (ChangeSpec.witness6 (enc := enc) (C := Try.checked) false ⟨#[], #[.string ByteArray.empty, .string ByteArray.empty, .slice none 0 0], []⟩ 8 (by kernel_rfl) (by kernel_rfl) (by kernel_rfl) (by kernel_rfl)) ?_
  intro W base args ds gs before hval0 hW hcnd hsz0 _
  have hval : ∀ (j : Nat) t v, Try.f10.params[j]? = some t → args[j]? = some v → Value.okWide Try.prog W .any base t v := hval0
  have hsz := hsz0
  rw [Try.params10] at hsz
  clear hsz0
  have hW' := hW
  obtain ⟨p, q, hA0, hV, rfl, hfz, hnd⟩ := hW
  have hA : DataW.TrodAll enc Try.prog W 0 (fun _ => true) true Try.f10.params.toList args.toList ds p := hA0
  rw [Try.params10] at hA hval
  obtain ⟨v0, vs0, d0, ds0, p0, q0, hargs, rfl, rfl, h0, r0⟩ := trodAll_cons hA
  obtain ⟨v1, vs1, d1, ds1, p1, q1, rfl, rfl, rfl, h1, r1⟩ := trodAll_cons r0
  obtain ⟨v2, vs2, d2, ds2, p2, q2, rfl, rfl, rfl, h2, r2⟩ := trodAll_cons r1
  obtain ⟨rfl, rfl, rfl⟩ := trodAll_nil r2
  obtain rfl : args = #[v0, v1, v2] := by cases args; simp_all
  obtain ⟨rfl, rfl⟩ := trodVars_none hV
  have hz0 : ∀ n ∈ d0.weights Try.prog 9, n ≤ reachBytes := fun n hn => by simpa using List.all_eq_true.1 hsz n (DataW.weights_mem_each (j := 0) rfl rfl n hn)
  have k0 := h0
  have lt0 : ∀ x ∈ p0, x.block < W.heap.size := by obtain ⟨m, hm⟩ := k0; exact DataW.trod_lt m _ _ _ hm
  obtain ⟨a0, rfl, e0, _, w0⟩ := open_string Try.underlying9 (hval 0 9 v0 rfl rfl) h0
  have hz1 : ∀ n ∈ d1.weights Try.prog 9, n ≤ reachBytes := fun n hn => by simpa using List.all_eq_true.1 hsz n (DataW.weights_mem_each (j := 1) rfl rfl n hn)
  have k1 := h1
  have lt1 : ∀ x ∈ p1, x.block < W.heap.size := by obtain ⟨m, hm⟩ := k1; exact DataW.trod_lt m _ _ _ hm
  obtain ⟨a1, rfl, e1, _, w1⟩ := open_string Try.underlying9 (hval 1 9 v1 rfl rfl) h1
  have hz2 : ∀ n ∈ d2.weights Try.prog 56, n ≤ reachBytes := fun n hn => by simpa using List.all_eq_true.1 hsz n (DataW.weights_mem_each (j := 2) rfl rfl n hn)
  have k2 := h2
  have lt2 : ∀ x ∈ p2, x.block < W.heap.size := by obtain ⟨m, hm⟩ := k2; exact DataW.trod_lt m _ _ _ hm
  obtain ⟨A2, n2, c2, rfl⟩ := okWide_slice Try.underlying56 (hval 2 56 v2 rfl rfl)
  obtain ⟨fu2, hf2⟩ := h2
  obtain ⟨⟨v2, l2⟩, e2, w2⟩ := opens_prs W _ _ _ _ _ _ _ _ hf2 hz2
  obtain rfl : .slice A2 n2 c2 = v2 := by simpa [Value.cells] using e2
  clear hA0 hval0
  refine (law_calls (nobody53 a0.data.toList a1.data.toList l2 w2.1 w2.2)).mono fun e W' ⟨he, bel⟩ => ?_
  subst he
  exact ⟨_, rfl, _, _, _, [], _, [], hW', trodAll_mk1 (shut_bool Try.underlying4 _), (trodAll_cons_mk (Below.trod laidOut (by kernel_rfl) (of_decide_eq_true (by kernel_rfl)) k0 bel lt0) (trodAll_cons_mk (Below.trod laidOut (by kernel_rfl) (of_decide_eq_true (by kernel_rfl)) k1 bel lt1) (trodAll_cons_mk (Below.trod laidOut (by kernel_rfl) (of_decide_eq_true (by kernel_rfl)) k2 bel lt2) trodAll_mk0))), rfl, bel.frame _, fun h => by cases h⟩
theorem over : Rows.paramsNobodyRow.holds Try.pinned (OpenSpec.ofChange Rows.paramsNobodySpec) :=
  OpenClaim.holds_of_wide 10 Try.f10 rfl rfl rfl rfl rfl rfl rfl ⟨rfl, rfl, rfl, rfl, rfl⟩ rfl rfl rfl rfl rfl (by kernel_rfl) Try.func10 (by kernel_rfl)
    (of_decide_eq_true (by kernel_rfl)) (by unfold Func.isWrapper; first | (rw [if_pos (by decide +kernel)]; kernel_rfl) | (rw [if_neg (by decide +kernel)]; exact ⟨rfl, rfl⟩))
    (fun os started H enc _ => lifted os started H enc)
end LParamsNobody
theorem paramsNobody_proved : Rows.ParamsNobodySaid := LParamsNobody.over
#print axioms paramsNobody_proved
end Go.Proofs.Ytfadcbbjjdmmfaa

