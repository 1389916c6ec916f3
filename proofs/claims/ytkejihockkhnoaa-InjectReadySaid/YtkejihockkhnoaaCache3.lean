/-
  The document's cache as an object; both side by side; awake.
-/
import Derived.Test.YtkejihockkhnoaaCache2
namespace Go.Proofs.Ytkejihockkhnoaa
open Go Go.RK

set_option maxRecDepth 100000 in
theorem new18 {h : Heap} (most : Int) (h0 : 1 ≤ most) (h1 : most ≤ 4096) :
    CallsH Try.prog 28 ⟨[In most]⟩ h fun u h' => ∃ b, u = .tuple ⟨[.pointer (some ⟨b, 0, none⟩), In 0]⟩ ∧ Lr 61 h' b (.slice none 0 0) most [] ∧ h.size ≤ b ∧ Ext No h h' := by
  refine calls [(0, _)] Try.func28 rfl Try.ntmps28 rfl ⟨rfl, trivial⟩ ?_
  all_goals (refine WC.seq ?_)
  all_goals (refine WC.region ?_)
  all_goals (refine WL.step (ok_assign rfl) rfl rfl rfl ?_)
  all_goals (refine WL.step (ok_assign rfl) rfl rfl rfl ?_)
  all_goals (refine WL.nil ?_)
  all_goals (repeat' (with_reducible first | refine thenP_n ?_ | refine blockP_n ?_))
  all_goals (refine WC.seq ?_)
  all_goals (refine WC.seq ?_)
  all_goals (refine WC.region ?_)
  all_goals (refine WL.step (ok_move rfl) rfl rfl rfl ?_)
  all_goals (first | (refine WL.step (OkP.bool_t (by omega) (ok_lss rfl rfl)) rfl rfl rfl ?_) | (refine WL.step (OkP.bool_f (by omega) (ok_lss rfl rfl)) rfl rfl rfl ?_) | (refine WL.step (ok_lss rfl rfl) rfl rfl rfl ?_))
  all_goals (refine WL.step (ok_move rfl) rfl rfl rfl ?_)
  all_goals (try ((fail_if_success (refine WL.part 6 (b := true) rfl (fun _ => ?_) (fun _ => ?_))); (fail_if_success (refine WL.part 6 (b := false) rfl (fun _ => ?_) (fun _ => ?_))); (refine WL.part 6 rfl (fun hb => ?_) (fun hb => ?_) <;> (first | replace hb := of_decide_eq_true hb | replace hb := of_decide_eq_false hb | replace hb := of_decide_eq_false (nt hb) | replace hb := of_decide_eq_true (nf hb) | skip))))
  all_goals (first | (refine WL.pass rfl rfl rfl ?_) | (refine WL.step (ok_move rfl) rfl rfl rfl ?_))
  all_goals (first | (refine WL.pass rfl rfl rfl ?_) | (first | (refine WL.step (OkP.bool_t (by omega) (ok_gtr rfl rfl)) rfl rfl rfl ?_) | (refine WL.step (OkP.bool_f (by omega) (ok_gtr rfl rfl)) rfl rfl rfl ?_) | (refine WL.step (ok_gtr rfl rfl) rfl rfl rfl ?_)))
  all_goals (first | (refine WL.step (ok_pick_t rfl rfl) rfl rfl rfl ?_) | (refine WL.step (ok_pick_f rfl rfl) rfl rfl rfl ?_))
  all_goals (refine WL.nil ?_)
  all_goals (repeat' (with_reducible first | refine thenP_n ?_ | refine blockP_n ?_))
  all_goals (refine WC.sub [(0, _), (9, _)] ⟨rfl, rfl, trivial⟩ ?_)
  all_goals (first | refine WC.condB_t 1 rfl ?_ | refine WC.condB_f 2 rfl ?_ | (refine WC.condB 1 2 rfl (fun hb => ?_) (fun hb => ?_) <;> (first | replace hb := of_decide_eq_true hb | replace hb := of_decide_eq_false hb | replace hb := of_decide_eq_false (nt hb) | replace hb := of_decide_eq_true (nf hb) | skip)))
  all_goals (first
    | (fail_if_success (refine Br.mk (i := 1) ?_))
    | (refine Br.mk (i := 1) ?_
       all_goals (refine WC.seq ?_)
       all_goals (refine WC.region ?_)
       all_goals (refine WL.step (ok_assign rfl) rfl rfl rfl ?_)
       all_goals (refine WL.step (ok_assign rfl) rfl rfl rfl ?_)
       all_goals (refine WL.nil ?_)
       all_goals (repeat' (with_reducible first | refine thenP_n ?_ | refine blockP_n ?_))
       all_goals (refine WC.ret ?_)
       all_goals (repeat' (with_reducible first | refine thenP_r ?_ | refine blockP_r ?_))
       all_goals (refine retP_2 _ _ ⟨rfl, rfl, trivial⟩ ?_)
       all_goals (exact ⟨_, rfl, ⟨hb1, Own.nil _ _ _⟩, hg1, hx1⟩)
       skip))
  all_goals (first
    | (fail_if_success (refine Br.mk (i := 2) ?_))
    | (refine Br.mk (i := 2) ?_
       all_goals (refine WC.skip ?_)
       skip))
  all_goals (repeat' (with_reducible first | refine thenP_n ?_ | refine blockP_n ?_))
  all_goals (refine WC.seq ?_)
  all_goals (refine WC.region ?_)
  all_goals (refine WL.step (ok_move rfl) rfl rfl rfl ?_)
  all_goals (refine WL.step (ok_buildF (vs := [_]) (cs := [_, _]) (fun | [a1] => [(.slice none 0 0), a1] | _ => []) rfl rfl (by kernel_rfl)) rfl rfl rfl ?_)
  all_goals (refine WL.stepR (okE_box rfl) rfl rfl rfl ?_
             rintro _ h1 ⟨b1, rfl, hg1, hb1, hx1⟩)
  all_goals (refine WL.step (ok_assign rfl) rfl rfl rfl ?_)
  all_goals (refine WL.step (ok_assign rfl) rfl rfl rfl ?_)
  all_goals (refine WL.nil ?_)
  all_goals (repeat' (with_reducible first | refine thenP_n ?_ | refine blockP_n ?_))
  all_goals (refine WC.sub [(2, _), (3, _)] ⟨rfl, rfl, trivial⟩ ?_)
  all_goals (refine WC.ret ?_)
  all_goals (repeat' (with_reducible first | refine thenP_r ?_ | refine blockP_r ?_))
  all_goals (refine retP_2 _ _ ⟨rfl, rfl, trivial⟩ ?_)
  all_goals (exact ⟨_, rfl, ⟨hb1, Own.nil _ _ _⟩, hg1, hx1⟩)
set_option maxRecDepth 100000 in
theorem new18_no {h : Heap} (most : Int) (h0 : most < 1 ∨ 4096 < most) :
    CallsH Try.prog 28 ⟨[In most]⟩ h fun u h' => u = .tuple ⟨[.pointer none, In 1]⟩ ∧ h' = h := by
  rcases h0 with h0 | h0
  ·
    refine calls [(0, _)] Try.func28 rfl Try.ntmps28 rfl ⟨rfl, trivial⟩ ?_
    all_goals (refine WC.seq ?_)
    all_goals (refine WC.region ?_)
    all_goals (refine WL.step (ok_assign rfl) rfl rfl rfl ?_)
    all_goals (refine WL.step (ok_assign rfl) rfl rfl rfl ?_)
    all_goals (refine WL.nil ?_)
    all_goals (repeat' (with_reducible first | refine thenP_n ?_ | refine blockP_n ?_))
    all_goals (refine WC.seq ?_)
    all_goals (refine WC.seq ?_)
    all_goals (refine WC.region ?_)
    all_goals (refine WL.step (ok_move rfl) rfl rfl rfl ?_)
    all_goals (first | (refine WL.step (OkP.bool_t (by omega) (ok_lss rfl rfl)) rfl rfl rfl ?_) | (refine WL.step (OkP.bool_f (by omega) (ok_lss rfl rfl)) rfl rfl rfl ?_) | (refine WL.step (ok_lss rfl rfl) rfl rfl rfl ?_))
    all_goals (refine WL.step (ok_move rfl) rfl rfl rfl ?_)
    all_goals (try ((fail_if_success (refine WL.part 6 (b := true) rfl (fun _ => ?_) (fun _ => ?_))); (fail_if_success (refine WL.part 6 (b := false) rfl (fun _ => ?_) (fun _ => ?_))); (refine WL.part 6 rfl (fun hb => ?_) (fun hb => ?_) <;> (first | replace hb := of_decide_eq_true hb | replace hb := of_decide_eq_false hb | replace hb := of_decide_eq_false (nt hb) | replace hb := of_decide_eq_true (nf hb) | skip))))
    all_goals (first | (refine WL.pass rfl rfl rfl ?_) | (refine WL.step (ok_move rfl) rfl rfl rfl ?_))
    all_goals (first | (refine WL.pass rfl rfl rfl ?_) | (first | (refine WL.step (OkP.bool_t (by omega) (ok_gtr rfl rfl)) rfl rfl rfl ?_) | (refine WL.step (OkP.bool_f (by omega) (ok_gtr rfl rfl)) rfl rfl rfl ?_) | (refine WL.step (ok_gtr rfl rfl) rfl rfl rfl ?_)))
    all_goals (first | (refine WL.step (ok_pick_t rfl rfl) rfl rfl rfl ?_) | (refine WL.step (ok_pick_f rfl rfl) rfl rfl rfl ?_))
    all_goals (refine WL.nil ?_)
    all_goals (repeat' (with_reducible first | refine thenP_n ?_ | refine blockP_n ?_))
    all_goals (refine WC.sub [(0, _), (9, _)] ⟨rfl, rfl, trivial⟩ ?_)
    all_goals (first | refine WC.condB_t 1 rfl ?_ | refine WC.condB_f 2 rfl ?_ | (refine WC.condB 1 2 rfl (fun hb => ?_) (fun hb => ?_) <;> (first | replace hb := of_decide_eq_true hb | replace hb := of_decide_eq_false hb | replace hb := of_decide_eq_false (nt hb) | replace hb := of_decide_eq_true (nf hb) | skip)))
    all_goals (first
      | (fail_if_success (refine Br.mk (i := 1) ?_))
      | (refine Br.mk (i := 1) ?_
         all_goals (refine WC.seq ?_)
         all_goals (refine WC.region ?_)
         all_goals (refine WL.step (ok_assign rfl) rfl rfl rfl ?_)
         all_goals (refine WL.step (ok_assign rfl) rfl rfl rfl ?_)
         all_goals (refine WL.nil ?_)
         all_goals (repeat' (with_reducible first | refine thenP_n ?_ | refine blockP_n ?_))
         all_goals (refine WC.ret ?_)
         all_goals (repeat' (with_reducible first | refine thenP_r ?_ | refine blockP_r ?_))
         all_goals (refine retP_2 _ _ ⟨rfl, rfl, trivial⟩ ?_)
         all_goals (exact ⟨rfl, rfl⟩)
         skip))
    all_goals (first
      | (fail_if_success (refine Br.mk (i := 2) ?_))
      | (refine Br.mk (i := 2) ?_
         all_goals (refine WC.skip ?_)
         skip))
    all_goals (repeat' (with_reducible first | refine thenP_n ?_ | refine blockP_n ?_))
    all_goals (refine WC.seq ?_)
    all_goals (refine WC.region ?_)
    all_goals (refine WL.step (ok_move rfl) rfl rfl rfl ?_)
    all_goals (refine WL.step (ok_buildF (vs := [_]) (cs := [_, _]) (fun | [a1] => [(.slice none 0 0), a1] | _ => []) rfl rfl (by kernel_rfl)) rfl rfl rfl ?_)
    all_goals (refine WL.stepR (okE_box rfl) rfl rfl rfl ?_
               rintro _ h1 ⟨b1, rfl, hg1, hb1, hx1⟩)
    all_goals (refine WL.step (ok_assign rfl) rfl rfl rfl ?_)
    all_goals (refine WL.step (ok_assign rfl) rfl rfl rfl ?_)
    all_goals (refine WL.nil ?_)
    all_goals (repeat' (with_reducible first | refine thenP_n ?_ | refine blockP_n ?_))
    all_goals (refine WC.sub [(2, _), (3, _)] ⟨rfl, rfl, trivial⟩ ?_)
    all_goals (refine WC.ret ?_)
    all_goals (repeat' (with_reducible first | refine thenP_r ?_ | refine blockP_r ?_))
    all_goals (refine retP_2 _ _ ⟨rfl, rfl, trivial⟩ ?_)
    all_goals (exact ⟨rfl, rfl⟩)
  ·
    refine calls [(0, _)] Try.func28 rfl Try.ntmps28 rfl ⟨rfl, trivial⟩ ?_
    all_goals (refine WC.seq ?_)
    all_goals (refine WC.region ?_)
    all_goals (refine WL.step (ok_assign rfl) rfl rfl rfl ?_)
    all_goals (refine WL.step (ok_assign rfl) rfl rfl rfl ?_)
    all_goals (refine WL.nil ?_)
    all_goals (repeat' (with_reducible first | refine thenP_n ?_ | refine blockP_n ?_))
    all_goals (refine WC.seq ?_)
    all_goals (refine WC.seq ?_)
    all_goals (refine WC.region ?_)
    all_goals (refine WL.step (ok_move rfl) rfl rfl rfl ?_)
    all_goals (first | (refine WL.step (OkP.bool_t (by omega) (ok_lss rfl rfl)) rfl rfl rfl ?_) | (refine WL.step (OkP.bool_f (by omega) (ok_lss rfl rfl)) rfl rfl rfl ?_) | (refine WL.step (ok_lss rfl rfl) rfl rfl rfl ?_))
    all_goals (refine WL.step (ok_move rfl) rfl rfl rfl ?_)
    all_goals (try ((fail_if_success (refine WL.part 6 (b := true) rfl (fun _ => ?_) (fun _ => ?_))); (fail_if_success (refine WL.part 6 (b := false) rfl (fun _ => ?_) (fun _ => ?_))); (refine WL.part 6 rfl (fun hb => ?_) (fun hb => ?_) <;> (first | replace hb := of_decide_eq_true hb | replace hb := of_decide_eq_false hb | replace hb := of_decide_eq_false (nt hb) | replace hb := of_decide_eq_true (nf hb) | skip))))
    all_goals (first | (refine WL.pass rfl rfl rfl ?_) | (refine WL.step (ok_move rfl) rfl rfl rfl ?_))
    all_goals (first | (refine WL.pass rfl rfl rfl ?_) | (first | (refine WL.step (OkP.bool_t (by omega) (ok_gtr rfl rfl)) rfl rfl rfl ?_) | (refine WL.step (OkP.bool_f (by omega) (ok_gtr rfl rfl)) rfl rfl rfl ?_) | (refine WL.step (ok_gtr rfl rfl) rfl rfl rfl ?_)))
    all_goals (first | (refine WL.step (ok_pick_t rfl rfl) rfl rfl rfl ?_) | (refine WL.step (ok_pick_f rfl rfl) rfl rfl rfl ?_))
    all_goals (refine WL.nil ?_)
    all_goals (repeat' (with_reducible first | refine thenP_n ?_ | refine blockP_n ?_))
    all_goals (refine WC.sub [(0, _), (9, _)] ⟨rfl, rfl, trivial⟩ ?_)
    all_goals (first | refine WC.condB_t 1 rfl ?_ | refine WC.condB_f 2 rfl ?_ | (refine WC.condB 1 2 rfl (fun hb => ?_) (fun hb => ?_) <;> (first | replace hb := of_decide_eq_true hb | replace hb := of_decide_eq_false hb | replace hb := of_decide_eq_false (nt hb) | replace hb := of_decide_eq_true (nf hb) | skip)))
    all_goals (first
      | (fail_if_success (refine Br.mk (i := 1) ?_))
      | (refine Br.mk (i := 1) ?_
         all_goals (refine WC.seq ?_)
         all_goals (refine WC.region ?_)
         all_goals (refine WL.step (ok_assign rfl) rfl rfl rfl ?_)
         all_goals (refine WL.step (ok_assign rfl) rfl rfl rfl ?_)
         all_goals (refine WL.nil ?_)
         all_goals (repeat' (with_reducible first | refine thenP_n ?_ | refine blockP_n ?_))
         all_goals (refine WC.ret ?_)
         all_goals (repeat' (with_reducible first | refine thenP_r ?_ | refine blockP_r ?_))
         all_goals (refine retP_2 _ _ ⟨rfl, rfl, trivial⟩ ?_)
         all_goals (exact ⟨rfl, rfl⟩)
         skip))
    all_goals (first
      | (fail_if_success (refine Br.mk (i := 2) ?_))
      | (refine Br.mk (i := 2) ?_
         all_goals (refine WC.skip ?_)
         skip))
    all_goals (repeat' (with_reducible first | refine thenP_n ?_ | refine blockP_n ?_))
    all_goals (refine WC.seq ?_)
    all_goals (refine WC.region ?_)
    all_goals (refine WL.step (ok_move rfl) rfl rfl rfl ?_)
    all_goals (refine WL.step (ok_buildF (vs := [_]) (cs := [_, _]) (fun | [a1] => [(.slice none 0 0), a1] | _ => []) rfl rfl (by kernel_rfl)) rfl rfl rfl ?_)
    all_goals (refine WL.stepR (okE_box rfl) rfl rfl rfl ?_
               rintro _ h1 ⟨b1, rfl, hg1, hb1, hx1⟩)
    all_goals (refine WL.step (ok_assign rfl) rfl rfl rfl ?_)
    all_goals (refine WL.step (ok_assign rfl) rfl rfl rfl ?_)
    all_goals (refine WL.nil ?_)
    all_goals (repeat' (with_reducible first | refine thenP_n ?_ | refine blockP_n ?_))
    all_goals (refine WC.sub [(2, _), (3, _)] ⟨rfl, rfl, trivial⟩ ?_)
    all_goals (refine WC.ret ?_)
    all_goals (repeat' (with_reducible first | refine thenP_r ?_ | refine blockP_r ?_))
    all_goals (refine retP_2 _ _ ⟨rfl, rfl, trivial⟩ ?_)
    all_goals (exact ⟨rfl, rfl⟩)
theorem set_full {most : Int} {l : List Int} {k id : Int} (h : k = 1) (h1 : most ≤ l.length) (h2 : (l.length : Int) ≤ most) : setL most l k id = l := by
  subst h
  unfold setL addL
  rw [if_pos rfl]
  split
  · rfl
  · rw [if_pos (by omega)]
theorem set_one' {most : Int} {l : List Int} {k id : Int} (h : ¬ k = 1 ∨ ¬ most ≤ l.length) : setL most l k id = oneL l k id := by
  rcases h with h | h
  · simp [setL, oneL, h]
  · exact set_one _ _ (by omega)
theorem Lr.ne_own {T : TypeId} (hT : T ≠ 3) {h : Heap} {b n : Nat} {v u : Value} {most : Int} {l xs : List Int} (r : Lr T h b v most l) (ho : Own h u 3 1 n (ints xs)) : u.ownBlock ≠ some b := own_ne ho r.cells hT
set_option maxRecDepth 100000 in
theorem settle18 {h : Heap} {b : Nat} {v w : Value} {most : Int} {l : List Int} (r : Lr 61 h b v most l) (ops : List COp) (ho : Ops h w ops) (hapart : ∀ q, 0 < ops.length → w.ownBlock = some q → q ≠ b) (hn : l.Nodup) (hl : (l.length : Int) ≤ most) (h0 : 0 < most) (hmo : most ≤ 4096) :
    CallsH Try.prog 30 ⟨[.pointer (some ⟨b, 0, none⟩), w]⟩ h fun u h' => (∃ v', Lr 61 h' b v' most (settleL most l ops) ∧ Ext (fun q => q = b) h h' ∧ Kin h v v') ∧ Own h' u 3 1 (goneL l (settleL most l ops)).length (ints (goneL l (settleL most l ops))) ∧ (∀ q, u.ownBlock = some q → h.size ≤ q) := by
  obtain ⟨ho, hob⟩ := ho
  obtain ⟨B, d, rfl, _⟩ := id ho
  unfold reachBytes at hob
  obtain ⟨A, c, rfl, _⟩ := r.own.slice
  have hcells := r.cells
  have hne := r.ne (by decide)
  have hbl := lt_of_some r.cells
  refine calls [(0, _), (1, _)] Try.func30 rfl Try.ntmps30 rfl ⟨rfl, rfl, trivial⟩ ?_
  all_goals (refine WC.seq ?_)
  all_goals (refine WC.region ?_)
  all_goals (refine WL.step (ok_assign rfl) rfl rfl rfl ?_)
  all_goals (refine WL.nil ?_)
  all_goals (repeat' (with_reducible first | refine thenP_n ?_ | refine blockP_n ?_))
  all_goals (refine WC.seq ?_)
  all_goals (refine WC.region ?_)
  all_goals (refine WL.step (ok_assign rfl) rfl rfl rfl ?_)
  all_goals (refine WL.nil ?_)
  all_goals (repeat' (with_reducible first | refine thenP_n ?_ | refine blockP_n ?_))
  all_goals (refine WC.seq ?_)
  all_goals (refine WC.region ?_)
  all_goals (refine WL.step (ok_move rfl) rfl rfl rfl ?_)
  all_goals (refine WL.step (ok_nilCheck rfl) rfl rfl rfl ?_)
  all_goals (refine WL.step (ok_fieldAddr rfl Try.underlying61 rfl (fun w => Try.sizeOf22 w)) rfl rfl rfl ?_)
  all_goals (refine WL.step (ok_load (fun w => Try.isAgg22 w) rfl (by first | assumption | exact cell_blk (by assumption) rfl)) rfl rfl rfl ?_)
  all_goals (refine WL.step (ok_assign rfl) rfl rfl rfl ?_)
  all_goals (refine WL.nil ?_)
  all_goals (repeat' (with_reducible first | refine thenP_n ?_ | refine blockP_n ?_))
  all_goals (refine WC.sub [(0, _), (1, _), (5, _), (6, _)] ⟨rfl, rfl, rfl, rfl, trivial⟩ ?_)
  all_goals (refine WC.seq ?_)
  all_goals (refine WC.seq ?_)
  all_goals (refine WC.region ?_)
  all_goals (refine WL.step (ok_assign rfl) rfl rfl rfl ?_)
  all_goals (refine WL.nil ?_)
  all_goals (repeat' (with_reducible first | refine thenP_n ?_ | refine blockP_n ?_))
  all_goals (refine WC.block ?_)
  -- loop 0: slots that turn [7], that stay [0, 1, 5, 6]
  all_goals (refine WC.loopG (X := Nat) (fun x => ([(7, In (x : Int))] : Fr)) [(0, _), (1, _), (5, _), (6, _)] (fun k h' => k ≤ ops.length ∧ ∃ v', Lr 61 h' b v' most (settleL most l (ops.take k)) ∧ Ext (fun q => q = b) h h' ∧ Kin h (.slice A l.length c) v') (fun k => ops.length - k) (0) ⟨rfl, rfl, rfl, rfl, rfl, trivial⟩ (by exact ⟨Nat.zero_le _, _, r, .refl _ _, fun q hq => .inl hq⟩) ?_)
  all_goals (rintro k h2 ⟨hk, v2, r2, hx2, hk2⟩
             have hok := settle_ok (ops.take k) hn hl
             obtain ⟨A2, c2, rfl, _⟩ := r2.own.slice
             have hc2 := r2.cells)
  all_goals (refine WC.sub [(7, _), (0, _), (1, _), (5, _), (6, _)] ⟨rfl, rfl, rfl, rfl, rfl, trivial⟩ ?_)
  all_goals (refine WC.seq ?_)
  all_goals (refine WC.seq ?_)
  all_goals (refine WC.region ?_)
  all_goals (refine WL.step (ok_move rfl) rfl rfl rfl ?_)
  all_goals (refine WL.step (ok_move rfl) rfl rfl rfl ?_)
  all_goals (refine WL.step (ok_lenL rfl Try.underlying40 rfl) rfl rfl rfl ?_)
  all_goals (first | (refine WL.step (OkP.bool_t (by omega) (ok_lss rfl rfl)) rfl rfl rfl ?_) | (refine WL.step (OkP.bool_f (by omega) (ok_lss rfl rfl)) rfl rfl rfl ?_) | (refine WL.step (ok_lss rfl rfl) rfl rfl rfl ?_))
  all_goals (refine WL.nil ?_)
  all_goals (repeat' (with_reducible first | refine thenP_n ?_ | refine blockP_n ?_))
  all_goals (first | refine WC.condB_t 1 rfl ?_ | refine WC.condB_f 2 rfl ?_ | (refine WC.condB 1 2 rfl (fun hb => ?_) (fun hb => ?_) <;> (first | replace hb := of_decide_eq_true hb | replace hb := of_decide_eq_false hb | replace hb := of_decide_eq_false (nt hb) | replace hb := of_decide_eq_true (nf hb) | skip)))
  all_goals (first
    | (fail_if_success (refine Br.mk (i := 1) ?_))
    | (refine Br.mk (i := 1) ?_
       all_goals (refine WC.skip ?_)
       skip))
  all_goals (first
    | (fail_if_success (refine Br.mk (i := 2) ?_))
    | (refine Br.mk (i := 2) ?_
       all_goals (refine WC.exit ?_)
       all_goals (repeat' (with_reducible first | refine thenP_x ?_ | refine blockP_miss rfl ?_ | refine blockP_hit ?_ | refine blockP_n ?_ | refine thenP_n ?_))
       all_goals (refine Br.out (i := 1000) ?_)
       skip))
  all_goals (first | (refine Br.keep ?_) | (repeat' (with_reducible first | refine thenP_n ?_ | refine blockP_n ?_)))
  all_goals (first | (refine Br.keep ?_) | (refine WC.sub [(0, _), (1, _), (5, _), (6, _), (7, _)] ⟨rfl, rfl, rfl, rfl, rfl, trivial⟩ ?_))
  all_goals (first | (refine Br.keep ?_) | (refine WC.seq ?_))
  all_goals (first | (refine Br.keep ?_) | (refine WC.block ?_))
  all_goals (first | (refine Br.keep ?_) | (refine WC.seq ?_))
  all_goals (first | (refine Br.keep ?_) | (refine WC.seq ?_))
  all_goals (first
               | (refine Br.keep ?_)
               | (obtain ⟨bL, oL, hA, hbL, hat⟩ := Rd.at_ (ho.ext' hx2 (fun q hn hq => hapart q hn hq)) (by omega)
                  obtain ⟨⟨kd, id, _⟩, hy⟩ : ∃ y, ops[k]? = some y := ⟨_, List.getElem?_eq_getElem (by omega)⟩
                  have hc : At h2 bL (oL + k * 2) [In kd, In id] := cop_at hat hy))
  all_goals (first | (refine Br.keep ?_) | (refine WC.drawE fol (by kernel_rfl) ?_))
  all_goals (first | (refine Br.keep ?_) | (refine WQ.stepE (ok_move rfl) rfl rfl rfl ?_))
  all_goals (first | (refine Br.keep ?_) | (refine WQ.stepE (ok_move rfl) rfl rfl rfl ?_))
  all_goals (first | (refine Br.keep ?_) | (refine WQ.stepE (ok_idxAddrA Try.underlying40 (fun w => Try.sizeOf78 w) rfl rfl rfl (by omega) (by first | rfl | assumption)) rfl rfl rfl ?_))
  all_goals (first | (refine Br.keep ?_) | (refine WQ.stepE (ok_fieldAddr rfl Try.underlying78 rfl (fun w => Try.sizeOf3 w)) rfl rfl rfl ?_))
  all_goals (first | (refine Br.keep ?_) | (refine WQ.stepE (ok_load (fun w => Try.isAgg3 w) rfl (by first | exact hc.get 0 rfl rfl | assumption | exact cell_blk (by assumption) rfl)) rfl rfl rfl ?_))
  all_goals (first | (refine Br.keep ?_) | (first | (refine WQ.stepE (OkP.bool_t (by omega) (ok_eql rfl rfl)) rfl rfl rfl ?_) | (refine WQ.stepE (OkP.bool_f (by omega) (ok_eql rfl rfl)) rfl rfl rfl ?_) | (refine WQ.stepE (ok_eql rfl rfl) rfl rfl rfl ?_)))
  all_goals (first | (refine Br.keep ?_) | (refine WQ.stepE (ok_move rfl) rfl rfl rfl ?_))
  all_goals (first | (refine Br.keep ?_) | (try ((fail_if_success (refine WQ.part 25 (b := true) rfl (fun _ => ?_) (fun _ => ?_))); (fail_if_success (refine WQ.part 25 (b := false) rfl (fun _ => ?_) (fun _ => ?_))); (refine WQ.part 25 rfl (fun hb => ?_) (fun hb => ?_) <;> (first | replace hb := of_decide_eq_true hb | replace hb := of_decide_eq_false hb | replace hb := of_decide_eq_false (nt hb) | replace hb := of_decide_eq_true (nf hb) | skip)))))
  all_goals (first | (refine Br.keep ?_) | (first | (refine WQ.pass rfl rfl rfl ?_) | (refine WQ.stepE (ok_move rfl) rfl rfl rfl ?_)))
  all_goals (first | (refine Br.keep ?_) | (first | (refine WQ.pass rfl rfl rfl ?_) | (refine WQ.stepE (ok_nilCheck rfl) rfl rfl rfl ?_)))
  all_goals (first | (refine Br.keep ?_) | (first | (refine WQ.pass rfl rfl rfl ?_) | (refine WQ.stepE (ok_fieldAddr rfl Try.underlying61 rfl (fun w => Try.sizeOf22 w)) rfl rfl rfl ?_)))
  all_goals (first | (refine Br.keep ?_) | (first | (refine WQ.pass rfl rfl rfl ?_) | (refine WQ.stepE (ok_load (fun w => Try.isAgg22 w) rfl (by first | assumption | exact cell_blk (by assumption) rfl)) rfl rfl rfl ?_)))
  all_goals (first | (refine Br.keep ?_) | (first | (refine WQ.pass rfl rfl rfl ?_) | (refine WQ.stepE (ok_lenL rfl Try.underlying22 rfl) rfl rfl rfl ?_)))
  all_goals (first | (refine Br.keep ?_) | (first | (refine WQ.pass rfl rfl rfl ?_) | (refine WQ.stepE (ok_move rfl) rfl rfl rfl ?_)))
  all_goals (first | (refine Br.keep ?_) | (first | (refine WQ.pass rfl rfl rfl ?_) | (refine WQ.stepE (ok_nilCheck rfl) rfl rfl rfl ?_)))
  all_goals (first | (refine Br.keep ?_) | (first | (refine WQ.pass rfl rfl rfl ?_) | (refine WQ.stepE (ok_fieldAddr rfl Try.underlying61 rfl (fun w => Try.sizeOf3 w)) rfl rfl rfl ?_)))
  all_goals (first | (refine Br.keep ?_) | (first | (refine WQ.pass rfl rfl rfl ?_) | (refine WQ.stepE (ok_load (fun w => Try.isAgg3 w) rfl (by first | assumption | exact cell_blk (by assumption) rfl)) rfl rfl rfl ?_)))
  all_goals (first | (refine Br.keep ?_) | (first | (refine WQ.pass rfl rfl rfl ?_) | (first | (refine WQ.stepE (OkP.bool_t (by omega) (ok_geq rfl rfl)) rfl rfl rfl ?_) | (refine WQ.stepE (OkP.bool_f (by omega) (ok_geq rfl rfl)) rfl rfl rfl ?_) | (refine WQ.stepE (ok_geq rfl rfl) rfl rfl rfl ?_))))
  all_goals (first | (refine Br.keep ?_) | (first | (refine WQ.stepE (ok_pick_t rfl rfl) rfl rfl rfl ?_) | (refine WQ.stepE (ok_pick_f rfl rfl) rfl rfl rfl ?_)))
  all_goals (first | (refine Br.keep ?_) | (refine WQ.nil ?_))
  all_goals (first | (refine Br.keep ?_) | (repeat' (with_reducible first | refine thenP_n ?_ | refine blockP_n ?_)))
  all_goals (first | (refine Br.keep ?_) | (refine WC.sub [(0, _), (1, _), (5, _), (6, _), (7, _), (36, _)] ⟨rfl, rfl, rfl, rfl, rfl, rfl, trivial⟩ ?_))
  all_goals (first | (refine Br.keep ?_) | (first | refine WC.condB_t 3 rfl ?_ | refine WC.condB_f 4 rfl ?_ | (refine WC.condB 3 4 rfl (fun hb => ?_) (fun hb => ?_) <;> (first | replace hb := of_decide_eq_true hb | replace hb := of_decide_eq_false hb | replace hb := of_decide_eq_false (nt hb) | replace hb := of_decide_eq_true (nf hb) | skip))))
  all_goals (first
    | (fail_if_success (refine Br.mk (i := 3) ?_))
    | (refine Br.mk (i := 3) ?_
       all_goals (refine WC.exit ?_)
       all_goals (repeat' (with_reducible first | refine thenP_x ?_ | refine blockP_miss rfl ?_ | refine blockP_hit ?_ | refine blockP_n ?_ | refine thenP_n ?_))
       all_goals (refine Br.out (i := 1001) ?_)
       skip))
  all_goals (first
    | (fail_if_success (refine Br.mk (i := 4) ?_))
    | (refine Br.mk (i := 4) ?_
       all_goals (refine WC.skip ?_)
       skip))
  all_goals (first | (refine Br.keep ?_) | (repeat' (with_reducible first | refine thenP_n ?_ | refine blockP_n ?_)))
  all_goals (first | (refine Br.keep ?_) | (refine WC.drawH (fun h' => Ext No h2 h') 10 13 rfl fol ?_))
  all_goals (first | (refine Br.keep ?_) | (refine WH.take 0 rfl (by kernel_rfl) (by kernel_rfl) (by kernel_rfl) (by kernel_rfl) rfl (by first | exact Ext.refl _ _ | assumption) (fun hq hC => ok_move rfl) rfl rfl rfl ?_))
  all_goals (first | (refine Br.keep ?_) | (refine WH.take 1 rfl (by kernel_rfl) (by kernel_rfl) (by kernel_rfl) (by kernel_rfl) rfl (by first | exact Ext.refl _ _ | assumption) (fun hq hC => ok_move rfl) rfl rfl rfl ?_))
  all_goals (first | (refine Br.keep ?_) | (refine WH.take 2 rfl (by kernel_rfl) (by kernel_rfl) (by kernel_rfl) (by kernel_rfl) rfl (by first | exact Ext.refl _ _ | assumption) (fun hq hC => ok_nilCheck rfl) rfl rfl rfl ?_))
  all_goals (first | (refine Br.keep ?_) | (refine WH.take 3 rfl (by kernel_rfl) (by kernel_rfl) (by kernel_rfl) (by kernel_rfl) rfl (by first | exact Ext.refl _ _ | assumption) (fun hq hC => ok_fieldAddr rfl Try.underlying61 rfl (fun w => Try.sizeOf22 w)) rfl rfl rfl ?_))
  all_goals (first | (refine Br.keep ?_) | (refine WH.take 4 rfl (by kernel_rfl) (by kernel_rfl) (by kernel_rfl) (by kernel_rfl) rfl (by first | exact Ext.refl _ _ | assumption) (fun hq hC => ok_load (fun w => Try.isAgg22 w) rfl (by first | exact hC.cell (by first | assumption | assumption | exact cell_blk (by assumption) rfl) nos)) rfl rfl rfl ?_))
  all_goals (first | (refine Br.keep ?_) | (refine WH.take 5 rfl (by kernel_rfl) (by kernel_rfl) (by kernel_rfl) (by kernel_rfl) rfl (by first | exact Ext.refl _ _ | assumption) (fun hq hC => ok_move rfl) rfl rfl rfl ?_))
  all_goals (first | (refine Br.keep ?_) | (refine WH.take 6 rfl (by kernel_rfl) (by kernel_rfl) (by kernel_rfl) (by kernel_rfl) rfl (by first | exact Ext.refl _ _ | assumption) (fun hq hC => ok_move rfl) rfl rfl rfl ?_))
  all_goals (first | (refine Br.keep ?_) | (refine WH.take 7 rfl (by kernel_rfl) (by kernel_rfl) (by kernel_rfl) (by kernel_rfl) rfl (by first | exact Ext.refl _ _ | assumption) (fun hq hC => ok_idxAddrA Try.underlying40 (fun w => Try.sizeOf78 w) rfl rfl rfl (by omega) (by first | rfl | assumption)) rfl rfl rfl ?_))
  all_goals (first | (refine Br.keep ?_) | (refine WH.take 8 rfl (by kernel_rfl) (by kernel_rfl) (by kernel_rfl) (by kernel_rfl) rfl (by first | exact Ext.refl _ _ | assumption) (fun hq hC => ok_loadN (fun w => Try.isAgg78 w) (fun w => Try.sizeOf78 w) rfl rfl (by exact (hc.ext hC nos))) rfl rfl rfl ?_))
  all_goals (first | (refine Br.keep ?_) | (refine WH.one 9 (by kernel_rfl) ?_))
  all_goals (first
               | (refine Br.keep ?_)
               | (refine Comes1.call (vs := [_, _]) rfl rfl (fun a w => Try.call57 a w) rfl (one18 _ kd id r2.own.rd (by omega)) rfl rfl rfl ?_ (fun _ => by kernel_rfl)
                  rintro v5 h5 ⟨ho5, hx5, hf5⟩))
  all_goals (first | (refine Br.keep ?_) | (refine ⟨fun _ => by assumption, ?_⟩))
  all_goals (first
               | (refine Br.keep ?_)
               | (have hc5 := hx5.obj hc2 nos
                  obtain ⟨A5, c5, rfl, _⟩ := ho5.slice))
  all_goals (first | (refine Br.keep ?_) | (refine WH.one 10 (by kernel_rfl) ?_))
  all_goals (first
               | (refine Br.keep ?_)
               | (refine Comes1.run rfl (OkP.r (ok_nilCheck rfl)) rfl rfl rfl ?_ (fun _ => by kernel_rfl)
                  rintro _ hz ⟨rfl, _⟩
                  subst hz))
  all_goals (first | (refine Br.keep ?_) | (refine ⟨fun e => (by cases e), ?_⟩))
  all_goals (first | (refine Br.keep ?_) | (refine WH.one 11 (by kernel_rfl) ?_))
  all_goals (first
               | (refine Br.keep ?_)
               | (refine Comes1.run rfl (OkP.r (ok_fieldAddr rfl Try.underlying61 rfl (fun w => Try.sizeOf22 w))) rfl rfl rfl ?_ (fun _ => by kernel_rfl)
                  rintro _ hz ⟨rfl, _⟩
                  subst hz))
  all_goals (first | (refine Br.keep ?_) | (refine ⟨fun e => (by cases e), ?_⟩))
  all_goals (first | (refine Br.keep ?_) | (refine WH.one 12 (by kernel_rfl) ?_))
  all_goals (first
               | (refine Br.keep ?_)
               | (refine Comes1.run0 rfl (okE_store (fun w => Try.sizeOf22 w) rfl rfl hc5 (Nat.le_of_ble_eq_true rfl) rfl rfl) rfl rfl ?_ (fun _ => by kernel_rfl)
                  rintro _ h6 ⟨hb6, hx6⟩))
  all_goals (first | (refine Br.keep ?_) | (refine ⟨fun e => (by cases e), ?_⟩))
  all_goals (first | (refine Br.keep ?_) | (refine WH.done (by kernel_rfl) ?_))
  all_goals (first | (refine Br.keep ?_) | (repeat' (with_reducible first | refine thenP_n ?_ | refine blockP_n ?_)))
  all_goals (try (refine Br.mk (i := 1001) ?_))
  all_goals (first | (refine Br.keep ?_) | (repeat' (with_reducible first | refine thenP_n ?_ | refine blockP_n ?_)))
  all_goals (first | (refine Br.keep ?_) | (refine WC.region ?_))
  all_goals (first | (refine Br.keep ?_) | (refine WL.step (ok_move rfl) rfl rfl rfl ?_))
  all_goals (first | (refine Br.keep ?_) | (first | (refine WL.step (ok_addI rfl rfl (by omega)) rfl rfl rfl ?_) | (refine WL.step (ok_add rfl rfl) rfl rfl rfl ?_)))
  all_goals (first | (refine Br.keep ?_) | (refine WL.step (ok_assign rfl) rfl rfl rfl ?_))
  all_goals (first | (refine Br.keep ?_) | (refine WL.nil ?_))
  all_goals (first | (refine Br.keep ?_) | (repeat' (with_reducible first | refine thenP_n ?_ | refine blockP_n ?_)))
  all_goals (first
               | (refine Br.keep ?_)
               | (exact ⟨k + 1, ⟨rfl, rfl, rfl, rfl, rfl, trivial⟩, (by first
                   | exact ⟨by omega, _, by rw [settle_snoc hy, set_full (by omega) (by omega) hok.2]; exact r2, hx2, hk2⟩
                   | exact ⟨by omega, _, by rw [settle_snoc hy, set_one' (by omega)]; exact ⟨hb6, ho5.ext hx6 (fun q hq e => own_ne ho5 hc5 (by decide) (by rw [hq, e]))⟩, (hx2.trans (hx5.mono fun _ _ e => e.elim)).trans hx6, fun q hq => .inr (by have := hf5 q hq; have := hx2.size; omega)⟩), (by omega)⟩))
  all_goals (try (refine Br.mk (i := 1000) ?_))
  all_goals (repeat' (with_reducible first | refine thenP_n ?_ | refine blockP_n ?_))
  all_goals (refine WC.sub [(0, _), (5, _), (6, _)] ⟨rfl, rfl, rfl, trivial⟩ ?_)
  all_goals (refine WC.seq ?_)
  all_goals (refine WC.seq ?_)
  all_goals (refine WC.region ?_)
  all_goals (refine WL.step (ok_assign rfl) rfl rfl rfl ?_)
  all_goals (refine WL.nil ?_)
  all_goals (repeat' (with_reducible first | refine thenP_n ?_ | refine blockP_n ?_))
  all_goals (refine WC.block ?_)
  -- loop 1: slots that turn [5, 8], that stay [0, 6]
  all_goals (refine WC.loopG (X := Nat × Value) (fun x => ([(8, In (x.1 : Int)), (5, x.2)] : Fr)) [(0, _), (6, _)] (fun x h' => x.1 ≤ l.length ∧ NewL h2 x.2 (goneL (l.take x.1) (settleL most l (ops.take k))) h') (fun x => l.length - x.1) ((0, .slice none 0 0)) ⟨rfl, rfl, rfl, rfl, trivial⟩ (by exact ⟨Nat.zero_le _, Own.nil _ _ _, .refl _ _, by simp [Value.ownBlock]⟩) ?_)
  all_goals (rintro ⟨j, v3⟩ h3 ⟨hj, ho3, hx3, hf3⟩
             simp only at hj ho3 hf3
             have hle : (goneL (l.take j) (settleL most l (ops.take k))).length ≤ (l.take j).length := List.length_filter_le _ _
             rw [List.length_take] at hle
             have hc3 := hx3.obj hc2 nos)
  all_goals (refine WC.sub [(5, _), (8, _), (0, _), (6, _)] ⟨rfl, rfl, rfl, rfl, trivial⟩ ?_)
  all_goals (dsimp only)
  all_goals (refine WC.seq ?_)
  all_goals (refine WC.seq ?_)
  all_goals (refine WC.region ?_)
  all_goals (refine WL.step (ok_move rfl) rfl rfl rfl ?_)
  all_goals (refine WL.step (ok_move rfl) rfl rfl rfl ?_)
  all_goals (refine WL.step (ok_lenL rfl Try.underlying22 rfl) rfl rfl rfl ?_)
  all_goals (first | (refine WL.step (OkP.bool_t (by omega) (ok_lss rfl rfl)) rfl rfl rfl ?_) | (refine WL.step (OkP.bool_f (by omega) (ok_lss rfl rfl)) rfl rfl rfl ?_) | (refine WL.step (ok_lss rfl rfl) rfl rfl rfl ?_))
  all_goals (refine WL.nil ?_)
  all_goals (repeat' (with_reducible first | refine thenP_n ?_ | refine blockP_n ?_))
  all_goals (first | refine WC.condB_t 5 rfl ?_ | refine WC.condB_f 6 rfl ?_ | (refine WC.condB 5 6 rfl (fun hb => ?_) (fun hb => ?_) <;> (first | replace hb := of_decide_eq_true hb | replace hb := of_decide_eq_false hb | replace hb := of_decide_eq_false (nt hb) | replace hb := of_decide_eq_true (nf hb) | skip)))
  all_goals (first
    | (fail_if_success (refine Br.mk (i := 5) ?_))
    | (refine Br.mk (i := 5) ?_
       all_goals (refine WC.skip ?_)
       skip))
  all_goals (first
    | (fail_if_success (refine Br.mk (i := 6) ?_))
    | (refine Br.mk (i := 6) ?_
       all_goals (refine WC.exit ?_)
       all_goals (repeat' (with_reducible first | refine thenP_x ?_ | refine blockP_miss rfl ?_ | refine blockP_hit ?_ | refine blockP_n ?_ | refine thenP_n ?_))
       all_goals (refine Br.out (i := 1002) ?_)
       skip))
  all_goals (first | (refine Br.keep ?_) | (repeat' (with_reducible first | refine thenP_n ?_ | refine blockP_n ?_)))
  all_goals (first | (refine Br.keep ?_) | (refine WC.sub [(0, _), (5, _), (6, _), (8, _)] ⟨rfl, rfl, rfl, rfl, trivial⟩ ?_))
  all_goals (first | (refine Br.keep ?_) | (refine WC.seq ?_))
  all_goals (first | (refine Br.keep ?_) | (refine WC.block ?_))
  all_goals (first | (refine Br.keep ?_) | (refine WC.seq ?_))
  all_goals (first
               | (refine Br.keep ?_)
               | (obtain ⟨b1, o1, hA1, hbL1, hat1⟩ := Rd.at_ ((r.own.rd.ext hx2 (fun q hq e => hne (by rw [hq, e]))).ext0 hx3) (by omega)
                  obtain ⟨y, hy⟩ : ∃ y, l[j]? = some y := ⟨_, List.getElem?_eq_getElem (by omega)⟩
                  have hc := hat1.get (p := o1 + j * 1) j (get_int hy) (by omega)
                  have hf := filter_take (q := fun x => decide (x ∉ settleL most l (ops.take k))) hy))
  all_goals (first | (refine Br.keep ?_) | (refine WC.drawE fol (by kernel_rfl) ?_))
  all_goals (first | (refine Br.keep ?_) | (refine WQ.stepE (ok_move rfl) rfl rfl rfl ?_))
  all_goals (first | (refine Br.keep ?_) | (refine WQ.stepE (ok_nilCheck rfl) rfl rfl rfl ?_))
  all_goals (first | (refine Br.keep ?_) | (refine WQ.stepE (ok_fieldAddr rfl Try.underlying61 rfl (fun w => Try.sizeOf22 w)) rfl rfl rfl ?_))
  all_goals (first | (refine Br.keep ?_) | (refine WQ.stepE (ok_load (fun w => Try.isAgg22 w) rfl (by first | assumption | exact cell_blk (by assumption) rfl)) rfl rfl rfl ?_))
  all_goals (first | (refine Br.keep ?_) | (refine WQ.stepE (ok_move rfl) rfl rfl rfl ?_))
  all_goals (first | (refine Br.keep ?_) | (refine WQ.stepE (ok_move rfl) rfl rfl rfl ?_))
  all_goals (first | (refine Br.keep ?_) | (refine WQ.stepE (ok_idxAddrA Try.underlying22 (fun w => Try.sizeOf3 w) rfl rfl rfl (by omega) (by first | rfl | assumption)) rfl rfl rfl ?_))
  all_goals (first | (refine Br.keep ?_) | (refine WQ.stepE (ok_load (fun w => Try.isAgg3 w) rfl (by first | assumption | exact cell_blk (by assumption) rfl)) rfl rfl rfl ?_))
  all_goals (first | (refine Br.keep ?_) | (refine WQ.callE (vs := [_, _]) rfl (fun a w => Try.call43 a w) rfl (has18 _ y (r2.own.rd.ext0 hx3) (by unfold maxLen; omega)) rfl rfl rfl ?_))
  all_goals (first | (refine Br.keep ?_) | (refine WQ.stepE (ok_not rfl) rfl rfl rfl ?_))
  all_goals (first | (refine Br.keep ?_) | (refine WQ.nil ?_))
  all_goals (first | (refine Br.keep ?_) | (repeat' (with_reducible first | refine thenP_n ?_ | refine blockP_n ?_)))
  all_goals (first | (refine Br.keep ?_) | (refine WC.sub [(0, _), (5, _), (6, _), (8, _), (64, _)] ⟨rfl, rfl, rfl, rfl, rfl, trivial⟩ ?_))
  all_goals (first | (refine Br.keep ?_) | (first | refine WC.condB_t 7 rfl ?_ | refine WC.condB_f 8 rfl ?_ | (refine WC.condB 7 8 rfl (fun hb => ?_) (fun hb => ?_) <;> (first | replace hb := of_decide_eq_true hb | replace hb := of_decide_eq_false hb | replace hb := of_decide_eq_false (nt hb) | replace hb := of_decide_eq_true (nf hb) | skip))))
  all_goals (first
    | (fail_if_success (refine Br.mk (i := 7) ?_))
    | (refine Br.mk (i := 7) ?_
       all_goals (refine WC.region ?_)
       all_goals (refine WL.step (ok_move rfl) rfl rfl rfl ?_)
       all_goals (refine WL.step (ok_move rfl) rfl rfl rfl ?_)
       all_goals (refine WL.step (ok_move rfl) rfl rfl rfl ?_)
       all_goals (refine WL.step (ok_idxAddrA Try.underlying22 (fun w => Try.sizeOf3 w) rfl rfl rfl (by omega) (by first | rfl | assumption)) rfl rfl rfl ?_)
       all_goals (refine WL.step (ok_load (fun w => Try.isAgg3 w) rfl (by first | assumption | exact cell_blk (by assumption) rfl)) rfl rfl rfl ?_)
       all_goals (refine WL.stepR (okE_buildSlice (vs := [_]) (cs := [_]) (fun | [a0] => [a0] | _ => []) Try.underlying22 rfl rfl (by kernel_rfl)) rfl rfl rfl ?_
                  rintro _ h4 ⟨b4, rfl, hg4, hb4, hx4⟩)
       all_goals (refine WL.stepR (ok_append (sz := 1) (bytes := 8) rfl Try.underlying22 (show Try.prog.info? 3 = some Try.t3 by kernel_rfl) rfl rfl rfl rfl (by decide) rfl rfl (ho3.ext hx4 (fun _ _ => nos)) (rd_blk hb4 rfl) (by simp [Value.oneCell']) (by simp only [maxLen]; omega) (by omega)) rfl rfl rfl ?_
                  rintro v5 h5 ⟨ho5, hx5, hl5⟩)
       all_goals (refine WL.step (ok_assign rfl) rfl rfl rfl ?_)
       all_goals (refine WL.nil ?_)
       skip))
  all_goals (first
    | (fail_if_success (refine Br.mk (i := 8) ?_))
    | (refine Br.mk (i := 8) ?_
       all_goals (refine WC.skip ?_)
       skip))
  all_goals (first | (refine Br.keep ?_) | (repeat' (with_reducible first | refine thenP_n ?_ | refine blockP_n ?_)))
  all_goals (first | (refine Br.keep ?_) | (refine WC.region ?_))
  all_goals (first | (refine Br.keep ?_) | (refine WL.step (ok_move rfl) rfl rfl rfl ?_))
  all_goals (first | (refine Br.keep ?_) | (first | (refine WL.step (ok_addI rfl rfl (by omega)) rfl rfl rfl ?_) | (refine WL.step (ok_add rfl rfl) rfl rfl rfl ?_)))
  all_goals (first | (refine Br.keep ?_) | (refine WL.step (ok_assign rfl) rfl rfl rfl ?_))
  all_goals (first | (refine Br.keep ?_) | (refine WL.nil ?_))
  all_goals (first | (refine Br.keep ?_) | (repeat' (with_reducible first | refine thenP_n ?_ | refine blockP_n ?_)))
  all_goals (first
               | (refine Br.keep ?_)
               | (exact ⟨(j + 1, _), ⟨rfl, rfl, rfl, rfl, trivial⟩, (by first
                   | exact ⟨by simp; omega, by show NewL h2 _ (goneL (l.take (j + 1)) _) _; unfold goneL; rw [hf, if_pos (by simpa using ‹¬ y ∈ settleL most l (ops.take k)›)]; exact NewL.mk' (hx3.trans hx4) hf3 (by simpa [goneL] using ho5) hx5 hl5⟩
                   | exact ⟨by simp; omega, by show NewL h2 _ (goneL (l.take (j + 1)) _) _; unfold goneL; rw [hf, if_neg (by simpa using ‹y ∈ settleL most l (ops.take k)›), List.append_nil]; exact ⟨ho3, hx3, hf3⟩⟩), (by simp; omega)⟩))
  all_goals (try (refine Br.mk (i := 1002) ?_))
  all_goals (repeat' (with_reducible first | refine thenP_n ?_ | refine blockP_n ?_))
  all_goals (refine WC.sub [(5, _)] ⟨rfl, trivial⟩ ?_)
  all_goals (refine WC.seq ?_)
  all_goals (refine WC.region ?_)
  all_goals (refine WL.step (ok_move rfl) rfl rfl rfl ?_)
  all_goals (refine WL.step (ok_assign rfl) rfl rfl rfl ?_)
  all_goals (refine WL.nil ?_)
  all_goals (repeat' (with_reducible first | refine thenP_n ?_ | refine blockP_n ?_))
  all_goals (refine WC.ret ?_)
  all_goals (repeat' (with_reducible first | refine thenP_r ?_ | refine blockP_r ?_))
  all_goals (refine retP_1 _ ⟨rfl, trivial⟩ ?_)
  all_goals (rw [show ops.take k = ops from List.take_of_length_le (by omega)] at r2 hk2 ho3
             rw [show l.take j = l from List.take_of_length_le (by omega)] at ho3
             exact ⟨⟨_, r2.ext hx3 (fun _ _ => nos), hx2.trans (hx3.mono fun _ _ e => e.elim), hk2⟩, ho3, fun q hq => Nat.le_trans hx2.size (hf3 q hq)⟩)
set_option maxRecDepth 100000 in
theorem spec18 {h : Heap} {b : Nat} {v w : Value} {most : Int} {l : List Int} (r : Lr 61 h b v most l) (L : List En) (hL : Ens h w L) (hm : l.length ≤ 5000) (h20 : L.length ≤ 20) (h10 : ∀ e ∈ L, e.ops.length ≤ 10) :
    CallsH Try.prog 33 ⟨[.pointer (some ⟨b, 0, none⟩), w]⟩ h fun u h' => NewL h u (laterL l L) h' := by
  obtain ⟨B, d, rfl, _⟩ := id hL.1
  obtain ⟨A, c, rfl, _⟩ := r.own.slice
  have hcells := r.cells
  refine calls [(0, _), (1, _)] Try.func33 rfl Try.ntmps33 rfl ⟨rfl, rfl, trivial⟩ ?_
  all_goals (refine WC.seq ?_)
  all_goals (refine WC.region ?_)
  all_goals (refine WL.step (ok_assign rfl) rfl rfl rfl ?_)
  all_goals (refine WL.nil ?_)
  all_goals (repeat' (with_reducible first | refine thenP_n ?_ | refine blockP_n ?_))
  all_goals (refine WC.seq ?_)
  all_goals (refine WC.region ?_)
  all_goals (refine WL.step (ok_move rfl) rfl rfl rfl ?_)
  all_goals (refine WL.step (ok_nilCheck rfl) rfl rfl rfl ?_)
  all_goals (refine WL.step (ok_fieldAddr rfl Try.underlying61 rfl (fun w => Try.sizeOf22 w)) rfl rfl rfl ?_)
  all_goals (refine WL.step (ok_load (fun w => Try.isAgg22 w) rfl (by first | assumption | exact cell_blk (by assumption) rfl)) rfl rfl rfl ?_)
  all_goals (refine WL.stepR (ok_append (sz := 1) (bytes := 8) rfl Try.underlying22 (show Try.prog.info? 3 = some Try.t3 by kernel_rfl) rfl rfl rfl rfl (by decide) rfl rfl (Own.nil _ _ _) r.own.rd (one_ints l) (by simp only [maxLen]; omega) (by omega)) rfl rfl rfl ?_
             rintro v1 h1 ⟨ho1, hx1, hl1⟩)
  all_goals (have hX1 : Ext No h h1 := hx1.mono fun k _ hk => by simp [Value.ownBlock] at hk
             have hf1 := fresh_of (B := h.size) hl1 (by simp [Value.ownBlock]) (Nat.le_refl _))
  all_goals (refine WL.step (ok_assign rfl) rfl rfl rfl ?_)
  all_goals (refine WL.nil ?_)
  all_goals (repeat' (with_reducible first | refine thenP_n ?_ | refine blockP_n ?_))
  all_goals (refine WC.sub [(1, _), (5, _)] ⟨rfl, rfl, trivial⟩ ?_)
  all_goals (refine WC.seq ?_)
  all_goals (refine WC.seq ?_)
  all_goals (refine WC.region ?_)
  all_goals (refine WL.step (ok_assign rfl) rfl rfl rfl ?_)
  all_goals (refine WL.nil ?_)
  all_goals (repeat' (with_reducible first | refine thenP_n ?_ | refine blockP_n ?_))
  all_goals (refine WC.block ?_)
  -- loop 0: slots that turn [5, 6], that stay [1]
  all_goals (refine WC.loopG (X := Nat × Value) (fun x => ([(6, In (x.1 : Int)), (5, x.2)] : Fr)) [(1, _)] (fun x h' => x.1 ≤ L.length ∧ NewL h x.2 (laterL l (L.take x.1)) h') (fun x => L.length - x.1) ((0, v1)) ⟨rfl, rfl, rfl, trivial⟩ (by exact ⟨Nat.zero_le _, by simpa [laterL] using ho1, hX1, hf1⟩) ?_)
  all_goals (rintro ⟨k, v2⟩ h2 ⟨hk, ho2, hx2, hf2⟩
             simp only at hk ho2 hf2
             have hle := later_len (L.take k) l (fun e he => h10 e (List.mem_of_mem_take he))
             rw [List.length_take] at hle)
  all_goals (refine WC.sub [(5, _), (6, _), (1, _)] ⟨rfl, rfl, rfl, trivial⟩ ?_)
  all_goals (dsimp only)
  all_goals (refine WC.seq ?_)
  all_goals (refine WC.seq ?_)
  all_goals (refine WC.region ?_)
  all_goals (refine WL.step (ok_move rfl) rfl rfl rfl ?_)
  all_goals (refine WL.step (ok_move rfl) rfl rfl rfl ?_)
  all_goals (refine WL.step (ok_lenL rfl Try.underlying27 rfl) rfl rfl rfl ?_)
  all_goals (first | (refine WL.step (OkP.bool_t (by omega) (ok_lss rfl rfl)) rfl rfl rfl ?_) | (refine WL.step (OkP.bool_f (by omega) (ok_lss rfl rfl)) rfl rfl rfl ?_) | (refine WL.step (ok_lss rfl rfl) rfl rfl rfl ?_))
  all_goals (refine WL.nil ?_)
  all_goals (repeat' (with_reducible first | refine thenP_n ?_ | refine blockP_n ?_))
  all_goals (first | refine WC.condB_t 1 rfl ?_ | refine WC.condB_f 2 rfl ?_ | (refine WC.condB 1 2 rfl (fun hb => ?_) (fun hb => ?_) <;> (first | replace hb := of_decide_eq_true hb | replace hb := of_decide_eq_false hb | replace hb := of_decide_eq_false (nt hb) | replace hb := of_decide_eq_true (nf hb) | skip)))
  all_goals (first
    | (fail_if_success (refine Br.mk (i := 1) ?_))
    | (refine Br.mk (i := 1) ?_
       all_goals (refine WC.skip ?_)
       skip))
  all_goals (first
    | (fail_if_success (refine Br.mk (i := 2) ?_))
    | (refine Br.mk (i := 2) ?_
       all_goals (refine WC.exit ?_)
       all_goals (repeat' (with_reducible first | refine thenP_x ?_ | refine blockP_miss rfl ?_ | refine blockP_hit ?_ | refine blockP_n ?_ | refine thenP_n ?_))
       all_goals (refine Br.out (i := 1000) ?_)
       skip))
  all_goals (first | (refine Br.keep ?_) | (repeat' (with_reducible first | refine thenP_n ?_ | refine blockP_n ?_)))
  all_goals (first | (refine Br.keep ?_) | (refine WC.sub [(1, _), (5, _), (6, _)] ⟨rfl, rfl, rfl, trivial⟩ ?_))
  all_goals (first | (refine Br.keep ?_) | (refine WC.seq ?_))
  all_goals (first | (refine Br.keep ?_) | (refine WC.block ?_))
  all_goals (first | (refine Br.keep ?_) | (refine WC.region ?_))
  all_goals (first
               | (refine Br.keep ?_)
               | (obtain ⟨bL, oL, hA, hbL, hat⟩ := Rd.at_ (hL.1.ext0 hx2) (by omega)
                  obtain ⟨y, hy⟩ : ∃ y, L[k]? = some y := ⟨_, List.getElem?_eq_getElem (by omega)⟩
                  have hc : At h2 bL (oL + k * 8) y.cells := At.elem En.len hat hy
                  have hy10 := h10 y (List.mem_of_getElem? hy)
                  have hyo := (hL.2.2 y (List.mem_of_getElem? hy)).ops.ext0 hx2))
  all_goals (first | (refine Br.keep ?_) | (refine WL.step (ok_move rfl) rfl rfl rfl ?_))
  all_goals (first | (refine Br.keep ?_) | (refine WL.step (ok_move rfl) rfl rfl rfl ?_))
  all_goals (first | (refine Br.keep ?_) | (refine WL.step (ok_move rfl) rfl rfl rfl ?_))
  all_goals (first | (refine Br.keep ?_) | (refine WL.step (ok_idxAddrA Try.underlying27 (fun w => Try.sizeOf51 w) rfl rfl rfl (by omega) (by first | rfl | assumption)) rfl rfl rfl ?_))
  all_goals (first | (refine Br.keep ?_) | (refine WL.step (ok_fieldAddr rfl Try.underlying51 rfl (fun w => Try.sizeOf40 w)) rfl rfl rfl ?_))
  all_goals (first | (refine Br.keep ?_) | (refine WL.step (ok_load (fun w => Try.isAgg40 w) rfl (by first | exact hc.get 6 rfl rfl | assumption | exact cell_blk (by assumption) rfl)) rfl rfl rfl ?_))
  all_goals (first
               | (refine Br.keep ?_)
               | (refine WL.call (vs := [_, _]) rfl (fun a w => Try.call32 a w) rfl (fold18 _ y.ops ho2.rd hyo (by omega)) rfl rfl rfl ?_
                  rintro v5 h5 ⟨ho5, hx5, hf5⟩))
  all_goals (first | (refine Br.keep ?_) | (refine WL.step (ok_assign rfl) rfl rfl rfl ?_))
  all_goals (first | (refine Br.keep ?_) | (refine WL.nil ?_))
  all_goals (first | (refine Br.keep ?_) | (repeat' (with_reducible first | refine thenP_n ?_ | refine blockP_n ?_)))
  all_goals (first | (refine Br.keep ?_) | (refine WC.sub [(1, _), (5, _), (6, _)] ⟨rfl, rfl, rfl, trivial⟩ ?_))
  all_goals (first | (refine Br.keep ?_) | (refine WC.region ?_))
  all_goals (first | (refine Br.keep ?_) | (refine WL.step (ok_move rfl) rfl rfl rfl ?_))
  all_goals (first | (refine Br.keep ?_) | (first | (refine WL.step (ok_addI rfl rfl (by omega)) rfl rfl rfl ?_) | (refine WL.step (ok_add rfl rfl) rfl rfl rfl ?_)))
  all_goals (first | (refine Br.keep ?_) | (refine WL.step (ok_assign rfl) rfl rfl rfl ?_))
  all_goals (first | (refine Br.keep ?_) | (refine WL.nil ?_))
  all_goals (first | (refine Br.keep ?_) | (repeat' (with_reducible first | refine thenP_n ?_ | refine blockP_n ?_)))
  all_goals (first | (refine Br.keep ?_) | (exact ⟨(k + 1, _), ⟨rfl, rfl, rfl, trivial⟩, (by exact ⟨by simp; omega, by show Own _ _ _ _ (laterL l (L.take (k + 1))).length _; rw [laterL, foldl_take _ _ _ hy]; exact ho5, hx2.trans hx5, fun q hq => Nat.le_trans hx2.size (hf5 q hq)⟩), (by simp; omega)⟩))
  all_goals (try (refine Br.mk (i := 1000) ?_))
  all_goals (repeat' (with_reducible first | refine thenP_n ?_ | refine blockP_n ?_))
  all_goals (refine WC.sub [(5, _)] ⟨rfl, trivial⟩ ?_)
  all_goals (refine WC.seq ?_)
  all_goals (refine WC.region ?_)
  all_goals (refine WL.step (ok_move rfl) rfl rfl rfl ?_)
  all_goals (refine WL.step (ok_assign rfl) rfl rfl rfl ?_)
  all_goals (refine WL.nil ?_)
  all_goals (repeat' (with_reducible first | refine thenP_n ?_ | refine blockP_n ?_))
  all_goals (refine WC.ret ?_)
  all_goals (repeat' (with_reducible first | refine thenP_r ?_ | refine blockP_r ?_))
  all_goals (refine retP_1 _ ⟨rfl, trivial⟩ ?_)
  all_goals (rw [show laterL l L = laterL l (L.take k) by rw [List.take_of_length_le (by omega)]]
             exact ⟨ho2, hx2, hf2⟩)

/-! ### awake -/
theorem two_ops {h : Heap} {b : Nat} {a c e f : Int} (hb : h[b]? = some (.cells ⟨[In a, In c, In e, In f]⟩ 78 (0, 0))) : Ops h (.slice (some ⟨b, 0, none⟩) 2 2) [(a, c, ()), (e, f, ())] := ⟨rd_blk hb rfl, by simp [reachBytes]⟩
theorem one_op {h : Heap} {b : Nat} {a c : Int} (hb : h[b]? = some (.cells ⟨[In a, In c]⟩ 78 (0, 0))) : Ops h (.slice (some ⟨b, 0, none⟩) 1 1) [(a, c, ())] := ⟨rd_blk hb rfl, by simp [reachBytes]⟩
theorem ext_all {h0 h h' : Heap} {b : Nat} {v : Value} (a : Ext No h0 h) (c : Ext (Ft b v) h h') (hb : h0.size ≤ b) (hv : ∀ k, v.ownBlock = some k → h0.size ≤ k) : Ext No h0 h' :=
  a.trans' c fun k hk e => by
    rcases e with e | e
    · omega
    · have := hv k e; omega
set_option maxRecDepth 100000 in
theorem awake18 {h : Heap} : CallsH Try.prog 22 ⟨[]⟩ h fun u h' => u = .bool true ∧ Ext No h h' := by
  refine calls [] Try.func22 rfl Try.ntmps22 rfl trivial ?_
  all_goals (refine WC.seq ?_)
  all_goals (refine WC.region ?_)
  all_goals (refine WL.step (ok_assign rfl) rfl rfl rfl ?_)
  all_goals (refine WL.nil ?_)
  all_goals (repeat' (with_reducible first | refine thenP_n ?_ | refine blockP_n ?_))
  all_goals (refine WC.seq ?_)
  all_goals (refine WC.region ?_)
  all_goals (refine WL.call (vs := [_]) rfl (fun a w => Try.call23 a w) rfl (new_cc 2 (by decide) (by decide)) rfl rfl rfl ?_
             rintro _ h1 ⟨b0, b, rfl, r1, hg0, hgb, hx1⟩)
  all_goals (refine WL.step (ok_move rfl) rfl rfl rfl ?_)
  all_goals (refine WL.step (ok_extract rfl rfl) rfl rfl rfl ?_)
  all_goals (refine WL.step (ok_extract rfl rfl) rfl rfl rfl ?_)
  all_goals (refine WL.step (ok_assign rfl) rfl rfl rfl ?_)
  all_goals (refine WL.step (ok_assign rfl) rfl rfl rfl ?_)
  all_goals (refine WL.nil ?_)
  all_goals (repeat' (with_reducible first | refine thenP_n ?_ | refine blockP_n ?_))
  all_goals (refine WC.sub [(1, _), (2, _)] ⟨rfl, rfl, trivial⟩ ?_)
  all_goals (refine WC.seq ?_)
  all_goals (refine WC.seq ?_)
  all_goals (refine WC.region ?_)
  all_goals (refine WL.step (ok_move rfl) rfl rfl rfl ?_)
  all_goals (refine WL.step (ok_eqlPn Try.underlying42 rfl rfl) rfl rfl rfl ?_)
  all_goals (refine WL.step (ok_move rfl) rfl rfl rfl ?_)
  all_goals (try ((fail_if_success (refine WL.part 10 (b := true) rfl (fun _ => ?_) (fun _ => ?_))); (fail_if_success (refine WL.part 10 (b := false) rfl (fun _ => ?_) (fun _ => ?_))); (refine WL.part 10 rfl (fun hb => ?_) (fun hb => ?_) <;> (first | replace hb := of_decide_eq_true hb | replace hb := of_decide_eq_false hb | replace hb := of_decide_eq_false (nt hb) | replace hb := of_decide_eq_true (nf hb) | skip))))
  all_goals (first | (refine WL.pass rfl rfl rfl ?_) | (refine WL.step (ok_move rfl) rfl rfl rfl ?_))
  all_goals (first | (refine WL.pass rfl rfl rfl ?_) | (first | (refine WL.step (OkP.nbool_t (by omega) (ok_neq rfl rfl)) rfl rfl rfl ?_) | (refine WL.step (OkP.nbool_f (by omega) (ok_neq rfl rfl)) rfl rfl rfl ?_) | (refine WL.step (ok_neq rfl rfl) rfl rfl rfl ?_)))
  all_goals (first | (refine WL.step (ok_pick_t rfl rfl) rfl rfl rfl ?_) | (refine WL.step (ok_pick_f rfl rfl) rfl rfl rfl ?_))
  all_goals (refine WL.step (ok_move rfl) rfl rfl rfl ?_)
  all_goals (try ((fail_if_success (refine WL.part 14 (b := true) rfl (fun _ => ?_) (fun _ => ?_))); (fail_if_success (refine WL.part 14 (b := false) rfl (fun _ => ?_) (fun _ => ?_))); (refine WL.part 14 rfl (fun hb => ?_) (fun hb => ?_) <;> (first | replace hb := of_decide_eq_true hb | replace hb := of_decide_eq_false hb | replace hb := of_decide_eq_false (nt hb) | replace hb := of_decide_eq_true (nf hb) | skip))))
  all_goals (first | (refine WL.pass rfl rfl rfl ?_) | (refine WL.step (ok_move rfl) rfl rfl rfl ?_))
  all_goals (first | (refine WL.pass rfl rfl rfl ?_) | (refine WL.step (ok_buildF (vs := [_, _]) (cs := [_, _]) (fun | [a0, a1] => [a0, a1] | _ => []) rfl rfl (by kernel_rfl)) rfl rfl rfl ?_))
  all_goals (first | (refine WL.pass rfl rfl rfl ?_) | (refine WL.step (ok_buildF (vs := [_, _]) (cs := [_, _]) (fun | [a0, a1] => [a0, a1] | _ => []) rfl rfl (by kernel_rfl)) rfl rfl rfl ?_))
  all_goals (first
               | (refine WL.pass rfl rfl rfl ?_)
               | (refine WL.stepR (okE_buildSlice (vs := [_, _]) (cs := [_, _, _, _]) (fun | [.agg ⟨[a0, a1]⟩, .agg ⟨[a2, a3]⟩] => [a0, a1, a2, a3] | _ => []) Try.underlying40 rfl rfl (by kernel_rfl)) rfl rfl rfl ?_
                  rintro _ h2 ⟨b2, rfl, hg2, hb2, hx2⟩))
  all_goals (first
               | (refine WL.pass rfl rfl rfl ?_)
               | (refine WL.call (vs := [_, _]) rfl (fun a w => Try.call24 a w) rfl (settle_cc (r1.ext0 hx2) [(1, 1, ()), (1, 2, ())] (two_ops hb2) (fun q _ hq e => by have := (r1.lru.lt q e); simp [Value.ownBlock] at hq; omega) (by decide) (by decide) (by decide) (by decide)) rfl rfl rfl ?_
                  rintro v3 h3 ⟨⟨v3', r3, hx3, hk3⟩, ho3, hf3⟩))
  all_goals (obtain ⟨A3, c3, rfl, _⟩ := ho3.slice
             have hE3 := ext_all (hx1.trans hx2) hx3 hgb (by simp [Value.ownBlock]))
  all_goals (first | (refine WL.pass rfl rfl rfl ?_) | (refine WL.step (ok_lenL rfl Try.underlying22 rfl) rfl rfl rfl ?_))
  all_goals (first | (refine WL.pass rfl rfl rfl ?_) | (first | (refine WL.step (OkP.nbool_t (by omega) (ok_neq rfl rfl)) rfl rfl rfl ?_) | (refine WL.step (OkP.nbool_f (by omega) (ok_neq rfl rfl)) rfl rfl rfl ?_) | (refine WL.step (ok_neq rfl rfl) rfl rfl rfl ?_)))
  all_goals (first | (refine WL.step (ok_pick_t rfl rfl) rfl rfl rfl ?_) | (refine WL.step (ok_pick_f rfl rfl) rfl rfl rfl ?_))
  all_goals (refine WL.nil ?_)
  all_goals (repeat' (with_reducible first | refine thenP_n ?_ | refine blockP_n ?_))
  all_goals (refine WC.sub [(1, _), (22, _)] ⟨rfl, rfl, trivial⟩ ?_)
  all_goals (first | refine WC.condB_t 1 rfl ?_ | refine WC.condB_f 2 rfl ?_ | (refine WC.condB 1 2 rfl (fun hb => ?_) (fun hb => ?_) <;> (first | replace hb := of_decide_eq_true hb | replace hb := of_decide_eq_false hb | replace hb := of_decide_eq_false (nt hb) | replace hb := of_decide_eq_true (nf hb) | skip)))
  all_goals (first
    | (fail_if_success (refine Br.mk (i := 1) ?_))
    | (refine Br.mk (i := 1) ?_
       all_goals (refine WC.seq ?_)
       all_goals (refine WC.region ?_)
       all_goals (refine WL.step (ok_assign rfl) rfl rfl rfl ?_)
       all_goals (refine WL.nil ?_)
       all_goals (repeat' (with_reducible first | refine thenP_n ?_ | refine blockP_n ?_))
       all_goals (refine WC.ret ?_)
       all_goals (repeat' (with_reducible first | refine thenP_r ?_ | refine blockP_r ?_))
       all_goals (refine retP_1 _ ⟨rfl, trivial⟩ ?_)
       all_goals (exact ⟨rfl, (((((((hE5.trans hx6).trans hx7).trans hx8).trans hx9).trans hx10).trans hx11).trans hx12).trans hx13⟩)
       skip))
  all_goals (first
    | (fail_if_success (refine Br.mk (i := 2) ?_))
    | (refine Br.mk (i := 2) ?_
       all_goals (refine WC.skip ?_)
       skip))
  all_goals (repeat' (with_reducible first | refine thenP_n ?_ | refine blockP_n ?_))
  all_goals (refine WC.seq ?_)
  all_goals (refine WC.region ?_)
  all_goals (refine WL.step (ok_buildF (vs := [_, _]) (cs := [_, _]) (fun | [a0, a1] => [a0, a1] | _ => []) rfl rfl (by kernel_rfl)) rfl rfl rfl ?_)
  all_goals (refine WL.step (ok_buildF (vs := [_, _]) (cs := [_, _]) (fun | [a0, a1] => [a0, a1] | _ => []) rfl rfl (by kernel_rfl)) rfl rfl rfl ?_)
  all_goals (refine WL.stepR (okE_buildSlice (vs := [_, _]) (cs := [_, _, _, _]) (fun | [.agg ⟨[a0, a1]⟩, .agg ⟨[a2, a3]⟩] => [a0, a1, a2, a3] | _ => []) Try.underlying40 rfl rfl (by kernel_rfl)) rfl rfl rfl ?_
             rintro _ h4 ⟨b4, rfl, hg4, hb4, hx4⟩)
  all_goals (refine WL.step (ok_buildF (vs := [_]) (cs := [_, _, _, _, _, _, _, _]) (fun | [a6] => [(.int .i64 0), (.bool false), (St []), (St []), (.slice none 0 0), (.slice none 0 0), a6, (.slice none 0 0)] | _ => []) rfl rfl (by kernel_rfl)) rfl rfl rfl ?_)
  all_goals (refine WL.stepR (okE_buildSlice (vs := [_]) (cs := [_, _, _, _, _, _, _, _]) (fun | [.agg ⟨[a0, a1, a2, a3, a4, a5, a6, a7]⟩] => [a0, a1, a2, a3, a4, a5, a6, a7] | _ => []) Try.underlying27 rfl rfl (by kernel_rfl)) rfl rfl rfl ?_
             rintro _ h5 ⟨b5, rfl, hg5, hb5, hx5⟩)
  all_goals (have r5 := (r3.ext0 hx4).ext0 hx5
             have hb45 := hx5.obj hb4 nos
             have hE5 := (hE3.trans hx4).trans hx5
             have hEn : Ens h5 (.slice (some ⟨b5, 0, none⟩) 1 1) [⟨0, false, [], [], .slice none 0 0, [], .slice none 0 0, [], _, [(3, 1, ()), (2, 2, ())], .slice none 0 0, []⟩] := ⟨rd_blk hb5 rfl, by simp [maxLen], by intro e he; simp only [List.mem_singleton] at he; subst he; exact ⟨⟨Rd.nil _ _, by simp [maxLen]⟩, ⟨Rd.nil _ _, by simp [maxLen]⟩, two_ops hb45, ⟨Rd.nil _ _, by simp [reachBytes]⟩⟩⟩)
  all_goals (refine WL.step (ok_assign rfl) rfl rfl rfl ?_)
  all_goals (refine WL.nil ?_)
  all_goals (repeat' (with_reducible first | refine thenP_n ?_ | refine blockP_n ?_))
  all_goals (refine WC.sub [(1, _), (3, _)] ⟨rfl, rfl, trivial⟩ ?_)
  all_goals (refine WC.seq ?_)
  all_goals (refine WC.region ?_)
  all_goals (refine WL.step (ok_move rfl) rfl rfl rfl ?_)
  all_goals (refine WL.step (ok_move rfl) rfl rfl rfl ?_)
  all_goals (refine WL.call (vs := [_, _]) rfl (fun a w => Try.call25 a w) rfl (spec_cc r5 _ hEn (by decide) (by simp) (by simp)) rfl rfl rfl ?_
             rintro v6 h6 ⟨ho6, hx6, hf6⟩)
  all_goals (obtain ⟨A6, c6, rfl, _⟩ := ho6.slice)
  all_goals (refine WL.stepR (okE_buildSlice (vs := [_]) (cs := [_]) (fun | [a0] => [a0] | _ => []) Try.underlying22 rfl rfl (by kernel_rfl)) rfl rfl rfl ?_
             rintro _ h7 ⟨b7, rfl, hg7, hb7, hx7⟩)
  all_goals (refine WL.call (vs := [_, _]) rfl (fun a w => Try.call26 a w) rfl ((equal_int [1] [1] (ho6.rd.ext0 hx7) (rd_blk hb7 rfl) (by decide)).as (congrArg Value.bool (decide_eq_true rfl))) rfl rfl rfl ?_
             rintro _ hz ⟨rfl, _⟩
             subst hz)
  all_goals (refine WL.step (ok_move rfl) rfl rfl rfl ?_)
  all_goals (try ((fail_if_success (refine WL.part 33 (b := true) rfl (fun _ => ?_) (fun _ => ?_))); (fail_if_success (refine WL.part 33 (b := false) rfl (fun _ => ?_) (fun _ => ?_))); (refine WL.part 33 rfl (fun hb => ?_) (fun hb => ?_) <;> (first | replace hb := of_decide_eq_true hb | replace hb := of_decide_eq_false hb | replace hb := of_decide_eq_false (nt hb) | replace hb := of_decide_eq_true (nf hb) | skip))))
  all_goals (first | (refine WL.pass rfl rfl rfl ?_) | (refine WL.step (ok_move rfl) rfl rfl rfl ?_))
  all_goals (first
               | (refine WL.pass rfl rfl rfl ?_)
               | (refine WL.call (vs := [_]) rfl (fun a w => Try.call27 a w) rfl (list_cc ((r5.ext0 hx6).ext0 hx7) (by decide)) rfl rfl rfl ?_
                  rintro v8 h8 ⟨ho8, hx8, hf8⟩))
  all_goals (obtain ⟨A8, c8, rfl, _⟩ := ho8.slice)
  all_goals (first
               | (refine WL.pass rfl rfl rfl ?_)
               | (refine WL.stepR (okE_buildSlice (vs := [_, _]) (cs := [_, _]) (fun | [a0, a1] => [a0, a1] | _ => []) Try.underlying22 rfl rfl (by kernel_rfl)) rfl rfl rfl ?_
                  rintro _ h9 ⟨b9, rfl, hg9, hb9, hx9⟩))
  all_goals (first
               | (refine WL.pass rfl rfl rfl ?_)
               | (refine WL.call (vs := [_, _]) rfl (fun a w => Try.call26 a w) rfl ((equal_int [1, 2] [1, 2] (ho8.rd.ext0 hx9) (rd_blk hb9 rfl) (by decide)).as (congrArg Value.bool (decide_eq_true rfl))) rfl rfl rfl ?_
                  rintro _ hz ⟨rfl, _⟩
                  subst hz))
  all_goals (first | (refine WL.step (ok_pick_t rfl rfl) rfl rfl rfl ?_) | (refine WL.step (ok_pick_f rfl rfl) rfl rfl rfl ?_))
  all_goals (refine WL.step (ok_move rfl) rfl rfl rfl ?_)
  all_goals (try ((fail_if_success (refine WL.part 39 (b := true) rfl (fun _ => ?_) (fun _ => ?_))); (fail_if_success (refine WL.part 39 (b := false) rfl (fun _ => ?_) (fun _ => ?_))); (refine WL.part 39 rfl (fun hb => ?_) (fun hb => ?_) <;> (first | replace hb := of_decide_eq_true hb | replace hb := of_decide_eq_false hb | replace hb := of_decide_eq_false (nt hb) | replace hb := of_decide_eq_true (nf hb) | skip))))
  all_goals (first
               | (refine WL.pass rfl rfl rfl ?_)
               | (refine WL.stepR (okE_buildSlice (vs := [_, _]) (cs := [_, _]) (fun | [a0, a1] => [a0, a1] | _ => []) Try.underlying22 rfl rfl (by kernel_rfl)) rfl rfl rfl ?_
                  rintro _ h10 ⟨b10, rfl, hg10, hb10, hx10⟩))
  all_goals (first | (refine WL.pass rfl rfl rfl ?_) | (refine WL.step (ok_buildF (vs := [_, _]) (cs := [_, _]) (fun | [a0, a1] => [a0, a1] | _ => []) rfl rfl (by kernel_rfl)) rfl rfl rfl ?_))
  all_goals (first
               | (refine WL.pass rfl rfl rfl ?_)
               | (refine WL.stepR (okE_buildSlice (vs := [_]) (cs := [_, _]) (fun | [.agg ⟨[a0, a1]⟩] => [a0, a1] | _ => []) Try.underlying40 rfl rfl (by kernel_rfl)) rfl rfl rfl ?_
                  rintro _ h11 ⟨b11, rfl, hg11, hb11, hx11⟩))
  all_goals (first
               | (refine WL.pass rfl rfl rfl ?_)
               | (refine WL.call (vs := [_, _]) rfl (fun a w => Try.call31 a w) rfl (fold_any [1, 2] [(3, 1, ())] ((rd_blk hb10 rfl).ext0 hx11) (one_op hb11) (by decide)) rfl rfl rfl ?_
                  rintro v12 h12 ⟨ho12, hx12, hf12⟩))
  all_goals (obtain ⟨A12, c12, rfl, _⟩ := ho12.slice)
  all_goals (first
               | (refine WL.pass rfl rfl rfl ?_)
               | (refine WL.stepR (okE_buildSlice (vs := [_, _]) (cs := [_, _]) (fun | [a0, a1] => [a0, a1] | _ => []) Try.underlying22 rfl rfl (by kernel_rfl)) rfl rfl rfl ?_
                  rintro _ h13 ⟨b13, rfl, hg13, hb13, hx13⟩))
  all_goals (first
               | (refine WL.pass rfl rfl rfl ?_)
               | (refine WL.call (vs := [_, _]) rfl (fun a w => Try.call26 a w) rfl ((equal_int [2, 1] [2, 1] (ho12.rd.ext0 hx13) (rd_blk hb13 rfl) (by decide)).as (congrArg Value.bool (decide_eq_true rfl))) rfl rfl rfl ?_
                  rintro _ hz ⟨rfl, _⟩
                  subst hz))
  all_goals (first | (refine WL.step (ok_pick_t rfl rfl) rfl rfl rfl ?_) | (refine WL.step (ok_pick_f rfl rfl) rfl rfl rfl ?_))
  all_goals (refine WL.step (ok_assign rfl) rfl rfl rfl ?_)
  all_goals (refine WL.nil ?_)
  all_goals (repeat' (with_reducible first | refine thenP_n ?_ | refine blockP_n ?_))
  all_goals (refine WC.sub [(0, _)] ⟨rfl, trivial⟩ ?_)
  all_goals (refine WC.ret ?_)
  all_goals (repeat' (with_reducible first | refine thenP_r ?_ | refine blockP_r ?_))
  all_goals (refine retP_1 _ ⟨rfl, trivial⟩ ?_)
  all_goals (exact ⟨rfl, (((((((hE5.trans hx6).trans hx7).trans hx8).trans hx9).trans hx10).trans hx11).trans hx12).trans hx13⟩)
end Go.Proofs.Ytkejihockkhnoaa

