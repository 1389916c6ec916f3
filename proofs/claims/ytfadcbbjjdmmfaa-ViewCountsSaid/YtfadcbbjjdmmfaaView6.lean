/-
  VIEW: whether two views are the same.
-/
import Derived.Test.YtfadcbbjjdmmfaaView5
namespace Go.Proofs.Ytfadcbbjjdmmfaa
open Go Go.RK

set_option maxRecDepth 100000 in
theorem ints46 {h : Heap} {v w : Value} (l m : List Int) (hr : Rd h v 1 l.length (ints l)) (hs : Rd h w 1 m.length (ints m)) (hl : l.length ≤ 1000000) :
    CallsH Try.prog 62 ⟨[v, w]⟩ h fun u h' => u = .bool (decide (l = m)) ∧ h' = h := by
  obtain ⟨A, c, rfl, _⟩ := id hr
  obtain ⟨B, d, rfl, _⟩ := id hs
  by_cases hlm : l.length = m.length
  ·
    refine calls [(0, _), (1, _)] Try.func62 rfl Try.ntmps62 rfl ⟨rfl, rfl, trivial⟩ ?_
    all_goals (refine WC.seq ?_)
    all_goals (refine WC.region ?_)
    all_goals (refine WL.step (ok_assign rfl) rfl rfl rfl ?_)
    all_goals (refine WL.nil ?_)
    all_goals (repeat' (with_reducible first | refine thenP_n ?_ | refine blockP_n ?_))
    all_goals (refine WC.seq ?_)
    all_goals (refine WC.seq ?_)
    all_goals (refine WC.region ?_)
    all_goals (refine WL.step (ok_move rfl) rfl rfl rfl ?_)
    all_goals (refine WL.step (ok_lenL rfl Try.underlying36 rfl) rfl rfl rfl ?_)
    all_goals (refine WL.step (ok_move rfl) rfl rfl rfl ?_)
    all_goals (refine WL.step (ok_lenL rfl Try.underlying36 rfl) rfl rfl rfl ?_)
    all_goals (first | (refine WL.step (OkP.nbool_t (by omega) (ok_neq rfl rfl)) rfl rfl rfl ?_) | (refine WL.step (OkP.nbool_f (by omega) (ok_neq rfl rfl)) rfl rfl rfl ?_) | (refine WL.step (ok_neq rfl rfl) rfl rfl rfl ?_))
    all_goals (refine WL.nil ?_)
    all_goals (repeat' (with_reducible first | refine thenP_n ?_ | refine blockP_n ?_))
    all_goals (refine WC.sub [(0, _), (1, _), (10, _)] ⟨rfl, rfl, rfl, trivial⟩ ?_)
    all_goals (first | refine WC.condB_t 1 rfl ?_ | refine WC.condB_f 2 rfl ?_ | (refine WC.condB 1 2 rfl (fun hb => ?_) (fun hb => ?_) <;> (first | replace hb := of_decide_eq_true hb | replace hb := of_decide_eq_false hb | replace hb := of_decide_eq_false (nt hb) | replace hb := of_decide_eq_true (nf hb) | skip)))
    all_goals (first
      | (fail_if_success (refine Br.mk (i := 1) ?_))
      | (refine Br.mk (i := 1) ?_
         all_goals (refine WC.seq ?_)
         all_goals (refine WC.region ?_)
         all_goals (refine WL.step (ok_assign rfl) rfl rfl rfl ?_)
         all_goals (refine WL.nil ?_)
         all_goals (repeat' (with_reducible first | refine thenP_n ?_ | refine blockP_n ?_))
         all_goals (refine WC.ret ?_)
         all_goals (repeat' (with_reducible first | refine thenP_r ?_ | refine blockP_r ?_))
         all_goals (refine retP_1 _ ⟨rfl, trivial⟩ ?_)
         all_goals (first
                     | exact ⟨by rw [decide_eq_true (same_ofX hn (by omega) (by omega))], rfl⟩
                     | exact ⟨by rw [decide_eq_false (ne_of_atX hx hy hxy)], rfl⟩)
         skip))
    all_goals (first
      | (fail_if_success (refine Br.mk (i := 2) ?_))
      | (refine Br.mk (i := 2) ?_
         all_goals (refine WC.skip ?_)
         skip))
    all_goals (repeat' (with_reducible first | refine thenP_n ?_ | refine blockP_n ?_))
    all_goals (refine WC.seq ?_)
    all_goals (refine WC.seq ?_)
    all_goals (refine WC.region ?_)
    all_goals (refine WL.step (ok_assign rfl) rfl rfl rfl ?_)
    all_goals (refine WL.nil ?_)
    all_goals (repeat' (with_reducible first | refine thenP_n ?_ | refine blockP_n ?_))
    all_goals (refine WC.block ?_)
    -- loop 0: slots that turn [5], that stay [0, 1]
    all_goals (refine WC.loopG (X := Nat) (fun x => ([(5, In (x : Int))] : Fr)) [(0, _), (1, _)] (fun k h' => h' = h ∧ k ≤ l.length ∧ l.take k = m.take k) (fun k => l.length - k) (0) ⟨rfl, rfl, rfl, trivial⟩ (by exact ⟨rfl, Nat.zero_le _, by simp⟩) ?_)
    all_goals (rintro k h9 ⟨hz, hk, hn⟩
               subst h9)
    all_goals (refine WC.sub [(5, _), (0, _), (1, _)] ⟨rfl, rfl, rfl, trivial⟩ ?_)
    all_goals (refine WC.seq ?_)
    all_goals (refine WC.seq ?_)
    all_goals (refine WC.region ?_)
    all_goals (refine WL.step (ok_move rfl) rfl rfl rfl ?_)
    all_goals (refine WL.step (ok_move rfl) rfl rfl rfl ?_)
    all_goals (refine WL.step (ok_lenL rfl Try.underlying36 rfl) rfl rfl rfl ?_)
    all_goals (first | (refine WL.step (OkP.bool_t (by omega) (ok_lss rfl rfl)) rfl rfl rfl ?_) | (refine WL.step (OkP.bool_f (by omega) (ok_lss rfl rfl)) rfl rfl rfl ?_) | (refine WL.step (ok_lss rfl rfl) rfl rfl rfl ?_))
    all_goals (refine WL.nil ?_)
    all_goals (repeat' (with_reducible first | refine thenP_n ?_ | refine blockP_n ?_))
    all_goals (first | refine WC.condB_t 3 rfl ?_ | refine WC.condB_f 4 rfl ?_ | (refine WC.condB 3 4 rfl (fun hb => ?_) (fun hb => ?_) <;> (first | replace hb := of_decide_eq_true hb | replace hb := of_decide_eq_false hb | replace hb := of_decide_eq_false (nt hb) | replace hb := of_decide_eq_true (nf hb) | skip)))
    all_goals (first
      | (fail_if_success (refine Br.mk (i := 3) ?_))
      | (refine Br.mk (i := 3) ?_
         all_goals (refine WC.skip ?_)
         skip))
    all_goals (first
      | (fail_if_success (refine Br.mk (i := 4) ?_))
      | (refine Br.mk (i := 4) ?_
         all_goals (refine WC.exit ?_)
         all_goals (repeat' (with_reducible first | refine thenP_x ?_ | refine blockP_miss rfl ?_ | refine blockP_hit ?_ | refine blockP_n ?_ | refine thenP_n ?_))
         all_goals (refine Br.out (i := 1000) ?_)
         skip))
    all_goals (first | (refine Br.keep ?_) | (repeat' (with_reducible first | refine thenP_n ?_ | refine blockP_n ?_)))
    all_goals (first | (refine Br.keep ?_) | (refine WC.sub [(0, _), (1, _), (5, _)] ⟨rfl, rfl, rfl, trivial⟩ ?_))
    all_goals (first | (refine Br.keep ?_) | (refine WC.seq ?_))
    all_goals (first | (refine Br.keep ?_) | (refine WC.block ?_))
    all_goals (first | (refine Br.keep ?_) | (refine WC.seq ?_))
    all_goals (first | (refine Br.keep ?_) | (refine WC.drawE fol (by kernel_rfl) ?_))
    all_goals (first
                 | (refine Br.keep ?_)
                 | (obtain ⟨bL, oL, hA, hbL, hat⟩ := Rd.at_ hr (by omega)
                    obtain ⟨bM, oM, hB, hbM, hbt⟩ := Rd.at_ hs (by omega)
                    obtain ⟨xa, hx⟩ : ∃ y, l[k]? = some y := ⟨_, List.getElem?_eq_getElem (by omega)⟩
                    obtain ⟨ya, hy⟩ : ∃ y, m[k]? = some y := ⟨_, List.getElem?_eq_getElem (by omega)⟩
                    have hc := hat.get (p := oL + k * 1) k (get_int hx) (by omega)
                    have hd := hbt.get (p := oM + k * 1) k (get_int hy) (by omega)
                    by_cases hxy : xa = ya))
    all_goals (first | (refine Br.keep ?_) | (refine WQ.stepE (ok_move rfl) rfl rfl rfl ?_))
    all_goals (first | (refine Br.keep ?_) | (refine WQ.stepE (ok_move rfl) rfl rfl rfl ?_))
    all_goals (first | (refine Br.keep ?_) | (refine WQ.stepE (ok_idxAddrA Try.underlying36 (fun w => Try.sizeOf3 w) rfl rfl rfl (by omega) (by first | rfl | assumption)) rfl rfl rfl ?_))
    all_goals (first | (refine Br.keep ?_) | (refine WQ.stepE (ok_load (fun w => Try.isAgg3 w) rfl (by first | assumption | exact cell_blk (by assumption) rfl)) rfl rfl rfl ?_))
    all_goals (first | (refine Br.keep ?_) | (refine WQ.stepE (ok_move rfl) rfl rfl rfl ?_))
    all_goals (first | (refine Br.keep ?_) | (refine WQ.stepE (ok_move rfl) rfl rfl rfl ?_))
    all_goals (first | (refine Br.keep ?_) | (refine WQ.stepE (ok_idxAddrA Try.underlying36 (fun w => Try.sizeOf3 w) rfl rfl rfl (by omega) (by first | rfl | assumption)) rfl rfl rfl ?_))
    all_goals (first | (refine Br.keep ?_) | (refine WQ.stepE (ok_load (fun w => Try.isAgg3 w) rfl (by first | assumption | exact cell_blk (by assumption) rfl)) rfl rfl rfl ?_))
    all_goals (first | (refine Br.keep ?_) | (first | (refine WQ.stepE (OkP.nbool_t (by omega) (ok_neq rfl rfl)) rfl rfl rfl ?_) | (refine WQ.stepE (OkP.nbool_f (by omega) (ok_neq rfl rfl)) rfl rfl rfl ?_) | (refine WQ.stepE (ok_neq rfl rfl) rfl rfl rfl ?_)))
    all_goals (first | (refine Br.keep ?_) | (refine WQ.nil ?_))
    all_goals (first | (refine Br.keep ?_) | (repeat' (with_reducible first | refine thenP_n ?_ | refine blockP_n ?_)))
    all_goals (first | (refine Br.keep ?_) | (refine WC.sub [(0, _), (1, _), (5, _), (25, _)] ⟨rfl, rfl, rfl, rfl, trivial⟩ ?_))
    all_goals (first | (refine Br.keep ?_) | (first | refine WC.condB_t 5 rfl ?_ | refine WC.condB_f 6 rfl ?_ | (refine WC.condB 5 6 rfl (fun hb => ?_) (fun hb => ?_) <;> (first | replace hb := of_decide_eq_true hb | replace hb := of_decide_eq_false hb | replace hb := of_decide_eq_false (nt hb) | replace hb := of_decide_eq_true (nf hb) | skip))))
    all_goals (first
      | (fail_if_success (refine Br.mk (i := 5) ?_))
      | (refine Br.mk (i := 5) ?_
         all_goals (refine WC.seq ?_)
         all_goals (refine WC.region ?_)
         all_goals (refine WL.step (ok_assign rfl) rfl rfl rfl ?_)
         all_goals (refine WL.nil ?_)
         all_goals (repeat' (with_reducible first | refine thenP_n ?_ | refine blockP_n ?_))
         all_goals (refine WC.sub [(4, _)] ⟨rfl, trivial⟩ ?_)
         all_goals (refine WC.ret ?_)
         all_goals (repeat' (with_reducible first | refine thenP_r ?_ | refine blockP_r ?_))
         all_goals (refine retP_1 _ ⟨rfl, trivial⟩ ?_)
         all_goals (first
                     | exact ⟨by rw [decide_eq_true (same_ofX hn (by omega) (by omega))], rfl⟩
                     | exact ⟨by rw [decide_eq_false (ne_of_atX hx hy hxy)], rfl⟩)
         skip))
    all_goals (first
      | (fail_if_success (refine Br.mk (i := 6) ?_))
      | (refine Br.mk (i := 6) ?_
         all_goals (refine WC.skip ?_)
         skip))
    all_goals (first | (refine Br.keep ?_) | (repeat' (with_reducible first | refine thenP_n ?_ | refine blockP_n ?_)))
    all_goals (first | (refine Br.keep ?_) | (refine WC.region ?_))
    all_goals (first | (refine Br.keep ?_) | (refine WL.step (ok_move rfl) rfl rfl rfl ?_))
    all_goals (first | (refine Br.keep ?_) | (first | (refine WL.step (ok_addI rfl rfl (by omega)) rfl rfl rfl ?_) | (refine WL.step (ok_add rfl rfl) rfl rfl rfl ?_)))
    all_goals (first | (refine Br.keep ?_) | (refine WL.step (ok_assign rfl) rfl rfl rfl ?_))
    all_goals (first | (refine Br.keep ?_) | (refine WL.nil ?_))
    all_goals (first | (refine Br.keep ?_) | (repeat' (with_reducible first | refine thenP_n ?_ | refine blockP_n ?_)))
    all_goals (first | (refine Br.keep ?_) | (exact ⟨k + 1, ⟨rfl, rfl, rfl, trivial⟩, (by exact ⟨rfl, by omega, take_sameX hn hx (by rw [hxy]; exact hy)⟩), (by omega)⟩))
    all_goals (try (refine Br.mk (i := 1000) ?_))
    all_goals (repeat' (with_reducible first | refine thenP_n ?_ | refine blockP_n ?_))
    all_goals (refine WC.sub [] trivial ?_)
    all_goals (refine WC.seq ?_)
    all_goals (refine WC.region ?_)
    all_goals (refine WL.step (ok_assign rfl) rfl rfl rfl ?_)
    all_goals (refine WL.nil ?_)
    all_goals (repeat' (with_reducible first | refine thenP_n ?_ | refine blockP_n ?_))
    all_goals (refine WC.ret ?_)
    all_goals (repeat' (with_reducible first | refine thenP_r ?_ | refine blockP_r ?_))
    all_goals (refine retP_1 _ ⟨rfl, trivial⟩ ?_)
    all_goals (first
                | exact ⟨by rw [decide_eq_true (same_ofX hn (by omega) (by omega))], rfl⟩
                | exact ⟨by rw [decide_eq_false (ne_of_atX hx hy hxy)], rfl⟩)
  · have hne : l ≠ m := fun e => hlm (by rw [e])
    refine calls [(0, _), (1, _)] Try.func62 rfl Try.ntmps62 rfl ⟨rfl, rfl, trivial⟩ ?_
    all_goals (refine WC.seq ?_)
    all_goals (refine WC.region ?_)
    all_goals (refine WL.step (ok_assign rfl) rfl rfl rfl ?_)
    all_goals (refine WL.nil ?_)
    all_goals (repeat' (with_reducible first | refine thenP_n ?_ | refine blockP_n ?_))
    all_goals (refine WC.seq ?_)
    all_goals (refine WC.seq ?_)
    all_goals (refine WC.region ?_)
    all_goals (refine WL.step (ok_move rfl) rfl rfl rfl ?_)
    all_goals (refine WL.step (ok_lenL rfl Try.underlying36 rfl) rfl rfl rfl ?_)
    all_goals (refine WL.step (ok_move rfl) rfl rfl rfl ?_)
    all_goals (refine WL.step (ok_lenL rfl Try.underlying36 rfl) rfl rfl rfl ?_)
    all_goals (first | (refine WL.step (OkP.nbool_t (by omega) (ok_neq rfl rfl)) rfl rfl rfl ?_) | (refine WL.step (OkP.nbool_f (by omega) (ok_neq rfl rfl)) rfl rfl rfl ?_) | (refine WL.step (ok_neq rfl rfl) rfl rfl rfl ?_))
    all_goals (refine WL.nil ?_)
    all_goals (repeat' (with_reducible first | refine thenP_n ?_ | refine blockP_n ?_))
    all_goals (refine WC.sub [(0, _), (1, _), (10, _)] ⟨rfl, rfl, rfl, trivial⟩ ?_)
    all_goals (first | refine WC.condB_t 1 rfl ?_ | refine WC.condB_f 2 rfl ?_ | (refine WC.condB 1 2 rfl (fun hb => ?_) (fun hb => ?_) <;> (first | replace hb := of_decide_eq_true hb | replace hb := of_decide_eq_false hb | replace hb := of_decide_eq_false (nt hb) | replace hb := of_decide_eq_true (nf hb) | skip)))
    all_goals (first
      | (fail_if_success (refine Br.mk (i := 1) ?_))
      | (refine Br.mk (i := 1) ?_
         all_goals (refine WC.seq ?_)
         all_goals (refine WC.region ?_)
         all_goals (refine WL.step (ok_assign rfl) rfl rfl rfl ?_)
         all_goals (refine WL.nil ?_)
         all_goals (repeat' (with_reducible first | refine thenP_n ?_ | refine blockP_n ?_))
         all_goals (refine WC.ret ?_)
         all_goals (repeat' (with_reducible first | refine thenP_r ?_ | refine blockP_r ?_))
         all_goals (refine retP_1 _ ⟨rfl, trivial⟩ ?_)
         all_goals (exact ⟨by rw [decide_eq_false hne], rfl⟩)
         skip))
    all_goals (first
      | (fail_if_success (refine Br.mk (i := 2) ?_))
      | (refine Br.mk (i := 2) ?_
         all_goals (refine WC.skip ?_)
         skip))
    all_goals (repeat' (with_reducible first | refine thenP_n ?_ | refine blockP_n ?_))
    all_goals (refine WC.seq ?_)
    all_goals (refine WC.seq ?_)
    all_goals (refine WC.region ?_)
    all_goals (refine WL.step (ok_assign rfl) rfl rfl rfl ?_)
    all_goals (refine WL.nil ?_)
    all_goals (repeat' (with_reducible first | refine thenP_n ?_ | refine blockP_n ?_))
    all_goals (refine WC.block ?_)
    -- loop 0: slots that turn [5], that stay [0, 1]
    all_goals (refine WC.loopG (fun x => (None : Fr)) [(0, _), (1, _)] (None) (None) (None) ⟨rfl, rfl, rfl, trivial⟩ (by exact ⟨⟩) ?_)
    all_goals (rintro x h1 hI)
    all_goals (refine WC.sub [(5, _), (0, _), (1, _)] ⟨rfl, rfl, rfl, trivial⟩ ?_)
    all_goals (refine WC.seq ?_)
    all_goals (refine WC.seq ?_)
    all_goals (refine WC.region ?_)
    all_goals (refine WL.step (ok_move rfl) rfl rfl rfl ?_)
    all_goals (refine WL.step (ok_move rfl) rfl rfl rfl ?_)
    all_goals (refine WL.step (ok_lenL rfl Try.underlying36 rfl) rfl rfl rfl ?_)
    all_goals (first | (refine WL.step (OkP.bool_t (by omega) (ok_lss rfl rfl)) rfl rfl rfl ?_) | (refine WL.step (OkP.bool_f (by omega) (ok_lss rfl rfl)) rfl rfl rfl ?_) | (refine WL.step (ok_lss rfl rfl) rfl rfl rfl ?_))
    all_goals (refine WL.nil ?_)
    all_goals (repeat' (with_reducible first | refine thenP_n ?_ | refine blockP_n ?_))
    all_goals (first | refine WC.condB_t 3 rfl ?_ | refine WC.condB_f 4 rfl ?_ | (refine WC.condB 3 4 rfl (fun hb => ?_) (fun hb => ?_) <;> (first | replace hb := of_decide_eq_true hb | replace hb := of_decide_eq_false hb | replace hb := of_decide_eq_false (nt hb) | replace hb := of_decide_eq_true (nf hb) | skip)))
    all_goals (first
      | (fail_if_success (refine Br.mk (i := 3) ?_))
      | (refine Br.mk (i := 3) ?_
         all_goals (refine WC.skip ?_)
         skip))
    all_goals (first
      | (fail_if_success (refine Br.mk (i := 4) ?_))
      | (refine Br.mk (i := 4) ?_
         all_goals (refine WC.exit ?_)
         all_goals (repeat' (with_reducible first | refine thenP_x ?_ | refine blockP_miss rfl ?_ | refine blockP_hit ?_ | refine blockP_n ?_ | refine thenP_n ?_))
         all_goals (refine Br.out (i := 1000) ?_)
         skip))
    all_goals (first | (refine Br.keep ?_) | (repeat' (with_reducible first | refine thenP_n ?_ | refine blockP_n ?_)))
    all_goals (first | (refine Br.keep ?_) | (refine WC.sub [(0, _), (1, _), (5, _)] ⟨rfl, rfl, rfl, trivial⟩ ?_))
    all_goals (first | (refine Br.keep ?_) | (refine WC.seq ?_))
    all_goals (first | (refine Br.keep ?_) | (refine WC.block ?_))
    all_goals (first | (refine Br.keep ?_) | (refine WC.seq ?_))
    all_goals (first | (refine Br.keep ?_) | (refine WC.drawE fol (by kernel_rfl) ?_))
    all_goals (first | (refine Br.keep ?_) | (refine WQ.stepE (ok_move rfl) rfl rfl rfl ?_))
    all_goals (first | (refine Br.keep ?_) | (refine WQ.stepE (ok_move rfl) rfl rfl rfl ?_))
    all_goals (first | (refine Br.keep ?_) | (refine WQ.stepE (ok_idxAddrA Try.underlying36 (fun w => Try.sizeOf3 w) rfl rfl rfl (by omega) (by first | rfl | assumption)) rfl rfl rfl ?_))
    all_goals (first | (refine Br.keep ?_) | (refine WQ.stepE (ok_load (fun w => Try.isAgg3 w) rfl (by first | assumption | exact cell_blk (by assumption) rfl)) rfl rfl rfl ?_))
    all_goals (first | (refine Br.keep ?_) | (refine WQ.stepE (ok_move rfl) rfl rfl rfl ?_))
    all_goals (first | (refine Br.keep ?_) | (refine WQ.stepE (ok_move rfl) rfl rfl rfl ?_))
    all_goals (first | (refine Br.keep ?_) | (refine WQ.stepE (ok_idxAddrA Try.underlying36 (fun w => Try.sizeOf3 w) rfl rfl rfl (by omega) (by first | rfl | assumption)) rfl rfl rfl ?_))
    all_goals (first | (refine Br.keep ?_) | (refine WQ.stepE (ok_load (fun w => Try.isAgg3 w) rfl (by first | assumption | exact cell_blk (by assumption) rfl)) rfl rfl rfl ?_))
    all_goals (first | (refine Br.keep ?_) | (first | (refine WQ.stepE (OkP.nbool_t (by omega) (ok_neq rfl rfl)) rfl rfl rfl ?_) | (refine WQ.stepE (OkP.nbool_f (by omega) (ok_neq rfl rfl)) rfl rfl rfl ?_) | (refine WQ.stepE (ok_neq rfl rfl) rfl rfl rfl ?_)))
    all_goals (first | (refine Br.keep ?_) | (refine WQ.nil ?_))
    all_goals (first | (refine Br.keep ?_) | (repeat' (with_reducible first | refine thenP_n ?_ | refine blockP_n ?_)))
    all_goals (first | (refine Br.keep ?_) | (refine WC.sub [(0, _), (1, _), (5, _), (25, _)] ⟨rfl, rfl, rfl, rfl, trivial⟩ ?_))
    all_goals (first | (refine Br.keep ?_) | (first | refine WC.condB_t 5 rfl ?_ | refine WC.condB_f 6 rfl ?_ | (refine WC.condB 5 6 rfl (fun hb => ?_) (fun hb => ?_) <;> (first | replace hb := of_decide_eq_true hb | replace hb := of_decide_eq_false hb | replace hb := of_decide_eq_false (nt hb) | replace hb := of_decide_eq_true (nf hb) | skip))))
    all_goals (first
      | (fail_if_success (refine Br.mk (i := 5) ?_))
      | (refine Br.mk (i := 5) ?_
         all_goals (refine WC.seq ?_)
         all_goals (refine WC.region ?_)
         all_goals (refine WL.step (ok_assign rfl) rfl rfl rfl ?_)
         all_goals (refine WL.nil ?_)
         all_goals (repeat' (with_reducible first | refine thenP_n ?_ | refine blockP_n ?_))
         all_goals (refine WC.sub [(4, _)] ⟨rfl, trivial⟩ ?_)
         all_goals (refine WC.ret ?_)
         all_goals (repeat' (with_reducible first | refine thenP_r ?_ | refine blockP_r ?_))
         all_goals (refine retP_1 _ ⟨rfl, trivial⟩ ?_)
         all_goals (exact ⟨by rw [decide_eq_false hne], rfl⟩)
         skip))
    all_goals (first
      | (fail_if_success (refine Br.mk (i := 6) ?_))
      | (refine Br.mk (i := 6) ?_
         all_goals (refine WC.skip ?_)
         skip))
    all_goals (first | (refine Br.keep ?_) | (repeat' (with_reducible first | refine thenP_n ?_ | refine blockP_n ?_)))
    all_goals (first | (refine Br.keep ?_) | (refine WC.region ?_))
    all_goals (first | (refine Br.keep ?_) | (refine WL.step (ok_move rfl) rfl rfl rfl ?_))
    all_goals (first | (refine Br.keep ?_) | (first | (refine WL.step (ok_addI rfl rfl (by omega)) rfl rfl rfl ?_) | (refine WL.step (ok_add rfl rfl) rfl rfl rfl ?_)))
    all_goals (first | (refine Br.keep ?_) | (refine WL.step (ok_assign rfl) rfl rfl rfl ?_))
    all_goals (first | (refine Br.keep ?_) | (refine WL.nil ?_))
    all_goals (first | (refine Br.keep ?_) | (repeat' (with_reducible first | refine thenP_n ?_ | refine blockP_n ?_)))
    all_goals (first | (refine Br.keep ?_) | (exact ⟨None, ⟨rfl, rfl, rfl, trivial⟩, (by exact ⟨⟩), (by simp; omega)⟩))
    all_goals (try (refine Br.mk (i := 1000) ?_))
    all_goals (repeat' (with_reducible first | refine thenP_n ?_ | refine blockP_n ?_))
    all_goals (refine WC.sub [] trivial ?_)
    all_goals (refine WC.seq ?_)
    all_goals (refine WC.region ?_)
    all_goals (refine WL.step (ok_assign rfl) rfl rfl rfl ?_)
    all_goals (refine WL.nil ?_)
    all_goals (repeat' (with_reducible first | refine thenP_n ?_ | refine blockP_n ?_))
    all_goals (refine WC.ret ?_)
    all_goals (repeat' (with_reducible first | refine thenP_r ?_ | refine blockP_r ?_))
    all_goals (refine retP_1 _ ⟨rfl, trivial⟩ ?_)
    all_goals (exact ⟨by rw [decide_eq_false hne], rfl⟩)
set_option maxRecDepth 100000 in
theorem client_v {h : Heap} (a b : CV) (ha : a.ok h) (hb : b.ok h) (hl : a.t.length ≤ 1000) : CallsH Try.prog 56 ⟨[.agg ⟨a.cells⟩, .agg ⟨b.cells⟩]⟩ h fun u h' => u = .bool (decide (a.pl = b.pl)) ∧ Ext No h h' := by
  obtain ⟨p1, s1, d1, v1, t1⟩ := a
  obtain ⟨p2, s2, d2, v2, t2⟩ := b
  obtain ⟨hr1, _⟩ := ha
  obtain ⟨hr2, _⟩ := hb
  simp only at hr1 hr2 hl
  obtain ⟨A1, c1, rfl, _⟩ := id hr1
  obtain ⟨A2, c2, rfl, _⟩ := id hr2
  dsimp only [CV.cells]
  by_cases h3 : p1 = p2 ∧ s1 = s2 ∧ d1 = d2
  all_goals
    first
      | have hus : [Sca.i .i64 p1, .i .i64 s1, .i .i64 d1] = [Sca.i .i64 p2, .i .i64 s2, .i .i64 d2] := by rw [h3.1, h3.2.1, h3.2.2]
      | have hus : ¬ [Sca.i .i64 p1, .i .i64 s1, .i .i64 d1] = [Sca.i .i64 p2, .i .i64 s2, .i .i64 d2] := fun e => h3 (by simpa using e)
    refine calls [(0, _), (1, _)] Try.func56 rfl Try.ntmps56 rfl ⟨rfl, rfl, trivial⟩ ?_
    all_goals (refine WC.seq ?_)
    all_goals (refine WC.region ?_)
    all_goals (refine WL.stepR (okE_box rfl) rfl rfl rfl ?_
               rintro _ h1 ⟨b1, rfl, hg1, hb1, hx1⟩)
    all_goals (refine WL.stepR (okE_box rfl) rfl rfl rfl ?_
               rintro _ h2 ⟨b2, rfl, hg2, hb2, hx2⟩)
    all_goals (have hb12 := hx2.obj hb1 nos
               have hX2 := hx1.trans hx2)
    all_goals (refine WL.step (ok_assign rfl) rfl rfl rfl ?_)
    all_goals (refine WL.nil ?_)
    all_goals (repeat' (with_reducible first | refine thenP_n ?_ | refine blockP_n ?_))
    all_goals (refine WC.seq ?_)
    all_goals (refine WC.region ?_)
    all_goals (refine WL.step (ok_fieldAddr rfl Try.underlying82 rfl (fun w => Try.sizeOf3 w)) rfl rfl rfl ?_)
    all_goals (refine WL.step (ok_load (fun w => Try.isAgg3 w) rfl (by first | assumption | exact cell_blk (by assumption) rfl)) rfl rfl rfl ?_)
    all_goals (refine WL.step (ok_fieldAddr rfl Try.underlying82 rfl (fun w => Try.sizeOf3 w)) rfl rfl rfl ?_)
    all_goals (refine WL.step (ok_load (fun w => Try.isAgg3 w) rfl (by first | assumption | exact cell_blk (by assumption) rfl)) rfl rfl rfl ?_)
    all_goals (refine WL.step (ok_fieldAddr rfl Try.underlying82 rfl (fun w => Try.sizeOf3 w)) rfl rfl rfl ?_)
    all_goals (refine WL.step (ok_load (fun w => Try.isAgg3 w) rfl (by first | assumption | exact cell_blk (by assumption) rfl)) rfl rfl rfl ?_)
    all_goals (refine WL.step (ok_buildF (vs := [_, _, _]) (cs := [_, _, _]) (fun | [a0, a1, a2] => [a0, a1, a2] | _ => []) rfl rfl (by kernel_rfl)) rfl rfl rfl ?_)
    all_goals (refine WL.step (ok_fieldAddr rfl Try.underlying82 rfl (fun w => Try.sizeOf3 w)) rfl rfl rfl ?_)
    all_goals (refine WL.step (ok_load (fun w => Try.isAgg3 w) rfl (by first | assumption | exact cell_blk (by assumption) rfl)) rfl rfl rfl ?_)
    all_goals (refine WL.step (ok_fieldAddr rfl Try.underlying82 rfl (fun w => Try.sizeOf3 w)) rfl rfl rfl ?_)
    all_goals (refine WL.step (ok_load (fun w => Try.isAgg3 w) rfl (by first | assumption | exact cell_blk (by assumption) rfl)) rfl rfl rfl ?_)
    all_goals (refine WL.step (ok_fieldAddr rfl Try.underlying82 rfl (fun w => Try.sizeOf3 w)) rfl rfl rfl ?_)
    all_goals (refine WL.step (ok_load (fun w => Try.isAgg3 w) rfl (by first | assumption | exact cell_blk (by assumption) rfl)) rfl rfl rfl ?_)
    all_goals (refine WL.step (ok_buildF (vs := [_, _, _]) (cs := [_, _, _]) (fun | [a0, a1, a2] => [a0, a1, a2] | _ => []) rfl rfl (by kernel_rfl)) rfl rfl rfl ?_)
    all_goals (first
                | refine WL.step (OkP.bool_t hus (ok_eqlAS (.i .i64) (us := [Sca.i .i64 p1, .i .i64 s1, .i .i64 d1]) (vs := [Sca.i .i64 p2, .i .i64 s2, .i .i64 d2]) Try.underlying104 (show Try.prog.info? 3 = some Try.t3 by kernel_rfl) (by kernel_rfl) (by kernel_rfl) (by kernel_rfl) (by kernel_rfl) rfl rfl (by simp [Sca.kd]) (by simp [Sca.kd]) rfl rfl)) rfl rfl rfl ?_
                | refine WL.step (OkP.bool_f hus (ok_eqlAS (.i .i64) (us := [Sca.i .i64 p1, .i .i64 s1, .i .i64 d1]) (vs := [Sca.i .i64 p2, .i .i64 s2, .i .i64 d2]) Try.underlying104 (show Try.prog.info? 3 = some Try.t3 by kernel_rfl) (by kernel_rfl) (by kernel_rfl) (by kernel_rfl) (by kernel_rfl) rfl rfl (by simp [Sca.kd]) (by simp [Sca.kd]) rfl rfl)) rfl rfl rfl ?_)
    all_goals (refine WL.step (ok_assign rfl) rfl rfl rfl ?_)
    all_goals (refine WL.nil ?_)
    all_goals (repeat' (with_reducible first | refine thenP_n ?_ | refine blockP_n ?_))
    all_goals (refine WC.sub [(2, _), (3, _), (5, _)] ⟨rfl, rfl, rfl, trivial⟩ ?_)
    all_goals (refine WC.seq ?_)
    all_goals (refine WC.region ?_)
    all_goals (refine WL.step (ok_move rfl) rfl rfl rfl ?_)
    all_goals (refine WL.step (ok_move rfl) rfl rfl rfl ?_)
    all_goals (try ((fail_if_success (refine WL.part 22 (b := true) rfl (fun _ => ?_) (fun _ => ?_))); (fail_if_success (refine WL.part 22 (b := false) rfl (fun _ => ?_) (fun _ => ?_))); (refine WL.part 22 rfl (fun hb => ?_) (fun hb => ?_) <;> (first | replace hb := of_decide_eq_true hb | replace hb := of_decide_eq_false hb | replace hb := of_decide_eq_false (nt hb) | replace hb := of_decide_eq_true (nf hb) | skip))))
    all_goals (first | (refine WL.pass rfl rfl rfl ?_) | (refine WL.step (ok_fieldAddr rfl Try.underlying82 rfl (fun w => Try.sizeOf80 w)) rfl rfl rfl ?_))
    all_goals (first | (refine WL.pass rfl rfl rfl ?_) | (refine WL.step (ok_load (fun w => Try.isAgg80 w) rfl (by first | assumption | exact cell_blk (by assumption) rfl)) rfl rfl rfl ?_))
    all_goals (first | (refine WL.pass rfl rfl rfl ?_) | (refine WL.step (ok_fieldAddr rfl Try.underlying82 rfl (fun w => Try.sizeOf80 w)) rfl rfl rfl ?_))
    all_goals (first | (refine WL.pass rfl rfl rfl ?_) | (refine WL.step (ok_load (fun w => Try.isAgg80 w) rfl (by first | assumption | exact cell_blk (by assumption) rfl)) rfl rfl rfl ?_))
    all_goals (first
                 | (refine WL.pass rfl rfl rfl ?_)
                 | (refine WL.call (vs := [_, _]) rfl (fun a w => Try.call72 a w) rfl (equal_nm t1 t2 (hr1.ext0 hX2) (hr2.ext0 hX2) (by omega)) rfl rfl rfl ?_
                    rintro _ hz ⟨rfl, _⟩
                    subst hz))
    all_goals (first | (refine WL.step (ok_pick_t rfl rfl) rfl rfl rfl ?_) | (refine WL.step (ok_pick_f rfl rfl) rfl rfl rfl ?_))
    all_goals (refine WL.step (ok_assign rfl) rfl rfl rfl ?_)
    all_goals (refine WL.nil ?_)
    all_goals (repeat' (with_reducible first | refine thenP_n ?_ | refine blockP_n ?_))
    all_goals (refine WC.sub [(4, _)] ⟨rfl, trivial⟩ ?_)
    all_goals (refine WC.ret ?_)
    all_goals (repeat' (with_reducible first | refine thenP_r ?_ | refine blockP_r ?_))
    all_goals (refine retP_1 _ ⟨rfl, trivial⟩ ?_)
    all_goals (refine ⟨congrArg Value.bool ?_, hX2⟩
               unfold CV.pl
               simp only [Prod.mk.injEq]
               first
                | (refine (decide_eq_false fun e => ?_).symm; exact h3 ⟨e.1, e.2.1, e.2.2.1⟩)
                | (refine decide_eq_decide.2 ⟨fun e => ?_, fun e => ?_⟩; exact ⟨h3.1, h3.2.1, h3.2.2, e⟩; exact e.2.2.2))
set_option maxRecDepth 100000 in
theorem client46 {h : Heap} (a b : CV) (ha : a.ok h) (hb : b.ok h) (hl : a.t.length ≤ 1000) : CallsH Try.prog 60 ⟨[.agg ⟨a.cells⟩, .agg ⟨b.cells⟩]⟩ h fun u h' => u = .bool (decide (a.pl = b.pl)) ∧ Ext No h h' := by
  obtain ⟨p1, s1, d1, v1, t1⟩ := a
  obtain ⟨p2, s2, d2, v2, t2⟩ := b
  obtain ⟨hr1, _⟩ := ha
  obtain ⟨hr2, _⟩ := hb
  simp only at hr1 hr2 hl
  obtain ⟨A1, c1, rfl, _⟩ := id hr1
  obtain ⟨A2, c2, rfl, _⟩ := id hr2
  dsimp only [CV.cells]
  have hcs : ¬ p1 = p2 ∨ (p1 = p2 ∧ ¬ s1 = s2) ∨ (p1 = p2 ∧ s1 = s2 ∧ ¬ d1 = d2) ∨ (p1 = p2 ∧ s1 = s2 ∧ d1 = d2 ∧ ¬ t1.length = t2.length) ∨ (p1 = p2 ∧ s1 = s2 ∧ d1 = d2 ∧ t1.length = t2.length) := by omega
  rcases hcs with e1 | ⟨e1, e2⟩ | ⟨e1, e2, e3⟩ | ⟨e1, e2, e3, e4⟩ | ⟨e1, e2, e3, e4⟩
  all_goals
    refine calls [(0, _), (1, _)] Try.func60 rfl Try.ntmps60 rfl ⟨rfl, rfl, trivial⟩ ?_
    all_goals (refine WC.seq ?_)
    all_goals (refine WC.region ?_)
    all_goals (refine WL.stepR (okE_box rfl) rfl rfl rfl ?_
               rintro _ h1 ⟨b1, rfl, hg1, hb1, hx1⟩)
    all_goals (refine WL.stepR (okE_box rfl) rfl rfl rfl ?_
               rintro _ h2 ⟨b2, rfl, hg2, hb2, hx2⟩)
    all_goals (have hb12 := hx2.obj hb1 nos
               have hX2 := hx1.trans hx2
               clear hb1)
    all_goals (refine WL.step (ok_assign rfl) rfl rfl rfl ?_)
    all_goals (refine WL.nil ?_)
    all_goals (repeat' (with_reducible first | refine thenP_n ?_ | refine blockP_n ?_))
    all_goals (refine WC.seq ?_)
    all_goals (refine WC.seq ?_)
    all_goals (refine WC.region ?_)
    all_goals (refine WL.step (ok_fieldAddr rfl Try.underlying82 rfl (fun w => Try.sizeOf3 w)) rfl rfl rfl ?_)
    all_goals (refine WL.step (ok_load (fun w => Try.isAgg3 w) rfl (by first | assumption | exact cell_blk (by assumption) rfl)) rfl rfl rfl ?_)
    all_goals (refine WL.step (ok_fieldAddr rfl Try.underlying82 rfl (fun w => Try.sizeOf3 w)) rfl rfl rfl ?_)
    all_goals (refine WL.step (ok_load (fun w => Try.isAgg3 w) rfl (by first | assumption | exact cell_blk (by assumption) rfl)) rfl rfl rfl ?_)
    all_goals (first | (refine WL.step (OkP.nbool_t (by omega) (ok_neq rfl rfl)) rfl rfl rfl ?_) | (refine WL.step (OkP.nbool_f (by omega) (ok_neq rfl rfl)) rfl rfl rfl ?_) | (refine WL.step (ok_neq rfl rfl) rfl rfl rfl ?_))
    all_goals (refine WL.step (ok_move rfl) rfl rfl rfl ?_)
    all_goals (try ((fail_if_success (refine WL.part 11 (b := true) rfl (fun _ => ?_) (fun _ => ?_))); (fail_if_success (refine WL.part 11 (b := false) rfl (fun _ => ?_) (fun _ => ?_))); (refine WL.part 11 rfl (fun hb => ?_) (fun hb => ?_) <;> (first | replace hb := of_decide_eq_true hb | replace hb := of_decide_eq_false hb | replace hb := of_decide_eq_false (nt hb) | replace hb := of_decide_eq_true (nf hb) | skip))))
    all_goals (first | (refine WL.pass rfl rfl rfl ?_) | (refine WL.step (ok_fieldAddr rfl Try.underlying82 rfl (fun w => Try.sizeOf3 w)) rfl rfl rfl ?_))
    all_goals (first | (refine WL.pass rfl rfl rfl ?_) | (refine WL.step (ok_load (fun w => Try.isAgg3 w) rfl (by first | assumption | exact cell_blk (by assumption) rfl)) rfl rfl rfl ?_))
    all_goals (first | (refine WL.pass rfl rfl rfl ?_) | (refine WL.step (ok_fieldAddr rfl Try.underlying82 rfl (fun w => Try.sizeOf3 w)) rfl rfl rfl ?_))
    all_goals (first | (refine WL.pass rfl rfl rfl ?_) | (refine WL.step (ok_load (fun w => Try.isAgg3 w) rfl (by first | assumption | exact cell_blk (by assumption) rfl)) rfl rfl rfl ?_))
    all_goals (first | (refine WL.pass rfl rfl rfl ?_) | (first | (refine WL.step (OkP.nbool_t (by omega) (ok_neq rfl rfl)) rfl rfl rfl ?_) | (refine WL.step (OkP.nbool_f (by omega) (ok_neq rfl rfl)) rfl rfl rfl ?_) | (refine WL.step (ok_neq rfl rfl) rfl rfl rfl ?_)))
    all_goals (first | (refine WL.step (ok_pick_t rfl rfl) rfl rfl rfl ?_) | (refine WL.step (ok_pick_f rfl rfl) rfl rfl rfl ?_))
    all_goals (refine WL.step (ok_move rfl) rfl rfl rfl ?_)
    all_goals (try ((fail_if_success (refine WL.part 18 (b := true) rfl (fun _ => ?_) (fun _ => ?_))); (fail_if_success (refine WL.part 18 (b := false) rfl (fun _ => ?_) (fun _ => ?_))); (refine WL.part 18 rfl (fun hb => ?_) (fun hb => ?_) <;> (first | replace hb := of_decide_eq_true hb | replace hb := of_decide_eq_false hb | replace hb := of_decide_eq_false (nt hb) | replace hb := of_decide_eq_true (nf hb) | skip))))
    all_goals (first | (refine WL.pass rfl rfl rfl ?_) | (refine WL.step (ok_fieldAddr rfl Try.underlying82 rfl (fun w => Try.sizeOf3 w)) rfl rfl rfl ?_))
    all_goals (first | (refine WL.pass rfl rfl rfl ?_) | (refine WL.step (ok_load (fun w => Try.isAgg3 w) rfl (by first | assumption | exact cell_blk (by assumption) rfl)) rfl rfl rfl ?_))
    all_goals (first | (refine WL.pass rfl rfl rfl ?_) | (refine WL.step (ok_fieldAddr rfl Try.underlying82 rfl (fun w => Try.sizeOf3 w)) rfl rfl rfl ?_))
    all_goals (first | (refine WL.pass rfl rfl rfl ?_) | (refine WL.step (ok_load (fun w => Try.isAgg3 w) rfl (by first | assumption | exact cell_blk (by assumption) rfl)) rfl rfl rfl ?_))
    all_goals (first | (refine WL.pass rfl rfl rfl ?_) | (first | (refine WL.step (OkP.nbool_t (by omega) (ok_neq rfl rfl)) rfl rfl rfl ?_) | (refine WL.step (OkP.nbool_f (by omega) (ok_neq rfl rfl)) rfl rfl rfl ?_) | (refine WL.step (ok_neq rfl rfl) rfl rfl rfl ?_)))
    all_goals (first | (refine WL.step (ok_pick_t rfl rfl) rfl rfl rfl ?_) | (refine WL.step (ok_pick_f rfl rfl) rfl rfl rfl ?_))
    all_goals (refine WL.step (ok_move rfl) rfl rfl rfl ?_)
    all_goals (try ((fail_if_success (refine WL.part 25 (b := true) rfl (fun _ => ?_) (fun _ => ?_))); (fail_if_success (refine WL.part 25 (b := false) rfl (fun _ => ?_) (fun _ => ?_))); (refine WL.part 25 rfl (fun hb => ?_) (fun hb => ?_) <;> (first | replace hb := of_decide_eq_true hb | replace hb := of_decide_eq_false hb | replace hb := of_decide_eq_false (nt hb) | replace hb := of_decide_eq_true (nf hb) | skip))))
    all_goals (first | (refine WL.pass rfl rfl rfl ?_) | (refine WL.step (ok_fieldAddr rfl Try.underlying82 rfl (fun w => Try.sizeOf80 w)) rfl rfl rfl ?_))
    all_goals (first | (refine WL.pass rfl rfl rfl ?_) | (refine WL.step (ok_load (fun w => Try.isAgg80 w) rfl (by first | assumption | exact cell_blk (by assumption) rfl)) rfl rfl rfl ?_))
    all_goals (first | (refine WL.pass rfl rfl rfl ?_) | (refine WL.step (ok_lenL rfl Try.underlying80 rfl) rfl rfl rfl ?_))
    all_goals (first | (refine WL.pass rfl rfl rfl ?_) | (refine WL.step (ok_fieldAddr rfl Try.underlying82 rfl (fun w => Try.sizeOf80 w)) rfl rfl rfl ?_))
    all_goals (first | (refine WL.pass rfl rfl rfl ?_) | (refine WL.step (ok_load (fun w => Try.isAgg80 w) rfl (by first | assumption | exact cell_blk (by assumption) rfl)) rfl rfl rfl ?_))
    all_goals (first | (refine WL.pass rfl rfl rfl ?_) | (refine WL.step (ok_lenL rfl Try.underlying80 rfl) rfl rfl rfl ?_))
    all_goals (first | (refine WL.pass rfl rfl rfl ?_) | (first | (refine WL.step (OkP.nbool_t (by omega) (ok_neq rfl rfl)) rfl rfl rfl ?_) | (refine WL.step (OkP.nbool_f (by omega) (ok_neq rfl rfl)) rfl rfl rfl ?_) | (refine WL.step (ok_neq rfl rfl) rfl rfl rfl ?_)))
    all_goals (first | (refine WL.step (ok_pick_t rfl rfl) rfl rfl rfl ?_) | (refine WL.step (ok_pick_f rfl rfl) rfl rfl rfl ?_))
    all_goals (refine WL.nil ?_)
    all_goals (repeat' (with_reducible first | refine thenP_n ?_ | refine blockP_n ?_))
    all_goals (refine WC.sub [(2, _), (3, _), (33, _)] ⟨rfl, rfl, rfl, trivial⟩ ?_)
    all_goals (first | refine WC.condB_t 1 rfl ?_ | refine WC.condB_f 2 rfl ?_ | (refine WC.condB 1 2 rfl (fun hb => ?_) (fun hb => ?_) <;> (first | replace hb := of_decide_eq_true hb | replace hb := of_decide_eq_false hb | replace hb := of_decide_eq_false (nt hb) | replace hb := of_decide_eq_true (nf hb) | skip)))
    all_goals (first
      | (fail_if_success (refine Br.mk (i := 1) ?_))
      | (refine Br.mk (i := 1) ?_
         all_goals (refine WC.seq ?_)
         all_goals (refine WC.region ?_)
         all_goals (refine WL.step (ok_assign rfl) rfl rfl rfl ?_)
         all_goals (refine WL.nil ?_)
         all_goals (repeat' (with_reducible first | refine thenP_n ?_ | refine blockP_n ?_))
         all_goals (refine WC.ret ?_)
         all_goals (repeat' (with_reducible first | refine thenP_r ?_ | refine blockP_r ?_))
         all_goals (refine retP_1 _ ⟨rfl, trivial⟩ ?_)
         all_goals (refine ⟨congrArg Value.bool ?_, hX2⟩
                    unfold CV.pl
                    simp only [Prod.mk.injEq]
                    first
                     | (refine (decide_eq_false fun e => ?_).symm; exact e1 e.1)
                     | (refine (decide_eq_false fun e => ?_).symm; exact e2 e.2.1)
                     | (refine (decide_eq_false fun e => ?_).symm; exact e3 e.2.2.1)
                     | (refine (decide_eq_false fun e => ?_).symm; exact e4 (congrArg List.length e.2.2.2))
                     | (refine (decide_eq_false fun e => ?_).symm; exact ne_of_atX hx hy hxy e.2.2.2)
                     | (have hend := same_ofX hn (by omega) (by omega); exact (decide_eq_true ⟨e1, e2, e3, hend⟩).symm))
         skip))
    all_goals (first
      | (fail_if_success (refine Br.mk (i := 2) ?_))
      | (refine Br.mk (i := 2) ?_
         all_goals (refine WC.skip ?_)
         skip))
    all_goals (repeat' (with_reducible first | refine thenP_n ?_ | refine blockP_n ?_))
    all_goals (refine WC.seq ?_)
    all_goals (refine WC.seq ?_)
    all_goals (refine WC.region ?_)
    all_goals (refine WL.step (ok_assign rfl) rfl rfl rfl ?_)
    all_goals (refine WL.nil ?_)
    all_goals (repeat' (with_reducible first | refine thenP_n ?_ | refine blockP_n ?_))
    all_goals (refine WC.block ?_)
    -- loop 0: slots that turn [5], that stay [2, 3]
    all_goals (refine WC.loopG (X := Nat) (fun x => ([(5, In (x : Int))] : Fr)) [(2, _), (3, _)] (fun k h' => h' = h2 ∧ k ≤ t1.length ∧ t1.take k = t2.take k) (fun k => t1.length - k) (0) ⟨rfl, rfl, rfl, trivial⟩ (by exact ⟨rfl, Nat.zero_le _, by simp⟩) ?_)
    all_goals (rintro k h9 ⟨hz, hk, hn⟩
               subst h9)
    all_goals (refine WC.sub [(5, _), (2, _), (3, _)] ⟨rfl, rfl, rfl, trivial⟩ ?_)
    all_goals (refine WC.seq ?_)
    all_goals (refine WC.seq ?_)
    all_goals (refine WC.region ?_)
    all_goals (refine WL.step (ok_move rfl) rfl rfl rfl ?_)
    all_goals (refine WL.step (ok_fieldAddr rfl Try.underlying82 rfl (fun w => Try.sizeOf80 w)) rfl rfl rfl ?_)
    all_goals (refine WL.step (ok_load (fun w => Try.isAgg80 w) rfl (by first | assumption | exact cell_blk (by assumption) rfl)) rfl rfl rfl ?_)
    all_goals (refine WL.step (ok_lenL rfl Try.underlying80 rfl) rfl rfl rfl ?_)
    all_goals (first | (refine WL.step (OkP.bool_t (by omega) (ok_lss rfl rfl)) rfl rfl rfl ?_) | (refine WL.step (OkP.bool_f (by omega) (ok_lss rfl rfl)) rfl rfl rfl ?_) | (refine WL.step (ok_lss rfl rfl) rfl rfl rfl ?_))
    all_goals (refine WL.nil ?_)
    all_goals (repeat' (with_reducible first | refine thenP_n ?_ | refine blockP_n ?_))
    all_goals (refine WC.sub [(2, _), (3, _), (5, _), (38, _)] ⟨rfl, rfl, rfl, rfl, trivial⟩ ?_)
    all_goals (first | refine WC.condB_t 3 rfl ?_ | refine WC.condB_f 4 rfl ?_ | (refine WC.condB 3 4 rfl (fun hb => ?_) (fun hb => ?_) <;> (first | replace hb := of_decide_eq_true hb | replace hb := of_decide_eq_false hb | replace hb := of_decide_eq_false (nt hb) | replace hb := of_decide_eq_true (nf hb) | skip)))
    all_goals (first
      | (fail_if_success (refine Br.mk (i := 3) ?_))
      | (refine Br.mk (i := 3) ?_
         all_goals (refine WC.skip ?_)
         skip))
    all_goals (first
      | (fail_if_success (refine Br.mk (i := 4) ?_))
      | (refine Br.mk (i := 4) ?_
         all_goals (refine WC.exit ?_)
         all_goals (repeat' (with_reducible first | refine thenP_x ?_ | refine blockP_miss rfl ?_ | refine blockP_hit ?_ | refine blockP_n ?_ | refine thenP_n ?_))
         all_goals (refine Br.out (i := 1000) ?_)
         skip))
    all_goals (first | (refine Br.keep ?_) | (repeat' (with_reducible first | refine thenP_n ?_ | refine blockP_n ?_)))
    all_goals (first | (refine Br.keep ?_) | (refine WC.seq ?_))
    all_goals (first | (refine Br.keep ?_) | (refine WC.block ?_))
    all_goals (first | (refine Br.keep ?_) | (refine WC.seq ?_))
    all_goals (first | (refine Br.keep ?_) | (refine WC.drawE fol (by kernel_rfl) ?_))
    all_goals (first
                 | (refine Br.keep ?_)
                 | (obtain ⟨bL, oL, hA, hbL, hat⟩ := Rd.at_ (hr1.ext0 hX2) (by omega)
                    obtain ⟨bM, oM, hB, hbM, hbt⟩ := Rd.at_ (hr2.ext0 hX2) (by omega)
                    obtain ⟨⟨xa, xb⟩, hx⟩ : ∃ y, t1[k]? = some y := ⟨_, List.getElem?_eq_getElem (by omega)⟩
                    obtain ⟨⟨ya, yb⟩, hy⟩ : ∃ y, t2[k]? = some y := ⟨_, List.getElem?_eq_getElem (by omega)⟩
                    have hc : At h2 bL (oL + k * 2) [St xa, In xb] := At.elem nmC_len hat hx
                    have hd : At h2 bM (oM + k * 2) [St ya, In yb] := At.elem nmC_len hbt hy
                    by_cases hxy : ((xa, xb) : Nm) = (ya, yb)))
    all_goals (first | (refine Br.keep ?_) | (refine WQ.stepE (ok_fieldAddr rfl Try.underlying82 rfl (fun w => Try.sizeOf80 w)) rfl rfl rfl ?_))
    all_goals (first | (refine Br.keep ?_) | (refine WQ.stepE (ok_load (fun w => Try.isAgg80 w) rfl (by first | assumption | exact cell_blk (by assumption) rfl)) rfl rfl rfl ?_))
    all_goals (first | (refine Br.keep ?_) | (refine WQ.stepE (ok_move rfl) rfl rfl rfl ?_))
    all_goals (first | (refine Br.keep ?_) | (refine WQ.stepE (ok_idxAddrA Try.underlying80 (fun w => Try.sizeOf86 w) rfl rfl rfl (by omega) (by first | rfl | assumption)) rfl rfl rfl ?_))
    all_goals (first | (refine Br.keep ?_) | (refine WQ.stepE (ok_loadN (fun w => Try.isAgg86 w) (fun w => Try.sizeOf86 w) rfl rfl (by assumption)) rfl rfl rfl ?_))
    all_goals (first | (refine Br.keep ?_) | (refine WQ.stepE (ok_fieldAddr rfl Try.underlying82 rfl (fun w => Try.sizeOf80 w)) rfl rfl rfl ?_))
    all_goals (first | (refine Br.keep ?_) | (refine WQ.stepE (ok_load (fun w => Try.isAgg80 w) rfl (by first | assumption | exact cell_blk (by assumption) rfl)) rfl rfl rfl ?_))
    all_goals (first | (refine Br.keep ?_) | (refine WQ.stepE (ok_move rfl) rfl rfl rfl ?_))
    all_goals (first | (refine Br.keep ?_) | (refine WQ.stepE (ok_idxAddrA Try.underlying80 (fun w => Try.sizeOf86 w) rfl rfl rfl (by omega) (by first | rfl | assumption)) rfl rfl rfl ?_))
    all_goals (first | (refine Br.keep ?_) | (refine WQ.stepE (ok_loadN (fun w => Try.isAgg86 w) (fun w => Try.sizeOf86 w) rfl rfl (by assumption)) rfl rfl rfl ?_))
    all_goals (first
                 | (refine Br.keep ?_)
                 | (first
                     | refine WQ.stepE (OkP.nbool_f ((nmS_inj (xa, xb) (ya, yb)).2 hxy) (ok_neqF (us := [.s xa, .i .i64 xb]) (vs := [.s ya, .i .i64 yb]) [.s, .i .i64] (by kernel_rfl) rfl rfl rfl rfl)) rfl rfl rfl ?_
                     | refine WQ.stepE (OkP.nbool_t (fun e => hxy ((nmS_inj (xa, xb) (ya, yb)).1 e)) (ok_neqF (us := [.s xa, .i .i64 xb]) (vs := [.s ya, .i .i64 yb]) [.s, .i .i64] (by kernel_rfl) rfl rfl rfl rfl)) rfl rfl rfl ?_))
    all_goals (first | (refine Br.keep ?_) | (refine WQ.nil ?_))
    all_goals (first | (refine Br.keep ?_) | (repeat' (with_reducible first | refine thenP_n ?_ | refine blockP_n ?_)))
    all_goals (first | (refine Br.keep ?_) | (refine WC.sub [(2, _), (3, _), (5, _), (51, _)] ⟨rfl, rfl, rfl, rfl, trivial⟩ ?_))
    all_goals (first | (refine Br.keep ?_) | (first | refine WC.condB_t 5 rfl ?_ | refine WC.condB_f 6 rfl ?_ | (refine WC.condB 5 6 rfl (fun hb => ?_) (fun hb => ?_) <;> (first | replace hb := of_decide_eq_true hb | replace hb := of_decide_eq_false hb | replace hb := of_decide_eq_false (nt hb) | replace hb := of_decide_eq_true (nf hb) | skip))))
    all_goals (first
      | (fail_if_success (refine Br.mk (i := 5) ?_))
      | (refine Br.mk (i := 5) ?_
         all_goals (refine WC.seq ?_)
         all_goals (refine WC.region ?_)
         all_goals (refine WL.step (ok_assign rfl) rfl rfl rfl ?_)
         all_goals (refine WL.nil ?_)
         all_goals (repeat' (with_reducible first | refine thenP_n ?_ | refine blockP_n ?_))
         all_goals (refine WC.sub [(4, _)] ⟨rfl, trivial⟩ ?_)
         all_goals (refine WC.ret ?_)
         all_goals (repeat' (with_reducible first | refine thenP_r ?_ | refine blockP_r ?_))
         all_goals (refine retP_1 _ ⟨rfl, trivial⟩ ?_)
         all_goals (refine ⟨congrArg Value.bool ?_, hX2⟩
                    unfold CV.pl
                    simp only [Prod.mk.injEq]
                    first
                     | (refine (decide_eq_false fun e => ?_).symm; exact e1 e.1)
                     | (refine (decide_eq_false fun e => ?_).symm; exact e2 e.2.1)
                     | (refine (decide_eq_false fun e => ?_).symm; exact e3 e.2.2.1)
                     | (refine (decide_eq_false fun e => ?_).symm; exact e4 (congrArg List.length e.2.2.2))
                     | (refine (decide_eq_false fun e => ?_).symm; exact ne_of_atX hx hy hxy e.2.2.2)
                     | (have hend := same_ofX hn (by omega) (by omega); exact (decide_eq_true ⟨e1, e2, e3, hend⟩).symm))
         skip))
    all_goals (first
      | (fail_if_success (refine Br.mk (i := 6) ?_))
      | (refine Br.mk (i := 6) ?_
         all_goals (refine WC.skip ?_)
         skip))
    all_goals (first | (refine Br.keep ?_) | (repeat' (with_reducible first | refine thenP_n ?_ | refine blockP_n ?_)))
    all_goals (first | (refine Br.keep ?_) | (refine WC.region ?_))
    all_goals (first | (refine Br.keep ?_) | (refine WL.step (ok_move rfl) rfl rfl rfl ?_))
    all_goals (first | (refine Br.keep ?_) | (first | (refine WL.step (ok_addI rfl rfl (by omega)) rfl rfl rfl ?_) | (refine WL.step (ok_add rfl rfl) rfl rfl rfl ?_)))
    all_goals (first | (refine Br.keep ?_) | (refine WL.step (ok_assign rfl) rfl rfl rfl ?_))
    all_goals (first | (refine Br.keep ?_) | (refine WL.nil ?_))
    all_goals (first | (refine Br.keep ?_) | (repeat' (with_reducible first | refine thenP_n ?_ | refine blockP_n ?_)))
    all_goals (first | (refine Br.keep ?_) | (exact ⟨k + 1, ⟨rfl, rfl, rfl, trivial⟩, (by exact ⟨rfl, by omega, take_sameX hn hx (by rw [hxy]; exact hy)⟩), (by omega)⟩))
    all_goals (try (refine Br.mk (i := 1000) ?_))
    all_goals (repeat' (with_reducible first | refine thenP_n ?_ | refine blockP_n ?_))
    all_goals (refine WC.sub [] trivial ?_)
    all_goals (refine WC.seq ?_)
    all_goals (refine WC.region ?_)
    all_goals (refine WL.step (ok_assign rfl) rfl rfl rfl ?_)
    all_goals (refine WL.nil ?_)
    all_goals (repeat' (with_reducible first | refine thenP_n ?_ | refine blockP_n ?_))
    all_goals (refine WC.ret ?_)
    all_goals (repeat' (with_reducible first | refine thenP_r ?_ | refine blockP_r ?_))
    all_goals (refine retP_1 _ ⟨rfl, trivial⟩ ?_)
    all_goals (refine ⟨congrArg Value.bool ?_, hX2⟩
               unfold CV.pl
               simp only [Prod.mk.injEq]
               first
                | (refine (decide_eq_false fun e => ?_).symm; exact e1 e.1)
                | (refine (decide_eq_false fun e => ?_).symm; exact e2 e.2.1)
                | (refine (decide_eq_false fun e => ?_).symm; exact e3 e.2.2.1)
                | (refine (decide_eq_false fun e => ?_).symm; exact e4 (congrArg List.length e.2.2.2))
                | (refine (decide_eq_false fun e => ?_).symm; exact ne_of_atX hx hy hxy e.2.2.2)
                | (have hend := same_ofX hn (by omega) (by omega); exact (decide_eq_true ⟨e1, e2, e3, hend⟩).symm))
set_option maxHeartbeats 1000000 in
set_option maxRecDepth 100000 in
theorem server_v {h : Heap} (a b : SV) (ha : a.ok h) (hb : b.ok h) (hl : a.c.length ≤ 1000) (hl2 : a.p.length ≤ 1000) : CallsH Try.prog 58 ⟨[.agg ⟨a.cells⟩, .agg ⟨b.cells⟩]⟩ h fun u h' => u = .bool (decide (a.pl = b.pl)) ∧ Ext No h h' := by
  obtain ⟨p1, s1, d1, z1, v1, t1, w1, q1⟩ := a
  obtain ⟨p2, s2, d2, z2, v2, t2, w2, q2⟩ := b
  obtain ⟨hr1, _, hq1, _⟩ := ha
  obtain ⟨hr2, _, hq2, _⟩ := hb
  simp only at hr1 hr2 hq1 hq2 hl hl2
  obtain ⟨A1, c1, rfl, _⟩ := id hr1
  obtain ⟨A2, c2, rfl, _⟩ := id hr2
  obtain ⟨A3, c3, rfl, _⟩ := id hq1
  obtain ⟨A4, c4, rfl, _⟩ := id hq2
  dsimp only [SV.cells]
  have hzz : z1 = z2 ↔ z1.toNat = z2.toNat := ⟨fun e => by rw [e], fun e => UInt8.toNat_inj.1 e⟩
  by_cases h3 : p1 = p2 ∧ s1 = s2 ∧ d1 = d2
  all_goals
    first
      | have hus : [Sca.i .i64 p1, .i .i64 s1, .i .i64 d1] = [Sca.i .i64 p2, .i .i64 s2, .i .i64 d2] := by rw [h3.1, h3.2.1, h3.2.2]
      | have hus : ¬ [Sca.i .i64 p1, .i .i64 s1, .i .i64 d1] = [Sca.i .i64 p2, .i .i64 s2, .i .i64 d2] := fun e => h3 (by simpa using e)
    by_cases hss : z1.toNat = z2.toNat
    all_goals
      by_cases hcc : t1 = t2
      all_goals
        refine calls [(0, _), (1, _)] Try.func58 rfl Try.ntmps58 rfl ⟨rfl, rfl, trivial⟩ ?_
        all_goals (refine WC.seq ?_)
        all_goals (refine WC.region ?_)
        all_goals (refine WL.stepR (okE_box rfl) rfl rfl rfl ?_
                   rintro _ h1 ⟨b1, rfl, hg1, hb1, hx1⟩)
        all_goals (refine WL.stepR (okE_box rfl) rfl rfl rfl ?_
                   rintro _ h2 ⟨b2, rfl, hg2, hb2, hx2⟩)
        all_goals (have hb12 := hx2.obj hb1 nos
                   have hX2 := hx1.trans hx2
                   clear hb1)
        all_goals (refine WL.step (ok_assign rfl) rfl rfl rfl ?_)
        all_goals (refine WL.nil ?_)
        all_goals (repeat' (with_reducible first | refine thenP_n ?_ | refine blockP_n ?_))
        all_goals (refine WC.seq ?_)
        all_goals (refine WC.region ?_)
        all_goals (refine WL.step (ok_fieldAddr rfl Try.underlying84 rfl (fun w => Try.sizeOf3 w)) rfl rfl rfl ?_)
        all_goals (refine WL.step (ok_load (fun w => Try.isAgg3 w) rfl (by first | assumption | exact cell_blk (by assumption) rfl)) rfl rfl rfl ?_)
        all_goals (refine WL.step (ok_fieldAddr rfl Try.underlying84 rfl (fun w => Try.sizeOf3 w)) rfl rfl rfl ?_)
        all_goals (refine WL.step (ok_load (fun w => Try.isAgg3 w) rfl (by first | assumption | exact cell_blk (by assumption) rfl)) rfl rfl rfl ?_)
        all_goals (refine WL.step (ok_fieldAddr rfl Try.underlying84 rfl (fun w => Try.sizeOf3 w)) rfl rfl rfl ?_)
        all_goals (refine WL.step (ok_load (fun w => Try.isAgg3 w) rfl (by first | assumption | exact cell_blk (by assumption) rfl)) rfl rfl rfl ?_)
        all_goals (refine WL.step (ok_buildF (vs := [_, _, _]) (cs := [_, _, _]) (fun | [a0, a1, a2] => [a0, a1, a2] | _ => []) rfl rfl (by kernel_rfl)) rfl rfl rfl ?_)
        all_goals (refine WL.step (ok_fieldAddr rfl Try.underlying84 rfl (fun w => Try.sizeOf3 w)) rfl rfl rfl ?_)
        all_goals (refine WL.step (ok_load (fun w => Try.isAgg3 w) rfl (by first | assumption | exact cell_blk (by assumption) rfl)) rfl rfl rfl ?_)
        all_goals (refine WL.step (ok_fieldAddr rfl Try.underlying84 rfl (fun w => Try.sizeOf3 w)) rfl rfl rfl ?_)
        all_goals (refine WL.step (ok_load (fun w => Try.isAgg3 w) rfl (by first | assumption | exact cell_blk (by assumption) rfl)) rfl rfl rfl ?_)
        all_goals (refine WL.step (ok_fieldAddr rfl Try.underlying84 rfl (fun w => Try.sizeOf3 w)) rfl rfl rfl ?_)
        all_goals (refine WL.step (ok_load (fun w => Try.isAgg3 w) rfl (by first | assumption | exact cell_blk (by assumption) rfl)) rfl rfl rfl ?_)
        all_goals (refine WL.step (ok_buildF (vs := [_, _, _]) (cs := [_, _, _]) (fun | [a0, a1, a2] => [a0, a1, a2] | _ => []) rfl rfl (by kernel_rfl)) rfl rfl rfl ?_)
        all_goals (first
                    | refine WL.step (OkP.bool_t hus (ok_eqlAS (.i .i64) (us := [Sca.i .i64 p1, .i .i64 s1, .i .i64 d1]) (vs := [Sca.i .i64 p2, .i .i64 s2, .i .i64 d2]) Try.underlying104 (show Try.prog.info? 3 = some Try.t3 by kernel_rfl) (by kernel_rfl) (by kernel_rfl) (by kernel_rfl) (by kernel_rfl) rfl rfl (by simp [Sca.kd]) (by simp [Sca.kd]) rfl rfl)) rfl rfl rfl ?_
                    | refine WL.step (OkP.bool_f hus (ok_eqlAS (.i .i64) (us := [Sca.i .i64 p1, .i .i64 s1, .i .i64 d1]) (vs := [Sca.i .i64 p2, .i .i64 s2, .i .i64 d2]) Try.underlying104 (show Try.prog.info? 3 = some Try.t3 by kernel_rfl) (by kernel_rfl) (by kernel_rfl) (by kernel_rfl) (by kernel_rfl) rfl rfl (by simp [Sca.kd]) (by simp [Sca.kd]) rfl rfl)) rfl rfl rfl ?_)
        all_goals (refine WL.step (ok_assign rfl) rfl rfl rfl ?_)
        all_goals (refine WL.nil ?_)
        all_goals (repeat' (with_reducible first | refine thenP_n ?_ | refine blockP_n ?_))
        all_goals (refine WC.sub [(2, _), (3, _), (5, _)] ⟨rfl, rfl, rfl, trivial⟩ ?_)
        all_goals (refine WC.seq ?_)
        all_goals (refine WC.region ?_)
        all_goals (refine WL.step (ok_move rfl) rfl rfl rfl ?_)
        all_goals (refine WL.step (ok_move rfl) rfl rfl rfl ?_)
        all_goals (try ((fail_if_success (refine WL.part 22 (b := true) rfl (fun _ => ?_) (fun _ => ?_))); (fail_if_success (refine WL.part 22 (b := false) rfl (fun _ => ?_) (fun _ => ?_))); (refine WL.part 22 rfl (fun hb => ?_) (fun hb => ?_) <;> (first | replace hb := of_decide_eq_true hb | replace hb := of_decide_eq_false hb | replace hb := of_decide_eq_false (nt hb) | replace hb := of_decide_eq_true (nf hb) | skip))))
        all_goals (first | (refine WL.pass rfl rfl rfl ?_) | (refine WL.step (ok_fieldAddr rfl Try.underlying84 rfl (fun w => Try.sizeOf5 w)) rfl rfl rfl ?_))
        all_goals (first | (refine WL.pass rfl rfl rfl ?_) | (refine WL.step (ok_load (fun w => Try.isAgg5 w) rfl (by first | assumption | exact cell_blk (by assumption) rfl)) rfl rfl rfl ?_))
        all_goals (first | (refine WL.pass rfl rfl rfl ?_) | (refine WL.step (ok_fieldAddr rfl Try.underlying84 rfl (fun w => Try.sizeOf5 w)) rfl rfl rfl ?_))
        all_goals (first | (refine WL.pass rfl rfl rfl ?_) | (refine WL.step (ok_load (fun w => Try.isAgg5 w) rfl (by first | assumption | exact cell_blk (by assumption) rfl)) rfl rfl rfl ?_))
        all_goals (first | (refine WL.pass rfl rfl rfl ?_) | (first | (refine WL.step (OkP.bool_t (by omega) (ok_eql rfl rfl)) rfl rfl rfl ?_) | (refine WL.step (OkP.bool_f (by omega) (ok_eql rfl rfl)) rfl rfl rfl ?_) | (refine WL.step (ok_eql rfl rfl) rfl rfl rfl ?_)))
        all_goals (first | (refine WL.step (ok_pick_t rfl rfl) rfl rfl rfl ?_) | (refine WL.step (ok_pick_f rfl rfl) rfl rfl rfl ?_))
        all_goals (refine WL.step (ok_move rfl) rfl rfl rfl ?_)
        all_goals (try ((fail_if_success (refine WL.part 29 (b := true) rfl (fun _ => ?_) (fun _ => ?_))); (fail_if_success (refine WL.part 29 (b := false) rfl (fun _ => ?_) (fun _ => ?_))); (refine WL.part 29 rfl (fun hb => ?_) (fun hb => ?_) <;> (first | replace hb := of_decide_eq_true hb | replace hb := of_decide_eq_false hb | replace hb := of_decide_eq_false (nt hb) | replace hb := of_decide_eq_true (nf hb) | skip))))
        all_goals (first | (refine WL.pass rfl rfl rfl ?_) | (refine WL.step (ok_fieldAddr rfl Try.underlying84 rfl (fun w => Try.sizeOf36 w)) rfl rfl rfl ?_))
        all_goals (first | (refine WL.pass rfl rfl rfl ?_) | (refine WL.step (ok_load (fun w => Try.isAgg36 w) rfl (by first | assumption | exact cell_blk (by assumption) rfl)) rfl rfl rfl ?_))
        all_goals (first | (refine WL.pass rfl rfl rfl ?_) | (refine WL.step (ok_fieldAddr rfl Try.underlying84 rfl (fun w => Try.sizeOf36 w)) rfl rfl rfl ?_))
        all_goals (first | (refine WL.pass rfl rfl rfl ?_) | (refine WL.step (ok_load (fun w => Try.isAgg36 w) rfl (by first | assumption | exact cell_blk (by assumption) rfl)) rfl rfl rfl ?_))
        all_goals (first
                     | (refine WL.pass rfl rfl rfl ?_)
                     | (refine WL.call (vs := [_, _]) rfl (fun a w => Try.call23 a w) rfl (equal_int t1 t2 (hr1.ext0 hX2) (hr2.ext0 hX2) (by unfold maxLen; omega)) rfl rfl rfl ?_
                        rintro _ hz ⟨rfl, _⟩
                        subst hz))
        all_goals (first | rw [decide_eq_true hcc] | rw [decide_eq_false hcc] | skip)
        all_goals (first | (refine WL.step (ok_pick_t rfl rfl) rfl rfl rfl ?_) | (refine WL.step (ok_pick_f rfl rfl) rfl rfl rfl ?_))
        all_goals (refine WL.step (ok_move rfl) rfl rfl rfl ?_)
        all_goals (try ((fail_if_success (refine WL.part 36 (b := true) rfl (fun _ => ?_) (fun _ => ?_))); (fail_if_success (refine WL.part 36 (b := false) rfl (fun _ => ?_) (fun _ => ?_))); (refine WL.part 36 rfl (fun hb => ?_) (fun hb => ?_) <;> (first | replace hb := of_decide_eq_true hb | replace hb := of_decide_eq_false hb | replace hb := of_decide_eq_false (nt hb) | replace hb := of_decide_eq_true (nf hb) | skip))))
        all_goals (first | (refine WL.pass rfl rfl rfl ?_) | (refine WL.step (ok_fieldAddr rfl Try.underlying84 rfl (fun w => Try.sizeOf36 w)) rfl rfl rfl ?_))
        all_goals (first | (refine WL.pass rfl rfl rfl ?_) | (refine WL.step (ok_load (fun w => Try.isAgg36 w) rfl (by first | assumption | exact cell_blk (by assumption) rfl)) rfl rfl rfl ?_))
        all_goals (first | (refine WL.pass rfl rfl rfl ?_) | (refine WL.step (ok_fieldAddr rfl Try.underlying84 rfl (fun w => Try.sizeOf36 w)) rfl rfl rfl ?_))
        all_goals (first | (refine WL.pass rfl rfl rfl ?_) | (refine WL.step (ok_load (fun w => Try.isAgg36 w) rfl (by first | assumption | exact cell_blk (by assumption) rfl)) rfl rfl rfl ?_))
        all_goals (first
                     | (refine WL.pass rfl rfl rfl ?_)
                     | (refine WL.call (vs := [_, _]) rfl (fun a w => Try.call23 a w) rfl (equal_int q1 q2 (hq1.ext0 hX2) (hq2.ext0 hX2) (by unfold maxLen; omega)) rfl rfl rfl ?_
                        rintro _ hz ⟨rfl, _⟩
                        subst hz))
        all_goals (first | (refine WL.step (ok_pick_t rfl rfl) rfl rfl rfl ?_) | (refine WL.step (ok_pick_f rfl rfl) rfl rfl rfl ?_))
        all_goals (refine WL.step (ok_assign rfl) rfl rfl rfl ?_)
        all_goals (refine WL.nil ?_)
        all_goals (repeat' (with_reducible first | refine thenP_n ?_ | refine blockP_n ?_))
        all_goals (refine WC.sub [(4, _)] ⟨rfl, trivial⟩ ?_)
        all_goals (refine WC.ret ?_)
        all_goals (repeat' (with_reducible first | refine thenP_r ?_ | refine blockP_r ?_))
        all_goals (refine retP_1 _ ⟨rfl, trivial⟩ ?_)
        all_goals (refine ⟨congrArg Value.bool ?_, hX2⟩
                   unfold SV.pl
                   simp only [Prod.mk.injEq]
                   first
                    | (refine (decide_eq_false fun e => ?_).symm; exact h3 ⟨e.1, e.2.1, e.2.2.1⟩)
                    | (refine (decide_eq_false fun e => ?_).symm; exact hss (hzz.1 e.2.2.2.1))
                    | (refine (decide_eq_false fun e => ?_).symm; exact hcc e.2.2.2.2.1)
                    | (refine decide_eq_decide.2 ⟨fun e => ?_, fun e => ?_⟩; exact ⟨h3.1, h3.2.1, h3.2.2, hzz.2 hss, hcc, e⟩; exact e.2.2.2.2.2))
set_option maxHeartbeats 1000000 in
set_option maxRecDepth 100000 in
theorem server46 {h : Heap} (a b : SV) (ha : a.ok h) (hb : b.ok h) (hl : a.c.length ≤ 1000) (hl2 : a.p.length ≤ 1000) : CallsH Try.prog 61 ⟨[.agg ⟨a.cells⟩, .agg ⟨b.cells⟩]⟩ h fun u h' => u = .bool (decide (a.pl = b.pl)) ∧ Ext No h h' := by
  obtain ⟨p1, s1, d1, z1, v1, t1, w1, q1⟩ := a
  obtain ⟨p2, s2, d2, z2, v2, t2, w2, q2⟩ := b
  obtain ⟨hr1, _, hq1, _⟩ := ha
  obtain ⟨hr2, _, hq2, _⟩ := hb
  simp only at hr1 hr2 hq1 hq2 hl hl2
  obtain ⟨A1, c1, rfl, _⟩ := id hr1
  obtain ⟨A2, c2, rfl, _⟩ := id hr2
  obtain ⟨A3, c3, rfl, _⟩ := id hq1
  obtain ⟨A4, c4, rfl, _⟩ := id hq2
  dsimp only [SV.cells]
  have hzz : z1 = z2 ↔ z1.toNat = z2.toNat := ⟨fun e => by rw [e], fun e => UInt8.toNat_inj.1 e⟩
  have hcs : ¬ p1 = p2 ∨ (p1 = p2 ∧ ¬ s1 = s2) ∨ (p1 = p2 ∧ s1 = s2 ∧ ¬ d1 = d2) ∨ (p1 = p2 ∧ s1 = s2 ∧ d1 = d2 ∧ ¬ z1.toNat = z2.toNat) ∨ (p1 = p2 ∧ s1 = s2 ∧ d1 = d2 ∧ z1.toNat = z2.toNat) := by omega
  rcases hcs with e1 | ⟨e1, e2⟩ | ⟨e1, e2, e3⟩ | ⟨e1, e2, e3, e4⟩ | ⟨e1, e2, e3, e4⟩
  all_goals
    by_cases hcc : t1 = t2
    all_goals
      refine calls [(0, _), (1, _)] Try.func61 rfl Try.ntmps61 rfl ⟨rfl, rfl, trivial⟩ ?_
      all_goals (refine WC.seq ?_)
      all_goals (refine WC.region ?_)
      all_goals (refine WL.stepR (okE_box rfl) rfl rfl rfl ?_
                 rintro _ h1 ⟨b1, rfl, hg1, hb1, hx1⟩)
      all_goals (refine WL.stepR (okE_box rfl) rfl rfl rfl ?_
                 rintro _ h2 ⟨b2, rfl, hg2, hb2, hx2⟩)
      all_goals (have hb12 := hx2.obj hb1 nos
                 have hX2 := hx1.trans hx2
                 clear hb1)
      all_goals (refine WL.step (ok_assign rfl) rfl rfl rfl ?_)
      all_goals (refine WL.nil ?_)
      all_goals (repeat' (with_reducible first | refine thenP_n ?_ | refine blockP_n ?_))
      all_goals (refine WC.seq ?_)
      all_goals (refine WC.region ?_)
      all_goals (refine WL.step (ok_fieldAddr rfl Try.underlying84 rfl (fun w => Try.sizeOf3 w)) rfl rfl rfl ?_)
      all_goals (refine WL.step (ok_load (fun w => Try.isAgg3 w) rfl (by first | assumption | exact cell_blk (by assumption) rfl)) rfl rfl rfl ?_)
      all_goals (refine WL.step (ok_fieldAddr rfl Try.underlying84 rfl (fun w => Try.sizeOf3 w)) rfl rfl rfl ?_)
      all_goals (refine WL.step (ok_load (fun w => Try.isAgg3 w) rfl (by first | assumption | exact cell_blk (by assumption) rfl)) rfl rfl rfl ?_)
      all_goals (first | (refine WL.step (OkP.bool_t (by omega) (ok_eql rfl rfl)) rfl rfl rfl ?_) | (refine WL.step (OkP.bool_f (by omega) (ok_eql rfl rfl)) rfl rfl rfl ?_) | (refine WL.step (ok_eql rfl rfl) rfl rfl rfl ?_))
      all_goals (refine WL.step (ok_move rfl) rfl rfl rfl ?_)
      all_goals (try ((fail_if_success (refine WL.part 11 (b := true) rfl (fun _ => ?_) (fun _ => ?_))); (fail_if_success (refine WL.part 11 (b := false) rfl (fun _ => ?_) (fun _ => ?_))); (refine WL.part 11 rfl (fun hb => ?_) (fun hb => ?_) <;> (first | replace hb := of_decide_eq_true hb | replace hb := of_decide_eq_false hb | replace hb := of_decide_eq_false (nt hb) | replace hb := of_decide_eq_true (nf hb) | skip))))
      all_goals (first | (refine WL.pass rfl rfl rfl ?_) | (refine WL.step (ok_fieldAddr rfl Try.underlying84 rfl (fun w => Try.sizeOf3 w)) rfl rfl rfl ?_))
      all_goals (first | (refine WL.pass rfl rfl rfl ?_) | (refine WL.step (ok_load (fun w => Try.isAgg3 w) rfl (by first | assumption | exact cell_blk (by assumption) rfl)) rfl rfl rfl ?_))
      all_goals (first | (refine WL.pass rfl rfl rfl ?_) | (refine WL.step (ok_fieldAddr rfl Try.underlying84 rfl (fun w => Try.sizeOf3 w)) rfl rfl rfl ?_))
      all_goals (first | (refine WL.pass rfl rfl rfl ?_) | (refine WL.step (ok_load (fun w => Try.isAgg3 w) rfl (by first | assumption | exact cell_blk (by assumption) rfl)) rfl rfl rfl ?_))
      all_goals (first | (refine WL.pass rfl rfl rfl ?_) | (first | (refine WL.step (OkP.bool_t (by omega) (ok_eql rfl rfl)) rfl rfl rfl ?_) | (refine WL.step (OkP.bool_f (by omega) (ok_eql rfl rfl)) rfl rfl rfl ?_) | (refine WL.step (ok_eql rfl rfl) rfl rfl rfl ?_)))
      all_goals (first | (refine WL.step (ok_pick_t rfl rfl) rfl rfl rfl ?_) | (refine WL.step (ok_pick_f rfl rfl) rfl rfl rfl ?_))
      all_goals (refine WL.step (ok_move rfl) rfl rfl rfl ?_)
      all_goals (try ((fail_if_success (refine WL.part 18 (b := true) rfl (fun _ => ?_) (fun _ => ?_))); (fail_if_success (refine WL.part 18 (b := false) rfl (fun _ => ?_) (fun _ => ?_))); (refine WL.part 18 rfl (fun hb => ?_) (fun hb => ?_) <;> (first | replace hb := of_decide_eq_true hb | replace hb := of_decide_eq_false hb | replace hb := of_decide_eq_false (nt hb) | replace hb := of_decide_eq_true (nf hb) | skip))))
      all_goals (first | (refine WL.pass rfl rfl rfl ?_) | (refine WL.step (ok_fieldAddr rfl Try.underlying84 rfl (fun w => Try.sizeOf3 w)) rfl rfl rfl ?_))
      all_goals (first | (refine WL.pass rfl rfl rfl ?_) | (refine WL.step (ok_load (fun w => Try.isAgg3 w) rfl (by first | assumption | exact cell_blk (by assumption) rfl)) rfl rfl rfl ?_))
      all_goals (first | (refine WL.pass rfl rfl rfl ?_) | (refine WL.step (ok_fieldAddr rfl Try.underlying84 rfl (fun w => Try.sizeOf3 w)) rfl rfl rfl ?_))
      all_goals (first | (refine WL.pass rfl rfl rfl ?_) | (refine WL.step (ok_load (fun w => Try.isAgg3 w) rfl (by first | assumption | exact cell_blk (by assumption) rfl)) rfl rfl rfl ?_))
      all_goals (first | (refine WL.pass rfl rfl rfl ?_) | (first | (refine WL.step (OkP.bool_t (by omega) (ok_eql rfl rfl)) rfl rfl rfl ?_) | (refine WL.step (OkP.bool_f (by omega) (ok_eql rfl rfl)) rfl rfl rfl ?_) | (refine WL.step (ok_eql rfl rfl) rfl rfl rfl ?_)))
      all_goals (first | (refine WL.step (ok_pick_t rfl rfl) rfl rfl rfl ?_) | (refine WL.step (ok_pick_f rfl rfl) rfl rfl rfl ?_))
      all_goals (refine WL.step (ok_move rfl) rfl rfl rfl ?_)
      all_goals (try ((fail_if_success (refine WL.part 25 (b := true) rfl (fun _ => ?_) (fun _ => ?_))); (fail_if_success (refine WL.part 25 (b := false) rfl (fun _ => ?_) (fun _ => ?_))); (refine WL.part 25 rfl (fun hb => ?_) (fun hb => ?_) <;> (first | replace hb := of_decide_eq_true hb | replace hb := of_decide_eq_false hb | replace hb := of_decide_eq_false (nt hb) | replace hb := of_decide_eq_true (nf hb) | skip))))
      all_goals (first | (refine WL.pass rfl rfl rfl ?_) | (refine WL.step (ok_fieldAddr rfl Try.underlying84 rfl (fun w => Try.sizeOf5 w)) rfl rfl rfl ?_))
      all_goals (first | (refine WL.pass rfl rfl rfl ?_) | (refine WL.step (ok_load (fun w => Try.isAgg5 w) rfl (by first | assumption | exact cell_blk (by assumption) rfl)) rfl rfl rfl ?_))
      all_goals (first | (refine WL.pass rfl rfl rfl ?_) | (refine WL.step (ok_fieldAddr rfl Try.underlying84 rfl (fun w => Try.sizeOf5 w)) rfl rfl rfl ?_))
      all_goals (first | (refine WL.pass rfl rfl rfl ?_) | (refine WL.step (ok_load (fun w => Try.isAgg5 w) rfl (by first | assumption | exact cell_blk (by assumption) rfl)) rfl rfl rfl ?_))
      all_goals (first | (refine WL.pass rfl rfl rfl ?_) | (first | (refine WL.step (OkP.bool_t (by omega) (ok_eql rfl rfl)) rfl rfl rfl ?_) | (refine WL.step (OkP.bool_f (by omega) (ok_eql rfl rfl)) rfl rfl rfl ?_) | (refine WL.step (ok_eql rfl rfl) rfl rfl rfl ?_)))
      all_goals (first | (refine WL.step (ok_pick_t rfl rfl) rfl rfl rfl ?_) | (refine WL.step (ok_pick_f rfl rfl) rfl rfl rfl ?_))
      all_goals (refine WL.step (ok_assign rfl) rfl rfl rfl ?_)
      all_goals (refine WL.nil ?_)
      all_goals (repeat' (with_reducible first | refine thenP_n ?_ | refine blockP_n ?_))
      all_goals (refine WC.sub [(2, _), (3, _), (5, _)] ⟨rfl, rfl, rfl, trivial⟩ ?_)
      all_goals (refine WC.seq ?_)
      all_goals (refine WC.region ?_)
      all_goals (refine WL.step (ok_move rfl) rfl rfl rfl ?_)
      all_goals (refine WL.step (ok_move rfl) rfl rfl rfl ?_)
      all_goals (try ((fail_if_success (refine WL.part 33 (b := true) rfl (fun _ => ?_) (fun _ => ?_))); (fail_if_success (refine WL.part 33 (b := false) rfl (fun _ => ?_) (fun _ => ?_))); (refine WL.part 33 rfl (fun hb => ?_) (fun hb => ?_) <;> (first | replace hb := of_decide_eq_true hb | replace hb := of_decide_eq_false hb | replace hb := of_decide_eq_false (nt hb) | replace hb := of_decide_eq_true (nf hb) | skip))))
      all_goals (first | (refine WL.pass rfl rfl rfl ?_) | (refine WL.step (ok_fieldAddr rfl Try.underlying84 rfl (fun w => Try.sizeOf36 w)) rfl rfl rfl ?_))
      all_goals (first | (refine WL.pass rfl rfl rfl ?_) | (refine WL.step (ok_load (fun w => Try.isAgg36 w) rfl (by first | assumption | exact cell_blk (by assumption) rfl)) rfl rfl rfl ?_))
      all_goals (first | (refine WL.pass rfl rfl rfl ?_) | (refine WL.step (ok_fieldAddr rfl Try.underlying84 rfl (fun w => Try.sizeOf36 w)) rfl rfl rfl ?_))
      all_goals (first | (refine WL.pass rfl rfl rfl ?_) | (refine WL.step (ok_load (fun w => Try.isAgg36 w) rfl (by first | assumption | exact cell_blk (by assumption) rfl)) rfl rfl rfl ?_))
      all_goals (first
                   | (refine WL.pass rfl rfl rfl ?_)
                   | (refine WL.call (vs := [_, _]) rfl (fun a w => Try.call62 a w) rfl (ints46 t1 t2 (hr1.ext0 hX2) (hr2.ext0 hX2) (by omega)) rfl rfl rfl ?_
                      rintro _ hz ⟨rfl, _⟩
                      subst hz))
      all_goals (first | rw [decide_eq_true hcc] | rw [decide_eq_false hcc] | skip)
      all_goals (first | (refine WL.step (ok_pick_t rfl rfl) rfl rfl rfl ?_) | (refine WL.step (ok_pick_f rfl rfl) rfl rfl rfl ?_))
      all_goals (refine WL.step (ok_move rfl) rfl rfl rfl ?_)
      all_goals (try ((fail_if_success (refine WL.part 40 (b := true) rfl (fun _ => ?_) (fun _ => ?_))); (fail_if_success (refine WL.part 40 (b := false) rfl (fun _ => ?_) (fun _ => ?_))); (refine WL.part 40 rfl (fun hb => ?_) (fun hb => ?_) <;> (first | replace hb := of_decide_eq_true hb | replace hb := of_decide_eq_false hb | replace hb := of_decide_eq_false (nt hb) | replace hb := of_decide_eq_true (nf hb) | skip))))
      all_goals (first | (refine WL.pass rfl rfl rfl ?_) | (refine WL.step (ok_fieldAddr rfl Try.underlying84 rfl (fun w => Try.sizeOf36 w)) rfl rfl rfl ?_))
      all_goals (first | (refine WL.pass rfl rfl rfl ?_) | (refine WL.step (ok_load (fun w => Try.isAgg36 w) rfl (by first | assumption | exact cell_blk (by assumption) rfl)) rfl rfl rfl ?_))
      all_goals (first | (refine WL.pass rfl rfl rfl ?_) | (refine WL.step (ok_fieldAddr rfl Try.underlying84 rfl (fun w => Try.sizeOf36 w)) rfl rfl rfl ?_))
      all_goals (first | (refine WL.pass rfl rfl rfl ?_) | (refine WL.step (ok_load (fun w => Try.isAgg36 w) rfl (by first | assumption | exact cell_blk (by assumption) rfl)) rfl rfl rfl ?_))
      all_goals (first
                   | (refine WL.pass rfl rfl rfl ?_)
                   | (refine WL.call (vs := [_, _]) rfl (fun a w => Try.call62 a w) rfl (ints46 q1 q2 (hq1.ext0 hX2) (hq2.ext0 hX2) (by omega)) rfl rfl rfl ?_
                      rintro _ hz ⟨rfl, _⟩
                      subst hz))
      all_goals (first | (refine WL.step (ok_pick_t rfl rfl) rfl rfl rfl ?_) | (refine WL.step (ok_pick_f rfl rfl) rfl rfl rfl ?_))
      all_goals (refine WL.step (ok_assign rfl) rfl rfl rfl ?_)
      all_goals (refine WL.nil ?_)
      all_goals (repeat' (with_reducible first | refine thenP_n ?_ | refine blockP_n ?_))
      all_goals (refine WC.sub [(4, _)] ⟨rfl, trivial⟩ ?_)
      all_goals (refine WC.ret ?_)
      all_goals (repeat' (with_reducible first | refine thenP_r ?_ | refine blockP_r ?_))
      all_goals (refine retP_1 _ ⟨rfl, trivial⟩ ?_)
      all_goals (refine ⟨congrArg Value.bool ?_, hX2⟩
                 unfold SV.pl
                 simp only [Prod.mk.injEq]
                 first
                  | (refine (decide_eq_false fun e => ?_).symm; exact e1 e.1)
                  | (refine (decide_eq_false fun e => ?_).symm; exact e2 e.2.1)
                  | (refine (decide_eq_false fun e => ?_).symm; exact e3 e.2.2.1)
                  | (refine (decide_eq_false fun e => ?_).symm; exact e4 (hzz.1 e.2.2.2.1))
                  | (refine (decide_eq_false fun e => ?_).symm; exact hcc e.2.2.2.2.1)
                  | (refine decide_eq_decide.2 ⟨fun e => ?_, fun e => ?_⟩; exact ⟨e1, e2, e3, hzz.2 e4, hcc, e⟩; exact e.2.2.2.2.2))
end Go.Proofs.Ytfadcbbjjdmmfaa

