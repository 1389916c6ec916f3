/-
  HBA (layer 52): compares; the text of rules.
-/
import Derived.Test.YtfbekbkkklijiaaDoorHba4
namespace Go.Proofs.YtfbekbkkklijiaaDoor
open Go Go.RK

theorem take_same {α : Type} {l m : List α} {k : Nat} {x : α} (h : l.take k = m.take k) (hl : l[k]? = some x) (hm : m[k]? = some x) : l.take (k + 1) = m.take (k + 1) := by
  rw [List.take_add_one, List.take_add_one, hl, hm, h]
theorem same_of {α : Type} {l m : List α} {k : Nat} (h : l.take k = m.take k) (hl : l.length ≤ k) (hm : m.length ≤ k) : l = m := by
  rwa [List.take_of_length_le hl, List.take_of_length_le hm] at h
theorem ne_of_at {α : Type} {l m : List α} {k : Nat} {x y : α} (hl : l[k]? = some x) (hm : m[k]? = some y) (hne : x ≠ y) : l ≠ m := by
  rintro rfl
  rw [hl] at hm
  exact hne (Option.some.inj hm)
set_option maxRecDepth 100000 in
theorem eq_rules {h : Heap} {v w : Value} (l m : List RuD) (hr : Rd h v 3 l.length (l.flatMap RuD.cells)) (hs : Rd h w 3 m.length (m.flatMap RuD.cells)) (hl : l.length ≤ 1000000) (hm : m.length ≤ 1000000) :
    CallsH Tryd.prog 51 ⟨[v, w]⟩ h fun u h' => u = .bool (decide (l = m)) ∧ h' = h := by
  obtain ⟨A, c, rfl, _⟩ := id hr
  obtain ⟨B, d, rfl, _⟩ := id hs
  by_cases hlm : l.length = m.length
  ·
    refine calls [(0, _), (1, _)] Tryd.func51 rfl Tryd.ntmps51 rfl ⟨rfl, rfl, trivial⟩ ?_
    all_goals (refine WC.seq ?_)
    all_goals (refine WC.region ?_)
    all_goals (refine WL.step (ok_assign rfl) rfl rfl rfl ?_)
    all_goals (refine WL.nil ?_)
    all_goals (repeat' (with_reducible first | refine thenP_n ?_ | refine blockP_n ?_))
    all_goals (refine WC.seq ?_)
    all_goals (refine WC.seq ?_)
    all_goals (refine WC.region ?_)
    all_goals (refine WL.step (ok_move rfl) rfl rfl rfl ?_)
    all_goals (refine WL.step (ok_lenL rfl Tryd.underlying22 rfl) rfl rfl rfl ?_)
    all_goals (refine WL.step (ok_move rfl) rfl rfl rfl ?_)
    all_goals (refine WL.step (ok_lenL rfl Tryd.underlying22 rfl) rfl rfl rfl ?_)
    all_goals (first | (refine WL.step (OkP.nbool_t (by omega) (ok_neq rfl rfl)) rfl rfl rfl ?_) | (refine WL.step (OkP.nbool_f (by omega) (ok_neq rfl rfl)) rfl rfl rfl ?_) | (refine WL.step (ok_neq rfl rfl) rfl rfl rfl ?_))
    all_goals (refine WL.nil ?_)
    all_goals (repeat' (with_reducible first | refine thenP_n ?_ | refine blockP_n ?_))
    all_goals (refine WC.sub [(0, _), (1, _), (10, _)] ⟨rfl, rfl, rfl, trivial⟩ ?_)
    all_goals (first | refine WC.condB_t 1 rfl ?_ | refine WC.condB_f 2 rfl ?_ | (refine WC.condB 1 2 rfl (fun hb => ?_) (fun hb => ?_) <;> (first | replace hb := of_decide_eq_true hb | replace hb := of_decide_eq_false hb | replace hb := of_decide_eq_false (nt hb) | replace hb := of_decide_eq_true (nf hb) | skip)))
    all_goals (first
      | (fail_if_success (refine Br.mk (i := 1) ?_))
      | (refine Br.mk (i := 1) ?_
         all_goals (refine WC.seq ?_)
         all_goals (refine WC.region ?_)
         all_goals (refine WL.step (ok_assign rfl) rfl rfl rfl ?_)
         all_goals (refine WL.nil ?_)
         all_goals (repeat' (with_reducible first | refine thenP_n ?_ | refine blockP_n ?_))
         all_goals (refine WC.ret ?_)
         all_goals (repeat' (with_reducible first | refine thenP_r ?_ | refine blockP_r ?_))
         all_goals (refine retP_1 _ ⟨rfl, trivial⟩ ?_)
         all_goals (first
                     | exact ⟨by rw [decide_eq_true (same_of hn (by omega) (by omega))], rfl⟩
                     | exact ⟨by rw [decide_eq_false (ne_of_at hx hy hxy)], rfl⟩)
         skip))
    all_goals (first
      | (fail_if_success (refine Br.mk (i := 2) ?_))
      | (refine Br.mk (i := 2) ?_
         all_goals (refine WC.skip ?_)
         skip))
    all_goals (repeat' (with_reducible first | refine thenP_n ?_ | refine blockP_n ?_))
    all_goals (refine WC.seq ?_)
    all_goals (refine WC.seq ?_)
    all_goals (refine WC.region ?_)
    all_goals (refine WL.step (ok_move rfl) rfl rfl rfl ?_)
    all_goals (refine WL.step (ok_lenL rfl Tryd.underlying22 rfl) rfl rfl rfl ?_)
    all_goals (refine WL.step (ok_move rfl) rfl rfl rfl ?_)
    all_goals (refine WL.nil ?_)
    all_goals (repeat' (with_reducible first | refine thenP_n ?_ | refine blockP_n ?_))
    all_goals (refine WC.block ?_)
    -- loop 0: slots that turn [13], that stay [0, 1, 12]
    all_goals (refine WC.loopG (X := Nat) (fun x => ([(13, In (x : Int))] : Fr)) [(0, _), (1, _), (12, _)] (fun k h' => h' = h ∧ k ≤ l.length ∧ l.take k = m.take k) (fun k => l.length - k) (0) ⟨rfl, rfl, rfl, rfl, trivial⟩ (by exact ⟨rfl, Nat.zero_le _, by simp⟩) ?_)
    all_goals (rintro k h9 ⟨hz, hk, hn⟩
               subst h9)
    all_goals (refine WC.sub [(13, _), (0, _), (1, _), (12, _)] ⟨rfl, rfl, rfl, rfl, trivial⟩ ?_)
    all_goals (refine WC.seq ?_)
    all_goals (refine WC.region ?_)
    all_goals (first | (refine WL.step (OkP.bool_t (by omega) (ok_lss rfl rfl)) rfl rfl rfl ?_) | (refine WL.step (OkP.bool_f (by omega) (ok_lss rfl rfl)) rfl rfl rfl ?_) | (refine WL.step (ok_lss rfl rfl) rfl rfl rfl ?_))
    all_goals (refine WL.nil ?_)
    all_goals (repeat' (with_reducible first | refine thenP_n ?_ | refine blockP_n ?_))
    all_goals (refine WC.seq ?_)
    all_goals (first | refine WC.condB_t 3 rfl ?_ | refine WC.condB_f 4 rfl ?_ | (refine WC.condB 3 4 rfl (fun hb => ?_) (fun hb => ?_) <;> (first | replace hb := of_decide_eq_true hb | replace hb := of_decide_eq_false hb | replace hb := of_decide_eq_false (nt hb) | replace hb := of_decide_eq_true (nf hb) | skip)))
    all_goals (first
      | (fail_if_success (refine Br.mk (i := 3) ?_))
      | (refine Br.mk (i := 3) ?_
         all_goals (refine WC.skip ?_)
         skip))
    all_goals (first
      | (fail_if_success (refine Br.mk (i := 4) ?_))
      | (refine Br.mk (i := 4) ?_
         all_goals (refine WC.exit ?_)
         all_goals (repeat' (with_reducible first | refine thenP_x ?_ | refine blockP_miss rfl ?_ | refine blockP_hit ?_ | refine blockP_n ?_ | refine thenP_n ?_))
         all_goals (refine Br.out (i := 1000) ?_)
         skip))
    all_goals (first | (refine Br.keep ?_) | (repeat' (with_reducible first | refine thenP_n ?_ | refine blockP_n ?_)))
    all_goals (first | (refine Br.keep ?_) | (refine WC.seq ?_))
    all_goals (first | (refine Br.keep ?_) | (refine WC.block ?_))
    all_goals (first | (refine Br.keep ?_) | (refine WC.seq ?_))
    all_goals (first | (refine Br.keep ?_) | (refine WC.region ?_))
    all_goals (first
                 | (refine Br.keep ?_)
                 | (obtain ⟨bL, oL, hA, hbL, hat⟩ := Rd.at_ hr (by omega)
                    obtain ⟨bM, oM, hB, hbM, hbt⟩ := Rd.at_ hs (by omega)
                    obtain ⟨⟨xa, xd, xu⟩, hx⟩ : ∃ y, l[k]? = some y := ⟨_, List.getElem?_eq_getElem (by omega)⟩
                    obtain ⟨⟨ya, yd, yu⟩, hy⟩ : ∃ y, m[k]? = some y := ⟨_, List.getElem?_eq_getElem (by omega)⟩
                    have hc : At h bL (oL + k * 3) [.bool xa, St xd, St xu] := At.elem RuD.len hat hx
                    have hd : At h bM (oM + k * 3) [.bool ya, St yd, St yu] := At.elem RuD.len hbt hy
                    by_cases hxy : (⟨xa, xd, xu⟩ : RuD) = ⟨ya, yd, yu⟩))
    all_goals (first | (refine Br.keep ?_) | (refine WL.step (ok_move rfl) rfl rfl rfl ?_))
    all_goals (first | (refine Br.keep ?_) | (refine WL.step (ok_assign rfl) rfl rfl rfl ?_))
    all_goals (first | (refine Br.keep ?_) | (refine WL.nil ?_))
    all_goals (first | (refine Br.keep ?_) | (repeat' (with_reducible first | refine thenP_n ?_ | refine blockP_n ?_)))
    all_goals (first | (refine Br.keep ?_) | (refine WC.seq ?_))
    all_goals (first | (refine Br.keep ?_) | (refine WC.drawE fol (by kernel_rfl) ?_))
    all_goals (first | (refine Br.keep ?_) | (refine WQ.stepE (ok_move rfl) rfl rfl rfl ?_))
    all_goals (first | (refine Br.keep ?_) | (refine WQ.stepE (ok_move rfl) rfl rfl rfl ?_))
    all_goals (first | (refine Br.keep ?_) | (refine WQ.stepE (ok_idxAddrA Tryd.underlying22 (fun w => Tryd.sizeOf50 w) rfl rfl rfl (by omega) (by first | rfl | assumption)) rfl rfl rfl ?_))
    all_goals (first | (refine Br.keep ?_) | (refine WQ.stepE (ok_loadN (fun w => Tryd.isAgg50 w) (fun w => Tryd.sizeOf50 w) rfl rfl (by assumption)) rfl rfl rfl ?_))
    all_goals (first | (refine Br.keep ?_) | (refine WQ.stepE (ok_move rfl) rfl rfl rfl ?_))
    all_goals (first | (refine Br.keep ?_) | (refine WQ.stepE (ok_move rfl) rfl rfl rfl ?_))
    all_goals (first | (refine Br.keep ?_) | (refine WQ.stepE (ok_idxAddrA Tryd.underlying22 (fun w => Tryd.sizeOf50 w) rfl rfl rfl (by omega) (by first | rfl | assumption)) rfl rfl rfl ?_))
    all_goals (first | (refine Br.keep ?_) | (refine WQ.stepE (ok_loadN (fun w => Tryd.isAgg50 w) (fun w => Tryd.sizeOf50 w) rfl rfl (by assumption)) rfl rfl rfl ?_))
    all_goals (first
                 | (refine Br.keep ?_)
                 | (first
                     | refine WQ.stepE (OkP.nbool_f ((RuD.inj ⟨xa, xd, xu⟩ ⟨ya, yd, yu⟩).2 hxy) (ok_neqF (us := [.b xa, .s xd, .s xu]) (vs := [.b ya, .s yd, .s yu]) [.b, .s, .s] (by kernel_rfl) rfl rfl rfl rfl)) rfl rfl rfl ?_
                     | refine WQ.stepE (OkP.nbool_t (fun e => hxy ((RuD.inj ⟨xa, xd, xu⟩ ⟨ya, yd, yu⟩).1 e)) (ok_neqF (us := [.b xa, .s xd, .s xu]) (vs := [.b ya, .s yd, .s yu]) [.b, .s, .s] (by kernel_rfl) rfl rfl rfl rfl)) rfl rfl rfl ?_))
    all_goals (first | (refine Br.keep ?_) | (refine WQ.nil ?_))
    all_goals (first | (refine Br.keep ?_) | (repeat' (with_reducible first | refine thenP_n ?_ | refine blockP_n ?_)))
    all_goals (first | (refine Br.keep ?_) | (refine WC.sub [(0, _), (1, _), (12, _), (13, _), (24, _)] ⟨rfl, rfl, rfl, rfl, rfl, trivial⟩ ?_))
    all_goals (first | (refine Br.keep ?_) | (first | refine WC.condB_t 5 rfl ?_ | refine WC.condB_f 6 rfl ?_ | (refine WC.condB 5 6 rfl (fun hb => ?_) (fun hb => ?_) <;> (first | replace hb := of_decide_eq_true hb | replace hb := of_decide_eq_false hb | replace hb := of_decide_eq_false (nt hb) | replace hb := of_decide_eq_true (nf hb) | skip))))
    all_goals (first
      | (fail_if_success (refine Br.mk (i := 5) ?_))
      | (refine Br.mk (i := 5) ?_
         all_goals (refine WC.seq ?_)
         all_goals (refine WC.region ?_)
         all_goals (refine WL.step (ok_assign rfl) rfl rfl rfl ?_)
         all_goals (refine WL.nil ?_)
         all_goals (repeat' (with_reducible first | refine thenP_n ?_ | refine blockP_n ?_))
         all_goals (refine WC.sub [(4, _)] ⟨rfl, trivial⟩ ?_)
         all_goals (refine WC.ret ?_)
         all_goals (repeat' (with_reducible first | refine thenP_r ?_ | refine blockP_r ?_))
         all_goals (refine retP_1 _ ⟨rfl, trivial⟩ ?_)
         all_goals (first
                     | exact ⟨by rw [decide_eq_true (same_of hn (by omega) (by omega))], rfl⟩
                     | exact ⟨by rw [decide_eq_false (ne_of_at hx hy hxy)], rfl⟩)
         skip))
    all_goals (first
      | (fail_if_success (refine Br.mk (i := 6) ?_))
      | (refine Br.mk (i := 6) ?_
         all_goals (refine WC.skip ?_)
         skip))
    all_goals (first | (refine Br.keep ?_) | (repeat' (with_reducible first | refine thenP_n ?_ | refine blockP_n ?_)))
    all_goals (first | (refine Br.keep ?_) | (refine WC.region ?_))
    all_goals (first | (refine Br.keep ?_) | (first | (refine WL.step (ok_addI rfl rfl (by omega)) rfl rfl rfl ?_) | (refine WL.step (ok_add rfl rfl) rfl rfl rfl ?_)))
    all_goals (first | (refine Br.keep ?_) | (refine WL.step (ok_move rfl) rfl rfl rfl ?_))
    all_goals (first | (refine Br.keep ?_) | (refine WL.nil ?_))
    all_goals (first | (refine Br.keep ?_) | (repeat' (with_reducible first | refine thenP_n ?_ | refine blockP_n ?_)))
    all_goals (first | (refine Br.keep ?_) | (exact ⟨k + 1, ⟨rfl, rfl, rfl, rfl, trivial⟩, (by exact ⟨rfl, by omega, take_same hn hx (by rw [hxy]; exact hy)⟩), (by omega)⟩))
    all_goals (try (refine Br.mk (i := 1000) ?_))
    all_goals (repeat' (with_reducible first | refine thenP_n ?_ | refine blockP_n ?_))
    all_goals (refine WC.sub [] trivial ?_)
    all_goals (refine WC.seq ?_)
    all_goals (refine WC.region ?_)
    all_goals (refine WL.step (ok_assign rfl) rfl rfl rfl ?_)
    all_goals (refine WL.nil ?_)
    all_goals (repeat' (with_reducible first | refine thenP_n ?_ | refine blockP_n ?_))
    all_goals (refine WC.ret ?_)
    all_goals (repeat' (with_reducible first | refine thenP_r ?_ | refine blockP_r ?_))
    all_goals (refine retP_1 _ ⟨rfl, trivial⟩ ?_)
    all_goals (first
                | exact ⟨by rw [decide_eq_true (same_of hn (by omega) (by omega))], rfl⟩
                | exact ⟨by rw [decide_eq_false (ne_of_at hx hy hxy)], rfl⟩)
  · have hne : l ≠ m := fun e => hlm (by rw [e])
    refine calls [(0, _), (1, _)] Tryd.func51 rfl Tryd.ntmps51 rfl ⟨rfl, rfl, trivial⟩ ?_
    all_goals (refine WC.seq ?_)
    all_goals (refine WC.region ?_)
    all_goals (refine WL.step (ok_assign rfl) rfl rfl rfl ?_)
    all_goals (refine WL.nil ?_)
    all_goals (repeat' (with_reducible first | refine thenP_n ?_ | refine blockP_n ?_))
    all_goals (refine WC.seq ?_)
    all_goals (refine WC.seq ?_)
    all_goals (refine WC.region ?_)
    all_goals (refine WL.step (ok_move rfl) rfl rfl rfl ?_)
    all_goals (refine WL.step (ok_lenL rfl Tryd.underlying22 rfl) rfl rfl rfl ?_)
    all_goals (refine WL.step (ok_move rfl) rfl rfl rfl ?_)
    all_goals (refine WL.step (ok_lenL rfl Tryd.underlying22 rfl) rfl rfl rfl ?_)
    all_goals (first | (refine WL.step (OkP.nbool_t (by omega) (ok_neq rfl rfl)) rfl rfl rfl ?_) | (refine WL.step (OkP.nbool_f (by omega) (ok_neq rfl rfl)) rfl rfl rfl ?_) | (refine WL.step (ok_neq rfl rfl) rfl rfl rfl ?_))
    all_goals (refine WL.nil ?_)
    all_goals (repeat' (with_reducible first | refine thenP_n ?_ | refine blockP_n ?_))
    all_goals (refine WC.sub [(0, _), (1, _), (10, _)] ⟨rfl, rfl, rfl, trivial⟩ ?_)
    all_goals (first | refine WC.condB_t 1 rfl ?_ | refine WC.condB_f 2 rfl ?_ | (refine WC.condB 1 2 rfl (fun hb => ?_) (fun hb => ?_) <;> (first | replace hb := of_decide_eq_true hb | replace hb := of_decide_eq_false hb | replace hb := of_decide_eq_false (nt hb) | replace hb := of_decide_eq_true (nf hb) | skip)))
    all_goals (first
      | (fail_if_success (refine Br.mk (i := 1) ?_))
      | (refine Br.mk (i := 1) ?_
         all_goals (refine WC.seq ?_)
         all_goals (refine WC.region ?_)
         all_goals (refine WL.step (ok_assign rfl) rfl rfl rfl ?_)
         all_goals (refine WL.nil ?_)
         all_goals (repeat' (with_reducible first | refine thenP_n ?_ | refine blockP_n ?_))
         all_goals (refine WC.ret ?_)
         all_goals (repeat' (with_reducible first | refine thenP_r ?_ | refine blockP_r ?_))
         all_goals (refine retP_1 _ ⟨rfl, trivial⟩ ?_)
         all_goals (exact ⟨by rw [decide_eq_false hne], rfl⟩)
         skip))
    all_goals (first
      | (fail_if_success (refine Br.mk (i := 2) ?_))
      | (refine Br.mk (i := 2) ?_
         all_goals (refine WC.skip ?_)
         skip))
    all_goals (repeat' (with_reducible first | refine thenP_n ?_ | refine blockP_n ?_))
    all_goals (refine WC.seq ?_)
    all_goals (refine WC.seq ?_)
    all_goals (refine WC.region ?_)
    all_goals (refine WL.step (ok_move rfl) rfl rfl rfl ?_)
    all_goals (refine WL.step (ok_lenL rfl Tryd.underlying22 rfl) rfl rfl rfl ?_)
    all_goals (refine WL.step (ok_move rfl) rfl rfl rfl ?_)
    all_goals (refine WL.nil ?_)
    all_goals (repeat' (with_reducible first | refine thenP_n ?_ | refine blockP_n ?_))
    all_goals (refine WC.block ?_)
    -- loop 0: slots that turn [13], that stay [0, 1, 12]
    all_goals (refine WC.loopG (fun x => (None : Fr)) [(0, _), (1, _), (12, _)] (None) (None) (None) ⟨rfl, rfl, rfl, rfl, trivial⟩ (by exact ⟨⟩) ?_)
    all_goals (rintro x h1 hI)
    all_goals (refine WC.sub [(13, _), (0, _), (1, _), (12, _)] ⟨rfl, rfl, rfl, rfl, trivial⟩ ?_)
    all_goals (refine WC.seq ?_)
    all_goals (refine WC.region ?_)
    all_goals (first | (refine WL.step (OkP.bool_t (by omega) (ok_lss rfl rfl)) rfl rfl rfl ?_) | (refine WL.step (OkP.bool_f (by omega) (ok_lss rfl rfl)) rfl rfl rfl ?_) | (refine WL.step (ok_lss rfl rfl) rfl rfl rfl ?_))
    all_goals (refine WL.nil ?_)
    all_goals (repeat' (with_reducible first | refine thenP_n ?_ | refine blockP_n ?_))
    all_goals (refine WC.seq ?_)
    all_goals (first | refine WC.condB_t 3 rfl ?_ | refine WC.condB_f 4 rfl ?_ | (refine WC.condB 3 4 rfl (fun hb => ?_) (fun hb => ?_) <;> (first | replace hb := of_decide_eq_true hb | replace hb := of_decide_eq_false hb | replace hb := of_decide_eq_false (nt hb) | replace hb := of_decide_eq_true (nf hb) | skip)))
    all_goals (first
      | (fail_if_success (refine Br.mk (i := 3) ?_))
      | (refine Br.mk (i := 3) ?_
         all_goals (refine WC.skip ?_)
         skip))
    all_goals (first
      | (fail_if_success (refine Br.mk (i := 4) ?_))
      | (refine Br.mk (i := 4) ?_
         all_goals (refine WC.exit ?_)
         all_goals (repeat' (with_reducible first | refine thenP_x ?_ | refine blockP_miss rfl ?_ | refine blockP_hit ?_ | refine blockP_n ?_ | refine thenP_n ?_))
         all_goals (refine Br.out (i := 1000) ?_)
         skip))
    all_goals (first | (refine Br.keep ?_) | (repeat' (with_reducible first | refine thenP_n ?_ | refine blockP_n ?_)))
    all_goals (first | (refine Br.keep ?_) | (refine WC.seq ?_))
    all_goals (first | (refine Br.keep ?_) | (refine WC.block ?_))
    all_goals (first | (refine Br.keep ?_) | (refine WC.seq ?_))
    all_goals (first | (refine Br.keep ?_) | (refine WC.region ?_))
    all_goals (first | (refine Br.keep ?_) | (refine WL.step (ok_move rfl) rfl rfl rfl ?_))
    all_goals (first | (refine Br.keep ?_) | (refine WL.step (ok_assign rfl) rfl rfl rfl ?_))
    all_goals (first | (refine Br.keep ?_) | (refine WL.nil ?_))
    all_goals (first | (refine Br.keep ?_) | (repeat' (with_reducible first | refine thenP_n ?_ | refine blockP_n ?_)))
    all_goals (first | (refine Br.keep ?_) | (refine WC.seq ?_))
    all_goals (first | (refine Br.keep ?_) | (refine WC.drawE fol (by kernel_rfl) ?_))
    all_goals (first | (refine Br.keep ?_) | (refine WQ.stepE (ok_move rfl) rfl rfl rfl ?_))
    all_goals (first | (refine Br.keep ?_) | (refine WQ.stepE (ok_move rfl) rfl rfl rfl ?_))
    all_goals (first | (refine Br.keep ?_) | (refine WQ.stepE (ok_idxAddrA Tryd.underlying22 (fun w => Tryd.sizeOf50 w) rfl rfl rfl (by omega) (by first | rfl | assumption)) rfl rfl rfl ?_))
    all_goals (first | (refine Br.keep ?_) | (refine WQ.stepE (ok_loadN (fun w => Tryd.isAgg50 w) (fun w => Tryd.sizeOf50 w) rfl rfl (by assumption)) rfl rfl rfl ?_))
    all_goals (first | (refine Br.keep ?_) | (refine WQ.stepE (ok_move rfl) rfl rfl rfl ?_))
    all_goals (first | (refine Br.keep ?_) | (refine WQ.stepE (ok_move rfl) rfl rfl rfl ?_))
    all_goals (first | (refine Br.keep ?_) | (refine WQ.stepE (ok_idxAddrA Tryd.underlying22 (fun w => Tryd.sizeOf50 w) rfl rfl rfl (by omega) (by first | rfl | assumption)) rfl rfl rfl ?_))
    all_goals (first | (refine Br.keep ?_) | (refine WQ.stepE (ok_loadN (fun w => Tryd.isAgg50 w) (fun w => Tryd.sizeOf50 w) rfl rfl (by assumption)) rfl rfl rfl ?_))
    all_goals (first | (refine Br.keep ?_) | (fail "no rule for binOp at 6.8"))
    all_goals (first | (refine Br.keep ?_) | (refine WQ.nil ?_))
    all_goals (first | (refine Br.keep ?_) | (repeat' (with_reducible first | refine thenP_n ?_ | refine blockP_n ?_)))
    all_goals (first | (refine Br.keep ?_) | (refine WC.sub [(0, _), (1, _), (12, _), (13, _), (24, _)] ⟨rfl, rfl, rfl, rfl, rfl, trivial⟩ ?_))
    all_goals (first | (refine Br.keep ?_) | (first | refine WC.condB_t 5 rfl ?_ | refine WC.condB_f 6 rfl ?_ | (refine WC.condB 5 6 rfl (fun hb => ?_) (fun hb => ?_) <;> (first | replace hb := of_decide_eq_true hb | replace hb := of_decide_eq_false hb | replace hb := of_decide_eq_false (nt hb) | replace hb := of_decide_eq_true (nf hb) | skip))))
    all_goals (first
      | (fail_if_success (refine Br.mk (i := 5) ?_))
      | (refine Br.mk (i := 5) ?_
         all_goals (refine WC.seq ?_)
         all_goals (refine WC.region ?_)
         all_goals (refine WL.step (ok_assign rfl) rfl rfl rfl ?_)
         all_goals (refine WL.nil ?_)
         all_goals (repeat' (with_reducible first | refine thenP_n ?_ | refine blockP_n ?_))
         all_goals (refine WC.sub [(4, _)] ⟨rfl, trivial⟩ ?_)
         all_goals (refine WC.ret ?_)
         all_goals (repeat' (with_reducible first | refine thenP_r ?_ | refine blockP_r ?_))
         all_goals (refine retP_1 _ ⟨rfl, trivial⟩ ?_)
         all_goals (exact ⟨by rw [decide_eq_false hne], rfl⟩)
         skip))
    all_goals (first
      | (fail_if_success (refine Br.mk (i := 6) ?_))
      | (refine Br.mk (i := 6) ?_
         all_goals (refine WC.skip ?_)
         skip))
    all_goals (first | (refine Br.keep ?_) | (repeat' (with_reducible first | refine thenP_n ?_ | refine blockP_n ?_)))
    all_goals (first | (refine Br.keep ?_) | (refine WC.region ?_))
    all_goals (first | (refine Br.keep ?_) | (first | (refine WL.step (ok_addI rfl rfl (by omega)) rfl rfl rfl ?_) | (refine WL.step (ok_add rfl rfl) rfl rfl rfl ?_)))
    all_goals (first | (refine Br.keep ?_) | (refine WL.step (ok_move rfl) rfl rfl rfl ?_))
    all_goals (first | (refine Br.keep ?_) | (refine WL.nil ?_))
    all_goals (first | (refine Br.keep ?_) | (repeat' (with_reducible first | refine thenP_n ?_ | refine blockP_n ?_)))
    all_goals (first | (refine Br.keep ?_) | (exact ⟨None, ⟨rfl, rfl, rfl, rfl, trivial⟩, (by exact ⟨⟩), (by simp; omega)⟩))
    all_goals (try (refine Br.mk (i := 1000) ?_))
    all_goals (repeat' (with_reducible first | refine thenP_n ?_ | refine blockP_n ?_))
    all_goals (refine WC.sub [] trivial ?_)
    all_goals (refine WC.seq ?_)
    all_goals (refine WC.region ?_)
    all_goals (refine WL.step (ok_assign rfl) rfl rfl rfl ?_)
    all_goals (refine WL.nil ?_)
    all_goals (repeat' (with_reducible first | refine thenP_n ?_ | refine blockP_n ?_))
    all_goals (refine WC.ret ?_)
    all_goals (repeat' (with_reducible first | refine thenP_r ?_ | refine blockP_r ?_))
    all_goals (refine retP_1 _ ⟨rfl, trivial⟩ ?_)
    all_goals (exact ⟨by rw [decide_eq_false hne], rfl⟩)
set_option maxRecDepth 100000 in
theorem same52 {h : Heap} {v w : Value} (l m : List RuD) (hr : Rd h v 3 l.length (l.flatMap RuD.cells)) (hs : Rd h w 3 m.length (m.flatMap RuD.cells)) (hl : l.length ≤ 1000000) (hm : m.length ≤ 1000000) :
    CallsH Tryd.prog 32 ⟨[v, w]⟩ h fun u h' => u = .bool (decide (l = m)) ∧ h' = h := by
  obtain ⟨A, c, rfl, _⟩ := id hr
  obtain ⟨B, d, rfl, _⟩ := id hs
  by_cases hlm : l.length = m.length
  ·
    refine calls [(0, _), (1, _)] Tryd.func32 rfl Tryd.ntmps32 rfl ⟨rfl, rfl, trivial⟩ ?_
    all_goals (refine WC.seq ?_)
    all_goals (refine WC.region ?_)
    all_goals (refine WL.step (ok_assign rfl) rfl rfl rfl ?_)
    all_goals (refine WL.nil ?_)
    all_goals (repeat' (with_reducible first | refine thenP_n ?_ | refine blockP_n ?_))
    all_goals (refine WC.seq ?_)
    all_goals (refine WC.seq ?_)
    all_goals (refine WC.region ?_)
    all_goals (refine WL.step (ok_move rfl) rfl rfl rfl ?_)
    all_goals (refine WL.step (ok_lenL rfl Tryd.underlying28 rfl) rfl rfl rfl ?_)
    all_goals (refine WL.step (ok_move rfl) rfl rfl rfl ?_)
    all_goals (refine WL.step (ok_lenL rfl Tryd.underlying28 rfl) rfl rfl rfl ?_)
    all_goals (first | (refine WL.step (OkP.nbool_t (by omega) (ok_neq rfl rfl)) rfl rfl rfl ?_) | (refine WL.step (OkP.nbool_f (by omega) (ok_neq rfl rfl)) rfl rfl rfl ?_) | (refine WL.step (ok_neq rfl rfl) rfl rfl rfl ?_))
    all_goals (refine WL.nil ?_)
    all_goals (repeat' (with_reducible first | refine thenP_n ?_ | refine blockP_n ?_))
    all_goals (refine WC.sub [(0, _), (1, _), (10, _)] ⟨rfl, rfl, rfl, trivial⟩ ?_)
    all_goals (first | refine WC.condB_t 1 rfl ?_ | refine WC.condB_f 2 rfl ?_ | (refine WC.condB 1 2 rfl (fun hb => ?_) (fun hb => ?_) <;> (first | replace hb := of_decide_eq_true hb | replace hb := of_decide_eq_false hb | replace hb := of_decide_eq_false (nt hb) | replace hb := of_decide_eq_true (nf hb) | skip)))
    all_goals (first
      | (fail_if_success (refine Br.mk (i := 1) ?_))
      | (refine Br.mk (i := 1) ?_
         all_goals (refine WC.seq ?_)
         all_goals (refine WC.region ?_)
         all_goals (refine WL.step (ok_assign rfl) rfl rfl rfl ?_)
         all_goals (refine WL.nil ?_)
         all_goals (repeat' (with_reducible first | refine thenP_n ?_ | refine blockP_n ?_))
         all_goals (refine WC.ret ?_)
         all_goals (repeat' (with_reducible first | refine thenP_r ?_ | refine blockP_r ?_))
         all_goals (refine retP_1 _ ⟨rfl, trivial⟩ ?_)
         all_goals (first
                     | exact ⟨by rw [decide_eq_true (same_of hn (by omega) (by omega))], rfl⟩
                     | exact ⟨by rw [decide_eq_false (ne_of_at hx hy hxy)], rfl⟩)
         skip))
    all_goals (first
      | (fail_if_success (refine Br.mk (i := 2) ?_))
      | (refine Br.mk (i := 2) ?_
         all_goals (refine WC.skip ?_)
         skip))
    all_goals (repeat' (with_reducible first | refine thenP_n ?_ | refine blockP_n ?_))
    all_goals (refine WC.seq ?_)
    all_goals (refine WC.seq ?_)
    all_goals (refine WC.region ?_)
    all_goals (refine WL.step (ok_assign rfl) rfl rfl rfl ?_)
    all_goals (refine WL.nil ?_)
    all_goals (repeat' (with_reducible first | refine thenP_n ?_ | refine blockP_n ?_))
    all_goals (refine WC.block ?_)
    -- loop 0: slots that turn [5], that stay [0, 1]
    all_goals (refine WC.loopG (X := Nat) (fun x => ([(5, In (x : Int))] : Fr)) [(0, _), (1, _)] (fun k h' => h' = h ∧ k ≤ l.length ∧ l.take k = m.take k) (fun k => l.length - k) (0) ⟨rfl, rfl, rfl, trivial⟩ (by exact ⟨rfl, Nat.zero_le _, by simp⟩) ?_)
    all_goals (rintro k h9 ⟨hz, hk, hn⟩
               subst h9)
    all_goals (refine WC.sub [(5, _), (0, _), (1, _)] ⟨rfl, rfl, rfl, trivial⟩ ?_)
    all_goals (refine WC.seq ?_)
    all_goals (refine WC.seq ?_)
    all_goals (refine WC.region ?_)
    all_goals (refine WL.step (ok_move rfl) rfl rfl rfl ?_)
    all_goals (refine WL.step (ok_move rfl) rfl rfl rfl ?_)
    all_goals (refine WL.step (ok_lenL rfl Tryd.underlying28 rfl) rfl rfl rfl ?_)
    all_goals (first | (refine WL.step (OkP.bool_t (by omega) (ok_lss rfl rfl)) rfl rfl rfl ?_) | (refine WL.step (OkP.bool_f (by omega) (ok_lss rfl rfl)) rfl rfl rfl ?_) | (refine WL.step (ok_lss rfl rfl) rfl rfl rfl ?_))
    all_goals (refine WL.nil ?_)
    all_goals (repeat' (with_reducible first | refine thenP_n ?_ | refine blockP_n ?_))
    all_goals (first | refine WC.condB_t 3 rfl ?_ | refine WC.condB_f 4 rfl ?_ | (refine WC.condB 3 4 rfl (fun hb => ?_) (fun hb => ?_) <;> (first | replace hb := of_decide_eq_true hb | replace hb := of_decide_eq_false hb | replace hb := of_decide_eq_false (nt hb) | replace hb := of_decide_eq_true (nf hb) | skip)))
    all_goals (first
      | (fail_if_success (refine Br.mk (i := 3) ?_))
      | (refine Br.mk (i := 3) ?_
         all_goals (refine WC.skip ?_)
         skip))
    all_goals (first
      | (fail_if_success (refine Br.mk (i := 4) ?_))
      | (refine Br.mk (i := 4) ?_
         all_goals (refine WC.exit ?_)
         all_goals (repeat' (with_reducible first | refine thenP_x ?_ | refine blockP_miss rfl ?_ | refine blockP_hit ?_ | refine blockP_n ?_ | refine thenP_n ?_))
         all_goals (refine Br.out (i := 1000) ?_)
         skip))
    all_goals (first | (refine Br.keep ?_) | (repeat' (with_reducible first | refine thenP_n ?_ | refine blockP_n ?_)))
    all_goals (first | (refine Br.keep ?_) | (refine WC.sub [(0, _), (1, _), (5, _)] ⟨rfl, rfl, rfl, trivial⟩ ?_))
    all_goals (first | (refine Br.keep ?_) | (refine WC.seq ?_))
    all_goals (first | (refine Br.keep ?_) | (refine WC.block ?_))
    all_goals (first | (refine Br.keep ?_) | (refine WC.seq ?_))
    all_goals (first
                 | (refine Br.keep ?_)
                 | (obtain ⟨bL, oL, hA, hbL, hat⟩ := Rd.at_ hr (by omega)
                    obtain ⟨bM, oM, hB, hbM, hbt⟩ := Rd.at_ hs (by omega)
                    obtain ⟨⟨xa, xd, xu⟩, hx⟩ : ∃ y, l[k]? = some y := ⟨_, List.getElem?_eq_getElem (by omega)⟩
                    obtain ⟨⟨ya, yd, yu⟩, hy⟩ : ∃ y, m[k]? = some y := ⟨_, List.getElem?_eq_getElem (by omega)⟩
                    have hc : At h bL (oL + k * 3) [.bool xa, St xd, St xu] := At.elem RuD.len hat hx
                    have hd : At h bM (oM + k * 3) [.bool ya, St yd, St yu] := At.elem RuD.len hbt hy
                    by_cases hxy : (⟨xa, xd, xu⟩ : RuD) = ⟨ya, yd, yu⟩))
    all_goals (first | (refine Br.keep ?_) | (refine WC.drawE fol (by kernel_rfl) ?_))
    all_goals (first | (refine Br.keep ?_) | (refine WQ.stepE (ok_move rfl) rfl rfl rfl ?_))
    all_goals (first | (refine Br.keep ?_) | (refine WQ.stepE (ok_move rfl) rfl rfl rfl ?_))
    all_goals (first | (refine Br.keep ?_) | (refine WQ.stepE (ok_idxAddrA Tryd.underlying28 (fun w => Tryd.sizeOf54 w) rfl rfl rfl (by omega) (by first | rfl | assumption)) rfl rfl rfl ?_))
    all_goals (first | (refine Br.keep ?_) | (refine WQ.stepE (ok_loadN (fun w => Tryd.isAgg54 w) (fun w => Tryd.sizeOf54 w) rfl rfl (by assumption)) rfl rfl rfl ?_))
    all_goals (first | (refine Br.keep ?_) | (refine WQ.stepE (ok_move rfl) rfl rfl rfl ?_))
    all_goals (first | (refine Br.keep ?_) | (refine WQ.stepE (ok_move rfl) rfl rfl rfl ?_))
    all_goals (first | (refine Br.keep ?_) | (refine WQ.stepE (ok_idxAddrA Tryd.underlying28 (fun w => Tryd.sizeOf54 w) rfl rfl rfl (by omega) (by first | rfl | assumption)) rfl rfl rfl ?_))
    all_goals (first | (refine Br.keep ?_) | (refine WQ.stepE (ok_loadN (fun w => Tryd.isAgg54 w) (fun w => Tryd.sizeOf54 w) rfl rfl (by assumption)) rfl rfl rfl ?_))
    all_goals (first
                 | (refine Br.keep ?_)
                 | (first
                     | refine WQ.stepE (OkP.nbool_f ((RuD.inj ⟨xa, xd, xu⟩ ⟨ya, yd, yu⟩).2 hxy) (ok_neqF (us := [.b xa, .s xd, .s xu]) (vs := [.b ya, .s yd, .s yu]) [.b, .s, .s] (by kernel_rfl) rfl rfl rfl rfl)) rfl rfl rfl ?_
                     | refine WQ.stepE (OkP.nbool_t (fun e => hxy ((RuD.inj ⟨xa, xd, xu⟩ ⟨ya, yd, yu⟩).1 e)) (ok_neqF (us := [.b xa, .s xd, .s xu]) (vs := [.b ya, .s yd, .s yu]) [.b, .s, .s] (by kernel_rfl) rfl rfl rfl rfl)) rfl rfl rfl ?_))
    all_goals (first | (refine Br.keep ?_) | (refine WQ.nil ?_))
    all_goals (first | (refine Br.keep ?_) | (repeat' (with_reducible first | refine thenP_n ?_ | refine blockP_n ?_)))
    all_goals (first | (refine Br.keep ?_) | (refine WC.sub [(0, _), (1, _), (5, _), (25, _)] ⟨rfl, rfl, rfl, rfl, trivial⟩ ?_))
    all_goals (first | (refine Br.keep ?_) | (first | refine WC.condB_t 5 rfl ?_ | refine WC.condB_f 6 rfl ?_ | (refine WC.condB 5 6 rfl (fun hb => ?_) (fun hb => ?_) <;> (first | replace hb := of_decide_eq_true hb | replace hb := of_decide_eq_false hb | replace hb := of_decide_eq_false (nt hb) | replace hb := of_decide_eq_true (nf hb) | skip))))
    all_goals (first
      | (fail_if_success (refine Br.mk (i := 5) ?_))
      | (refine Br.mk (i := 5) ?_
         all_goals (refine WC.seq ?_)
         all_goals (refine WC.region ?_)
         all_goals (refine WL.step (ok_assign rfl) rfl rfl rfl ?_)
         all_goals (refine WL.nil ?_)
         all_goals (repeat' (with_reducible first | refine thenP_n ?_ | refine blockP_n ?_))
         all_goals (refine WC.sub [(4, _)] ⟨rfl, trivial⟩ ?_)
         all_goals (refine WC.ret ?_)
         all_goals (repeat' (with_reducible first | refine thenP_r ?_ | refine blockP_r ?_))
         all_goals (refine retP_1 _ ⟨rfl, trivial⟩ ?_)
         all_goals (first
                     | exact ⟨by rw [decide_eq_true (same_of hn (by omega) (by omega))], rfl⟩
                     | exact ⟨by rw [decide_eq_false (ne_of_at hx hy hxy)], rfl⟩)
         skip))
    all_goals (first
      | (fail_if_success (refine Br.mk (i := 6) ?_))
      | (refine Br.mk (i := 6) ?_
         all_goals (refine WC.skip ?_)
         skip))
    all_goals (first | (refine Br.keep ?_) | (repeat' (with_reducible first | refine thenP_n ?_ | refine blockP_n ?_)))
    all_goals (first | (refine Br.keep ?_) | (refine WC.region ?_))
    all_goals (first | (refine Br.keep ?_) | (refine WL.step (ok_move rfl) rfl rfl rfl ?_))
    all_goals (first | (refine Br.keep ?_) | (first | (refine WL.step (ok_addI rfl rfl (by omega)) rfl rfl rfl ?_) | (refine WL.step (ok_add rfl rfl) rfl rfl rfl ?_)))
    all_goals (first | (refine Br.keep ?_) | (refine WL.step (ok_assign rfl) rfl rfl rfl ?_))
    all_goals (first | (refine Br.keep ?_) | (refine WL.nil ?_))
    all_goals (first | (refine Br.keep ?_) | (repeat' (with_reducible first | refine thenP_n ?_ | refine blockP_n ?_)))
    all_goals (first | (refine Br.keep ?_) | (exact ⟨k + 1, ⟨rfl, rfl, rfl, trivial⟩, (by exact ⟨rfl, by omega, take_same hn hx (by rw [hxy]; exact hy)⟩), (by omega)⟩))
    all_goals (try (refine Br.mk (i := 1000) ?_))
    all_goals (repeat' (with_reducible first | refine thenP_n ?_ | refine blockP_n ?_))
    all_goals (refine WC.sub [] trivial ?_)
    all_goals (refine WC.seq ?_)
    all_goals (refine WC.region ?_)
    all_goals (refine WL.step (ok_assign rfl) rfl rfl rfl ?_)
    all_goals (refine WL.nil ?_)
    all_goals (repeat' (with_reducible first | refine thenP_n ?_ | refine blockP_n ?_))
    all_goals (refine WC.ret ?_)
    all_goals (repeat' (with_reducible first | refine thenP_r ?_ | refine blockP_r ?_))
    all_goals (refine retP_1 _ ⟨rfl, trivial⟩ ?_)
    all_goals (first
                | exact ⟨by rw [decide_eq_true (same_of hn (by omega) (by omega))], rfl⟩
                | exact ⟨by rw [decide_eq_false (ne_of_at hx hy hxy)], rfl⟩)
  · have hne : l ≠ m := fun e => hlm (by rw [e])
    refine calls [(0, _), (1, _)] Tryd.func32 rfl Tryd.ntmps32 rfl ⟨rfl, rfl, trivial⟩ ?_
    all_goals (refine WC.seq ?_)
    all_goals (refine WC.region ?_)
    all_goals (refine WL.step (ok_assign rfl) rfl rfl rfl ?_)
    all_goals (refine WL.nil ?_)
    all_goals (repeat' (with_reducible first | refine thenP_n ?_ | refine blockP_n ?_))
    all_goals (refine WC.seq ?_)
    all_goals (refine WC.seq ?_)
    all_goals (refine WC.region ?_)
    all_goals (refine WL.step (ok_move rfl) rfl rfl rfl ?_)
    all_goals (refine WL.step (ok_lenL rfl Tryd.underlying28 rfl) rfl rfl rfl ?_)
    all_goals (refine WL.step (ok_move rfl) rfl rfl rfl ?_)
    all_goals (refine WL.step (ok_lenL rfl Tryd.underlying28 rfl) rfl rfl rfl ?_)
    all_goals (first | (refine WL.step (OkP.nbool_t (by omega) (ok_neq rfl rfl)) rfl rfl rfl ?_) | (refine WL.step (OkP.nbool_f (by omega) (ok_neq rfl rfl)) rfl rfl rfl ?_) | (refine WL.step (ok_neq rfl rfl) rfl rfl rfl ?_))
    all_goals (refine WL.nil ?_)
    all_goals (repeat' (with_reducible first | refine thenP_n ?_ | refine blockP_n ?_))
    all_goals (refine WC.sub [(0, _), (1, _), (10, _)] ⟨rfl, rfl, rfl, trivial⟩ ?_)
    all_goals (first | refine WC.condB_t 1 rfl ?_ | refine WC.condB_f 2 rfl ?_ | (refine WC.condB 1 2 rfl (fun hb => ?_) (fun hb => ?_) <;> (first | replace hb := of_decide_eq_true hb | replace hb := of_decide_eq_false hb | replace hb := of_decide_eq_false (nt hb) | replace hb := of_decide_eq_true (nf hb) | skip)))
    all_goals (first
      | (fail_if_success (refine Br.mk (i := 1) ?_))
      | (refine Br.mk (i := 1) ?_
         all_goals (refine WC.seq ?_)
         all_goals (refine WC.region ?_)
         all_goals (refine WL.step (ok_assign rfl) rfl rfl rfl ?_)
         all_goals (refine WL.nil ?_)
         all_goals (repeat' (with_reducible first | refine thenP_n ?_ | refine blockP_n ?_))
         all_goals (refine WC.ret ?_)
         all_goals (repeat' (with_reducible first | refine thenP_r ?_ | refine blockP_r ?_))
         all_goals (refine retP_1 _ ⟨rfl, trivial⟩ ?_)
         all_goals (exact ⟨by rw [decide_eq_false hne], rfl⟩)
         skip))
    all_goals (first
      | (fail_if_success (refine Br.mk (i := 2) ?_))
      | (refine Br.mk (i := 2) ?_
         all_goals (refine WC.skip ?_)
         skip))
    all_goals (repeat' (with_reducible first | refine thenP_n ?_ | refine blockP_n ?_))
    all_goals (refine WC.seq ?_)
    all_goals (refine WC.seq ?_)
    all_goals (refine WC.region ?_)
    all_goals (refine WL.step (ok_assign rfl) rfl rfl rfl ?_)
    all_goals (refine WL.nil ?_)
    all_goals (repeat' (with_reducible first | refine thenP_n ?_ | refine blockP_n ?_))
    all_goals (refine WC.block ?_)
    -- loop 0: slots that turn [5], that stay [0, 1]
    all_goals (refine WC.loopG (fun x => (None : Fr)) [(0, _), (1, _)] (None) (None) (None) ⟨rfl, rfl, rfl, trivial⟩ (by exact ⟨⟩) ?_)
    all_goals (rintro x h1 hI)
    all_goals (refine WC.sub [(5, _), (0, _), (1, _)] ⟨rfl, rfl, rfl, trivial⟩ ?_)
    all_goals (refine WC.seq ?_)
    all_goals (refine WC.seq ?_)
    all_goals (refine WC.region ?_)
    all_goals (refine WL.step (ok_move rfl) rfl rfl rfl ?_)
    all_goals (refine WL.step (ok_move rfl) rfl rfl rfl ?_)
    all_goals (refine WL.step (ok_lenL rfl Tryd.underlying28 rfl) rfl rfl rfl ?_)
    all_goals (first | (refine WL.step (OkP.bool_t (by omega) (ok_lss rfl rfl)) rfl rfl rfl ?_) | (refine WL.step (OkP.bool_f (by omega) (ok_lss rfl rfl)) rfl rfl rfl ?_) | (refine WL.step (ok_lss rfl rfl) rfl rfl rfl ?_))
    all_goals (refine WL.nil ?_)
    all_goals (repeat' (with_reducible first | refine thenP_n ?_ | refine blockP_n ?_))
    all_goals (first | refine WC.condB_t 3 rfl ?_ | refine WC.condB_f 4 rfl ?_ | (refine WC.condB 3 4 rfl (fun hb => ?_) (fun hb => ?_) <;> (first | replace hb := of_decide_eq_true hb | replace hb := of_decide_eq_false hb | replace hb := of_decide_eq_false (nt hb) | replace hb := of_decide_eq_true (nf hb) | skip)))
    all_goals (first
      | (fail_if_success (refine Br.mk (i := 3) ?_))
      | (refine Br.mk (i := 3) ?_
         all_goals (refine WC.skip ?_)
         skip))
    all_goals (first
      | (fail_if_success (refine Br.mk (i := 4) ?_))
      | (refine Br.mk (i := 4) ?_
         all_goals (refine WC.exit ?_)
         all_goals (repeat' (with_reducible first | refine thenP_x ?_ | refine blockP_miss rfl ?_ | refine blockP_hit ?_ | refine blockP_n ?_ | refine thenP_n ?_))
         all_goals (refine Br.out (i := 1000) ?_)
         skip))
    all_goals (first | (refine Br.keep ?_) | (repeat' (with_reducible first | refine thenP_n ?_ | refine blockP_n ?_)))
    all_goals (first | (refine Br.keep ?_) | (refine WC.sub [(0, _), (1, _), (5, _)] ⟨rfl, rfl, rfl, trivial⟩ ?_))
    all_goals (first | (refine Br.keep ?_) | (refine WC.seq ?_))
    all_goals (first | (refine Br.keep ?_) | (refine WC.block ?_))
    all_goals (first | (refine Br.keep ?_) | (refine WC.seq ?_))
    all_goals (first | (refine Br.keep ?_) | (refine WC.drawE fol (by kernel_rfl) ?_))
    all_goals (first | (refine Br.keep ?_) | (refine WQ.stepE (ok_move rfl) rfl rfl rfl ?_))
    all_goals (first | (refine Br.keep ?_) | (refine WQ.stepE (ok_move rfl) rfl rfl rfl ?_))
    all_goals (first | (refine Br.keep ?_) | (refine WQ.stepE (ok_idxAddrA Tryd.underlying28 (fun w => Tryd.sizeOf54 w) rfl rfl rfl (by omega) (by first | rfl | assumption)) rfl rfl rfl ?_))
    all_goals (first | (refine Br.keep ?_) | (refine WQ.stepE (ok_loadN (fun w => Tryd.isAgg54 w) (fun w => Tryd.sizeOf54 w) rfl rfl (by assumption)) rfl rfl rfl ?_))
    all_goals (first | (refine Br.keep ?_) | (refine WQ.stepE (ok_move rfl) rfl rfl rfl ?_))
    all_goals (first | (refine Br.keep ?_) | (refine WQ.stepE (ok_move rfl) rfl rfl rfl ?_))
    all_goals (first | (refine Br.keep ?_) | (refine WQ.stepE (ok_idxAddrA Tryd.underlying28 (fun w => Tryd.sizeOf54 w) rfl rfl rfl (by omega) (by first | rfl | assumption)) rfl rfl rfl ?_))
    all_goals (first | (refine Br.keep ?_) | (refine WQ.stepE (ok_loadN (fun w => Tryd.isAgg54 w) (fun w => Tryd.sizeOf54 w) rfl rfl (by assumption)) rfl rfl rfl ?_))
    all_goals (first | (refine Br.keep ?_) | (fail "no rule for binOp at 6.8"))
    all_goals (first | (refine Br.keep ?_) | (refine WQ.nil ?_))
    all_goals (first | (refine Br.keep ?_) | (repeat' (with_reducible first | refine thenP_n ?_ | refine blockP_n ?_)))
    all_goals (first | (refine Br.keep ?_) | (refine WC.sub [(0, _), (1, _), (5, _), (25, _)] ⟨rfl, rfl, rfl, rfl, trivial⟩ ?_))
    all_goals (first | (refine Br.keep ?_) | (first | refine WC.condB_t 5 rfl ?_ | refine WC.condB_f 6 rfl ?_ | (refine WC.condB 5 6 rfl (fun hb => ?_) (fun hb => ?_) <;> (first | replace hb := of_decide_eq_true hb | replace hb := of_decide_eq_false hb | replace hb := of_decide_eq_false (nt hb) | replace hb := of_decide_eq_true (nf hb) | skip))))
    all_goals (first
      | (fail_if_success (refine Br.mk (i := 5) ?_))
      | (refine Br.mk (i := 5) ?_
         all_goals (refine WC.seq ?_)
         all_goals (refine WC.region ?_)
         all_goals (refine WL.step (ok_assign rfl) rfl rfl rfl ?_)
         all_goals (refine WL.nil ?_)
         all_goals (repeat' (with_reducible first | refine thenP_n ?_ | refine blockP_n ?_))
         all_goals (refine WC.sub [(4, _)] ⟨rfl, trivial⟩ ?_)
         all_goals (refine WC.ret ?_)
         all_goals (repeat' (with_reducible first | refine thenP_r ?_ | refine blockP_r ?_))
         all_goals (refine retP_1 _ ⟨rfl, trivial⟩ ?_)
         all_goals (exact ⟨by rw [decide_eq_false hne], rfl⟩)
         skip))
    all_goals (first
      | (fail_if_success (refine Br.mk (i := 6) ?_))
      | (refine Br.mk (i := 6) ?_
         all_goals (refine WC.skip ?_)
         skip))
    all_goals (first | (refine Br.keep ?_) | (repeat' (with_reducible first | refine thenP_n ?_ | refine blockP_n ?_)))
    all_goals (first | (refine Br.keep ?_) | (refine WC.region ?_))
    all_goals (first | (refine Br.keep ?_) | (refine WL.step (ok_move rfl) rfl rfl rfl ?_))
    all_goals (first | (refine Br.keep ?_) | (first | (refine WL.step (ok_addI rfl rfl (by omega)) rfl rfl rfl ?_) | (refine WL.step (ok_add rfl rfl) rfl rfl rfl ?_)))
    all_goals (first | (refine Br.keep ?_) | (refine WL.step (ok_assign rfl) rfl rfl rfl ?_))
    all_goals (first | (refine Br.keep ?_) | (refine WL.nil ?_))
    all_goals (first | (refine Br.keep ?_) | (repeat' (with_reducible first | refine thenP_n ?_ | refine blockP_n ?_)))
    all_goals (first | (refine Br.keep ?_) | (exact ⟨None, ⟨rfl, rfl, rfl, trivial⟩, (by exact ⟨⟩), (by simp; omega)⟩))
    all_goals (try (refine Br.mk (i := 1000) ?_))
    all_goals (repeat' (with_reducible first | refine thenP_n ?_ | refine blockP_n ?_))
    all_goals (refine WC.sub [] trivial ?_)
    all_goals (refine WC.seq ?_)
    all_goals (refine WC.region ?_)
    all_goals (refine WL.step (ok_assign rfl) rfl rfl rfl ?_)
    all_goals (refine WL.nil ?_)
    all_goals (repeat' (with_reducible first | refine thenP_n ?_ | refine blockP_n ?_))
    all_goals (refine WC.ret ?_)
    all_goals (repeat' (with_reducible first | refine thenP_r ?_ | refine blockP_r ?_))
    all_goals (refine retP_1 _ ⟨rfl, trivial⟩ ?_)
    all_goals (exact ⟨by rw [decide_eq_false hne], rfl⟩)

/-! ### the text of rules -/
def lineL (r : RuD) : List UInt8 := (if r.allow then ([97, 108, 108, 111, 119] : List UInt8) else ([100, 101, 110, 121] : List UInt8)) ++ [32] ++ r.db ++ [32] ++ r.user ++ [10]
def textL (l : List RuD) : List UInt8 := l.flatMap lineL
def printL (l : List RuD) : List UInt8 × Int := if (parseL (textL l)).2.2 = 0 ∧ (parseL (textL l)).1 = l then (textL l, 0) else ([], 1)
theorem lineL_len {r : RuD} (h1 : r.db.length ≤ 100) (h2 : r.user.length ≤ 100) : (lineL r).length ≤ 210 := by
  unfold lineL
  split <;> simp <;> omega
theorem textL_len {l : List RuD} (h : ∀ r ∈ l, r.db.length ≤ 100 ∧ r.user.length ≤ 100) : (textL l).length ≤ l.length * 210 := by
  unfold textL
  induction l with
  | nil => simp
  | cons r l ih =>
    have h1 := h r List.mem_cons_self
    have h2 := lineL_len h1.1 h1.2
    have := ih (fun x hx => h x (List.mem_cons_of_mem _ hx))
    simp only [List.flatMap_cons, List.length_append, List.length_cons]
    omega
theorem textL_snoc {l : List RuD} {k : Nat} {x : RuD} (h : l[k]? = some x) : textL (l.take (k + 1)) = textL (l.take k) ++ lineL x := by
  unfold textL
  rw [List.take_add_one, h]
  simp
set_option maxRecDepth 100000 in
theorem line_any {h : Heap} (r : RuD) (h1 : r.db.length ≤ 100) (h2 : r.user.length ≤ 100) : CallsH Tryd.prog 49 ⟨[.agg ⟨r.cells⟩]⟩ h fun u h' => u = St (lineL r) ∧ Ext No h h' := by
  obtain ⟨a, d, u⟩ := r
  simp only at h1 h2
  dsimp only [RuD.cells]
  cases a
  all_goals
    refine calls [(0, _)] Tryd.func49 rfl Tryd.ntmps49 rfl ⟨rfl, trivial⟩ ?_
    all_goals (refine WC.seq ?_)
    all_goals (refine WC.region ?_)
    all_goals (refine WL.stepR (okE_box rfl) rfl rfl rfl ?_
               rintro _ h3 ⟨b3, rfl, hg3, hb3, hx3⟩)
    all_goals (refine WL.step (ok_assign rfl) rfl rfl rfl ?_)
    all_goals (refine WL.nil ?_)
    all_goals (repeat' (with_reducible first | refine thenP_n ?_ | refine blockP_n ?_))
    all_goals (refine WC.seq ?_)
    all_goals (refine WC.region ?_)
    all_goals (refine WL.step (ok_assign rfl) rfl rfl rfl ?_)
    all_goals (refine WL.nil ?_)
    all_goals (repeat' (with_reducible first | refine thenP_n ?_ | refine blockP_n ?_))
    all_goals (refine WC.seq ?_)
    all_goals (refine WC.seq ?_)
    all_goals (refine WC.region ?_)
    all_goals (refine WL.step (ok_fieldAddr rfl Tryd.underlying50 rfl (fun w => Tryd.sizeOf4 w)) rfl rfl rfl ?_)
    all_goals (refine WL.step (ok_load (fun w => Tryd.isAgg4 w) rfl (by first | assumption | exact cell_blk (by assumption) rfl)) rfl rfl rfl ?_)
    all_goals (refine WL.nil ?_)
    all_goals (repeat' (with_reducible first | refine thenP_n ?_ | refine blockP_n ?_))
    all_goals (first | refine WC.condB_t 1 rfl ?_ | refine WC.condB_f 2 rfl ?_ | (refine WC.condB 1 2 rfl (fun hb => ?_) (fun hb => ?_) <;> (first | replace hb := of_decide_eq_true hb | replace hb := of_decide_eq_false hb | replace hb := of_decide_eq_false (nt hb) | replace hb := of_decide_eq_true (nf hb) | skip)))
    all_goals (first
      | (fail_if_success (refine Br.mk (i := 1) ?_))
      | (refine Br.mk (i := 1) ?_
         all_goals (refine WC.region ?_)
         all_goals (refine WL.step (ok_assign rfl) rfl rfl rfl ?_)
         all_goals (refine WL.nil ?_)
         skip))
    all_goals (first
      | (fail_if_success (refine Br.mk (i := 2) ?_))
      | (refine Br.mk (i := 2) ?_
         all_goals (refine WC.skip ?_)
         skip))
    all_goals (repeat' (with_reducible first | refine thenP_n ?_ | refine blockP_n ?_))
    all_goals (refine WC.sub [(1, _), (3, _)] ⟨rfl, rfl, trivial⟩ ?_)
    all_goals (refine WC.seq ?_)
    all_goals (refine WC.region ?_)
    all_goals (refine WL.step (ok_move rfl) rfl rfl rfl ?_)
    all_goals (refine WL.step (ok_fieldAddr rfl Tryd.underlying50 rfl (fun w => Tryd.sizeOf9 w)) rfl rfl rfl ?_)
    all_goals (refine WL.step (ok_load (fun w => Tryd.isAgg9 w) rfl (by first | assumption | exact cell_blk (by assumption) rfl)) rfl rfl rfl ?_)
    all_goals (refine WL.step (ok_fieldAddr rfl Tryd.underlying50 rfl (fun w => Tryd.sizeOf9 w)) rfl rfl rfl ?_)
    all_goals (refine WL.step (ok_load (fun w => Tryd.isAgg9 w) rfl (by first | assumption | exact cell_blk (by assumption) rfl)) rfl rfl rfl ?_)
    all_goals (refine WL.stepR (okE_buildSlice (vs := [_, _, _]) (cs := [_, _, _]) (fun | [a0, a1, a2] => [a0, a1, a2] | _ => []) Tryd.underlying58 rfl rfl (by kernel_rfl)) rfl rfl rfl ?_
               rintro _ h4 ⟨b4, rfl, hg4, hb4, hx4⟩)
    all_goals (refine WL.call (vs := [_, _]) rfl (fun a w => Tryd.call57 a w) rfl (join3 _ d u hb4 (by simp; omega)) rfl rfl rfl ?_
               rintro _ h5 ⟨rfl, hx5⟩)
    all_goals (refine WL.step (ok_catS rfl rfl (by first | (simp only [List.length_append, List.length_cons, List.length_nil]; omega) | (simp; omega))) rfl rfl rfl ?_)
    all_goals (refine WL.step (ok_assign rfl) rfl rfl rfl ?_)
    all_goals (refine WL.nil ?_)
    all_goals (repeat' (with_reducible first | refine thenP_n ?_ | refine blockP_n ?_))
    all_goals (refine WC.sub [(2, _)] ⟨rfl, trivial⟩ ?_)
    all_goals (refine WC.ret ?_)
    all_goals (repeat' (with_reducible first | refine thenP_r ?_ | refine blockP_r ?_))
    all_goals (refine retP_1 _ ⟨rfl, trivial⟩ ?_)
    all_goals (exact ⟨rfl, (hx3.trans hx4).trans hx5⟩)
end Go.Proofs.YtfbekbkkklijiaaDoor

