/-
  ColsMay holds: what is described may be said, and each row has as many cells as one column.
-/
import Derived.Test.YtgfbilmlgibbfaaColsTell
import Derived.Test.YtgfbilmlgibbfaaBkChk2
import Derived.Test.YtgfbilmlgibbfaaDigClean
namespace Go.Proofs.Ytgfbilmlgibbfaa
open Go Go.RK

theorem colsB_may (v : Value) (n : Nat) (hn : n ≤ 1000) : (colsB v n).may := by
  refine ⟨⟨84, rfl, by decide⟩, rfl, rfl, rfl, ⟨by simp [colsB, colsL]; omega, fun c hc => ?_⟩, ⟨by simp [colsB], by simp [colsB]⟩, ⟨by simp [colsB], by simp [colsB]⟩, ⟨by simp [colsB], by simp [colsB]⟩, show (0 : Int) ≤ 0 ∧ (0 : Int) ≤ 4294967295 by decide, show (0 : Int) ≤ 0 ∧ (0 : Int) ≤ 4294967295 by decide, .inl (show (84 : Int) ≠ 90 by decide), by simp [ofB, colsB, zB, Bk.pl]⟩
  obtain ⟨nm, hnm, rfl⟩ := List.mem_map.1 hc
  obtain ⟨i, _, rfl⟩ := List.mem_map.1 hnm
  have : cleanB (99 :: deci ((i + 1 : Nat) : Int)) = true := by
    rw [show (99 :: deci ((i + 1 : Nat) : Int)) = [99] ++ deci ((i + 1 : Nat) : Int) from rfl, clean_app, deci_clean]
    rfl
  exact ⟨this, by simp [mkCol], by simp [mkCol], by simp [mkCol], by simp [mkCol], by simp [mkCol], by simp [mkCol]⟩
theorem rowB_may (v : Value) (l : List Cel) (i : Nat) (hi : i ≤ 1000) (e : l.map Cel.pl = rowP i) : (rowB v l).may := by
  obtain ⟨q, rfl, hq⟩ := one_of e
  refine ⟨⟨68, rfl, by decide⟩, rfl, rfl, rfl, ⟨by simp [rowB], by simp [rowB]⟩, ⟨by simp [rowB], by simp [rowB]⟩, ⟨by simp [rowB], fun c hc => ?_⟩, ⟨by simp [rowB], by simp [rowB]⟩, show (0 : Int) ≤ 0 ∧ (0 : Int) ≤ 4294967295 by decide, show (0 : Int) ≤ 0 ∧ (0 : Int) ≤ 4294967295 by decide, .inl (show (68 : Int) ≠ 90 by decide), by simp [ofB, rowB, zB, Bk.pl]⟩
  obtain rfl : c = q := by simpa [rowB] using hc
  simp only [Cel.pl, Prod.mk.injEq] at hq
  have := deci_len (i : Int) (by omega)
  exact ⟨fun e => (by rw [hq.1] at e; cases e), (by rw [hq.2]; omega)⟩
theorem rowsP_at {n k : Nat} (h : k < n) : (rowsP n)[k]? = some (rowP (k + 1)) := by simp [rowsP, h]
set_option maxHeartbeats 1000000 in
set_option maxRecDepth 100000 in
theorem may_law {h : Heap} (n : Int) (h0 : 0 ≤ n) (h1 : n ≤ 65535) : CallsH Try.prog 8 ⟨[.int .u16 n]⟩ h fun u h' => u = .bool true ∧ Ext No h h' := by
  obtain ⟨k, hk⟩ : ∃ k : Nat, (if (1000 : Int) < n then (1000 : Int) else n) = (k : Int) := ⟨(if (1000 : Int) < n then (1000 : Int) else n).toNat, by split <;> omega⟩
  have hk1 : k ≤ 1000 := by split at hk <;> omega
  have hh : heldN (k : Int) = k := by unfold heldN; omega
  refine calls [(0, _)] Try.func8 rfl Try.ntmps8 rfl ⟨rfl, trivial⟩ ?_
  all_goals (refine WC.seq ?_)
  all_goals (refine WC.region ?_)
  all_goals (refine WL.step (ok_assign rfl) rfl rfl rfl ?_)
  all_goals (refine WL.nil ?_)
  all_goals (repeat' (with_reducible first | refine thenP_n ?_ | refine blockP_n ?_))
  all_goals (refine WC.seq ?_)
  all_goals (refine WC.region ?_)
  all_goals (refine WL.step (ok_move rfl) rfl rfl rfl ?_)
  all_goals (first | (refine WL.step (ok_convI Try.underlying83 Try.underlying3 rfl (by omega)) rfl rfl rfl ?_) | (refine WL.step (ok_conv Try.underlying83 Try.underlying3 rfl) rfl rfl rfl ?_))
  all_goals (refine WL.step (ok_min2 rfl rfl) rfl rfl rfl ?_)
  all_goals (rw [hk])
  all_goals (refine WL.step (ok_assign rfl) rfl rfl rfl ?_)
  all_goals (refine WL.nil ?_)
  all_goals (repeat' (with_reducible first | refine thenP_n ?_ | refine blockP_n ?_))
  all_goals (refine WC.sub [(3, _)] ⟨rfl, trivial⟩ ?_)
  all_goals (refine WC.seq ?_)
  all_goals (refine WC.seq ?_)
  all_goals (refine WC.region ?_)
  all_goals (refine WL.step (ok_move rfl) rfl rfl rfl ?_)
  all_goals (refine WL.call (vs := [_]) rfl (fun a w => Try.call26 a w) rfl (describe_cols (k : Int)) rfl rfl rfl ?_
             rintro _ g1 ⟨v1, rfl, ok1, hx1⟩)
  all_goals (rw [hh] at ok1 ⊢)
  all_goals (refine WL.call (vs := [_]) rfl (fun a w => Try.call52 a w) rfl (check_back _ ok1 (colsB_may v1 k hk1)) rfl rfl rfl ?_
             rintro _ g2 ⟨rfl, hx2⟩)
  all_goals (have hX2 := hx1.trans hx2)
  all_goals (first | (refine WL.step (OkP.nbool_t (by omega) (ok_neq rfl rfl)) rfl rfl rfl ?_) | (refine WL.step (OkP.nbool_f (by omega) (ok_neq rfl rfl)) rfl rfl rfl ?_) | (refine WL.step (ok_neq rfl rfl) rfl rfl rfl ?_))
  all_goals (refine WL.step (ok_move rfl) rfl rfl rfl ?_)
  all_goals (try ((fail_if_success (refine WL.part 13 (b := true) rfl (fun _ => ?_) (fun _ => ?_))); (fail_if_success (refine WL.part 13 (b := false) rfl (fun _ => ?_) (fun _ => ?_))); (refine WL.part 13 rfl (fun hb => ?_) (fun hb => ?_) <;> (first | replace hb := of_decide_eq_true hb | replace hb := of_decide_eq_false hb | replace hb := of_decide_eq_false (nt hb) | replace hb := of_decide_eq_true (nf hb) | skip))))
  all_goals (first | (refine WL.pass rfl rfl rfl ?_) | (refine WL.step (ok_move rfl) rfl rfl rfl ?_))
  all_goals (first
               | (refine WL.pass rfl rfl rfl ?_)
               | (refine WL.call (vs := [_]) rfl (fun a w => Try.call21 a w) rfl (rows_cols (k : Int)) rfl rfl rfl ?_
                  rintro v3 g3 ⟨L3, hL3, hp3, hx3, _⟩))
  all_goals (have hX3 := hX2.trans hx3
             rw [hh] at hp3
             have hl3 : L3.length = k := by have := congrArg List.length hp3; simpa [rowsP_len] using this
             obtain ⟨_, ⟨_, A3, c3, rfl, _⟩, _⟩ := id hL3)
  all_goals (first | (refine WL.pass rfl rfl rfl ?_) | (refine WL.step (ok_lenL rfl Try.underlying37 rfl) rfl rfl rfl ?_))
  all_goals (first | (refine WL.pass rfl rfl rfl ?_) | (refine WL.step (ok_move rfl) rfl rfl rfl ?_))
  all_goals (first | (refine WL.pass rfl rfl rfl ?_) | (first | (refine WL.step (OkP.nbool_t (by omega) (ok_neq rfl rfl)) rfl rfl rfl ?_) | (refine WL.step (OkP.nbool_f (by omega) (ok_neq rfl rfl)) rfl rfl rfl ?_) | (refine WL.step (ok_neq rfl rfl) rfl rfl rfl ?_)))
  all_goals (first | (refine WL.step (ok_pick_t rfl rfl) rfl rfl rfl ?_) | (refine WL.step (ok_pick_f rfl rfl) rfl rfl rfl ?_))
  all_goals (refine WL.step (ok_move rfl) rfl rfl rfl ?_)
  all_goals (try ((fail_if_success (refine WL.part 20 (b := true) rfl (fun _ => ?_) (fun _ => ?_))); (fail_if_success (refine WL.part 20 (b := false) rfl (fun _ => ?_) (fun _ => ?_))); (refine WL.part 20 rfl (fun hb => ?_) (fun hb => ?_) <;> (first | replace hb := of_decide_eq_true hb | replace hb := of_decide_eq_false hb | replace hb := of_decide_eq_false (nt hb) | replace hb := of_decide_eq_true (nf hb) | skip))))
  all_goals (first | (refine WL.pass rfl rfl rfl ?_) | (refine WL.step (ok_move rfl) rfl rfl rfl ?_))
  all_goals (first
               | (refine WL.pass rfl rfl rfl ?_)
               | (refine WL.call (vs := [_]) rfl (fun a w => Try.call27 a w) rfl (cols_cols (k : Int)) rfl rfl rfl ?_
                  rintro v4 g4 ⟨ho4, hx4, _⟩))
  all_goals (have hX4 := hX3.trans hx4
             rw [hh] at ho4
             obtain ⟨A4, c4, rfl, _⟩ := ho4.slice)
  all_goals (first | (refine WL.pass rfl rfl rfl ?_) | (refine WL.step (ok_lenL rfl Try.underlying40 rfl) rfl rfl rfl ?_))
  all_goals (first | (refine WL.pass rfl rfl rfl ?_) | (refine WL.step (ok_move rfl) rfl rfl rfl ?_))
  all_goals (first | (refine WL.pass rfl rfl rfl ?_) | (first | (refine WL.step (OkP.nbool_t (by omega) (ok_neq rfl rfl)) rfl rfl rfl ?_) | (refine WL.step (OkP.nbool_f (by omega) (ok_neq rfl rfl)) rfl rfl rfl ?_) | (refine WL.step (ok_neq rfl rfl) rfl rfl rfl ?_)))
  all_goals (first | (refine WL.step (ok_pick_t rfl rfl) rfl rfl rfl ?_) | (refine WL.step (ok_pick_f rfl rfl) rfl rfl rfl ?_))
  all_goals (refine WL.nil ?_)
  all_goals (repeat' (with_reducible first | refine thenP_n ?_ | refine blockP_n ?_))
  all_goals (refine WC.sub [(3, _), (26, _)] ⟨rfl, rfl, trivial⟩ ?_)
  all_goals (first | refine WC.condB_t 1 rfl ?_ | refine WC.condB_f 2 rfl ?_ | (refine WC.condB 1 2 rfl (fun hb => ?_) (fun hb => ?_) <;> (first | replace hb := of_decide_eq_true hb | replace hb := of_decide_eq_false hb | replace hb := of_decide_eq_false (nt hb) | replace hb := of_decide_eq_true (nf hb) | skip)))
  all_goals (first
    | (fail_if_success (refine Br.mk (i := 1) ?_))
    | (refine Br.mk (i := 1) ?_
       all_goals (refine WC.seq ?_)
       all_goals (refine WC.region ?_)
       all_goals (refine WL.step (ok_assign rfl) rfl rfl rfl ?_)
       all_goals (refine WL.nil ?_)
       all_goals (repeat' (with_reducible first | refine thenP_n ?_ | refine blockP_n ?_))
       all_goals (refine WC.ret ?_)
       all_goals (repeat' (with_reducible first | refine thenP_r ?_ | refine blockP_r ?_))
       all_goals (refine retP_1 _ ⟨rfl, trivial⟩ ?_)
       all_goals (first | exact ⟨rfl, (hX5.trans hx6).trans hx9⟩)
       skip))
  all_goals (first
    | (fail_if_success (refine Br.mk (i := 2) ?_))
    | (refine Br.mk (i := 2) ?_
       all_goals (refine WC.skip ?_)
       skip))
  all_goals (repeat' (with_reducible first | refine thenP_n ?_ | refine blockP_n ?_))
  all_goals (refine WC.seq ?_)
  all_goals (refine WC.seq ?_)
  all_goals (refine WC.region ?_)
  all_goals (refine WL.step (ok_move rfl) rfl rfl rfl ?_)
  all_goals (refine WL.call (vs := [_]) rfl (fun a w => Try.call21 a w) rfl (rows_cols (k : Int)) rfl rfl rfl ?_
             rintro v5 g5 ⟨L, hL, hp5, hx5, _⟩)
  all_goals (have hX5 := hX4.trans hx5
             rw [hh] at hp5
             have hl5 : L.length = k := by have := congrArg List.length hp5; simpa [rowsP_len] using this
             obtain ⟨_, ⟨_, A5, c5, rfl, _⟩, _⟩ := id hL)
  all_goals (refine WL.step (ok_lenL rfl Try.underlying37 rfl) rfl rfl rfl ?_)
  all_goals (refine WL.step (ok_move rfl) rfl rfl rfl ?_)
  all_goals (refine WL.nil ?_)
  all_goals (repeat' (with_reducible first | refine thenP_n ?_ | refine blockP_n ?_))
  all_goals (refine WC.block ?_)
  -- loop 0: slots that turn [30], that stay [28, 29]
  all_goals (refine WC.loopG (X := Nat) (fun x => ([(30, In (x : Int))] : Fr)) [(28, _), (29, _)] (fun j h' => j ≤ L.length ∧ Ext No g5 h') (fun j => L.length - j) (0) ⟨rfl, rfl, rfl, trivial⟩ (by exact ⟨Nat.zero_le _, .refl _ _⟩) ?_)
  all_goals (rintro j g6 ⟨hj, hx6⟩)
  all_goals (refine WC.sub [(30, _), (28, _), (29, _)] ⟨rfl, rfl, rfl, trivial⟩ ?_)
  all_goals (refine WC.seq ?_)
  all_goals (refine WC.region ?_)
  all_goals (first | (refine WL.step (OkP.bool_t (by omega) (ok_lss rfl rfl)) rfl rfl rfl ?_) | (refine WL.step (OkP.bool_f (by omega) (ok_lss rfl rfl)) rfl rfl rfl ?_) | (refine WL.step (ok_lss rfl rfl) rfl rfl rfl ?_))
  all_goals (refine WL.nil ?_)
  all_goals (repeat' (with_reducible first | refine thenP_n ?_ | refine blockP_n ?_))
  all_goals (refine WC.seq ?_)
  all_goals (first | refine WC.condB_t 3 rfl ?_ | refine WC.condB_f 4 rfl ?_ | (refine WC.condB 3 4 rfl (fun hb => ?_) (fun hb => ?_) <;> (first | replace hb := of_decide_eq_true hb | replace hb := of_decide_eq_false hb | replace hb := of_decide_eq_false (nt hb) | replace hb := of_decide_eq_true (nf hb) | skip)))
  all_goals (first
    | (fail_if_success (refine Br.mk (i := 3) ?_))
    | (refine Br.mk (i := 3) ?_
       all_goals (refine WC.skip ?_)
       skip))
  all_goals (first
    | (fail_if_success (refine Br.mk (i := 4) ?_))
    | (refine Br.mk (i := 4) ?_
       all_goals (refine WC.exit ?_)
       all_goals (repeat' (with_reducible first | refine thenP_x ?_ | refine blockP_miss rfl ?_ | refine blockP_hit ?_ | refine blockP_n ?_ | refine thenP_n ?_))
       all_goals (refine Br.out (i := 1000) ?_)
       skip))
  all_goals (first | (refine Br.keep ?_) | (repeat' (with_reducible first | refine thenP_n ?_ | refine blockP_n ?_)))
  all_goals (first | (refine Br.keep ?_) | (refine WC.seq ?_))
  all_goals (first | (refine Br.keep ?_) | (refine WC.block ?_))
  all_goals (first | (refine Br.keep ?_) | (refine WC.seq ?_))
  all_goals (first | (refine Br.keep ?_) | (refine WC.region ?_))
  all_goals (first
               | (refine Br.keep ?_)
               | (have hL6 := hL.ext0 hx6
                  obtain ⟨bL, oL, hA, hbL, hat⟩ := Rd.at_ hL6.1 (by omega)
                  obtain ⟨y, hy⟩ : ∃ y, L[j]? = some y := ⟨_, List.getElem?_eq_getElem (by omega)⟩
                  have hc := hat.get (p := oL + j * 1) (v := y.v) j (by rw [List.getElem?_map, hy]; exact rfl) (by omega)
                  have hyc := hL6.2.2 y (List.mem_of_getElem? hy)
                  have hyp : y.l.map Cel.pl = rowP (j + 1) := by have := congrArg (·[j]?) hp5; simp only [List.getElem?_map, hy, rowsP_at (show j < k by omega)] at this; exact Option.some.inj this
                  obtain ⟨q, hyq, hq⟩ := one_of hyp
                  obtain ⟨yr, ⟨_, Ay, cy, eyv, _⟩, yq⟩ := id hyc
                  rw [hyq] at yr eyv yq hyc hyp
                  rw [eyv] at hyc
                  rw [eyv] at hc yr
                  obtain ⟨bY, oY, hAY, hbY, hatY⟩ := Rd.at_ yr (by simp)
                  have hqo := yq q (by simp)
                  have hqr := hqo.1
                  obtain ⟨Aq, cq, eqv, _⟩ := id hqr
                  have hcq : cell g6 ⟨bY, oY + 1, none⟩ = some q.v := hatY.get 1 rfl rfl
                  rw [eqv] at hcq hqr
                  have hqb : q.bytes = deci ((j + 1 : Nat) : Int) := by have := congrArg Prod.snd hq; exact this
                  have hjw := deci_len ((j + 1 : Nat) : Int) (by omega)))
  all_goals (first | (refine Br.keep ?_) | (refine WL.step (ok_move rfl) rfl rfl rfl ?_))
  all_goals (first | (refine Br.keep ?_) | (refine WL.step (ok_idxAddrA Try.underlying37 (fun w => Try.sizeOf36 w) rfl rfl rfl (by omega) (by first | rfl | assumption)) rfl rfl rfl ?_))
  all_goals (first | (refine Br.keep ?_) | (refine WL.step (ok_load (fun w => Try.isAgg36 w) rfl (by first | assumption | exact cell_blk (by assumption) rfl)) rfl rfl rfl ?_))
  all_goals (first | (refine Br.keep ?_) | (refine WL.step (ok_assign rfl) rfl rfl rfl ?_))
  all_goals (first | (refine Br.keep ?_) | (refine WL.step (ok_assign rfl) rfl rfl rfl ?_))
  all_goals (first | (refine Br.keep ?_) | (refine WL.nil ?_))
  all_goals (first | (refine Br.keep ?_) | (repeat' (with_reducible first | refine thenP_n ?_ | refine blockP_n ?_)))
  all_goals (first | (refine Br.keep ?_) | (refine WC.sub [(4, _), (5, _), (28, _), (29, _), (30, _)] ⟨rfl, rfl, rfl, rfl, rfl, trivial⟩ ?_))
  all_goals (first | (refine Br.keep ?_) | (refine WC.seq ?_))
  all_goals (first | (refine Br.keep ?_) | (refine WC.drawH (fun h' => Ext No g6 h') 20 20 rfl fol ?_))
  all_goals (first | (refine Br.keep ?_) | (refine WH.take 0 rfl (by kernel_rfl) (by kernel_rfl) (by kernel_rfl) (by kernel_rfl) rfl (by first | exact Ext.refl _ _ | assumption | exact hx7.trans hx8) (fun hq hC => ok_move rfl) rfl rfl rfl ?_))
  all_goals (first | (refine Br.keep ?_) | (refine WH.take 1 rfl (by kernel_rfl) (by kernel_rfl) (by kernel_rfl) (by kernel_rfl) rfl (by first | exact Ext.refl _ _ | assumption | exact hx7.trans hx8) (fun hq hC => ok_lenL rfl Try.underlying36 rfl) rfl rfl rfl ?_))
  all_goals (first | (refine Br.keep ?_) | (first | (refine WH.take 2 rfl (by kernel_rfl) (by kernel_rfl) (by kernel_rfl) (by kernel_rfl) rfl (by first | exact Ext.refl _ _ | assumption | exact hx7.trans hx8) (fun hq hC => OkP.nbool_t (by omega) (ok_neq rfl rfl)) rfl rfl rfl ?_) | (refine WH.take 2 rfl (by kernel_rfl) (by kernel_rfl) (by kernel_rfl) (by kernel_rfl) rfl (by first | exact Ext.refl _ _ | assumption | exact hx7.trans hx8) (fun hq hC => OkP.nbool_f (by omega) (ok_neq rfl rfl)) rfl rfl rfl ?_) | (refine WH.take 2 rfl (by kernel_rfl) (by kernel_rfl) (by kernel_rfl) (by kernel_rfl) rfl (by first | exact Ext.refl _ _ | assumption | exact hx7.trans hx8) (fun hq hC => ok_neq rfl rfl) rfl rfl rfl ?_)))
  all_goals (first | (refine Br.keep ?_) | (refine WH.take 3 rfl (by kernel_rfl) (by kernel_rfl) (by kernel_rfl) (by kernel_rfl) rfl (by first | exact Ext.refl _ _ | assumption | exact hx7.trans hx8) (fun hq hC => ok_move rfl) rfl rfl rfl ?_))
  all_goals (first | (refine Br.keep ?_) | (try ((fail_if_success (refine WH.part 38 (b := true) rfl (fun _ => ?_) (fun _ => ?_))); (fail_if_success (refine WH.part 38 (b := false) rfl (fun _ => ?_) (fun _ => ?_))); (refine WH.part 38 rfl (fun hb => ?_) (fun hb => ?_)))))
  all_goals (first | (refine Br.keep ?_) | (first | (refine WH.pass 4 rfl (by kernel_rfl) (by kernel_rfl) (by kernel_rfl) (by kernel_rfl) rfl (by first | exact Ext.refl _ _ | assumption | exact hx7.trans hx8) rfl rfl rfl ?_) | (refine WH.take 4 rfl (by kernel_rfl) (by kernel_rfl) (by kernel_rfl) (by kernel_rfl) rfl (by first | exact Ext.refl _ _ | assumption | exact hx7.trans hx8) (fun hq hC => ok_move rfl) rfl rfl rfl ?_)))
  all_goals (first | (refine Br.keep ?_) | (refine WH.one 5 (by kernel_rfl) ?_))
  all_goals (first
               | (refine Br.keep ?_)
               | (refine Comes1.call (vs := [_]) rfl rfl (fun a w => Try.call28 a w) rfl (row_told [q] hyc (by simp)) rfl rfl rfl ?_ (fun _ => by kernel_rfl)
                  rintro _ g7 ⟨v7, l7, rfl, hc7, hp7, hx7⟩))
  all_goals (first | (refine Br.keep ?_) | (refine ⟨fun _ => hx7, ?_⟩))
  all_goals (first | (refine Br.keep ?_) | (refine WH.one 6 (by kernel_rfl) ?_))
  all_goals (first
               | (refine Br.keep ?_)
               | (refine Comes1.call (vs := [_]) rfl rfl (fun a w => Try.call52 a w) rfl (check_back (rowB v7 l7) (rowB_ok hc7) (rowB_may v7 l7 (j + 1) (by omega) (hp7.trans hyp))) rfl rfl rfl ?_ (fun _ => by kernel_rfl)
                  rintro _ g8 ⟨rfl, hx8⟩))
  all_goals (first | (refine Br.keep ?_) | (refine ⟨fun _ => hx7.trans hx8, ?_⟩))
  all_goals (first | (refine Br.keep ?_) | (first | (refine WH.pass 7 rfl (by kernel_rfl) (by kernel_rfl) (by kernel_rfl) (by kernel_rfl) rfl (by first | exact Ext.refl _ _ | assumption | exact hx7.trans hx8) rfl rfl rfl ?_) | (first | (refine WH.take 7 rfl (by kernel_rfl) (by kernel_rfl) (by kernel_rfl) (by kernel_rfl) rfl (by first | exact Ext.refl _ _ | assumption | exact hx7.trans hx8) (fun hq hC => OkP.nbool_t (by omega) (ok_neq rfl rfl)) rfl rfl rfl ?_) | (refine WH.take 7 rfl (by kernel_rfl) (by kernel_rfl) (by kernel_rfl) (by kernel_rfl) rfl (by first | exact Ext.refl _ _ | assumption | exact hx7.trans hx8) (fun hq hC => OkP.nbool_f (by omega) (ok_neq rfl rfl)) rfl rfl rfl ?_) | (refine WH.take 7 rfl (by kernel_rfl) (by kernel_rfl) (by kernel_rfl) (by kernel_rfl) rfl (by first | exact Ext.refl _ _ | assumption | exact hx7.trans hx8) (fun hq hC => ok_neq rfl rfl) rfl rfl rfl ?_))))
  all_goals (first | (refine Br.keep ?_) | (first | (refine WH.take 8 rfl (by kernel_rfl) (by kernel_rfl) (by kernel_rfl) (by kernel_rfl) rfl (by first | exact Ext.refl _ _ | assumption | exact hx7.trans hx8) (fun hq hC => ok_pick_t rfl rfl) rfl rfl rfl ?_) | (refine WH.take 8 rfl (by kernel_rfl) (by kernel_rfl) (by kernel_rfl) (by kernel_rfl) rfl (by first | exact Ext.refl _ _ | assumption | exact hx7.trans hx8) (fun hq hC => ok_pick_f rfl rfl) rfl rfl rfl ?_)))
  all_goals (first | (refine Br.keep ?_) | (refine WH.take 9 rfl (by kernel_rfl) (by kernel_rfl) (by kernel_rfl) (by kernel_rfl) rfl (by first | exact Ext.refl _ _ | assumption | exact hx7.trans hx8) (fun hq hC => ok_move rfl) rfl rfl rfl ?_))
  all_goals (first | (refine Br.keep ?_) | (try ((fail_if_success (refine WH.part 44 (b := true) rfl (fun _ => ?_) (fun _ => ?_))); (fail_if_success (refine WH.part 44 (b := false) rfl (fun _ => ?_) (fun _ => ?_))); (refine WH.part 44 rfl (fun hb => ?_) (fun hb => ?_)))))
  all_goals (first | (refine Br.keep ?_) | (first | (refine WH.pass 10 rfl (by kernel_rfl) (by kernel_rfl) (by kernel_rfl) (by kernel_rfl) rfl (by first | exact Ext.refl _ _ | assumption | exact hx7.trans hx8) rfl rfl rfl ?_) | (refine WH.take 10 rfl (by kernel_rfl) (by kernel_rfl) (by kernel_rfl) (by kernel_rfl) rfl (by first | exact Ext.refl _ _ | assumption | exact hx7.trans hx8) (fun hq hC => ok_move rfl) rfl rfl rfl ?_)))
  all_goals (first | (refine Br.keep ?_) | (first | (refine WH.pass 11 rfl (by kernel_rfl) (by kernel_rfl) (by kernel_rfl) (by kernel_rfl) rfl (by first | exact Ext.refl _ _ | assumption | exact hx7.trans hx8) rfl rfl rfl ?_) | (refine WH.take 11 rfl (by kernel_rfl) (by kernel_rfl) (by kernel_rfl) (by kernel_rfl) rfl (by first | exact Ext.refl _ _ | assumption | exact hx7.trans hx8) (fun hq hC => ok_idxAddrA Try.underlying36 (fun w => Try.sizeOf86 w) rfl rfl rfl (by first | omega | (simp <;> omega)) (by first | rfl | assumption) (k := 0)) rfl rfl rfl ?_)))
  all_goals (first | (refine Br.keep ?_) | (first | (refine WH.pass 12 rfl (by kernel_rfl) (by kernel_rfl) (by kernel_rfl) (by kernel_rfl) rfl (by first | exact Ext.refl _ _ | assumption | exact hx7.trans hx8) rfl rfl rfl ?_) | (refine WH.take 12 rfl (by kernel_rfl) (by kernel_rfl) (by kernel_rfl) (by kernel_rfl) rfl (by first | exact Ext.refl _ _ | assumption | exact hx7.trans hx8) (fun hq hC => ok_fieldAddr rfl Try.underlying86 rfl (fun w => Try.sizeOf51 w)) rfl rfl rfl ?_)))
  all_goals (first | (refine Br.keep ?_) | (first | (refine WH.pass 13 rfl (by kernel_rfl) (by kernel_rfl) (by kernel_rfl) (by kernel_rfl) rfl (by first | exact Ext.refl _ _ | assumption | exact hx7.trans hx8) rfl rfl rfl ?_) | (refine WH.take 13 rfl (by kernel_rfl) (by kernel_rfl) (by kernel_rfl) (by kernel_rfl) rfl (by first | exact Ext.refl _ _ | assumption | exact hx7.trans hx8) (fun hq hC => ok_load (fun w => Try.isAgg51 w) rfl (by first | exact hC.cell (by first | exact hcq | assumption | exact cell_blk (by assumption) rfl) nos)) rfl rfl rfl ?_)))
  all_goals (first | (refine Br.keep ?_) | (first | (refine WH.pass 14 rfl (by kernel_rfl) (by kernel_rfl) (by kernel_rfl) (by kernel_rfl) rfl (by first | exact Ext.refl _ _ | assumption | exact hx7.trans hx8) rfl rfl rfl ?_) | (refine WH.take 14 rfl (by kernel_rfl) (by kernel_rfl) (by kernel_rfl) (by kernel_rfl) rfl (by first | exact Ext.refl _ _ | assumption | exact hx7.trans hx8) (fun hq hC => ok_convBS Try.underlying51 Try.underlying5 Try.underlying9 rfl (hqr.ext0 hC)) rfl rfl rfl ?_)))
  all_goals (first | (refine Br.keep ?_) | (first | (refine WH.pass 15 rfl (by kernel_rfl) (by kernel_rfl) (by kernel_rfl) (by kernel_rfl) rfl (by first | exact Ext.refl _ _ | assumption | exact hx7.trans hx8) rfl rfl rfl ?_) | (refine WH.take 15 rfl (by kernel_rfl) (by kernel_rfl) (by kernel_rfl) (by kernel_rfl) rfl (by first | exact Ext.refl _ _ | assumption | exact hx7.trans hx8) (fun hq hC => ok_move rfl) rfl rfl rfl ?_)))
  all_goals (first | (refine Br.keep ?_) | (first | (refine WH.pass 16 rfl (by kernel_rfl) (by kernel_rfl) (by kernel_rfl) (by kernel_rfl) rfl (by first | exact Ext.refl _ _ | assumption | exact hx7.trans hx8) rfl rfl rfl ?_) | (first | (refine WH.take 16 rfl (by kernel_rfl) (by kernel_rfl) (by kernel_rfl) (by kernel_rfl) rfl (by first | exact Ext.refl _ _ | assumption | exact hx7.trans hx8) (fun hq hC => ok_addI rfl rfl (by omega)) rfl rfl rfl ?_) | (refine WH.take 16 rfl (by kernel_rfl) (by kernel_rfl) (by kernel_rfl) (by kernel_rfl) rfl (by first | exact Ext.refl _ _ | assumption | exact hx7.trans hx8) (fun hq hC => ok_add rfl rfl) rfl rfl rfl ?_))))
  all_goals (first | (refine Br.keep ?_) | (refine WH.one 17 (by kernel_rfl) ?_))
  all_goals (first
               | (refine Br.keep ?_)
               | (refine Comes1.call (vs := [_]) rfl rfl (fun a w => Try.call53 a w) rfl (text_ref ((j : Int) + 1) (by omega) (by omega)) rfl rfl rfl ?_ (fun _ => by kernel_rfl)
                  rintro _ hz ⟨rfl, _⟩
                  subst hz))
  all_goals (first | (refine Br.keep ?_) | (refine ⟨fun _ => hx7.trans hx8, ?_⟩))
  all_goals (first | (refine Br.keep ?_) | (first | (refine WH.pass 18 rfl (by kernel_rfl) (by kernel_rfl) (by kernel_rfl) (by kernel_rfl) rfl (by first | exact Ext.refl _ _ | assumption | exact hx7.trans hx8) rfl rfl rfl ?_) | (first | (refine WH.take 18 rfl (by kernel_rfl) (by kernel_rfl) (by kernel_rfl) (by kernel_rfl) rfl (by first | exact Ext.refl _ _ | assumption | exact hx7.trans hx8) (fun hq hC => OkP.nbool_f (by first | rfl | assumption | decide) (ok_neqS rfl rfl)) rfl rfl rfl ?_) | (refine WH.take 18 rfl (by kernel_rfl) (by kernel_rfl) (by kernel_rfl) (by kernel_rfl) rfl (by first | exact Ext.refl _ _ | assumption | exact hx7.trans hx8) (fun hq hC => OkP.nbool_t (by first | assumption | decide) (ok_neqS rfl rfl)) rfl rfl rfl ?_) | (refine WH.take 18 rfl (by kernel_rfl) (by kernel_rfl) (by kernel_rfl) (by kernel_rfl) rfl (by first | exact Ext.refl _ _ | assumption | exact hx7.trans hx8) (fun hq hC => ok_neqS rfl rfl) rfl rfl rfl ?_))))
  all_goals (first | (refine Br.keep ?_) | (first | (refine WH.take 19 rfl (by kernel_rfl) (by kernel_rfl) (by kernel_rfl) (by kernel_rfl) rfl (by first | exact Ext.refl _ _ | assumption | exact hx7.trans hx8) (fun hq hC => ok_pick_t rfl rfl) rfl rfl rfl ?_) | (refine WH.take 19 rfl (by kernel_rfl) (by kernel_rfl) (by kernel_rfl) (by kernel_rfl) rfl (by first | exact Ext.refl _ _ | assumption | exact hx7.trans hx8) (fun hq hC => ok_pick_f rfl rfl) rfl rfl rfl ?_)))
  all_goals (first | (refine Br.keep ?_) | (refine WH.done (by kernel_rfl) ?_))
  all_goals (first | (refine Br.keep ?_) | (repeat' (with_reducible first | refine thenP_n ?_ | refine blockP_n ?_)))
  all_goals (first | (refine Br.keep ?_) | (refine WC.sub [(28, _), (29, _), (30, _), (54, _)] ⟨rfl, rfl, rfl, rfl, trivial⟩ ?_))
  all_goals (first | (refine Br.keep ?_) | (first | refine WC.condB_t 5 rfl ?_ | refine WC.condB_f 6 rfl ?_ | (refine WC.condB 5 6 rfl (fun hb => ?_) (fun hb => ?_) <;> (first | replace hb := of_decide_eq_true hb | replace hb := of_decide_eq_false hb | replace hb := of_decide_eq_false (nt hb) | replace hb := of_decide_eq_true (nf hb) | skip))))
  all_goals (first
    | (fail_if_success (refine Br.mk (i := 5) ?_))
    | (refine Br.mk (i := 5) ?_
       all_goals (refine WC.seq ?_)
       all_goals (refine WC.region ?_)
       all_goals (refine WL.step (ok_assign rfl) rfl rfl rfl ?_)
       all_goals (refine WL.nil ?_)
       all_goals (repeat' (with_reducible first | refine thenP_n ?_ | refine blockP_n ?_))
       all_goals (refine WC.sub [(2, _)] ⟨rfl, trivial⟩ ?_)
       all_goals (refine WC.ret ?_)
       all_goals (repeat' (with_reducible first | refine thenP_r ?_ | refine blockP_r ?_))
       all_goals (refine retP_1 _ ⟨rfl, trivial⟩ ?_)
       all_goals (first | exact ⟨rfl, (hX5.trans hx6).trans hx9⟩)
       skip))
  all_goals (first
    | (fail_if_success (refine Br.mk (i := 6) ?_))
    | (refine Br.mk (i := 6) ?_
       all_goals (refine WC.skip ?_)
       skip))
  all_goals (first | (refine Br.keep ?_) | (repeat' (with_reducible first | refine thenP_n ?_ | refine blockP_n ?_)))
  all_goals (first | (refine Br.keep ?_) | (refine WC.region ?_))
  all_goals (first | (refine Br.keep ?_) | (first | (refine WL.step (ok_addI rfl rfl (by omega)) rfl rfl rfl ?_) | (refine WL.step (ok_add rfl rfl) rfl rfl rfl ?_)))
  all_goals (first | (refine Br.keep ?_) | (refine WL.step (ok_move rfl) rfl rfl rfl ?_))
  all_goals (first | (refine Br.keep ?_) | (refine WL.nil ?_))
  all_goals (first | (refine Br.keep ?_) | (repeat' (with_reducible first | refine thenP_n ?_ | refine blockP_n ?_)))
  all_goals (first | (refine Br.keep ?_) | (exact ⟨j + 1, ⟨rfl, rfl, rfl, trivial⟩, (by exact ⟨by omega, hx6.trans (hx7.trans hx8)⟩), (by omega)⟩))
  all_goals (try (refine Br.mk (i := 1000) ?_))
  all_goals (repeat' (with_reducible first | refine thenP_n ?_ | refine blockP_n ?_))
  all_goals (refine WC.sub [] trivial ?_)
  all_goals (refine WC.seq ?_)
  all_goals (refine WC.region ?_)
  all_goals (refine WL.call (vs := []) rfl (fun a w => Try.call20 a w) rfl (awake10) rfl rfl rfl ?_
             rintro _ g9 ⟨rfl, hx9⟩)
  all_goals (refine WL.step (ok_assign rfl) rfl rfl rfl ?_)
  all_goals (refine WL.nil ?_)
  all_goals (repeat' (with_reducible first | refine thenP_n ?_ | refine blockP_n ?_))
  all_goals (refine WC.ret ?_)
  all_goals (repeat' (with_reducible first | refine thenP_r ?_ | refine blockP_r ?_))
  all_goals (refine retP_1 _ ⟨rfl, trivial⟩ ?_)
  all_goals (first | exact ⟨rfl, (hX5.trans hx6).trans hx9⟩)
theorem u16_wf {n : Int} (h : (Lit.int .u16 n).wf = true) : 0 ≤ n ∧ n ≤ 65535 := by
  simpa [Lit.wf, IntKind.min, IntKind.max, IntKind.signed, IntKind.bits] using h

namespace LColsMay
open Go.ChangeShapes Go.WideShapes Go.ChangeAt Go.RowKit
open Go.ChangeMaps (open_string shut_string)
theorem own : ownKnob Try.prog.godebug = none := by kernel_rfl
theorem laidOut : laidOutB Try.prog = true := by kernel_rfl
set_option maxRecDepth 100000 in
theorem lifted (os : Os) (started : os.Started) (H : Type) (enc : TypeId × Value → H) :
    ReturnsInHanded {} Try.checked os 8 .any (Rows.colsMaySpec.pre6 enc Try.prog Try.f8 Rows.colsMayRow.domain false) (Rows.colsMaySpec.post enc Try.prog Try.f8 false true false false) := by
  refine returnsInHanded_of_change_sized (C := Try.checked) own started (by kernel_rfl) Try.func8
    (ChangeSpec.witness6 (enc := enc) (C := Try.checked) false ⟨#[], #[.int .u16 0], []⟩ 8 (by kernel_rfl) (by kernel_rfl) (by kernel_rfl) (by kernel_rfl)) ?_
  intro W base args ds gs before hval0 hW hcnd hsz0 _
  have hval : ∀ (j : Nat) t v, Try.f8.params[j]? = some t → args[j]? = some v → Value.okWide Try.prog W .any base t v := hval0
  have hsz := hsz0
  rw [Try.params8] at hsz
  clear hsz0
  have hW' := hW
  obtain ⟨p, q, hA0, hV, rfl, hfz, hnd⟩ := hW
  have hA : DataW.TrodAll enc Try.prog W 0 (fun _ => true) true Try.f8.params.toList args.toList ds p := hA0
  rw [Try.params8] at hA hval
  obtain ⟨v0, vs0, d0, ds0, p0, q0, hargs, rfl, rfl, h0, r0⟩ := trodAll_cons hA
  obtain ⟨rfl, rfl, rfl⟩ := trodAll_nil r0
  obtain rfl : args = #[v0] := by cases args; simp_all
  obtain ⟨rfl, rfl⟩ := trodVars_none hV
  have hz0 : ∀ n ∈ d0.weights Try.prog 83, n ≤ reachBytes := fun n hn => by simpa using List.all_eq_true.1 hsz n (DataW.weights_mem_each (j := 0) rfl rfl n hn)
  have k0 := h0
  have lt0 : ∀ x ∈ p0, x.block < W.heap.size := by obtain ⟨m, hm⟩ := k0; exact DataW.trod_lt m _ _ _ hm
  obtain ⟨a0, rfl, e0, _, w0⟩ := open_int Try.underlying83 (hval 0 83 v0 rfl rfl) h0
  clear hA0 hval0
  refine (law_calls (may_law a0 (u16_wf w0).1 (u16_wf w0).2)).mono fun e W' ⟨he, bel⟩ => ?_
  subst he
  exact ⟨_, rfl, _, _, _, [], _, [], hW', trodAll_mk1 (shut_bool Try.underlying4 _), (trodAll_cons_mk (Below.trod laidOut (by kernel_rfl) (of_decide_eq_true (by kernel_rfl)) k0 bel lt0) trodAll_mk0), rfl, bel.frame _, fun h => by cases h⟩
theorem over : Rows.colsMayRow.holds Try.pinned (OpenSpec.ofChange Rows.colsMaySpec) :=
  OpenClaim.holds_of_wide 8 Try.f8 rfl rfl rfl rfl rfl rfl rfl ⟨rfl, rfl, rfl, rfl, rfl⟩ rfl rfl rfl rfl rfl (by kernel_rfl) Try.func8 (by kernel_rfl)
    (of_decide_eq_true (by kernel_rfl)) (by unfold Func.isWrapper; first | (rw [if_pos (by decide +kernel)]; kernel_rfl) | (rw [if_neg (by decide +kernel)]; exact ⟨rfl, rfl⟩))
    (fun os started H enc _ => lifted os started H enc)
end LColsMay
theorem colsMay_proved : Rows.ColsMaySaid := LColsMay.over
#print axioms colsMay_proved
end Go.Proofs.Ytgfbilmlgibbfaa

