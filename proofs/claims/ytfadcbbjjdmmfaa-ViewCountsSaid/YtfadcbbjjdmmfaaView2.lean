/-
  VIEW: all that stand in a view, as the code and the document gather them; how often.
-/
import Derived.Test.YtfadcbbjjdmmfaaView
namespace Go.Proofs.Ytfadcbbjjdmmfaa
open Go Go.RK

set_option maxHeartbeats 1000000 in
set_option maxRecDepth 100000 in
theorem ids_v {h : Heap} (V : VW) (ok : V.ok h) (f : Few V) : CallsH Try.prog 69 ⟨[.agg ⟨V.cells⟩]⟩ h fun u h' => Own h' u 3 1 (idsV V).length (ints (idsV V)) ∧ Ext No h h' ∧ ∀ k, u.ownBlock = some k → h.size ≤ k := by
  have hfc := f.c
  have hfs := f.s
  have hidc := idsC_len f
  have hids := idsS_len f
  obtain ⟨vc, C, vs, S, vr, R, vw, W⟩ := V
  obtain ⟨hc, hcl, hco, hs, hsl, hso, hrr, hrl, hw, hwl⟩ := ok
  simp only at hc hcl hco hs hsl hso hrr hrl hw hwl hfc hfs hidc hids
  obtain ⟨A1, c1, rfl, _⟩ := id hc
  obtain ⟨A2, c2, rfl, _⟩ := id hs
  obtain ⟨A3, c3, rfl, _⟩ := id hrr
  obtain ⟨A4, c4, rfl, _⟩ := id hw
  dsimp only [VW.cells]
  refine calls [(0, _)] Try.func69 rfl Try.ntmps69 rfl ⟨rfl, trivial⟩ ?_
  all_goals (refine WC.seq ?_)
  all_goals (refine WC.region ?_)
  all_goals (refine WL.stepR (okE_box rfl) rfl rfl rfl ?_
             rintro _ h1 ⟨b1, rfl, hg1, hb1, hx1⟩)
  all_goals (refine WL.step (ok_assign rfl) rfl rfl rfl ?_)
  all_goals (refine WL.nil ?_)
  all_goals (repeat' (with_reducible first | refine thenP_n ?_ | refine blockP_n ?_))
  all_goals (refine WC.seq ?_)
  all_goals (refine WC.region ?_)
  all_goals (refine WL.step (ok_assign rfl) rfl rfl rfl ?_)
  all_goals (refine WL.nil ?_)
  all_goals (repeat' (with_reducible first | refine thenP_n ?_ | refine blockP_n ?_))
  all_goals (refine WC.seq ?_)
  all_goals (refine WC.seq ?_)
  all_goals (refine WC.region ?_)
  all_goals (refine WL.step (ok_fieldAddr rfl Try.underlying46 rfl (fun w => Try.sizeOf42 w)) rfl rfl rfl ?_)
  all_goals (refine WL.step (ok_load (fun w => Try.isAgg42 w) rfl (by first | assumption | exact cell_blk (by assumption) rfl)) rfl rfl rfl ?_)
  all_goals (refine WL.step (ok_lenL rfl Try.underlying42 rfl) rfl rfl rfl ?_)
  all_goals (refine WL.step (ok_move rfl) rfl rfl rfl ?_)
  all_goals (refine WL.nil ?_)
  all_goals (repeat' (with_reducible first | refine thenP_n ?_ | refine blockP_n ?_))
  all_goals (refine WC.block ?_)
  -- loop 0: slots that turn [3, 13], that stay [1, 11, 12]
  all_goals (refine WC.loopG (X := Nat × Value × List Int) (fun x => ([(13, In (x.1 : Int)), (3, x.2.1)] : Fr)) [(1, _), (11, _), (12, _)] (fun x h' => Ext No h h' ∧ h'[b1]? = h1[b1]? ∧ x.1 ≤ C.length ∧ x.2.2 = idsC (C.take x.1) ∧ Own h' x.2.1 3 1 x.2.2.length (ints x.2.2) ∧ ∀ k, x.2.1.ownBlock = some k → b1 + 1 ≤ k) (fun x => C.length - x.1) ((0, .slice none 0 0, [])) ⟨rfl, rfl, rfl, rfl, rfl, trivial⟩ (by exact ⟨hx1, rfl, Nat.zero_le _, by simp [idsC], Own.nil _ _ _, by simp [Value.ownBlock]⟩) ?_)
  all_goals (rintro ⟨k, v2, L2⟩ h2 ⟨hx2, hb2, hk, eL2, ho2, hf2⟩
             simp only at hk eL2 ho2 hf2
             rw [hb1] at hb2
             have hb2l := lt_of_some hb2
             have hb1l := lt_of_some hb1
             have hs1 := hx1.size
             have hs2 := hx2.size)
  all_goals (refine WC.sub [(3, _), (13, _), (1, _), (11, _), (12, _)] ⟨rfl, rfl, rfl, rfl, rfl, trivial⟩ ?_)
  all_goals (dsimp only)
  all_goals (refine WC.seq ?_)
  all_goals (refine WC.region ?_)
  all_goals (first | (refine WL.step (OkP.bool_t (by omega) (ok_lss rfl rfl)) rfl rfl rfl ?_) | (refine WL.step (OkP.bool_f (by omega) (ok_lss rfl rfl)) rfl rfl rfl ?_) | (refine WL.step (ok_lss rfl rfl) rfl rfl rfl ?_))
  all_goals (refine WL.nil ?_)
  all_goals (repeat' (with_reducible first | refine thenP_n ?_ | refine blockP_n ?_))
  all_goals (refine WC.seq ?_)
  all_goals (first | refine WC.condB_t 1 rfl ?_ | refine WC.condB_f 2 rfl ?_ | (refine WC.condB 1 2 rfl (fun hb => ?_) (fun hb => ?_) <;> (first | replace hb := of_decide_eq_true hb | replace hb := of_decide_eq_false hb | replace hb := of_decide_eq_false (nt hb) | replace hb := of_decide_eq_true (nf hb) | skip)))
  all_goals (first
    | (fail_if_success (refine Br.mk (i := 1) ?_))
    | (refine Br.mk (i := 1) ?_
       all_goals (refine WC.skip ?_)
       skip))
  all_goals (first
    | (fail_if_success (refine Br.mk (i := 2) ?_))
    | (refine Br.mk (i := 2) ?_
       all_goals (refine WC.exit ?_)
       all_goals (repeat' (with_reducible first | refine thenP_x ?_ | refine blockP_miss rfl ?_ | refine blockP_hit ?_ | refine blockP_n ?_ | refine thenP_n ?_))
       all_goals (refine Br.out (i := 1000) ?_)
       skip))
  all_goals (first | (refine Br.keep ?_) | (repeat' (with_reducible first | refine thenP_n ?_ | refine blockP_n ?_)))
  all_goals (first | (refine Br.keep ?_) | (refine WC.seq ?_))
  all_goals (first | (refine Br.keep ?_) | (refine WC.block ?_))
  all_goals (first | (refine Br.keep ?_) | (refine WC.seq ?_))
  all_goals (first | (refine Br.keep ?_) | (refine WC.region ?_))
  all_goals (first
               | (refine Br.keep ?_)
               | (obtain ⟨bL, oL, hA, hbL, hat⟩ := Rd.at_ (hc.ext0 hx2) (by omega)
                  obtain ⟨⟨ph, sv, dn, tv, t⟩, hy⟩ : ∃ y, C[k]? = some y := ⟨_, List.getElem?_eq_getElem (by omega)⟩
                  have hco0 := hco _ (List.mem_of_getElem? hy)
                  have hft : t.length ≤ 40 := f.t _ (List.mem_of_getElem? hy)
                  obtain ⟨At1, ct1, etv, _⟩ := id hco0.1
                  simp only at etv
                  subst etv
                  have hrt : Rd h (.slice At1 t.length ct1) 2 t.length (t.flatMap nmC) := hco0.1
                  have hcc : At h2 bL (oL + k * 4) [In ph, In sv, In dn, .slice At1 t.length ct1] := At.elem CV.len hat hy))
  all_goals (first | (refine Br.keep ?_) | (refine WL.step (ok_idxAddrA Try.underlying42 (fun w => Try.sizeOf82 w) rfl rfl rfl (by omega) (by first | rfl | assumption)) rfl rfl rfl ?_))
  all_goals (first | (refine Br.keep ?_) | (refine WL.step (ok_loadN (fun w => Try.isAgg82 w) (fun w => Try.sizeOf82 w) rfl rfl (by assumption)) rfl rfl rfl ?_))
  all_goals (first
               | (refine Br.keep ?_)
               | (refine WL.stepR (okE_alloc (fun w => Try.zeroValue82 w)) rfl rfl rfl ?_
                  rintro _ h3 ⟨b3, rfl, hg3, hb3, hx3⟩))
  all_goals (first
               | (refine Br.keep ?_)
               | (refine WL.stepR0 (okE_storeW (fun w => Try.sizeOf82 w) rfl rfl rfl (by assumption) rfl (by simp [Value.oneCell'])) rfl rfl ?_
                  rintro _ h4 ⟨hb4, hx4⟩))
  all_goals (first
               | (refine Br.keep ?_)
               | (have hX4 : Ext No h2 h4 := hx3.trans' hx4 (fun q hq e => by omega)
                  have hs4 := hX4.size))
  all_goals (first | (refine Br.keep ?_) | (refine WL.nil ?_))
  all_goals (first | (refine Br.keep ?_) | (repeat' (with_reducible first | refine thenP_n ?_ | refine blockP_n ?_)))
  all_goals (first | (refine Br.keep ?_) | (refine WC.seq ?_))
  all_goals (first | (refine Br.keep ?_) | (refine WC.region ?_))
  all_goals (first | (refine Br.keep ?_) | (refine WL.step (ok_fieldAddr rfl Try.underlying82 rfl (fun w => Try.sizeOf80 w)) rfl rfl rfl ?_))
  all_goals (first | (refine Br.keep ?_) | (refine WL.step (ok_load (fun w => Try.isAgg80 w) rfl (by first | assumption | exact cell_blk (by assumption) rfl)) rfl rfl rfl ?_))
  all_goals (first | (refine Br.keep ?_) | (refine WL.step (ok_lenL rfl Try.underlying80 rfl) rfl rfl rfl ?_))
  all_goals (first | (refine Br.keep ?_) | (refine WL.step (ok_move rfl) rfl rfl rfl ?_))
  all_goals (first | (refine Br.keep ?_) | (refine WL.nil ?_))
  all_goals (first | (refine Br.keep ?_) | (repeat' (with_reducible first | refine thenP_n ?_ | refine blockP_n ?_)))
  all_goals (first | (refine Br.keep ?_) | (refine WC.sub [(1, _), (3, _), (11, _), (12, _), (13, _), (18, _), (19, _), (20, _)] ⟨rfl, rfl, rfl, rfl, rfl, rfl, rfl, rfl, trivial⟩ ?_))
  all_goals (first | (refine Br.keep ?_) | (refine WC.block ?_))
  -- loop 1: slots that turn [3, 20], that stay [1, 11, 12, 13, 18, 19]
  all_goals (first | (refine Br.keep ?_) | (refine WC.loopG (X := Nat × Value × List Int) (fun x => ([(20, In (x.1 : Int)), (3, x.2.1)] : Fr)) [(1, _), (11, _), (12, _), (13, _), (18, _), (19, _)] (fun x h' => Ext No h h' ∧ h'[b1]? = h1[b1]? ∧ h4.size ≤ h'.size ∧ x.1 ≤ t.length ∧ x.2.2 = idsC (C.take k) ++ (t.take x.1).map (·.2) ∧ Own h' x.2.1 3 1 x.2.2.length (ints x.2.2) ∧ ∀ k, x.2.1.ownBlock = some k → b1 + 1 ≤ k) (fun x => t.length - x.1) ((0, v2, L2)) ⟨rfl, rfl, rfl, rfl, rfl, rfl, rfl, rfl, trivial⟩ (by exact ⟨hx2.trans hX4, by rw [hb1]; exact hX4.obj hb2 nos, Nat.le_refl _, Nat.zero_le _, by simp [eL2], ho2.ext hX4 (fun _ _ => nos), hf2⟩) ?_))
  all_goals (first
               | (refine Br.keep ?_)
               | (rintro ⟨j, v6, L6⟩ h6 ⟨hx6, hb6, hs6, hj, eL6, ho6, hf6⟩
                  simp only at hj eL6 ho6 hf6
                  rw [hb1] at hb6
                  have hb6l := lt_of_some hb6
                  have hl6 : L6.length ≤ 5000 := by have := hidc k; have := congrArg List.length eL6; rw [List.length_append, List.length_map, List.length_take] at this; omega))
  all_goals (first | (refine Br.keep ?_) | (refine WC.sub [(3, _), (20, _), (1, _), (11, _), (12, _), (13, _), (18, _), (19, _)] ⟨rfl, rfl, rfl, rfl, rfl, rfl, rfl, rfl, trivial⟩ ?_))
  all_goals (first | (refine Br.keep ?_) | (dsimp only))
  all_goals (first | (refine Br.keep ?_) | (refine WC.seq ?_))
  all_goals (first | (refine Br.keep ?_) | (refine WC.region ?_))
  all_goals (first | (refine Br.keep ?_) | (first | (refine WL.step (OkP.bool_t (by omega) (ok_lss rfl rfl)) rfl rfl rfl ?_) | (refine WL.step (OkP.bool_f (by omega) (ok_lss rfl rfl)) rfl rfl rfl ?_) | (refine WL.step (ok_lss rfl rfl) rfl rfl rfl ?_)))
  all_goals (first | (refine Br.keep ?_) | (refine WL.nil ?_))
  all_goals (first | (refine Br.keep ?_) | (repeat' (with_reducible first | refine thenP_n ?_ | refine blockP_n ?_)))
  all_goals (first | (refine Br.keep ?_) | (refine WC.seq ?_))
  all_goals (first | (refine Br.keep ?_) | (first | refine WC.condB_t 3 rfl ?_ | refine WC.condB_f 4 rfl ?_ | (refine WC.condB 3 4 rfl (fun hb => ?_) (fun hb => ?_) <;> (first | replace hb := of_decide_eq_true hb | replace hb := of_decide_eq_false hb | replace hb := of_decide_eq_false (nt hb) | replace hb := of_decide_eq_true (nf hb) | skip))))
  all_goals (first
    | (fail_if_success (refine Br.mk (i := 3) ?_))
    | (refine Br.mk (i := 3) ?_
       all_goals (refine WC.skip ?_)
       skip))
  all_goals (first
    | (fail_if_success (refine Br.mk (i := 4) ?_))
    | (refine Br.mk (i := 4) ?_
       all_goals (refine WC.exit ?_)
       all_goals (repeat' (with_reducible first | refine thenP_x ?_ | refine blockP_miss rfl ?_ | refine blockP_hit ?_ | refine blockP_n ?_ | refine thenP_n ?_))
       all_goals (refine Br.out (i := 1002) ?_)
       skip))
  all_goals (first | (refine Br.keep ?_) | (repeat' (with_reducible first | refine thenP_n ?_ | refine blockP_n ?_)))
  all_goals (first | (refine Br.keep ?_) | (refine WC.seq ?_))
  all_goals (first | (refine Br.keep ?_) | (refine WC.block ?_))
  all_goals (first | (refine Br.keep ?_) | (refine WC.seq ?_))
  all_goals (first | (refine Br.keep ?_) | (refine WC.region ?_))
  all_goals (first
               | (refine Br.keep ?_)
               | (obtain ⟨bM, oM, hB, hbM, hbt⟩ := Rd.at_ (hrt.ext0 hx6) (by omega)
                  obtain ⟨⟨n8, id8⟩, hz⟩ : ∃ y, t[j]? = some y := ⟨_, List.getElem?_eq_getElem (by omega)⟩
                  have hcd : At h6 bM (oM + j * 2) [St n8, In id8] := At.elem nmC_len hbt hz))
  all_goals (first | (refine Br.keep ?_) | (refine WL.step (ok_idxAddrA Try.underlying80 (fun w => Try.sizeOf86 w) rfl rfl rfl (by omega) (by first | rfl | assumption)) rfl rfl rfl ?_))
  all_goals (first | (refine Br.keep ?_) | (refine WL.step (ok_loadN (fun w => Try.isAgg86 w) (fun w => Try.sizeOf86 w) rfl rfl (by assumption)) rfl rfl rfl ?_))
  all_goals (first
               | (refine Br.keep ?_)
               | (refine WL.stepR (okE_alloc (fun w => Try.zeroValue86 w)) rfl rfl rfl ?_
                  rintro _ h7 ⟨b7, rfl, hg7, hb7, hx7⟩))
  all_goals (first
               | (refine Br.keep ?_)
               | (refine WL.stepR0 (okE_storeW (fun w => Try.sizeOf86 w) rfl rfl rfl (by assumption) rfl (by simp [Value.oneCell'])) rfl rfl ?_
                  rintro _ h8 ⟨hb8, hx8⟩))
  all_goals (first | (refine Br.keep ?_) | (have hX8 : Ext No h6 h8 := hx7.trans' hx8 (fun q hq e => by omega)))
  all_goals (first | (refine Br.keep ?_) | (refine WL.nil ?_))
  all_goals (first | (refine Br.keep ?_) | (repeat' (with_reducible first | refine thenP_n ?_ | refine blockP_n ?_)))
  all_goals (first | (refine Br.keep ?_) | (refine WC.region ?_))
  all_goals (first | (refine Br.keep ?_) | (refine WL.step (ok_move rfl) rfl rfl rfl ?_))
  all_goals (first | (refine Br.keep ?_) | (refine WL.step (ok_fieldAddr rfl Try.underlying86 rfl (fun w => Try.sizeOf3 w)) rfl rfl rfl ?_))
  all_goals (first | (refine Br.keep ?_) | (refine WL.step (ok_load (fun w => Try.isAgg3 w) rfl (by first | assumption | exact cell_blk (by assumption) rfl)) rfl rfl rfl ?_))
  all_goals (first
               | (refine Br.keep ?_)
               | (refine WL.stepR (okE_buildSlice (vs := [_]) (cs := [_]) (fun | [a0] => [a0] | _ => []) Try.underlying36 rfl rfl (by kernel_rfl)) rfl rfl rfl ?_
                  rintro _ h9 ⟨b9, rfl, hg9, hb9, hx9⟩))
  all_goals (first
               | (refine Br.keep ?_)
               | (have hX9 : Ext No h6 h9 := hX8.trans hx9
                  have hs9 := hX9.size
                  have hs6h := hx6.size))
  all_goals (first
               | (refine Br.keep ?_)
               | (refine WL.stepR (ok_append (sz := 1) (bytes := 8) rfl Try.underlying36 (show Try.prog.info? 3 = some Try.t3 by kernel_rfl) rfl rfl rfl rfl (by decide) rfl rfl (ho6.ext hX9 (fun _ _ => nos)) (rd_blk hb9 rfl) (by simp [Value.oneCell']) (by simp only [maxLen]; omega) (by omega)) rfl rfl rfl ?_
                  rintro v10 h10 ⟨ho10, hx10, hl10⟩))
  all_goals (first
               | (refine Br.keep ?_)
               | (have hX10 : Ext No h h10 := (hx6.trans hX9).trans' hx10 (fun q hq e => by have := hf6 q e; omega)
                  have hb10 : h10[b1]? = h1[b1]? := by rw [hb1]; exact hx10.obj (hX9.obj hb6 nos) (fun e => by have := hf6 _ e; omega)))
  all_goals (first | (refine Br.keep ?_) | (refine WL.step (ok_assign rfl) rfl rfl rfl ?_))
  all_goals (first | (refine Br.keep ?_) | (refine WL.nil ?_))
  all_goals (first | (refine Br.keep ?_) | (repeat' (with_reducible first | refine thenP_n ?_ | refine blockP_n ?_)))
  all_goals (first | (refine Br.keep ?_) | (refine WC.sub [(1, _), (3, _), (11, _), (12, _), (13, _), (18, _), (19, _), (20, _)] ⟨rfl, rfl, rfl, rfl, rfl, rfl, rfl, rfl, trivial⟩ ?_))
  all_goals (first | (refine Br.keep ?_) | (refine WC.region ?_))
  all_goals (first | (refine Br.keep ?_) | (first | (refine WL.step (ok_addI rfl rfl (by omega)) rfl rfl rfl ?_) | (refine WL.step (ok_add rfl rfl) rfl rfl rfl ?_)))
  all_goals (first | (refine Br.keep ?_) | (refine WL.step (ok_move rfl) rfl rfl rfl ?_))
  all_goals (first | (refine Br.keep ?_) | (refine WL.nil ?_))
  all_goals (first | (refine Br.keep ?_) | (repeat' (with_reducible first | refine thenP_n ?_ | refine blockP_n ?_)))
  all_goals (first | (refine Br.keep ?_) | (exact ⟨(j + 1, _, L6 ++ [id8]), ⟨rfl, rfl, rfl, rfl, rfl, rfl, rfl, rfl, trivial⟩, (by exact ⟨hX10, hb10, by have := hx10.size; omega, by simp; omega, by rw [eL6, List.take_add_one, hz]; simp, by simpa using ho10, fresh_of hl10 hf6 (by omega)⟩), (by simp; omega)⟩))
  all_goals (try (refine Br.mk (i := 1002) ?_))
  all_goals (first | (refine Br.keep ?_) | (repeat' (with_reducible first | refine thenP_n ?_ | refine blockP_n ?_)))
  all_goals (first | (refine Br.keep ?_) | (refine WC.sub [(1, _), (3, _), (11, _), (12, _), (13, _)] ⟨rfl, rfl, rfl, rfl, rfl, trivial⟩ ?_))
  all_goals (first | (refine Br.keep ?_) | (refine WC.region ?_))
  all_goals (first | (refine Br.keep ?_) | (first | (refine WL.step (ok_addI rfl rfl (by omega)) rfl rfl rfl ?_) | (refine WL.step (ok_add rfl rfl) rfl rfl rfl ?_)))
  all_goals (first | (refine Br.keep ?_) | (refine WL.step (ok_move rfl) rfl rfl rfl ?_))
  all_goals (first | (refine Br.keep ?_) | (refine WL.nil ?_))
  all_goals (first | (refine Br.keep ?_) | (repeat' (with_reducible first | refine thenP_n ?_ | refine blockP_n ?_)))
  all_goals (first | (refine Br.keep ?_) | (exact ⟨(k + 1, _, _), ⟨rfl, rfl, rfl, rfl, rfl, trivial⟩, (by exact ⟨hx6, by rw [hb1]; exact hb6, by simp; omega, by rw [eL6, idsC_snoc hy, List.take_of_length_le (show t.length ≤ j by omega)], ho6, hf6⟩), (by simp; omega)⟩))
  all_goals (try (refine Br.mk (i := 1000) ?_))
  all_goals (repeat' (with_reducible first | refine thenP_n ?_ | refine blockP_n ?_))
  all_goals (refine WC.sub [(1, _), (3, _)] ⟨rfl, rfl, trivial⟩ ?_)
  all_goals (refine WC.seq ?_)
  all_goals (refine WC.seq ?_)
  all_goals (refine WC.region ?_)
  all_goals (rw [List.take_of_length_le (show C.length ≤ k by omega)] at eL2)
  all_goals (refine WL.step (ok_fieldAddr rfl Try.underlying46 rfl (fun w => Try.sizeOf43 w)) rfl rfl rfl ?_)
  all_goals (refine WL.step (ok_load (fun w => Try.isAgg43 w) rfl (by first | assumption | exact cell_blk (by assumption) rfl)) rfl rfl rfl ?_)
  all_goals (refine WL.step (ok_lenL rfl Try.underlying43 rfl) rfl rfl rfl ?_)
  all_goals (refine WL.step (ok_move rfl) rfl rfl rfl ?_)
  all_goals (refine WL.nil ?_)
  all_goals (repeat' (with_reducible first | refine thenP_n ?_ | refine blockP_n ?_))
  all_goals (refine WC.block ?_)
  -- loop 2: slots that turn [3, 34], that stay [32, 33]
  all_goals (refine WC.loopG (X := Nat × Value × List Int) (fun x => ([(34, In (x.1 : Int)), (3, x.2.1)] : Fr)) [(32, _), (33, _)] (fun x h' => Ext No h h' ∧ h'[b1]? = h1[b1]? ∧ x.1 ≤ S.length ∧ x.2.2 = idsC C ++ idsS (S.take x.1) ∧ Own h' x.2.1 3 1 x.2.2.length (ints x.2.2) ∧ ∀ k, x.2.1.ownBlock = some k → b1 + 1 ≤ k) (fun x => S.length - x.1) ((0, v2, L2)) ⟨rfl, rfl, rfl, rfl, trivial⟩ (by exact ⟨hx2, by rw [hb1]; exact hb2, Nat.zero_le _, by simp [eL2, idsS], ho2, hf2⟩) ?_)
  all_goals (rintro ⟨j, v6, L6⟩ h6 ⟨hx6, hb6, hj, eL6, ho6, hf6⟩
             rw [hb1] at hb6
             have hb6l := lt_of_some hb6
             simp only at hj eL6 ho6 hf6
             have hl6 : L6.length ≤ 5000 := by have := hidc C.length; rw [List.take_length] at this; have := hids j; have := congrArg List.length eL6; rw [List.length_append] at this; omega
             have hs6h := hx6.size)
  all_goals (refine WC.sub [(3, _), (34, _), (32, _), (33, _)] ⟨rfl, rfl, rfl, rfl, trivial⟩ ?_)
  all_goals (dsimp only)
  all_goals (refine WC.seq ?_)
  all_goals (refine WC.region ?_)
  all_goals (first | (refine WL.step (OkP.bool_t (by omega) (ok_lss rfl rfl)) rfl rfl rfl ?_) | (refine WL.step (OkP.bool_f (by omega) (ok_lss rfl rfl)) rfl rfl rfl ?_) | (refine WL.step (ok_lss rfl rfl) rfl rfl rfl ?_))
  all_goals (refine WL.nil ?_)
  all_goals (repeat' (with_reducible first | refine thenP_n ?_ | refine blockP_n ?_))
  all_goals (refine WC.seq ?_)
  all_goals (first | refine WC.condB_t 5 rfl ?_ | refine WC.condB_f 6 rfl ?_ | (refine WC.condB 5 6 rfl (fun hb => ?_) (fun hb => ?_) <;> (first | replace hb := of_decide_eq_true hb | replace hb := of_decide_eq_false hb | replace hb := of_decide_eq_false (nt hb) | replace hb := of_decide_eq_true (nf hb) | skip)))
  all_goals (first
    | (fail_if_success (refine Br.mk (i := 5) ?_))
    | (refine Br.mk (i := 5) ?_
       all_goals (refine WC.skip ?_)
       skip))
  all_goals (first
    | (fail_if_success (refine Br.mk (i := 6) ?_))
    | (refine Br.mk (i := 6) ?_
       all_goals (refine WC.exit ?_)
       all_goals (repeat' (with_reducible first | refine thenP_x ?_ | refine blockP_miss rfl ?_ | refine blockP_hit ?_ | refine blockP_n ?_ | refine thenP_n ?_))
       all_goals (refine Br.out (i := 1004) ?_)
       skip))
  all_goals (first | (refine Br.keep ?_) | (repeat' (with_reducible first | refine thenP_n ?_ | refine blockP_n ?_)))
  all_goals (first | (refine Br.keep ?_) | (refine WC.seq ?_))
  all_goals (first | (refine Br.keep ?_) | (refine WC.block ?_))
  all_goals (first | (refine Br.keep ?_) | (refine WC.seq ?_))
  all_goals (first | (refine Br.keep ?_) | (refine WC.region ?_))
  all_goals (first
               | (refine Br.keep ?_)
               | (obtain ⟨bM, oM, hB, hbM, hbt⟩ := Rd.at_ (hs.ext0 hx6) (by omega)
                  obtain ⟨⟨st, hd, qu, ss, vc2, cc, vp2, pp⟩, hz⟩ : ∃ y, S[j]? = some y := ⟨_, List.getElem?_eq_getElem (by omega)⟩
                  have hso0 := hso _ (List.mem_of_getElem? hz)
                  have hfq : cc.length ≤ 60 ∧ pp.length ≤ 60 := f.q _ (List.mem_of_getElem? hz)
                  obtain ⟨At1, ct1, etv, _⟩ := id hso0.c
                  obtain ⟨At2, ct2, etw, _⟩ := id hso0.p
                  simp only at etv etw
                  subst etv etw
                  have hrc : Rd h (.slice At1 cc.length ct1) 1 cc.length (ints cc) := hso0.c
                  have hrp : Rd h (.slice At2 pp.length ct2) 1 pp.length (ints pp) := hso0.p
                  have hcd : At h6 bM (oM + j * 6) [In st, In hd, In qu, By ss, .slice At1 cc.length ct1, .slice At2 pp.length ct2] := At.elem SV.len hbt hz))
  all_goals (first | (refine Br.keep ?_) | (refine WL.step (ok_idxAddrA Try.underlying43 (fun w => Try.sizeOf84 w) rfl rfl rfl (by omega) (by first | rfl | assumption)) rfl rfl rfl ?_))
  all_goals (first | (refine Br.keep ?_) | (refine WL.step (ok_loadN (fun w => Try.isAgg84 w) (fun w => Try.sizeOf84 w) rfl rfl (by assumption)) rfl rfl rfl ?_))
  all_goals (first
               | (refine Br.keep ?_)
               | (refine WL.stepR (okE_alloc (fun w => Try.zeroValue84 w)) rfl rfl rfl ?_
                  rintro _ h7 ⟨b7, rfl, hg7, hb7, hx7⟩))
  all_goals (first
               | (refine Br.keep ?_)
               | (refine WL.stepR0 (okE_storeW (fun w => Try.sizeOf84 w) rfl rfl rfl (by assumption) rfl (by simp [Value.oneCell'])) rfl rfl ?_
                  rintro _ h8 ⟨hb8, hx8⟩))
  all_goals (first
               | (refine Br.keep ?_)
               | (have hX8 : Ext No h6 h8 := hx7.trans' hx8 (fun q hq e => by omega)
                  have hX8h := hx6.trans hX8
                  have hs8 := hX8.size))
  all_goals (first | (refine Br.keep ?_) | (refine WL.nil ?_))
  all_goals (first | (refine Br.keep ?_) | (repeat' (with_reducible first | refine thenP_n ?_ | refine blockP_n ?_)))
  all_goals (first | (refine Br.keep ?_) | (refine WC.seq ?_))
  all_goals (first | (refine Br.keep ?_) | (refine WC.region ?_))
  all_goals (first | (refine Br.keep ?_) | (refine WL.step (ok_move rfl) rfl rfl rfl ?_))
  all_goals (first | (refine Br.keep ?_) | (refine WL.step (ok_fieldAddr rfl Try.underlying84 rfl (fun w => Try.sizeOf36 w)) rfl rfl rfl ?_))
  all_goals (first | (refine Br.keep ?_) | (refine WL.step (ok_load (fun w => Try.isAgg36 w) rfl (by first | assumption | exact cell_blk (by assumption) rfl)) rfl rfl rfl ?_))
  all_goals (first
               | (refine Br.keep ?_)
               | (refine WL.stepR (ok_append (sz := 1) (bytes := 8) rfl Try.underlying36 (show Try.prog.info? 3 = some Try.t3 by kernel_rfl) rfl rfl rfl rfl (by decide) rfl rfl (ho6.ext hX8 (fun _ _ => nos)) (hrc.ext0 hX8h) (one_ints _) (by simp only [maxLen]; omega) (by omega)) rfl rfl rfl ?_
                  rintro v9 h9 ⟨ho9, hx9, hl9⟩))
  all_goals (first
               | (refine Br.keep ?_)
               | (have hX9 : Ext No h h9 := hX8h.trans' hx9 (fun q hq e => by have := hf6 q e; omega)
                  have hf9 : ∀ k, v9.ownBlock = some k → b1 + 1 ≤ k := fresh_of hl9 hf6 (by omega)
                  have hb89 := hx9.obj hb8 (fun e => by have := ho6.lt e; omega)
                  have hs9 := hx9.size))
  all_goals (first | (refine Br.keep ?_) | (refine WL.step (ok_assign rfl) rfl rfl rfl ?_))
  all_goals (first | (refine Br.keep ?_) | (refine WL.nil ?_))
  all_goals (first | (refine Br.keep ?_) | (repeat' (with_reducible first | refine thenP_n ?_ | refine blockP_n ?_)))
  all_goals (first | (refine Br.keep ?_) | (refine WC.sub [(3, _), (9, _), (32, _), (33, _), (34, _)] ⟨rfl, rfl, rfl, rfl, rfl, trivial⟩ ?_))
  all_goals (first | (refine Br.keep ?_) | (refine WC.region ?_))
  all_goals (first | (refine Br.keep ?_) | (refine WL.step (ok_move rfl) rfl rfl rfl ?_))
  all_goals (first | (refine Br.keep ?_) | (refine WL.step (ok_fieldAddr rfl Try.underlying84 rfl (fun w => Try.sizeOf36 w)) rfl rfl rfl ?_))
  all_goals (first | (refine Br.keep ?_) | (refine WL.step (ok_load (fun w => Try.isAgg36 w) rfl (by first | assumption | exact cell_blk (by assumption) rfl)) rfl rfl rfl ?_))
  all_goals (first
               | (refine Br.keep ?_)
               | (refine WL.stepR (ok_append (sz := 1) (bytes := 8) rfl Try.underlying36 (show Try.prog.info? 3 = some Try.t3 by kernel_rfl) rfl rfl rfl rfl (by decide) rfl rfl ho9 (hrp.ext0 hX9) (one_ints _) (by simp only [maxLen]; omega) (by omega)) rfl rfl rfl ?_
                  rintro v10 h10 ⟨ho10, hx10, hl10⟩))
  all_goals (first
               | (refine Br.keep ?_)
               | (have hX10 : Ext No h h10 := hX9.trans' hx10 (fun q hq e => by have := hf9 q e; omega)
                  have hb10 : h10[b1]? = h1[b1]? := by rw [hb1]; exact hx10.obj (hx9.obj (hX8.obj hb6 nos) (fun e => by have := hf6 _ e; omega)) (fun e => by have := hf9 _ e; omega)))
  all_goals (first | (refine Br.keep ?_) | (refine WL.step (ok_assign rfl) rfl rfl rfl ?_))
  all_goals (first | (refine Br.keep ?_) | (refine WL.nil ?_))
  all_goals (first | (refine Br.keep ?_) | (repeat' (with_reducible first | refine thenP_n ?_ | refine blockP_n ?_)))
  all_goals (first | (refine Br.keep ?_) | (refine WC.sub [(3, _), (32, _), (33, _), (34, _)] ⟨rfl, rfl, rfl, rfl, trivial⟩ ?_))
  all_goals (first | (refine Br.keep ?_) | (refine WC.region ?_))
  all_goals (first | (refine Br.keep ?_) | (first | (refine WL.step (ok_addI rfl rfl (by omega)) rfl rfl rfl ?_) | (refine WL.step (ok_add rfl rfl) rfl rfl rfl ?_)))
  all_goals (first | (refine Br.keep ?_) | (refine WL.step (ok_move rfl) rfl rfl rfl ?_))
  all_goals (first | (refine Br.keep ?_) | (refine WL.nil ?_))
  all_goals (first | (refine Br.keep ?_) | (repeat' (with_reducible first | refine thenP_n ?_ | refine blockP_n ?_)))
  all_goals (first | (refine Br.keep ?_) | (exact ⟨(j + 1, _, (L6 ++ cc) ++ pp), ⟨rfl, rfl, rfl, rfl, trivial⟩, (by exact ⟨hX10, hb10, by simp; omega, by rw [eL6, idsS_snoc hz]; simp, by simpa [Nat.add_assoc] using ho10, fresh_of hl10 hf9 (by omega)⟩), (by simp; omega)⟩))
  all_goals (try (refine Br.mk (i := 1004) ?_))
  all_goals (repeat' (with_reducible first | refine thenP_n ?_ | refine blockP_n ?_))
  all_goals (refine WC.sub [(3, _)] ⟨rfl, trivial⟩ ?_)
  all_goals (refine WC.seq ?_)
  all_goals (refine WC.region ?_)
  all_goals (refine WL.step (ok_move rfl) rfl rfl rfl ?_)
  all_goals (refine WL.step (ok_assign rfl) rfl rfl rfl ?_)
  all_goals (refine WL.nil ?_)
  all_goals (repeat' (with_reducible first | refine thenP_n ?_ | refine blockP_n ?_))
  all_goals (refine WC.ret ?_)
  all_goals (repeat' (with_reducible first | refine thenP_r ?_ | refine blockP_r ?_))
  all_goals (refine retP_1 _ ⟨rfl, trivial⟩ ?_)
  all_goals (rw [List.take_of_length_le (show S.length ≤ j by omega)] at eL6
             subst eL6
             exact ⟨ho6, hx6, fun q hq => by have := hf6 q hq; omega⟩)
set_option maxHeartbeats 1000000 in
set_option maxRecDepth 100000 in
theorem ids46 {h : Heap} (V : VW) (ok : V.ok h) (f : Few V) : CallsH Try.prog 51 ⟨[.agg ⟨V.cells⟩]⟩ h fun u h' => Own h' u 3 1 (idsV V).length (ints (idsV V)) ∧ Ext No h h' ∧ ∀ k, u.ownBlock = some k → h.size ≤ k := by
  have hfc := f.c
  have hfs := f.s
  have hidc := idsC_len f
  have hids := idsS_len f
  obtain ⟨vc, C, vs, S, vr, R, vw, W⟩ := V
  obtain ⟨hc, hcl, hco, hs, hsl, hso, hrr, hrl, hw, hwl⟩ := ok
  simp only at hc hcl hco hs hsl hso hrr hrl hw hwl hfc hfs hidc hids
  obtain ⟨A1, c1, rfl, _⟩ := id hc
  obtain ⟨A2, c2, rfl, _⟩ := id hs
  obtain ⟨A3, c3, rfl, _⟩ := id hrr
  obtain ⟨A4, c4, rfl, _⟩ := id hw
  dsimp only [VW.cells]
  refine calls [(0, _)] Try.func51 rfl Try.ntmps51 rfl ⟨rfl, trivial⟩ ?_
  all_goals (refine WC.seq ?_)
  all_goals (refine WC.region ?_)
  all_goals (refine WL.stepR (okE_box rfl) rfl rfl rfl ?_
             rintro _ h1 ⟨b1, rfl, hg1, hb1, hx1⟩)
  all_goals (refine WL.step (ok_assign rfl) rfl rfl rfl ?_)
  all_goals (refine WL.nil ?_)
  all_goals (repeat' (with_reducible first | refine thenP_n ?_ | refine blockP_n ?_))
  all_goals (refine WC.seq ?_)
  all_goals (refine WC.region ?_)
  all_goals (refine WL.step (ok_assign rfl) rfl rfl rfl ?_)
  all_goals (refine WL.nil ?_)
  all_goals (repeat' (with_reducible first | refine thenP_n ?_ | refine blockP_n ?_))
  all_goals (refine WC.seq ?_)
  all_goals (refine WC.seq ?_)
  all_goals (refine WC.region ?_)
  all_goals (refine WL.step (ok_assign rfl) rfl rfl rfl ?_)
  all_goals (refine WL.nil ?_)
  all_goals (repeat' (with_reducible first | refine thenP_n ?_ | refine blockP_n ?_))
  all_goals (refine WC.block ?_)
  -- loop 0: slots that turn [3, 4], that stay [1]
  all_goals (refine WC.loopG (X := Nat × Value × List Int) (fun x => ([(4, In (x.1 : Int)), (3, x.2.1)] : Fr)) [(1, _)] (fun x h' => Ext No h h' ∧ h'[b1]? = h1[b1]? ∧ x.1 ≤ C.length ∧ x.2.2 = idsC (C.take x.1) ∧ Own h' x.2.1 3 1 x.2.2.length (ints x.2.2) ∧ ∀ k, x.2.1.ownBlock = some k → b1 + 1 ≤ k) (fun x => C.length - x.1) ((0, .slice none 0 0, [])) ⟨rfl, rfl, rfl, trivial⟩ (by exact ⟨hx1, rfl, Nat.zero_le _, by simp [idsC], Own.nil _ _ _, by simp [Value.ownBlock]⟩) ?_)
  all_goals (rintro ⟨k, v2, L2⟩ h2 ⟨hx2, hb2, hk, eL2, ho2, hf2⟩
             simp only at hk eL2 ho2 hf2
             rw [hb1] at hb2
             have hb2l := lt_of_some hb2
             have hb1l := lt_of_some hb1
             have hs1 := hx1.size
             have hs2 := hx2.size)
  all_goals (refine WC.sub [(3, _), (4, _), (1, _)] ⟨rfl, rfl, rfl, trivial⟩ ?_)
  all_goals (dsimp only)
  all_goals (refine WC.seq ?_)
  all_goals (refine WC.seq ?_)
  all_goals (refine WC.region ?_)
  all_goals (refine WL.step (ok_move rfl) rfl rfl rfl ?_)
  all_goals (refine WL.step (ok_fieldAddr rfl Try.underlying46 rfl (fun w => Try.sizeOf42 w)) rfl rfl rfl ?_)
  all_goals (refine WL.step (ok_load (fun w => Try.isAgg42 w) rfl (by first | assumption | exact cell_blk (by assumption) rfl)) rfl rfl rfl ?_)
  all_goals (refine WL.step (ok_lenL rfl Try.underlying42 rfl) rfl rfl rfl ?_)
  all_goals (first | (refine WL.step (OkP.bool_t (by omega) (ok_lss rfl rfl)) rfl rfl rfl ?_) | (refine WL.step (OkP.bool_f (by omega) (ok_lss rfl rfl)) rfl rfl rfl ?_) | (refine WL.step (ok_lss rfl rfl) rfl rfl rfl ?_))
  all_goals (refine WL.nil ?_)
  all_goals (repeat' (with_reducible first | refine thenP_n ?_ | refine blockP_n ?_))
  all_goals (refine WC.sub [(1, _), (3, _), (4, _), (11, _)] ⟨rfl, rfl, rfl, rfl, trivial⟩ ?_)
  all_goals (first | refine WC.condB_t 1 rfl ?_ | refine WC.condB_f 2 rfl ?_ | (refine WC.condB 1 2 rfl (fun hb => ?_) (fun hb => ?_) <;> (first | replace hb := of_decide_eq_true hb | replace hb := of_decide_eq_false hb | replace hb := of_decide_eq_false (nt hb) | replace hb := of_decide_eq_true (nf hb) | skip)))
  all_goals (first
    | (fail_if_success (refine Br.mk (i := 1) ?_))
    | (refine Br.mk (i := 1) ?_
       all_goals (refine WC.skip ?_)
       skip))
  all_goals (first
    | (fail_if_success (refine Br.mk (i := 2) ?_))
    | (refine Br.mk (i := 2) ?_
       all_goals (refine WC.exit ?_)
       all_goals (repeat' (with_reducible first | refine thenP_x ?_ | refine blockP_miss rfl ?_ | refine blockP_hit ?_ | refine blockP_n ?_ | refine thenP_n ?_))
       all_goals (refine Br.out (i := 1000) ?_)
       skip))
  all_goals (first | (refine Br.keep ?_) | (repeat' (with_reducible first | refine thenP_n ?_ | refine blockP_n ?_)))
  all_goals (first | (refine Br.keep ?_) | (refine WC.seq ?_))
  all_goals (first | (refine Br.keep ?_) | (refine WC.block ?_))
  all_goals (first | (refine Br.keep ?_) | (refine WC.seq ?_))
  all_goals (first | (refine Br.keep ?_) | (refine WC.region ?_))
  all_goals (first
               | (refine Br.keep ?_)
               | (obtain ⟨bL, oL, hA, hbL, hat⟩ := Rd.at_ hc (by omega)
                  obtain ⟨⟨ph, sv, dn, tv, t⟩, hy⟩ : ∃ y, C[k]? = some y := ⟨_, List.getElem?_eq_getElem (by omega)⟩
                  have hco0 := hco _ (List.mem_of_getElem? hy)
                  have hft : t.length ≤ 40 := f.t _ (List.mem_of_getElem? hy)
                  obtain ⟨At1, ct1, etv, _⟩ := id hco0.1
                  simp only at etv
                  subst etv
                  have hrt : Rd h (.slice At1 t.length ct1) 2 t.length (t.flatMap nmC) := hco0.1
                  have hcc : At h bL (oL + k * 4) [In ph, In sv, In dn, .slice At1 t.length ct1] := At.elem CV.len hat hy))
  all_goals (first | (refine Br.keep ?_) | (refine WL.step (ok_assign rfl) rfl rfl rfl ?_))
  all_goals (first | (refine Br.keep ?_) | (refine WL.nil ?_))
  all_goals (first | (refine Br.keep ?_) | (repeat' (with_reducible first | refine thenP_n ?_ | refine blockP_n ?_)))
  all_goals (first | (refine Br.keep ?_) | (refine WC.block ?_))
  -- loop 1: slots that turn [3, 5], that stay [1, 4]
  all_goals (first | (refine Br.keep ?_) | (refine WC.loopG (X := Nat × Value × List Int) (fun x => ([(5, In (x.1 : Int)), (3, x.2.1)] : Fr)) [(1, _), (4, _)] (fun x h' => Ext No h h' ∧ h'[b1]? = h1[b1]? ∧ x.1 ≤ t.length ∧ x.2.2 = idsC (C.take k) ++ (t.take x.1).map (·.2) ∧ Own h' x.2.1 3 1 x.2.2.length (ints x.2.2) ∧ ∀ k, x.2.1.ownBlock = some k → b1 + 1 ≤ k) (fun x => t.length - x.1) ((0, v2, L2)) ⟨rfl, rfl, rfl, rfl, trivial⟩ (by exact ⟨hx2, by rw [hb1]; exact hb2, Nat.zero_le _, by simp [eL2], ho2, hf2⟩) ?_))
  all_goals (first
               | (refine Br.keep ?_)
               | (rintro ⟨j, v6, L6⟩ h6 ⟨hx6, hb6, hj, eL6, ho6, hf6⟩
                  simp only at hj eL6 ho6 hf6
                  rw [hb1] at hb6
                  have hl6 : L6.length ≤ 5000 := by have := hidc k; have := congrArg List.length eL6; rw [List.length_append, List.length_map, List.length_take] at this; omega
                  have hc6 := hcc.ext hx6 nos))
  all_goals (first | (refine Br.keep ?_) | (refine WC.sub [(3, _), (5, _), (1, _), (4, _)] ⟨rfl, rfl, rfl, rfl, trivial⟩ ?_))
  all_goals (first | (refine Br.keep ?_) | (dsimp only))
  all_goals (first | (refine Br.keep ?_) | (refine WC.seq ?_))
  all_goals (first | (refine Br.keep ?_) | (refine WC.seq ?_))
  all_goals (first | (refine Br.keep ?_) | (refine WC.region ?_))
  all_goals (first | (refine Br.keep ?_) | (refine WL.step (ok_move rfl) rfl rfl rfl ?_))
  all_goals (first | (refine Br.keep ?_) | (refine WL.step (ok_fieldAddr rfl Try.underlying46 rfl (fun w => Try.sizeOf42 w)) rfl rfl rfl ?_))
  all_goals (first | (refine Br.keep ?_) | (refine WL.step (ok_load (fun w => Try.isAgg42 w) rfl (by first | assumption | exact cell_blk (by assumption) rfl)) rfl rfl rfl ?_))
  all_goals (first | (refine Br.keep ?_) | (refine WL.step (ok_move rfl) rfl rfl rfl ?_))
  all_goals (first | (refine Br.keep ?_) | (refine WL.step (ok_idxAddrA Try.underlying42 (fun w => Try.sizeOf82 w) rfl rfl rfl (by omega) (by first | rfl | assumption)) rfl rfl rfl ?_))
  all_goals (first | (refine Br.keep ?_) | (refine WL.step (ok_fieldAddr rfl Try.underlying82 rfl (fun w => Try.sizeOf80 w)) rfl rfl rfl ?_))
  all_goals (first | (refine Br.keep ?_) | (refine WL.step (ok_load (fun w => Try.isAgg80 w) rfl (by first | exact hc6.get 3 rfl rfl | assumption | exact cell_blk (by assumption) rfl)) rfl rfl rfl ?_))
  all_goals (first | (refine Br.keep ?_) | (refine WL.step (ok_lenL rfl Try.underlying80 rfl) rfl rfl rfl ?_))
  all_goals (first | (refine Br.keep ?_) | (first | (refine WL.step (OkP.bool_t (by omega) (ok_lss rfl rfl)) rfl rfl rfl ?_) | (refine WL.step (OkP.bool_f (by omega) (ok_lss rfl rfl)) rfl rfl rfl ?_) | (refine WL.step (ok_lss rfl rfl) rfl rfl rfl ?_)))
  all_goals (first | (refine Br.keep ?_) | (refine WL.nil ?_))
  all_goals (first | (refine Br.keep ?_) | (repeat' (with_reducible first | refine thenP_n ?_ | refine blockP_n ?_)))
  all_goals (first | (refine Br.keep ?_) | (refine WC.sub [(1, _), (3, _), (4, _), (5, _), (22, _)] ⟨rfl, rfl, rfl, rfl, rfl, trivial⟩ ?_))
  all_goals (first | (refine Br.keep ?_) | (first | refine WC.condB_t 3 rfl ?_ | refine WC.condB_f 4 rfl ?_ | (refine WC.condB 3 4 rfl (fun hb => ?_) (fun hb => ?_) <;> (first | replace hb := of_decide_eq_true hb | replace hb := of_decide_eq_false hb | replace hb := of_decide_eq_false (nt hb) | replace hb := of_decide_eq_true (nf hb) | skip))))
  all_goals (first
    | (fail_if_success (refine Br.mk (i := 3) ?_))
    | (refine Br.mk (i := 3) ?_
       all_goals (refine WC.skip ?_)
       skip))
  all_goals (first
    | (fail_if_success (refine Br.mk (i := 4) ?_))
    | (refine Br.mk (i := 4) ?_
       all_goals (refine WC.exit ?_)
       all_goals (repeat' (with_reducible first | refine thenP_x ?_ | refine blockP_miss rfl ?_ | refine blockP_hit ?_ | refine blockP_n ?_ | refine thenP_n ?_))
       all_goals (refine Br.out (i := 1002) ?_)
       skip))
  all_goals (first | (refine Br.keep ?_) | (repeat' (with_reducible first | refine thenP_n ?_ | refine blockP_n ?_)))
  all_goals (first | (refine Br.keep ?_) | (refine WC.seq ?_))
  all_goals (first | (refine Br.keep ?_) | (refine WC.block ?_))
  all_goals (first | (refine Br.keep ?_) | (refine WC.region ?_))
  all_goals (first
               | (refine Br.keep ?_)
               | (obtain ⟨bM, oM, hB, hbM, hbt⟩ := Rd.at_ (hrt.ext0 hx6) (by omega)
                  obtain ⟨⟨n8, id8⟩, hz⟩ : ∃ y, t[j]? = some y := ⟨_, List.getElem?_eq_getElem (by omega)⟩
                  have hcd : At h6 bM (oM + j * 2) [St n8, In id8] := At.elem nmC_len hbt hz))
  all_goals (first | (refine Br.keep ?_) | (refine WL.step (ok_move rfl) rfl rfl rfl ?_))
  all_goals (first | (refine Br.keep ?_) | (refine WL.step (ok_fieldAddr rfl Try.underlying46 rfl (fun w => Try.sizeOf42 w)) rfl rfl rfl ?_))
  all_goals (first | (refine Br.keep ?_) | (refine WL.step (ok_load (fun w => Try.isAgg42 w) rfl (by first | assumption | exact cell_blk (by assumption) rfl)) rfl rfl rfl ?_))
  all_goals (first | (refine Br.keep ?_) | (refine WL.step (ok_move rfl) rfl rfl rfl ?_))
  all_goals (first | (refine Br.keep ?_) | (refine WL.step (ok_idxAddrA Try.underlying42 (fun w => Try.sizeOf82 w) rfl rfl rfl (by omega) (by first | rfl | assumption)) rfl rfl rfl ?_))
  all_goals (first | (refine Br.keep ?_) | (refine WL.step (ok_fieldAddr rfl Try.underlying82 rfl (fun w => Try.sizeOf80 w)) rfl rfl rfl ?_))
  all_goals (first | (refine Br.keep ?_) | (refine WL.step (ok_load (fun w => Try.isAgg80 w) rfl (by first | exact hc6.get 3 rfl rfl | assumption | exact cell_blk (by assumption) rfl)) rfl rfl rfl ?_))
  all_goals (first | (refine Br.keep ?_) | (refine WL.step (ok_move rfl) rfl rfl rfl ?_))
  all_goals (first | (refine Br.keep ?_) | (refine WL.step (ok_idxAddrA Try.underlying80 (fun w => Try.sizeOf86 w) rfl rfl rfl (by omega) (by first | rfl | assumption)) rfl rfl rfl ?_))
  all_goals (first | (refine Br.keep ?_) | (refine WL.step (ok_fieldAddr rfl Try.underlying86 rfl (fun w => Try.sizeOf3 w)) rfl rfl rfl ?_))
  all_goals (first | (refine Br.keep ?_) | (refine WL.step (ok_load (fun w => Try.isAgg3 w) rfl (by first | exact hcd.get 1 rfl rfl | assumption | exact cell_blk (by assumption) rfl)) rfl rfl rfl ?_))
  all_goals (first
               | (refine Br.keep ?_)
               | (refine WL.stepR (okE_buildSlice (vs := [_]) (cs := [_]) (fun | [a0] => [a0] | _ => []) Try.underlying36 rfl rfl (by kernel_rfl)) rfl rfl rfl ?_
                  rintro _ h9 ⟨b9, rfl, hg9, hb9, hx9⟩))
  all_goals (first
               | (refine Br.keep ?_)
               | (have hs9 := hx9.size
                  have hs6h := hx6.size))
  all_goals (first
               | (refine Br.keep ?_)
               | (refine WL.stepR (ok_append (sz := 1) (bytes := 8) rfl Try.underlying36 (show Try.prog.info? 3 = some Try.t3 by kernel_rfl) rfl rfl rfl rfl (by decide) rfl rfl (ho6.ext hx9 (fun _ _ => nos)) (rd_blk hb9 rfl) (by simp [Value.oneCell']) (by simp only [maxLen]; omega) (by omega)) rfl rfl rfl ?_
                  rintro v10 h10 ⟨ho10, hx10, hl10⟩))
  all_goals (first
               | (refine Br.keep ?_)
               | (have hX10 : Ext No h h10 := (hx6.trans hx9).trans' hx10 (fun q hq e => by have := hf6 q e; omega)
                  have hb10 : h10[b1]? = h1[b1]? := by rw [hb1]; exact hx10.obj (hx9.obj hb6 nos) (fun e => by have := hf6 _ e; omega)))
  all_goals (first | (refine Br.keep ?_) | (refine WL.step (ok_assign rfl) rfl rfl rfl ?_))
  all_goals (first | (refine Br.keep ?_) | (refine WL.nil ?_))
  all_goals (first | (refine Br.keep ?_) | (repeat' (with_reducible first | refine thenP_n ?_ | refine blockP_n ?_)))
  all_goals (first | (refine Br.keep ?_) | (refine WC.sub [(1, _), (3, _), (4, _), (5, _)] ⟨rfl, rfl, rfl, rfl, trivial⟩ ?_))
  all_goals (first | (refine Br.keep ?_) | (refine WC.region ?_))
  all_goals (first | (refine Br.keep ?_) | (refine WL.step (ok_move rfl) rfl rfl rfl ?_))
  all_goals (first | (refine Br.keep ?_) | (first | (refine WL.step (ok_addI rfl rfl (by omega)) rfl rfl rfl ?_) | (refine WL.step (ok_add rfl rfl) rfl rfl rfl ?_)))
  all_goals (first | (refine Br.keep ?_) | (refine WL.step (ok_assign rfl) rfl rfl rfl ?_))
  all_goals (first | (refine Br.keep ?_) | (refine WL.nil ?_))
  all_goals (first | (refine Br.keep ?_) | (repeat' (with_reducible first | refine thenP_n ?_ | refine blockP_n ?_)))
  all_goals (first | (refine Br.keep ?_) | (exact ⟨(j + 1, _, L6 ++ [id8]), ⟨rfl, rfl, rfl, rfl, trivial⟩, (by exact ⟨hX10, hb10, by simp; omega, by rw [eL6, List.take_add_one, hz]; simp, by simpa using ho10, fresh_of hl10 hf6 (by have := lt_of_some hb6; omega)⟩), (by simp; omega)⟩))
  all_goals (try (refine Br.mk (i := 1002) ?_))
  all_goals (first | (refine Br.keep ?_) | (repeat' (with_reducible first | refine thenP_n ?_ | refine blockP_n ?_)))
  all_goals (first | (refine Br.keep ?_) | (refine WC.region ?_))
  all_goals (first | (refine Br.keep ?_) | (refine WL.step (ok_move rfl) rfl rfl rfl ?_))
  all_goals (first | (refine Br.keep ?_) | (first | (refine WL.step (ok_addI rfl rfl (by omega)) rfl rfl rfl ?_) | (refine WL.step (ok_add rfl rfl) rfl rfl rfl ?_)))
  all_goals (first | (refine Br.keep ?_) | (refine WL.step (ok_assign rfl) rfl rfl rfl ?_))
  all_goals (first | (refine Br.keep ?_) | (refine WL.nil ?_))
  all_goals (first | (refine Br.keep ?_) | (repeat' (with_reducible first | refine thenP_n ?_ | refine blockP_n ?_)))
  all_goals (first | (refine Br.keep ?_) | (exact ⟨(k + 1, _, _), ⟨rfl, rfl, rfl, trivial⟩, (by exact ⟨hx6, by rw [hb1]; exact hb6, by simp; omega, by rw [eL6, idsC_snoc hy, List.take_of_length_le (show t.length ≤ j by omega)], ho6, hf6⟩), (by simp; omega)⟩))
  all_goals (try (refine Br.mk (i := 1000) ?_))
  all_goals (repeat' (with_reducible first | refine thenP_n ?_ | refine blockP_n ?_))
  all_goals (refine WC.seq ?_)
  all_goals (refine WC.seq ?_)
  all_goals (refine WC.region ?_)
  all_goals (rw [List.take_of_length_le (show C.length ≤ k by omega)] at eL2)
  all_goals (refine WL.step (ok_assign rfl) rfl rfl rfl ?_)
  all_goals (refine WL.nil ?_)
  all_goals (repeat' (with_reducible first | refine thenP_n ?_ | refine blockP_n ?_))
  all_goals (refine WC.block ?_)
  -- loop 2: slots that turn [3, 6], that stay [1]
  all_goals (refine WC.loopG (X := Nat × Value × List Int) (fun x => ([(6, In (x.1 : Int)), (3, x.2.1)] : Fr)) [(1, _)] (fun x h' => Ext No h h' ∧ h'[b1]? = h1[b1]? ∧ x.1 ≤ S.length ∧ x.2.2 = idsC C ++ idsS (S.take x.1) ∧ Own h' x.2.1 3 1 x.2.2.length (ints x.2.2) ∧ ∀ k, x.2.1.ownBlock = some k → b1 + 1 ≤ k) (fun x => S.length - x.1) ((0, v2, L2)) ⟨rfl, rfl, rfl, trivial⟩ (by exact ⟨hx2, by rw [hb1]; exact hb2, Nat.zero_le _, by simp [eL2, idsS], ho2, hf2⟩) ?_)
  all_goals (rintro ⟨j, v6, L6⟩ h6 ⟨hx6, hb6, hj, eL6, ho6, hf6⟩
             simp only at hj eL6 ho6 hf6
             rw [hb1] at hb6
             have hl6 : L6.length ≤ 5000 := by have := hidc C.length; rw [List.take_length] at this; have := hids j; have := congrArg List.length eL6; rw [List.length_append] at this; omega
             have hs6h := hx6.size
             have hb6l := lt_of_some hb6)
  all_goals (refine WC.sub [(3, _), (6, _), (1, _)] ⟨rfl, rfl, rfl, trivial⟩ ?_)
  all_goals (dsimp only)
  all_goals (refine WC.seq ?_)
  all_goals (refine WC.seq ?_)
  all_goals (refine WC.region ?_)
  all_goals (refine WL.step (ok_move rfl) rfl rfl rfl ?_)
  all_goals (refine WL.step (ok_fieldAddr rfl Try.underlying46 rfl (fun w => Try.sizeOf43 w)) rfl rfl rfl ?_)
  all_goals (refine WL.step (ok_load (fun w => Try.isAgg43 w) rfl (by first | assumption | exact cell_blk (by assumption) rfl)) rfl rfl rfl ?_)
  all_goals (refine WL.step (ok_lenL rfl Try.underlying43 rfl) rfl rfl rfl ?_)
  all_goals (first | (refine WL.step (OkP.bool_t (by omega) (ok_lss rfl rfl)) rfl rfl rfl ?_) | (refine WL.step (OkP.bool_f (by omega) (ok_lss rfl rfl)) rfl rfl rfl ?_) | (refine WL.step (ok_lss rfl rfl) rfl rfl rfl ?_))
  all_goals (refine WL.nil ?_)
  all_goals (repeat' (with_reducible first | refine thenP_n ?_ | refine blockP_n ?_))
  all_goals (refine WC.sub [(1, _), (3, _), (6, _), (42, _)] ⟨rfl, rfl, rfl, rfl, trivial⟩ ?_)
  all_goals (first | refine WC.condB_t 5 rfl ?_ | refine WC.condB_f 6 rfl ?_ | (refine WC.condB 5 6 rfl (fun hb => ?_) (fun hb => ?_) <;> (first | replace hb := of_decide_eq_true hb | replace hb := of_decide_eq_false hb | replace hb := of_decide_eq_false (nt hb) | replace hb := of_decide_eq_true (nf hb) | skip)))
  all_goals (first
    | (fail_if_success (refine Br.mk (i := 5) ?_))
    | (refine Br.mk (i := 5) ?_
       all_goals (refine WC.skip ?_)
       skip))
  all_goals (first
    | (fail_if_success (refine Br.mk (i := 6) ?_))
    | (refine Br.mk (i := 6) ?_
       all_goals (refine WC.exit ?_)
       all_goals (repeat' (with_reducible first | refine thenP_x ?_ | refine blockP_miss rfl ?_ | refine blockP_hit ?_ | refine blockP_n ?_ | refine thenP_n ?_))
       all_goals (refine Br.out (i := 1004) ?_)
       skip))
  all_goals (first | (refine Br.keep ?_) | (repeat' (with_reducible first | refine thenP_n ?_ | refine blockP_n ?_)))
  all_goals (first | (refine Br.keep ?_) | (refine WC.seq ?_))
  all_goals (first | (refine Br.keep ?_) | (refine WC.block ?_))
  all_goals (first | (refine Br.keep ?_) | (refine WC.drawH (fun h' => Ext (fun q => v6.ownBlock = some q) h6 h') 15 16 rfl fol ?_))
  all_goals (first
               | (refine Br.keep ?_)
               | (obtain ⟨bM, oM, hB, hbM, hbt⟩ := Rd.at_ (hs.ext0 hx6) (by omega)
                  obtain ⟨⟨st, hd, qu, ss, vc2, cc, vp2, pp⟩, hz⟩ : ∃ y, S[j]? = some y := ⟨_, List.getElem?_eq_getElem (by omega)⟩
                  have hso0 := hso _ (List.mem_of_getElem? hz)
                  have hfq : cc.length ≤ 60 ∧ pp.length ≤ 60 := f.q _ (List.mem_of_getElem? hz)
                  obtain ⟨At1, ct1, etv, _⟩ := id hso0.c
                  obtain ⟨At2, ct2, etw, _⟩ := id hso0.p
                  simp only at etv etw
                  subst etv etw
                  have hrc : Rd h (.slice At1 cc.length ct1) 1 cc.length (ints cc) := hso0.c
                  have hrp : Rd h (.slice At2 pp.length ct2) 1 pp.length (ints pp) := hso0.p
                  have hcd : At h6 bM (oM + j * 6) [In st, In hd, In qu, By ss, .slice At1 cc.length ct1, .slice At2 pp.length ct2] := At.elem SV.len hbt hz
                  have hbMh : bM < h.size := by obtain ⟨bM', oM', hB', hbM', _⟩ := Rd.at_ hs (by omega); rw [hB] at hB'; simp only [Option.some.injEq, Addr.mk.injEq] at hB'; omega
                  have hn1 : v6.ownBlock ≠ some b1 := fun e => by have := hf6 _ e; omega
                  have hn2 : v6.ownBlock ≠ some bM := fun e => by have := hf6 _ e; omega))
  all_goals (first | (refine Br.keep ?_) | (refine WH.take 0 rfl (by kernel_rfl) (by kernel_rfl) (by kernel_rfl) (by kernel_rfl) rfl (by first | exact Ext.refl _ _ | assumption) (fun hq hC => ok_move rfl) rfl rfl rfl ?_))
  all_goals (first | (refine Br.keep ?_) | (refine WH.take 1 rfl (by kernel_rfl) (by kernel_rfl) (by kernel_rfl) (by kernel_rfl) rfl (by first | exact Ext.refl _ _ | assumption) (fun hq hC => ok_fieldAddr rfl Try.underlying46 rfl (fun w => Try.sizeOf43 w)) rfl rfl rfl ?_))
  all_goals (first | (refine Br.keep ?_) | (refine WH.take 2 rfl (by kernel_rfl) (by kernel_rfl) (by kernel_rfl) (by kernel_rfl) rfl (by first | exact Ext.refl _ _ | assumption) (fun hq hC => ok_load (fun w => Try.isAgg43 w) rfl (by first | exact hC.cell (by first | assumption | assumption | exact cell_blk (by assumption) rfl) (fun e => by first | exact hn1 e | exact hn2 e))) rfl rfl rfl ?_))
  all_goals (first | (refine Br.keep ?_) | (refine WH.take 3 rfl (by kernel_rfl) (by kernel_rfl) (by kernel_rfl) (by kernel_rfl) rfl (by first | exact Ext.refl _ _ | assumption) (fun hq hC => ok_move rfl) rfl rfl rfl ?_))
  all_goals (first | (refine Br.keep ?_) | (refine WH.take 4 rfl (by kernel_rfl) (by kernel_rfl) (by kernel_rfl) (by kernel_rfl) rfl (by first | exact Ext.refl _ _ | assumption) (fun hq hC => ok_idxAddrA Try.underlying43 (fun w => Try.sizeOf84 w) rfl rfl rfl (by omega) (by first | rfl | assumption)) rfl rfl rfl ?_))
  all_goals (first | (refine Br.keep ?_) | (refine WH.take 5 rfl (by kernel_rfl) (by kernel_rfl) (by kernel_rfl) (by kernel_rfl) rfl (by first | exact Ext.refl _ _ | assumption) (fun hq hC => ok_fieldAddr rfl Try.underlying84 rfl (fun w => Try.sizeOf36 w)) rfl rfl rfl ?_))
  all_goals (first | (refine Br.keep ?_) | (refine WH.take 6 rfl (by kernel_rfl) (by kernel_rfl) (by kernel_rfl) (by kernel_rfl) rfl (by first | exact Ext.refl _ _ | assumption) (fun hq hC => ok_load (fun w => Try.isAgg36 w) rfl (by first | exact hC.cell (by first | exact hcd.get 4 rfl rfl | assumption | exact cell_blk (by assumption) rfl) (fun e => by first | exact hn1 e | exact hn2 e))) rfl rfl rfl ?_))
  all_goals (first | (refine Br.keep ?_) | (refine WH.take 8 rfl (by kernel_rfl) (by kernel_rfl) (by kernel_rfl) (by kernel_rfl) rfl (by first | exact Ext.refl _ _ | assumption) (fun hq hC => ok_fieldAddr rfl Try.underlying46 rfl (fun w => Try.sizeOf43 w)) rfl rfl rfl ?_))
  all_goals (first | (refine Br.keep ?_) | (refine WH.take 9 rfl (by kernel_rfl) (by kernel_rfl) (by kernel_rfl) (by kernel_rfl) rfl (by first | exact Ext.refl _ _ | assumption) (fun hq hC => ok_load (fun w => Try.isAgg43 w) rfl (by first | exact hC.cell (by first | assumption | assumption | exact cell_blk (by assumption) rfl) (fun e => by first | exact hn1 e | exact hn2 e))) rfl rfl rfl ?_))
  all_goals (first | (refine Br.keep ?_) | (refine WH.take 10 rfl (by kernel_rfl) (by kernel_rfl) (by kernel_rfl) (by kernel_rfl) rfl (by first | exact Ext.refl _ _ | assumption) (fun hq hC => ok_move rfl) rfl rfl rfl ?_))
  all_goals (first | (refine Br.keep ?_) | (refine WH.take 11 rfl (by kernel_rfl) (by kernel_rfl) (by kernel_rfl) (by kernel_rfl) rfl (by first | exact Ext.refl _ _ | assumption) (fun hq hC => ok_idxAddrA Try.underlying43 (fun w => Try.sizeOf84 w) rfl rfl rfl (by omega) (by first | rfl | assumption)) rfl rfl rfl ?_))
  all_goals (first | (refine Br.keep ?_) | (refine WH.take 12 rfl (by kernel_rfl) (by kernel_rfl) (by kernel_rfl) (by kernel_rfl) rfl (by first | exact Ext.refl _ _ | assumption) (fun hq hC => ok_fieldAddr rfl Try.underlying84 rfl (fun w => Try.sizeOf36 w)) rfl rfl rfl ?_))
  all_goals (first | (refine Br.keep ?_) | (refine WH.take 13 rfl (by kernel_rfl) (by kernel_rfl) (by kernel_rfl) (by kernel_rfl) rfl (by first | exact Ext.refl _ _ | assumption) (fun hq hC => ok_load (fun w => Try.isAgg36 w) rfl (by first | exact hC.cell (by first | exact hcd.get 5 rfl rfl | assumption | exact cell_blk (by assumption) rfl) (fun e => by first | exact hn1 e | exact hn2 e))) rfl rfl rfl ?_))
  all_goals (first | (refine Br.keep ?_) | (refine WH.one 7 (by kernel_rfl) ?_))
  all_goals (first
               | (refine Br.keep ?_)
               | (refine Comes1.run rfl (ok_append (sz := 1) (bytes := 8) rfl Try.underlying36 (show Try.prog.info? 3 = some Try.t3 by kernel_rfl) rfl rfl rfl rfl (by decide) rfl rfl ho6 (hrc.ext0 hx6) (one_ints _) (by simp only [maxLen]; omega) (by omega)) rfl rfl rfl ?_ (fun _ => by kernel_rfl)
                  rintro v9 h9 ⟨ho9, hx9, hl9⟩))
  all_goals (first | (refine Br.keep ?_) | (refine ⟨fun _ => hx9, ?_⟩))
  all_goals (first
               | (refine Br.keep ?_)
               | (have hX9 : Ext No h h9 := hx6.trans' hx9 (fun q hq e => by have := hf6 q e; omega)
                  have hf9 : ∀ k, v9.ownBlock = some k → b1 + 1 ≤ k := fresh_of hl9 hf6 (by omega)
                  have hs9 := hx9.size))
  all_goals (first | (refine Br.keep ?_) | (refine WH.one 14 (by kernel_rfl) ?_))
  all_goals (first
               | (refine Br.keep ?_)
               | (refine Comes1.run rfl (ok_append (sz := 1) (bytes := 8) rfl Try.underlying36 (show Try.prog.info? 3 = some Try.t3 by kernel_rfl) rfl rfl rfl rfl (by decide) rfl rfl ho9 (hrp.ext0 hX9) (one_ints _) (by simp only [maxLen]; omega) (by omega)) rfl rfl rfl ?_ (fun _ => by kernel_rfl)
                  rintro v10 h10 ⟨ho10, hx10, hl10⟩))
  all_goals (first | (refine Br.keep ?_) | (refine ⟨fun _ => hx9.trans' hx10 (fun q hq e => by rcases hl9 with e2 | e2; exact e2 ▸ e; rw [e2] at e; injection e with e; omega), ?_⟩))
  all_goals (first
               | (refine Br.keep ?_)
               | (have hX10 : Ext No h h10 := hX9.trans' hx10 (fun q hq e => by have := hf9 q e; omega)
                  have hb10 : h10[b1]? = h1[b1]? := by rw [hb1]; exact hx10.obj (hx9.obj hb6 hn1) (fun e => by have := hf9 _ e; omega)))
  all_goals (first | (refine Br.keep ?_) | (refine WH.one 15 (by kernel_rfl) ?_))
  all_goals (first
               | (refine Br.keep ?_)
               | (refine Comes1.run rfl (OkP.r (ok_assign rfl)) rfl rfl rfl ?_ (fun _ => by kernel_rfl)
                  rintro _ hz ⟨rfl, _⟩
                  subst hz))
  all_goals (first | (refine Br.keep ?_) | (refine ⟨fun e => (by cases e), ?_⟩))
  all_goals (first | (refine Br.keep ?_) | (refine WH.done (by kernel_rfl) ?_))
  all_goals (first | (refine Br.keep ?_) | (repeat' (with_reducible first | refine thenP_n ?_ | refine blockP_n ?_)))
  all_goals (first | (refine Br.keep ?_) | (refine WC.sub [(1, _), (3, _), (6, _)] ⟨rfl, rfl, rfl, trivial⟩ ?_))
  all_goals (first | (refine Br.keep ?_) | (refine WC.region ?_))
  all_goals (first | (refine Br.keep ?_) | (refine WL.step (ok_move rfl) rfl rfl rfl ?_))
  all_goals (first | (refine Br.keep ?_) | (first | (refine WL.step (ok_addI rfl rfl (by omega)) rfl rfl rfl ?_) | (refine WL.step (ok_add rfl rfl) rfl rfl rfl ?_)))
  all_goals (first | (refine Br.keep ?_) | (refine WL.step (ok_assign rfl) rfl rfl rfl ?_))
  all_goals (first | (refine Br.keep ?_) | (refine WL.nil ?_))
  all_goals (first | (refine Br.keep ?_) | (repeat' (with_reducible first | refine thenP_n ?_ | refine blockP_n ?_)))
  all_goals (first | (refine Br.keep ?_) | (exact ⟨(j + 1, _, (L6 ++ cc) ++ pp), ⟨rfl, rfl, rfl, trivial⟩, (by exact ⟨hX10, hb10, by simp; omega, by rw [eL6, idsS_snoc hz]; simp, by simpa [Nat.add_assoc] using ho10, fresh_of hl10 hf9 (by omega)⟩), (by simp; omega)⟩))
  all_goals (try (refine Br.mk (i := 1004) ?_))
  all_goals (repeat' (with_reducible first | refine thenP_n ?_ | refine blockP_n ?_))
  all_goals (refine WC.seq ?_)
  all_goals (refine WC.region ?_)
  all_goals (refine WL.step (ok_move rfl) rfl rfl rfl ?_)
  all_goals (refine WL.step (ok_assign rfl) rfl rfl rfl ?_)
  all_goals (refine WL.nil ?_)
  all_goals (repeat' (with_reducible first | refine thenP_n ?_ | refine blockP_n ?_))
  all_goals (refine WC.sub [(2, _)] ⟨rfl, trivial⟩ ?_)
  all_goals (refine WC.ret ?_)
  all_goals (repeat' (with_reducible first | refine thenP_r ?_ | refine blockP_r ?_))
  all_goals (refine retP_1 _ ⟨rfl, trivial⟩ ?_)
  all_goals (rw [List.take_of_length_le (show S.length ≤ j by omega)] at eL6
             subst eL6
             exact ⟨ho6, hx6, fun q hq => by have := hf6 q hq; omega⟩)
end Go.Proofs.Ytfadcbbjjdmmfaa

