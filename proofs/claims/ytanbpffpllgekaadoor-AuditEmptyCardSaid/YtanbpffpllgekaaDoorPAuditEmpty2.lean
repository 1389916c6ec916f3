/-
  SEVERAL TEXTS IN ONE: View2, View3, View4, View5, K21, Aud.
-/
import Derived.Test.YtanbpffpllgekaaDoorPAuditEmpty1
import Derived.WideLaws
/-
  VIEW: all that stand in a view, as the code and the document gather them; how often.
-/
namespace Go.Proofs.YtanbpffpllgekaaDoor
open Go Go.RK

set_option maxHeartbeats 1000000 in
set_option maxRecDepth 100000 in
theorem ids_v {h : Heap} (V : VW) (ok : V.ok h) (f : Few V) : CallsH Tryd.prog 50 ⟨[.agg ⟨V.cells⟩]⟩ h fun u h' => Own h' u 3 1 (idsV V).length (ints (idsV V)) ∧ Ext No h h' ∧ ∀ k, u.ownBlock = some k → h.size ≤ k := by
  have hfc := f.c
  have hfs := f.s
  have hidc := idsC_len f
  have hids := idsS_len f
  obtain ⟨vc, C, vs, S, vr, R, vw, W⟩ := V
  obtain ⟨hc, hcl, hco, hs, hsl, hso, hrr, hrl, hw, hwl⟩ := ok
  simp only at hc hcl hco hs hsl hso hrr hrl hw hwl hfc hfs hidc hids
  obtain ⟨A1, c1, rfl, _⟩ := id hc
  obtain ⟨A2, c2, rfl, _⟩ := id hs
  obtain ⟨A3, c3, rfl, _⟩ := id hrr
  obtain ⟨A4, c4, rfl, _⟩ := id hw
  dsimp only [VW.cells]
  refine calls [(0, _)] Tryd.func50 rfl Tryd.ntmps50 rfl ⟨rfl, trivial⟩ ?_
  all_goals (refine WC.seq ?_)
  all_goals (refine WC.region ?_)
  all_goals (refine WL.stepR (okE_box rfl) rfl rfl rfl ?_
             rintro _ h1 ⟨b1, rfl, hg1, hb1, hx1⟩)
  all_goals (refine WL.step (ok_assign rfl) rfl rfl rfl ?_)
  all_goals (refine WL.nil ?_)
  all_goals (repeat' (with_reducible first | refine thenP_n ?_ | refine blockP_n ?_))
  all_goals (refine WC.seq ?_)
  all_goals (refine WC.region ?_)
  all_goals (refine WL.step (ok_assign rfl) rfl rfl rfl ?_)
  all_goals (refine WL.nil ?_)
  all_goals (repeat' (with_reducible first | refine thenP_n ?_ | refine blockP_n ?_))
  all_goals (refine WC.seq ?_)
  all_goals (refine WC.seq ?_)
  all_goals (refine WC.region ?_)
  all_goals (refine WL.step (ok_fieldAddr rfl Tryd.underlying30 rfl (fun w => Tryd.sizeOf25 w)) rfl rfl rfl ?_)
  all_goals (refine WL.step (ok_load (fun w => Tryd.isAgg25 w) rfl (by first | assumption | exact cell_blk (by assumption) rfl)) rfl rfl rfl ?_)
  all_goals (refine WL.step (ok_lenL rfl Tryd.underlying25 rfl) rfl rfl rfl ?_)
  all_goals (refine WL.step (ok_move rfl) rfl rfl rfl ?_)
  all_goals (refine WL.nil ?_)
  all_goals (repeat' (with_reducible first | refine thenP_n ?_ | refine blockP_n ?_))
  all_goals (refine WC.block ?_)
  -- loop 0: slots that turn [3, 13], that stay [1, 11, 12]
  all_goals (refine WC.loopG (X := Nat × Value × List Int) (fun x => ([(13, In (x.1 : Int)), (3, x.2.1)] : Fr)) [(1, _), (11, _), (12, _)] (fun x h' => Ext No h h' ∧ h'[b1]? = h1[b1]? ∧ x.1 ≤ C.length ∧ x.2.2 = idsC (C.take x.1) ∧ Own h' x.2.1 3 1 x.2.2.length (ints x.2.2) ∧ ∀ k, x.2.1.ownBlock = some k → b1 + 1 ≤ k) (fun x => C.length - x.1) ((0, .slice none 0 0, [])) ⟨rfl, rfl, rfl, rfl, rfl, trivial⟩ (by exact ⟨hx1, rfl, Nat.zero_le _, by simp [idsC], Own.nil _ _ _, by simp [Value.ownBlock]⟩) ?_)
  all_goals (rintro ⟨k, v2, L2⟩ h2 ⟨hx2, hb2, hk, eL2, ho2, hf2⟩
             simp only at hk eL2 ho2 hf2
             rw [hb1] at hb2
             have hb2l := lt_of_some hb2
             have hb1l := lt_of_some hb1
             have hs1 := hx1.size
             have hs2 := hx2.size)
  all_goals (refine WC.sub [(3, _), (13, _), (1, _), (11, _), (12, _)] ⟨rfl, rfl, rfl, rfl, rfl, trivial⟩ ?_)
  all_goals (dsimp only)
  all_goals (refine WC.seq ?_)
  all_goals (refine WC.region ?_)
  all_goals (first | (refine WL.step (OkP.bool_t (by omega) (ok_lss rfl rfl)) rfl rfl rfl ?_) | (refine WL.step (OkP.bool_f (by omega) (ok_lss rfl rfl)) rfl rfl rfl ?_) | (refine WL.step (ok_lss rfl rfl) rfl rfl rfl ?_))
  all_goals (refine WL.nil ?_)
  all_goals (repeat' (with_reducible first | refine thenP_n ?_ | refine blockP_n ?_))
  all_goals (refine WC.seq ?_)
  all_goals (first | refine WC.condB_t 1 rfl ?_ | refine WC.condB_f 2 rfl ?_ | (refine WC.condB 1 2 rfl (fun hb => ?_) (fun hb => ?_) <;> (first | replace hb := of_decide_eq_true hb | replace hb := of_decide_eq_false hb | replace hb := of_decide_eq_false (nt hb) | replace hb := of_decide_eq_true (nf hb) | skip)))
  all_goals (first
    | (fail_if_success (refine Br.mk (i := 1) ?_))
    | (refine Br.mk (i := 1) ?_
       all_goals (refine WC.skip ?_)
       skip))
  all_goals (first
    | (fail_if_success (refine Br.mk (i := 2) ?_))
    | (refine Br.mk (i := 2) ?_
       all_goals (refine WC.exit ?_)
       all_goals (repeat' (with_reducible first | refine thenP_x ?_ | refine blockP_miss rfl ?_ | refine blockP_hit ?_ | refine blockP_n ?_ | refine thenP_n ?_))
       all_goals (refine Br.out (i := 1000) ?_)
       skip))
  all_goals (first | (refine Br.keep ?_) | (repeat' (with_reducible first | refine thenP_n ?_ | refine blockP_n ?_)))
  all_goals (first | (refine Br.keep ?_) | (refine WC.seq ?_))
  all_goals (first | (refine Br.keep ?_) | (refine WC.block ?_))
  all_goals (first | (refine Br.keep ?_) | (refine WC.seq ?_))
  all_goals (first | (refine Br.keep ?_) | (refine WC.region ?_))
  all_goals (first
               | (refine Br.keep ?_)
               | (obtain ⟨bL, oL, hA, hbL, hat⟩ := Rd.at_ (hc.ext0 hx2) (by omega)
                  obtain ⟨⟨ph, sv, dn, tv, t⟩, hy⟩ : ∃ y, C[k]? = some y := ⟨_, List.getElem?_eq_getElem (by omega)⟩
                  have hco0 := hco _ (List.mem_of_getElem? hy)
                  have hft : t.length ≤ 40 := f.t _ (List.mem_of_getElem? hy)
                  obtain ⟨At1, ct1, etv, _⟩ := id hco0.1
                  simp only at etv
                  subst etv
                  have hrt : Rd h (.slice At1 t.length ct1) 2 t.length (t.flatMap nmC) := hco0.1
                  have hcc : At h2 bL (oL + k * 4) [In ph, In sv, In dn, .slice At1 t.length ct1] := At.elem CV.len hat hy))
  all_goals (first | (refine Br.keep ?_) | (refine WL.step (ok_idxAddrA Tryd.underlying25 (fun w => Tryd.sizeOf42 w) rfl rfl rfl (by omega) (by first | rfl | assumption)) rfl rfl rfl ?_))
  all_goals (first | (refine Br.keep ?_) | (refine WL.step (ok_loadN (fun w => Tryd.isAgg42 w) (fun w => Tryd.sizeOf42 w) rfl rfl (by assumption)) rfl rfl rfl ?_))
  all_goals (first
               | (refine Br.keep ?_)
               | (refine WL.stepR (okE_alloc (fun w => Tryd.zeroValue42 w)) rfl rfl rfl ?_
                  rintro _ h3 ⟨b3, rfl, hg3, hb3, hx3⟩))
  all_goals (first
               | (refine Br.keep ?_)
               | (refine WL.stepR0 (okE_storeW (fun w => Tryd.sizeOf42 w) rfl rfl rfl (by assumption) rfl (by simp [Value.oneCell'])) rfl rfl ?_
                  rintro _ h4 ⟨hb4, hx4⟩))
  all_goals (first
               | (refine Br.keep ?_)
               | (have hX4 : Ext No h2 h4 := hx3.trans' hx4 (fun q hq e => by omega)
                  have hs4 := hX4.size))
  all_goals (first | (refine Br.keep ?_) | (refine WL.nil ?_))
  all_goals (first | (refine Br.keep ?_) | (repeat' (with_reducible first | refine thenP_n ?_ | refine blockP_n ?_)))
  all_goals (first | (refine Br.keep ?_) | (refine WC.seq ?_))
  all_goals (first | (refine Br.keep ?_) | (refine WC.region ?_))
  all_goals (first | (refine Br.keep ?_) | (refine WL.step (ok_fieldAddr rfl Tryd.underlying42 rfl (fun w => Tryd.sizeOf40 w)) rfl rfl rfl ?_))
  all_goals (first | (refine Br.keep ?_) | (refine WL.step (ok_load (fun w => Tryd.isAgg40 w) rfl (by first | assumption | exact cell_blk (by assumption) rfl)) rfl rfl rfl ?_))
  all_goals (first | (refine Br.keep ?_) | (refine WL.step (ok_lenL rfl Tryd.underlying40 rfl) rfl rfl rfl ?_))
  all_goals (first | (refine Br.keep ?_) | (refine WL.step (ok_move rfl) rfl rfl rfl ?_))
  all_goals (first | (refine Br.keep ?_) | (refine WL.nil ?_))
  all_goals (first | (refine Br.keep ?_) | (repeat' (with_reducible first | refine thenP_n ?_ | refine blockP_n ?_)))
  all_goals (first | (refine Br.keep ?_) | (refine WC.sub [(1, _), (3, _), (11, _), (12, _), (13, _), (18, _), (19, _), (20, _)] ⟨rfl, rfl, rfl, rfl, rfl, rfl, rfl, rfl, trivial⟩ ?_))
  all_goals (first | (refine Br.keep ?_) | (refine WC.block ?_))
  -- loop 1: slots that turn [3, 20], that stay [1, 11, 12, 13, 18, 19]
  all_goals (first | (refine Br.keep ?_) | (refine WC.loopG (X := Nat × Value × List Int) (fun x => ([(20, In (x.1 : Int)), (3, x.2.1)] : Fr)) [(1, _), (11, _), (12, _), (13, _), (18, _), (19, _)] (fun x h' => Ext No h h' ∧ h'[b1]? = h1[b1]? ∧ h4.size ≤ h'.size ∧ x.1 ≤ t.length ∧ x.2.2 = idsC (C.take k) ++ (t.take x.1).map (·.2) ∧ Own h' x.2.1 3 1 x.2.2.length (ints x.2.2) ∧ ∀ k, x.2.1.ownBlock = some k → b1 + 1 ≤ k) (fun x => t.length - x.1) ((0, v2, L2)) ⟨rfl, rfl, rfl, rfl, rfl, rfl, rfl, rfl, trivial⟩ (by exact ⟨hx2.trans hX4, by rw [hb1]; exact hX4.obj hb2 nos, Nat.le_refl _, Nat.zero_le _, by simp [eL2], ho2.ext hX4 (fun _ _ => nos), hf2⟩) ?_))
  all_goals (first
               | (refine Br.keep ?_)
               | (rintro ⟨j, v6, L6⟩ h6 ⟨hx6, hb6, hs6, hj, eL6, ho6, hf6⟩
                  simp only at hj eL6 ho6 hf6
                  rw [hb1] at hb6
                  have hb6l := lt_of_some hb6
                  have hl6 : L6.length ≤ 5000 := by have := hidc k; have := congrArg List.length eL6; rw [List.length_append, List.length_map, List.length_take] at this; omega))
  all_goals (first | (refine Br.keep ?_) | (refine WC.sub [(3, _), (20, _), (1, _), (11, _), (12, _), (13, _), (18, _), (19, _)] ⟨rfl, rfl, rfl, rfl, rfl, rfl, rfl, rfl, trivial⟩ ?_))
  all_goals (first | (refine Br.keep ?_) | (dsimp only))
  all_goals (first | (refine Br.keep ?_) | (refine WC.seq ?_))
  all_goals (first | (refine Br.keep ?_) | (refine WC.region ?_))
  all_goals (first | (refine Br.keep ?_) | (first | (refine WL.step (OkP.bool_t (by omega) (ok_lss rfl rfl)) rfl rfl rfl ?_) | (refine WL.step (OkP.bool_f (by omega) (ok_lss rfl rfl)) rfl rfl rfl ?_) | (refine WL.step (ok_lss rfl rfl) rfl rfl rfl ?_)))
  all_goals (first | (refine Br.keep ?_) | (refine WL.nil ?_))
  all_goals (first | (refine Br.keep ?_) | (repeat' (with_reducible first | refine thenP_n ?_ | refine blockP_n ?_)))
  all_goals (first | (refine Br.keep ?_) | (refine WC.seq ?_))
  all_goals (first | (refine Br.keep ?_) | (first | refine WC.condB_t 3 rfl ?_ | refine WC.condB_f 4 rfl ?_ | (refine WC.condB 3 4 rfl (fun hb => ?_) (fun hb => ?_) <;> (first | replace hb := of_decide_eq_true hb | replace hb := of_decide_eq_false hb | replace hb := of_decide_eq_false (nt hb) | replace hb := of_decide_eq_true (nf hb) | skip))))
  all_goals (first
    | (fail_if_success (refine Br.mk (i := 3) ?_))
    | (refine Br.mk (i := 3) ?_
       all_goals (refine WC.skip ?_)
       skip))
  all_goals (first
    | (fail_if_success (refine Br.mk (i := 4) ?_))
    | (refine Br.mk (i := 4) ?_
       all_goals (refine WC.exit ?_)
       all_goals (repeat' (with_reducible first | refine thenP_x ?_ | refine blockP_miss rfl ?_ | refine blockP_hit ?_ | refine blockP_n ?_ | refine thenP_n ?_))
       all_goals (refine Br.out (i := 1002) ?_)
       skip))
  all_goals (first | (refine Br.keep ?_) | (repeat' (with_reducible first | refine thenP_n ?_ | refine blockP_n ?_)))
  all_goals (first | (refine Br.keep ?_) | (refine WC.seq ?_))
  all_goals (first | (refine Br.keep ?_) | (refine WC.block ?_))
  all_goals (first | (refine Br.keep ?_) | (refine WC.seq ?_))
  all_goals (first | (refine Br.keep ?_) | (refine WC.region ?_))
  all_goals (first
               | (refine Br.keep ?_)
               | (obtain ⟨bM, oM, hB, hbM, hbt⟩ := Rd.at_ (hrt.ext0 hx6) (by omega)
                  obtain ⟨⟨n8, id8⟩, hz⟩ : ∃ y, t[j]? = some y := ⟨_, List.getElem?_eq_getElem (by omega)⟩
                  have hcd : At h6 bM (oM + j * 2) [St n8, In id8] := At.elem nmC_len hbt hz))
  all_goals (first | (refine Br.keep ?_) | (refine WL.step (ok_idxAddrA Tryd.underlying40 (fun w => Tryd.sizeOf110 w) rfl rfl rfl (by omega) (by first | rfl | assumption)) rfl rfl rfl ?_))
  all_goals (first | (refine Br.keep ?_) | (refine WL.step (ok_loadN (fun w => Tryd.isAgg110 w) (fun w => Tryd.sizeOf110 w) rfl rfl (by assumption)) rfl rfl rfl ?_))
  all_goals (first
               | (refine Br.keep ?_)
               | (refine WL.stepR (okE_alloc (fun w => Tryd.zeroValue110 w)) rfl rfl rfl ?_
                  rintro _ h7 ⟨b7, rfl, hg7, hb7, hx7⟩))
  all_goals (first
               | (refine Br.keep ?_)
               | (refine WL.stepR0 (okE_storeW (fun w => Tryd.sizeOf110 w) rfl rfl rfl (by assumption) rfl (by simp [Value.oneCell'])) rfl rfl ?_
                  rintro _ h8 ⟨hb8, hx8⟩))
  all_goals (first | (refine Br.keep ?_) | (have hX8 : Ext No h6 h8 := hx7.trans' hx8 (fun q hq e => by omega)))
  all_goals (first | (refine Br.keep ?_) | (refine WL.nil ?_))
  all_goals (first | (refine Br.keep ?_) | (repeat' (with_reducible first | refine thenP_n ?_ | refine blockP_n ?_)))
  all_goals (first | (refine Br.keep ?_) | (refine WC.region ?_))
  all_goals (first | (refine Br.keep ?_) | (refine WL.step (ok_move rfl) rfl rfl rfl ?_))
  all_goals (first | (refine Br.keep ?_) | (refine WL.step (ok_fieldAddr rfl Tryd.underlying110 rfl (fun w => Tryd.sizeOf3 w)) rfl rfl rfl ?_))
  all_goals (first | (refine Br.keep ?_) | (refine WL.step (ok_load (fun w => Tryd.isAgg3 w) rfl (by first | assumption | exact cell_blk (by assumption) rfl)) rfl rfl rfl ?_))
  all_goals (first
               | (refine Br.keep ?_)
               | (refine WL.stepR (okE_buildSlice (vs := [_]) (cs := [_]) (fun | [a0] => [a0] | _ => []) Tryd.underlying28 rfl rfl (by kernel_rfl)) rfl rfl rfl ?_
                  rintro _ h9 ⟨b9, rfl, hg9, hb9, hx9⟩))
  all_goals (first
               | (refine Br.keep ?_)
               | (have hX9 : Ext No h6 h9 := hX8.trans hx9
                  have hs9 := hX9.size
                  have hs6h := hx6.size))
  all_goals (first
               | (refine Br.keep ?_)
               | (refine WL.stepR (ok_append (sz := 1) (bytes := 8) rfl Tryd.underlying28 (show Tryd.prog.info? 3 = some Tryd.t3 by kernel_rfl) rfl rfl rfl rfl (by decide) rfl rfl (ho6.ext hX9 (fun _ _ => nos)) (rd_blk hb9 rfl) (by simp [Value.oneCell']) (by simp only [maxLen]; omega) (by omega)) rfl rfl rfl ?_
                  rintro v10 h10 ⟨ho10, hx10, hl10⟩))
  all_goals (first
               | (refine Br.keep ?_)
               | (have hX10 : Ext No h h10 := (hx6.trans hX9).trans' hx10 (fun q hq e => by have := hf6 q e; omega)
                  have hb10 : h10[b1]? = h1[b1]? := by rw [hb1]; exact hx10.obj (hX9.obj hb6 nos) (fun e => by have := hf6 _ e; omega)))
  all_goals (first | (refine Br.keep ?_) | (refine WL.step (ok_assign rfl) rfl rfl rfl ?_))
  all_goals (first | (refine Br.keep ?_) | (refine WL.nil ?_))
  all_goals (first | (refine Br.keep ?_) | (repeat' (with_reducible first | refine thenP_n ?_ | refine blockP_n ?_)))
  all_goals (first | (refine Br.keep ?_) | (refine WC.sub [(1, _), (3, _), (11, _), (12, _), (13, _), (18, _), (19, _), (20, _)] ⟨rfl, rfl, rfl, rfl, rfl, rfl, rfl, rfl, trivial⟩ ?_))
  all_goals (first | (refine Br.keep ?_) | (refine WC.region ?_))
  all_goals (first | (refine Br.keep ?_) | (first | (refine WL.step (ok_addI rfl rfl (by omega)) rfl rfl rfl ?_) | (refine WL.step (ok_add rfl rfl) rfl rfl rfl ?_)))
  all_goals (first | (refine Br.keep ?_) | (refine WL.step (ok_move rfl) rfl rfl rfl ?_))
  all_goals (first | (refine Br.keep ?_) | (refine WL.nil ?_))
  all_goals (first | (refine Br.keep ?_) | (repeat' (with_reducible first | refine thenP_n ?_ | refine blockP_n ?_)))
  all_goals (first | (refine Br.keep ?_) | (exact ⟨(j + 1, _, L6 ++ [id8]), ⟨rfl, rfl, rfl, rfl, rfl, rfl, rfl, rfl, trivial⟩, (by exact ⟨hX10, hb10, by have := hx10.size; omega, by simp; omega, by rw [eL6, List.take_add_one, hz]; simp, by simpa using ho10, fresh_of hl10 hf6 (by omega)⟩), (by simp; omega)⟩))
  all_goals (try (refine Br.mk (i := 1002) ?_))
  all_goals (first | (refine Br.keep ?_) | (repeat' (with_reducible first | refine thenP_n ?_ | refine blockP_n ?_)))
  all_goals (first | (refine Br.keep ?_) | (refine WC.sub [(1, _), (3, _), (11, _), (12, _), (13, _)] ⟨rfl, rfl, rfl, rfl, rfl, trivial⟩ ?_))
  all_goals (first | (refine Br.keep ?_) | (refine WC.region ?_))
  all_goals (first | (refine Br.keep ?_) | (first | (refine WL.step (ok_addI rfl rfl (by omega)) rfl rfl rfl ?_) | (refine WL.step (ok_add rfl rfl) rfl rfl rfl ?_)))
  all_goals (first | (refine Br.keep ?_) | (refine WL.step (ok_move rfl) rfl rfl rfl ?_))
  all_goals (first | (refine Br.keep ?_) | (refine WL.nil ?_))
  all_goals (first | (refine Br.keep ?_) | (repeat' (with_reducible first | refine thenP_n ?_ | refine blockP_n ?_)))
  all_goals (first | (refine Br.keep ?_) | (exact ⟨(k + 1, _, _), ⟨rfl, rfl, rfl, rfl, rfl, trivial⟩, (by exact ⟨hx6, by rw [hb1]; exact hb6, by simp; omega, by rw [eL6, idsC_snoc hy, List.take_of_length_le (show t.length ≤ j by omega)], ho6, hf6⟩), (by simp; omega)⟩))
  all_goals (try (refine Br.mk (i := 1000) ?_))
  all_goals (repeat' (with_reducible first | refine thenP_n ?_ | refine blockP_n ?_))
  all_goals (refine WC.sub [(1, _), (3, _)] ⟨rfl, rfl, trivial⟩ ?_)
  all_goals (refine WC.seq ?_)
  all_goals (refine WC.seq ?_)
  all_goals (refine WC.region ?_)
  all_goals (rw [List.take_of_length_le (show C.length ≤ k by omega)] at eL2)
  all_goals (refine WL.step (ok_fieldAddr rfl Tryd.underlying30 rfl (fun w => Tryd.sizeOf26 w)) rfl rfl rfl ?_)
  all_goals (refine WL.step (ok_load (fun w => Tryd.isAgg26 w) rfl (by first | assumption | exact cell_blk (by assumption) rfl)) rfl rfl rfl ?_)
  all_goals (refine WL.step (ok_lenL rfl Tryd.underlying26 rfl) rfl rfl rfl ?_)
  all_goals (refine WL.step (ok_move rfl) rfl rfl rfl ?_)
  all_goals (refine WL.nil ?_)
  all_goals (repeat' (with_reducible first | refine thenP_n ?_ | refine blockP_n ?_))
  all_goals (refine WC.block ?_)
  -- loop 2: slots that turn [3, 34], that stay [32, 33]
  all_goals (refine WC.loopG (X := Nat × Value × List Int) (fun x => ([(34, In (x.1 : Int)), (3, x.2.1)] : Fr)) [(32, _), (33, _)] (fun x h' => Ext No h h' ∧ h'[b1]? = h1[b1]? ∧ x.1 ≤ S.length ∧ x.2.2 = idsC C ++ idsS (S.take x.1) ∧ Own h' x.2.1 3 1 x.2.2.length (ints x.2.2) ∧ ∀ k, x.2.1.ownBlock = some k → b1 + 1 ≤ k) (fun x => S.length - x.1) ((0, v2, L2)) ⟨rfl, rfl, rfl, rfl, trivial⟩ (by exact ⟨hx2, by rw [hb1]; exact hb2, Nat.zero_le _, by simp [eL2, idsS], ho2, hf2⟩) ?_)
  all_goals (rintro ⟨j, v6, L6⟩ h6 ⟨hx6, hb6, hj, eL6, ho6, hf6⟩
             rw [hb1] at hb6
             have hb6l := lt_of_some hb6
             simp only at hj eL6 ho6 hf6
             have hl6 : L6.length ≤ 5000 := by have := hidc C.length; rw [List.take_length] at this; have := hids j; have := congrArg List.length eL6; rw [List.length_append] at this; omega
             have hs6h := hx6.size)
  all_goals (refine WC.sub [(3, _), (34, _), (32, _), (33, _)] ⟨rfl, rfl, rfl, rfl, trivial⟩ ?_)
  all_goals (dsimp only)
  all_goals (refine WC.seq ?_)
  all_goals (refine WC.region ?_)
  all_goals (first | (refine WL.step (OkP.bool_t (by omega) (ok_lss rfl rfl)) rfl rfl rfl ?_) | (refine WL.step (OkP.bool_f (by omega) (ok_lss rfl rfl)) rfl rfl rfl ?_) | (refine WL.step (ok_lss rfl rfl) rfl rfl rfl ?_))
  all_goals (refine WL.nil ?_)
  all_goals (repeat' (with_reducible first | refine thenP_n ?_ | refine blockP_n ?_))
  all_goals (refine WC.seq ?_)
  all_goals (first | refine WC.condB_t 5 rfl ?_ | refine WC.condB_f 6 rfl ?_ | (refine WC.condB 5 6 rfl (fun hb => ?_) (fun hb => ?_) <;> (first | replace hb := of_decide_eq_true hb | replace hb := of_decide_eq_false hb | replace hb := of_decide_eq_false (nt hb) | replace hb := of_decide_eq_true (nf hb) | skip)))
  all_goals (first
    | (fail_if_success (refine Br.mk (i := 5) ?_))
    | (refine Br.mk (i := 5) ?_
       all_goals (refine WC.skip ?_)
       skip))
  all_goals (first
    | (fail_if_success (refine Br.mk (i := 6) ?_))
    | (refine Br.mk (i := 6) ?_
       all_goals (refine WC.exit ?_)
       all_goals (repeat' (with_reducible first | refine thenP_x ?_ | refine blockP_miss rfl ?_ | refine blockP_hit ?_ | refine blockP_n ?_ | refine thenP_n ?_))
       all_goals (refine Br.out (i := 1004) ?_)
       skip))
  all_goals (first | (refine Br.keep ?_) | (repeat' (with_reducible first | refine thenP_n ?_ | refine blockP_n ?_)))
  all_goals (first | (refine Br.keep ?_) | (refine WC.seq ?_))
  all_goals (first | (refine Br.keep ?_) | (refine WC.block ?_))
  all_goals (first | (refine Br.keep ?_) | (refine WC.seq ?_))
  all_goals (first | (refine Br.keep ?_) | (refine WC.region ?_))
  all_goals (first
               | (refine Br.keep ?_)
               | (obtain ⟨bM, oM, hB, hbM, hbt⟩ := Rd.at_ (hs.ext0 hx6) (by omega)
                  obtain ⟨⟨st, hd, qu, ss, vc2, cc, vp2, pp⟩, hz⟩ : ∃ y, S[j]? = some y := ⟨_, List.getElem?_eq_getElem (by omega)⟩
                  have hso0 := hso _ (List.mem_of_getElem? hz)
                  have hfq : cc.length ≤ 60 ∧ pp.length ≤ 60 := f.q _ (List.mem_of_getElem? hz)
                  obtain ⟨At1, ct1, etv, _⟩ := id hso0.c
                  obtain ⟨At2, ct2, etw, _⟩ := id hso0.p
                  simp only at etv etw
                  subst etv etw
                  have hrc : Rd h (.slice At1 cc.length ct1) 1 cc.length (ints cc) := hso0.c
                  have hrp : Rd h (.slice At2 pp.length ct2) 1 pp.length (ints pp) := hso0.p
                  have hcd : At h6 bM (oM + j * 6) [In st, In hd, In qu, By ss, .slice At1 cc.length ct1, .slice At2 pp.length ct2] := At.elem SV.len hbt hz))
  all_goals (first | (refine Br.keep ?_) | (refine WL.step (ok_idxAddrA Tryd.underlying26 (fun w => Tryd.sizeOf32 w) rfl rfl rfl (by omega) (by first | rfl | assumption)) rfl rfl rfl ?_))
  all_goals (first | (refine Br.keep ?_) | (refine WL.step (ok_loadN (fun w => Tryd.isAgg32 w) (fun w => Tryd.sizeOf32 w) rfl rfl (by assumption)) rfl rfl rfl ?_))
  all_goals (first
               | (refine Br.keep ?_)
               | (refine WL.stepR (okE_alloc (fun w => Tryd.zeroValue32 w)) rfl rfl rfl ?_
                  rintro _ h7 ⟨b7, rfl, hg7, hb7, hx7⟩))
  all_goals (first
               | (refine Br.keep ?_)
               | (refine WL.stepR0 (okE_storeW (fun w => Tryd.sizeOf32 w) rfl rfl rfl (by assumption) rfl (by simp [Value.oneCell'])) rfl rfl ?_
                  rintro _ h8 ⟨hb8, hx8⟩))
  all_goals (first
               | (refine Br.keep ?_)
               | (have hX8 : Ext No h6 h8 := hx7.trans' hx8 (fun q hq e => by omega)
                  have hX8h := hx6.trans hX8
                  have hs8 := hX8.size))
  all_goals (first | (refine Br.keep ?_) | (refine WL.nil ?_))
  all_goals (first | (refine Br.keep ?_) | (repeat' (with_reducible first | refine thenP_n ?_ | refine blockP_n ?_)))
  all_goals (first | (refine Br.keep ?_) | (refine WC.seq ?_))
  all_goals (first | (refine Br.keep ?_) | (refine WC.region ?_))
  all_goals (first | (refine Br.keep ?_) | (refine WL.step (ok_move rfl) rfl rfl rfl ?_))
  all_goals (first | (refine Br.keep ?_) | (refine WL.step (ok_fieldAddr rfl Tryd.underlying32 rfl (fun w => Tryd.sizeOf28 w)) rfl rfl rfl ?_))
  all_goals (first | (refine Br.keep ?_) | (refine WL.step (ok_load (fun w => Tryd.isAgg28 w) rfl (by first | assumption | exact cell_blk (by assumption) rfl)) rfl rfl rfl ?_))
  all_goals (first
               | (refine Br.keep ?_)
               | (refine WL.stepR (ok_append (sz := 1) (bytes := 8) rfl Tryd.underlying28 (show Tryd.prog.info? 3 = some Tryd.t3 by kernel_rfl) rfl rfl rfl rfl (by decide) rfl rfl (ho6.ext hX8 (fun _ _ => nos)) (hrc.ext0 hX8h) (one_ints _) (by simp only [maxLen]; omega) (by omega)) rfl rfl rfl ?_
                  rintro v9 h9 ⟨ho9, hx9, hl9⟩))
  all_goals (first
               | (refine Br.keep ?_)
               | (have hX9 : Ext No h h9 := hX8h.trans' hx9 (fun q hq e => by have := hf6 q e; omega)
                  have hf9 : ∀ k, v9.ownBlock = some k → b1 + 1 ≤ k := fresh_of hl9 hf6 (by omega)
                  have hb89 := hx9.obj hb8 (fun e => by have := ho6.lt e; omega)
                  have hs9 := hx9.size))
  all_goals (first | (refine Br.keep ?_) | (refine WL.step (ok_assign rfl) rfl rfl rfl ?_))
  all_goals (first | (refine Br.keep ?_) | (refine WL.nil ?_))
  all_goals (first | (refine Br.keep ?_) | (repeat' (with_reducible first | refine thenP_n ?_ | refine blockP_n ?_)))
  all_goals (first | (refine Br.keep ?_) | (refine WC.sub [(3, _), (9, _), (32, _), (33, _), (34, _)] ⟨rfl, rfl, rfl, rfl, rfl, trivial⟩ ?_))
  all_goals (first | (refine Br.keep ?_) | (refine WC.region ?_))
  all_goals (first | (refine Br.keep ?_) | (refine WL.step (ok_move rfl) rfl rfl rfl ?_))
  all_goals (first | (refine Br.keep ?_) | (refine WL.step (ok_fieldAddr rfl Tryd.underlying32 rfl (fun w => Tryd.sizeOf28 w)) rfl rfl rfl ?_))
  all_goals (first | (refine Br.keep ?_) | (refine WL.step (ok_load (fun w => Tryd.isAgg28 w) rfl (by first | assumption | exact cell_blk (by assumption) rfl)) rfl rfl rfl ?_))
  all_goals (first
               | (refine Br.keep ?_)
               | (refine WL.stepR (ok_append (sz := 1) (bytes := 8) rfl Tryd.underlying28 (show Tryd.prog.info? 3 = some Tryd.t3 by kernel_rfl) rfl rfl rfl rfl (by decide) rfl rfl ho9 (hrp.ext0 hX9) (one_ints _) (by simp only [maxLen]; omega) (by omega)) rfl rfl rfl ?_
                  rintro v10 h10 ⟨ho10, hx10, hl10⟩))
  all_goals (first
               | (refine Br.keep ?_)
               | (have hX10 : Ext No h h10 := hX9.trans' hx10 (fun q hq e => by have := hf9 q e; omega)
                  have hb10 : h10[b1]? = h1[b1]? := by rw [hb1]; exact hx10.obj (hx9.obj (hX8.obj hb6 nos) (fun e => by have := hf6 _ e; omega)) (fun e => by have := hf9 _ e; omega)))
  all_goals (first | (refine Br.keep ?_) | (refine WL.step (ok_assign rfl) rfl rfl rfl ?_))
  all_goals (first | (refine Br.keep ?_) | (refine WL.nil ?_))
  all_goals (first | (refine Br.keep ?_) | (repeat' (with_reducible first | refine thenP_n ?_ | refine blockP_n ?_)))
  all_goals (first | (refine Br.keep ?_) | (refine WC.sub [(3, _), (32, _), (33, _), (34, _)] ⟨rfl, rfl, rfl, rfl, trivial⟩ ?_))
  all_goals (first | (refine Br.keep ?_) | (refine WC.region ?_))
  all_goals (first | (refine Br.keep ?_) | (first | (refine WL.step (ok_addI rfl rfl (by omega)) rfl rfl rfl ?_) | (refine WL.step (ok_add rfl rfl) rfl rfl rfl ?_)))
  all_goals (first | (refine Br.keep ?_) | (refine WL.step (ok_move rfl) rfl rfl rfl ?_))
  all_goals (first | (refine Br.keep ?_) | (refine WL.nil ?_))
  all_goals (first | (refine Br.keep ?_) | (repeat' (with_reducible first | refine thenP_n ?_ | refine blockP_n ?_)))
  all_goals (first | (refine Br.keep ?_) | (exact ⟨(j + 1, _, (L6 ++ cc) ++ pp), ⟨rfl, rfl, rfl, rfl, trivial⟩, (by exact ⟨hX10, hb10, by simp; omega, by rw [eL6, idsS_snoc hz]; simp, by simpa [Nat.add_assoc] using ho10, fresh_of hl10 hf9 (by omega)⟩), (by simp; omega)⟩))
  all_goals (try (refine Br.mk (i := 1004) ?_))
  all_goals (repeat' (with_reducible first | refine thenP_n ?_ | refine blockP_n ?_))
  all_goals (refine WC.sub [(3, _)] ⟨rfl, trivial⟩ ?_)
  all_goals (refine WC.seq ?_)
  all_goals (refine WC.region ?_)
  all_goals (refine WL.step (ok_move rfl) rfl rfl rfl ?_)
  all_goals (refine WL.step (ok_assign rfl) rfl rfl rfl ?_)
  all_goals (refine WL.nil ?_)
  all_goals (repeat' (with_reducible first | refine thenP_n ?_ | refine blockP_n ?_))
  all_goals (refine WC.ret ?_)
  all_goals (repeat' (with_reducible first | refine thenP_r ?_ | refine blockP_r ?_))
  all_goals (refine retP_1 _ ⟨rfl, trivial⟩ ?_)
  all_goals (rw [List.take_of_length_le (show S.length ≤ j by omega)] at eL6
             subst eL6
             exact ⟨ho6, hx6, fun q hq => by have := hf6 q hq; omega⟩)
set_option maxHeartbeats 1000000 in
set_option maxRecDepth 100000 in
theorem ids46 {h : Heap} (V : VW) (ok : V.ok h) (f : Few V) : CallsH Tryd.prog 48 ⟨[.agg ⟨V.cells⟩]⟩ h fun u h' => Own h' u 3 1 (idsV V).length (ints (idsV V)) ∧ Ext No h h' ∧ ∀ k, u.ownBlock = some k → h.size ≤ k := by
  have hfc := f.c
  have hfs := f.s
  have hidc := idsC_len f
  have hids := idsS_len f
  obtain ⟨vc, C, vs, S, vr, R, vw, W⟩ := V
  obtain ⟨hc, hcl, hco, hs, hsl, hso, hrr, hrl, hw, hwl⟩ := ok
  simp only at hc hcl hco hs hsl hso hrr hrl hw hwl hfc hfs hidc hids
  obtain ⟨A1, c1, rfl, _⟩ := id hc
  obtain ⟨A2, c2, rfl, _⟩ := id hs
  obtain ⟨A3, c3, rfl, _⟩ := id hrr
  obtain ⟨A4, c4, rfl, _⟩ := id hw
  dsimp only [VW.cells]
  refine calls [(0, _)] Tryd.func48 rfl Tryd.ntmps48 rfl ⟨rfl, trivial⟩ ?_
  all_goals (refine WC.seq ?_)
  all_goals (refine WC.region ?_)
  all_goals (refine WL.stepR (okE_box rfl) rfl rfl rfl ?_
             rintro _ h1 ⟨b1, rfl, hg1, hb1, hx1⟩)
  all_goals (refine WL.step (ok_assign rfl) rfl rfl rfl ?_)
  all_goals (refine WL.nil ?_)
  all_goals (repeat' (with_reducible first | refine thenP_n ?_ | refine blockP_n ?_))
  all_goals (refine WC.seq ?_)
  all_goals (refine WC.region ?_)
  all_goals (refine WL.step (ok_assign rfl) rfl rfl rfl ?_)
  all_goals (refine WL.nil ?_)
  all_goals (repeat' (with_reducible first | refine thenP_n ?_ | refine blockP_n ?_))
  all_goals (refine WC.seq ?_)
  all_goals (refine WC.seq ?_)
  all_goals (refine WC.region ?_)
  all_goals (refine WL.step (ok_assign rfl) rfl rfl rfl ?_)
  all_goals (refine WL.nil ?_)
  all_goals (repeat' (with_reducible first | refine thenP_n ?_ | refine blockP_n ?_))
  all_goals (refine WC.block ?_)
  -- loop 0: slots that turn [3, 4], that stay [1]
  all_goals (refine WC.loopG (X := Nat × Value × List Int) (fun x => ([(4, In (x.1 : Int)), (3, x.2.1)] : Fr)) [(1, _)] (fun x h' => Ext No h h' ∧ h'[b1]? = h1[b1]? ∧ x.1 ≤ C.length ∧ x.2.2 = idsC (C.take x.1) ∧ Own h' x.2.1 3 1 x.2.2.length (ints x.2.2) ∧ ∀ k, x.2.1.ownBlock = some k → b1 + 1 ≤ k) (fun x => C.length - x.1) ((0, .slice none 0 0, [])) ⟨rfl, rfl, rfl, trivial⟩ (by exact ⟨hx1, rfl, Nat.zero_le _, by simp [idsC], Own.nil _ _ _, by simp [Value.ownBlock]⟩) ?_)
  all_goals (rintro ⟨k, v2, L2⟩ h2 ⟨hx2, hb2, hk, eL2, ho2, hf2⟩
             simp only at hk eL2 ho2 hf2
             rw [hb1] at hb2
             have hb2l := lt_of_some hb2
             have hb1l := lt_of_some hb1
             have hs1 := hx1.size
             have hs2 := hx2.size)
  all_goals (refine WC.sub [(3, _), (4, _), (1, _)] ⟨rfl, rfl, rfl, trivial⟩ ?_)
  all_goals (dsimp only)
  all_goals (refine WC.seq ?_)
  all_goals (refine WC.seq ?_)
  all_goals (refine WC.region ?_)
  all_goals (refine WL.step (ok_move rfl) rfl rfl rfl ?_)
  all_goals (refine WL.step (ok_fieldAddr rfl Tryd.underlying30 rfl (fun w => Tryd.sizeOf25 w)) rfl rfl rfl ?_)
  all_goals (refine WL.step (ok_load (fun w => Tryd.isAgg25 w) rfl (by first | assumption | exact cell_blk (by assumption) rfl)) rfl rfl rfl ?_)
  all_goals (refine WL.step (ok_lenL rfl Tryd.underlying25 rfl) rfl rfl rfl ?_)
  all_goals (first | (refine WL.step (OkP.bool_t (by omega) (ok_lss rfl rfl)) rfl rfl rfl ?_) | (refine WL.step (OkP.bool_f (by omega) (ok_lss rfl rfl)) rfl rfl rfl ?_) | (refine WL.step (ok_lss rfl rfl) rfl rfl rfl ?_))
  all_goals (refine WL.nil ?_)
  all_goals (repeat' (with_reducible first | refine thenP_n ?_ | refine blockP_n ?_))
  all_goals (refine WC.sub [(1, _), (3, _), (4, _), (11, _)] ⟨rfl, rfl, rfl, rfl, trivial⟩ ?_)
  all_goals (first | refine WC.condB_t 1 rfl ?_ | refine WC.condB_f 2 rfl ?_ | (refine WC.condB 1 2 rfl (fun hb => ?_) (fun hb => ?_) <;> (first | replace hb := of_decide_eq_true hb | replace hb := of_decide_eq_false hb | replace hb := of_decide_eq_false (nt hb) | replace hb := of_decide_eq_true (nf hb) | skip)))
  all_goals (first
    | (fail_if_success (refine Br.mk (i := 1) ?_))
    | (refine Br.mk (i := 1) ?_
       all_goals (refine WC.skip ?_)
       skip))
  all_goals (first
    | (fail_if_success (refine Br.mk (i := 2) ?_))
    | (refine Br.mk (i := 2) ?_
       all_goals (refine WC.exit ?_)
       all_goals (repeat' (with_reducible first | refine thenP_x ?_ | refine blockP_miss rfl ?_ | refine blockP_hit ?_ | refine blockP_n ?_ | refine thenP_n ?_))
       all_goals (refine Br.out (i := 1000) ?_)
       skip))
  all_goals (first | (refine Br.keep ?_) | (repeat' (with_reducible first | refine thenP_n ?_ | refine blockP_n ?_)))
  all_goals (first | (refine Br.keep ?_) | (refine WC.seq ?_))
  all_goals (first | (refine Br.keep ?_) | (refine WC.block ?_))
  all_goals (first | (refine Br.keep ?_) | (refine WC.seq ?_))
  all_goals (first | (refine Br.keep ?_) | (refine WC.region ?_))
  all_goals (first
               | (refine Br.keep ?_)
               | (obtain ⟨bL, oL, hA, hbL, hat⟩ := Rd.at_ hc (by omega)
                  obtain ⟨⟨ph, sv, dn, tv, t⟩, hy⟩ : ∃ y, C[k]? = some y := ⟨_, List.getElem?_eq_getElem (by omega)⟩
                  have hco0 := hco _ (List.mem_of_getElem? hy)
                  have hft : t.length ≤ 40 := f.t _ (List.mem_of_getElem? hy)
                  obtain ⟨At1, ct1, etv, _⟩ := id hco0.1
                  simp only at etv
                  subst etv
                  have hrt : Rd h (.slice At1 t.length ct1) 2 t.length (t.flatMap nmC) := hco0.1
                  have hcc : At h bL (oL + k * 4) [In ph, In sv, In dn, .slice At1 t.length ct1] := At.elem CV.len hat hy))
  all_goals (first | (refine Br.keep ?_) | (refine WL.step (ok_assign rfl) rfl rfl rfl ?_))
  all_goals (first | (refine Br.keep ?_) | (refine WL.nil ?_))
  all_goals (first | (refine Br.keep ?_) | (repeat' (with_reducible first | refine thenP_n ?_ | refine blockP_n ?_)))
  all_goals (first | (refine Br.keep ?_) | (refine WC.block ?_))
  -- loop 1: slots that turn [3, 5], that stay [1, 4]
  all_goals (first | (refine Br.keep ?_) | (refine WC.loopG (X := Nat × Value × List Int) (fun x => ([(5, In (x.1 : Int)), (3, x.2.1)] : Fr)) [(1, _), (4, _)] (fun x h' => Ext No h h' ∧ h'[b1]? = h1[b1]? ∧ x.1 ≤ t.length ∧ x.2.2 = idsC (C.take k) ++ (t.take x.1).map (·.2) ∧ Own h' x.2.1 3 1 x.2.2.length (ints x.2.2) ∧ ∀ k, x.2.1.ownBlock = some k → b1 + 1 ≤ k) (fun x => t.length - x.1) ((0, v2, L2)) ⟨rfl, rfl, rfl, rfl, trivial⟩ (by exact ⟨hx2, by rw [hb1]; exact hb2, Nat.zero_le _, by simp [eL2], ho2, hf2⟩) ?_))
  all_goals (first
               | (refine Br.keep ?_)
               | (rintro ⟨j, v6, L6⟩ h6 ⟨hx6, hb6, hj, eL6, ho6, hf6⟩
                  simp only at hj eL6 ho6 hf6
                  rw [hb1] at hb6
                  have hl6 : L6.length ≤ 5000 := by have := hidc k; have := congrArg List.length eL6; rw [List.length_append, List.length_map, List.length_take] at this; omega
                  have hc6 := hcc.ext hx6 nos))
  all_goals (first | (refine Br.keep ?_) | (refine WC.sub [(3, _), (5, _), (1, _), (4, _)] ⟨rfl, rfl, rfl, rfl, trivial⟩ ?_))
  all_goals (first | (refine Br.keep ?_) | (dsimp only))
  all_goals (first | (refine Br.keep ?_) | (refine WC.seq ?_))
  all_goals (first | (refine Br.keep ?_) | (refine WC.seq ?_))
  all_goals (first | (refine Br.keep ?_) | (refine WC.region ?_))
  all_goals (first | (refine Br.keep ?_) | (refine WL.step (ok_move rfl) rfl rfl rfl ?_))
  all_goals (first | (refine Br.keep ?_) | (refine WL.step (ok_fieldAddr rfl Tryd.underlying30 rfl (fun w => Tryd.sizeOf25 w)) rfl rfl rfl ?_))
  all_goals (first | (refine Br.keep ?_) | (refine WL.step (ok_load (fun w => Tryd.isAgg25 w) rfl (by first | assumption | exact cell_blk (by assumption) rfl)) rfl rfl rfl ?_))
  all_goals (first | (refine Br.keep ?_) | (refine WL.step (ok_move rfl) rfl rfl rfl ?_))
  all_goals (first | (refine Br.keep ?_) | (refine WL.step (ok_idxAddrA Tryd.underlying25 (fun w => Tryd.sizeOf42 w) rfl rfl rfl (by omega) (by first | rfl | assumption)) rfl rfl rfl ?_))
  all_goals (first | (refine Br.keep ?_) | (refine WL.step (ok_fieldAddr rfl Tryd.underlying42 rfl (fun w => Tryd.sizeOf40 w)) rfl rfl rfl ?_))
  all_goals (first | (refine Br.keep ?_) | (refine WL.step (ok_load (fun w => Tryd.isAgg40 w) rfl (by first | exact hc6.get 3 rfl rfl | assumption | exact cell_blk (by assumption) rfl)) rfl rfl rfl ?_))
  all_goals (first | (refine Br.keep ?_) | (refine WL.step (ok_lenL rfl Tryd.underlying40 rfl) rfl rfl rfl ?_))
  all_goals (first | (refine Br.keep ?_) | (first | (refine WL.step (OkP.bool_t (by omega) (ok_lss rfl rfl)) rfl rfl rfl ?_) | (refine WL.step (OkP.bool_f (by omega) (ok_lss rfl rfl)) rfl rfl rfl ?_) | (refine WL.step (ok_lss rfl rfl) rfl rfl rfl ?_)))
  all_goals (first | (refine Br.keep ?_) | (refine WL.nil ?_))
  all_goals (first | (refine Br.keep ?_) | (repeat' (with_reducible first | refine thenP_n ?_ | refine blockP_n ?_)))
  all_goals (first | (refine Br.keep ?_) | (refine WC.sub [(1, _), (3, _), (4, _), (5, _), (22, _)] ⟨rfl, rfl, rfl, rfl, rfl, trivial⟩ ?_))
  all_goals (first | (refine Br.keep ?_) | (first | refine WC.condB_t 3 rfl ?_ | refine WC.condB_f 4 rfl ?_ | (refine WC.condB 3 4 rfl (fun hb => ?_) (fun hb => ?_) <;> (first | replace hb := of_decide_eq_true hb | replace hb := of_decide_eq_false hb | replace hb := of_decide_eq_false (nt hb) | replace hb := of_decide_eq_true (nf hb) | skip))))
  all_goals (first
    | (fail_if_success (refine Br.mk (i := 3) ?_))
    | (refine Br.mk (i := 3) ?_
       all_goals (refine WC.skip ?_)
       skip))
  all_goals (first
    | (fail_if_success (refine Br.mk (i := 4) ?_))
    | (refine Br.mk (i := 4) ?_
       all_goals (refine WC.exit ?_)
       all_goals (repeat' (with_reducible first | refine thenP_x ?_ | refine blockP_miss rfl ?_ | refine blockP_hit ?_ | refine blockP_n ?_ | refine thenP_n ?_))
       all_goals (refine Br.out (i := 1002) ?_)
       skip))
  all_goals (first | (refine Br.keep ?_) | (repeat' (with_reducible first | refine thenP_n ?_ | refine blockP_n ?_)))
  all_goals (first | (refine Br.keep ?_) | (refine WC.seq ?_))
  all_goals (first | (refine Br.keep ?_) | (refine WC.block ?_))
  all_goals (first | (refine Br.keep ?_) | (refine WC.region ?_))
  all_goals (first
               | (refine Br.keep ?_)
               | (obtain ⟨bM, oM, hB, hbM, hbt⟩ := Rd.at_ (hrt.ext0 hx6) (by omega)
                  obtain ⟨⟨n8, id8⟩, hz⟩ : ∃ y, t[j]? = some y := ⟨_, List.getElem?_eq_getElem (by omega)⟩
                  have hcd : At h6 bM (oM + j * 2) [St n8, In id8] := At.elem nmC_len hbt hz))
  all_goals (first | (refine Br.keep ?_) | (refine WL.step (ok_move rfl) rfl rfl rfl ?_))
  all_goals (first | (refine Br.keep ?_) | (refine WL.step (ok_fieldAddr rfl Tryd.underlying30 rfl (fun w => Tryd.sizeOf25 w)) rfl rfl rfl ?_))
  all_goals (first | (refine Br.keep ?_) | (refine WL.step (ok_load (fun w => Tryd.isAgg25 w) rfl (by first | assumption | exact cell_blk (by assumption) rfl)) rfl rfl rfl ?_))
  all_goals (first | (refine Br.keep ?_) | (refine WL.step (ok_move rfl) rfl rfl rfl ?_))
  all_goals (first | (refine Br.keep ?_) | (refine WL.step (ok_idxAddrA Tryd.underlying25 (fun w => Tryd.sizeOf42 w) rfl rfl rfl (by omega) (by first | rfl | assumption)) rfl rfl rfl ?_))
  all_goals (first | (refine Br.keep ?_) | (refine WL.step (ok_fieldAddr rfl Tryd.underlying42 rfl (fun w => Tryd.sizeOf40 w)) rfl rfl rfl ?_))
  all_goals (first | (refine Br.keep ?_) | (refine WL.step (ok_load (fun w => Tryd.isAgg40 w) rfl (by first | exact hc6.get 3 rfl rfl | assumption | exact cell_blk (by assumption) rfl)) rfl rfl rfl ?_))
  all_goals (first | (refine Br.keep ?_) | (refine WL.step (ok_move rfl) rfl rfl rfl ?_))
  all_goals (first | (refine Br.keep ?_) | (refine WL.step (ok_idxAddrA Tryd.underlying40 (fun w => Tryd.sizeOf110 w) rfl rfl rfl (by omega) (by first | rfl | assumption)) rfl rfl rfl ?_))
  all_goals (first | (refine Br.keep ?_) | (refine WL.step (ok_fieldAddr rfl Tryd.underlying110 rfl (fun w => Tryd.sizeOf3 w)) rfl rfl rfl ?_))
  all_goals (first | (refine Br.keep ?_) | (refine WL.step (ok_load (fun w => Tryd.isAgg3 w) rfl (by first | exact hcd.get 1 rfl rfl | assumption | exact cell_blk (by assumption) rfl)) rfl rfl rfl ?_))
  all_goals (first
               | (refine Br.keep ?_)
               | (refine WL.stepR (okE_buildSlice (vs := [_]) (cs := [_]) (fun | [a0] => [a0] | _ => []) Tryd.underlying28 rfl rfl (by kernel_rfl)) rfl rfl rfl ?_
                  rintro _ h9 ⟨b9, rfl, hg9, hb9, hx9⟩))
  all_goals (first
               | (refine Br.keep ?_)
               | (have hs9 := hx9.size
                  have hs6h := hx6.size))
  all_goals (first
               | (refine Br.keep ?_)
               | (refine WL.stepR (ok_append (sz := 1) (bytes := 8) rfl Tryd.underlying28 (show Tryd.prog.info? 3 = some Tryd.t3 by kernel_rfl) rfl rfl rfl rfl (by decide) rfl rfl (ho6.ext hx9 (fun _ _ => nos)) (rd_blk hb9 rfl) (by simp [Value.oneCell']) (by simp only [maxLen]; omega) (by omega)) rfl rfl rfl ?_
                  rintro v10 h10 ⟨ho10, hx10, hl10⟩))
  all_goals (first
               | (refine Br.keep ?_)
               | (have hX10 : Ext No h h10 := (hx6.trans hx9).trans' hx10 (fun q hq e => by have := hf6 q e; omega)
                  have hb10 : h10[b1]? = h1[b1]? := by rw [hb1]; exact hx10.obj (hx9.obj hb6 nos) (fun e => by have := hf6 _ e; omega)))
  all_goals (first | (refine Br.keep ?_) | (refine WL.step (ok_assign rfl) rfl rfl rfl ?_))
  all_goals (first | (refine Br.keep ?_) | (refine WL.nil ?_))
  all_goals (first | (refine Br.keep ?_) | (repeat' (with_reducible first | refine thenP_n ?_ | refine blockP_n ?_)))
  all_goals (first | (refine Br.keep ?_) | (refine WC.sub [(1, _), (3, _), (4, _), (5, _)] ⟨rfl, rfl, rfl, rfl, trivial⟩ ?_))
  all_goals (first | (refine Br.keep ?_) | (refine WC.region ?_))
  all_goals (first | (refine Br.keep ?_) | (refine WL.step (ok_move rfl) rfl rfl rfl ?_))
  all_goals (first | (refine Br.keep ?_) | (first | (refine WL.step (ok_addI rfl rfl (by omega)) rfl rfl rfl ?_) | (refine WL.step (ok_add rfl rfl) rfl rfl rfl ?_)))
  all_goals (first | (refine Br.keep ?_) | (refine WL.step (ok_assign rfl) rfl rfl rfl ?_))
  all_goals (first | (refine Br.keep ?_) | (refine WL.nil ?_))
  all_goals (first | (refine Br.keep ?_) | (repeat' (with_reducible first | refine thenP_n ?_ | refine blockP_n ?_)))
  all_goals (first | (refine Br.keep ?_) | (exact ⟨(j + 1, _, L6 ++ [id8]), ⟨rfl, rfl, rfl, rfl, trivial⟩, (by exact ⟨hX10, hb10, by simp; omega, by rw [eL6, List.take_add_one, hz]; simp, by simpa using ho10, fresh_of hl10 hf6 (by have := lt_of_some hb6; omega)⟩), (by simp; omega)⟩))
  all_goals (try (refine Br.mk (i := 1002) ?_))
  all_goals (first | (refine Br.keep ?_) | (repeat' (with_reducible first | refine thenP_n ?_ | refine blockP_n ?_)))
  all_goals (first | (refine Br.keep ?_) | (refine WC.region ?_))
  all_goals (first | (refine Br.keep ?_) | (refine WL.step (ok_move rfl) rfl rfl rfl ?_))
  all_goals (first | (refine Br.keep ?_) | (first | (refine WL.step (ok_addI rfl rfl (by omega)) rfl rfl rfl ?_) | (refine WL.step (ok_add rfl rfl) rfl rfl rfl ?_)))
  all_goals (first | (refine Br.keep ?_) | (refine WL.step (ok_assign rfl) rfl rfl rfl ?_))
  all_goals (first | (refine Br.keep ?_) | (refine WL.nil ?_))
  all_goals (first | (refine Br.keep ?_) | (repeat' (with_reducible first | refine thenP_n ?_ | refine blockP_n ?_)))
  all_goals (first | (refine Br.keep ?_) | (exact ⟨(k + 1, _, _), ⟨rfl, rfl, rfl, trivial⟩, (by exact ⟨hx6, by rw [hb1]; exact hb6, by simp; omega, by rw [eL6, idsC_snoc hy, List.take_of_length_le (show t.length ≤ j by omega)], ho6, hf6⟩), (by simp; omega)⟩))
  all_goals (try (refine Br.mk (i := 1000) ?_))
  all_goals (repeat' (with_reducible first | refine thenP_n ?_ | refine blockP_n ?_))
  all_goals (refine WC.seq ?_)
  all_goals (refine WC.seq ?_)
  all_goals (refine WC.region ?_)
  all_goals (rw [List.take_of_length_le (show C.length ≤ k by omega)] at eL2)
  all_goals (refine WL.step (ok_assign rfl) rfl rfl rfl ?_)
  all_goals (refine WL.nil ?_)
  all_goals (repeat' (with_reducible first | refine thenP_n ?_ | refine blockP_n ?_))
  all_goals (refine WC.block ?_)
  -- loop 2: slots that turn [3, 6], that stay [1]
  all_goals (refine WC.loopG (X := Nat × Value × List Int) (fun x => ([(6, In (x.1 : Int)), (3, x.2.1)] : Fr)) [(1, _)] (fun x h' => Ext No h h' ∧ h'[b1]? = h1[b1]? ∧ x.1 ≤ S.length ∧ x.2.2 = idsC C ++ idsS (S.take x.1) ∧ Own h' x.2.1 3 1 x.2.2.length (ints x.2.2) ∧ ∀ k, x.2.1.ownBlock = some k → b1 + 1 ≤ k) (fun x => S.length - x.1) ((0, v2, L2)) ⟨rfl, rfl, rfl, trivial⟩ (by exact ⟨hx2, by rw [hb1]; exact hb2, Nat.zero_le _, by simp [eL2, idsS], ho2, hf2⟩) ?_)
  all_goals (rintro ⟨j, v6, L6⟩ h6 ⟨hx6, hb6, hj, eL6, ho6, hf6⟩
             simp only at hj eL6 ho6 hf6
             rw [hb1] at hb6
             have hl6 : L6.length ≤ 5000 := by have := hidc C.length; rw [List.take_length] at this; have := hids j; have := congrArg List.length eL6; rw [List.length_append] at this; omega
             have hs6h := hx6.size
             have hb6l := lt_of_some hb6)
  all_goals (refine WC.sub [(3, _), (6, _), (1, _)] ⟨rfl, rfl, rfl, trivial⟩ ?_)
  all_goals (dsimp only)
  all_goals (refine WC.seq ?_)
  all_goals (refine WC.seq ?_)
  all_goals (refine WC.region ?_)
  all_goals (refine WL.step (ok_move rfl) rfl rfl rfl ?_)
  all_goals (refine WL.step (ok_fieldAddr rfl Tryd.underlying30 rfl (fun w => Tryd.sizeOf26 w)) rfl rfl rfl ?_)
  all_goals (refine WL.step (ok_load (fun w => Tryd.isAgg26 w) rfl (by first | assumption | exact cell_blk (by assumption) rfl)) rfl rfl rfl ?_)
  all_goals (refine WL.step (ok_lenL rfl Tryd.underlying26 rfl) rfl rfl rfl ?_)
  all_goals (first | (refine WL.step (OkP.bool_t (by omega) (ok_lss rfl rfl)) rfl rfl rfl ?_) | (refine WL.step (OkP.bool_f (by omega) (ok_lss rfl rfl)) rfl rfl rfl ?_) | (refine WL.step (ok_lss rfl rfl) rfl rfl rfl ?_))
  all_goals (refine WL.nil ?_)
  all_goals (repeat' (with_reducible first | refine thenP_n ?_ | refine blockP_n ?_))
  all_goals (refine WC.sub [(1, _), (3, _), (6, _), (42, _)] ⟨rfl, rfl, rfl, rfl, trivial⟩ ?_)
  all_goals (first | refine WC.condB_t 5 rfl ?_ | refine WC.condB_f 6 rfl ?_ | (refine WC.condB 5 6 rfl (fun hb => ?_) (fun hb => ?_) <;> (first | replace hb := of_decide_eq_true hb | replace hb := of_decide_eq_false hb | replace hb := of_decide_eq_false (nt hb) | replace hb := of_decide_eq_true (nf hb) | skip)))
  all_goals (first
    | (fail_if_success (refine Br.mk (i := 5) ?_))
    | (refine Br.mk (i := 5) ?_
       all_goals (refine WC.skip ?_)
       skip))
  all_goals (first
    | (fail_if_success (refine Br.mk (i := 6) ?_))
    | (refine Br.mk (i := 6) ?_
       all_goals (refine WC.exit ?_)
       all_goals (repeat' (with_reducible first | refine thenP_x ?_ | refine blockP_miss rfl ?_ | refine blockP_hit ?_ | refine blockP_n ?_ | refine thenP_n ?_))
       all_goals (refine Br.out (i := 1004) ?_)
       skip))
  all_goals (first | (refine Br.keep ?_) | (repeat' (with_reducible first | refine thenP_n ?_ | refine blockP_n ?_)))
  all_goals (first | (refine Br.keep ?_) | (refine WC.seq ?_))
  all_goals (first | (refine Br.keep ?_) | (refine WC.block ?_))
  all_goals (first | (refine Br.keep ?_) | (refine WC.drawH (fun h' => Ext (fun q => v6.ownBlock = some q) h6 h') 15 16 rfl fol ?_))
  all_goals (first
               | (refine Br.keep ?_)
               | (obtain ⟨bM, oM, hB, hbM, hbt⟩ := Rd.at_ (hs.ext0 hx6) (by omega)
                  obtain ⟨⟨st, hd, qu, ss, vc2, cc, vp2, pp⟩, hz⟩ : ∃ y, S[j]? = some y := ⟨_, List.getElem?_eq_getElem (by omega)⟩
                  have hso0 := hso _ (List.mem_of_getElem? hz)
                  have hfq : cc.length ≤ 60 ∧ pp.length ≤ 60 := f.q _ (List.mem_of_getElem? hz)
                  obtain ⟨At1, ct1, etv, _⟩ := id hso0.c
                  obtain ⟨At2, ct2, etw, _⟩ := id hso0.p
                  simp only at etv etw
                  subst etv etw
                  have hrc : Rd h (.slice At1 cc.length ct1) 1 cc.length (ints cc) := hso0.c
                  have hrp : Rd h (.slice At2 pp.length ct2) 1 pp.length (ints pp) := hso0.p
                  have hcd : At h6 bM (oM + j * 6) [In st, In hd, In qu, By ss, .slice At1 cc.length ct1, .slice At2 pp.length ct2] := At.elem SV.len hbt hz
                  have hbMh : bM < h.size := by obtain ⟨bM', oM', hB', hbM', _⟩ := Rd.at_ hs (by omega); rw [hB] at hB'; simp only [Option.some.injEq, Addr.mk.injEq] at hB'; omega
                  have hn1 : v6.ownBlock ≠ some b1 := fun e => by have := hf6 _ e; omega
                  have hn2 : v6.ownBlock ≠ some bM := fun e => by have := hf6 _ e; omega))
  all_goals (first | (refine Br.keep ?_) | (refine WH.take 0 rfl (by kernel_rfl) (by kernel_rfl) (by kernel_rfl) (by kernel_rfl) rfl (by first | exact Ext.refl _ _ | assumption) (fun hq hC => ok_move rfl) rfl rfl rfl ?_))
  all_goals (first | (refine Br.keep ?_) | (refine WH.take 1 rfl (by kernel_rfl) (by kernel_rfl) (by kernel_rfl) (by kernel_rfl) rfl (by first | exact Ext.refl _ _ | assumption) (fun hq hC => ok_fieldAddr rfl Tryd.underlying30 rfl (fun w => Tryd.sizeOf26 w)) rfl rfl rfl ?_))
  all_goals (first | (refine Br.keep ?_) | (refine WH.take 2 rfl (by kernel_rfl) (by kernel_rfl) (by kernel_rfl) (by kernel_rfl) rfl (by first | exact Ext.refl _ _ | assumption) (fun hq hC => ok_load (fun w => Tryd.isAgg26 w) rfl (by first | exact hC.cell (by first | assumption | assumption | exact cell_blk (by assumption) rfl) (fun e => by first | exact hn1 e | exact hn2 e))) rfl rfl rfl ?_))
  all_goals (first | (refine Br.keep ?_) | (refine WH.take 3 rfl (by kernel_rfl) (by kernel_rfl) (by kernel_rfl) (by kernel_rfl) rfl (by first | exact Ext.refl _ _ | assumption) (fun hq hC => ok_move rfl) rfl rfl rfl ?_))
  all_goals (first | (refine Br.keep ?_) | (refine WH.take 4 rfl (by kernel_rfl) (by kernel_rfl) (by kernel_rfl) (by kernel_rfl) rfl (by first | exact Ext.refl _ _ | assumption) (fun hq hC => ok_idxAddrA Tryd.underlying26 (fun w => Tryd.sizeOf32 w) rfl rfl rfl (by omega) (by first | rfl | assumption)) rfl rfl rfl ?_))
  all_goals (first | (refine Br.keep ?_) | (refine WH.take 5 rfl (by kernel_rfl) (by kernel_rfl) (by kernel_rfl) (by kernel_rfl) rfl (by first | exact Ext.refl _ _ | assumption) (fun hq hC => ok_fieldAddr rfl Tryd.underlying32 rfl (fun w => Tryd.sizeOf28 w)) rfl rfl rfl ?_))
  all_goals (first | (refine Br.keep ?_) | (refine WH.take 6 rfl (by kernel_rfl) (by kernel_rfl) (by kernel_rfl) (by kernel_rfl) rfl (by first | exact Ext.refl _ _ | assumption) (fun hq hC => ok_load (fun w => Tryd.isAgg28 w) rfl (by first | exact hC.cell (by first | exact hcd.get 4 rfl rfl | assumption | exact cell_blk (by assumption) rfl) (fun e => by first | exact hn1 e | exact hn2 e))) rfl rfl rfl ?_))
  all_goals (first | (refine Br.keep ?_) | (refine WH.take 8 rfl (by kernel_rfl) (by kernel_rfl) (by kernel_rfl) (by kernel_rfl) rfl (by first | exact Ext.refl _ _ | assumption) (fun hq hC => ok_fieldAddr rfl Tryd.underlying30 rfl (fun w => Tryd.sizeOf26 w)) rfl rfl rfl ?_))
  all_goals (first | (refine Br.keep ?_) | (refine WH.take 9 rfl (by kernel_rfl) (by kernel_rfl) (by kernel_rfl) (by kernel_rfl) rfl (by first | exact Ext.refl _ _ | assumption) (fun hq hC => ok_load (fun w => Tryd.isAgg26 w) rfl (by first | exact hC.cell (by first | assumption | assumption | exact cell_blk (by assumption) rfl) (fun e => by first | exact hn1 e | exact hn2 e))) rfl rfl rfl ?_))
  all_goals (first | (refine Br.keep ?_) | (refine WH.take 10 rfl (by kernel_rfl) (by kernel_rfl) (by kernel_rfl) (by kernel_rfl) rfl (by first | exact Ext.refl _ _ | assumption) (fun hq hC => ok_move rfl) rfl rfl rfl ?_))
  all_goals (first | (refine Br.keep ?_) | (refine WH.take 11 rfl (by kernel_rfl) (by kernel_rfl) (by kernel_rfl) (by kernel_rfl) rfl (by first | exact Ext.refl _ _ | assumption) (fun hq hC => ok_idxAddrA Tryd.underlying26 (fun w => Tryd.sizeOf32 w) rfl rfl rfl (by omega) (by first | rfl | assumption)) rfl rfl rfl ?_))
  all_goals (first | (refine Br.keep ?_) | (refine WH.take 12 rfl (by kernel_rfl) (by kernel_rfl) (by kernel_rfl) (by kernel_rfl) rfl (by first | exact Ext.refl _ _ | assumption) (fun hq hC => ok_fieldAddr rfl Tryd.underlying32 rfl (fun w => Tryd.sizeOf28 w)) rfl rfl rfl ?_))
  all_goals (first | (refine Br.keep ?_) | (refine WH.take 13 rfl (by kernel_rfl) (by kernel_rfl) (by kernel_rfl) (by kernel_rfl) rfl (by first | exact Ext.refl _ _ | assumption) (fun hq hC => ok_load (fun w => Tryd.isAgg28 w) rfl (by first | exact hC.cell (by first | exact hcd.get 5 rfl rfl | assumption | exact cell_blk (by assumption) rfl) (fun e => by first | exact hn1 e | exact hn2 e))) rfl rfl rfl ?_))
  all_goals (first | (refine Br.keep ?_) | (refine WH.one 7 (by kernel_rfl) ?_))
  all_goals (first
               | (refine Br.keep ?_)
               | (refine Comes1.run rfl (ok_append (sz := 1) (bytes := 8) rfl Tryd.underlying28 (show Tryd.prog.info? 3 = some Tryd.t3 by kernel_rfl) rfl rfl rfl rfl (by decide) rfl rfl ho6 (hrc.ext0 hx6) (one_ints _) (by simp only [maxLen]; omega) (by omega)) rfl rfl rfl ?_ (fun _ => by kernel_rfl)
                  rintro v9 h9 ⟨ho9, hx9, hl9⟩))
  all_goals (first | (refine Br.keep ?_) | (refine ⟨fun _ => hx9, ?_⟩))
  all_goals (first
               | (refine Br.keep ?_)
               | (have hX9 : Ext No h h9 := hx6.trans' hx9 (fun q hq e => by have := hf6 q e; omega)
                  have hf9 : ∀ k, v9.ownBlock = some k → b1 + 1 ≤ k := fresh_of hl9 hf6 (by omega)
                  have hs9 := hx9.size))
  all_goals (first | (refine Br.keep ?_) | (refine WH.one 14 (by kernel_rfl) ?_))
  all_goals (first
               | (refine Br.keep ?_)
               | (refine Comes1.run rfl (ok_append (sz := 1) (bytes := 8) rfl Tryd.underlying28 (show Tryd.prog.info? 3 = some Tryd.t3 by kernel_rfl) rfl rfl rfl rfl (by decide) rfl rfl ho9 (hrp.ext0 hX9) (one_ints _) (by simp only [maxLen]; omega) (by omega)) rfl rfl rfl ?_ (fun _ => by kernel_rfl)
                  rintro v10 h10 ⟨ho10, hx10, hl10⟩))
  all_goals (first | (refine Br.keep ?_) | (refine ⟨fun _ => hx9.trans' hx10 (fun q hq e => by rcases hl9 with e2 | e2; exact e2 ▸ e; rw [e2] at e; injection e with e; omega), ?_⟩))
  all_goals (first
               | (refine Br.keep ?_)
               | (have hX10 : Ext No h h10 := hX9.trans' hx10 (fun q hq e => by have := hf9 q e; omega)
                  have hb10 : h10[b1]? = h1[b1]? := by rw [hb1]; exact hx10.obj (hx9.obj hb6 hn1) (fun e => by have := hf9 _ e; omega)))
  all_goals (first | (refine Br.keep ?_) | (refine WH.one 15 (by kernel_rfl) ?_))
  all_goals (first
               | (refine Br.keep ?_)
               | (refine Comes1.run rfl (OkP.r (ok_assign rfl)) rfl rfl rfl ?_ (fun _ => by kernel_rfl)
                  rintro _ hz ⟨rfl, _⟩
                  subst hz))
  all_goals (first | (refine Br.keep ?_) | (refine ⟨fun e => (by cases e), ?_⟩))
  all_goals (first | (refine Br.keep ?_) | (refine WH.done (by kernel_rfl) ?_))
  all_goals (first | (refine Br.keep ?_) | (repeat' (with_reducible first | refine thenP_n ?_ | refine blockP_n ?_)))
  all_goals (first | (refine Br.keep ?_) | (refine WC.sub [(1, _), (3, _), (6, _)] ⟨rfl, rfl, rfl, trivial⟩ ?_))
  all_goals (first | (refine Br.keep ?_) | (refine WC.region ?_))
  all_goals (first | (refine Br.keep ?_) | (refine WL.step (ok_move rfl) rfl rfl rfl ?_))
  all_goals (first | (refine Br.keep ?_) | (first | (refine WL.step (ok_addI rfl rfl (by omega)) rfl rfl rfl ?_) | (refine WL.step (ok_add rfl rfl) rfl rfl rfl ?_)))
  all_goals (first | (refine Br.keep ?_) | (refine WL.step (ok_assign rfl) rfl rfl rfl ?_))
  all_goals (first | (refine Br.keep ?_) | (refine WL.nil ?_))
  all_goals (first | (refine Br.keep ?_) | (repeat' (with_reducible first | refine thenP_n ?_ | refine blockP_n ?_)))
  all_goals (first | (refine Br.keep ?_) | (exact ⟨(j + 1, _, (L6 ++ cc) ++ pp), ⟨rfl, rfl, rfl, trivial⟩, (by exact ⟨hX10, hb10, by simp; omega, by rw [eL6, idsS_snoc hz]; simp, by simpa [Nat.add_assoc] using ho10, fresh_of hl10 hf9 (by omega)⟩), (by simp; omega)⟩))
  all_goals (try (refine Br.mk (i := 1004) ?_))
  all_goals (repeat' (with_reducible first | refine thenP_n ?_ | refine blockP_n ?_))
  all_goals (refine WC.seq ?_)
  all_goals (refine WC.region ?_)
  all_goals (refine WL.step (ok_move rfl) rfl rfl rfl ?_)
  all_goals (refine WL.step (ok_assign rfl) rfl rfl rfl ?_)
  all_goals (refine WL.nil ?_)
  all_goals (repeat' (with_reducible first | refine thenP_n ?_ | refine blockP_n ?_))
  all_goals (refine WC.sub [(2, _)] ⟨rfl, trivial⟩ ?_)
  all_goals (refine WC.ret ?_)
  all_goals (repeat' (with_reducible first | refine thenP_r ?_ | refine blockP_r ?_))
  all_goals (refine retP_1 _ ⟨rfl, trivial⟩ ?_)
  all_goals (rw [List.take_of_length_le (show S.length ≤ j by omega)] at eL6
             subst eL6
             exact ⟨ho6, hx6, fun q hq => by have := hf6 q hq; omega⟩)
end Go.Proofs.YtanbpffpllgekaaDoor

/-
  VIEW: how often each stands there: as a map, and by counting.
-/
namespace Go.Proofs.YtanbpffpllgekaaDoor
open Go Go.RK

def tallyL (l : List Int) : List (Int × Int) := l.foldl (fun C n => putK C n ((getK C n).getD 0 + 1)) []
theorem tally_snoc {l : List Int} {k : Nat} {x : Int} (h : l[k]? = some x) : tallyL (l.take (k + 1)) = putK (tallyL (l.take k)) x ((getK (tallyL (l.take k)) x).getD 0 + 1) := by
  unfold tallyL
  rw [List.take_add_one, h, List.foldl_append]
  rfl
theorem count_snoc {l : List Int} {k : Nat} {x : Int} (h : l[k]? = some x) (n : Int) : ((l.take (k + 1)).count n : Int) = (l.take k).count n + if x = n then 1 else 0 := by
  rw [List.take_add_one, h, List.count_append]
  by_cases e : x = n <;> simp [e]
theorem tally_spec (l : List Int) : ∀ k, ((tallyL (l.take k)).map (·.1)).Nodup ∧ ∀ n, getK (tallyL (l.take k)) n = if n ∈ l.take k then some ((l.take k).count n : Int) else none := by
  intro k
  induction k with
  | zero => exact ⟨by simp [tallyL], fun n => by simp [tallyL, getK_nil]⟩
  | succ k ih =>
    rcases h : l[k]? with _ | x
    · rw [List.take_of_length_le (by have := List.getElem?_eq_none_iff.1 h; omega)] at ih ⊢
      exact ih
    · obtain ⟨hnd, hg⟩ := ih
      rw [tally_snoc h]
      refine ⟨putK_nd hnd _ _, fun n => ?_⟩
      rw [getK_put hnd, hg, hg]
      have hc := count_snoc h n
      have hm : n ∈ l.take (k + 1) ↔ n ∈ l.take k ∨ n = x := by rw [List.take_add_one, h]; simp
      by_cases e : n = x
      · subst e
        rw [if_pos rfl, if_pos (hm.2 (.inr rfl))]
        rw [if_pos rfl] at hc
        rw [hc]
        by_cases hi : n ∈ l.take k
        · rw [if_pos hi]; rfl
        · rw [if_neg hi, List.count_eq_zero_of_not_mem hi]; rfl
      · rw [if_neg e]
        rw [if_neg (fun e' => e e'.symm)] at hc
        by_cases hi : n ∈ l.take k
        · rw [if_pos hi, if_pos (hm.2 (.inl hi)), hc, Int.add_zero]
        · rw [if_neg hi, if_neg (fun h' => by rcases hm.1 h' with h' | h'; exact hi h'; exact e h')]
theorem tally_nd (l : List Int) : ((tallyL l).map (·.1)).Nodup := by
  have := (tally_spec l l.length).1
  rwa [List.take_length] at this
theorem tally_get (l : List Int) (n : Int) : getK (tallyL l) n = if n ∈ l then some (l.count n : Int) else none := by
  have := (tally_spec l l.length).2 n
  rwa [List.take_length] at this
theorem tally_at (l : List Int) (n : Int) : (getK (tallyL l) n).getD 0 = l.count n := by
  rw [tally_get]
  by_cases h : n ∈ l
  · rw [if_pos h]; rfl
  · rw [if_neg h, List.count_eq_zero_of_not_mem h]; rfl
theorem count_len (l : List Int) (n : Int) : (l.count n : Int) ≤ l.length := by
  have := List.count_le_length (a := n) (l := l)
  omega
theorem idsV_len {V : VW} (f : Few V) : (idsV V).length ≤ 4000 := by
  have h1 := idsC_len f V.c.length
  have h2 := idsS_len f V.s.length
  rw [List.take_length] at h1 h2
  unfold idsV
  rw [List.length_append]
  omega
theorem tally_le (l : List Int) : (tallyL l).length ≤ l.length := by
  have key : ∀ k, (tallyL (l.take k)).length ≤ k := by
    intro k
    induction k with
    | zero => simp [tallyL]
    | succ k ih =>
      rcases h : l[k]? with _ | x
      · rw [List.take_of_length_le (by have := List.getElem?_eq_none_iff.1 h; omega)] at ih ⊢
        omega
      · rw [tally_snoc h]
        have : (putK (tallyL (l.take k)) x ((getK (tallyL (l.take k)) x).getD 0 + 1)).length ≤ (tallyL (l.take k)).length + 1 := by
          unfold putK
          split <;> simp
        omega
  have := key l.length
  rwa [List.take_length] at this
/-- A new map of how often. -/
def NewT (h : Heap) (u : Value) (l : List Int) (h' : Heap) : Prop := ∃ m, u = .map (some m) ∧ Mp (.int .i64) In h' m (encK In (tallyL l)) ∧ Ext No h h' ∧ h.size ≤ m
set_option maxHeartbeats 1000000 in
set_option maxRecDepth 100000 in
theorem tally_v {h : Heap} (V : VW) (ok : V.ok h) (f : Few V) : CallsH Tryd.prog 29 ⟨[.agg ⟨V.cells⟩]⟩ h fun u h' => NewT h u (idsV V) h' := by
  have hlen := idsV_len f
  have hcells : VW.cells V = VW.cells V := rfl
  obtain ⟨A1, c1, A2, c2, A3, c3, A4, c4, e1, e2, e3, e4⟩ := ok.slices
  have hV := ids_v V ok f
  have hok := ok
  have hids : ∀ h', Ext No h h' → CallsH Tryd.prog 50 ⟨[.agg ⟨V.cells⟩]⟩ h' fun u h'' => Own h'' u 3 1 (idsV V).length (ints (idsV V)) ∧ Ext No h' h'' ∧ ∀ k, u.ownBlock = some k → h'.size ≤ k := fun h' hx => ids_v V (ok.ext0 hx) f
  unfold VW.cells at hids ⊢
  rw [e1, e2, e3, e4] at hids ⊢
  refine calls [(0, _)] Tryd.func29 rfl Tryd.ntmps29 rfl ⟨rfl, trivial⟩ ?_
  all_goals (refine WC.seq ?_)
  all_goals (refine WC.region ?_)
  all_goals (refine WL.stepR (okE_box rfl) rfl rfl rfl ?_
             rintro _ h1 ⟨b1, rfl, hg1, hb1, hx1⟩)
  all_goals (refine WL.step (ok_assign rfl) rfl rfl rfl ?_)
  all_goals (refine WL.nil ?_)
  all_goals (repeat' (with_reducible first | refine thenP_n ?_ | refine blockP_n ?_))
  all_goals (refine WC.seq ?_)
  all_goals (refine WC.region ?_)
  all_goals (refine WL.stepR okE_makeMap rfl rfl rfl ?_
             rintro _ h2 ⟨m2, rfl, hg2, hm2, hx2⟩)
  all_goals (have hM2 : Mp (.int .i64) In h2 m2 (encK In []) := ⟨_, _, hm2, MapKept.stamped_empty 0, rfl⟩
             have hX2 := hx1.trans hx2)
  all_goals (refine WL.step (ok_assign rfl) rfl rfl rfl ?_)
  all_goals (refine WL.nil ?_)
  all_goals (repeat' (with_reducible first | refine thenP_n ?_ | refine blockP_n ?_))
  all_goals (refine WC.seq ?_)
  all_goals (refine WC.seq ?_)
  all_goals (refine WC.region ?_)
  all_goals (refine WL.step (ok_loadN (fun w => Tryd.isAgg30 w) (fun w => Tryd.sizeOf30 w) rfl rfl (by exact At.of_block (hx2.obj hb1 nos))) rfl rfl rfl ?_)
  all_goals (refine WL.call (vs := [_]) rfl (fun a w => Tryd.call50 a w) rfl (hids _ hX2) rfl rfl rfl ?_
             rintro v3 h3 ⟨ho3, hx3, hf3⟩)
  all_goals (obtain ⟨A, c, rfl, _⟩ := ho3.slice
             have hX3 := hX2.trans hx3
             have hM3 := hM2.ext hx3 nos
             have hmf := hM2.lt
             have hs1 := hx1.size)
  all_goals (refine WL.step (ok_lenL rfl Tryd.underlying28 rfl) rfl rfl rfl ?_)
  all_goals (refine WL.step (ok_move rfl) rfl rfl rfl ?_)
  all_goals (refine WL.nil ?_)
  all_goals (repeat' (with_reducible first | refine thenP_n ?_ | refine blockP_n ?_))
  all_goals (refine WC.sub [(3, _), (8, _), (9, _), (10, _)] ⟨rfl, rfl, rfl, rfl, trivial⟩ ?_)
  all_goals (refine WC.block ?_)
  -- loop 0: slots that turn [10], that stay [3, 8, 9]
  all_goals (refine WC.loopG (X := Nat) (fun x => ([(10, In (x : Int))] : Fr)) [(3, _), (8, _), (9, _)] (fun k h' => k ≤ (idsV V).length ∧ Mp (.int .i64) In h' m2 (encK In (tallyL ((idsV V).take k))) ∧ Ext (fun q => q = m2) h3 h') (fun k => (idsV V).length - k) (0) ⟨rfl, rfl, rfl, rfl, trivial⟩ (by exact ⟨Nat.zero_le _, by simpa [tallyL] using hM3, .refl _ _⟩) ?_)
  all_goals (rintro k h4 ⟨hk, hM4, hx4⟩)
  all_goals (refine WC.sub [(10, _), (3, _), (8, _), (9, _)] ⟨rfl, rfl, rfl, rfl, trivial⟩ ?_)
  all_goals (refine WC.seq ?_)
  all_goals (refine WC.region ?_)
  all_goals (first | (refine WL.step (OkP.bool_t (by omega) (ok_lss rfl rfl)) rfl rfl rfl ?_) | (refine WL.step (OkP.bool_f (by omega) (ok_lss rfl rfl)) rfl rfl rfl ?_) | (refine WL.step (ok_lss rfl rfl) rfl rfl rfl ?_))
  all_goals (refine WL.nil ?_)
  all_goals (repeat' (with_reducible first | refine thenP_n ?_ | refine blockP_n ?_))
  all_goals (refine WC.seq ?_)
  all_goals (first | refine WC.condB_t 1 rfl ?_ | refine WC.condB_f 2 rfl ?_ | (refine WC.condB 1 2 rfl (fun hb => ?_) (fun hb => ?_) <;> (first | replace hb := of_decide_eq_true hb | replace hb := of_decide_eq_false hb | replace hb := of_decide_eq_false (nt hb) | replace hb := of_decide_eq_true (nf hb) | skip)))
  all_goals (first
    | (fail_if_success (refine Br.mk (i := 1) ?_))
    | (refine Br.mk (i := 1) ?_
       all_goals (refine WC.skip ?_)
       skip))
  all_goals (first
    | (fail_if_success (refine Br.mk (i := 2) ?_))
    | (refine Br.mk (i := 2) ?_
       all_goals (refine WC.exit ?_)
       all_goals (repeat' (with_reducible first | refine thenP_x ?_ | refine blockP_miss rfl ?_ | refine blockP_hit ?_ | refine blockP_n ?_ | refine thenP_n ?_))
       all_goals (refine Br.out (i := 1000) ?_)
       skip))
  all_goals (first | (refine Br.keep ?_) | (repeat' (with_reducible first | refine thenP_n ?_ | refine blockP_n ?_)))
  all_goals (first | (refine Br.keep ?_) | (refine WC.seq ?_))
  all_goals (first | (refine Br.keep ?_) | (refine WC.block ?_))
  all_goals (first | (refine Br.keep ?_) | (refine WC.seq ?_))
  all_goals (first | (refine Br.keep ?_) | (refine WC.region ?_))
  all_goals (first
               | (refine Br.keep ?_)
               | (have hr4 : Rd h4 (.slice A (idsV V).length c) 1 (idsV V).length (ints (idsV V)) := ho3.rd.ext' hx4 (fun b _ e e' => by have := hf3 _ e; omega)
                  obtain ⟨bL, oL, hA, hbL, hat⟩ := Rd.at_ hr4 (by omega)
                  obtain ⟨y, hy⟩ : ∃ y, (idsV V)[k]? = some y := ⟨_, List.getElem?_eq_getElem (by omega)⟩
                  have hc := hat.get (p := oL + k * 1) k (get_int hy) (by omega)
                  have hl := alook_encK In (tallyL ((idsV V).take k)) y
                  have htk := tally_at ((idsV V).take k) y
                  have hcl := count_len ((idsV V).take k) y
                  have htl : (((idsV V).take k).length : Int) ≤ 4000 := by rw [List.length_take]; omega
                  have hsn := tally_snoc hy
                  rcases hg : getK (tallyL ((idsV V).take k)) y with _ | w
                  all_goals (rw [hg] at hl htk hsn; simp only [Option.map_none, Option.map_some, Option.getD_none, Option.getD_some] at hl htk hsn)))
  all_goals (first | (refine Br.keep ?_) | (refine WL.step (ok_idxAddrA Tryd.underlying28 (fun w => Tryd.sizeOf3 w) rfl rfl rfl (by omega) (by first | rfl | assumption)) rfl rfl rfl ?_))
  all_goals (first | (refine Br.keep ?_) | (refine WL.step (ok_load (fun w => Tryd.isAgg3 w) rfl (by first | assumption | exact cell_blk (by assumption) rfl)) rfl rfl rfl ?_))
  all_goals (first | (refine Br.keep ?_) | (refine WL.step (ok_assign rfl) rfl rfl rfl ?_))
  all_goals (first | (refine Br.keep ?_) | (refine WL.nil ?_))
  all_goals (first | (refine Br.keep ?_) | (repeat' (with_reducible first | refine thenP_n ?_ | refine blockP_n ?_)))
  all_goals (first | (refine Br.keep ?_) | (refine WC.region ?_))
  all_goals (first | (refine Br.keep ?_) | (refine WL.step (ok_move rfl) rfl rfl rfl ?_))
  all_goals (first | (refine Br.keep ?_) | (refine WL.step (ok_move rfl) rfl rfl rfl ?_))
  all_goals (first | (refine Br.keep ?_) | (first | (refine WL.step ((ok_lookup keyI Tryd.underlying61 Tryd.underlying3 rfl rfl (by assumption) (by assumption)).2) rfl rfl rfl ?_) | (refine WL.step ((ok_lookup_no keyI Tryd.underlying61 Tryd.underlying3 (fun w => Tryd.zeroValue3 w) rfl rfl (by assumption) (by assumption)).2) rfl rfl rfl ?_) | (refine WL.step ((ok_lookup_nil keyI Tryd.underlying61 Tryd.underlying3 (fun w => Tryd.zeroValue3 w) rfl rfl).2) rfl rfl rfl ?_)))
  all_goals (first | (refine Br.keep ?_) | (first | (refine WL.step (ok_addI rfl rfl (by omega)) rfl rfl rfl ?_) | (refine WL.step (ok_add rfl rfl) rfl rfl rfl ?_)))
  all_goals (first
               | (refine Br.keep ?_)
               | (refine WL.stepR0 (ok_mapUpdate keyI Tryd.underlying61 Tryd.underlying3 rfl rfl rfl (by assumption)) rfl rfl ?_
                  rintro _ h5 ⟨hM5, hx5⟩))
  all_goals (first | (refine Br.keep ?_) | (rw [aput_encK] at hM5))
  all_goals (first | (refine Br.keep ?_) | (refine WL.nil ?_))
  all_goals (first | (refine Br.keep ?_) | (repeat' (with_reducible first | refine thenP_n ?_ | refine blockP_n ?_)))
  all_goals (first | (refine Br.keep ?_) | (refine WC.sub [(3, _), (8, _), (9, _), (10, _)] ⟨rfl, rfl, rfl, rfl, trivial⟩ ?_))
  all_goals (first | (refine Br.keep ?_) | (refine WC.region ?_))
  all_goals (first | (refine Br.keep ?_) | (first | (refine WL.step (ok_addI rfl rfl (by omega)) rfl rfl rfl ?_) | (refine WL.step (ok_add rfl rfl) rfl rfl rfl ?_)))
  all_goals (first | (refine Br.keep ?_) | (refine WL.step (ok_move rfl) rfl rfl rfl ?_))
  all_goals (first | (refine Br.keep ?_) | (refine WL.nil ?_))
  all_goals (first | (refine Br.keep ?_) | (repeat' (with_reducible first | refine thenP_n ?_ | refine blockP_n ?_)))
  all_goals (first | (refine Br.keep ?_) | (exact ⟨k + 1, ⟨rfl, rfl, rfl, rfl, trivial⟩, (by exact ⟨by omega, by rw [hsn]; exact hM5, hx4.trans hx5⟩), (by omega)⟩))
  all_goals (try (refine Br.mk (i := 1000) ?_))
  all_goals (repeat' (with_reducible first | refine thenP_n ?_ | refine blockP_n ?_))
  all_goals (refine WC.sub [(3, _)] ⟨rfl, trivial⟩ ?_)
  all_goals (refine WC.seq ?_)
  all_goals (refine WC.region ?_)
  all_goals (refine WL.step (ok_move rfl) rfl rfl rfl ?_)
  all_goals (refine WL.step (ok_assign rfl) rfl rfl rfl ?_)
  all_goals (refine WL.nil ?_)
  all_goals (repeat' (with_reducible first | refine thenP_n ?_ | refine blockP_n ?_))
  all_goals (refine WC.ret ?_)
  all_goals (repeat' (with_reducible first | refine thenP_r ?_ | refine blockP_r ?_))
  all_goals (refine retP_1 _ ⟨rfl, trivial⟩ ?_)
  all_goals (rw [List.take_of_length_le (show (idsV V).length ≤ k by omega)] at hM4
             exact ⟨m2, rfl, hM4, hX3.trans' hx4 (fun q hq e => by omega), by omega⟩)
set_option maxRecDepth 100000 in
theorem count46 {h : Heap} {v : Value} (l : List Int) (n : Int) (hr : Rd h v 1 l.length (ints l)) (hm : l.length ≤ 1000000) : CallsH Tryd.prog 49 ⟨[v, In n]⟩ h fun u h' => u = In (l.count n) ∧ h' = h := by
  obtain ⟨A, c, rfl, _⟩ := id hr
  refine calls [(0, _), (1, _)] Tryd.func49 rfl Tryd.ntmps49 rfl ⟨rfl, rfl, trivial⟩ ?_
  all_goals (refine WC.seq ?_)
  all_goals (refine WC.region ?_)
  all_goals (refine WL.step (ok_assign rfl) rfl rfl rfl ?_)
  all_goals (refine WL.nil ?_)
  all_goals (repeat' (with_reducible first | refine thenP_n ?_ | refine blockP_n ?_))
  all_goals (refine WC.seq ?_)
  all_goals (refine WC.region ?_)
  all_goals (refine WL.step (ok_assign rfl) rfl rfl rfl ?_)
  all_goals (refine WL.nil ?_)
  all_goals (repeat' (with_reducible first | refine thenP_n ?_ | refine blockP_n ?_))
  all_goals (refine WC.seq ?_)
  all_goals (refine WC.seq ?_)
  all_goals (refine WC.region ?_)
  all_goals (refine WL.step (ok_assign rfl) rfl rfl rfl ?_)
  all_goals (refine WL.nil ?_)
  all_goals (repeat' (with_reducible first | refine thenP_n ?_ | refine blockP_n ?_))
  all_goals (refine WC.block ?_)
  -- loop 0: slots that turn [5, 6], that stay [0, 1]
  all_goals (refine WC.loopG (X := Nat × Int) (fun x => ([(6, In (x.1 : Int)), (5, In x.2)] : Fr)) [(0, _), (1, _)] (fun x h' => h' = h ∧ x.1 ≤ l.length ∧ x.2 = ((l.take x.1).count n : Int)) (fun x => l.length - x.1) ((0, 0)) ⟨rfl, rfl, rfl, rfl, trivial⟩ (by exact ⟨rfl, Nat.zero_le _, by simp⟩) ?_)
  all_goals (rintro ⟨k, q⟩ h9 ⟨hz, hk, hq⟩
             subst hz
             simp only at hk hq
             have hcl := count_len (l.take k) n
             have htl : ((l.take k).length : Int) ≤ 1000000 := by rw [List.length_take]; omega)
  all_goals (refine WC.sub [(5, _), (6, _), (0, _), (1, _)] ⟨rfl, rfl, rfl, rfl, trivial⟩ ?_)
  all_goals (dsimp only)
  all_goals (refine WC.seq ?_)
  all_goals (refine WC.seq ?_)
  all_goals (refine WC.region ?_)
  all_goals (refine WL.step (ok_move rfl) rfl rfl rfl ?_)
  all_goals (refine WL.step (ok_move rfl) rfl rfl rfl ?_)
  all_goals (refine WL.step (ok_lenL rfl Tryd.underlying28 rfl) rfl rfl rfl ?_)
  all_goals (first | (refine WL.step (OkP.bool_t (by omega) (ok_lss rfl rfl)) rfl rfl rfl ?_) | (refine WL.step (OkP.bool_f (by omega) (ok_lss rfl rfl)) rfl rfl rfl ?_) | (refine WL.step (ok_lss rfl rfl) rfl rfl rfl ?_))
  all_goals (refine WL.nil ?_)
  all_goals (repeat' (with_reducible first | refine thenP_n ?_ | refine blockP_n ?_))
  all_goals (first | refine WC.condB_t 1 rfl ?_ | refine WC.condB_f 2 rfl ?_ | (refine WC.condB 1 2 rfl (fun hb => ?_) (fun hb => ?_) <;> (first | replace hb := of_decide_eq_true hb | replace hb := of_decide_eq_false hb | replace hb := of_decide_eq_false (nt hb) | replace hb := of_decide_eq_true (nf hb) | skip)))
  all_goals (first
    | (fail_if_success (refine Br.mk (i := 1) ?_))
    | (refine Br.mk (i := 1) ?_
       all_goals (refine WC.skip ?_)
       skip))
  all_goals (first
    | (fail_if_success (refine Br.mk (i := 2) ?_))
    | (refine Br.mk (i := 2) ?_
       all_goals (refine WC.exit ?_)
       all_goals (repeat' (with_reducible first | refine thenP_x ?_ | refine blockP_miss rfl ?_ | refine blockP_hit ?_ | refine blockP_n ?_ | refine thenP_n ?_))
       all_goals (refine Br.out (i := 1000) ?_)
       skip))
  all_goals (first | (refine Br.keep ?_) | (repeat' (with_reducible first | refine thenP_n ?_ | refine blockP_n ?_)))
  all_goals (first | (refine Br.keep ?_) | (refine WC.sub [(0, _), (1, _), (5, _), (6, _)] ⟨rfl, rfl, rfl, rfl, trivial⟩ ?_))
  all_goals (first | (refine Br.keep ?_) | (refine WC.seq ?_))
  all_goals (first | (refine Br.keep ?_) | (refine WC.block ?_))
  all_goals (first | (refine Br.keep ?_) | (refine WC.seq ?_))
  all_goals (first | (refine Br.keep ?_) | (refine WC.region ?_))
  all_goals (first
               | (refine Br.keep ?_)
               | (obtain ⟨bL, oL, hA, hbL, hat⟩ := Rd.at_ hr (by omega)
                  obtain ⟨y, hy⟩ : ∃ y, l[k]? = some y := ⟨_, List.getElem?_eq_getElem (by omega)⟩
                  have hc := hat.get (p := oL + k * 1) k (get_int hy) (by omega)
                  have hsn := count_snoc hy n))
  all_goals (first | (refine Br.keep ?_) | (refine WL.step (ok_move rfl) rfl rfl rfl ?_))
  all_goals (first | (refine Br.keep ?_) | (refine WL.step (ok_move rfl) rfl rfl rfl ?_))
  all_goals (first | (refine Br.keep ?_) | (refine WL.step (ok_idxAddrA Tryd.underlying28 (fun w => Tryd.sizeOf3 w) rfl rfl rfl (by omega) (by first | rfl | assumption)) rfl rfl rfl ?_))
  all_goals (first | (refine Br.keep ?_) | (refine WL.step (ok_load (fun w => Tryd.isAgg3 w) rfl (by first | assumption | exact cell_blk (by assumption) rfl)) rfl rfl rfl ?_))
  all_goals (first | (refine Br.keep ?_) | (refine WL.step (ok_move rfl) rfl rfl rfl ?_))
  all_goals (first | (refine Br.keep ?_) | (first | (refine WL.step (OkP.bool_t (by omega) (ok_eql rfl rfl)) rfl rfl rfl ?_) | (refine WL.step (OkP.bool_f (by omega) (ok_eql rfl rfl)) rfl rfl rfl ?_) | (refine WL.step (ok_eql rfl rfl) rfl rfl rfl ?_)))
  all_goals (first | (refine Br.keep ?_) | (refine WL.nil ?_))
  all_goals (first | (refine Br.keep ?_) | (repeat' (with_reducible first | refine thenP_n ?_ | refine blockP_n ?_)))
  all_goals (first | (refine Br.keep ?_) | (refine WC.sub [(0, _), (1, _), (5, _), (6, _), (18, _)] ⟨rfl, rfl, rfl, rfl, rfl, trivial⟩ ?_))
  all_goals (first | (refine Br.keep ?_) | (first | refine WC.condB_t 3 rfl ?_ | refine WC.condB_f 4 rfl ?_ | (refine WC.condB 3 4 rfl (fun hb => ?_) (fun hb => ?_) <;> (first | replace hb := of_decide_eq_true hb | replace hb := of_decide_eq_false hb | replace hb := of_decide_eq_false (nt hb) | replace hb := of_decide_eq_true (nf hb) | skip))))
  all_goals (first
    | (fail_if_success (refine Br.mk (i := 3) ?_))
    | (refine Br.mk (i := 3) ?_
       all_goals (refine WC.region ?_)
       all_goals (refine WL.step (ok_move rfl) rfl rfl rfl ?_)
       all_goals (first | (refine WL.step (ok_addI rfl rfl (by omega)) rfl rfl rfl ?_) | (refine WL.step (ok_add rfl rfl) rfl rfl rfl ?_))
       all_goals (refine WL.step (ok_assign rfl) rfl rfl rfl ?_)
       all_goals (refine WL.nil ?_)
       skip))
  all_goals (first
    | (fail_if_success (refine Br.mk (i := 4) ?_))
    | (refine Br.mk (i := 4) ?_
       all_goals (refine WC.skip ?_)
       skip))
  all_goals (first | (refine Br.keep ?_) | (repeat' (with_reducible first | refine thenP_n ?_ | refine blockP_n ?_)))
  all_goals (first | (refine Br.keep ?_) | (refine WC.region ?_))
  all_goals (first | (refine Br.keep ?_) | (refine WL.step (ok_move rfl) rfl rfl rfl ?_))
  all_goals (first | (refine Br.keep ?_) | (first | (refine WL.step (ok_addI rfl rfl (by omega)) rfl rfl rfl ?_) | (refine WL.step (ok_add rfl rfl) rfl rfl rfl ?_)))
  all_goals (first | (refine Br.keep ?_) | (refine WL.step (ok_assign rfl) rfl rfl rfl ?_))
  all_goals (first | (refine Br.keep ?_) | (refine WL.nil ?_))
  all_goals (first | (refine Br.keep ?_) | (repeat' (with_reducible first | refine thenP_n ?_ | refine blockP_n ?_)))
  all_goals (first | (refine Br.keep ?_) | (exact ⟨(k + 1, _), ⟨rfl, rfl, rfl, rfl, trivial⟩, (by first | exact ⟨rfl, by simp; omega, by rw [hsn, if_pos (by assumption), hq]⟩ | exact ⟨rfl, by simp; omega, by rw [hsn, if_neg (by assumption), hq, Int.add_zero]⟩), (by simp; omega)⟩))
  all_goals (try (refine Br.mk (i := 1000) ?_))
  all_goals (repeat' (with_reducible first | refine thenP_n ?_ | refine blockP_n ?_))
  all_goals (refine WC.sub [(5, _)] ⟨rfl, trivial⟩ ?_)
  all_goals (refine WC.seq ?_)
  all_goals (refine WC.region ?_)
  all_goals (refine WL.step (ok_move rfl) rfl rfl rfl ?_)
  all_goals (refine WL.step (ok_assign rfl) rfl rfl rfl ?_)
  all_goals (refine WL.nil ?_)
  all_goals (repeat' (with_reducible first | refine thenP_n ?_ | refine blockP_n ?_))
  all_goals (refine WC.ret ?_)
  all_goals (repeat' (with_reducible first | refine thenP_r ?_ | refine blockP_r ?_))
  all_goals (refine retP_1 _ ⟨rfl, trivial⟩ ?_)
  all_goals (exact ⟨by rw [hq, List.take_of_length_le (by omega)], rfl⟩)
end Go.Proofs.YtanbpffpllgekaaDoor

/-
  VIEW: all that are counted, rising, as the code and the document find them.
-/
namespace Go.Proofs.YtanbpffpllgekaaDoor
open Go Go.RK Go.Shelf

/-- All of a list above 0, rising, each with how often it stands there. -/
structure IsCnt (l : List Int) (L : List Cn) : Prop where
  mem : ∀ p, p ∈ L ↔ 0 < p.1 ∧ p.1 ∈ l ∧ p.2 = (l.count p.1 : Int)
  rise : L.Pairwise fun a b => a.1 < b.1
theorem rise_eq : ∀ L M : List Cn, (L.Pairwise fun a b => a.1 < b.1) → (M.Pairwise fun a b => a.1 < b.1) → (∀ p, p ∈ L ↔ p ∈ M) → L = M
  | [], [], _, _, _ => rfl
  | [], b :: M, _, _, h => by have := (h b).2 (.head _); cases this
  | a :: L, [], _, _, h => by have := (h a).1 (.head _); cases this
  | a :: L, b :: M, hL, hM, h => by
    rw [List.pairwise_cons] at hL hM
    have e : a = b := by
      rcases List.mem_cons.1 ((h a).1 (.head _)) with e | e
      · exact e
      · rcases List.mem_cons.1 ((h b).2 (.head _)) with e' | e'
        · exact e'.symm
        · have h1 := hM.1 a e
          have h2 := hL.1 b e'
          omega
    subst e
    rw [rise_eq L M hL.2 hM.2 fun p => ⟨fun hp => ?_, fun hp => ?_⟩]
    · rcases List.mem_cons.1 ((h p).1 (.tail _ hp)) with e | e
      · subst e; have := hL.1 p hp; omega
      · exact e
    · rcases List.mem_cons.1 ((h p).2 (.tail _ hp)) with e | e
      · subst e; have := hM.1 p hp; omega
      · exact e
theorem IsCnt.eq {l : List Int} {L M : List Cn} (a : IsCnt l L) (b : IsCnt l M) : L = M := rise_eq L M a.rise b.rise fun p => by rw [a.mem, b.mem]

set_option maxRecDepth 100000 in
/-! ### the code's -/
theorem isnan_int {h : Heap} (x : Int) : CallsH Tryd.prog 53 ⟨[In x]⟩ h fun u h' => u = .bool false ∧ h' = h := by
  refine calls [(0, _)] Tryd.func53 rfl Tryd.ntmps53 rfl ⟨rfl, trivial⟩ ?_
  all_goals (refine WC.seq ?_)
  all_goals (refine WC.region ?_)
  all_goals (refine WL.step (ok_assign rfl) rfl rfl rfl ?_)
  all_goals (refine WL.nil ?_)
  all_goals (repeat' (with_reducible first | refine thenP_n ?_ | refine blockP_n ?_))
  all_goals (refine WC.seq ?_)
  all_goals (refine WC.region ?_)
  all_goals (refine WL.step (ok_move rfl) rfl rfl rfl ?_)
  all_goals (refine WL.step (ok_move rfl) rfl rfl rfl ?_)
  all_goals (first | (refine WL.step (OkP.nbool_t (by omega) (ok_neq rfl rfl)) rfl rfl rfl ?_) | (refine WL.step (OkP.nbool_f (by omega) (ok_neq rfl rfl)) rfl rfl rfl ?_) | (refine WL.step (ok_neq rfl rfl) rfl rfl rfl ?_))
  all_goals (refine WL.step (ok_assign rfl) rfl rfl rfl ?_)
  all_goals (refine WL.nil ?_)
  all_goals (repeat' (with_reducible first | refine thenP_n ?_ | refine blockP_n ?_))
  all_goals (refine WC.sub [(2, _)] ⟨rfl, trivial⟩ ?_)
  all_goals (refine WC.ret ?_)
  all_goals (repeat' (with_reducible first | refine thenP_r ?_ | refine blockP_r ?_))
  all_goals (refine retP_1 _ ⟨rfl, trivial⟩ ?_)
  all_goals (exact ⟨rfl, rfl⟩)
def cmpI (x y : Int) : Int := if x < y then -1 else if y < x then 1 else 0
set_option maxRecDepth 100000 in
theorem cmp_int {h : Heap} (x y : Int) : CallsH Tryd.prog 32 ⟨[In x, In y]⟩ h fun u h' => u = .int .i64 (cmpI x y) ∧ h' = h := by
  refine calls [(0, _), (1, _)] Tryd.func32 rfl Tryd.ntmps32 rfl ⟨rfl, rfl, trivial⟩ ?_
  all_goals (refine WC.seq ?_)
  all_goals (refine WC.region ?_)
  all_goals (refine WL.step (ok_assign rfl) rfl rfl rfl ?_)
  all_goals (refine WL.nil ?_)
  all_goals (repeat' (with_reducible first | refine thenP_n ?_ | refine blockP_n ?_))
  all_goals (refine WC.seq ?_)
  all_goals (refine WC.region ?_)
  all_goals (refine WL.step (ok_move rfl) rfl rfl rfl ?_)
  all_goals (refine WL.call (vs := [_]) rfl (fun a w => Tryd.call53 a w) rfl (isnan_int x) rfl rfl rfl ?_
             rintro _ hz ⟨rfl, _⟩
             subst hz)
  all_goals (refine WL.step (ok_assign rfl) rfl rfl rfl ?_)
  all_goals (refine WL.nil ?_)
  all_goals (repeat' (with_reducible first | refine thenP_n ?_ | refine blockP_n ?_))
  all_goals (refine WC.seq ?_)
  all_goals (refine WC.region ?_)
  all_goals (refine WL.step (ok_move rfl) rfl rfl rfl ?_)
  all_goals (refine WL.call (vs := [_]) rfl (fun a w => Tryd.call53 a w) rfl (isnan_int y) rfl rfl rfl ?_
             rintro _ hz ⟨rfl, _⟩
             subst hz)
  all_goals (refine WL.step (ok_assign rfl) rfl rfl rfl ?_)
  all_goals (refine WL.nil ?_)
  all_goals (repeat' (with_reducible first | refine thenP_n ?_ | refine blockP_n ?_))
  all_goals (refine WC.sub [(0, _), (1, _), (5, _), (6, _)] ⟨rfl, rfl, rfl, rfl, trivial⟩ ?_)
  all_goals (refine WC.seq ?_)
  all_goals (refine WC.seq ?_)
  all_goals (refine WC.region ?_)
  all_goals (refine WL.step (ok_move rfl) rfl rfl rfl ?_)
  all_goals (refine WL.nil ?_)
  all_goals (repeat' (with_reducible first | refine thenP_n ?_ | refine blockP_n ?_))
  all_goals (first | refine WC.condB_t 1 rfl ?_ | refine WC.condB_f 2 rfl ?_ | (refine WC.condB 1 2 rfl (fun hb => ?_) (fun hb => ?_) <;> (first | replace hb := of_decide_eq_true hb | replace hb := of_decide_eq_false hb | replace hb := of_decide_eq_false (nt hb) | replace hb := of_decide_eq_true (nf hb) | skip)))
  all_goals (first
    | (fail_if_success (refine Br.mk (i := 1) ?_))
    | (refine Br.mk (i := 1) ?_
       all_goals (refine WC.seq ?_)
       all_goals (refine WC.seq ?_)
       all_goals (refine WC.region ?_)
       all_goals (refine WL.step (ok_move rfl) rfl rfl rfl ?_)
       all_goals (refine WL.nil ?_)
       all_goals (repeat' (with_reducible first | refine thenP_n ?_ | refine blockP_n ?_))
       all_goals (refine WC.sub [(12, _)] ⟨rfl, trivial⟩ ?_)
       all_goals (first | refine WC.condB_t 3 rfl ?_ | refine WC.condB_f 4 rfl ?_ | (refine WC.condB 3 4 rfl (fun hb => ?_) (fun hb => ?_) <;> (first | replace hb := of_decide_eq_true hb | replace hb := of_decide_eq_false hb | replace hb := of_decide_eq_false (nt hb) | replace hb := of_decide_eq_true (nf hb) | skip)))
       all_goals (first
         | (fail_if_success (refine Br.mk (i := 3) ?_))
         | (refine Br.mk (i := 3) ?_
            all_goals (refine WC.seq ?_)
            all_goals (refine WC.region ?_)
            all_goals (refine WL.step (ok_assign rfl) rfl rfl rfl ?_)
            all_goals (refine WL.nil ?_)
            all_goals (repeat' (with_reducible first | refine thenP_n ?_ | refine blockP_n ?_))
            all_goals (refine WC.ret ?_)
            all_goals (repeat' (with_reducible first | refine thenP_r ?_ | refine blockP_r ?_))
            all_goals (refine retP_1 _ ⟨rfl, trivial⟩ ?_)
            all_goals (first
                        | exact ⟨by rw [cmpI, if_pos (by assumption)], rfl⟩
                        | exact ⟨by rw [cmpI, if_neg (by assumption), if_pos (by assumption)], rfl⟩
                        | exact ⟨by rw [cmpI, if_neg (by assumption), if_neg (by assumption)], rfl⟩)
            skip))
       all_goals (first
         | (fail_if_success (refine Br.mk (i := 4) ?_))
         | (refine Br.mk (i := 4) ?_
            all_goals (refine WC.skip ?_)
            skip))
       all_goals (repeat' (with_reducible first | refine thenP_n ?_ | refine blockP_n ?_))
       all_goals (refine WC.seq ?_)
       all_goals (refine WC.region ?_)
       all_goals (refine WL.step (ok_assign rfl) rfl rfl rfl ?_)
       all_goals (refine WL.nil ?_)
       all_goals (repeat' (with_reducible first | refine thenP_n ?_ | refine blockP_n ?_))
       all_goals (refine WC.ret ?_)
       all_goals (repeat' (with_reducible first | refine thenP_r ?_ | refine blockP_r ?_))
       all_goals (refine retP_1 _ ⟨rfl, trivial⟩ ?_)
       all_goals (first
                   | exact ⟨by rw [cmpI, if_pos (by assumption)], rfl⟩
                   | exact ⟨by rw [cmpI, if_neg (by assumption), if_pos (by assumption)], rfl⟩
                   | exact ⟨by rw [cmpI, if_neg (by assumption), if_neg (by assumption)], rfl⟩)
       skip))
  all_goals (first
    | (fail_if_success (refine Br.mk (i := 2) ?_))
    | (refine Br.mk (i := 2) ?_
       all_goals (refine WC.skip ?_)
       skip))
  all_goals (repeat' (with_reducible first | refine thenP_n ?_ | refine blockP_n ?_))
  all_goals (refine WC.seq ?_)
  all_goals (refine WC.seq ?_)
  all_goals (refine WC.region ?_)
  all_goals (refine WL.step (ok_move rfl) rfl rfl rfl ?_)
  all_goals (refine WL.nil ?_)
  all_goals (repeat' (with_reducible first | refine thenP_n ?_ | refine blockP_n ?_))
  all_goals (first | refine WC.condB_t 5 rfl ?_ | refine WC.condB_f 6 rfl ?_ | (refine WC.condB 5 6 rfl (fun hb => ?_) (fun hb => ?_) <;> (first | replace hb := of_decide_eq_true hb | replace hb := of_decide_eq_false hb | replace hb := of_decide_eq_false (nt hb) | replace hb := of_decide_eq_true (nf hb) | skip)))
  all_goals (first
    | (fail_if_success (refine Br.mk (i := 5) ?_))
    | (refine Br.mk (i := 5) ?_
       all_goals (refine WC.seq ?_)
       all_goals (refine WC.region ?_)
       all_goals (refine WL.step (ok_assign rfl) rfl rfl rfl ?_)
       all_goals (refine WL.nil ?_)
       all_goals (repeat' (with_reducible first | refine thenP_n ?_ | refine blockP_n ?_))
       all_goals (refine WC.sub [(4, _)] ⟨rfl, trivial⟩ ?_)
       all_goals (refine WC.ret ?_)
       all_goals (repeat' (with_reducible first | refine thenP_r ?_ | refine blockP_r ?_))
       all_goals (refine retP_1 _ ⟨rfl, trivial⟩ ?_)
       all_goals (first
                   | exact ⟨by rw [cmpI, if_pos (by assumption)], rfl⟩
                   | exact ⟨by rw [cmpI, if_neg (by assumption), if_pos (by assumption)], rfl⟩
                   | exact ⟨by rw [cmpI, if_neg (by assumption), if_neg (by assumption)], rfl⟩)
       skip))
  all_goals (first
    | (fail_if_success (refine Br.mk (i := 6) ?_))
    | (refine Br.mk (i := 6) ?_
       all_goals (refine WC.skip ?_)
       skip))
  all_goals (repeat' (with_reducible first | refine thenP_n ?_ | refine blockP_n ?_))
  all_goals (refine WC.sub [(0, _), (1, _)] ⟨rfl, rfl, trivial⟩ ?_)
  all_goals (refine WC.seq ?_)
  all_goals (refine WC.seq ?_)
  all_goals (refine WC.region ?_)
  all_goals (refine WL.step (ok_move rfl) rfl rfl rfl ?_)
  all_goals (refine WL.step (ok_move rfl) rfl rfl rfl ?_)
  all_goals (first | (refine WL.step (OkP.bool_t (by omega) (ok_lss rfl rfl)) rfl rfl rfl ?_) | (refine WL.step (OkP.bool_f (by omega) (ok_lss rfl rfl)) rfl rfl rfl ?_) | (refine WL.step (ok_lss rfl rfl) rfl rfl rfl ?_))
  all_goals (refine WL.nil ?_)
  all_goals (repeat' (with_reducible first | refine thenP_n ?_ | refine blockP_n ?_))
  all_goals (first | refine WC.condB_t 7 rfl ?_ | refine WC.condB_f 8 rfl ?_ | (refine WC.condB 7 8 rfl (fun hb => ?_) (fun hb => ?_) <;> (first | replace hb := of_decide_eq_true hb | replace hb := of_decide_eq_false hb | replace hb := of_decide_eq_false (nt hb) | replace hb := of_decide_eq_true (nf hb) | skip)))
  all_goals (first
    | (fail_if_success (refine Br.mk (i := 7) ?_))
    | (refine Br.mk (i := 7) ?_
       all_goals (refine WC.seq ?_)
       all_goals (refine WC.region ?_)
       all_goals (refine WL.step (ok_assign rfl) rfl rfl rfl ?_)
       all_goals (refine WL.nil ?_)
       all_goals (repeat' (with_reducible first | refine thenP_n ?_ | refine blockP_n ?_))
       all_goals (refine WC.sub [(4, _)] ⟨rfl, trivial⟩ ?_)
       all_goals (refine WC.ret ?_)
       all_goals (repeat' (with_reducible first | refine thenP_r ?_ | refine blockP_r ?_))
       all_goals (refine retP_1 _ ⟨rfl, trivial⟩ ?_)
       all_goals (first
                   | exact ⟨by rw [cmpI, if_pos (by assumption)], rfl⟩
                   | exact ⟨by rw [cmpI, if_neg (by assumption), if_pos (by assumption)], rfl⟩
                   | exact ⟨by rw [cmpI, if_neg (by assumption), if_neg (by assumption)], rfl⟩)
       skip))
  all_goals (first
    | (fail_if_success (refine Br.mk (i := 8) ?_))
    | (refine Br.mk (i := 8) ?_
       all_goals (refine WC.skip ?_)
       skip))
  all_goals (repeat' (with_reducible first | refine thenP_n ?_ | refine blockP_n ?_))
  all_goals (refine WC.seq ?_)
  all_goals (refine WC.seq ?_)
  all_goals (refine WC.region ?_)
  all_goals (refine WL.step (ok_move rfl) rfl rfl rfl ?_)
  all_goals (refine WL.step (ok_move rfl) rfl rfl rfl ?_)
  all_goals (first | (refine WL.step (OkP.bool_t (by omega) (ok_gtr rfl rfl)) rfl rfl rfl ?_) | (refine WL.step (OkP.bool_f (by omega) (ok_gtr rfl rfl)) rfl rfl rfl ?_) | (refine WL.step (ok_gtr rfl rfl) rfl rfl rfl ?_))
  all_goals (refine WL.nil ?_)
  all_goals (repeat' (with_reducible first | refine thenP_n ?_ | refine blockP_n ?_))
  all_goals (refine WC.sub [(19, _)] ⟨rfl, trivial⟩ ?_)
  all_goals (first | refine WC.condB_t 9 rfl ?_ | refine WC.condB_f 10 rfl ?_ | (refine WC.condB 9 10 rfl (fun hb => ?_) (fun hb => ?_) <;> (first | replace hb := of_decide_eq_true hb | replace hb := of_decide_eq_false hb | replace hb := of_decide_eq_false (nt hb) | replace hb := of_decide_eq_true (nf hb) | skip)))
  all_goals (first
    | (fail_if_success (refine Br.mk (i := 9) ?_))
    | (refine Br.mk (i := 9) ?_
       all_goals (refine WC.seq ?_)
       all_goals (refine WC.region ?_)
       all_goals (refine WL.step (ok_assign rfl) rfl rfl rfl ?_)
       all_goals (refine WL.nil ?_)
       all_goals (repeat' (with_reducible first | refine thenP_n ?_ | refine blockP_n ?_))
       all_goals (refine WC.ret ?_)
       all_goals (repeat' (with_reducible first | refine thenP_r ?_ | refine blockP_r ?_))
       all_goals (refine retP_1 _ ⟨rfl, trivial⟩ ?_)
       all_goals (first
                   | exact ⟨by rw [cmpI, if_pos (by assumption)], rfl⟩
                   | exact ⟨by rw [cmpI, if_neg (by assumption), if_pos (by assumption)], rfl⟩
                   | exact ⟨by rw [cmpI, if_neg (by assumption), if_neg (by assumption)], rfl⟩)
       skip))
  all_goals (first
    | (fail_if_success (refine Br.mk (i := 10) ?_))
    | (refine Br.mk (i := 10) ?_
       all_goals (refine WC.skip ?_)
       skip))
  all_goals (repeat' (with_reducible first | refine thenP_n ?_ | refine blockP_n ?_))
  all_goals (refine WC.seq ?_)
  all_goals (refine WC.region ?_)
  all_goals (refine WL.step (ok_assign rfl) rfl rfl rfl ?_)
  all_goals (refine WL.nil ?_)
  all_goals (repeat' (with_reducible first | refine thenP_n ?_ | refine blockP_n ?_))
  all_goals (refine WC.ret ?_)
  all_goals (repeat' (with_reducible first | refine thenP_r ?_ | refine blockP_r ?_))
  all_goals (refine retP_1 _ ⟨rfl, trivial⟩ ?_)
  all_goals (first
              | exact ⟨by rw [cmpI, if_pos (by assumption)], rfl⟩
              | exact ⟨by rw [cmpI, if_neg (by assumption), if_pos (by assumption)], rfl⟩
              | exact ⟨by rw [cmpI, if_neg (by assumption), if_neg (by assumption)], rfl⟩)
set_option maxRecDepth 100000 in
theorem cmp_fn {h : Heap} (x y : Cn) : CallsH Tryd.prog 31 ⟨[.agg ⟨cnC x⟩, .agg ⟨cnC y⟩]⟩ h fun u h' => u = .int .i64 (cmpI x.1 y.1) ∧ Ext No h h' := by
  obtain ⟨a, b⟩ := x
  obtain ⟨c, d⟩ := y
  dsimp only [cnC]
  refine calls [(0, _), (1, _)] Tryd.func31 rfl Tryd.ntmps31 rfl ⟨rfl, rfl, trivial⟩ ?_
  all_goals (refine WC.seq ?_)
  all_goals (refine WC.region ?_)
  all_goals (refine WL.stepR (okE_box rfl) rfl rfl rfl ?_
             rintro _ h1 ⟨b1, rfl, hg1, hb1, hx1⟩)
  all_goals (refine WL.stepR (okE_box rfl) rfl rfl rfl ?_
             rintro _ h2 ⟨b2, rfl, hg2, hb2, hx2⟩)
  all_goals (have hb12 := hx2.obj hb1 nos)
  all_goals (refine WL.step (ok_assign rfl) rfl rfl rfl ?_)
  all_goals (refine WL.nil ?_)
  all_goals (repeat' (with_reducible first | refine thenP_n ?_ | refine blockP_n ?_))
  all_goals (refine WC.seq ?_)
  all_goals (refine WC.region ?_)
  all_goals (refine WL.step (ok_fieldAddr rfl Tryd.underlying44 rfl (fun w => Tryd.sizeOf3 w)) rfl rfl rfl ?_)
  all_goals (refine WL.step (ok_load (fun w => Tryd.isAgg3 w) rfl (by first | assumption | exact cell_blk (by assumption) rfl)) rfl rfl rfl ?_)
  all_goals (refine WL.step (ok_fieldAddr rfl Tryd.underlying44 rfl (fun w => Tryd.sizeOf3 w)) rfl rfl rfl ?_)
  all_goals (refine WL.step (ok_load (fun w => Tryd.isAgg3 w) rfl (by first | assumption | exact cell_blk (by assumption) rfl)) rfl rfl rfl ?_)
  all_goals (refine WL.call (vs := [_, _]) rfl (fun a w => Tryd.call32 a w) rfl (cmp_int a c) rfl rfl rfl ?_
             rintro _ hz ⟨rfl, _⟩
             subst hz)
  all_goals (refine WL.step (ok_assign rfl) rfl rfl rfl ?_)
  all_goals (refine WL.nil ?_)
  all_goals (repeat' (with_reducible first | refine thenP_n ?_ | refine blockP_n ?_))
  all_goals (refine WC.sub [(4, _)] ⟨rfl, trivial⟩ ?_)
  all_goals (refine WC.ret ?_)
  all_goals (repeat' (with_reducible first | refine thenP_r ?_ | refine blockP_r ?_))
  all_goals (refine retP_1 _ ⟨rfl, trivial⟩ ?_)
  all_goals (exact ⟨rfl, hx1.trans hx2⟩)
theorem swo_cmp : Go.Sort.SWO (ltOf fun x y : Cn => cmpI x.1 y.1) := by
  have key : ∀ x y : Cn, ltOf (fun x y : Cn => cmpI x.1 y.1) x y = decide (x.1 < y.1) := by
    intro x y
    unfold ltOf cmpI
    refine decide_eq_decide.2 ?_
    dsimp only
    split
    · omega
    · split <;> omega
  constructor
  · intro x
    rw [key]
    exact decide_eq_false (by omega)
  · intro x y z
    rw [key, key, key, decide_eq_true_eq, decide_eq_true_eq, decide_eq_true_eq]
    omega
  · intro x y z
    rw [key, key, key, decide_eq_false_iff_not, decide_eq_false_iff_not, decide_eq_false_iff_not]
    omega
def posL (M : List Cn) : List Cn := M.filter fun p => decide (0 < p.1)
theorem posL_snoc (M : List Cn) (q : Cn) : posL (M ++ [q]) = if 0 < q.1 then posL M ++ [q] else posL M := by
  unfold posL
  rw [List.filter_append]
  by_cases h : 0 < q.1 <;> simp [h]
theorem posL_len (M : List Cn) : (posL M).length ≤ M.length := List.length_filter_le _ _
theorem enc_mem {E : List Cn} {p : Int × Value} (h : p ∈ encK In E) : ∃ q ∈ E, p = (q.1, In q.2) := by
  obtain ⟨q, hq, rfl⟩ := List.mem_map.1 h
  exact ⟨q, hq, rfl⟩
theorem enc_mem' {E : List Cn} {q : Cn} (h : (q.1, In q.2) ∈ encK In E) : q ∈ E := by
  obtain ⟨r, hr, e⟩ := List.mem_map.1 h
  simp only [Prod.mk.injEq, Value.int.injEq, true_and] at e
  rw [show q = r from Prod.ext e.1.symm e.2.symm]
  exact hr
theorem cnt_of {l : List Int} {M L : List Cn} (hp : (encK In M).Perm (encK In (tallyL l))) (hL : L.Perm (posL M)) (hs : L.Pairwise fun x y => ¬ cmpI y.1 x.1 < 0) : IsCnt l L := by
  have hmem : ∀ q, q ∈ M ↔ q ∈ tallyL l := fun q => ⟨fun h => enc_mem' (hp.mem_iff.1 (List.mem_map.2 ⟨q, h, rfl⟩)), fun h => enc_mem' (hp.mem_iff.2 (List.mem_map.2 ⟨q, h, rfl⟩))⟩
  have hnd : (M.map (·.1)).Nodup := by
    have h1 := hp.map (·.1)
    rw [encK_keys, encK_keys] at h1
    exact h1.symm.nodup (tally_nd l)
  have hndL : (L.map (·.1)).Nodup := (hL.map (·.1)).symm.nodup (hnd.sublist (List.Sublist.map _ List.filter_sublist))
  refine ⟨fun p => ?_, ?_⟩
  · rw [hL.mem_iff]
    unfold posL
    rw [List.mem_filter, hmem, decide_eq_true_eq]
    constructor
    · rintro ⟨h1, h2⟩
      have h3 := getK_of (tally_nd l) (show (p.1, p.2) ∈ tallyL l from h1)
      rw [tally_get] at h3
      by_cases hi : p.1 ∈ l
      · rw [if_pos hi] at h3
        exact ⟨h2, hi, (Option.some.inj h3).symm⟩
      · rw [if_neg hi] at h3
        cases h3
    · rintro ⟨h1, h2, h3⟩
      refine ⟨?_, h1⟩
      have h4 := tally_get l p.1
      rw [if_pos h2, ← h3] at h4
      exact getK_mem h4
  · have hnd2 : L.Pairwise fun a b => a.1 ≠ b.1 := by
      have := hndL
      rw [List.Nodup, List.pairwise_map] at this
      exact this
    refine (hs.and hnd2).imp fun {a b} h => ?_
    obtain ⟨h1, h2⟩ := h
    unfold cmpI at h1
    rcases Int.lt_trichotomy a.1 b.1 with h | h | h
    · exact h
    · exact absurd h h2
    · rw [if_pos h] at h1; omega
/-- A new row of counts. -/
def NewC (h : Heap) (u : Value) (L : List Cn) (h' : Heap) : Prop := Own h' u 44 2 L.length (L.flatMap cnC) ∧ Ext No h h' ∧ ∀ k, u.ownBlock = some k → h.size ≤ k
set_option maxHeartbeats 1000000 in
set_option maxRecDepth 100000 in
theorem counted_v {h : Heap} (V : VW) (ok : V.ok h) (f : Few V) : CallsH Tryd.prog 16 ⟨[.agg ⟨V.cells⟩]⟩ h fun u h' => ∃ L, IsCnt (idsV V) L ∧ L.length ≤ 4000 ∧ NewC h u L h' := by
  have hlen := idsV_len f
  have htl := tally_le (idsV V)
  obtain ⟨A1, c1, A2, c2, A3, c3, A4, c4, e1, e2, e3, e4⟩ := ok.slices
  have hids := fun h' (hx : Ext No h h') => tally_v V (ok.ext0 hx) f
  unfold VW.cells at hids ⊢
  rw [e1, e2, e3, e4] at hids ⊢
  refine calls [(0, _)] Tryd.func16 rfl Tryd.ntmps16 rfl ⟨rfl, trivial⟩ ?_
  all_goals (refine WC.seq ?_)
  all_goals (refine WC.region ?_)
  all_goals (refine WL.stepR (okE_box rfl) rfl rfl rfl ?_
             rintro _ h1 ⟨b1, rfl, hg1, hb1, hx1⟩)
  all_goals (refine WL.step (ok_assign rfl) rfl rfl rfl ?_)
  all_goals (refine WL.nil ?_)
  all_goals (repeat' (with_reducible first | refine thenP_n ?_ | refine blockP_n ?_))
  all_goals (refine WC.seq ?_)
  all_goals (refine WC.region ?_)
  all_goals (refine WL.step (ok_assign rfl) rfl rfl rfl ?_)
  all_goals (refine WL.nil ?_)
  all_goals (repeat' (with_reducible first | refine thenP_n ?_ | refine blockP_n ?_))
  all_goals (refine WC.seq ?_)
  all_goals (refine WC.seq ?_)
  all_goals (refine WC.region ?_)
  all_goals (refine WL.step (ok_loadN (fun w => Tryd.isAgg30 w) (fun w => Tryd.sizeOf30 w) rfl rfl (by exact At.of_block hb1)) rfl rfl rfl ?_)
  all_goals (refine WL.call (vs := [_]) rfl (fun a w => Tryd.call29 a w) rfl (hids _ hx1) rfl rfl rfl ?_
             rintro _ h2 ⟨m, rfl, hm2, hx2, hgm⟩)
  all_goals (have hX2 := hx1.trans hx2
             have hs2 := hX2.size
             have hml := hm2.lt)
  all_goals (refine WL.stepR (okE_range Tryd.underlying61 rfl (by assumption)) rfl rfl rfl ?_
             rintro _ h3 ⟨r1, rfl, hgr1, hit3, hx3⟩)
  all_goals (have hs3 := hx3.size
             have hX3 := hX2.trans hx3)
  all_goals (refine WL.nil ?_)
  all_goals (repeat' (with_reducible first | refine thenP_n ?_ | refine blockP_n ?_))
  all_goals (refine WC.sub [(3, _), (8, _)] ⟨rfl, rfl, trivial⟩ ?_)
  all_goals (refine WC.block ?_)
  -- loop 0: slots that turn [3], that stay [8]
  all_goals (refine WC.loopG (X := Value × List Cn) (fun x => ([(3, x.1)] : Fr)) [(8, _)] (fun x h' => It In h' r1 m (encK In (tallyL (idsV V))) (encK In x.2) ∧ Own h' x.1 44 2 (posL x.2).length ((posL x.2).flatMap cnC) ∧ Ext (fun k => k = r1) h3 h' ∧ ∀ k, x.1.ownBlock = some k → h3.size ≤ k) (fun x => (idsV V).length - x.2.length) ((.slice none 0 0, [])) ⟨rfl, rfl, trivial⟩ (by exact ⟨hit3, Own.nil _ _ _, .refl _ _, by simp [Value.ownBlock]⟩) ?_)
  all_goals (rintro ⟨v4, M⟩ h4 ⟨hit4, ho4, hx4, hf4⟩
             simp only at hit4 ho4 hf4
             have hdl := sub_len hit4.nd hit4.sub
             rw [encK_len, encK_len] at hdl
             have hpl := posL_len M
             have hs4 := hx4.size
             have hrlt := hit3.lt)
  all_goals (refine WC.sub [(3, _), (8, _)] ⟨rfl, rfl, trivial⟩ ?_)
  all_goals (dsimp only)
  all_goals (refine WC.seq ?_)
  all_goals (refine WC.region ?_)
  all_goals (refine WL.stepR (okE_next keyI rfl hit4) rfl rfl rfl ?_
             rintro v h5 (⟨rfl, hz, hperm⟩ | ⟨p, rfl, hp5, hnp, hit5, hil5, hx5⟩))
  all_goals (try subst h5)
  all_goals (refine WL.step (ok_extract rfl rfl) rfl rfl rfl ?_)
  all_goals (refine WL.nil ?_)
  all_goals (repeat' (with_reducible first | refine thenP_n ?_ | refine blockP_n ?_))
  all_goals (refine WC.seq ?_)
  all_goals (first | refine WC.condB_t 1 rfl ?_ | refine WC.condB_f 2 rfl ?_ | (refine WC.condB 1 2 rfl (fun hb => ?_) (fun hb => ?_) <;> (first | replace hb := of_decide_eq_true hb | replace hb := of_decide_eq_false hb | replace hb := of_decide_eq_false (nt hb) | replace hb := of_decide_eq_true (nf hb) | skip)))
  all_goals (first
    | (fail_if_success (refine Br.mk (i := 1) ?_))
    | (refine Br.mk (i := 1) ?_
       all_goals (refine WC.skip ?_)
       skip))
  all_goals (first
    | (fail_if_success (refine Br.mk (i := 2) ?_))
    | (refine Br.mk (i := 2) ?_
       all_goals (refine WC.exit ?_)
       all_goals (repeat' (with_reducible first | refine thenP_x ?_ | refine blockP_miss rfl ?_ | refine blockP_hit ?_ | refine blockP_n ?_ | refine thenP_n ?_))
       all_goals (refine Br.out (i := 1000) ?_)
       skip))
  all_goals (first | (refine Br.keep ?_) | (repeat' (with_reducible first | refine thenP_n ?_ | refine blockP_n ?_)))
  all_goals (first | (refine Br.keep ?_) | (refine WC.block ?_))
  all_goals (first | (refine Br.keep ?_) | (refine WC.seq ?_))
  all_goals (first | (refine Br.keep ?_) | (refine WC.region ?_))
  all_goals (first
               | (refine Br.keep ?_)
               | (obtain ⟨⟨qi, qn⟩, hq, rfl⟩ := enc_mem hp5
                  have hit5' : It In h5 r1 m (encK In (tallyL (idsV V))) (encK In (M ++ [(qi, qn)])) := by simpa [encK] using hit5
                  have hd5 := sub_len hit5'.nd hit5'.sub
                  rw [encK_len, encK_len, List.length_append] at hd5
                  simp only [List.length_cons, List.length_nil] at hd5))
  all_goals (first | (refine Br.keep ?_) | (refine WL.step (ok_entry rfl hil5) rfl rfl rfl ?_))
  all_goals (first | (refine Br.keep ?_) | (refine WL.step (ok_extract rfl rfl) rfl rfl rfl ?_))
  all_goals (first | (refine Br.keep ?_) | (refine WL.step (ok_extract rfl rfl) rfl rfl rfl ?_))
  all_goals (first | (refine Br.keep ?_) | (refine WL.step (ok_assign rfl) rfl rfl rfl ?_))
  all_goals (first | (refine Br.keep ?_) | (refine WL.step (ok_assign rfl) rfl rfl rfl ?_))
  all_goals (first | (refine Br.keep ?_) | (refine WL.nil ?_))
  all_goals (first | (refine Br.keep ?_) | (repeat' (with_reducible first | refine thenP_n ?_ | refine blockP_n ?_)))
  all_goals (first | (refine Br.keep ?_) | (refine WC.sub [(3, _), (4, _), (5, _), (8, _)] ⟨rfl, rfl, rfl, rfl, trivial⟩ ?_))
  all_goals (first | (refine Br.keep ?_) | (refine WC.seq ?_))
  all_goals (first | (refine Br.keep ?_) | (refine WC.region ?_))
  all_goals (first | (refine Br.keep ?_) | (refine WL.step (ok_move rfl) rfl rfl rfl ?_))
  all_goals (first | (refine Br.keep ?_) | (first | (refine WL.step (OkP.bool_t (by omega) (ok_gtr rfl rfl)) rfl rfl rfl ?_) | (refine WL.step (OkP.bool_f (by omega) (ok_gtr rfl rfl)) rfl rfl rfl ?_) | (refine WL.step (ok_gtr rfl rfl) rfl rfl rfl ?_)))
  all_goals (first | (refine Br.keep ?_) | (refine WL.nil ?_))
  all_goals (first | (refine Br.keep ?_) | (repeat' (with_reducible first | refine thenP_n ?_ | refine blockP_n ?_)))
  all_goals (first | (refine Br.keep ?_) | (first | refine WC.condB_t 3 rfl ?_ | refine WC.condB_f 4 rfl ?_ | (refine WC.condB 3 4 rfl (fun hb => ?_) (fun hb => ?_) <;> (first | replace hb := of_decide_eq_true hb | replace hb := of_decide_eq_false hb | replace hb := of_decide_eq_false (nt hb) | replace hb := of_decide_eq_true (nf hb) | skip))))
  all_goals (first
    | (fail_if_success (refine Br.mk (i := 3) ?_))
    | (refine Br.mk (i := 3) ?_
       all_goals (refine WC.region ?_)
       all_goals (refine WL.step (ok_move rfl) rfl rfl rfl ?_)
       all_goals (refine WL.step (ok_move rfl) rfl rfl rfl ?_)
       all_goals (refine WL.step (ok_move rfl) rfl rfl rfl ?_)
       all_goals (refine WL.step (ok_buildF (vs := [_, _]) (cs := [_, _]) (fun | [a0, a1] => [a0, a1] | _ => []) rfl rfl (by kernel_rfl)) rfl rfl rfl ?_)
       all_goals (refine WL.stepR (okE_buildSlice (vs := [_]) (cs := [_, _]) (fun | [.agg ⟨[a0, a1]⟩] => [a0, a1] | _ => []) Tryd.underlying27 rfl rfl (by kernel_rfl)) rfl rfl rfl ?_
                  rintro _ h6 ⟨b6, rfl, hg6, hb6, hx6⟩)
       all_goals (refine WL.stepR (ok_append (sz := 2) (bytes := 16) rfl Tryd.underlying27 (show Tryd.prog.info? 44 = some Tryd.t44 by kernel_rfl) rfl rfl rfl rfl (by decide) rfl rfl ((ho4.ext hx5 (fun k hk e => by have := hf4 k hk; omega)).ext hx6 (fun _ _ => nos)) (rd_blk hb6 rfl) (cnC_one (qi, qn)) (by simp only [maxLen]; omega) (by omega)) rfl rfl rfl ?_
                  rintro v7 h7 ⟨ho7, hx7, hl7⟩)
       all_goals (refine WL.step (ok_assign rfl) rfl rfl rfl ?_)
       all_goals (refine WL.nil ?_)
       skip))
  all_goals (first
    | (fail_if_success (refine Br.mk (i := 4) ?_))
    | (refine Br.mk (i := 4) ?_
       all_goals (refine WC.skip ?_)
       skip))
  all_goals (first | (refine Br.keep ?_) | (repeat' (with_reducible first | refine thenP_n ?_ | refine blockP_n ?_)))
  all_goals (first
               | (refine Br.keep ?_)
               | (exact ⟨(_, M ++ [(qi, qn)]), ⟨rfl, rfl, trivial⟩, (by first
                   | exact ⟨hit5'.ext ((hx6.mono fun _ _ e => e.elim).trans hx7) (fun e => by have := hf4 _ e; omega) (fun e => by have := hf4 _ e; omega), by rw [posL_snoc, if_pos (by assumption)]; simpa [cnC] using ho7, (hx4.trans (hx5.trans' hx6 fun _ _ e => e.elim)).trans' hx7 (fun q hq e => by have := hf4 q e; omega), fresh_of hl7 hf4 (by have := hx5.size; have := hx6.size; omega)⟩
                   | exact ⟨hit5', by rw [posL_snoc, if_neg (by assumption)]; exact ho4.ext hx5 (fun k hk e => by have := hf4 k hk; omega), hx4.trans hx5, hf4⟩), (by simp; omega)⟩))
  all_goals (try (refine Br.mk (i := 1000) ?_))
  all_goals (repeat' (with_reducible first | refine thenP_n ?_ | refine blockP_n ?_))
  all_goals (refine WC.seq ?_)
  all_goals (refine WC.region ?_)
  all_goals (refine WL.step (ok_move rfl) rfl rfl rfl ?_)
  all_goals (refine WL.call (vs := [_, _]) rfl (fun a w => Tryd.call30 a w) rfl (sortFuncN Tryd.sortFC (fun w => Tryd.isAgg44 w) (fun w => Tryd.sizeOf44 w) cnC cnC_len cnC_one (fun x y => cmpI x.1 y.1) swo_cmp 31 [] (posL M) ho4 (by omega) (fun a w => Tryd.call31 a w) (fun h' hx' x y => cmp_fn x y)) rfl rfl rfl ?_
             rintro _ h5 ⟨rfl, L, hpl5, hsl5, ho5, hx5⟩)
  all_goals (have hLl := hpl5.length_eq
             rw [← hLl] at ho5)
  all_goals (refine WL.nil ?_)
  all_goals (repeat' (with_reducible first | refine thenP_n ?_ | refine blockP_n ?_))
  all_goals (refine WC.sub [(3, _)] ⟨rfl, trivial⟩ ?_)
  all_goals (refine WC.seq ?_)
  all_goals (refine WC.region ?_)
  all_goals (refine WL.step (ok_move rfl) rfl rfl rfl ?_)
  all_goals (refine WL.step (ok_assign rfl) rfl rfl rfl ?_)
  all_goals (refine WL.nil ?_)
  all_goals (repeat' (with_reducible first | refine thenP_n ?_ | refine blockP_n ?_))
  all_goals (refine WC.ret ?_)
  all_goals (repeat' (with_reducible first | refine thenP_r ?_ | refine blockP_r ?_))
  all_goals (refine retP_1 _ ⟨rfl, trivial⟩ ?_)
  all_goals (exact ⟨L, cnt_of hperm hpl5 hsl5, by omega, ho5, (hX3.trans' hx4 (fun q hq e => by omega)).trans' hx5 (fun q hq e => by have := hf4 q e; omega), fun k hk => by have := hf4 k hk; omega⟩)
end Go.Proofs.YtanbpffpllgekaaDoor

/-
  VIEW: the document's counts; the compare of counts.
-/
namespace Go.Proofs.YtanbpffpllgekaaDoor
open Go Go.RK

/-- The least of those above last, among the first i; 0: none. -/
structure Lst (l : List Int) (i : Nat) (last least : Int) : Prop where
  non : least = 0 → ∀ n ∈ l.take i, ¬ last < n
  som : least ≠ 0 → least ∈ l ∧ last < least ∧ ∀ n ∈ l.take i, last < n → least ≤ n
theorem Lst.nil (l : List Int) (last : Int) : Lst l 0 last 0 := ⟨fun _ => by simp, fun h => absurd rfl h⟩
theorem mem_snoc {l : List Int} {i : Nat} {y n : Int} (hy : l[i]? = some y) : n ∈ l.take (i + 1) ↔ n ∈ l.take i ∨ n = y := by
  rw [List.take_add_one, hy]
  simp
theorem Lst.take {l : List Int} {i : Nat} {last least y : Int} (k : Lst l i last least) (h0 : 0 ≤ last) (hy : l[i]? = some y) (h1 : last < y) (h2 : least = 0 ∨ y < least) : Lst l (i + 1) last y := by
  refine ⟨fun e => by omega, fun _ => ⟨List.mem_of_getElem? hy, h1, fun n hn hl => ?_⟩⟩
  rcases (mem_snoc hy).1 hn with h | h
  · by_cases e : least = 0
    · exact absurd hl (k.non e n h)
    · have := (k.som e).2.2 n h hl
      omega
  · omega
theorem Lst.keep {l : List Int} {i : Nat} {last least y : Int} (k : Lst l i last least) (hy : l[i]? = some y) (h : last < y → least ≠ 0 ∧ ¬ y < least) : Lst l (i + 1) last least := by
  refine ⟨fun e n hn => ?_, fun e => ⟨(k.som e).1, (k.som e).2.1, fun n hn hl => ?_⟩⟩
  · rcases (mem_snoc hy).1 hn with h' | h'
    · exact k.non e n h'
    · subst h'
      exact fun hl => (h hl).1 e
  · rcases (mem_snoc hy).1 hn with h' | h'
    · exact (k.som e).2.2 n h' hl
    · subst h'
      have := (h hl).2
      omega
/-- Those up to last. -/
structure Upto (l : List Int) (last : Int) (M : List Cn) : Prop where
  mem : ∀ p, p ∈ M ↔ 0 < p.1 ∧ p.1 ≤ last ∧ p.1 ∈ l ∧ p.2 = (l.count p.1 : Int)
  rise : M.Pairwise fun a b => a.1 < b.1
  pos : 0 ≤ last
theorem Upto.nil (l : List Int) : Upto l 0 [] := ⟨fun p => ⟨fun h => (by cases h), fun h => (by omega)⟩, List.Pairwise.nil, Int.le_refl _⟩
theorem Upto.next {l : List Int} {last least : Int} {M : List Cn} (u : Upto l last M) (k : Lst l l.length last least) (h : least ≠ 0) : Upto l least (M ++ [(least, (l.count least : Int))]) := by
  obtain ⟨h1, h2, h3⟩ := k.som h
  rw [List.take_length] at h3
  have hp := u.pos
  refine ⟨fun p => ?_, List.pairwise_append.2 ⟨u.rise, by simp, fun a ha b hb => ?_⟩, by omega⟩
  · rw [List.mem_append, List.mem_singleton, u.mem]
    constructor
    · rintro (⟨a, b, c, d⟩ | rfl)
      · exact ⟨a, by omega, c, d⟩
      · exact ⟨by show 0 < least; omega, Int.le_refl _, h1, rfl⟩
    · rintro ⟨a, b, c, d⟩
      by_cases e : p.1 ≤ last
      · exact .inl ⟨a, e, c, d⟩
      · have := h3 p.1 c (by omega)
        have e1 : p.1 = least := by omega
        exact .inr (Prod.ext e1 (by rw [d, e1]))
  · obtain rfl := List.mem_singleton.1 hb
    have := ((u.mem a).1 ha).2.1
    show a.1 < least
    omega
theorem Upto.all {l : List Int} {last least : Int} {M : List Cn} (u : Upto l last M) (k : Lst l l.length last least) (h : least = 0) : IsCnt l M := by
  have h1 := k.non h
  rw [List.take_length] at h1
  refine ⟨fun p => ?_, u.rise⟩
  rw [u.mem]
  constructor
  · rintro ⟨a, b, c, d⟩
    exact ⟨a, c, d⟩
  · rintro ⟨a, c, d⟩
    exact ⟨a, by have := h1 p.1 c; omega, c, d⟩
def above (l : List Int) (last : Int) : List Int := l.filter fun n => decide (last < n)
theorem above_lt {l : List Int} {last least : Int} (h1 : least ∈ l) (h2 : last < least) : (above l least).length < (above l last).length := by
  have e : above l least = (above l last).filter fun n => decide (least < n) := by
    unfold above
    rw [List.filter_filter]
    congr 1
    funext n
    by_cases h : least < n
    · simp [h]; omega
    · simp [h]
  rw [e]
  exact List.length_filter_lt_length_iff_exists.2 ⟨least, List.mem_filter.2 ⟨h1, by simpa using h2⟩, by simp⟩
set_option maxHeartbeats 1000000 in
set_option maxRecDepth 100000 in
theorem counted46 {h : Heap} (V : VW) (ok : V.ok h) (f : Few V) : CallsH Tryd.prog 22 ⟨[.agg ⟨V.cells⟩]⟩ h fun u h' => ∃ L, IsCnt (idsV V) L ∧ L.length ≤ 4000 ∧ NewC h u L h' := by
  have hlen := idsV_len f
  obtain ⟨A1, c1, A2, c2, A3, c3, A4, c4, e1, e2, e3, e4⟩ := ok.slices
  have hids := fun h' (hx : Ext No h h') => ids46 V (ok.ext0 hx) f
  unfold VW.cells at hids ⊢
  rw [e1, e2, e3, e4] at hids ⊢
  generalize idsV V = l at *
  refine calls [(0, _)] Tryd.func22 rfl Tryd.ntmps22 rfl ⟨rfl, trivial⟩ ?_
  all_goals (refine WC.seq ?_)
  all_goals (refine WC.region ?_)
  all_goals (refine WL.stepR (okE_box rfl) rfl rfl rfl ?_
             rintro _ h1 ⟨b1, rfl, hg1, hb1, hx1⟩)
  all_goals (refine WL.step (ok_assign rfl) rfl rfl rfl ?_)
  all_goals (refine WL.nil ?_)
  all_goals (repeat' (with_reducible first | refine thenP_n ?_ | refine blockP_n ?_))
  all_goals (refine WC.seq ?_)
  all_goals (refine WC.region ?_)
  all_goals (refine WL.step (ok_loadN (fun w => Tryd.isAgg30 w) (fun w => Tryd.sizeOf30 w) rfl rfl (by exact At.of_block hb1)) rfl rfl rfl ?_)
  all_goals (refine WL.call (vs := [_]) rfl (fun a w => Tryd.call48 a w) rfl (hids _ hx1) rfl rfl rfl ?_
             rintro v2 h2 ⟨ho2, hx2, hf2⟩)
  all_goals (have hX2 := hx1.trans hx2
             have hs2 := hX2.size
             have hr2 := ho2.rd
             obtain ⟨A, c, rfl, _⟩ := ho2.slice)
  all_goals (refine WL.step (ok_assign rfl) rfl rfl rfl ?_)
  all_goals (refine WL.nil ?_)
  all_goals (repeat' (with_reducible first | refine thenP_n ?_ | refine blockP_n ?_))
  all_goals (refine WC.sub [(3, _)] ⟨rfl, trivial⟩ ?_)
  all_goals (refine WC.seq ?_)
  all_goals (refine WC.region ?_)
  all_goals (refine WL.step (ok_assign rfl) rfl rfl rfl ?_)
  all_goals (refine WL.nil ?_)
  all_goals (repeat' (with_reducible first | refine thenP_n ?_ | refine blockP_n ?_))
  all_goals (refine WC.seq ?_)
  all_goals (refine WC.region ?_)
  all_goals (refine WL.step (ok_assign rfl) rfl rfl rfl ?_)
  all_goals (refine WL.nil ?_)
  all_goals (repeat' (with_reducible first | refine thenP_n ?_ | refine blockP_n ?_))
  all_goals (refine WC.block ?_)
  -- loop 0: slots that turn [4, 5], that stay [3]
  all_goals (refine WC.loopG (X := Value × Int × List Cn) (fun x => ([(4, x.1), (5, In x.2.1)] : Fr)) [(3, _)] (fun x h' => Upto l x.2.1 x.2.2 ∧ x.2.2.length + (above l x.2.1).length ≤ l.length ∧ Own h' x.1 44 2 x.2.2.length (x.2.2.flatMap cnC) ∧ Ext No h2 h' ∧ ∀ k, x.1.ownBlock = some k → h2.size ≤ k) (fun x => (above l x.2.1).length) ((.slice none 0 0, 0, [])) ⟨rfl, rfl, rfl, trivial⟩ (by exact ⟨Upto.nil l, by simpa [above] using List.length_filter_le _ l, Own.nil _ _ _, .refl _ _, by simp [Value.ownBlock]⟩) ?_)
  all_goals (rintro ⟨v3, last, M⟩ h3 ⟨hu, hml, ho3, hx3, hf3⟩
             simp only at hu hml ho3 hf3
             have hpos := hu.pos)
  all_goals (refine WC.sub [(4, _), (5, _), (3, _)] ⟨rfl, rfl, rfl, trivial⟩ ?_)
  all_goals (dsimp only)
  all_goals (refine WC.block ?_)
  all_goals (refine WC.seq ?_)
  all_goals (refine WC.region ?_)
  all_goals (refine WL.step (ok_assign rfl) rfl rfl rfl ?_)
  all_goals (refine WL.nil ?_)
  all_goals (repeat' (with_reducible first | refine thenP_n ?_ | refine blockP_n ?_))
  all_goals (refine WC.seq ?_)
  all_goals (refine WC.seq ?_)
  all_goals (refine WC.region ?_)
  all_goals (refine WL.step (ok_assign rfl) rfl rfl rfl ?_)
  all_goals (refine WL.nil ?_)
  all_goals (repeat' (with_reducible first | refine thenP_n ?_ | refine blockP_n ?_))
  all_goals (refine WC.block ?_)
  -- loop 1: slots that turn [6, 7], that stay [3, 4, 5]
  all_goals (refine WC.loopG (X := Nat × Int) (fun x => ([(7, In (x.1 : Int)), (6, In x.2)] : Fr)) [(3, _), (4, _), (5, _)] (fun x h' => h' = h3 ∧ x.1 ≤ l.length ∧ Lst l x.1 last x.2) (fun x => l.length - x.1) ((0, 0)) ⟨rfl, rfl, rfl, rfl, rfl, trivial⟩ (by exact ⟨rfl, Nat.zero_le _, Lst.nil l last⟩) ?_)
  all_goals (rintro ⟨i, least⟩ h4 ⟨hz, hi, hk⟩
             subst hz
             simp only at hi hk)
  all_goals (refine WC.sub [(6, _), (7, _), (3, _), (4, _), (5, _)] ⟨rfl, rfl, rfl, rfl, rfl, trivial⟩ ?_)
  all_goals (dsimp only)
  all_goals (refine WC.seq ?_)
  all_goals (refine WC.seq ?_)
  all_goals (refine WC.region ?_)
  all_goals (refine WL.step (ok_move rfl) rfl rfl rfl ?_)
  all_goals (refine WL.step (ok_move rfl) rfl rfl rfl ?_)
  all_goals (refine WL.step (ok_lenL rfl Tryd.underlying28 rfl) rfl rfl rfl ?_)
  all_goals (first | (refine WL.step (OkP.bool_t (by omega) (ok_lss rfl rfl)) rfl rfl rfl ?_) | (refine WL.step (OkP.bool_f (by omega) (ok_lss rfl rfl)) rfl rfl rfl ?_) | (refine WL.step (ok_lss rfl rfl) rfl rfl rfl ?_))
  all_goals (refine WL.nil ?_)
  all_goals (repeat' (with_reducible first | refine thenP_n ?_ | refine blockP_n ?_))
  all_goals (first | refine WC.condB_t 1 rfl ?_ | refine WC.condB_f 2 rfl ?_ | (refine WC.condB 1 2 rfl (fun hb => ?_) (fun hb => ?_) <;> (first | replace hb := of_decide_eq_true hb | replace hb := of_decide_eq_false hb | replace hb := of_decide_eq_false (nt hb) | replace hb := of_decide_eq_true (nf hb) | skip)))
  all_goals (first
    | (fail_if_success (refine Br.mk (i := 1) ?_))
    | (refine Br.mk (i := 1) ?_
       all_goals (refine WC.skip ?_)
       skip))
  all_goals (first
    | (fail_if_success (refine Br.mk (i := 2) ?_))
    | (refine Br.mk (i := 2) ?_
       all_goals (refine WC.exit ?_)
       all_goals (repeat' (with_reducible first | refine thenP_x ?_ | refine blockP_miss rfl ?_ | refine blockP_hit ?_ | refine blockP_n ?_ | refine thenP_n ?_))
       all_goals (refine Br.out (i := 1002) ?_)
       skip))
  all_goals (first | (refine Br.keep ?_) | (repeat' (with_reducible first | refine thenP_n ?_ | refine blockP_n ?_)))
  all_goals (first | (refine Br.keep ?_) | (refine WC.sub [(3, _), (4, _), (5, _), (6, _), (7, _)] ⟨rfl, rfl, rfl, rfl, rfl, trivial⟩ ?_))
  all_goals (first | (refine Br.keep ?_) | (refine WC.seq ?_))
  all_goals (first | (refine Br.keep ?_) | (refine WC.block ?_))
  all_goals (first | (refine Br.keep ?_) | (refine WC.seq ?_))
  all_goals (first | (refine Br.keep ?_) | (refine WC.region ?_))
  all_goals (first
               | (refine Br.keep ?_)
               | (obtain ⟨bL, oL, hA, hbL, hat⟩ := Rd.at_ (hr2.ext0 hx3) (by omega)
                  obtain ⟨y, hy⟩ : ∃ y, l[i]? = some y := ⟨_, List.getElem?_eq_getElem (by omega)⟩
                  have hc := hat.get (p := oL + i * 1) i (get_int hy) (by omega)))
  all_goals (first | (refine Br.keep ?_) | (refine WL.step (ok_move rfl) rfl rfl rfl ?_))
  all_goals (first | (refine Br.keep ?_) | (refine WL.step (ok_move rfl) rfl rfl rfl ?_))
  all_goals (first | (refine Br.keep ?_) | (refine WL.step (ok_idxAddrA Tryd.underlying28 (fun w => Tryd.sizeOf3 w) rfl rfl rfl (by omega) (by first | rfl | assumption)) rfl rfl rfl ?_))
  all_goals (first | (refine Br.keep ?_) | (refine WL.step (ok_load (fun w => Tryd.isAgg3 w) rfl (by first | assumption | exact cell_blk (by assumption) rfl)) rfl rfl rfl ?_))
  all_goals (first | (refine Br.keep ?_) | (refine WL.step (ok_move rfl) rfl rfl rfl ?_))
  all_goals (first | (refine Br.keep ?_) | (first | (refine WL.step (OkP.bool_t (by omega) (ok_gtr rfl rfl)) rfl rfl rfl ?_) | (refine WL.step (OkP.bool_f (by omega) (ok_gtr rfl rfl)) rfl rfl rfl ?_) | (refine WL.step (ok_gtr rfl rfl) rfl rfl rfl ?_)))
  all_goals (first | (refine Br.keep ?_) | (refine WL.step (ok_move rfl) rfl rfl rfl ?_))
  all_goals (first | (refine Br.keep ?_) | (try ((fail_if_success (refine WL.part 22 (b := true) rfl (fun _ => ?_) (fun _ => ?_))); (fail_if_success (refine WL.part 22 (b := false) rfl (fun _ => ?_) (fun _ => ?_))); (refine WL.part 22 rfl (fun hb => ?_) (fun hb => ?_) <;> (first | replace hb := of_decide_eq_true hb | replace hb := of_decide_eq_false hb | replace hb := of_decide_eq_false (nt hb) | replace hb := of_decide_eq_true (nf hb) | skip)))))
  all_goals (first | (refine Br.keep ?_) | (first | (refine WL.pass rfl rfl rfl ?_) | (refine WL.step (ok_move rfl) rfl rfl rfl ?_)))
  all_goals (first | (refine Br.keep ?_) | (first | (refine WL.pass rfl rfl rfl ?_) | (first | (refine WL.step (OkP.bool_t (by omega) (ok_eql rfl rfl)) rfl rfl rfl ?_) | (refine WL.step (OkP.bool_f (by omega) (ok_eql rfl rfl)) rfl rfl rfl ?_) | (refine WL.step (ok_eql rfl rfl) rfl rfl rfl ?_))))
  all_goals (first | (refine Br.keep ?_) | (first | (refine WL.pass rfl rfl rfl ?_) | (refine WL.step (ok_move rfl) rfl rfl rfl ?_)))
  all_goals (first | (refine Br.keep ?_) | (try ((fail_if_success (refine WL.part 25 (b := true) rfl (fun _ => ?_) (fun _ => ?_))); (fail_if_success (refine WL.part 25 (b := false) rfl (fun _ => ?_) (fun _ => ?_))); (refine WL.part 25 rfl (fun hb => ?_) (fun hb => ?_) <;> (first | replace hb := of_decide_eq_true hb | replace hb := of_decide_eq_false hb | replace hb := of_decide_eq_false (nt hb) | replace hb := of_decide_eq_true (nf hb) | skip)))))
  all_goals (first | (refine Br.keep ?_) | (first | (refine WL.pass rfl rfl rfl ?_) | (refine WL.step (ok_move rfl) rfl rfl rfl ?_)))
  all_goals (first | (refine Br.keep ?_) | (first | (refine WL.pass rfl rfl rfl ?_) | (refine WL.step (ok_move rfl) rfl rfl rfl ?_)))
  all_goals (first | (refine Br.keep ?_) | (first | (refine WL.pass rfl rfl rfl ?_) | (refine WL.step (ok_idxAddrA Tryd.underlying28 (fun w => Tryd.sizeOf3 w) rfl rfl rfl (by omega) (by first | rfl | assumption)) rfl rfl rfl ?_)))
  all_goals (first | (refine Br.keep ?_) | (first | (refine WL.pass rfl rfl rfl ?_) | (refine WL.step (ok_load (fun w => Tryd.isAgg3 w) rfl (by first | assumption | exact cell_blk (by assumption) rfl)) rfl rfl rfl ?_)))
  all_goals (first | (refine Br.keep ?_) | (first | (refine WL.pass rfl rfl rfl ?_) | (refine WL.step (ok_move rfl) rfl rfl rfl ?_)))
  all_goals (first | (refine Br.keep ?_) | (first | (refine WL.pass rfl rfl rfl ?_) | (first | (refine WL.step (OkP.bool_t (by omega) (ok_lss rfl rfl)) rfl rfl rfl ?_) | (refine WL.step (OkP.bool_f (by omega) (ok_lss rfl rfl)) rfl rfl rfl ?_) | (refine WL.step (ok_lss rfl rfl) rfl rfl rfl ?_))))
  all_goals (first | (refine Br.keep ?_) | (first | (refine WL.pass rfl rfl rfl ?_) | (first | (refine WL.step (ok_pick_t rfl rfl) rfl rfl rfl ?_) | (refine WL.step (ok_pick_f rfl rfl) rfl rfl rfl ?_))))
  all_goals (first | (refine Br.keep ?_) | (first | (refine WL.step (ok_pick_t rfl rfl) rfl rfl rfl ?_) | (refine WL.step (ok_pick_f rfl rfl) rfl rfl rfl ?_)))
  all_goals (first | (refine Br.keep ?_) | (refine WL.nil ?_))
  all_goals (first | (refine Br.keep ?_) | (repeat' (with_reducible first | refine thenP_n ?_ | refine blockP_n ?_)))
  all_goals (first | (refine Br.keep ?_) | (refine WC.sub [(3, _), (4, _), (5, _), (6, _), (7, _), (33, _)] ⟨rfl, rfl, rfl, rfl, rfl, rfl, trivial⟩ ?_))
  all_goals (first | (refine Br.keep ?_) | (first | refine WC.condB_t 3 rfl ?_ | refine WC.condB_f 4 rfl ?_ | (refine WC.condB 3 4 rfl (fun hb => ?_) (fun hb => ?_) <;> (first | replace hb := of_decide_eq_true hb | replace hb := of_decide_eq_false hb | replace hb := of_decide_eq_false (nt hb) | replace hb := of_decide_eq_true (nf hb) | skip))))
  all_goals (first
    | (fail_if_success (refine Br.mk (i := 3) ?_))
    | (refine Br.mk (i := 3) ?_
       all_goals (refine WC.region ?_)
       all_goals (refine WL.step (ok_move rfl) rfl rfl rfl ?_)
       all_goals (refine WL.step (ok_move rfl) rfl rfl rfl ?_)
       all_goals (refine WL.step (ok_idxAddrA Tryd.underlying28 (fun w => Tryd.sizeOf3 w) rfl rfl rfl (by omega) (by first | rfl | assumption)) rfl rfl rfl ?_)
       all_goals (refine WL.step (ok_load (fun w => Tryd.isAgg3 w) rfl (by first | assumption | exact cell_blk (by assumption) rfl)) rfl rfl rfl ?_)
       all_goals (refine WL.step (ok_assign rfl) rfl rfl rfl ?_)
       all_goals (refine WL.nil ?_)
       skip))
  all_goals (first
    | (fail_if_success (refine Br.mk (i := 4) ?_))
    | (refine Br.mk (i := 4) ?_
       all_goals (refine WC.skip ?_)
       skip))
  all_goals (first | (refine Br.keep ?_) | (repeat' (with_reducible first | refine thenP_n ?_ | refine blockP_n ?_)))
  all_goals (first | (refine Br.keep ?_) | (refine WC.region ?_))
  all_goals (first | (refine Br.keep ?_) | (refine WL.step (ok_move rfl) rfl rfl rfl ?_))
  all_goals (first | (refine Br.keep ?_) | (first | (refine WL.step (ok_addI rfl rfl (by omega)) rfl rfl rfl ?_) | (refine WL.step (ok_add rfl rfl) rfl rfl rfl ?_)))
  all_goals (first | (refine Br.keep ?_) | (refine WL.step (ok_assign rfl) rfl rfl rfl ?_))
  all_goals (first | (refine Br.keep ?_) | (refine WL.nil ?_))
  all_goals (first | (refine Br.keep ?_) | (repeat' (with_reducible first | refine thenP_n ?_ | refine blockP_n ?_)))
  all_goals (first
               | (refine Br.keep ?_)
               | (exact ⟨(i + 1, _), ⟨rfl, rfl, rfl, rfl, rfl, trivial⟩, (by first
                   | exact ⟨rfl, by simp; omega, hk.take hpos hy (by omega) (by omega)⟩
                   | exact ⟨rfl, by simp; omega, hk.keep hy (by omega)⟩), (by simp; omega)⟩))
  all_goals (try (refine Br.mk (i := 1002) ?_))
  all_goals (repeat' (with_reducible first | refine thenP_n ?_ | refine blockP_n ?_))
  all_goals (refine WC.sub [(3, _), (4, _), (6, _)] ⟨rfl, rfl, rfl, trivial⟩ ?_)
  all_goals (refine WC.seq ?_)
  all_goals (refine WC.seq ?_)
  all_goals (refine WC.region ?_)
  all_goals (have hil : i = l.length := by omega
             subst hil)
  all_goals (refine WL.step (ok_move rfl) rfl rfl rfl ?_)
  all_goals (first | (refine WL.step (OkP.bool_t (by omega) (ok_eql rfl rfl)) rfl rfl rfl ?_) | (refine WL.step (OkP.bool_f (by omega) (ok_eql rfl rfl)) rfl rfl rfl ?_) | (refine WL.step (ok_eql rfl rfl) rfl rfl rfl ?_))
  all_goals (refine WL.nil ?_)
  all_goals (repeat' (with_reducible first | refine thenP_n ?_ | refine blockP_n ?_))
  all_goals (first | refine WC.condB_t 5 rfl ?_ | refine WC.condB_f 6 rfl ?_ | (refine WC.condB 5 6 rfl (fun hb => ?_) (fun hb => ?_) <;> (first | replace hb := of_decide_eq_true hb | replace hb := of_decide_eq_false hb | replace hb := of_decide_eq_false (nt hb) | replace hb := of_decide_eq_true (nf hb) | skip)))
  all_goals (first
    | (fail_if_success (refine Br.mk (i := 5) ?_))
    | (refine Br.mk (i := 5) ?_
       all_goals (refine WC.seq ?_)
       all_goals (refine WC.region ?_)
       all_goals (refine WL.step (ok_move rfl) rfl rfl rfl ?_)
       all_goals (refine WL.step (ok_assign rfl) rfl rfl rfl ?_)
       all_goals (refine WL.nil ?_)
       all_goals (repeat' (with_reducible first | refine thenP_n ?_ | refine blockP_n ?_))
       all_goals (refine WC.sub [(2, _)] ⟨rfl, trivial⟩ ?_)
       all_goals (refine WC.ret ?_)
       all_goals (repeat' (with_reducible first | refine thenP_r ?_ | refine blockP_r ?_))
       all_goals (refine retP_1 _ ⟨rfl, trivial⟩ ?_)
       all_goals (exact ⟨M, hu.all hk (by omega), by omega, ho3, hX2.trans hx3, fun k hk => by have := hf3 k hk; omega⟩)
       skip))
  all_goals (first
    | (fail_if_success (refine Br.mk (i := 6) ?_))
    | (refine Br.mk (i := 6) ?_
       all_goals (refine WC.skip ?_)
       skip))
  all_goals (repeat' (with_reducible first | refine thenP_n ?_ | refine blockP_n ?_))
  all_goals (refine WC.seq ?_)
  all_goals (refine WC.region ?_)
  all_goals (have hsm := hk.som (by omega)
             have hab := above_lt hsm.1 hsm.2.1)
  all_goals (refine WL.step (ok_move rfl) rfl rfl rfl ?_)
  all_goals (refine WL.step (ok_move rfl) rfl rfl rfl ?_)
  all_goals (refine WL.step (ok_move rfl) rfl rfl rfl ?_)
  all_goals (refine WL.step (ok_move rfl) rfl rfl rfl ?_)
  all_goals (refine WL.call (vs := [_, _]) rfl (fun a w => Tryd.call49 a w) rfl (count46 l least (hr2.ext0 hx3) (by omega)) rfl rfl rfl ?_
             rintro _ hz ⟨rfl, _⟩
             subst hz)
  all_goals (refine WL.step (ok_buildF (vs := [_, _]) (cs := [_, _]) (fun | [a0, a1] => [a0, a1] | _ => []) rfl rfl (by kernel_rfl)) rfl rfl rfl ?_)
  all_goals (refine WL.stepR (okE_buildSlice (vs := [_]) (cs := [_, _]) (fun | [.agg ⟨[a0, a1]⟩] => [a0, a1] | _ => []) Tryd.underlying27 rfl rfl (by kernel_rfl)) rfl rfl rfl ?_
             rintro _ h6 ⟨b6, rfl, hg6, hb6, hx6⟩)
  all_goals (refine WL.stepR (ok_append (sz := 2) (bytes := 16) rfl Tryd.underlying27 (show Tryd.prog.info? 44 = some Tryd.t44 by kernel_rfl) rfl rfl rfl rfl (by decide) rfl rfl (ho3.ext hx6 (fun _ _ => nos)) (rd_blk hb6 rfl) (cnC_one (least, (l.count least : Int))) (by simp only [maxLen]; omega) (by omega)) rfl rfl rfl ?_
             rintro v7 h7 ⟨ho7, hx7, hl7⟩)
  all_goals (refine WL.step (ok_assign rfl) rfl rfl rfl ?_)
  all_goals (refine WL.nil ?_)
  all_goals (repeat' (with_reducible first | refine thenP_n ?_ | refine blockP_n ?_))
  all_goals (refine WC.sub [(3, _), (4, _), (6, _)] ⟨rfl, rfl, rfl, trivial⟩ ?_)
  all_goals (refine WC.region ?_)
  all_goals (refine WL.step (ok_move rfl) rfl rfl rfl ?_)
  all_goals (refine WL.step (ok_assign rfl) rfl rfl rfl ?_)
  all_goals (refine WL.nil ?_)
  all_goals (repeat' (with_reducible first | refine thenP_n ?_ | refine blockP_n ?_))
  all_goals (exact ⟨(_, _, M ++ [(least, (l.count least : Int))]), ⟨rfl, rfl, rfl, trivial⟩, (by exact ⟨hu.next hk (by omega), by simp; omega, by simpa [cnC] using ho7, (hx3.trans hx6).trans' hx7 (fun q hq e => by have := hf3 q e; omega), fresh_of hl7 hf3 (by have := hx3.size; have := hx6.size; omega)⟩), (by exact hab)⟩)
  all_goals (repeat' (with_reducible first | refine thenP_n ?_ | refine blockP_n ?_))
  all_goals (refine retP_n [] trivial ?_)
  all_goals (exact ⟨M, hu.all hk (by omega), by omega, ho3, hX2.trans hx3, fun k hk => by have := hf3 k hk; omega⟩)

/-! ### compares -/
theorem take_sameX {α : Type} {l m : List α} {k : Nat} {x : α} (h : l.take k = m.take k) (hl : l[k]? = some x) (hm : m[k]? = some x) : l.take (k + 1) = m.take (k + 1) := by
  rw [List.take_add_one, List.take_add_one, hl, hm, h]
theorem same_ofX {α : Type} {l m : List α} {k : Nat} (h : l.take k = m.take k) (hl : l.length ≤ k) (hm : m.length ≤ k) : l = m := by
  rwa [List.take_of_length_le hl, List.take_of_length_le hm] at h
theorem ne_of_atX {α : Type} {l m : List α} {k : Nat} {x y : α} (hl : l[k]? = some x) (hm : m[k]? = some y) (hne : x ≠ y) : l ≠ m := by
  rintro rfl
  rw [hl] at hm
  exact hne (Option.some.inj hm)
set_option maxRecDepth 100000 in
theorem equal_cn {h : Heap} {v w : Value} (l m : List Cn) (hr : Rd h v 2 l.length (l.flatMap cnC)) (hs : Rd h w 2 m.length (m.flatMap cnC)) (hl : l.length ≤ 1000000) :
    CallsH Tryd.prog 64 ⟨[v, w]⟩ h fun u h' => u = .bool (decide (l = m)) ∧ h' = h := by
  obtain ⟨A, c, rfl, _⟩ := id hr
  obtain ⟨B, d, rfl, _⟩ := id hs
  by_cases hlm : l.length = m.length
  ·
    refine calls [(0, _), (1, _)] Tryd.func64 rfl Tryd.ntmps64 rfl ⟨rfl, rfl, trivial⟩ ?_
    all_goals (refine WC.seq ?_)
    all_goals (refine WC.region ?_)
    all_goals (refine WL.step (ok_assign rfl) rfl rfl rfl ?_)
    all_goals (refine WL.nil ?_)
    all_goals (repeat' (with_reducible first | refine thenP_n ?_ | refine blockP_n ?_))
    all_goals (refine WC.seq ?_)
    all_goals (refine WC.seq ?_)
    all_goals (refine WC.region ?_)
    all_goals (refine WL.step (ok_move rfl) rfl rfl rfl ?_)
    all_goals (refine WL.step (ok_lenL rfl Tryd.underlying27 rfl) rfl rfl rfl ?_)
    all_goals (refine WL.step (ok_move rfl) rfl rfl rfl ?_)
    all_goals (refine WL.step (ok_lenL rfl Tryd.underlying27 rfl) rfl rfl rfl ?_)
    all_goals (first | (refine WL.step (OkP.nbool_t (by omega) (ok_neq rfl rfl)) rfl rfl rfl ?_) | (refine WL.step (OkP.nbool_f (by omega) (ok_neq rfl rfl)) rfl rfl rfl ?_) | (refine WL.step (ok_neq rfl rfl) rfl rfl rfl ?_))
    all_goals (refine WL.nil ?_)
    all_goals (repeat' (with_reducible first | refine thenP_n ?_ | refine blockP_n ?_))
    all_goals (refine WC.sub [(0, _), (1, _), (10, _)] ⟨rfl, rfl, rfl, trivial⟩ ?_)
    all_goals (first | refine WC.condB_t 1 rfl ?_ | refine WC.condB_f 2 rfl ?_ | (refine WC.condB 1 2 rfl (fun hb => ?_) (fun hb => ?_) <;> (first | replace hb := of_decide_eq_true hb | replace hb := of_decide_eq_false hb | replace hb := of_decide_eq_false (nt hb) | replace hb := of_decide_eq_true (nf hb) | skip)))
    all_goals (first
      | (fail_if_success (refine Br.mk (i := 1) ?_))
      | (refine Br.mk (i := 1) ?_
         all_goals (refine WC.seq ?_)
         all_goals (refine WC.region ?_)
         all_goals (refine WL.step (ok_assign rfl) rfl rfl rfl ?_)
         all_goals (refine WL.nil ?_)
         all_goals (repeat' (with_reducible first | refine thenP_n ?_ | refine blockP_n ?_))
         all_goals (refine WC.ret ?_)
         all_goals (repeat' (with_reducible first | refine thenP_r ?_ | refine blockP_r ?_))
         all_goals (refine retP_1 _ ⟨rfl, trivial⟩ ?_)
         all_goals (first
                     | exact ⟨by rw [decide_eq_true (same_ofX hn (by omega) (by omega))], rfl⟩
                     | exact ⟨by rw [decide_eq_false (ne_of_atX hx hy hxy)], rfl⟩)
         skip))
    all_goals (first
      | (fail_if_success (refine Br.mk (i := 2) ?_))
      | (refine Br.mk (i := 2) ?_
         all_goals (refine WC.skip ?_)
         skip))
    all_goals (repeat' (with_reducible first | refine thenP_n ?_ | refine blockP_n ?_))
    all_goals (refine WC.seq ?_)
    all_goals (refine WC.seq ?_)
    all_goals (refine WC.region ?_)
    all_goals (refine WL.step (ok_move rfl) rfl rfl rfl ?_)
    all_goals (refine WL.step (ok_lenL rfl Tryd.underlying27 rfl) rfl rfl rfl ?_)
    all_goals (refine WL.step (ok_move rfl) rfl rfl rfl ?_)
    all_goals (refine WL.nil ?_)
    all_goals (repeat' (with_reducible first | refine thenP_n ?_ | refine blockP_n ?_))
    all_goals (refine WC.block ?_)
    -- loop 0: slots that turn [13], that stay [0, 1, 12]
    all_goals (refine WC.loopG (X := Nat) (fun x => ([(13, In (x : Int))] : Fr)) [(0, _), (1, _), (12, _)] (fun k h' => h' = h ∧ k ≤ l.length ∧ l.take k = m.take k) (fun k => l.length - k) (0) ⟨rfl, rfl, rfl, rfl, trivial⟩ (by exact ⟨rfl, Nat.zero_le _, by simp⟩) ?_)
    all_goals (rintro k h9 ⟨hz, hk, hn⟩
               subst h9)
    all_goals (refine WC.sub [(13, _), (0, _), (1, _), (12, _)] ⟨rfl, rfl, rfl, rfl, trivial⟩ ?_)
    all_goals (refine WC.seq ?_)
    all_goals (refine WC.region ?_)
    all_goals (first | (refine WL.step (OkP.bool_t (by omega) (ok_lss rfl rfl)) rfl rfl rfl ?_) | (refine WL.step (OkP.bool_f (by omega) (ok_lss rfl rfl)) rfl rfl rfl ?_) | (refine WL.step (ok_lss rfl rfl) rfl rfl rfl ?_))
    all_goals (refine WL.nil ?_)
    all_goals (repeat' (with_reducible first | refine thenP_n ?_ | refine blockP_n ?_))
    all_goals (refine WC.seq ?_)
    all_goals (first | refine WC.condB_t 3 rfl ?_ | refine WC.condB_f 4 rfl ?_ | (refine WC.condB 3 4 rfl (fun hb => ?_) (fun hb => ?_) <;> (first | replace hb := of_decide_eq_true hb | replace hb := of_decide_eq_false hb | replace hb := of_decide_eq_false (nt hb) | replace hb := of_decide_eq_true (nf hb) | skip)))
    all_goals (first
      | (fail_if_success (refine Br.mk (i := 3) ?_))
      | (refine Br.mk (i := 3) ?_
         all_goals (refine WC.skip ?_)
         skip))
    all_goals (first
      | (fail_if_success (refine Br.mk (i := 4) ?_))
      | (refine Br.mk (i := 4) ?_
         all_goals (refine WC.exit ?_)
         all_goals (repeat' (with_reducible first | refine thenP_x ?_ | refine blockP_miss rfl ?_ | refine blockP_hit ?_ | refine blockP_n ?_ | refine thenP_n ?_))
         all_goals (refine Br.out (i := 1000) ?_)
         skip))
    all_goals (first | (refine Br.keep ?_) | (repeat' (with_reducible first | refine thenP_n ?_ | refine blockP_n ?_)))
    all_goals (first | (refine Br.keep ?_) | (refine WC.seq ?_))
    all_goals (first | (refine Br.keep ?_) | (refine WC.block ?_))
    all_goals (first | (refine Br.keep ?_) | (refine WC.seq ?_))
    all_goals (first | (refine Br.keep ?_) | (refine WC.region ?_))
    all_goals (first
                 | (refine Br.keep ?_)
                 | (obtain ⟨bL, oL, hA, hbL, hat⟩ := Rd.at_ hr (by omega)
                    obtain ⟨bM, oM, hB, hbM, hbt⟩ := Rd.at_ hs (by omega)
                    obtain ⟨⟨xa, xb⟩, hx⟩ : ∃ y, l[k]? = some y := ⟨_, List.getElem?_eq_getElem (by omega)⟩
                    obtain ⟨⟨ya, yb⟩, hy⟩ : ∃ y, m[k]? = some y := ⟨_, List.getElem?_eq_getElem (by omega)⟩
                    have hc : At h bL (oL + k * 2) [In xa, In xb] := At.elem cnC_len hat hx
                    have hd : At h bM (oM + k * 2) [In ya, In yb] := At.elem cnC_len hbt hy
                    by_cases hxy : ((xa, xb) : Cn) = (ya, yb)))
    all_goals (first | (refine Br.keep ?_) | (refine WL.step (ok_move rfl) rfl rfl rfl ?_))
    all_goals (first | (refine Br.keep ?_) | (refine WL.step (ok_assign rfl) rfl rfl rfl ?_))
    all_goals (first | (refine Br.keep ?_) | (refine WL.nil ?_))
    all_goals (first | (refine Br.keep ?_) | (repeat' (with_reducible first | refine thenP_n ?_ | refine blockP_n ?_)))
    all_goals (first | (refine Br.keep ?_) | (refine WC.seq ?_))
    all_goals (first | (refine Br.keep ?_) | (refine WC.drawE fol (by kernel_rfl) ?_))
    all_goals (first | (refine Br.keep ?_) | (refine WQ.stepE (ok_move rfl) rfl rfl rfl ?_))
    all_goals (first | (refine Br.keep ?_) | (refine WQ.stepE (ok_move rfl) rfl rfl rfl ?_))
    all_goals (first | (refine Br.keep ?_) | (refine WQ.stepE (ok_idxAddrA Tryd.underlying27 (fun w => Tryd.sizeOf44 w) rfl rfl rfl (by omega) (by first | rfl | assumption)) rfl rfl rfl ?_))
    all_goals (first | (refine Br.keep ?_) | (refine WQ.stepE (ok_loadN (fun w => Tryd.isAgg44 w) (fun w => Tryd.sizeOf44 w) rfl rfl (by assumption)) rfl rfl rfl ?_))
    all_goals (first | (refine Br.keep ?_) | (refine WQ.stepE (ok_move rfl) rfl rfl rfl ?_))
    all_goals (first | (refine Br.keep ?_) | (refine WQ.stepE (ok_move rfl) rfl rfl rfl ?_))
    all_goals (first | (refine Br.keep ?_) | (refine WQ.stepE (ok_idxAddrA Tryd.underlying27 (fun w => Tryd.sizeOf44 w) rfl rfl rfl (by omega) (by first | rfl | assumption)) rfl rfl rfl ?_))
    all_goals (first | (refine Br.keep ?_) | (refine WQ.stepE (ok_loadN (fun w => Tryd.isAgg44 w) (fun w => Tryd.sizeOf44 w) rfl rfl (by assumption)) rfl rfl rfl ?_))
    all_goals (first
                 | (refine Br.keep ?_)
                 | (first
                     | refine WQ.stepE (OkP.nbool_f ((cnS_inj (xa, xb) (ya, yb)).2 hxy) (ok_neqF (us := [.i .i64 xa, .i .i64 xb]) (vs := [.i .i64 ya, .i .i64 yb]) [.i .i64, .i .i64] (by kernel_rfl) rfl rfl rfl rfl)) rfl rfl rfl ?_
                     | refine WQ.stepE (OkP.nbool_t (fun e => hxy ((cnS_inj (xa, xb) (ya, yb)).1 e)) (ok_neqF (us := [.i .i64 xa, .i .i64 xb]) (vs := [.i .i64 ya, .i .i64 yb]) [.i .i64, .i .i64] (by kernel_rfl) rfl rfl rfl rfl)) rfl rfl rfl ?_))
    all_goals (first | (refine Br.keep ?_) | (refine WQ.nil ?_))
    all_goals (first | (refine Br.keep ?_) | (repeat' (with_reducible first | refine thenP_n ?_ | refine blockP_n ?_)))
    all_goals (first | (refine Br.keep ?_) | (refine WC.sub [(0, _), (1, _), (12, _), (13, _), (24, _)] ⟨rfl, rfl, rfl, rfl, rfl, trivial⟩ ?_))
    all_goals (first | (refine Br.keep ?_) | (first | refine WC.condB_t 5 rfl ?_ | refine WC.condB_f 6 rfl ?_ | (refine WC.condB 5 6 rfl (fun hb => ?_) (fun hb => ?_) <;> (first | replace hb := of_decide_eq_true hb | replace hb := of_decide_eq_false hb | replace hb := of_decide_eq_false (nt hb) | replace hb := of_decide_eq_true (nf hb) | skip))))
    all_goals (first
      | (fail_if_success (refine Br.mk (i := 5) ?_))
      | (refine Br.mk (i := 5) ?_
         all_goals (refine WC.seq ?_)
         all_goals (refine WC.region ?_)
         all_goals (refine WL.step (ok_assign rfl) rfl rfl rfl ?_)
         all_goals (refine WL.nil ?_)
         all_goals (repeat' (with_reducible first | refine thenP_n ?_ | refine blockP_n ?_))
         all_goals (refine WC.sub [(4, _)] ⟨rfl, trivial⟩ ?_)
         all_goals (refine WC.ret ?_)
         all_goals (repeat' (with_reducible first | refine thenP_r ?_ | refine blockP_r ?_))
         all_goals (refine retP_1 _ ⟨rfl, trivial⟩ ?_)
         all_goals (first
                     | exact ⟨by rw [decide_eq_true (same_ofX hn (by omega) (by omega))], rfl⟩
                     | exact ⟨by rw [decide_eq_false (ne_of_atX hx hy hxy)], rfl⟩)
         skip))
    all_goals (first
      | (fail_if_success (refine Br.mk (i := 6) ?_))
      | (refine Br.mk (i := 6) ?_
         all_goals (refine WC.skip ?_)
         skip))
    all_goals (first | (refine Br.keep ?_) | (repeat' (with_reducible first | refine thenP_n ?_ | refine blockP_n ?_)))
    all_goals (first | (refine Br.keep ?_) | (refine WC.region ?_))
    all_goals (first | (refine Br.keep ?_) | (first | (refine WL.step (ok_addI rfl rfl (by omega)) rfl rfl rfl ?_) | (refine WL.step (ok_add rfl rfl) rfl rfl rfl ?_)))
    all_goals (first | (refine Br.keep ?_) | (refine WL.step (ok_move rfl) rfl rfl rfl ?_))
    all_goals (first | (refine Br.keep ?_) | (refine WL.nil ?_))
    all_goals (first | (refine Br.keep ?_) | (repeat' (with_reducible first | refine thenP_n ?_ | refine blockP_n ?_)))
    all_goals (first | (refine Br.keep ?_) | (exact ⟨k + 1, ⟨rfl, rfl, rfl, rfl, trivial⟩, (by exact ⟨rfl, by omega, take_sameX hn hx (by rw [hxy]; exact hy)⟩), (by omega)⟩))
    all_goals (try (refine Br.mk (i := 1000) ?_))
    all_goals (repeat' (with_reducible first | refine thenP_n ?_ | refine blockP_n ?_))
    all_goals (refine WC.sub [] trivial ?_)
    all_goals (refine WC.seq ?_)
    all_goals (refine WC.region ?_)
    all_goals (refine WL.step (ok_assign rfl) rfl rfl rfl ?_)
    all_goals (refine WL.nil ?_)
    all_goals (repeat' (with_reducible first | refine thenP_n ?_ | refine blockP_n ?_))
    all_goals (refine WC.ret ?_)
    all_goals (repeat' (with_reducible first | refine thenP_r ?_ | refine blockP_r ?_))
    all_goals (refine retP_1 _ ⟨rfl, trivial⟩ ?_)
    all_goals (first
                | exact ⟨by rw [decide_eq_true (same_ofX hn (by omega) (by omega))], rfl⟩
                | exact ⟨by rw [decide_eq_false (ne_of_atX hx hy hxy)], rfl⟩)
  · have hne : l ≠ m := fun e => hlm (by rw [e])
    refine calls [(0, _), (1, _)] Tryd.func64 rfl Tryd.ntmps64 rfl ⟨rfl, rfl, trivial⟩ ?_
    all_goals (refine WC.seq ?_)
    all_goals (refine WC.region ?_)
    all_goals (refine WL.step (ok_assign rfl) rfl rfl rfl ?_)
    all_goals (refine WL.nil ?_)
    all_goals (repeat' (with_reducible first | refine thenP_n ?_ | refine blockP_n ?_))
    all_goals (refine WC.seq ?_)
    all_goals (refine WC.seq ?_)
    all_goals (refine WC.region ?_)
    all_goals (refine WL.step (ok_move rfl) rfl rfl rfl ?_)
    all_goals (refine WL.step (ok_lenL rfl Tryd.underlying27 rfl) rfl rfl rfl ?_)
    all_goals (refine WL.step (ok_move rfl) rfl rfl rfl ?_)
    all_goals (refine WL.step (ok_lenL rfl Tryd.underlying27 rfl) rfl rfl rfl ?_)
    all_goals (first | (refine WL.step (OkP.nbool_t (by omega) (ok_neq rfl rfl)) rfl rfl rfl ?_) | (refine WL.step (OkP.nbool_f (by omega) (ok_neq rfl rfl)) rfl rfl rfl ?_) | (refine WL.step (ok_neq rfl rfl) rfl rfl rfl ?_))
    all_goals (refine WL.nil ?_)
    all_goals (repeat' (with_reducible first | refine thenP_n ?_ | refine blockP_n ?_))
    all_goals (refine WC.sub [(0, _), (1, _), (10, _)] ⟨rfl, rfl, rfl, trivial⟩ ?_)
    all_goals (first | refine WC.condB_t 1 rfl ?_ | refine WC.condB_f 2 rfl ?_ | (refine WC.condB 1 2 rfl (fun hb => ?_) (fun hb => ?_) <;> (first | replace hb := of_decide_eq_true hb | replace hb := of_decide_eq_false hb | replace hb := of_decide_eq_false (nt hb) | replace hb := of_decide_eq_true (nf hb) | skip)))
    all_goals (first
      | (fail_if_success (refine Br.mk (i := 1) ?_))
      | (refine Br.mk (i := 1) ?_
         all_goals (refine WC.seq ?_)
         all_goals (refine WC.region ?_)
         all_goals (refine WL.step (ok_assign rfl) rfl rfl rfl ?_)
         all_goals (refine WL.nil ?_)
         all_goals (repeat' (with_reducible first | refine thenP_n ?_ | refine blockP_n ?_))
         all_goals (refine WC.ret ?_)
         all_goals (repeat' (with_reducible first | refine thenP_r ?_ | refine blockP_r ?_))
         all_goals (refine retP_1 _ ⟨rfl, trivial⟩ ?_)
         all_goals (exact ⟨by rw [decide_eq_false hne], rfl⟩)
         skip))
    all_goals (first
      | (fail_if_success (refine Br.mk (i := 2) ?_))
      | (refine Br.mk (i := 2) ?_
         all_goals (refine WC.skip ?_)
         skip))
    all_goals (repeat' (with_reducible first | refine thenP_n ?_ | refine blockP_n ?_))
    all_goals (refine WC.seq ?_)
    all_goals (refine WC.seq ?_)
    all_goals (refine WC.region ?_)
    all_goals (refine WL.step (ok_move rfl) rfl rfl rfl ?_)
    all_goals (refine WL.step (ok_lenL rfl Tryd.underlying27 rfl) rfl rfl rfl ?_)
    all_goals (refine WL.step (ok_move rfl) rfl rfl rfl ?_)
    all_goals (refine WL.nil ?_)
    all_goals (repeat' (with_reducible first | refine thenP_n ?_ | refine blockP_n ?_))
    all_goals (refine WC.block ?_)
    -- loop 0: slots that turn [13], that stay [0, 1, 12]
    all_goals (refine WC.loopG (fun x => (None : Fr)) [(0, _), (1, _), (12, _)] (None) (None) (None) ⟨rfl, rfl, rfl, rfl, trivial⟩ (by exact ⟨⟩) ?_)
    all_goals (rintro x h1 hI)
    all_goals (refine WC.sub [(13, _), (0, _), (1, _), (12, _)] ⟨rfl, rfl, rfl, rfl, trivial⟩ ?_)
    all_goals (refine WC.seq ?_)
    all_goals (refine WC.region ?_)
    all_goals (first | (refine WL.step (OkP.bool_t (by omega) (ok_lss rfl rfl)) rfl rfl rfl ?_) | (refine WL.step (OkP.bool_f (by omega) (ok_lss rfl rfl)) rfl rfl rfl ?_) | (refine WL.step (ok_lss rfl rfl) rfl rfl rfl ?_))
    all_goals (refine WL.nil ?_)
    all_goals (repeat' (with_reducible first | refine thenP_n ?_ | refine blockP_n ?_))
    all_goals (refine WC.seq ?_)
    all_goals (first | refine WC.condB_t 3 rfl ?_ | refine WC.condB_f 4 rfl ?_ | (refine WC.condB 3 4 rfl (fun hb => ?_) (fun hb => ?_) <;> (first | replace hb := of_decide_eq_true hb | replace hb := of_decide_eq_false hb | replace hb := of_decide_eq_false (nt hb) | replace hb := of_decide_eq_true (nf hb) | skip)))
    all_goals (first
      | (fail_if_success (refine Br.mk (i := 3) ?_))
      | (refine Br.mk (i := 3) ?_
         all_goals (refine WC.skip ?_)
         skip))
    all_goals (first
      | (fail_if_success (refine Br.mk (i := 4) ?_))
      | (refine Br.mk (i := 4) ?_
         all_goals (refine WC.exit ?_)
         all_goals (repeat' (with_reducible first | refine thenP_x ?_ | refine blockP_miss rfl ?_ | refine blockP_hit ?_ | refine blockP_n ?_ | refine thenP_n ?_))
         all_goals (refine Br.out (i := 1000) ?_)
         skip))
    all_goals (first | (refine Br.keep ?_) | (repeat' (with_reducible first | refine thenP_n ?_ | refine blockP_n ?_)))
    all_goals (first | (refine Br.keep ?_) | (refine WC.seq ?_))
    all_goals (first | (refine Br.keep ?_) | (refine WC.block ?_))
    all_goals (first | (refine Br.keep ?_) | (refine WC.seq ?_))
    all_goals (first | (refine Br.keep ?_) | (refine WC.region ?_))
    all_goals (first | (refine Br.keep ?_) | (refine WL.step (ok_move rfl) rfl rfl rfl ?_))
    all_goals (first | (refine Br.keep ?_) | (refine WL.step (ok_assign rfl) rfl rfl rfl ?_))
    all_goals (first | (refine Br.keep ?_) | (refine WL.nil ?_))
    all_goals (first | (refine Br.keep ?_) | (repeat' (with_reducible first | refine thenP_n ?_ | refine blockP_n ?_)))
    all_goals (first | (refine Br.keep ?_) | (refine WC.seq ?_))
    all_goals (first | (refine Br.keep ?_) | (refine WC.drawE fol (by kernel_rfl) ?_))
    all_goals (first | (refine Br.keep ?_) | (refine WQ.stepE (ok_move rfl) rfl rfl rfl ?_))
    all_goals (first | (refine Br.keep ?_) | (refine WQ.stepE (ok_move rfl) rfl rfl rfl ?_))
    all_goals (first | (refine Br.keep ?_) | (refine WQ.stepE (ok_idxAddrA Tryd.underlying27 (fun w => Tryd.sizeOf44 w) rfl rfl rfl (by omega) (by first | rfl | assumption)) rfl rfl rfl ?_))
    all_goals (first | (refine Br.keep ?_) | (refine WQ.stepE (ok_loadN (fun w => Tryd.isAgg44 w) (fun w => Tryd.sizeOf44 w) rfl rfl (by assumption)) rfl rfl rfl ?_))
    all_goals (first | (refine Br.keep ?_) | (refine WQ.stepE (ok_move rfl) rfl rfl rfl ?_))
    all_goals (first | (refine Br.keep ?_) | (refine WQ.stepE (ok_move rfl) rfl rfl rfl ?_))
    all_goals (first | (refine Br.keep ?_) | (refine WQ.stepE (ok_idxAddrA Tryd.underlying27 (fun w => Tryd.sizeOf44 w) rfl rfl rfl (by omega) (by first | rfl | assumption)) rfl rfl rfl ?_))
    all_goals (first | (refine Br.keep ?_) | (refine WQ.stepE (ok_loadN (fun w => Tryd.isAgg44 w) (fun w => Tryd.sizeOf44 w) rfl rfl (by assumption)) rfl rfl rfl ?_))
    all_goals (first | (refine Br.keep ?_) | (fail "no rule for binOp at 6.8"))
    all_goals (first | (refine Br.keep ?_) | (refine WQ.nil ?_))
    all_goals (first | (refine Br.keep ?_) | (repeat' (with_reducible first | refine thenP_n ?_ | refine blockP_n ?_)))
    all_goals (first | (refine Br.keep ?_) | (refine WC.sub [(0, _), (1, _), (12, _), (13, _), (24, _)] ⟨rfl, rfl, rfl, rfl, rfl, trivial⟩ ?_))
    all_goals (first | (refine Br.keep ?_) | (first | refine WC.condB_t 5 rfl ?_ | refine WC.condB_f 6 rfl ?_ | (refine WC.condB 5 6 rfl (fun hb => ?_) (fun hb => ?_) <;> (first | replace hb := of_decide_eq_true hb | replace hb := of_decide_eq_false hb | replace hb := of_decide_eq_false (nt hb) | replace hb := of_decide_eq_true (nf hb) | skip))))
    all_goals (first
      | (fail_if_success (refine Br.mk (i := 5) ?_))
      | (refine Br.mk (i := 5) ?_
         all_goals (refine WC.seq ?_)
         all_goals (refine WC.region ?_)
         all_goals (refine WL.step (ok_assign rfl) rfl rfl rfl ?_)
         all_goals (refine WL.nil ?_)
         all_goals (repeat' (with_reducible first | refine thenP_n ?_ | refine blockP_n ?_))
         all_goals (refine WC.sub [(4, _)] ⟨rfl, trivial⟩ ?_)
         all_goals (refine WC.ret ?_)
         all_goals (repeat' (with_reducible first | refine thenP_r ?_ | refine blockP_r ?_))
         all_goals (refine retP_1 _ ⟨rfl, trivial⟩ ?_)
         all_goals (exact ⟨by rw [decide_eq_false hne], rfl⟩)
         skip))
    all_goals (first
      | (fail_if_success (refine Br.mk (i := 6) ?_))
      | (refine Br.mk (i := 6) ?_
         all_goals (refine WC.skip ?_)
         skip))
    all_goals (first | (refine Br.keep ?_) | (repeat' (with_reducible first | refine thenP_n ?_ | refine blockP_n ?_)))
    all_goals (first | (refine Br.keep ?_) | (refine WC.region ?_))
    all_goals (first | (refine Br.keep ?_) | (first | (refine WL.step (ok_addI rfl rfl (by omega)) rfl rfl rfl ?_) | (refine WL.step (ok_add rfl rfl) rfl rfl rfl ?_)))
    all_goals (first | (refine Br.keep ?_) | (refine WL.step (ok_move rfl) rfl rfl rfl ?_))
    all_goals (first | (refine Br.keep ?_) | (refine WL.nil ?_))
    all_goals (first | (refine Br.keep ?_) | (repeat' (with_reducible first | refine thenP_n ?_ | refine blockP_n ?_)))
    all_goals (first | (refine Br.keep ?_) | (exact ⟨None, ⟨rfl, rfl, rfl, rfl, trivial⟩, (by exact ⟨⟩), (by simp; omega)⟩))
    all_goals (try (refine Br.mk (i := 1000) ?_))
    all_goals (repeat' (with_reducible first | refine thenP_n ?_ | refine blockP_n ?_))
    all_goals (refine WC.sub [] trivial ?_)
    all_goals (refine WC.seq ?_)
    all_goals (refine WC.region ?_)
    all_goals (refine WL.step (ok_assign rfl) rfl rfl rfl ?_)
    all_goals (refine WL.nil ?_)
    all_goals (repeat' (with_reducible first | refine thenP_n ?_ | refine blockP_n ?_))
    all_goals (refine WC.ret ?_)
    all_goals (repeat' (with_reducible first | refine thenP_r ?_ | refine blockP_r ?_))
    all_goals (refine retP_1 _ ⟨rfl, trivial⟩ ?_)
    all_goals (exact ⟨by rw [decide_eq_false hne], rfl⟩)
set_option maxRecDepth 100000 in
theorem counts46 {h : Heap} {v w : Value} (l m : List Cn) (hr : Rd h v 2 l.length (l.flatMap cnC)) (hs : Rd h w 2 m.length (m.flatMap cnC)) (hl : l.length ≤ 1000000) :
    CallsH Tryd.prog 15 ⟨[v, w]⟩ h fun u h' => u = .bool (decide (l = m)) ∧ h' = h := by
  obtain ⟨A, c, rfl, _⟩ := id hr
  obtain ⟨B, d, rfl, _⟩ := id hs
  by_cases hlm : l.length = m.length
  ·
    refine calls [(0, _), (1, _)] Tryd.func15 rfl Tryd.ntmps15 rfl ⟨rfl, rfl, trivial⟩ ?_
    all_goals (refine WC.seq ?_)
    all_goals (refine WC.region ?_)
    all_goals (refine WL.step (ok_assign rfl) rfl rfl rfl ?_)
    all_goals (refine WL.nil ?_)
    all_goals (repeat' (with_reducible first | refine thenP_n ?_ | refine blockP_n ?_))
    all_goals (refine WC.seq ?_)
    all_goals (refine WC.seq ?_)
    all_goals (refine WC.region ?_)
    all_goals (refine WL.step (ok_move rfl) rfl rfl rfl ?_)
    all_goals (refine WL.step (ok_lenL rfl Tryd.underlying27 rfl) rfl rfl rfl ?_)
    all_goals (refine WL.step (ok_move rfl) rfl rfl rfl ?_)
    all_goals (refine WL.step (ok_lenL rfl Tryd.underlying27 rfl) rfl rfl rfl ?_)
    all_goals (first | (refine WL.step (OkP.nbool_t (by omega) (ok_neq rfl rfl)) rfl rfl rfl ?_) | (refine WL.step (OkP.nbool_f (by omega) (ok_neq rfl rfl)) rfl rfl rfl ?_) | (refine WL.step (ok_neq rfl rfl) rfl rfl rfl ?_))
    all_goals (refine WL.nil ?_)
    all_goals (repeat' (with_reducible first | refine thenP_n ?_ | refine blockP_n ?_))
    all_goals (refine WC.sub [(0, _), (1, _), (10, _)] ⟨rfl, rfl, rfl, trivial⟩ ?_)
    all_goals (first | refine WC.condB_t 1 rfl ?_ | refine WC.condB_f 2 rfl ?_ | (refine WC.condB 1 2 rfl (fun hb => ?_) (fun hb => ?_) <;> (first | replace hb := of_decide_eq_true hb | replace hb := of_decide_eq_false hb | replace hb := of_decide_eq_false (nt hb) | replace hb := of_decide_eq_true (nf hb) | skip)))
    all_goals (first
      | (fail_if_success (refine Br.mk (i := 1) ?_))
      | (refine Br.mk (i := 1) ?_
         all_goals (refine WC.seq ?_)
         all_goals (refine WC.region ?_)
         all_goals (refine WL.step (ok_assign rfl) rfl rfl rfl ?_)
         all_goals (refine WL.nil ?_)
         all_goals (repeat' (with_reducible first | refine thenP_n ?_ | refine blockP_n ?_))
         all_goals (refine WC.ret ?_)
         all_goals (repeat' (with_reducible first | refine thenP_r ?_ | refine blockP_r ?_))
         all_goals (refine retP_1 _ ⟨rfl, trivial⟩ ?_)
         all_goals (first
                     | exact ⟨by rw [decide_eq_true (same_ofX hn (by omega) (by omega))], rfl⟩
                     | exact ⟨by rw [decide_eq_false (ne_of_atX hx hy hxy)], rfl⟩)
         skip))
    all_goals (first
      | (fail_if_success (refine Br.mk (i := 2) ?_))
      | (refine Br.mk (i := 2) ?_
         all_goals (refine WC.skip ?_)
         skip))
    all_goals (repeat' (with_reducible first | refine thenP_n ?_ | refine blockP_n ?_))
    all_goals (refine WC.seq ?_)
    all_goals (refine WC.seq ?_)
    all_goals (refine WC.region ?_)
    all_goals (refine WL.step (ok_assign rfl) rfl rfl rfl ?_)
    all_goals (refine WL.nil ?_)
    all_goals (repeat' (with_reducible first | refine thenP_n ?_ | refine blockP_n ?_))
    all_goals (refine WC.block ?_)
    -- loop 0: slots that turn [5], that stay [0, 1]
    all_goals (refine WC.loopG (X := Nat) (fun x => ([(5, In (x : Int))] : Fr)) [(0, _), (1, _)] (fun k h' => h' = h ∧ k ≤ l.length ∧ l.take k = m.take k) (fun k => l.length - k) (0) ⟨rfl, rfl, rfl, trivial⟩ (by exact ⟨rfl, Nat.zero_le _, by simp⟩) ?_)
    all_goals (rintro k h9 ⟨hz, hk, hn⟩
               subst h9)
    all_goals (refine WC.sub [(5, _), (0, _), (1, _)] ⟨rfl, rfl, rfl, trivial⟩ ?_)
    all_goals (refine WC.seq ?_)
    all_goals (refine WC.seq ?_)
    all_goals (refine WC.region ?_)
    all_goals (refine WL.step (ok_move rfl) rfl rfl rfl ?_)
    all_goals (refine WL.step (ok_move rfl) rfl rfl rfl ?_)
    all_goals (refine WL.step (ok_lenL rfl Tryd.underlying27 rfl) rfl rfl rfl ?_)
    all_goals (first | (refine WL.step (OkP.bool_t (by omega) (ok_lss rfl rfl)) rfl rfl rfl ?_) | (refine WL.step (OkP.bool_f (by omega) (ok_lss rfl rfl)) rfl rfl rfl ?_) | (refine WL.step (ok_lss rfl rfl) rfl rfl rfl ?_))
    all_goals (refine WL.nil ?_)
    all_goals (repeat' (with_reducible first | refine thenP_n ?_ | refine blockP_n ?_))
    all_goals (first | refine WC.condB_t 3 rfl ?_ | refine WC.condB_f 4 rfl ?_ | (refine WC.condB 3 4 rfl (fun hb => ?_) (fun hb => ?_) <;> (first | replace hb := of_decide_eq_true hb | replace hb := of_decide_eq_false hb | replace hb := of_decide_eq_false (nt hb) | replace hb := of_decide_eq_true (nf hb) | skip)))
    all_goals (first
      | (fail_if_success (refine Br.mk (i := 3) ?_))
      | (refine Br.mk (i := 3) ?_
         all_goals (refine WC.skip ?_)
         skip))
    all_goals (first
      | (fail_if_success (refine Br.mk (i := 4) ?_))
      | (refine Br.mk (i := 4) ?_
         all_goals (refine WC.exit ?_)
         all_goals (repeat' (with_reducible first | refine thenP_x ?_ | refine blockP_miss rfl ?_ | refine blockP_hit ?_ | refine blockP_n ?_ | refine thenP_n ?_))
         all_goals (refine Br.out (i := 1000) ?_)
         skip))
    all_goals (first | (refine Br.keep ?_) | (repeat' (with_reducible first | refine thenP_n ?_ | refine blockP_n ?_)))
    all_goals (first | (refine Br.keep ?_) | (refine WC.sub [(0, _), (1, _), (5, _)] ⟨rfl, rfl, rfl, trivial⟩ ?_))
    all_goals (first | (refine Br.keep ?_) | (refine WC.seq ?_))
    all_goals (first | (refine Br.keep ?_) | (refine WC.block ?_))
    all_goals (first | (refine Br.keep ?_) | (refine WC.seq ?_))
    all_goals (first | (refine Br.keep ?_) | (refine WC.drawE fol (by kernel_rfl) ?_))
    all_goals (first
                 | (refine Br.keep ?_)
                 | (obtain ⟨bL, oL, hA, hbL, hat⟩ := Rd.at_ hr (by omega)
                    obtain ⟨bM, oM, hB, hbM, hbt⟩ := Rd.at_ hs (by omega)
                    obtain ⟨⟨xa, xb⟩, hx⟩ : ∃ y, l[k]? = some y := ⟨_, List.getElem?_eq_getElem (by omega)⟩
                    obtain ⟨⟨ya, yb⟩, hy⟩ : ∃ y, m[k]? = some y := ⟨_, List.getElem?_eq_getElem (by omega)⟩
                    have hc : At h bL (oL + k * 2) [In xa, In xb] := At.elem cnC_len hat hx
                    have hd : At h bM (oM + k * 2) [In ya, In yb] := At.elem cnC_len hbt hy
                    by_cases hxy : ((xa, xb) : Cn) = (ya, yb)))
    all_goals (first | (refine Br.keep ?_) | (refine WQ.stepE (ok_move rfl) rfl rfl rfl ?_))
    all_goals (first | (refine Br.keep ?_) | (refine WQ.stepE (ok_move rfl) rfl rfl rfl ?_))
    all_goals (first | (refine Br.keep ?_) | (refine WQ.stepE (ok_idxAddrA Tryd.underlying27 (fun w => Tryd.sizeOf44 w) rfl rfl rfl (by omega) (by first | rfl | assumption)) rfl rfl rfl ?_))
    all_goals (first | (refine Br.keep ?_) | (refine WQ.stepE (ok_loadN (fun w => Tryd.isAgg44 w) (fun w => Tryd.sizeOf44 w) rfl rfl (by assumption)) rfl rfl rfl ?_))
    all_goals (first | (refine Br.keep ?_) | (refine WQ.stepE (ok_move rfl) rfl rfl rfl ?_))
    all_goals (first | (refine Br.keep ?_) | (refine WQ.stepE (ok_move rfl) rfl rfl rfl ?_))
    all_goals (first | (refine Br.keep ?_) | (refine WQ.stepE (ok_idxAddrA Tryd.underlying27 (fun w => Tryd.sizeOf44 w) rfl rfl rfl (by omega) (by first | rfl | assumption)) rfl rfl rfl ?_))
    all_goals (first | (refine Br.keep ?_) | (refine WQ.stepE (ok_loadN (fun w => Tryd.isAgg44 w) (fun w => Tryd.sizeOf44 w) rfl rfl (by assumption)) rfl rfl rfl ?_))
    all_goals (first
                 | (refine Br.keep ?_)
                 | (first
                     | refine WQ.stepE (OkP.nbool_f ((cnS_inj (xa, xb) (ya, yb)).2 hxy) (ok_neqF (us := [.i .i64 xa, .i .i64 xb]) (vs := [.i .i64 ya, .i .i64 yb]) [.i .i64, .i .i64] (by kernel_rfl) rfl rfl rfl rfl)) rfl rfl rfl ?_
                     | refine WQ.stepE (OkP.nbool_t (fun e => hxy ((cnS_inj (xa, xb) (ya, yb)).1 e)) (ok_neqF (us := [.i .i64 xa, .i .i64 xb]) (vs := [.i .i64 ya, .i .i64 yb]) [.i .i64, .i .i64] (by kernel_rfl) rfl rfl rfl rfl)) rfl rfl rfl ?_))
    all_goals (first | (refine Br.keep ?_) | (refine WQ.nil ?_))
    all_goals (first | (refine Br.keep ?_) | (repeat' (with_reducible first | refine thenP_n ?_ | refine blockP_n ?_)))
    all_goals (first | (refine Br.keep ?_) | (refine WC.sub [(0, _), (1, _), (5, _), (25, _)] ⟨rfl, rfl, rfl, rfl, trivial⟩ ?_))
    all_goals (first | (refine Br.keep ?_) | (first | refine WC.condB_t 5 rfl ?_ | refine WC.condB_f 6 rfl ?_ | (refine WC.condB 5 6 rfl (fun hb => ?_) (fun hb => ?_) <;> (first | replace hb := of_decide_eq_true hb | replace hb := of_decide_eq_false hb | replace hb := of_decide_eq_false (nt hb) | replace hb := of_decide_eq_true (nf hb) | skip))))
    all_goals (first
      | (fail_if_success (refine Br.mk (i := 5) ?_))
      | (refine Br.mk (i := 5) ?_
         all_goals (refine WC.seq ?_)
         all_goals (refine WC.region ?_)
         all_goals (refine WL.step (ok_assign rfl) rfl rfl rfl ?_)
         all_goals (refine WL.nil ?_)
         all_goals (repeat' (with_reducible first | refine thenP_n ?_ | refine blockP_n ?_))
         all_goals (refine WC.sub [(4, _)] ⟨rfl, trivial⟩ ?_)
         all_goals (refine WC.ret ?_)
         all_goals (repeat' (with_reducible first | refine thenP_r ?_ | refine blockP_r ?_))
         all_goals (refine retP_1 _ ⟨rfl, trivial⟩ ?_)
         all_goals (first
                     | exact ⟨by rw [decide_eq_true (same_ofX hn (by omega) (by omega))], rfl⟩
                     | exact ⟨by rw [decide_eq_false (ne_of_atX hx hy hxy)], rfl⟩)
         skip))
    all_goals (first
      | (fail_if_success (refine Br.mk (i := 6) ?_))
      | (refine Br.mk (i := 6) ?_
         all_goals (refine WC.skip ?_)
         skip))
    all_goals (first | (refine Br.keep ?_) | (repeat' (with_reducible first | refine thenP_n ?_ | refine blockP_n ?_)))
    all_goals (first | (refine Br.keep ?_) | (refine WC.region ?_))
    all_goals (first | (refine Br.keep ?_) | (refine WL.step (ok_move rfl) rfl rfl rfl ?_))
    all_goals (first | (refine Br.keep ?_) | (first | (refine WL.step (ok_addI rfl rfl (by omega)) rfl rfl rfl ?_) | (refine WL.step (ok_add rfl rfl) rfl rfl rfl ?_)))
    all_goals (first | (refine Br.keep ?_) | (refine WL.step (ok_assign rfl) rfl rfl rfl ?_))
    all_goals (first | (refine Br.keep ?_) | (refine WL.nil ?_))
    all_goals (first | (refine Br.keep ?_) | (repeat' (with_reducible first | refine thenP_n ?_ | refine blockP_n ?_)))
    all_goals (first | (refine Br.keep ?_) | (exact ⟨k + 1, ⟨rfl, rfl, rfl, trivial⟩, (by exact ⟨rfl, by omega, take_sameX hn hx (by rw [hxy]; exact hy)⟩), (by omega)⟩))
    all_goals (try (refine Br.mk (i := 1000) ?_))
    all_goals (repeat' (with_reducible first | refine thenP_n ?_ | refine blockP_n ?_))
    all_goals (refine WC.sub [] trivial ?_)
    all_goals (refine WC.seq ?_)
    all_goals (refine WC.region ?_)
    all_goals (refine WL.step (ok_assign rfl) rfl rfl rfl ?_)
    all_goals (refine WL.nil ?_)
    all_goals (repeat' (with_reducible first | refine thenP_n ?_ | refine blockP_n ?_))
    all_goals (refine WC.ret ?_)
    all_goals (repeat' (with_reducible first | refine thenP_r ?_ | refine blockP_r ?_))
    all_goals (refine retP_1 _ ⟨rfl, trivial⟩ ?_)
    all_goals (first
                | exact ⟨by rw [decide_eq_true (same_ofX hn (by omega) (by omega))], rfl⟩
                | exact ⟨by rw [decide_eq_false (ne_of_atX hx hy hxy)], rfl⟩)
  · have hne : l ≠ m := fun e => hlm (by rw [e])
    refine calls [(0, _), (1, _)] Tryd.func15 rfl Tryd.ntmps15 rfl ⟨rfl, rfl, trivial⟩ ?_
    all_goals (refine WC.seq ?_)
    all_goals (refine WC.region ?_)
    all_goals (refine WL.step (ok_assign rfl) rfl rfl rfl ?_)
    all_goals (refine WL.nil ?_)
    all_goals (repeat' (with_reducible first | refine thenP_n ?_ | refine blockP_n ?_))
    all_goals (refine WC.seq ?_)
    all_goals (refine WC.seq ?_)
    all_goals (refine WC.region ?_)
    all_goals (refine WL.step (ok_move rfl) rfl rfl rfl ?_)
    all_goals (refine WL.step (ok_lenL rfl Tryd.underlying27 rfl) rfl rfl rfl ?_)
    all_goals (refine WL.step (ok_move rfl) rfl rfl rfl ?_)
    all_goals (refine WL.step (ok_lenL rfl Tryd.underlying27 rfl) rfl rfl rfl ?_)
    all_goals (first | (refine WL.step (OkP.nbool_t (by omega) (ok_neq rfl rfl)) rfl rfl rfl ?_) | (refine WL.step (OkP.nbool_f (by omega) (ok_neq rfl rfl)) rfl rfl rfl ?_) | (refine WL.step (ok_neq rfl rfl) rfl rfl rfl ?_))
    all_goals (refine WL.nil ?_)
    all_goals (repeat' (with_reducible first | refine thenP_n ?_ | refine blockP_n ?_))
    all_goals (refine WC.sub [(0, _), (1, _), (10, _)] ⟨rfl, rfl, rfl, trivial⟩ ?_)
    all_goals (first | refine WC.condB_t 1 rfl ?_ | refine WC.condB_f 2 rfl ?_ | (refine WC.condB 1 2 rfl (fun hb => ?_) (fun hb => ?_) <;> (first | replace hb := of_decide_eq_true hb | replace hb := of_decide_eq_false hb | replace hb := of_decide_eq_false (nt hb) | replace hb := of_decide_eq_true (nf hb) | skip)))
    all_goals (first
      | (fail_if_success (refine Br.mk (i := 1) ?_))
      | (refine Br.mk (i := 1) ?_
         all_goals (refine WC.seq ?_)
         all_goals (refine WC.region ?_)
         all_goals (refine WL.step (ok_assign rfl) rfl rfl rfl ?_)
         all_goals (refine WL.nil ?_)
         all_goals (repeat' (with_reducible first | refine thenP_n ?_ | refine blockP_n ?_))
         all_goals (refine WC.ret ?_)
         all_goals (repeat' (with_reducible first | refine thenP_r ?_ | refine blockP_r ?_))
         all_goals (refine retP_1 _ ⟨rfl, trivial⟩ ?_)
         all_goals (exact ⟨by rw [decide_eq_false hne], rfl⟩)
         skip))
    all_goals (first
      | (fail_if_success (refine Br.mk (i := 2) ?_))
      | (refine Br.mk (i := 2) ?_
         all_goals (refine WC.skip ?_)
         skip))
    all_goals (repeat' (with_reducible first | refine thenP_n ?_ | refine blockP_n ?_))
    all_goals (refine WC.seq ?_)
    all_goals (refine WC.seq ?_)
    all_goals (refine WC.region ?_)
    all_goals (refine WL.step (ok_assign rfl) rfl rfl rfl ?_)
    all_goals (refine WL.nil ?_)
    all_goals (repeat' (with_reducible first | refine thenP_n ?_ | refine blockP_n ?_))
    all_goals (refine WC.block ?_)
    -- loop 0: slots that turn [5], that stay [0, 1]
    all_goals (refine WC.loopG (fun x => (None : Fr)) [(0, _), (1, _)] (None) (None) (None) ⟨rfl, rfl, rfl, trivial⟩ (by exact ⟨⟩) ?_)
    all_goals (rintro x h1 hI)
    all_goals (refine WC.sub [(5, _), (0, _), (1, _)] ⟨rfl, rfl, rfl, trivial⟩ ?_)
    all_goals (refine WC.seq ?_)
    all_goals (refine WC.seq ?_)
    all_goals (refine WC.region ?_)
    all_goals (refine WL.step (ok_move rfl) rfl rfl rfl ?_)
    all_goals (refine WL.step (ok_move rfl) rfl rfl rfl ?_)
    all_goals (refine WL.step (ok_lenL rfl Tryd.underlying27 rfl) rfl rfl rfl ?_)
    all_goals (first | (refine WL.step (OkP.bool_t (by omega) (ok_lss rfl rfl)) rfl rfl rfl ?_) | (refine WL.step (OkP.bool_f (by omega) (ok_lss rfl rfl)) rfl rfl rfl ?_) | (refine WL.step (ok_lss rfl rfl) rfl rfl rfl ?_))
    all_goals (refine WL.nil ?_)
    all_goals (repeat' (with_reducible first | refine thenP_n ?_ | refine blockP_n ?_))
    all_goals (first | refine WC.condB_t 3 rfl ?_ | refine WC.condB_f 4 rfl ?_ | (refine WC.condB 3 4 rfl (fun hb => ?_) (fun hb => ?_) <;> (first | replace hb := of_decide_eq_true hb | replace hb := of_decide_eq_false hb | replace hb := of_decide_eq_false (nt hb) | replace hb := of_decide_eq_true (nf hb) | skip)))
    all_goals (first
      | (fail_if_success (refine Br.mk (i := 3) ?_))
      | (refine Br.mk (i := 3) ?_
         all_goals (refine WC.skip ?_)
         skip))
    all_goals (first
      | (fail_if_success (refine Br.mk (i := 4) ?_))
      | (refine Br.mk (i := 4) ?_
         all_goals (refine WC.exit ?_)
         all_goals (repeat' (with_reducible first | refine thenP_x ?_ | refine blockP_miss rfl ?_ | refine blockP_hit ?_ | refine blockP_n ?_ | refine thenP_n ?_))
         all_goals (refine Br.out (i := 1000) ?_)
         skip))
    all_goals (first | (refine Br.keep ?_) | (repeat' (with_reducible first | refine thenP_n ?_ | refine blockP_n ?_)))
    all_goals (first | (refine Br.keep ?_) | (refine WC.sub [(0, _), (1, _), (5, _)] ⟨rfl, rfl, rfl, trivial⟩ ?_))
    all_goals (first | (refine Br.keep ?_) | (refine WC.seq ?_))
    all_goals (first | (refine Br.keep ?_) | (refine WC.block ?_))
    all_goals (first | (refine Br.keep ?_) | (refine WC.seq ?_))
    all_goals (first | (refine Br.keep ?_) | (refine WC.drawE fol (by kernel_rfl) ?_))
    all_goals (first | (refine Br.keep ?_) | (refine WQ.stepE (ok_move rfl) rfl rfl rfl ?_))
    all_goals (first | (refine Br.keep ?_) | (refine WQ.stepE (ok_move rfl) rfl rfl rfl ?_))
    all_goals (first | (refine Br.keep ?_) | (refine WQ.stepE (ok_idxAddrA Tryd.underlying27 (fun w => Tryd.sizeOf44 w) rfl rfl rfl (by omega) (by first | rfl | assumption)) rfl rfl rfl ?_))
    all_goals (first | (refine Br.keep ?_) | (refine WQ.stepE (ok_loadN (fun w => Tryd.isAgg44 w) (fun w => Tryd.sizeOf44 w) rfl rfl (by assumption)) rfl rfl rfl ?_))
    all_goals (first | (refine Br.keep ?_) | (refine WQ.stepE (ok_move rfl) rfl rfl rfl ?_))
    all_goals (first | (refine Br.keep ?_) | (refine WQ.stepE (ok_move rfl) rfl rfl rfl ?_))
    all_goals (first | (refine Br.keep ?_) | (refine WQ.stepE (ok_idxAddrA Tryd.underlying27 (fun w => Tryd.sizeOf44 w) rfl rfl rfl (by omega) (by first | rfl | assumption)) rfl rfl rfl ?_))
    all_goals (first | (refine Br.keep ?_) | (refine WQ.stepE (ok_loadN (fun w => Tryd.isAgg44 w) (fun w => Tryd.sizeOf44 w) rfl rfl (by assumption)) rfl rfl rfl ?_))
    all_goals (first | (refine Br.keep ?_) | (fail "no rule for binOp at 6.8"))
    all_goals (first | (refine Br.keep ?_) | (refine WQ.nil ?_))
    all_goals (first | (refine Br.keep ?_) | (repeat' (with_reducible first | refine thenP_n ?_ | refine blockP_n ?_)))
    all_goals (first | (refine Br.keep ?_) | (refine WC.sub [(0, _), (1, _), (5, _), (25, _)] ⟨rfl, rfl, rfl, rfl, trivial⟩ ?_))
    all_goals (first | (refine Br.keep ?_) | (first | refine WC.condB_t 5 rfl ?_ | refine WC.condB_f 6 rfl ?_ | (refine WC.condB 5 6 rfl (fun hb => ?_) (fun hb => ?_) <;> (first | replace hb := of_decide_eq_true hb | replace hb := of_decide_eq_false hb | replace hb := of_decide_eq_false (nt hb) | replace hb := of_decide_eq_true (nf hb) | skip))))
    all_goals (first
      | (fail_if_success (refine Br.mk (i := 5) ?_))
      | (refine Br.mk (i := 5) ?_
         all_goals (refine WC.seq ?_)
         all_goals (refine WC.region ?_)
         all_goals (refine WL.step (ok_assign rfl) rfl rfl rfl ?_)
         all_goals (refine WL.nil ?_)
         all_goals (repeat' (with_reducible first | refine thenP_n ?_ | refine blockP_n ?_))
         all_goals (refine WC.sub [(4, _)] ⟨rfl, trivial⟩ ?_)
         all_goals (refine WC.ret ?_)
         all_goals (repeat' (with_reducible first | refine thenP_r ?_ | refine blockP_r ?_))
         all_goals (refine retP_1 _ ⟨rfl, trivial⟩ ?_)
         all_goals (exact ⟨by rw [decide_eq_false hne], rfl⟩)
         skip))
    all_goals (first
      | (fail_if_success (refine Br.mk (i := 6) ?_))
      | (refine Br.mk (i := 6) ?_
         all_goals (refine WC.skip ?_)
         skip))
    all_goals (first | (refine Br.keep ?_) | (repeat' (with_reducible first | refine thenP_n ?_ | refine blockP_n ?_)))
    all_goals (first | (refine Br.keep ?_) | (refine WC.region ?_))
    all_goals (first | (refine Br.keep ?_) | (refine WL.step (ok_move rfl) rfl rfl rfl ?_))
    all_goals (first | (refine Br.keep ?_) | (first | (refine WL.step (ok_addI rfl rfl (by omega)) rfl rfl rfl ?_) | (refine WL.step (ok_add rfl rfl) rfl rfl rfl ?_)))
    all_goals (first | (refine Br.keep ?_) | (refine WL.step (ok_assign rfl) rfl rfl rfl ?_))
    all_goals (first | (refine Br.keep ?_) | (refine WL.nil ?_))
    all_goals (first | (refine Br.keep ?_) | (repeat' (with_reducible first | refine thenP_n ?_ | refine blockP_n ?_)))
    all_goals (first | (refine Br.keep ?_) | (exact ⟨None, ⟨rfl, rfl, rfl, trivial⟩, (by exact ⟨⟩), (by simp; omega)⟩))
    all_goals (try (refine Br.mk (i := 1000) ?_))
    all_goals (repeat' (with_reducible first | refine thenP_n ?_ | refine blockP_n ?_))
    all_goals (refine WC.sub [] trivial ?_)
    all_goals (refine WC.seq ?_)
    all_goals (refine WC.region ?_)
    all_goals (refine WL.step (ok_assign rfl) rfl rfl rfl ?_)
    all_goals (refine WL.nil ?_)
    all_goals (repeat' (with_reducible first | refine thenP_n ?_ | refine blockP_n ?_))
    all_goals (refine WC.ret ?_)
    all_goals (repeat' (with_reducible first | refine thenP_r ?_ | refine blockP_r ?_))
    all_goals (refine retP_1 _ ⟨rfl, trivial⟩ ?_)
    all_goals (exact ⟨by rw [decide_eq_false hne], rfl⟩)
end Go.Proofs.YtanbpffpllgekaaDoor

/-
  VALUES OF INTERFACE TYPES: made, and held against nil. No program is named here.
-/
namespace Go.RK
open Go

section
variable {P : Program} {f : Fr} {h : Heap} {d : Option Tmp} {ty : TypeId} {pos : String} {af : Array Edge} {g : Option (Nat × Bool)}
theorem ok_mkIface {x : Operand} {t : TypeId} {v : Value} (hu : ∃ u, P.underlying t = some u ∧ ∀ ms, u ≠ .interface ms) (hx : f.ev x = some v) : OkP P f ⟨d, .makeInterface t x, ty, pos, af, g⟩ h (.iface t v) := fun ρ w ha _ => by
  obtain ⟨u, h1, h2⟩ := hu
  have key : (Instr.makeInterface t v).run P w = .ok (.iface t v) w := by
    simp only [Instr.makeInterface, Sem.run_bind, run_underlying h1, Result.andThen_ok]
    cases u <;> first | rfl | exact absurd rfl (h2 _)
  simp [execOp, ha _ _ hx, key]
theorem ok_eqlIh {t t2 u : TypeId} {x y : Operand} {v : Value} (hu : P.underlying t = some (.interface (P.methodsAt t))) (hx : f.ev x = some (.iface u v)) (hy : f.ev y = some .nilIface) : OkP P f ⟨d, .binOp .eql t x y t2, ty, pos, af, g⟩ h (.bool false) := fun ρ w ha _ => by
  simp [execOp, ha _ _ hx, ha _ _ hy, eqGuard_at_iface, run_eql_held_nil w t u v hu]
theorem ok_neqIh {t t2 u : TypeId} {x y : Operand} {v : Value} (hu : P.underlying t = some (.interface (P.methodsAt t))) (hx : f.ev x = some (.iface u v)) (hy : f.ev y = some .nilIface) : OkP P f ⟨d, .binOp .neq t x y t2, ty, pos, af, g⟩ h (.bool true) := fun ρ w ha _ => by
  simp [execOp, ha _ _ hx, ha _ _ hy, eqGuard_at_iface, run_neq_held_nil w t u v hu]
theorem ok_eqlIn {t t2 : TypeId} {x : Operand} {c : Value} (hu : P.underlying t = some (.interface (P.methodsAt t))) (hx : f.ev x = some .nilIface) (hy : f.ev (.const c) = some .nilIface) : OkP P f ⟨d, .binOp .eql t x (.const c) t2, ty, pos, af, g⟩ h (.bool true) := fun ρ w ha _ => by
  have := ha _ _ hy
  simp [execOp, ha _ _ hx, this, eqGuard_nil_constR, run_eql_nil_nil w t hu]
theorem ok_neqIn {t t2 : TypeId} {x : Operand} {c : Value} (hu : P.underlying t = some (.interface (P.methodsAt t))) (hx : f.ev x = some .nilIface) (hy : f.ev (.const c) = some .nilIface) : OkP P f ⟨d, .binOp .neq t x (.const c) t2, ty, pos, af, g⟩ h (.bool false) := fun ρ w ha _ => by
  have := ha _ _ hy
  simp [execOp, ha _ _ hx, this, eqGuard_nil_constR, run_neq_nil_nil w t hu]
end
end Go.RK
/-
  AUDIT (layer 47): whether a view is small; whether a server is idle; holders.
-/
namespace Go.Proofs.YtanbpffpllgekaaDoor
open Go Go.RK

set_option maxHeartbeats 1000000 in
set_option maxRecDepth 100000 in
theorem few47 {h : Heap} (V : VW) (ok : V.ok h) : CallsH Tryd.prog 6 ⟨[.agg ⟨V.cells⟩]⟩ h fun u h' => (∃ b, u = .bool b ∧ (b = true → Few V)) ∧ Ext No h h' := by
  obtain ⟨vc, C, vs, S, vr, R, vw, W⟩ := V
  obtain ⟨hc, hcl, hco, hs, hsl, hso, hrr, hrl, hw, hwl⟩ := ok
  simp only at hc hcl hco hs hsl hso hrr hrl hw hwl
  obtain ⟨A1, c1, rfl, _⟩ := id hc
  obtain ⟨A2, c2, rfl, _⟩ := id hs
  obtain ⟨A3, c3, rfl, _⟩ := id hrr
  obtain ⟨A4, c4, rfl, _⟩ := id hw
  dsimp only [VW.cells]
  refine calls [(0, _)] Tryd.func6 rfl Tryd.ntmps6 rfl ⟨rfl, trivial⟩ ?_
  all_goals (refine WC.seq ?_)
  all_goals (refine WC.region ?_)
  all_goals (refine WL.stepR (okE_box rfl) rfl rfl rfl ?_
             rintro _ h1 ⟨b1, rfl, hg1, hb1, hx1⟩)
  all_goals (refine WL.step (ok_assign rfl) rfl rfl rfl ?_)
  all_goals (refine WL.nil ?_)
  all_goals (repeat' (with_reducible first | refine thenP_n ?_ | refine blockP_n ?_))
  all_goals (refine WC.seq ?_)
  all_goals (refine WC.seq ?_)
  all_goals (refine WC.region ?_)
  all_goals (refine WL.step (ok_fieldAddr rfl Tryd.underlying30 rfl (fun w => Tryd.sizeOf25 w)) rfl rfl rfl ?_)
  all_goals (refine WL.step (ok_load (fun w => Tryd.isAgg25 w) rfl (by first | assumption | exact cell_blk (by assumption) rfl)) rfl rfl rfl ?_)
  all_goals (refine WL.step (ok_lenL rfl Tryd.underlying25 rfl) rfl rfl rfl ?_)
  all_goals (first | (refine WL.step (OkP.bool_t (by omega) (ok_gtr rfl rfl)) rfl rfl rfl ?_) | (refine WL.step (OkP.bool_f (by omega) (ok_gtr rfl rfl)) rfl rfl rfl ?_) | (refine WL.step (ok_gtr rfl rfl) rfl rfl rfl ?_))
  all_goals (refine WL.step (ok_move rfl) rfl rfl rfl ?_)
  all_goals (try ((fail_if_success (refine WL.part 11 (b := true) rfl (fun _ => ?_) (fun _ => ?_))); (fail_if_success (refine WL.part 11 (b := false) rfl (fun _ => ?_) (fun _ => ?_))); (refine WL.part 11 rfl (fun hb => ?_) (fun hb => ?_) <;> (first | replace hb := of_decide_eq_true hb | replace hb := of_decide_eq_false hb | replace hb := of_decide_eq_false (nt hb) | replace hb := of_decide_eq_true (nf hb) | skip))))
  all_goals (first | (refine WL.pass rfl rfl rfl ?_) | (refine WL.step (ok_fieldAddr rfl Tryd.underlying30 rfl (fun w => Tryd.sizeOf26 w)) rfl rfl rfl ?_))
  all_goals (first | (refine WL.pass rfl rfl rfl ?_) | (refine WL.step (ok_load (fun w => Tryd.isAgg26 w) rfl (by first | assumption | exact cell_blk (by assumption) rfl)) rfl rfl rfl ?_))
  all_goals (first | (refine WL.pass rfl rfl rfl ?_) | (refine WL.step (ok_lenL rfl Tryd.underlying26 rfl) rfl rfl rfl ?_))
  all_goals (first | (refine WL.pass rfl rfl rfl ?_) | (first | (refine WL.step (OkP.bool_t (by omega) (ok_gtr rfl rfl)) rfl rfl rfl ?_) | (refine WL.step (OkP.bool_f (by omega) (ok_gtr rfl rfl)) rfl rfl rfl ?_) | (refine WL.step (ok_gtr rfl rfl) rfl rfl rfl ?_)))
  all_goals (first | (refine WL.step (ok_pick_t rfl rfl) rfl rfl rfl ?_) | (refine WL.step (ok_pick_f rfl rfl) rfl rfl rfl ?_))
  all_goals (refine WL.step (ok_move rfl) rfl rfl rfl ?_)
  all_goals (try ((fail_if_success (refine WL.part 17 (b := true) rfl (fun _ => ?_) (fun _ => ?_))); (fail_if_success (refine WL.part 17 (b := false) rfl (fun _ => ?_) (fun _ => ?_))); (refine WL.part 17 rfl (fun hb => ?_) (fun hb => ?_) <;> (first | replace hb := of_decide_eq_true hb | replace hb := of_decide_eq_false hb | replace hb := of_decide_eq_false (nt hb) | replace hb := of_decide_eq_true (nf hb) | skip))))
  all_goals (first | (refine WL.pass rfl rfl rfl ?_) | (refine WL.step (ok_fieldAddr rfl Tryd.underlying30 rfl (fun w => Tryd.sizeOf27 w)) rfl rfl rfl ?_))
  all_goals (first | (refine WL.pass rfl rfl rfl ?_) | (refine WL.step (ok_load (fun w => Tryd.isAgg27 w) rfl (by first | assumption | exact cell_blk (by assumption) rfl)) rfl rfl rfl ?_))
  all_goals (first | (refine WL.pass rfl rfl rfl ?_) | (refine WL.step (ok_lenL rfl Tryd.underlying27 rfl) rfl rfl rfl ?_))
  all_goals (first | (refine WL.pass rfl rfl rfl ?_) | (first | (refine WL.step (OkP.bool_t (by omega) (ok_gtr rfl rfl)) rfl rfl rfl ?_) | (refine WL.step (OkP.bool_f (by omega) (ok_gtr rfl rfl)) rfl rfl rfl ?_) | (refine WL.step (ok_gtr rfl rfl) rfl rfl rfl ?_)))
  all_goals (first | (refine WL.step (ok_pick_t rfl rfl) rfl rfl rfl ?_) | (refine WL.step (ok_pick_f rfl rfl) rfl rfl rfl ?_))
  all_goals (refine WL.step (ok_move rfl) rfl rfl rfl ?_)
  all_goals (try ((fail_if_success (refine WL.part 23 (b := true) rfl (fun _ => ?_) (fun _ => ?_))); (fail_if_success (refine WL.part 23 (b := false) rfl (fun _ => ?_) (fun _ => ?_))); (refine WL.part 23 rfl (fun hb => ?_) (fun hb => ?_) <;> (first | replace hb := of_decide_eq_true hb | replace hb := of_decide_eq_false hb | replace hb := of_decide_eq_false (nt hb) | replace hb := of_decide_eq_true (nf hb) | skip))))
  all_goals (first | (refine WL.pass rfl rfl rfl ?_) | (refine WL.step (ok_fieldAddr rfl Tryd.underlying30 rfl (fun w => Tryd.sizeOf28 w)) rfl rfl rfl ?_))
  all_goals (first | (refine WL.pass rfl rfl rfl ?_) | (refine WL.step (ok_load (fun w => Tryd.isAgg28 w) rfl (by first | assumption | exact cell_blk (by assumption) rfl)) rfl rfl rfl ?_))
  all_goals (first | (refine WL.pass rfl rfl rfl ?_) | (refine WL.step (ok_lenL rfl Tryd.underlying28 rfl) rfl rfl rfl ?_))
  all_goals (first | (refine WL.pass rfl rfl rfl ?_) | (first | (refine WL.step (OkP.bool_t (by omega) (ok_gtr rfl rfl)) rfl rfl rfl ?_) | (refine WL.step (OkP.bool_f (by omega) (ok_gtr rfl rfl)) rfl rfl rfl ?_) | (refine WL.step (ok_gtr rfl rfl) rfl rfl rfl ?_)))
  all_goals (first | (refine WL.step (ok_pick_t rfl rfl) rfl rfl rfl ?_) | (refine WL.step (ok_pick_f rfl rfl) rfl rfl rfl ?_))
  all_goals (refine WL.nil ?_)
  all_goals (repeat' (with_reducible first | refine thenP_n ?_ | refine blockP_n ?_))
  all_goals (refine WC.sub [(1, _), (28, _)] ⟨rfl, rfl, trivial⟩ ?_)
  all_goals (first | refine WC.condB_t 1 rfl ?_ | refine WC.condB_f 2 rfl ?_ | (refine WC.condB 1 2 rfl (fun hb => ?_) (fun hb => ?_) <;> (first | replace hb := of_decide_eq_true hb | replace hb := of_decide_eq_false hb | replace hb := of_decide_eq_false (nt hb) | replace hb := of_decide_eq_true (nf hb) | skip)))
  all_goals (first
    | (fail_if_success (refine Br.mk (i := 1) ?_))
    | (refine Br.mk (i := 1) ?_
       all_goals (refine WC.seq ?_)
       all_goals (refine WC.region ?_)
       all_goals (refine WL.step (ok_assign rfl) rfl rfl rfl ?_)
       all_goals (refine WL.nil ?_)
       all_goals (repeat' (with_reducible first | refine thenP_n ?_ | refine blockP_n ?_))
       all_goals (refine WC.ret ?_)
       all_goals (repeat' (with_reducible first | refine thenP_r ?_ | refine blockP_r ?_))
       all_goals (refine retP_1 _ ⟨rfl, trivial⟩ ?_)
       all_goals (first
                   | exact ⟨⟨true, rfl, fun _ => ⟨by show C.length ≤ 40; omega, by show S.length ≤ 20; omega, by show R.length ≤ 100; omega, by show W.length ≤ 60; omega, by rw [List.take_of_length_le (by omega)] at hn; exact hn, by rw [List.take_of_length_le (by omega)] at hn'; exact hn'⟩⟩, hx5⟩
                   | exact ⟨⟨false, rfl, fun e => by cases e⟩, hX7⟩
                   | exact ⟨⟨false, rfl, fun e => by cases e⟩, hX4⟩
                   | exact ⟨⟨false, rfl, fun e => by cases e⟩, hx1⟩)
       skip))
  all_goals (first
    | (fail_if_success (refine Br.mk (i := 2) ?_))
    | (refine Br.mk (i := 2) ?_
       all_goals (refine WC.skip ?_)
       skip))
  all_goals (repeat' (with_reducible first | refine thenP_n ?_ | refine blockP_n ?_))
  all_goals (refine WC.seq ?_)
  all_goals (refine WC.seq ?_)
  all_goals (refine WC.region ?_)
  all_goals (refine WL.step (ok_fieldAddr rfl Tryd.underlying30 rfl (fun w => Tryd.sizeOf25 w)) rfl rfl rfl ?_)
  all_goals (refine WL.step (ok_load (fun w => Tryd.isAgg25 w) rfl (by first | assumption | exact cell_blk (by assumption) rfl)) rfl rfl rfl ?_)
  all_goals (refine WL.step (ok_lenL rfl Tryd.underlying25 rfl) rfl rfl rfl ?_)
  all_goals (refine WL.step (ok_move rfl) rfl rfl rfl ?_)
  all_goals (refine WL.nil ?_)
  all_goals (repeat' (with_reducible first | refine thenP_n ?_ | refine blockP_n ?_))
  all_goals (refine WC.block ?_)
  -- loop 0: slots that turn [32], that stay [1, 30, 31]
  all_goals (refine WC.loopG (X := Nat) (fun x => ([(32, In (x : Int))] : Fr)) [(1, _), (30, _), (31, _)] (fun k h' => Ext No h h' ∧ h'[b1]? = h1[b1]? ∧ k ≤ C.length ∧ ∀ c ∈ C.take k, c.t.length ≤ 40) (fun k => C.length - k) (0) ⟨rfl, rfl, rfl, rfl, trivial⟩ (by exact ⟨hx1, rfl, Nat.zero_le _, by simp⟩) ?_)
  all_goals (rintro k h2 ⟨hx2, hb2, hk, hn⟩
             rw [hb1] at hb2)
  all_goals (refine WC.sub [(32, _), (1, _), (30, _), (31, _)] ⟨rfl, rfl, rfl, rfl, trivial⟩ ?_)
  all_goals (refine WC.seq ?_)
  all_goals (refine WC.region ?_)
  all_goals (first | (refine WL.step (OkP.bool_t (by omega) (ok_lss rfl rfl)) rfl rfl rfl ?_) | (refine WL.step (OkP.bool_f (by omega) (ok_lss rfl rfl)) rfl rfl rfl ?_) | (refine WL.step (ok_lss rfl rfl) rfl rfl rfl ?_))
  all_goals (refine WL.nil ?_)
  all_goals (repeat' (with_reducible first | refine thenP_n ?_ | refine blockP_n ?_))
  all_goals (refine WC.seq ?_)
  all_goals (first | refine WC.condB_t 3 rfl ?_ | refine WC.condB_f 4 rfl ?_ | (refine WC.condB 3 4 rfl (fun hb => ?_) (fun hb => ?_) <;> (first | replace hb := of_decide_eq_true hb | replace hb := of_decide_eq_false hb | replace hb := of_decide_eq_false (nt hb) | replace hb := of_decide_eq_true (nf hb) | skip)))
  all_goals (first
    | (fail_if_success (refine Br.mk (i := 3) ?_))
    | (refine Br.mk (i := 3) ?_
       all_goals (refine WC.skip ?_)
       skip))
  all_goals (first
    | (fail_if_success (refine Br.mk (i := 4) ?_))
    | (refine Br.mk (i := 4) ?_
       all_goals (refine WC.exit ?_)
       all_goals (repeat' (with_reducible first | refine thenP_x ?_ | refine blockP_miss rfl ?_ | refine blockP_hit ?_ | refine blockP_n ?_ | refine thenP_n ?_))
       all_goals (refine Br.out (i := 1000) ?_)
       skip))
  all_goals (first | (refine Br.keep ?_) | (repeat' (with_reducible first | refine thenP_n ?_ | refine blockP_n ?_)))
  all_goals (first | (refine Br.keep ?_) | (refine WC.seq ?_))
  all_goals (first | (refine Br.keep ?_) | (refine WC.block ?_))
  all_goals (first | (refine Br.keep ?_) | (refine WC.seq ?_))
  all_goals (first | (refine Br.keep ?_) | (refine WC.region ?_))
  all_goals (first
               | (refine Br.keep ?_)
               | (obtain ⟨bL, oL, hA, hbL, hat⟩ := Rd.at_ (hc.ext0 hx2) (by omega)
                  obtain ⟨⟨ph, sv, dn, tv, t⟩, hy⟩ : ∃ y, C[k]? = some y := ⟨_, List.getElem?_eq_getElem (by omega)⟩
                  have hco2 := (hco _ (List.mem_of_getElem? hy)).ext0 hx2
                  obtain ⟨At1, ct1, etv, _⟩ := id hco2.1
                  simp only at etv
                  subst etv
                  have hcc : At h2 bL (oL + k * 4) [In ph, In sv, In dn, .slice At1 t.length ct1] := At.elem CV.len hat hy))
  all_goals (first | (refine Br.keep ?_) | (refine WL.step (ok_idxAddrA Tryd.underlying25 (fun w => Tryd.sizeOf42 w) rfl rfl rfl (by omega) (by first | rfl | assumption)) rfl rfl rfl ?_))
  all_goals (first | (refine Br.keep ?_) | (refine WL.step (ok_loadN (fun w => Tryd.isAgg42 w) (fun w => Tryd.sizeOf42 w) rfl rfl (by assumption)) rfl rfl rfl ?_))
  all_goals (first
               | (refine Br.keep ?_)
               | (refine WL.stepR (okE_alloc (fun w => Tryd.zeroValue42 w)) rfl rfl rfl ?_
                  rintro _ h3 ⟨b3, rfl, hg3, hb3, hx3⟩))
  all_goals (first
               | (refine Br.keep ?_)
               | (refine WL.stepR0 (okE_storeW (fun w => Tryd.sizeOf42 w) rfl rfl rfl (by assumption) rfl (by simp [Value.oneCell'])) rfl rfl ?_
                  rintro _ h4 ⟨hb4, hx4⟩))
  all_goals (first
               | (refine Br.keep ?_)
               | (have hX4 : Ext No h h4 := (hx2.trans hx3).trans' hx4 (fun q hq e => by have := hx2.size; omega)
                  have hb14 : h4[b1]? = h1[b1]? := by rw [hb1]; exact (hx4.obj (hx3.obj hb2 nos) (fun e => by have := lt_of_some hb2; omega))))
  all_goals (first | (refine Br.keep ?_) | (refine WL.nil ?_))
  all_goals (first | (refine Br.keep ?_) | (repeat' (with_reducible first | refine thenP_n ?_ | refine blockP_n ?_)))
  all_goals (first | (refine Br.keep ?_) | (refine WC.seq ?_))
  all_goals (first | (refine Br.keep ?_) | (refine WC.region ?_))
  all_goals (first | (refine Br.keep ?_) | (refine WL.step (ok_fieldAddr rfl Tryd.underlying42 rfl (fun w => Tryd.sizeOf40 w)) rfl rfl rfl ?_))
  all_goals (first | (refine Br.keep ?_) | (refine WL.step (ok_load (fun w => Tryd.isAgg40 w) rfl (by first | assumption | exact cell_blk (by assumption) rfl)) rfl rfl rfl ?_))
  all_goals (first | (refine Br.keep ?_) | (refine WL.step (ok_lenL rfl Tryd.underlying40 rfl) rfl rfl rfl ?_))
  all_goals (first | (refine Br.keep ?_) | (first | (refine WL.step (OkP.bool_t (by omega) (ok_gtr rfl rfl)) rfl rfl rfl ?_) | (refine WL.step (OkP.bool_f (by omega) (ok_gtr rfl rfl)) rfl rfl rfl ?_) | (refine WL.step (ok_gtr rfl rfl) rfl rfl rfl ?_)))
  all_goals (first | (refine Br.keep ?_) | (refine WL.nil ?_))
  all_goals (first | (refine Br.keep ?_) | (repeat' (with_reducible first | refine thenP_n ?_ | refine blockP_n ?_)))
  all_goals (first | (refine Br.keep ?_) | (refine WC.sub [(1, _), (30, _), (31, _), (32, _), (39, _)] ⟨rfl, rfl, rfl, rfl, rfl, trivial⟩ ?_))
  all_goals (first | (refine Br.keep ?_) | (first | refine WC.condB_t 5 rfl ?_ | refine WC.condB_f 6 rfl ?_ | (refine WC.condB 5 6 rfl (fun hb => ?_) (fun hb => ?_) <;> (first | replace hb := of_decide_eq_true hb | replace hb := of_decide_eq_false hb | replace hb := of_decide_eq_false (nt hb) | replace hb := of_decide_eq_true (nf hb) | skip))))
  all_goals (first
    | (fail_if_success (refine Br.mk (i := 5) ?_))
    | (refine Br.mk (i := 5) ?_
       all_goals (refine WC.seq ?_)
       all_goals (refine WC.region ?_)
       all_goals (refine WL.step (ok_assign rfl) rfl rfl rfl ?_)
       all_goals (refine WL.nil ?_)
       all_goals (repeat' (with_reducible first | refine thenP_n ?_ | refine blockP_n ?_))
       all_goals (refine WC.sub [(2, _)] ⟨rfl, trivial⟩ ?_)
       all_goals (refine WC.ret ?_)
       all_goals (repeat' (with_reducible first | refine thenP_r ?_ | refine blockP_r ?_))
       all_goals (refine retP_1 _ ⟨rfl, trivial⟩ ?_)
       all_goals (first
                   | exact ⟨⟨true, rfl, fun _ => ⟨by show C.length ≤ 40; omega, by show S.length ≤ 20; omega, by show R.length ≤ 100; omega, by show W.length ≤ 60; omega, by rw [List.take_of_length_le (by omega)] at hn; exact hn, by rw [List.take_of_length_le (by omega)] at hn'; exact hn'⟩⟩, hx5⟩
                   | exact ⟨⟨false, rfl, fun e => by cases e⟩, hX7⟩
                   | exact ⟨⟨false, rfl, fun e => by cases e⟩, hX4⟩
                   | exact ⟨⟨false, rfl, fun e => by cases e⟩, hx1⟩)
       skip))
  all_goals (first
    | (fail_if_success (refine Br.mk (i := 6) ?_))
    | (refine Br.mk (i := 6) ?_
       all_goals (refine WC.skip ?_)
       skip))
  all_goals (first | (refine Br.keep ?_) | (repeat' (with_reducible first | refine thenP_n ?_ | refine blockP_n ?_)))
  all_goals (first | (refine Br.keep ?_) | (refine WC.region ?_))
  all_goals (first | (refine Br.keep ?_) | (first | (refine WL.step (ok_addI rfl rfl (by omega)) rfl rfl rfl ?_) | (refine WL.step (ok_add rfl rfl) rfl rfl rfl ?_)))
  all_goals (first | (refine Br.keep ?_) | (refine WL.step (ok_move rfl) rfl rfl rfl ?_))
  all_goals (first | (refine Br.keep ?_) | (refine WL.nil ?_))
  all_goals (first | (refine Br.keep ?_) | (repeat' (with_reducible first | refine thenP_n ?_ | refine blockP_n ?_)))
  all_goals (first | (refine Br.keep ?_) | (exact ⟨k + 1, ⟨rfl, rfl, rfl, rfl, trivial⟩, (by exact ⟨hX4, hb14, by omega, mem_take_snoc hy hn (by show t.length ≤ 40; omega)⟩), (by omega)⟩))
  all_goals (try (refine Br.mk (i := 1000) ?_))
  all_goals (repeat' (with_reducible first | refine thenP_n ?_ | refine blockP_n ?_))
  all_goals (refine WC.sub [(1, _)] ⟨rfl, trivial⟩ ?_)
  all_goals (refine WC.seq ?_)
  all_goals (refine WC.seq ?_)
  all_goals (refine WC.region ?_)
  all_goals (refine WL.step (ok_fieldAddr rfl Tryd.underlying30 rfl (fun w => Tryd.sizeOf26 w)) rfl rfl rfl ?_)
  all_goals (refine WL.step (ok_load (fun w => Tryd.isAgg26 w) rfl (by first | assumption | exact cell_blk (by assumption) rfl)) rfl rfl rfl ?_)
  all_goals (refine WL.step (ok_lenL rfl Tryd.underlying26 rfl) rfl rfl rfl ?_)
  all_goals (refine WL.step (ok_move rfl) rfl rfl rfl ?_)
  all_goals (refine WL.nil ?_)
  all_goals (repeat' (with_reducible first | refine thenP_n ?_ | refine blockP_n ?_))
  all_goals (refine WC.block ?_)
  -- loop 1: slots that turn [44], that stay [42, 43]
  all_goals (refine WC.loopG (X := Nat) (fun x => ([(44, In (x : Int))] : Fr)) [(42, _), (43, _)] (fun k h' => Ext No h h' ∧ k ≤ S.length ∧ ∀ s ∈ S.take k, s.c.length ≤ 60 ∧ s.p.length ≤ 60) (fun k => S.length - k) (0) ⟨rfl, rfl, rfl, trivial⟩ (by exact ⟨hx2, Nat.zero_le _, by simp⟩) ?_)
  all_goals (rintro k' h5 ⟨hx5, hk', hn'⟩)
  all_goals (refine WC.sub [(44, _), (42, _), (43, _)] ⟨rfl, rfl, rfl, trivial⟩ ?_)
  all_goals (refine WC.seq ?_)
  all_goals (refine WC.region ?_)
  all_goals (first | (refine WL.step (OkP.bool_t (by omega) (ok_lss rfl rfl)) rfl rfl rfl ?_) | (refine WL.step (OkP.bool_f (by omega) (ok_lss rfl rfl)) rfl rfl rfl ?_) | (refine WL.step (ok_lss rfl rfl) rfl rfl rfl ?_))
  all_goals (refine WL.nil ?_)
  all_goals (repeat' (with_reducible first | refine thenP_n ?_ | refine blockP_n ?_))
  all_goals (refine WC.seq ?_)
  all_goals (first | refine WC.condB_t 7 rfl ?_ | refine WC.condB_f 8 rfl ?_ | (refine WC.condB 7 8 rfl (fun hb => ?_) (fun hb => ?_) <;> (first | replace hb := of_decide_eq_true hb | replace hb := of_decide_eq_false hb | replace hb := of_decide_eq_false (nt hb) | replace hb := of_decide_eq_true (nf hb) | skip)))
  all_goals (first
    | (fail_if_success (refine Br.mk (i := 7) ?_))
    | (refine Br.mk (i := 7) ?_
       all_goals (refine WC.skip ?_)
       skip))
  all_goals (first
    | (fail_if_success (refine Br.mk (i := 8) ?_))
    | (refine Br.mk (i := 8) ?_
       all_goals (refine WC.exit ?_)
       all_goals (repeat' (with_reducible first | refine thenP_x ?_ | refine blockP_miss rfl ?_ | refine blockP_hit ?_ | refine blockP_n ?_ | refine thenP_n ?_))
       all_goals (refine Br.out (i := 1002) ?_)
       skip))
  all_goals (first | (refine Br.keep ?_) | (repeat' (with_reducible first | refine thenP_n ?_ | refine blockP_n ?_)))
  all_goals (first | (refine Br.keep ?_) | (refine WC.seq ?_))
  all_goals (first | (refine Br.keep ?_) | (refine WC.block ?_))
  all_goals (first | (refine Br.keep ?_) | (refine WC.seq ?_))
  all_goals (first | (refine Br.keep ?_) | (refine WC.region ?_))
  all_goals (first
               | (refine Br.keep ?_)
               | (obtain ⟨bL, oL, hA, hbL, hat⟩ := Rd.at_ (hs.ext0 hx5) (by omega)
                  obtain ⟨⟨st, ho, qu, ss, vc2, cc, vp2, pp⟩, hy⟩ : ∃ y, S[k']? = some y := ⟨_, List.getElem?_eq_getElem (by omega)⟩
                  have hso5 := (hso _ (List.mem_of_getElem? hy)).ext0 hx5
                  obtain ⟨At1, ct1, etv, _⟩ := id hso5.c
                  obtain ⟨At2, ct2, etw, _⟩ := id hso5.p
                  simp only at etv etw
                  subst etv etw
                  have hcc : At h5 bL (oL + k' * 6) [In st, In ho, In qu, By ss, .slice At1 cc.length ct1, .slice At2 pp.length ct2] := At.elem SV.len hat hy))
  all_goals (first | (refine Br.keep ?_) | (refine WL.step (ok_idxAddrA Tryd.underlying26 (fun w => Tryd.sizeOf32 w) rfl rfl rfl (by omega) (by first | rfl | assumption)) rfl rfl rfl ?_))
  all_goals (first | (refine Br.keep ?_) | (refine WL.step (ok_loadN (fun w => Tryd.isAgg32 w) (fun w => Tryd.sizeOf32 w) rfl rfl (by assumption)) rfl rfl rfl ?_))
  all_goals (first
               | (refine Br.keep ?_)
               | (refine WL.stepR (okE_alloc (fun w => Tryd.zeroValue32 w)) rfl rfl rfl ?_
                  rintro _ h6 ⟨b6, rfl, hg6, hb6, hx6⟩))
  all_goals (first
               | (refine Br.keep ?_)
               | (refine WL.stepR0 (okE_storeW (fun w => Tryd.sizeOf32 w) rfl rfl rfl (by assumption) rfl (by simp [Value.oneCell'])) rfl rfl ?_
                  rintro _ h7 ⟨hb7, hx7⟩))
  all_goals (first | (refine Br.keep ?_) | (have hX7 : Ext No h h7 := (hx5.trans hx6).trans' hx7 (fun q hq e => by have := hx5.size; omega)))
  all_goals (first | (refine Br.keep ?_) | (refine WL.nil ?_))
  all_goals (first | (refine Br.keep ?_) | (repeat' (with_reducible first | refine thenP_n ?_ | refine blockP_n ?_)))
  all_goals (first | (refine Br.keep ?_) | (refine WC.seq ?_))
  all_goals (first | (refine Br.keep ?_) | (refine WC.region ?_))
  all_goals (first | (refine Br.keep ?_) | (refine WL.step (ok_fieldAddr rfl Tryd.underlying32 rfl (fun w => Tryd.sizeOf28 w)) rfl rfl rfl ?_))
  all_goals (first | (refine Br.keep ?_) | (refine WL.step (ok_load (fun w => Tryd.isAgg28 w) rfl (by first | assumption | exact cell_blk (by assumption) rfl)) rfl rfl rfl ?_))
  all_goals (first | (refine Br.keep ?_) | (refine WL.step (ok_lenL rfl Tryd.underlying28 rfl) rfl rfl rfl ?_))
  all_goals (first | (refine Br.keep ?_) | (first | (refine WL.step (OkP.bool_t (by omega) (ok_gtr rfl rfl)) rfl rfl rfl ?_) | (refine WL.step (OkP.bool_f (by omega) (ok_gtr rfl rfl)) rfl rfl rfl ?_) | (refine WL.step (ok_gtr rfl rfl) rfl rfl rfl ?_)))
  all_goals (first | (refine Br.keep ?_) | (refine WL.step (ok_move rfl) rfl rfl rfl ?_))
  all_goals (first | (refine Br.keep ?_) | (try ((fail_if_success (refine WL.part 52 (b := true) rfl (fun _ => ?_) (fun _ => ?_))); (fail_if_success (refine WL.part 52 (b := false) rfl (fun _ => ?_) (fun _ => ?_))); (refine WL.part 52 rfl (fun hb => ?_) (fun hb => ?_) <;> (first | replace hb := of_decide_eq_true hb | replace hb := of_decide_eq_false hb | replace hb := of_decide_eq_false (nt hb) | replace hb := of_decide_eq_true (nf hb) | skip)))))
  all_goals (first | (refine Br.keep ?_) | (first | (refine WL.pass rfl rfl rfl ?_) | (refine WL.step (ok_fieldAddr rfl Tryd.underlying32 rfl (fun w => Tryd.sizeOf28 w)) rfl rfl rfl ?_)))
  all_goals (first | (refine Br.keep ?_) | (first | (refine WL.pass rfl rfl rfl ?_) | (refine WL.step (ok_load (fun w => Tryd.isAgg28 w) rfl (by first | assumption | exact cell_blk (by assumption) rfl)) rfl rfl rfl ?_)))
  all_goals (first | (refine Br.keep ?_) | (first | (refine WL.pass rfl rfl rfl ?_) | (refine WL.step (ok_lenL rfl Tryd.underlying28 rfl) rfl rfl rfl ?_)))
  all_goals (first | (refine Br.keep ?_) | (first | (refine WL.pass rfl rfl rfl ?_) | (first | (refine WL.step (OkP.bool_t (by omega) (ok_gtr rfl rfl)) rfl rfl rfl ?_) | (refine WL.step (OkP.bool_f (by omega) (ok_gtr rfl rfl)) rfl rfl rfl ?_) | (refine WL.step (ok_gtr rfl rfl) rfl rfl rfl ?_))))
  all_goals (first | (refine Br.keep ?_) | (first | (refine WL.step (ok_pick_t rfl rfl) rfl rfl rfl ?_) | (refine WL.step (ok_pick_f rfl rfl) rfl rfl rfl ?_)))
  all_goals (first | (refine Br.keep ?_) | (refine WL.nil ?_))
  all_goals (first | (refine Br.keep ?_) | (repeat' (with_reducible first | refine thenP_n ?_ | refine blockP_n ?_)))
  all_goals (first | (refine Br.keep ?_) | (refine WC.sub [(42, _), (43, _), (44, _), (57, _)] ⟨rfl, rfl, rfl, rfl, trivial⟩ ?_))
  all_goals (first | (refine Br.keep ?_) | (first | refine WC.condB_t 9 rfl ?_ | refine WC.condB_f 10 rfl ?_ | (refine WC.condB 9 10 rfl (fun hb => ?_) (fun hb => ?_) <;> (first | replace hb := of_decide_eq_true hb | replace hb := of_decide_eq_false hb | replace hb := of_decide_eq_false (nt hb) | replace hb := of_decide_eq_true (nf hb) | skip))))
  all_goals (first
    | (fail_if_success (refine Br.mk (i := 9) ?_))
    | (refine Br.mk (i := 9) ?_
       all_goals (refine WC.seq ?_)
       all_goals (refine WC.region ?_)
       all_goals (refine WL.step (ok_assign rfl) rfl rfl rfl ?_)
       all_goals (refine WL.nil ?_)
       all_goals (repeat' (with_reducible first | refine thenP_n ?_ | refine blockP_n ?_))
       all_goals (refine WC.sub [(2, _)] ⟨rfl, trivial⟩ ?_)
       all_goals (refine WC.ret ?_)
       all_goals (repeat' (with_reducible first | refine thenP_r ?_ | refine blockP_r ?_))
       all_goals (refine retP_1 _ ⟨rfl, trivial⟩ ?_)
       all_goals (first
                   | exact ⟨⟨true, rfl, fun _ => ⟨by show C.length ≤ 40; omega, by show S.length ≤ 20; omega, by show R.length ≤ 100; omega, by show W.length ≤ 60; omega, by rw [List.take_of_length_le (by omega)] at hn; exact hn, by rw [List.take_of_length_le (by omega)] at hn'; exact hn'⟩⟩, hx5⟩
                   | exact ⟨⟨false, rfl, fun e => by cases e⟩, hX7⟩
                   | exact ⟨⟨false, rfl, fun e => by cases e⟩, hX4⟩
                   | exact ⟨⟨false, rfl, fun e => by cases e⟩, hx1⟩)
       skip))
  all_goals (first
    | (fail_if_success (refine Br.mk (i := 10) ?_))
    | (refine Br.mk (i := 10) ?_
       all_goals (refine WC.skip ?_)
       skip))
  all_goals (first | (refine Br.keep ?_) | (repeat' (with_reducible first | refine thenP_n ?_ | refine blockP_n ?_)))
  all_goals (first | (refine Br.keep ?_) | (refine WC.region ?_))
  all_goals (first | (refine Br.keep ?_) | (first | (refine WL.step (ok_addI rfl rfl (by omega)) rfl rfl rfl ?_) | (refine WL.step (ok_add rfl rfl) rfl rfl rfl ?_)))
  all_goals (first | (refine Br.keep ?_) | (refine WL.step (ok_move rfl) rfl rfl rfl ?_))
  all_goals (first | (refine Br.keep ?_) | (refine WL.nil ?_))
  all_goals (first | (refine Br.keep ?_) | (repeat' (with_reducible first | refine thenP_n ?_ | refine blockP_n ?_)))
  all_goals (first | (refine Br.keep ?_) | (exact ⟨k' + 1, ⟨rfl, rfl, rfl, trivial⟩, (by exact ⟨hX7, by omega, mem_take_snoc hy hn' ⟨by show cc.length ≤ 60; omega, by show pp.length ≤ 60; omega⟩⟩), (by omega)⟩))
  all_goals (try (refine Br.mk (i := 1002) ?_))
  all_goals (repeat' (with_reducible first | refine thenP_n ?_ | refine blockP_n ?_))
  all_goals (refine WC.sub [] trivial ?_)
  all_goals (refine WC.seq ?_)
  all_goals (refine WC.region ?_)
  all_goals (refine WL.step (ok_assign rfl) rfl rfl rfl ?_)
  all_goals (refine WL.nil ?_)
  all_goals (repeat' (with_reducible first | refine thenP_n ?_ | refine blockP_n ?_))
  all_goals (refine WC.ret ?_)
  all_goals (repeat' (with_reducible first | refine thenP_r ?_ | refine blockP_r ?_))
  all_goals (refine retP_1 _ ⟨rfl, trivial⟩ ?_)
  all_goals (first
              | exact ⟨⟨true, rfl, fun _ => ⟨by show C.length ≤ 40; omega, by show S.length ≤ 20; omega, by show R.length ≤ 100; omega, by show W.length ≤ 60; omega, by rw [List.take_of_length_le (by omega)] at hn; exact hn, by rw [List.take_of_length_le (by omega)] at hn'; exact hn'⟩⟩, hx5⟩
              | exact ⟨⟨false, rfl, fun e => by cases e⟩, hX7⟩
              | exact ⟨⟨false, rfl, fun e => by cases e⟩, hX4⟩
              | exact ⟨⟨false, rfl, fun e => by cases e⟩, hx1⟩)


/-! ### idle -/
def idleB (s : SV) : Bool := decide (s.st ≠ 2) || (decide (s.ss.toNat = 73) && decide (s.qu = 0) && decide (s.ho = -1) && decide (s.p.length = 0))
set_option maxRecDepth 100000 in
theorem idle_v {h : Heap} (s : SV) (ok : s.ok h) : CallsH Tryd.prog 12 ⟨[.agg ⟨s.cells⟩]⟩ h fun u h' => u = .bool (idleB s) ∧ Ext No h h' := by
  obtain ⟨st, ho, qu, ss, vc, cc, vp, pp⟩ := s
  obtain ⟨hc, _, hp, _⟩ := ok
  simp only at hc hp
  obtain ⟨A1, c1, rfl, _⟩ := id hc
  obtain ⟨A2, c2, rfl, _⟩ := id hp
  dsimp only [SV.cells]
  have hcs : ¬ st = 2 ∨ (st = 2 ∧ ¬ ss.toNat = 73) ∨ (st = 2 ∧ ss.toNat = 73 ∧ ¬ qu = 0) ∨ (st = 2 ∧ ss.toNat = 73 ∧ qu = 0 ∧ ¬ ho = -1) ∨ (st = 2 ∧ ss.toNat = 73 ∧ qu = 0 ∧ ho = -1 ∧ ¬ pp.length = 0) ∨ (st = 2 ∧ ss.toNat = 73 ∧ qu = 0 ∧ ho = -1 ∧ pp.length = 0) := by omega
  rcases hcs with e1 | ⟨e1, e2⟩ | ⟨e1, e2, e3⟩ | ⟨e1, e2, e3, e4⟩ | ⟨e1, e2, e3, e4, e5⟩ | ⟨e1, e2, e3, e4, e5⟩
  all_goals
    refine calls [(0, _)] Tryd.func12 rfl Tryd.ntmps12 rfl ⟨rfl, trivial⟩ ?_
    all_goals (refine WC.seq ?_)
    all_goals (refine WC.region ?_)
    all_goals (refine WL.stepR (okE_box rfl) rfl rfl rfl ?_
               rintro _ h1 ⟨b1, rfl, hg1, hb1, hx1⟩)
    all_goals (refine WL.step (ok_assign rfl) rfl rfl rfl ?_)
    all_goals (refine WL.nil ?_)
    all_goals (repeat' (with_reducible first | refine thenP_n ?_ | refine blockP_n ?_))
    all_goals (refine WC.seq ?_)
    all_goals (refine WC.seq ?_)
    all_goals (refine WC.region ?_)
    all_goals (refine WL.step (ok_fieldAddr rfl Tryd.underlying32 rfl (fun w => Tryd.sizeOf3 w)) rfl rfl rfl ?_)
    all_goals (refine WL.step (ok_load (fun w => Tryd.isAgg3 w) rfl (by first | assumption | exact cell_blk (by assumption) rfl)) rfl rfl rfl ?_)
    all_goals (first | (refine WL.step (OkP.nbool_t (by omega) (ok_neq rfl rfl)) rfl rfl rfl ?_) | (refine WL.step (OkP.nbool_f (by omega) (ok_neq rfl rfl)) rfl rfl rfl ?_) | (refine WL.step (ok_neq rfl rfl) rfl rfl rfl ?_))
    all_goals (refine WL.nil ?_)
    all_goals (repeat' (with_reducible first | refine thenP_n ?_ | refine blockP_n ?_))
    all_goals (refine WC.sub [(1, _), (5, _)] ⟨rfl, rfl, trivial⟩ ?_)
    all_goals (first | refine WC.condB_t 1 rfl ?_ | refine WC.condB_f 2 rfl ?_ | (refine WC.condB 1 2 rfl (fun hb => ?_) (fun hb => ?_) <;> (first | replace hb := of_decide_eq_true hb | replace hb := of_decide_eq_false hb | replace hb := of_decide_eq_false (nt hb) | replace hb := of_decide_eq_true (nf hb) | skip)))
    all_goals (first
      | (fail_if_success (refine Br.mk (i := 1) ?_))
      | (refine Br.mk (i := 1) ?_
         all_goals (refine WC.seq ?_)
         all_goals (refine WC.region ?_)
         all_goals (refine WL.step (ok_assign rfl) rfl rfl rfl ?_)
         all_goals (refine WL.nil ?_)
         all_goals (repeat' (with_reducible first | refine thenP_n ?_ | refine blockP_n ?_))
         all_goals (refine WC.ret ?_)
         all_goals (repeat' (with_reducible first | refine thenP_r ?_ | refine blockP_r ?_))
         all_goals (refine retP_1 _ ⟨rfl, trivial⟩ ?_)
         all_goals (refine ⟨congrArg Value.bool ?_, hx1⟩
                    unfold idleB
                    simp_all)
         skip))
    all_goals (first
      | (fail_if_success (refine Br.mk (i := 2) ?_))
      | (refine Br.mk (i := 2) ?_
         all_goals (refine WC.skip ?_)
         skip))
    all_goals (repeat' (with_reducible first | refine thenP_n ?_ | refine blockP_n ?_))
    all_goals (refine WC.seq ?_)
    all_goals (refine WC.region ?_)
    all_goals (refine WL.step (ok_fieldAddr rfl Tryd.underlying32 rfl (fun w => Tryd.sizeOf5 w)) rfl rfl rfl ?_)
    all_goals (refine WL.step (ok_load (fun w => Tryd.isAgg5 w) rfl (by first | assumption | exact cell_blk (by assumption) rfl)) rfl rfl rfl ?_)
    all_goals (first | (refine WL.step (OkP.bool_t (by omega) (ok_eql rfl rfl)) rfl rfl rfl ?_) | (refine WL.step (OkP.bool_f (by omega) (ok_eql rfl rfl)) rfl rfl rfl ?_) | (refine WL.step (ok_eql rfl rfl) rfl rfl rfl ?_))
    all_goals (refine WL.step (ok_move rfl) rfl rfl rfl ?_)
    all_goals (try ((fail_if_success (refine WL.part 9 (b := true) rfl (fun _ => ?_) (fun _ => ?_))); (fail_if_success (refine WL.part 9 (b := false) rfl (fun _ => ?_) (fun _ => ?_))); (refine WL.part 9 rfl (fun hb => ?_) (fun hb => ?_) <;> (first | replace hb := of_decide_eq_true hb | replace hb := of_decide_eq_false hb | replace hb := of_decide_eq_false (nt hb) | replace hb := of_decide_eq_true (nf hb) | skip))))
    all_goals (first | (refine WL.pass rfl rfl rfl ?_) | (refine WL.step (ok_fieldAddr rfl Tryd.underlying32 rfl (fun w => Tryd.sizeOf3 w)) rfl rfl rfl ?_))
    all_goals (first | (refine WL.pass rfl rfl rfl ?_) | (refine WL.step (ok_load (fun w => Tryd.isAgg3 w) rfl (by first | assumption | exact cell_blk (by assumption) rfl)) rfl rfl rfl ?_))
    all_goals (first | (refine WL.pass rfl rfl rfl ?_) | (first | (refine WL.step (OkP.bool_t (by omega) (ok_eql rfl rfl)) rfl rfl rfl ?_) | (refine WL.step (OkP.bool_f (by omega) (ok_eql rfl rfl)) rfl rfl rfl ?_) | (refine WL.step (ok_eql rfl rfl) rfl rfl rfl ?_)))
    all_goals (first | (refine WL.step (ok_pick_t rfl rfl) rfl rfl rfl ?_) | (refine WL.step (ok_pick_f rfl rfl) rfl rfl rfl ?_))
    all_goals (refine WL.step (ok_move rfl) rfl rfl rfl ?_)
    all_goals (try ((fail_if_success (refine WL.part 14 (b := true) rfl (fun _ => ?_) (fun _ => ?_))); (fail_if_success (refine WL.part 14 (b := false) rfl (fun _ => ?_) (fun _ => ?_))); (refine WL.part 14 rfl (fun hb => ?_) (fun hb => ?_) <;> (first | replace hb := of_decide_eq_true hb | replace hb := of_decide_eq_false hb | replace hb := of_decide_eq_false (nt hb) | replace hb := of_decide_eq_true (nf hb) | skip))))
    all_goals (first | (refine WL.pass rfl rfl rfl ?_) | (refine WL.step (ok_fieldAddr rfl Tryd.underlying32 rfl (fun w => Tryd.sizeOf3 w)) rfl rfl rfl ?_))
    all_goals (first | (refine WL.pass rfl rfl rfl ?_) | (refine WL.step (ok_load (fun w => Tryd.isAgg3 w) rfl (by first | assumption | exact cell_blk (by assumption) rfl)) rfl rfl rfl ?_))
    all_goals (first | (refine WL.pass rfl rfl rfl ?_) | (first | (refine WL.step (OkP.bool_t (by omega) (ok_eql rfl rfl)) rfl rfl rfl ?_) | (refine WL.step (OkP.bool_f (by omega) (ok_eql rfl rfl)) rfl rfl rfl ?_) | (refine WL.step (ok_eql rfl rfl) rfl rfl rfl ?_)))
    all_goals (first | (refine WL.step (ok_pick_t rfl rfl) rfl rfl rfl ?_) | (refine WL.step (ok_pick_f rfl rfl) rfl rfl rfl ?_))
    all_goals (refine WL.step (ok_move rfl) rfl rfl rfl ?_)
    all_goals (try ((fail_if_success (refine WL.part 19 (b := true) rfl (fun _ => ?_) (fun _ => ?_))); (fail_if_success (refine WL.part 19 (b := false) rfl (fun _ => ?_) (fun _ => ?_))); (refine WL.part 19 rfl (fun hb => ?_) (fun hb => ?_) <;> (first | replace hb := of_decide_eq_true hb | replace hb := of_decide_eq_false hb | replace hb := of_decide_eq_false (nt hb) | replace hb := of_decide_eq_true (nf hb) | skip))))
    all_goals (first | (refine WL.pass rfl rfl rfl ?_) | (refine WL.step (ok_fieldAddr rfl Tryd.underlying32 rfl (fun w => Tryd.sizeOf28 w)) rfl rfl rfl ?_))
    all_goals (first | (refine WL.pass rfl rfl rfl ?_) | (refine WL.step (ok_load (fun w => Tryd.isAgg28 w) rfl (by first | assumption | exact cell_blk (by assumption) rfl)) rfl rfl rfl ?_))
    all_goals (first | (refine WL.pass rfl rfl rfl ?_) | (refine WL.step (ok_lenL rfl Tryd.underlying28 rfl) rfl rfl rfl ?_))
    all_goals (first | (refine WL.pass rfl rfl rfl ?_) | (first | (refine WL.step (OkP.bool_t (by omega) (ok_eql rfl rfl)) rfl rfl rfl ?_) | (refine WL.step (OkP.bool_f (by omega) (ok_eql rfl rfl)) rfl rfl rfl ?_) | (refine WL.step (ok_eql rfl rfl) rfl rfl rfl ?_)))
    all_goals (first | (refine WL.step (ok_pick_t rfl rfl) rfl rfl rfl ?_) | (refine WL.step (ok_pick_f rfl rfl) rfl rfl rfl ?_))
    all_goals (refine WL.step (ok_assign rfl) rfl rfl rfl ?_)
    all_goals (refine WL.nil ?_)
    all_goals (repeat' (with_reducible first | refine thenP_n ?_ | refine blockP_n ?_))
    all_goals (refine WC.sub [(2, _)] ⟨rfl, trivial⟩ ?_)
    all_goals (refine WC.ret ?_)
    all_goals (repeat' (with_reducible first | refine thenP_r ?_ | refine blockP_r ?_))
    all_goals (refine retP_1 _ ⟨rfl, trivial⟩ ?_)
    all_goals (refine ⟨congrArg Value.bool ?_, hx1⟩
               unfold idleB
               simp_all)
set_option maxRecDepth 100000 in
theorem idle47 {h : Heap} (s : SV) (ok : s.ok h) : CallsH Tryd.prog 13 ⟨[.agg ⟨s.cells⟩]⟩ h fun u h' => u = .bool (idleB s) ∧ Ext No h h' := by
  obtain ⟨st, ho, qu, ss, vc, cc, vp, pp⟩ := s
  obtain ⟨hc, _, hp, _⟩ := ok
  simp only at hc hp
  obtain ⟨A1, c1, rfl, _⟩ := id hc
  obtain ⟨A2, c2, rfl, _⟩ := id hp
  dsimp only [SV.cells]
  have hcs : ¬ st = 2 ∨ (st = 2 ∧ ¬ ss.toNat = 73) ∨ (st = 2 ∧ ss.toNat = 73 ∧ ¬ qu = 0) ∨ (st = 2 ∧ ss.toNat = 73 ∧ qu = 0 ∧ ¬ ho = -1) ∨ (st = 2 ∧ ss.toNat = 73 ∧ qu = 0 ∧ ho = -1 ∧ ¬ pp.length = 0) ∨ (st = 2 ∧ ss.toNat = 73 ∧ qu = 0 ∧ ho = -1 ∧ pp.length = 0) := by omega
  rcases hcs with e1 | ⟨e1, e2⟩ | ⟨e1, e2, e3⟩ | ⟨e1, e2, e3, e4⟩ | ⟨e1, e2, e3, e4, e5⟩ | ⟨e1, e2, e3, e4, e5⟩
  all_goals
    refine calls [(0, _)] Tryd.func13 rfl Tryd.ntmps13 rfl ⟨rfl, trivial⟩ ?_
    all_goals (refine WC.seq ?_)
    all_goals (refine WC.region ?_)
    all_goals (refine WL.stepR (okE_box rfl) rfl rfl rfl ?_
               rintro _ h1 ⟨b1, rfl, hg1, hb1, hx1⟩)
    all_goals (refine WL.step (ok_assign rfl) rfl rfl rfl ?_)
    all_goals (refine WL.nil ?_)
    all_goals (repeat' (with_reducible first | refine thenP_n ?_ | refine blockP_n ?_))
    all_goals (refine WC.seq ?_)
    all_goals (refine WC.region ?_)
    all_goals (refine WL.step (ok_fieldAddr rfl Tryd.underlying32 rfl (fun w => Tryd.sizeOf3 w)) rfl rfl rfl ?_)
    all_goals (refine WL.step (ok_load (fun w => Tryd.isAgg3 w) rfl (by first | assumption | exact cell_blk (by assumption) rfl)) rfl rfl rfl ?_)
    all_goals (first | (refine WL.step (OkP.nbool_t (by omega) (ok_neq rfl rfl)) rfl rfl rfl ?_) | (refine WL.step (OkP.nbool_f (by omega) (ok_neq rfl rfl)) rfl rfl rfl ?_) | (refine WL.step (ok_neq rfl rfl) rfl rfl rfl ?_))
    all_goals (refine WL.step (ok_move rfl) rfl rfl rfl ?_)
    all_goals (try ((fail_if_success (refine WL.part 6 (b := true) rfl (fun _ => ?_) (fun _ => ?_))); (fail_if_success (refine WL.part 6 (b := false) rfl (fun _ => ?_) (fun _ => ?_))); (refine WL.part 6 rfl (fun hb => ?_) (fun hb => ?_) <;> (first | replace hb := of_decide_eq_true hb | replace hb := of_decide_eq_false hb | replace hb := of_decide_eq_false (nt hb) | replace hb := of_decide_eq_true (nf hb) | skip))))
    all_goals (first | (refine WL.pass rfl rfl rfl ?_) | (refine WL.step (ok_fieldAddr rfl Tryd.underlying32 rfl (fun w => Tryd.sizeOf5 w)) rfl rfl rfl ?_))
    all_goals (first | (refine WL.pass rfl rfl rfl ?_) | (refine WL.step (ok_load (fun w => Tryd.isAgg5 w) rfl (by first | assumption | exact cell_blk (by assumption) rfl)) rfl rfl rfl ?_))
    all_goals (first | (refine WL.pass rfl rfl rfl ?_) | (first | (refine WL.step (OkP.bool_t (by omega) (ok_eql rfl rfl)) rfl rfl rfl ?_) | (refine WL.step (OkP.bool_f (by omega) (ok_eql rfl rfl)) rfl rfl rfl ?_) | (refine WL.step (ok_eql rfl rfl) rfl rfl rfl ?_)))
    all_goals (first | (refine WL.pass rfl rfl rfl ?_) | (refine WL.step (ok_move rfl) rfl rfl rfl ?_))
    all_goals (try ((fail_if_success (refine WL.part 10 (b := true) rfl (fun _ => ?_) (fun _ => ?_))); (fail_if_success (refine WL.part 10 (b := false) rfl (fun _ => ?_) (fun _ => ?_))); (refine WL.part 10 rfl (fun hb => ?_) (fun hb => ?_) <;> (first | replace hb := of_decide_eq_true hb | replace hb := of_decide_eq_false hb | replace hb := of_decide_eq_false (nt hb) | replace hb := of_decide_eq_true (nf hb) | skip))))
    all_goals (first | (refine WL.pass rfl rfl rfl ?_) | (refine WL.step (ok_fieldAddr rfl Tryd.underlying32 rfl (fun w => Tryd.sizeOf3 w)) rfl rfl rfl ?_))
    all_goals (first | (refine WL.pass rfl rfl rfl ?_) | (refine WL.step (ok_load (fun w => Tryd.isAgg3 w) rfl (by first | assumption | exact cell_blk (by assumption) rfl)) rfl rfl rfl ?_))
    all_goals (first | (refine WL.pass rfl rfl rfl ?_) | (first | (refine WL.step (OkP.bool_t (by omega) (ok_eql rfl rfl)) rfl rfl rfl ?_) | (refine WL.step (OkP.bool_f (by omega) (ok_eql rfl rfl)) rfl rfl rfl ?_) | (refine WL.step (ok_eql rfl rfl) rfl rfl rfl ?_)))
    all_goals (first | (refine WL.pass rfl rfl rfl ?_) | (first | (refine WL.step (ok_pick_t rfl rfl) rfl rfl rfl ?_) | (refine WL.step (ok_pick_f rfl rfl) rfl rfl rfl ?_)))
    all_goals (first | (refine WL.pass rfl rfl rfl ?_) | (refine WL.step (ok_move rfl) rfl rfl rfl ?_))
    all_goals (try ((fail_if_success (refine WL.part 15 (b := true) rfl (fun _ => ?_) (fun _ => ?_))); (fail_if_success (refine WL.part 15 (b := false) rfl (fun _ => ?_) (fun _ => ?_))); (refine WL.part 15 rfl (fun hb => ?_) (fun hb => ?_) <;> (first | replace hb := of_decide_eq_true hb | replace hb := of_decide_eq_false hb | replace hb := of_decide_eq_false (nt hb) | replace hb := of_decide_eq_true (nf hb) | skip))))
    all_goals (first | (refine WL.pass rfl rfl rfl ?_) | (refine WL.step (ok_fieldAddr rfl Tryd.underlying32 rfl (fun w => Tryd.sizeOf3 w)) rfl rfl rfl ?_))
    all_goals (first | (refine WL.pass rfl rfl rfl ?_) | (refine WL.step (ok_load (fun w => Tryd.isAgg3 w) rfl (by first | assumption | exact cell_blk (by assumption) rfl)) rfl rfl rfl ?_))
    all_goals (first | (refine WL.pass rfl rfl rfl ?_) | (first | (refine WL.step (OkP.bool_t (by omega) (ok_eql rfl rfl)) rfl rfl rfl ?_) | (refine WL.step (OkP.bool_f (by omega) (ok_eql rfl rfl)) rfl rfl rfl ?_) | (refine WL.step (ok_eql rfl rfl) rfl rfl rfl ?_)))
    all_goals (first | (refine WL.pass rfl rfl rfl ?_) | (first | (refine WL.step (ok_pick_t rfl rfl) rfl rfl rfl ?_) | (refine WL.step (ok_pick_f rfl rfl) rfl rfl rfl ?_)))
    all_goals (first | (refine WL.pass rfl rfl rfl ?_) | (refine WL.step (ok_move rfl) rfl rfl rfl ?_))
    all_goals (try ((fail_if_success (refine WL.part 20 (b := true) rfl (fun _ => ?_) (fun _ => ?_))); (fail_if_success (refine WL.part 20 (b := false) rfl (fun _ => ?_) (fun _ => ?_))); (refine WL.part 20 rfl (fun hb => ?_) (fun hb => ?_) <;> (first | replace hb := of_decide_eq_true hb | replace hb := of_decide_eq_false hb | replace hb := of_decide_eq_false (nt hb) | replace hb := of_decide_eq_true (nf hb) | skip))))
    all_goals (first | (refine WL.pass rfl rfl rfl ?_) | (refine WL.step (ok_fieldAddr rfl Tryd.underlying32 rfl (fun w => Tryd.sizeOf28 w)) rfl rfl rfl ?_))
    all_goals (first | (refine WL.pass rfl rfl rfl ?_) | (refine WL.step (ok_load (fun w => Tryd.isAgg28 w) rfl (by first | assumption | exact cell_blk (by assumption) rfl)) rfl rfl rfl ?_))
    all_goals (first | (refine WL.pass rfl rfl rfl ?_) | (refine WL.step (ok_lenL rfl Tryd.underlying28 rfl) rfl rfl rfl ?_))
    all_goals (first | (refine WL.pass rfl rfl rfl ?_) | (first | (refine WL.step (OkP.bool_t (by omega) (ok_eql rfl rfl)) rfl rfl rfl ?_) | (refine WL.step (OkP.bool_f (by omega) (ok_eql rfl rfl)) rfl rfl rfl ?_) | (refine WL.step (ok_eql rfl rfl) rfl rfl rfl ?_)))
    all_goals (first | (refine WL.pass rfl rfl rfl ?_) | (first | (refine WL.step (ok_pick_t rfl rfl) rfl rfl rfl ?_) | (refine WL.step (ok_pick_f rfl rfl) rfl rfl rfl ?_)))
    all_goals (first | (refine WL.step (ok_pick_t rfl rfl) rfl rfl rfl ?_) | (refine WL.step (ok_pick_f rfl rfl) rfl rfl rfl ?_))
    all_goals (refine WL.step (ok_assign rfl) rfl rfl rfl ?_)
    all_goals (refine WL.nil ?_)
    all_goals (repeat' (with_reducible first | refine thenP_n ?_ | refine blockP_n ?_))
    all_goals (refine WC.sub [(2, _)] ⟨rfl, trivial⟩ ?_)
    all_goals (refine WC.ret ?_)
    all_goals (repeat' (with_reducible first | refine thenP_r ?_ | refine blockP_r ?_))
    all_goals (refine retP_1 _ ⟨rfl, trivial⟩ ?_)
    all_goals (refine ⟨congrArg Value.bool ?_, hx1⟩
               unfold idleB
               simp_all)

/-! ### holders -/
def heldB (V : VW) (k : Nat) (s : SV) : Bool := if s.st ≠ 3 then decide (s.ho = -1) else if s.ho < 0 then false else match V.c[s.ho.toNat]? with | some c => decide (c.sv = (k : Int)) | none => false
def holdsB (V : VW) (k : Nat) (c : CV) : Bool := if c.sv = -1 then true else if c.sv < 0 then false else match V.s[c.sv.toNat]? with | some s => decide (s.st = 3) && decide (s.ho = (k : Int)) | none => false
set_option maxHeartbeats 1000000 in
set_option maxRecDepth 100000 in
theorem held_v {h : Heap} (V : VW) (ok : V.ok h) (k : Nat) (s : SV) (hs : V.s[k]? = some s) : CallsH Tryd.prog 24 ⟨[.agg ⟨V.cells⟩, In k]⟩ h fun u h' => u = .bool (heldB V k s) ∧ Ext No h h' := by
  obtain ⟨vc, C, vs, S, vr, R, vw, W⟩ := V
  obtain ⟨hc, hcl, hco, hsv, hsl, hso, hr, hrl, hw, hwl⟩ := ok
  simp only at hc hcl hco hsv hsl hso hr hrl hw hwl hs
  obtain ⟨A1, c1, rfl, _⟩ := id hc
  obtain ⟨A2, c2, rfl, _⟩ := id hsv
  obtain ⟨A3, c3, rfl, _⟩ := id hr
  obtain ⟨A4, c4, rfl, _⟩ := id hw
  dsimp only [VW.cells]
  have hks := (List.getElem?_eq_some_iff.1 hs).1
  have hso0 := hso _ (List.mem_of_getElem? hs)
  obtain ⟨st, ho, qu, ss, vq, cc, vp, pp⟩ := s
  obtain ⟨B1, d1, ev1, _⟩ := id hso0.c
  obtain ⟨B2, d2, ev2, _⟩ := id hso0.p
  simp only at ev1 ev2
  subst ev1 ev2
  obtain ⟨bM, oM, hB, hbM, hbt⟩ := Rd.at_ hsv (by omega)
  have hcd : At h bM (oM + k * 6) [In st, In ho, In qu, By ss, .slice B1 cc.length d1, .slice B2 pp.length d2] := At.elem SV.len hbt hs
  unfold maxLen at hcl hsl
  have hcs : ¬ st = 3 ∨ (st = 3 ∧ ho < 0) ∨ (∃ j : Nat, st = 3 ∧ ho = j ∧ C[j]? = none ∧ C.length ≤ j) ∨ ∃ (j : Nat) (x : CV), st = 3 ∧ ho = j ∧ C[j]? = some x ∧ j < C.length := by
    by_cases e1 : st = 3
    · refine .inr ?_
      by_cases e2 : ho < 0
      · exact .inl ⟨e1, e2⟩
      · refine .inr ?_
        have hj : ho = (ho.toNat : Int) := by omega
        rcases Nat.lt_or_ge ho.toNat C.length with h' | h'
        · exact .inr ⟨ho.toNat, _, e1, hj, List.getElem?_eq_getElem h', h'⟩
        · exact .inl ⟨ho.toNat, e1, hj, List.getElem?_eq_none h', h'⟩
    · exact .inl e1
  rcases hcs with e1 | ⟨e1, e2⟩ | ⟨j, e1, rfl, hj0, hjl⟩ | ⟨j, ⟨p1, s1, dn1, v1, t1⟩, e1, rfl, hj0, hjl⟩
  all_goals
    refine calls [(0, _), (1, _)] Tryd.func24 rfl Tryd.ntmps24 rfl ⟨rfl, rfl, trivial⟩ ?_
    all_goals (refine WC.seq ?_)
    all_goals (refine WC.region ?_)
    all_goals (refine WL.stepR (okE_box rfl) rfl rfl rfl ?_
               rintro _ h1 ⟨b1, rfl, hg1, hb1, hx1⟩)
    all_goals (refine WL.step (ok_assign rfl) rfl rfl rfl ?_)
    all_goals (refine WL.nil ?_)
    all_goals (repeat' (with_reducible first | refine thenP_n ?_ | refine blockP_n ?_))
    all_goals (refine WC.seq ?_)
    all_goals (refine WC.region ?_)
    all_goals (refine WL.step (ok_fieldAddr rfl Tryd.underlying30 rfl (fun w => Tryd.sizeOf26 w)) rfl rfl rfl ?_)
    all_goals (refine WL.step (ok_load (fun w => Tryd.isAgg26 w) rfl (by first | assumption | exact cell_blk (by assumption) rfl)) rfl rfl rfl ?_)
    all_goals (refine WL.step (ok_move rfl) rfl rfl rfl ?_)
    all_goals (refine WL.step (ok_idxAddrA Tryd.underlying26 (fun w => Tryd.sizeOf32 w) rfl rfl rfl (by omega) (by first | rfl | assumption)) rfl rfl rfl ?_)
    all_goals (refine WL.step (ok_loadN (fun w => Tryd.isAgg32 w) (fun w => Tryd.sizeOf32 w) rfl rfl (by exact hcd.ext hx1 nos)) rfl rfl rfl ?_)
    all_goals (refine WL.stepR (okE_alloc (fun w => Tryd.zeroValue32 w)) rfl rfl rfl ?_
               rintro _ h2 ⟨b2, rfl, hg2, hb2, hx2⟩)
    all_goals (refine WL.stepR0 (okE_storeW (fun w => Tryd.sizeOf32 w) rfl rfl rfl (by assumption) rfl (by simp [Value.oneCell'])) rfl rfl ?_
               rintro _ h3 ⟨hb3, hx3⟩)
    all_goals (have hX3 : Ext No h h3 := (hx1.trans hx2).trans' hx3 (fun q hq e => by have := hx1.size; omega)
               have hb13 := hx3.obj (hx2.obj hb1 nos) (fun e => by have := lt_of_some hb1; omega)
               clear hb1)
    all_goals (refine WL.nil ?_)
    all_goals (repeat' (with_reducible first | refine thenP_n ?_ | refine blockP_n ?_))
    all_goals (refine WC.sub [(1, _), (2, _), (5, _)] ⟨rfl, rfl, rfl, trivial⟩ ?_)
    all_goals (refine WC.seq ?_)
    all_goals (refine WC.block ?_)
    all_goals (refine WC.seq ?_)
    all_goals (refine WC.region ?_)
    all_goals (refine WL.step (ok_fieldAddr rfl Tryd.underlying32 rfl (fun w => Tryd.sizeOf3 w)) rfl rfl rfl ?_)
    all_goals (refine WL.step (ok_load (fun w => Tryd.isAgg3 w) rfl (by first | assumption | exact cell_blk (by assumption) rfl)) rfl rfl rfl ?_)
    all_goals (first | (refine WL.step (OkP.nbool_t (by omega) (ok_neq rfl rfl)) rfl rfl rfl ?_) | (refine WL.step (OkP.nbool_f (by omega) (ok_neq rfl rfl)) rfl rfl rfl ?_) | (refine WL.step (ok_neq rfl rfl) rfl rfl rfl ?_))
    all_goals (refine WL.step (ok_assign rfl) rfl rfl rfl ?_)
    all_goals (refine WL.nil ?_)
    all_goals (repeat' (with_reducible first | refine thenP_n ?_ | refine blockP_n ?_))
    all_goals (first | refine WC.condB_t 1 rfl ?_ | refine WC.condB_f 2 rfl ?_ | (refine WC.condB 1 2 rfl (fun hb => ?_) (fun hb => ?_) <;> (first | replace hb := of_decide_eq_true hb | replace hb := of_decide_eq_false hb | replace hb := of_decide_eq_false (nt hb) | replace hb := of_decide_eq_true (nf hb) | skip)))
    all_goals (first
      | (fail_if_success (refine Br.mk (i := 1) ?_))
      | (refine Br.mk (i := 1) ?_
         all_goals (refine WC.seq ?_)
         all_goals (refine WC.region ?_)
         all_goals (try (exfalso; omega))
         all_goals (refine WL.step (ok_fieldAddr rfl Tryd.underlying32 rfl (fun w => Tryd.sizeOf3 w)) rfl rfl rfl ?_)
         all_goals (refine WL.step (ok_load (fun w => Tryd.isAgg3 w) rfl (by first | assumption | exact cell_blk (by assumption) rfl)) rfl rfl rfl ?_)
         all_goals (first | (refine WL.step (OkP.bool_t (by omega) (ok_eql rfl rfl)) rfl rfl rfl ?_) | (refine WL.step (OkP.bool_f (by omega) (ok_eql rfl rfl)) rfl rfl rfl ?_) | (refine WL.step (ok_eql rfl rfl) rfl rfl rfl ?_))
         all_goals (refine WL.step (ok_assign rfl) rfl rfl rfl ?_)
         all_goals (refine WL.nil ?_)
         all_goals (repeat' (with_reducible first | refine thenP_n ?_ | refine blockP_n ?_))
         all_goals (refine WC.sub [(4, _)] ⟨rfl, trivial⟩ ?_)
         all_goals (refine WC.ret ?_)
         all_goals (repeat' (with_reducible first | refine thenP_r ?_ | refine blockP_r ?_))
         all_goals (refine retP_1 _ ⟨rfl, trivial⟩ ?_)
         all_goals (refine ⟨congrArg Value.bool ?_, hX3⟩
                    unfold heldB
                    simp_all
                    try omega)
         skip))
    all_goals (first
      | (fail_if_success (refine Br.mk (i := 2) ?_))
      | (refine Br.mk (i := 2) ?_
         all_goals (refine WC.seq ?_)
         all_goals (refine WC.seq ?_)
         all_goals (refine WC.region ?_)
         all_goals (try (exfalso; omega))
         all_goals (refine WL.step (ok_fieldAddr rfl Tryd.underlying32 rfl (fun w => Tryd.sizeOf3 w)) rfl rfl rfl ?_)
         all_goals (refine WL.step (ok_load (fun w => Tryd.isAgg3 w) rfl (by first | assumption | exact cell_blk (by assumption) rfl)) rfl rfl rfl ?_)
         all_goals (first | (refine WL.step (OkP.bool_t (by omega) (ok_lss rfl rfl)) rfl rfl rfl ?_) | (refine WL.step (OkP.bool_f (by omega) (ok_lss rfl rfl)) rfl rfl rfl ?_) | (refine WL.step (ok_lss rfl rfl) rfl rfl rfl ?_))
         all_goals (refine WL.step (ok_assign rfl) rfl rfl rfl ?_)
         all_goals (refine WL.nil ?_)
         all_goals (repeat' (with_reducible first | refine thenP_n ?_ | refine blockP_n ?_))
         all_goals (refine WC.sub [(1, _), (2, _), (5, _), (18, _)] ⟨rfl, rfl, rfl, rfl, trivial⟩ ?_)
         all_goals (first | refine WC.condB_t 3 rfl ?_ | refine WC.condB_f 4 rfl ?_ | (refine WC.condB 3 4 rfl (fun hb => ?_) (fun hb => ?_) <;> (first | replace hb := of_decide_eq_true hb | replace hb := of_decide_eq_false hb | replace hb := of_decide_eq_false (nt hb) | replace hb := of_decide_eq_true (nf hb) | skip)))
         all_goals (first
           | (fail_if_success (refine Br.mk (i := 3) ?_))
           | (refine Br.mk (i := 3) ?_
              all_goals (refine WC.skip ?_)
              skip))
         all_goals (first
           | (fail_if_success (refine Br.mk (i := 4) ?_))
           | (refine Br.mk (i := 4) ?_
              all_goals (refine WC.region ?_)
              all_goals (try (exfalso; omega))
              all_goals (refine WL.step (ok_fieldAddr rfl Tryd.underlying32 rfl (fun w => Tryd.sizeOf3 w)) rfl rfl rfl ?_)
              all_goals (refine WL.step (ok_load (fun w => Tryd.isAgg3 w) rfl (by first | assumption | exact cell_blk (by assumption) rfl)) rfl rfl rfl ?_)
              all_goals (refine WL.step (ok_fieldAddr rfl Tryd.underlying30 rfl (fun w => Tryd.sizeOf25 w)) rfl rfl rfl ?_)
              all_goals (refine WL.step (ok_load (fun w => Tryd.isAgg25 w) rfl (by first | assumption | exact cell_blk (by assumption) rfl)) rfl rfl rfl ?_)
              all_goals (refine WL.step (ok_lenL rfl Tryd.underlying25 rfl) rfl rfl rfl ?_)
              all_goals (first | (refine WL.step (OkP.bool_t (by omega) (ok_geq rfl rfl)) rfl rfl rfl ?_) | (refine WL.step (OkP.bool_f (by omega) (ok_geq rfl rfl)) rfl rfl rfl ?_) | (refine WL.step (ok_geq rfl rfl) rfl rfl rfl ?_))
              all_goals (refine WL.step (ok_assign rfl) rfl rfl rfl ?_)
              all_goals (refine WL.nil ?_)
              skip))
         all_goals (repeat' (with_reducible first | refine thenP_n ?_ | refine blockP_n ?_))
         all_goals (first | refine WC.condB_t 5 rfl ?_ | refine WC.condB_f 6 rfl ?_ | (refine WC.condB 5 6 rfl (fun hb => ?_) (fun hb => ?_) <;> (first | replace hb := of_decide_eq_true hb | replace hb := of_decide_eq_false hb | replace hb := of_decide_eq_false (nt hb) | replace hb := of_decide_eq_true (nf hb) | skip)))
         all_goals (first
           | (fail_if_success (refine Br.mk (i := 5) ?_))
           | (refine Br.mk (i := 5) ?_
              all_goals (refine WC.seq ?_)
              all_goals (refine WC.region ?_)
              all_goals (try (exfalso; omega))
              all_goals (refine WL.step (ok_assign rfl) rfl rfl rfl ?_)
              all_goals (refine WL.nil ?_)
              all_goals (repeat' (with_reducible first | refine thenP_n ?_ | refine blockP_n ?_))
              all_goals (refine WC.sub [(4, _)] ⟨rfl, trivial⟩ ?_)
              all_goals (refine WC.ret ?_)
              all_goals (repeat' (with_reducible first | refine thenP_r ?_ | refine blockP_r ?_))
              all_goals (refine retP_1 _ ⟨rfl, trivial⟩ ?_)
              all_goals (refine ⟨congrArg Value.bool ?_, hX3⟩
                         unfold heldB
                         simp_all
                         try omega)
              skip))
         all_goals (first
           | (fail_if_success (refine Br.mk (i := 6) ?_))
           | (refine Br.mk (i := 6) ?_
              all_goals (refine WC.skip ?_)
              skip))
         skip))
    all_goals (repeat' (with_reducible first | refine thenP_n ?_ | refine blockP_n ?_))
    all_goals (refine WC.seq ?_)
    all_goals (refine WC.region ?_)
    all_goals (first
                | (exfalso; omega)
                | (obtain ⟨bL, oL, hA, hbL, hat⟩ := Rd.at_ hc (by omega); have hcc : At h bL (oL + j * 4) [In p1, In s1, In dn1, v1] := At.elem CV.len hat hj0; have hcc3 := hcc.ext hX3 nos))
    all_goals (refine WL.step (ok_fieldAddr rfl Tryd.underlying30 rfl (fun w => Tryd.sizeOf25 w)) rfl rfl rfl ?_)
    all_goals (refine WL.step (ok_load (fun w => Tryd.isAgg25 w) rfl (by first | assumption | exact cell_blk (by assumption) rfl)) rfl rfl rfl ?_)
    all_goals (refine WL.step (ok_fieldAddr rfl Tryd.underlying32 rfl (fun w => Tryd.sizeOf3 w)) rfl rfl rfl ?_)
    all_goals (refine WL.step (ok_load (fun w => Tryd.isAgg3 w) rfl (by first | assumption | exact cell_blk (by assumption) rfl)) rfl rfl rfl ?_)
    all_goals (refine WL.step (ok_idxAddrA Tryd.underlying25 (fun w => Tryd.sizeOf42 w) rfl rfl rfl (by omega) (by first | rfl | assumption)) rfl rfl rfl ?_)
    all_goals (refine WL.step (ok_fieldAddr rfl Tryd.underlying42 rfl (fun w => Tryd.sizeOf3 w)) rfl rfl rfl ?_)
    all_goals (refine WL.step (ok_load (fun w => Tryd.isAgg3 w) rfl (by first | exact hcc3.get 1 rfl rfl | assumption | exact cell_blk (by assumption) rfl)) rfl rfl rfl ?_)
    all_goals (refine WL.step (ok_move rfl) rfl rfl rfl ?_)
    all_goals (first | (refine WL.step (OkP.bool_t (by omega) (ok_eql rfl rfl)) rfl rfl rfl ?_) | (refine WL.step (OkP.bool_f (by omega) (ok_eql rfl rfl)) rfl rfl rfl ?_) | (refine WL.step (ok_eql rfl rfl) rfl rfl rfl ?_))
    all_goals (refine WL.step (ok_assign rfl) rfl rfl rfl ?_)
    all_goals (refine WL.nil ?_)
    all_goals (repeat' (with_reducible first | refine thenP_n ?_ | refine blockP_n ?_))
    all_goals (refine WC.sub [(4, _)] ⟨rfl, trivial⟩ ?_)
    all_goals (refine WC.ret ?_)
    all_goals (repeat' (with_reducible first | refine thenP_r ?_ | refine blockP_r ?_))
    all_goals (refine retP_1 _ ⟨rfl, trivial⟩ ?_)
    all_goals (refine ⟨congrArg Value.bool ?_, hX3⟩
               unfold heldB
               simp_all
               try omega)
end Go.Proofs.YtanbpffpllgekaaDoor

