/-
  PORTAL (layer 28): portals do any calls in any order as the document says.
-/
import Derived.Test.YtgfbilmlgibbfaaPort12
namespace Go.Proofs.Ytgfbilmlgibbfaa
open Go Go.RK

set_option maxHeartbeats 8000000 in
set_option maxRecDepth 100000 in
theorem lives28 {h : Heap} {A : Option Addr} {c : Nat} (l : List Dp) (hl : l.length ≤ maxLen) (hr : Rd h (.slice A l.length c) 10 l.length (l.flatMap Dp.cells)) (hok : ∀ d ∈ l, d.ok h) :
    CallsH Try.prog 12 ⟨[.slice A l.length c]⟩ h fun u h' => u = .bool true ∧ Ext No h h' := by
  have hfw := few28 l hr hl hok
  unfold maxLen at hl
  refine calls [(0, _)] Try.func12 rfl Try.ntmps12 rfl ⟨rfl, trivial⟩ ?_
  all_goals (refine WC.seq ?_)
  all_goals (refine WC.region ?_)
  all_goals (refine WL.step (ok_assign rfl) rfl rfl rfl ?_)
  all_goals (refine WL.nil ?_)
  all_goals (repeat' (with_reducible first | refine thenP_n ?_ | refine blockP_n ?_))
  all_goals (refine WC.seq ?_)
  all_goals (refine WC.seq ?_)
  all_goals (refine WC.region ?_)
  all_goals (refine WL.step (ok_move rfl) rfl rfl rfl ?_)
  all_goals (refine WL.call (vs := [_]) rfl (fun a w => Try.call64 a w) rfl (hfw) rfl rfl rfl ?_
             rintro _ h0 ⟨⟨fb, rfl, hfb⟩, hx0⟩)
  all_goals (cases fb)
  all_goals (refine WL.step (ok_not rfl) rfl rfl rfl ?_)
  all_goals (refine WL.nil ?_)
  all_goals (repeat' (with_reducible first | refine thenP_n ?_ | refine blockP_n ?_))
  all_goals (first | refine WC.condB_t 1 rfl ?_ | refine WC.condB_f 2 rfl ?_ | (refine WC.condB 1 2 rfl (fun hb => ?_) (fun hb => ?_) <;> (first | replace hb := of_decide_eq_true hb | replace hb := of_decide_eq_false hb | replace hb := of_decide_eq_false (nt hb) | replace hb := of_decide_eq_true (nf hb) | skip)))
  all_goals (first
    | (fail_if_success (refine Br.mk (i := 1) ?_))
    | (refine Br.mk (i := 1) ?_
       all_goals (refine WC.seq ?_)
       all_goals (refine WC.region ?_)
       all_goals (refine WL.call (vs := []) rfl (fun a w => Try.call31 a w) rfl (awake28) rfl rfl rfl ?_
                  rintro _ h9 ⟨rfl, hx9⟩)
       all_goals (refine WL.step (ok_assign rfl) rfl rfl rfl ?_)
       all_goals (refine WL.nil ?_)
       all_goals (repeat' (with_reducible first | refine thenP_n ?_ | refine blockP_n ?_))
       all_goals (refine WC.sub [(2, _)] ⟨rfl, trivial⟩ ?_)
       all_goals (refine WC.ret ?_)
       all_goals (repeat' (with_reducible first | refine thenP_r ?_ | refine blockP_r ?_))
       all_goals (refine retP_1 _ ⟨rfl, trivial⟩ ?_)
       all_goals (first | exact ⟨rfl, hx0.trans hx9⟩ | exact ⟨rfl, d31.ext.trans hx9⟩)
       skip))
  all_goals (first
    | (fail_if_success (refine Br.mk (i := 2) ?_))
    | (refine Br.mk (i := 2) ?_
       all_goals (refine WC.skip ?_)
       skip))
  all_goals (repeat' (with_reducible first | refine thenP_n ?_ | refine blockP_n ?_))
  all_goals (refine WC.sub [(0, _)] ⟨rfl, trivial⟩ ?_)
  all_goals (refine WC.seq ?_)
  all_goals (refine WC.region ?_)
  all_goals (have hl40 := hfb rfl)
  all_goals (refine WL.call (vs := []) rfl (fun a w => Try.call32 a w) rfl (new_port) rfl rfl rfl ?_
             rintro _ h1 ⟨b, m, rfl, hb1, hm1, hgb, hgm, hx1⟩)
  all_goals (refine WL.step (ok_buildF (vs := []) (cs := [_]) (fun | [] => [(.slice none 0 0)] | _ => []) rfl rfl (by kernel_rfl)) rfl rfl rfl ?_)
  all_goals (refine WL.stepR (okE_box rfl) rfl rfl rfl ?_
             rintro _ h2 ⟨b2, rfl, hg2, hb2, hx2⟩)
  all_goals (have hs0 := hx0.size
             have hs1 := hx1.size
             have d2 : D28 h h2 b m b2 (.slice none 0 0) [] := ⟨hx2.obj hb1 nos, ⟨[], hm1.ext hx2 nos, .refl _⟩, List.Pairwise.nil, by simp, ⟨hb2, Own.nil _ _ _, by simp, by omega, by simp [Value.ownBlock], by simp⟩, (hx0.trans hx1).trans hx2, ⟨by omega, by omega, by simp⟩, by simp, by simp⟩)
  all_goals (refine WL.step (ok_assign rfl) rfl rfl rfl ?_)
  all_goals (refine WL.step (ok_assign rfl) rfl rfl rfl ?_)
  all_goals (refine WL.nil ?_)
  all_goals (repeat' (with_reducible first | refine thenP_n ?_ | refine blockP_n ?_))
  all_goals (refine WC.seq ?_)
  all_goals (refine WC.seq ?_)
  all_goals (refine WC.region ?_)
  all_goals (refine WL.step (ok_move rfl) rfl rfl rfl ?_)
  all_goals (refine WL.step (ok_lenL rfl Try.underlying108 rfl) rfl rfl rfl ?_)
  all_goals (refine WL.step (ok_move rfl) rfl rfl rfl ?_)
  all_goals (refine WL.nil ?_)
  all_goals (repeat' (with_reducible first | refine thenP_n ?_ | refine blockP_n ?_))
  all_goals (refine WC.sub [(3, _), (4, _), (26, _), (27, _), (28, _)] ⟨rfl, rfl, rfl, rfl, rfl, trivial⟩ ?_)
  all_goals (refine WC.block ?_)
  -- loop 0: slots that turn [28], that stay [3, 4, 26, 27]
  all_goals (refine WC.loopG (X := Nat) (fun x => ([(28, In (x : Int))] : Fr)) [(3, _), (4, _), (26, _), (27, _)] (fun k h' => k ≤ l.length ∧ ∃ v L, D28 h h' b m b2 v L ∧ L.length ≤ k) (fun k => l.length - k) (0) ⟨rfl, rfl, rfl, rfl, rfl, trivial⟩ (by exact ⟨Nat.zero_le _, _, _, d2, Nat.le_refl _⟩) ?_)
  all_goals (rintro k h3 ⟨hk, v3, L3, d3, hL3⟩)
  all_goals (refine WC.sub [(28, _), (3, _), (4, _), (26, _), (27, _)] ⟨rfl, rfl, rfl, rfl, rfl, trivial⟩ ?_)
  all_goals (refine WC.seq ?_)
  all_goals (refine WC.region ?_)
  all_goals (first | (refine WL.step (OkP.bool_t (by omega) (ok_lss rfl rfl)) rfl rfl rfl ?_) | (refine WL.step (OkP.bool_f (by omega) (ok_lss rfl rfl)) rfl rfl rfl ?_) | (refine WL.step (ok_lss rfl rfl) rfl rfl rfl ?_))
  all_goals (refine WL.nil ?_)
  all_goals (repeat' (with_reducible first | refine thenP_n ?_ | refine blockP_n ?_))
  all_goals (refine WC.seq ?_)
  all_goals (first | refine WC.condB_t 3 rfl ?_ | refine WC.condB_f 4 rfl ?_ | (refine WC.condB 3 4 rfl (fun hb => ?_) (fun hb => ?_) <;> (first | replace hb := of_decide_eq_true hb | replace hb := of_decide_eq_false hb | replace hb := of_decide_eq_false (nt hb) | replace hb := of_decide_eq_true (nf hb) | skip)))
  all_goals (first
    | (fail_if_success (refine Br.mk (i := 3) ?_))
    | (refine Br.mk (i := 3) ?_
       all_goals (refine WC.skip ?_)
       skip))
  all_goals (first
    | (fail_if_success (refine Br.mk (i := 4) ?_))
    | (refine Br.mk (i := 4) ?_
       all_goals (refine WC.exit ?_)
       all_goals (repeat' (with_reducible first | refine thenP_x ?_ | refine blockP_miss rfl ?_ | refine blockP_hit ?_ | refine blockP_n ?_ | refine thenP_n ?_))
       all_goals (refine Br.out (i := 1000) ?_)
       skip))
  all_goals (first | (refine Br.keep ?_) | (repeat' (with_reducible first | refine thenP_n ?_ | refine blockP_n ?_)))
  all_goals (first | (refine Br.keep ?_) | (refine WC.seq ?_))
  all_goals (first | (refine Br.keep ?_) | (refine WC.block ?_))
  all_goals (first | (refine Br.keep ?_) | (refine WC.seq ?_))
  all_goals (first | (refine Br.keep ?_) | (refine WC.region ?_))
  all_goals (first
               | (refine Br.keep ?_)
               | (obtain ⟨bL, oL, hA, hbL, hat⟩ := Rd.at_ (hr.ext0 d3.ext) (by omega)
                  obtain ⟨⟨op, n, nm, ⟨t1, vo1, o1, vp1, ps1, vr1, rs1, r1, z1⟩, w, R⟩, hy⟩ : ∃ y, l[k]? = some y := ⟨_, List.getElem?_eq_getElem (by omega)⟩
                  have hdk := hok _ (List.mem_of_getElem? hy)
                  have ho1 := hdk.1.oids
                  have hp1 := hdk.1.ps
                  have hs1' := hdk.1.rs
                  have hR := hdk.2
                  simp only at ho1 hp1 hs1' hR
                  obtain ⟨A1, c1, rfl, _⟩ := id ho1
                  obtain ⟨_, ⟨_, A2, c2, rfl, _⟩, _⟩ := id hp1
                  obtain ⟨_, ⟨_, A3, c3, rfl, _⟩, _⟩ := id hs1'
                  obtain ⟨_, ⟨_, A4, c4, rfl, _⟩, _⟩ := id hR
                  have hP0 : PD.ok h ⟨t1, .slice A1 o1.length c1, o1, .slice A2 ps1.length c2, ps1, .slice A3 rs1.length c3, rs1, r1, z1⟩ := hdk.1
                  have hPf : ∀ q, PD.F ⟨t1, .slice A1 o1.length c1, o1, .slice A2 ps1.length c2, ps1, .slice A3 rs1.length c3, rs1, r1, z1⟩ q → q < h.size := fun q hq => hP0.lt hq
                  have hc : At h3 bL (oL + k * 10) [In op, In n, St nm, St t1, .slice A1 o1.length c1, .slice A2 ps1.length c2, .slice A3 rs1.length c3, .bool r1, .bool z1, .slice A4 R.length c4] := At.elem Dp.len hat hy))
  all_goals (first | (refine Br.keep ?_) | (refine WL.step (ok_idxAddrA Try.underlying108 (fun w => Try.sizeOf115 w) rfl rfl rfl (by omega) (by first | rfl | assumption)) rfl rfl rfl ?_))
  all_goals (first | (refine Br.keep ?_) | (refine WL.step (ok_loadN (fun w => Try.isAgg115 w) (fun w => Try.sizeOf115 w) rfl rfl (by assumption)) rfl rfl rfl ?_))
  all_goals (first
               | (refine Br.keep ?_)
               | (refine WL.stepR (okE_alloc (fun w => Try.zeroValue115 w)) rfl rfl rfl ?_
                  rintro _ h4 ⟨b6, rfl, hg6, hb4, hx4⟩))
  all_goals (first
               | (refine Br.keep ?_)
               | (refine WL.stepR0 (okE_storeW (fun w => Try.sizeOf115 w) rfl rfl rfl (by assumption) rfl (by simp [Value.oneCell'])) rfl rfl ?_
                  rintro _ h5 ⟨hb6, hx5⟩))
  all_goals (first
               | (refine Br.keep ?_)
               | (have d5 := d3.stay (S := fun q => q = b6) ((hx4.mono (fun _ _ e => e.elim)).trans hx5) (fun k hk e => by omega)
                  have na := d5.not hb6
                  have hl5 : L3.length ≤ 1000 := by omega))
  all_goals (first | (refine Br.keep ?_) | (refine WL.nil ?_))
  all_goals (first | (refine Br.keep ?_) | (repeat' (with_reducible first | refine thenP_n ?_ | refine blockP_n ?_)))
  all_goals (first | (refine Br.keep ?_) | (refine WC.seq ?_))
  all_goals (first | (refine Br.keep ?_) | (refine WC.region ?_))
  all_goals (first | (refine Br.keep ?_) | (refine WL.step (ok_assign rfl) rfl rfl rfl ?_))
  all_goals (first | (refine Br.keep ?_) | (refine WL.nil ?_))
  all_goals (first | (refine Br.keep ?_) | (repeat' (with_reducible first | refine thenP_n ?_ | refine blockP_n ?_)))
  all_goals (first | (refine Br.keep ?_) | (refine WC.seq ?_))
  all_goals (first | (refine Br.keep ?_) | (refine WC.seq ?_))
  all_goals (first | (refine Br.keep ?_) | (refine WC.region ?_))
  all_goals (first | (refine Br.keep ?_) | (refine WL.step (ok_fieldAddr rfl Try.underlying115 rfl (fun w => Try.sizeOf3 w)) rfl rfl rfl ?_))
  all_goals (first | (refine Br.keep ?_) | (refine WL.step (ok_load (fun w => Try.isAgg3 w) rfl (by first | assumption | exact cell_blk (by assumption) rfl)) rfl rfl rfl ?_))
  all_goals (first | (refine Br.keep ?_) | (refine WL.nil ?_))
  all_goals (first | (refine Br.keep ?_) | (repeat' (with_reducible first | refine thenP_n ?_ | refine blockP_n ?_)))
  all_goals (first | (refine Br.keep ?_) | (refine WC.sub [(3, _), (4, _), (6, _), (7, _), (26, _), (27, _), (28, _), (33, _)] ⟨rfl, rfl, rfl, rfl, rfl, rfl, rfl, rfl, trivial⟩ ?_))
  all_goals (first | (refine Br.keep ?_) | (refine WC.block ?_))
  all_goals (first | (refine Br.keep ?_) | (refine WC.seq ?_))
  all_goals (first | (refine Br.keep ?_) | (refine WC.region ?_))
  all_goals (first | (refine Br.keep ?_) | (try (exfalso; omega)))
  all_goals (first | (refine Br.keep ?_) | (first | (refine WL.step (OkP.bool_t (by omega) (ok_eql rfl rfl)) rfl rfl rfl ?_) | (refine WL.step (OkP.bool_f (by omega) (ok_eql rfl rfl)) rfl rfl rfl ?_) | (refine WL.step (ok_eql rfl rfl) rfl rfl rfl ?_)))
  all_goals (first | (refine Br.keep ?_) | (refine WL.step (ok_assign rfl) rfl rfl rfl ?_))
  all_goals (first | (refine Br.keep ?_) | (refine WL.nil ?_))
  all_goals (first | (refine Br.keep ?_) | (repeat' (with_reducible first | refine thenP_n ?_ | refine blockP_n ?_)))
  all_goals (first | (refine Br.keep ?_) | (first | refine WC.condB_t 5 rfl ?_ | refine WC.condB_f 6 rfl ?_ | (refine WC.condB 5 6 rfl (fun hb => ?_) (fun hb => ?_) <;> (first | replace hb := of_decide_eq_true hb | replace hb := of_decide_eq_false hb | replace hb := of_decide_eq_false (nt hb) | replace hb := of_decide_eq_true (nf hb) | skip))))
  all_goals (first
    | (fail_if_success (refine Br.mk (i := 5) ?_))
    | (refine Br.mk (i := 5) ?_
       all_goals (refine WC.seq ?_)
       all_goals (refine WC.region ?_)
       all_goals (try (exfalso; omega))
       all_goals (refine WL.step (ok_fieldAddr rfl Try.underlying115 rfl (fun w => Try.sizeOf58 w)) rfl rfl rfl ?_)
       all_goals (refine WL.step (ok_loadN (fun w => Try.isAgg58 w) (fun w => Try.sizeOf58 w) rfl rfl (by exact At.pre (xs := [St t1, .slice A1 o1.length c1, .slice A2 ps1.length c2, .slice A3 rs1.length c3, .bool r1, .bool z1]) (ys := [.slice A4 R.length c4]) (At.tl (At.tl (At.tl (At.of_block hb6)))))) rfl rfl rfl ?_)
       all_goals (refine WL.stepR (okE_alloc (fun w => Try.zeroValue58 w)) rfl rfl rfl ?_
                  rintro _ h12 ⟨b8, rfl, hg8, hb12, hx12⟩)
       all_goals (refine WL.stepR0 (okE_storeW (fun w => Try.sizeOf58 w) rfl rfl rfl (by assumption) rfl (by simp [Value.oneCell'])) rfl rfl ?_
                  rintro _ h13 ⟨hb8, hx13⟩)
       all_goals (have nb8 := d5.not58 hg8
                  have d13 := d5.stay (S := fun q => q = b8) ((hx12.mono (fun _ _ e => e.elim)).trans hx13) (fun k hk e => by omega)
                  have hb613 := hx13.obj (hx12.obj hb6 nos) (fun e => by have := lt_of_some hb6; omega)
                  have hb8 : h13[b8]? = some (.cells ⟨[St t1, .slice A1 o1.length c1, .slice A2 ps1.length c2, .slice A3 rs1.length c3, .bool r1, .bool z1]⟩ 58 (0, 0)) := hb8
                  have hP13 := hP0.ext d13.ext (fun _ _ => nos))
       all_goals (refine WL.nil ?_)
       all_goals (repeat' (with_reducible first | refine thenP_n ?_ | refine blockP_n ?_))
       all_goals (refine WC.sub [(3, _), (4, _), (6, _), (8, _), (26, _), (27, _), (28, _)] ⟨rfl, rfl, rfl, rfl, rfl, rfl, rfl, trivial⟩ ?_)
       all_goals (refine WC.drawH (fun h' => h'[b6]? = some (.cells ⟨[In op, In n, St nm, St t1, .slice A1 o1.length c1, .slice A2 ps1.length c2, .slice A3 rs1.length c3, .bool r1, .bool z1, .slice A4 R.length c4]⟩ 115 (0, 0)) ∧ h'[b8]? = some (.cells ⟨[St t1, .slice A1 o1.length c1, .slice A2 ps1.length c2, .slice A3 rs1.length c3, .bool r1, .bool z1]⟩ 58 (0, 0))) 21 22 rfl fol ?_)
       all_goals (refine WH.take 0 rfl (by kernel_rfl) (by kernel_rfl) (by kernel_rfl) (by kernel_rfl) rfl (by first | exact ⟨hb613, hb8⟩ | assumption) (fun hq hC => ok_move rfl) rfl rfl rfl ?_)
       all_goals (refine WH.take 1 rfl (by kernel_rfl) (by kernel_rfl) (by kernel_rfl) (by kernel_rfl) rfl (by first | exact ⟨hb613, hb8⟩ | assumption) (fun hq hC => ok_fieldAddr rfl Try.underlying115 rfl (fun w => Try.sizeOf9 w)) rfl rfl rfl ?_)
       all_goals (refine WH.take 2 rfl (by kernel_rfl) (by kernel_rfl) (by kernel_rfl) (by kernel_rfl) rfl (by first | exact ⟨hb613, hb8⟩ | assumption) (fun hq hC => ok_load (fun w => Try.isAgg9 w) rfl ((by first | exact cell_blk hC.1 rfl | exact cell_blk hC.2 rfl))) rfl rfl rfl ?_)
       all_goals (refine WH.take 3 rfl (by kernel_rfl) (by kernel_rfl) (by kernel_rfl) (by kernel_rfl) rfl (by first | exact ⟨hb613, hb8⟩ | assumption) (fun hq hC => ok_loadN (fun w => Try.isAgg58 w) (fun w => Try.sizeOf58 w) rfl rfl (by exact At.of_block hC.2)) rfl rfl rfl ?_)
       all_goals (refine WH.take 5 rfl (by kernel_rfl) (by kernel_rfl) (by kernel_rfl) (by kernel_rfl) rfl (by first | exact ⟨hb613, hb8⟩ | assumption) (fun hq hC => ok_move rfl) rfl rfl rfl ?_)
       all_goals (refine WH.take 6 rfl (by kernel_rfl) (by kernel_rfl) (by kernel_rfl) (by kernel_rfl) rfl (by first | exact ⟨hb613, hb8⟩ | assumption) (fun hq hC => ok_fieldAddr rfl Try.underlying115 rfl (fun w => Try.sizeOf9 w)) rfl rfl rfl ?_)
       all_goals (refine WH.take 7 rfl (by kernel_rfl) (by kernel_rfl) (by kernel_rfl) (by kernel_rfl) rfl (by first | exact ⟨hb613, hb8⟩ | assumption) (fun hq hC => ok_load (fun w => Try.isAgg9 w) rfl ((by first | exact cell_blk hC.1 rfl | exact cell_blk hC.2 rfl))) rfl rfl rfl ?_)
       all_goals (refine WH.take 8 rfl (by kernel_rfl) (by kernel_rfl) (by kernel_rfl) (by kernel_rfl) rfl (by first | exact ⟨hb613, hb8⟩ | assumption) (fun hq hC => ok_fieldAddr rfl Try.underlying58 rfl (fun w => Try.sizeOf56 w)) rfl rfl rfl ?_)
       all_goals (refine WH.take 9 rfl (by kernel_rfl) (by kernel_rfl) (by kernel_rfl) (by kernel_rfl) rfl (by first | exact ⟨hb613, hb8⟩ | assumption) (fun hq hC => ok_loadN (fun w => Try.isAgg56 w) (fun w => Try.sizeOf56 w) rfl rfl (by exact At.pre (xs := [St t1, .slice A1 o1.length c1]) (ys := [.slice A2 ps1.length c2, .slice A3 rs1.length c3, .bool r1, .bool z1]) (At.of_block hC.2))) rfl rfl rfl ?_)
       all_goals (refine WH.take 10 rfl (by kernel_rfl) (by kernel_rfl) (by kernel_rfl) (by kernel_rfl) rfl (by first | exact ⟨hb613, hb8⟩ | assumption) (fun hq hC => ok_fieldAddr rfl Try.underlying58 rfl (fun w => Try.sizeOf36 w)) rfl rfl rfl ?_)
       all_goals (refine WH.take 11 rfl (by kernel_rfl) (by kernel_rfl) (by kernel_rfl) (by kernel_rfl) rfl (by first | exact ⟨hb613, hb8⟩ | assumption) (fun hq hC => ok_load (fun w => Try.isAgg36 w) rfl ((by first | exact cell_blk hC.1 rfl | exact cell_blk hC.2 rfl))) rfl rfl rfl ?_)
       all_goals (refine WH.take 12 rfl (by kernel_rfl) (by kernel_rfl) (by kernel_rfl) (by kernel_rfl) rfl (by first | exact ⟨hb613, hb8⟩ | assumption) (fun hq hC => ok_fieldAddr rfl Try.underlying58 rfl (fun w => Try.sizeOf37 w)) rfl rfl rfl ?_)
       all_goals (refine WH.take 13 rfl (by kernel_rfl) (by kernel_rfl) (by kernel_rfl) (by kernel_rfl) rfl (by first | exact ⟨hb613, hb8⟩ | assumption) (fun hq hC => ok_load (fun w => Try.isAgg37 w) rfl ((by first | exact cell_blk hC.1 rfl | exact cell_blk hC.2 rfl))) rfl rfl rfl ?_)
       all_goals (refine WH.take 14 rfl (by kernel_rfl) (by kernel_rfl) (by kernel_rfl) (by kernel_rfl) rfl (by first | exact ⟨hb613, hb8⟩ | assumption) (fun hq hC => ok_fieldAddr rfl Try.underlying58 rfl (fun w => Try.sizeOf4 w)) rfl rfl rfl ?_)
       all_goals (refine WH.take 15 rfl (by kernel_rfl) (by kernel_rfl) (by kernel_rfl) (by kernel_rfl) rfl (by first | exact ⟨hb613, hb8⟩ | assumption) (fun hq hC => ok_load (fun w => Try.isAgg4 w) rfl ((by first | exact cell_blk hC.1 rfl | exact cell_blk hC.2 rfl))) rfl rfl rfl ?_)
       all_goals (refine WH.take 16 rfl (by kernel_rfl) (by kernel_rfl) (by kernel_rfl) (by kernel_rfl) rfl (by first | exact ⟨hb613, hb8⟩ | assumption) (fun hq hC => ok_fieldAddr rfl Try.underlying58 rfl (fun w => Try.sizeOf4 w)) rfl rfl rfl ?_)
       all_goals (refine WH.take 17 rfl (by kernel_rfl) (by kernel_rfl) (by kernel_rfl) (by kernel_rfl) rfl (by first | exact ⟨hb613, hb8⟩ | assumption) (fun hq hC => ok_load (fun w => Try.isAgg4 w) rfl ((by first | exact cell_blk hC.1 rfl | exact cell_blk hC.2 rfl))) rfl rfl rfl ?_)
       all_goals (refine WH.take 18 rfl (by kernel_rfl) (by kernel_rfl) (by kernel_rfl) (by kernel_rfl) rfl (by first | exact ⟨hb613, hb8⟩ | assumption) (fun hq hC => ok_buildF (vs := [_, _, _, _, _]) (cs := [_, _, _, _, _, _]) (fun | [.agg ⟨[a0, a1]⟩, a2, a3, a4, a5] => [a0, a1, a2, a3, a4, a5] | _ => []) rfl rfl (by kernel_rfl)) rfl rfl rfl ?_)
       all_goals (refine WH.one 4 (by kernel_rfl) ?_)
       all_goals (refine Comes1.call (vs := [_, _, _]) rfl rfl (fun a w => Try.call33 a w) rfl (put_both d13 nm ⟨t1, .slice A1 o1.length c1, o1, .slice A2 ps1.length c2, ps1, .slice A3 rs1.length c3, rs1, r1, z1⟩ hP13 hPf hl5) rfl rfl rfl ?_ (fun _ => by kernel_rfl)
                  rintro _ h14 ⟨ra, rfl, hx14, hdoc⟩)
       all_goals (refine ⟨fun _ => ⟨hx14.obj hb613 na, hx14.obj hb8 nb8⟩, ?_⟩)
       all_goals (have hC14 := And.intro (hx14.obj hb613 na) (hx14.obj hb8 nb8))
       all_goals (refine WH.one 19 (by kernel_rfl) ?_)
       all_goals (refine Comes1.call (vs := [_, _, _]) rfl rfl (fun a w => Try.call65 a w) rfl (hdoc) rfl rfl rfl ?_ (fun _ => by kernel_rfl)
                  rintro _ h7 ⟨rfl, hx7, v7, L7, d7, hl7⟩)
       all_goals (refine ⟨fun _ => ⟨hx7.obj hC14.1 na, hx7.obj hC14.2 nb8⟩, ?_⟩)
       all_goals (have hC7 := And.intro (hx7.obj hC14.1 na) (hx7.obj hC14.2 nb8)
                  have hb67 := hC7.1)
       all_goals (first | (refine WH.take 20 rfl (by kernel_rfl) (by kernel_rfl) (by kernel_rfl) (by kernel_rfl) rfl (by first | exact ⟨hb613, hb8⟩ | assumption) (fun hq hC => OkP.bool_t (by omega) (ok_eql rfl rfl)) rfl rfl rfl ?_) | (refine WH.take 20 rfl (by kernel_rfl) (by kernel_rfl) (by kernel_rfl) (by kernel_rfl) rfl (by first | exact ⟨hb613, hb8⟩ | assumption) (fun hq hC => OkP.bool_f (by omega) (ok_eql rfl rfl)) rfl rfl rfl ?_) | (refine WH.take 20 rfl (by kernel_rfl) (by kernel_rfl) (by kernel_rfl) (by kernel_rfl) rfl (by first | exact ⟨hb613, hb8⟩ | assumption) (fun hq hC => ok_eql rfl rfl) rfl rfl rfl ?_))
       all_goals (refine WH.one 21 (by kernel_rfl) ?_)
       all_goals (refine Comes1.run rfl (OkP.r (ok_assign rfl)) rfl rfl rfl ?_ (fun _ => by kernel_rfl)
                  rintro _ hz ⟨rfl, _⟩
                  subst hz)
       all_goals (refine ⟨fun e => (by cases e), ?_⟩)
       all_goals (refine WH.done (by kernel_rfl) ?_)
       skip))
  all_goals (first
    | (fail_if_success (refine Br.mk (i := 6) ?_))
    | (refine Br.mk (i := 6) ?_
       all_goals (refine WC.seq ?_)
       all_goals (refine WC.region ?_)
       all_goals (try (exfalso; omega))
       all_goals (first | (refine WL.step (OkP.bool_t (by omega) (ok_eql rfl rfl)) rfl rfl rfl ?_) | (refine WL.step (OkP.bool_f (by omega) (ok_eql rfl rfl)) rfl rfl rfl ?_) | (refine WL.step (ok_eql rfl rfl) rfl rfl rfl ?_))
       all_goals (refine WL.step (ok_assign rfl) rfl rfl rfl ?_)
       all_goals (refine WL.nil ?_)
       all_goals (repeat' (with_reducible first | refine thenP_n ?_ | refine blockP_n ?_))
       all_goals (first | refine WC.condB_t 7 rfl ?_ | refine WC.condB_f 8 rfl ?_ | (refine WC.condB 7 8 rfl (fun hb => ?_) (fun hb => ?_) <;> (first | replace hb := of_decide_eq_true hb | replace hb := of_decide_eq_false hb | replace hb := of_decide_eq_false (nt hb) | replace hb := of_decide_eq_true (nf hb) | skip)))
       all_goals (first
         | (fail_if_success (refine Br.mk (i := 7) ?_))
         | (refine Br.mk (i := 7) ?_
            all_goals (refine WC.drawH (fun h' => h'[b6]? = some (.cells ⟨[In op, In n, St nm, St t1, .slice A1 o1.length c1, .slice A2 ps1.length c2, .slice A3 rs1.length c3, .bool r1, .bool z1, .slice A4 R.length c4]⟩ 115 (0, 0))) 13 14 rfl fol ?_)
            all_goals (try (exfalso; omega))
            all_goals (refine WH.take 0 rfl (by kernel_rfl) (by kernel_rfl) (by kernel_rfl) (by kernel_rfl) rfl (by first | exact Ext.refl _ _ | assumption) (fun hq hC => ok_move rfl) rfl rfl rfl ?_)
            all_goals (refine WH.take 1 rfl (by kernel_rfl) (by kernel_rfl) (by kernel_rfl) (by kernel_rfl) rfl (by first | exact Ext.refl _ _ | assumption) (fun hq hC => ok_fieldAddr rfl Try.underlying115 rfl (fun w => Try.sizeOf9 w)) rfl rfl rfl ?_)
            all_goals (refine WH.take 2 rfl (by kernel_rfl) (by kernel_rfl) (by kernel_rfl) (by kernel_rfl) rfl (by first | exact Ext.refl _ _ | assumption) (fun hq hC => ok_load (fun w => Try.isAgg9 w) rfl (cell_blk hC rfl)) rfl rfl rfl ?_)
            all_goals (refine WH.take 3 rfl (by kernel_rfl) (by kernel_rfl) (by kernel_rfl) (by kernel_rfl) rfl (by first | exact Ext.refl _ _ | assumption) (fun hq hC => ok_fieldAddr rfl Try.underlying115 rfl (fun w => Try.sizeOf37 w)) rfl rfl rfl ?_)
            all_goals (refine WH.take 4 rfl (by kernel_rfl) (by kernel_rfl) (by kernel_rfl) (by kernel_rfl) rfl (by first | exact Ext.refl _ _ | assumption) (fun hq hC => ok_load (fun w => Try.isAgg37 w) rfl (cell_blk hC rfl)) rfl rfl rfl ?_)
            all_goals (refine WH.take 6 rfl (by kernel_rfl) (by kernel_rfl) (by kernel_rfl) (by kernel_rfl) rfl (by first | exact Ext.refl _ _ | assumption) (fun hq hC => ok_move rfl) rfl rfl rfl ?_)
            all_goals (refine WH.take 7 rfl (by kernel_rfl) (by kernel_rfl) (by kernel_rfl) (by kernel_rfl) rfl (by first | exact Ext.refl _ _ | assumption) (fun hq hC => ok_fieldAddr rfl Try.underlying115 rfl (fun w => Try.sizeOf9 w)) rfl rfl rfl ?_)
            all_goals (refine WH.take 8 rfl (by kernel_rfl) (by kernel_rfl) (by kernel_rfl) (by kernel_rfl) rfl (by first | exact Ext.refl _ _ | assumption) (fun hq hC => ok_load (fun w => Try.isAgg9 w) rfl (cell_blk hC rfl)) rfl rfl rfl ?_)
            all_goals (refine WH.take 9 rfl (by kernel_rfl) (by kernel_rfl) (by kernel_rfl) (by kernel_rfl) rfl (by first | exact Ext.refl _ _ | assumption) (fun hq hC => ok_fieldAddr rfl Try.underlying115 rfl (fun w => Try.sizeOf37 w)) rfl rfl rfl ?_)
            all_goals (refine WH.take 10 rfl (by kernel_rfl) (by kernel_rfl) (by kernel_rfl) (by kernel_rfl) rfl (by first | exact Ext.refl _ _ | assumption) (fun hq hC => ok_load (fun w => Try.isAgg37 w) rfl (cell_blk hC rfl)) rfl rfl rfl ?_)
            all_goals (refine WH.one 5 (by kernel_rfl) ?_)
            all_goals (refine Comes1.call (vs := [_, _, _]) rfl rfl (fun a w => Try.call34 a w) rfl (ran_both d5 nm R (hR.ext0 d5.ext) (fun q hq => hR.lt hq) hl5) rfl rfl rfl ?_ (fun _ => by kernel_rfl)
                       rintro _ h14 ⟨ra, rfl, hx14, hdoc⟩)
            all_goals (refine ⟨fun _ => hx14.obj hb6 na, ?_⟩)
            all_goals (have hC14 := hx14.obj hb6 na)
            all_goals (refine WH.one 11 (by kernel_rfl) ?_)
            all_goals (refine Comes1.call (vs := [_, _, _]) rfl rfl (fun a w => Try.call66 a w) rfl (hdoc) rfl rfl rfl ?_ (fun _ => by kernel_rfl)
                       rintro _ h7 ⟨rfl, hx7, v7, L7, d7, hl7⟩)
            all_goals (refine ⟨fun _ => hx7.obj hC14 na, ?_⟩)
            all_goals (have hb67 := hx7.obj hC14 na)
            all_goals (first | (refine WH.take 12 rfl (by kernel_rfl) (by kernel_rfl) (by kernel_rfl) (by kernel_rfl) rfl (by first | exact Ext.refl _ _ | assumption) (fun hq hC => OkP.bool_t (by rfl) (ok_eqlB Try.underlying4 rfl rfl)) rfl rfl rfl ?_) | (refine WH.take 12 rfl (by kernel_rfl) (by kernel_rfl) (by kernel_rfl) (by kernel_rfl) rfl (by first | exact Ext.refl _ _ | assumption) (fun hq hC => OkP.bool_f (by decide) (ok_eqlB Try.underlying4 rfl rfl)) rfl rfl rfl ?_) | (refine WH.take 12 rfl (by kernel_rfl) (by kernel_rfl) (by kernel_rfl) (by kernel_rfl) rfl (by first | exact Ext.refl _ _ | assumption) (fun hq hC => ok_eqlB Try.underlying4 rfl rfl) rfl rfl rfl ?_))
            all_goals (refine WH.one 13 (by kernel_rfl) ?_)
            all_goals (refine Comes1.run rfl (OkP.r (ok_assign rfl)) rfl rfl rfl ?_ (fun _ => by kernel_rfl)
                       rintro _ hz ⟨rfl, _⟩
                       subst hz)
            all_goals (refine ⟨fun e => (by cases e), ?_⟩)
            all_goals (refine WH.done (by kernel_rfl) ?_)
            skip))
       all_goals (first
         | (fail_if_success (refine Br.mk (i := 8) ?_))
         | (refine Br.mk (i := 8) ?_
            all_goals (refine WC.seq ?_)
            all_goals (refine WC.seq ?_)
            all_goals (refine WC.region ?_)
            all_goals (try (exfalso; omega))
            all_goals (first | (refine WL.step (OkP.bool_t (by omega) (ok_eql rfl rfl)) rfl rfl rfl ?_) | (refine WL.step (OkP.bool_f (by omega) (ok_eql rfl rfl)) rfl rfl rfl ?_) | (refine WL.step (ok_eql rfl rfl) rfl rfl rfl ?_))
            all_goals (refine WL.step (ok_assign rfl) rfl rfl rfl ?_)
            all_goals (refine WL.nil ?_)
            all_goals (repeat' (with_reducible first | refine thenP_n ?_ | refine blockP_n ?_))
            all_goals (refine WC.sub [(3, _), (4, _), (6, _), (7, _), (26, _), (27, _), (28, _), (33, _), (79, _)] ⟨rfl, rfl, rfl, rfl, rfl, rfl, rfl, rfl, rfl, trivial⟩ ?_)
            all_goals (first | refine WC.condB_t 9 rfl ?_ | refine WC.condB_f 10 rfl ?_ | (refine WC.condB 9 10 rfl (fun hb => ?_) (fun hb => ?_) <;> (first | replace hb := of_decide_eq_true hb | replace hb := of_decide_eq_false hb | replace hb := of_decide_eq_false (nt hb) | replace hb := of_decide_eq_true (nf hb) | skip)))
            all_goals (first
              | (fail_if_success (refine Br.mk (i := 9) ?_))
              | (refine Br.mk (i := 9) ?_
                 all_goals (refine WC.skip ?_)
                 skip))
            all_goals (first
              | (fail_if_success (refine Br.mk (i := 10) ?_))
              | (refine Br.mk (i := 10) ?_
                 all_goals (refine WC.region ?_)
                 all_goals (try (exfalso; omega))
                 all_goals (first | (refine WL.step (OkP.bool_t (by omega) (ok_eql rfl rfl)) rfl rfl rfl ?_) | (refine WL.step (OkP.bool_f (by omega) (ok_eql rfl rfl)) rfl rfl rfl ?_) | (refine WL.step (ok_eql rfl rfl) rfl rfl rfl ?_))
                 all_goals (refine WL.step (ok_assign rfl) rfl rfl rfl ?_)
                 all_goals (refine WL.nil ?_)
                 skip))
            all_goals (repeat' (with_reducible first | refine thenP_n ?_ | refine blockP_n ?_))
            all_goals (first | refine WC.condB_t 11 rfl ?_ | refine WC.condB_f 12 rfl ?_ | (refine WC.condB 11 12 rfl (fun hb => ?_) (fun hb => ?_) <;> (first | replace hb := of_decide_eq_true hb | replace hb := of_decide_eq_false hb | replace hb := of_decide_eq_false (nt hb) | replace hb := of_decide_eq_true (nf hb) | skip)))
            all_goals (first
              | (fail_if_success (refine Br.mk (i := 11) ?_))
              | (refine Br.mk (i := 11) ?_
                 all_goals (refine WC.seq ?_)
                 all_goals (refine WC.region ?_)
                 all_goals (try (exfalso; omega))
                 all_goals (refine WL.step (ok_move rfl) rfl rfl rfl ?_)
                 all_goals (refine WL.step (ok_fieldAddr rfl Try.underlying115 rfl (fun w => Try.sizeOf9 w)) rfl rfl rfl ?_)
                 all_goals (refine WL.step (ok_load (fun w => Try.isAgg9 w) rfl (by first | assumption | exact cell_blk (by assumption) rfl)) rfl rfl rfl ?_)
                 all_goals (refine WL.step (ok_fieldAddr rfl Try.underlying115 rfl (fun w => Try.sizeOf3 w)) rfl rfl rfl ?_)
                 all_goals (refine WL.step (ok_load (fun w => Try.isAgg3 w) rfl (by first | assumption | exact cell_blk (by assumption) rfl)) rfl rfl rfl ?_)
                 all_goals (refine WL.call (vs := [_, _, _]) rfl (fun a w => Try.call35 a w) rfl (fetch_both d5 nm n hl5) rfl rfl rfl ?_
                            rintro _ h14 ⟨ra, va, R1, R2, rfl, hRR, hx14, hdoc⟩)
                 all_goals (have hC14 := hx14.obj hb6 na)
                 all_goals (refine WL.step (ok_move rfl) rfl rfl rfl ?_)
                 all_goals (refine WL.step (ok_extract rfl rfl) rfl rfl rfl ?_)
                 all_goals (refine WL.step (ok_extract rfl rfl) rfl rfl rfl ?_)
                 all_goals (refine WL.step (ok_assign rfl) rfl rfl rfl ?_)
                 all_goals (refine WL.step (ok_assign rfl) rfl rfl rfl ?_)
                 all_goals (refine WL.nil ?_)
                 all_goals (repeat' (with_reducible first | refine thenP_n ?_ | refine blockP_n ?_))
                 all_goals (refine WC.sub [(3, _), (4, _), (6, _), (9, _), (10, _), (26, _), (27, _), (28, _)] ⟨rfl, rfl, rfl, rfl, rfl, rfl, rfl, rfl, trivial⟩ ?_)
                 all_goals (refine WC.seq ?_)
                 all_goals (refine WC.region ?_)
                 all_goals (refine WL.step (ok_move rfl) rfl rfl rfl ?_)
                 all_goals (refine WL.step (ok_fieldAddr rfl Try.underlying115 rfl (fun w => Try.sizeOf9 w)) rfl rfl rfl ?_)
                 all_goals (refine WL.step (ok_load (fun w => Try.isAgg9 w) rfl (by first | assumption | exact cell_blk (by assumption) rfl)) rfl rfl rfl ?_)
                 all_goals (refine WL.step (ok_fieldAddr rfl Try.underlying115 rfl (fun w => Try.sizeOf3 w)) rfl rfl rfl ?_)
                 all_goals (refine WL.step (ok_load (fun w => Try.isAgg3 w) rfl (by first | assumption | exact cell_blk (by assumption) rfl)) rfl rfl rfl ?_)
                 all_goals (refine WL.call (vs := [_, _, _]) rfl (fun a w => Try.call67 a w) rfl (hdoc) rfl rfl rfl ?_
                            rintro _ h7 ⟨vb, rfl, hRa, hRb, hx7, v7, L7, d7, hl7⟩)
                 all_goals (have hb67 := hx7.obj hC14 na)
                 all_goals (refine WL.step (ok_move rfl) rfl rfl rfl ?_)
                 all_goals (refine WL.step (ok_extract rfl rfl) rfl rfl rfl ?_)
                 all_goals (refine WL.step (ok_extract rfl rfl) rfl rfl rfl ?_)
                 all_goals (refine WL.step (ok_assign rfl) rfl rfl rfl ?_)
                 all_goals (refine WL.step (ok_assign rfl) rfl rfl rfl ?_)
                 all_goals (refine WL.nil ?_)
                 all_goals (repeat' (with_reducible first | refine thenP_n ?_ | refine blockP_n ?_))
                 all_goals (refine WC.sub [(3, _), (4, _), (6, _), (9, _), (10, _), (11, _), (12, _), (26, _), (27, _), (28, _)] ⟨rfl, rfl, rfl, rfl, rfl, rfl, rfl, rfl, rfl, rfl, trivial⟩ ?_)
                 all_goals (refine WC.region ?_)
                 all_goals (refine WL.step (ok_move rfl) rfl rfl rfl ?_)
                 all_goals (refine WL.step (ok_move rfl) rfl rfl rfl ?_)
                 all_goals (refine WL.call (vs := [_, _]) rfl (fun a w => Try.call36 a w) rfl ((rows_ref28 R1 R2 hRa hRb).as (congrArg Value.bool (decide_eq_true hRR))) rfl rfl rfl ?_
                            rintro _ hz ⟨rfl, _⟩
                            subst hz)
                 all_goals (refine WL.step (ok_move rfl) rfl rfl rfl ?_)
                 all_goals (try ((fail_if_success (refine WL.part 103 (b := true) rfl (fun _ => ?_) (fun _ => ?_))); (fail_if_success (refine WL.part 103 (b := false) rfl (fun _ => ?_) (fun _ => ?_))); (refine WL.part 103 rfl (fun hb => ?_) (fun hb => ?_) <;> (first | replace hb := of_decide_eq_true hb | replace hb := of_decide_eq_false hb | replace hb := of_decide_eq_false (nt hb) | replace hb := of_decide_eq_true (nf hb) | skip))))
                 all_goals (first | (refine WL.pass rfl rfl rfl ?_) | (refine WL.step (ok_move rfl) rfl rfl rfl ?_))
                 all_goals (first | (refine WL.pass rfl rfl rfl ?_) | (refine WL.step (ok_move rfl) rfl rfl rfl ?_))
                 all_goals (first | (refine WL.pass rfl rfl rfl ?_) | (first | (refine WL.step (OkP.bool_t (by rfl) (ok_eqlB Try.underlying4 rfl rfl)) rfl rfl rfl ?_) | (refine WL.step (OkP.bool_f (by decide) (ok_eqlB Try.underlying4 rfl rfl)) rfl rfl rfl ?_) | (refine WL.step (ok_eqlB Try.underlying4 rfl rfl) rfl rfl rfl ?_)))
                 all_goals (first | (refine WL.step (ok_pick_t rfl rfl) rfl rfl rfl ?_) | (refine WL.step (ok_pick_f rfl rfl) rfl rfl rfl ?_))
                 all_goals (refine WL.step (ok_assign rfl) rfl rfl rfl ?_)
                 all_goals (refine WL.nil ?_)
                 skip))
            all_goals (first
              | (fail_if_success (refine Br.mk (i := 12) ?_))
              | (refine Br.mk (i := 12) ?_
                 all_goals (refine WC.seq ?_)
                 all_goals (refine WC.region ?_)
                 all_goals (try (exfalso; omega))
                 all_goals (first | (refine WL.step (OkP.bool_t (by omega) (ok_eql rfl rfl)) rfl rfl rfl ?_) | (refine WL.step (OkP.bool_f (by omega) (ok_eql rfl rfl)) rfl rfl rfl ?_) | (refine WL.step (ok_eql rfl rfl) rfl rfl rfl ?_))
                 all_goals (refine WL.step (ok_assign rfl) rfl rfl rfl ?_)
                 all_goals (refine WL.nil ?_)
                 all_goals (repeat' (with_reducible first | refine thenP_n ?_ | refine blockP_n ?_))
                 all_goals (first | refine WC.condB_t 13 rfl ?_ | refine WC.condB_f 14 rfl ?_ | (refine WC.condB 13 14 rfl (fun hb => ?_) (fun hb => ?_) <;> (first | replace hb := of_decide_eq_true hb | replace hb := of_decide_eq_false hb | replace hb := of_decide_eq_false (nt hb) | replace hb := of_decide_eq_true (nf hb) | skip)))
                 all_goals (first
                   | (fail_if_success (refine Br.mk (i := 13) ?_))
                   | (refine Br.mk (i := 13) ?_
                      all_goals (refine WC.drawH (fun h' => h'[b6]? = some (.cells ⟨[In op, In n, St nm, St t1, .slice A1 o1.length c1, .slice A2 ps1.length c2, .slice A3 rs1.length c3, .bool r1, .bool z1, .slice A4 R.length c4]⟩ 115 (0, 0))) 9 10 rfl fol ?_)
                      all_goals (try (exfalso; omega))
                      all_goals (refine WH.take 0 rfl (by kernel_rfl) (by kernel_rfl) (by kernel_rfl) (by kernel_rfl) rfl (by first | exact Ext.refl _ _ | assumption) (fun hq hC => ok_move rfl) rfl rfl rfl ?_)
                      all_goals (refine WH.take 1 rfl (by kernel_rfl) (by kernel_rfl) (by kernel_rfl) (by kernel_rfl) rfl (by first | exact Ext.refl _ _ | assumption) (fun hq hC => ok_fieldAddr rfl Try.underlying115 rfl (fun w => Try.sizeOf9 w)) rfl rfl rfl ?_)
                      all_goals (refine WH.take 2 rfl (by kernel_rfl) (by kernel_rfl) (by kernel_rfl) (by kernel_rfl) rfl (by first | exact Ext.refl _ _ | assumption) (fun hq hC => ok_load (fun w => Try.isAgg9 w) rfl (cell_blk hC rfl)) rfl rfl rfl ?_)
                      all_goals (refine WH.take 4 rfl (by kernel_rfl) (by kernel_rfl) (by kernel_rfl) (by kernel_rfl) rfl (by first | exact Ext.refl _ _ | assumption) (fun hq hC => ok_move rfl) rfl rfl rfl ?_)
                      all_goals (refine WH.take 5 rfl (by kernel_rfl) (by kernel_rfl) (by kernel_rfl) (by kernel_rfl) rfl (by first | exact Ext.refl _ _ | assumption) (fun hq hC => ok_fieldAddr rfl Try.underlying115 rfl (fun w => Try.sizeOf9 w)) rfl rfl rfl ?_)
                      all_goals (refine WH.take 6 rfl (by kernel_rfl) (by kernel_rfl) (by kernel_rfl) (by kernel_rfl) rfl (by first | exact Ext.refl _ _ | assumption) (fun hq hC => ok_load (fun w => Try.isAgg9 w) rfl (cell_blk hC rfl)) rfl rfl rfl ?_)
                      all_goals (refine WH.one 3 (by kernel_rfl) ?_)
                      all_goals (refine Comes1.call (vs := [_, _]) rfl rfl (fun a w => Try.call62 a w) rfl (del_both d5 nm hl5) rfl rfl rfl ?_ (fun _ => by kernel_rfl)
                                 rintro _ h14 ⟨ra, rfl, hx14, hdoc⟩)
                      all_goals (refine ⟨fun _ => hx14.obj hb6 na, ?_⟩)
                      all_goals (have hC14 := hx14.obj hb6 na)
                      all_goals (refine WH.one 7 (by kernel_rfl) ?_)
                      all_goals (refine Comes1.call (vs := [_, _]) rfl rfl (fun a w => Try.call68 a w) rfl (hdoc) rfl rfl rfl ?_ (fun _ => by kernel_rfl)
                                 rintro _ h7 ⟨rfl, hx7, v7, L7, d7, hl7⟩)
                      all_goals (refine ⟨fun _ => hx7.obj hC14 na, ?_⟩)
                      all_goals (have hb67 := hx7.obj hC14 na)
                      all_goals (first | (refine WH.take 8 rfl (by kernel_rfl) (by kernel_rfl) (by kernel_rfl) (by kernel_rfl) rfl (by first | exact Ext.refl _ _ | assumption) (fun hq hC => OkP.bool_t (by rfl) (ok_eqlB Try.underlying4 rfl rfl)) rfl rfl rfl ?_) | (refine WH.take 8 rfl (by kernel_rfl) (by kernel_rfl) (by kernel_rfl) (by kernel_rfl) rfl (by first | exact Ext.refl _ _ | assumption) (fun hq hC => OkP.bool_f (by decide) (ok_eqlB Try.underlying4 rfl rfl)) rfl rfl rfl ?_) | (refine WH.take 8 rfl (by kernel_rfl) (by kernel_rfl) (by kernel_rfl) (by kernel_rfl) rfl (by first | exact Ext.refl _ _ | assumption) (fun hq hC => ok_eqlB Try.underlying4 rfl rfl) rfl rfl rfl ?_))
                      all_goals (refine WH.one 9 (by kernel_rfl) ?_)
                      all_goals (refine Comes1.run rfl (OkP.r (ok_assign rfl)) rfl rfl rfl ?_ (fun _ => by kernel_rfl)
                                 rintro _ hz ⟨rfl, _⟩
                                 subst hz)
                      all_goals (refine ⟨fun e => (by cases e), ?_⟩)
                      all_goals (refine WH.done (by kernel_rfl) ?_)
                      skip))
                 all_goals (first
                   | (fail_if_success (refine Br.mk (i := 14) ?_))
                   | (refine Br.mk (i := 14) ?_
                      all_goals (refine WC.seq ?_)
                      all_goals (refine WC.region ?_)
                      all_goals (obtain ⟨E5, hm5, hE5⟩ := d5.map)
                      all_goals (refine WL.step (ok_move rfl) rfl rfl rfl ?_)
                      all_goals (refine WL.call (vs := [_]) rfl (fun a w => Try.call61 a w) rfl (clear_e d5.set hm5) rfl rfl rfl ?_
                                 rintro _ h14 ⟨rfl, hm14, hx14⟩)
                      all_goals (have hb214 := hx14.obj d5.x.blk d5.sep.2.1)
                      all_goals (refine WL.nil ?_)
                      all_goals (repeat' (with_reducible first | refine thenP_n ?_ | refine blockP_n ?_))
                      all_goals (refine WC.sub [(3, _), (4, _), (6, _), (7, _), (26, _), (27, _), (28, _)] ⟨rfl, rfl, rfl, rfl, rfl, rfl, rfl, trivial⟩ ?_)
                      all_goals (refine WC.region ?_)
                      all_goals (refine WL.step (ok_move rfl) rfl rfl rfl ?_)
                      all_goals (refine WL.step (ok_nilCheck rfl) rfl rfl rfl ?_)
                      all_goals (refine WL.step (ok_fieldAddr rfl Try.underlying113 rfl (fun w => Try.sizeOf111 w)) rfl rfl rfl ?_)
                      all_goals (refine WL.stepR0 (okE_store (fun w => Try.sizeOf111 w) rfl rfl hb214 (Nat.le_of_ble_eq_true rfl) rfl rfl) rfl rfl ?_
                                 rintro _ h7 ⟨hb7, hx7⟩)
                      all_goals (have d7 := d5.clear hm14 hx14 hb7 hx7
                                 have hl7 : ([] : List (List UInt8 × It28)).length ≤ L3.length + 1 := by simp
                                 have hb67 := hx7.obj (hx14.obj hb6 (fun e => na (.inl e))) (fun e => na (.inr (.inl e))))
                      all_goals (refine WL.nil ?_)
                      skip))
                 skip))
            skip))
       skip))
  all_goals (first | (refine Br.keep ?_) | (repeat' (with_reducible first | refine thenP_n ?_ | refine blockP_n ?_)))
  all_goals (first | (refine Br.keep ?_) | (refine WC.seq ?_))
  all_goals (first | (refine Br.keep ?_) | (refine WC.region ?_))
  all_goals (first
               | (refine Br.keep ?_)
               | (obtain ⟨v9, L9, d9, hl9⟩ : ∃ v9 L9, D28 h h7 b m b2 v9 L9 ∧ L9.length ≤ k + 1 := ⟨_, _, d7, by omega⟩
                  clear d7 hl7
                  have hb67 : h7[b6]? = some (.cells ⟨[In op, In n, St nm, St t1, .slice A1 o1.length c1, .slice A2 ps1.length c2, .slice A3 rs1.length c3, .bool r1, .bool z1, .slice A4 R.length c4]⟩ 115 (0, 0)) := hb67
                  have hl9' : L9.length ≤ 1000 := by omega))
  all_goals (first | (refine Br.keep ?_) | (refine WL.step (ok_move rfl) rfl rfl rfl ?_))
  all_goals (first | (refine Br.keep ?_) | (refine WL.step (ok_fieldAddr rfl Try.underlying115 rfl (fun w => Try.sizeOf9 w)) rfl rfl rfl ?_))
  all_goals (first | (refine Br.keep ?_) | (refine WL.step (ok_load (fun w => Try.isAgg9 w) rfl (by first | exact cell_blk hb67 rfl | assumption | exact cell_blk (by assumption) rfl)) rfl rfl rfl ?_))
  all_goals (first
               | (refine Br.keep ?_)
               | (refine WL.call (vs := [_, _]) rfl (fun a w => Try.call60 a w) rfl (get_both d9 nm hl9') rfl rfl rfl ?_
                  rintro _ h23 ⟨rg, pa, pe, rfl, oka, oke, hpe, hx23, hget⟩))
  all_goals (first | (refine Br.keep ?_) | (refine WL.step (ok_move rfl) rfl rfl rfl ?_))
  all_goals (first | (refine Br.keep ?_) | (refine WL.step (ok_extract rfl rfl) rfl rfl rfl ?_))
  all_goals (first | (refine Br.keep ?_) | (refine WL.step (ok_extract rfl rfl) rfl rfl rfl ?_))
  all_goals (first
               | (refine Br.keep ?_)
               | (refine WL.stepR (okE_alloc (fun w => Try.zeroValue58 w)) rfl rfl rfl ?_
                  rintro _ h24 ⟨b13, rfl, hg13, hb24, hx24⟩))
  all_goals (first
               | (refine Br.keep ?_)
               | (refine WL.stepR0 (okE_storeW (fun w => Try.sizeOf58 w) rfl rfl rfl (by assumption) rfl (pd_one oka)) rfl rfl ?_
                  rintro _ h25 ⟨hb13, hx25⟩))
  all_goals (first
               | (refine Br.keep ?_)
               | (have hX25 : Ext No h23 h25 := hx24.trans' hx25 (fun q hq e => by omega)
                  have hb625 := (hx23.trans hX25).obj hb67 nos))
  all_goals (first | (refine Br.keep ?_) | (refine WL.step (ok_assign rfl) rfl rfl rfl ?_))
  all_goals (first | (refine Br.keep ?_) | (refine WL.nil ?_))
  all_goals (first | (refine Br.keep ?_) | (repeat' (with_reducible first | refine thenP_n ?_ | refine blockP_n ?_)))
  all_goals (first | (refine Br.keep ?_) | (refine WC.sub [(3, _), (4, _), (6, _), (7, _), (13, _), (14, _), (26, _), (27, _), (28, _)] ⟨rfl, rfl, rfl, rfl, rfl, rfl, rfl, rfl, rfl, trivial⟩ ?_))
  all_goals (first | (refine Br.keep ?_) | (refine WC.seq ?_))
  all_goals (first | (refine Br.keep ?_) | (refine WC.region ?_))
  all_goals (first | (refine Br.keep ?_) | (refine WL.step (ok_move rfl) rfl rfl rfl ?_))
  all_goals (first | (refine Br.keep ?_) | (refine WL.step (ok_fieldAddr rfl Try.underlying115 rfl (fun w => Try.sizeOf9 w)) rfl rfl rfl ?_))
  all_goals (first | (refine Br.keep ?_) | (refine WL.step (ok_load (fun w => Try.isAgg9 w) rfl (by first | exact cell_blk hb625 rfl | assumption | exact cell_blk (by assumption) rfl)) rfl rfl rfl ?_))
  all_goals (first
               | (refine Br.keep ?_)
               | (refine WL.call (vs := [_, _]) rfl (fun a w => Try.call69 a w) rfl (hget _ hX25) rfl rfl rfl ?_
                  rintro _ h26 ⟨rfl, hx26⟩))
  all_goals (first | (refine Br.keep ?_) | (refine WL.step (ok_move rfl) rfl rfl rfl ?_))
  all_goals (first | (refine Br.keep ?_) | (refine WL.step (ok_extract rfl rfl) rfl rfl rfl ?_))
  all_goals (first | (refine Br.keep ?_) | (refine WL.step (ok_extract rfl rfl) rfl rfl rfl ?_))
  all_goals (first
               | (refine Br.keep ?_)
               | (refine WL.stepR (okE_alloc (fun w => Try.zeroValue117 w)) rfl rfl rfl ?_
                  rintro _ h27 ⟨b15, rfl, hg15, hb27, hx27⟩))
  all_goals (first
               | (refine Br.keep ?_)
               | (refine WL.stepR0 (okE_storeW (fun w => Try.sizeOf117 w) rfl rfl rfl (by assumption) rfl (pd_one oke)) rfl rfl ?_
                  rintro _ h28 ⟨hb15, hx28⟩))
  all_goals (first
               | (refine Br.keep ?_)
               | (have hX28 : Ext No h25 h28 := (hx26.trans hx27).trans' hx28 (fun q hq e => by have := hx26.size; omega)
                  have hb13' := hX28.obj hb13 nos
                  have hX238 : Ext No h23 h28 := hX25.trans hX28
                  have d28 := d9.stay (hx23.trans hX238) (fun _ _ => nos)
                  obtain ⟨B9, e9, rfl, _⟩ := d28.x.own.slice
                  have hb228 := d28.x.blk))
  all_goals (first | (refine Br.keep ?_) | (refine WL.step (ok_assign rfl) rfl rfl rfl ?_))
  all_goals (first | (refine Br.keep ?_) | (refine WL.nil ?_))
  all_goals (first | (refine Br.keep ?_) | (repeat' (with_reducible first | refine thenP_n ?_ | refine blockP_n ?_)))
  all_goals (first | (refine Br.keep ?_) | (refine WC.sub [(3, _), (4, _), (7, _), (13, _), (14, _), (15, _), (16, _), (26, _), (27, _), (28, _)] ⟨rfl, rfl, rfl, rfl, rfl, rfl, rfl, rfl, rfl, rfl, trivial⟩ ?_))
  all_goals (first | (refine Br.keep ?_) | (refine WC.seq ?_))
  all_goals (first | (refine Br.keep ?_) | (refine WC.drawH (fun h' => Ext No h28 h') 24 24 rfl fol ?_))
  all_goals (first | (refine Br.keep ?_) | (refine WH.take 0 rfl (by kernel_rfl) (by kernel_rfl) (by kernel_rfl) (by kernel_rfl) rfl (by first | exact Ext.refl _ _ | assumption) (fun hq hC => ok_move rfl) rfl rfl rfl ?_))
  all_goals (first | (refine Br.keep ?_) | (refine WH.take 1 rfl (by kernel_rfl) (by kernel_rfl) (by kernel_rfl) (by kernel_rfl) rfl (by first | exact Ext.refl _ _ | assumption) (fun hq hC => ok_not rfl) rfl rfl rfl ?_))
  all_goals (first | (refine Br.keep ?_) | (refine WH.take 2 rfl (by kernel_rfl) (by kernel_rfl) (by kernel_rfl) (by kernel_rfl) rfl (by first | exact Ext.refl _ _ | assumption) (fun hq hC => ok_move rfl) rfl rfl rfl ?_))
  all_goals (first | (refine Br.keep ?_) | (try ((fail_if_success (refine WH.part 135 (b := true) rfl (fun _ => ?_) (fun _ => ?_))); (fail_if_success (refine WH.part 135 (b := false) rfl (fun _ => ?_) (fun _ => ?_))); (refine WH.part 135 rfl (fun hb => ?_) (fun hb => ?_)))))
  all_goals (first | (refine Br.keep ?_) | (first | (refine WH.pass 3 rfl (by kernel_rfl) (by kernel_rfl) (by kernel_rfl) (by kernel_rfl) rfl (by first | exact Ext.refl _ _ | assumption) rfl rfl rfl ?_) | (refine WH.take 3 rfl (by kernel_rfl) (by kernel_rfl) (by kernel_rfl) (by kernel_rfl) rfl (by first | exact Ext.refl _ _ | assumption) (fun hq hC => ok_move rfl) rfl rfl rfl ?_)))
  all_goals (first | (refine Br.keep ?_) | (first | (refine WH.pass 4 rfl (by kernel_rfl) (by kernel_rfl) (by kernel_rfl) (by kernel_rfl) rfl (by first | exact Ext.refl _ _ | assumption) rfl rfl rfl ?_) | (refine WH.take 4 rfl (by kernel_rfl) (by kernel_rfl) (by kernel_rfl) (by kernel_rfl) rfl (by first | exact Ext.refl _ _ | assumption) (fun hq hC => ok_move rfl) rfl rfl rfl ?_)))
  all_goals (first | (refine Br.keep ?_) | (first | (refine WH.pass 5 rfl (by kernel_rfl) (by kernel_rfl) (by kernel_rfl) (by kernel_rfl) rfl (by first | exact Ext.refl _ _ | assumption) rfl rfl rfl ?_) | (first | (refine WH.take 5 rfl (by kernel_rfl) (by kernel_rfl) (by kernel_rfl) (by kernel_rfl) rfl (by first | exact Ext.refl _ _ | assumption) (fun hq hC => OkP.nbool_f (by rfl) (ok_neqB Try.underlying4 rfl rfl)) rfl rfl rfl ?_) | (refine WH.take 5 rfl (by kernel_rfl) (by kernel_rfl) (by kernel_rfl) (by kernel_rfl) rfl (by first | exact Ext.refl _ _ | assumption) (fun hq hC => OkP.nbool_t (by decide) (ok_neqB Try.underlying4 rfl rfl)) rfl rfl rfl ?_) | (refine WH.take 5 rfl (by kernel_rfl) (by kernel_rfl) (by kernel_rfl) (by kernel_rfl) rfl (by first | exact Ext.refl _ _ | assumption) (fun hq hC => ok_neqB Try.underlying4 rfl rfl) rfl rfl rfl ?_))))
  all_goals (first | (refine Br.keep ?_) | (first | (refine WH.take 6 rfl (by kernel_rfl) (by kernel_rfl) (by kernel_rfl) (by kernel_rfl) rfl (by first | exact Ext.refl _ _ | assumption) (fun hq hC => ok_pick_t rfl rfl) rfl rfl rfl ?_) | (refine WH.take 6 rfl (by kernel_rfl) (by kernel_rfl) (by kernel_rfl) (by kernel_rfl) rfl (by first | exact Ext.refl _ _ | assumption) (fun hq hC => ok_pick_f rfl rfl) rfl rfl rfl ?_)))
  all_goals (first | (refine Br.keep ?_) | (refine WH.take 7 rfl (by kernel_rfl) (by kernel_rfl) (by kernel_rfl) (by kernel_rfl) rfl (by first | exact Ext.refl _ _ | assumption) (fun hq hC => ok_move rfl) rfl rfl rfl ?_))
  all_goals (first | (refine Br.keep ?_) | (try ((fail_if_success (refine WH.part 140 (b := true) rfl (fun _ => ?_) (fun _ => ?_))); (fail_if_success (refine WH.part 140 (b := false) rfl (fun _ => ?_) (fun _ => ?_))); (refine WH.part 140 rfl (fun hb => ?_) (fun hb => ?_)))))
  all_goals (first | (refine Br.keep ?_) | (first | (refine WH.pass 8 rfl (by kernel_rfl) (by kernel_rfl) (by kernel_rfl) (by kernel_rfl) rfl (by first | exact Ext.refl _ _ | assumption) rfl rfl rfl ?_) | (refine WH.take 8 rfl (by kernel_rfl) (by kernel_rfl) (by kernel_rfl) (by kernel_rfl) rfl (by first | exact Ext.refl _ _ | assumption) (fun hq hC => ok_loadN (fun w => Try.isAgg58 w) (fun w => Try.sizeOf58 w) rfl rfl (by exact (At.of_block hb13').ext hC nos)) rfl rfl rfl ?_)))
  all_goals (first | (refine Br.keep ?_) | (first | (refine WH.pass 9 rfl (by kernel_rfl) (by kernel_rfl) (by kernel_rfl) (by kernel_rfl) rfl (by first | exact Ext.refl _ _ | assumption) rfl rfl rfl ?_) | (refine WH.take 9 rfl (by kernel_rfl) (by kernel_rfl) (by kernel_rfl) (by kernel_rfl) rfl (by first | exact Ext.refl _ _ | assumption) (fun hq hC => ok_loadN (fun w => Try.isAgg117 w) (fun w => Try.sizeOf117 w) rfl rfl (by exact (At.of_block hb15).ext hC nos)) rfl rfl rfl ?_)))
  all_goals (first | (refine Br.keep ?_) | (refine WH.one 10 (by kernel_rfl) ?_))
  all_goals (first
               | (refine Br.keep ?_)
               | (refine Comes1.call (vs := [_, _]) rfl rfl (fun a w => Try.call70 a w) rfl (same28 pa pe (oka.ext hX238 (fun _ _ => nos)) (oke.ext hX238 (fun _ _ => nos)) hpe) rfl rfl rfl ?_ (fun _ => by kernel_rfl)
                  rintro _ h29 ⟨rfl, hx29⟩))
  all_goals (first | (refine Br.keep ?_) | (refine ⟨fun _ => hx29, ?_⟩))
  all_goals (first
               | (refine Br.keep ?_)
               | (have d29 := d28.stay hx29 (fun _ _ => nos)
                  obtain ⟨E29, hm29, hE29⟩ := d29.map))
  all_goals (first | (refine Br.keep ?_) | (first | (refine WH.pass 11 rfl (by kernel_rfl) (by kernel_rfl) (by kernel_rfl) (by kernel_rfl) rfl (by first | exact Ext.refl _ _ | assumption) rfl rfl rfl ?_) | (refine WH.take 11 rfl (by kernel_rfl) (by kernel_rfl) (by kernel_rfl) (by kernel_rfl) rfl (by first | exact Ext.refl _ _ | assumption) (fun hq hC => ok_not rfl) rfl rfl rfl ?_)))
  all_goals (first | (refine Br.keep ?_) | (first | (refine WH.take 12 rfl (by kernel_rfl) (by kernel_rfl) (by kernel_rfl) (by kernel_rfl) rfl (by first | exact Ext.refl _ _ | assumption) (fun hq hC => ok_pick_t rfl rfl) rfl rfl rfl ?_) | (refine WH.take 12 rfl (by kernel_rfl) (by kernel_rfl) (by kernel_rfl) (by kernel_rfl) rfl (by first | exact Ext.refl _ _ | assumption) (fun hq hC => ok_pick_f rfl rfl) rfl rfl rfl ?_)))
  all_goals (first | (refine Br.keep ?_) | (refine WH.take 13 rfl (by kernel_rfl) (by kernel_rfl) (by kernel_rfl) (by kernel_rfl) rfl (by first | exact Ext.refl _ _ | assumption) (fun hq hC => ok_move rfl) rfl rfl rfl ?_))
  all_goals (first | (refine Br.keep ?_) | (try ((fail_if_success (refine WH.part 146 (b := true) rfl (fun _ => ?_) (fun _ => ?_))); (fail_if_success (refine WH.part 146 (b := false) rfl (fun _ => ?_) (fun _ => ?_))); (refine WH.part 146 rfl (fun hb => ?_) (fun hb => ?_)))))
  all_goals (first | (refine Br.keep ?_) | (first | (refine WH.pass 14 rfl (by kernel_rfl) (by kernel_rfl) (by kernel_rfl) (by kernel_rfl) rfl (by first | exact Ext.refl _ _ | assumption) rfl rfl rfl ?_) | (refine WH.take 14 rfl (by kernel_rfl) (by kernel_rfl) (by kernel_rfl) (by kernel_rfl) rfl (by first | exact Ext.refl _ _ | assumption) (fun hq hC => ok_move rfl) rfl rfl rfl ?_)))
  all_goals (first | (refine Br.keep ?_) | (first | (refine WH.pass 17 rfl (by kernel_rfl) (by kernel_rfl) (by kernel_rfl) (by kernel_rfl) rfl (by first | exact Ext.refl _ _ | assumption) rfl rfl rfl ?_) | (refine WH.take 17 rfl (by kernel_rfl) (by kernel_rfl) (by kernel_rfl) (by kernel_rfl) rfl (by first | exact Ext.refl _ _ | assumption) (fun hq hC => ok_move rfl) rfl rfl rfl ?_)))
  all_goals (first | (refine Br.keep ?_) | (first | (refine WH.pass 18 rfl (by kernel_rfl) (by kernel_rfl) (by kernel_rfl) (by kernel_rfl) rfl (by first | exact Ext.refl _ _ | assumption) rfl rfl rfl ?_) | (refine WH.take 18 rfl (by kernel_rfl) (by kernel_rfl) (by kernel_rfl) (by kernel_rfl) rfl (by first | exact Ext.refl _ _ | assumption) (fun hq hC => ok_nilCheck rfl) rfl rfl rfl ?_)))
  all_goals (first | (refine Br.keep ?_) | (first | (refine WH.pass 19 rfl (by kernel_rfl) (by kernel_rfl) (by kernel_rfl) (by kernel_rfl) rfl (by first | exact Ext.refl _ _ | assumption) rfl rfl rfl ?_) | (refine WH.take 19 rfl (by kernel_rfl) (by kernel_rfl) (by kernel_rfl) (by kernel_rfl) rfl (by first | exact Ext.refl _ _ | assumption) (fun hq hC => ok_fieldAddr rfl Try.underlying113 rfl (fun w => Try.sizeOf111 w)) rfl rfl rfl ?_)))
  all_goals (first | (refine Br.keep ?_) | (first | (refine WH.pass 20 rfl (by kernel_rfl) (by kernel_rfl) (by kernel_rfl) (by kernel_rfl) rfl (by first | exact Ext.refl _ _ | assumption) rfl rfl rfl ?_) | (refine WH.take 20 rfl (by kernel_rfl) (by kernel_rfl) (by kernel_rfl) (by kernel_rfl) rfl (by first | exact Ext.refl _ _ | assumption) (fun hq hC => ok_load (fun w => Try.isAgg111 w) rfl (by first | exact hC.cell (by first | assumption | assumption | exact cell_blk (by assumption) rfl) nos)) rfl rfl rfl ?_)))
  all_goals (first | (refine Br.keep ?_) | (first | (refine WH.pass 21 rfl (by kernel_rfl) (by kernel_rfl) (by kernel_rfl) (by kernel_rfl) rfl (by first | exact Ext.refl _ _ | assumption) rfl rfl rfl ?_) | (refine WH.take 21 rfl (by kernel_rfl) (by kernel_rfl) (by kernel_rfl) (by kernel_rfl) rfl (by first | exact Ext.refl _ _ | assumption) (fun hq hC => ok_lenL rfl Try.underlying111 rfl) rfl rfl rfl ?_)))
  all_goals (first | (refine Br.keep ?_) | (refine WH.one 15 (by kernel_rfl) ?_))
  all_goals (first
               | (refine Br.keep ?_)
               | (refine Comes1.call (vs := [_]) rfl rfl (fun a w => Try.call63 a w) rfl (names_e d29.set hm29 hE29 d29.rise (by omega)) rfl rfl rfl ?_ (fun _ => by kernel_rfl)
                  rintro v30 h30 ⟨ho30, hx30, hf30⟩))
  all_goals (first | (refine Br.keep ?_) | (refine ⟨fun _ => hx29.trans hx30, ?_⟩))
  all_goals (first
               | (refine Br.keep ?_)
               | (obtain ⟨A30, c30, rfl, _⟩ := ho30.slice
                  have hX30 := hx29.trans hx30
                  have d30 := d29.stay hx30 (fun _ _ => nos)))
  all_goals (first | (refine Br.keep ?_) | (first | (refine WH.pass 16 rfl (by kernel_rfl) (by kernel_rfl) (by kernel_rfl) (by kernel_rfl) rfl (by first | exact Ext.refl _ _ | assumption) rfl rfl rfl ?_) | (refine WH.take 16 rfl (by kernel_rfl) (by kernel_rfl) (by kernel_rfl) (by kernel_rfl) rfl (by first | exact Ext.refl _ _ | assumption) (fun hq hC => ok_lenL rfl Try.underlying106 rfl) rfl rfl rfl ?_)))
  all_goals (first | (refine Br.keep ?_) | (first | (refine WH.pass 22 rfl (by kernel_rfl) (by kernel_rfl) (by kernel_rfl) (by kernel_rfl) rfl (by first | exact Ext.refl _ _ | assumption) rfl rfl rfl ?_) | (first | (refine WH.take 22 rfl (by kernel_rfl) (by kernel_rfl) (by kernel_rfl) (by kernel_rfl) rfl (by first | exact Ext.refl _ _ | assumption) (fun hq hC => OkP.nbool_t (by omega) (ok_neq rfl rfl)) rfl rfl rfl ?_) | (refine WH.take 22 rfl (by kernel_rfl) (by kernel_rfl) (by kernel_rfl) (by kernel_rfl) rfl (by first | exact Ext.refl _ _ | assumption) (fun hq hC => OkP.nbool_f (by omega) (ok_neq rfl rfl)) rfl rfl rfl ?_) | (refine WH.take 22 rfl (by kernel_rfl) (by kernel_rfl) (by kernel_rfl) (by kernel_rfl) rfl (by first | exact Ext.refl _ _ | assumption) (fun hq hC => ok_neq rfl rfl) rfl rfl rfl ?_))))
  all_goals (first | (refine Br.keep ?_) | (first | (refine WH.take 23 rfl (by kernel_rfl) (by kernel_rfl) (by kernel_rfl) (by kernel_rfl) rfl (by first | exact Ext.refl _ _ | assumption) (fun hq hC => ok_pick_t rfl rfl) rfl rfl rfl ?_) | (refine WH.take 23 rfl (by kernel_rfl) (by kernel_rfl) (by kernel_rfl) (by kernel_rfl) rfl (by first | exact Ext.refl _ _ | assumption) (fun hq hC => ok_pick_f rfl rfl) rfl rfl rfl ?_)))
  all_goals (first | (refine Br.keep ?_) | (refine WH.done (by kernel_rfl) ?_))
  all_goals (first | (refine Br.keep ?_) | (repeat' (with_reducible first | refine thenP_n ?_ | refine blockP_n ?_)))
  all_goals (first | (refine Br.keep ?_) | (refine WC.sub [(3, _), (4, _), (26, _), (27, _), (28, _), (156, _)] ⟨rfl, rfl, rfl, rfl, rfl, rfl, trivial⟩ ?_))
  all_goals (first | (refine Br.keep ?_) | (first | refine WC.condB_t 15 rfl ?_ | refine WC.condB_f 16 rfl ?_ | (refine WC.condB 15 16 rfl (fun hb => ?_) (fun hb => ?_) <;> (first | replace hb := of_decide_eq_true hb | replace hb := of_decide_eq_false hb | replace hb := of_decide_eq_false (nt hb) | replace hb := of_decide_eq_true (nf hb) | skip))))
  all_goals (first
    | (fail_if_success (refine Br.mk (i := 15) ?_))
    | (refine Br.mk (i := 15) ?_
       all_goals (refine WC.seq ?_)
       all_goals (refine WC.region ?_)
       all_goals (refine WL.step (ok_assign rfl) rfl rfl rfl ?_)
       all_goals (refine WL.nil ?_)
       all_goals (repeat' (with_reducible first | refine thenP_n ?_ | refine blockP_n ?_))
       all_goals (refine WC.sub [(2, _)] ⟨rfl, trivial⟩ ?_)
       all_goals (refine WC.ret ?_)
       all_goals (repeat' (with_reducible first | refine thenP_r ?_ | refine blockP_r ?_))
       all_goals (refine retP_1 _ ⟨rfl, trivial⟩ ?_)
       all_goals (first | exact ⟨rfl, hx0.trans hx9⟩ | exact ⟨rfl, d31.ext.trans hx9⟩)
       skip))
  all_goals (first
    | (fail_if_success (refine Br.mk (i := 16) ?_))
    | (refine Br.mk (i := 16) ?_
       all_goals (refine WC.skip ?_)
       skip))
  all_goals (first | (refine Br.keep ?_) | (repeat' (with_reducible first | refine thenP_n ?_ | refine blockP_n ?_)))
  all_goals (first | (refine Br.keep ?_) | (refine WC.region ?_))
  all_goals (first | (refine Br.keep ?_) | (first | (refine WL.step (ok_addI rfl rfl (by omega)) rfl rfl rfl ?_) | (refine WL.step (ok_add rfl rfl) rfl rfl rfl ?_)))
  all_goals (first | (refine Br.keep ?_) | (refine WL.step (ok_move rfl) rfl rfl rfl ?_))
  all_goals (first | (refine Br.keep ?_) | (refine WL.nil ?_))
  all_goals (first | (refine Br.keep ?_) | (repeat' (with_reducible first | refine thenP_n ?_ | refine blockP_n ?_)))
  all_goals (first | (refine Br.keep ?_) | (exact ⟨k + 1, ⟨rfl, rfl, rfl, rfl, rfl, trivial⟩, (by exact ⟨by omega, _, _, d30, by omega⟩), (by omega)⟩))
  all_goals (try (refine Br.mk (i := 1000) ?_))
  all_goals (repeat' (with_reducible first | refine thenP_n ?_ | refine blockP_n ?_))
  all_goals (refine WC.sub [(3, _), (4, _)] ⟨rfl, rfl, trivial⟩ ?_)
  all_goals (refine WC.seq ?_)
  all_goals (refine WC.seq ?_)
  all_goals (refine WC.region ?_)
  all_goals (obtain ⟨E3, hm3, hE3⟩ := d3.map)
  all_goals (refine WL.step (ok_move rfl) rfl rfl rfl ?_)
  all_goals (refine WL.call (vs := [_]) rfl (fun a w => Try.call63 a w) rfl (names_e d3.set hm3 hE3 d3.rise (by omega)) rfl rfl rfl ?_
             rintro v31 h31 ⟨ho31, hx31, hf31⟩)
  all_goals (obtain ⟨A31, c31, rfl, _⟩ := ho31.slice
             have d31 := d3.stay hx31 (fun _ _ => nos)
             obtain ⟨B3, e3, rfl, _⟩ := d31.x.own.slice
             have hb231 := d31.x.blk)
  all_goals (refine WL.step (ok_lenL rfl Try.underlying106 rfl) rfl rfl rfl ?_)
  all_goals (refine WL.step (ok_move rfl) rfl rfl rfl ?_)
  all_goals (refine WL.nil ?_)
  all_goals (repeat' (with_reducible first | refine thenP_n ?_ | refine blockP_n ?_))
  all_goals (refine WC.block ?_)
  -- loop 1: slots that turn [161], that stay [4, 159, 160]
  all_goals (refine WC.loopG (X := Nat) (fun x => ([(161, In (x : Int))] : Fr)) [(4, _), (159, _), (160, _)] (fun j h' => h' = h31 ∧ j ≤ L3.length) (fun j => L3.length - j) (0) ⟨rfl, rfl, rfl, rfl, trivial⟩ (by exact ⟨rfl, Nat.zero_le _⟩) ?_)
  all_goals (rintro j h32 ⟨hz, hj⟩
             subst hz)
  all_goals (refine WC.sub [(161, _), (4, _), (159, _), (160, _)] ⟨rfl, rfl, rfl, rfl, trivial⟩ ?_)
  all_goals (refine WC.seq ?_)
  all_goals (refine WC.region ?_)
  all_goals (first | (refine WL.step (OkP.bool_t (by omega) (ok_lss rfl rfl)) rfl rfl rfl ?_) | (refine WL.step (OkP.bool_f (by omega) (ok_lss rfl rfl)) rfl rfl rfl ?_) | (refine WL.step (ok_lss rfl rfl) rfl rfl rfl ?_))
  all_goals (refine WL.nil ?_)
  all_goals (repeat' (with_reducible first | refine thenP_n ?_ | refine blockP_n ?_))
  all_goals (refine WC.seq ?_)
  all_goals (first | refine WC.condB_t 17 rfl ?_ | refine WC.condB_f 18 rfl ?_ | (refine WC.condB 17 18 rfl (fun hb => ?_) (fun hb => ?_) <;> (first | replace hb := of_decide_eq_true hb | replace hb := of_decide_eq_false hb | replace hb := of_decide_eq_false (nt hb) | replace hb := of_decide_eq_true (nf hb) | skip)))
  all_goals (first
    | (fail_if_success (refine Br.mk (i := 17) ?_))
    | (refine Br.mk (i := 17) ?_
       all_goals (refine WC.skip ?_)
       skip))
  all_goals (first
    | (fail_if_success (refine Br.mk (i := 18) ?_))
    | (refine Br.mk (i := 18) ?_
       all_goals (refine WC.exit ?_)
       all_goals (repeat' (with_reducible first | refine thenP_x ?_ | refine blockP_miss rfl ?_ | refine blockP_hit ?_ | refine blockP_n ?_ | refine thenP_n ?_))
       all_goals (refine Br.out (i := 1003) ?_)
       skip))
  all_goals (first | (refine Br.keep ?_) | (repeat' (with_reducible first | refine thenP_n ?_ | refine blockP_n ?_)))
  all_goals (first | (refine Br.keep ?_) | (refine WC.seq ?_))
  all_goals (first | (refine Br.keep ?_) | (refine WC.block ?_))
  all_goals (first | (refine Br.keep ?_) | (refine WC.seq ?_))
  all_goals (first | (refine Br.keep ?_) | (refine WC.region ?_))
  all_goals (first
               | (refine Br.keep ?_)
               | (obtain ⟨bN, oN, hAN, hbN, hatN⟩ := Rd.at_ ho31.rd (by omega)
                  obtain ⟨bX, oX, hAX, hbX, hatX⟩ := Rd.at_ d31.x.own.rd (by omega)
                  obtain ⟨⟨yn, yi⟩, hyj⟩ : ∃ y, L3[j]? = some y := ⟨_, List.getElem?_eq_getElem (by omega)⟩
                  have hcN := hatN.get (p := oN + j * 1) (v := St yn) j (by simp [hyj]) (by omega)
                  have hcX : At h32 bX (oX + j * 7) (St yn :: yi.e.cells) := At.elem slC_len hatX hyj))
  all_goals (first | (refine Br.keep ?_) | (refine WL.step (ok_move rfl) rfl rfl rfl ?_))
  all_goals (first | (refine Br.keep ?_) | (refine WL.step (ok_idxAddrA Try.underlying106 (fun w => Try.sizeOf9 w) rfl rfl rfl (by omega) (by first | rfl | assumption)) rfl rfl rfl ?_))
  all_goals (first | (refine Br.keep ?_) | (refine WL.step (ok_load (fun w => Try.isAgg9 w) rfl (by first | assumption | exact cell_blk (by assumption) rfl)) rfl rfl rfl ?_))
  all_goals (first | (refine Br.keep ?_) | (refine WL.step (ok_assign rfl) rfl rfl rfl ?_))
  all_goals (first | (refine Br.keep ?_) | (refine WL.step (ok_assign rfl) rfl rfl rfl ?_))
  all_goals (first | (refine Br.keep ?_) | (refine WL.nil ?_))
  all_goals (first | (refine Br.keep ?_) | (repeat' (with_reducible first | refine thenP_n ?_ | refine blockP_n ?_)))
  all_goals (first | (refine Br.keep ?_) | (refine WC.sub [(4, _), (17, _), (18, _), (159, _), (160, _), (161, _)] ⟨rfl, rfl, rfl, rfl, rfl, rfl, trivial⟩ ?_))
  all_goals (first | (refine Br.keep ?_) | (refine WC.seq ?_))
  all_goals (first | (refine Br.keep ?_) | (refine WC.region ?_))
  all_goals (first | (refine Br.keep ?_) | (refine WL.step (ok_move rfl) rfl rfl rfl ?_))
  all_goals (first | (refine Br.keep ?_) | (refine WL.step (ok_move rfl) rfl rfl rfl ?_))
  all_goals (first | (refine Br.keep ?_) | (refine WL.step (ok_nilCheck rfl) rfl rfl rfl ?_))
  all_goals (first | (refine Br.keep ?_) | (refine WL.step (ok_fieldAddr rfl Try.underlying113 rfl (fun w => Try.sizeOf111 w)) rfl rfl rfl ?_))
  all_goals (first | (refine Br.keep ?_) | (refine WL.step (ok_load (fun w => Try.isAgg111 w) rfl (by first | assumption | exact cell_blk (by assumption) rfl)) rfl rfl rfl ?_))
  all_goals (first | (refine Br.keep ?_) | (refine WL.step (ok_move rfl) rfl rfl rfl ?_))
  all_goals (first | (refine Br.keep ?_) | (refine WL.step (ok_idxAddrA Try.underlying111 (fun w => Try.sizeOf122 w) rfl rfl rfl (by omega) (by first | rfl | assumption)) rfl rfl rfl ?_))
  all_goals (first | (refine Br.keep ?_) | (refine WL.step (ok_fieldAddr rfl Try.underlying122 rfl (fun w => Try.sizeOf9 w)) rfl rfl rfl ?_))
  all_goals (first | (refine Br.keep ?_) | (refine WL.step (ok_load (fun w => Try.isAgg9 w) rfl (by first | exact hcX.get 0 rfl rfl | assumption | exact cell_blk (by assumption) rfl)) rfl rfl rfl ?_))
  all_goals (first | (refine Br.keep ?_) | (first | (refine WL.step (OkP.nbool_f (by first | rfl | assumption | decide) (ok_neqS rfl rfl)) rfl rfl rfl ?_) | (refine WL.step (OkP.nbool_t (by first | assumption | decide) (ok_neqS rfl rfl)) rfl rfl rfl ?_) | (refine WL.step (ok_neqS rfl rfl) rfl rfl rfl ?_)))
  all_goals (first | (refine Br.keep ?_) | (refine WL.nil ?_))
  all_goals (first | (refine Br.keep ?_) | (repeat' (with_reducible first | refine thenP_n ?_ | refine blockP_n ?_)))
  all_goals (first | (refine Br.keep ?_) | (refine WC.sub [(4, _), (159, _), (160, _), (161, _), (175, _)] ⟨rfl, rfl, rfl, rfl, rfl, trivial⟩ ?_))
  all_goals (first | (refine Br.keep ?_) | (first | refine WC.condB_t 19 rfl ?_ | refine WC.condB_f 20 rfl ?_ | (refine WC.condB 19 20 rfl (fun hb => ?_) (fun hb => ?_) <;> (first | replace hb := of_decide_eq_true hb | replace hb := of_decide_eq_false hb | replace hb := of_decide_eq_false (nt hb) | replace hb := of_decide_eq_true (nf hb) | skip))))
  all_goals (first
    | (fail_if_success (refine Br.mk (i := 19) ?_))
    | (refine Br.mk (i := 19) ?_
       all_goals (refine WC.seq ?_)
       all_goals (refine WC.region ?_)
       all_goals (refine WL.step (ok_assign rfl) rfl rfl rfl ?_)
       all_goals (refine WL.nil ?_)
       all_goals (repeat' (with_reducible first | refine thenP_n ?_ | refine blockP_n ?_))
       all_goals (refine WC.sub [(2, _)] ⟨rfl, trivial⟩ ?_)
       all_goals (refine WC.ret ?_)
       all_goals (repeat' (with_reducible first | refine thenP_r ?_ | refine blockP_r ?_))
       all_goals (refine retP_1 _ ⟨rfl, trivial⟩ ?_)
       all_goals (first | exact ⟨rfl, hx0.trans hx9⟩ | exact ⟨rfl, d31.ext.trans hx9⟩)
       skip))
  all_goals (first
    | (fail_if_success (refine Br.mk (i := 20) ?_))
    | (refine Br.mk (i := 20) ?_
       all_goals (refine WC.skip ?_)
       skip))
  all_goals (first | (refine Br.keep ?_) | (repeat' (with_reducible first | refine thenP_n ?_ | refine blockP_n ?_)))
  all_goals (first | (refine Br.keep ?_) | (refine WC.region ?_))
  all_goals (first | (refine Br.keep ?_) | (first | (refine WL.step (ok_addI rfl rfl (by omega)) rfl rfl rfl ?_) | (refine WL.step (ok_add rfl rfl) rfl rfl rfl ?_)))
  all_goals (first | (refine Br.keep ?_) | (refine WL.step (ok_move rfl) rfl rfl rfl ?_))
  all_goals (first | (refine Br.keep ?_) | (refine WL.nil ?_))
  all_goals (first | (refine Br.keep ?_) | (repeat' (with_reducible first | refine thenP_n ?_ | refine blockP_n ?_)))
  all_goals (first | (refine Br.keep ?_) | (exact ⟨j + 1, ⟨rfl, rfl, rfl, rfl, trivial⟩, (by exact ⟨rfl, by omega⟩), (by omega)⟩))
  all_goals (try (refine Br.mk (i := 1003) ?_))
  all_goals (repeat' (with_reducible first | refine thenP_n ?_ | refine blockP_n ?_))
  all_goals (refine WC.sub [] trivial ?_)
  all_goals (refine WC.seq ?_)
  all_goals (refine WC.region ?_)
  all_goals (refine WL.call (vs := []) rfl (fun a w => Try.call31 a w) rfl (awake28) rfl rfl rfl ?_
             rintro _ h9 ⟨rfl, hx9⟩)
  all_goals (refine WL.step (ok_assign rfl) rfl rfl rfl ?_)
  all_goals (refine WL.nil ?_)
  all_goals (repeat' (with_reducible first | refine thenP_n ?_ | refine blockP_n ?_))
  all_goals (refine WC.ret ?_)
  all_goals (repeat' (with_reducible first | refine thenP_r ?_ | refine blockP_r ?_))
  all_goals (refine retP_1 _ ⟨rfl, trivial⟩ ?_)
  all_goals (first | exact ⟨rfl, hx0.trans hx9⟩ | exact ⟨rfl, d31.ext.trans hx9⟩)

theorem lives28_any {h : Heap} {v : Value} (l : List Dp) (hr : Rd h v 10 l.length (l.flatMap Dp.cells)) (hl : l.length ≤ maxLen) (hok : ∀ d ∈ l, d.ok h) :
    CallsH Try.prog 12 ⟨[v]⟩ h fun u h' => u = .bool true ∧ Ext No h h' := by
  obtain ⟨A, c, rfl, _⟩ := id hr
  exact lives28 l hl hr hok
end Go.Proofs.Ytgfbilmlgibbfaa

