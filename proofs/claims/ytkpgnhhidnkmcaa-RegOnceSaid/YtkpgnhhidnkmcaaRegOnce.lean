/-
  RegOnce holds: whatever calls were made, the iterator hands on each statement once, under its own id.
-/
import Derived.Test.YtkpgnhhidnkmcaaRg5
import Derived.Test.YtkpgnhhidnkmcaaRows
namespace Go.Proofs.Ytkpgnhhidnkmcaa
open Go Go.RK

set_option maxHeartbeats 2000000 in
set_option maxRecDepth 100000 in
theorem once14 {h : Heap} {v : Value} (l : List Do14) (hr : Rd h v 4 l.length (l.flatMap d14C)) (hl : l.length ≤ maxLen) (ok : ∀ d ∈ l, stOk h d.2.2) :
    CallsH Try.prog 6 ⟨[v]⟩ h fun u h' => u = .bool true ∧ Ext No h h' := by
  have kf := fun h' (hx : Ext No h h') => few14 (v := v) l (hr.ext0 hx) hl (fun d hd => ⟨(ok d hd).1.ext0 hx, (ok d hd).2⟩)
  obtain ⟨A, c, rfl, _⟩ := id hr
  unfold maxLen at hl
  refine callsD [(0, _)] Try.func6 rfl Try.ntmps6 rfl ⟨rfl, trivial⟩ ?_
  all_goals (refine WD.seq ?_)
  all_goals (refine WD.of ?_)
  all_goals (refine WC.region ?_)
  all_goals (refine WL.stepR (okE_alloc (fun w => Try.zeroValue4 w)) rfl rfl rfl ?_
             rintro _ h1 ⟨b2, rfl, hg2, hb2, hx1⟩)
  all_goals (refine WL.nil ?_)
  all_goals (repeat' (with_reducible first | refine thenP_n ?_ | refine blockP_n ?_))
  all_goals (refine WD.sub [(0, _), (2, _)] ⟨rfl, rfl, trivial⟩ ?_)
  all_goals (refine WD.seq ?_)
  all_goals (refine WD.of ?_)
  all_goals (refine WC.seq ?_)
  all_goals (refine WC.region ?_)
  all_goals (refine WL.call (vs := []) rfl (fun a w => Try.call20 a w) rfl (awake14) rfl rfl rfl ?_
             rintro _ h2 ⟨rfl, hx2⟩)
  all_goals (refine WL.step (ok_not rfl) rfl rfl rfl ?_)
  all_goals (refine WL.nil ?_)
  all_goals (repeat' (with_reducible first | refine thenP_n ?_ | refine blockP_n ?_))
  all_goals (first | refine WC.condB_t 1 rfl ?_ | refine WC.condB_f 2 rfl ?_ | (refine WC.condB 1 2 rfl (fun hb => ?_) (fun hb => ?_) <;> (first | replace hb := of_decide_eq_true hb | replace hb := of_decide_eq_false hb | replace hb := of_decide_eq_false (nt hb) | replace hb := of_decide_eq_true (nf hb) | skip)))
  all_goals (first
    | (fail_if_success (refine Br.mk (i := 1) ?_))
    | (refine Br.mk (i := 1) ?_
       all_goals (refine WC.seq ?_)
       all_goals (refine WC.region ?_)
       all_goals (refine WL.stepR0 (okE_store (fun w => Try.sizeOf4 w) rfl rfl (by assumption) (Nat.le_of_ble_eq_true rfl) rfl rfl) rfl rfl ?_
                  rintro _ h1 ⟨hb1, hx1⟩)
       all_goals (refine WL.nil ?_)
       all_goals (repeat' (with_reducible first | refine thenP_n ?_ | refine blockP_n ?_))
       all_goals (refine WC.ret ?_)
       all_goals (repeat' (with_reducible first | refine thenP_r ?_ | refine blockP_r ?_))
       all_goals (first
                   | (fail_if_success (have := hoD); skip)
                   | (have hoD21 : open_ h21 D := hx21.obj hoD nos; have hoDz : open_ h22 D := hx22.obj hoD21 (fun e => by have e' : D = b2 := e; have := lt_of_some hb213; omega); have hb22' := shut_blk hoDz hb222))
       all_goals (with_reducible first | refine retD_0 ?_ | refine retD_1 (by assumption) ?_)
       all_goals (refine retP_1 _ ⟨⟨_, rfl, ld_cell (fun w => Try.isAgg4 w) (cell_blk (by assumption) rfl)⟩, trivial⟩ ?_)
       all_goals (first
                   | exact ⟨rfl, hX4⟩
                   | exact ⟨rfl, ((hX20.trans hx21).trans' hx22 (fun q hq e => by omega)).trans' (shut1 hoDz) (fun q hq e => by have e' : q = D := e; omega)⟩)
       skip))
  all_goals (first
    | (fail_if_success (refine Br.mk (i := 2) ?_))
    | (refine Br.mk (i := 2) ?_
       all_goals (refine WC.skip ?_)
       skip))
  all_goals (repeat' (with_reducible first | refine thenP_n ?_ | refine blockP_n ?_))
  all_goals (refine WD.sub [(0, _), (2, _)] ⟨rfl, rfl, trivial⟩ ?_)
  all_goals (refine WD.seq ?_)
  all_goals (refine WD.of ?_)
  all_goals (refine WC.seq ?_)
  all_goals (refine WC.region ?_)
  all_goals (refine WL.step (ok_move rfl) rfl rfl rfl ?_)
  all_goals (refine WL.call (vs := [_]) rfl (fun a w => Try.call21 a w) rfl (kf _ (hx1.trans hx2)) rfl rfl rfl ?_
             rintro _ h3 ⟨⟨bf, rfl, hfew⟩, hx3⟩)
  all_goals (have hX3 := (hx1.trans hx2).trans hx3
             have hb23 := (hx2.trans hx3).obj hb2 nos
             have hs1 := hx1.size)
  all_goals (refine WL.step (ok_not rfl) rfl rfl rfl ?_)
  all_goals (refine WL.nil ?_)
  all_goals (repeat' (with_reducible first | refine thenP_n ?_ | refine blockP_n ?_))
  all_goals (first | refine WC.condB_t 3 rfl ?_ | refine WC.condB_f 4 rfl ?_ | (refine WC.condB 3 4 rfl (fun hb => ?_) (fun hb => ?_) <;> (first | replace hb := of_decide_eq_true hb | replace hb := of_decide_eq_false hb | replace hb := of_decide_eq_false (nt hb) | replace hb := of_decide_eq_true (nf hb) | skip)))
  all_goals (first
    | (fail_if_success (refine Br.mk (i := 3) ?_))
    | (refine Br.mk (i := 3) ?_
       all_goals (refine WC.seq ?_)
       all_goals (refine WC.region ?_)
       all_goals (refine WL.call (vs := []) rfl (fun a w => Try.call20 a w) rfl (awake14) rfl rfl rfl ?_
                  rintro _ hz ⟨rfl, hxz⟩)
       all_goals (have hb2z := hxz.obj hb23 nos)
       all_goals (refine WL.stepR0 (okE_store (fun w => Try.sizeOf4 w) rfl rfl hb2z (Nat.le_of_ble_eq_true rfl) rfl rfl) rfl rfl ?_
                  rintro _ h4 ⟨hb24, hx4⟩)
       all_goals (have hX4 := (hX3.trans hxz).trans' hx4 (fun q hq e => by omega))
       all_goals (refine WL.nil ?_)
       all_goals (repeat' (with_reducible first | refine thenP_n ?_ | refine blockP_n ?_))
       all_goals (refine WC.sub [(2, _)] ⟨rfl, trivial⟩ ?_)
       all_goals (refine WC.ret ?_)
       all_goals (repeat' (with_reducible first | refine thenP_r ?_ | refine blockP_r ?_))
       all_goals (first
                   | (fail_if_success (have := hoD); skip)
                   | (have hoD21 : open_ h21 D := hx21.obj hoD nos; have hoDz : open_ h22 D := hx22.obj hoD21 (fun e => by have e' : D = b2 := e; have := lt_of_some hb213; omega); have hb22' := shut_blk hoDz hb222))
       all_goals (with_reducible first | refine retD_0 ?_ | refine retD_1 (by assumption) ?_)
       all_goals (refine retP_1 _ ⟨⟨_, rfl, ld_cell (fun w => Try.isAgg4 w) (cell_blk (by assumption) rfl)⟩, trivial⟩ ?_)
       all_goals (first
                   | exact ⟨rfl, hX4⟩
                   | exact ⟨rfl, ((hX20.trans hx21).trans' hx22 (fun q hq e => by omega)).trans' (shut1 hoDz) (fun q hq e => by have e' : q = D := e; omega)⟩)
       skip))
  all_goals (first
    | (fail_if_success (refine Br.mk (i := 4) ?_))
    | (refine Br.mk (i := 4) ?_
       all_goals (refine WC.skip ?_)
       skip))
  all_goals (repeat' (with_reducible first | refine thenP_n ?_ | refine blockP_n ?_))
  all_goals (refine WD.sub [(0, _), (2, _)] ⟨rfl, rfl, trivial⟩ ?_)
  all_goals (refine WD.seq ?_)
  all_goals (refine WD.of ?_)
  all_goals (refine WC.region ?_)
  all_goals (refine WL.call (vs := []) rfl (fun a w => Try.call22 a w) rfl (rg_new h3.size (Nat.le_refl _)) rfl rfl rfl ?_
             rintro _ h4 ⟨b, m1, m2, rfl, r4, hx4⟩
             unfold ptE)
  all_goals (refine WL.stepR (okE_alloc (fun w => Try.zeroValue49 w)) rfl rfl rfl ?_
             rintro _ h5 ⟨b3, rfl, hg3, hb3, hx5⟩)
  all_goals (refine WL.stepR0 (okE_store (fun w => Try.sizeOf49 w) rfl rfl hb3 (Nat.le_of_ble_eq_true rfl) rfl rfl) rfl rfl ?_
             rintro _ h6 ⟨hb36, hx6⟩)
  all_goals (have hX36 : Ext No h3 h6 := (hx4.trans hx5).trans' hx6 (fun q hq e => by have := hx4.size; omega)
             have r6 := r4.ext0 (hx5.trans' hx6 (fun q hq e => by omega))
             have hX6 := hX3.trans hX36
             have hb26 := hX36.obj hb23 nos
             have h60 := hfew (nf hb)
             have hB3 := hX3.size)
  all_goals (refine WL.nil ?_)
  all_goals (repeat' (with_reducible first | refine thenP_n ?_ | refine blockP_n ?_))
  all_goals (refine WD.sub [(0, _), (2, _), (3, _)] ⟨rfl, rfl, rfl, trivial⟩ ?_)
  all_goals (refine WD.seq ?_)
  all_goals (refine WD.of ?_)
  all_goals (refine WC.seq ?_)
  all_goals (refine WC.region ?_)
  all_goals (refine WL.step (ok_move rfl) rfl rfl rfl ?_)
  all_goals (refine WL.step (ok_lenL rfl Try.underlying47 rfl) rfl rfl rfl ?_)
  all_goals (refine WL.step (ok_move rfl) rfl rfl rfl ?_)
  all_goals (refine WL.nil ?_)
  all_goals (repeat' (with_reducible first | refine thenP_n ?_ | refine blockP_n ?_))
  all_goals (refine WC.block ?_)
  -- loop 0: slots that turn [22], that stay [2, 3, 20, 21]
  all_goals (refine WC.loopG (X := Nat) (fun x => ([(22, In (x : Int))] : Fr)) [(2, _), (3, _), (20, _), (21, _)] (fun k h' => Ext No h h' ∧ k ≤ l.length ∧ h'[b3]? = some (.cells ⟨[ptE b]⟩ 49 (0, 0)) ∧ h'[b2]? = some (.cells ⟨[.bool false]⟩ 4 (0, 0)) ∧ ∃ last L, Rg h3.size (k : Int) h' b m1 m2 last L) (fun k => l.length - k) (0) ⟨rfl, rfl, rfl, rfl, rfl, trivial⟩ (by exact ⟨hX6, Nat.zero_le _, hb36, hb26, ⟨_, _, r6⟩⟩) ?_)
  all_goals (rintro k h7 ⟨hx7, hk, hb37, hb27, ⟨last, L, r7⟩⟩
             unfold ptE at hb37)
  all_goals (refine WC.sub [(22, _), (2, _), (3, _), (20, _), (21, _)] ⟨rfl, rfl, rfl, rfl, rfl, trivial⟩ ?_)
  all_goals (refine WC.seq ?_)
  all_goals (refine WC.region ?_)
  all_goals (first | (refine WL.step (OkP.bool_t (by omega) (ok_lss rfl rfl)) rfl rfl rfl ?_) | (refine WL.step (OkP.bool_f (by omega) (ok_lss rfl rfl)) rfl rfl rfl ?_) | (refine WL.step (ok_lss rfl rfl) rfl rfl rfl ?_))
  all_goals (refine WL.nil ?_)
  all_goals (repeat' (with_reducible first | refine thenP_n ?_ | refine blockP_n ?_))
  all_goals (refine WC.seq ?_)
  all_goals (first | refine WC.condB_t 5 rfl ?_ | refine WC.condB_f 6 rfl ?_ | (refine WC.condB 5 6 rfl (fun hb => ?_) (fun hb => ?_) <;> (first | replace hb := of_decide_eq_true hb | replace hb := of_decide_eq_false hb | replace hb := of_decide_eq_false (nt hb) | replace hb := of_decide_eq_true (nf hb) | skip)))
  all_goals (first
    | (fail_if_success (refine Br.mk (i := 5) ?_))
    | (refine Br.mk (i := 5) ?_
       all_goals (refine WC.skip ?_)
       skip))
  all_goals (first
    | (fail_if_success (refine Br.mk (i := 6) ?_))
    | (refine Br.mk (i := 6) ?_
       all_goals (refine WC.exit ?_)
       all_goals (repeat' (with_reducible first | refine thenP_x ?_ | refine blockP_miss rfl ?_ | refine blockP_hit ?_ | refine blockP_n ?_ | refine thenP_n ?_))
       all_goals (refine Br.out (i := 1000) ?_)
       skip))
  all_goals (first | (refine Br.keep ?_) | (repeat' (with_reducible first | refine thenP_n ?_ | refine blockP_n ?_)))
  all_goals (first | (refine Br.keep ?_) | (refine WC.seq ?_))
  all_goals (first | (refine Br.keep ?_) | (refine WC.block ?_))
  all_goals (first | (refine Br.keep ?_) | (refine WC.seq ?_))
  all_goals (first | (refine Br.keep ?_) | (refine WC.region ?_))
  all_goals (first
               | (refine Br.keep ?_)
               | (obtain ⟨bL, oL, hA, hbL, hat⟩ := Rd.at_ hr (by omega)
                  obtain ⟨⟨op, id, t, v, o⟩, hdk⟩ : ∃ d, l[k]? = some d := ⟨_, List.getElem?_eq_getElem (by omega)⟩
                  have hd : At h7 bL (oL + k * 4) [In op, In id, St t, v] := At.elem d14C_len (hat.ext hx7 nos) hdk
                  have okd := ok _ (List.mem_of_getElem? hdk)
                  dsimp only at okd
                  have okr := okd.1
                  obtain ⟨Av, cv, hv, _⟩ := okr
                  dsimp only at hv
                  subst hv))
  all_goals (first | (refine Br.keep ?_) | (refine WL.step (ok_idxAddrA Try.underlying47 (fun w => Try.sizeOf59 w) rfl rfl rfl (by omega) (by first | rfl | assumption)) rfl rfl rfl ?_))
  all_goals (first | (refine Br.keep ?_) | (refine WL.step (ok_loadN (fun w => Try.isAgg59 w) (fun w => Try.sizeOf59 w) rfl rfl (by exact hd)) rfl rfl rfl ?_))
  all_goals (first
               | (refine Br.keep ?_)
               | (refine WL.stepR (okE_alloc (fun w => Try.zeroValue59 w)) rfl rfl rfl ?_
                  rintro _ h8 ⟨b5, rfl, hg5, hb5, hx8⟩))
  all_goals (first
               | (refine Br.keep ?_)
               | (refine WL.stepR0 (okE_storeW (fun w => Try.sizeOf59 w) rfl rfl rfl hb5 rfl (by simp [Value.oneCell'])) rfl rfl ?_
                  rintro _ h9 ⟨hb59, hx9⟩))
  all_goals (first
               | (refine Br.keep ?_)
               | (have hX79 : Ext No h7 h9 := hx8.trans' hx9 (fun q hq e => by omega)
                  have hX9 := hx7.trans hX79
                  have hb39 := hX79.obj hb37 nos
                  have hb29 := hX79.obj hb27 nos
                  have r9 := r7.ext0 hX79
                  have n3 := r9.not hb39 (by decide) (by decide) (by decide)
                  have n2 := r9.not hb29 (by decide) (by decide) (by decide)))
  all_goals (first | (refine Br.keep ?_) | (refine WL.nil ?_))
  all_goals (first | (refine Br.keep ?_) | (repeat' (with_reducible first | refine thenP_n ?_ | refine blockP_n ?_)))
  all_goals (first | (refine Br.keep ?_) | (refine WC.seq ?_))
  all_goals (first | (refine Br.keep ?_) | (refine WC.region ?_))
  all_goals (first | (refine Br.keep ?_) | (refine WL.step (ok_fieldAddr rfl Try.underlying59 rfl (fun w => Try.sizeOf3 w)) rfl rfl rfl ?_))
  all_goals (first | (refine Br.keep ?_) | (refine WL.step (ok_load (fun w => Try.isAgg3 w) rfl (by first | assumption | exact cell_blk (by assumption) rfl)) rfl rfl rfl ?_))
  all_goals (first | (refine Br.keep ?_) | (refine WL.nil ?_))
  all_goals (first | (refine Br.keep ?_) | (repeat' (with_reducible first | refine thenP_n ?_ | refine blockP_n ?_)))
  all_goals (first | (refine Br.keep ?_) | (refine WC.sub [(2, _), (3, _), (5, _), (20, _), (21, _), (22, _), (27, _)] ⟨rfl, rfl, rfl, rfl, rfl, rfl, rfl, trivial⟩ ?_))
  all_goals (first | (refine Br.keep ?_) | (refine WC.block ?_))
  all_goals (first | (refine Br.keep ?_) | (refine WC.seq ?_))
  all_goals (first | (refine Br.keep ?_) | (refine WC.seq ?_))
  all_goals (first | (refine Br.keep ?_) | (refine WC.region ?_))
  all_goals (first | (refine Br.keep ?_) | (first | (refine WL.step (OkP.bool_t (by omega) (ok_eql rfl rfl)) rfl rfl rfl ?_) | (refine WL.step (OkP.bool_f (by omega) (ok_eql rfl rfl)) rfl rfl rfl ?_) | (refine WL.step (ok_eql rfl rfl) rfl rfl rfl ?_)))
  all_goals (first | (refine Br.keep ?_) | (refine WL.step (ok_assign rfl) rfl rfl rfl ?_))
  all_goals (first | (refine Br.keep ?_) | (refine WL.nil ?_))
  all_goals (first | (refine Br.keep ?_) | (repeat' (with_reducible first | refine thenP_n ?_ | refine blockP_n ?_)))
  all_goals (first | (refine Br.keep ?_) | (first | refine WC.condB_t 7 rfl ?_ | refine WC.condB_f 8 rfl ?_ | (refine WC.condB 7 8 rfl (fun hb => ?_) (fun hb => ?_) <;> (first | replace hb := of_decide_eq_true hb | replace hb := of_decide_eq_false hb | replace hb := of_decide_eq_false (nt hb) | replace hb := of_decide_eq_true (nf hb) | skip))))
  all_goals (first
    | (fail_if_success (refine Br.mk (i := 7) ?_))
    | (refine Br.mk (i := 7) ?_
       all_goals (refine WC.skip ?_)
       skip))
  all_goals (first
    | (fail_if_success (refine Br.mk (i := 8) ?_))
    | (refine Br.mk (i := 8) ?_
       all_goals (refine WC.seq ?_)
       all_goals (refine WC.region ?_)
       all_goals (first | (refine WL.step (OkP.bool_t (by omega) (ok_eql rfl rfl)) rfl rfl rfl ?_) | (refine WL.step (OkP.bool_f (by omega) (ok_eql rfl rfl)) rfl rfl rfl ?_) | (refine WL.step (ok_eql rfl rfl) rfl rfl rfl ?_))
       all_goals (refine WL.step (ok_assign rfl) rfl rfl rfl ?_)
       all_goals (refine WL.nil ?_)
       all_goals (repeat' (with_reducible first | refine thenP_n ?_ | refine blockP_n ?_))
       all_goals (first | refine WC.condB_t 9 rfl ?_ | refine WC.condB_f 10 rfl ?_ | (refine WC.condB 9 10 rfl (fun hb => ?_) (fun hb => ?_) <;> (first | replace hb := of_decide_eq_true hb | replace hb := of_decide_eq_false hb | replace hb := of_decide_eq_false (nt hb) | replace hb := of_decide_eq_true (nf hb) | skip)))
       all_goals (first
         | (fail_if_success (refine Br.mk (i := 9) ?_))
         | (refine Br.mk (i := 9) ?_
            all_goals (refine WC.skip ?_)
            skip))
       all_goals (first
         | (fail_if_success (refine Br.mk (i := 10) ?_))
         | (refine Br.mk (i := 10) ?_
            all_goals (refine WC.region ?_)
            all_goals (first | (refine WL.step (OkP.bool_t (by omega) (ok_eql rfl rfl)) rfl rfl rfl ?_) | (refine WL.step (OkP.bool_f (by omega) (ok_eql rfl rfl)) rfl rfl rfl ?_) | (refine WL.step (ok_eql rfl rfl) rfl rfl rfl ?_))
            all_goals (refine WL.step (ok_assign rfl) rfl rfl rfl ?_)
            all_goals (refine WL.nil ?_)
            skip))
       skip))
  all_goals (first | (refine Br.keep ?_) | (repeat' (with_reducible first | refine thenP_n ?_ | refine blockP_n ?_)))
  all_goals (first | (refine Br.keep ?_) | (first | refine WC.condB_t 11 rfl ?_ | refine WC.condB_f 12 rfl ?_ | (refine WC.condB 11 12 rfl (fun hb => ?_) (fun hb => ?_) <;> (first | replace hb := of_decide_eq_true hb | replace hb := of_decide_eq_false hb | replace hb := of_decide_eq_false (nt hb) | replace hb := of_decide_eq_true (nf hb) | skip))))
  all_goals (first
    | (fail_if_success (refine Br.mk (i := 11) ?_))
    | (refine Br.mk (i := 11) ?_
       all_goals (refine WC.region ?_)
       all_goals (refine WL.step (ok_load (fun w => Try.isAgg49 w) rfl (by first | exact cell_blk hb39 rfl | assumption | exact cell_blk (by assumption) rfl)) rfl rfl rfl ?_)
       all_goals (refine WL.step (ok_fieldAddr rfl Try.underlying59 rfl (fun w => Try.sizeOf57 w)) rfl rfl rfl ?_)
       all_goals (refine WL.step (ok_loadN (fun w => Try.isAgg57 w) (fun w => Try.sizeOf57 w) rfl rfl (by exact show At _ _ 2 [St t, .slice Av o.length cv] from (At.of_block hb59).drop 2)) rfl rfl rfl ?_)
       all_goals (refine WL.call (vs := [_, _]) rfl (fun a w => Try.call23 a w) rfl (cput r9 (t, .slice Av o.length cv, o) okd hX9 hB3 (by omega)) rfl rfl rfl ?_
                  rintro _ h10 ⟨⟨last', L', r10⟩, hx10⟩)
       all_goals (refine WL.nil ?_)
       skip))
  all_goals (first
    | (fail_if_success (refine Br.mk (i := 12) ?_))
    | (refine Br.mk (i := 12) ?_
       all_goals (refine WC.seq ?_)
       all_goals (refine WC.region ?_)
       all_goals (first | (refine WL.step (OkP.bool_t (by omega) (ok_eql rfl rfl)) rfl rfl rfl ?_) | (refine WL.step (OkP.bool_f (by omega) (ok_eql rfl rfl)) rfl rfl rfl ?_) | (refine WL.step (ok_eql rfl rfl) rfl rfl rfl ?_))
       all_goals (refine WL.step (ok_assign rfl) rfl rfl rfl ?_)
       all_goals (refine WL.nil ?_)
       all_goals (repeat' (with_reducible first | refine thenP_n ?_ | refine blockP_n ?_))
       all_goals (refine WC.sub [(2, _), (3, _), (5, _), (20, _), (21, _), (22, _), (40, _)] ⟨rfl, rfl, rfl, rfl, rfl, rfl, rfl, trivial⟩ ?_)
       all_goals (first | refine WC.condB_t 13 rfl ?_ | refine WC.condB_f 14 rfl ?_ | (refine WC.condB 13 14 rfl (fun hb => ?_) (fun hb => ?_) <;> (first | replace hb := of_decide_eq_true hb | replace hb := of_decide_eq_false hb | replace hb := of_decide_eq_false (nt hb) | replace hb := of_decide_eq_true (nf hb) | skip)))
       all_goals (first
         | (fail_if_success (refine Br.mk (i := 13) ?_))
         | (refine Br.mk (i := 13) ?_
            all_goals (refine WC.region ?_)
            all_goals (refine WL.step (ok_load (fun w => Try.isAgg49 w) rfl (by first | exact cell_blk hb39 rfl | assumption | exact cell_blk (by assumption) rfl)) rfl rfl rfl ?_)
            all_goals (refine WL.step (ok_fieldAddr rfl Try.underlying59 rfl (fun w => Try.sizeOf3 w)) rfl rfl rfl ?_)
            all_goals (refine WL.step (ok_load (fun w => Try.isAgg3 w) rfl (by first | assumption | exact cell_blk (by assumption) rfl)) rfl rfl rfl ?_)
            all_goals (refine WL.call (vs := [_, _]) rfl (fun a w => Try.call25 a w) rfl (cref r9 id (by omega)) rfl rfl rfl ?_
                       rintro _ h10 ⟨⟨last', L', r10⟩, hx10⟩)
            all_goals (refine WL.nil ?_)
            skip))
       all_goals (first
         | (fail_if_success (refine Br.mk (i := 14) ?_))
         | (refine Br.mk (i := 14) ?_
            all_goals (refine WC.region ?_)
            all_goals (refine WL.step (ok_load (fun w => Try.isAgg49 w) rfl (by first | exact cell_blk hb39 rfl | assumption | exact cell_blk (by assumption) rfl)) rfl rfl rfl ?_)
            all_goals (refine WL.step (ok_fieldAddr rfl Try.underlying59 rfl (fun w => Try.sizeOf3 w)) rfl rfl rfl ?_)
            all_goals (refine WL.step (ok_load (fun w => Try.isAgg3 w) rfl (by first | assumption | exact cell_blk (by assumption) rfl)) rfl rfl rfl ?_)
            all_goals (refine WL.call (vs := [_, _]) rfl (fun a w => Try.call27 a w) rfl (cdrop r9 id (by omega)) rfl rfl rfl ?_
                       rintro _ h10 ⟨⟨last', L', r10⟩, hx10⟩)
            all_goals (refine WL.nil ?_)
            skip))
       skip))
  all_goals (first | (refine Br.keep ?_) | (repeat' (with_reducible first | refine thenP_n ?_ | refine blockP_n ?_)))
  all_goals (first | (refine Br.keep ?_) | (refine WC.region ?_))
  all_goals (first | (refine Br.keep ?_) | (first | (refine WL.step (ok_addI rfl rfl (by omega)) rfl rfl rfl ?_) | (refine WL.step (ok_add rfl rfl) rfl rfl rfl ?_)))
  all_goals (first | (refine Br.keep ?_) | (refine WL.step (ok_move rfl) rfl rfl rfl ?_))
  all_goals (first | (refine Br.keep ?_) | (refine WL.nil ?_))
  all_goals (first | (refine Br.keep ?_) | (repeat' (with_reducible first | refine thenP_n ?_ | refine blockP_n ?_)))
  all_goals (first | (refine Br.keep ?_) | (exact ⟨k + 1, ⟨rfl, rfl, rfl, rfl, rfl, trivial⟩, (by exact ⟨hX9.trans' hx10 (fun q hq e => by have := MR.ge r9 e; omega), by omega, hx10.obj hb39 n3, hx10.obj hb29 n2, ⟨_, _, r10.up (by omega) (by omega)⟩⟩), (by omega)⟩))
  all_goals (try (refine Br.mk (i := 1000) ?_))
  all_goals (repeat' (with_reducible first | refine thenP_n ?_ | refine blockP_n ?_))
  all_goals (refine WD.sub [(2, _), (3, _)] ⟨rfl, rfl, trivial⟩ ?_)
  all_goals (refine WD.seq ?_)
  all_goals (refine WD.of ?_)
  all_goals (refine WC.region ?_)
  all_goals (refine WL.stepR (okE_alloc (fun w => Try.zeroValue3 w)) rfl rfl rfl ?_
             rintro _ h11 ⟨b6, rfl, hg6, hb6, hx11⟩)
  all_goals (refine WL.stepR0 (okE_store (fun w => Try.sizeOf3 w) rfl rfl hb6 (Nat.le_of_ble_eq_true rfl) rfl rfl) rfl rfl ?_
             rintro _ h12 ⟨hb612, hx12⟩)
  all_goals (have hX12 : Ext No h7 h12 := hx11.trans' hx12 (fun q hq e => by omega)
             have n6 : ∀ q, MR b m1 m2 L q → q ≠ b6 := fun q e => by have := MR.lt r7 e; omega
             have hb312 := hX12.obj hb37 nos
             have hb212 := hX12.obj hb27 nos
             have ne36 : b3 ≠ b6 := by have := lt_of_some hb37; omega
             have ne26 : b2 ≠ b6 := by have := lt_of_some hb27; omega
             have l612 := lt_of_some hb612)
  all_goals (refine WL.nil ?_)
  all_goals (repeat' (with_reducible first | refine thenP_n ?_ | refine blockP_n ?_))
  all_goals (refine WD.sub [(2, _), (3, _), (6, _)] ⟨rfl, rfl, rfl, trivial⟩ ?_)
  all_goals (refine WD.seq ?_)
  all_goals (refine WD.seq ?_)
  all_goals (refine WD.of ?_)
  all_goals (refine WC.region ?_)
  all_goals (refine WL.step (ok_load (fun w => Try.isAgg49 w) rfl (by first | exact cell_blk hb312 rfl | assumption | exact cell_blk (by assumption) rfl)) rfl rfl rfl ?_)
  all_goals (refine WL.call (vs := [_]) rfl (fun a w => Try.call37 a w) rfl (all_r) rfl rfl rfl ?_
             rintro _ h13 ⟨bx, rfl, hbx, hgx, hx13⟩)
  all_goals (have hX13 := hX12.trans hx13
             have r13 := r7.ext0 hX13
             have hb313 := hx13.obj hb312 nos
             have hb213 := hx13.obj hb212 nos
             have hb613 := hx13.obj hb612 nos
             have bd := r13.bd
             have lx := lt_of_some hbx
             have hX013 := hx7.trans hX13
             have s13 := hX013.size
             have s713 := hX13.size)
  all_goals (refine WL.nil ?_)
  all_goals (repeat' (with_reducible first | refine thenP_n ?_ | refine blockP_n ?_))
  all_goals (refine WD.sub [(2, _), (3, _), (6, _), (48, _)] ⟨rfl, rfl, rfl, rfl, trivial⟩ ?_)
  all_goals (refine WD.block ?_)
  all_goals (refine WD.range (L := L) (enc := enR) rfl (fun a w => Try.call49 a w) (fun h' hx => rg_seq (r13.ext0 hx) (hx.obj hbx nos)) (fun q e => by rcases (show q = bx ∨ MR b m1 m2 L q from e) with rfl | e; exact lx; exact MR.lt r13 e) (fun _ => rfl) (by kernel_rfl) (X := Unit) (fun k _ h' => Ext (fun q => q = b6) h13 h' ∧ h'[b6]? = some (.cells ⟨[In (k : Int)]⟩ 3 (0, 0))) (fun _ _ _ => False) (fun _ q => q = b6) (()) (fun h' hx => ⟨hx.mono fun _ _ e => e.elim, hx.obj hb613 nos⟩) (fun k x h' hJ q e => ⟨e ▸ lt_of_some hJ.2, fun e2 => by subst e; rcases (show q = bx ∨ MR b m1 m2 L q from e2) with e | e; omega; exact n6 _ e rfl⟩) (fun q e => by have := lt_of_some hb613; omega) (fun k x h1 h2 S hJ hx hS => ⟨hJ.1.trans' hx (fun q hq e => by have := (hS q e (Nat.lt_of_lt_of_le hq hJ.1.size)).1; omega), hx.obj hJ.2 (fun e => (hS b6 e (lt_of_some hJ.2)).2 rfl)⟩) (fun _ _ _ _ _ e _ _ => e.elim) (fun l k x h1 a hL hJ => Br.out (i := 8000) ?_) (fun D x h1 hJ hoD hD hnD => Br.out (i := 8001) ?_) (fun _ _ _ e _ _ _ => e.elim) (fun _ _ _ _ e _ _ _ => e.elim))
  all_goals (first
    | (fail_if_success (refine Br.mk (i := 8000) ?_))
    | (refine Br.mk (i := 8000) ?_
       all_goals (refine WC.sub [(2, _), (3, _), (6, _), (49, _), (50, _)] ⟨rfl, rfl, rfl, rfl, rfl, trivial⟩ ?_)
       all_goals (refine WC.seq ?_)
       all_goals (refine WC.region ?_)
       all_goals (refine WL.step (ok_assign rfl) rfl rfl rfl ?_)
       all_goals (refine WL.nil ?_)
       all_goals (repeat' (with_reducible first | refine thenP_n ?_ | refine blockP_n ?_))
       all_goals (refine WC.region ?_)
       all_goals (refine WL.step (ok_assign rfl) rfl rfl rfl ?_)
       all_goals (refine WL.nil ?_)
       all_goals (repeat' (with_reducible first | refine thenP_n ?_ | refine blockP_n ?_))
       all_goals (refine ⟨rfl, fun h2 hJ2 => ?_⟩)
       all_goals (obtain ⟨hx14, hb614⟩ := hJ2
                  have hea := List.mem_of_getElem? hL
                  have hlk := (List.getElem?_eq_some_iff.1 hL).1
                  have r14 := r13.ext hx14 (n6 b (.inl rfl)) (n6 m1 (.inr (.inl rfl))) (n6 m2 (.inr (.inr (.inl rfl)))) (fun e he => ⟨n6 e.p (.inr (.inr (.inr ⟨e, he, .inl rfl⟩))), fun q hq => n6 q (.inr (.inr (.inr ⟨e, he, .inr hq⟩)))⟩)
                  have hb314 := hx14.obj hb313 ne36
                  have hrf := r14.rf1 a hea)
       all_goals (refine WC.block ?_)
       all_goals (refine WC.seq ?_)
       all_goals (refine WC.region ?_)
       all_goals (refine WL.step (ok_load (fun w => Try.isAgg49 w) rfl (by first | exact cell_blk hb314 rfl | assumption | exact cell_blk (by assumption) rfl)) rfl rfl rfl ?_)
       all_goals (refine WL.step (ok_move rfl) rfl rfl rfl ?_)
       all_goals (refine WL.call (vs := [_, _]) rfl (fun a w => Try.call29 a w) rfl (rg_get r14 hea) rfl rfl rfl ?_
                  rintro _ h15 ⟨v', rfl, ho15, hx15, hf15⟩
                  obtain ⟨A5, c5, rfl, _⟩ := ho15.slice)
       all_goals (refine WL.step (ok_move rfl) rfl rfl rfl ?_)
       all_goals (refine WL.step (ok_extract rfl rfl) rfl rfl rfl ?_)
       all_goals (refine WL.step (ok_extract rfl rfl) rfl rfl rfl ?_)
       all_goals (refine WL.stepR (okE_alloc (fun w => Try.zeroValue57 w)) rfl rfl rfl ?_
                  rintro _ h16 ⟨b9, rfl, hg9, hb9, hx16⟩)
       all_goals (refine WL.stepR0 (okE_storeW (fun w => Try.sizeOf57 w) rfl rfl rfl hb9 rfl (by simp [Value.oneCell'])) rfl rfl ?_
                  rintro _ h17 ⟨hb917, hx17⟩)
       all_goals (have hX17 : Ext No h15 h17 := hx16.trans' hx17 (fun q hq e => by omega)
                  have hX147 := hx15.trans hX17
                  have hb317 := hX147.obj hb314 nos
                  have hb617 := hX147.obj hb614 nos)
       all_goals (refine WL.step (ok_assign rfl) rfl rfl rfl ?_)
       all_goals (refine WL.nil ?_)
       all_goals (repeat' (with_reducible first | refine thenP_n ?_ | refine blockP_n ?_))
       all_goals (refine WC.sub [(2, _), (3, _), (6, _), (7, _), (8, _), (9, _), (10, _)] ⟨rfl, rfl, rfl, rfl, rfl, rfl, rfl, trivial⟩ ?_)
       all_goals (refine WC.seq ?_)
       all_goals (refine WC.region ?_)
       all_goals (refine WL.step (ok_load (fun w => Try.isAgg49 w) rfl (by first | exact cell_blk hb317 rfl | assumption | exact cell_blk (by assumption) rfl)) rfl rfl rfl ?_)
       all_goals (refine WL.step (ok_loadN (fun w => Try.isAgg57 w) (fun w => Try.sizeOf57 w) rfl rfl (by exact At.of_block hb917)) rfl rfl rfl ?_)
       all_goals (refine WL.call (vs := [_, _]) rfl (fun a w => Try.call31 a w) rfl (rg_find (r14.ext0 hX147) hea (ho15.rd.ext0 hX17)) rfl rfl rfl ?_
                  rintro _ h18 ⟨rfl, hx18⟩)
       all_goals (have hb618 := hx18.obj hb617 nos
                  have hX148 := hX147.trans hx18)
       all_goals (refine WL.step (ok_move rfl) rfl rfl rfl ?_)
       all_goals (refine WL.step (ok_extract rfl rfl) rfl rfl rfl ?_)
       all_goals (refine WL.step (ok_extract rfl rfl) rfl rfl rfl ?_)
       all_goals (refine WL.step (ok_assign rfl) rfl rfl rfl ?_)
       all_goals (refine WL.step (ok_assign rfl) rfl rfl rfl ?_)
       all_goals (refine WL.nil ?_)
       all_goals (repeat' (with_reducible first | refine thenP_n ?_ | refine blockP_n ?_))
       all_goals (refine WC.sub [(2, _), (6, _), (7, _), (8, _), (10, _), (11, _), (12, _)] ⟨rfl, rfl, rfl, rfl, rfl, rfl, rfl, trivial⟩ ?_)
       all_goals (refine WC.seq ?_)
       all_goals (refine WC.seq ?_)
       all_goals (refine WC.region ?_)
       all_goals (refine WL.step (ok_move rfl) rfl rfl rfl ?_)
       all_goals (refine WL.step (ok_not rfl) rfl rfl rfl ?_)
       all_goals (refine WL.step (ok_move rfl) rfl rfl rfl ?_)
       all_goals (try ((fail_if_success (refine WL.part 65 (b := true) rfl (fun _ => ?_) (fun _ => ?_))); (fail_if_success (refine WL.part 65 (b := false) rfl (fun _ => ?_) (fun _ => ?_))); (refine WL.part 65 rfl (fun hb => ?_) (fun hb => ?_) <;> (first | replace hb := of_decide_eq_true hb | replace hb := of_decide_eq_false hb | replace hb := of_decide_eq_false (nt hb) | replace hb := of_decide_eq_true (nf hb) | skip))))
       all_goals (first | (refine WL.pass rfl rfl rfl ?_) | (refine WL.step (ok_move rfl) rfl rfl rfl ?_))
       all_goals (first | (refine WL.pass rfl rfl rfl ?_) | (refine WL.step (ok_not rfl) rfl rfl rfl ?_))
       all_goals (first | (refine WL.step (ok_pick_t rfl rfl) rfl rfl rfl ?_) | (refine WL.step (ok_pick_f rfl rfl) rfl rfl rfl ?_))
       all_goals (refine WL.step (ok_move rfl) rfl rfl rfl ?_)
       all_goals (try ((fail_if_success (refine WL.part 69 (b := true) rfl (fun _ => ?_) (fun _ => ?_))); (fail_if_success (refine WL.part 69 (b := false) rfl (fun _ => ?_) (fun _ => ?_))); (refine WL.part 69 rfl (fun hb => ?_) (fun hb => ?_) <;> (first | replace hb := of_decide_eq_true hb | replace hb := of_decide_eq_false hb | replace hb := of_decide_eq_false (nt hb) | replace hb := of_decide_eq_true (nf hb) | skip))))
       all_goals (first | (refine WL.pass rfl rfl rfl ?_) | (refine WL.step (ok_move rfl) rfl rfl rfl ?_))
       all_goals (first | (refine WL.pass rfl rfl rfl ?_) | (refine WL.step (ok_move rfl) rfl rfl rfl ?_))
       all_goals (first | (refine WL.pass rfl rfl rfl ?_) | (first | (refine WL.step (OkP.nbool_t (by omega) (ok_neq rfl rfl)) rfl rfl rfl ?_) | (refine WL.step (OkP.nbool_f (by omega) (ok_neq rfl rfl)) rfl rfl rfl ?_) | (refine WL.step (ok_neq rfl rfl) rfl rfl rfl ?_)))
       all_goals (first | (refine WL.step (ok_pick_t rfl rfl) rfl rfl rfl ?_) | (refine WL.step (ok_pick_f rfl rfl) rfl rfl rfl ?_))
       all_goals (refine WL.step (ok_move rfl) rfl rfl rfl ?_)
       all_goals (try ((fail_if_success (refine WL.part 74 (b := true) rfl (fun _ => ?_) (fun _ => ?_))); (fail_if_success (refine WL.part 74 (b := false) rfl (fun _ => ?_) (fun _ => ?_))); (refine WL.part 74 rfl (fun hb => ?_) (fun hb => ?_) <;> (first | replace hb := of_decide_eq_true hb | replace hb := of_decide_eq_false hb | replace hb := of_decide_eq_false (nt hb) | replace hb := of_decide_eq_true (nf hb) | skip))))
       all_goals (first | (refine WL.pass rfl rfl rfl ?_) | (refine WL.step (ok_move rfl) rfl rfl rfl ?_))
       all_goals (first | (refine WL.pass rfl rfl rfl ?_) | (first | (refine WL.step (OkP.bool_t (by omega) (ok_lss rfl rfl)) rfl rfl rfl ?_) | (refine WL.step (OkP.bool_f (by omega) (ok_lss rfl rfl)) rfl rfl rfl ?_) | (refine WL.step (ok_lss rfl rfl) rfl rfl rfl ?_)))
       all_goals (first | (refine WL.step (ok_pick_t rfl rfl) rfl rfl rfl ?_) | (refine WL.step (ok_pick_f rfl rfl) rfl rfl rfl ?_))
       all_goals (refine WL.nil ?_)
       all_goals (repeat' (with_reducible first | refine thenP_n ?_ | refine blockP_n ?_))
       all_goals (refine WC.sub [(2, _), (6, _), (77, _)] ⟨rfl, rfl, rfl, trivial⟩ ?_)
       all_goals (first | refine WC.condB_t 15 rfl ?_ | refine WC.condB_f 16 rfl ?_ | (refine WC.condB 15 16 rfl (fun hb => ?_) (fun hb => ?_) <;> (first | replace hb := of_decide_eq_true hb | replace hb := of_decide_eq_false hb | replace hb := of_decide_eq_false (nt hb) | replace hb := of_decide_eq_true (nf hb) | skip)))
       all_goals (first
         | (fail_if_success (refine Br.mk (i := 15) ?_))
         | (refine Br.mk (i := 15) ?_
            all_goals (refine WC.seq ?_)
            all_goals (refine WC.region ?_)
            all_goals (refine WL.stepR0 (okE_store (fun w => Try.sizeOf4 w) rfl rfl (by assumption) (Nat.le_of_ble_eq_true rfl) rfl rfl) rfl rfl ?_
                       rintro _ h1 ⟨hb1, hx1⟩)
            all_goals (refine WL.nil ?_)
            all_goals (repeat' (with_reducible first | refine thenP_n ?_ | refine blockP_n ?_))
            all_goals (refine WC.ret ?_)
            all_goals (repeat' (with_reducible first | refine thenP_r ?_ | refine blockP_r ?_))
            all_goals (exfalso; omega)
            skip))
       all_goals (first
         | (fail_if_success (refine Br.mk (i := 16) ?_))
         | (refine Br.mk (i := 16) ?_
            all_goals (refine WC.skip ?_)
            skip))
       all_goals (repeat' (with_reducible first | refine thenP_n ?_ | refine blockP_n ?_))
       all_goals (refine WC.region ?_)
       all_goals (refine WL.step (ok_load (fun w => Try.isAgg3 w) rfl (by first | exact cell_blk hb618 rfl | assumption | exact cell_blk (by assumption) rfl)) rfl rfl rfl ?_)
       all_goals (first | (refine WL.step (ok_addI rfl rfl (by omega)) rfl rfl rfl ?_) | (refine WL.step (ok_add rfl rfl) rfl rfl rfl ?_))
       all_goals (refine WL.stepR0 (okE_store (fun w => Try.sizeOf3 w) rfl rfl hb618 (Nat.le_of_ble_eq_true rfl) rfl rfl) rfl rfl ?_
                  rintro _ h19 ⟨hb619, hx19⟩)
       all_goals (refine WL.nil ?_)
       all_goals (repeat' (with_reducible first | refine thenP_n ?_ | refine blockP_n ?_))
       all_goals (try (refine Br.mk (i := 7999) ?_))
       all_goals (exact ⟨(), (hX148.mono fun _ _ e => e.elim).trans hx19, fun q e => .inl e, hx14.trans ((hX148.mono fun _ _ e => e.elim).trans hx19), by simpa using hb619⟩)
       skip))
  all_goals (try (refine Br.mk (i := 8001) ?_))
  all_goals (obtain ⟨hx20, hb620⟩ := hJ
             have hb320 := hx20.obj hb313 ne36
             have hb220 := hx20.obj hb213 ne26
             have r20 := r13.ext hx20 (n6 b (.inl rfl)) (n6 m1 (.inr (.inl rfl))) (n6 m2 (.inr (.inr (.inl rfl)))) (fun e he => ⟨n6 e.p (.inr (.inr (.inr ⟨e, he, .inl rfl⟩))), fun q hq => n6 q (.inr (.inr (.inr ⟨e, he, .inr hq⟩)))⟩)
             have s7 := hx7.size
             have hX20 := hX013.trans' hx20 (fun q hq e => by omega))
  all_goals (repeat' (with_reducible first | refine thenP_n ?_ | refine blockP_n ?_))
  all_goals (refine WD.sub [(2, _), (3, _), (6, _)] ⟨rfl, rfl, rfl, trivial⟩ ?_)
  all_goals (refine WD.of ?_)
  all_goals (refine WC.seq ?_)
  all_goals (refine WC.drawH (fun h' => Ext No h1 h') 7 8 rfl fol ?_)
  all_goals (refine WH.take 0 rfl (by kernel_rfl) (by kernel_rfl) (by kernel_rfl) (by kernel_rfl) rfl (by first | exact Ext.refl _ _ | assumption) (fun hq hC => ok_load (fun w => Try.isAgg3 w) rfl (by first | exact hC.cell (by first | exact cell_blk hb620 rfl | assumption | exact cell_blk (by assumption) rfl) nos)) rfl rfl rfl ?_)
  all_goals (refine WH.take 1 rfl (by kernel_rfl) (by kernel_rfl) (by kernel_rfl) (by kernel_rfl) rfl (by first | exact Ext.refl _ _ | assumption) (fun hq hC => ok_load (fun w => Try.isAgg49 w) rfl (by first | exact hC.cell (by first | exact cell_blk hb320 rfl | assumption | exact cell_blk (by assumption) rfl) nos)) rfl rfl rfl ?_)
  all_goals (refine WH.one 2 (by kernel_rfl) ?_)
  all_goals (refine Comes1.call (vs := [_]) rfl rfl (fun a w => Try.call38 a w) rfl (rg_len r20) rfl rfl rfl ?_ (fun _ => by kernel_rfl)
             rintro _ hz ⟨rfl, ez⟩
             subst ez)
  all_goals (refine ⟨fun _ => .refl _ _, ?_⟩)
  all_goals (first | (refine WH.take 3 rfl (by kernel_rfl) (by kernel_rfl) (by kernel_rfl) (by kernel_rfl) rfl (by first | exact Ext.refl _ _ | assumption) (fun hq hC => OkP.bool_t (by omega) (ok_eql rfl rfl)) rfl rfl rfl ?_) | (refine WH.take 3 rfl (by kernel_rfl) (by kernel_rfl) (by kernel_rfl) (by kernel_rfl) rfl (by first | exact Ext.refl _ _ | assumption) (fun hq hC => OkP.bool_f (by omega) (ok_eql rfl rfl)) rfl rfl rfl ?_) | (refine WH.take 3 rfl (by kernel_rfl) (by kernel_rfl) (by kernel_rfl) (by kernel_rfl) rfl (by first | exact Ext.refl _ _ | assumption) (fun hq hC => ok_eql rfl rfl) rfl rfl rfl ?_))
  all_goals (refine WH.take 4 rfl (by kernel_rfl) (by kernel_rfl) (by kernel_rfl) (by kernel_rfl) rfl (by first | exact Ext.refl _ _ | assumption) (fun hq hC => ok_move rfl) rfl rfl rfl ?_)
  all_goals (refine WH.one 5 (by kernel_rfl) ?_)
  all_goals (refine Comes1.call (vs := []) rfl rfl (fun a w => Try.call20 a w) rfl (awake14) rfl rfl rfl ?_ (fun _ => by kernel_rfl)
             rintro _ h21 ⟨rfl, hx21⟩)
  all_goals (refine ⟨fun _ => hx21, ?_⟩)
  all_goals (have hb221 := hx21.obj hb220 nos)
  all_goals (first | (refine WH.take 6 rfl (by kernel_rfl) (by kernel_rfl) (by kernel_rfl) (by kernel_rfl) rfl (by first | exact Ext.refl _ _ | assumption) (fun hq hC => ok_pick_t rfl rfl) rfl rfl rfl ?_) | (refine WH.take 6 rfl (by kernel_rfl) (by kernel_rfl) (by kernel_rfl) (by kernel_rfl) rfl (by first | exact Ext.refl _ _ | assumption) (fun hq hC => ok_pick_f rfl rfl) rfl rfl rfl ?_))
  all_goals (refine WH.one 7 (by kernel_rfl) ?_)
  all_goals (refine Comes1.run0 rfl (okE_store (fun w => Try.sizeOf4 w) rfl rfl hb221 (Nat.le_of_ble_eq_true rfl) rfl rfl) rfl rfl ?_ (fun _ => by kernel_rfl)
             rintro _ h22 ⟨hb222, hx22⟩)
  all_goals (refine ⟨fun e => (by cases e), ?_⟩)
  all_goals (refine WH.done (by kernel_rfl) ?_)
  all_goals (repeat' (with_reducible first | refine thenP_n ?_ | refine blockP_n ?_))
  all_goals (refine WC.sub [(2, _)] ⟨rfl, trivial⟩ ?_)
  all_goals (refine WC.ret ?_)
  all_goals (repeat' (with_reducible first | refine thenP_r ?_ | refine blockP_r ?_))
  all_goals (first
              | (fail_if_success (have := hoD); skip)
              | (have hoD21 : open_ h21 D := hx21.obj hoD nos; have hoDz : open_ h22 D := hx22.obj hoD21 (fun e => by have e' : D = b2 := e; have := lt_of_some hb213; omega); have hb22' := shut_blk hoDz hb222))
  all_goals (with_reducible first | refine retD_0 ?_ | refine retD_1 (by assumption) ?_)
  all_goals (refine retP_1 _ ⟨⟨_, rfl, ld_cell (fun w => Try.isAgg4 w) (cell_blk (by assumption) rfl)⟩, trivial⟩ ?_)
  all_goals (first
              | exact ⟨rfl, hX4⟩
              | exact ⟨rfl, ((hX20.trans hx21).trans' hx22 (fun q hq e => by omega)).trans' (shut1 hoDz) (fun q hq e => by have e' : q = D := e; omega)⟩)

namespace LRegOnce
open Go.ChangeShapes Go.WideShapes Go.ChangeAt Go.RowKit
open Go.ChangeMaps (open_string shut_string)
theorem own : ownKnob Try.prog.godebug = none := by kernel_rfl
theorem laidOut : laidOutB Try.prog = true := by kernel_rfl
set_option maxRecDepth 100000 in
theorem lifted (os : Os) (started : os.Started) (H : Type) (enc : TypeId × Value → H) :
    ReturnsInHanded {} Try.checked os 6 .any (Rows.regOnceSpec.pre6 enc Try.prog Try.f6 Rows.regOnceRow.domain false) (Rows.regOnceSpec.post enc Try.prog Try.f6 false true false false) := by
  refine returnsInHanded_of_change_sized (C := Try.checked) own started (by kernel_rfl) Try.func6
    (ChangeSpec.witness6 (enc := enc) (C := Try.checked) false ⟨#[], #[.slice none 0 0], []⟩ 8 (by kernel_rfl) (by kernel_rfl) (by kernel_rfl) (by kernel_rfl)) ?_
  intro W base args ds gs before hval0 hW hcnd hsz0 _
  have hval : ∀ (j : Nat) t v, Try.f6.params[j]? = some t → args[j]? = some v → Value.okWide Try.prog W .any base t v := hval0
  have hsz := hsz0
  rw [Try.params6] at hsz
  clear hsz0
  have hW' := hW
  obtain ⟨p, q, hA0, hV, rfl, hfz, hnd⟩ := hW
  have hA : DataW.TrodAll enc Try.prog W 0 (fun _ => true) true Try.f6.params.toList args.toList ds p := hA0
  rw [Try.params6] at hA hval
  obtain ⟨v0, vs0, d0, ds0, p0, q0, hargs, rfl, rfl, h0, r0⟩ := trodAll_cons hA
  obtain ⟨rfl, rfl, rfl⟩ := trodAll_nil r0
  obtain rfl : args = #[v0] := by cases args; simp_all
  obtain ⟨rfl, rfl⟩ := trodVars_none hV
  have hz0 : ∀ n ∈ d0.weights Try.prog 47, n ≤ reachBytes := fun n hn => by simpa using List.all_eq_true.1 hsz n (DataW.weights_mem_each (j := 0) rfl rfl n hn)
  have k0 := h0
  have lt0 : ∀ x ∈ p0, x.block < W.heap.size := by obtain ⟨m, hm⟩ := k0; exact DataW.trod_lt m _ _ _ hm
  obtain ⟨A0, n0, c0, rfl⟩ := okWide_slice Try.underlying47 (hval 0 47 v0 rfl rfl)
  obtain ⟨fu0, hf0⟩ := h0
  obtain ⟨⟨v0, l0⟩, e0, w0⟩ := opens_dos14 W _ _ _ _ _ _ _ _ hf0 hz0
  obtain rfl : .slice A0 n0 c0 = v0 := by simpa [Value.cells] using e0
  clear hA0 hval0
  refine (law_calls (once14 l0 w0.1 w0.2.1 w0.2.2)).mono fun e W' ⟨he, bel⟩ => ?_
  subst he
  exact ⟨_, rfl, _, _, _, [], _, [], hW', trodAll_mk1 (shut_bool Try.underlying4 _), (trodAll_cons_mk (Below.trod laidOut (by kernel_rfl) (of_decide_eq_true (by kernel_rfl)) k0 bel lt0) trodAll_mk0), rfl, bel.frame _, fun h => by cases h⟩
theorem over : Rows.regOnceRow.holds Try.pinned (OpenSpec.ofChange Rows.regOnceSpec) :=
  OpenClaim.holds_of_wide 6 Try.f6 rfl rfl rfl rfl rfl rfl rfl ⟨rfl, rfl, rfl, rfl, rfl⟩ rfl rfl rfl rfl rfl (by kernel_rfl) Try.func6 (by kernel_rfl)
    (of_decide_eq_true (by kernel_rfl)) (by unfold Func.isWrapper; first | (rw [if_pos (by decide +kernel)]; kernel_rfl) | (rw [if_neg (by decide +kernel)]; exact ⟨rfl, rfl⟩))
    (fun os started H enc _ => lifted os started H enc)
end LRegOnce
theorem regOnce_proved : Rows.RegOnceSaid := LRegOnce.over
#print axioms regOnce_proved
end Go.Proofs.Ytkpgnhhidnkmcaa

