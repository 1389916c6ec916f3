/-
  FifoOrder holds: who came first goes first, whoever goes in between.
-/
import Derived.Test.YtfadcbbjjdmmfaaFifoLives
namespace Go.Proofs.Ytfadcbbjjdmmfaa
open Go Go.RK

/-- When one came. -/
def came (C : List (Int × Int)) (n : Int) : Int := (getK C n).getD 0
/-- Those that wait came in their order, behind the one that went last. -/
structure Cm (C L : List (Int × Int)) (last k : Int) : Prop where
  nd : (C.map (·.1)).Nodup
  at_ : ∀ p ∈ L, getK C p.1 = some (came C p.1) ∧ last < came C p.1 ∧ came C p.1 ≤ k
  rise : L.Pairwise fun a b => came C a.1 < came C b.1
  le : last ≤ k
theorem Cm.nil : Cm [] [] 0 0 := ⟨List.nodup_nil, by simp, List.Pairwise.nil, Int.le_refl _⟩
theorem Cm.later {C L : List (Int × Int)} {last k k' : Int} (c : Cm C L last k) (h : k ≤ k') : Cm C L last k' :=
  ⟨c.nd, fun p hp => ⟨(c.at_ p hp).1, (c.at_ p hp).2.1, Int.le_trans (c.at_ p hp).2.2 h⟩, c.rise, Int.le_trans c.le h⟩
theorem Cm.push {C L : List (Int × Int)} {last k nx n : Int} (c : Cm C L last k) (hL : hasF L n = false) : Cm (putK C n (k + 1)) (pushF nx L n) last (k + 1) := by
  have hno : ∀ p ∈ L, p.1 ≠ n := by
    intro p hp e
    rw [hasF_eq] at hL
    exact (of_decide_eq_false hL) (List.mem_map.2 ⟨p, hp, e⟩)
  have hold : ∀ p ∈ L, getK (putK C n (k + 1)) p.1 = getK C p.1 := fun p hp => by rw [getK_put c.nd, if_neg (hno p hp)]
  have hcold : ∀ p ∈ L, came (putK C n (k + 1)) p.1 = came C p.1 := fun p hp => by unfold came; rw [hold p hp]
  have hnew : getK (putK C n (k + 1)) n = some (k + 1) := by rw [getK_put c.nd, if_pos rfl]
  have hcnew : came (putK C n (k + 1)) n = k + 1 := by unfold came; rw [hnew]; rfl
  have hle := c.le
  have hp : pushF nx L n = L ++ [(n, nx + 1)] := by unfold pushF; rw [if_neg (by rw [hL]; simp)]
  rw [hp]
  refine ⟨putK_nd c.nd _ _, fun p hp => ?_, List.pairwise_append.2 ⟨c.rise.imp_of_mem fun ha hb h => by rw [hcold _ ha, hcold _ hb]; exact h, by simp, fun a ha b hb => ?_⟩, by omega⟩
  · rcases List.mem_append.1 hp with h | h
    · have := c.at_ p h
      rw [hold p h, hcold p h]
      exact ⟨this.1, this.2.1, by omega⟩
    · obtain rfl := List.mem_singleton.1 h
      show getK _ n = some (came _ n) ∧ last < came _ n ∧ came _ n ≤ k + 1
      rw [hnew, hcnew]
      exact ⟨rfl, by omega, Int.le_refl _⟩
  · obtain rfl := List.mem_singleton.1 hb
    have := c.at_ a ha
    rw [hcold a ha]
    show came C a.1 < came _ n
    rw [hcnew]
    omega
theorem pushF_in {L : List (Int × Int)} {n nx : Int} (h : hasF L n = true) : pushF nx L n = L ∧ nextF nx L n = nx := by
  unfold pushF nextF
  rw [if_pos h, if_pos h]
  exact ⟨rfl, rfl⟩
theorem Cm.del {C L : List (Int × Int)} {last k : Int} (c : Cm C L last k) (n : Int) : Cm C (delK L n) last k :=
  ⟨c.nd, fun p hp => c.at_ p (List.mem_filter.1 hp).1, c.rise.filter _, c.le⟩
theorem Cm.pop {C t : List (Int × Int)} {p : Int × Int} {last k : Int} (c : Cm C (p :: t) last k) : Cm C t (came C p.1) k :=
  ⟨c.nd, fun q hq => ⟨(c.at_ q (.tail _ hq)).1, (List.pairwise_cons.1 c.rise).1 q hq, (c.at_ q (.tail _ hq)).2.2⟩, (List.pairwise_cons.1 c.rise).2, (c.at_ p (.head _)).2.2⟩
set_option maxHeartbeats 4000000 in
set_option maxRecDepth 100000 in
theorem order32 {h : Heap} {A : Option Addr} {c : Nat} (l : List FDo) (hl : l.length ≤ maxLen) (hr : Rd h (.slice A l.length c) 2 l.length (l.flatMap fdoCells)) :
    CallsH Try.prog 3 ⟨[.slice A l.length c]⟩ h fun u h' => u = .bool true ∧ Ext No h h' := by
  unfold maxLen at hl
  refine calls [(0, _)] Try.func3 rfl Try.ntmps3 rfl ⟨rfl, trivial⟩ ?_
  all_goals (refine WC.seq ?_)
  all_goals (refine WC.region ?_)
  all_goals (refine WL.step (ok_assign rfl) rfl rfl rfl ?_)
  all_goals (refine WL.nil ?_)
  all_goals (repeat' (with_reducible first | refine thenP_n ?_ | refine blockP_n ?_))
  all_goals (refine WC.seq ?_)
  all_goals (refine WC.region ?_)
  all_goals (refine WL.call (vs := []) rfl (fun a w => Try.call11 a w) rfl (new_ff) rfl rfl rfl ?_
             rintro _ h1 ⟨b, m, rfl, r1, hgb, hgm, hx1⟩)
  all_goals (refine WL.step (ok_assign rfl) rfl rfl rfl ?_)
  all_goals (refine WL.nil ?_)
  all_goals (repeat' (with_reducible first | refine thenP_n ?_ | refine blockP_n ?_))
  all_goals (refine WC.seq ?_)
  all_goals (refine WC.region ?_)
  all_goals (refine WL.stepR okE_makeMap rfl rfl rfl ?_
             rintro _ h2 ⟨m2, rfl, hg2, hm2, hx2⟩)
  all_goals (have hM2 : Mp (.int .i64) In h2 m2 (encK In []) := ⟨_, _, hm2, MapKept.stamped_empty 0, rfl⟩
             have hr1l := r1.lt
             have hs1 := hx1.size
             have hs2 := hx2.size)
  all_goals (refine WL.step (ok_assign rfl) rfl rfl rfl ?_)
  all_goals (refine WL.nil ?_)
  all_goals (repeat' (with_reducible first | refine thenP_n ?_ | refine blockP_n ?_))
  all_goals (refine WC.seq ?_)
  all_goals (refine WC.region ?_)
  all_goals (refine WL.step (ok_assign rfl) rfl rfl rfl ?_)
  all_goals (refine WL.nil ?_)
  all_goals (repeat' (with_reducible first | refine thenP_n ?_ | refine blockP_n ?_))
  all_goals (refine WC.seq ?_)
  all_goals (refine WC.seq ?_)
  all_goals (refine WC.region ?_)
  all_goals (refine WL.step (ok_move rfl) rfl rfl rfl ?_)
  all_goals (refine WL.step (ok_lenL rfl Try.underlying22 rfl) rfl rfl rfl ?_)
  all_goals (refine WL.step (ok_move rfl) rfl rfl rfl ?_)
  all_goals (refine WL.nil ?_)
  all_goals (repeat' (with_reducible first | refine thenP_n ?_ | refine blockP_n ?_))
  all_goals (refine WC.sub [(3, _), (4, _), (5, _), (12, _), (13, _), (14, _)] ⟨rfl, rfl, rfl, rfl, rfl, rfl, trivial⟩ ?_)
  all_goals (refine WC.block ?_)
  -- loop 0: slots that turn [5, 14], that stay [3, 4, 12, 13]
  all_goals (refine WC.loopG (X := Nat × Int) (fun x => ([(14, In (x.1 : Int)), (5, In x.2)] : Fr)) [(3, _), (4, _), (12, _), (13, _)] (fun x h' => x.1 ≤ l.length ∧ x.1 ≤ 100 ∧ ∃ nx L C, Ff h' b m nx L ∧ Mp (.int .i64) In h' m2 (encK In C) ∧ Cm C L x.2 x.1 ∧ Ext No h h' ∧ 0 ≤ nx ∧ nx ≤ x.1 ∧ L.length ≤ x.1) (fun x => l.length - x.1) ((0, 0)) ⟨rfl, rfl, rfl, rfl, rfl, rfl, trivial⟩ (by exact ⟨Nat.zero_le _, Nat.zero_le _, 0, [], [], r1.ext0 hx2, hM2, Cm.nil, hx1.trans hx2, Int.le_refl _, Int.le_refl _, Nat.le_refl _⟩) ?_)
  all_goals (rintro ⟨k, last⟩ h3 ⟨hk, hk100, nx, L, C, r3, hM3, cm, hx3, hn0, hnk, hLk⟩
             simp only at hk hk100 cm hnk hLk
             have hs3 := hx3.size)
  all_goals (refine WC.sub [(5, _), (14, _), (3, _), (4, _), (12, _), (13, _)] ⟨rfl, rfl, rfl, rfl, rfl, rfl, trivial⟩ ?_)
  all_goals (dsimp only)
  all_goals (refine WC.seq ?_)
  all_goals (refine WC.region ?_)
  all_goals (first | (refine WL.step (OkP.bool_t (by omega) (ok_lss rfl rfl)) rfl rfl rfl ?_) | (refine WL.step (OkP.bool_f (by omega) (ok_lss rfl rfl)) rfl rfl rfl ?_) | (refine WL.step (ok_lss rfl rfl) rfl rfl rfl ?_))
  all_goals (refine WL.nil ?_)
  all_goals (repeat' (with_reducible first | refine thenP_n ?_ | refine blockP_n ?_))
  all_goals (refine WC.seq ?_)
  all_goals (first | refine WC.condB_t 1 rfl ?_ | refine WC.condB_f 2 rfl ?_ | (refine WC.condB 1 2 rfl (fun hb => ?_) (fun hb => ?_) <;> (first | replace hb := of_decide_eq_true hb | replace hb := of_decide_eq_false hb | replace hb := of_decide_eq_false (nt hb) | replace hb := of_decide_eq_true (nf hb) | skip)))
  all_goals (first
    | (fail_if_success (refine Br.mk (i := 1) ?_))
    | (refine Br.mk (i := 1) ?_
       all_goals (refine WC.skip ?_)
       skip))
  all_goals (first
    | (fail_if_success (refine Br.mk (i := 2) ?_))
    | (refine Br.mk (i := 2) ?_
       all_goals (refine WC.exit ?_)
       all_goals (repeat' (with_reducible first | refine thenP_x ?_ | refine blockP_miss rfl ?_ | refine blockP_hit ?_ | refine blockP_n ?_ | refine thenP_n ?_))
       all_goals (refine Br.out (i := 1000) ?_)
       skip))
  all_goals (first | (refine Br.keep ?_) | (repeat' (with_reducible first | refine thenP_n ?_ | refine blockP_n ?_)))
  all_goals (first | (refine Br.keep ?_) | (refine WC.seq ?_))
  all_goals (first | (refine Br.keep ?_) | (refine WC.block ?_))
  all_goals (first | (refine Br.keep ?_) | (refine WC.seq ?_))
  all_goals (first | (refine Br.keep ?_) | (refine WC.region ?_))
  all_goals (first
               | (refine Br.keep ?_)
               | (obtain ⟨bL, oL, hA, hbL, hat⟩ := Rd.at_ hr (by omega)
                  obtain ⟨⟨op, id, _⟩, hdk⟩ : ∃ d, l[k]? = some d := ⟨_, List.getElem?_eq_getElem (by omega)⟩
                  have hd : At h3 bL (oL + k * 2) [In op, In id] := At.elem fdoCells_len (hat.ext hx3 nos) hdk))
  all_goals (first | (refine Br.keep ?_) | (refine WL.step (ok_move rfl) rfl rfl rfl ?_))
  all_goals (first | (refine Br.keep ?_) | (refine WL.step (ok_idxAddrA Try.underlying22 (fun w => Try.sizeOf27 w) rfl rfl rfl (by omega) (by first | rfl | assumption)) rfl rfl rfl ?_))
  all_goals (first | (refine Br.keep ?_) | (refine WL.step (ok_loadN (fun w => Try.isAgg27 w) (fun w => Try.sizeOf27 w) rfl rfl (by assumption)) rfl rfl rfl ?_))
  all_goals (first
               | (refine Br.keep ?_)
               | (refine WL.stepR (okE_alloc (fun w => Try.zeroValue27 w)) rfl rfl rfl ?_
                  rintro _ h4 ⟨b4, rfl, hg4, hb4, hx4⟩))
  all_goals (first | (refine Br.keep ?_) | (refine WL.step (ok_assign rfl) rfl rfl rfl ?_))
  all_goals (first
               | (refine Br.keep ?_)
               | (refine WL.stepR0 (okE_storeW (fun w => Try.sizeOf27 w) rfl rfl rfl (by assumption) rfl (by simp [Value.oneCell'])) rfl rfl ?_
                  rintro _ h5 ⟨hb5, hx5⟩))
  all_goals (first
               | (refine Br.keep ?_)
               | (have hX45 : Ext (fun q => q = b4) h3 h5 := (hx4.mono (fun _ _ e => e.elim)).trans hx5
                  have r5 := r3.ext hX45 (fun e => by have := r3.lt; omega) (fun e => by have := r3.lt; omega)
                  have hM5 := hM3.ext hX45 (fun e => by have := hM3.lt; omega)
                  have hX5 : Ext No h h5 := hx3.trans' hX45 (fun q hq e => by omega)
                  have hrl := r3.lt
                  have hml := hM3.lt))
  all_goals (first | (refine Br.keep ?_) | (refine WL.nil ?_))
  all_goals (first | (refine Br.keep ?_) | (repeat' (with_reducible first | refine thenP_n ?_ | refine blockP_n ?_)))
  all_goals (first | (refine Br.keep ?_) | (refine WC.sub [(3, _), (4, _), (5, _), (6, _), (7, _), (12, _), (13, _), (14, _)] ⟨rfl, rfl, rfl, rfl, rfl, rfl, rfl, rfl, trivial⟩ ?_))
  all_goals (first | (refine Br.keep ?_) | (refine WC.seq ?_))
  all_goals (first | (refine Br.keep ?_) | (refine WC.seq ?_))
  all_goals (first | (refine Br.keep ?_) | (refine WC.region ?_))
  all_goals (first | (refine Br.keep ?_) | (refine WL.step (ok_move rfl) rfl rfl rfl ?_))
  all_goals (first | (refine Br.keep ?_) | (first | (refine WL.step (OkP.bool_t (by omega) (ok_geq rfl rfl)) rfl rfl rfl ?_) | (refine WL.step (OkP.bool_f (by omega) (ok_geq rfl rfl)) rfl rfl rfl ?_) | (refine WL.step (ok_geq rfl rfl) rfl rfl rfl ?_)))
  all_goals (first | (refine Br.keep ?_) | (refine WL.nil ?_))
  all_goals (first | (refine Br.keep ?_) | (repeat' (with_reducible first | refine thenP_n ?_ | refine blockP_n ?_)))
  all_goals (first | (refine Br.keep ?_) | (first | refine WC.condB_t 3 rfl ?_ | refine WC.condB_f 4 rfl ?_ | (refine WC.condB 3 4 rfl (fun hb => ?_) (fun hb => ?_) <;> (first | replace hb := of_decide_eq_true hb | replace hb := of_decide_eq_false hb | replace hb := of_decide_eq_false (nt hb) | replace hb := of_decide_eq_true (nf hb) | skip))))
  all_goals (first
    | (fail_if_success (refine Br.mk (i := 3) ?_))
    | (refine Br.mk (i := 3) ?_
       all_goals (refine WC.exit ?_)
       all_goals (repeat' (with_reducible first | refine thenP_x ?_ | refine blockP_miss rfl ?_ | refine blockP_hit ?_ | refine blockP_n ?_ | refine thenP_n ?_))
       all_goals (refine Br.out (i := 1000) ?_)
       skip))
  all_goals (first
    | (fail_if_success (refine Br.mk (i := 4) ?_))
    | (refine Br.mk (i := 4) ?_
       all_goals (refine WC.skip ?_)
       skip))
  all_goals (first | (refine Br.keep ?_) | (repeat' (with_reducible first | refine thenP_n ?_ | refine blockP_n ?_)))
  all_goals (first | (refine Br.keep ?_) | (refine WC.seq ?_))
  all_goals (first | (refine Br.keep ?_) | (refine WC.seq ?_))
  all_goals (first | (refine Br.keep ?_) | (refine WC.region ?_))
  all_goals (first | (refine Br.keep ?_) | (refine WL.step (ok_fieldAddr rfl Try.underlying27 rfl (fun w => Try.sizeOf3 w)) rfl rfl rfl ?_))
  all_goals (first | (refine Br.keep ?_) | (refine WL.step (ok_load (fun w => Try.isAgg3 w) rfl (by first | assumption | exact cell_blk (by assumption) rfl)) rfl rfl rfl ?_))
  all_goals (first | (refine Br.keep ?_) | (first | (refine WL.step (OkP.bool_t (by omega) (ok_lss rfl rfl)) rfl rfl rfl ?_) | (refine WL.step (OkP.bool_f (by omega) (ok_lss rfl rfl)) rfl rfl rfl ?_) | (refine WL.step (ok_lss rfl rfl) rfl rfl rfl ?_)))
  all_goals (first | (refine Br.keep ?_) | (refine WL.nil ?_))
  all_goals (first | (refine Br.keep ?_) | (repeat' (with_reducible first | refine thenP_n ?_ | refine blockP_n ?_)))
  all_goals (first | (refine Br.keep ?_) | (refine WC.sub [(3, _), (4, _), (5, _), (6, _), (7, _), (12, _), (13, _), (14, _), (23, _)] ⟨rfl, rfl, rfl, rfl, rfl, rfl, rfl, rfl, rfl, trivial⟩ ?_))
  all_goals (first | (refine Br.keep ?_) | (first | refine WC.condB_t 5 rfl ?_ | refine WC.condB_f 6 rfl ?_ | (refine WC.condB 5 6 rfl (fun hb => ?_) (fun hb => ?_) <;> (first | replace hb := of_decide_eq_true hb | replace hb := of_decide_eq_false hb | replace hb := of_decide_eq_false (nt hb) | replace hb := of_decide_eq_true (nf hb) | skip))))
  all_goals (first
    | (fail_if_success (refine Br.mk (i := 5) ?_))
    | (refine Br.mk (i := 5) ?_
       all_goals (refine WC.seq ?_)
       all_goals (refine WC.seq ?_)
       all_goals (refine WC.region ?_)
       all_goals (refine WL.step (ok_move rfl) rfl rfl rfl ?_)
       all_goals (refine WL.step (ok_fieldAddr rfl Try.underlying27 rfl (fun w => Try.sizeOf3 w)) rfl rfl rfl ?_)
       all_goals (refine WL.step (ok_load (fun w => Try.isAgg3 w) rfl (by first | assumption | exact cell_blk (by assumption) rfl)) rfl rfl rfl ?_)
       all_goals (refine WL.call (vs := [_, _]) rfl (fun a w => Try.call12 a w) rfl (push_ff r5 id hn0 (by omega)) rfl rfl rfl ?_
                  rintro _ h6 ⟨rfl, r6, hx6⟩)
       all_goals (have hb6 := hx6.obj hb5 (fun e => by rcases e with e | e <;> omega)
                  have hM6 := hM5.ext hx6 (fun e => by rcases e with e | e <;> omega)
                  have hX6 : Ext No h h6 := hX5.trans' hx6 (fun q hq e => by rcases e with e | e <;> omega)
                  have hn7 := nextF_le nx L id
                  have hl7 := pushF_le nx L id
                  rcases hF : hasF L id)
       all_goals (refine WL.nil ?_)
       all_goals (repeat' (with_reducible first | refine thenP_n ?_ | refine blockP_n ?_))
       all_goals (refine WC.sub [(3, _), (4, _), (5, _), (6, _), (7, _), (12, _), (13, _), (14, _), (27, _)] ⟨rfl, rfl, rfl, rfl, rfl, rfl, rfl, rfl, rfl, trivial⟩ ?_)
       all_goals (first | refine WC.condB_t 7 rfl ?_ | refine WC.condB_f 8 rfl ?_ | (refine WC.condB 7 8 rfl (fun hb => ?_) (fun hb => ?_) <;> (first | replace hb := of_decide_eq_true hb | replace hb := of_decide_eq_false hb | replace hb := of_decide_eq_false (nt hb) | replace hb := of_decide_eq_true (nf hb) | skip)))
       all_goals (first
         | (fail_if_success (refine Br.mk (i := 7) ?_))
         | (refine Br.mk (i := 7) ?_
            all_goals (refine WC.region ?_)
            all_goals (refine WL.step (ok_move rfl) rfl rfl rfl ?_)
            all_goals (refine WL.step (ok_fieldAddr rfl Try.underlying27 rfl (fun w => Try.sizeOf3 w)) rfl rfl rfl ?_)
            all_goals (refine WL.step (ok_load (fun w => Try.isAgg3 w) rfl (by first | assumption | exact cell_blk (by assumption) rfl)) rfl rfl rfl ?_)
            all_goals (refine WL.step (ok_move rfl) rfl rfl rfl ?_)
            all_goals (first | (refine WL.step (ok_addI rfl rfl (by omega)) rfl rfl rfl ?_) | (refine WL.step (ok_add rfl rfl) rfl rfl rfl ?_))
            all_goals (refine WL.stepR0 (ok_mapUpdate keyI Try.underlying25 Try.underlying3 rfl rfl rfl (by assumption)) rfl rfl ?_
                       rintro _ h7 ⟨hM7, hx7⟩)
            all_goals (rw [aput_encK] at hM7
                       have r7 := r6.ext hx7 (fun e => by omega) (fun e => by omega)
                       have hX7 : Ext No h h7 := hX6.trans' hx7 (fun q hq e => by omega))
            all_goals (refine WL.nil ?_)
            skip))
       all_goals (first
         | (fail_if_success (refine Br.mk (i := 8) ?_))
         | (refine Br.mk (i := 8) ?_
            all_goals (refine WC.skip ?_)
            skip))
       all_goals (repeat' (with_reducible first | refine thenP_n ?_ | refine blockP_n ?_))
       all_goals (refine WC.exit ?_)
       all_goals (repeat' (with_reducible first | refine thenP_x ?_ | refine blockP_miss rfl ?_ | refine blockP_hit ?_ | refine blockP_n ?_ | refine thenP_n ?_))
       all_goals (refine Br.out (i := 1001) ?_)
       skip))
  all_goals (first
    | (fail_if_success (refine Br.mk (i := 6) ?_))
    | (refine Br.mk (i := 6) ?_
       all_goals (refine WC.skip ?_)
       skip))
  all_goals (first | (refine Br.keep ?_) | (repeat' (with_reducible first | refine thenP_n ?_ | refine blockP_n ?_)))
  all_goals (first | (refine Br.keep ?_) | (refine WC.seq ?_))
  all_goals (first | (refine Br.keep ?_) | (refine WC.seq ?_))
  all_goals (first | (refine Br.keep ?_) | (refine WC.region ?_))
  all_goals (first | (refine Br.keep ?_) | (refine WL.step (ok_fieldAddr rfl Try.underlying27 rfl (fun w => Try.sizeOf3 w)) rfl rfl rfl ?_))
  all_goals (first | (refine Br.keep ?_) | (refine WL.step (ok_load (fun w => Try.isAgg3 w) rfl (by first | assumption | exact cell_blk (by assumption) rfl)) rfl rfl rfl ?_))
  all_goals (first | (refine Br.keep ?_) | (first | (refine WL.step (OkP.bool_t (by omega) (ok_gtr rfl rfl)) rfl rfl rfl ?_) | (refine WL.step (OkP.bool_f (by omega) (ok_gtr rfl rfl)) rfl rfl rfl ?_) | (refine WL.step (ok_gtr rfl rfl) rfl rfl rfl ?_)))
  all_goals (first | (refine Br.keep ?_) | (refine WL.nil ?_))
  all_goals (first | (refine Br.keep ?_) | (repeat' (with_reducible first | refine thenP_n ?_ | refine blockP_n ?_)))
  all_goals (first | (refine Br.keep ?_) | (refine WC.sub [(3, _), (4, _), (5, _), (7, _), (12, _), (13, _), (14, _), (35, _)] ⟨rfl, rfl, rfl, rfl, rfl, rfl, rfl, rfl, trivial⟩ ?_))
  all_goals (first | (refine Br.keep ?_) | (first | refine WC.condB_t 9 rfl ?_ | refine WC.condB_f 10 rfl ?_ | (refine WC.condB 9 10 rfl (fun hb => ?_) (fun hb => ?_) <;> (first | replace hb := of_decide_eq_true hb | replace hb := of_decide_eq_false hb | replace hb := of_decide_eq_false (nt hb) | replace hb := of_decide_eq_true (nf hb) | skip))))
  all_goals (first
    | (fail_if_success (refine Br.mk (i := 9) ?_))
    | (refine Br.mk (i := 9) ?_
       all_goals (refine WC.seq ?_)
       all_goals (refine WC.region ?_)
       all_goals (refine WL.step (ok_move rfl) rfl rfl rfl ?_)
       all_goals (refine WL.step (ok_fieldAddr rfl Try.underlying27 rfl (fun w => Try.sizeOf3 w)) rfl rfl rfl ?_)
       all_goals (refine WL.step (ok_load (fun w => Try.isAgg3 w) rfl (by first | assumption | exact cell_blk (by assumption) rfl)) rfl rfl rfl ?_)
       all_goals (refine WL.call (vs := [_, _]) rfl (fun a w => Try.call13 a w) rfl (remove_ff r5 id) rfl rfl rfl ?_
                  rintro _ h6 ⟨rfl, r6, hx6⟩)
       all_goals (have hM6 := hM5.ext hx6 (fun e => by rcases e with e | e <;> omega)
                  have hX6 : Ext No h h6 := hX5.trans' hx6 (fun q hq e => by rcases e with e | e <;> omega)
                  have hl6 := delF_le L id)
       all_goals (refine WL.nil ?_)
       all_goals (repeat' (with_reducible first | refine thenP_n ?_ | refine blockP_n ?_))
       all_goals (refine WC.sub [(3, _), (4, _), (5, _), (12, _), (13, _), (14, _)] ⟨rfl, rfl, rfl, rfl, rfl, rfl, trivial⟩ ?_)
       all_goals (refine WC.exit ?_)
       all_goals (repeat' (with_reducible first | refine thenP_x ?_ | refine blockP_miss rfl ?_ | refine blockP_hit ?_ | refine blockP_n ?_ | refine thenP_n ?_))
       all_goals (refine Br.out (i := 1001) ?_)
       skip))
  all_goals (first
    | (fail_if_success (refine Br.mk (i := 10) ?_))
    | (refine Br.mk (i := 10) ?_
       all_goals (refine WC.skip ?_)
       skip))
  all_goals (first | (refine Br.keep ?_) | (repeat' (with_reducible first | refine thenP_n ?_ | refine blockP_n ?_)))
  all_goals (first | (refine Br.keep ?_) | (refine WC.seq ?_))
  all_goals (first | (refine Br.keep ?_) | (refine WC.region ?_))
  all_goals (first | (refine Br.keep ?_) | (refine WL.step (ok_move rfl) rfl rfl rfl ?_))
  all_goals (first
               | (refine Br.keep ?_)
               | (refine WL.call (vs := [_]) rfl (fun a w => Try.call14 a w) rfl (pop_ff r5 hn0 (by omega) (by omega)) rfl rfl rfl ?_
                  rintro _ h6 ⟨rfl, r6, hx6⟩))
  all_goals (first
               | (refine Br.keep ?_)
               | (have hM6 := hM5.ext hx6 (fun e => by rcases e with e | e <;> omega)
                  have hX6 : Ext No h h6 := hX5.trans' hx6 (fun q hq e => by rcases e with e | e <;> omega)
                  rcases hL : L with _ | ⟨⟨n, w⟩, t⟩
                  all_goals (subst hL; simp only [List.map_nil, List.map_cons, List.tail_nil, List.tail_cons] at r6 ⊢; rw [headV])
                  all_goals (first | (have hcm := cm.at_ (n, w) (.head _); simp only at hcm; have hlk := alook_encK In C n; rw [hcm.1, Option.map_some] at hlk) | skip)))
  all_goals (first | (refine Br.keep ?_) | (refine WL.step (ok_move rfl) rfl rfl rfl ?_))
  all_goals (first | (refine Br.keep ?_) | (refine WL.step (ok_extract rfl rfl) rfl rfl rfl ?_))
  all_goals (first | (refine Br.keep ?_) | (refine WL.step (ok_extract rfl rfl) rfl rfl rfl ?_))
  all_goals (first | (refine Br.keep ?_) | (refine WL.step (ok_assign rfl) rfl rfl rfl ?_))
  all_goals (first | (refine Br.keep ?_) | (refine WL.step (ok_assign rfl) rfl rfl rfl ?_))
  all_goals (first | (refine Br.keep ?_) | (refine WL.nil ?_))
  all_goals (first | (refine Br.keep ?_) | (repeat' (with_reducible first | refine thenP_n ?_ | refine blockP_n ?_)))
  all_goals (first | (refine Br.keep ?_) | (refine WC.sub [(3, _), (4, _), (5, _), (8, _), (9, _), (12, _), (13, _), (14, _)] ⟨rfl, rfl, rfl, rfl, rfl, rfl, rfl, rfl, trivial⟩ ?_))
  all_goals (first | (refine Br.keep ?_) | (refine WC.seq ?_))
  all_goals (first | (refine Br.keep ?_) | (refine WC.seq ?_))
  all_goals (first | (refine Br.keep ?_) | (refine WC.region ?_))
  all_goals (first | (refine Br.keep ?_) | (refine WL.step (ok_move rfl) rfl rfl rfl ?_))
  all_goals (first | (refine Br.keep ?_) | (refine WL.step (ok_move rfl) rfl rfl rfl ?_))
  all_goals (first | (refine Br.keep ?_) | (try ((fail_if_success (refine WL.part 46 (b := true) rfl (fun _ => ?_) (fun _ => ?_))); (fail_if_success (refine WL.part 46 (b := false) rfl (fun _ => ?_) (fun _ => ?_))); (refine WL.part 46 rfl (fun hb => ?_) (fun hb => ?_) <;> (first | replace hb := of_decide_eq_true hb | replace hb := of_decide_eq_false hb | replace hb := of_decide_eq_false (nt hb) | replace hb := of_decide_eq_true (nf hb) | skip)))))
  all_goals (first | (refine Br.keep ?_) | (first | (refine WL.pass rfl rfl rfl ?_) | (refine WL.step (ok_move rfl) rfl rfl rfl ?_)))
  all_goals (first | (refine Br.keep ?_) | (first | (refine WL.pass rfl rfl rfl ?_) | (refine WL.step (ok_move rfl) rfl rfl rfl ?_)))
  all_goals (first | (refine Br.keep ?_) | (first | (refine WL.pass rfl rfl rfl ?_) | (first | (refine WL.step ((ok_lookup keyI Try.underlying25 Try.underlying3 rfl rfl (by assumption) (by assumption)).2) rfl rfl rfl ?_) | (refine WL.step ((ok_lookup_no keyI Try.underlying25 Try.underlying3 (fun w => Try.zeroValue3 w) rfl rfl (by assumption) (by assumption)).2) rfl rfl rfl ?_) | (refine WL.step ((ok_lookup_nil keyI Try.underlying25 Try.underlying3 (fun w => Try.zeroValue3 w) rfl rfl).2) rfl rfl rfl ?_))))
  all_goals (first | (refine Br.keep ?_) | (first | (refine WL.pass rfl rfl rfl ?_) | (refine WL.step (ok_move rfl) rfl rfl rfl ?_)))
  all_goals (first | (refine Br.keep ?_) | (first | (refine WL.pass rfl rfl rfl ?_) | (first | (refine WL.step (OkP.bool_t (by omega) (ok_leq rfl rfl)) rfl rfl rfl ?_) | (refine WL.step (OkP.bool_f (by omega) (ok_leq rfl rfl)) rfl rfl rfl ?_) | (refine WL.step (ok_leq rfl rfl) rfl rfl rfl ?_))))
  all_goals (first | (refine Br.keep ?_) | (first | (refine WL.step (ok_pick_t rfl rfl) rfl rfl rfl ?_) | (refine WL.step (ok_pick_f rfl rfl) rfl rfl rfl ?_)))
  all_goals (first | (refine Br.keep ?_) | (refine WL.nil ?_))
  all_goals (first | (refine Br.keep ?_) | (repeat' (with_reducible first | refine thenP_n ?_ | refine blockP_n ?_)))
  all_goals (first | (refine Br.keep ?_) | (refine WC.sub [(3, _), (4, _), (5, _), (8, _), (9, _), (12, _), (13, _), (14, _), (52, _)] ⟨rfl, rfl, rfl, rfl, rfl, rfl, rfl, rfl, rfl, trivial⟩ ?_))
  all_goals (first | (refine Br.keep ?_) | (first | refine WC.condB_t 11 rfl ?_ | refine WC.condB_f 12 rfl ?_ | (refine WC.condB 11 12 rfl (fun hb => ?_) (fun hb => ?_) <;> (first | replace hb := of_decide_eq_true hb | replace hb := of_decide_eq_false hb | replace hb := of_decide_eq_false (nt hb) | replace hb := of_decide_eq_true (nf hb) | skip))))
  all_goals (first
    | (fail_if_success (refine Br.mk (i := 11) ?_))
    | (refine Br.mk (i := 11) ?_
       all_goals (refine WC.seq ?_)
       all_goals (refine WC.region ?_)
       all_goals (refine WL.step (ok_assign rfl) rfl rfl rfl ?_)
       all_goals (refine WL.nil ?_)
       all_goals (repeat' (with_reducible first | refine thenP_n ?_ | refine blockP_n ?_))
       all_goals (refine WC.sub [(2, _)] ⟨rfl, trivial⟩ ?_)
       all_goals (refine WC.ret ?_)
       all_goals (repeat' (with_reducible first | refine thenP_r ?_ | refine blockP_r ?_))
       all_goals (refine retP_1 _ ⟨rfl, trivial⟩ ?_)
       all_goals (first | exact ⟨rfl, hx3.trans hx9⟩ | exact ⟨rfl, hX5.trans hx9⟩)
       skip))
  all_goals (first
    | (fail_if_success (refine Br.mk (i := 12) ?_))
    | (refine Br.mk (i := 12) ?_
       all_goals (refine WC.skip ?_)
       skip))
  all_goals (first | (refine Br.keep ?_) | (repeat' (with_reducible first | refine thenP_n ?_ | refine blockP_n ?_)))
  all_goals (first | (refine Br.keep ?_) | (refine WC.seq ?_))
  all_goals (first | (refine Br.keep ?_) | (refine WC.region ?_))
  all_goals (first | (refine Br.keep ?_) | (refine WL.step (ok_move rfl) rfl rfl rfl ?_))
  all_goals (first | (refine Br.keep ?_) | (refine WL.nil ?_))
  all_goals (first | (refine Br.keep ?_) | (repeat' (with_reducible first | refine thenP_n ?_ | refine blockP_n ?_)))
  all_goals (first | (refine Br.keep ?_) | (first | refine WC.condB_t 13 rfl ?_ | refine WC.condB_f 14 rfl ?_ | (refine WC.condB 13 14 rfl (fun hb => ?_) (fun hb => ?_) <;> (first | replace hb := of_decide_eq_true hb | replace hb := of_decide_eq_false hb | replace hb := of_decide_eq_false (nt hb) | replace hb := of_decide_eq_true (nf hb) | skip))))
  all_goals (first
    | (fail_if_success (refine Br.mk (i := 13) ?_))
    | (refine Br.mk (i := 13) ?_
       all_goals (refine WC.region ?_)
       all_goals (refine WL.step (ok_move rfl) rfl rfl rfl ?_)
       all_goals (refine WL.step (ok_move rfl) rfl rfl rfl ?_)
       all_goals (first | (refine WL.step ((ok_lookup keyI Try.underlying25 Try.underlying3 rfl rfl (by assumption) (by assumption)).2) rfl rfl rfl ?_) | (refine WL.step ((ok_lookup_no keyI Try.underlying25 Try.underlying3 (fun w => Try.zeroValue3 w) rfl rfl (by assumption) (by assumption)).2) rfl rfl rfl ?_) | (refine WL.step ((ok_lookup_nil keyI Try.underlying25 Try.underlying3 (fun w => Try.zeroValue3 w) rfl rfl).2) rfl rfl rfl ?_))
       all_goals (refine WL.step (ok_assign rfl) rfl rfl rfl ?_)
       all_goals (refine WL.nil ?_)
       skip))
  all_goals (first
    | (fail_if_success (refine Br.mk (i := 14) ?_))
    | (refine Br.mk (i := 14) ?_
       all_goals (refine WC.skip ?_)
       skip))
  all_goals (first | (refine Br.keep ?_) | (repeat' (with_reducible first | refine thenP_n ?_ | refine blockP_n ?_)))
  all_goals (try (refine Br.mk (i := 1001) ?_))
  all_goals (first | (refine Br.keep ?_) | (repeat' (with_reducible first | refine thenP_n ?_ | refine blockP_n ?_)))
  all_goals (first | (refine Br.keep ?_) | (refine WC.region ?_))
  all_goals (first | (refine Br.keep ?_) | (first | (refine WL.step (ok_addI rfl rfl (by omega)) rfl rfl rfl ?_) | (refine WL.step (ok_add rfl rfl) rfl rfl rfl ?_)))
  all_goals (first | (refine Br.keep ?_) | (refine WL.step (ok_move rfl) rfl rfl rfl ?_))
  all_goals (first | (refine Br.keep ?_) | (refine WL.nil ?_))
  all_goals (first | (refine Br.keep ?_) | (repeat' (with_reducible first | refine thenP_n ?_ | refine blockP_n ?_)))
  all_goals (first
               | (refine Br.keep ?_)
               | (exact ⟨(k + 1, _), ⟨rfl, rfl, rfl, rfl, rfl, rfl, trivial⟩, (by first
                   | exact ⟨by simp; omega, by simp; omega, _, _, _, r7, hM7, by simpa using cm.push hF, hX7, by omega, by simp; omega, by simp; omega⟩
                   | exact ⟨by simp; omega, by simp; omega, _, _, _, by rw [(pushF_in hF).1, (pushF_in hF).2] at r6; exact r6, hM6, by simpa using cm.later (show (k : Int) ≤ k + 1 by omega), hX6, by omega, by simp; omega, by simp; omega⟩
                   | exact ⟨by simp; omega, by simp; omega, _, _, _, r6, hM6, by simpa using (cm.del id).later (show (k : Int) ≤ k + 1 by omega), hX6, by omega, by simp; omega, by simp; omega⟩
                   | exact ⟨by simp; omega, by simp; omega, _, _, _, r6, hM6, cm.pop.later (show (k : Int) ≤ ((k + 1 : Nat) : Int) by omega), hX6, by omega, by simp; omega, (show t.length ≤ k + 1 by rw [List.length_cons] at hLk; omega)⟩
                   | exact ⟨by simp; omega, by simp; omega, _, _, _, r6, hM6, by simpa using cm.later (show (k : Int) ≤ k + 1 by omega), hX6, by omega, by simp; omega, by simp⟩), (by simp; omega)⟩))
  all_goals (try (refine Br.mk (i := 1000) ?_))
  all_goals (repeat' (with_reducible first | refine thenP_n ?_ | refine blockP_n ?_))
  all_goals (refine WC.sub [] trivial ?_)
  all_goals (refine WC.seq ?_)
  all_goals (refine WC.region ?_)
  all_goals (refine WL.call (vs := []) rfl (fun a w => Try.call15 a w) rfl (awake32) rfl rfl rfl ?_
             rintro _ h9 ⟨rfl, hx9⟩)
  all_goals (refine WL.step (ok_assign rfl) rfl rfl rfl ?_)
  all_goals (refine WL.nil ?_)
  all_goals (repeat' (with_reducible first | refine thenP_n ?_ | refine blockP_n ?_))
  all_goals (refine WC.ret ?_)
  all_goals (repeat' (with_reducible first | refine thenP_r ?_ | refine blockP_r ?_))
  all_goals (refine retP_1 _ ⟨rfl, trivial⟩ ?_)
  all_goals (first | exact ⟨rfl, hx3.trans hx9⟩ | exact ⟨rfl, hX5.trans hx9⟩)

namespace LFifoOrder
open Go.ChangeShapes Go.WideShapes Go.ChangeAt Go.RowKit
open Go.ChangeMaps (open_string shut_string)
theorem own : ownKnob Try.prog.godebug = none := by kernel_rfl
theorem laidOut : laidOutB Try.prog = true := by kernel_rfl
set_option maxRecDepth 100000 in
theorem lifted (os : Os) (started : os.Started) (H : Type) (enc : TypeId × Value → H) :
    ReturnsInHanded {} Try.checked os 3 .any (Rows.fifoOrderSpec.pre6 enc Try.prog Try.f3 Rows.fifoOrderRow.domain false) (Rows.fifoOrderSpec.post enc Try.prog Try.f3 false true false false) := by
  refine returnsInHanded_of_change_sized (C := Try.checked) own started (by kernel_rfl) Try.func3
    (ChangeSpec.witness6 (enc := enc) (C := Try.checked) false ⟨#[], #[.slice none 0 0], []⟩ 8 (by kernel_rfl) (by kernel_rfl) (by kernel_rfl) (by kernel_rfl)) ?_
  intro W base args ds gs before hval0 hW hcnd hsz0 _
  have hval : ∀ (j : Nat) t v, Try.f3.params[j]? = some t → args[j]? = some v → Value.okWide Try.prog W .any base t v := hval0
  have hsz := hsz0
  rw [Try.params3] at hsz
  clear hsz0
  have hW' := hW
  obtain ⟨p, q, hA0, hV, rfl, hfz, hnd⟩ := hW
  have hA : DataW.TrodAll enc Try.prog W 0 (fun _ => true) true Try.f3.params.toList args.toList ds p := hA0
  rw [Try.params3] at hA hval
  obtain ⟨v0, vs0, d0, ds0, p0, q0, hargs, rfl, rfl, h0, r0⟩ := trodAll_cons hA
  obtain ⟨rfl, rfl, rfl⟩ := trodAll_nil r0
  obtain rfl : args = #[v0] := by cases args; simp_all
  obtain ⟨rfl, rfl⟩ := trodVars_none hV
  have hz0 : ∀ n ∈ d0.weights Try.prog 22, n ≤ reachBytes := fun n hn => by simpa using List.all_eq_true.1 hsz n (DataW.weights_mem_each (j := 0) rfl rfl n hn)
  have k0 := h0
  have lt0 : ∀ x ∈ p0, x.block < W.heap.size := by obtain ⟨m, hm⟩ := k0; exact DataW.trod_lt m _ _ _ hm
  obtain ⟨A0, n0, c0, rfl⟩ := okWide_slice Try.underlying22 (hval 0 22 v0 rfl rfl)
  obtain ⟨fu0, hf0⟩ := h0
  obtain ⟨⟨v0, l0⟩, e0, w0⟩ := opens_fdos W _ _ _ _ _ _ _ _ hf0 hz0
  obtain rfl : .slice A0 n0 c0 = v0 := by simpa [Value.cells] using e0
  obtain ⟨hr0, hm0, ⟨A0', c0', hv0, hc0⟩, hq0⟩ := w0
  simp only [Value.slice.injEq] at hv0
  obtain ⟨rfl, rfl, rfl⟩ := hv0
  clear hA0 hval0
  refine (law_calls (order32 l0 hm0 hr0)).mono fun e W' ⟨he, bel⟩ => ?_
  subst he
  exact ⟨_, rfl, _, _, _, [], _, [], hW', trodAll_mk1 (shut_bool Try.underlying4 _), (trodAll_cons_mk (Below.trod laidOut (by kernel_rfl) (of_decide_eq_true (by kernel_rfl)) k0 bel lt0) trodAll_mk0), rfl, bel.frame _, fun h => by cases h⟩
theorem over : Rows.fifoOrderRow.holds Try.pinned (OpenSpec.ofChange Rows.fifoOrderSpec) :=
  OpenClaim.holds_of_wide 3 Try.f3 rfl rfl rfl rfl rfl rfl rfl ⟨rfl, rfl, rfl, rfl, rfl⟩ rfl rfl rfl rfl rfl (by kernel_rfl) Try.func3 (by kernel_rfl)
    (of_decide_eq_true (by kernel_rfl)) (by unfold Func.isWrapper; first | (rw [if_pos (by decide +kernel)]; kernel_rfl) | (rw [if_neg (by decide +kernel)]; exact ⟨rfl, rfl⟩))
    (fun os started H enc _ => lifted os started H enc)
end LFifoOrder
theorem fifoOrder_proved : Rows.FifoOrderSaid := LFifoOrder.over
#print axioms fifoOrder_proved
end Go.Proofs.Ytfadcbbjjdmmfaa

