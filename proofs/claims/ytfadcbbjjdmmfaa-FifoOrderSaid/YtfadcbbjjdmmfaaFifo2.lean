/-
  FIFO: all in their order, the first one, who came first is taken; those that no call made; awake.
-/
import Derived.Test.YtfadcbbjjdmmfaaFifo
import Derived.Test.YtfadcbbjjdmmfaaK19
namespace Go.Proofs.Ytfadcbbjjdmmfaa
open Go Go.RK Go.Shelf

theorem swo_turn (t : Int → Int) : Go.Sort.SWO (ltOf fun x y => t x - t y) := by
  constructor
  all_goals
    intros
    simp only [ltOf, decide_eq_true_eq, decide_eq_false_iff_not] at *
    omega
theorem turn_mem {L : List (Int × Int)} (hnd : (L.map (·.1)).Nodup) {p : Int × Int} (hp : p ∈ L) : turn L p.1 = p.2 := by
  unfold turn
  rw [getK_of hnd (show (p.1, p.2) ∈ L from hp)]
  rfl
/-- Sorted by their turns they are as they came. -/
theorem order_ff {L : List (Int × Int)} (hri : L.Pairwise fun a b => a.2 < b.2) (hnd : (L.map (·.1)).Nodup) {l' : List Int} (hp : l'.Perm (L.map (·.1))) (hs : l'.Pairwise fun x y => ¬ turn L y - turn L x < 0) : l' = L.map (·.1) := by
  refine List.Perm.eq_of_pairwise (le := fun x y => turn L x ≤ turn L y) ?_ (hs.imp fun h => by omega) ?_ hp
  · intro a b ha hb h1 h2
    obtain ⟨p, hpL, rfl⟩ := List.mem_map.1 (hp.mem_iff.1 ha)
    obtain ⟨q, hqL, rfl⟩ := List.mem_map.1 hb
    rw [turn_mem hnd hpL, turn_mem hnd hqL] at h1 h2
    have e : p.2 = q.2 := by omega
    by_cases hpq : p = q
    · rw [hpq]
    · exfalso
      obtain ⟨i, hi, hi'⟩ := List.getElem_of_mem hpL
      obtain ⟨j, hj, hj'⟩ := List.getElem_of_mem hqL
      rw [List.pairwise_iff_getElem] at hri
      rcases Nat.lt_trichotomy i j with h | h | h
      · have := hri i j hi hj h
        rw [hi', hj'] at this
        omega
      · subst h
        exact hpq (hi'.symm.trans hj')
      · have := hri j i hj hi h
        rw [hi', hj'] at this
        omega
  · rw [List.pairwise_map]
    exact hri.imp_of_mem fun ha hb h => by rw [turn_mem hnd ha, turn_mem hnd hb]; omega
set_option maxRecDepth 100000 in
theorem list_ff {h : Heap} {b m : Nat} {nx : Int} {L : List (Int × Int)} (r : Ff h b m nx L) (h0 : 0 ≤ nx) (hnx : nx ≤ 1000000) (hl : L.length ≤ 100000) :
    CallsH Try.prog 18 ⟨[.pointer (some ⟨b, 0, none⟩)]⟩ h fun u h' => Own h' u 3 1 L.length (ints (L.map (·.1))) ∧ Ext No h h' ∧ ∀ k, u.ownBlock = some k → h.size ≤ k := by
  have r0 := r
  obtain ⟨hb, ⟨E, hm, hp⟩, hri, hnd, hle⟩ := r
  have hEl := hp.length_eq
  have hbm := r0.ne
  have hlt := r0.lt
  refine calls [(0, _)] Try.func18 rfl Try.ntmps18 rfl ⟨rfl, trivial⟩ ?_
  all_goals (refine WC.seq ?_)
  all_goals (refine WC.region ?_)
  all_goals (refine WL.stepR (okE_box rfl) rfl rfl rfl ?_
             rintro _ hz ⟨bz, rfl, hgz, hbz, hxz⟩)
  all_goals (refine WL.step (ok_assign rfl) rfl rfl rfl ?_)
  all_goals (refine WL.nil ?_)
  all_goals (repeat' (with_reducible first | refine thenP_n ?_ | refine blockP_n ?_))
  all_goals (refine WC.seq ?_)
  all_goals (refine WC.seq ?_)
  all_goals (refine WC.region ?_)
  all_goals (refine WL.step (ok_load (fun w => Try.isAgg23 w) rfl (by first | assumption | exact cell_blk (by assumption) rfl)) rfl rfl rfl ?_)
  all_goals (refine WL.call (vs := [_]) rfl (fun a w => Try.call46 a w) rfl (ready_ff (r0.ext0 hxz)) rfl rfl rfl ?_
             rintro _ hz ⟨rfl, _⟩
             subst hz)
  all_goals (refine WL.step (ok_not rfl) rfl rfl rfl ?_)
  all_goals (refine WL.nil ?_)
  all_goals (repeat' (with_reducible first | refine thenP_n ?_ | refine blockP_n ?_))
  all_goals (refine WC.sub [(1, _), (7, _)] ⟨rfl, rfl, trivial⟩ ?_)
  all_goals (first | refine WC.condB_t 1 rfl ?_ | refine WC.condB_f 2 rfl ?_ | (refine WC.condB 1 2 rfl (fun hb => ?_) (fun hb => ?_) <;> (first | replace hb := of_decide_eq_true hb | replace hb := of_decide_eq_false hb | replace hb := of_decide_eq_false (nt hb) | replace hb := of_decide_eq_true (nf hb) | skip)))
  all_goals (first
    | (fail_if_success (refine Br.mk (i := 1) ?_))
    | (refine Br.mk (i := 1) ?_
       all_goals (refine WC.seq ?_)
       all_goals (refine WC.region ?_)
       all_goals (refine WL.step (ok_assign rfl) rfl rfl rfl ?_)
       all_goals (refine WL.nil ?_)
       all_goals (repeat' (with_reducible first | refine thenP_n ?_ | refine blockP_n ?_))
       all_goals (refine WC.ret ?_)
       all_goals (repeat' (with_reducible first | refine thenP_r ?_ | refine blockP_r ?_))
       all_goals (refine retP_1 _ ⟨rfl, trivial⟩ ?_)
       all_goals (exact ⟨ho4, hX2.trans' hx4 (fun q hq e => by have := hf2 q e; omega), fun k hk => by have := hf2 k hk; have := hxz.size; omega⟩)
       skip))
  all_goals (first
    | (fail_if_success (refine Br.mk (i := 2) ?_))
    | (refine Br.mk (i := 2) ?_
       all_goals (refine WC.skip ?_)
       skip))
  all_goals (repeat' (with_reducible first | refine thenP_n ?_ | refine blockP_n ?_))
  all_goals (refine WC.seq ?_)
  all_goals (refine WC.region ?_)
  all_goals (refine WL.step (ok_assign rfl) rfl rfl rfl ?_)
  all_goals (refine WL.nil ?_)
  all_goals (repeat' (with_reducible first | refine thenP_n ?_ | refine blockP_n ?_))
  all_goals (refine WC.seq ?_)
  all_goals (refine WC.seq ?_)
  all_goals (refine WC.region ?_)
  all_goals (have hbh := hxz.obj hb nos
             have hmh := hm.ext hxz nos
             clear hm hb
             have hzs := hxz.size)
  all_goals (refine WL.step (ok_load (fun w => Try.isAgg23 w) rfl (by first | assumption | exact cell_blk (by assumption) rfl)) rfl rfl rfl ?_)
  all_goals (refine WL.step (ok_nilCheck rfl) rfl rfl rfl ?_)
  all_goals (refine WL.step (ok_fieldAddr rfl Try.underlying34 rfl (fun w => Try.sizeOf25 w)) rfl rfl rfl ?_)
  all_goals (refine WL.step (ok_load (fun w => Try.isAgg25 w) rfl (by first | assumption | exact cell_blk (by assumption) rfl)) rfl rfl rfl ?_)
  all_goals (refine WL.stepR (okE_range Try.underlying25 rfl (by assumption)) rfl rfl rfl ?_
             rintro _ h1 ⟨r1, rfl, hgr1, hit1, hx1⟩)
  all_goals (refine WL.nil ?_)
  all_goals (repeat' (with_reducible first | refine thenP_n ?_ | refine blockP_n ?_))
  all_goals (refine WC.sub [(1, _), (3, _), (12, _)] ⟨rfl, rfl, rfl, trivial⟩ ?_)
  all_goals (refine WC.block ?_)
  -- loop 0: slots that turn [3], that stay [1, 12]
  all_goals (refine WC.loopG (X := Value × List (Int × Value)) (fun x => ([(3, x.1)] : Fr)) [(1, _), (12, _)] (fun x h' => It In h' r1 m (encK In E) x.2 ∧ Own h' x.1 3 1 (x.2.map (·.1)).length ((x.2.map (·.1)).map In) ∧ Ext (fun k => k = r1) h1 h' ∧ ∀ k, x.1.ownBlock = some k → h1.size ≤ k) (fun x => E.length - x.2.length) ((.slice none 0 0, [])) ⟨rfl, rfl, rfl, trivial⟩ (by exact ⟨hit1, Own.nil _ _ _, .refl _ _, by simp [Value.ownBlock]⟩) ?_)
  all_goals (rintro ⟨v2, ds⟩ h2 ⟨hit2, ho2, hx2, hf2⟩
             simp only at hit2 ho2 hf2
             have hdl := sub_len hit2.nd hit2.sub
             rw [encK_len] at hdl
             have hml : (ds.map (·.1)).length = ds.length := List.length_map ..
             have hs2 := hx2.size
             have hrlt := hit1.lt
             have hs1 := hx1.size)
  all_goals (refine WC.sub [(3, _), (1, _), (12, _)] ⟨rfl, rfl, rfl, trivial⟩ ?_)
  all_goals (dsimp only)
  all_goals (refine WC.seq ?_)
  all_goals (refine WC.region ?_)
  all_goals (refine WL.stepR (okE_next keyI rfl hit2) rfl rfl rfl ?_
             rintro v h3 (⟨rfl, hz3, hperm⟩ | ⟨p, rfl, hp3, hnp, hit3, hil3, hx3⟩))
  all_goals (try subst h3)
  all_goals (refine WL.step (ok_extract rfl rfl) rfl rfl rfl ?_)
  all_goals (refine WL.nil ?_)
  all_goals (repeat' (with_reducible first | refine thenP_n ?_ | refine blockP_n ?_))
  all_goals (refine WC.seq ?_)
  all_goals (first | refine WC.condB_t 3 rfl ?_ | refine WC.condB_f 4 rfl ?_ | (refine WC.condB 3 4 rfl (fun hb => ?_) (fun hb => ?_) <;> (first | replace hb := of_decide_eq_true hb | replace hb := of_decide_eq_false hb | replace hb := of_decide_eq_false (nt hb) | replace hb := of_decide_eq_true (nf hb) | skip)))
  all_goals (first
    | (fail_if_success (refine Br.mk (i := 3) ?_))
    | (refine Br.mk (i := 3) ?_
       all_goals (refine WC.skip ?_)
       skip))
  all_goals (first
    | (fail_if_success (refine Br.mk (i := 4) ?_))
    | (refine Br.mk (i := 4) ?_
       all_goals (refine WC.exit ?_)
       all_goals (repeat' (with_reducible first | refine thenP_x ?_ | refine blockP_miss rfl ?_ | refine blockP_hit ?_ | refine blockP_n ?_ | refine thenP_n ?_))
       all_goals (refine Br.out (i := 1000) ?_)
       skip))
  all_goals (first | (refine Br.keep ?_) | (repeat' (with_reducible first | refine thenP_n ?_ | refine blockP_n ?_)))
  all_goals (first | (refine Br.keep ?_) | (refine WC.block ?_))
  all_goals (first | (refine Br.keep ?_) | (refine WC.seq ?_))
  all_goals (first | (refine Br.keep ?_) | (refine WC.region ?_))
  all_goals (first | (refine Br.keep ?_) | (refine WL.step (ok_entry rfl hil3) rfl rfl rfl ?_))
  all_goals (first | (refine Br.keep ?_) | (refine WL.step (ok_extract rfl rfl) rfl rfl rfl ?_))
  all_goals (first | (refine Br.keep ?_) | (refine WL.step (ok_assign rfl) rfl rfl rfl ?_))
  all_goals (first | (refine Br.keep ?_) | (refine WL.nil ?_))
  all_goals (first | (refine Br.keep ?_) | (repeat' (with_reducible first | refine thenP_n ?_ | refine blockP_n ?_)))
  all_goals (first | (refine Br.keep ?_) | (refine WC.sub [(1, _), (3, _), (4, _), (12, _)] ⟨rfl, rfl, rfl, rfl, trivial⟩ ?_))
  all_goals (first | (refine Br.keep ?_) | (refine WC.region ?_))
  all_goals (first | (refine Br.keep ?_) | (refine WL.step (ok_move rfl) rfl rfl rfl ?_))
  all_goals (first | (refine Br.keep ?_) | (refine WL.step (ok_move rfl) rfl rfl rfl ?_))
  all_goals (first
               | (refine Br.keep ?_)
               | (refine WL.stepR (okE_buildSlice (vs := [_]) (cs := [_]) (fun | [a0] => [a0] | _ => []) Try.underlying36 rfl rfl (by kernel_rfl)) rfl rfl rfl ?_
                  rintro _ h4 ⟨b4, rfl, hg4, hb4, hx4⟩))
  all_goals (first
               | (refine Br.keep ?_)
               | (refine WL.stepR (ok_append (sz := 1) (bytes := 8) rfl Try.underlying36 (show Try.prog.info? 3 = some Try.t3 by kernel_rfl) rfl rfl rfl rfl (by decide) rfl rfl ((ho2.ext hx3 (fun k hk e => by have := hf2 k hk; omega)).ext hx4 (fun _ _ => nos)) (rd_blk hb4 rfl) (by simp [Value.oneCell']) (by simp only [maxLen]; omega) (by omega)) rfl rfl rfl ?_
                  rintro v5 h5 ⟨ho5, hx5, hl5⟩))
  all_goals (first | (refine Br.keep ?_) | (refine WL.step (ok_assign rfl) rfl rfl rfl ?_))
  all_goals (first | (refine Br.keep ?_) | (refine WL.nil ?_))
  all_goals (first | (refine Br.keep ?_) | (repeat' (with_reducible first | refine thenP_n ?_ | refine blockP_n ?_)))
  all_goals (first | (refine Br.keep ?_) | (exact ⟨(_, ds ++ [p]), ⟨rfl, rfl, rfl, trivial⟩, (by exact ⟨hit3.ext ((hx4.mono fun _ _ e => e.elim).trans hx5) (fun e => by have := hf2 _ e; omega) (fun e => by have := hf2 _ e; omega), by simpa using ho5, (hx2.trans (hx3.trans' hx4 fun _ _ e => e.elim)).trans' hx5 (fun q hq e => by have := hf2 q e; omega), fresh_of hl5 hf2 (by have := hx3.size; have := hx4.size; omega)⟩), (by have hd3 := sub_len hit3.nd hit3.sub; rw [encK_len] at hd3; simp at hd3 ⊢; omega)⟩))
  all_goals (try (refine Br.mk (i := 1000) ?_))
  all_goals (repeat' (with_reducible first | refine thenP_n ?_ | refine blockP_n ?_))
  all_goals (refine WC.seq ?_)
  all_goals (refine WC.region ?_)
  all_goals (refine WL.step (ok_move rfl) rfl rfl rfl ?_)
  all_goals (have hX2 : Ext No h h2 := hxz.trans (hx1.trans' hx2 (fun q hq e => by omega))
             have hbz2 := (hx1.trans' hx2 (fun q hq e => by omega)).obj hbz nos
             have hbzl := lt_of_some hbz)
  all_goals (refine WL.step (ok_makeFunc (vs := []) (us := [_]) rfl rfl) rfl rfl rfl ?_)
  all_goals (refine WL.call (vs := [_, _]) rfl (fun a w => Try.call47 a w) rfl (sortFunc1 Try.sortFI In (fun _ => rfl) (fun x y => turn L x - turn L y) (swo_turn _) 48 [.pointer (some ⟨bz, 0, none⟩)] (ds.map (·.1)) ho2 (by omega) (fun a w => Try.call48 a w) (fun h' hx' x y => less_fn ((r0.ext0 hX2).ext hx' (fun e => by have := hf2 _ e; omega) (fun e => by have := hf2 _ e; omega)) (hx'.obj hbz2 (fun e => by have := hf2 _ e; omega)) x y h0 hnx)) rfl rfl rfl ?_
             rintro _ h4 ⟨rfl, l', hpl, hsl, ho4, hx4⟩)
  all_goals (have hpk : (ds.map (·.1)).Perm (L.map (·.1)) := by have := (hperm.map (·.1)).trans (.of_eq (encK_keys In E)); exact this.trans (hp.map _)
             have hdl2 : (ds.map (·.1)).length = L.length := by rw [hpk.length_eq, List.length_map]
             rw [order_ff hri hnd (hpl.trans hpk) hsl] at ho4
             rw [hdl2] at ho4)
  all_goals (refine WL.nil ?_)
  all_goals (repeat' (with_reducible first | refine thenP_n ?_ | refine blockP_n ?_))
  all_goals (refine WC.sub [(3, _)] ⟨rfl, trivial⟩ ?_)
  all_goals (refine WC.seq ?_)
  all_goals (refine WC.region ?_)
  all_goals (refine WL.step (ok_move rfl) rfl rfl rfl ?_)
  all_goals (refine WL.step (ok_assign rfl) rfl rfl rfl ?_)
  all_goals (refine WL.nil ?_)
  all_goals (repeat' (with_reducible first | refine thenP_n ?_ | refine blockP_n ?_))
  all_goals (refine WC.ret ?_)
  all_goals (repeat' (with_reducible first | refine thenP_r ?_ | refine blockP_r ?_))
  all_goals (refine retP_1 _ ⟨rfl, trivial⟩ ?_)
  all_goals (exact ⟨ho4, hX2.trans' hx4 (fun q hq e => by have := hf2 q e; omega), fun k hk => by have := hf2 k hk; have := hxz.size; omega⟩)
end Go.Proofs.Ytfadcbbjjdmmfaa

