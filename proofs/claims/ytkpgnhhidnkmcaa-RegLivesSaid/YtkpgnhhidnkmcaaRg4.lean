/-
  REGISTRY (layer 14): the iterator over all statements, their ids rising; the law's awake.
-/
import Derived.Test.YtkpgnhhidnkmcaaRg3
import Derived.Test.YtkpgnhhidnkmcaaSrtI
import Derived.Test.YtkpgnhhidnkmcaaK18
import Derived.Test.YtkpgnhhidnkmcaaK23
namespace Go.Proofs.Ytkpgnhhidnkmcaa
open Go Go.RK

theorem srtI_rise {l l' : List Int} (h : l'.Pairwise fun a b => a < b) (hp : l.Perm l') : srtI l = l' := by
  refine List.Perm.eq_of_pairwise (le := fun a b => decide (a ≤ b) = true) (fun a b _ _ h1 h2 => ?_) (List.pairwise_mergeSort (fun a b c h1 h2 => ?_) (fun a b => ?_) l) (h.imp fun {a b} hab => decide_eq_true (by omega)) ((List.mergeSort_perm l _).trans hp)
  · simp only [decide_eq_true_eq] at h1 h2; omega
  · simp only [decide_eq_true_eq] at *; omega
  · simp only [Bool.or_eq_true, decide_eq_true_eq]; omega
section
variable {B : Nat} {c : Int} {h h' : Heap} {b m1 m2 : Nat} {last : Int} {L : List En}
abbrev enR (e : En) : List Value := [In e.id, In e.rf]
def RdR (b m1 m2 bx : Nat) (L : List En) (q : Nat) : Prop := q = bx ∨ q = b ∨ q = m1 ∨ q = m2 ∨ ∃ e ∈ L, q = e.p ∨ e.v.ownBlock = some q
set_option maxHeartbeats 1000000 in
set_option maxRecDepth 100000 in
theorem rg_seq {bx : Nat} (r : Rg B c h b m1 m2 last L) (hbx : h[bx]? = some (.cells ⟨[ptE b]⟩ 49 (0, 0))) :
    SeqH Try.prog 49 [ptE bx] enR L (RdR b m1 m2 bx L) h := by
  intro X J Jx own l x0 hJ0 hll hlr hown hst hY
  obtain ⟨E, hm, hp, ha, _⟩ := r.at1
  have hEl : E.length = L.length := by rw [hp.length_eq, List.length_map]
  have hB0 := r.blk
  have bd := r.bd
  obtain ⟨l1, l2, l3, l4, l5⟩ := r.lt
  have r0 := r
  unfold ptE at *
  refine calls [(0, _), (1, _)] Try.func49 rfl Try.ntmps49 rfl ⟨rfl, rfl, trivial⟩ ?_
  all_goals (refine WC.seq ?_)
  all_goals (refine WC.seq ?_)
  all_goals (refine WC.region ?_)
  all_goals (refine WL.step (ok_load (fun w => Try.isAgg49 w) rfl (by first | exact cell_blk hbx rfl | assumption | exact cell_blk (by assumption) rfl)) rfl rfl rfl ?_)
  all_goals (refine WL.call (vs := [_]) rfl (fun a w => Try.call43 a w) rfl (rg_ready r0) rfl rfl rfl ?_
             rintro _ hz ⟨rfl, _⟩
             subst hz)
  all_goals (refine WL.step (ok_not rfl) rfl rfl rfl ?_)
  all_goals (refine WL.nil ?_)
  all_goals (repeat' (with_reducible first | refine thenP_n ?_ | refine blockP_n ?_))
  all_goals (first | refine WC.condB_t 1 rfl ?_ | refine WC.condB_f 2 rfl ?_ | (refine WC.condB 1 2 rfl (fun hb => ?_) (fun hb => ?_) <;> (first | replace hb := of_decide_eq_true hb | replace hb := of_decide_eq_false hb | replace hb := of_decide_eq_false (nt hb) | replace hb := of_decide_eq_true (nf hb) | skip)))
  all_goals (first
    | (fail_if_success (refine Br.mk (i := 1) ?_))
    | (refine Br.mk (i := 1) ?_
       all_goals (refine WC.ret ?_)
       all_goals (repeat' (with_reducible first | refine thenP_r ?_ | refine blockP_r ?_))
       all_goals (refine retP_0 trivial ?_)
       all_goals (exact ⟨x', .inr hJx6⟩)
       skip))
  all_goals (first
    | (fail_if_success (refine Br.mk (i := 2) ?_))
    | (refine Br.mk (i := 2) ?_
       all_goals (refine WC.skip ?_)
       skip))
  all_goals (repeat' (with_reducible first | refine thenP_n ?_ | refine blockP_n ?_))
  all_goals (refine WC.seq ?_)
  all_goals (refine WC.region ?_)
  all_goals (refine WL.step (ok_assign rfl) rfl rfl rfl ?_)
  all_goals (refine WL.nil ?_)
  all_goals (repeat' (with_reducible first | refine thenP_n ?_ | refine blockP_n ?_))
  all_goals (refine WC.seq ?_)
  all_goals (refine WC.seq ?_)
  all_goals (refine WC.region ?_)
  all_goals (refine WL.step (ok_load (fun w => Try.isAgg49 w) rfl (by first | exact cell_blk hbx rfl | assumption | exact cell_blk (by assumption) rfl)) rfl rfl rfl ?_)
  all_goals (refine WL.step (ok_nilCheck rfl) rfl rfl rfl ?_)
  all_goals (refine WL.step (ok_fieldAddr rfl Try.underlying73 rfl (fun w => Try.sizeOf71 w)) rfl rfl rfl ?_)
  all_goals (refine WL.step (ok_load (fun w => Try.isAgg71 w) rfl (by first | exact cell_blk hB0 rfl | assumption | exact cell_blk (by assumption) rfl)) rfl rfl rfl ?_)
  all_goals (refine WL.stepR (okE_range Try.underlying71 rfl hm) rfl rfl rfl ?_
             rintro _ h1 ⟨r1, rfl, hgr1, hit1, hx1⟩)
  all_goals (refine WL.nil ?_)
  all_goals (repeat' (with_reducible first | refine thenP_n ?_ | refine blockP_n ?_))
  all_goals (refine WC.sub [(0, _), (1, _), (3, _), (14, _)] ⟨rfl, rfl, rfl, rfl, trivial⟩ ?_)
  all_goals (refine WC.block ?_)
  -- loop 0: slots that turn [3], that stay [0, 1, 14]
  all_goals (refine WC.loopG (X := Value × List (Int × Value)) (fun x => ([(3, x.1)] : Fr)) [(0, _), (1, _), (14, _)] (fun x h' => It In h' r1 m1 E x.2 ∧ Own h' x.1 3 1 (x.2.map (·.1)).length (ints (x.2.map (·.1))) ∧ Ext (fun k => k = r1) h1 h' ∧ ∀ k, x.1.ownBlock = some k → h1.size ≤ k) (fun x => E.length - x.2.length) ((.slice none 0 0, [])) ⟨rfl, rfl, rfl, rfl, trivial⟩ (by exact ⟨hit1, Own.nil _ _ _, .refl _ _, by simp [Value.ownBlock]⟩) ?_)
  all_goals (rintro ⟨v2, ds⟩ h2 ⟨hit2, ho2, hx2, hf2⟩
             simp only at hit2 ho2 hf2
             have hdl := sub_len hit2.nd hit2.sub
             have hml2 : (ds.map (·.1)).length = ds.length := List.length_map ..
             have hs2 := hx2.size
             have hrlt := hit1.lt
             have hs1 := hx1.size)
  all_goals (refine WC.sub [(3, _), (0, _), (1, _), (14, _)] ⟨rfl, rfl, rfl, rfl, trivial⟩ ?_)
  all_goals (dsimp only)
  all_goals (refine WC.seq ?_)
  all_goals (refine WC.region ?_)
  all_goals (refine WL.stepR (okE_next keyI rfl hit2) rfl rfl rfl ?_
             rintro v h3 (⟨rfl, hz, hperm⟩ | ⟨p, rfl, hp3, hnp, hit3, hil3, hx3⟩))
  all_goals (try subst h3)
  all_goals (refine WL.step (ok_extract rfl rfl) rfl rfl rfl ?_)
  all_goals (refine WL.nil ?_)
  all_goals (repeat' (with_reducible first | refine thenP_n ?_ | refine blockP_n ?_))
  all_goals (refine WC.seq ?_)
  all_goals (first | refine WC.condB_t 3 rfl ?_ | refine WC.condB_f 4 rfl ?_ | (refine WC.condB 3 4 rfl (fun hb => ?_) (fun hb => ?_) <;> (first | replace hb := of_decide_eq_true hb | replace hb := of_decide_eq_false hb | replace hb := of_decide_eq_false (nt hb) | replace hb := of_decide_eq_true (nf hb) | skip)))
  all_goals (first
    | (fail_if_success (refine Br.mk (i := 3) ?_))
    | (refine Br.mk (i := 3) ?_
       all_goals (refine WC.skip ?_)
       skip))
  all_goals (first
    | (fail_if_success (refine Br.mk (i := 4) ?_))
    | (refine Br.mk (i := 4) ?_
       all_goals (refine WC.exit ?_)
       all_goals (repeat' (with_reducible first | refine thenP_x ?_ | refine blockP_miss rfl ?_ | refine blockP_hit ?_ | refine blockP_n ?_ | refine thenP_n ?_))
       all_goals (refine Br.out (i := 1000) ?_)
       skip))
  all_goals (first | (refine Br.keep ?_) | (repeat' (with_reducible first | refine thenP_n ?_ | refine blockP_n ?_)))
  all_goals (first | (refine Br.keep ?_) | (refine WC.block ?_))
  all_goals (first | (refine Br.keep ?_) | (refine WC.seq ?_))
  all_goals (first | (refine Br.keep ?_) | (refine WC.region ?_))
  all_goals (first | (refine Br.keep ?_) | (refine WL.step (ok_entry rfl hil3) rfl rfl rfl ?_))
  all_goals (first | (refine Br.keep ?_) | (refine WL.step (ok_extract rfl rfl) rfl rfl rfl ?_))
  all_goals (first | (refine Br.keep ?_) | (refine WL.step (ok_assign rfl) rfl rfl rfl ?_))
  all_goals (first | (refine Br.keep ?_) | (refine WL.nil ?_))
  all_goals (first | (refine Br.keep ?_) | (repeat' (with_reducible first | refine thenP_n ?_ | refine blockP_n ?_)))
  all_goals (first | (refine Br.keep ?_) | (refine WC.sub [(0, _), (1, _), (3, _), (4, _), (14, _)] ⟨rfl, rfl, rfl, rfl, rfl, trivial⟩ ?_))
  all_goals (first | (refine Br.keep ?_) | (refine WC.region ?_))
  all_goals (first | (refine Br.keep ?_) | (refine WL.step (ok_move rfl) rfl rfl rfl ?_))
  all_goals (first | (refine Br.keep ?_) | (refine WL.step (ok_move rfl) rfl rfl rfl ?_))
  all_goals (first
               | (refine Br.keep ?_)
               | (refine WL.stepR (okE_buildSlice (vs := [_]) (cs := [_]) (fun | [a0] => [a0] | _ => []) Try.underlying55 rfl rfl (by kernel_rfl)) rfl rfl rfl ?_
                  rintro _ h4 ⟨b4, rfl, hg4, hb4, hx4⟩))
  all_goals (first
               | (refine Br.keep ?_)
               | (refine WL.stepR (ok_append (sz := 1) (bytes := 8) rfl Try.underlying55 (show Try.prog.info? 3 = some Try.t3 by kernel_rfl) rfl rfl rfl rfl (by decide) rfl rfl ((ho2.ext hx3 (fun k hk e => by have := hf2 k hk; omega)).ext hx4 (fun _ _ => nos)) (rd_blk hb4 rfl) (by simp [Value.oneCell']) (by simp only [maxLen]; omega) (by omega)) rfl rfl rfl ?_
                  rintro v5 h5 ⟨ho5, hx5, hl5⟩))
  all_goals (first | (refine Br.keep ?_) | (refine WL.step (ok_assign rfl) rfl rfl rfl ?_))
  all_goals (first | (refine Br.keep ?_) | (refine WL.nil ?_))
  all_goals (first | (refine Br.keep ?_) | (repeat' (with_reducible first | refine thenP_n ?_ | refine blockP_n ?_)))
  all_goals (first | (refine Br.keep ?_) | (exact ⟨(_, ds ++ [p]), ⟨rfl, rfl, rfl, rfl, trivial⟩, (by exact ⟨hit3.ext ((hx4.mono fun _ _ e => e.elim).trans hx5) (fun e => by have := hf2 _ e; omega) (fun e => by have := hf2 _ e; omega), by simpa using ho5, (hx2.trans (hx3.trans' hx4 fun _ _ e => e.elim)).trans' hx5 (fun q hq e => by have := hf2 q e; omega), fresh_of hl5 hf2 (by have := hx3.size; have := hx4.size; omega)⟩), (by have hd3 := sub_len hit3.nd hit3.sub; simp at hd3 ⊢; omega)⟩))
  all_goals (try (refine Br.mk (i := 1000) ?_))
  all_goals (repeat' (with_reducible first | refine thenP_n ?_ | refine blockP_n ?_))
  all_goals (refine WC.seq ?_)
  all_goals (refine WC.region ?_)
  all_goals (refine WL.step (ok_move rfl) rfl rfl rfl ?_)
  all_goals (refine WL.call (vs := [_]) rfl (fun a w => Try.call50 a w) rfl (sort_int (ds.map (·.1)) ho2 (by omega)) rfl rfl rfl ?_
             rintro _ h4 ⟨rfl, ho4, hx4⟩)
  all_goals (have hpk : (ds.map (·.1)).Perm (L.map (·.id)) := by have := (hperm.map (·.1)).trans (hp.map _); rw [List.map_map] at this; exact this
             have hdl2 : (ds.map (·.1)).length = L.length := by rw [hpk.length_eq, List.length_map]
             rw [srtI_rise (List.pairwise_map.2 r0.rise) hpk] at ho4
             rw [hdl2] at ho4
             obtain ⟨A2, c2, rfl, _⟩ := ho4.slice
             have hX4 : Ext No h h4 := (hx1.trans' hx2 (fun q hq e => by omega)).trans' hx4 (fun q hq e => by have := hf2 q e; omega)
             have hf4 : ∀ q, A2 = some ⟨q, 0, none⟩ → h1.size ≤ q := fun q e => hf2 q (by rw [e]; rfl)
             have hs4 := hX4.size
             have hJ4 : J 0 x0 h4 := hst 0 x0 h h4 No hJ0 hX4 (fun _ e => e.elim))
  all_goals (refine WL.nil ?_)
  all_goals (repeat' (with_reducible first | refine thenP_n ?_ | refine blockP_n ?_))
  all_goals (refine WC.sub [(0, _), (1, _), (3, _)] ⟨rfl, rfl, rfl, trivial⟩ ?_)
  all_goals (refine WC.seq ?_)
  all_goals (refine WC.region ?_)
  all_goals (refine WL.step (ok_move rfl) rfl rfl rfl ?_)
  all_goals (refine WL.step (ok_lenL rfl Try.underlying55 rfl) rfl rfl rfl ?_)
  all_goals (refine WL.step (ok_move rfl) rfl rfl rfl ?_)
  all_goals (refine WL.nil ?_)
  all_goals (repeat' (with_reducible first | refine thenP_n ?_ | refine blockP_n ?_))
  all_goals (refine WC.block ?_)
  -- loop 1: slots that turn [27], that stay [0, 1, 25, 26]
  all_goals (refine WC.loopG (X := Nat × X) (fun x => ([(27, In (x.1 : Int))] : Fr)) [(0, _), (1, _), (25, _), (26, _)] (fun x h' => J x.1 x.2 h' ∧ x.1 ≤ L.length ∧ Own h' (.slice A2 L.length c2) 3 1 L.length (ints (L.map (·.id))) ∧ Rg B c h' b m1 m2 last L ∧ h'[bx]? = some (.cells ⟨[.pointer (some ⟨b, 0, none⟩)]⟩ 49 (0, 0)) ∧ (∀ q, (.slice A2 L.length c2 : Value).ownBlock = some q → q ≠ l ∧ ¬ own x.2 q)) (fun x => L.length - x.1) ((0, x0)) ⟨rfl, rfl, rfl, rfl, rfl, trivial⟩ (by exact ⟨hJ4, Nat.zero_le _, ho4, r0.ext0 hX4, hX4.obj hbx nos, fun q hq => ⟨fun e => by have := hf2 q hq; omega, fun e => by have := (hown _ _ _ hJ0 q e).1; have := hf2 q hq; omega⟩⟩) ?_)
  all_goals (rintro ⟨k, x⟩ h5 ⟨hJ5, hk, ho5, t5, hbx5, hfr5⟩
             dsimp only at hJ5 hk ho5 hfr5)
  all_goals (refine WC.sub [(27, _), (0, _), (1, _), (25, _), (26, _)] ⟨rfl, rfl, rfl, rfl, rfl, trivial⟩ ?_)
  all_goals (dsimp only)
  all_goals (refine WC.seq ?_)
  all_goals (refine WC.region ?_)
  all_goals (first | (refine WL.step (OkP.bool_t (by omega) (ok_lss rfl rfl)) rfl rfl rfl ?_) | (refine WL.step (OkP.bool_f (by omega) (ok_lss rfl rfl)) rfl rfl rfl ?_) | (refine WL.step (ok_lss rfl rfl) rfl rfl rfl ?_))
  all_goals (refine WL.nil ?_)
  all_goals (repeat' (with_reducible first | refine thenP_n ?_ | refine blockP_n ?_))
  all_goals (refine WC.seq ?_)
  all_goals (first | refine WC.condB_t 5 rfl ?_ | refine WC.condB_f 6 rfl ?_ | (refine WC.condB 5 6 rfl (fun hb => ?_) (fun hb => ?_) <;> (first | replace hb := of_decide_eq_true hb | replace hb := of_decide_eq_false hb | replace hb := of_decide_eq_false (nt hb) | replace hb := of_decide_eq_true (nf hb) | skip)))
  all_goals (first
    | (fail_if_success (refine Br.mk (i := 5) ?_))
    | (refine Br.mk (i := 5) ?_
       all_goals (refine WC.skip ?_)
       skip))
  all_goals (first
    | (fail_if_success (refine Br.mk (i := 6) ?_))
    | (refine Br.mk (i := 6) ?_
       all_goals (refine WC.exit ?_)
       all_goals (repeat' (with_reducible first | refine thenP_x ?_ | refine blockP_miss rfl ?_ | refine blockP_hit ?_ | refine blockP_n ?_ | refine thenP_n ?_))
       all_goals (refine Br.out (i := 1002) ?_)
       skip))
  all_goals (first | (refine Br.keep ?_) | (repeat' (with_reducible first | refine thenP_n ?_ | refine blockP_n ?_)))
  all_goals (first | (refine Br.keep ?_) | (refine WC.seq ?_))
  all_goals (first | (refine Br.keep ?_) | (refine WC.block ?_))
  all_goals (first | (refine Br.keep ?_) | (refine WC.seq ?_))
  all_goals (first | (refine Br.keep ?_) | (refine WC.region ?_))
  all_goals (first
               | (refine Br.keep ?_)
               | (obtain ⟨bL, oL, hA, hbL, hat⟩ := Rd.at_ ho5.rd (by omega)
                  obtain ⟨en, hy⟩ : ∃ y, L[k]? = some y := ⟨_, List.getElem?_eq_getElem (by omega)⟩
                  have hey := List.mem_of_getElem? hy
                  have hcd : cell h5 ⟨bL, oL + k * 1, none⟩ = some (In en.id) := by rw [Nat.mul_one]; exact hat.one (j := k) (by simp [hy])
                  obtain ⟨E5, hm5, _, ha5, _⟩ := t5.at1
                  have hv5 := ha5 en hey
                  unfold ptE at hv5))
  all_goals (first | (refine Br.keep ?_) | (refine WL.step (ok_idxAddrA Try.underlying55 (fun w => Try.sizeOf3 w) rfl rfl rfl (by omega) (by first | rfl | assumption)) rfl rfl rfl ?_))
  all_goals (first | (refine Br.keep ?_) | (refine WL.step (ok_load (fun w => Try.isAgg3 w) rfl (by first | exact hcd | assumption | exact cell_blk (by assumption) rfl)) rfl rfl rfl ?_))
  all_goals (first | (refine Br.keep ?_) | (refine WL.step (ok_assign rfl) rfl rfl rfl ?_))
  all_goals (first | (refine Br.keep ?_) | (refine WL.nil ?_))
  all_goals (first | (refine Br.keep ?_) | (repeat' (with_reducible first | refine thenP_n ?_ | refine blockP_n ?_)))
  all_goals (first | (refine Br.keep ?_) | (refine WC.seq ?_))
  all_goals (first | (refine Br.keep ?_) | (refine WC.regionY ?_))
  all_goals (first | (refine Br.keep ?_) | (refine WY.step (ok_move rfl) rfl rfl rfl ?_))
  all_goals (first | (refine Br.keep ?_) | (refine WY.step (ok_move rfl) rfl rfl rfl ?_))
  all_goals (first | (refine Br.keep ?_) | (refine WY.step (ok_load (fun w => Try.isAgg49 w) rfl (by first | exact cell_blk hbx5 rfl | assumption | exact cell_blk (by assumption) rfl)) rfl rfl rfl ?_))
  all_goals (first | (refine Br.keep ?_) | (refine WY.step (ok_nilCheck rfl) rfl rfl rfl ?_))
  all_goals (first | (refine Br.keep ?_) | (refine WY.step (ok_fieldAddr rfl Try.underlying73 rfl (fun w => Try.sizeOf71 w)) rfl rfl rfl ?_))
  all_goals (first | (refine Br.keep ?_) | (refine WY.step (ok_load (fun w => Try.isAgg71 w) rfl (by first | exact cell_blk t5.blk rfl | assumption | exact cell_blk (by assumption) rfl)) rfl rfl rfl ?_))
  all_goals (first | (refine Br.keep ?_) | (refine WY.step (ok_move rfl) rfl rfl rfl ?_))
  all_goals (first | (refine Br.keep ?_) | (first | (refine WY.step ((ok_lookup keyI Try.underlying71 Try.underlying3 rfl rfl hm5 hv5).2) rfl rfl rfl ?_) | (refine WY.step ((ok_lookup_no keyI Try.underlying71 Try.underlying3 (fun w => Try.zeroValue85 w) rfl rfl hm5 hv5).2) rfl rfl rfl ?_) | (refine WY.step ((ok_lookup_nil keyI Try.underlying71 Try.underlying3 (fun w => Try.zeroValue85 w) rfl rfl).2) rfl rfl rfl ?_)))
  all_goals (first | (refine Br.keep ?_) | (refine WY.step (ok_nilCheck rfl) rfl rfl rfl ?_))
  all_goals (first | (refine Br.keep ?_) | (refine WY.step (ok_fieldAddr rfl Try.underlying84 rfl (fun w => Try.sizeOf3 w)) rfl rfl rfl ?_))
  all_goals (first | (refine Br.keep ?_) | (refine WY.step (ok_load (fun w => Try.isAgg3 w) rfl (by first | exact cell_blk (t5.recs en hey) rfl | assumption | exact cell_blk (by assumption) rfl)) rfl rfl rfl ?_))
  all_goals (first
               | (refine Br.keep ?_)
               | (refine WY.yield (vs := [_, _]) rfl rfl rfl (hY k x h5 en hJ5 hy) rfl rfl rfl ?_
                  rintro _ h6 ⟨x', hx6, hox, (⟨rfl, hJ6⟩ | ⟨rfl, hJx6⟩)⟩))
  all_goals (first | (refine Br.keep ?_) | (try (have ho6 := ho5.ext hx6 (fun q hq e => e.elim (hfr5 q hq).2 (hfr5 q hq).1); have n1 : ∀ q, RdR b m1 m2 bx L q → ¬ (own x q ∨ q = l) := (fun q hq e => e.elim (fun e => (hown _ _ _ hJ5 q e).2 hq) (fun e => hlr (e ▸ hq))); have t6 := t5.ext hx6 (n1 b (.inr (.inl rfl))) (n1 m1 (.inr (.inr (.inl rfl)))) (n1 m2 (.inr (.inr (.inr (.inl rfl))))) (fun e he => ⟨n1 e.p (.inr (.inr (.inr (.inr ⟨e, he, .inl rfl⟩)))), fun q hq => n1 q (.inr (.inr (.inr (.inr ⟨e, he, .inr hq⟩))))⟩); have hbx6 := hx6.obj hbx5 (n1 bx (.inl rfl)); have hfr6 : ∀ q, (.slice A2 L.length c2 : Value).ownBlock = some q → q ≠ l ∧ ¬ own x' q := (fun q hq => ⟨(hfr5 q hq).1, fun e => (hox q e).elim (hfr5 q hq).2 (fun e => by have := ho5.lt hq; omega)⟩))))
  all_goals (first | (refine Br.keep ?_) | (refine WY.step (ok_not rfl) rfl rfl rfl ?_))
  all_goals (first | (refine Br.keep ?_) | (refine WY.nil ?_))
  all_goals (first | (refine Br.keep ?_) | (repeat' (with_reducible first | refine thenP_n ?_ | refine blockP_n ?_)))
  all_goals (first | (refine Br.keep ?_) | (refine WC.sub [(0, _), (1, _), (25, _), (26, _), (27, _), (43, _)] ⟨rfl, rfl, rfl, rfl, rfl, rfl, trivial⟩ ?_))
  all_goals (first | (refine Br.keep ?_) | (first | refine WC.condB_t 7 rfl ?_ | refine WC.condB_f 8 rfl ?_ | (refine WC.condB 7 8 rfl (fun hb => ?_) (fun hb => ?_) <;> (first | replace hb := of_decide_eq_true hb | replace hb := of_decide_eq_false hb | replace hb := of_decide_eq_false (nt hb) | replace hb := of_decide_eq_true (nf hb) | skip))))
  all_goals (first
    | (fail_if_success (refine Br.mk (i := 7) ?_))
    | (refine Br.mk (i := 7) ?_
       all_goals (refine WC.ret ?_)
       all_goals (repeat' (with_reducible first | refine thenP_r ?_ | refine blockP_r ?_))
       all_goals (refine retP_0 trivial ?_)
       all_goals (exact ⟨x', .inr hJx6⟩)
       skip))
  all_goals (first
    | (fail_if_success (refine Br.mk (i := 8) ?_))
    | (refine Br.mk (i := 8) ?_
       all_goals (refine WC.skip ?_)
       skip))
  all_goals (first | (refine Br.keep ?_) | (repeat' (with_reducible first | refine thenP_n ?_ | refine blockP_n ?_)))
  all_goals (first | (refine Br.keep ?_) | (refine WC.region ?_))
  all_goals (first | (refine Br.keep ?_) | (first | (refine WL.step (ok_addI rfl rfl (by omega)) rfl rfl rfl ?_) | (refine WL.step (ok_add rfl rfl) rfl rfl rfl ?_)))
  all_goals (first | (refine Br.keep ?_) | (refine WL.step (ok_move rfl) rfl rfl rfl ?_))
  all_goals (first | (refine Br.keep ?_) | (refine WL.nil ?_))
  all_goals (first | (refine Br.keep ?_) | (repeat' (with_reducible first | refine thenP_n ?_ | refine blockP_n ?_)))
  all_goals (first | (refine Br.keep ?_) | (exact ⟨(k + 1, x'), ⟨rfl, rfl, rfl, rfl, rfl, trivial⟩, (by exact ⟨hJ6, by omega, ho6, t6, hbx6, hfr6⟩), (by simp; omega)⟩))
  all_goals (try (refine Br.mk (i := 1002) ?_))
  all_goals (repeat' (with_reducible first | refine thenP_n ?_ | refine blockP_n ?_))
  all_goals (refine retP_n [] trivial ?_)
  all_goals (exact ⟨x, .inl ((show k = L.length by omega) ▸ hJ5)⟩)
set_option maxRecDepth 100000 in
theorem all_r {h : Heap} {v : Value} : CallsH Try.prog 37 ⟨[v]⟩ h fun u h' => ∃ bx, u = .func (.func 49) #[] #[.pointer (some ⟨bx, 0, none⟩)] ∧ h'[bx]? = some (.cells v.cells 49 (0, 0)) ∧ h.size ≤ bx ∧ Ext No h h' := by
  refine calls [(0, _)] Try.func37 rfl Try.ntmps37 rfl ⟨rfl, trivial⟩ ?_
  all_goals (refine WC.seq ?_)
  all_goals (refine WC.region ?_)
  all_goals (refine WL.stepR (okE_box rfl) rfl rfl rfl ?_
             rintro _ h1 ⟨b1, rfl, hg1, hb1, hx1⟩)
  all_goals (refine WL.step (ok_assign rfl) rfl rfl rfl ?_)
  all_goals (refine WL.nil ?_)
  all_goals (repeat' (with_reducible first | refine thenP_n ?_ | refine blockP_n ?_))
  all_goals (refine WC.seq ?_)
  all_goals (refine WC.region ?_)
  all_goals (refine WL.step (ok_makeFunc (vs := []) (us := [_]) rfl rfl) rfl rfl rfl ?_)
  all_goals (refine WL.step (ok_assign rfl) rfl rfl rfl ?_)
  all_goals (refine WL.nil ?_)
  all_goals (repeat' (with_reducible first | refine thenP_n ?_ | refine blockP_n ?_))
  all_goals (refine WC.ret ?_)
  all_goals (repeat' (with_reducible first | refine thenP_r ?_ | refine blockP_r ?_))
  all_goals (refine retP_1 _ ⟨rfl, trivial⟩ ?_)
  all_goals (exact ⟨_, rfl, hb1, hg1, hx1⟩)
end
end Go.Proofs.Ytkpgnhhidnkmcaa

