/-
  TABLE (layer 15): the iterator over all names, rising.
-/
import Derived.Test.YtkpgnhhidnkmcaaTb
import Derived.Test.YtkpgnhhidnkmcaaSrtS
import Derived.Test.YtkpgnhhidnkmcaaK18
import Derived.Test.YtkpgnhhidnkmcaaK23
namespace Go.Proofs.Ytkpgnhhidnkmcaa
open Go Go.RK

abbrev NI := List UInt8 × Int
set_option maxHeartbeats 1000000 in
set_option maxRecDepth 100000 in
theorem tall_seq {h : Heap} {b m bx : Nat} {most : Int} {E L : List NI} (t : Tb h b m most (encE In E)) (hp : E.Perm L) (hri : Rise L) (hl : L.length ≤ 1000000)
    (hbx : h[bx]? = some (.cells ⟨[.pointer (some ⟨b, 0, none⟩)]⟩ 24 (0, 0))) :
    SeqH Try.prog 40 [.pointer (some ⟨bx, 0, none⟩)] (fun p : NI => [St p.1, In p.2]) L (fun q => q = b ∨ q = m ∨ q = bx) h := by
  intro X J Jx own l x0 hJ0 hll hlr hown hst hY
  have hEl := hp.length_eq
  have t0 := t
  obtain ⟨hb, hm⟩ := t
  have hbm := t0.ne
  have hbl := lt_of_some hb
  have hml := hm.lt
  refine calls [(0, _), (1, _)] Try.func40 rfl Try.ntmps40 rfl ⟨rfl, rfl, trivial⟩ ?_
  all_goals (refine WC.seq ?_)
  all_goals (refine WC.seq ?_)
  all_goals (refine WC.region ?_)
  all_goals (refine WL.step (ok_load (fun w => Try.isAgg24 w) rfl (by first | exact cell_blk hbx rfl | assumption | exact cell_blk (by assumption) rfl)) rfl rfl rfl ?_)
  all_goals (refine WL.call (vs := [_]) rfl (fun a w => Try.call39 a w) rfl (ready_yes hb) rfl rfl rfl ?_
             rintro _ hz ⟨rfl, _⟩
             subst hz)
  all_goals (refine WL.step (ok_not rfl) rfl rfl rfl ?_)
  all_goals (refine WL.nil ?_)
  all_goals (repeat' (with_reducible first | refine thenP_n ?_ | refine blockP_n ?_))
  all_goals (first | refine WC.condB_t 1 rfl ?_ | refine WC.condB_f 2 rfl ?_ | (refine WC.condB 1 2 rfl (fun hb => ?_) (fun hb => ?_) <;> (first | replace hb := of_decide_eq_true hb | replace hb := of_decide_eq_false hb | replace hb := of_decide_eq_false (nt hb) | replace hb := of_decide_eq_true (nf hb) | skip)))
  all_goals (first
    | (fail_if_success (refine Br.mk (i := 1) ?_))
    | (refine Br.mk (i := 1) ?_
       all_goals (refine WC.ret ?_)
       all_goals (repeat' (with_reducible first | refine thenP_r ?_ | refine blockP_r ?_))
       all_goals (refine retP_0 trivial ?_)
       all_goals (exact ⟨x', .inr hJx6⟩)
       skip))
  all_goals (first
    | (fail_if_success (refine Br.mk (i := 2) ?_))
    | (refine Br.mk (i := 2) ?_
       all_goals (refine WC.skip ?_)
       skip))
  all_goals (repeat' (with_reducible first | refine thenP_n ?_ | refine blockP_n ?_))
  all_goals (refine WC.seq ?_)
  all_goals (refine WC.region ?_)
  all_goals (refine WL.step (ok_assign rfl) rfl rfl rfl ?_)
  all_goals (refine WL.nil ?_)
  all_goals (repeat' (with_reducible first | refine thenP_n ?_ | refine blockP_n ?_))
  all_goals (refine WC.seq ?_)
  all_goals (refine WC.seq ?_)
  all_goals (refine WC.region ?_)
  all_goals (refine WL.step (ok_load (fun w => Try.isAgg24 w) rfl (by first | exact cell_blk hbx rfl | assumption | exact cell_blk (by assumption) rfl)) rfl rfl rfl ?_)
  all_goals (refine WL.step (ok_nilCheck rfl) rfl rfl rfl ?_)
  all_goals (refine WL.step (ok_fieldAddr rfl Try.underlying41 rfl (fun w => Try.sizeOf39 w)) rfl rfl rfl ?_)
  all_goals (refine WL.step (ok_load (fun w => Try.isAgg39 w) rfl (by first | exact cell_blk hb rfl | assumption | exact cell_blk (by assumption) rfl)) rfl rfl rfl ?_)
  all_goals (refine WL.stepR (okE_range Try.underlying39 rfl (by assumption)) rfl rfl rfl ?_
             rintro _ h1 ⟨r1, rfl, hgr1, hit1, hx1⟩)
  all_goals (refine WL.nil ?_)
  all_goals (repeat' (with_reducible first | refine thenP_n ?_ | refine blockP_n ?_))
  all_goals (refine WC.sub [(0, _), (1, _), (3, _), (14, _)] ⟨rfl, rfl, rfl, rfl, trivial⟩ ?_)
  all_goals (refine WC.block ?_)
  -- loop 0: slots that turn [3], that stay [0, 1, 14]
  all_goals (refine WC.loopG (X := Value × List (List UInt8 × Value)) (fun x => ([(3, x.1)] : Fr)) [(0, _), (1, _), (14, _)] (fun x h' => It St h' r1 m (encE In E) x.2 ∧ Own h' x.1 9 1 (x.2.map (·.1)).length ((x.2.map (·.1)).map St) ∧ Ext (fun k => k = r1) h1 h' ∧ ∀ k, x.1.ownBlock = some k → h1.size ≤ k) (fun x => E.length - x.2.length) ((.slice none 0 0, [])) ⟨rfl, rfl, rfl, rfl, trivial⟩ (by exact ⟨hit1, Own.nil _ _ _, .refl _ _, by simp [Value.ownBlock]⟩) ?_)
  all_goals (rintro ⟨v2, ds⟩ h2 ⟨hit2, ho2, hx2, hf2⟩
             simp only at hit2 ho2 hf2
             have hdl := sub_len hit2.nd hit2.sub
             rw [enc_len] at hdl
             have hml2 : (ds.map (·.1)).length = ds.length := List.length_map ..
             have hs2 := hx2.size
             have hrlt := hit1.lt
             have hs1 := hx1.size)
  all_goals (refine WC.sub [(3, _), (0, _), (1, _), (14, _)] ⟨rfl, rfl, rfl, rfl, trivial⟩ ?_)
  all_goals (dsimp only)
  all_goals (refine WC.seq ?_)
  all_goals (refine WC.region ?_)
  all_goals (refine WL.stepR (okE_next keyS rfl hit2) rfl rfl rfl ?_
             rintro v h3 (⟨rfl, hz, hperm⟩ | ⟨p, rfl, hp3, hnp, hit3, hil3, hx3⟩))
  all_goals (try subst h3)
  all_goals (refine WL.step (ok_extract rfl rfl) rfl rfl rfl ?_)
  all_goals (refine WL.nil ?_)
  all_goals (repeat' (with_reducible first | refine thenP_n ?_ | refine blockP_n ?_))
  all_goals (refine WC.seq ?_)
  all_goals (first | refine WC.condB_t 3 rfl ?_ | refine WC.condB_f 4 rfl ?_ | (refine WC.condB 3 4 rfl (fun hb => ?_) (fun hb => ?_) <;> (first | replace hb := of_decide_eq_true hb | replace hb := of_decide_eq_false hb | replace hb := of_decide_eq_false (nt hb) | replace hb := of_decide_eq_true (nf hb) | skip)))
  all_goals (first
    | (fail_if_success (refine Br.mk (i := 3) ?_))
    | (refine Br.mk (i := 3) ?_
       all_goals (refine WC.skip ?_)
       skip))
  all_goals (first
    | (fail_if_success (refine Br.mk (i := 4) ?_))
    | (refine Br.mk (i := 4) ?_
       all_goals (refine WC.exit ?_)
       all_goals (repeat' (with_reducible first | refine thenP_x ?_ | refine blockP_miss rfl ?_ | refine blockP_hit ?_ | refine blockP_n ?_ | refine thenP_n ?_))
       all_goals (refine Br.out (i := 1000) ?_)
       skip))
  all_goals (first | (refine Br.keep ?_) | (repeat' (with_reducible first | refine thenP_n ?_ | refine blockP_n ?_)))
  all_goals (first | (refine Br.keep ?_) | (refine WC.block ?_))
  all_goals (first | (refine Br.keep ?_) | (refine WC.seq ?_))
  all_goals (first | (refine Br.keep ?_) | (refine WC.region ?_))
  all_goals (first | (refine Br.keep ?_) | (refine WL.step (ok_entry rfl hil3) rfl rfl rfl ?_))
  all_goals (first | (refine Br.keep ?_) | (refine WL.step (ok_extract rfl rfl) rfl rfl rfl ?_))
  all_goals (first | (refine Br.keep ?_) | (refine WL.step (ok_assign rfl) rfl rfl rfl ?_))
  all_goals (first | (refine Br.keep ?_) | (refine WL.nil ?_))
  all_goals (first | (refine Br.keep ?_) | (repeat' (with_reducible first | refine thenP_n ?_ | refine blockP_n ?_)))
  all_goals (first | (refine Br.keep ?_) | (refine WC.sub [(0, _), (1, _), (3, _), (4, _), (14, _)] ⟨rfl, rfl, rfl, rfl, rfl, trivial⟩ ?_))
  all_goals (first | (refine Br.keep ?_) | (refine WC.region ?_))
  all_goals (first | (refine Br.keep ?_) | (refine WL.step (ok_move rfl) rfl rfl rfl ?_))
  all_goals (first | (refine Br.keep ?_) | (refine WL.step (ok_move rfl) rfl rfl rfl ?_))
  all_goals (first
               | (refine Br.keep ?_)
               | (refine WL.stepR (okE_buildSlice (vs := [_]) (cs := [_]) (fun | [a0] => [a0] | _ => []) Try.underlying80 rfl rfl (by kernel_rfl)) rfl rfl rfl ?_
                  rintro _ h4 ⟨b4, rfl, hg4, hb4, hx4⟩))
  all_goals (first
               | (refine Br.keep ?_)
               | (refine WL.stepR (ok_append (sz := 1) (bytes := 16) rfl Try.underlying80 (show Try.prog.info? 9 = some Try.t9 by kernel_rfl) rfl rfl rfl rfl (by decide) rfl rfl ((ho2.ext hx3 (fun k hk e => by have := hf2 k hk; omega)).ext hx4 (fun _ _ => nos)) (rd_blk hb4 rfl) (by simp [Value.oneCell']) (by simp only [maxLen]; omega) (by omega)) rfl rfl rfl ?_
                  rintro v5 h5 ⟨ho5, hx5, hl5⟩))
  all_goals (first | (refine Br.keep ?_) | (refine WL.step (ok_assign rfl) rfl rfl rfl ?_))
  all_goals (first | (refine Br.keep ?_) | (refine WL.nil ?_))
  all_goals (first | (refine Br.keep ?_) | (repeat' (with_reducible first | refine thenP_n ?_ | refine blockP_n ?_)))
  all_goals (first | (refine Br.keep ?_) | (exact ⟨(_, ds ++ [p]), ⟨rfl, rfl, rfl, rfl, trivial⟩, (by exact ⟨hit3.ext ((hx4.mono fun _ _ e => e.elim).trans hx5) (fun e => by have := hf2 _ e; omega) (fun e => by have := hf2 _ e; omega), by simpa using ho5, (hx2.trans (hx3.trans' hx4 fun _ _ e => e.elim)).trans' hx5 (fun q hq e => by have := hf2 q e; omega), fresh_of hl5 hf2 (by have := hx3.size; have := hx4.size; omega)⟩), (by have hd3 := sub_len hit3.nd hit3.sub; rw [enc_len] at hd3; simp at hd3 ⊢; omega)⟩))
  all_goals (try (refine Br.mk (i := 1000) ?_))
  all_goals (repeat' (with_reducible first | refine thenP_n ?_ | refine blockP_n ?_))
  all_goals (refine WC.seq ?_)
  all_goals (refine WC.region ?_)
  all_goals (refine WL.step (ok_move rfl) rfl rfl rfl ?_)
  all_goals (refine WL.call (vs := [_]) rfl (fun a w => Try.call41 a w) rfl (sort_str (ds.map (·.1)) ho2 (by omega)) rfl rfl rfl ?_
             rintro _ h4 ⟨rfl, ho4, hx4⟩)
  all_goals (have hpk : (ds.map (·.1)).Perm (L.map (·.1)) := by have := (hperm.map (·.1)).trans (.of_eq (enc_keys In E)); exact this.trans (hp.map _)
             have hdl2 : (ds.map (·.1)).length = L.length := by rw [hpk.length_eq, List.length_map]
             rw [srtS_rise hri hpk] at ho4
             rw [hdl2] at ho4
             obtain ⟨A2, c2, rfl, _⟩ := ho4.slice
             have hX4 : Ext No h h4 := (hx1.trans' hx2 (fun q hq e => by omega)).trans' hx4 (fun q hq e => by have := hf2 q e; omega)
             have hf4 : ∀ q, A2 = some ⟨q, 0, none⟩ → h1.size ≤ q := fun q e => hf2 q (by rw [e]; rfl)
             have hs4 := hX4.size
             have hJ4 : J 0 x0 h4 := hst 0 x0 h h4 No hJ0 hX4 (fun _ e => e.elim)
             have hol : ∀ b' o', A2 = some ⟨b', o', none⟩ → True := fun _ _ _ => trivial)
  all_goals (refine WL.nil ?_)
  all_goals (repeat' (with_reducible first | refine thenP_n ?_ | refine blockP_n ?_))
  all_goals (refine WC.sub [(0, _), (1, _), (3, _)] ⟨rfl, rfl, rfl, trivial⟩ ?_)
  all_goals (refine WC.seq ?_)
  all_goals (refine WC.region ?_)
  all_goals (refine WL.step (ok_move rfl) rfl rfl rfl ?_)
  all_goals (refine WL.step (ok_lenL rfl Try.underlying80 rfl) rfl rfl rfl ?_)
  all_goals (refine WL.step (ok_move rfl) rfl rfl rfl ?_)
  all_goals (refine WL.nil ?_)
  all_goals (repeat' (with_reducible first | refine thenP_n ?_ | refine blockP_n ?_))
  all_goals (refine WC.block ?_)
  -- loop 1: slots that turn [27], that stay [0, 1, 25, 26]
  all_goals (refine WC.loopG (X := Nat × X) (fun x => ([(27, In (x.1 : Int))] : Fr)) [(0, _), (1, _), (25, _), (26, _)] (fun x h' => J x.1 x.2 h' ∧ x.1 ≤ L.length ∧ Own h' (.slice A2 L.length c2) 9 1 L.length ((L.map (·.1)).map St) ∧ Tb h' b m most (encE In E) ∧ h'[bx]? = some (.cells ⟨[.pointer (some ⟨b, 0, none⟩)]⟩ 24 (0, 0)) ∧ (∀ q, (.slice A2 L.length c2 : Value).ownBlock = some q → q ≠ l ∧ ¬ own x.2 q)) (fun x => L.length - x.1) ((0, x0)) ⟨rfl, rfl, rfl, rfl, rfl, trivial⟩ (by exact ⟨hJ4, Nat.zero_le _, ho4, t0.ext hX4 nos nos, hX4.obj hbx nos, fun q hq => ⟨fun e => by have := hf2 q hq; omega, fun e => by have := (hown _ _ _ hJ0 q e).1; have := hf2 q hq; omega⟩⟩) ?_)
  all_goals (rintro ⟨k, x⟩ h5 ⟨hJ5, hk, ho5, t5, hbx5, hfr5⟩
             dsimp only at hJ5 hk ho5 hfr5)
  all_goals (refine WC.sub [(27, _), (0, _), (1, _), (25, _), (26, _)] ⟨rfl, rfl, rfl, rfl, rfl, trivial⟩ ?_)
  all_goals (dsimp only)
  all_goals (refine WC.seq ?_)
  all_goals (refine WC.region ?_)
  all_goals (first | (refine WL.step (OkP.bool_t (by omega) (ok_lss rfl rfl)) rfl rfl rfl ?_) | (refine WL.step (OkP.bool_f (by omega) (ok_lss rfl rfl)) rfl rfl rfl ?_) | (refine WL.step (ok_lss rfl rfl) rfl rfl rfl ?_))
  all_goals (refine WL.nil ?_)
  all_goals (repeat' (with_reducible first | refine thenP_n ?_ | refine blockP_n ?_))
  all_goals (refine WC.seq ?_)
  all_goals (first | refine WC.condB_t 5 rfl ?_ | refine WC.condB_f 6 rfl ?_ | (refine WC.condB 5 6 rfl (fun hb => ?_) (fun hb => ?_) <;> (first | replace hb := of_decide_eq_true hb | replace hb := of_decide_eq_false hb | replace hb := of_decide_eq_false (nt hb) | replace hb := of_decide_eq_true (nf hb) | skip)))
  all_goals (first
    | (fail_if_success (refine Br.mk (i := 5) ?_))
    | (refine Br.mk (i := 5) ?_
       all_goals (refine WC.skip ?_)
       skip))
  all_goals (first
    | (fail_if_success (refine Br.mk (i := 6) ?_))
    | (refine Br.mk (i := 6) ?_
       all_goals (refine WC.exit ?_)
       all_goals (repeat' (with_reducible first | refine thenP_x ?_ | refine blockP_miss rfl ?_ | refine blockP_hit ?_ | refine blockP_n ?_ | refine thenP_n ?_))
       all_goals (refine Br.out (i := 1002) ?_)
       skip))
  all_goals (first | (refine Br.keep ?_) | (repeat' (with_reducible first | refine thenP_n ?_ | refine blockP_n ?_)))
  all_goals (first | (refine Br.keep ?_) | (refine WC.seq ?_))
  all_goals (first | (refine Br.keep ?_) | (refine WC.block ?_))
  all_goals (first | (refine Br.keep ?_) | (refine WC.seq ?_))
  all_goals (first | (refine Br.keep ?_) | (refine WC.region ?_))
  all_goals (first
               | (refine Br.keep ?_)
               | (obtain ⟨bL, oL, hA, hbL, hat⟩ := Rd.at_ ho5.rd (by omega)
                  obtain ⟨⟨nm, id⟩, hy⟩ : ∃ y, L[k]? = some y := ⟨_, List.getElem?_eq_getElem (by omega)⟩
                  have hcd : cell h5 ⟨bL, oL + k * 1, none⟩ = some (St nm) := by rw [Nat.mul_one]; exact hat.one (j := k) (by simp [hy])))
  all_goals (first | (refine Br.keep ?_) | (refine WL.step (ok_idxAddrA Try.underlying80 (fun w => Try.sizeOf9 w) rfl rfl rfl (by omega) (by first | rfl | assumption)) rfl rfl rfl ?_))
  all_goals (first | (refine Br.keep ?_) | (refine WL.step (ok_load (fun w => Try.isAgg9 w) rfl (by first | exact hcd | assumption | exact cell_blk (by assumption) rfl)) rfl rfl rfl ?_))
  all_goals (first | (refine Br.keep ?_) | (refine WL.step (ok_assign rfl) rfl rfl rfl ?_))
  all_goals (first | (refine Br.keep ?_) | (refine WL.nil ?_))
  all_goals (first | (refine Br.keep ?_) | (repeat' (with_reducible first | refine thenP_n ?_ | refine blockP_n ?_)))
  all_goals (first | (refine Br.keep ?_) | (refine WC.seq ?_))
  all_goals (first | (refine Br.keep ?_) | (refine WC.regionY ?_))
  all_goals (first | (refine Br.keep ?_) | (refine WY.step (ok_move rfl) rfl rfl rfl ?_))
  all_goals (first | (refine Br.keep ?_) | (refine WY.step (ok_move rfl) rfl rfl rfl ?_))
  all_goals (first | (refine Br.keep ?_) | (refine WY.step (ok_load (fun w => Try.isAgg24 w) rfl (by first | exact cell_blk hbx5 rfl | assumption | exact cell_blk (by assumption) rfl)) rfl rfl rfl ?_))
  all_goals (first | (refine Br.keep ?_) | (refine WY.step (ok_nilCheck rfl) rfl rfl rfl ?_))
  all_goals (first | (refine Br.keep ?_) | (refine WY.step (ok_fieldAddr rfl Try.underlying41 rfl (fun w => Try.sizeOf39 w)) rfl rfl rfl ?_))
  all_goals (first | (refine Br.keep ?_) | (refine WY.step (ok_load (fun w => Try.isAgg39 w) rfl (by first | exact cell_blk t5.cells rfl | assumption | exact cell_blk (by assumption) rfl)) rfl rfl rfl ?_))
  all_goals (first | (refine Br.keep ?_) | (refine WY.step (ok_move rfl) rfl rfl rfl ?_))
  all_goals (first | (refine Br.keep ?_) | (first | (refine WY.step ((ok_lookup keyS Try.underlying39 Try.underlying9 rfl rfl t5.map (by rw [alook_enc, getL_perm hp hri.nd, getL_of hri.nd (List.mem_of_getElem? hy)]; rfl)).2) rfl rfl rfl ?_) | (refine WY.step ((ok_lookup_no keyS Try.underlying39 Try.underlying9 (fun w => Try.zeroValue3 w) rfl rfl t5.map (by rw [alook_enc, getL_perm hp hri.nd, getL_of hri.nd (List.mem_of_getElem? hy)]; rfl)).2) rfl rfl rfl ?_) | (refine WY.step ((ok_lookup_nil keyS Try.underlying39 Try.underlying9 (fun w => Try.zeroValue3 w) rfl rfl).2) rfl rfl rfl ?_)))
  all_goals (first
               | (refine Br.keep ?_)
               | (refine WY.yield (vs := [_, _]) rfl rfl rfl (hY k x h5 (nm, id) hJ5 hy) rfl rfl rfl ?_
                  rintro _ h6 ⟨x', hx6, hox, (⟨rfl, hJ6⟩ | ⟨rfl, hJx6⟩)⟩))
  all_goals (first | (refine Br.keep ?_) | (try (have ho6 := ho5.ext hx6 (fun q hq e => e.elim (hfr5 q hq).2 (hfr5 q hq).1); have n1 : ∀ q, (q = b ∨ q = m ∨ q = bx) → ¬ (own x q ∨ q = l) := (fun q hq e => e.elim (fun e => (hown _ _ _ hJ5 q e).2 hq) (fun e => hlr (e ▸ hq))); have t6 := t5.ext hx6 (n1 b (.inl rfl)) (n1 m (.inr (.inl rfl))); have hbx6 := hx6.obj hbx5 (n1 bx (.inr (.inr rfl))); have hfr6 : ∀ q, (.slice A2 L.length c2 : Value).ownBlock = some q → q ≠ l ∧ ¬ own x' q := (fun q hq => ⟨(hfr5 q hq).1, fun e => (hox q e).elim (hfr5 q hq).2 (fun e => by have := ho5.lt hq; omega)⟩))))
  all_goals (first | (refine Br.keep ?_) | (refine WY.step (ok_not rfl) rfl rfl rfl ?_))
  all_goals (first | (refine Br.keep ?_) | (refine WY.nil ?_))
  all_goals (first | (refine Br.keep ?_) | (repeat' (with_reducible first | refine thenP_n ?_ | refine blockP_n ?_)))
  all_goals (first | (refine Br.keep ?_) | (refine WC.sub [(0, _), (1, _), (25, _), (26, _), (27, _), (40, _)] ⟨rfl, rfl, rfl, rfl, rfl, rfl, trivial⟩ ?_))
  all_goals (first | (refine Br.keep ?_) | (first | refine WC.condB_t 7 rfl ?_ | refine WC.condB_f 8 rfl ?_ | (refine WC.condB 7 8 rfl (fun hb => ?_) (fun hb => ?_) <;> (first | replace hb := of_decide_eq_true hb | replace hb := of_decide_eq_false hb | replace hb := of_decide_eq_false (nt hb) | replace hb := of_decide_eq_true (nf hb) | skip))))
  all_goals (first
    | (fail_if_success (refine Br.mk (i := 7) ?_))
    | (refine Br.mk (i := 7) ?_
       all_goals (refine WC.ret ?_)
       all_goals (repeat' (with_reducible first | refine thenP_r ?_ | refine blockP_r ?_))
       all_goals (refine retP_0 trivial ?_)
       all_goals (exact ⟨x', .inr hJx6⟩)
       skip))
  all_goals (first
    | (fail_if_success (refine Br.mk (i := 8) ?_))
    | (refine Br.mk (i := 8) ?_
       all_goals (refine WC.skip ?_)
       skip))
  all_goals (first | (refine Br.keep ?_) | (repeat' (with_reducible first | refine thenP_n ?_ | refine blockP_n ?_)))
  all_goals (first | (refine Br.keep ?_) | (refine WC.region ?_))
  all_goals (first | (refine Br.keep ?_) | (first | (refine WL.step (ok_addI rfl rfl (by omega)) rfl rfl rfl ?_) | (refine WL.step (ok_add rfl rfl) rfl rfl rfl ?_)))
  all_goals (first | (refine Br.keep ?_) | (refine WL.step (ok_move rfl) rfl rfl rfl ?_))
  all_goals (first | (refine Br.keep ?_) | (refine WL.nil ?_))
  all_goals (first | (refine Br.keep ?_) | (repeat' (with_reducible first | refine thenP_n ?_ | refine blockP_n ?_)))
  all_goals (first | (refine Br.keep ?_) | (exact ⟨(k + 1, x'), ⟨rfl, rfl, rfl, rfl, rfl, trivial⟩, (by exact ⟨hJ6, by omega, ho6, t6, hbx6, hfr6⟩), (by simp; omega)⟩))
  all_goals (try (refine Br.mk (i := 1002) ?_))
  all_goals (repeat' (with_reducible first | refine thenP_n ?_ | refine blockP_n ?_))
  all_goals (refine retP_n [] trivial ?_)
  all_goals (exact ⟨x, .inl ((show k = L.length by omega) ▸ hJ5)⟩)
end Go.Proofs.Ytkpgnhhidnkmcaa

