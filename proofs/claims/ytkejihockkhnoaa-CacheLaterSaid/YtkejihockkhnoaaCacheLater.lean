/-
  CacheLater holds: a cache is seen as it is, once all has come about, as long as there is room.
-/
import Derived.Test.YtkejihockkhnoaaCache3
import Derived.Test.YtkejihockkhnoaaRows
namespace Go.Proofs.Ytkejihockkhnoaa
open Go Go.RK

theorem later_snoc {l : List Int} {L : List En} {k : Nat} {y : En} (hy : L[k]? = some y) : laterL l (L.take (k + 1)) = foldL (laterL l (L.take k)) y.ops := foldl_take _ _ _ hy
set_option maxRecDepth 100000 in
theorem later18 {h : Heap} {v w : Value} (f : List COp) (L : List En) (hf : Ops h v f) (hL : Ens h w L) :
    CallsH Try.prog 4 ⟨[v, w]⟩ h fun u h' => u = .bool true ∧ Ext No h h' := by
  obtain ⟨A, c, rfl, _⟩ := id hf.1
  obtain ⟨B, d, rfl, _⟩ := id hL.1
  have hfm := hf.2
  unfold reachBytes at hfm
  refine calls [(0, _), (1, _)] Try.func4 rfl Try.ntmps4 rfl ⟨rfl, rfl, trivial⟩ ?_
  all_goals (refine WC.seq ?_)
  all_goals (refine WC.region ?_)
  all_goals (refine WL.step (ok_assign rfl) rfl rfl rfl ?_)
  all_goals (refine WL.nil ?_)
  all_goals (repeat' (with_reducible first | refine thenP_n ?_ | refine blockP_n ?_))
  all_goals (refine WC.seq ?_)
  all_goals (refine WC.seq ?_)
  all_goals (refine WC.region ?_)
  all_goals (refine WL.step (ok_move rfl) rfl rfl rfl ?_)
  all_goals (refine WL.step (ok_lenL rfl Try.underlying40 rfl) rfl rfl rfl ?_)
  all_goals (first | (refine WL.step (OkP.bool_t (by omega) (ok_gtr rfl rfl)) rfl rfl rfl ?_) | (refine WL.step (OkP.bool_f (by omega) (ok_gtr rfl rfl)) rfl rfl rfl ?_) | (refine WL.step (ok_gtr rfl rfl) rfl rfl rfl ?_))
  all_goals (refine WL.step (ok_move rfl) rfl rfl rfl ?_)
  all_goals (try ((fail_if_success (refine WL.part 13 (b := true) rfl (fun _ => ?_) (fun _ => ?_))); (fail_if_success (refine WL.part 13 (b := false) rfl (fun _ => ?_) (fun _ => ?_))); (refine WL.part 13 rfl (fun hb => ?_) (fun hb => ?_) <;> (first | replace hb := of_decide_eq_true hb | replace hb := of_decide_eq_false hb | replace hb := of_decide_eq_false (nt hb) | replace hb := of_decide_eq_true (nf hb) | skip))))
  all_goals (first | (refine WL.pass rfl rfl rfl ?_) | (refine WL.step (ok_move rfl) rfl rfl rfl ?_))
  all_goals (first
               | (refine WL.pass rfl rfl rfl ?_)
               | (refine WL.call (vs := [_, _]) rfl (fun a w => Try.call21 a w) rfl (entries_any L 20 hL) rfl rfl rfl ?_
                  rintro _ h1 ⟨rfl, hx1⟩))
  all_goals (cases hfe : fewE L 20)
  all_goals (first | (refine WL.pass rfl rfl rfl ?_) | (refine WL.step (ok_not rfl) rfl rfl rfl ?_))
  all_goals (first | (refine WL.step (ok_pick_t rfl rfl) rfl rfl rfl ?_) | (refine WL.step (ok_pick_f rfl rfl) rfl rfl rfl ?_))
  all_goals (refine WL.nil ?_)
  all_goals (repeat' (with_reducible first | refine thenP_n ?_ | refine blockP_n ?_))
  all_goals (refine WC.sub [(0, _), (1, _), (17, _)] ⟨rfl, rfl, rfl, trivial⟩ ?_)
  all_goals (first | refine WC.condB_t 1 rfl ?_ | refine WC.condB_f 2 rfl ?_ | (refine WC.condB 1 2 rfl (fun hb => ?_) (fun hb => ?_) <;> (first | replace hb := of_decide_eq_true hb | replace hb := of_decide_eq_false hb | replace hb := of_decide_eq_false (nt hb) | replace hb := of_decide_eq_true (nf hb) | skip)))
  all_goals (first
    | (fail_if_success (refine Br.mk (i := 1) ?_))
    | (refine Br.mk (i := 1) ?_
       all_goals (refine WC.seq ?_)
       all_goals (refine WC.region ?_)
       all_goals (refine WL.call (vs := []) rfl (fun a w => Try.call22 a w) rfl (awake18) rfl rfl rfl ?_
                  rintro _ h9 ⟨rfl, hx9⟩)
       all_goals (refine WL.step (ok_assign rfl) rfl rfl rfl ?_)
       all_goals (refine WL.nil ?_)
       all_goals (repeat' (with_reducible first | refine thenP_n ?_ | refine blockP_n ?_))
       all_goals (refine WC.sub [(4, _)] ⟨rfl, trivial⟩ ?_)
       all_goals (refine WC.ret ?_)
       all_goals (repeat' (with_reducible first | refine thenP_r ?_ | refine blockP_r ?_))
       all_goals (refine retP_1 _ ⟨rfl, trivial⟩ ?_)
       all_goals (first | exact ⟨rfl, (hX5.trans hx9).trans hx10⟩ | exact ⟨rfl, hx1.trans hx9⟩ | exact ⟨rfl, hx9⟩)
       skip))
  all_goals (first
    | (fail_if_success (refine Br.mk (i := 2) ?_))
    | (refine Br.mk (i := 2) ?_
       all_goals (refine WC.skip ?_)
       skip))
  all_goals (repeat' (with_reducible first | refine thenP_n ?_ | refine blockP_n ?_))
  all_goals (refine WC.seq ?_)
  all_goals (refine WC.region ?_)
  all_goals (obtain ⟨h20, h10⟩ := fewE_ops hfe)
  all_goals (refine WL.call (vs := [_]) rfl (fun a w => Try.call23 a w) rfl (new_cc 4096 (by decide) (by decide)) rfl rfl rfl ?_
             rintro _ h2 ⟨b0, b, rfl, r2, hg0, hgb, hx2⟩)
  all_goals (have hX2 := hx1.trans hx2
             have hs1 := hx1.size
             have fa2 : ∀ q, Ft b (.slice none 0 0) q → h.size ≤ q := (by rintro q (rfl | e); omega; cases e)
             have e3 := settle_fold (most := 4096) f (l := []) (by simp; omega)
             have l3 := fold_len f []
             have n3 := (settle_ok (most := 4096) f (l := []) (by simp) (by simp)).1
             rw [e3] at n3
             simp only [List.length_nil, Nat.zero_add] at l3)
  all_goals (refine WL.step (ok_move rfl) rfl rfl rfl ?_)
  all_goals (refine WL.step (ok_extract rfl rfl) rfl rfl rfl ?_)
  all_goals (refine WL.step (ok_extract rfl rfl) rfl rfl rfl ?_)
  all_goals (refine WL.step (ok_assign rfl) rfl rfl rfl ?_)
  all_goals (refine WL.step (ok_assign rfl) rfl rfl rfl ?_)
  all_goals (refine WL.nil ?_)
  all_goals (repeat' (with_reducible first | refine thenP_n ?_ | refine blockP_n ?_))
  all_goals (refine WC.sub [(0, _), (1, _), (5, _), (6, _)] ⟨rfl, rfl, rfl, rfl, trivial⟩ ?_)
  all_goals (refine WC.seq ?_)
  all_goals (refine WC.seq ?_)
  all_goals (refine WC.region ?_)
  all_goals (refine WL.step (ok_move rfl) rfl rfl rfl ?_)
  all_goals (refine WL.step (ok_eqlPn Try.underlying42 rfl rfl) rfl rfl rfl ?_)
  all_goals (refine WL.step (ok_move rfl) rfl rfl rfl ?_)
  all_goals (try ((fail_if_success (refine WL.part 25 (b := true) rfl (fun _ => ?_) (fun _ => ?_))); (fail_if_success (refine WL.part 25 (b := false) rfl (fun _ => ?_) (fun _ => ?_))); (refine WL.part 25 rfl (fun hb => ?_) (fun hb => ?_) <;> (first | replace hb := of_decide_eq_true hb | replace hb := of_decide_eq_false hb | replace hb := of_decide_eq_false (nt hb) | replace hb := of_decide_eq_true (nf hb) | skip))))
  all_goals (first | (refine WL.pass rfl rfl rfl ?_) | (refine WL.step (ok_move rfl) rfl rfl rfl ?_))
  all_goals (first | (refine WL.pass rfl rfl rfl ?_) | (first | (refine WL.step (OkP.nbool_t (by omega) (ok_neq rfl rfl)) rfl rfl rfl ?_) | (refine WL.step (OkP.nbool_f (by omega) (ok_neq rfl rfl)) rfl rfl rfl ?_) | (refine WL.step (ok_neq rfl rfl) rfl rfl rfl ?_)))
  all_goals (first | (refine WL.step (ok_pick_t rfl rfl) rfl rfl rfl ?_) | (refine WL.step (ok_pick_f rfl rfl) rfl rfl rfl ?_))
  all_goals (refine WL.nil ?_)
  all_goals (repeat' (with_reducible first | refine thenP_n ?_ | refine blockP_n ?_))
  all_goals (refine WC.sub [(0, _), (1, _), (5, _), (28, _)] ⟨rfl, rfl, rfl, rfl, trivial⟩ ?_)
  all_goals (first | refine WC.condB_t 3 rfl ?_ | refine WC.condB_f 4 rfl ?_ | (refine WC.condB 3 4 rfl (fun hb => ?_) (fun hb => ?_) <;> (first | replace hb := of_decide_eq_true hb | replace hb := of_decide_eq_false hb | replace hb := of_decide_eq_false (nt hb) | replace hb := of_decide_eq_true (nf hb) | skip)))
  all_goals (first
    | (fail_if_success (refine Br.mk (i := 3) ?_))
    | (refine Br.mk (i := 3) ?_
       all_goals (refine WC.seq ?_)
       all_goals (refine WC.region ?_)
       all_goals (refine WL.step (ok_assign rfl) rfl rfl rfl ?_)
       all_goals (refine WL.nil ?_)
       all_goals (repeat' (with_reducible first | refine thenP_n ?_ | refine blockP_n ?_))
       all_goals (refine WC.sub [(4, _)] ⟨rfl, trivial⟩ ?_)
       all_goals (refine WC.ret ?_)
       all_goals (repeat' (with_reducible first | refine thenP_r ?_ | refine blockP_r ?_))
       all_goals (refine retP_1 _ ⟨rfl, trivial⟩ ?_)
       all_goals (first | exact ⟨rfl, (hX5.trans hx9).trans hx10⟩ | exact ⟨rfl, hx1.trans hx9⟩ | exact ⟨rfl, hx9⟩)
       skip))
  all_goals (first
    | (fail_if_success (refine Br.mk (i := 4) ?_))
    | (refine Br.mk (i := 4) ?_
       all_goals (refine WC.skip ?_)
       skip))
  all_goals (repeat' (with_reducible first | refine thenP_n ?_ | refine blockP_n ?_))
  all_goals (refine WC.seq ?_)
  all_goals (refine WC.region ?_)
  all_goals (refine WL.step (ok_move rfl) rfl rfl rfl ?_)
  all_goals (refine WL.step (ok_move rfl) rfl rfl rfl ?_)
  all_goals (refine WL.call (vs := [_, _]) rfl (fun a w => Try.call24 a w) rfl (settle_cc r2 f (hf.ext0 hX2) (fun q hn hq e => by have := hf.1.lt hn hq; have := fa2 q e; omega) (by simp) (by simp) (by decide) (by decide)) rfl rfl rfl ?_
             rintro v3 h3 ⟨⟨v3', r3, hx3, hk3⟩, _, _⟩)
  all_goals (rw [e3] at r3
             have hX3 := hX2.trans' hx3 (fun q hq e => by have := fa2 q e; omega)
             have fa3 : ∀ q, Ft b v3' q → h.size ≤ q := (by rintro q (rfl | e); omega; rcases hk3 q e with e | e; cases e; have := hX2.size; omega))
  all_goals (refine WL.nil ?_)
  all_goals (repeat' (with_reducible first | refine thenP_n ?_ | refine blockP_n ?_))
  all_goals (refine WC.sub [(1, _), (5, _)] ⟨rfl, rfl, trivial⟩ ?_)
  all_goals (refine WC.seq ?_)
  all_goals (refine WC.region ?_)
  all_goals (refine WL.step (ok_move rfl) rfl rfl rfl ?_)
  all_goals (refine WL.step (ok_move rfl) rfl rfl rfl ?_)
  all_goals (refine WL.call (vs := [_, _]) rfl (fun a w => Try.call25 a w) rfl (spec_cc r3 L (hL.ext0 hX3) (by omega) h20 h10) rfl rfl rfl ?_
             rintro v4 h4 ⟨ho4, hx4, hf4⟩)
  all_goals (have r4 := r3.ext0 hx4
             have hlt4 : ∀ q, v4.ownBlock = some q → q < h4.size := fun q hq => ho4.lt hq
             have hb0 := r3.lru.lt)
  all_goals (refine WL.step (ok_assign rfl) rfl rfl rfl ?_)
  all_goals (refine WL.nil ?_)
  all_goals (repeat' (with_reducible first | refine thenP_n ?_ | refine blockP_n ?_))
  all_goals (refine WC.seq ?_)
  all_goals (refine WC.seq ?_)
  all_goals (refine WC.region ?_)
  all_goals (refine WL.step (ok_move rfl) rfl rfl rfl ?_)
  all_goals (refine WL.step (ok_lenL rfl Try.underlying27 rfl) rfl rfl rfl ?_)
  all_goals (refine WL.step (ok_move rfl) rfl rfl rfl ?_)
  all_goals (refine WL.nil ?_)
  all_goals (repeat' (with_reducible first | refine thenP_n ?_ | refine blockP_n ?_))
  all_goals (refine WC.sub [(5, _), (7, _), (35, _), (36, _), (37, _)] ⟨rfl, rfl, rfl, rfl, rfl, trivial⟩ ?_)
  all_goals (refine WC.block ?_)
  -- loop 0: slots that turn [37], that stay [5, 7, 35, 36]
  all_goals (refine WC.loopG (X := Nat) (fun x => ([(37, In (x : Int))] : Fr)) [(5, _), (7, _), (35, _), (36, _)] (fun k h' => k ≤ L.length ∧ (laterL (foldL [] f) (L.take k)).Nodup ∧ ∃ v', Cc h' b0 b v' 4096 (laterL (foldL [] f) (L.take k)) ∧ Ext (Ft b v3') h4 h' ∧ Kin h4 v3' v') (fun k => L.length - k) (0) ⟨rfl, rfl, rfl, rfl, rfl, trivial⟩ (by exact ⟨Nat.zero_le _, n3, v3', r4, .refl _ _, fun q hq => .inl hq⟩) ?_)
  all_goals (rintro k h5 ⟨hk, hn5, v5, r5, hx5, hk5⟩
             have hle := later_len (L.take k) (foldL [] f) (fun e he => h10 e (List.mem_of_mem_take he))
             rw [List.length_take] at hle
             have hX5 := (hX3.trans hx4).trans' hx5 (fun q hq e => by have := fa3 q e; omega)
             have s5 := hx5.size
             have s4 := hx4.size
             have s3 := hX3.size
             have fa5 : ∀ q, Ft b v5 q → h.size ≤ q := (by rintro q (rfl | e); omega; rcases hk5 q e with e | e; exact fa3 q (.inr e); omega))
  all_goals (refine WC.sub [(37, _), (5, _), (7, _), (35, _), (36, _)] ⟨rfl, rfl, rfl, rfl, rfl, trivial⟩ ?_)
  all_goals (refine WC.seq ?_)
  all_goals (refine WC.region ?_)
  all_goals (first | (refine WL.step (OkP.bool_t (by omega) (ok_lss rfl rfl)) rfl rfl rfl ?_) | (refine WL.step (OkP.bool_f (by omega) (ok_lss rfl rfl)) rfl rfl rfl ?_) | (refine WL.step (ok_lss rfl rfl) rfl rfl rfl ?_))
  all_goals (refine WL.nil ?_)
  all_goals (repeat' (with_reducible first | refine thenP_n ?_ | refine blockP_n ?_))
  all_goals (refine WC.seq ?_)
  all_goals (first | refine WC.condB_t 5 rfl ?_ | refine WC.condB_f 6 rfl ?_ | (refine WC.condB 5 6 rfl (fun hb => ?_) (fun hb => ?_) <;> (first | replace hb := of_decide_eq_true hb | replace hb := of_decide_eq_false hb | replace hb := of_decide_eq_false (nt hb) | replace hb := of_decide_eq_true (nf hb) | skip)))
  all_goals (first
    | (fail_if_success (refine Br.mk (i := 5) ?_))
    | (refine Br.mk (i := 5) ?_
       all_goals (refine WC.skip ?_)
       skip))
  all_goals (first
    | (fail_if_success (refine Br.mk (i := 6) ?_))
    | (refine Br.mk (i := 6) ?_
       all_goals (refine WC.exit ?_)
       all_goals (repeat' (with_reducible first | refine thenP_x ?_ | refine blockP_miss rfl ?_ | refine blockP_hit ?_ | refine blockP_n ?_ | refine thenP_n ?_))
       all_goals (refine Br.out (i := 1000) ?_)
       skip))
  all_goals (first | (refine Br.keep ?_) | (repeat' (with_reducible first | refine thenP_n ?_ | refine blockP_n ?_)))
  all_goals (first | (refine Br.keep ?_) | (refine WC.seq ?_))
  all_goals (first | (refine Br.keep ?_) | (refine WC.block ?_))
  all_goals (first | (refine Br.keep ?_) | (refine WC.seq ?_))
  all_goals (first | (refine Br.keep ?_) | (refine WC.region ?_))
  all_goals (first
               | (refine Br.keep ?_)
               | (obtain ⟨bL, oL, hA, hbL, hat⟩ := Rd.at_ (hL.1.ext0 hX5) (by omega)
                  obtain ⟨y, hy⟩ : ∃ y, L[k]? = some y := ⟨_, List.getElem?_eq_getElem (by omega)⟩
                  have hc : At h5 bL (oL + k * 8) y.cells := At.elem En.len hat hy
                  have hy10 := h10 y (List.mem_of_getElem? hy)
                  have hyo := (hL.2.2 y (List.mem_of_getElem? hy)).ops
                  have e7 := settle_fold (most := 4096) y.ops (l := laterL (foldL [] f) (L.take k)) (by omega)))
  all_goals (first | (refine Br.keep ?_) | (refine WL.step (ok_idxAddrA Try.underlying27 (fun w => Try.sizeOf51 w) rfl rfl rfl (by omega) (by first | rfl | assumption)) rfl rfl rfl ?_))
  all_goals (first | (refine Br.keep ?_) | (refine WL.step (ok_loadN (fun w => Try.isAgg51 w) (fun w => Try.sizeOf51 w) rfl rfl (by assumption)) rfl rfl rfl ?_))
  all_goals (first
               | (refine Br.keep ?_)
               | (refine WL.stepR (okE_alloc (fun w => Try.zeroValue51 w)) rfl rfl rfl ?_
                  rintro _ h6 ⟨b6, rfl, hg6, hb6, hx6⟩))
  all_goals (first
               | (refine Br.keep ?_)
               | (refine WL.stepR0 (okE_storeW (fun w => Try.sizeOf51 w) rfl rfl rfl (by assumption) rfl (hL.2.2 y (List.mem_of_getElem? hy)).one) rfl rfl ?_
                  rintro _ h7 ⟨hb7, hx7⟩))
  all_goals (first | (refine Br.keep ?_) | (have hX7 := hx6.trans' hx7 (fun q hq e => by omega)))
  all_goals (first | (refine Br.keep ?_) | (refine WL.nil ?_))
  all_goals (first | (refine Br.keep ?_) | (repeat' (with_reducible first | refine thenP_n ?_ | refine blockP_n ?_)))
  all_goals (first | (refine Br.keep ?_) | (refine WC.region ?_))
  all_goals (first | (refine Br.keep ?_) | (refine WL.step (ok_move rfl) rfl rfl rfl ?_))
  all_goals (first | (refine Br.keep ?_) | (refine WL.step (ok_fieldAddr rfl Try.underlying51 rfl (fun w => Try.sizeOf40 w)) rfl rfl rfl ?_))
  all_goals (first | (refine Br.keep ?_) | (refine WL.step (ok_load (fun w => Try.isAgg40 w) rfl (by first | assumption | exact cell_blk (by assumption) rfl)) rfl rfl rfl ?_))
  all_goals (first
               | (refine Br.keep ?_)
               | (refine WL.call (vs := [_, _]) rfl (fun a w => Try.call24 a w) rfl (settle_cc (r5.ext0 hX7) y.ops (hyo.ext0 (hX5.trans hX7)) (fun q hn hq e => by have := hyo.1.lt hn hq; have := fa5 q e; omega) hn5 (by omega) (by decide) (by decide)) rfl rfl rfl ?_
                  rintro v8 h8 ⟨⟨v8', r8, hx8, hk8⟩, _, _⟩))
  all_goals (first
               | (refine Br.keep ?_)
               | (rw [e7, ← later_snoc hy] at r8
                  have n8 := (settle_ok (most := 4096) y.ops hn5 (by omega)).1
                  rw [e7, ← later_snoc hy] at n8
                  have s7 := hX7.size))
  all_goals (first | (refine Br.keep ?_) | (refine WL.nil ?_))
  all_goals (first | (refine Br.keep ?_) | (repeat' (with_reducible first | refine thenP_n ?_ | refine blockP_n ?_)))
  all_goals (first | (refine Br.keep ?_) | (refine WC.sub [(5, _), (7, _), (35, _), (36, _), (37, _)] ⟨rfl, rfl, rfl, rfl, rfl, trivial⟩ ?_))
  all_goals (first | (refine Br.keep ?_) | (refine WC.region ?_))
  all_goals (first | (refine Br.keep ?_) | (first | (refine WL.step (ok_addI rfl rfl (by omega)) rfl rfl rfl ?_) | (refine WL.step (ok_add rfl rfl) rfl rfl rfl ?_)))
  all_goals (first | (refine Br.keep ?_) | (refine WL.step (ok_move rfl) rfl rfl rfl ?_))
  all_goals (first | (refine Br.keep ?_) | (refine WL.nil ?_))
  all_goals (first | (refine Br.keep ?_) | (repeat' (with_reducible first | refine thenP_n ?_ | refine blockP_n ?_)))
  all_goals (first | (refine Br.keep ?_) | (exact ⟨k + 1, ⟨rfl, rfl, rfl, rfl, rfl, trivial⟩, (by exact ⟨by omega, n8, v8', r8, (hx5.trans (hX7.mono fun _ _ e => e.elim)).trans' hx8 (fun q hq e => by rcases e with e | e; exact .inl e; rcases hk5 q e with e | e; exact .inr e; omega), fun q hq => by rcases hk8 q hq with e | e; exact hk5 q e; exact .inr (by omega)⟩), (by omega)⟩))
  all_goals (try (refine Br.mk (i := 1000) ?_))
  all_goals (repeat' (with_reducible first | refine thenP_n ?_ | refine blockP_n ?_))
  all_goals (refine WC.sub [(5, _), (7, _)] ⟨rfl, rfl, trivial⟩ ?_)
  all_goals (refine WC.seq ?_)
  all_goals (refine WC.region ?_)
  all_goals (rw [show L.take k = L from List.take_of_length_le (by omega)] at r5 hle
             have ho5 := ho4.ext hx5 (fun q hq e => by have := hf4 q hq; have := hb0 q e; omega))
  all_goals (refine WL.step (ok_move rfl) rfl rfl rfl ?_)
  all_goals (refine WL.call (vs := [_]) rfl (fun a w => Try.call27 a w) rfl (list_cc r5 (by omega)) rfl rfl rfl ?_
             rintro v9 h9 ⟨ho9, hx9, hf9⟩)
  all_goals (obtain ⟨A9, c9, rfl, _⟩ := ho9.slice
             obtain ⟨A4, c4, rfl, _⟩ := ho4.slice)
  all_goals (refine WL.step (ok_move rfl) rfl rfl rfl ?_)
  all_goals (refine WL.call (vs := [_, _]) rfl (fun a w => Try.call26 a w) rfl ((equal_int _ _ ho9.rd (ho5.rd.ext0 hx9) (by unfold maxLen; omega)).as (congrArg Value.bool (decide_eq_true rfl))) rfl rfl rfl ?_
             rintro _ hz ⟨rfl, _⟩
             subst hz)
  all_goals (refine WL.step (ok_move rfl) rfl rfl rfl ?_)
  all_goals (try ((fail_if_success (refine WL.part 50 (b := true) rfl (fun _ => ?_) (fun _ => ?_))); (fail_if_success (refine WL.part 50 (b := false) rfl (fun _ => ?_) (fun _ => ?_))); (refine WL.part 50 rfl (fun hb => ?_) (fun hb => ?_) <;> (first | replace hb := of_decide_eq_true hb | replace hb := of_decide_eq_false hb | replace hb := of_decide_eq_false (nt hb) | replace hb := of_decide_eq_true (nf hb) | skip))))
  all_goals (first
               | (refine WL.pass rfl rfl rfl ?_)
               | (refine WL.call (vs := []) rfl (fun a w => Try.call22 a w) rfl (awake18) rfl rfl rfl ?_
                  rintro _ h10 ⟨rfl, hx10⟩))
  all_goals (first | (refine WL.step (ok_pick_t rfl rfl) rfl rfl rfl ?_) | (refine WL.step (ok_pick_f rfl rfl) rfl rfl rfl ?_))
  all_goals (refine WL.step (ok_assign rfl) rfl rfl rfl ?_)
  all_goals (refine WL.nil ?_)
  all_goals (repeat' (with_reducible first | refine thenP_n ?_ | refine blockP_n ?_))
  all_goals (refine WC.sub [(4, _)] ⟨rfl, trivial⟩ ?_)
  all_goals (refine WC.ret ?_)
  all_goals (repeat' (with_reducible first | refine thenP_r ?_ | refine blockP_r ?_))
  all_goals (refine retP_1 _ ⟨rfl, trivial⟩ ?_)
  all_goals (first | exact ⟨rfl, (hX5.trans hx9).trans hx10⟩ | exact ⟨rfl, hx1.trans hx9⟩ | exact ⟨rfl, hx9⟩)

namespace LCacheLater
open Go.ChangeShapes Go.WideShapes Go.ChangeAt Go.RowKit
open Go.ChangeMaps (open_string shut_string)
theorem own : ownKnob Try.prog.godebug = none := by kernel_rfl
theorem laidOut : laidOutB Try.prog = true := by kernel_rfl
set_option maxRecDepth 100000 in
theorem lifted (os : Os) (started : os.Started) (H : Type) (enc : TypeId × Value → H) :
    ReturnsInHanded {} Try.checked os 4 .any (Rows.cacheLaterSpec.pre6 enc Try.prog Try.f4 Rows.cacheLaterRow.domain false) (Rows.cacheLaterSpec.post enc Try.prog Try.f4 false true false false) := by
  refine returnsInHanded_of_change_sized (C := Try.checked) own started (by kernel_rfl) Try.func4
    (ChangeSpec.witness6 (enc := enc) (C := Try.checked) false ⟨#[], #[.slice none 0 0, .slice none 0 0], []⟩ 8 (by kernel_rfl) (by kernel_rfl) (by kernel_rfl) (by kernel_rfl)) ?_
  intro W base args ds gs before hval0 hW hcnd hsz0 _
  have hval : ∀ (j : Nat) t v, Try.f4.params[j]? = some t → args[j]? = some v → Value.okWide Try.prog W .any base t v := hval0
  have hsz := hsz0
  rw [Try.params4] at hsz
  clear hsz0
  have hW' := hW
  obtain ⟨p, q, hA0, hV, rfl, hfz, hnd⟩ := hW
  have hA : DataW.TrodAll enc Try.prog W 0 (fun _ => true) true Try.f4.params.toList args.toList ds p := hA0
  rw [Try.params4] at hA hval
  obtain ⟨v0, vs0, d0, ds0, p0, q0, hargs, rfl, rfl, h0, r0⟩ := trodAll_cons hA
  obtain ⟨v1, vs1, d1, ds1, p1, q1, rfl, rfl, rfl, h1, r1⟩ := trodAll_cons r0
  obtain ⟨rfl, rfl, rfl⟩ := trodAll_nil r1
  obtain rfl : args = #[v0, v1] := by cases args; simp_all
  obtain ⟨rfl, rfl⟩ := trodVars_none hV
  have hz0 : ∀ n ∈ d0.weights Try.prog 40, n ≤ reachBytes := fun n hn => by simpa using List.all_eq_true.1 hsz n (DataW.weights_mem_each (j := 0) rfl rfl n hn)
  have k0 := h0
  have lt0 : ∀ x ∈ p0, x.block < W.heap.size := by obtain ⟨m, hm⟩ := k0; exact DataW.trod_lt m _ _ _ hm
  obtain ⟨A0, n0, c0, rfl⟩ := okWide_slice Try.underlying40 (hval 0 40 v0 rfl rfl)
  obtain ⟨fu0, hf0⟩ := h0
  obtain ⟨⟨v0, l0⟩, e0, w0⟩ := opens_cops W _ _ _ _ _ _ _ _ hf0 hz0
  obtain rfl : .slice A0 n0 c0 = v0 := by simpa [Value.cells] using e0
  have hz1 : ∀ n ∈ d1.weights Try.prog 27, n ≤ reachBytes := fun n hn => by simpa using List.all_eq_true.1 hsz n (DataW.weights_mem_each (j := 1) rfl rfl n hn)
  have k1 := h1
  have lt1 : ∀ x ∈ p1, x.block < W.heap.size := by obtain ⟨m, hm⟩ := k1; exact DataW.trod_lt m _ _ _ hm
  obtain ⟨A1, n1, c1, rfl⟩ := okWide_slice Try.underlying27 (hval 1 27 v1 rfl rfl)
  obtain ⟨fu1, hf1⟩ := h1
  obtain ⟨⟨v1, l1⟩, e1, w1⟩ := opens_entries W _ _ _ _ _ _ _ _ hf1 hz1
  obtain rfl : .slice A1 n1 c1 = v1 := by simpa [Value.cells] using e1
  clear hA0 hval0
  refine (law_calls (later18 l0 l1 w0 w1)).mono fun e W' ⟨he, bel⟩ => ?_
  subst he
  exact ⟨_, rfl, _, _, _, [], _, [], hW', trodAll_mk1 (shut_bool Try.underlying4 _), (trodAll_cons_mk (Below.trod laidOut (by kernel_rfl) (of_decide_eq_true (by kernel_rfl)) k0 bel lt0) (trodAll_cons_mk (Below.trod laidOut (by kernel_rfl) (of_decide_eq_true (by kernel_rfl)) k1 bel lt1) trodAll_mk0)), rfl, bel.frame _, fun h => by cases h⟩
theorem over : Rows.cacheLaterRow.holds Try.pinned (OpenSpec.ofChange Rows.cacheLaterSpec) :=
  OpenClaim.holds_of_wide 4 Try.f4 rfl rfl rfl rfl rfl rfl rfl ⟨rfl, rfl, rfl, rfl, rfl⟩ rfl rfl rfl rfl rfl (by kernel_rfl) Try.func4 (by kernel_rfl)
    (of_decide_eq_true (by kernel_rfl)) (by unfold Func.isWrapper; first | (rw [if_pos (by decide +kernel)]; kernel_rfl) | (rw [if_neg (by decide +kernel)]; exact ⟨rfl, rfl⟩))
    (fun os started H enc _ => lifted os started H enc)
end LCacheLater
theorem cacheLater_proved : Rows.CacheLaterSaid := LCacheLater.over
#print axioms cacheLater_proved
end Go.Proofs.Ytkejihockkhnoaa

