/-
  CACHE (layer 18) and the document's: each told by the list of numbers that it holds.
-/
import Derived.Test.YtkejihockkhnoaaEnt
namespace Go.Proofs.Ytkejihockkhnoaa
open Go Go.RK

set_option maxRecDepth 100000 in
/-! ### the document's lists -/
theorem has18 {h : Heap} {v : Value} (l : List Int) (id : Int) (hr : Rd h v 1 l.length (ints l)) (hm : l.length ≤ maxLen) :
    CallsH Try.prog 43 ⟨[v, In id]⟩ h fun u h' => u = .bool (decide (id ∈ l)) ∧ h' = h := by
  obtain ⟨A, c, rfl, _⟩ := _root_.id hr
  unfold maxLen at hm
  refine calls [(0, _), (1, _)] Try.func43 rfl Try.ntmps43 rfl ⟨rfl, rfl, trivial⟩ ?_
  all_goals (refine WC.seq ?_)
  all_goals (refine WC.region ?_)
  all_goals (refine WL.step (ok_assign rfl) rfl rfl rfl ?_)
  all_goals (refine WL.nil ?_)
  all_goals (repeat' (with_reducible first | refine thenP_n ?_ | refine blockP_n ?_))
  all_goals (refine WC.seq ?_)
  all_goals (refine WC.seq ?_)
  all_goals (refine WC.region ?_)
  all_goals (refine WL.step (ok_assign rfl) rfl rfl rfl ?_)
  all_goals (refine WL.nil ?_)
  all_goals (repeat' (with_reducible first | refine thenP_n ?_ | refine blockP_n ?_))
  all_goals (refine WC.block ?_)
  -- loop 0: slots that turn [5], that stay [0, 1]
  all_goals (refine WC.loopG (X := Nat) (fun x => ([(5, In (x : Int))] : Fr)) [(0, _), (1, _)] (fun k h' => h' = h ∧ k ≤ l.length ∧ id ∉ l.take k) (fun k => l.length - k) (0) ⟨rfl, rfl, rfl, trivial⟩ (by exact ⟨rfl, Nat.zero_le _, by simp⟩) ?_)
  all_goals (rintro k _ ⟨rfl, hk, hn⟩)
  all_goals (refine WC.sub [(5, _), (0, _), (1, _)] ⟨rfl, rfl, rfl, trivial⟩ ?_)
  all_goals (refine WC.seq ?_)
  all_goals (refine WC.seq ?_)
  all_goals (refine WC.region ?_)
  all_goals (refine WL.step (ok_move rfl) rfl rfl rfl ?_)
  all_goals (refine WL.step (ok_move rfl) rfl rfl rfl ?_)
  all_goals (refine WL.step (ok_lenL rfl Try.underlying22 rfl) rfl rfl rfl ?_)
  all_goals (first | (refine WL.step (OkP.bool_t (by omega) (ok_lss rfl rfl)) rfl rfl rfl ?_) | (refine WL.step (OkP.bool_f (by omega) (ok_lss rfl rfl)) rfl rfl rfl ?_) | (refine WL.step (ok_lss rfl rfl) rfl rfl rfl ?_))
  all_goals (refine WL.nil ?_)
  all_goals (repeat' (with_reducible first | refine thenP_n ?_ | refine blockP_n ?_))
  all_goals (first | refine WC.condB_t 1 rfl ?_ | refine WC.condB_f 2 rfl ?_ | (refine WC.condB 1 2 rfl (fun hb => ?_) (fun hb => ?_) <;> (first | replace hb := of_decide_eq_true hb | replace hb := of_decide_eq_false hb | replace hb := of_decide_eq_false (nt hb) | replace hb := of_decide_eq_true (nf hb) | skip)))
  all_goals (first
    | (fail_if_success (refine Br.mk (i := 1) ?_))
    | (refine Br.mk (i := 1) ?_
       all_goals (refine WC.skip ?_)
       skip))
  all_goals (first
    | (fail_if_success (refine Br.mk (i := 2) ?_))
    | (refine Br.mk (i := 2) ?_
       all_goals (refine WC.exit ?_)
       all_goals (repeat' (with_reducible first | refine thenP_x ?_ | refine blockP_miss rfl ?_ | refine blockP_hit ?_ | refine blockP_n ?_ | refine thenP_n ?_))
       all_goals (refine Br.out (i := 1000) ?_)
       skip))
  all_goals (first | (refine Br.keep ?_) | (repeat' (with_reducible first | refine thenP_n ?_ | refine blockP_n ?_)))
  all_goals (first | (refine Br.keep ?_) | (refine WC.sub [(0, _), (1, _), (5, _)] ⟨rfl, rfl, rfl, trivial⟩ ?_))
  all_goals (first | (refine Br.keep ?_) | (refine WC.seq ?_))
  all_goals (first | (refine Br.keep ?_) | (refine WC.block ?_))
  all_goals (first | (refine Br.keep ?_) | (refine WC.seq ?_))
  all_goals (first
               | (refine Br.keep ?_)
               | (obtain ⟨b1, o1, hA, hbL, hat⟩ := Rd.at_ hr (by omega)
                  obtain ⟨y, hy⟩ : ∃ y, l[k]? = some y := ⟨_, List.getElem?_eq_getElem (by omega)⟩
                  have hc := hat.get (p := o1 + k * 1) k (get_int hy) (by omega)))
  all_goals (first | (refine Br.keep ?_) | (refine WC.region ?_))
  all_goals (first | (refine Br.keep ?_) | (refine WL.step (ok_move rfl) rfl rfl rfl ?_))
  all_goals (first | (refine Br.keep ?_) | (refine WL.step (ok_move rfl) rfl rfl rfl ?_))
  all_goals (first | (refine Br.keep ?_) | (refine WL.step (ok_idxAddrA Try.underlying22 (fun w => Try.sizeOf3 w) rfl rfl rfl (by omega) (by first | rfl | assumption)) rfl rfl rfl ?_))
  all_goals (first | (refine Br.keep ?_) | (refine WL.step (ok_load (fun w => Try.isAgg3 w) rfl (by first | assumption | exact cell_blk (by assumption) rfl)) rfl rfl rfl ?_))
  all_goals (first | (refine Br.keep ?_) | (refine WL.step (ok_move rfl) rfl rfl rfl ?_))
  all_goals (first | (refine Br.keep ?_) | (first | (refine WL.step (OkP.bool_t (by omega) (ok_eql rfl rfl)) rfl rfl rfl ?_) | (refine WL.step (OkP.bool_f (by omega) (ok_eql rfl rfl)) rfl rfl rfl ?_) | (refine WL.step (ok_eql rfl rfl) rfl rfl rfl ?_)))
  all_goals (first | (refine Br.keep ?_) | (refine WL.nil ?_))
  all_goals (first | (refine Br.keep ?_) | (repeat' (with_reducible first | refine thenP_n ?_ | refine blockP_n ?_)))
  all_goals (first | (refine Br.keep ?_) | (refine WC.sub [(0, _), (1, _), (5, _), (17, _)] ⟨rfl, rfl, rfl, rfl, trivial⟩ ?_))
  all_goals (first | (refine Br.keep ?_) | (first | refine WC.condB_t 3 rfl ?_ | refine WC.condB_f 4 rfl ?_ | (refine WC.condB 3 4 rfl (fun hb => ?_) (fun hb => ?_) <;> (first | replace hb := of_decide_eq_true hb | replace hb := of_decide_eq_false hb | replace hb := of_decide_eq_false (nt hb) | replace hb := of_decide_eq_true (nf hb) | skip))))
  all_goals (first
    | (fail_if_success (refine Br.mk (i := 3) ?_))
    | (refine Br.mk (i := 3) ?_
       all_goals (refine WC.seq ?_)
       all_goals (refine WC.region ?_)
       all_goals (refine WL.step (ok_assign rfl) rfl rfl rfl ?_)
       all_goals (refine WL.nil ?_)
       all_goals (repeat' (with_reducible first | refine thenP_n ?_ | refine blockP_n ?_))
       all_goals (refine WC.sub [(4, _)] ⟨rfl, trivial⟩ ?_)
       all_goals (refine WC.ret ?_)
       all_goals (repeat' (with_reducible first | refine thenP_r ?_ | refine blockP_r ?_))
       all_goals (refine retP_1 _ ⟨rfl, trivial⟩ ?_)
       all_goals (first | exact ⟨by rw [decide_eq_false (by rw [List.take_of_length_le (by omega)] at hn; exact hn)], rfl⟩ | exact ⟨by rw [decide_eq_true (List.mem_of_getElem? (by rw [hy, hb]))], rfl⟩)
       skip))
  all_goals (first
    | (fail_if_success (refine Br.mk (i := 4) ?_))
    | (refine Br.mk (i := 4) ?_
       all_goals (refine WC.skip ?_)
       skip))
  all_goals (first | (refine Br.keep ?_) | (repeat' (with_reducible first | refine thenP_n ?_ | refine blockP_n ?_)))
  all_goals (first | (refine Br.keep ?_) | (refine WC.region ?_))
  all_goals (first | (refine Br.keep ?_) | (refine WL.step (ok_move rfl) rfl rfl rfl ?_))
  all_goals (first | (refine Br.keep ?_) | (first | (refine WL.step (ok_addI rfl rfl (by omega)) rfl rfl rfl ?_) | (refine WL.step (ok_add rfl rfl) rfl rfl rfl ?_)))
  all_goals (first | (refine Br.keep ?_) | (refine WL.step (ok_assign rfl) rfl rfl rfl ?_))
  all_goals (first | (refine Br.keep ?_) | (refine WL.nil ?_))
  all_goals (first | (refine Br.keep ?_) | (repeat' (with_reducible first | refine thenP_n ?_ | refine blockP_n ?_)))
  all_goals (first | (refine Br.keep ?_) | (exact ⟨k + 1, ⟨rfl, rfl, rfl, trivial⟩, (by exact ⟨rfl, by omega, take_snoc_not hn hy (fun e => ‹¬y = id› e.symm)⟩), (by omega)⟩))
  all_goals (try (refine Br.mk (i := 1000) ?_))
  all_goals (repeat' (with_reducible first | refine thenP_n ?_ | refine blockP_n ?_))
  all_goals (refine WC.sub [] trivial ?_)
  all_goals (refine WC.seq ?_)
  all_goals (refine WC.region ?_)
  all_goals (refine WL.step (ok_assign rfl) rfl rfl rfl ?_)
  all_goals (refine WL.nil ?_)
  all_goals (repeat' (with_reducible first | refine thenP_n ?_ | refine blockP_n ?_))
  all_goals (refine WC.ret ?_)
  all_goals (repeat' (with_reducible first | refine thenP_r ?_ | refine blockP_r ?_))
  all_goals (refine retP_1 _ ⟨rfl, trivial⟩ ?_)
  all_goals (first | exact ⟨by rw [decide_eq_false (by rw [List.take_of_length_le (by omega)] at hn; exact hn)], rfl⟩ | exact ⟨by rw [decide_eq_true (List.mem_of_getElem? (by rw [hy, hb]))], rfl⟩)
/-- A new list. -/
def NewL (h : Heap) (u : Value) (l : List Int) (h' : Heap) : Prop := Own h' u 3 1 l.length (ints l) ∧ Ext No h h' ∧ ∀ k, u.ownBlock = some k → h.size ≤ k
theorem NewL.mk' {h h1 h' : Heap} {v v' : Value} {l' : List Int} (X : Ext No h h1) (f : ∀ k, v.ownBlock = some k → h.size ≤ k) (o : Own h' v' 3 1 l'.length (ints l')) (x : Ext (fun k => v.ownBlock = some k) h1 h') (hl : v'.ownBlock = v.ownBlock ∨ v'.ownBlock = some h1.size) : NewL h v' l' h' :=
  ⟨o, X.trans' x (fun q hq e => by have := f q e; omega), fresh_of hl f X.size⟩
set_option maxRecDepth 100000 in
theorem without18 {h : Heap} {v : Value} (l : List Int) (id : Int) (hr : Rd h v 1 l.length (ints l)) (hm : l.length ≤ 100000) :
    CallsH Try.prog 78 ⟨[v, In id]⟩ h fun u h' => NewL h u (rmL l id) h' := by
  obtain ⟨A, c, rfl, _⟩ := _root_.id hr
  refine calls [(0, _), (1, _)] Try.func78 rfl Try.ntmps78 rfl ⟨rfl, rfl, trivial⟩ ?_
  all_goals (refine WC.seq ?_)
  all_goals (refine WC.region ?_)
  all_goals (refine WL.step (ok_assign rfl) rfl rfl rfl ?_)
  all_goals (refine WL.nil ?_)
  all_goals (repeat' (with_reducible first | refine thenP_n ?_ | refine blockP_n ?_))
  all_goals (refine WC.seq ?_)
  all_goals (refine WC.region ?_)
  all_goals (refine WL.step (ok_assign rfl) rfl rfl rfl ?_)
  all_goals (refine WL.nil ?_)
  all_goals (repeat' (with_reducible first | refine thenP_n ?_ | refine blockP_n ?_))
  all_goals (refine WC.seq ?_)
  all_goals (refine WC.seq ?_)
  all_goals (refine WC.region ?_)
  all_goals (refine WL.step (ok_assign rfl) rfl rfl rfl ?_)
  all_goals (refine WL.nil ?_)
  all_goals (repeat' (with_reducible first | refine thenP_n ?_ | refine blockP_n ?_))
  all_goals (refine WC.block ?_)
  -- loop 0: slots that turn [5, 6], that stay [0, 1]
  all_goals (refine WC.loopG (X := Nat × Value) (fun x => ([(6, In (x.1 : Int)), (5, x.2)] : Fr)) [(0, _), (1, _)] (fun x h' => x.1 ≤ l.length ∧ NewL h x.2 (rmL (l.take x.1) id) h') (fun x => l.length - x.1) ((0, .slice none 0 0)) ⟨rfl, rfl, rfl, rfl, trivial⟩ (by exact ⟨Nat.zero_le _, Own.nil _ _ _, .refl _ _, by simp [Value.ownBlock]⟩) ?_)
  all_goals (rintro ⟨k, v1⟩ h1 ⟨hk, ho1, hx1, hf1⟩
             simp only at hk ho1 hf1
             have hle := rm_le (l.take k) id
             rw [List.length_take] at hle)
  all_goals (refine WC.sub [(5, _), (6, _), (0, _), (1, _)] ⟨rfl, rfl, rfl, rfl, trivial⟩ ?_)
  all_goals (dsimp only)
  all_goals (refine WC.seq ?_)
  all_goals (refine WC.seq ?_)
  all_goals (refine WC.region ?_)
  all_goals (refine WL.step (ok_move rfl) rfl rfl rfl ?_)
  all_goals (refine WL.step (ok_move rfl) rfl rfl rfl ?_)
  all_goals (refine WL.step (ok_lenL rfl Try.underlying22 rfl) rfl rfl rfl ?_)
  all_goals (first | (refine WL.step (OkP.bool_t (by omega) (ok_lss rfl rfl)) rfl rfl rfl ?_) | (refine WL.step (OkP.bool_f (by omega) (ok_lss rfl rfl)) rfl rfl rfl ?_) | (refine WL.step (ok_lss rfl rfl) rfl rfl rfl ?_))
  all_goals (refine WL.nil ?_)
  all_goals (repeat' (with_reducible first | refine thenP_n ?_ | refine blockP_n ?_))
  all_goals (first | refine WC.condB_t 1 rfl ?_ | refine WC.condB_f 2 rfl ?_ | (refine WC.condB 1 2 rfl (fun hb => ?_) (fun hb => ?_) <;> (first | replace hb := of_decide_eq_true hb | replace hb := of_decide_eq_false hb | replace hb := of_decide_eq_false (nt hb) | replace hb := of_decide_eq_true (nf hb) | skip)))
  all_goals (first
    | (fail_if_success (refine Br.mk (i := 1) ?_))
    | (refine Br.mk (i := 1) ?_
       all_goals (refine WC.skip ?_)
       skip))
  all_goals (first
    | (fail_if_success (refine Br.mk (i := 2) ?_))
    | (refine Br.mk (i := 2) ?_
       all_goals (refine WC.exit ?_)
       all_goals (repeat' (with_reducible first | refine thenP_x ?_ | refine blockP_miss rfl ?_ | refine blockP_hit ?_ | refine blockP_n ?_ | refine thenP_n ?_))
       all_goals (refine Br.out (i := 1000) ?_)
       skip))
  all_goals (first | (refine Br.keep ?_) | (repeat' (with_reducible first | refine thenP_n ?_ | refine blockP_n ?_)))
  all_goals (first | (refine Br.keep ?_) | (refine WC.sub [(0, _), (1, _), (5, _), (6, _)] ⟨rfl, rfl, rfl, rfl, trivial⟩ ?_))
  all_goals (first | (refine Br.keep ?_) | (refine WC.seq ?_))
  all_goals (first | (refine Br.keep ?_) | (refine WC.block ?_))
  all_goals (first | (refine Br.keep ?_) | (refine WC.seq ?_))
  all_goals (first
               | (refine Br.keep ?_)
               | (obtain ⟨b1, o1, hA, hbL, hat⟩ := Rd.at_ (hr.ext0 hx1) (by omega)
                  obtain ⟨y, hy⟩ : ∃ y, l[k]? = some y := ⟨_, List.getElem?_eq_getElem (by omega)⟩
                  have hc := hat.get (p := o1 + k * 1) k (get_int hy) (by omega)
                  have hf := filter_take (q := fun x => decide (x ≠ id)) hy))
  all_goals (first | (refine Br.keep ?_) | (refine WC.region ?_))
  all_goals (first | (refine Br.keep ?_) | (refine WL.step (ok_move rfl) rfl rfl rfl ?_))
  all_goals (first | (refine Br.keep ?_) | (refine WL.step (ok_move rfl) rfl rfl rfl ?_))
  all_goals (first | (refine Br.keep ?_) | (refine WL.step (ok_idxAddrA Try.underlying22 (fun w => Try.sizeOf3 w) rfl rfl rfl (by omega) (by first | rfl | assumption)) rfl rfl rfl ?_))
  all_goals (first | (refine Br.keep ?_) | (refine WL.step (ok_load (fun w => Try.isAgg3 w) rfl (by first | assumption | exact cell_blk (by assumption) rfl)) rfl rfl rfl ?_))
  all_goals (first | (refine Br.keep ?_) | (refine WL.step (ok_move rfl) rfl rfl rfl ?_))
  all_goals (first | (refine Br.keep ?_) | (first | (refine WL.step (OkP.nbool_t (by omega) (ok_neq rfl rfl)) rfl rfl rfl ?_) | (refine WL.step (OkP.nbool_f (by omega) (ok_neq rfl rfl)) rfl rfl rfl ?_) | (refine WL.step (ok_neq rfl rfl) rfl rfl rfl ?_)))
  all_goals (first | (refine Br.keep ?_) | (refine WL.nil ?_))
  all_goals (first | (refine Br.keep ?_) | (repeat' (with_reducible first | refine thenP_n ?_ | refine blockP_n ?_)))
  all_goals (first | (refine Br.keep ?_) | (refine WC.sub [(0, _), (1, _), (5, _), (6, _), (18, _)] ⟨rfl, rfl, rfl, rfl, rfl, trivial⟩ ?_))
  all_goals (first | (refine Br.keep ?_) | (first | refine WC.condB_t 3 rfl ?_ | refine WC.condB_f 4 rfl ?_ | (refine WC.condB 3 4 rfl (fun hb => ?_) (fun hb => ?_) <;> (first | replace hb := of_decide_eq_true hb | replace hb := of_decide_eq_false hb | replace hb := of_decide_eq_false (nt hb) | replace hb := of_decide_eq_true (nf hb) | skip))))
  all_goals (first
    | (fail_if_success (refine Br.mk (i := 3) ?_))
    | (refine Br.mk (i := 3) ?_
       all_goals (refine WC.region ?_)
       all_goals (refine WL.step (ok_move rfl) rfl rfl rfl ?_)
       all_goals (refine WL.step (ok_move rfl) rfl rfl rfl ?_)
       all_goals (refine WL.step (ok_move rfl) rfl rfl rfl ?_)
       all_goals (refine WL.step (ok_idxAddrA Try.underlying22 (fun w => Try.sizeOf3 w) rfl rfl rfl (by omega) (by first | rfl | assumption)) rfl rfl rfl ?_)
       all_goals (refine WL.step (ok_load (fun w => Try.isAgg3 w) rfl (by first | assumption | exact cell_blk (by assumption) rfl)) rfl rfl rfl ?_)
       all_goals (refine WL.stepR (okE_buildSlice (vs := [_]) (cs := [_]) (fun | [a0] => [a0] | _ => []) Try.underlying22 rfl rfl (by kernel_rfl)) rfl rfl rfl ?_
                  rintro _ h3 ⟨b3, rfl, hg3, hb3, hx3⟩)
       all_goals (refine WL.stepR (ok_append (sz := 1) (bytes := 8) rfl Try.underlying22 (show Try.prog.info? 3 = some Try.t3 by kernel_rfl) rfl rfl rfl rfl (by decide) rfl rfl (ho1.ext hx3 (fun _ _ => nos)) (rd_blk hb3 rfl) (by simp [Value.oneCell']) (by simp only [maxLen]; omega) (by omega)) rfl rfl rfl ?_
                  rintro v4 h4 ⟨ho4, hx4, hl4⟩)
       all_goals (have hf4 := fresh_of hl4 hf1 (by have := hx1.size; have := hx3.size; omega)
                  have hE4 := (hx1.trans hx3).trans' hx4 (fun q hq e => by have := hf1 q e; omega))
       all_goals (refine WL.step (ok_assign rfl) rfl rfl rfl ?_)
       all_goals (refine WL.nil ?_)
       skip))
  all_goals (first
    | (fail_if_success (refine Br.mk (i := 4) ?_))
    | (refine Br.mk (i := 4) ?_
       all_goals (refine WC.skip ?_)
       skip))
  all_goals (first | (refine Br.keep ?_) | (repeat' (with_reducible first | refine thenP_n ?_ | refine blockP_n ?_)))
  all_goals (first | (refine Br.keep ?_) | (refine WC.region ?_))
  all_goals (first | (refine Br.keep ?_) | (refine WL.step (ok_move rfl) rfl rfl rfl ?_))
  all_goals (first | (refine Br.keep ?_) | (first | (refine WL.step (ok_addI rfl rfl (by omega)) rfl rfl rfl ?_) | (refine WL.step (ok_add rfl rfl) rfl rfl rfl ?_)))
  all_goals (first | (refine Br.keep ?_) | (refine WL.step (ok_assign rfl) rfl rfl rfl ?_))
  all_goals (first | (refine Br.keep ?_) | (refine WL.nil ?_))
  all_goals (first | (refine Br.keep ?_) | (repeat' (with_reducible first | refine thenP_n ?_ | refine blockP_n ?_)))
  all_goals (first | (refine Br.keep ?_) | (exact ⟨(k + 1, _), ⟨rfl, rfl, rfl, rfl, trivial⟩, (by first | exact ⟨by simp; omega, by unfold rmL; rw [hf, if_pos (by simpa using ‹¬ y = id›)]; simpa [rmL] using ho4, hE4, hf4⟩ | exact ⟨by simp; omega, by unfold rmL; rw [hf, if_neg (by simpa using ‹y = id›)]; simpa [rmL] using ho1, hx1, hf1⟩), (by simp; omega)⟩))
  all_goals (try (refine Br.mk (i := 1000) ?_))
  all_goals (repeat' (with_reducible first | refine thenP_n ?_ | refine blockP_n ?_))
  all_goals (refine WC.sub [(5, _)] ⟨rfl, trivial⟩ ?_)
  all_goals (refine WC.seq ?_)
  all_goals (refine WC.region ?_)
  all_goals (refine WL.step (ok_move rfl) rfl rfl rfl ?_)
  all_goals (refine WL.step (ok_assign rfl) rfl rfl rfl ?_)
  all_goals (refine WL.nil ?_)
  all_goals (repeat' (with_reducible first | refine thenP_n ?_ | refine blockP_n ?_))
  all_goals (refine WC.ret ?_)
  all_goals (repeat' (with_reducible first | refine thenP_r ?_ | refine blockP_r ?_))
  all_goals (refine retP_1 _ ⟨rfl, trivial⟩ ?_)
  all_goals (rw [List.take_of_length_le (by omega)] at ho1
             exact ⟨ho1, hx1, hf1⟩)
set_option maxRecDepth 100000 in
theorem one18 {h : Heap} {v : Value} (l : List Int) (k id : Int) (hr : Rd h v 1 l.length (ints l)) (hm : l.length ≤ 100000) :
    CallsH Try.prog 57 ⟨[v, .agg ⟨[In k, In id]⟩]⟩ h fun u h' => NewL h u (oneL l k id) h' := by
  obtain ⟨A, c, rfl, _⟩ := _root_.id hr
  have nn : ∀ (h1 h2 : Heap) (n m : Nat), Ext (fun k => (Value.slice none n m).ownBlock = some k) h1 h2 → Ext No h1 h2 := fun h1 h2 n m e => e.mono fun k _ hk => by simp [Value.ownBlock] at hk
  refine calls [(0, _), (1, _)] Try.func57 rfl Try.ntmps57 rfl ⟨rfl, rfl, trivial⟩ ?_
  all_goals (refine WC.seq ?_)
  all_goals (refine WC.region ?_)
  all_goals (refine WL.stepR (okE_box rfl) rfl rfl rfl ?_
             rintro _ h1 ⟨b1, rfl, hg1, hb1, hx1⟩)
  all_goals (refine WL.step (ok_assign rfl) rfl rfl rfl ?_)
  all_goals (refine WL.nil ?_)
  all_goals (repeat' (with_reducible first | refine thenP_n ?_ | refine blockP_n ?_))
  all_goals (refine WC.seq ?_)
  all_goals (refine WC.seq ?_)
  all_goals (refine WC.region ?_)
  all_goals (refine WL.step (ok_fieldAddr rfl Try.underlying78 rfl (fun w => Try.sizeOf3 w)) rfl rfl rfl ?_)
  all_goals (refine WL.step (ok_load (fun w => Try.isAgg3 w) rfl (by first | assumption | exact cell_blk (by assumption) rfl)) rfl rfl rfl ?_)
  all_goals (refine WL.nil ?_)
  all_goals (repeat' (with_reducible first | refine thenP_n ?_ | refine blockP_n ?_))
  all_goals (refine WC.block ?_)
  all_goals (refine WC.seq ?_)
  all_goals (refine WC.region ?_)
  all_goals (first | (refine WL.step (OkP.bool_t (by omega) (ok_eql rfl rfl)) rfl rfl rfl ?_) | (refine WL.step (OkP.bool_f (by omega) (ok_eql rfl rfl)) rfl rfl rfl ?_) | (refine WL.step (ok_eql rfl rfl) rfl rfl rfl ?_))
  all_goals (refine WL.step (ok_assign rfl) rfl rfl rfl ?_)
  all_goals (refine WL.nil ?_)
  all_goals (repeat' (with_reducible first | refine thenP_n ?_ | refine blockP_n ?_))
  all_goals (refine WC.sub [(0, _), (3, _), (6, _), (7, _)] ⟨rfl, rfl, rfl, rfl, trivial⟩ ?_)
  all_goals (first | refine WC.condB_t 1 rfl ?_ | refine WC.condB_f 2 rfl ?_ | (refine WC.condB 1 2 rfl (fun hb => ?_) (fun hb => ?_) <;> (first | replace hb := of_decide_eq_true hb | replace hb := of_decide_eq_false hb | replace hb := of_decide_eq_false (nt hb) | replace hb := of_decide_eq_true (nf hb) | skip)))
  all_goals (first
    | (fail_if_success (refine Br.mk (i := 1) ?_))
    | (refine Br.mk (i := 1) ?_
       all_goals (refine WC.seq ?_)
       all_goals (refine WC.region ?_)
       all_goals (refine WL.step (ok_move rfl) rfl rfl rfl ?_)
       all_goals (refine WL.step (ok_fieldAddr rfl Try.underlying78 rfl (fun w => Try.sizeOf3 w)) rfl rfl rfl ?_)
       all_goals (refine WL.step (ok_load (fun w => Try.isAgg3 w) rfl (by first | assumption | exact cell_blk (by assumption) rfl)) rfl rfl rfl ?_)
       all_goals (refine WL.call (vs := [_, _]) rfl (fun a w => Try.call43 a w) rfl (has18 l id (hr.ext0 hx1) (by unfold maxLen; omega)) rfl rfl rfl ?_
                  rintro _ hz ⟨rfl, _⟩
                  subst hz)
       all_goals (refine WL.step (ok_not rfl) rfl rfl rfl ?_)
       all_goals (refine WL.nil ?_)
       all_goals (repeat' (with_reducible first | refine thenP_n ?_ | refine blockP_n ?_))
       all_goals (refine WC.sub [(0, _), (3, _), (13, _)] ⟨rfl, rfl, rfl, trivial⟩ ?_)
       all_goals (first | refine WC.condB_t 3 rfl ?_ | refine WC.condB_f 4 rfl ?_ | (refine WC.condB 3 4 rfl (fun hb => ?_) (fun hb => ?_) <;> (first | replace hb := of_decide_eq_true hb | replace hb := of_decide_eq_false hb | replace hb := of_decide_eq_false (nt hb) | replace hb := of_decide_eq_true (nf hb) | skip)))
       all_goals (first
         | (fail_if_success (refine Br.mk (i := 3) ?_))
         | (refine Br.mk (i := 3) ?_
            all_goals (refine WC.seq ?_)
            all_goals (refine WC.drawH (fun h' => h'[b1]? = some (.cells ⟨[In k, In id]⟩ 78 (0, 0))) 6 7 rfl fol ?_)
            all_goals (refine WH.take 0 rfl (by kernel_rfl) (by kernel_rfl) (by kernel_rfl) (by kernel_rfl) rfl (by first | exact Ext.refl _ _ | assumption) (fun hq hC => ok_move rfl) rfl rfl rfl ?_)
            all_goals (refine WH.take 2 rfl (by kernel_rfl) (by kernel_rfl) (by kernel_rfl) (by kernel_rfl) rfl (by first | exact Ext.refl _ _ | assumption) (fun hq hC => ok_fieldAddr rfl Try.underlying78 rfl (fun w => Try.sizeOf3 w)) rfl rfl rfl ?_)
            all_goals (refine WH.take 3 rfl (by kernel_rfl) (by kernel_rfl) (by kernel_rfl) (by kernel_rfl) rfl (by first | exact Ext.refl _ _ | assumption) (fun hq hC => ok_load (fun w => Try.isAgg3 w) rfl (cell_blk hC rfl)) rfl rfl rfl ?_)
            all_goals (refine WH.two 1 4 (by kernel_rfl) ?two1a ?two1b
                       case' two1a =>
                         all_goals (refine Comes1.run rfl (ok_append (sz := 1) (bytes := 8) rfl Try.underlying22 (show Try.prog.info? 3 = some Try.t3 by kernel_rfl) rfl rfl rfl rfl (by decide) rfl rfl (Own.nil _ _ _) (by first | exact hr.ext0 hx1 | exact (hr.ext0 hx1).ext0 hx4) (one_ints l) (by simp only [maxLen]; omega) (by omega)) rfl rfl rfl ?_ (fun _ => by kernel_rfl)
                                    rintro v3 h3 ⟨ho3, hx3, hl3⟩)
                         all_goals (refine ⟨fun _ => (nn _ _ _ _ hx3).obj (by assumption) nos, ?_⟩)
                         all_goals (have hb3 := (nn _ _ _ _ hx3).obj (b := b1) (by assumption) nos)
                         all_goals (refine WH.one 4 (by kernel_rfl) ?_)
                         all_goals (refine Comes1.run rfl (okE_buildSlice (vs := [_]) (cs := [_]) (fun | [a0] => [a0] | _ => []) Try.underlying22 rfl rfl (by kernel_rfl)) rfl rfl rfl ?_ (fun _ => by kernel_rfl)
                                    rintro _ h4 ⟨b4, rfl, hg4, hb4, hx4⟩)
                         all_goals (refine ⟨fun _ => hx4.obj (by assumption) nos, ?_⟩)
                         all_goals (have hb14 := hx4.obj (b := b1) (by assumption) nos)
                         all_goals (refine WH.one 5 (by kernel_rfl) ?_)
                         all_goals (refine Comes1.run rfl (ok_append (sz := 1) (bytes := 8) rfl Try.underlying22 (show Try.prog.info? 3 = some Try.t3 by kernel_rfl) rfl rfl rfl rfl (by decide) rfl rfl (by first | exact ho3 | exact ho3.ext hx4 (fun _ _ => nos)) (by first | exact rd_blk hb4 rfl | exact (rd_blk hb4 rfl).ext0 (nn _ _ _ _ hx3)) (by simp [Value.oneCell']) (by simp only [maxLen]; omega) (by omega)) rfl rfl rfl ?_ (fun _ => by kernel_rfl)
                                    rintro v5 h5 ⟨ho5, hx5, hl5⟩)
                         all_goals (refine ⟨fun _ => hx5.obj (b := b1) (by assumption) (fun e => own_ne ho3 hb3 (by decide) e), ?_⟩)
                         all_goals (refine WH.one 6 (by kernel_rfl) ?_)
                         all_goals (refine Comes1.run rfl (OkP.r (ok_assign rfl)) rfl rfl rfl ?_ (fun _ => by kernel_rfl)
                                    rintro _ hz ⟨rfl, _⟩
                                    subst hz)
                         all_goals (refine ⟨fun e => (by cases e), ?_⟩)
                         all_goals (refine WH.done (by kernel_rfl) ?_)
                         skip
                       case' two1b =>
                         all_goals (refine Comes1.run rfl (okE_buildSlice (vs := [_]) (cs := [_]) (fun | [a0] => [a0] | _ => []) Try.underlying22 rfl rfl (by kernel_rfl)) rfl rfl rfl ?_ (fun _ => by kernel_rfl)
                                    rintro _ h4 ⟨b4, rfl, hg4, hb4, hx4⟩)
                         all_goals (refine ⟨fun _ => hx4.obj (by assumption) nos, ?_⟩)
                         all_goals (have hb14 := hx4.obj (b := b1) (by assumption) nos)
                         all_goals (refine WH.one 1 (by kernel_rfl) ?_)
                         all_goals (refine Comes1.run rfl (ok_append (sz := 1) (bytes := 8) rfl Try.underlying22 (show Try.prog.info? 3 = some Try.t3 by kernel_rfl) rfl rfl rfl rfl (by decide) rfl rfl (Own.nil _ _ _) (by first | exact hr.ext0 hx1 | exact (hr.ext0 hx1).ext0 hx4) (one_ints l) (by simp only [maxLen]; omega) (by omega)) rfl rfl rfl ?_ (fun _ => by kernel_rfl)
                                    rintro v3 h3 ⟨ho3, hx3, hl3⟩)
                         all_goals (refine ⟨fun _ => (nn _ _ _ _ hx3).obj (by assumption) nos, ?_⟩)
                         all_goals (have hb3 := (nn _ _ _ _ hx3).obj (b := b1) (by assumption) nos)
                         all_goals (refine WH.one 5 (by kernel_rfl) ?_)
                         all_goals (refine Comes1.run rfl (ok_append (sz := 1) (bytes := 8) rfl Try.underlying22 (show Try.prog.info? 3 = some Try.t3 by kernel_rfl) rfl rfl rfl rfl (by decide) rfl rfl (by first | exact ho3 | exact ho3.ext hx4 (fun _ _ => nos)) (by first | exact rd_blk hb4 rfl | exact (rd_blk hb4 rfl).ext0 (nn _ _ _ _ hx3)) (by simp [Value.oneCell']) (by simp only [maxLen]; omega) (by omega)) rfl rfl rfl ?_ (fun _ => by kernel_rfl)
                                    rintro v5 h5 ⟨ho5, hx5, hl5⟩)
                         all_goals (refine ⟨fun _ => hx5.obj (b := b1) (by assumption) (fun e => own_ne ho3 hb3 (by decide) e), ?_⟩)
                         all_goals (refine WH.one 6 (by kernel_rfl) ?_)
                         all_goals (refine Comes1.run rfl (OkP.r (ok_assign rfl)) rfl rfl rfl ?_ (fun _ => by kernel_rfl)
                                    rintro _ hz ⟨rfl, _⟩
                                    subst hz)
                         all_goals (refine ⟨fun e => (by cases e), ?_⟩)
                         all_goals (refine WH.done (by kernel_rfl) ?_)
                         skip)
            all_goals (repeat' (with_reducible first | refine thenP_n ?_ | refine blockP_n ?_))
            all_goals (refine WC.sub [(4, _)] ⟨rfl, trivial⟩ ?_)
            all_goals (refine WC.ret ?_)
            all_goals (repeat' (with_reducible first | refine thenP_r ?_ | refine blockP_r ?_))
            all_goals (refine retP_1 _ ⟨rfl, trivial⟩ ?_)
            all_goals (first
                        | exact NewL.mk' ((hx1.trans (nn _ _ _ _ hx3)).trans hx4) (fresh_of hl3 (by simp [Value.ownBlock]) hx1.size) (by first | (simp [oneL, *]; done) | simpa [oneL, *] using ho5) hx5 hl5
                        | exact NewL.mk' ((hx1.trans hx4).trans (nn _ _ _ _ hx3)) (fresh_of hl3 (by simp [Value.ownBlock]) (hx1.trans hx4).size) (by first | (simp [oneL, *]; done) | simpa [oneL, *] using ho5) hx5 hl5
                        | exact NewL.mk' ((hx1.trans hx3).trans hx4) (fun q hq => Nat.le_trans hx1.size (hf3 q hq)) (by first | (simp [oneL, toL, *]; done) | simpa [oneL, toL, *] using ho5) hx5 hl5
                        | exact NewL.mk' ((hx1.trans hx4).trans hx3) (fun q hq => Nat.le_trans (hx1.trans hx4).size (hf3 q hq)) (by first | (simp [oneL, toL, *]; done) | simpa [oneL, toL, *] using ho5) hx5 hl5
                        | exact ⟨(by first | (simp [oneL, *]; done) | simpa [oneL, *] using ho3), hx1.trans hx3, fun q hq => Nat.le_trans hx1.size (hf3 q hq)⟩
                        | exact NewL.mk' hx1 (by simp [Value.ownBlock]) (by first | (simp [oneL, toL, *]; done) | simpa [oneL, toL, *] using ho3) hx3 hl3
                        | (trace_state; sorry))
            skip))
       all_goals (first
         | (fail_if_success (refine Br.mk (i := 4) ?_))
         | (refine Br.mk (i := 4) ?_
            all_goals (refine WC.skip ?_)
            skip))
       skip))
  all_goals (first
    | (fail_if_success (refine Br.mk (i := 2) ?_))
    | (refine Br.mk (i := 2) ?_
       all_goals (refine WC.seq ?_)
       all_goals (refine WC.region ?_)
       all_goals (first | (refine WL.step (OkP.bool_t (by omega) (ok_eql rfl rfl)) rfl rfl rfl ?_) | (refine WL.step (OkP.bool_f (by omega) (ok_eql rfl rfl)) rfl rfl rfl ?_) | (refine WL.step (ok_eql rfl rfl) rfl rfl rfl ?_))
       all_goals (refine WL.step (ok_assign rfl) rfl rfl rfl ?_)
       all_goals (refine WL.nil ?_)
       all_goals (repeat' (with_reducible first | refine thenP_n ?_ | refine blockP_n ?_))
       all_goals (first | refine WC.condB_t 5 rfl ?_ | refine WC.condB_f 6 rfl ?_ | (refine WC.condB 5 6 rfl (fun hb => ?_) (fun hb => ?_) <;> (first | replace hb := of_decide_eq_true hb | replace hb := of_decide_eq_false hb | replace hb := of_decide_eq_false (nt hb) | replace hb := of_decide_eq_true (nf hb) | skip)))
       all_goals (first
         | (fail_if_success (refine Br.mk (i := 5) ?_))
         | (refine Br.mk (i := 5) ?_
            all_goals (refine WC.seq ?_)
            all_goals (refine WC.region ?_)
            all_goals (refine WL.step (ok_move rfl) rfl rfl rfl ?_)
            all_goals (refine WL.step (ok_fieldAddr rfl Try.underlying78 rfl (fun w => Try.sizeOf3 w)) rfl rfl rfl ?_)
            all_goals (refine WL.step (ok_load (fun w => Try.isAgg3 w) rfl (by first | assumption | exact cell_blk (by assumption) rfl)) rfl rfl rfl ?_)
            all_goals (refine WL.call (vs := [_, _]) rfl (fun a w => Try.call78 a w) rfl (without18 l id (hr.ext0 hx1) hm) rfl rfl rfl ?_
                       rintro v3 h3 ⟨ho3, hx3, hf3⟩)
            all_goals (refine WL.step (ok_assign rfl) rfl rfl rfl ?_)
            all_goals (refine WL.nil ?_)
            all_goals (repeat' (with_reducible first | refine thenP_n ?_ | refine blockP_n ?_))
            all_goals (refine WC.sub [(4, _)] ⟨rfl, trivial⟩ ?_)
            all_goals (refine WC.ret ?_)
            all_goals (repeat' (with_reducible first | refine thenP_r ?_ | refine blockP_r ?_))
            all_goals (refine retP_1 _ ⟨rfl, trivial⟩ ?_)
            all_goals (first
                        | exact NewL.mk' ((hx1.trans (nn _ _ _ _ hx3)).trans hx4) (fresh_of hl3 (by simp [Value.ownBlock]) hx1.size) (by first | (simp [oneL, *]; done) | simpa [oneL, *] using ho5) hx5 hl5
                        | exact NewL.mk' ((hx1.trans hx4).trans (nn _ _ _ _ hx3)) (fresh_of hl3 (by simp [Value.ownBlock]) (hx1.trans hx4).size) (by first | (simp [oneL, *]; done) | simpa [oneL, *] using ho5) hx5 hl5
                        | exact NewL.mk' ((hx1.trans hx3).trans hx4) (fun q hq => Nat.le_trans hx1.size (hf3 q hq)) (by first | (simp [oneL, toL, *]; done) | simpa [oneL, toL, *] using ho5) hx5 hl5
                        | exact NewL.mk' ((hx1.trans hx4).trans hx3) (fun q hq => Nat.le_trans (hx1.trans hx4).size (hf3 q hq)) (by first | (simp [oneL, toL, *]; done) | simpa [oneL, toL, *] using ho5) hx5 hl5
                        | exact ⟨(by first | (simp [oneL, *]; done) | simpa [oneL, *] using ho3), hx1.trans hx3, fun q hq => Nat.le_trans hx1.size (hf3 q hq)⟩
                        | exact NewL.mk' hx1 (by simp [Value.ownBlock]) (by first | (simp [oneL, toL, *]; done) | simpa [oneL, toL, *] using ho3) hx3 hl3
                        | (trace_state; sorry))
            skip))
       all_goals (first
         | (fail_if_success (refine Br.mk (i := 6) ?_))
         | (refine Br.mk (i := 6) ?_
            all_goals (refine WC.seq ?_)
            all_goals (refine WC.region ?_)
            all_goals (first | (refine WL.step (OkP.bool_t (by omega) (ok_eql rfl rfl)) rfl rfl rfl ?_) | (refine WL.step (OkP.bool_f (by omega) (ok_eql rfl rfl)) rfl rfl rfl ?_) | (refine WL.step (ok_eql rfl rfl) rfl rfl rfl ?_))
            all_goals (refine WL.step (ok_assign rfl) rfl rfl rfl ?_)
            all_goals (refine WL.nil ?_)
            all_goals (repeat' (with_reducible first | refine thenP_n ?_ | refine blockP_n ?_))
            all_goals (refine WC.sub [(0, _), (3, _), (26, _)] ⟨rfl, rfl, rfl, trivial⟩ ?_)
            all_goals (first | refine WC.condB_t 7 rfl ?_ | refine WC.condB_f 8 rfl ?_ | (refine WC.condB 7 8 rfl (fun hb => ?_) (fun hb => ?_) <;> (first | replace hb := of_decide_eq_true hb | replace hb := of_decide_eq_false hb | replace hb := of_decide_eq_false (nt hb) | replace hb := of_decide_eq_true (nf hb) | skip)))
            all_goals (first
              | (fail_if_success (refine Br.mk (i := 7) ?_))
              | (refine Br.mk (i := 7) ?_
                 all_goals (refine WC.seq ?_)
                 all_goals (refine WC.region ?_)
                 all_goals (refine WL.step (ok_move rfl) rfl rfl rfl ?_)
                 all_goals (refine WL.step (ok_fieldAddr rfl Try.underlying78 rfl (fun w => Try.sizeOf3 w)) rfl rfl rfl ?_)
                 all_goals (refine WL.step (ok_load (fun w => Try.isAgg3 w) rfl (by first | assumption | exact cell_blk (by assumption) rfl)) rfl rfl rfl ?_)
                 all_goals (refine WL.call (vs := [_, _]) rfl (fun a w => Try.call43 a w) rfl (has18 l id (hr.ext0 hx1) (by unfold maxLen; omega)) rfl rfl rfl ?_
                            rintro _ hz ⟨rfl, _⟩
                            subst hz)
                 all_goals (refine WL.nil ?_)
                 all_goals (repeat' (with_reducible first | refine thenP_n ?_ | refine blockP_n ?_))
                 all_goals (refine WC.sub [(0, _), (3, _), (31, _)] ⟨rfl, rfl, rfl, trivial⟩ ?_)
                 all_goals (first | refine WC.condB_t 9 rfl ?_ | refine WC.condB_f 10 rfl ?_ | (refine WC.condB 9 10 rfl (fun hb => ?_) (fun hb => ?_) <;> (first | replace hb := of_decide_eq_true hb | replace hb := of_decide_eq_false hb | replace hb := of_decide_eq_false (nt hb) | replace hb := of_decide_eq_true (nf hb) | skip)))
                 all_goals (first
                   | (fail_if_success (refine Br.mk (i := 9) ?_))
                   | (refine Br.mk (i := 9) ?_
                      all_goals (refine WC.seq ?_)
                      all_goals (refine WC.drawH (fun h' => h'[b1]? = some (.cells ⟨[In k, In id]⟩ 78 (0, 0))) 8 9 rfl fol ?_)
                      all_goals (refine WH.take 0 rfl (by kernel_rfl) (by kernel_rfl) (by kernel_rfl) (by kernel_rfl) rfl (by first | exact Ext.refl _ _ | assumption) (fun hq hC => ok_move rfl) rfl rfl rfl ?_)
                      all_goals (refine WH.take 1 rfl (by kernel_rfl) (by kernel_rfl) (by kernel_rfl) (by kernel_rfl) rfl (by first | exact Ext.refl _ _ | assumption) (fun hq hC => ok_fieldAddr rfl Try.underlying78 rfl (fun w => Try.sizeOf3 w)) rfl rfl rfl ?_)
                      all_goals (refine WH.take 2 rfl (by kernel_rfl) (by kernel_rfl) (by kernel_rfl) (by kernel_rfl) rfl (by first | exact Ext.refl _ _ | assumption) (fun hq hC => ok_load (fun w => Try.isAgg3 w) rfl (cell_blk hC rfl)) rfl rfl rfl ?_)
                      all_goals (refine WH.take 4 rfl (by kernel_rfl) (by kernel_rfl) (by kernel_rfl) (by kernel_rfl) rfl (by first | exact Ext.refl _ _ | assumption) (fun hq hC => ok_fieldAddr rfl Try.underlying78 rfl (fun w => Try.sizeOf3 w)) rfl rfl rfl ?_)
                      all_goals (refine WH.take 5 rfl (by kernel_rfl) (by kernel_rfl) (by kernel_rfl) (by kernel_rfl) rfl (by first | exact Ext.refl _ _ | assumption) (fun hq hC => ok_load (fun w => Try.isAgg3 w) rfl (cell_blk hC rfl)) rfl rfl rfl ?_)
                      all_goals (refine WH.two 3 6 (by kernel_rfl) ?two2a ?two2b
                                 case' two2a =>
                                   all_goals (refine Comes1.call (vs := [_, _]) rfl rfl (fun a w => Try.call78 a w) rfl (without18 l id (by first | exact hr.ext0 hx1 | exact (hr.ext0 hx1).ext0 hx4) hm) rfl rfl rfl ?_ (fun _ => by kernel_rfl)
                                              rintro v3 h3 ⟨ho3, hx3, hf3⟩)
                                   all_goals (refine ⟨fun _ => hx3.obj (by assumption) nos, ?_⟩)
                                   all_goals (have hb3 := hx3.obj (b := b1) (by assumption) nos
                                              have hrl := rm_le l id)
                                   all_goals (refine WH.one 6 (by kernel_rfl) ?_)
                                   all_goals (refine Comes1.run rfl (okE_buildSlice (vs := [_]) (cs := [_]) (fun | [a0] => [a0] | _ => []) Try.underlying22 rfl rfl (by kernel_rfl)) rfl rfl rfl ?_ (fun _ => by kernel_rfl)
                                              rintro _ h4 ⟨b4, rfl, hg4, hb4, hx4⟩)
                                   all_goals (refine ⟨fun _ => hx4.obj (by assumption) nos, ?_⟩)
                                   all_goals (have hb14 := hx4.obj (b := b1) (by assumption) nos)
                                   all_goals (refine WH.one 7 (by kernel_rfl) ?_)
                                   all_goals (refine Comes1.run rfl (ok_append (sz := 1) (bytes := 8) rfl Try.underlying22 (show Try.prog.info? 3 = some Try.t3 by kernel_rfl) rfl rfl rfl rfl (by decide) rfl rfl (by first | exact ho3 | exact ho3.ext hx4 (fun _ _ => nos)) (by first | exact rd_blk hb4 rfl | exact (rd_blk hb4 rfl).ext0 hx3) (by simp [Value.oneCell']) (by simp only [maxLen]; omega) (by omega)) rfl rfl rfl ?_ (fun _ => by kernel_rfl)
                                              rintro v5 h5 ⟨ho5, hx5, hl5⟩)
                                   all_goals (refine ⟨fun _ => hx5.obj (b := b1) (by assumption) (fun e => own_ne ho3 hb3 (by decide) e), ?_⟩)
                                   all_goals (refine WH.one 8 (by kernel_rfl) ?_)
                                   all_goals (refine Comes1.run rfl (OkP.r (ok_assign rfl)) rfl rfl rfl ?_ (fun _ => by kernel_rfl)
                                              rintro _ hz ⟨rfl, _⟩
                                              subst hz)
                                   all_goals (refine ⟨fun e => (by cases e), ?_⟩)
                                   all_goals (refine WH.done (by kernel_rfl) ?_)
                                   skip
                                 case' two2b =>
                                   all_goals (refine Comes1.run rfl (okE_buildSlice (vs := [_]) (cs := [_]) (fun | [a0] => [a0] | _ => []) Try.underlying22 rfl rfl (by kernel_rfl)) rfl rfl rfl ?_ (fun _ => by kernel_rfl)
                                              rintro _ h4 ⟨b4, rfl, hg4, hb4, hx4⟩)
                                   all_goals (refine ⟨fun _ => hx4.obj (by assumption) nos, ?_⟩)
                                   all_goals (have hb14 := hx4.obj (b := b1) (by assumption) nos)
                                   all_goals (refine WH.one 3 (by kernel_rfl) ?_)
                                   all_goals (refine Comes1.call (vs := [_, _]) rfl rfl (fun a w => Try.call78 a w) rfl (without18 l id (by first | exact hr.ext0 hx1 | exact (hr.ext0 hx1).ext0 hx4) hm) rfl rfl rfl ?_ (fun _ => by kernel_rfl)
                                              rintro v3 h3 ⟨ho3, hx3, hf3⟩)
                                   all_goals (refine ⟨fun _ => hx3.obj (by assumption) nos, ?_⟩)
                                   all_goals (have hb3 := hx3.obj (b := b1) (by assumption) nos
                                              have hrl := rm_le l id)
                                   all_goals (refine WH.one 7 (by kernel_rfl) ?_)
                                   all_goals (refine Comes1.run rfl (ok_append (sz := 1) (bytes := 8) rfl Try.underlying22 (show Try.prog.info? 3 = some Try.t3 by kernel_rfl) rfl rfl rfl rfl (by decide) rfl rfl (by first | exact ho3 | exact ho3.ext hx4 (fun _ _ => nos)) (by first | exact rd_blk hb4 rfl | exact (rd_blk hb4 rfl).ext0 hx3) (by simp [Value.oneCell']) (by simp only [maxLen]; omega) (by omega)) rfl rfl rfl ?_ (fun _ => by kernel_rfl)
                                              rintro v5 h5 ⟨ho5, hx5, hl5⟩)
                                   all_goals (refine ⟨fun _ => hx5.obj (b := b1) (by assumption) (fun e => own_ne ho3 hb3 (by decide) e), ?_⟩)
                                   all_goals (refine WH.one 8 (by kernel_rfl) ?_)
                                   all_goals (refine Comes1.run rfl (OkP.r (ok_assign rfl)) rfl rfl rfl ?_ (fun _ => by kernel_rfl)
                                              rintro _ hz ⟨rfl, _⟩
                                              subst hz)
                                   all_goals (refine ⟨fun e => (by cases e), ?_⟩)
                                   all_goals (refine WH.done (by kernel_rfl) ?_)
                                   skip)
                      all_goals (repeat' (with_reducible first | refine thenP_n ?_ | refine blockP_n ?_))
                      all_goals (refine WC.sub [(4, _)] ⟨rfl, trivial⟩ ?_)
                      all_goals (refine WC.ret ?_)
                      all_goals (repeat' (with_reducible first | refine thenP_r ?_ | refine blockP_r ?_))
                      all_goals (refine retP_1 _ ⟨rfl, trivial⟩ ?_)
                      all_goals (first
                                  | exact NewL.mk' ((hx1.trans (nn _ _ _ _ hx3)).trans hx4) (fresh_of hl3 (by simp [Value.ownBlock]) hx1.size) (by first | (simp [oneL, *]; done) | simpa [oneL, *] using ho5) hx5 hl5
                                  | exact NewL.mk' ((hx1.trans hx4).trans (nn _ _ _ _ hx3)) (fresh_of hl3 (by simp [Value.ownBlock]) (hx1.trans hx4).size) (by first | (simp [oneL, *]; done) | simpa [oneL, *] using ho5) hx5 hl5
                                  | exact NewL.mk' ((hx1.trans hx3).trans hx4) (fun q hq => Nat.le_trans hx1.size (hf3 q hq)) (by first | (simp [oneL, toL, *]; done) | simpa [oneL, toL, *] using ho5) hx5 hl5
                                  | exact NewL.mk' ((hx1.trans hx4).trans hx3) (fun q hq => Nat.le_trans (hx1.trans hx4).size (hf3 q hq)) (by first | (simp [oneL, toL, *]; done) | simpa [oneL, toL, *] using ho5) hx5 hl5
                                  | exact ⟨(by first | (simp [oneL, *]; done) | simpa [oneL, *] using ho3), hx1.trans hx3, fun q hq => Nat.le_trans hx1.size (hf3 q hq)⟩
                                  | exact NewL.mk' hx1 (by simp [Value.ownBlock]) (by first | (simp [oneL, toL, *]; done) | simpa [oneL, toL, *] using ho3) hx3 hl3
                                  | (trace_state; sorry))
                      skip))
                 all_goals (first
                   | (fail_if_success (refine Br.mk (i := 10) ?_))
                   | (refine Br.mk (i := 10) ?_
                      all_goals (refine WC.skip ?_)
                      skip))
                 skip))
            all_goals (first
              | (fail_if_success (refine Br.mk (i := 8) ?_))
              | (refine Br.mk (i := 8) ?_
                 all_goals (refine WC.skip ?_)
                 skip))
            skip))
       skip))
  all_goals (repeat' (with_reducible first | refine thenP_n ?_ | refine blockP_n ?_))
  all_goals (refine WC.seq ?_)
  all_goals (refine WC.region ?_)
  all_goals (refine WL.step (ok_move rfl) rfl rfl rfl ?_)
  all_goals (refine WL.stepR (ok_append (sz := 1) (bytes := 8) rfl Try.underlying22 (show Try.prog.info? 3 = some Try.t3 by kernel_rfl) rfl rfl rfl rfl (by decide) rfl rfl (Own.nil _ _ _) (hr.ext0 hx1) (one_ints l) (by simp only [maxLen]; omega) (by omega)) rfl rfl rfl ?_
             rintro v3 h3 ⟨ho3, hx3, hl3⟩)
  all_goals (refine WL.step (ok_assign rfl) rfl rfl rfl ?_)
  all_goals (refine WL.nil ?_)
  all_goals (repeat' (with_reducible first | refine thenP_n ?_ | refine blockP_n ?_))
  all_goals (refine WC.sub [(4, _)] ⟨rfl, trivial⟩ ?_)
  all_goals (refine WC.ret ?_)
  all_goals (repeat' (with_reducible first | refine thenP_r ?_ | refine blockP_r ?_))
  all_goals (refine retP_1 _ ⟨rfl, trivial⟩ ?_)
  all_goals (first
              | exact NewL.mk' ((hx1.trans (nn _ _ _ _ hx3)).trans hx4) (fresh_of hl3 (by simp [Value.ownBlock]) hx1.size) (by first | (simp [oneL, *]; done) | simpa [oneL, *] using ho5) hx5 hl5
              | exact NewL.mk' ((hx1.trans hx4).trans (nn _ _ _ _ hx3)) (fresh_of hl3 (by simp [Value.ownBlock]) (hx1.trans hx4).size) (by first | (simp [oneL, *]; done) | simpa [oneL, *] using ho5) hx5 hl5
              | exact NewL.mk' ((hx1.trans hx3).trans hx4) (fun q hq => Nat.le_trans hx1.size (hf3 q hq)) (by first | (simp [oneL, toL, *]; done) | simpa [oneL, toL, *] using ho5) hx5 hl5
              | exact NewL.mk' ((hx1.trans hx4).trans hx3) (fun q hq => Nat.le_trans (hx1.trans hx4).size (hf3 q hq)) (by first | (simp [oneL, toL, *]; done) | simpa [oneL, toL, *] using ho5) hx5 hl5
              | exact ⟨(by first | (simp [oneL, *]; done) | simpa [oneL, *] using ho3), hx1.trans hx3, fun q hq => Nat.le_trans hx1.size (hf3 q hq)⟩
              | exact NewL.mk' hx1 (by simp [Value.ownBlock]) (by first | (simp [oneL, toL, *]; done) | simpa [oneL, toL, *] using ho3) hx3 hl3
              | (trace_state; sorry))
theorem cop_at {h : Heap} {b o k : Nat} {ops : List COp} {y : COp} (hat : At h b o (ops.flatMap copCells)) (hy : ops[k]? = some y) : At h b (o + k * 2) [In y.1, In y.2.1] := At.elem copCells_len hat hy
set_option maxRecDepth 100000 in
theorem fold18 {h : Heap} {v w : Value} (l : List Int) (ops : List COp) (hr : Rd h v 1 l.length (ints l)) (ho : Ops h w ops) (hm : l.length + ops.length ≤ 100000) :
    CallsH Try.prog 32 ⟨[v, w]⟩ h fun u h' => NewL h u (foldL l ops) h' := by
  obtain ⟨ho, hob⟩ := ho
  obtain ⟨A, c, rfl, _⟩ := _root_.id hr
  obtain ⟨B, d, rfl, _⟩ := id ho
  have nn : ∀ (h1 h2 : Heap) (n m : Nat), Ext (fun k => (Value.slice none n m).ownBlock = some k) h1 h2 → Ext No h1 h2 := fun h1 h2 n m e => e.mono fun k _ hk => by simp [Value.ownBlock] at hk
  refine calls [(0, _), (1, _)] Try.func32 rfl Try.ntmps32 rfl ⟨rfl, rfl, trivial⟩ ?_
  all_goals (refine WC.seq ?_)
  all_goals (refine WC.region ?_)
  all_goals (refine WL.step (ok_assign rfl) rfl rfl rfl ?_)
  all_goals (refine WL.nil ?_)
  all_goals (repeat' (with_reducible first | refine thenP_n ?_ | refine blockP_n ?_))
  all_goals (refine WC.seq ?_)
  all_goals (refine WC.region ?_)
  all_goals (refine WL.step (ok_move rfl) rfl rfl rfl ?_)
  all_goals (refine WL.stepR (ok_append (sz := 1) (bytes := 8) rfl Try.underlying22 (show Try.prog.info? 3 = some Try.t3 by kernel_rfl) rfl rfl rfl rfl (by decide) rfl rfl (Own.nil _ _ _) hr (one_ints l) (by simp only [maxLen]; omega) (by omega)) rfl rfl rfl ?_
             rintro v1 h1 ⟨ho1, hx1, hl1⟩)
  all_goals (have hX1 := nn _ _ _ _ hx1
             have hf1 := fresh_of (B := h.size) hl1 (by simp [Value.ownBlock]) (Nat.le_refl _))
  all_goals (refine WL.step (ok_assign rfl) rfl rfl rfl ?_)
  all_goals (refine WL.nil ?_)
  all_goals (repeat' (with_reducible first | refine thenP_n ?_ | refine blockP_n ?_))
  all_goals (refine WC.sub [(1, _), (5, _)] ⟨rfl, rfl, trivial⟩ ?_)
  all_goals (refine WC.seq ?_)
  all_goals (refine WC.seq ?_)
  all_goals (refine WC.region ?_)
  all_goals (refine WL.step (ok_assign rfl) rfl rfl rfl ?_)
  all_goals (refine WL.nil ?_)
  all_goals (repeat' (with_reducible first | refine thenP_n ?_ | refine blockP_n ?_))
  all_goals (refine WC.block ?_)
  -- loop 0: slots that turn [5, 6], that stay [1]
  all_goals (refine WC.loopG (X := Nat × Value) (fun x => ([(6, In (x.1 : Int)), (5, x.2)] : Fr)) [(1, _)] (fun x h' => x.1 ≤ ops.length ∧ NewL h x.2 (foldL l (ops.take x.1)) h') (fun x => ops.length - x.1) ((0, v1)) ⟨rfl, rfl, rfl, trivial⟩ (by exact ⟨Nat.zero_le _, by simpa [foldL] using ho1, hX1, hf1⟩) ?_)
  all_goals (rintro ⟨k, v2⟩ h2 ⟨hk, ho2, hx2, hf2⟩
             simp only at hk ho2 hf2
             have hle := fold_len (ops.take k) l
             rw [List.length_take] at hle)
  all_goals (refine WC.sub [(5, _), (6, _), (1, _)] ⟨rfl, rfl, rfl, trivial⟩ ?_)
  all_goals (dsimp only)
  all_goals (refine WC.seq ?_)
  all_goals (refine WC.seq ?_)
  all_goals (refine WC.region ?_)
  all_goals (refine WL.step (ok_move rfl) rfl rfl rfl ?_)
  all_goals (refine WL.step (ok_move rfl) rfl rfl rfl ?_)
  all_goals (refine WL.step (ok_lenL rfl Try.underlying40 rfl) rfl rfl rfl ?_)
  all_goals (first | (refine WL.step (OkP.bool_t (by omega) (ok_lss rfl rfl)) rfl rfl rfl ?_) | (refine WL.step (OkP.bool_f (by omega) (ok_lss rfl rfl)) rfl rfl rfl ?_) | (refine WL.step (ok_lss rfl rfl) rfl rfl rfl ?_))
  all_goals (refine WL.nil ?_)
  all_goals (repeat' (with_reducible first | refine thenP_n ?_ | refine blockP_n ?_))
  all_goals (first | refine WC.condB_t 1 rfl ?_ | refine WC.condB_f 2 rfl ?_ | (refine WC.condB 1 2 rfl (fun hb => ?_) (fun hb => ?_) <;> (first | replace hb := of_decide_eq_true hb | replace hb := of_decide_eq_false hb | replace hb := of_decide_eq_false (nt hb) | replace hb := of_decide_eq_true (nf hb) | skip)))
  all_goals (first
    | (fail_if_success (refine Br.mk (i := 1) ?_))
    | (refine Br.mk (i := 1) ?_
       all_goals (refine WC.skip ?_)
       skip))
  all_goals (first
    | (fail_if_success (refine Br.mk (i := 2) ?_))
    | (refine Br.mk (i := 2) ?_
       all_goals (refine WC.exit ?_)
       all_goals (repeat' (with_reducible first | refine thenP_x ?_ | refine blockP_miss rfl ?_ | refine blockP_hit ?_ | refine blockP_n ?_ | refine thenP_n ?_))
       all_goals (refine Br.out (i := 1000) ?_)
       skip))
  all_goals (first | (refine Br.keep ?_) | (repeat' (with_reducible first | refine thenP_n ?_ | refine blockP_n ?_)))
  all_goals (first | (refine Br.keep ?_) | (refine WC.sub [(1, _), (5, _), (6, _)] ⟨rfl, rfl, rfl, trivial⟩ ?_))
  all_goals (first | (refine Br.keep ?_) | (refine WC.seq ?_))
  all_goals (first | (refine Br.keep ?_) | (refine WC.block ?_))
  all_goals (first
               | (refine Br.keep ?_)
               | (obtain ⟨b1, o1, hA, hbL, hat⟩ := Rd.at_ (ho.ext0 hx2) (by omega)
                  obtain ⟨y, hy⟩ : ∃ y, ops[k]? = some y := ⟨_, List.getElem?_eq_getElem (by omega)⟩
                  have hc := cop_at hat hy))
  all_goals (first | (refine Br.keep ?_) | (refine WC.region ?_))
  all_goals (first | (refine Br.keep ?_) | (refine WL.step (ok_move rfl) rfl rfl rfl ?_))
  all_goals (first | (refine Br.keep ?_) | (refine WL.step (ok_move rfl) rfl rfl rfl ?_))
  all_goals (first | (refine Br.keep ?_) | (refine WL.step (ok_move rfl) rfl rfl rfl ?_))
  all_goals (first | (refine Br.keep ?_) | (refine WL.step (ok_idxAddrA Try.underlying40 (fun w => Try.sizeOf78 w) rfl rfl rfl (by omega) (by first | rfl | assumption)) rfl rfl rfl ?_))
  all_goals (first | (refine Br.keep ?_) | (refine WL.step (ok_loadN (fun w => Try.isAgg78 w) (fun w => Try.sizeOf78 w) rfl rfl (by assumption)) rfl rfl rfl ?_))
  all_goals (first
               | (refine Br.keep ?_)
               | (refine WL.call (vs := [_, _]) rfl (fun a w => Try.call57 a w) rfl (one18 _ y.1 y.2.1 ho2.rd (by omega)) rfl rfl rfl ?_
                  rintro v3 h3 ⟨ho3, hx3, hf3⟩))
  all_goals (first | (refine Br.keep ?_) | (refine WL.step (ok_assign rfl) rfl rfl rfl ?_))
  all_goals (first | (refine Br.keep ?_) | (refine WL.nil ?_))
  all_goals (first | (refine Br.keep ?_) | (repeat' (with_reducible first | refine thenP_n ?_ | refine blockP_n ?_)))
  all_goals (first | (refine Br.keep ?_) | (refine WC.sub [(1, _), (5, _), (6, _)] ⟨rfl, rfl, rfl, trivial⟩ ?_))
  all_goals (first | (refine Br.keep ?_) | (refine WC.region ?_))
  all_goals (first | (refine Br.keep ?_) | (refine WL.step (ok_move rfl) rfl rfl rfl ?_))
  all_goals (first | (refine Br.keep ?_) | (first | (refine WL.step (ok_addI rfl rfl (by omega)) rfl rfl rfl ?_) | (refine WL.step (ok_add rfl rfl) rfl rfl rfl ?_)))
  all_goals (first | (refine Br.keep ?_) | (refine WL.step (ok_assign rfl) rfl rfl rfl ?_))
  all_goals (first | (refine Br.keep ?_) | (refine WL.nil ?_))
  all_goals (first | (refine Br.keep ?_) | (repeat' (with_reducible first | refine thenP_n ?_ | refine blockP_n ?_)))
  all_goals (first | (refine Br.keep ?_) | (exact ⟨(k + 1, _), ⟨rfl, rfl, rfl, trivial⟩, (by exact ⟨by simp; omega, by show Own _ _ _ _ (foldL l (ops.take (k + 1))).length _; rw [foldL, foldl_take _ _ _ hy]; exact ho3, hx2.trans hx3, fun q hq => Nat.le_trans hx2.size (hf3 q hq)⟩), (by simp; omega)⟩))
  all_goals (try (refine Br.mk (i := 1000) ?_))
  all_goals (repeat' (with_reducible first | refine thenP_n ?_ | refine blockP_n ?_))
  all_goals (refine WC.sub [(5, _)] ⟨rfl, trivial⟩ ?_)
  all_goals (refine WC.seq ?_)
  all_goals (refine WC.region ?_)
  all_goals (refine WL.step (ok_move rfl) rfl rfl rfl ?_)
  all_goals (refine WL.step (ok_assign rfl) rfl rfl rfl ?_)
  all_goals (refine WL.nil ?_)
  all_goals (repeat' (with_reducible first | refine thenP_n ?_ | refine blockP_n ?_))
  all_goals (refine WC.ret ?_)
  all_goals (repeat' (with_reducible first | refine thenP_r ?_ | refine blockP_r ?_))
  all_goals (refine retP_1 _ ⟨rfl, trivial⟩ ?_)
  all_goals (rw [List.take_of_length_le (by omega)] at ho2
             exact ⟨ho2, hx2, hf2⟩)

set_option maxRecDepth 100000 in
/-! ### package cache: Fold -/
theorem fold_fn {h : Heap} {b : Nat} {kd id : Int} {t : TypeId} (hb : h[b]? = some (.cells ⟨[In kd, In id]⟩ t (0, 0))) (x : Int) :
    CallsH Try.prog 58 ⟨[In x, .pointer (some ⟨b, 0, none⟩)]⟩ h fun u h' => u = .bool (decide (x = id)) ∧ h' = h := by
  refine calls [(0, _), (1, _)] Try.func58 rfl Try.ntmps58 rfl ⟨rfl, rfl, trivial⟩ ?_
  all_goals (refine WC.seq ?_)
  all_goals (refine WC.region ?_)
  all_goals (refine WL.step (ok_assign rfl) rfl rfl rfl ?_)
  all_goals (refine WL.nil ?_)
  all_goals (repeat' (with_reducible first | refine thenP_n ?_ | refine blockP_n ?_))
  all_goals (refine WC.seq ?_)
  all_goals (refine WC.region ?_)
  all_goals (refine WL.step (ok_move rfl) rfl rfl rfl ?_)
  all_goals (refine WL.step (ok_fieldAddr rfl Try.underlying78 rfl (fun w => Try.sizeOf3 w)) rfl rfl rfl ?_)
  all_goals (refine WL.step (ok_load (fun w => Try.isAgg3 w) rfl (by first | assumption | exact cell_blk (by assumption) rfl)) rfl rfl rfl ?_)
  all_goals (first | (refine WL.step (OkP.bool_t (by omega) (ok_eql rfl rfl)) rfl rfl rfl ?_) | (refine WL.step (OkP.bool_f (by omega) (ok_eql rfl rfl)) rfl rfl rfl ?_) | (refine WL.step (ok_eql rfl rfl) rfl rfl rfl ?_))
  all_goals (refine WL.step (ok_assign rfl) rfl rfl rfl ?_)
  all_goals (refine WL.nil ?_)
  all_goals (repeat' (with_reducible first | refine thenP_n ?_ | refine blockP_n ?_))
  all_goals (refine WC.sub [(3, _)] ⟨rfl, trivial⟩ ?_)
  all_goals (refine WC.ret ?_)
  all_goals (repeat' (with_reducible first | refine thenP_r ?_ | refine blockP_r ?_))
  all_goals (refine retP_1 _ ⟨rfl, trivial⟩ ?_)
  all_goals (exact ⟨rfl, rfl⟩)
theorem rm_not (l : List Int) (id : Int) : (l.filter fun x => !decide (x = id)) = rmL l id := by
  unfold rmL
  congr 1
  funext x
  simp
set_option maxRecDepth 100000 in
theorem fold_any {h : Heap} {v w : Value} (l : List Int) (ops : List COp) (hr : Rd h v 1 l.length (ints l)) (ho : Ops h w ops) (hm : l.length + ops.length ≤ 100000) :
    CallsH Try.prog 31 ⟨[v, w]⟩ h fun u h' => NewL h u (foldL l ops) h' := by
  obtain ⟨ho, hob⟩ := ho
  obtain ⟨A, c, rfl, _⟩ := _root_.id hr
  obtain ⟨B, d, rfl, _⟩ := id ho
  refine calls [(0, _), (1, _)] Try.func31 rfl Try.ntmps31 rfl ⟨rfl, rfl, trivial⟩ ?_
  all_goals (refine WC.seq ?_)
  all_goals (refine WC.region ?_)
  all_goals (refine WL.step (ok_assign rfl) rfl rfl rfl ?_)
  all_goals (refine WL.nil ?_)
  all_goals (repeat' (with_reducible first | refine thenP_n ?_ | refine blockP_n ?_))
  all_goals (refine WC.seq ?_)
  all_goals (refine WC.region ?_)
  all_goals (refine WL.step (ok_move rfl) rfl rfl rfl ?_)
  all_goals (refine WL.call (vs := [_]) rfl (fun a w => Try.call46 a w) rfl (clone_int l hr (by omega)) rfl rfl rfl ?_
             rintro v1 h1 ⟨ho1, hx1, hf1⟩)
  all_goals (refine WL.step (ok_assign rfl) rfl rfl rfl ?_)
  all_goals (refine WL.nil ?_)
  all_goals (repeat' (with_reducible first | refine thenP_n ?_ | refine blockP_n ?_))
  all_goals (refine WC.sub [(1, _), (5, _)] ⟨rfl, rfl, trivial⟩ ?_)
  all_goals (refine WC.seq ?_)
  all_goals (refine WC.seq ?_)
  all_goals (refine WC.region ?_)
  all_goals (refine WL.step (ok_move rfl) rfl rfl rfl ?_)
  all_goals (refine WL.step (ok_lenL rfl Try.underlying40 rfl) rfl rfl rfl ?_)
  all_goals (refine WL.step (ok_move rfl) rfl rfl rfl ?_)
  all_goals (refine WL.nil ?_)
  all_goals (repeat' (with_reducible first | refine thenP_n ?_ | refine blockP_n ?_))
  all_goals (refine WC.block ?_)
  -- loop 0: slots that turn [5, 13], that stay [11, 12]
  all_goals (refine WC.loopG (X := Nat × Value) (fun x => ([(13, In (x.1 : Int)), (5, x.2)] : Fr)) [(11, _), (12, _)] (fun x h' => x.1 ≤ ops.length ∧ NewL h x.2 (foldL l (ops.take x.1)) h') (fun x => ops.length - x.1) ((0, v1)) ⟨rfl, rfl, rfl, rfl, trivial⟩ (by exact ⟨Nat.zero_le _, by simpa [foldL] using ho1, hx1, hf1⟩) ?_)
  all_goals (rintro ⟨k, v2⟩ h2 ⟨hk, ho2, hx2, hf2⟩
             simp only at hk ho2 hf2
             have hle := fold_len (ops.take k) l
             rw [List.length_take] at hle
             obtain ⟨A2, c2, rfl, _⟩ := ho2.slice)
  all_goals (refine WC.sub [(5, _), (13, _), (11, _), (12, _)] ⟨rfl, rfl, rfl, rfl, trivial⟩ ?_)
  all_goals (dsimp only)
  all_goals (refine WC.seq ?_)
  all_goals (refine WC.region ?_)
  all_goals (first | (refine WL.step (OkP.bool_t (by omega) (ok_lss rfl rfl)) rfl rfl rfl ?_) | (refine WL.step (OkP.bool_f (by omega) (ok_lss rfl rfl)) rfl rfl rfl ?_) | (refine WL.step (ok_lss rfl rfl) rfl rfl rfl ?_))
  all_goals (refine WL.nil ?_)
  all_goals (repeat' (with_reducible first | refine thenP_n ?_ | refine blockP_n ?_))
  all_goals (refine WC.seq ?_)
  all_goals (first | refine WC.condB_t 1 rfl ?_ | refine WC.condB_f 2 rfl ?_ | (refine WC.condB 1 2 rfl (fun hb => ?_) (fun hb => ?_) <;> (first | replace hb := of_decide_eq_true hb | replace hb := of_decide_eq_false hb | replace hb := of_decide_eq_false (nt hb) | replace hb := of_decide_eq_true (nf hb) | skip)))
  all_goals (first
    | (fail_if_success (refine Br.mk (i := 1) ?_))
    | (refine Br.mk (i := 1) ?_
       all_goals (refine WC.skip ?_)
       skip))
  all_goals (first
    | (fail_if_success (refine Br.mk (i := 2) ?_))
    | (refine Br.mk (i := 2) ?_
       all_goals (refine WC.exit ?_)
       all_goals (repeat' (with_reducible first | refine thenP_x ?_ | refine blockP_miss rfl ?_ | refine blockP_hit ?_ | refine blockP_n ?_ | refine thenP_n ?_))
       all_goals (refine Br.out (i := 1000) ?_)
       skip))
  all_goals (first | (refine Br.keep ?_) | (repeat' (with_reducible first | refine thenP_n ?_ | refine blockP_n ?_)))
  all_goals (first | (refine Br.keep ?_) | (refine WC.seq ?_))
  all_goals (first | (refine Br.keep ?_) | (refine WC.block ?_))
  all_goals (first | (refine Br.keep ?_) | (refine WC.seq ?_))
  all_goals (first
               | (refine Br.keep ?_)
               | (obtain ⟨bL, oL, hA, hbL, hat⟩ := Rd.at_ (ho.ext0 hx2) (by omega)
                  obtain ⟨⟨kd, id, _⟩, hy⟩ : ∃ y, ops[k]? = some y := ⟨_, List.getElem?_eq_getElem (by omega)⟩
                  have hc : At h2 bL (oL + k * 2) [In kd, In id] := cop_at hat hy
                  have hft : foldL l (ops.take (k + 1)) = oneL (foldL l (ops.take k)) kd id := foldl_take _ _ _ hy))
  all_goals (first | (refine Br.keep ?_) | (refine WC.region ?_))
  all_goals (first | (refine Br.keep ?_) | (refine WL.step (ok_idxAddrA Try.underlying40 (fun w => Try.sizeOf78 w) rfl rfl rfl (by omega) (by first | rfl | assumption)) rfl rfl rfl ?_))
  all_goals (first | (refine Br.keep ?_) | (refine WL.step (ok_loadN (fun w => Try.isAgg78 w) (fun w => Try.sizeOf78 w) rfl rfl (by assumption)) rfl rfl rfl ?_))
  all_goals (first
               | (refine Br.keep ?_)
               | (refine WL.stepR (okE_alloc (fun w => Try.zeroValue78 w)) rfl rfl rfl ?_
                  rintro _ h3 ⟨b3, rfl, hg3, hb3, hx3⟩))
  all_goals (first
               | (refine Br.keep ?_)
               | (refine WL.stepR0 (okE_storeW (fun w => Try.sizeOf78 w) rfl rfl rfl (by assumption) rfl (by simp [Value.oneCell'])) rfl rfl ?_
                  rintro _ h4 ⟨hb4, hx4⟩))
  all_goals (first
               | (refine Br.keep ?_)
               | (have hX4 := hx3.trans' hx4 (fun q hq e => by omega)
                  have ho4 := ho2.ext hX4 (fun _ _ => nos)
                  have hn3 : ∀ q, A2.map (·.block) = some q → q ≠ b3 := fun q hq => by have := ho2.lt (k := q) (by cases A2 <;> simp_all [Value.ownBlock]); omega))
  all_goals (first | (refine Br.keep ?_) | (refine WL.nil ?_))
  all_goals (first | (refine Br.keep ?_) | (repeat' (with_reducible first | refine thenP_n ?_ | refine blockP_n ?_)))
  all_goals (first | (refine Br.keep ?_) | (refine WC.seq ?_))
  all_goals (first | (refine Br.keep ?_) | (refine WC.region ?_))
  all_goals (first | (refine Br.keep ?_) | (refine WL.step (ok_move rfl) rfl rfl rfl ?_))
  all_goals (first | (refine Br.keep ?_) | (refine WL.step (ok_fieldAddr rfl Try.underlying78 rfl (fun w => Try.sizeOf3 w)) rfl rfl rfl ?_))
  all_goals (first | (refine Br.keep ?_) | (refine WL.step (ok_load (fun w => Try.isAgg3 w) rfl (by first | assumption | exact cell_blk (by assumption) rfl)) rfl rfl rfl ?_))
  all_goals (first
               | (refine Br.keep ?_)
               | (refine WL.call (vs := [_, _]) rfl (fun a w => Try.call35 a w) rfl (contains_int _ id ho4.rd (by unfold maxLen; omega)) rfl rfl rfl ?_
                  rintro _ hz ⟨rfl, _⟩
                  subst hz))
  all_goals (first | (refine Br.keep ?_) | (refine WL.step (ok_assign rfl) rfl rfl rfl ?_))
  all_goals (first | (refine Br.keep ?_) | (refine WL.nil ?_))
  all_goals (first | (refine Br.keep ?_) | (repeat' (with_reducible first | refine thenP_n ?_ | refine blockP_n ?_)))
  all_goals (first | (refine Br.keep ?_) | (refine WC.sub [(5, _), (7, _), (8, _), (11, _), (12, _), (13, _)] ⟨rfl, rfl, rfl, rfl, rfl, rfl, trivial⟩ ?_))
  all_goals (first | (refine Br.keep ?_) | (refine WC.seq ?_))
  all_goals (first | (refine Br.keep ?_) | (refine WC.seq ?_))
  all_goals (first | (refine Br.keep ?_) | (refine WC.region ?_))
  all_goals (first | (refine Br.keep ?_) | (refine WL.step (ok_move rfl) rfl rfl rfl ?_))
  all_goals (first | (refine Br.keep ?_) | (refine WL.step (ok_move rfl) rfl rfl rfl ?_))
  all_goals (first | (refine Br.keep ?_) | (try ((fail_if_success (refine WL.part 22 (b := true) rfl (fun _ => ?_) (fun _ => ?_))); (fail_if_success (refine WL.part 22 (b := false) rfl (fun _ => ?_) (fun _ => ?_))); (refine WL.part 22 rfl (fun hb => ?_) (fun hb => ?_) <;> (first | replace hb := of_decide_eq_true hb | replace hb := of_decide_eq_false hb | replace hb := of_decide_eq_false (nt hb) | replace hb := of_decide_eq_true (nf hb) | skip)))))
  all_goals (first | (refine Br.keep ?_) | (first | (refine WL.pass rfl rfl rfl ?_) | (refine WL.step (ok_fieldAddr rfl Try.underlying78 rfl (fun w => Try.sizeOf3 w)) rfl rfl rfl ?_)))
  all_goals (first | (refine Br.keep ?_) | (first | (refine WL.pass rfl rfl rfl ?_) | (refine WL.step (ok_load (fun w => Try.isAgg3 w) rfl (by first | assumption | exact cell_blk (by assumption) rfl)) rfl rfl rfl ?_)))
  all_goals (first | (refine Br.keep ?_) | (first | (refine WL.pass rfl rfl rfl ?_) | (first | (refine WL.step (OkP.bool_t (by omega) (ok_eql rfl rfl)) rfl rfl rfl ?_) | (refine WL.step (OkP.bool_f (by omega) (ok_eql rfl rfl)) rfl rfl rfl ?_) | (refine WL.step (ok_eql rfl rfl) rfl rfl rfl ?_))))
  all_goals (first | (refine Br.keep ?_) | (first | (refine WL.pass rfl rfl rfl ?_) | (refine WL.step (ok_move rfl) rfl rfl rfl ?_)))
  all_goals (first | (refine Br.keep ?_) | (try ((fail_if_success (refine WL.part 26 (b := true) rfl (fun _ => ?_) (fun _ => ?_))); (fail_if_success (refine WL.part 26 (b := false) rfl (fun _ => ?_) (fun _ => ?_))); (refine WL.part 26 rfl (fun hb => ?_) (fun hb => ?_) <;> (first | replace hb := of_decide_eq_true hb | replace hb := of_decide_eq_false hb | replace hb := of_decide_eq_false (nt hb) | replace hb := of_decide_eq_true (nf hb) | skip)))))
  all_goals (first | (refine Br.keep ?_) | (first | (refine WL.pass rfl rfl rfl ?_) | (refine WL.step (ok_fieldAddr rfl Try.underlying78 rfl (fun w => Try.sizeOf3 w)) rfl rfl rfl ?_)))
  all_goals (first | (refine Br.keep ?_) | (first | (refine WL.pass rfl rfl rfl ?_) | (refine WL.step (ok_load (fun w => Try.isAgg3 w) rfl (by first | assumption | exact cell_blk (by assumption) rfl)) rfl rfl rfl ?_)))
  all_goals (first | (refine Br.keep ?_) | (first | (refine WL.pass rfl rfl rfl ?_) | (first | (refine WL.step (OkP.bool_t (by omega) (ok_eql rfl rfl)) rfl rfl rfl ?_) | (refine WL.step (OkP.bool_f (by omega) (ok_eql rfl rfl)) rfl rfl rfl ?_) | (refine WL.step (ok_eql rfl rfl) rfl rfl rfl ?_))))
  all_goals (first | (refine Br.keep ?_) | (first | (refine WL.pass rfl rfl rfl ?_) | (first | (refine WL.step (ok_pick_t rfl rfl) rfl rfl rfl ?_) | (refine WL.step (ok_pick_f rfl rfl) rfl rfl rfl ?_))))
  all_goals (first | (refine Br.keep ?_) | (first | (refine WL.step (ok_pick_t rfl rfl) rfl rfl rfl ?_) | (refine WL.step (ok_pick_f rfl rfl) rfl rfl rfl ?_)))
  all_goals (first | (refine Br.keep ?_) | (refine WL.nil ?_))
  all_goals (first | (refine Br.keep ?_) | (repeat' (with_reducible first | refine thenP_n ?_ | refine blockP_n ?_)))
  all_goals (first | (refine Br.keep ?_) | (refine WC.sub [(5, _), (7, _), (8, _), (11, _), (12, _), (13, _), (31, _)] ⟨rfl, rfl, rfl, rfl, rfl, rfl, rfl, trivial⟩ ?_))
  all_goals (first | (refine Br.keep ?_) | (first | refine WC.condB_t 3 rfl ?_ | refine WC.condB_f 4 rfl ?_ | (refine WC.condB 3 4 rfl (fun hb => ?_) (fun hb => ?_) <;> (first | replace hb := of_decide_eq_true hb | replace hb := of_decide_eq_false hb | replace hb := of_decide_eq_false (nt hb) | replace hb := of_decide_eq_true (nf hb) | skip))))
  all_goals (first
    | (fail_if_success (refine Br.mk (i := 3) ?_))
    | (refine Br.mk (i := 3) ?_
       all_goals (refine WC.region ?_)
       all_goals (refine WL.step (ok_move rfl) rfl rfl rfl ?_)
       all_goals (refine WL.step (ok_makeFunc (vs := []) (us := [_]) rfl rfl) rfl rfl rfl ?_)
       all_goals (refine WL.call (vs := [_, _]) rfl (fun a w => Try.call54 a w) rfl (deleteFunc_int _ (fun x => decide (x = id)) (fun a w => Try.call58 a w) (fs := []) (us := [.pointer (some ⟨b3, 0, none⟩)]) ho4 (by omega) (fun x _ h' hx' => fold_fn (hx'.obj hb4 (fun e => hn3 _ e rfl)) x)) rfl rfl rfl ?_
                  rintro v5 h5 ⟨ho5, hx5, hl5⟩)
       all_goals (rw [rm_not] at ho5
                  have hb5 := hx5.obj hb4 (fun e => hn3 _ e rfl)
                  have hf5 : ∀ q, v5.ownBlock = some q → h.size ≤ q := fun q hq => hf2 q (by rw [hl5] at hq; cases A2 <;> simp_all [Value.ownBlock])
                  have hX5 := (hx2.trans hX4).trans' hx5 (fun q hq e => by have := hf2 q (by cases A2 <;> simp_all [Value.ownBlock]); omega)
                  have hle5 := rm_le (foldL l (ops.take k)) id
                  clear ho4)
       all_goals (refine WL.step (ok_assign rfl) rfl rfl rfl ?_)
       all_goals (refine WL.nil ?_)
       skip))
  all_goals (first
    | (fail_if_success (refine Br.mk (i := 4) ?_))
    | (refine Br.mk (i := 4) ?_
       all_goals (refine WC.skip ?_)
       skip))
  all_goals (first | (refine Br.keep ?_) | (repeat' (with_reducible first | refine thenP_n ?_ | refine blockP_n ?_)))
  all_goals (first | (refine Br.keep ?_) | (refine WC.seq ?_))
  all_goals (first | (refine Br.keep ?_) | (refine WC.region ?_))
  all_goals (first | (refine Br.keep ?_) | (refine WL.step (ok_fieldAddr rfl Try.underlying78 rfl (fun w => Try.sizeOf3 w)) rfl rfl rfl ?_))
  all_goals (first | (refine Br.keep ?_) | (refine WL.step (ok_load (fun w => Try.isAgg3 w) rfl (by first | assumption | exact cell_blk (by assumption) rfl)) rfl rfl rfl ?_))
  all_goals (first | (refine Br.keep ?_) | (first | (refine WL.step (OkP.bool_t (by omega) (ok_eql rfl rfl)) rfl rfl rfl ?_) | (refine WL.step (OkP.bool_f (by omega) (ok_eql rfl rfl)) rfl rfl rfl ?_) | (refine WL.step (ok_eql rfl rfl) rfl rfl rfl ?_)))
  all_goals (first | (refine Br.keep ?_) | (refine WL.step (ok_move rfl) rfl rfl rfl ?_))
  all_goals (first | (refine Br.keep ?_) | (try ((fail_if_success (refine WL.part 38 (b := true) rfl (fun _ => ?_) (fun _ => ?_))); (fail_if_success (refine WL.part 38 (b := false) rfl (fun _ => ?_) (fun _ => ?_))); (refine WL.part 38 rfl (fun hb => ?_) (fun hb => ?_) <;> (first | replace hb := of_decide_eq_true hb | replace hb := of_decide_eq_false hb | replace hb := of_decide_eq_false (nt hb) | replace hb := of_decide_eq_true (nf hb) | skip)))))
  all_goals (first | (refine Br.keep ?_) | (first | (refine WL.pass rfl rfl rfl ?_) | (refine WL.step (ok_move rfl) rfl rfl rfl ?_)))
  all_goals (first | (refine Br.keep ?_) | (first | (refine WL.pass rfl rfl rfl ?_) | (refine WL.step (ok_not rfl) rfl rfl rfl ?_)))
  all_goals (first | (refine Br.keep ?_) | (first | (refine WL.step (ok_pick_t rfl rfl) rfl rfl rfl ?_) | (refine WL.step (ok_pick_f rfl rfl) rfl rfl rfl ?_)))
  all_goals (first | (refine Br.keep ?_) | (refine WL.step (ok_move rfl) rfl rfl rfl ?_))
  all_goals (first | (refine Br.keep ?_) | (try ((fail_if_success (refine WL.part 42 (b := true) rfl (fun _ => ?_) (fun _ => ?_))); (fail_if_success (refine WL.part 42 (b := false) rfl (fun _ => ?_) (fun _ => ?_))); (refine WL.part 42 rfl (fun hb => ?_) (fun hb => ?_) <;> (first | replace hb := of_decide_eq_true hb | replace hb := of_decide_eq_false hb | replace hb := of_decide_eq_false (nt hb) | replace hb := of_decide_eq_true (nf hb) | skip)))))
  all_goals (first | (refine Br.keep ?_) | (first | (refine WL.pass rfl rfl rfl ?_) | (refine WL.step (ok_fieldAddr rfl Try.underlying78 rfl (fun w => Try.sizeOf3 w)) rfl rfl rfl ?_)))
  all_goals (first | (refine Br.keep ?_) | (first | (refine WL.pass rfl rfl rfl ?_) | (refine WL.step (ok_load (fun w => Try.isAgg3 w) rfl (by first | assumption | exact cell_blk (by assumption) rfl)) rfl rfl rfl ?_)))
  all_goals (first | (refine Br.keep ?_) | (first | (refine WL.pass rfl rfl rfl ?_) | (first | (refine WL.step (OkP.bool_t (by omega) (ok_eql rfl rfl)) rfl rfl rfl ?_) | (refine WL.step (OkP.bool_f (by omega) (ok_eql rfl rfl)) rfl rfl rfl ?_) | (refine WL.step (ok_eql rfl rfl) rfl rfl rfl ?_))))
  all_goals (first | (refine Br.keep ?_) | (first | (refine WL.pass rfl rfl rfl ?_) | (refine WL.step (ok_move rfl) rfl rfl rfl ?_)))
  all_goals (first | (refine Br.keep ?_) | (try ((fail_if_success (refine WL.part 46 (b := true) rfl (fun _ => ?_) (fun _ => ?_))); (fail_if_success (refine WL.part 46 (b := false) rfl (fun _ => ?_) (fun _ => ?_))); (refine WL.part 46 rfl (fun hb => ?_) (fun hb => ?_) <;> (first | replace hb := of_decide_eq_true hb | replace hb := of_decide_eq_false hb | replace hb := of_decide_eq_false (nt hb) | replace hb := of_decide_eq_true (nf hb) | skip)))))
  all_goals (first | (refine Br.keep ?_) | (first | (refine WL.pass rfl rfl rfl ?_) | (refine WL.step (ok_move rfl) rfl rfl rfl ?_)))
  all_goals (first | (refine Br.keep ?_) | (first | (refine WL.pass rfl rfl rfl ?_) | (first | (refine WL.step (ok_pick_t rfl rfl) rfl rfl rfl ?_) | (refine WL.step (ok_pick_f rfl rfl) rfl rfl rfl ?_))))
  all_goals (first | (refine Br.keep ?_) | (first | (refine WL.step (ok_pick_t rfl rfl) rfl rfl rfl ?_) | (refine WL.step (ok_pick_f rfl rfl) rfl rfl rfl ?_)))
  all_goals (first | (refine Br.keep ?_) | (refine WL.nil ?_))
  all_goals (first | (refine Br.keep ?_) | (repeat' (with_reducible first | refine thenP_n ?_ | refine blockP_n ?_)))
  all_goals (first | (refine Br.keep ?_) | (refine WC.sub [(5, _), (7, _), (11, _), (12, _), (13, _), (49, _)] ⟨rfl, rfl, rfl, rfl, rfl, rfl, trivial⟩ ?_))
  all_goals (first | (refine Br.keep ?_) | (first | refine WC.condB_t 5 rfl ?_ | refine WC.condB_f 6 rfl ?_ | (refine WC.condB 5 6 rfl (fun hb => ?_) (fun hb => ?_) <;> (first | replace hb := of_decide_eq_true hb | replace hb := of_decide_eq_false hb | replace hb := of_decide_eq_false (nt hb) | replace hb := of_decide_eq_true (nf hb) | skip))))
  all_goals (first
    | (fail_if_success (refine Br.mk (i := 5) ?_))
    | (refine Br.mk (i := 5) ?_
       all_goals (refine WC.region ?_)
       all_goals (refine WL.step (ok_move rfl) rfl rfl rfl ?_)
       all_goals (refine WL.step (ok_fieldAddr rfl Try.underlying78 rfl (fun w => Try.sizeOf3 w)) rfl rfl rfl ?_)
       all_goals (refine WL.step (ok_load (fun w => Try.isAgg3 w) rfl (by first | assumption | exact cell_blk (by assumption) rfl)) rfl rfl rfl ?_)
       all_goals (refine WL.stepR (okE_buildSlice (vs := [_]) (cs := [_]) (fun | [a0] => [a0] | _ => []) Try.underlying22 rfl rfl (by kernel_rfl)) rfl rfl rfl ?_
                  rintro _ h6 ⟨b6, rfl, hg6, hb6, hx6⟩)
       all_goals (refine WL.stepR (ok_append (sz := 1) (bytes := 8) rfl Try.underlying22 (show Try.prog.info? 3 = some Try.t3 by kernel_rfl) rfl rfl rfl rfl (by decide) rfl rfl (by first | exact ho4.ext hx6 (fun _ _ => nos) | exact ho5.ext hx6 (fun _ _ => nos)) (rd_blk hb6 rfl) (by simp [Value.oneCell']) (by simp only [maxLen]; omega) (by omega)) rfl rfl rfl ?_
                  rintro v7 h7 ⟨ho7, hx7, hl7⟩)
       all_goals (refine WL.step (ok_assign rfl) rfl rfl rfl ?_)
       all_goals (refine WL.nil ?_)
       skip))
  all_goals (first
    | (fail_if_success (refine Br.mk (i := 6) ?_))
    | (refine Br.mk (i := 6) ?_
       all_goals (refine WC.skip ?_)
       skip))
  all_goals (first | (refine Br.keep ?_) | (repeat' (with_reducible first | refine thenP_n ?_ | refine blockP_n ?_)))
  all_goals (first | (refine Br.keep ?_) | (refine WC.region ?_))
  all_goals (first | (refine Br.keep ?_) | (first | (refine WL.step (ok_addI rfl rfl (by omega)) rfl rfl rfl ?_) | (refine WL.step (ok_add rfl rfl) rfl rfl rfl ?_)))
  all_goals (first | (refine Br.keep ?_) | (refine WL.step (ok_move rfl) rfl rfl rfl ?_))
  all_goals (first | (refine Br.keep ?_) | (refine WL.nil ?_))
  all_goals (first | (refine Br.keep ?_) | (repeat' (with_reducible first | refine thenP_n ?_ | refine blockP_n ?_)))
  all_goals (first
               | (refine Br.keep ?_)
               | (exact ⟨(k + 1, _), ⟨rfl, rfl, rfl, rfl, trivial⟩, (by first
                   | (exfalso; exact absurd ‹id ∈ foldL l (ops.take k)› ‹¬ id ∈ foldL l (ops.take k)›)
                   | exact ⟨by simp; omega, by show NewL h _ (foldL l (ops.take (k + 1))) _; rw [hft, show oneL (foldL l (ops.take k)) kd id = rmL (foldL l (ops.take k)) id ++ [id] by simp [oneL, toL, mem_rm, *]]; exact NewL.mk' (hX5.trans hx6) hf5 (by simpa using ho7) hx7 hl7⟩
                   | exact ⟨by simp; omega, by show NewL h _ (foldL l (ops.take (k + 1))) _; rw [hft, show oneL (foldL l (ops.take k)) kd id = foldL l (ops.take k) ++ [id] by simp [oneL, toL, mem_rm, *]]; exact NewL.mk' ((hx2.trans hX4).trans hx6) hf2 (by simpa using ho7) hx7 hl7⟩
                   | exact ⟨by simp; omega, by show NewL h _ (foldL l (ops.take (k + 1))) _; rw [hft, show oneL (foldL l (ops.take k)) kd id = rmL (foldL l (ops.take k)) id by simp [oneL, toL, mem_rm, *]]; exact ⟨ho5, hX5, hf5⟩⟩
                   | exact ⟨by simp; omega, by show NewL h _ (foldL l (ops.take (k + 1))) _; rw [hft, show oneL (foldL l (ops.take k)) kd id = foldL l (ops.take k) by simp [oneL, toL, mem_rm, *]]; exact ⟨ho4, hx2.trans hX4, hf2⟩⟩), (by simp; omega)⟩))
  all_goals (try (refine Br.mk (i := 1000) ?_))
  all_goals (repeat' (with_reducible first | refine thenP_n ?_ | refine blockP_n ?_))
  all_goals (refine WC.sub [(5, _)] ⟨rfl, trivial⟩ ?_)
  all_goals (refine WC.seq ?_)
  all_goals (refine WC.region ?_)
  all_goals (refine WL.step (ok_move rfl) rfl rfl rfl ?_)
  all_goals (refine WL.step (ok_assign rfl) rfl rfl rfl ?_)
  all_goals (refine WL.nil ?_)
  all_goals (repeat' (with_reducible first | refine thenP_n ?_ | refine blockP_n ?_))
  all_goals (refine WC.ret ?_)
  all_goals (repeat' (with_reducible first | refine thenP_r ?_ | refine blockP_r ?_))
  all_goals (refine retP_1 _ ⟨rfl, trivial⟩ ?_)
  all_goals (rw [show foldL l ops = foldL l (ops.take k) by rw [List.take_of_length_le (by omega)]]
             exact ⟨ho2, hx2, hf2⟩)
end Go.Proofs.Ytkejihockkhnoaa

