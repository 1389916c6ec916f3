/-
  PORTAL (layer 28): the document's: a portal put among them.
-/
import Derived.Test.YtgfbilmlgibbfaaPort6
namespace Go.Proofs.Ytgfbilmlgibbfaa
open Go Go.RK

theorem delL_none {α : Type} {L : List (List UInt8 × α)} {n : List UInt8} (h : getL L n = none) : delL L n = L :=
  List.filter_eq_self.2 fun p hp => by simpa using getL_no h p hp
theorem delL_le {α : Type} (L : List (List UInt8 × α)) (n : List UInt8) : (delL L n).length ≤ L.length := List.length_filter_le _ _
theorem setL_out {α : Type} {L : List (List UInt8 × α)} {k : Nat} {n : List UInt8} {v : α} (hk : k ≤ L.length) (h1 : ∀ p ∈ L.take k, p.1 < n) (h2 : ∀ p, L[k]? = some p → ¬ p.1 < n) (h3 : ∀ p ∈ L, p.1 ≠ n) : setL L n v = L.take k ++ (n, v) :: L.drop k := by
  rw [setL_at h1 h2 hk]
  rcases hq : L[k]? with _ | q
  · have := List.getElem?_eq_none_iff.1 hq
    simp only
    rw [List.take_of_length_le this, List.drop_of_length_le this]
  · simp only
    rw [if_neg (h3 q (List.mem_of_getElem? hq))]
theorem take_ltP {L : List (List UInt8 × It28)} {k : Nat} {n : List UInt8} {y : List UInt8 × It28} (h : ∀ p ∈ L.take k, p.1 < n) (hy : L[k]? = some y) (hn : y.1 < n) : ∀ p ∈ L.take (k + 1), p.1 < n := by
  intro p hp
  rw [List.take_add_one, hy] at hp
  simp only [Option.toList_some, List.mem_append, List.mem_singleton] at hp
  rcases hp with hp | rfl
  · exact h p hp
  · exact hn
set_option maxRecDepth 100000 in
theorem put28_tw {B : Nat} {h : Heap} {b : Nat} {v : Value} {L : List (List UInt8 × It28)} (r : Xs B h b v L) (hri : Rise L) {n : List UInt8} {it : It28} (hg : getL L n = some it) (hl : L.length ≤ 1000) (hn : n ≠ []) (e : PD) :
    CallsH Try.prog 65 ⟨[.pointer (some ⟨b, 0, none⟩), St n, .agg ⟨e.cells⟩]⟩ h fun u h' => u = In 8 ∧ Ext No h h' := by
  obtain ⟨k, hk, hno, _⟩ := pos_of hri hg
  have hpl := fun h' (a : Ext No h h') => place_yes (r.ext0 a) n hl hk hno
  refine calls [(0, _), (1, _), (2, _)] Try.func65 rfl Try.ntmps65 rfl ⟨rfl, rfl, rfl, trivial⟩ ?_
  all_goals (refine WC.seq ?_)
  all_goals (refine WC.region ?_)
  all_goals (refine WL.stepR (okE_box rfl) rfl rfl rfl ?_
             rintro _ h1 ⟨b1, rfl, hg1, hb1, hx1⟩)
  all_goals (refine WL.step (ok_assign rfl) rfl rfl rfl ?_)
  all_goals (refine WL.nil ?_)
  all_goals (repeat' (with_reducible first | refine thenP_n ?_ | refine blockP_n ?_))
  all_goals (refine WC.seq ?_)
  all_goals (refine WC.seq ?_)
  all_goals (refine WC.region ?_)
  all_goals (refine WL.step (ok_move rfl) rfl rfl rfl ?_)
  all_goals (first | (refine WL.step (OkP.nbool_f (by first | rfl | assumption | decide) (ok_neqS rfl rfl)) rfl rfl rfl ?_) | (refine WL.step (OkP.nbool_t (by first | assumption | decide) (ok_neqS rfl rfl)) rfl rfl rfl ?_) | (refine WL.step (ok_neqS rfl rfl) rfl rfl rfl ?_))
  all_goals (refine WL.step (ok_move rfl) rfl rfl rfl ?_)
  all_goals (try ((fail_if_success (refine WL.part 10 (b := true) rfl (fun _ => ?_) (fun _ => ?_))); (fail_if_success (refine WL.part 10 (b := false) rfl (fun _ => ?_) (fun _ => ?_))); (refine WL.part 10 rfl (fun hb => ?_) (fun hb => ?_) <;> (first | replace hb := of_decide_eq_true hb | replace hb := of_decide_eq_false hb | replace hb := of_decide_eq_false (nt hb) | replace hb := of_decide_eq_true (nf hb) | skip))))
  all_goals (first | (refine WL.pass rfl rfl rfl ?_) | (refine WL.step (ok_move rfl) rfl rfl rfl ?_))
  all_goals (first | (refine WL.pass rfl rfl rfl ?_) | (refine WL.step (ok_move rfl) rfl rfl rfl ?_))
  all_goals (first
               | (refine WL.pass rfl rfl rfl ?_)
               | (refine WL.call (vs := [_, _]) rfl (fun a w => Try.call104 a w) rfl (hpl _ hx1) rfl rfl rfl ?_
                  rintro _ hz ⟨rfl, _⟩
                  subst hz))
  all_goals (first | (refine WL.pass rfl rfl rfl ?_) | (first | (refine WL.step (OkP.bool_t (by omega) (ok_geq rfl rfl)) rfl rfl rfl ?_) | (refine WL.step (OkP.bool_f (by omega) (ok_geq rfl rfl)) rfl rfl rfl ?_) | (refine WL.step (ok_geq rfl rfl) rfl rfl rfl ?_)))
  all_goals (first | (refine WL.step (ok_pick_t rfl rfl) rfl rfl rfl ?_) | (refine WL.step (ok_pick_f rfl rfl) rfl rfl rfl ?_))
  all_goals (refine WL.nil ?_)
  all_goals (repeat' (with_reducible first | refine thenP_n ?_ | refine blockP_n ?_))
  all_goals (refine WC.sub [(0, _), (1, _), (5, _), (15, _)] ⟨rfl, rfl, rfl, rfl, trivial⟩ ?_)
  all_goals (first | refine WC.condB_t 1 rfl ?_ | refine WC.condB_f 2 rfl ?_ | (refine WC.condB 1 2 rfl (fun hb => ?_) (fun hb => ?_) <;> (first | replace hb := of_decide_eq_true hb | replace hb := of_decide_eq_false hb | replace hb := of_decide_eq_false (nt hb) | replace hb := of_decide_eq_true (nf hb) | skip)))
  all_goals (first
    | (fail_if_success (refine Br.mk (i := 1) ?_))
    | (refine Br.mk (i := 1) ?_
       all_goals (refine WC.seq ?_)
       all_goals (refine WC.region ?_)
       all_goals (refine WL.step (ok_assign rfl) rfl rfl rfl ?_)
       all_goals (refine WL.nil ?_)
       all_goals (repeat' (with_reducible first | refine thenP_n ?_ | refine blockP_n ?_))
       all_goals (refine WC.sub [(6, _)] ⟨rfl, trivial⟩ ?_)
       all_goals (refine WC.ret ?_)
       all_goals (repeat' (with_reducible first | refine thenP_r ?_ | refine blockP_r ?_))
       all_goals (refine retP_1 _ ⟨rfl, trivial⟩ ?_)
       all_goals (exact ⟨rfl, hx1⟩)
       skip))
  all_goals (first
    | (fail_if_success (refine Br.mk (i := 2) ?_))
    | (refine Br.mk (i := 2) ?_
       all_goals (refine WC.skip ?_)
       skip))
  all_goals (repeat' (with_reducible first | refine thenP_n ?_ | refine blockP_n ?_))
  all_goals (refine WC.seq ?_)
  all_goals (refine WC.region ?_)
  all_goals (refine WL.step (ok_move rfl) rfl rfl rfl ?_)
  all_goals (refine WL.step (ok_move rfl) rfl rfl rfl ?_)
  all_goals (fail "no contract for call of (*remuda/remudaref28.Set).Delete at 3.2")
  all_goals (refine WL.nil ?_)
  all_goals (repeat' (with_reducible first | refine thenP_n ?_ | refine blockP_n ?_))
  all_goals (refine WC.sub [(0, _), (1, _), (5, _)] ⟨rfl, rfl, rfl, trivial⟩ ?_)
  all_goals (refine WC.seq ?_)
  all_goals (refine WC.region ?_)
  all_goals (refine WL.step (ok_assign rfl) rfl rfl rfl ?_)
  all_goals (refine WL.nil ?_)
  all_goals (repeat' (with_reducible first | refine thenP_n ?_ | refine blockP_n ?_))
  all_goals (refine WC.seq ?_)
  all_goals (refine WC.block ?_)
  -- loop 0: slots that turn [7], that stay [0, 1, 5]
  all_goals (refine WC.loopG (fun x => (None : Fr)) [(0, _), (1, _), (5, _)] (None) (None) (None) ⟨rfl, rfl, rfl, rfl, trivial⟩ (by exact ⟨⟩) ?_)
  all_goals (rintro x h1 hI)
  all_goals (refine WC.sub [(7, _), (0, _), (1, _), (5, _)] ⟨rfl, rfl, rfl, rfl, trivial⟩ ?_)
  all_goals (refine WC.seq ?_)
  all_goals (refine WC.seq ?_)
  all_goals (refine WC.region ?_)
  all_goals (refine WL.step (ok_move rfl) rfl rfl rfl ?_)
  all_goals (refine WL.step (ok_move rfl) rfl rfl rfl ?_)
  all_goals (refine WL.step (ok_nilCheck rfl) rfl rfl rfl ?_)
  all_goals (refine WL.step (ok_fieldAddr rfl Try.underlying113 rfl (fun w => Try.sizeOf111 w)) rfl rfl rfl ?_)
  all_goals (refine WL.step (ok_load (fun w => Try.isAgg111 w) rfl (by first | assumption | exact cell_blk (by assumption) rfl)) rfl rfl rfl ?_)
  all_goals (refine WL.step (ok_lenL rfl Try.underlying111 rfl) rfl rfl rfl ?_)
  all_goals (first | (refine WL.step (OkP.bool_t (by omega) (ok_lss rfl rfl)) rfl rfl rfl ?_) | (refine WL.step (OkP.bool_f (by omega) (ok_lss rfl rfl)) rfl rfl rfl ?_) | (refine WL.step (ok_lss rfl rfl) rfl rfl rfl ?_))
  all_goals (refine WL.step (ok_move rfl) rfl rfl rfl ?_)
  all_goals (try ((fail_if_success (refine WL.part 26 (b := true) rfl (fun _ => ?_) (fun _ => ?_))); (fail_if_success (refine WL.part 26 (b := false) rfl (fun _ => ?_) (fun _ => ?_))); (refine WL.part 26 rfl (fun hb => ?_) (fun hb => ?_) <;> (first | replace hb := of_decide_eq_true hb | replace hb := of_decide_eq_false hb | replace hb := of_decide_eq_false (nt hb) | replace hb := of_decide_eq_true (nf hb) | skip))))
  all_goals (first | (refine WL.pass rfl rfl rfl ?_) | (refine WL.step (ok_move rfl) rfl rfl rfl ?_))
  all_goals (first | (refine WL.pass rfl rfl rfl ?_) | (refine WL.step (ok_nilCheck rfl) rfl rfl rfl ?_))
  all_goals (first | (refine WL.pass rfl rfl rfl ?_) | (refine WL.step (ok_fieldAddr rfl Try.underlying113 rfl (fun w => Try.sizeOf111 w)) rfl rfl rfl ?_))
  all_goals (first | (refine WL.pass rfl rfl rfl ?_) | (refine WL.step (ok_load (fun w => Try.isAgg111 w) rfl (by first | assumption | exact cell_blk (by assumption) rfl)) rfl rfl rfl ?_))
  all_goals (first | (refine WL.pass rfl rfl rfl ?_) | (refine WL.step (ok_move rfl) rfl rfl rfl ?_))
  all_goals (first | (refine WL.pass rfl rfl rfl ?_) | (refine WL.step (ok_idxAddrA Try.underlying111 (fun w => Try.sizeOf122 w) rfl rfl rfl (by omega) (by first | rfl | assumption)) rfl rfl rfl ?_))
  all_goals (first | (refine WL.pass rfl rfl rfl ?_) | (refine WL.step (ok_fieldAddr rfl Try.underlying122 rfl (fun w => Try.sizeOf9 w)) rfl rfl rfl ?_))
  all_goals (first | (refine WL.pass rfl rfl rfl ?_) | (refine WL.step (ok_load (fun w => Try.isAgg9 w) rfl (by first | assumption | exact cell_blk (by assumption) rfl)) rfl rfl rfl ?_))
  all_goals (first | (refine WL.pass rfl rfl rfl ?_) | (refine WL.step (ok_move rfl) rfl rfl rfl ?_))
  all_goals (first | (refine WL.pass rfl rfl rfl ?_) | (refine WL.step (ok_lssS rfl rfl) rfl rfl rfl ?_))
  all_goals (first | (refine WL.step (ok_pick_t rfl rfl) rfl rfl rfl ?_) | (refine WL.step (ok_pick_f rfl rfl) rfl rfl rfl ?_))
  all_goals (refine WL.nil ?_)
  all_goals (repeat' (with_reducible first | refine thenP_n ?_ | refine blockP_n ?_))
  all_goals (refine WC.sub [(0, _), (1, _), (5, _), (7, _), (37, _)] ⟨rfl, rfl, rfl, rfl, rfl, trivial⟩ ?_)
  all_goals (first | refine WC.condB_t 3 rfl ?_ | refine WC.condB_f 4 rfl ?_ | (refine WC.condB 3 4 rfl (fun hb => ?_) (fun hb => ?_) <;> (first | replace hb := of_decide_eq_true hb | replace hb := of_decide_eq_false hb | replace hb := of_decide_eq_false (nt hb) | replace hb := of_decide_eq_true (nf hb) | skip)))
  all_goals (first
    | (fail_if_success (refine Br.mk (i := 3) ?_))
    | (refine Br.mk (i := 3) ?_
       all_goals (refine WC.skip ?_)
       skip))
  all_goals (first
    | (fail_if_success (refine Br.mk (i := 4) ?_))
    | (refine Br.mk (i := 4) ?_
       all_goals (refine WC.exit ?_)
       all_goals (repeat' (with_reducible first | refine thenP_x ?_ | refine blockP_miss rfl ?_ | refine blockP_hit ?_ | refine blockP_n ?_ | refine thenP_n ?_))
       all_goals (refine Br.out (i := 1000) ?_)
       skip))
  all_goals (first | (refine Br.keep ?_) | (repeat' (with_reducible first | refine thenP_n ?_ | refine blockP_n ?_)))
  all_goals (first | (refine Br.keep ?_) | (refine WC.block ?_))
  all_goals (first | (refine Br.keep ?_) | (refine WC.region ?_))
  all_goals (first | (refine Br.keep ?_) | (refine WL.step (ok_move rfl) rfl rfl rfl ?_))
  all_goals (first | (refine Br.keep ?_) | (first | (refine WL.step (ok_addI rfl rfl (by omega)) rfl rfl rfl ?_) | (refine WL.step (ok_add rfl rfl) rfl rfl rfl ?_)))
  all_goals (first | (refine Br.keep ?_) | (refine WL.step (ok_assign rfl) rfl rfl rfl ?_))
  all_goals (first | (refine Br.keep ?_) | (refine WL.nil ?_))
  all_goals (first | (refine Br.keep ?_) | (repeat' (with_reducible first | refine thenP_n ?_ | refine blockP_n ?_)))
  all_goals (first | (refine Br.keep ?_) | (exact ⟨None, ⟨rfl, rfl, rfl, rfl, trivial⟩, (by exact ⟨⟩), (by simp; omega)⟩))
  all_goals (try (refine Br.mk (i := 1000) ?_))
  all_goals (repeat' (with_reducible first | refine thenP_n ?_ | refine blockP_n ?_))
  all_goals (refine WC.seq ?_)
  all_goals (refine WC.drawE fol (by kernel_rfl) ?_)
  all_goals (refine WQ.stepE (ok_move rfl) rfl rfl rfl ?_)
  all_goals (refine WQ.stepE (ok_move rfl) rfl rfl rfl ?_)
  all_goals (refine WQ.stepE (ok_nilCheck rfl) rfl rfl rfl ?_)
  all_goals (refine WQ.stepE (ok_fieldAddr rfl Try.underlying113 rfl (fun w => Try.sizeOf111 w)) rfl rfl rfl ?_)
  all_goals (refine WQ.stepE (ok_load (fun w => Try.isAgg111 w) rfl (by first | assumption | exact cell_blk (by assumption) rfl)) rfl rfl rfl ?_)
  all_goals (refine WQ.stepE (ok_move rfl) rfl rfl rfl ?_)
  all_goals (first | (refine WQ.stepE (ok_slice_hN Try.underlying111 (fun w => Try.sizeOf122 w) rfl rfl (by omega)) rfl rfl rfl ?_) | (refine WQ.stepE (ok_slice_h Try.underlying111 (fun w => Try.sizeOf122 w) rfl rfl (by omega)) rfl rfl rfl ?_))
  all_goals (refine WL.stepR (ok_append (sz := 7) (bytes := 112) rfl Try.underlying111 (show Try.prog.info? 122 = some Try.t122 by kernel_rfl) rfl rfl rfl rfl (by decide) rfl rfl (by assumption) (by first | assumption | exact rd_blk (by assumption) rfl) (by simp [Value.oneCell']) (by simp only [maxLen]; omega) (by omega)) rfl rfl rfl ?_
             rintro v1 h1 ⟨ho1, hx1, hl1⟩)
  all_goals (refine WQ.stepE (ok_move rfl) rfl rfl rfl ?_)
  all_goals (refine WQ.stepE (ok_loadN (fun w => Try.isAgg117 w) (fun w => Try.sizeOf117 w) rfl rfl (by assumption)) rfl rfl rfl ?_)
  all_goals (refine WQ.stepE (ok_buildF (vs := [_, _]) (cs := [_, _, _, _, _, _, _]) (fun | [a0, .agg ⟨[a1, a2, a3, a4, a5, a6]⟩] => [a0, a1, a2, a3, a4, a5, a6] | _ => []) rfl rfl (by kernel_rfl)) rfl rfl rfl ?_)
  all_goals (refine WL.stepR (okE_buildSlice (vs := [_]) (cs := [_, _, _, _, _, _, _]) (fun | [.agg ⟨[a0, a1, a2, a3, a4, a5, a6]⟩] => [a0, a1, a2, a3, a4, a5, a6] | _ => []) Try.underlying111 rfl rfl (by kernel_rfl)) rfl rfl rfl ?_
             rintro _ h1 ⟨b1, rfl, hg1, hb1, hx1⟩)
  all_goals (refine WL.stepR (ok_append (sz := 7) (bytes := 112) rfl Try.underlying111 (show Try.prog.info? 122 = some Try.t122 by kernel_rfl) rfl rfl rfl rfl (by decide) rfl rfl (by assumption) (by first | assumption | exact rd_blk (by assumption) rfl) (by simp [Value.oneCell']) (by simp only [maxLen]; omega) (by omega)) rfl rfl rfl ?_
             rintro v1 h1 ⟨ho1, hx1, hl1⟩)
  all_goals (refine WQ.stepE (ok_move rfl) rfl rfl rfl ?_)
  all_goals (refine WQ.stepE (ok_nilCheck rfl) rfl rfl rfl ?_)
  all_goals (refine WQ.stepE (ok_fieldAddr rfl Try.underlying113 rfl (fun w => Try.sizeOf111 w)) rfl rfl rfl ?_)
  all_goals (refine WQ.stepE (ok_load (fun w => Try.isAgg111 w) rfl (by first | assumption | exact cell_blk (by assumption) rfl)) rfl rfl rfl ?_)
  all_goals (refine WQ.stepE (ok_move rfl) rfl rfl rfl ?_)
  all_goals (first | (refine WQ.stepE (ok_slice_lN Try.underlying111 (fun w => Try.sizeOf122 w) rfl rfl (by omega)) rfl rfl rfl ?_) | (refine WQ.stepE (ok_slice_lS Try.underlying111 (fun w => Try.sizeOf122 w) rfl rfl (by omega)) rfl rfl rfl ?_) | (refine WQ.stepE (ok_slice_l Try.underlying111 (fun w => Try.sizeOf122 w) rfl rfl (by omega)) rfl rfl rfl ?_))
  all_goals (refine WL.stepR (ok_append (sz := 7) (bytes := 112) rfl Try.underlying111 (show Try.prog.info? 122 = some Try.t122 by kernel_rfl) rfl rfl rfl rfl (by decide) rfl rfl (by assumption) (by first | assumption | exact rd_blk (by assumption) rfl) (by simp [Value.oneCell']) (by simp only [maxLen]; omega) (by omega)) rfl rfl rfl ?_
             rintro v1 h1 ⟨ho1, hx1, hl1⟩)
  all_goals (refine WQ.stepE (ok_nilCheck rfl) rfl rfl rfl ?_)
  all_goals (refine WQ.stepE (ok_fieldAddr rfl Try.underlying113 rfl (fun w => Try.sizeOf111 w)) rfl rfl rfl ?_)
  all_goals (refine WL.stepR0 (okE_store (fun w => Try.sizeOf111 w) rfl rfl (by assumption) (Nat.le_of_ble_eq_true rfl) rfl rfl) rfl rfl ?_
             rintro _ h1 ⟨hb1, hx1⟩)
  all_goals (refine WQ.nil ?_)
  all_goals (repeat' (with_reducible first | refine thenP_n ?_ | refine blockP_n ?_))
  all_goals (refine WC.sub [] trivial ?_)
  all_goals (refine WC.seq ?_)
  all_goals (refine WC.region ?_)
  all_goals (refine WL.step (ok_assign rfl) rfl rfl rfl ?_)
  all_goals (refine WL.nil ?_)
  all_goals (repeat' (with_reducible first | refine thenP_n ?_ | refine blockP_n ?_))
  all_goals (refine WC.ret ?_)
  all_goals (repeat' (with_reducible first | refine thenP_r ?_ | refine blockP_r ?_))
  all_goals (refine retP_1 _ ⟨rfl, trivial⟩ ?_)
  all_goals (exact ⟨rfl, hx1⟩)
theorem del28_any {B : Nat} {h : Heap} {b : Nat} {v : Value} {L : List (List UInt8 × It28)} (r : Xs B h b v L) (hri : Rise L) (n : List UInt8) (hl : L.length ≤ 1000) :
    CallsH Try.prog 68 ⟨[.pointer (some ⟨b, 0, none⟩), St n]⟩ h fun u h' => u = .bool (getL L n).isSome ∧ ∃ v', Xs B h' b v' (delL L n) ∧ Ext (fun q => q = b) h h' := by
  rcases hg : getL L n with _ | i0
  · intro w hw
    refine (del28_no r hg hl w hw).mono fun e w' ⟨hs, u, he, hu, hh⟩ => ⟨hs, u, he, hu, v, ?_, ?_⟩
    · rw [delL_none hg, hh]; exact r
    · rw [hh]; exact .refl _ _
  · intro w hw
    exact (del28 r hri hg hl w hw).mono fun e w' ⟨hs, u, he, hu, v', hx, hh, _⟩ => ⟨hs, u, he, hu, v', hx, hh⟩
set_option maxHeartbeats 4000000 in
set_option maxRecDepth 100000 in
theorem put28 {B : Nat} {h : Heap} {b : Nat} {v : Value} {L : List (List UInt8 × It28)} (r : Xs B h b v L) (hri : Rise L) {n : List UInt8} (hl : L.length ≤ 1000) (hn : n = [] ∨ getL L n = none) (it : It28) (he : it.e.ok h) (hf : ∀ k, it.e.F k → k < B) :
    CallsH Try.prog 65 ⟨[.pointer (some ⟨b, 0, none⟩), St n, .agg ⟨it.e.cells⟩]⟩ h fun u h' => u = In 0 ∧ ∃ v', Xs B h' b v' (setL L n it) ∧ Ext (fun q => q = b) h h' ∧ ∀ q, v'.ownBlock = some q → h.size ≤ q := by
  have hcs : n = [] ∨ (n ≠ [] ∧ getL L n = none) := by
    by_cases e : n = []
    · exact .inl e
    · exact .inr ⟨e, hn.resolve_left e⟩
  have hit : St n :: it.e.cells = slC (n, it) := rfl
  obtain ⟨ip, idd, ⟨text, vo, oids, vp, ps, vr, rs, ran, over⟩⟩ := it
  have hone := pd_one he
  have heo := he.oids
  have hep := he.ps
  have her := he.rs
  simp only at heo hep her
  obtain ⟨Ao, co, rfl, _⟩ := id heo
  obtain ⟨_, ⟨_, Ap, cp, rfl, _⟩, _⟩ := id hep
  obtain ⟨_, ⟨_, Ar, cr, rfl, _⟩, _⟩ := id her
  dsimp only [PD.cells] at hit hone ⊢
  have hle1 := delL_le L n
  have hbl := lt_of_some r.blk
  have hlo := r.lo
  have hL1no : ∀ p ∈ delL L n, p.1 ≠ n := fun p hp => by simpa using (List.mem_filter.1 hp).2
  have hL1ri := hri.del n
  have hdel := fun h' (a : Ext No h h') => del28_any (r.ext0 a) hri n hl
  rw [← setL_del hri]
  generalize delL L n = L1 at *
  rcases hcs with hne | ⟨hne, hg⟩
  all_goals
    refine calls [(0, _), (1, _), (2, _)] Try.func65 rfl Try.ntmps65 rfl ⟨rfl, rfl, rfl, trivial⟩ ?_
    all_goals (refine WC.seq ?_)
    all_goals (refine WC.region ?_)
    all_goals (refine WL.stepR (okE_box rfl) rfl rfl rfl ?_
               rintro _ h1 ⟨b1, rfl, hg1, hb1, hx1⟩)
    all_goals (have r1 := r.ext0 hx1)
    all_goals (refine WL.step (ok_assign rfl) rfl rfl rfl ?_)
    all_goals (refine WL.nil ?_)
    all_goals (repeat' (with_reducible first | refine thenP_n ?_ | refine blockP_n ?_))
    all_goals (refine WC.seq ?_)
    all_goals (refine WC.seq ?_)
    all_goals (refine WC.region ?_)
    all_goals (refine WL.step (ok_move rfl) rfl rfl rfl ?_)
    all_goals (first | (refine WL.step (OkP.nbool_f (by first | rfl | assumption | decide) (ok_neqS rfl rfl)) rfl rfl rfl ?_) | (refine WL.step (OkP.nbool_t (by first | assumption | decide) (ok_neqS rfl rfl)) rfl rfl rfl ?_) | (refine WL.step (ok_neqS rfl rfl) rfl rfl rfl ?_))
    all_goals (refine WL.step (ok_move rfl) rfl rfl rfl ?_)
    all_goals (try ((fail_if_success (refine WL.part 10 (b := true) rfl (fun _ => ?_) (fun _ => ?_))); (fail_if_success (refine WL.part 10 (b := false) rfl (fun _ => ?_) (fun _ => ?_))); (refine WL.part 10 rfl (fun hb => ?_) (fun hb => ?_) <;> (first | replace hb := of_decide_eq_true hb | replace hb := of_decide_eq_false hb | replace hb := of_decide_eq_false (nt hb) | replace hb := of_decide_eq_true (nf hb) | skip))))
    all_goals (first | (refine WL.pass rfl rfl rfl ?_) | (refine WL.step (ok_move rfl) rfl rfl rfl ?_))
    all_goals (first | (refine WL.pass rfl rfl rfl ?_) | (refine WL.step (ok_move rfl) rfl rfl rfl ?_))
    all_goals (first
                 | (refine WL.pass rfl rfl rfl ?_)
                 | (refine WL.call (vs := [_, _]) rfl (fun a w => Try.call104 a w) rfl (place_no r1 n hl hg) rfl rfl rfl ?_
                    rintro _ hz ⟨rfl, _⟩
                    subst hz))
    all_goals (first | (refine WL.pass rfl rfl rfl ?_) | (first | (refine WL.step (OkP.bool_t (by omega) (ok_geq rfl rfl)) rfl rfl rfl ?_) | (refine WL.step (OkP.bool_f (by omega) (ok_geq rfl rfl)) rfl rfl rfl ?_) | (refine WL.step (ok_geq rfl rfl) rfl rfl rfl ?_)))
    all_goals (first | (refine WL.step (ok_pick_t rfl rfl) rfl rfl rfl ?_) | (refine WL.step (ok_pick_f rfl rfl) rfl rfl rfl ?_))
    all_goals (refine WL.nil ?_)
    all_goals (repeat' (with_reducible first | refine thenP_n ?_ | refine blockP_n ?_))
    all_goals (refine WC.sub [(0, _), (1, _), (5, _), (15, _)] ⟨rfl, rfl, rfl, rfl, trivial⟩ ?_)
    all_goals (first | refine WC.condB_t 1 rfl ?_ | refine WC.condB_f 2 rfl ?_ | (refine WC.condB 1 2 rfl (fun hb => ?_) (fun hb => ?_) <;> (first | replace hb := of_decide_eq_true hb | replace hb := of_decide_eq_false hb | replace hb := of_decide_eq_false (nt hb) | replace hb := of_decide_eq_true (nf hb) | skip)))
    all_goals (first
      | (fail_if_success (refine Br.mk (i := 1) ?_))
      | (refine Br.mk (i := 1) ?_
         all_goals (refine WC.seq ?_)
         all_goals (refine WC.region ?_)
         all_goals (refine WL.step (ok_assign rfl) rfl rfl rfl ?_)
         all_goals (refine WL.nil ?_)
         all_goals (repeat' (with_reducible first | refine thenP_n ?_ | refine blockP_n ?_))
         all_goals (refine WC.sub [(6, _)] ⟨rfl, trivial⟩ ?_)
         all_goals (refine WC.ret ?_)
         all_goals (repeat' (with_reducible first | refine thenP_r ?_ | refine blockP_r ?_))
         all_goals (refine retP_1 _ ⟨rfl, trivial⟩ ?_)
         all_goals (refine ⟨rfl, _, ⟨hb22, by rw [hout, hlen, List.flatMap_append, List.flatMap_cons, ← List.append_assoc]; exact ho22, fun q hq => ?_, hlo, fun q hq => by have := hf19 q hq; omega, fun q hq => ?_⟩, hXX, fun q hq => by have := hf19 q hq; omega⟩
                    all_goals (rw [hout] at hq; rcases List.mem_append.1 hq with hq | hq)
                    exact (hok2 q (List.mem_of_mem_take hq)).ext hX22 (fun k' hk' e => by have := hfe2 q (List.mem_of_mem_take hq) k' hk'; omega)
                    rcases List.mem_cons.1 hq with rfl | hq
                    exact he.ext hXX (fun k' hk' e => by have := hf k' hk'; omega)
                    exact (hok2 q (List.mem_of_mem_drop hq)).ext hX22 (fun k' hk' e => by have := hfe2 q (List.mem_of_mem_drop hq) k' hk'; omega)
                    exact hfe2 q (List.mem_of_mem_take hq)
                    rcases List.mem_cons.1 hq with rfl | hq
                    exact hf
                    exact hfe2 q (List.mem_of_mem_drop hq))
         skip))
    all_goals (first
      | (fail_if_success (refine Br.mk (i := 2) ?_))
      | (refine Br.mk (i := 2) ?_
         all_goals (refine WC.skip ?_)
         skip))
    all_goals (repeat' (with_reducible first | refine thenP_n ?_ | refine blockP_n ?_))
    all_goals (refine WC.seq ?_)
    all_goals (refine WC.region ?_)
    all_goals (refine WL.step (ok_move rfl) rfl rfl rfl ?_)
    all_goals (refine WL.step (ok_move rfl) rfl rfl rfl ?_)
    all_goals (refine WL.call (vs := [_, _]) rfl (fun a w => Try.call68 a w) rfl (hdel h1 hx1) rfl rfl rfl ?_
               rintro _ h2 ⟨rfl, v2, r2, hx2⟩)
    all_goals (obtain ⟨hb2, ho2, hok2, _, hfv2, hfe2⟩ := r2
               have hb12 := hx2.obj hb1 (fun e => by omega)
               have hX2 : Ext (fun q => q = b) h h2 := (hx1.mono fun _ _ e => e.elim).trans hx2
               obtain ⟨A, c, rfl, hcL⟩ := ho2.slice)
    all_goals (refine WL.nil ?_)
    all_goals (repeat' (with_reducible first | refine thenP_n ?_ | refine blockP_n ?_))
    all_goals (refine WC.sub [(0, _), (1, _), (5, _)] ⟨rfl, rfl, rfl, trivial⟩ ?_)
    all_goals (refine WC.seq ?_)
    all_goals (refine WC.region ?_)
    all_goals (refine WL.step (ok_assign rfl) rfl rfl rfl ?_)
    all_goals (refine WL.nil ?_)
    all_goals (repeat' (with_reducible first | refine thenP_n ?_ | refine blockP_n ?_))
    all_goals (refine WC.seq ?_)
    all_goals (refine WC.block ?_)
    -- loop 0: slots that turn [7], that stay [0, 1, 5]
    all_goals (refine WC.loopG (X := Nat) (fun x => ([(7, In (x : Int))] : Fr)) [(0, _), (1, _), (5, _)] (fun k h' => h' = h2 ∧ k ≤ L1.length ∧ ∀ p ∈ L1.take k, p.1 < n) (fun k => L1.length - k) (0) ⟨rfl, rfl, rfl, rfl, trivial⟩ (by exact ⟨rfl, Nat.zero_le _, by simp⟩) ?_)
    all_goals (rintro k h9 ⟨hz, hk, hn⟩
               subst h9
               have hcases : k = L1.length ∨ ∃ yn yv, L1[k]? = some (yn, yv) ∧ k < L1.length := by rcases Nat.lt_or_ge k L1.length with h1 | h1; exact .inr ⟨_, _, List.getElem?_eq_getElem h1, h1⟩; exact .inl (by omega)
               rcases hcases with hkl | ⟨yn, yv, hy, hkl⟩)
    all_goals (refine WC.sub [(7, _), (0, _), (1, _), (5, _)] ⟨rfl, rfl, rfl, rfl, trivial⟩ ?_)
    all_goals (refine WC.seq ?_)
    all_goals (refine WC.seq ?_)
    all_goals (refine WC.region ?_)
    all_goals (first
                | (fail_if_success (have := hy))
                | (obtain ⟨bL, oL, hA, hbL, hat⟩ := Rd.at_ ho2.rd (show 0 < L1.length by omega); have hc : At h2 bL (oL + k * 7) (St yn :: yv.e.cells) := At.elem slC_len hat hy))
    all_goals (refine WL.step (ok_move rfl) rfl rfl rfl ?_)
    all_goals (refine WL.step (ok_move rfl) rfl rfl rfl ?_)
    all_goals (refine WL.step (ok_nilCheck rfl) rfl rfl rfl ?_)
    all_goals (refine WL.step (ok_fieldAddr rfl Try.underlying113 rfl (fun w => Try.sizeOf111 w)) rfl rfl rfl ?_)
    all_goals (refine WL.step (ok_load (fun w => Try.isAgg111 w) rfl (by first | assumption | exact cell_blk (by assumption) rfl)) rfl rfl rfl ?_)
    all_goals (refine WL.step (ok_lenL rfl Try.underlying111 rfl) rfl rfl rfl ?_)
    all_goals (first | (refine WL.step (OkP.bool_t (by omega) (ok_lss rfl rfl)) rfl rfl rfl ?_) | (refine WL.step (OkP.bool_f (by omega) (ok_lss rfl rfl)) rfl rfl rfl ?_) | (refine WL.step (ok_lss rfl rfl) rfl rfl rfl ?_))
    all_goals (refine WL.step (ok_move rfl) rfl rfl rfl ?_)
    all_goals (try ((fail_if_success (refine WL.part 26 (b := true) rfl (fun _ => ?_) (fun _ => ?_))); (fail_if_success (refine WL.part 26 (b := false) rfl (fun _ => ?_) (fun _ => ?_))); (refine WL.part 26 rfl (fun hb => ?_) (fun hb => ?_) <;> (first | replace hb := of_decide_eq_true hb | replace hb := of_decide_eq_false hb | replace hb := of_decide_eq_false (nt hb) | replace hb := of_decide_eq_true (nf hb) | skip))))
    all_goals (first | (refine WL.pass rfl rfl rfl ?_) | (refine WL.step (ok_move rfl) rfl rfl rfl ?_))
    all_goals (first | (refine WL.pass rfl rfl rfl ?_) | (refine WL.step (ok_nilCheck rfl) rfl rfl rfl ?_))
    all_goals (first | (refine WL.pass rfl rfl rfl ?_) | (refine WL.step (ok_fieldAddr rfl Try.underlying113 rfl (fun w => Try.sizeOf111 w)) rfl rfl rfl ?_))
    all_goals (first | (refine WL.pass rfl rfl rfl ?_) | (refine WL.step (ok_load (fun w => Try.isAgg111 w) rfl (by first | assumption | exact cell_blk (by assumption) rfl)) rfl rfl rfl ?_))
    all_goals (first | (refine WL.pass rfl rfl rfl ?_) | (refine WL.step (ok_move rfl) rfl rfl rfl ?_))
    all_goals (first | (refine WL.pass rfl rfl rfl ?_) | (refine WL.step (ok_idxAddrA Try.underlying111 (fun w => Try.sizeOf122 w) rfl rfl rfl (by omega) (by first | rfl | assumption)) rfl rfl rfl ?_))
    all_goals (first | (refine WL.pass rfl rfl rfl ?_) | (refine WL.step (ok_fieldAddr rfl Try.underlying122 rfl (fun w => Try.sizeOf9 w)) rfl rfl rfl ?_))
    all_goals (first | (refine WL.pass rfl rfl rfl ?_) | (refine WL.step (ok_load (fun w => Try.isAgg9 w) rfl (by first | exact hc.get 0 rfl rfl | assumption | exact cell_blk (by assumption) rfl)) rfl rfl rfl ?_))
    all_goals (first | (refine WL.pass rfl rfl rfl ?_) | (refine WL.step (ok_move rfl) rfl rfl rfl ?_))
    all_goals (first | (refine WL.pass rfl rfl rfl ?_) | (refine WL.step (ok_lssS rfl rfl) rfl rfl rfl ?_))
    all_goals (try rw [bytesLess_lt])
    all_goals (first | (refine WL.step (ok_pick_t rfl rfl) rfl rfl rfl ?_) | (refine WL.step (ok_pick_f rfl rfl) rfl rfl rfl ?_))
    all_goals (refine WL.nil ?_)
    all_goals (repeat' (with_reducible first | refine thenP_n ?_ | refine blockP_n ?_))
    all_goals (refine WC.sub [(0, _), (1, _), (5, _), (7, _), (37, _)] ⟨rfl, rfl, rfl, rfl, rfl, trivial⟩ ?_)
    all_goals (first | refine WC.condB_t 3 rfl ?_ | refine WC.condB_f 4 rfl ?_ | (refine WC.condB 3 4 rfl (fun hb => ?_) (fun hb => ?_) <;> (first | replace hb := of_decide_eq_true hb | replace hb := of_decide_eq_false hb | replace hb := of_decide_eq_false (nt hb) | replace hb := of_decide_eq_true (nf hb) | skip)))
    all_goals (first
      | (fail_if_success (refine Br.mk (i := 3) ?_))
      | (refine Br.mk (i := 3) ?_
         all_goals (refine WC.skip ?_)
         skip))
    all_goals (first
      | (fail_if_success (refine Br.mk (i := 4) ?_))
      | (refine Br.mk (i := 4) ?_
         all_goals (refine WC.exit ?_)
         all_goals (repeat' (with_reducible first | refine thenP_x ?_ | refine blockP_miss rfl ?_ | refine blockP_hit ?_ | refine blockP_n ?_ | refine thenP_n ?_))
         all_goals (refine Br.out (i := 1000) ?_)
         skip))
    all_goals (first | (refine Br.keep ?_) | (repeat' (with_reducible first | refine thenP_n ?_ | refine blockP_n ?_)))
    all_goals (first | (refine Br.keep ?_) | (refine WC.block ?_))
    all_goals (first | (refine Br.keep ?_) | (refine WC.region ?_))
    all_goals (first | (refine Br.keep ?_) | (refine WL.step (ok_move rfl) rfl rfl rfl ?_))
    all_goals (first | (refine Br.keep ?_) | (first | (refine WL.step (ok_addI rfl rfl (by omega)) rfl rfl rfl ?_) | (refine WL.step (ok_add rfl rfl) rfl rfl rfl ?_)))
    all_goals (first | (refine Br.keep ?_) | (refine WL.step (ok_assign rfl) rfl rfl rfl ?_))
    all_goals (first | (refine Br.keep ?_) | (refine WL.nil ?_))
    all_goals (first | (refine Br.keep ?_) | (repeat' (with_reducible first | refine thenP_n ?_ | refine blockP_n ?_)))
    all_goals (first | (refine Br.keep ?_) | (exact ⟨k + 1, ⟨rfl, rfl, rfl, rfl, trivial⟩, (by exact ⟨rfl, by omega, take_ltP hn hy (by assumption)⟩), (by omega)⟩))
    all_goals (try (refine Br.mk (i := 1000) ?_))
    all_goals (repeat' (with_reducible first | refine thenP_n ?_ | refine blockP_n ?_))
    all_goals (refine WC.seq ?_)
    all_goals (refine WC.drawH (fun h' => Ext No h2 h') 20 23 rfl fol ?_)
    all_goals (have hout := setL_out (v := (⟨ip, idd, ⟨text, .slice Ao oids.length co, oids, .slice Ap ps.length cp, ps, .slice Ar rs.length cr, rs, ran, over⟩⟩ : It28)) hk hn (by first | (intro p hp; rw [List.getElem?_eq_none (by omega)] at hp; cases hp) | (intro p hp; rw [hy] at hp; obtain rfl := Option.some.inj hp; assumption)) hL1no
               have hoT : ∀ v ∈ (L1.take k).flatMap slC, v.oneCell' = true := sls_one (h := h2) fun q hq => hok2 q (List.mem_of_mem_take hq)
               have hoD : ∀ v ∈ (L1.drop k).flatMap slC, v.oneCell' = true := sls_one (h := h2) fun q hq => hok2 q (List.mem_of_mem_drop hq)
               have hrt := ho2.rd.take hk
               have hrd := ho2.rd.drop hk
               rw [sls_take] at hrt
               rw [sls_drop] at hrd
               have hs2 := hX2.size)
    all_goals (refine WH.take 0 rfl (by kernel_rfl) (by kernel_rfl) (by kernel_rfl) (by kernel_rfl) rfl (by first | exact Ext.refl _ _ | assumption | exact hX19) (fun hq hC => ok_move rfl) rfl rfl rfl ?_)
    all_goals (refine WH.take 1 rfl (by kernel_rfl) (by kernel_rfl) (by kernel_rfl) (by kernel_rfl) rfl (by first | exact Ext.refl _ _ | assumption | exact hX19) (fun hq hC => ok_move rfl) rfl rfl rfl ?_)
    all_goals (refine WH.take 2 rfl (by kernel_rfl) (by kernel_rfl) (by kernel_rfl) (by kernel_rfl) rfl (by first | exact Ext.refl _ _ | assumption | exact hX19) (fun hq hC => ok_nilCheck rfl) rfl rfl rfl ?_)
    all_goals (refine WH.take 3 rfl (by kernel_rfl) (by kernel_rfl) (by kernel_rfl) (by kernel_rfl) rfl (by first | exact Ext.refl _ _ | assumption | exact hX19) (fun hq hC => ok_fieldAddr rfl Try.underlying113 rfl (fun w => Try.sizeOf111 w)) rfl rfl rfl ?_)
    all_goals (refine WH.take 4 rfl (by kernel_rfl) (by kernel_rfl) (by kernel_rfl) (by kernel_rfl) rfl (by first | exact Ext.refl _ _ | assumption | exact hX19) (fun hq hC => ok_load (fun w => Try.isAgg111 w) rfl (by first | exact hC.cell (by first | assumption | assumption | exact cell_blk (by assumption) rfl) nos)) rfl rfl rfl ?_)
    all_goals (refine WH.take 5 rfl (by kernel_rfl) (by kernel_rfl) (by kernel_rfl) (by kernel_rfl) rfl (by first | exact Ext.refl _ _ | assumption | exact hX19) (fun hq hC => ok_move rfl) rfl rfl rfl ?_)
    all_goals (first | (refine WH.take 6 rfl (by kernel_rfl) (by kernel_rfl) (by kernel_rfl) (by kernel_rfl) rfl (by first | exact Ext.refl _ _ | assumption | exact hX19) (fun hq hC => ok_slice_hN Try.underlying111 (fun w => Try.sizeOf122 w) rfl rfl (by omega)) rfl rfl rfl ?_) | (refine WH.take 6 rfl (by kernel_rfl) (by kernel_rfl) (by kernel_rfl) (by kernel_rfl) rfl (by first | exact Ext.refl _ _ | assumption | exact hX19) (fun hq hC => ok_slice_h Try.underlying111 (fun w => Try.sizeOf122 w) rfl rfl (by omega)) rfl rfl rfl ?_))
    all_goals (refine WH.take 8 rfl (by kernel_rfl) (by kernel_rfl) (by kernel_rfl) (by kernel_rfl) rfl (by first | exact Ext.refl _ _ | assumption | exact hX19) (fun hq hC => ok_move rfl) rfl rfl rfl ?_)
    all_goals (refine WH.take 9 rfl (by kernel_rfl) (by kernel_rfl) (by kernel_rfl) (by kernel_rfl) rfl (by first | exact Ext.refl _ _ | assumption | exact hX19) (fun hq hC => ok_loadN (fun w => Try.isAgg117 w) (fun w => Try.sizeOf117 w) rfl rfl (by exact (At.of_block hb12).ext hC nos)) rfl rfl rfl ?_)
    all_goals (refine WH.take 10 rfl (by kernel_rfl) (by kernel_rfl) (by kernel_rfl) (by kernel_rfl) rfl (by first | exact Ext.refl _ _ | assumption | exact hX19) (fun hq hC => ok_buildF (vs := [_, _]) (cs := [_, _, _, _, _, _, _]) (fun | [a0, .agg ⟨[a1, a2, a3, a4, a5, a6]⟩] => [a0, a1, a2, a3, a4, a5, a6] | _ => []) rfl rfl (by kernel_rfl)) rfl rfl rfl ?_)
    all_goals (refine WH.take 13 rfl (by kernel_rfl) (by kernel_rfl) (by kernel_rfl) (by kernel_rfl) rfl (by first | exact Ext.refl _ _ | assumption | exact hX19) (fun hq hC => ok_move rfl) rfl rfl rfl ?_)
    all_goals (refine WH.take 14 rfl (by kernel_rfl) (by kernel_rfl) (by kernel_rfl) (by kernel_rfl) rfl (by first | exact Ext.refl _ _ | assumption | exact hX19) (fun hq hC => ok_nilCheck rfl) rfl rfl rfl ?_)
    all_goals (refine WH.take 15 rfl (by kernel_rfl) (by kernel_rfl) (by kernel_rfl) (by kernel_rfl) rfl (by first | exact Ext.refl _ _ | assumption | exact hX19) (fun hq hC => ok_fieldAddr rfl Try.underlying113 rfl (fun w => Try.sizeOf111 w)) rfl rfl rfl ?_)
    all_goals (refine WH.take 16 rfl (by kernel_rfl) (by kernel_rfl) (by kernel_rfl) (by kernel_rfl) rfl (by first | exact Ext.refl _ _ | assumption | exact hX19) (fun hq hC => ok_load (fun w => Try.isAgg111 w) rfl (by first | exact hC.cell (by first | assumption | assumption | exact cell_blk (by assumption) rfl) nos)) rfl rfl rfl ?_)
    all_goals (refine WH.take 17 rfl (by kernel_rfl) (by kernel_rfl) (by kernel_rfl) (by kernel_rfl) rfl (by first | exact Ext.refl _ _ | assumption | exact hX19) (fun hq hC => ok_move rfl) rfl rfl rfl ?_)
    all_goals (first | (refine WH.take 18 rfl (by kernel_rfl) (by kernel_rfl) (by kernel_rfl) (by kernel_rfl) rfl (by first | exact Ext.refl _ _ | assumption | exact hX19) (fun hq hC => ok_slice_lN Try.underlying111 (fun w => Try.sizeOf122 w) rfl rfl (by omega)) rfl rfl rfl ?_) | (refine WH.take 18 rfl (by kernel_rfl) (by kernel_rfl) (by kernel_rfl) (by kernel_rfl) rfl (by first | exact Ext.refl _ _ | assumption | exact hX19) (fun hq hC => ok_slice_lS Try.underlying111 (fun w => Try.sizeOf122 w) rfl rfl (by omega)) rfl rfl rfl ?_) | (refine WH.take 18 rfl (by kernel_rfl) (by kernel_rfl) (by kernel_rfl) (by kernel_rfl) rfl (by first | exact Ext.refl _ _ | assumption | exact hX19) (fun hq hC => ok_slice_l Try.underlying111 (fun w => Try.sizeOf122 w) rfl rfl (by omega)) rfl rfl rfl ?_))
    all_goals (refine WH.two 7 11 (by kernel_rfl) (Br.out (i := 5002) ?_) (Br.out (i := 5003) ?_))
    all_goals (first
      | (fail_if_success (refine Br.mk (i := 5002) ?_))
      | (refine Br.mk (i := 5002) ?_
         all_goals (refine Comes1.run rfl (ok_append (sz := 7) (bytes := 112) rfl Try.underlying111 (show Try.prog.info? 122 = some Try.t122 by kernel_rfl) rfl rfl rfl rfl (by decide) rfl rfl (Own.nil _ _ _) (hrt.ext0 (by first | exact Ext.refl _ _ | exact hx11)) hoT (by simp only [maxLen]; omega) (by omega)) rfl rfl rfl ?_ (fun _ => by kernel_rfl)
                    rintro v7 h7 ⟨ho7, hx7, hl7⟩)
         all_goals (refine ⟨fun _ => (by first | exact hx7.mono (fun _ _ e => by cases e) | exact hx11.trans (hx7.mono fun _ _ e => by cases e)), ?_⟩)
         all_goals (have hx7' := hx7.mono (S' := No) (fun _ _ e => by cases e))
         all_goals (refine WH.one 11 (by kernel_rfl) ?_)
         all_goals (refine Comes1.run rfl (okE_buildSlice (vs := [_]) (cs := [_, _, _, _, _, _, _]) (fun | [.agg ⟨[a0, a1, a2, a3, a4, a5, a6]⟩] => [a0, a1, a2, a3, a4, a5, a6] | _ => []) Try.underlying111 rfl rfl (by kernel_rfl)) rfl rfl rfl ?_ (fun _ => by kernel_rfl)
                    rintro _ h11 ⟨b11, rfl, hg11, hb11, hx11⟩)
         all_goals (refine ⟨fun _ => (by first | exact hx11 | exact hx7'.trans hx11), ?_⟩)
         all_goals (refine WH.one 12 (by kernel_rfl) ?_)
         all_goals (first
                     | (have hO := ho7.ext hx11 (fun _ _ => nos); have hB := hb11; have hX := hx7'.trans hx11; have hf7 : ∀ q, v7.ownBlock = some q → h2.size ≤ q := fresh_of hl7 (by simp [Value.ownBlock]) (Nat.le_refl _))
                     | (have hO := ho7; have hB := hx7'.obj hb11 nos; have hX := hx11.trans hx7'; have hf7 : ∀ q, v7.ownBlock = some q → h2.size ≤ q := fresh_of hl7 (by simp [Value.ownBlock]) hx11.size)
                    simp only [List.nil_append, Nat.zero_add] at hO)
         all_goals (refine Comes1.run rfl (ok_append (sz := 7) (bytes := 112) rfl Try.underlying111 (show Try.prog.info? 122 = some Try.t122 by kernel_rfl) rfl rfl rfl rfl (by decide) rfl rfl hO (rd_blk hB rfl) (by simp [Value.oneCell']) (by simp only [maxLen]; omega) (by omega)) rfl rfl rfl ?_ (fun _ => by kernel_rfl)
                    rintro v12 h12 ⟨ho12, hx12, hl12⟩)
         all_goals (refine ⟨fun _ => hX.trans' hx12 (fun q hq e => by have := hf7 q e; omega), ?_⟩)
         all_goals (have hX12 := hX.trans' hx12 (fun q hq e => by have := hf7 q e; omega)
                    have hf12 : ∀ q, v12.ownBlock = some q → h2.size ≤ q := fresh_of hl12 hf7 hX.size)
         all_goals (refine WH.one 19 (by kernel_rfl) ?_)
         all_goals (refine Comes1.run rfl (ok_append (sz := 7) (bytes := 112) rfl Try.underlying111 (show Try.prog.info? 122 = some Try.t122 by kernel_rfl) rfl rfl rfl rfl (by decide) rfl rfl ho12 (hrd.ext0 hX12) hoD (by simp only [maxLen]; omega) (by omega)) rfl rfl rfl ?_ (fun _ => by kernel_rfl)
                    rintro v19 h19 ⟨ho19, hx19, hl19⟩)
         all_goals (refine ⟨fun _ => hX12.trans' hx19 (fun q hq e => by have := hf12 q e; omega), ?_⟩)
         all_goals (have hX19 := hX12.trans' hx19 (fun q hq e => by have := hf12 q e; omega)
                    have hf19 : ∀ q, v19.ownBlock = some q → h2.size ≤ q := fresh_of hl19 hf12 hX12.size
                    have hb19 := hX19.obj hb2 nos
                    obtain ⟨A19, c19, rfl, _⟩ := ho19.slice)
         all_goals (refine WH.one 20 (by kernel_rfl) ?_)
         all_goals (refine Comes1.run rfl (OkP.r (ok_nilCheck rfl)) rfl rfl rfl ?_ (fun _ => by kernel_rfl)
                    rintro _ hz ⟨rfl, _⟩
                    subst hz)
         all_goals (refine ⟨fun e => (by cases e), ?_⟩)
         all_goals (refine WH.one 21 (by kernel_rfl) ?_)
         all_goals (refine Comes1.run rfl (OkP.r (ok_fieldAddr rfl Try.underlying113 rfl (fun w => Try.sizeOf111 w))) rfl rfl rfl ?_ (fun _ => by kernel_rfl)
                    rintro _ hz ⟨rfl, _⟩
                    subst hz)
         all_goals (refine ⟨fun e => (by cases e), ?_⟩)
         all_goals (refine WH.one 22 (by kernel_rfl) ?_)
         all_goals (refine Comes1.run0 rfl (okE_store (fun w => Try.sizeOf111 w) rfl rfl hb19 (Nat.le_of_ble_eq_true rfl) rfl rfl) rfl rfl ?_ (fun _ => by kernel_rfl)
                    rintro _ h22 ⟨hb22, hx22⟩)
         all_goals (refine ⟨fun e => (by cases e), ?_⟩)
         all_goals (have hX22 : Ext (fun q => q = b) h2 h22 := (hX19.mono fun _ _ e => e.elim).trans hx22
                    have ho22 := ho19.ext hx22 (fun q hq e => by rw [e] at hq; have := hf19 _ hq; have := lt_of_some hb2; omega)
                    have hlen : (L1.take k ++ (n, (⟨ip, idd, ⟨text, .slice Ao oids.length co, oids, .slice Ap ps.length cp, ps, .slice Ar rs.length cr, rs, ran, over⟩⟩ : It28)) :: L1.drop k).length = k + 1 + (L1.length - k) := by simp; omega
                    have hXX := hX2.trans hX22)
         all_goals (refine WH.done (by kernel_rfl) ?_)
         skip))
    all_goals (first
      | (fail_if_success (refine Br.mk (i := 5003) ?_))
      | (refine Br.mk (i := 5003) ?_
         all_goals (refine Comes1.run rfl (okE_buildSlice (vs := [_]) (cs := [_, _, _, _, _, _, _]) (fun | [.agg ⟨[a0, a1, a2, a3, a4, a5, a6]⟩] => [a0, a1, a2, a3, a4, a5, a6] | _ => []) Try.underlying111 rfl rfl (by kernel_rfl)) rfl rfl rfl ?_ (fun _ => by kernel_rfl)
                    rintro _ h11 ⟨b11, rfl, hg11, hb11, hx11⟩)
         all_goals (refine ⟨fun _ => (by first | exact hx11 | exact hx7'.trans hx11), ?_⟩)
         all_goals (refine WH.one 7 (by kernel_rfl) ?_)
         all_goals (refine Comes1.run rfl (ok_append (sz := 7) (bytes := 112) rfl Try.underlying111 (show Try.prog.info? 122 = some Try.t122 by kernel_rfl) rfl rfl rfl rfl (by decide) rfl rfl (Own.nil _ _ _) (hrt.ext0 (by first | exact Ext.refl _ _ | exact hx11)) hoT (by simp only [maxLen]; omega) (by omega)) rfl rfl rfl ?_ (fun _ => by kernel_rfl)
                    rintro v7 h7 ⟨ho7, hx7, hl7⟩)
         all_goals (refine ⟨fun _ => (by first | exact hx7.mono (fun _ _ e => by cases e) | exact hx11.trans (hx7.mono fun _ _ e => by cases e)), ?_⟩)
         all_goals (have hx7' := hx7.mono (S' := No) (fun _ _ e => by cases e))
         all_goals (refine WH.one 12 (by kernel_rfl) ?_)
         all_goals (first
                     | (have hO := ho7.ext hx11 (fun _ _ => nos); have hB := hb11; have hX := hx7'.trans hx11; have hf7 : ∀ q, v7.ownBlock = some q → h2.size ≤ q := fresh_of hl7 (by simp [Value.ownBlock]) (Nat.le_refl _))
                     | (have hO := ho7; have hB := hx7'.obj hb11 nos; have hX := hx11.trans hx7'; have hf7 : ∀ q, v7.ownBlock = some q → h2.size ≤ q := fresh_of hl7 (by simp [Value.ownBlock]) hx11.size)
                    simp only [List.nil_append, Nat.zero_add] at hO)
         all_goals (refine Comes1.run rfl (ok_append (sz := 7) (bytes := 112) rfl Try.underlying111 (show Try.prog.info? 122 = some Try.t122 by kernel_rfl) rfl rfl rfl rfl (by decide) rfl rfl hO (rd_blk hB rfl) (by simp [Value.oneCell']) (by simp only [maxLen]; omega) (by omega)) rfl rfl rfl ?_ (fun _ => by kernel_rfl)
                    rintro v12 h12 ⟨ho12, hx12, hl12⟩)
         all_goals (refine ⟨fun _ => hX.trans' hx12 (fun q hq e => by have := hf7 q e; omega), ?_⟩)
         all_goals (have hX12 := hX.trans' hx12 (fun q hq e => by have := hf7 q e; omega)
                    have hf12 : ∀ q, v12.ownBlock = some q → h2.size ≤ q := fresh_of hl12 hf7 hX.size)
         all_goals (refine WH.one 19 (by kernel_rfl) ?_)
         all_goals (refine Comes1.run rfl (ok_append (sz := 7) (bytes := 112) rfl Try.underlying111 (show Try.prog.info? 122 = some Try.t122 by kernel_rfl) rfl rfl rfl rfl (by decide) rfl rfl ho12 (hrd.ext0 hX12) hoD (by simp only [maxLen]; omega) (by omega)) rfl rfl rfl ?_ (fun _ => by kernel_rfl)
                    rintro v19 h19 ⟨ho19, hx19, hl19⟩)
         all_goals (refine ⟨fun _ => hX12.trans' hx19 (fun q hq e => by have := hf12 q e; omega), ?_⟩)
         all_goals (have hX19 := hX12.trans' hx19 (fun q hq e => by have := hf12 q e; omega)
                    have hf19 : ∀ q, v19.ownBlock = some q → h2.size ≤ q := fresh_of hl19 hf12 hX12.size
                    have hb19 := hX19.obj hb2 nos
                    obtain ⟨A19, c19, rfl, _⟩ := ho19.slice)
         all_goals (refine WH.one 20 (by kernel_rfl) ?_)
         all_goals (refine Comes1.run rfl (OkP.r (ok_nilCheck rfl)) rfl rfl rfl ?_ (fun _ => by kernel_rfl)
                    rintro _ hz ⟨rfl, _⟩
                    subst hz)
         all_goals (refine ⟨fun e => (by cases e), ?_⟩)
         all_goals (refine WH.one 21 (by kernel_rfl) ?_)
         all_goals (refine Comes1.run rfl (OkP.r (ok_fieldAddr rfl Try.underlying113 rfl (fun w => Try.sizeOf111 w))) rfl rfl rfl ?_ (fun _ => by kernel_rfl)
                    rintro _ hz ⟨rfl, _⟩
                    subst hz)
         all_goals (refine ⟨fun e => (by cases e), ?_⟩)
         all_goals (refine WH.one 22 (by kernel_rfl) ?_)
         all_goals (refine Comes1.run0 rfl (okE_store (fun w => Try.sizeOf111 w) rfl rfl hb19 (Nat.le_of_ble_eq_true rfl) rfl rfl) rfl rfl ?_ (fun _ => by kernel_rfl)
                    rintro _ h22 ⟨hb22, hx22⟩)
         all_goals (refine ⟨fun e => (by cases e), ?_⟩)
         all_goals (have hX22 : Ext (fun q => q = b) h2 h22 := (hX19.mono fun _ _ e => e.elim).trans hx22
                    have ho22 := ho19.ext hx22 (fun q hq e => by rw [e] at hq; have := hf19 _ hq; have := lt_of_some hb2; omega)
                    have hlen : (L1.take k ++ (n, (⟨ip, idd, ⟨text, .slice Ao oids.length co, oids, .slice Ap ps.length cp, ps, .slice Ar rs.length cr, rs, ran, over⟩⟩ : It28)) :: L1.drop k).length = k + 1 + (L1.length - k) := by simp; omega
                    have hXX := hX2.trans hX22)
         all_goals (refine WH.done (by kernel_rfl) ?_)
         skip))
    all_goals (repeat' (with_reducible first | refine thenP_n ?_ | refine blockP_n ?_))
    all_goals (refine WC.sub [] trivial ?_)
    all_goals (refine WC.seq ?_)
    all_goals (refine WC.region ?_)
    all_goals (refine WL.step (ok_assign rfl) rfl rfl rfl ?_)
    all_goals (refine WL.nil ?_)
    all_goals (repeat' (with_reducible first | refine thenP_n ?_ | refine blockP_n ?_))
    all_goals (refine WC.ret ?_)
    all_goals (repeat' (with_reducible first | refine thenP_r ?_ | refine blockP_r ?_))
    all_goals (refine retP_1 _ ⟨rfl, trivial⟩ ?_)
    all_goals (refine ⟨rfl, _, ⟨hb22, by rw [hout, hlen, List.flatMap_append, List.flatMap_cons, ← List.append_assoc]; exact ho22, fun q hq => ?_, hlo, fun q hq => by have := hf19 q hq; omega, fun q hq => ?_⟩, hXX, fun q hq => by have := hf19 q hq; omega⟩
               all_goals (rw [hout] at hq; rcases List.mem_append.1 hq with hq | hq)
               exact (hok2 q (List.mem_of_mem_take hq)).ext hX22 (fun k' hk' e => by have := hfe2 q (List.mem_of_mem_take hq) k' hk'; omega)
               rcases List.mem_cons.1 hq with rfl | hq
               exact he.ext hXX (fun k' hk' e => by have := hf k' hk'; omega)
               exact (hok2 q (List.mem_of_mem_drop hq)).ext hX22 (fun k' hk' e => by have := hfe2 q (List.mem_of_mem_drop hq) k' hk'; omega)
               exact hfe2 q (List.mem_of_mem_take hq)
               rcases List.mem_cons.1 hq with rfl | hq
               exact hf
               exact hfe2 q (List.mem_of_mem_drop hq))
end Go.Proofs.Ytgfbilmlgibbfaa

