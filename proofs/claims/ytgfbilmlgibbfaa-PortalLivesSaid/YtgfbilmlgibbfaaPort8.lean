/-
  PORTAL (layer 28): the document's: one runs, its rows are fetched.
-/
import Derived.Test.YtgfbilmlgibbfaaPort7
namespace Go.Proofs.Ytgfbilmlgibbfaa
open Go Go.RK

theorem flat_set {α : Type} {F : α → List Value} {sz : Nat} (hF : ∀ a, (F a).length = sz) {x : Value} {q q' : α} {j : Nat} (hj : j < sz) (hq : (F q).set j x = F q') : ∀ {L : List α} {k : Nat}, L[k]? = some q → (L.flatMap F).set (k * sz + j) x = (L.set k q').flatMap F
  | [], k, h => by cases h
  | a :: L, 0, h => by
    simp only [List.getElem?_cons_zero, Option.some.injEq] at h
    subst h
    rw [List.flatMap_cons, Nat.zero_mul, Nat.zero_add, List.set_append_left _ _ (by rw [hF]; exact hj), hq]
    rfl
  | a :: L, k + 1, h => by
    have ih := flat_set hF hj hq (L := L) (k := k) (by simpa using h)
    rw [List.flatMap_cons, List.set_append_right _ _ (by rw [hF, Nat.succ_mul]; omega), hF, show (k + 1) * sz + j - sz = k * sz + j by rw [Nat.succ_mul]; omega, ih]
    rfl
theorem setL_in {α : Type} {L : List (List UInt8 × α)} (hri : Rise L) {k : Nat} {n : List UInt8} {u v : α} (hk : L[k]? = some (n, u)) : setL L n v = L.set k (n, v) := by
  have hkl := List.getElem?_eq_some_iff.1 hk
  have h1 : ∀ p ∈ L.take k, p.1 < n := by
    intro p hp
    obtain ⟨j, hj⟩ := List.mem_iff_getElem?.1 hp
    rw [List.getElem?_take] at hj
    split at hj
    · rename_i hjk
      have hjl := List.getElem?_eq_some_iff.1 hj
      have := List.pairwise_iff_getElem.1 hri j k hjl.1 hkl.1 hjk
      rwa [hjl.2, hkl.2] at this
    · cases hj
  rw [setL_at h1 (fun p hp => by rw [hk] at hp; obtain rfl := Option.some.inj hp; exact List.lt_irrefl _) (Nat.le_of_lt hkl.1), hk]
  simp
theorem mem_set {α : Type} {L : List α} {k : Nat} {x y : α} (h : y ∈ L.set k x) : y = x ∨ y ∈ L := by
  rcases List.mem_or_eq_of_mem_set h with h | h
  · exact .inr h
  · exact .inl h
set_option maxRecDepth 100000 in
theorem ran28_no {B : Nat} {h : Heap} {b : Nat} {v w : Value} {L : List (List UInt8 × It28)} (r : Xs B h b v L) {n : List UInt8} (hg : getL L n = none) (hl : L.length ≤ 1000) :
    CallsH Try.prog 66 ⟨[.pointer (some ⟨b, 0, none⟩), St n, w]⟩ h fun u h' => u = .bool false ∧ h' = h := by
  refine calls [(0, _), (1, _), (2, _)] Try.func66 rfl Try.ntmps66 rfl ⟨rfl, rfl, rfl, trivial⟩ ?_
  all_goals (refine WC.seq ?_)
  all_goals (refine WC.region ?_)
  all_goals (refine WL.step (ok_assign rfl) rfl rfl rfl ?_)
  all_goals (refine WL.nil ?_)
  all_goals (repeat' (with_reducible first | refine thenP_n ?_ | refine blockP_n ?_))
  all_goals (refine WC.seq ?_)
  all_goals (refine WC.region ?_)
  all_goals (refine WL.step (ok_move rfl) rfl rfl rfl ?_)
  all_goals (refine WL.step (ok_move rfl) rfl rfl rfl ?_)
  all_goals (refine WL.call (vs := [_, _]) rfl (fun a w => Try.call104 a w) rfl (place_no r n hl hg) rfl rfl rfl ?_
             rintro _ hz ⟨rfl, _⟩
             subst hz)
  all_goals (refine WL.step (ok_assign rfl) rfl rfl rfl ?_)
  all_goals (refine WL.nil ?_)
  all_goals (repeat' (with_reducible first | refine thenP_n ?_ | refine blockP_n ?_))
  all_goals (refine WC.sub [(0, _), (2, _), (7, _)] ⟨rfl, rfl, rfl, trivial⟩ ?_)
  all_goals (refine WC.seq ?_)
  all_goals (refine WC.seq ?_)
  all_goals (refine WC.region ?_)
  all_goals (refine WL.step (ok_move rfl) rfl rfl rfl ?_)
  all_goals (first | (refine WL.step (OkP.bool_t (by omega) (ok_lss rfl rfl)) rfl rfl rfl ?_) | (refine WL.step (OkP.bool_f (by omega) (ok_lss rfl rfl)) rfl rfl rfl ?_) | (refine WL.step (ok_lss rfl rfl) rfl rfl rfl ?_))
  all_goals (refine WL.step (ok_move rfl) rfl rfl rfl ?_)
  all_goals (try ((fail_if_success (refine WL.part 13 (b := true) rfl (fun _ => ?_) (fun _ => ?_))); (fail_if_success (refine WL.part 13 (b := false) rfl (fun _ => ?_) (fun _ => ?_))); (refine WL.part 13 rfl (fun hb => ?_) (fun hb => ?_) <;> (first | replace hb := of_decide_eq_true hb | replace hb := of_decide_eq_false hb | replace hb := of_decide_eq_false (nt hb) | replace hb := of_decide_eq_true (nf hb) | skip))))
  all_goals (first | (refine WL.pass rfl rfl rfl ?_) | (refine WL.step (ok_move rfl) rfl rfl rfl ?_))
  all_goals (first | (refine WL.pass rfl rfl rfl ?_) | (refine WL.step (ok_nilCheck rfl) rfl rfl rfl ?_))
  all_goals (first | (refine WL.pass rfl rfl rfl ?_) | (refine WL.step (ok_fieldAddr rfl Try.underlying113 rfl (fun w => Try.sizeOf111 w)) rfl rfl rfl ?_))
  all_goals (first | (refine WL.pass rfl rfl rfl ?_) | (refine WL.step (ok_load (fun w => Try.isAgg111 w) rfl (by first | assumption | exact cell_blk (by assumption) rfl)) rfl rfl rfl ?_))
  all_goals (first | (refine WL.pass rfl rfl rfl ?_) | (refine WL.step (ok_move rfl) rfl rfl rfl ?_))
  all_goals (first | (refine WL.pass rfl rfl rfl ?_) | (refine WL.step (ok_idxAddrA Try.underlying111 (fun w => Try.sizeOf122 w) rfl rfl rfl (by omega) (by first | rfl | assumption)) rfl rfl rfl ?_))
  all_goals (first | (refine WL.pass rfl rfl rfl ?_) | (refine WL.step (ok_fieldAddr rfl Try.underlying122 rfl (fun w => Try.sizeOf117 w)) rfl rfl rfl ?_))
  all_goals (first | (refine WL.pass rfl rfl rfl ?_) | (refine WL.step (ok_fieldAddr rfl Try.underlying117 rfl (fun w => Try.sizeOf4 w)) rfl rfl rfl ?_))
  all_goals (first | (refine WL.pass rfl rfl rfl ?_) | (refine WL.step (ok_load (fun w => Try.isAgg4 w) rfl (by first | assumption | exact cell_blk (by assumption) rfl)) rfl rfl rfl ?_))
  all_goals (first | (refine WL.step (ok_pick_t rfl rfl) rfl rfl rfl ?_) | (refine WL.step (ok_pick_f rfl rfl) rfl rfl rfl ?_))
  all_goals (refine WL.nil ?_)
  all_goals (repeat' (with_reducible first | refine thenP_n ?_ | refine blockP_n ?_))
  all_goals (refine WC.sub [(0, _), (2, _), (7, _), (23, _)] ⟨rfl, rfl, rfl, rfl, trivial⟩ ?_)
  all_goals (first | refine WC.condB_t 1 rfl ?_ | refine WC.condB_f 2 rfl ?_ | (refine WC.condB 1 2 rfl (fun hb => ?_) (fun hb => ?_) <;> (first | replace hb := of_decide_eq_true hb | replace hb := of_decide_eq_false hb | replace hb := of_decide_eq_false (nt hb) | replace hb := of_decide_eq_true (nf hb) | skip)))
  all_goals (first
    | (fail_if_success (refine Br.mk (i := 1) ?_))
    | (refine Br.mk (i := 1) ?_
       all_goals (refine WC.seq ?_)
       all_goals (refine WC.region ?_)
       all_goals (refine WL.step (ok_assign rfl) rfl rfl rfl ?_)
       all_goals (refine WL.nil ?_)
       all_goals (repeat' (with_reducible first | refine thenP_n ?_ | refine blockP_n ?_))
       all_goals (refine WC.sub [(6, _)] ⟨rfl, trivial⟩ ?_)
       all_goals (refine WC.ret ?_)
       all_goals (repeat' (with_reducible first | refine thenP_r ?_ | refine blockP_r ?_))
       all_goals (refine retP_1 _ ⟨rfl, trivial⟩ ?_)
       all_goals (exact ⟨rfl, rfl⟩)
       skip))
  all_goals (first
    | (fail_if_success (refine Br.mk (i := 2) ?_))
    | (refine Br.mk (i := 2) ?_
       all_goals (refine WC.skip ?_)
       skip))
  all_goals (repeat' (with_reducible first | refine thenP_n ?_ | refine blockP_n ?_))
  all_goals (refine WC.seq ?_)
  all_goals (refine WC.drawE fol (by kernel_rfl) ?_)
  all_goals (refine WQ.stepE (ok_move rfl) rfl rfl rfl ?_)
  all_goals (refine WQ.stepE (ok_nilCheck rfl) rfl rfl rfl ?_)
  all_goals (refine WQ.stepE (ok_fieldAddr rfl Try.underlying113 rfl (fun w => Try.sizeOf111 w)) rfl rfl rfl ?_)
  all_goals (refine WQ.stepE (ok_load (fun w => Try.isAgg111 w) rfl (by first | assumption | exact cell_blk (by assumption) rfl)) rfl rfl rfl ?_)
  all_goals (refine WQ.stepE (ok_move rfl) rfl rfl rfl ?_)
  all_goals (refine WQ.stepE (ok_move rfl) rfl rfl rfl ?_)
  all_goals (refine WQ.stepE (ok_nilCheck rfl) rfl rfl rfl ?_)
  all_goals (refine WQ.stepE (ok_fieldAddr rfl Try.underlying113 rfl (fun w => Try.sizeOf111 w)) rfl rfl rfl ?_)
  all_goals (refine WQ.stepE (ok_load (fun w => Try.isAgg111 w) rfl (by first | assumption | exact cell_blk (by assumption) rfl)) rfl rfl rfl ?_)
  all_goals (refine WQ.stepE (ok_move rfl) rfl rfl rfl ?_)
  all_goals (refine WQ.stepE (ok_move rfl) rfl rfl rfl ?_)
  all_goals (refine WQ.stepE (ok_idxAddrA Try.underlying111 (fun w => Try.sizeOf122 w) rfl rfl rfl (by omega) (by first | rfl | assumption)) rfl rfl rfl ?_)
  all_goals (refine WQ.stepE (ok_fieldAddr rfl Try.underlying122 rfl (fun w => Try.sizeOf117 w)) rfl rfl rfl ?_)
  all_goals (refine WQ.stepE (ok_fieldAddr rfl Try.underlying117 rfl (fun w => Try.sizeOf4 w)) rfl rfl rfl ?_)
  all_goals (refine WL.stepR0 (okE_store (fun w => Try.sizeOf4 w) rfl rfl (by assumption) (Nat.le_of_ble_eq_true rfl) rfl rfl) rfl rfl ?_
             rintro _ h1 ⟨hb1, hx1⟩)
  all_goals (refine WQ.stepE (ok_idxAddrA Try.underlying111 (fun w => Try.sizeOf122 w) rfl rfl rfl (by omega) (by first | rfl | assumption)) rfl rfl rfl ?_)
  all_goals (refine WQ.stepE (ok_fieldAddr rfl Try.underlying122 rfl (fun w => Try.sizeOf117 w)) rfl rfl rfl ?_)
  all_goals (refine WQ.stepE (ok_fieldAddr rfl Try.underlying117 rfl (fun w => Try.sizeOf37 w)) rfl rfl rfl ?_)
  all_goals (refine WL.stepR0 (okE_store (fun w => Try.sizeOf37 w) rfl rfl (by assumption) (Nat.le_of_ble_eq_true rfl) rfl rfl) rfl rfl ?_
             rintro _ h1 ⟨hb1, hx1⟩)
  all_goals (refine WQ.nil ?_)
  all_goals (repeat' (with_reducible first | refine thenP_n ?_ | refine blockP_n ?_))
  all_goals (refine WC.sub [] trivial ?_)
  all_goals (refine WC.seq ?_)
  all_goals (refine WC.region ?_)
  all_goals (refine WL.step (ok_assign rfl) rfl rfl rfl ?_)
  all_goals (refine WL.nil ?_)
  all_goals (repeat' (with_reducible first | refine thenP_n ?_ | refine blockP_n ?_))
  all_goals (refine WC.ret ?_)
  all_goals (repeat' (with_reducible first | refine thenP_r ?_ | refine blockP_r ?_))
  all_goals (refine retP_1 _ ⟨rfl, trivial⟩ ?_)
  all_goals (exact ⟨rfl, rfl⟩)
set_option maxRecDepth 100000 in
theorem ran28_was {B : Nat} {h : Heap} {b : Nat} {v w : Value} {L : List (List UInt8 × It28)} (r : Xs B h b v L) (hri : Rise L) {n : List UInt8} {it : It28} (hg : getL L n = some it) (hl : L.length ≤ 1000) (hr : it.e.ran = true) :
    CallsH Try.prog 66 ⟨[.pointer (some ⟨b, 0, none⟩), St n, w]⟩ h fun u h' => u = .bool false ∧ h' = h := by
  obtain ⟨k, hk, hno, _⟩ := pos_of hri hg
  have hkl := (List.getElem?_eq_some_iff.1 hk).1
  have hpl := place_yes r n hl hk hno
  obtain ⟨hb, ho, hok, hlo, hfv, hfe⟩ := r
  obtain ⟨A, c, rfl, _⟩ := ho.slice
  obtain ⟨bL, oL, hA, hbL, hat⟩ := Rd.at_ ho.rd (by omega)
  have hc : At h bL (oL + k * 7) (slC (n, it)) := At.elem slC_len hat hk
  obtain ⟨ip, idd, ⟨text, vo, oids, vp, ps, vr, rs, ran, over⟩⟩ := it
  simp only at hr
  subst hr
  refine calls [(0, _), (1, _), (2, _)] Try.func66 rfl Try.ntmps66 rfl ⟨rfl, rfl, rfl, trivial⟩ ?_
  all_goals (refine WC.seq ?_)
  all_goals (refine WC.region ?_)
  all_goals (refine WL.step (ok_assign rfl) rfl rfl rfl ?_)
  all_goals (refine WL.nil ?_)
  all_goals (repeat' (with_reducible first | refine thenP_n ?_ | refine blockP_n ?_))
  all_goals (refine WC.seq ?_)
  all_goals (refine WC.region ?_)
  all_goals (refine WL.step (ok_move rfl) rfl rfl rfl ?_)
  all_goals (refine WL.step (ok_move rfl) rfl rfl rfl ?_)
  all_goals (refine WL.call (vs := [_, _]) rfl (fun a w => Try.call104 a w) rfl (hpl) rfl rfl rfl ?_
             rintro _ hz ⟨rfl, _⟩
             subst hz)
  all_goals (refine WL.step (ok_assign rfl) rfl rfl rfl ?_)
  all_goals (refine WL.nil ?_)
  all_goals (repeat' (with_reducible first | refine thenP_n ?_ | refine blockP_n ?_))
  all_goals (refine WC.sub [(0, _), (2, _), (7, _)] ⟨rfl, rfl, rfl, trivial⟩ ?_)
  all_goals (refine WC.seq ?_)
  all_goals (refine WC.seq ?_)
  all_goals (refine WC.region ?_)
  all_goals (refine WL.step (ok_move rfl) rfl rfl rfl ?_)
  all_goals (first | (refine WL.step (OkP.bool_t (by omega) (ok_lss rfl rfl)) rfl rfl rfl ?_) | (refine WL.step (OkP.bool_f (by omega) (ok_lss rfl rfl)) rfl rfl rfl ?_) | (refine WL.step (ok_lss rfl rfl) rfl rfl rfl ?_))
  all_goals (refine WL.step (ok_move rfl) rfl rfl rfl ?_)
  all_goals (try ((fail_if_success (refine WL.part 13 (b := true) rfl (fun _ => ?_) (fun _ => ?_))); (fail_if_success (refine WL.part 13 (b := false) rfl (fun _ => ?_) (fun _ => ?_))); (refine WL.part 13 rfl (fun hb => ?_) (fun hb => ?_) <;> (first | replace hb := of_decide_eq_true hb | replace hb := of_decide_eq_false hb | replace hb := of_decide_eq_false (nt hb) | replace hb := of_decide_eq_true (nf hb) | skip))))
  all_goals (first | (refine WL.pass rfl rfl rfl ?_) | (refine WL.step (ok_move rfl) rfl rfl rfl ?_))
  all_goals (first | (refine WL.pass rfl rfl rfl ?_) | (refine WL.step (ok_nilCheck rfl) rfl rfl rfl ?_))
  all_goals (first | (refine WL.pass rfl rfl rfl ?_) | (refine WL.step (ok_fieldAddr rfl Try.underlying113 rfl (fun w => Try.sizeOf111 w)) rfl rfl rfl ?_))
  all_goals (first | (refine WL.pass rfl rfl rfl ?_) | (refine WL.step (ok_load (fun w => Try.isAgg111 w) rfl (by first | assumption | exact cell_blk (by assumption) rfl)) rfl rfl rfl ?_))
  all_goals (first | (refine WL.pass rfl rfl rfl ?_) | (refine WL.step (ok_move rfl) rfl rfl rfl ?_))
  all_goals (first | (refine WL.pass rfl rfl rfl ?_) | (refine WL.step (ok_idxAddrA Try.underlying111 (fun w => Try.sizeOf122 w) rfl rfl rfl (by omega) (by first | rfl | assumption)) rfl rfl rfl ?_))
  all_goals (first | (refine WL.pass rfl rfl rfl ?_) | (refine WL.step (ok_fieldAddr rfl Try.underlying122 rfl (fun w => Try.sizeOf117 w)) rfl rfl rfl ?_))
  all_goals (first | (refine WL.pass rfl rfl rfl ?_) | (refine WL.step (ok_fieldAddr rfl Try.underlying117 rfl (fun w => Try.sizeOf4 w)) rfl rfl rfl ?_))
  all_goals (first | (refine WL.pass rfl rfl rfl ?_) | (refine WL.step (ok_load (fun w => Try.isAgg4 w) rfl (by first | exact hc.get 5 rfl rfl | assumption | exact cell_blk (by assumption) rfl)) rfl rfl rfl ?_))
  all_goals (first | (refine WL.step (ok_pick_t rfl rfl) rfl rfl rfl ?_) | (refine WL.step (ok_pick_f rfl rfl) rfl rfl rfl ?_))
  all_goals (refine WL.nil ?_)
  all_goals (repeat' (with_reducible first | refine thenP_n ?_ | refine blockP_n ?_))
  all_goals (refine WC.sub [(0, _), (2, _), (7, _), (23, _)] ⟨rfl, rfl, rfl, rfl, trivial⟩ ?_)
  all_goals (first | refine WC.condB_t 1 rfl ?_ | refine WC.condB_f 2 rfl ?_ | (refine WC.condB 1 2 rfl (fun hb => ?_) (fun hb => ?_) <;> (first | replace hb := of_decide_eq_true hb | replace hb := of_decide_eq_false hb | replace hb := of_decide_eq_false (nt hb) | replace hb := of_decide_eq_true (nf hb) | skip)))
  all_goals (first
    | (fail_if_success (refine Br.mk (i := 1) ?_))
    | (refine Br.mk (i := 1) ?_
       all_goals (refine WC.seq ?_)
       all_goals (refine WC.region ?_)
       all_goals (refine WL.step (ok_assign rfl) rfl rfl rfl ?_)
       all_goals (refine WL.nil ?_)
       all_goals (repeat' (with_reducible first | refine thenP_n ?_ | refine blockP_n ?_))
       all_goals (refine WC.sub [(6, _)] ⟨rfl, trivial⟩ ?_)
       all_goals (refine WC.ret ?_)
       all_goals (repeat' (with_reducible first | refine thenP_r ?_ | refine blockP_r ?_))
       all_goals (refine retP_1 _ ⟨rfl, trivial⟩ ?_)
       all_goals (exact ⟨rfl, rfl⟩)
       skip))
  all_goals (first
    | (fail_if_success (refine Br.mk (i := 2) ?_))
    | (refine Br.mk (i := 2) ?_
       all_goals (refine WC.skip ?_)
       skip))
  all_goals (repeat' (with_reducible first | refine thenP_n ?_ | refine blockP_n ?_))
  all_goals (refine WC.seq ?_)
  all_goals (refine WC.drawE fol (by kernel_rfl) ?_)
  all_goals (refine WQ.stepE (ok_move rfl) rfl rfl rfl ?_)
  all_goals (refine WQ.stepE (ok_nilCheck rfl) rfl rfl rfl ?_)
  all_goals (refine WQ.stepE (ok_fieldAddr rfl Try.underlying113 rfl (fun w => Try.sizeOf111 w)) rfl rfl rfl ?_)
  all_goals (refine WQ.stepE (ok_load (fun w => Try.isAgg111 w) rfl (by first | assumption | exact cell_blk (by assumption) rfl)) rfl rfl rfl ?_)
  all_goals (refine WQ.stepE (ok_move rfl) rfl rfl rfl ?_)
  all_goals (refine WQ.stepE (ok_move rfl) rfl rfl rfl ?_)
  all_goals (refine WQ.stepE (ok_nilCheck rfl) rfl rfl rfl ?_)
  all_goals (refine WQ.stepE (ok_fieldAddr rfl Try.underlying113 rfl (fun w => Try.sizeOf111 w)) rfl rfl rfl ?_)
  all_goals (refine WQ.stepE (ok_load (fun w => Try.isAgg111 w) rfl (by first | assumption | exact cell_blk (by assumption) rfl)) rfl rfl rfl ?_)
  all_goals (refine WQ.stepE (ok_move rfl) rfl rfl rfl ?_)
  all_goals (refine WQ.stepE (ok_move rfl) rfl rfl rfl ?_)
  all_goals (refine WQ.stepE (ok_idxAddrA Try.underlying111 (fun w => Try.sizeOf122 w) rfl rfl rfl (by omega) (by first | rfl | assumption)) rfl rfl rfl ?_)
  all_goals (refine WQ.stepE (ok_fieldAddr rfl Try.underlying122 rfl (fun w => Try.sizeOf117 w)) rfl rfl rfl ?_)
  all_goals (refine WQ.stepE (ok_fieldAddr rfl Try.underlying117 rfl (fun w => Try.sizeOf4 w)) rfl rfl rfl ?_)
  all_goals (refine WL.stepR0 (okE_store (fun w => Try.sizeOf4 w) rfl rfl (by assumption) (Nat.le_of_ble_eq_true rfl) rfl rfl) rfl rfl ?_
             rintro _ h1 ⟨hb1, hx1⟩)
  all_goals (refine WQ.stepE (ok_idxAddrA Try.underlying111 (fun w => Try.sizeOf122 w) rfl rfl rfl (by omega) (by first | rfl | assumption)) rfl rfl rfl ?_)
  all_goals (refine WQ.stepE (ok_fieldAddr rfl Try.underlying122 rfl (fun w => Try.sizeOf117 w)) rfl rfl rfl ?_)
  all_goals (refine WQ.stepE (ok_fieldAddr rfl Try.underlying117 rfl (fun w => Try.sizeOf37 w)) rfl rfl rfl ?_)
  all_goals (refine WL.stepR0 (okE_store (fun w => Try.sizeOf37 w) rfl rfl (by assumption) (Nat.le_of_ble_eq_true rfl) rfl rfl) rfl rfl ?_
             rintro _ h1 ⟨hb1, hx1⟩)
  all_goals (refine WQ.nil ?_)
  all_goals (repeat' (with_reducible first | refine thenP_n ?_ | refine blockP_n ?_))
  all_goals (refine WC.sub [] trivial ?_)
  all_goals (refine WC.seq ?_)
  all_goals (refine WC.region ?_)
  all_goals (refine WL.step (ok_assign rfl) rfl rfl rfl ?_)
  all_goals (refine WL.nil ?_)
  all_goals (repeat' (with_reducible first | refine thenP_n ?_ | refine blockP_n ?_))
  all_goals (refine WC.ret ?_)
  all_goals (repeat' (with_reducible first | refine thenP_r ?_ | refine blockP_r ?_))
  all_goals (refine retP_1 _ ⟨rfl, trivial⟩ ?_)
  all_goals (exact ⟨rfl, rfl⟩)
set_option maxHeartbeats 1000000 in
set_option maxRecDepth 100000 in
theorem ran28 {B : Nat} {h : Heap} {b : Nat} {v w : Value} {L : List (List UInt8 × It28)} (r : Xs B h b v L) (hri : Rise L) {n : List UInt8} {it : It28} (hg : getL L n = some it) (hl : L.length ≤ 1000) (hr : it.e.ran = false) (R : List Rw) (hR : Rws h w R) (hRF : ∀ k, RwsF w R k → k < B) (d' : PD) :
    CallsH Try.prog 66 ⟨[.pointer (some ⟨b, 0, none⟩), St n, w]⟩ h fun u h' => u = .bool true ∧ Xs B h' b v (setL L n ⟨it.p, d', { it.e with vr := w, rs := R, ran := true }⟩) ∧ Ext (fun q => v.ownBlock = some q) h h' := by
  obtain ⟨k, hk, hno, _⟩ := pos_of hri hg
  have hkl := (List.getElem?_eq_some_iff.1 hk).1
  have hpl := place_yes r n hl hk hno
  have hne := r.ne
  rw [setL_in hri hk]
  obtain ⟨hb, ho, hok, hlo, hfv, hfe⟩ := r
  have hit := hok _ (List.mem_of_getElem? hk)
  have hif := hfe _ (List.mem_of_getElem? hk)
  obtain ⟨_, ⟨_, Ar, cr, rfl, _⟩, _⟩ := id hR
  obtain ⟨gb, gc, gs, rfl, hgb, hgn, hgm, hgl, hgt⟩ := ho.block (by omega)
  obtain ⟨bL, oL, hA, hbL, hat⟩ := Rd.at_ ho.rd (by omega)
  simp only [Option.some.injEq, Addr.mk.injEq] at hA
  obtain ⟨rfl, rfl, _⟩ := hA
  have hc : At h gb (0 + k * 7) (slC (n, it)) := At.elem slC_len hat hk
  obtain ⟨ip, idd, ⟨text, vo, oids, vp, ps, vr, rs, ran, over⟩⟩ := it
  simp only at hr hit hif
  subst hr
  have hlg : k * 7 + 7 ≤ gs.length := by rw [hgl]; omega
  have hbg : b ≠ gb := fun e => hne (by rw [e]; rfl)
  refine calls [(0, _), (1, _), (2, _)] Try.func66 rfl Try.ntmps66 rfl ⟨rfl, rfl, rfl, trivial⟩ ?_
  all_goals (refine WC.seq ?_)
  all_goals (refine WC.region ?_)
  all_goals (refine WL.step (ok_assign rfl) rfl rfl rfl ?_)
  all_goals (refine WL.nil ?_)
  all_goals (repeat' (with_reducible first | refine thenP_n ?_ | refine blockP_n ?_))
  all_goals (refine WC.seq ?_)
  all_goals (refine WC.region ?_)
  all_goals (refine WL.step (ok_move rfl) rfl rfl rfl ?_)
  all_goals (refine WL.step (ok_move rfl) rfl rfl rfl ?_)
  all_goals (refine WL.call (vs := [_, _]) rfl (fun a w => Try.call104 a w) rfl (hpl) rfl rfl rfl ?_
             rintro _ hz ⟨rfl, _⟩
             subst hz)
  all_goals (refine WL.step (ok_assign rfl) rfl rfl rfl ?_)
  all_goals (refine WL.nil ?_)
  all_goals (repeat' (with_reducible first | refine thenP_n ?_ | refine blockP_n ?_))
  all_goals (refine WC.sub [(0, _), (2, _), (7, _)] ⟨rfl, rfl, rfl, trivial⟩ ?_)
  all_goals (refine WC.seq ?_)
  all_goals (refine WC.seq ?_)
  all_goals (refine WC.region ?_)
  all_goals (refine WL.step (ok_move rfl) rfl rfl rfl ?_)
  all_goals (first | (refine WL.step (OkP.bool_t (by omega) (ok_lss rfl rfl)) rfl rfl rfl ?_) | (refine WL.step (OkP.bool_f (by omega) (ok_lss rfl rfl)) rfl rfl rfl ?_) | (refine WL.step (ok_lss rfl rfl) rfl rfl rfl ?_))
  all_goals (refine WL.step (ok_move rfl) rfl rfl rfl ?_)
  all_goals (try ((fail_if_success (refine WL.part 13 (b := true) rfl (fun _ => ?_) (fun _ => ?_))); (fail_if_success (refine WL.part 13 (b := false) rfl (fun _ => ?_) (fun _ => ?_))); (refine WL.part 13 rfl (fun hb => ?_) (fun hb => ?_) <;> (first | replace hb := of_decide_eq_true hb | replace hb := of_decide_eq_false hb | replace hb := of_decide_eq_false (nt hb) | replace hb := of_decide_eq_true (nf hb) | skip))))
  all_goals (first | (refine WL.pass rfl rfl rfl ?_) | (refine WL.step (ok_move rfl) rfl rfl rfl ?_))
  all_goals (first | (refine WL.pass rfl rfl rfl ?_) | (refine WL.step (ok_nilCheck rfl) rfl rfl rfl ?_))
  all_goals (first | (refine WL.pass rfl rfl rfl ?_) | (refine WL.step (ok_fieldAddr rfl Try.underlying113 rfl (fun w => Try.sizeOf111 w)) rfl rfl rfl ?_))
  all_goals (first | (refine WL.pass rfl rfl rfl ?_) | (refine WL.step (ok_load (fun w => Try.isAgg111 w) rfl (by first | assumption | exact cell_blk (by assumption) rfl)) rfl rfl rfl ?_))
  all_goals (first | (refine WL.pass rfl rfl rfl ?_) | (refine WL.step (ok_move rfl) rfl rfl rfl ?_))
  all_goals (first | (refine WL.pass rfl rfl rfl ?_) | (refine WL.step (ok_idxAddrA Try.underlying111 (fun w => Try.sizeOf122 w) rfl rfl rfl (by omega) (by first | rfl | assumption)) rfl rfl rfl ?_))
  all_goals (first | (refine WL.pass rfl rfl rfl ?_) | (refine WL.step (ok_fieldAddr rfl Try.underlying122 rfl (fun w => Try.sizeOf117 w)) rfl rfl rfl ?_))
  all_goals (first | (refine WL.pass rfl rfl rfl ?_) | (refine WL.step (ok_fieldAddr rfl Try.underlying117 rfl (fun w => Try.sizeOf4 w)) rfl rfl rfl ?_))
  all_goals (first | (refine WL.pass rfl rfl rfl ?_) | (refine WL.step (ok_load (fun w => Try.isAgg4 w) rfl (by first | exact hc.get 5 rfl rfl | assumption | exact cell_blk (by assumption) rfl)) rfl rfl rfl ?_))
  all_goals (first | (refine WL.step (ok_pick_t rfl rfl) rfl rfl rfl ?_) | (refine WL.step (ok_pick_f rfl rfl) rfl rfl rfl ?_))
  all_goals (refine WL.nil ?_)
  all_goals (repeat' (with_reducible first | refine thenP_n ?_ | refine blockP_n ?_))
  all_goals (refine WC.sub [(0, _), (2, _), (7, _), (23, _)] ⟨rfl, rfl, rfl, rfl, trivial⟩ ?_)
  all_goals (first | refine WC.condB_t 1 rfl ?_ | refine WC.condB_f 2 rfl ?_ | (refine WC.condB 1 2 rfl (fun hb => ?_) (fun hb => ?_) <;> (first | replace hb := of_decide_eq_true hb | replace hb := of_decide_eq_false hb | replace hb := of_decide_eq_false (nt hb) | replace hb := of_decide_eq_true (nf hb) | skip)))
  all_goals (first
    | (fail_if_success (refine Br.mk (i := 1) ?_))
    | (refine Br.mk (i := 1) ?_
       all_goals (refine WC.seq ?_)
       all_goals (refine WC.region ?_)
       all_goals (refine WL.step (ok_assign rfl) rfl rfl rfl ?_)
       all_goals (refine WL.nil ?_)
       all_goals (repeat' (with_reducible first | refine thenP_n ?_ | refine blockP_n ?_))
       all_goals (refine WC.sub [(6, _)] ⟨rfl, trivial⟩ ?_)
       all_goals (refine WC.ret ?_)
       all_goals (repeat' (with_reducible first | refine thenP_r ?_ | refine blockP_r ?_))
       all_goals (refine retP_1 _ ⟨rfl, trivial⟩ ?_)
       all_goals (exact ⟨rfl, ⟨hX2.obj hb hbg, by rw [List.length_set]; exact hOwn, fun q hq => (hok2 q hq).1, hlo, hfv, fun q hq => (hok2 q hq).2⟩, hX2.mono fun q _ e => by rw [e]; rfl⟩)
       skip))
  all_goals (first
    | (fail_if_success (refine Br.mk (i := 2) ?_))
    | (refine Br.mk (i := 2) ?_
       all_goals (refine WC.skip ?_)
       skip))
  all_goals (repeat' (with_reducible first | refine thenP_n ?_ | refine blockP_n ?_))
  all_goals (refine WC.seq ?_)
  all_goals (refine WC.drawH (fun h' => Ext (fun q => q = gb) h h') 15 19 rfl fol ?_)
  all_goals (refine WH.take 0 rfl (by kernel_rfl) (by kernel_rfl) (by kernel_rfl) (by kernel_rfl) rfl (by first | exact Ext.refl _ _ | assumption) (fun hq hC => ok_move rfl) rfl rfl rfl ?_)
  all_goals (refine WH.take 1 rfl (by kernel_rfl) (by kernel_rfl) (by kernel_rfl) (by kernel_rfl) rfl (by first | exact Ext.refl _ _ | assumption) (fun hq hC => ok_nilCheck rfl) rfl rfl rfl ?_)
  all_goals (refine WH.take 2 rfl (by kernel_rfl) (by kernel_rfl) (by kernel_rfl) (by kernel_rfl) rfl (by first | exact Ext.refl _ _ | assumption) (fun hq hC => ok_fieldAddr rfl Try.underlying113 rfl (fun w => Try.sizeOf111 w)) rfl rfl rfl ?_)
  all_goals (refine WH.take 3 rfl (by kernel_rfl) (by kernel_rfl) (by kernel_rfl) (by kernel_rfl) rfl (by first | exact Ext.refl _ _ | assumption) (fun hq hC => ok_load (fun w => Try.isAgg111 w) rfl (by first | exact hC.cell (by first | assumption | assumption | exact cell_blk (by assumption) rfl) (fun e => hbg e))) rfl rfl rfl ?_)
  all_goals (refine WH.take 4 rfl (by kernel_rfl) (by kernel_rfl) (by kernel_rfl) (by kernel_rfl) rfl (by first | exact Ext.refl _ _ | assumption) (fun hq hC => ok_move rfl) rfl rfl rfl ?_)
  all_goals (refine WH.take 5 rfl (by kernel_rfl) (by kernel_rfl) (by kernel_rfl) (by kernel_rfl) rfl (by first | exact Ext.refl _ _ | assumption) (fun hq hC => ok_move rfl) rfl rfl rfl ?_)
  all_goals (refine WH.take 6 rfl (by kernel_rfl) (by kernel_rfl) (by kernel_rfl) (by kernel_rfl) rfl (by first | exact Ext.refl _ _ | assumption) (fun hq hC => ok_nilCheck rfl) rfl rfl rfl ?_)
  all_goals (refine WH.take 7 rfl (by kernel_rfl) (by kernel_rfl) (by kernel_rfl) (by kernel_rfl) rfl (by first | exact Ext.refl _ _ | assumption) (fun hq hC => ok_fieldAddr rfl Try.underlying113 rfl (fun w => Try.sizeOf111 w)) rfl rfl rfl ?_)
  all_goals (refine WH.take 8 rfl (by kernel_rfl) (by kernel_rfl) (by kernel_rfl) (by kernel_rfl) rfl (by first | exact Ext.refl _ _ | assumption) (fun hq hC => ok_load (fun w => Try.isAgg111 w) rfl (by first | exact hC.cell (by first | assumption | assumption | exact cell_blk (by assumption) rfl) (fun e => hbg e))) rfl rfl rfl ?_)
  all_goals (refine WH.take 9 rfl (by kernel_rfl) (by kernel_rfl) (by kernel_rfl) (by kernel_rfl) rfl (by first | exact Ext.refl _ _ | assumption) (fun hq hC => ok_move rfl) rfl rfl rfl ?_)
  all_goals (refine WH.take 10 rfl (by kernel_rfl) (by kernel_rfl) (by kernel_rfl) (by kernel_rfl) rfl (by first | exact Ext.refl _ _ | assumption) (fun hq hC => ok_move rfl) rfl rfl rfl ?_)
  all_goals (refine WH.take 11 rfl (by kernel_rfl) (by kernel_rfl) (by kernel_rfl) (by kernel_rfl) rfl (by first | exact Ext.refl _ _ | assumption) (fun hq hC => ok_idxAddrA Try.underlying111 (fun w => Try.sizeOf122 w) rfl rfl rfl (by omega) (by first | rfl | assumption)) rfl rfl rfl ?_)
  all_goals (refine WH.take 12 rfl (by kernel_rfl) (by kernel_rfl) (by kernel_rfl) (by kernel_rfl) rfl (by first | exact Ext.refl _ _ | assumption) (fun hq hC => ok_fieldAddr rfl Try.underlying122 rfl (fun w => Try.sizeOf117 w)) rfl rfl rfl ?_)
  all_goals (refine WH.take 13 rfl (by kernel_rfl) (by kernel_rfl) (by kernel_rfl) (by kernel_rfl) rfl (by first | exact Ext.refl _ _ | assumption) (fun hq hC => ok_fieldAddr rfl Try.underlying117 rfl (fun w => Try.sizeOf4 w)) rfl rfl rfl ?_)
  all_goals (refine WH.one 14 (by kernel_rfl) ?_)
  all_goals (refine Comes1.run0 rfl (okE_store (fun w => Try.sizeOf4 w) rfl rfl hgb (by show 0 + k * 7 + 1 + 4 < _; omega) rfl rfl) rfl rfl ?_ (fun _ => by kernel_rfl)
             rintro _ h1 ⟨hb1, hx1⟩)
  all_goals (refine ⟨fun _ => hx1, ?_⟩)
  all_goals (refine WH.one 15 (by kernel_rfl) ?_)
  all_goals (refine Comes1.run rfl (OkP.r (ok_idxAddrA Try.underlying111 (fun w => Try.sizeOf122 w) rfl rfl rfl (by omega) (by first | rfl | assumption))) rfl rfl rfl ?_ (fun _ => by kernel_rfl)
             rintro _ hz ⟨rfl, _⟩
             subst hz)
  all_goals (refine ⟨fun e => (by cases e), ?_⟩)
  all_goals (refine WH.one 16 (by kernel_rfl) ?_)
  all_goals (refine Comes1.run rfl (OkP.r (ok_fieldAddr rfl Try.underlying122 rfl (fun w => Try.sizeOf117 w))) rfl rfl rfl ?_ (fun _ => by kernel_rfl)
             rintro _ hz ⟨rfl, _⟩
             subst hz)
  all_goals (refine ⟨fun e => (by cases e), ?_⟩)
  all_goals (refine WH.one 17 (by kernel_rfl) ?_)
  all_goals (refine Comes1.run rfl (OkP.r (ok_fieldAddr rfl Try.underlying117 rfl (fun w => Try.sizeOf37 w))) rfl rfl rfl ?_ (fun _ => by kernel_rfl)
             rintro _ hz ⟨rfl, _⟩
             subst hz)
  all_goals (refine ⟨fun e => (by cases e), ?_⟩)
  all_goals (refine WH.one 18 (by kernel_rfl) ?_)
  all_goals (refine Comes1.run0 rfl (okE_store (fun w => Try.sizeOf37 w) rfl rfl hb1 (by rw [List.length_set]; show 0 + k * 7 + 1 + 3 < _; omega) rfl rfl) rfl rfl ?_ (fun _ => by kernel_rfl)
             rintro _ h2 ⟨hb2, hx2⟩)
  all_goals (refine ⟨fun _ => hx1.trans hx2, ?_⟩)
  all_goals (have hX2 := hx1.trans hx2
             have e1 : (gs.take (L.length * 7)).set (k * 7 + 5) (.bool true) = (L.set k (n, (⟨ip, idd, ⟨text, vo, oids, vp, ps, vr, rs, true, over⟩⟩ : It28))).flatMap slC := by rw [hgt]; exact flat_set slC_len (by decide) rfl hk
             have e2 : ((gs.take (L.length * 7)).set (k * 7 + 5) (.bool true)).set (k * 7 + 4) (.slice Ar R.length cr) = ((L.set k (n, (⟨ip, idd, ⟨text, vo, oids, vp, ps, vr, rs, true, over⟩⟩ : It28))).set k (n, (⟨ip, d', ⟨text, vo, oids, vp, ps, .slice Ar R.length cr, R, true, over⟩⟩ : It28))).flatMap slC := by rw [e1]; exact flat_set slC_len (by decide) rfl (List.getElem?_set_self hkl)
             rw [List.set_set] at e2
             have hOwn : Own h2 (.slice (some ⟨gb, 0, none⟩) (L.set k (n, (⟨ip, d', ⟨text, vo, oids, vp, ps, .slice Ar R.length cr, R, true, over⟩⟩ : It28))).length gc) 122 7 (L.set k (n, (⟨ip, d', ⟨text, vo, oids, vp, ps, .slice Ar R.length cr, R, true, over⟩⟩ : It28))).length ((L.set k (n, (⟨ip, d', ⟨text, vo, oids, vp, ps, .slice Ar R.length cr, R, true, over⟩⟩ : It28))).flatMap slC) := Own.of_block hb2 (by rw [List.length_set]; exact hgn) hgm (by rw [List.length_set, List.length_set]; exact hgl) (by rw [List.length_set, List.take_set, List.take_set, ← e2]; show (((gs.take (L.length * 7)).set (0 + k * 7 + 1 + 4) (.bool true)).set (0 + k * 7 + 1 + 3) (.slice Ar R.length cr)) = _; rw [show 0 + k * 7 + 1 + 4 = k * 7 + 5 by omega, show 0 + k * 7 + 1 + 3 = k * 7 + 4 by omega])
             rw [List.length_set] at hOwn
             have hfg : ∀ q, q < B → ¬ q = gb := fun q hq e => by have := hfv gb rfl; omega
             have hok2 : ∀ q ∈ L.set k (n, (⟨ip, d', ⟨text, vo, oids, vp, ps, .slice Ar R.length cr, R, true, over⟩⟩ : It28)), q.2.e.ok h2 ∧ ∀ k, q.2.e.F k → k < B := by
              intro q hq
              rcases mem_set hq with rfl | hq
              · exact ⟨⟨hit.oids.ext' hX2 (fun b' h1 h2 => hfg b' (hif b' (.inl ⟨h1, h2⟩))), hit.lo, hit.ps.ext hX2 (fun b' h' => hfg b' (hif b' (.inr (.inl h')))), hR.ext hX2 (fun b' h' => hfg b' (hRF b' h'))⟩, fun b' h' => by rcases h' with h' | h' | h'; exact hif b' (.inl h'); exact hif b' (.inr (.inl h')); exact hRF b' h'⟩
              · exact ⟨(hok q hq).ext hX2 (fun b' h' => hfg b' (hfe q hq b' h')), hfe q hq⟩)
  all_goals (refine WH.done (by kernel_rfl) ?_)
  all_goals (repeat' (with_reducible first | refine thenP_n ?_ | refine blockP_n ?_))
  all_goals (refine WC.sub [] trivial ?_)
  all_goals (refine WC.seq ?_)
  all_goals (refine WC.region ?_)
  all_goals (refine WL.step (ok_assign rfl) rfl rfl rfl ?_)
  all_goals (refine WL.nil ?_)
  all_goals (repeat' (with_reducible first | refine thenP_n ?_ | refine blockP_n ?_))
  all_goals (refine WC.ret ?_)
  all_goals (repeat' (with_reducible first | refine thenP_r ?_ | refine blockP_r ?_))
  all_goals (refine retP_1 _ ⟨rfl, trivial⟩ ?_)
  all_goals (exact ⟨rfl, ⟨hX2.obj hb hbg, by rw [List.length_set]; exact hOwn, fun q hq => (hok2 q hq).1, hlo, hfv, fun q hq => (hok2 q hq).2⟩, hX2.mono fun q _ e => by rw [e]; rfl⟩)
end Go.Proofs.Ytgfbilmlgibbfaa

