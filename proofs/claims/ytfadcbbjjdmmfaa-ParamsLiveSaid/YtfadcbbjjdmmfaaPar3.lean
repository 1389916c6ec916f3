/-
  PARAMS (layer 53): the document's.
-/
import Derived.Test.YtfadcbbjjdmmfaaPar2
namespace Go.Proofs.Ytfadcbbjjdmmfaa
open Go Go.RK

theorem prs_len (l : List Pr) : (l.flatMap prC).length = l.length * 2 := by
  induction l with
  | nil => rfl
  | cons a l ih => rw [List.flatMap_cons, List.length_append, ih, prC_len, List.length_cons]; omega
theorem prs_take (l : List Pr) (k : Nat) : (l.flatMap prC).take (k * 2) = (l.take k).flatMap prC := by
  rcases Nat.le_total k l.length with h | h
  · conv => lhs; rw [← List.take_append_drop k l, List.flatMap_append]
    rw [List.take_append_of_le_length (by rw [prs_len, List.length_take]; omega), List.take_of_length_le (by rw [prs_len, List.length_take]; omega)]
  · rw [List.take_of_length_le h, List.take_of_length_le (by rw [prs_len]; omega)]
theorem prs_drop (l : List Pr) (k : Nat) : (l.flatMap prC).drop (k * 2) = (l.drop k).flatMap prC := by
  rcases Nat.le_total k l.length with h | h
  · conv => lhs; rw [← List.take_append_drop k l, List.flatMap_append]
    rw [List.drop_append_of_le_length (by rw [prs_len, List.length_take]; omega), List.drop_of_length_le (by rw [prs_len, List.length_take]; omega), List.nil_append]
  · rw [List.drop_of_length_le h, List.drop_of_length_le (by rw [prs_len]; omega)]
    rfl
theorem prs_set {n u v : List UInt8} : ∀ {l : List Pr} {k : Nat}, l[k]? = some (n, u) → (l.flatMap prC).set (k * 2 + 1) (St v) = (l.set k (n, v)).flatMap prC
  | [], k, h => by cases h
  | (a, b) :: l, 0, h => by
    simp only [List.getElem?_cons_zero, Option.some.injEq, Prod.mk.injEq] at h
    obtain ⟨rfl, rfl⟩ := h
    rfl
  | (a, b) :: l, k + 1, h => by
    have := prs_set (v := v) (l := l) (k := k) (by simpa using h)
    rw [List.flatMap_cons, List.set_cons_succ, List.flatMap_cons, ← this]
    show ([St a, St b] ++ l.flatMap prC).set ((k + 1) * 2 + 1) (St v) = _
    rw [show (k + 1) * 2 + 1 = (k * 2 + 1) + 1 + 1 by omega]
    rfl
/-- The document's parameters at block b. -/
structure Pf (h : Heap) (b : Nat) (v : Value) (L : List Pr) : Prop where
  blk : h[b]? = some (.cells ⟨[v]⟩ 72 (0, 0))
  own : Own h v 63 2 L.length (L.flatMap prC)
theorem Pf.ne {h : Heap} {b : Nat} {v : Value} {L : List Pr} (r : Pf h b v L) : v.ownBlock ≠ some b := own_ne r.own r.blk (by decide)
theorem Pf.ext {h h' : Heap} {S : Nat → Prop} {b : Nat} {v : Value} {L : List Pr} (r : Pf h b v L) (a : Ext S h h') (h1 : ¬ S b) (h2 : ∀ k, v.ownBlock = some k → ¬ S k) : Pf h' b v L := ⟨a.obj r.blk h1, r.own.ext a h2⟩
theorem Pf.ext0 {h h' : Heap} {b : Nat} {v : Value} {L : List Pr} (r : Pf h b v L) (a : Ext No h h') : Pf h' b v L := r.ext a nos fun _ _ => nos
theorem take_not {L : List Pr} {k : Nat} {n : List UInt8} {y : Pr} (h : ∀ p ∈ L.take k, p.1 ≠ n) (hy : L[k]? = some y) (hn : y.1 ≠ n) : ∀ p ∈ L.take (k + 1), p.1 ≠ n := by
  intro p hp
  rw [List.take_add_one, hy] at hp
  simp only [Option.toList_some, List.mem_append, List.mem_singleton] at hp
  rcases hp with hp | rfl
  · exact h p hp
  · exact hn
theorem getL_none {L : List Pr} {n : List UInt8} (h : ∀ p ∈ L, p.1 ≠ n) : getL L n = none := by
  rcases hg : getL L n with _ | w
  · rfl
  · exact absurd rfl (h _ (getL_mem hg))
set_option maxRecDepth 100000 in
theorem get53 {h : Heap} {b : Nat} {v : Value} {L : List Pr} (r : Pf h b v L) (hri : Rise L) (n : List UInt8) (hl : L.length ≤ 1000000) : CallsH Try.prog 40 ⟨[.pointer (some ⟨b, 0, none⟩), St n]⟩ h fun u h' => u = getV (getL L n) ∧ h' = h := by
  obtain ⟨hb, ho⟩ := r
  obtain ⟨A, c, rfl, _⟩ := ho.slice
  refine calls [(0, _), (1, _)] Try.func40 rfl Try.ntmps40 rfl ⟨rfl, rfl, trivial⟩ ?_
  all_goals (refine WC.seq ?_)
  all_goals (refine WC.region ?_)
  all_goals (refine WL.step (ok_assign rfl) rfl rfl rfl ?_)
  all_goals (refine WL.step (ok_assign rfl) rfl rfl rfl ?_)
  all_goals (refine WL.nil ?_)
  all_goals (repeat' (with_reducible first | refine thenP_n ?_ | refine blockP_n ?_))
  all_goals (refine WC.seq ?_)
  all_goals (refine WC.seq ?_)
  all_goals (refine WC.region ?_)
  all_goals (refine WL.step (ok_assign rfl) rfl rfl rfl ?_)
  all_goals (refine WL.nil ?_)
  all_goals (repeat' (with_reducible first | refine thenP_n ?_ | refine blockP_n ?_))
  all_goals (refine WC.block ?_)
  -- loop 0: slots that turn [6], that stay [0, 1]
  all_goals (refine WC.loopG (X := Nat) (fun x => ([(6, In (x : Int))] : Fr)) [(0, _), (1, _)] (fun k h' => h' = h ∧ k ≤ L.length ∧ ∀ p ∈ L.take k, p.1 ≠ n) (fun k => L.length - k) (0) ⟨rfl, rfl, rfl, trivial⟩ (by exact ⟨rfl, Nat.zero_le _, by simp⟩) ?_)
  all_goals (rintro k h9 ⟨hz, hk, hn⟩
             subst h9)
  all_goals (refine WC.sub [(6, _), (0, _), (1, _)] ⟨rfl, rfl, rfl, trivial⟩ ?_)
  all_goals (refine WC.seq ?_)
  all_goals (refine WC.seq ?_)
  all_goals (refine WC.region ?_)
  all_goals (refine WL.step (ok_move rfl) rfl rfl rfl ?_)
  all_goals (refine WL.step (ok_move rfl) rfl rfl rfl ?_)
  all_goals (refine WL.step (ok_nilCheck rfl) rfl rfl rfl ?_)
  all_goals (refine WL.step (ok_fieldAddr rfl Try.underlying72 rfl (fun w => Try.sizeOf56 w)) rfl rfl rfl ?_)
  all_goals (refine WL.step (ok_load (fun w => Try.isAgg56 w) rfl (by first | assumption | exact cell_blk (by assumption) rfl)) rfl rfl rfl ?_)
  all_goals (refine WL.step (ok_lenL rfl Try.underlying56 rfl) rfl rfl rfl ?_)
  all_goals (first | (refine WL.step (OkP.bool_t (by omega) (ok_lss rfl rfl)) rfl rfl rfl ?_) | (refine WL.step (OkP.bool_f (by omega) (ok_lss rfl rfl)) rfl rfl rfl ?_) | (refine WL.step (ok_lss rfl rfl) rfl rfl rfl ?_))
  all_goals (refine WL.nil ?_)
  all_goals (repeat' (with_reducible first | refine thenP_n ?_ | refine blockP_n ?_))
  all_goals (refine WC.sub [(0, _), (1, _), (6, _), (13, _)] ⟨rfl, rfl, rfl, rfl, trivial⟩ ?_)
  all_goals (first | refine WC.condB_t 1 rfl ?_ | refine WC.condB_f 2 rfl ?_ | (refine WC.condB 1 2 rfl (fun hb => ?_) (fun hb => ?_) <;> (first | replace hb := of_decide_eq_true hb | replace hb := of_decide_eq_false hb | replace hb := of_decide_eq_false (nt hb) | replace hb := of_decide_eq_true (nf hb) | skip)))
  all_goals (first
    | (fail_if_success (refine Br.mk (i := 1) ?_))
    | (refine Br.mk (i := 1) ?_
       all_goals (refine WC.skip ?_)
       skip))
  all_goals (first
    | (fail_if_success (refine Br.mk (i := 2) ?_))
    | (refine Br.mk (i := 2) ?_
       all_goals (refine WC.exit ?_)
       all_goals (repeat' (with_reducible first | refine thenP_x ?_ | refine blockP_miss rfl ?_ | refine blockP_hit ?_ | refine blockP_n ?_ | refine thenP_n ?_))
       all_goals (refine Br.out (i := 1000) ?_)
       skip))
  all_goals (first | (refine Br.keep ?_) | (repeat' (with_reducible first | refine thenP_n ?_ | refine blockP_n ?_)))
  all_goals (first | (refine Br.keep ?_) | (refine WC.seq ?_))
  all_goals (first | (refine Br.keep ?_) | (refine WC.block ?_))
  all_goals (first | (refine Br.keep ?_) | (refine WC.seq ?_))
  all_goals (first | (refine Br.keep ?_) | (refine WC.region ?_))
  all_goals (first
               | (refine Br.keep ?_)
               | (obtain ⟨bL, oL, hA, hbL, hat⟩ := Rd.at_ ho.rd (by omega)
                  obtain ⟨⟨yn, yv⟩, hy⟩ : ∃ y, L[k]? = some y := ⟨_, List.getElem?_eq_getElem (by omega)⟩
                  have hc : At h bL (oL + k * 2) [St yn, St yv] := At.elem prC_len hat hy))
  all_goals (first | (refine Br.keep ?_) | (refine WL.step (ok_move rfl) rfl rfl rfl ?_))
  all_goals (first | (refine Br.keep ?_) | (refine WL.step (ok_nilCheck rfl) rfl rfl rfl ?_))
  all_goals (first | (refine Br.keep ?_) | (refine WL.step (ok_fieldAddr rfl Try.underlying72 rfl (fun w => Try.sizeOf56 w)) rfl rfl rfl ?_))
  all_goals (first | (refine Br.keep ?_) | (refine WL.step (ok_load (fun w => Try.isAgg56 w) rfl (by first | assumption | exact cell_blk (by assumption) rfl)) rfl rfl rfl ?_))
  all_goals (first | (refine Br.keep ?_) | (refine WL.step (ok_move rfl) rfl rfl rfl ?_))
  all_goals (first | (refine Br.keep ?_) | (refine WL.step (ok_idxAddrA Try.underlying56 (fun w => Try.sizeOf63 w) rfl rfl rfl (by omega) (by first | rfl | assumption)) rfl rfl rfl ?_))
  all_goals (first | (refine Br.keep ?_) | (refine WL.step (ok_fieldAddr rfl Try.underlying63 rfl (fun w => Try.sizeOf9 w)) rfl rfl rfl ?_))
  all_goals (first | (refine Br.keep ?_) | (refine WL.step (ok_load (fun w => Try.isAgg9 w) rfl (by first | exact hc.get 0 rfl rfl | assumption | exact cell_blk (by assumption) rfl)) rfl rfl rfl ?_))
  all_goals (first | (refine Br.keep ?_) | (refine WL.step (ok_move rfl) rfl rfl rfl ?_))
  all_goals (first | (refine Br.keep ?_) | (first | (refine WL.step (OkP.bool_t (by first | rfl | assumption | decide) (ok_eqlS rfl rfl)) rfl rfl rfl ?_) | (refine WL.step (OkP.bool_f (by first | assumption | decide) (ok_eqlS rfl rfl)) rfl rfl rfl ?_) | (refine WL.step (ok_eqlS rfl rfl) rfl rfl rfl ?_)))
  all_goals (first | (refine Br.keep ?_) | (refine WL.nil ?_))
  all_goals (first | (refine Br.keep ?_) | (repeat' (with_reducible first | refine thenP_n ?_ | refine blockP_n ?_)))
  all_goals (first | (refine Br.keep ?_) | (refine WC.sub [(0, _), (1, _), (6, _), (25, _)] ⟨rfl, rfl, rfl, rfl, trivial⟩ ?_))
  all_goals (first | (refine Br.keep ?_) | (first | refine WC.condB_t 3 rfl ?_ | refine WC.condB_f 4 rfl ?_ | (refine WC.condB 3 4 rfl (fun hb => ?_) (fun hb => ?_) <;> (first | replace hb := of_decide_eq_true hb | replace hb := of_decide_eq_false hb | replace hb := of_decide_eq_false (nt hb) | replace hb := of_decide_eq_true (nf hb) | skip))))
  all_goals (first
    | (fail_if_success (refine Br.mk (i := 3) ?_))
    | (refine Br.mk (i := 3) ?_
       all_goals (refine WC.seq ?_)
       all_goals (refine WC.region ?_)
       all_goals (refine WL.step (ok_move rfl) rfl rfl rfl ?_)
       all_goals (refine WL.step (ok_nilCheck rfl) rfl rfl rfl ?_)
       all_goals (refine WL.step (ok_fieldAddr rfl Try.underlying72 rfl (fun w => Try.sizeOf56 w)) rfl rfl rfl ?_)
       all_goals (refine WL.step (ok_load (fun w => Try.isAgg56 w) rfl (by first | assumption | exact cell_blk (by assumption) rfl)) rfl rfl rfl ?_)
       all_goals (refine WL.step (ok_move rfl) rfl rfl rfl ?_)
       all_goals (refine WL.step (ok_idxAddrA Try.underlying56 (fun w => Try.sizeOf63 w) rfl rfl rfl (by omega) (by first | rfl | assumption)) rfl rfl rfl ?_)
       all_goals (refine WL.step (ok_fieldAddr rfl Try.underlying63 rfl (fun w => Try.sizeOf9 w)) rfl rfl rfl ?_)
       all_goals (refine WL.step (ok_load (fun w => Try.isAgg9 w) rfl (by first | exact hc.get 1 rfl rfl | assumption | exact cell_blk (by assumption) rfl)) rfl rfl rfl ?_)
       all_goals (refine WL.step (ok_assign rfl) rfl rfl rfl ?_)
       all_goals (refine WL.step (ok_assign rfl) rfl rfl rfl ?_)
       all_goals (refine WL.nil ?_)
       all_goals (repeat' (with_reducible first | refine thenP_n ?_ | refine blockP_n ?_))
       all_goals (refine WC.sub [(4, _), (5, _)] ⟨rfl, rfl, trivial⟩ ?_)
       all_goals (refine WC.ret ?_)
       all_goals (repeat' (with_reducible first | refine thenP_r ?_ | refine blockP_r ?_))
       all_goals (refine retP_2 _ _ ⟨rfl, rfl, trivial⟩ ?_)
       all_goals (first
                   | exact ⟨by rw [getL_none (by rw [List.take_of_length_le (by omega)] at hn; exact hn)]; rfl, rfl⟩
                   | exact ⟨by rw [getL_of hri.nd (show (n, yv) ∈ L from by have := List.mem_of_getElem? hy; simp_all)]; rfl, rfl⟩)
       skip))
  all_goals (first
    | (fail_if_success (refine Br.mk (i := 4) ?_))
    | (refine Br.mk (i := 4) ?_
       all_goals (refine WC.skip ?_)
       skip))
  all_goals (first | (refine Br.keep ?_) | (repeat' (with_reducible first | refine thenP_n ?_ | refine blockP_n ?_)))
  all_goals (first | (refine Br.keep ?_) | (refine WC.region ?_))
  all_goals (first | (refine Br.keep ?_) | (refine WL.step (ok_move rfl) rfl rfl rfl ?_))
  all_goals (first | (refine Br.keep ?_) | (first | (refine WL.step (ok_addI rfl rfl (by omega)) rfl rfl rfl ?_) | (refine WL.step (ok_add rfl rfl) rfl rfl rfl ?_)))
  all_goals (first | (refine Br.keep ?_) | (refine WL.step (ok_assign rfl) rfl rfl rfl ?_))
  all_goals (first | (refine Br.keep ?_) | (refine WL.nil ?_))
  all_goals (first | (refine Br.keep ?_) | (repeat' (with_reducible first | refine thenP_n ?_ | refine blockP_n ?_)))
  all_goals (first | (refine Br.keep ?_) | (exact ⟨k + 1, ⟨rfl, rfl, rfl, trivial⟩, (by exact ⟨rfl, by omega, take_not hn hy (by assumption)⟩), (by omega)⟩))
  all_goals (try (refine Br.mk (i := 1000) ?_))
  all_goals (repeat' (with_reducible first | refine thenP_n ?_ | refine blockP_n ?_))
  all_goals (refine WC.sub [] trivial ?_)
  all_goals (refine WC.seq ?_)
  all_goals (refine WC.region ?_)
  all_goals (refine WL.step (ok_assign rfl) rfl rfl rfl ?_)
  all_goals (refine WL.step (ok_assign rfl) rfl rfl rfl ?_)
  all_goals (refine WL.nil ?_)
  all_goals (repeat' (with_reducible first | refine thenP_n ?_ | refine blockP_n ?_))
  all_goals (refine WC.ret ?_)
  all_goals (repeat' (with_reducible first | refine thenP_r ?_ | refine blockP_r ?_))
  all_goals (refine retP_2 _ _ ⟨rfl, rfl, trivial⟩ ?_)
  all_goals (first
              | exact ⟨by rw [getL_none (by rw [List.take_of_length_le (by omega)] at hn; exact hn)]; rfl, rfl⟩
              | exact ⟨by rw [getL_of hri.nd (show (n, yv) ∈ L from by have := List.mem_of_getElem? hy; simp_all)]; rfl, rfl⟩)
theorem take_lt {L : List Pr} {k : Nat} {n : List UInt8} {y : Pr} (h : ∀ p ∈ L.take k, p.1 < n) (hy : L[k]? = some y) (hn : y.1 < n) : ∀ p ∈ L.take (k + 1), p.1 < n := by
  intro p hp
  rw [List.take_add_one, hy] at hp
  simp only [Option.toList_some, List.mem_append, List.mem_singleton] at hp
  rcases hp with hp | rfl
  · exact h p hp
  · exact hn
theorem set_in {L : List Pr} (hri : Rise L) {k : Nat} {n u v : List UInt8} (h1 : ∀ p ∈ L.take k, p.1 < n) (hy : L[k]? = some (n, u)) : setL L n v = L.set k (n, v) ∧ setB L n v = !decide (u = v) := by
  have hk := (List.getElem?_eq_some_iff.1 hy).1
  constructor
  · rw [setL_at h1 (fun p hp => by rw [hy] at hp; obtain rfl := Option.some.inj hp; exact List.lt_irrefl _) (by omega), hy]
    simp
  · unfold setB
    rw [getL_of hri.nd (List.mem_of_getElem? hy)]
theorem set_out {L : List Pr} (hri : Rise L) {k : Nat} {n v : List UInt8} (hk : k ≤ L.length) (h1 : ∀ p ∈ L.take k, p.1 < n) (h2 : ∀ p, L[k]? = some p → ¬ p.1 < n ∧ p.1 ≠ n) : setL L n v = L.take k ++ (n, v) :: L.drop k ∧ setB L n v = true := by
  have hno : ∀ p ∈ L, p.1 ≠ n := by
    intro p hp e
    obtain ⟨j, hj⟩ := List.mem_iff_getElem?.1 hp
    rcases Nat.lt_trichotomy j k with hjk | hjk | hjk
    · have := h1 p (List.mem_of_getElem? (show (L.take k)[j]? = some p by rw [List.getElem?_take, if_pos hjk]; exact hj))
      rw [e] at this
      exact List.lt_irrefl _ this
    · subst hjk
      exact (h2 p hj).2 e
    · have hjl := (List.getElem?_eq_some_iff.1 hj)
      have hjl1 : j < L.length := hjl.1
      have hkl : k < L.length := by omega
      obtain ⟨q, hq⟩ : ∃ q, L[k]? = some q := ⟨_, List.getElem?_eq_getElem hkl⟩
      have hql := (List.getElem?_eq_some_iff.1 hq)
      have := List.pairwise_iff_getElem.1 hri k j hkl hjl.1 hjk
      rw [hql.2, hjl.2, e] at this
      exact (h2 q hq).1 this
  constructor
  · rw [setL_at h1 (fun p hp => (h2 p hp).1) hk]
    rcases hq : L[k]? with _ | q
    · have := List.getElem?_eq_none_iff.1 hq
      simp only
      rw [List.take_of_length_le this, List.drop_of_length_le this]
    · simp only
      rw [if_neg (h2 q hq).2]
  · unfold setB
    rw [getL_none hno]
set_option maxHeartbeats 2000000 in
set_option maxRecDepth 100000 in
theorem set53 {h : Heap} {b : Nat} {v : Value} {L : List Pr} (r : Pf h b v L) (hri : Rise L) (n w : List UInt8) (hl : L.length ≤ 100000) :
    CallsH Try.prog 38 ⟨[.pointer (some ⟨b, 0, none⟩), St n, St w]⟩ h fun u h' => u = .bool (setB L n w) ∧ ∃ v', Pf h' b v' (setL L n w) ∧ Ext (fun q => q = b ∨ v.ownBlock = some q) h h' ∧ ∀ q, v'.ownBlock = some q → v.ownBlock = some q ∨ h.size ≤ q := by
  have hne := r.ne
  obtain ⟨hb, ho⟩ := r
  obtain ⟨A, c, rfl, _⟩ := ho.slice
  refine calls [(0, _), (1, _), (2, _)] Try.func38 rfl Try.ntmps38 rfl ⟨rfl, rfl, rfl, trivial⟩ ?_
  all_goals (refine WC.seq ?_)
  all_goals (refine WC.region ?_)
  all_goals (refine WL.step (ok_assign rfl) rfl rfl rfl ?_)
  all_goals (refine WL.nil ?_)
  all_goals (repeat' (with_reducible first | refine thenP_n ?_ | refine blockP_n ?_))
  all_goals (refine WC.seq ?_)
  all_goals (refine WC.region ?_)
  all_goals (refine WL.step (ok_assign rfl) rfl rfl rfl ?_)
  all_goals (refine WL.nil ?_)
  all_goals (repeat' (with_reducible first | refine thenP_n ?_ | refine blockP_n ?_))
  all_goals (refine WC.seq ?_)
  all_goals (refine WC.block ?_)
  -- loop 0: slots that turn [7], that stay [0, 1, 2]
  all_goals (refine WC.loopG (X := Nat) (fun x => ([(7, In (x : Int))] : Fr)) [(0, _), (1, _), (2, _)] (fun k h' => h' = h ∧ k ≤ L.length ∧ ∀ p ∈ L.take k, p.1 < n) (fun k => L.length - k) (0) ⟨rfl, rfl, rfl, rfl, trivial⟩ (by exact ⟨rfl, Nat.zero_le _, by simp⟩) ?_)
  all_goals (rintro k h9 ⟨hz, hk, hn⟩
             subst h9
             have hcases : k = L.length ∨ ∃ yn yv, L[k]? = some (yn, yv) ∧ k < L.length := by rcases Nat.lt_or_ge k L.length with h1 | h1; exact .inr ⟨_, _, List.getElem?_eq_getElem h1, h1⟩; exact .inl (by omega)
             rcases hcases with hkl | ⟨yn, yv, hy, hkl⟩)
  all_goals (refine WC.sub [(7, _), (0, _), (1, _), (2, _)] ⟨rfl, rfl, rfl, rfl, trivial⟩ ?_)
  all_goals (refine WC.seq ?_)
  all_goals (refine WC.seq ?_)
  all_goals (refine WC.region ?_)
  all_goals (first
              | (fail_if_success (have := hy))
              | (obtain ⟨bL, oL, hA, hbL, hat⟩ := Rd.at_ ho.rd (show 0 < L.length by omega); have hc : At h bL (oL + k * 2) [St yn, St yv] := At.elem prC_len hat hy))
  all_goals (refine WL.step (ok_move rfl) rfl rfl rfl ?_)
  all_goals (refine WL.step (ok_move rfl) rfl rfl rfl ?_)
  all_goals (refine WL.step (ok_nilCheck rfl) rfl rfl rfl ?_)
  all_goals (refine WL.step (ok_fieldAddr rfl Try.underlying72 rfl (fun w => Try.sizeOf56 w)) rfl rfl rfl ?_)
  all_goals (refine WL.step (ok_load (fun w => Try.isAgg56 w) rfl (by first | assumption | exact cell_blk (by assumption) rfl)) rfl rfl rfl ?_)
  all_goals (refine WL.step (ok_lenL rfl Try.underlying56 rfl) rfl rfl rfl ?_)
  all_goals (first | (refine WL.step (OkP.bool_t (by omega) (ok_lss rfl rfl)) rfl rfl rfl ?_) | (refine WL.step (OkP.bool_f (by omega) (ok_lss rfl rfl)) rfl rfl rfl ?_) | (refine WL.step (ok_lss rfl rfl) rfl rfl rfl ?_))
  all_goals (refine WL.step (ok_move rfl) rfl rfl rfl ?_)
  all_goals (try ((fail_if_success (refine WL.part 16 (b := true) rfl (fun _ => ?_) (fun _ => ?_))); (fail_if_success (refine WL.part 16 (b := false) rfl (fun _ => ?_) (fun _ => ?_))); (refine WL.part 16 rfl (fun hb => ?_) (fun hb => ?_) <;> (first | replace hb := of_decide_eq_true hb | replace hb := of_decide_eq_false hb | replace hb := of_decide_eq_false (nt hb) | replace hb := of_decide_eq_true (nf hb) | skip))))
  all_goals (first | (refine WL.pass rfl rfl rfl ?_) | (refine WL.step (ok_move rfl) rfl rfl rfl ?_))
  all_goals (first | (refine WL.pass rfl rfl rfl ?_) | (refine WL.step (ok_nilCheck rfl) rfl rfl rfl ?_))
  all_goals (first | (refine WL.pass rfl rfl rfl ?_) | (refine WL.step (ok_fieldAddr rfl Try.underlying72 rfl (fun w => Try.sizeOf56 w)) rfl rfl rfl ?_))
  all_goals (first | (refine WL.pass rfl rfl rfl ?_) | (refine WL.step (ok_load (fun w => Try.isAgg56 w) rfl (by first | assumption | exact cell_blk (by assumption) rfl)) rfl rfl rfl ?_))
  all_goals (first | (refine WL.pass rfl rfl rfl ?_) | (refine WL.step (ok_move rfl) rfl rfl rfl ?_))
  all_goals (first | (refine WL.pass rfl rfl rfl ?_) | (refine WL.step (ok_idxAddrA Try.underlying56 (fun w => Try.sizeOf63 w) rfl rfl rfl (by omega) (by first | rfl | assumption)) rfl rfl rfl ?_))
  all_goals (first | (refine WL.pass rfl rfl rfl ?_) | (refine WL.step (ok_fieldAddr rfl Try.underlying63 rfl (fun w => Try.sizeOf9 w)) rfl rfl rfl ?_))
  all_goals (first | (refine WL.pass rfl rfl rfl ?_) | (refine WL.step (ok_load (fun w => Try.isAgg9 w) rfl (by first | exact hc.get 0 rfl rfl | assumption | exact cell_blk (by assumption) rfl)) rfl rfl rfl ?_))
  all_goals (first | (refine WL.pass rfl rfl rfl ?_) | (refine WL.step (ok_move rfl) rfl rfl rfl ?_))
  all_goals (first | (refine WL.pass rfl rfl rfl ?_) | (refine WL.step (ok_lssS rfl rfl) rfl rfl rfl ?_))
  all_goals (try rw [bytesLess_lt])
  all_goals (first | (refine WL.step (ok_pick_t rfl rfl) rfl rfl rfl ?_) | (refine WL.step (ok_pick_f rfl rfl) rfl rfl rfl ?_))
  all_goals (refine WL.nil ?_)
  all_goals (repeat' (with_reducible first | refine thenP_n ?_ | refine blockP_n ?_))
  all_goals (refine WC.sub [(0, _), (1, _), (2, _), (7, _), (27, _)] ⟨rfl, rfl, rfl, rfl, rfl, trivial⟩ ?_)
  all_goals (first | refine WC.condB_t 1 rfl ?_ | refine WC.condB_f 2 rfl ?_ | (refine WC.condB 1 2 rfl (fun hb => ?_) (fun hb => ?_) <;> (first | replace hb := of_decide_eq_true hb | replace hb := of_decide_eq_false hb | replace hb := of_decide_eq_false (nt hb) | replace hb := of_decide_eq_true (nf hb) | skip)))
  all_goals (first
    | (fail_if_success (refine Br.mk (i := 1) ?_))
    | (refine Br.mk (i := 1) ?_
       all_goals (refine WC.skip ?_)
       skip))
  all_goals (first
    | (fail_if_success (refine Br.mk (i := 2) ?_))
    | (refine Br.mk (i := 2) ?_
       all_goals (refine WC.exit ?_)
       all_goals (repeat' (with_reducible first | refine thenP_x ?_ | refine blockP_miss rfl ?_ | refine blockP_hit ?_ | refine blockP_n ?_ | refine thenP_n ?_))
       all_goals (refine Br.out (i := 1000) ?_)
       skip))
  all_goals (first | (refine Br.keep ?_) | (repeat' (with_reducible first | refine thenP_n ?_ | refine blockP_n ?_)))
  all_goals (first | (refine Br.keep ?_) | (refine WC.block ?_))
  all_goals (first | (refine Br.keep ?_) | (refine WC.region ?_))
  all_goals (first | (refine Br.keep ?_) | (refine WL.step (ok_move rfl) rfl rfl rfl ?_))
  all_goals (first | (refine Br.keep ?_) | (first | (refine WL.step (ok_addI rfl rfl (by omega)) rfl rfl rfl ?_) | (refine WL.step (ok_add rfl rfl) rfl rfl rfl ?_)))
  all_goals (first | (refine Br.keep ?_) | (refine WL.step (ok_assign rfl) rfl rfl rfl ?_))
  all_goals (first | (refine Br.keep ?_) | (refine WL.nil ?_))
  all_goals (first | (refine Br.keep ?_) | (repeat' (with_reducible first | refine thenP_n ?_ | refine blockP_n ?_)))
  all_goals (first | (refine Br.keep ?_) | (exact ⟨k + 1, ⟨rfl, rfl, rfl, rfl, trivial⟩, (by exact ⟨rfl, by omega, take_lt hn hy (by assumption)⟩), (by omega)⟩))
  all_goals (try (refine Br.mk (i := 1000) ?_))
  all_goals (repeat' (with_reducible first | refine thenP_n ?_ | refine blockP_n ?_))
  all_goals (refine WC.seq ?_)
  all_goals (refine WC.seq ?_)
  all_goals (refine WC.region ?_)
  all_goals (refine WL.step (ok_move rfl) rfl rfl rfl ?_)
  all_goals (refine WL.step (ok_move rfl) rfl rfl rfl ?_)
  all_goals (refine WL.step (ok_nilCheck rfl) rfl rfl rfl ?_)
  all_goals (refine WL.step (ok_fieldAddr rfl Try.underlying72 rfl (fun w => Try.sizeOf56 w)) rfl rfl rfl ?_)
  all_goals (refine WL.step (ok_load (fun w => Try.isAgg56 w) rfl (by first | assumption | exact cell_blk (by assumption) rfl)) rfl rfl rfl ?_)
  all_goals (refine WL.step (ok_lenL rfl Try.underlying56 rfl) rfl rfl rfl ?_)
  all_goals (first | (refine WL.step (OkP.bool_t (by omega) (ok_lss rfl rfl)) rfl rfl rfl ?_) | (refine WL.step (OkP.bool_f (by omega) (ok_lss rfl rfl)) rfl rfl rfl ?_) | (refine WL.step (ok_lss rfl rfl) rfl rfl rfl ?_))
  all_goals (refine WL.step (ok_move rfl) rfl rfl rfl ?_)
  all_goals (try ((fail_if_success (refine WL.part 37 (b := true) rfl (fun _ => ?_) (fun _ => ?_))); (fail_if_success (refine WL.part 37 (b := false) rfl (fun _ => ?_) (fun _ => ?_))); (refine WL.part 37 rfl (fun hb => ?_) (fun hb => ?_) <;> (first | replace hb := of_decide_eq_true hb | replace hb := of_decide_eq_false hb | replace hb := of_decide_eq_false (nt hb) | replace hb := of_decide_eq_true (nf hb) | skip))))
  all_goals (first | (refine WL.pass rfl rfl rfl ?_) | (refine WL.step (ok_move rfl) rfl rfl rfl ?_))
  all_goals (first | (refine WL.pass rfl rfl rfl ?_) | (refine WL.step (ok_nilCheck rfl) rfl rfl rfl ?_))
  all_goals (first | (refine WL.pass rfl rfl rfl ?_) | (refine WL.step (ok_fieldAddr rfl Try.underlying72 rfl (fun w => Try.sizeOf56 w)) rfl rfl rfl ?_))
  all_goals (first | (refine WL.pass rfl rfl rfl ?_) | (refine WL.step (ok_load (fun w => Try.isAgg56 w) rfl (by first | assumption | exact cell_blk (by assumption) rfl)) rfl rfl rfl ?_))
  all_goals (first | (refine WL.pass rfl rfl rfl ?_) | (refine WL.step (ok_move rfl) rfl rfl rfl ?_))
  all_goals (first | (refine WL.pass rfl rfl rfl ?_) | (refine WL.step (ok_idxAddrA Try.underlying56 (fun w => Try.sizeOf63 w) rfl rfl rfl (by omega) (by first | rfl | assumption)) rfl rfl rfl ?_))
  all_goals (first | (refine WL.pass rfl rfl rfl ?_) | (refine WL.step (ok_fieldAddr rfl Try.underlying63 rfl (fun w => Try.sizeOf9 w)) rfl rfl rfl ?_))
  all_goals (first | (refine WL.pass rfl rfl rfl ?_) | (refine WL.step (ok_load (fun w => Try.isAgg9 w) rfl (by first | exact hc.get 0 rfl rfl | assumption | exact cell_blk (by assumption) rfl)) rfl rfl rfl ?_))
  all_goals (first | (refine WL.pass rfl rfl rfl ?_) | (refine WL.step (ok_move rfl) rfl rfl rfl ?_))
  all_goals (first | (refine WL.pass rfl rfl rfl ?_) | (first | (refine WL.step (OkP.bool_t (by first | rfl | assumption | decide) (ok_eqlS rfl rfl)) rfl rfl rfl ?_) | (refine WL.step (OkP.bool_f (by first | assumption | decide) (ok_eqlS rfl rfl)) rfl rfl rfl ?_) | (refine WL.step (ok_eqlS rfl rfl) rfl rfl rfl ?_)))
  all_goals (first | (refine WL.step (ok_pick_t rfl rfl) rfl rfl rfl ?_) | (refine WL.step (ok_pick_f rfl rfl) rfl rfl rfl ?_))
  all_goals (refine WL.nil ?_)
  all_goals (repeat' (with_reducible first | refine thenP_n ?_ | refine blockP_n ?_))
  all_goals (refine WC.sub [(0, _), (1, _), (2, _), (7, _), (48, _)] ⟨rfl, rfl, rfl, rfl, rfl, trivial⟩ ?_)
  all_goals (first | refine WC.condB_t 3 rfl ?_ | refine WC.condB_f 4 rfl ?_ | (refine WC.condB 3 4 rfl (fun hb => ?_) (fun hb => ?_) <;> (first | replace hb := of_decide_eq_true hb | replace hb := of_decide_eq_false hb | replace hb := of_decide_eq_false (nt hb) | replace hb := of_decide_eq_true (nf hb) | skip)))
  all_goals (first
    | (fail_if_success (refine Br.mk (i := 3) ?_))
    | (refine Br.mk (i := 3) ?_
       all_goals (refine WC.seq ?_)
       all_goals (refine WC.region ?_)
       all_goals (refine WL.step (ok_move rfl) rfl rfl rfl ?_)
       all_goals (refine WL.step (ok_nilCheck rfl) rfl rfl rfl ?_)
       all_goals (refine WL.step (ok_fieldAddr rfl Try.underlying72 rfl (fun w => Try.sizeOf56 w)) rfl rfl rfl ?_)
       all_goals (refine WL.step (ok_load (fun w => Try.isAgg56 w) rfl (by first | assumption | exact cell_blk (by assumption) rfl)) rfl rfl rfl ?_)
       all_goals (refine WL.step (ok_move rfl) rfl rfl rfl ?_)
       all_goals (refine WL.step (ok_idxAddrA Try.underlying56 (fun w => Try.sizeOf63 w) rfl rfl rfl (by omega) (by first | rfl | assumption)) rfl rfl rfl ?_)
       all_goals (refine WL.step (ok_fieldAddr rfl Try.underlying63 rfl (fun w => Try.sizeOf9 w)) rfl rfl rfl ?_)
       all_goals (refine WL.step (ok_load (fun w => Try.isAgg9 w) rfl (by first | exact hc.get 1 rfl rfl | assumption | exact cell_blk (by assumption) rfl)) rfl rfl rfl ?_)
       all_goals (refine WL.step (ok_assign rfl) rfl rfl rfl ?_)
       all_goals (refine WL.nil ?_)
       all_goals (repeat' (with_reducible first | refine thenP_n ?_ | refine blockP_n ?_))
       all_goals (refine WC.sub [(0, _), (2, _), (7, _), (8, _)] ⟨rfl, rfl, rfl, rfl, trivial⟩ ?_)
       all_goals (refine WC.seq ?_)
       all_goals (refine WC.region ?_)
       all_goals (obtain ⟨gb, gc, gs, hgv, hgb, hgn, hgm, hgl, hgt⟩ := ho.block (by omega)
                  simp only [Value.slice.injEq] at hgv
                  obtain ⟨rfl, _, rfl⟩ := hgv
                  simp only [Option.some.injEq, Addr.mk.injEq] at hA
                  obtain ⟨rfl, rfl, _⟩ := hA
                  have hin := set_in hri (v := w) hn (by rw [hy, show yn = n by assumption]))
       all_goals (refine WL.step (ok_move rfl) rfl rfl rfl ?_)
       all_goals (refine WL.step (ok_nilCheck rfl) rfl rfl rfl ?_)
       all_goals (refine WL.step (ok_fieldAddr rfl Try.underlying72 rfl (fun w => Try.sizeOf56 w)) rfl rfl rfl ?_)
       all_goals (refine WL.step (ok_load (fun w => Try.isAgg56 w) rfl (by first | assumption | exact cell_blk (by assumption) rfl)) rfl rfl rfl ?_)
       all_goals (refine WL.step (ok_move rfl) rfl rfl rfl ?_)
       all_goals (refine WL.step (ok_move rfl) rfl rfl rfl ?_)
       all_goals (refine WL.step (ok_idxAddrA Try.underlying56 (fun w => Try.sizeOf63 w) rfl rfl rfl (by omega) (by first | rfl | assumption)) rfl rfl rfl ?_)
       all_goals (refine WL.step (ok_fieldAddr rfl Try.underlying63 rfl (fun w => Try.sizeOf9 w)) rfl rfl rfl ?_)
       all_goals (refine WL.stepR0 (okE_store (fun w => Try.sizeOf9 w) rfl rfl hgb (by show 0 + k * 2 + 1 < _; omega) rfl rfl) rfl rfl ?_
                  rintro _ h1 ⟨hb1, hx1⟩
                  have hb1' : h1[gb]? = some (.cells ⟨gs.set (k * 2 + 1) (St w)⟩ 63 (0, 0)) := by rw [show k * 2 + 1 = 0 + k * 2 + 1 by omega]; exact hb1)
       all_goals (refine WL.nil ?_)
       all_goals (repeat' (with_reducible first | refine thenP_n ?_ | refine blockP_n ?_))
       all_goals (refine WC.sub [(2, _), (8, _)] ⟨rfl, rfl, trivial⟩ ?_)
       all_goals (refine WC.seq ?_)
       all_goals (refine WC.region ?_)
       all_goals (refine WL.step (ok_move rfl) rfl rfl rfl ?_)
       all_goals (refine WL.step (ok_move rfl) rfl rfl rfl ?_)
       all_goals (first | (refine WL.step (OkP.nbool_f (by first | rfl | assumption | decide) (ok_neqS rfl rfl)) rfl rfl rfl ?_) | (refine WL.step (OkP.nbool_t (by first | assumption | decide) (ok_neqS rfl rfl)) rfl rfl rfl ?_) | (refine WL.step (ok_neqS rfl rfl) rfl rfl rfl ?_))
       all_goals (refine WL.step (ok_assign rfl) rfl rfl rfl ?_)
       all_goals (refine WL.nil ?_)
       all_goals (repeat' (with_reducible first | refine thenP_n ?_ | refine blockP_n ?_))
       all_goals (refine WC.sub [(6, _)] ⟨rfl, trivial⟩ ?_)
       all_goals (refine WC.ret ?_)
       all_goals (repeat' (with_reducible first | refine thenP_r ?_ | refine blockP_r ?_))
       all_goals (refine retP_1 _ ⟨rfl, trivial⟩ ?_)
       all_goals (first
                   | (refine ⟨by rw [hout.2], _, ⟨hb22, ?_⟩, (hX19.mono fun _ _ e => e.elim).trans (hx22.mono fun _ _ e => .inl e), fun q hq => .inr (hf19 q hq)⟩
                      rw [hout.1, show (L.take k ++ (n, w) :: L.drop k).length = k + 1 + (L.length - k) by simp; omega, List.flatMap_append, List.flatMap_cons, ← List.append_assoc]
                      exact ho19.ext hx22 (fun q hq e => by rw [e] at hq; have := hf19 _ hq; have := lt_of_some ‹h[b]? = _›; omega))
                   | (refine ⟨by rw [hin.2]; first | done | simp_all, _, ⟨hx1.obj ‹h[b]? = _› (fun e => hne (by rw [e]; rfl)), ?_⟩, hx1.mono (fun q _ e => .inr (by rw [e]; rfl)), fun q hq => .inl hq⟩
                      rw [hin.1, List.length_set]
                      exact Own.of_block hb1' hgn hgm (by rw [List.length_set]; exact hgl) (by rw [List.take_set, hgt, prs_set (u := yv) (by rw [hy, show yn = n by assumption])])))
       skip))
  all_goals (first
    | (fail_if_success (refine Br.mk (i := 4) ?_))
    | (refine Br.mk (i := 4) ?_
       all_goals (refine WC.skip ?_)
       skip))
  all_goals (repeat' (with_reducible first | refine thenP_n ?_ | refine blockP_n ?_))
  all_goals (refine WC.seq ?_)
  all_goals (refine WC.drawH (fun h' => Ext No h h') 20 23 rfl fol ?_)
  all_goals (have hout := set_out hri (v := w) hk hn (by first | (intro p hp; rw [List.getElem?_eq_none (by omega)] at hp; cases hp) | (intro p hp; rw [hy] at hp; obtain rfl := Option.some.inj hp; exact ⟨by assumption, by assumption⟩))
             have hOne : ∀ (l : List Pr), ∀ v ∈ l.flatMap prC, v.oneCell' = true := prs_one
             have hrt := ho.rd.take hk
             have hrd := ho.rd.drop hk
             rw [prs_take] at hrt
             rw [prs_drop] at hrd)
  all_goals (refine WH.take 0 rfl (by kernel_rfl) (by kernel_rfl) (by kernel_rfl) (by kernel_rfl) rfl (by first | exact Ext.refl _ _ | assumption | exact hX19) (fun hq hC => ok_move rfl) rfl rfl rfl ?_)
  all_goals (refine WH.take 1 rfl (by kernel_rfl) (by kernel_rfl) (by kernel_rfl) (by kernel_rfl) rfl (by first | exact Ext.refl _ _ | assumption | exact hX19) (fun hq hC => ok_move rfl) rfl rfl rfl ?_)
  all_goals (refine WH.take 2 rfl (by kernel_rfl) (by kernel_rfl) (by kernel_rfl) (by kernel_rfl) rfl (by first | exact Ext.refl _ _ | assumption | exact hX19) (fun hq hC => ok_nilCheck rfl) rfl rfl rfl ?_)
  all_goals (refine WH.take 3 rfl (by kernel_rfl) (by kernel_rfl) (by kernel_rfl) (by kernel_rfl) rfl (by first | exact Ext.refl _ _ | assumption | exact hX19) (fun hq hC => ok_fieldAddr rfl Try.underlying72 rfl (fun w => Try.sizeOf56 w)) rfl rfl rfl ?_)
  all_goals (refine WH.take 4 rfl (by kernel_rfl) (by kernel_rfl) (by kernel_rfl) (by kernel_rfl) rfl (by first | exact Ext.refl _ _ | assumption | exact hX19) (fun hq hC => ok_load (fun w => Try.isAgg56 w) rfl (by first | exact hC.cell (by first | assumption | assumption | exact cell_blk (by assumption) rfl) nos)) rfl rfl rfl ?_)
  all_goals (refine WH.take 5 rfl (by kernel_rfl) (by kernel_rfl) (by kernel_rfl) (by kernel_rfl) rfl (by first | exact Ext.refl _ _ | assumption | exact hX19) (fun hq hC => ok_move rfl) rfl rfl rfl ?_)
  all_goals (first | (refine WH.take 6 rfl (by kernel_rfl) (by kernel_rfl) (by kernel_rfl) (by kernel_rfl) rfl (by first | exact Ext.refl _ _ | assumption | exact hX19) (fun hq hC => ok_slice_hN Try.underlying56 (fun w => Try.sizeOf63 w) rfl rfl (by omega)) rfl rfl rfl ?_) | (refine WH.take 6 rfl (by kernel_rfl) (by kernel_rfl) (by kernel_rfl) (by kernel_rfl) rfl (by first | exact Ext.refl _ _ | assumption | exact hX19) (fun hq hC => ok_slice_h Try.underlying56 (fun w => Try.sizeOf63 w) rfl rfl (by omega)) rfl rfl rfl ?_))
  all_goals (refine WH.take 8 rfl (by kernel_rfl) (by kernel_rfl) (by kernel_rfl) (by kernel_rfl) rfl (by first | exact Ext.refl _ _ | assumption | exact hX19) (fun hq hC => ok_move rfl) rfl rfl rfl ?_)
  all_goals (refine WH.take 9 rfl (by kernel_rfl) (by kernel_rfl) (by kernel_rfl) (by kernel_rfl) rfl (by first | exact Ext.refl _ _ | assumption | exact hX19) (fun hq hC => ok_move rfl) rfl rfl rfl ?_)
  all_goals (refine WH.take 10 rfl (by kernel_rfl) (by kernel_rfl) (by kernel_rfl) (by kernel_rfl) rfl (by first | exact Ext.refl _ _ | assumption | exact hX19) (fun hq hC => ok_buildF (vs := [_, _]) (cs := [_, _]) (fun | [a0, a1] => [a0, a1] | _ => []) rfl rfl (by kernel_rfl)) rfl rfl rfl ?_)
  all_goals (refine WH.take 13 rfl (by kernel_rfl) (by kernel_rfl) (by kernel_rfl) (by kernel_rfl) rfl (by first | exact Ext.refl _ _ | assumption | exact hX19) (fun hq hC => ok_move rfl) rfl rfl rfl ?_)
  all_goals (refine WH.take 14 rfl (by kernel_rfl) (by kernel_rfl) (by kernel_rfl) (by kernel_rfl) rfl (by first | exact Ext.refl _ _ | assumption | exact hX19) (fun hq hC => ok_nilCheck rfl) rfl rfl rfl ?_)
  all_goals (refine WH.take 15 rfl (by kernel_rfl) (by kernel_rfl) (by kernel_rfl) (by kernel_rfl) rfl (by first | exact Ext.refl _ _ | assumption | exact hX19) (fun hq hC => ok_fieldAddr rfl Try.underlying72 rfl (fun w => Try.sizeOf56 w)) rfl rfl rfl ?_)
  all_goals (refine WH.take 16 rfl (by kernel_rfl) (by kernel_rfl) (by kernel_rfl) (by kernel_rfl) rfl (by first | exact Ext.refl _ _ | assumption | exact hX19) (fun hq hC => ok_load (fun w => Try.isAgg56 w) rfl (by first | exact hC.cell (by first | assumption | assumption | exact cell_blk (by assumption) rfl) nos)) rfl rfl rfl ?_)
  all_goals (refine WH.take 17 rfl (by kernel_rfl) (by kernel_rfl) (by kernel_rfl) (by kernel_rfl) rfl (by first | exact Ext.refl _ _ | assumption | exact hX19) (fun hq hC => ok_move rfl) rfl rfl rfl ?_)
  all_goals (first | (refine WH.take 18 rfl (by kernel_rfl) (by kernel_rfl) (by kernel_rfl) (by kernel_rfl) rfl (by first | exact Ext.refl _ _ | assumption | exact hX19) (fun hq hC => ok_slice_lN Try.underlying56 (fun w => Try.sizeOf63 w) rfl rfl (by omega)) rfl rfl rfl ?_) | (refine WH.take 18 rfl (by kernel_rfl) (by kernel_rfl) (by kernel_rfl) (by kernel_rfl) rfl (by first | exact Ext.refl _ _ | assumption | exact hX19) (fun hq hC => ok_slice_lS Try.underlying56 (fun w => Try.sizeOf63 w) rfl rfl (by omega)) rfl rfl rfl ?_) | (refine WH.take 18 rfl (by kernel_rfl) (by kernel_rfl) (by kernel_rfl) (by kernel_rfl) rfl (by first | exact Ext.refl _ _ | assumption | exact hX19) (fun hq hC => ok_slice_l Try.underlying56 (fun w => Try.sizeOf63 w) rfl rfl (by omega)) rfl rfl rfl ?_))
  all_goals (refine WH.two 7 11 (by kernel_rfl) (Br.out (i := 5002) ?_) (Br.out (i := 5003) ?_))
  all_goals (first
    | (fail_if_success (refine Br.mk (i := 5002) ?_))
    | (refine Br.mk (i := 5002) ?_
       all_goals (refine Comes1.run rfl (ok_append (sz := 2) (bytes := 32) rfl Try.underlying56 (show Try.prog.info? 63 = some Try.t63 by kernel_rfl) rfl rfl rfl rfl (by decide) rfl rfl (Own.nil _ _ _) (hrt.ext0 (by first | exact Ext.refl _ _ | exact hx11)) (hOne _) (by simp only [maxLen]; omega) (by omega)) rfl rfl rfl ?_ (fun _ => by kernel_rfl)
                  rintro v7 h7 ⟨ho7, hx7, hl7⟩)
       all_goals (refine ⟨fun _ => (by first | exact hx7.mono (fun _ _ e => by cases e) | exact hx11.trans (hx7.mono fun _ _ e => by cases e)), ?_⟩)
       all_goals (have hx7' := hx7.mono (S' := No) (fun _ _ e => by cases e))
       all_goals (refine WH.one 11 (by kernel_rfl) ?_)
       all_goals (refine Comes1.run rfl (okE_buildSlice (vs := [_]) (cs := [_, _]) (fun | [.agg ⟨[a0, a1]⟩] => [a0, a1] | _ => []) Try.underlying56 rfl rfl (by kernel_rfl)) rfl rfl rfl ?_ (fun _ => by kernel_rfl)
                  rintro _ h11 ⟨b11, rfl, hg11, hb11, hx11⟩)
       all_goals (refine ⟨fun _ => (by first | exact hx11 | exact hx7'.trans hx11), ?_⟩)
       all_goals (refine WH.one 12 (by kernel_rfl) ?_)
       all_goals (first
                   | (have hO := ho7.ext hx11 (fun _ _ => nos); have hB := hb11; have hX := hx7'.trans hx11; have hf7 : ∀ q, v7.ownBlock = some q → h.size ≤ q := fresh_of hl7 (by simp [Value.ownBlock]) (Nat.le_refl _))
                   | (have hO := ho7; have hB := hx7'.obj hb11 nos; have hX := hx11.trans hx7'; have hf7 : ∀ q, v7.ownBlock = some q → h.size ≤ q := fresh_of hl7 (by simp [Value.ownBlock]) hx11.size)
                  simp only [List.nil_append, Nat.zero_add] at hO)
       all_goals (refine Comes1.run rfl (ok_append (sz := 2) (bytes := 32) rfl Try.underlying56 (show Try.prog.info? 63 = some Try.t63 by kernel_rfl) rfl rfl rfl rfl (by decide) rfl rfl hO (rd_blk hB rfl) (by simp [Value.oneCell']) (by simp only [maxLen]; omega) (by omega)) rfl rfl rfl ?_ (fun _ => by kernel_rfl)
                  rintro v12 h12 ⟨ho12, hx12, hl12⟩)
       all_goals (refine ⟨fun _ => hX.trans' hx12 (fun q hq e => by have := hf7 q e; omega), ?_⟩)
       all_goals (have hX12 := hX.trans' hx12 (fun q hq e => by have := hf7 q e; omega)
                  have hf12 : ∀ q, v12.ownBlock = some q → h.size ≤ q := fresh_of hl12 hf7 hX.size)
       all_goals (refine WH.one 19 (by kernel_rfl) ?_)
       all_goals (refine Comes1.run rfl (ok_append (sz := 2) (bytes := 32) rfl Try.underlying56 (show Try.prog.info? 63 = some Try.t63 by kernel_rfl) rfl rfl rfl rfl (by decide) rfl rfl ho12 (hrd.ext0 hX12) (hOne _) (by simp only [maxLen]; omega) (by omega)) rfl rfl rfl ?_ (fun _ => by kernel_rfl)
                  rintro v19 h19 ⟨ho19, hx19, hl19⟩)
       all_goals (refine ⟨fun _ => hX12.trans' hx19 (fun q hq e => by have := hf12 q e; omega), ?_⟩)
       all_goals (have hX19 := hX12.trans' hx19 (fun q hq e => by have := hf12 q e; omega)
                  have hf19 : ∀ q, v19.ownBlock = some q → h.size ≤ q := fresh_of hl19 hf12 hX12.size
                  have hb19 := hX19.obj ‹h[b]? = _› nos
                  obtain ⟨A19, c19, rfl, _⟩ := ho19.slice)
       all_goals (refine WH.one 20 (by kernel_rfl) ?_)
       all_goals (refine Comes1.run rfl (OkP.r (ok_nilCheck rfl)) rfl rfl rfl ?_ (fun _ => by kernel_rfl)
                  rintro _ hz ⟨rfl, _⟩
                  subst hz)
       all_goals (refine ⟨fun e => (by cases e), ?_⟩)
       all_goals (refine WH.one 21 (by kernel_rfl) ?_)
       all_goals (refine Comes1.run rfl (OkP.r (ok_fieldAddr rfl Try.underlying72 rfl (fun w => Try.sizeOf56 w))) rfl rfl rfl ?_ (fun _ => by kernel_rfl)
                  rintro _ hz ⟨rfl, _⟩
                  subst hz)
       all_goals (refine ⟨fun e => (by cases e), ?_⟩)
       all_goals (refine WH.one 22 (by kernel_rfl) ?_)
       all_goals (refine Comes1.run0 rfl (okE_store (fun w => Try.sizeOf56 w) rfl rfl hb19 (Nat.le_of_ble_eq_true rfl) rfl rfl) rfl rfl ?_ (fun _ => by kernel_rfl)
                  rintro _ h22 ⟨hb22, hx22⟩)
       all_goals (refine ⟨fun e => (by cases e), ?_⟩)
       all_goals (refine WH.done (by kernel_rfl) ?_)
       skip))
  all_goals (first
    | (fail_if_success (refine Br.mk (i := 5003) ?_))
    | (refine Br.mk (i := 5003) ?_
       all_goals (refine Comes1.run rfl (okE_buildSlice (vs := [_]) (cs := [_, _]) (fun | [.agg ⟨[a0, a1]⟩] => [a0, a1] | _ => []) Try.underlying56 rfl rfl (by kernel_rfl)) rfl rfl rfl ?_ (fun _ => by kernel_rfl)
                  rintro _ h11 ⟨b11, rfl, hg11, hb11, hx11⟩)
       all_goals (refine ⟨fun _ => (by first | exact hx11 | exact hx7'.trans hx11), ?_⟩)
       all_goals (refine WH.one 7 (by kernel_rfl) ?_)
       all_goals (refine Comes1.run rfl (ok_append (sz := 2) (bytes := 32) rfl Try.underlying56 (show Try.prog.info? 63 = some Try.t63 by kernel_rfl) rfl rfl rfl rfl (by decide) rfl rfl (Own.nil _ _ _) (hrt.ext0 (by first | exact Ext.refl _ _ | exact hx11)) (hOne _) (by simp only [maxLen]; omega) (by omega)) rfl rfl rfl ?_ (fun _ => by kernel_rfl)
                  rintro v7 h7 ⟨ho7, hx7, hl7⟩)
       all_goals (refine ⟨fun _ => (by first | exact hx7.mono (fun _ _ e => by cases e) | exact hx11.trans (hx7.mono fun _ _ e => by cases e)), ?_⟩)
       all_goals (have hx7' := hx7.mono (S' := No) (fun _ _ e => by cases e))
       all_goals (refine WH.one 12 (by kernel_rfl) ?_)
       all_goals (first
                   | (have hO := ho7.ext hx11 (fun _ _ => nos); have hB := hb11; have hX := hx7'.trans hx11; have hf7 : ∀ q, v7.ownBlock = some q → h.size ≤ q := fresh_of hl7 (by simp [Value.ownBlock]) (Nat.le_refl _))
                   | (have hO := ho7; have hB := hx7'.obj hb11 nos; have hX := hx11.trans hx7'; have hf7 : ∀ q, v7.ownBlock = some q → h.size ≤ q := fresh_of hl7 (by simp [Value.ownBlock]) hx11.size)
                  simp only [List.nil_append, Nat.zero_add] at hO)
       all_goals (refine Comes1.run rfl (ok_append (sz := 2) (bytes := 32) rfl Try.underlying56 (show Try.prog.info? 63 = some Try.t63 by kernel_rfl) rfl rfl rfl rfl (by decide) rfl rfl hO (rd_blk hB rfl) (by simp [Value.oneCell']) (by simp only [maxLen]; omega) (by omega)) rfl rfl rfl ?_ (fun _ => by kernel_rfl)
                  rintro v12 h12 ⟨ho12, hx12, hl12⟩)
       all_goals (refine ⟨fun _ => hX.trans' hx12 (fun q hq e => by have := hf7 q e; omega), ?_⟩)
       all_goals (have hX12 := hX.trans' hx12 (fun q hq e => by have := hf7 q e; omega)
                  have hf12 : ∀ q, v12.ownBlock = some q → h.size ≤ q := fresh_of hl12 hf7 hX.size)
       all_goals (refine WH.one 19 (by kernel_rfl) ?_)
       all_goals (refine Comes1.run rfl (ok_append (sz := 2) (bytes := 32) rfl Try.underlying56 (show Try.prog.info? 63 = some Try.t63 by kernel_rfl) rfl rfl rfl rfl (by decide) rfl rfl ho12 (hrd.ext0 hX12) (hOne _) (by simp only [maxLen]; omega) (by omega)) rfl rfl rfl ?_ (fun _ => by kernel_rfl)
                  rintro v19 h19 ⟨ho19, hx19, hl19⟩)
       all_goals (refine ⟨fun _ => hX12.trans' hx19 (fun q hq e => by have := hf12 q e; omega), ?_⟩)
       all_goals (have hX19 := hX12.trans' hx19 (fun q hq e => by have := hf12 q e; omega)
                  have hf19 : ∀ q, v19.ownBlock = some q → h.size ≤ q := fresh_of hl19 hf12 hX12.size
                  have hb19 := hX19.obj ‹h[b]? = _› nos
                  obtain ⟨A19, c19, rfl, _⟩ := ho19.slice)
       all_goals (refine WH.one 20 (by kernel_rfl) ?_)
       all_goals (refine Comes1.run rfl (OkP.r (ok_nilCheck rfl)) rfl rfl rfl ?_ (fun _ => by kernel_rfl)
                  rintro _ hz ⟨rfl, _⟩
                  subst hz)
       all_goals (refine ⟨fun e => (by cases e), ?_⟩)
       all_goals (refine WH.one 21 (by kernel_rfl) ?_)
       all_goals (refine Comes1.run rfl (OkP.r (ok_fieldAddr rfl Try.underlying72 rfl (fun w => Try.sizeOf56 w))) rfl rfl rfl ?_ (fun _ => by kernel_rfl)
                  rintro _ hz ⟨rfl, _⟩
                  subst hz)
       all_goals (refine ⟨fun e => (by cases e), ?_⟩)
       all_goals (refine WH.one 22 (by kernel_rfl) ?_)
       all_goals (refine Comes1.run0 rfl (okE_store (fun w => Try.sizeOf56 w) rfl rfl hb19 (Nat.le_of_ble_eq_true rfl) rfl rfl) rfl rfl ?_ (fun _ => by kernel_rfl)
                  rintro _ h22 ⟨hb22, hx22⟩)
       all_goals (refine ⟨fun e => (by cases e), ?_⟩)
       all_goals (refine WH.done (by kernel_rfl) ?_)
       skip))
  all_goals (repeat' (with_reducible first | refine thenP_n ?_ | refine blockP_n ?_))
  all_goals (refine WC.sub [] trivial ?_)
  all_goals (refine WC.seq ?_)
  all_goals (refine WC.region ?_)
  all_goals (refine WL.step (ok_assign rfl) rfl rfl rfl ?_)
  all_goals (refine WL.nil ?_)
  all_goals (repeat' (with_reducible first | refine thenP_n ?_ | refine blockP_n ?_))
  all_goals (refine WC.ret ?_)
  all_goals (repeat' (with_reducible first | refine thenP_r ?_ | refine blockP_r ?_))
  all_goals (refine retP_1 _ ⟨rfl, trivial⟩ ?_)
  all_goals (first
              | (refine ⟨by rw [hout.2], _, ⟨hb22, ?_⟩, (hX19.mono fun _ _ e => e.elim).trans (hx22.mono fun _ _ e => .inl e), fun q hq => .inr (hf19 q hq)⟩
                 rw [hout.1, show (L.take k ++ (n, w) :: L.drop k).length = k + 1 + (L.length - k) by simp; omega, List.flatMap_append, List.flatMap_cons, ← List.append_assoc]
                 exact ho19.ext hx22 (fun q hq e => by rw [e] at hq; have := hf19 _ hq; have := lt_of_some ‹h[b]? = _›; omega))
              | (refine ⟨by rw [hin.2]; first | done | simp_all, _, ⟨hx1.obj ‹h[b]? = _› (fun e => hne (by rw [e]; rfl)), ?_⟩, hx1.mono (fun q _ e => .inr (by rw [e]; rfl)), fun q hq => .inl hq⟩
                 rw [hin.1, List.length_set]
                 exact Own.of_block hb1' hgn hgm (by rw [List.length_set]; exact hgl) (by rw [List.take_set, hgt, prs_set (u := yv) (by rw [hy, show yn = n by assumption])])))
theorem foldl_rise (l : List Pr) : Rise (newL l) := by
  unfold newL
  have : ∀ (l : List Pr) (L : List Pr), Rise L → Rise (l.foldl (fun L p => setL L p.1 p.2) L) := by
    intro l
    induction l with
    | nil => exact fun L h => h
    | cons p l ih => exact fun L h => ih _ (h.set _ _)
  exact this l [] List.Pairwise.nil
set_option maxRecDepth 100000 in
theorem new53 {h : Heap} {v : Value} (l : List Pr) (hr : Rd h v 2 l.length (l.flatMap prC)) (hl : l.length ≤ 1000) :
    CallsH Try.prog 36 ⟨[v]⟩ h fun u h' => ∃ b v', u = .pointer (some ⟨b, 0, none⟩) ∧ Pf h' b v' (newL l) ∧ h.size ≤ b ∧ (∀ q, v'.ownBlock = some q → h.size ≤ q) ∧ Ext No h h' := by
  obtain ⟨A, c, rfl, _⟩ := id hr
  refine calls [(0, _)] Try.func36 rfl Try.ntmps36 rfl ⟨rfl, trivial⟩ ?_
  all_goals (refine WC.seq ?_)
  all_goals (refine WC.region ?_)
  all_goals (refine WL.step (ok_assign rfl) rfl rfl rfl ?_)
  all_goals (refine WL.nil ?_)
  all_goals (repeat' (with_reducible first | refine thenP_n ?_ | refine blockP_n ?_))
  all_goals (refine WC.seq ?_)
  all_goals (refine WC.region ?_)
  all_goals (refine WL.step (ok_buildF (vs := []) (cs := [_]) (fun | [] => [(.slice none 0 0)] | _ => []) rfl rfl (by kernel_rfl)) rfl rfl rfl ?_)
  all_goals (refine WL.stepR (okE_box rfl) rfl rfl rfl ?_
             rintro _ h1 ⟨b1, rfl, hg1, hb1, hx1⟩)
  all_goals (refine WL.step (ok_assign rfl) rfl rfl rfl ?_)
  all_goals (refine WL.nil ?_)
  all_goals (repeat' (with_reducible first | refine thenP_n ?_ | refine blockP_n ?_))
  all_goals (refine WC.seq ?_)
  all_goals (refine WC.seq ?_)
  all_goals (refine WC.region ?_)
  all_goals (refine WL.step (ok_assign rfl) rfl rfl rfl ?_)
  all_goals (refine WL.nil ?_)
  all_goals (repeat' (with_reducible first | refine thenP_n ?_ | refine blockP_n ?_))
  all_goals (refine WC.block ?_)
  -- loop 0: slots that turn [4], that stay [0, 3]
  all_goals (refine WC.loopG (X := Nat × Value) (fun x => ([(4, In (x.1 : Int))] : Fr)) [(0, _), (3, _)] (fun x h' => x.1 ≤ l.length ∧ Pf h' b1 x.2 (newL (l.take x.1)) ∧ Ext No h h' ∧ ∀ q, x.2.ownBlock = some q → h.size ≤ q) (fun x => l.length - x.1) ((0, .slice none 0 0)) ⟨rfl, rfl, rfl, trivial⟩ (by exact ⟨Nat.zero_le _, ⟨hb1, Own.nil _ _ _⟩, hx1, by simp [Value.ownBlock]⟩) ?_)
  all_goals (rintro ⟨k, v2⟩ h2 ⟨hk, r2, hx2, hf2⟩
             simp only at hk r2 hf2
             have hri2 : Rise (newL (l.take k)) := foldl_rise _
             have hln := newL_len l k)
  all_goals (refine WC.sub [(4, _), (0, _), (3, _)] ⟨rfl, rfl, rfl, trivial⟩ ?_)
  all_goals (dsimp only)
  all_goals (refine WC.seq ?_)
  all_goals (refine WC.seq ?_)
  all_goals (refine WC.region ?_)
  all_goals (refine WL.step (ok_move rfl) rfl rfl rfl ?_)
  all_goals (refine WL.step (ok_move rfl) rfl rfl rfl ?_)
  all_goals (refine WL.step (ok_lenL rfl Try.underlying56 rfl) rfl rfl rfl ?_)
  all_goals (first | (refine WL.step (OkP.bool_t (by omega) (ok_lss rfl rfl)) rfl rfl rfl ?_) | (refine WL.step (OkP.bool_f (by omega) (ok_lss rfl rfl)) rfl rfl rfl ?_) | (refine WL.step (ok_lss rfl rfl) rfl rfl rfl ?_))
  all_goals (refine WL.nil ?_)
  all_goals (repeat' (with_reducible first | refine thenP_n ?_ | refine blockP_n ?_))
  all_goals (first | refine WC.condB_t 1 rfl ?_ | refine WC.condB_f 2 rfl ?_ | (refine WC.condB 1 2 rfl (fun hb => ?_) (fun hb => ?_) <;> (first | replace hb := of_decide_eq_true hb | replace hb := of_decide_eq_false hb | replace hb := of_decide_eq_false (nt hb) | replace hb := of_decide_eq_true (nf hb) | skip)))
  all_goals (first
    | (fail_if_success (refine Br.mk (i := 1) ?_))
    | (refine Br.mk (i := 1) ?_
       all_goals (refine WC.skip ?_)
       skip))
  all_goals (first
    | (fail_if_success (refine Br.mk (i := 2) ?_))
    | (refine Br.mk (i := 2) ?_
       all_goals (refine WC.exit ?_)
       all_goals (repeat' (with_reducible first | refine thenP_x ?_ | refine blockP_miss rfl ?_ | refine blockP_hit ?_ | refine blockP_n ?_ | refine thenP_n ?_))
       all_goals (refine Br.out (i := 1000) ?_)
       skip))
  all_goals (first | (refine Br.keep ?_) | (repeat' (with_reducible first | refine thenP_n ?_ | refine blockP_n ?_)))
  all_goals (first | (refine Br.keep ?_) | (refine WC.sub [(0, _), (3, _), (4, _)] ⟨rfl, rfl, rfl, trivial⟩ ?_))
  all_goals (first | (refine Br.keep ?_) | (refine WC.seq ?_))
  all_goals (first | (refine Br.keep ?_) | (refine WC.block ?_))
  all_goals (first | (refine Br.keep ?_) | (refine WC.drawH (fun h' => Ext (fun q => q = b1 ∨ v2.ownBlock = some q) h2 h') 12 12 rfl fol ?_))
  all_goals (first
               | (refine Br.keep ?_)
               | (obtain ⟨bL, oL, hA, hbL, hat⟩ := Rd.at_ hr (by omega)
                  obtain ⟨⟨yn, yv⟩, hy⟩ : ∃ y, l[k]? = some y := ⟨_, List.getElem?_eq_getElem (by omega)⟩
                  have hc : At h2 bL (oL + k * 2) [St yn, St yv] := (At.elem prC_len hat hy).ext hx2 nos))
  all_goals (first | (refine Br.keep ?_) | (refine WH.take 0 rfl (by kernel_rfl) (by kernel_rfl) (by kernel_rfl) (by kernel_rfl) rfl (by first | exact Ext.refl _ _ | assumption) (fun hq hC => ok_move rfl) rfl rfl rfl ?_))
  all_goals (first | (refine Br.keep ?_) | (refine WH.take 1 rfl (by kernel_rfl) (by kernel_rfl) (by kernel_rfl) (by kernel_rfl) rfl (by first | exact Ext.refl _ _ | assumption) (fun hq hC => ok_move rfl) rfl rfl rfl ?_))
  all_goals (first | (refine Br.keep ?_) | (refine WH.take 2 rfl (by kernel_rfl) (by kernel_rfl) (by kernel_rfl) (by kernel_rfl) rfl (by first | exact Ext.refl _ _ | assumption) (fun hq hC => ok_move rfl) rfl rfl rfl ?_))
  all_goals (first | (refine Br.keep ?_) | (refine WH.take 3 rfl (by kernel_rfl) (by kernel_rfl) (by kernel_rfl) (by kernel_rfl) rfl (by first | exact Ext.refl _ _ | assumption) (fun hq hC => ok_idxAddrA Try.underlying56 (fun w => Try.sizeOf63 w) rfl rfl rfl (by omega) (by first | rfl | assumption)) rfl rfl rfl ?_))
  all_goals (first | (refine Br.keep ?_) | (refine WH.take 4 rfl (by kernel_rfl) (by kernel_rfl) (by kernel_rfl) (by kernel_rfl) rfl (by first | exact Ext.refl _ _ | assumption) (fun hq hC => ok_fieldAddr rfl Try.underlying63 rfl (fun w => Try.sizeOf9 w)) rfl rfl rfl ?_))
  all_goals (first | (refine Br.keep ?_) | (refine WH.take 5 rfl (by kernel_rfl) (by kernel_rfl) (by kernel_rfl) (by kernel_rfl) rfl (by first | exact Ext.refl _ _ | assumption) (fun hq hC => ok_load (fun w => Try.isAgg9 w) rfl (by first | exact hC.cell (by first | exact hc.get 0 rfl rfl | assumption | exact cell_blk (by assumption) rfl) (fun e => by rcases e with e | e; have e' : bL = b1 := e; omega; have e' : h.size ≤ bL := hf2 _ e; omega))) rfl rfl rfl ?_))
  all_goals (first | (refine Br.keep ?_) | (refine WH.take 6 rfl (by kernel_rfl) (by kernel_rfl) (by kernel_rfl) (by kernel_rfl) rfl (by first | exact Ext.refl _ _ | assumption) (fun hq hC => ok_move rfl) rfl rfl rfl ?_))
  all_goals (first | (refine Br.keep ?_) | (refine WH.take 7 rfl (by kernel_rfl) (by kernel_rfl) (by kernel_rfl) (by kernel_rfl) rfl (by first | exact Ext.refl _ _ | assumption) (fun hq hC => ok_move rfl) rfl rfl rfl ?_))
  all_goals (first | (refine Br.keep ?_) | (refine WH.take 8 rfl (by kernel_rfl) (by kernel_rfl) (by kernel_rfl) (by kernel_rfl) rfl (by first | exact Ext.refl _ _ | assumption) (fun hq hC => ok_idxAddrA Try.underlying56 (fun w => Try.sizeOf63 w) rfl rfl rfl (by omega) (by first | rfl | assumption)) rfl rfl rfl ?_))
  all_goals (first | (refine Br.keep ?_) | (refine WH.take 9 rfl (by kernel_rfl) (by kernel_rfl) (by kernel_rfl) (by kernel_rfl) rfl (by first | exact Ext.refl _ _ | assumption) (fun hq hC => ok_fieldAddr rfl Try.underlying63 rfl (fun w => Try.sizeOf9 w)) rfl rfl rfl ?_))
  all_goals (first | (refine Br.keep ?_) | (refine WH.take 10 rfl (by kernel_rfl) (by kernel_rfl) (by kernel_rfl) (by kernel_rfl) rfl (by first | exact Ext.refl _ _ | assumption) (fun hq hC => ok_load (fun w => Try.isAgg9 w) rfl (by first | exact hC.cell (by first | exact hc.get 1 rfl rfl | assumption | exact cell_blk (by assumption) rfl) (fun e => by rcases e with e | e; have e' : bL = b1 := e; omega; have e' : h.size ≤ bL := hf2 _ e; omega))) rfl rfl rfl ?_))
  all_goals (first | (refine Br.keep ?_) | (refine WH.one 11 (by kernel_rfl) ?_))
  all_goals (first
               | (refine Br.keep ?_)
               | (refine Comes1.call (vs := [_, _, _]) rfl rfl (fun a w => Try.call38 a w) rfl (set53 r2 hri2 yn yv (by omega)) rfl rfl rfl ?_ (fun _ => by kernel_rfl)
                  rintro _ h3 ⟨rfl, v3, r3, hx3, hk3⟩))
  all_goals (first | (refine Br.keep ?_) | (refine ⟨fun _ => hx3, ?_⟩))
  all_goals (first | (refine Br.keep ?_) | (refine WH.done (by kernel_rfl) ?_))
  all_goals (first | (refine Br.keep ?_) | (repeat' (with_reducible first | refine thenP_n ?_ | refine blockP_n ?_)))
  all_goals (first | (refine Br.keep ?_) | (refine WC.sub [(0, _), (3, _), (4, _)] ⟨rfl, rfl, rfl, trivial⟩ ?_))
  all_goals (first | (refine Br.keep ?_) | (refine WC.region ?_))
  all_goals (first | (refine Br.keep ?_) | (refine WL.step (ok_move rfl) rfl rfl rfl ?_))
  all_goals (first | (refine Br.keep ?_) | (first | (refine WL.step (ok_addI rfl rfl (by omega)) rfl rfl rfl ?_) | (refine WL.step (ok_add rfl rfl) rfl rfl rfl ?_)))
  all_goals (first | (refine Br.keep ?_) | (refine WL.step (ok_assign rfl) rfl rfl rfl ?_))
  all_goals (first | (refine Br.keep ?_) | (refine WL.nil ?_))
  all_goals (first | (refine Br.keep ?_) | (repeat' (with_reducible first | refine thenP_n ?_ | refine blockP_n ?_)))
  all_goals (first | (refine Br.keep ?_) | (exact ⟨(k + 1, _), ⟨rfl, rfl, rfl, trivial⟩, (by exact ⟨by simp; omega, by rw [newL_snoc hy]; exact r3, hx2.trans' hx3 (fun q hq e => by rcases e with e | e; omega; have := hf2 q e; omega), fun q hq => by rcases hk3 q hq with e | e; exact hf2 q e; have := hx2.size; omega⟩), (by simp; omega)⟩))
  all_goals (try (refine Br.mk (i := 1000) ?_))
  all_goals (repeat' (with_reducible first | refine thenP_n ?_ | refine blockP_n ?_))
  all_goals (refine WC.sub [(3, _)] ⟨rfl, trivial⟩ ?_)
  all_goals (refine WC.seq ?_)
  all_goals (refine WC.region ?_)
  all_goals (refine WL.step (ok_move rfl) rfl rfl rfl ?_)
  all_goals (refine WL.step (ok_assign rfl) rfl rfl rfl ?_)
  all_goals (refine WL.nil ?_)
  all_goals (repeat' (with_reducible first | refine thenP_n ?_ | refine blockP_n ?_))
  all_goals (refine WC.ret ?_)
  all_goals (repeat' (with_reducible first | refine thenP_r ?_ | refine blockP_r ?_))
  all_goals (refine retP_1 _ ⟨rfl, trivial⟩ ?_)
  all_goals (rw [List.take_of_length_le (by omega)] at r2
             exact ⟨_, _, rfl, r2, hg1, hf2, hx2⟩)
theorem diffL_snoc {L M : List Pr} {k : Nat} {y : Pr} (hy : M[k]? = some y) : diffL L (M.take (k + 1)) = if getL L y.1 = some y.2 then diffL L (M.take k) else diffL L (M.take k) ++ [y] := by
  unfold diffL
  rw [List.take_add_one, hy, List.filter_append]
  by_cases h : getL L y.1 = some y.2 <;> simp [h]
set_option maxRecDepth 100000 in
theorem diff53L {h : Heap} {b b2 : Nat} {v w : Value} {L M : List Pr} (r : Pf h b v L) (q : Pf h b2 w M) (hri : Rise L) (hl : L.length ≤ 1000000) (hm : M.length ≤ 1000000) :
    CallsH Try.prog 43 ⟨[.pointer (some ⟨b, 0, none⟩), .pointer (some ⟨b2, 0, none⟩)]⟩ h fun u h' => NewP h u (diffL L M) h' := by
  have hqb := q.blk
  obtain ⟨A, c, rfl, _⟩ := q.own.slice
  refine calls [(0, _), (1, _)] Try.func43 rfl Try.ntmps43 rfl ⟨rfl, rfl, trivial⟩ ?_
  all_goals (refine WC.seq ?_)
  all_goals (refine WC.region ?_)
  all_goals (refine WL.step (ok_assign rfl) rfl rfl rfl ?_)
  all_goals (refine WL.nil ?_)
  all_goals (repeat' (with_reducible first | refine thenP_n ?_ | refine blockP_n ?_))
  all_goals (refine WC.seq ?_)
  all_goals (refine WC.region ?_)
  all_goals (refine WL.step (ok_assign rfl) rfl rfl rfl ?_)
  all_goals (refine WL.nil ?_)
  all_goals (repeat' (with_reducible first | refine thenP_n ?_ | refine blockP_n ?_))
  all_goals (refine WC.seq ?_)
  all_goals (refine WC.seq ?_)
  all_goals (refine WC.region ?_)
  all_goals (refine WL.step (ok_assign rfl) rfl rfl rfl ?_)
  all_goals (refine WL.nil ?_)
  all_goals (repeat' (with_reducible first | refine thenP_n ?_ | refine blockP_n ?_))
  all_goals (refine WC.block ?_)
  -- loop 0: slots that turn [5, 6], that stay [0, 1]
  all_goals (refine WC.loopG (X := Nat × Value) (fun x => ([(6, In (x.1 : Int)), (5, x.2)] : Fr)) [(0, _), (1, _)] (fun x h' => x.1 ≤ M.length ∧ NewP h x.2 (diffL L (M.take x.1)) h') (fun x => M.length - x.1) ((0, .slice none 0 0)) ⟨rfl, rfl, rfl, rfl, trivial⟩ (by exact ⟨Nat.zero_le _, Own.nil _ _ _, .refl _ _, by simp [Value.ownBlock]⟩) ?_)
  all_goals (rintro ⟨k, v5⟩ h5 ⟨hk, ho5, hx5, hf5⟩
             simp only at hk ho5 hf5
             have r5 := r.ext0 hx5
             have q5 := q.ext0 hx5
             have hq5 := q5.blk)
  all_goals (refine WC.sub [(5, _), (6, _), (0, _), (1, _)] ⟨rfl, rfl, rfl, rfl, trivial⟩ ?_)
  all_goals (dsimp only)
  all_goals (refine WC.seq ?_)
  all_goals (refine WC.seq ?_)
  all_goals (refine WC.region ?_)
  all_goals (refine WL.step (ok_move rfl) rfl rfl rfl ?_)
  all_goals (refine WL.step (ok_move rfl) rfl rfl rfl ?_)
  all_goals (refine WL.step (ok_nilCheck rfl) rfl rfl rfl ?_)
  all_goals (refine WL.step (ok_fieldAddr rfl Try.underlying72 rfl (fun w => Try.sizeOf56 w)) rfl rfl rfl ?_)
  all_goals (refine WL.step (ok_load (fun w => Try.isAgg56 w) rfl (by first | exact cell_blk hq5 rfl | assumption | exact cell_blk (by assumption) rfl)) rfl rfl rfl ?_)
  all_goals (refine WL.step (ok_lenL rfl Try.underlying56 rfl) rfl rfl rfl ?_)
  all_goals (first | (refine WL.step (OkP.bool_t (by omega) (ok_lss rfl rfl)) rfl rfl rfl ?_) | (refine WL.step (OkP.bool_f (by omega) (ok_lss rfl rfl)) rfl rfl rfl ?_) | (refine WL.step (ok_lss rfl rfl) rfl rfl rfl ?_))
  all_goals (refine WL.nil ?_)
  all_goals (repeat' (with_reducible first | refine thenP_n ?_ | refine blockP_n ?_))
  all_goals (refine WC.sub [(0, _), (1, _), (5, _), (6, _), (15, _)] ⟨rfl, rfl, rfl, rfl, rfl, trivial⟩ ?_)
  all_goals (first | refine WC.condB_t 1 rfl ?_ | refine WC.condB_f 2 rfl ?_ | (refine WC.condB 1 2 rfl (fun hb => ?_) (fun hb => ?_) <;> (first | replace hb := of_decide_eq_true hb | replace hb := of_decide_eq_false hb | replace hb := of_decide_eq_false (nt hb) | replace hb := of_decide_eq_true (nf hb) | skip)))
  all_goals (first
    | (fail_if_success (refine Br.mk (i := 1) ?_))
    | (refine Br.mk (i := 1) ?_
       all_goals (refine WC.skip ?_)
       skip))
  all_goals (first
    | (fail_if_success (refine Br.mk (i := 2) ?_))
    | (refine Br.mk (i := 2) ?_
       all_goals (refine WC.exit ?_)
       all_goals (repeat' (with_reducible first | refine thenP_x ?_ | refine blockP_miss rfl ?_ | refine blockP_hit ?_ | refine blockP_n ?_ | refine thenP_n ?_))
       all_goals (refine Br.out (i := 1000) ?_)
       skip))
  all_goals (first | (refine Br.keep ?_) | (repeat' (with_reducible first | refine thenP_n ?_ | refine blockP_n ?_)))
  all_goals (first | (refine Br.keep ?_) | (refine WC.seq ?_))
  all_goals (first | (refine Br.keep ?_) | (refine WC.block ?_))
  all_goals (first | (refine Br.keep ?_) | (refine WC.seq ?_))
  all_goals (first | (refine Br.keep ?_) | (refine WC.region ?_))
  all_goals (first
               | (refine Br.keep ?_)
               | (obtain ⟨bL, oL, hA, hbL, hat⟩ := Rd.at_ q5.own.rd (by omega)
                  obtain ⟨⟨yn, yv⟩, hy⟩ : ∃ y, M[k]? = some y := ⟨_, List.getElem?_eq_getElem (by omega)⟩
                  have hc : At h5 bL (oL + k * 2) [St yn, St yv] := At.elem prC_len hat hy
                  have hsn := diffL_snoc (L := L) hy
                  have hdl : (diffL L (M.take k)).length ≤ k := Nat.le_trans (List.length_filter_le _ _) (by rw [List.length_take]; omega)))
  all_goals (first | (refine Br.keep ?_) | (refine WL.step (ok_move rfl) rfl rfl rfl ?_))
  all_goals (first | (refine Br.keep ?_) | (refine WL.step (ok_move rfl) rfl rfl rfl ?_))
  all_goals (first | (refine Br.keep ?_) | (refine WL.step (ok_nilCheck rfl) rfl rfl rfl ?_))
  all_goals (first | (refine Br.keep ?_) | (refine WL.step (ok_fieldAddr rfl Try.underlying72 rfl (fun w => Try.sizeOf56 w)) rfl rfl rfl ?_))
  all_goals (first | (refine Br.keep ?_) | (refine WL.step (ok_load (fun w => Try.isAgg56 w) rfl (by first | exact cell_blk hq5 rfl | assumption | exact cell_blk (by assumption) rfl)) rfl rfl rfl ?_))
  all_goals (first | (refine Br.keep ?_) | (refine WL.step (ok_move rfl) rfl rfl rfl ?_))
  all_goals (first | (refine Br.keep ?_) | (refine WL.step (ok_idxAddrA Try.underlying56 (fun w => Try.sizeOf63 w) rfl rfl rfl (by omega) (by first | rfl | assumption)) rfl rfl rfl ?_))
  all_goals (first | (refine Br.keep ?_) | (refine WL.step (ok_fieldAddr rfl Try.underlying63 rfl (fun w => Try.sizeOf9 w)) rfl rfl rfl ?_))
  all_goals (first | (refine Br.keep ?_) | (refine WL.step (ok_load (fun w => Try.isAgg9 w) rfl (by first | exact hc.get 0 rfl rfl | assumption | exact cell_blk (by assumption) rfl)) rfl rfl rfl ?_))
  all_goals (first
               | (refine Br.keep ?_)
               | (refine WL.call (vs := [_, _]) rfl (fun a w => Try.call40 a w) rfl (get53 r5 hri yn hl) rfl rfl rfl ?_
                  rintro _ h6 ⟨rfl, rfl⟩))
  all_goals (first | (refine Br.keep ?_) | (rcases hg : getL L yn with _ | u))
  all_goals (first | (refine Br.keep ?_) | (refine WL.step (ok_move rfl) rfl rfl rfl ?_))
  all_goals (first | (refine Br.keep ?_) | (refine WL.step (ok_extract rfl rfl) rfl rfl rfl ?_))
  all_goals (first | (refine Br.keep ?_) | (refine WL.step (ok_extract rfl rfl) rfl rfl rfl ?_))
  all_goals (first | (refine Br.keep ?_) | (refine WL.step (ok_assign rfl) rfl rfl rfl ?_))
  all_goals (first | (refine Br.keep ?_) | (refine WL.step (ok_assign rfl) rfl rfl rfl ?_))
  all_goals (first | (refine Br.keep ?_) | (refine WL.nil ?_))
  all_goals (first | (refine Br.keep ?_) | (repeat' (with_reducible first | refine thenP_n ?_ | refine blockP_n ?_)))
  all_goals (first | (refine Br.keep ?_) | (refine WC.sub [(0, _), (1, _), (5, _), (6, _), (7, _), (8, _)] ⟨rfl, rfl, rfl, rfl, rfl, rfl, trivial⟩ ?_))
  all_goals (first | (refine Br.keep ?_) | (refine WC.seq ?_))
  all_goals (first | (refine Br.keep ?_) | (refine WC.region ?_))
  all_goals (first | (refine Br.keep ?_) | (refine WL.step (ok_move rfl) rfl rfl rfl ?_))
  all_goals (first | (refine Br.keep ?_) | (refine WL.step (ok_not rfl) rfl rfl rfl ?_))
  all_goals (first | (refine Br.keep ?_) | (refine WL.step (ok_move rfl) rfl rfl rfl ?_))
  all_goals (first | (refine Br.keep ?_) | (try ((fail_if_success (refine WL.part 33 (b := true) rfl (fun _ => ?_) (fun _ => ?_))); (fail_if_success (refine WL.part 33 (b := false) rfl (fun _ => ?_) (fun _ => ?_))); (refine WL.part 33 rfl (fun hb => ?_) (fun hb => ?_) <;> (first | replace hb := of_decide_eq_true hb | replace hb := of_decide_eq_false hb | replace hb := of_decide_eq_false (nt hb) | replace hb := of_decide_eq_true (nf hb) | skip)))))
  all_goals (first | (refine Br.keep ?_) | (first | (refine WL.pass rfl rfl rfl ?_) | (refine WL.step (ok_move rfl) rfl rfl rfl ?_)))
  all_goals (first | (refine Br.keep ?_) | (first | (refine WL.pass rfl rfl rfl ?_) | (refine WL.step (ok_move rfl) rfl rfl rfl ?_)))
  all_goals (first | (refine Br.keep ?_) | (first | (refine WL.pass rfl rfl rfl ?_) | (refine WL.step (ok_nilCheck rfl) rfl rfl rfl ?_)))
  all_goals (first | (refine Br.keep ?_) | (first | (refine WL.pass rfl rfl rfl ?_) | (refine WL.step (ok_fieldAddr rfl Try.underlying72 rfl (fun w => Try.sizeOf56 w)) rfl rfl rfl ?_)))
  all_goals (first | (refine Br.keep ?_) | (first | (refine WL.pass rfl rfl rfl ?_) | (refine WL.step (ok_load (fun w => Try.isAgg56 w) rfl (by first | exact cell_blk hq5 rfl | assumption | exact cell_blk (by assumption) rfl)) rfl rfl rfl ?_)))
  all_goals (first | (refine Br.keep ?_) | (first | (refine WL.pass rfl rfl rfl ?_) | (refine WL.step (ok_move rfl) rfl rfl rfl ?_)))
  all_goals (first | (refine Br.keep ?_) | (first | (refine WL.pass rfl rfl rfl ?_) | (refine WL.step (ok_idxAddrA Try.underlying56 (fun w => Try.sizeOf63 w) rfl rfl rfl (by omega) (by first | rfl | assumption)) rfl rfl rfl ?_)))
  all_goals (first | (refine Br.keep ?_) | (first | (refine WL.pass rfl rfl rfl ?_) | (refine WL.step (ok_fieldAddr rfl Try.underlying63 rfl (fun w => Try.sizeOf9 w)) rfl rfl rfl ?_)))
  all_goals (first | (refine Br.keep ?_) | (first | (refine WL.pass rfl rfl rfl ?_) | (refine WL.step (ok_load (fun w => Try.isAgg9 w) rfl (by first | exact hc.get 1 rfl rfl | assumption | exact cell_blk (by assumption) rfl)) rfl rfl rfl ?_)))
  all_goals (first | (refine Br.keep ?_) | (first | (refine WL.pass rfl rfl rfl ?_) | (first | (refine WL.step (OkP.nbool_f (by first | rfl | assumption | decide) (ok_neqS rfl rfl)) rfl rfl rfl ?_) | (refine WL.step (OkP.nbool_t (by first | assumption | decide) (ok_neqS rfl rfl)) rfl rfl rfl ?_) | (refine WL.step (ok_neqS rfl rfl) rfl rfl rfl ?_))))
  all_goals (first | (refine Br.keep ?_) | (first | (refine WL.step (ok_pick_t rfl rfl) rfl rfl rfl ?_) | (refine WL.step (ok_pick_f rfl rfl) rfl rfl rfl ?_)))
  all_goals (first | (refine Br.keep ?_) | (refine WL.nil ?_))
  all_goals (first | (refine Br.keep ?_) | (repeat' (with_reducible first | refine thenP_n ?_ | refine blockP_n ?_)))
  all_goals (first | (refine Br.keep ?_) | (refine WC.sub [(0, _), (1, _), (5, _), (6, _), (44, _)] ⟨rfl, rfl, rfl, rfl, rfl, trivial⟩ ?_))
  all_goals (first | (refine Br.keep ?_) | (first | refine WC.condB_t 3 rfl ?_ | refine WC.condB_f 4 rfl ?_ | (refine WC.condB 3 4 rfl (fun hb => ?_) (fun hb => ?_) <;> (first | replace hb := of_decide_eq_true hb | replace hb := of_decide_eq_false hb | replace hb := of_decide_eq_false (nt hb) | replace hb := of_decide_eq_true (nf hb) | skip))))
  all_goals (first
    | (fail_if_success (refine Br.mk (i := 3) ?_))
    | (refine Br.mk (i := 3) ?_
       all_goals (refine WC.region ?_)
       all_goals (refine WL.step (ok_move rfl) rfl rfl rfl ?_)
       all_goals (refine WL.step (ok_move rfl) rfl rfl rfl ?_)
       all_goals (refine WL.step (ok_nilCheck rfl) rfl rfl rfl ?_)
       all_goals (refine WL.step (ok_fieldAddr rfl Try.underlying72 rfl (fun w => Try.sizeOf56 w)) rfl rfl rfl ?_)
       all_goals (refine WL.step (ok_load (fun w => Try.isAgg56 w) rfl (by first | exact cell_blk hq5 rfl | assumption | exact cell_blk (by assumption) rfl)) rfl rfl rfl ?_)
       all_goals (refine WL.step (ok_move rfl) rfl rfl rfl ?_)
       all_goals (refine WL.step (ok_idxAddrA Try.underlying56 (fun w => Try.sizeOf63 w) rfl rfl rfl (by omega) (by first | rfl | assumption)) rfl rfl rfl ?_)
       all_goals (refine WL.step (ok_loadN (fun w => Try.isAgg63 w) (fun w => Try.sizeOf63 w) rfl rfl (by assumption)) rfl rfl rfl ?_)
       all_goals (refine WL.stepR (okE_buildSlice (vs := [_]) (cs := [_, _]) (fun | [.agg ⟨[a0, a1]⟩] => [a0, a1] | _ => []) Try.underlying56 rfl rfl (by kernel_rfl)) rfl rfl rfl ?_
                  rintro _ h6 ⟨b6, rfl, hg6, hb6, hx6⟩)
       all_goals (refine WL.stepR (ok_append (sz := 2) (bytes := 32) rfl Try.underlying56 (show Try.prog.info? 63 = some Try.t63 by kernel_rfl) rfl rfl rfl rfl (by decide) rfl rfl (ho5.ext hx6 (fun _ _ => nos)) (rd_blk hb6 rfl) (by simp [Value.oneCell']) (by simp only [maxLen]; omega) (by omega)) rfl rfl rfl ?_
                  rintro v7 h7 ⟨ho7, hx7, hl7⟩)
       all_goals (refine WL.step (ok_assign rfl) rfl rfl rfl ?_)
       all_goals (refine WL.nil ?_)
       skip))
  all_goals (first
    | (fail_if_success (refine Br.mk (i := 4) ?_))
    | (refine Br.mk (i := 4) ?_
       all_goals (refine WC.skip ?_)
       skip))
  all_goals (first | (refine Br.keep ?_) | (repeat' (with_reducible first | refine thenP_n ?_ | refine blockP_n ?_)))
  all_goals (first | (refine Br.keep ?_) | (refine WC.region ?_))
  all_goals (first | (refine Br.keep ?_) | (refine WL.step (ok_move rfl) rfl rfl rfl ?_))
  all_goals (first | (refine Br.keep ?_) | (first | (refine WL.step (ok_addI rfl rfl (by omega)) rfl rfl rfl ?_) | (refine WL.step (ok_add rfl rfl) rfl rfl rfl ?_)))
  all_goals (first | (refine Br.keep ?_) | (refine WL.step (ok_assign rfl) rfl rfl rfl ?_))
  all_goals (first | (refine Br.keep ?_) | (refine WL.nil ?_))
  all_goals (first | (refine Br.keep ?_) | (repeat' (with_reducible first | refine thenP_n ?_ | refine blockP_n ?_)))
  all_goals (first
               | (refine Br.keep ?_)
               | (exact ⟨(k + 1, _), ⟨rfl, rfl, rfl, rfl, trivial⟩, (by first
                   | exact ⟨by simp; omega, by rw [hsn, if_pos (by simp_all)]; exact ⟨ho5, hx5, hf5⟩⟩
                   | exact ⟨by simp; omega, by rw [hsn, if_neg (by first | simp_all | (rw [hg]; simp))]; exact ⟨by simpa [prC] using ho7, (hx5.trans hx6).trans' hx7 (fun q hq e => by have := hf5 q e; omega), fresh_of hl7 hf5 (by have := hx5.size; have := hx6.size; omega)⟩⟩), (by simp; omega)⟩))
  all_goals (try (refine Br.mk (i := 1000) ?_))
  all_goals (repeat' (with_reducible first | refine thenP_n ?_ | refine blockP_n ?_))
  all_goals (refine WC.sub [(5, _)] ⟨rfl, trivial⟩ ?_)
  all_goals (refine WC.seq ?_)
  all_goals (refine WC.region ?_)
  all_goals (refine WL.step (ok_move rfl) rfl rfl rfl ?_)
  all_goals (refine WL.step (ok_assign rfl) rfl rfl rfl ?_)
  all_goals (refine WL.nil ?_)
  all_goals (repeat' (with_reducible first | refine thenP_n ?_ | refine blockP_n ?_))
  all_goals (refine WC.ret ?_)
  all_goals (repeat' (with_reducible first | refine thenP_r ?_ | refine blockP_r ?_))
  all_goals (refine retP_1 _ ⟨rfl, trivial⟩ ?_)
  all_goals (rw [List.take_of_length_le (by omega)] at ho5
             exact ⟨ho5, hx5, hf5⟩)
end Go.Proofs.Ytfadcbbjjdmmfaa

