/-
  package slices at slices of numbers: Index, Equal, Clone, Delete.
-/
import Derived.Test.YtkpgnhhidnkmcaaGreatDoorBase
namespace Go.Proofs.YtkpgnhhidnkmcaaGreatDoor
open Go Go.RK


abbrev ints (l : List Int) : List Value := l.map In
/-- Where a number stands; below 0: nowhere. -/
def idxOf : List Int → Int → Int
  | [], _ => -1
  | a :: l, x => if a = x then 0 else if idxOf l x < 0 then -1 else idxOf l x + 1
theorem idxOf_cases (l : List Int) (x : Int) : (idxOf l x = -1 ∧ x ∉ l) ∨ ∃ k : Nat, idxOf l x = k ∧ l[k]? = some x ∧ x ∉ l.take k := by
  induction l with
  | nil => exact .inl ⟨rfl, by simp⟩
  | cons a l ih =>
    unfold idxOf
    by_cases h : a = x
    · exact .inr ⟨0, by simp [h], by simp [h], by simp⟩
    · rw [if_neg h]
      rcases ih with ⟨h1, h2⟩ | ⟨k, h1, h2, h3⟩
      · exact .inl ⟨by rw [h1]; rfl, by simp [h2, Ne.symm h]⟩
      · exact .inr ⟨k + 1, by rw [h1, if_neg (by omega)]; omega, by simpa using h2, by simp [h3, Ne.symm h]⟩
theorem idxOf_at {l : List Int} {x : Int} {k : Nat} (h1 : l[k]? = some x) (h2 : x ∉ l.take k) : idxOf l x = k := by
  rcases idxOf_cases l x with ⟨_, h⟩ | ⟨j, h, h3, h4⟩
  · exact absurd (List.mem_of_getElem? h1) h
  · rw [h]
    rcases Nat.lt_trichotomy j k with e | e | e
    · exact absurd (List.mem_of_getElem? (show (l.take k)[j]? = some x by rw [List.getElem?_take, if_pos e]; exact h3)) h2
    · rw [e]
    · exact absurd (List.mem_of_getElem? (show (l.take j)[k]? = some x by rw [List.getElem?_take, if_pos e]; exact h1)) h4
theorem idxOf_no {l : List Int} {x : Int} (h : x ∉ l) : idxOf l x = -1 := by
  rcases idxOf_cases l x with ⟨e, _⟩ | ⟨j, _, h3, _⟩
  · exact e
  · exact absurd (List.mem_of_getElem? h3) h
theorem take_snoc_not {l : List Int} {x y : Int} {k : Nat} (h : x ∉ l.take k) (hk : l[k]? = some y) (hne : ¬ x = y) : x ∉ l.take (k + 1) := by
  rw [List.take_add_one, hk]
  simp [h, hne]
theorem one_ints (l : List Int) : ∀ v ∈ ints l, v.oneCell' = true := by
  intro v hv
  obtain ⟨x, _, rfl⟩ := List.mem_map.1 hv
  rfl
theorem get_int {l : List Int} {k : Nat} {y : Int} (hk : l[k]? = some y) : (ints l)[k]? = some (In y) := by simp [hk]

set_option maxRecDepth 100000 in
theorem equal_int {h : Heap} {A B : Option Addr} {c d : Nat} (l m : List Int) (hr : Rd h (.slice A l.length c) 1 l.length (ints l)) (hs : Rd h (.slice B m.length d) 1 m.length (ints m)) (hm : l.length ≤ maxLen) :
    CallsH Tryz.prog 29 ⟨[.slice A l.length c, .slice B m.length d]⟩ h fun u h' => u = .bool (decide (l = m)) ∧ h' = h := by
  unfold maxLen at hm
  refine calls [(0, _), (1, _)] Tryz.func29 rfl Tryz.ntmps29 rfl ⟨rfl, rfl, trivial⟩ ?_
  all_goals (refine WC.seq ?_)
  all_goals (refine WC.region ?_)
  all_goals (refine WL.step (ok_assign rfl) rfl rfl rfl ?_)
  all_goals (refine WL.nil ?_)
  all_goals (repeat' (with_reducible first | refine thenP_n ?_ | refine blockP_n ?_))
  all_goals (refine WC.seq ?_)
  all_goals (refine WC.seq ?_)
  all_goals (refine WC.region ?_)
  all_goals (refine WL.step (ok_move rfl) rfl rfl rfl ?_)
  all_goals (refine WL.step (ok_lenL rfl Tryz.underlying27 rfl) rfl rfl rfl ?_)
  all_goals (refine WL.step (ok_move rfl) rfl rfl rfl ?_)
  all_goals (refine WL.step (ok_lenL rfl Tryz.underlying27 rfl) rfl rfl rfl ?_)
  all_goals (first | (refine WL.step (OkP.nbool_t (by omega) (ok_neq rfl rfl)) rfl rfl rfl ?_) | (refine WL.step (OkP.nbool_f (by omega) (ok_neq rfl rfl)) rfl rfl rfl ?_) | (refine WL.step (ok_neq rfl rfl) rfl rfl rfl ?_))
  all_goals (refine WL.nil ?_)
  all_goals (repeat' (with_reducible first | refine thenP_n ?_ | refine blockP_n ?_))
  all_goals (refine WC.sub [(0, _), (1, _), (10, _)] ⟨rfl, rfl, rfl, trivial⟩ ?_)
  all_goals (first | refine WC.condB_t 1 rfl ?_ | refine WC.condB_f 2 rfl ?_ | (refine WC.condB 1 2 rfl (fun hb => ?_) (fun hb => ?_) <;> (first | replace hb := of_decide_eq_true hb | replace hb := of_decide_eq_false hb | replace hb := of_decide_eq_false (nt hb) | replace hb := of_decide_eq_true (nf hb) | skip)))
  all_goals (first
    | (fail_if_success (refine Br.mk (i := 1) ?_))
    | (refine Br.mk (i := 1) ?_
       all_goals (refine WC.seq ?_)
       all_goals (refine WC.region ?_)
       all_goals (refine WL.step (ok_assign rfl) rfl rfl rfl ?_)
       all_goals (refine WL.nil ?_)
       all_goals (repeat' (with_reducible first | refine thenP_n ?_ | refine blockP_n ?_))
       all_goals (refine WC.ret ?_)
       all_goals (repeat' (with_reducible first | refine thenP_r ?_ | refine blockP_r ?_))
       all_goals (refine retP_1 _ ⟨rfl, trivial⟩ ?_)
       all_goals (first | exact ⟨by rw [decide_eq_false (fun e => by subst e; omega)], rfl⟩ | exact ⟨by rw [decide_eq_false (fun e => by subst e; rw [hy] at hz; injection hz with hz; omega)], rfl⟩ | exact ⟨by rw [decide_eq_true (by rw [List.take_of_length_le (by omega), List.take_of_length_le (by omega)] at hn; exact hn)], rfl⟩)
       skip))
  all_goals (first
    | (fail_if_success (refine Br.mk (i := 2) ?_))
    | (refine Br.mk (i := 2) ?_
       all_goals (refine WC.skip ?_)
       skip))
  all_goals (repeat' (with_reducible first | refine thenP_n ?_ | refine blockP_n ?_))
  all_goals (refine WC.seq ?_)
  all_goals (refine WC.seq ?_)
  all_goals (refine WC.region ?_)
  all_goals (refine WL.step (ok_move rfl) rfl rfl rfl ?_)
  all_goals (refine WL.step (ok_lenL rfl Tryz.underlying27 rfl) rfl rfl rfl ?_)
  all_goals (refine WL.step (ok_move rfl) rfl rfl rfl ?_)
  all_goals (refine WL.nil ?_)
  all_goals (repeat' (with_reducible first | refine thenP_n ?_ | refine blockP_n ?_))
  all_goals (refine WC.block ?_)
  -- loop 0: slots that turn [13], that stay [0, 1, 12]
  all_goals (refine WC.loopG (X := Nat) (fun x => ([(13, In (x : Int))] : Fr)) [(0, _), (1, _), (12, _)] (fun k h' => h' = h ∧ k ≤ l.length ∧ l.take k = m.take k) (fun k => l.length - k) (0) ⟨rfl, rfl, rfl, rfl, trivial⟩ (by exact ⟨rfl, Nat.zero_le _, by simp⟩) ?_)
  all_goals (rintro k _ ⟨rfl, hk, hn⟩)
  all_goals (refine WC.sub [(13, _), (0, _), (1, _), (12, _)] ⟨rfl, rfl, rfl, rfl, trivial⟩ ?_)
  all_goals (refine WC.seq ?_)
  all_goals (refine WC.region ?_)
  all_goals (first | (refine WL.step (OkP.bool_t (by omega) (ok_lss rfl rfl)) rfl rfl rfl ?_) | (refine WL.step (OkP.bool_f (by omega) (ok_lss rfl rfl)) rfl rfl rfl ?_) | (refine WL.step (ok_lss rfl rfl) rfl rfl rfl ?_))
  all_goals (refine WL.nil ?_)
  all_goals (repeat' (with_reducible first | refine thenP_n ?_ | refine blockP_n ?_))
  all_goals (refine WC.seq ?_)
  all_goals (first | refine WC.condB_t 3 rfl ?_ | refine WC.condB_f 4 rfl ?_ | (refine WC.condB 3 4 rfl (fun hb => ?_) (fun hb => ?_) <;> (first | replace hb := of_decide_eq_true hb | replace hb := of_decide_eq_false hb | replace hb := of_decide_eq_false (nt hb) | replace hb := of_decide_eq_true (nf hb) | skip)))
  all_goals (first
    | (fail_if_success (refine Br.mk (i := 3) ?_))
    | (refine Br.mk (i := 3) ?_
       all_goals (refine WC.skip ?_)
       skip))
  all_goals (first
    | (fail_if_success (refine Br.mk (i := 4) ?_))
    | (refine Br.mk (i := 4) ?_
       all_goals (refine WC.exit ?_)
       all_goals (repeat' (with_reducible first | refine thenP_x ?_ | refine blockP_miss rfl ?_ | refine blockP_hit ?_ | refine blockP_n ?_ | refine thenP_n ?_))
       all_goals (refine Br.out (i := 1000) ?_)
       skip))
  all_goals (first | (refine Br.keep ?_) | (repeat' (with_reducible first | refine thenP_n ?_ | refine blockP_n ?_)))
  all_goals (first | (refine Br.keep ?_) | (refine WC.seq ?_))
  all_goals (first | (refine Br.keep ?_) | (refine WC.block ?_))
  all_goals (first | (refine Br.keep ?_) | (refine WC.seq ?_))
  all_goals (first | (refine Br.keep ?_) | (refine WC.region ?_))
  all_goals (first | (refine Br.keep ?_) | (refine WL.step (ok_move rfl) rfl rfl rfl ?_))
  all_goals (first | (refine Br.keep ?_) | (refine WL.step (ok_assign rfl) rfl rfl rfl ?_))
  all_goals (first | (refine Br.keep ?_) | (refine WL.nil ?_))
  all_goals (first | (refine Br.keep ?_) | (repeat' (with_reducible first | refine thenP_n ?_ | refine blockP_n ?_)))
  all_goals (first | (refine Br.keep ?_) | (refine WC.seq ?_))
  all_goals (first
               | (refine Br.keep ?_)
               | (obtain ⟨b, o, hA, hbL, hat⟩ := Rd.at_ hr (by omega)
                  obtain ⟨b2, o2, hB, hb2, hat2⟩ := Rd.at_ hs (by omega)
                  obtain ⟨y, hy⟩ : ∃ y, l[k]? = some y := ⟨_, List.getElem?_eq_getElem (by omega)⟩
                  obtain ⟨z, hz⟩ : ∃ z, m[k]? = some z := ⟨_, List.getElem?_eq_getElem (by omega)⟩
                  have hc := hat.get (p := o + k * 1) k (get_int hy) (by omega)
                  have hc2 := hat2.get (p := o2 + k * 1) k (get_int hz) (by omega)))
  all_goals (first | (refine Br.keep ?_) | (refine WC.drawE fol (by kernel_rfl) ?_))
  all_goals (first | (refine Br.keep ?_) | (refine WQ.stepE (ok_move rfl) rfl rfl rfl ?_))
  all_goals (first | (refine Br.keep ?_) | (refine WQ.stepE (ok_move rfl) rfl rfl rfl ?_))
  all_goals (first | (refine Br.keep ?_) | (refine WQ.stepE (ok_idxAddrA Tryz.underlying27 (fun w => Tryz.sizeOf3 w) rfl rfl rfl (by omega) (by first | rfl | assumption)) rfl rfl rfl ?_))
  all_goals (first | (refine Br.keep ?_) | (refine WQ.stepE (ok_load (fun w => Tryz.isAgg3 w) rfl (by first | assumption | exact cell_blk (by assumption) rfl)) rfl rfl rfl ?_))
  all_goals (first | (refine Br.keep ?_) | (refine WQ.stepE (ok_move rfl) rfl rfl rfl ?_))
  all_goals (first | (refine Br.keep ?_) | (refine WQ.stepE (ok_move rfl) rfl rfl rfl ?_))
  all_goals (first | (refine Br.keep ?_) | (refine WQ.stepE (ok_idxAddrA Tryz.underlying27 (fun w => Tryz.sizeOf3 w) rfl rfl rfl (by omega) (by first | rfl | assumption)) rfl rfl rfl ?_))
  all_goals (first | (refine Br.keep ?_) | (refine WQ.stepE (ok_load (fun w => Tryz.isAgg3 w) rfl (by first | assumption | exact cell_blk (by assumption) rfl)) rfl rfl rfl ?_))
  all_goals (first | (refine Br.keep ?_) | (first | (refine WQ.stepE (OkP.nbool_t (by omega) (ok_neq rfl rfl)) rfl rfl rfl ?_) | (refine WQ.stepE (OkP.nbool_f (by omega) (ok_neq rfl rfl)) rfl rfl rfl ?_) | (refine WQ.stepE (ok_neq rfl rfl) rfl rfl rfl ?_)))
  all_goals (first | (refine Br.keep ?_) | (refine WQ.nil ?_))
  all_goals (first | (refine Br.keep ?_) | (repeat' (with_reducible first | refine thenP_n ?_ | refine blockP_n ?_)))
  all_goals (first | (refine Br.keep ?_) | (refine WC.sub [(0, _), (1, _), (12, _), (13, _), (24, _)] ⟨rfl, rfl, rfl, rfl, rfl, trivial⟩ ?_))
  all_goals (first | (refine Br.keep ?_) | (first | refine WC.condB_t 5 rfl ?_ | refine WC.condB_f 6 rfl ?_ | (refine WC.condB 5 6 rfl (fun hb => ?_) (fun hb => ?_) <;> (first | replace hb := of_decide_eq_true hb | replace hb := of_decide_eq_false hb | replace hb := of_decide_eq_false (nt hb) | replace hb := of_decide_eq_true (nf hb) | skip))))
  all_goals (first
    | (fail_if_success (refine Br.mk (i := 5) ?_))
    | (refine Br.mk (i := 5) ?_
       all_goals (refine WC.seq ?_)
       all_goals (refine WC.region ?_)
       all_goals (refine WL.step (ok_assign rfl) rfl rfl rfl ?_)
       all_goals (refine WL.nil ?_)
       all_goals (repeat' (with_reducible first | refine thenP_n ?_ | refine blockP_n ?_))
       all_goals (refine WC.sub [(4, _)] ⟨rfl, trivial⟩ ?_)
       all_goals (refine WC.ret ?_)
       all_goals (repeat' (with_reducible first | refine thenP_r ?_ | refine blockP_r ?_))
       all_goals (refine retP_1 _ ⟨rfl, trivial⟩ ?_)
       all_goals (first | exact ⟨by rw [decide_eq_false (fun e => by subst e; omega)], rfl⟩ | exact ⟨by rw [decide_eq_false (fun e => by subst e; rw [hy] at hz; injection hz with hz; omega)], rfl⟩ | exact ⟨by rw [decide_eq_true (by rw [List.take_of_length_le (by omega), List.take_of_length_le (by omega)] at hn; exact hn)], rfl⟩)
       skip))
  all_goals (first
    | (fail_if_success (refine Br.mk (i := 6) ?_))
    | (refine Br.mk (i := 6) ?_
       all_goals (refine WC.skip ?_)
       skip))
  all_goals (first | (refine Br.keep ?_) | (repeat' (with_reducible first | refine thenP_n ?_ | refine blockP_n ?_)))
  all_goals (first | (refine Br.keep ?_) | (refine WC.region ?_))
  all_goals (first | (refine Br.keep ?_) | (first | (refine WL.step (ok_addI rfl rfl (by omega)) rfl rfl rfl ?_) | (refine WL.step (ok_add rfl rfl) rfl rfl rfl ?_)))
  all_goals (first | (refine Br.keep ?_) | (refine WL.step (ok_move rfl) rfl rfl rfl ?_))
  all_goals (first | (refine Br.keep ?_) | (refine WL.nil ?_))
  all_goals (first | (refine Br.keep ?_) | (repeat' (with_reducible first | refine thenP_n ?_ | refine blockP_n ?_)))
  all_goals (first | (refine Br.keep ?_) | (exact ⟨k + 1, ⟨rfl, rfl, rfl, rfl, trivial⟩, (by exact ⟨rfl, by omega, by rw [List.take_add_one, List.take_add_one, hn, hy, hz, show y = z by omega]⟩), (by omega)⟩))
  all_goals (try (refine Br.mk (i := 1000) ?_))
  all_goals (repeat' (with_reducible first | refine thenP_n ?_ | refine blockP_n ?_))
  all_goals (refine WC.sub [] trivial ?_)
  all_goals (refine WC.seq ?_)
  all_goals (refine WC.region ?_)
  all_goals (refine WL.step (ok_assign rfl) rfl rfl rfl ?_)
  all_goals (refine WL.nil ?_)
  all_goals (repeat' (with_reducible first | refine thenP_n ?_ | refine blockP_n ?_))
  all_goals (refine WC.ret ?_)
  all_goals (repeat' (with_reducible first | refine thenP_r ?_ | refine blockP_r ?_))
  all_goals (refine retP_1 _ ⟨rfl, trivial⟩ ?_)
  all_goals (first | exact ⟨by rw [decide_eq_false (fun e => by subst e; omega)], rfl⟩ | exact ⟨by rw [decide_eq_false (fun e => by subst e; rw [hy] at hz; injection hz with hz; omega)], rfl⟩ | exact ⟨by rw [decide_eq_true (by rw [List.take_of_length_le (by omega), List.take_of_length_le (by omega)] at hn; exact hn)], rfl⟩)

set_option maxRecDepth 100000 in
theorem clone_ints {h : Heap} {A : Option Addr} {c : Nat} (l : List Int) (hr : Rd h (.slice A l.length c) 1 l.length (ints l)) (hm : l.length * 8 ≤ reachBytes) :
    CallsH Tryz.prog 52 ⟨[.slice A l.length c]⟩ h fun u h' => Own h' u 3 1 l.length (ints l) ∧ Ext No h h' ∧ (∀ k, u.ownBlock = some k → h.size ≤ k) := by
  unfold reachBytes at hm
  cases A with
  | none =>
    have h0 : l = [] := by
      cases l with
      | nil => rfl
      | cons a l => obtain ⟨b, o, e, _⟩ := Rd.at_ hr (by simp); cases e
    subst h0
    refine calls [(0, _)] Tryz.func52 rfl Tryz.ntmps52 rfl ⟨rfl, trivial⟩ ?_
    all_goals (refine WC.seq ?_)
    all_goals (refine WC.region ?_)
    all_goals (refine WL.step (ok_assign rfl) rfl rfl rfl ?_)
    all_goals (refine WL.nil ?_)
    all_goals (repeat' (with_reducible first | refine thenP_n ?_ | refine blockP_n ?_))
    all_goals (refine WC.seq ?_)
    all_goals (refine WC.seq ?_)
    all_goals (refine WC.region ?_)
    all_goals (refine WL.step (ok_move rfl) rfl rfl rfl ?_)
    all_goals (refine WL.step (ok_eqlSn Tryz.underlying27 rfl rfl) rfl rfl rfl ?_)
    all_goals (refine WL.nil ?_)
    all_goals (repeat' (with_reducible first | refine thenP_n ?_ | refine blockP_n ?_))
    all_goals (first | refine WC.condB_t 1 rfl ?_ | refine WC.condB_f 2 rfl ?_ | (refine WC.condB 1 2 rfl (fun hb => ?_) (fun hb => ?_) <;> (first | replace hb := of_decide_eq_true hb | replace hb := of_decide_eq_false hb | replace hb := of_decide_eq_false (nt hb) | replace hb := of_decide_eq_true (nf hb) | skip)))
    all_goals (first
      | (fail_if_success (refine Br.mk (i := 1) ?_))
      | (refine Br.mk (i := 1) ?_
         all_goals (refine WC.seq ?_)
         all_goals (refine WC.region ?_)
         all_goals (refine WL.step (ok_assign rfl) rfl rfl rfl ?_)
         all_goals (refine WL.nil ?_)
         all_goals (repeat' (with_reducible first | refine thenP_n ?_ | refine blockP_n ?_))
         all_goals (refine WC.ret ?_)
         all_goals (repeat' (with_reducible first | refine thenP_r ?_ | refine blockP_r ?_))
         all_goals (refine retP_1 _ ⟨rfl, trivial⟩ ?_)
         all_goals (exact ⟨Own.nil _ _ _, .refl _ _, by simp [Value.ownBlock]⟩)
         skip))
    all_goals (first
      | (fail_if_success (refine Br.mk (i := 2) ?_))
      | (refine Br.mk (i := 2) ?_
         all_goals (refine WC.skip ?_)
         skip))
    all_goals (repeat' (with_reducible first | refine thenP_n ?_ | refine blockP_n ?_))
    all_goals (refine WC.seq ?_)
    all_goals (refine WC.region ?_)
    all_goals (refine WL.stepR (okE_buildSlice (vs := []) (cs := []) (fun _ => []) Tryz.underlying27 rfl rfl (by kernel_rfl)) rfl rfl rfl ?_
               rintro _ h1 ⟨b1, rfl, hg1, hb1, hx1⟩)
    all_goals (refine WL.step (ok_move rfl) rfl rfl rfl ?_)
    all_goals (refine WL.stepR (ok_append (sz := 1) (bytes := 8) rfl Tryz.underlying27 (show Tryz.prog.info? 3 = some Tryz.t3 by kernel_rfl) rfl rfl rfl rfl (by decide) rfl rfl (by assumption) (by first | assumption | exact rd_blk (by assumption) rfl) (by simp [Value.oneCell']) (by simp only [maxLen]; omega) (by omega)) rfl rfl rfl ?_
               rintro v1 h1 ⟨ho1, hx1, hl1⟩)
    all_goals (refine WL.step (ok_assign rfl) rfl rfl rfl ?_)
    all_goals (refine WL.nil ?_)
    all_goals (repeat' (with_reducible first | refine thenP_n ?_ | refine blockP_n ?_))
    all_goals (refine WC.sub [(2, _)] ⟨rfl, trivial⟩ ?_)
    all_goals (refine WC.ret ?_)
    all_goals (repeat' (with_reducible first | refine thenP_r ?_ | refine blockP_r ?_))
    all_goals (refine retP_1 _ ⟨rfl, trivial⟩ ?_)
    all_goals (exact ⟨Own.nil _ _ _, .refl _ _, by simp [Value.ownBlock]⟩)
  | some a =>
    refine calls [(0, _)] Tryz.func52 rfl Tryz.ntmps52 rfl ⟨rfl, trivial⟩ ?_
    all_goals (refine WC.seq ?_)
    all_goals (refine WC.region ?_)
    all_goals (refine WL.step (ok_assign rfl) rfl rfl rfl ?_)
    all_goals (refine WL.nil ?_)
    all_goals (repeat' (with_reducible first | refine thenP_n ?_ | refine blockP_n ?_))
    all_goals (refine WC.seq ?_)
    all_goals (refine WC.seq ?_)
    all_goals (refine WC.region ?_)
    all_goals (refine WL.step (ok_move rfl) rfl rfl rfl ?_)
    all_goals (refine WL.step (ok_eqlSn Tryz.underlying27 rfl rfl) rfl rfl rfl ?_)
    all_goals (refine WL.nil ?_)
    all_goals (repeat' (with_reducible first | refine thenP_n ?_ | refine blockP_n ?_))
    all_goals (first | refine WC.condB_t 1 rfl ?_ | refine WC.condB_f 2 rfl ?_ | (refine WC.condB 1 2 rfl (fun hb => ?_) (fun hb => ?_) <;> (first | replace hb := of_decide_eq_true hb | replace hb := of_decide_eq_false hb | replace hb := of_decide_eq_false (nt hb) | replace hb := of_decide_eq_true (nf hb) | skip)))
    all_goals (first
      | (fail_if_success (refine Br.mk (i := 1) ?_))
      | (refine Br.mk (i := 1) ?_
         all_goals (refine WC.seq ?_)
         all_goals (refine WC.region ?_)
         all_goals (refine WL.step (ok_assign rfl) rfl rfl rfl ?_)
         all_goals (refine WL.nil ?_)
         all_goals (repeat' (with_reducible first | refine thenP_n ?_ | refine blockP_n ?_))
         all_goals (refine WC.ret ?_)
         all_goals (repeat' (with_reducible first | refine thenP_r ?_ | refine blockP_r ?_))
         all_goals (refine retP_1 _ ⟨rfl, trivial⟩ ?_)
         all_goals (exact ⟨by simpa using ho2, hx1.trans' hx2 (fun k hk e => by simp [Value.ownBlock] at e; omega), fresh_of hl2 (fun k hk => by simp [Value.ownBlock] at hk; omega) hx1.size⟩)
         skip))
    all_goals (first
      | (fail_if_success (refine Br.mk (i := 2) ?_))
      | (refine Br.mk (i := 2) ?_
         all_goals (refine WC.skip ?_)
         skip))
    all_goals (repeat' (with_reducible first | refine thenP_n ?_ | refine blockP_n ?_))
    all_goals (refine WC.seq ?_)
    all_goals (refine WC.region ?_)
    all_goals (refine WL.stepR (okE_buildSlice (vs := []) (cs := []) (fun _ => []) Tryz.underlying27 rfl rfl (by kernel_rfl)) rfl rfl rfl ?_
               rintro _ h1 ⟨b1, rfl, hg1, hb1, hx1⟩)
    all_goals (refine WL.step (ok_move rfl) rfl rfl rfl ?_)
    all_goals (have hr1 := hr.ext0 hx1)
    all_goals (refine WL.stepR (ok_append (sz := 1) (bytes := 8) rfl Tryz.underlying27 (show Tryz.prog.info? 3 = some Tryz.t3 by kernel_rfl) rfl rfl rfl rfl (by decide) rfl rfl (own_blk hb1 rfl (by simp [maxLen])) hr1 (by simp [Value.oneCell']) (by simp only [maxLen]; omega) (by omega)) rfl rfl rfl ?_
               rintro v2 h2 ⟨ho2, hx2, hl2⟩)
    all_goals (refine WL.step (ok_assign rfl) rfl rfl rfl ?_)
    all_goals (refine WL.nil ?_)
    all_goals (repeat' (with_reducible first | refine thenP_n ?_ | refine blockP_n ?_))
    all_goals (refine WC.sub [(2, _)] ⟨rfl, trivial⟩ ?_)
    all_goals (refine WC.ret ?_)
    all_goals (repeat' (with_reducible first | refine thenP_r ?_ | refine blockP_r ?_))
    all_goals (refine retP_1 _ ⟨rfl, trivial⟩ ?_)
    all_goals (exact ⟨by simpa using ho2, hx1.trans' hx2 (fun k hk e => by simp [Value.ownBlock] at e; omega), fresh_of hl2 (fun k hk => by simp [Value.ownBlock] at hk; omega) hx1.size⟩)

theorem clone_int {h : Heap} {A : Option Addr} {c : Nat} (l : List Int) (hr : Rd h (.slice A l.length c) 1 l.length (ints l)) (hm : l.length ≤ 1000000) :
    CallsH Tryz.prog 52 ⟨[.slice A l.length c]⟩ h fun u h' => Own h' u 3 1 l.length (ints l) ∧ Ext No h h' ∧ (∀ k, u.ownBlock = some k → h.size ≤ k) := clone_ints l hr (by unfold reachBytes; omega)

end Go.Proofs.YtkpgnhhidnkmcaaGreatDoor

