/-
  HBA (layer 52): the document's rules of a text.
-/
import Derived.Test.YtfbekbkkklijiaaDoorHba2
namespace Go.Proofs.YtfbekbkkklijiaaDoor
open Go Go.RK

theorem seg_snoc (c : UInt8) {s : List UInt8} {k : Nat} {a : UInt8} (h : s[k]? = some a) : seg c (s.take (k + 1)) = segStep c (seg c (s.take k)) a := by
  unfold seg
  rw [List.take_add_one, h, List.foldl_append]
  rfl
/-- Where the last piece of what was read so far begins. -/
structure Seg (c : UInt8) (s : List UInt8) (i : Nat) (J : List (List UInt8)) (q : List UInt8) : Prop where
  eq : seg c (s.take i) = (J, q)
  len : q.length ≤ i
  at_ : (s.drop (i - q.length)).take q.length = q
theorem Seg.zero (c : UInt8) (s : List UInt8) : Seg c s 0 [] [] := ⟨rfl, Nat.le_refl _, by simp⟩
theorem Seg.hit {c : UInt8} {s : List UInt8} {i : Nat} {J : List (List UInt8)} {q : List UInt8} (h : Seg c s i J q) (ha : s[i]? = some c) : Seg c s (i + 1) (J ++ [q]) [] := ⟨by rw [seg_snoc c ha, h.eq, segStep, if_pos rfl], by simp, by simp⟩
theorem Seg.go {c : UInt8} {s : List UInt8} {i : Nat} {J : List (List UInt8)} {q : List UInt8} {a : UInt8} (h : Seg c s i J q) (ha : s[i]? = some a) (hne : a ≠ c) : Seg c s (i + 1) J (q ++ [a]) := by
  refine ⟨by rw [seg_snoc c ha, h.eq, segStep, if_neg hne], by have := h.len; simp; omega, ?_⟩
  have h1 := h.len
  have e : i + 1 - (q ++ [a]).length = i - q.length := by simp
  rw [e, List.length_append, List.length_singleton, List.take_add_one, h.at_, List.getElem?_drop, show i - q.length + q.length = i by omega, ha]
  rfl
theorem Seg.cnt {c : UInt8} {s : List UInt8} {i : Nat} {J : List (List UInt8)} {q : List UInt8} (h : Seg c s i J q) (hi : i ≤ s.length) : J.length ≤ i := by
  have := pieces_len c (s.take i)
  unfold pieces at this
  rw [h.eq] at this
  simp at this
  omega
theorem Seg.pieces {c : UInt8} {s : List UInt8} {i : Nat} {J : List (List UInt8)} {q : List UInt8} (h : Seg c s i J q) (hi : s.length ≤ i) : pieces c s = J ++ [q] := by
  have := h.eq
  rw [List.take_of_length_le hi] at this
  unfold Proofs.YtfbekbkkklijiaaDoor.pieces
  rw [this]
theorem by10 (b : UInt8) : (b.toNat : Int) = 10 ↔ b = 10 := by
  constructor
  · intro h
    exact UInt8.toNat_inj.1 (show b.toNat = 10 by omega)
  · rintro rfl
    rfl
theorem by32 (b : UInt8) : (b.toNat : Int) = 32 ↔ b = 32 := by
  constructor
  · intro h
    exact UInt8.toNat_inj.1 (show b.toNat = 32 by omega)
  · rintro rfl
    rfl
set_option maxRecDepth 100000 in
theorem lines_ref {h : Heap} (s : List UInt8) (hs : s.length ≤ 100000) :
    CallsH Tryd.prog 46 ⟨[St s]⟩ h fun u h' => NewS h u (pieces 10 s) h' := by
  refine calls [(0, _)] Tryd.func46 rfl Tryd.ntmps46 rfl ⟨rfl, trivial⟩ ?_
  all_goals (refine WC.seq ?_)
  all_goals (refine WC.region ?_)
  all_goals (refine WL.step (ok_assign rfl) rfl rfl rfl ?_)
  all_goals (refine WL.nil ?_)
  all_goals (repeat' (with_reducible first | refine thenP_n ?_ | refine blockP_n ?_))
  all_goals (refine WC.seq ?_)
  all_goals (refine WC.region ?_)
  all_goals (refine WL.step (ok_assign rfl) rfl rfl rfl ?_)
  all_goals (refine WL.nil ?_)
  all_goals (repeat' (with_reducible first | refine thenP_n ?_ | refine blockP_n ?_))
  all_goals (refine WC.seq ?_)
  all_goals (refine WC.region ?_)
  all_goals (refine WL.step (ok_assign rfl) rfl rfl rfl ?_)
  all_goals (refine WL.nil ?_)
  all_goals (repeat' (with_reducible first | refine thenP_n ?_ | refine blockP_n ?_))
  all_goals (refine WC.seq ?_)
  all_goals (refine WC.seq ?_)
  all_goals (refine WC.region ?_)
  all_goals (refine WL.step (ok_assign rfl) rfl rfl rfl ?_)
  all_goals (refine WL.nil ?_)
  all_goals (repeat' (with_reducible first | refine thenP_n ?_ | refine blockP_n ?_))
  all_goals (refine WC.block ?_)
  -- loop 0: slots that turn [3, 4, 5], that stay [0]
  all_goals (refine WC.loopG (X := Nat × Value × Nat) (fun x => ([(5, In (x.1 : Int)), (4, In (x.2.2 : Int)), (3, x.2.1)] : Fr)) [(0, _)] (fun x h' => x.1 ≤ s.length ∧ ∃ J q, Seg 10 s x.1 J q ∧ x.2.2 = x.1 - q.length ∧ NewS h x.2.1 J h') (fun x => s.length - x.1) ((0, .slice none 0 0, 0)) ⟨rfl, rfl, rfl, rfl, trivial⟩ (by exact ⟨Nat.zero_le _, [], [], Seg.zero _ _, rfl, Own.nil _ _ _, .refl _ _, by simp [Value.ownBlock]⟩) ?_)
  all_goals (rintro ⟨i, v1, fr⟩ h1 ⟨hi, J, q, hsg, hfr, ho1, hx1, hf1⟩
             simp only at hi hsg hfr ho1 hf1
             have hql := hsg.len
             have hJ := hsg.cnt hi
             have eq1 : (List.drop ((fr : Int)).toNat s).take ((i : Int).toNat - ((fr : Int)).toNat) = q := by rw [show (i : Int).toNat - ((fr : Int)).toNat = q.length by omega, hfr]; exact hsg.at_)
  all_goals (refine WC.sub [(3, _), (4, _), (5, _), (0, _)] ⟨rfl, rfl, rfl, rfl, trivial⟩ ?_)
  all_goals (dsimp only)
  all_goals (refine WC.seq ?_)
  all_goals (refine WC.seq ?_)
  all_goals (refine WC.region ?_)
  all_goals (refine WL.step (ok_move rfl) rfl rfl rfl ?_)
  all_goals (refine WL.step (ok_move rfl) rfl rfl rfl ?_)
  all_goals (refine WL.step (ok_lenS rfl Tryd.underlying9 rfl) rfl rfl rfl ?_)
  all_goals (first | (refine WL.step (OkP.bool_t (by omega) (ok_lss rfl rfl)) rfl rfl rfl ?_) | (refine WL.step (OkP.bool_f (by omega) (ok_lss rfl rfl)) rfl rfl rfl ?_) | (refine WL.step (ok_lss rfl rfl) rfl rfl rfl ?_))
  all_goals (refine WL.nil ?_)
  all_goals (repeat' (with_reducible first | refine thenP_n ?_ | refine blockP_n ?_))
  all_goals (first | refine WC.condB_t 1 rfl ?_ | refine WC.condB_f 2 rfl ?_ | (refine WC.condB 1 2 rfl (fun hb => ?_) (fun hb => ?_) <;> (first | replace hb := of_decide_eq_true hb | replace hb := of_decide_eq_false hb | replace hb := of_decide_eq_false (nt hb) | replace hb := of_decide_eq_true (nf hb) | skip)))
  all_goals (first
    | (fail_if_success (refine Br.mk (i := 1) ?_))
    | (refine Br.mk (i := 1) ?_
       all_goals (refine WC.skip ?_)
       skip))
  all_goals (first
    | (fail_if_success (refine Br.mk (i := 2) ?_))
    | (refine Br.mk (i := 2) ?_
       all_goals (refine WC.exit ?_)
       all_goals (repeat' (with_reducible first | refine thenP_x ?_ | refine blockP_miss rfl ?_ | refine blockP_hit ?_ | refine blockP_n ?_ | refine thenP_n ?_))
       all_goals (refine Br.out (i := 1000) ?_)
       skip))
  all_goals (first | (refine Br.keep ?_) | (repeat' (with_reducible first | refine thenP_n ?_ | refine blockP_n ?_)))
  all_goals (first | (refine Br.keep ?_) | (refine WC.sub [(0, _), (3, _), (4, _), (5, _)] ⟨rfl, rfl, rfl, rfl, trivial⟩ ?_))
  all_goals (first | (refine Br.keep ?_) | (refine WC.seq ?_))
  all_goals (first | (refine Br.keep ?_) | (refine WC.block ?_))
  all_goals (first | (refine Br.keep ?_) | (refine WC.seq ?_))
  all_goals (first | (refine Br.keep ?_) | (refine WC.region ?_))
  all_goals (first | (refine Br.keep ?_) | (obtain ⟨a, hy⟩ : ∃ y, s[i]? = some y := ⟨_, List.getElem?_eq_getElem (by omega)⟩))
  all_goals (first | (refine Br.keep ?_) | (refine WL.step (ok_move rfl) rfl rfl rfl ?_))
  all_goals (first | (refine Br.keep ?_) | (refine WL.step (ok_move rfl) rfl rfl rfl ?_))
  all_goals (first | (refine Br.keep ?_) | (refine WL.step (ok_idxS Tryd.underlying9 rfl rfl (by omega) (by assumption)) rfl rfl rfl ?_))
  all_goals (first | (refine Br.keep ?_) | (first | (refine WL.step (OkP.bool_t (by omega) (ok_eql rfl rfl)) rfl rfl rfl ?_) | (refine WL.step (OkP.bool_f (by omega) (ok_eql rfl rfl)) rfl rfl rfl ?_) | (refine WL.step (ok_eql rfl rfl) rfl rfl rfl ?_)))
  all_goals (first | (refine Br.keep ?_) | (refine WL.nil ?_))
  all_goals (first | (refine Br.keep ?_) | (repeat' (with_reducible first | refine thenP_n ?_ | refine blockP_n ?_)))
  all_goals (first | (refine Br.keep ?_) | (first | refine WC.condB_t 3 rfl ?_ | refine WC.condB_f 4 rfl ?_ | (refine WC.condB 3 4 rfl (fun hb => ?_) (fun hb => ?_) <;> (first | replace hb := of_decide_eq_true hb | replace hb := of_decide_eq_false hb | replace hb := of_decide_eq_false (nt hb) | replace hb := of_decide_eq_true (nf hb) | skip))))
  all_goals (first
    | (fail_if_success (refine Br.mk (i := 3) ?_))
    | (refine Br.mk (i := 3) ?_
       all_goals (refine WC.seq ?_)
       all_goals (refine WC.region ?_)
       all_goals (refine WL.step (ok_move rfl) rfl rfl rfl ?_)
       all_goals (refine WL.step (ok_move rfl) rfl rfl rfl ?_)
       all_goals (refine WL.step (ok_move rfl) rfl rfl rfl ?_)
       all_goals (refine WL.step (ok_move rfl) rfl rfl rfl ?_)
       all_goals (refine WL.step (ok_slice_slh Tryd.underlying9 rfl rfl rfl (by first | omega | (simp <;> omega))) rfl rfl rfl ?_)
       all_goals (rw [eq1])
       all_goals (refine WL.stepR (okE_buildSlice (vs := [_]) (cs := [_]) (fun | [a0] => [a0] | _ => []) Tryd.underlying58 rfl rfl (by kernel_rfl)) rfl rfl rfl ?_
                  rintro _ h3 ⟨b3, rfl, hg3, hb3, hx3⟩)
       all_goals (refine WL.stepR (ok_append (sz := 1) (bytes := 16) rfl Tryd.underlying58 (show Tryd.prog.info? 9 = some Tryd.t9 by kernel_rfl) rfl rfl rfl rfl (by decide) rfl rfl (ho1.ext hx3 (fun _ _ => nos)) (rd_blk hb3 rfl) (by simp [Value.oneCell']) (by simp only [maxLen]; omega) (by omega)) rfl rfl rfl ?_
                  rintro v4 h4 ⟨ho4, hx4, hl4⟩)
       all_goals (refine WL.step (ok_assign rfl) rfl rfl rfl ?_)
       all_goals (refine WL.nil ?_)
       all_goals (repeat' (with_reducible first | refine thenP_n ?_ | refine blockP_n ?_))
       all_goals (refine WC.sub [(0, _), (3, _), (5, _)] ⟨rfl, rfl, rfl, trivial⟩ ?_)
       all_goals (refine WC.region ?_)
       all_goals (refine WL.step (ok_move rfl) rfl rfl rfl ?_)
       all_goals (first | (refine WL.step (ok_addI rfl rfl (by omega)) rfl rfl rfl ?_) | (refine WL.step (ok_add rfl rfl) rfl rfl rfl ?_))
       all_goals (rw [show (i : Int) + 1 = ((i + 1 : Nat) : Int) from rfl])
       all_goals (refine WL.step (ok_assign rfl) rfl rfl rfl ?_)
       all_goals (refine WL.nil ?_)
       skip))
  all_goals (first
    | (fail_if_success (refine Br.mk (i := 4) ?_))
    | (refine Br.mk (i := 4) ?_
       all_goals (refine WC.skip ?_)
       skip))
  all_goals (first | (refine Br.keep ?_) | (repeat' (with_reducible first | refine thenP_n ?_ | refine blockP_n ?_)))
  all_goals (first | (refine Br.keep ?_) | (refine WC.region ?_))
  all_goals (first | (refine Br.keep ?_) | (refine WL.step (ok_move rfl) rfl rfl rfl ?_))
  all_goals (first | (refine Br.keep ?_) | (first | (refine WL.step (ok_addI rfl rfl (by omega)) rfl rfl rfl ?_) | (refine WL.step (ok_add rfl rfl) rfl rfl rfl ?_)))
  all_goals (first | (refine Br.keep ?_) | (refine WL.step (ok_assign rfl) rfl rfl rfl ?_))
  all_goals (first | (refine Br.keep ?_) | (refine WL.nil ?_))
  all_goals (first | (refine Br.keep ?_) | (repeat' (with_reducible first | refine thenP_n ?_ | refine blockP_n ?_)))
  all_goals (first
               | (refine Br.keep ?_)
               | (exact ⟨(i + 1, _, _), ⟨rfl, rfl, rfl, rfl, trivial⟩, (by first
                   | exact ⟨by simp; omega, J ++ [q], [], hsg.hit (by rw [hy, (by10 a).1 (by assumption)]), rfl, by simpa using ho4, (hx1.trans hx3).trans' hx4 (fun q hq e => by have := hf1 q e; omega), fresh_of hl4 hf1 (hx1.trans hx3).size⟩
                   | exact ⟨by simp; omega, J, q ++ [a], hsg.go hy (fun e => by have := (by10 a).2 e; omega), by simp; omega, ho1, hx1, hf1⟩), (by simp; omega)⟩))
  all_goals (try (refine Br.mk (i := 1000) ?_))
  all_goals (repeat' (with_reducible first | refine thenP_n ?_ | refine blockP_n ?_))
  all_goals (refine WC.sub [(0, _), (3, _), (4, _)] ⟨rfl, rfl, rfl, trivial⟩ ?_)
  all_goals (refine WC.seq ?_)
  all_goals (refine WC.region ?_)
  all_goals (refine WL.step (ok_move rfl) rfl rfl rfl ?_)
  all_goals (refine WL.step (ok_move rfl) rfl rfl rfl ?_)
  all_goals (refine WL.step (ok_move rfl) rfl rfl rfl ?_)
  all_goals (have eq2 : s.drop ((fr : Int)).toNat = q := by have := hsg.at_; rw [List.take_of_length_le (by simp; omega)] at this; rw [hfr]; exact this)
  all_goals (refine WL.step (ok_slice_sl Tryd.underlying9 rfl rfl (by first | omega | (simp <;> omega))) rfl rfl rfl ?_)
  all_goals (rw [eq2])
  all_goals (refine WL.stepR (okE_buildSlice (vs := [_]) (cs := [_]) (fun | [a0] => [a0] | _ => []) Tryd.underlying58 rfl rfl (by kernel_rfl)) rfl rfl rfl ?_
             rintro _ h3 ⟨b3, rfl, hg3, hb3, hx3⟩)
  all_goals (refine WL.stepR (ok_append (sz := 1) (bytes := 16) rfl Tryd.underlying58 (show Tryd.prog.info? 9 = some Tryd.t9 by kernel_rfl) rfl rfl rfl rfl (by decide) rfl rfl (ho1.ext hx3 (fun _ _ => nos)) (rd_blk hb3 rfl) (by simp [Value.oneCell']) (by simp only [maxLen]; omega) (by omega)) rfl rfl rfl ?_
             rintro v4 h4 ⟨ho4, hx4, hl4⟩)
  all_goals (refine WL.step (ok_assign rfl) rfl rfl rfl ?_)
  all_goals (refine WL.nil ?_)
  all_goals (repeat' (with_reducible first | refine thenP_n ?_ | refine blockP_n ?_))
  all_goals (refine WC.sub [(2, _)] ⟨rfl, trivial⟩ ?_)
  all_goals (refine WC.ret ?_)
  all_goals (repeat' (with_reducible first | refine thenP_r ?_ | refine blockP_r ?_))
  all_goals (refine retP_1 _ ⟨rfl, trivial⟩ ?_)
  all_goals (rw [hsg.pieces (by omega)]
             exact ⟨by simpa using ho4, (hx1.trans hx3).trans' hx4 (fun q hq e => by have := hf1 q e; omega), fresh_of hl4 hf1 (hx1.trans hx3).size⟩)
def full (J : List (List UInt8)) : List (List UInt8) := J.filter fun p => !decide (p = [])
theorem full_snoc (J : List (List UInt8)) (q : List UInt8) : full (J ++ [q]) = if q = [] then full J else full J ++ [q] := by
  unfold full
  rw [List.filter_append]
  by_cases h : q = [] <;> simp [h]
theorem full_len (J : List (List UInt8)) : (full J).length ≤ J.length := List.length_filter_le _ _
theorem get_or (s : List UInt8) (i : Nat) : s.length ≤ i ∨ ∃ a, i < s.length ∧ s[i]? = some a := by
  rcases Nat.lt_or_ge i s.length with h | h
  · exact .inr ⟨_, h, List.getElem?_eq_getElem h⟩
  · exact .inl h
theorem words_seg {s : List UInt8} {i : Nat} {J : List (List UInt8)} {q : List UInt8} (h : Seg 32 s i J q) (hi : s.length ≤ i) : wordsL s = full (J ++ [q]) := by
  unfold wordsL
  rw [h.pieces hi]
  rfl
theorem q_no {fr : Int} {q : List UInt8} {n : Nat} (h : (fr < 0 ∧ q = []) ∨ (0 ≤ fr ∧ q ≠ [] ∧ fr = (n : Int))) (h0 : 0 ≤ fr) : q ≠ [] := by
  rcases h with ⟨e, _⟩ | ⟨_, e, _⟩
  · omega
  · exact e
theorem q_yes {fr : Int} {q : List UInt8} {n : Nat} (h : (fr < 0 ∧ q = []) ∨ (0 ≤ fr ∧ q ≠ [] ∧ fr = (n : Int))) (h0 : ¬ 0 ≤ fr) : q = [] := by
  rcases h with ⟨_, e⟩ | ⟨e, _, _⟩
  · exact e
  · omega
theorem q_fr {fr : Int} {q : List UInt8} {n : Nat} (h : (fr < 0 ∧ q = []) ∨ (0 ≤ fr ∧ q ≠ [] ∧ fr = (n : Int))) (h0 : 0 ≤ fr) : fr = (n : Int) := by
  rcases h with ⟨e, _⟩ | ⟨_, _, e⟩
  · omega
  · exact e
set_option maxHeartbeats 1000000 in
set_option maxRecDepth 100000 in
theorem words_ref {h : Heap} (s : List UInt8) (hs : s.length ≤ 100000) :
    CallsH Tryd.prog 47 ⟨[St s]⟩ h fun u h' => NewS h u (wordsL s) h' := by
  refine calls [(0, _)] Tryd.func47 rfl Tryd.ntmps47 rfl ⟨rfl, trivial⟩ ?_
  all_goals (refine WC.seq ?_)
  all_goals (refine WC.region ?_)
  all_goals (refine WL.step (ok_assign rfl) rfl rfl rfl ?_)
  all_goals (refine WL.nil ?_)
  all_goals (repeat' (with_reducible first | refine thenP_n ?_ | refine blockP_n ?_))
  all_goals (refine WC.seq ?_)
  all_goals (refine WC.region ?_)
  all_goals (refine WL.step (ok_assign rfl) rfl rfl rfl ?_)
  all_goals (refine WL.nil ?_)
  all_goals (repeat' (with_reducible first | refine thenP_n ?_ | refine blockP_n ?_))
  all_goals (refine WC.seq ?_)
  all_goals (refine WC.region ?_)
  all_goals (refine WL.step (ok_assign rfl) rfl rfl rfl ?_)
  all_goals (refine WL.nil ?_)
  all_goals (repeat' (with_reducible first | refine thenP_n ?_ | refine blockP_n ?_))
  all_goals (refine WC.seq ?_)
  all_goals (refine WC.seq ?_)
  all_goals (refine WC.region ?_)
  all_goals (refine WL.step (ok_assign rfl) rfl rfl rfl ?_)
  all_goals (refine WL.nil ?_)
  all_goals (repeat' (with_reducible first | refine thenP_n ?_ | refine blockP_n ?_))
  all_goals (refine WC.block ?_)
  -- loop 0: slots that turn [3, 4, 5], that stay [0]
  all_goals (refine WC.loopG (X := Nat × Value × Int) (fun x => ([(5, In (x.1 : Int)), (4, In x.2.2), (3, x.2.1)] : Fr)) [(0, _)] (fun x h' => x.1 ≤ s.length + 1 ∧ ∃ W, NewS h x.2.1 W h' ∧ (x.1 ≤ s.length → ∃ J q, Seg 32 s x.1 J q ∧ W = full J ∧ x.2.2 = if q = [] then -1 else ((x.1 - q.length : Nat) : Int)) ∧ (x.1 = s.length + 1 → W = wordsL s)) (fun x => s.length + 1 - x.1) ((0, .slice none 0 0, -1)) ⟨rfl, rfl, rfl, rfl, trivial⟩ (by exact ⟨Nat.zero_le _, [], ⟨Own.nil _ _ _, .refl _ _, by simp [Value.ownBlock]⟩, fun _ => ⟨[], [], Seg.zero _ _, rfl, rfl⟩, fun e => by simp at e⟩) ?_)
  all_goals (rintro ⟨i, v1, fr⟩ h1 ⟨hi, W, ⟨ho1, hx1, hf1⟩, hW, hEnd⟩
             simp only at hi hW hEnd ho1 hf1)
  all_goals (refine WC.sub [(3, _), (4, _), (5, _), (0, _)] ⟨rfl, rfl, rfl, rfl, trivial⟩ ?_)
  all_goals (dsimp only)
  all_goals (refine WC.seq ?_)
  all_goals (refine WC.seq ?_)
  all_goals (refine WC.region ?_)
  all_goals (refine WL.step (ok_move rfl) rfl rfl rfl ?_)
  all_goals (refine WL.step (ok_move rfl) rfl rfl rfl ?_)
  all_goals (refine WL.step (ok_lenS rfl Tryd.underlying9 rfl) rfl rfl rfl ?_)
  all_goals (first | (refine WL.step (OkP.bool_t (by omega) (ok_leq rfl rfl)) rfl rfl rfl ?_) | (refine WL.step (OkP.bool_f (by omega) (ok_leq rfl rfl)) rfl rfl rfl ?_) | (refine WL.step (ok_leq rfl rfl) rfl rfl rfl ?_))
  all_goals (refine WL.nil ?_)
  all_goals (repeat' (with_reducible first | refine thenP_n ?_ | refine blockP_n ?_))
  all_goals (first | refine WC.condB_t 1 rfl ?_ | refine WC.condB_f 2 rfl ?_ | (refine WC.condB 1 2 rfl (fun hb => ?_) (fun hb => ?_) <;> (first | replace hb := of_decide_eq_true hb | replace hb := of_decide_eq_false hb | replace hb := of_decide_eq_false (nt hb) | replace hb := of_decide_eq_true (nf hb) | skip)))
  all_goals (first
    | (fail_if_success (refine Br.mk (i := 1) ?_))
    | (refine Br.mk (i := 1) ?_
       all_goals (refine WC.skip ?_)
       skip))
  all_goals (first
    | (fail_if_success (refine Br.mk (i := 2) ?_))
    | (refine Br.mk (i := 2) ?_
       all_goals (refine WC.exit ?_)
       all_goals (repeat' (with_reducible first | refine thenP_x ?_ | refine blockP_miss rfl ?_ | refine blockP_hit ?_ | refine blockP_n ?_ | refine thenP_n ?_))
       all_goals (refine Br.out (i := 1000) ?_)
       skip))
  all_goals (first | (refine Br.keep ?_) | (repeat' (with_reducible first | refine thenP_n ?_ | refine blockP_n ?_)))
  all_goals (first | (refine Br.keep ?_) | (refine WC.sub [(0, _), (3, _), (4, _), (5, _)] ⟨rfl, rfl, rfl, rfl, trivial⟩ ?_))
  all_goals (first | (refine Br.keep ?_) | (refine WC.seq ?_))
  all_goals (first | (refine Br.keep ?_) | (refine WC.block ?_))
  all_goals (first | (refine Br.keep ?_) | (refine WC.seq ?_))
  all_goals (first | (refine Br.keep ?_) | (refine WC.region ?_))
  all_goals (first
               | (refine Br.keep ?_)
               | (obtain ⟨J, q, hsg, hWJ, hfr⟩ := hW (by omega)
                  have hil : i ≤ s.length := by omega
                  have hql := hsg.len
                  have hJ := hsg.cnt hil
                  have hFl := full_len J
                  have hWl : W.length ≤ i := by rw [hWJ]; omega
                  have hq0 : (fr < 0 ∧ q = []) ∨ (0 ≤ fr ∧ q ≠ [] ∧ fr = ((i - q.length : Nat) : Int)) := by by_cases h0 : q = []; rw [if_pos h0] at hfr; exact .inl ⟨by omega, h0⟩; rw [if_neg h0] at hfr; exact .inr ⟨by omega, h0, hfr⟩
                  rcases get_or s i with hge | ⟨a, hlt, hy⟩))
  all_goals (first | (refine Br.keep ?_) | (refine WL.step (ok_move rfl) rfl rfl rfl ?_))
  all_goals (first | (refine Br.keep ?_) | (refine WL.step (ok_move rfl) rfl rfl rfl ?_))
  all_goals (first | (refine Br.keep ?_) | (refine WL.step (ok_lenS rfl Tryd.underlying9 rfl) rfl rfl rfl ?_))
  all_goals (first | (refine Br.keep ?_) | (first | (refine WL.step (OkP.bool_t (by omega) (ok_eql rfl rfl)) rfl rfl rfl ?_) | (refine WL.step (OkP.bool_f (by omega) (ok_eql rfl rfl)) rfl rfl rfl ?_) | (refine WL.step (ok_eql rfl rfl) rfl rfl rfl ?_)))
  all_goals (first | (refine Br.keep ?_) | (refine WL.step (ok_move rfl) rfl rfl rfl ?_))
  all_goals (first | (refine Br.keep ?_) | (try ((fail_if_success (refine WL.part 17 (b := true) rfl (fun _ => ?_) (fun _ => ?_))); (fail_if_success (refine WL.part 17 (b := false) rfl (fun _ => ?_) (fun _ => ?_))); (refine WL.part 17 rfl (fun hb => ?_) (fun hb => ?_) <;> (first | replace hb := of_decide_eq_true hb | replace hb := of_decide_eq_false hb | replace hb := of_decide_eq_false (nt hb) | replace hb := of_decide_eq_true (nf hb) | skip)))))
  all_goals (first | (refine Br.keep ?_) | (first | (refine WL.pass rfl rfl rfl ?_) | (refine WL.step (ok_move rfl) rfl rfl rfl ?_)))
  all_goals (first | (refine Br.keep ?_) | (first | (refine WL.pass rfl rfl rfl ?_) | (refine WL.step (ok_move rfl) rfl rfl rfl ?_)))
  all_goals (first | (refine Br.keep ?_) | (first | (refine WL.pass rfl rfl rfl ?_) | (refine WL.step (ok_idxS Tryd.underlying9 rfl rfl (by omega) (by assumption)) rfl rfl rfl ?_)))
  all_goals (first | (refine Br.keep ?_) | (first | (refine WL.pass rfl rfl rfl ?_) | (first | (refine WL.step (OkP.bool_t (by omega) (ok_eql rfl rfl)) rfl rfl rfl ?_) | (refine WL.step (OkP.bool_f (by omega) (ok_eql rfl rfl)) rfl rfl rfl ?_) | (refine WL.step (ok_eql rfl rfl) rfl rfl rfl ?_))))
  all_goals (first | (refine Br.keep ?_) | (first | (refine WL.step (ok_pick_t rfl rfl) rfl rfl rfl ?_) | (refine WL.step (ok_pick_f rfl rfl) rfl rfl rfl ?_)))
  all_goals (first | (refine Br.keep ?_) | (refine WL.step (ok_assign rfl) rfl rfl rfl ?_))
  all_goals (first | (refine Br.keep ?_) | (refine WL.nil ?_))
  all_goals (first | (refine Br.keep ?_) | (repeat' (with_reducible first | refine thenP_n ?_ | refine blockP_n ?_)))
  all_goals (first | (refine Br.keep ?_) | (refine WC.sub [(0, _), (3, _), (4, _), (5, _), (6, _)] ⟨rfl, rfl, rfl, rfl, rfl, trivial⟩ ?_))
  all_goals (first | (refine Br.keep ?_) | (refine WC.seq ?_))
  all_goals (first | (refine Br.keep ?_) | (refine WC.seq ?_))
  all_goals (first | (refine Br.keep ?_) | (refine WC.region ?_))
  all_goals (first | (refine Br.keep ?_) | (refine WL.step (ok_move rfl) rfl rfl rfl ?_))
  all_goals (first | (refine Br.keep ?_) | (refine WL.step (ok_move rfl) rfl rfl rfl ?_))
  all_goals (first | (refine Br.keep ?_) | (try ((fail_if_success (refine WL.part 24 (b := true) rfl (fun _ => ?_) (fun _ => ?_))); (fail_if_success (refine WL.part 24 (b := false) rfl (fun _ => ?_) (fun _ => ?_))); (refine WL.part 24 rfl (fun hb => ?_) (fun hb => ?_) <;> (first | replace hb := of_decide_eq_true hb | replace hb := of_decide_eq_false hb | replace hb := of_decide_eq_false (nt hb) | replace hb := of_decide_eq_true (nf hb) | skip)))))
  all_goals (first | (refine Br.keep ?_) | (first | (refine WL.pass rfl rfl rfl ?_) | (refine WL.step (ok_move rfl) rfl rfl rfl ?_)))
  all_goals (first | (refine Br.keep ?_) | (first | (refine WL.pass rfl rfl rfl ?_) | (first | (refine WL.step (OkP.bool_t (by omega) (ok_geq rfl rfl)) rfl rfl rfl ?_) | (refine WL.step (OkP.bool_f (by omega) (ok_geq rfl rfl)) rfl rfl rfl ?_) | (refine WL.step (ok_geq rfl rfl) rfl rfl rfl ?_))))
  all_goals (first | (refine Br.keep ?_) | (first | (refine WL.step (ok_pick_t rfl rfl) rfl rfl rfl ?_) | (refine WL.step (ok_pick_f rfl rfl) rfl rfl rfl ?_)))
  all_goals (first | (refine Br.keep ?_) | (refine WL.nil ?_))
  all_goals (first | (refine Br.keep ?_) | (repeat' (with_reducible first | refine thenP_n ?_ | refine blockP_n ?_)))
  all_goals (first | (refine Br.keep ?_) | (refine WC.sub [(0, _), (3, _), (4, _), (5, _), (6, _), (27, _)] ⟨rfl, rfl, rfl, rfl, rfl, rfl, trivial⟩ ?_))
  all_goals (first | (refine Br.keep ?_) | (first | refine WC.condB_t 3 rfl ?_ | refine WC.condB_f 4 rfl ?_ | (refine WC.condB 3 4 rfl (fun hb => ?_) (fun hb => ?_) <;> (first | replace hb := of_decide_eq_true hb | replace hb := of_decide_eq_false hb | replace hb := of_decide_eq_false (nt hb) | replace hb := of_decide_eq_true (nf hb) | skip))))
  all_goals (first
    | (fail_if_success (refine Br.mk (i := 3) ?_))
    | (refine Br.mk (i := 3) ?_
       all_goals (refine WC.seq ?_)
       all_goals (refine WC.region ?_)
       all_goals (refine WL.step (ok_move rfl) rfl rfl rfl ?_)
       all_goals (refine WL.step (ok_move rfl) rfl rfl rfl ?_)
       all_goals (refine WL.step (ok_move rfl) rfl rfl rfl ?_)
       all_goals (refine WL.step (ok_move rfl) rfl rfl rfl ?_)
       all_goals (have eq1 : (List.drop fr.toNat s).take ((i : Int).toNat - fr.toNat) = q := by have e := q_fr hq0 (by omega); rw [show (i : Int).toNat - fr.toNat = q.length by omega, show fr.toNat = i - q.length by omega]; exact hsg.at_)
       all_goals (refine WL.step (ok_slice_slh Tryd.underlying9 rfl rfl rfl (by first | omega | (simp <;> omega))) rfl rfl rfl ?_)
       all_goals (rw [eq1])
       all_goals (refine WL.stepR (okE_buildSlice (vs := [_]) (cs := [_]) (fun | [a0] => [a0] | _ => []) Tryd.underlying58 rfl rfl (by kernel_rfl)) rfl rfl rfl ?_
                  rintro _ h3 ⟨b3, rfl, hg3, hb3, hx3⟩)
       all_goals (refine WL.stepR (ok_append (sz := 1) (bytes := 16) rfl Tryd.underlying58 (show Tryd.prog.info? 9 = some Tryd.t9 by kernel_rfl) rfl rfl rfl rfl (by decide) rfl rfl (ho1.ext hx3 (fun _ _ => nos)) (rd_blk hb3 rfl) (by simp [Value.oneCell']) (by simp only [maxLen]; omega) (by omega)) rfl rfl rfl ?_
                  rintro v4 h4 ⟨ho4, hx4, hl4⟩)
       all_goals (refine WL.step (ok_assign rfl) rfl rfl rfl ?_)
       all_goals (refine WL.nil ?_)
       all_goals (repeat' (with_reducible first | refine thenP_n ?_ | refine blockP_n ?_))
       all_goals (refine WC.sub [(0, _), (3, _), (5, _), (6, _)] ⟨rfl, rfl, rfl, rfl, trivial⟩ ?_)
       all_goals (refine WC.region ?_)
       all_goals (refine WL.step (ok_assign rfl) rfl rfl rfl ?_)
       all_goals (refine WL.nil ?_)
       skip))
  all_goals (first
    | (fail_if_success (refine Br.mk (i := 4) ?_))
    | (refine Br.mk (i := 4) ?_
       all_goals (refine WC.skip ?_)
       skip))
  all_goals (first | (refine Br.keep ?_) | (repeat' (with_reducible first | refine thenP_n ?_ | refine blockP_n ?_)))
  all_goals (first | (refine Br.keep ?_) | (refine WC.seq ?_))
  all_goals (first | (refine Br.keep ?_) | (refine WC.region ?_))
  all_goals (first | (refine Br.keep ?_) | (refine WL.step (ok_move rfl) rfl rfl rfl ?_))
  all_goals (first | (refine Br.keep ?_) | (refine WL.step (ok_not rfl) rfl rfl rfl ?_))
  all_goals (first | (refine Br.keep ?_) | (refine WL.step (ok_move rfl) rfl rfl rfl ?_))
  all_goals (first | (refine Br.keep ?_) | (try ((fail_if_success (refine WL.part 37 (b := true) rfl (fun _ => ?_) (fun _ => ?_))); (fail_if_success (refine WL.part 37 (b := false) rfl (fun _ => ?_) (fun _ => ?_))); (refine WL.part 37 rfl (fun hb => ?_) (fun hb => ?_) <;> (first | replace hb := of_decide_eq_true hb | replace hb := of_decide_eq_false hb | replace hb := of_decide_eq_false (nt hb) | replace hb := of_decide_eq_true (nf hb) | skip)))))
  all_goals (first | (refine Br.keep ?_) | (first | (refine WL.pass rfl rfl rfl ?_) | (refine WL.step (ok_move rfl) rfl rfl rfl ?_)))
  all_goals (first | (refine Br.keep ?_) | (first | (refine WL.pass rfl rfl rfl ?_) | (first | (refine WL.step (OkP.bool_t (by omega) (ok_lss rfl rfl)) rfl rfl rfl ?_) | (refine WL.step (OkP.bool_f (by omega) (ok_lss rfl rfl)) rfl rfl rfl ?_) | (refine WL.step (ok_lss rfl rfl) rfl rfl rfl ?_))))
  all_goals (first | (refine Br.keep ?_) | (first | (refine WL.step (ok_pick_t rfl rfl) rfl rfl rfl ?_) | (refine WL.step (ok_pick_f rfl rfl) rfl rfl rfl ?_)))
  all_goals (first | (refine Br.keep ?_) | (refine WL.nil ?_))
  all_goals (first | (refine Br.keep ?_) | (repeat' (with_reducible first | refine thenP_n ?_ | refine blockP_n ?_)))
  all_goals (first | (refine Br.keep ?_) | (refine WC.sub [(0, _), (3, _), (4, _), (5, _), (40, _)] ⟨rfl, rfl, rfl, rfl, rfl, trivial⟩ ?_))
  all_goals (first | (refine Br.keep ?_) | (first | refine WC.condB_t 5 rfl ?_ | refine WC.condB_f 6 rfl ?_ | (refine WC.condB 5 6 rfl (fun hb => ?_) (fun hb => ?_) <;> (first | replace hb := of_decide_eq_true hb | replace hb := of_decide_eq_false hb | replace hb := of_decide_eq_false (nt hb) | replace hb := of_decide_eq_true (nf hb) | skip))))
  all_goals (first
    | (fail_if_success (refine Br.mk (i := 5) ?_))
    | (refine Br.mk (i := 5) ?_
       all_goals (refine WC.region ?_)
       all_goals (refine WL.step (ok_move rfl) rfl rfl rfl ?_)
       all_goals (refine WL.step (ok_assign rfl) rfl rfl rfl ?_)
       all_goals (refine WL.nil ?_)
       skip))
  all_goals (first
    | (fail_if_success (refine Br.mk (i := 6) ?_))
    | (refine Br.mk (i := 6) ?_
       all_goals (refine WC.skip ?_)
       skip))
  all_goals (first | (refine Br.keep ?_) | (repeat' (with_reducible first | refine thenP_n ?_ | refine blockP_n ?_)))
  all_goals (first | (refine Br.keep ?_) | (refine WC.region ?_))
  all_goals (first | (refine Br.keep ?_) | (refine WL.step (ok_move rfl) rfl rfl rfl ?_))
  all_goals (first | (refine Br.keep ?_) | (first | (refine WL.step (ok_addI rfl rfl (by omega)) rfl rfl rfl ?_) | (refine WL.step (ok_add rfl rfl) rfl rfl rfl ?_)))
  all_goals (first | (refine Br.keep ?_) | (refine WL.step (ok_assign rfl) rfl rfl rfl ?_))
  all_goals (first | (refine Br.keep ?_) | (refine WL.nil ?_))
  all_goals (first | (refine Br.keep ?_) | (repeat' (with_reducible first | refine thenP_n ?_ | refine blockP_n ?_)))
  all_goals (first
               | (refine Br.keep ?_)
               | (exact ⟨(i + 1, _, _), ⟨rfl, rfl, rfl, rfl, trivial⟩, (by first
                   | (exfalso; omega)
                   | exact ⟨by simp; omega, W ++ [q], ⟨by simpa using ho4, (hx1.trans hx3).trans' hx4 (fun q hq e => by have := hf1 q e; omega), fresh_of hl4 hf1 (hx1.trans hx3).size⟩, fun e => absurd e (by simp; omega), fun _ => by rw [words_seg hsg (by omega), full_snoc, if_neg (q_no hq0 (by omega)), hWJ]⟩
                   | exact ⟨by simp; omega, W, ⟨ho1, hx1, hf1⟩, fun e => absurd e (by simp; omega), fun _ => by rw [words_seg hsg (by omega), full_snoc, if_pos (q_yes hq0 (by omega)), hWJ]⟩
                   | exact ⟨by simp; omega, W ++ [q], ⟨by simpa using ho4, (hx1.trans hx3).trans' hx4 (fun q hq e => by have := hf1 q e; omega), fresh_of hl4 hf1 (hx1.trans hx3).size⟩, fun _ => ⟨J ++ [q], [], hsg.hit (by rw [hy, (by32 a).1 (by omega)]), by rw [full_snoc, if_neg (q_no hq0 (by omega)), hWJ], rfl⟩, fun e => absurd e (by simp; omega)⟩
                   | exact ⟨by simp; omega, W, ⟨ho1, hx1, hf1⟩, fun _ => ⟨J ++ [q], [], hsg.hit (by rw [hy, (by32 a).1 (by omega)]), by rw [full_snoc, if_pos (q_yes hq0 (by omega)), hWJ], by rw [if_pos rfl]; rw [if_pos (q_yes hq0 (by omega))] at hfr; exact hfr⟩, fun e => absurd e (by simp; omega)⟩
                   | exact ⟨by simp; omega, W, ⟨ho1, hx1, hf1⟩, fun _ => ⟨J, q ++ [a], hsg.go hy (fun e => by have := (by32 a).2 e; omega), hWJ, by rw [if_neg (by simp)]; have hqy := q_yes hq0 (by omega); subst hqy; simp⟩, fun e => absurd e (by simp; omega)⟩
                   | exact ⟨by simp; omega, W, ⟨ho1, hx1, hf1⟩, fun _ => ⟨J, q ++ [a], hsg.go hy (fun e => by have := (by32 a).2 e; omega), hWJ, by rw [if_neg (by simp)]; have hqf := q_fr hq0 (by omega); rw [hqf]; simp⟩, fun e => absurd e (by simp; omega)⟩), (by simp; omega)⟩))
  all_goals (try (refine Br.mk (i := 1000) ?_))
  all_goals (repeat' (with_reducible first | refine thenP_n ?_ | refine blockP_n ?_))
  all_goals (refine WC.sub [(3, _)] ⟨rfl, trivial⟩ ?_)
  all_goals (refine WC.seq ?_)
  all_goals (refine WC.region ?_)
  all_goals (refine WL.step (ok_move rfl) rfl rfl rfl ?_)
  all_goals (refine WL.step (ok_assign rfl) rfl rfl rfl ?_)
  all_goals (refine WL.nil ?_)
  all_goals (repeat' (with_reducible first | refine thenP_n ?_ | refine blockP_n ?_))
  all_goals (refine WC.ret ?_)
  all_goals (repeat' (with_reducible first | refine thenP_r ?_ | refine blockP_r ?_))
  all_goals (refine retP_1 _ ⟨rfl, trivial⟩ ?_)
  all_goals (obtain rfl : i = s.length + 1 := by omega
             rw [← hEnd rfl]
             exact ⟨ho1, hx1, hf1⟩)
end Go.Proofs.YtfbekbkkklijiaaDoor

