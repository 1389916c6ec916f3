/-
  VIEW: all that are counted, rising, as the code and the document find them.
-/
import Derived.Test.YtfadcbbjjdmmfaaView3
namespace Go.Proofs.Ytfadcbbjjdmmfaa
open Go Go.RK Go.Shelf

/-- All of a list above 0, rising, each with how often it stands there. -/
structure IsCnt (l : List Int) (L : List Cn) : Prop where
  mem : ∀ p, p ∈ L ↔ 0 < p.1 ∧ p.1 ∈ l ∧ p.2 = (l.count p.1 : Int)
  rise : L.Pairwise fun a b => a.1 < b.1
theorem rise_eq : ∀ L M : List Cn, (L.Pairwise fun a b => a.1 < b.1) → (M.Pairwise fun a b => a.1 < b.1) → (∀ p, p ∈ L ↔ p ∈ M) → L = M
  | [], [], _, _, _ => rfl
  | [], b :: M, _, _, h => by have := (h b).2 (.head _); cases this
  | a :: L, [], _, _, h => by have := (h a).1 (.head _); cases this
  | a :: L, b :: M, hL, hM, h => by
    rw [List.pairwise_cons] at hL hM
    have e : a = b := by
      rcases List.mem_cons.1 ((h a).1 (.head _)) with e | e
      · exact e
      · rcases List.mem_cons.1 ((h b).2 (.head _)) with e' | e'
        · exact e'.symm
        · have h1 := hM.1 a e
          have h2 := hL.1 b e'
          omega
    subst e
    rw [rise_eq L M hL.2 hM.2 fun p => ⟨fun hp => ?_, fun hp => ?_⟩]
    · rcases List.mem_cons.1 ((h p).1 (.tail _ hp)) with e | e
      · subst e; have := hL.1 p hp; omega
      · exact e
    · rcases List.mem_cons.1 ((h p).2 (.tail _ hp)) with e | e
      · subst e; have := hM.1 p hp; omega
      · exact e
theorem IsCnt.eq {l : List Int} {L M : List Cn} (a : IsCnt l L) (b : IsCnt l M) : L = M := rise_eq L M a.rise b.rise fun p => by rw [a.mem, b.mem]

set_option maxRecDepth 100000 in
/-! ### the code's -/
theorem isnan_int {h : Heap} (x : Int) : CallsH Try.prog 71 ⟨[In x]⟩ h fun u h' => u = .bool false ∧ h' = h := by
  refine calls [(0, _)] Try.func71 rfl Try.ntmps71 rfl ⟨rfl, trivial⟩ ?_
  all_goals (refine WC.seq ?_)
  all_goals (refine WC.region ?_)
  all_goals (refine WL.step (ok_assign rfl) rfl rfl rfl ?_)
  all_goals (refine WL.nil ?_)
  all_goals (repeat' (with_reducible first | refine thenP_n ?_ | refine blockP_n ?_))
  all_goals (refine WC.seq ?_)
  all_goals (refine WC.region ?_)
  all_goals (refine WL.step (ok_move rfl) rfl rfl rfl ?_)
  all_goals (refine WL.step (ok_move rfl) rfl rfl rfl ?_)
  all_goals (first | (refine WL.step (OkP.nbool_t (by omega) (ok_neq rfl rfl)) rfl rfl rfl ?_) | (refine WL.step (OkP.nbool_f (by omega) (ok_neq rfl rfl)) rfl rfl rfl ?_) | (refine WL.step (ok_neq rfl rfl) rfl rfl rfl ?_))
  all_goals (refine WL.step (ok_assign rfl) rfl rfl rfl ?_)
  all_goals (refine WL.nil ?_)
  all_goals (repeat' (with_reducible first | refine thenP_n ?_ | refine blockP_n ?_))
  all_goals (refine WC.sub [(2, _)] ⟨rfl, trivial⟩ ?_)
  all_goals (refine WC.ret ?_)
  all_goals (repeat' (with_reducible first | refine thenP_r ?_ | refine blockP_r ?_))
  all_goals (refine retP_1 _ ⟨rfl, trivial⟩ ?_)
  all_goals (exact ⟨rfl, rfl⟩)
def cmpI (x y : Int) : Int := if x < y then -1 else if y < x then 1 else 0
set_option maxRecDepth 100000 in
theorem cmp_int {h : Heap} (x y : Int) : CallsH Try.prog 54 ⟨[In x, In y]⟩ h fun u h' => u = .int .i64 (cmpI x y) ∧ h' = h := by
  refine calls [(0, _), (1, _)] Try.func54 rfl Try.ntmps54 rfl ⟨rfl, rfl, trivial⟩ ?_
  all_goals (refine WC.seq ?_)
  all_goals (refine WC.region ?_)
  all_goals (refine WL.step (ok_assign rfl) rfl rfl rfl ?_)
  all_goals (refine WL.nil ?_)
  all_goals (repeat' (with_reducible first | refine thenP_n ?_ | refine blockP_n ?_))
  all_goals (refine WC.seq ?_)
  all_goals (refine WC.region ?_)
  all_goals (refine WL.step (ok_move rfl) rfl rfl rfl ?_)
  all_goals (refine WL.call (vs := [_]) rfl (fun a w => Try.call71 a w) rfl (isnan_int x) rfl rfl rfl ?_
             rintro _ hz ⟨rfl, _⟩
             subst hz)
  all_goals (refine WL.step (ok_assign rfl) rfl rfl rfl ?_)
  all_goals (refine WL.nil ?_)
  all_goals (repeat' (with_reducible first | refine thenP_n ?_ | refine blockP_n ?_))
  all_goals (refine WC.seq ?_)
  all_goals (refine WC.region ?_)
  all_goals (refine WL.step (ok_move rfl) rfl rfl rfl ?_)
  all_goals (refine WL.call (vs := [_]) rfl (fun a w => Try.call71 a w) rfl (isnan_int y) rfl rfl rfl ?_
             rintro _ hz ⟨rfl, _⟩
             subst hz)
  all_goals (refine WL.step (ok_assign rfl) rfl rfl rfl ?_)
  all_goals (refine WL.nil ?_)
  all_goals (repeat' (with_reducible first | refine thenP_n ?_ | refine blockP_n ?_))
  all_goals (refine WC.sub [(0, _), (1, _), (5, _), (6, _)] ⟨rfl, rfl, rfl, rfl, trivial⟩ ?_)
  all_goals (refine WC.seq ?_)
  all_goals (refine WC.seq ?_)
  all_goals (refine WC.region ?_)
  all_goals (refine WL.step (ok_move rfl) rfl rfl rfl ?_)
  all_goals (refine WL.nil ?_)
  all_goals (repeat' (with_reducible first | refine thenP_n ?_ | refine blockP_n ?_))
  all_goals (first | refine WC.condB_t 1 rfl ?_ | refine WC.condB_f 2 rfl ?_ | (refine WC.condB 1 2 rfl (fun hb => ?_) (fun hb => ?_) <;> (first | replace hb := of_decide_eq_true hb | replace hb := of_decide_eq_false hb | replace hb := of_decide_eq_false (nt hb) | replace hb := of_decide_eq_true (nf hb) | skip)))
  all_goals (first
    | (fail_if_success (refine Br.mk (i := 1) ?_))
    | (refine Br.mk (i := 1) ?_
       all_goals (refine WC.seq ?_)
       all_goals (refine WC.seq ?_)
       all_goals (refine WC.region ?_)
       all_goals (refine WL.step (ok_move rfl) rfl rfl rfl ?_)
       all_goals (refine WL.nil ?_)
       all_goals (repeat' (with_reducible first | refine thenP_n ?_ | refine blockP_n ?_))
       all_goals (refine WC.sub [(12, _)] ⟨rfl, trivial⟩ ?_)
       all_goals (first | refine WC.condB_t 3 rfl ?_ | refine WC.condB_f 4 rfl ?_ | (refine WC.condB 3 4 rfl (fun hb => ?_) (fun hb => ?_) <;> (first | replace hb := of_decide_eq_true hb | replace hb := of_decide_eq_false hb | replace hb := of_decide_eq_false (nt hb) | replace hb := of_decide_eq_true (nf hb) | skip)))
       all_goals (first
         | (fail_if_success (refine Br.mk (i := 3) ?_))
         | (refine Br.mk (i := 3) ?_
            all_goals (refine WC.seq ?_)
            all_goals (refine WC.region ?_)
            all_goals (refine WL.step (ok_assign rfl) rfl rfl rfl ?_)
            all_goals (refine WL.nil ?_)
            all_goals (repeat' (with_reducible first | refine thenP_n ?_ | refine blockP_n ?_))
            all_goals (refine WC.ret ?_)
            all_goals (repeat' (with_reducible first | refine thenP_r ?_ | refine blockP_r ?_))
            all_goals (refine retP_1 _ ⟨rfl, trivial⟩ ?_)
            all_goals (first
                        | exact ⟨by rw [cmpI, if_pos (by assumption)], rfl⟩
                        | exact ⟨by rw [cmpI, if_neg (by assumption), if_pos (by assumption)], rfl⟩
                        | exact ⟨by rw [cmpI, if_neg (by assumption), if_neg (by assumption)], rfl⟩)
            skip))
       all_goals (first
         | (fail_if_success (refine Br.mk (i := 4) ?_))
         | (refine Br.mk (i := 4) ?_
            all_goals (refine WC.skip ?_)
            skip))
       all_goals (repeat' (with_reducible first | refine thenP_n ?_ | refine blockP_n ?_))
       all_goals (refine WC.seq ?_)
       all_goals (refine WC.region ?_)
       all_goals (refine WL.step (ok_assign rfl) rfl rfl rfl ?_)
       all_goals (refine WL.nil ?_)
       all_goals (repeat' (with_reducible first | refine thenP_n ?_ | refine blockP_n ?_))
       all_goals (refine WC.ret ?_)
       all_goals (repeat' (with_reducible first | refine thenP_r ?_ | refine blockP_r ?_))
       all_goals (refine retP_1 _ ⟨rfl, trivial⟩ ?_)
       all_goals (first
                   | exact ⟨by rw [cmpI, if_pos (by assumption)], rfl⟩
                   | exact ⟨by rw [cmpI, if_neg (by assumption), if_pos (by assumption)], rfl⟩
                   | exact ⟨by rw [cmpI, if_neg (by assumption), if_neg (by assumption)], rfl⟩)
       skip))
  all_goals (first
    | (fail_if_success (refine Br.mk (i := 2) ?_))
    | (refine Br.mk (i := 2) ?_
       all_goals (refine WC.skip ?_)
       skip))
  all_goals (repeat' (with_reducible first | refine thenP_n ?_ | refine blockP_n ?_))
  all_goals (refine WC.seq ?_)
  all_goals (refine WC.seq ?_)
  all_goals (refine WC.region ?_)
  all_goals (refine WL.step (ok_move rfl) rfl rfl rfl ?_)
  all_goals (refine WL.nil ?_)
  all_goals (repeat' (with_reducible first | refine thenP_n ?_ | refine blockP_n ?_))
  all_goals (first | refine WC.condB_t 5 rfl ?_ | refine WC.condB_f 6 rfl ?_ | (refine WC.condB 5 6 rfl (fun hb => ?_) (fun hb => ?_) <;> (first | replace hb := of_decide_eq_true hb | replace hb := of_decide_eq_false hb | replace hb := of_decide_eq_false (nt hb) | replace hb := of_decide_eq_true (nf hb) | skip)))
  all_goals (first
    | (fail_if_success (refine Br.mk (i := 5) ?_))
    | (refine Br.mk (i := 5) ?_
       all_goals (refine WC.seq ?_)
       all_goals (refine WC.region ?_)
       all_goals (refine WL.step (ok_assign rfl) rfl rfl rfl ?_)
       all_goals (refine WL.nil ?_)
       all_goals (repeat' (with_reducible first | refine thenP_n ?_ | refine blockP_n ?_))
       all_goals (refine WC.sub [(4, _)] ⟨rfl, trivial⟩ ?_)
       all_goals (refine WC.ret ?_)
       all_goals (repeat' (with_reducible first | refine thenP_r ?_ | refine blockP_r ?_))
       all_goals (refine retP_1 _ ⟨rfl, trivial⟩ ?_)
       all_goals (first
                   | exact ⟨by rw [cmpI, if_pos (by assumption)], rfl⟩
                   | exact ⟨by rw [cmpI, if_neg (by assumption), if_pos (by assumption)], rfl⟩
                   | exact ⟨by rw [cmpI, if_neg (by assumption), if_neg (by assumption)], rfl⟩)
       skip))
  all_goals (first
    | (fail_if_success (refine Br.mk (i := 6) ?_))
    | (refine Br.mk (i := 6) ?_
       all_goals (refine WC.skip ?_)
       skip))
  all_goals (repeat' (with_reducible first | refine thenP_n ?_ | refine blockP_n ?_))
  all_goals (refine WC.sub [(0, _), (1, _)] ⟨rfl, rfl, trivial⟩ ?_)
  all_goals (refine WC.seq ?_)
  all_goals (refine WC.seq ?_)
  all_goals (refine WC.region ?_)
  all_goals (refine WL.step (ok_move rfl) rfl rfl rfl ?_)
  all_goals (refine WL.step (ok_move rfl) rfl rfl rfl ?_)
  all_goals (first | (refine WL.step (OkP.bool_t (by omega) (ok_lss rfl rfl)) rfl rfl rfl ?_) | (refine WL.step (OkP.bool_f (by omega) (ok_lss rfl rfl)) rfl rfl rfl ?_) | (refine WL.step (ok_lss rfl rfl) rfl rfl rfl ?_))
  all_goals (refine WL.nil ?_)
  all_goals (repeat' (with_reducible first | refine thenP_n ?_ | refine blockP_n ?_))
  all_goals (first | refine WC.condB_t 7 rfl ?_ | refine WC.condB_f 8 rfl ?_ | (refine WC.condB 7 8 rfl (fun hb => ?_) (fun hb => ?_) <;> (first | replace hb := of_decide_eq_true hb | replace hb := of_decide_eq_false hb | replace hb := of_decide_eq_false (nt hb) | replace hb := of_decide_eq_true (nf hb) | skip)))
  all_goals (first
    | (fail_if_success (refine Br.mk (i := 7) ?_))
    | (refine Br.mk (i := 7) ?_
       all_goals (refine WC.seq ?_)
       all_goals (refine WC.region ?_)
       all_goals (refine WL.step (ok_assign rfl) rfl rfl rfl ?_)
       all_goals (refine WL.nil ?_)
       all_goals (repeat' (with_reducible first | refine thenP_n ?_ | refine blockP_n ?_))
       all_goals (refine WC.sub [(4, _)] ⟨rfl, trivial⟩ ?_)
       all_goals (refine WC.ret ?_)
       all_goals (repeat' (with_reducible first | refine thenP_r ?_ | refine blockP_r ?_))
       all_goals (refine retP_1 _ ⟨rfl, trivial⟩ ?_)
       all_goals (first
                   | exact ⟨by rw [cmpI, if_pos (by assumption)], rfl⟩
                   | exact ⟨by rw [cmpI, if_neg (by assumption), if_pos (by assumption)], rfl⟩
                   | exact ⟨by rw [cmpI, if_neg (by assumption), if_neg (by assumption)], rfl⟩)
       skip))
  all_goals (first
    | (fail_if_success (refine Br.mk (i := 8) ?_))
    | (refine Br.mk (i := 8) ?_
       all_goals (refine WC.skip ?_)
       skip))
  all_goals (repeat' (with_reducible first | refine thenP_n ?_ | refine blockP_n ?_))
  all_goals (refine WC.seq ?_)
  all_goals (refine WC.seq ?_)
  all_goals (refine WC.region ?_)
  all_goals (refine WL.step (ok_move rfl) rfl rfl rfl ?_)
  all_goals (refine WL.step (ok_move rfl) rfl rfl rfl ?_)
  all_goals (first | (refine WL.step (OkP.bool_t (by omega) (ok_gtr rfl rfl)) rfl rfl rfl ?_) | (refine WL.step (OkP.bool_f (by omega) (ok_gtr rfl rfl)) rfl rfl rfl ?_) | (refine WL.step (ok_gtr rfl rfl) rfl rfl rfl ?_))
  all_goals (refine WL.nil ?_)
  all_goals (repeat' (with_reducible first | refine thenP_n ?_ | refine blockP_n ?_))
  all_goals (refine WC.sub [(19, _)] ⟨rfl, trivial⟩ ?_)
  all_goals (first | refine WC.condB_t 9 rfl ?_ | refine WC.condB_f 10 rfl ?_ | (refine WC.condB 9 10 rfl (fun hb => ?_) (fun hb => ?_) <;> (first | replace hb := of_decide_eq_true hb | replace hb := of_decide_eq_false hb | replace hb := of_decide_eq_false (nt hb) | replace hb := of_decide_eq_true (nf hb) | skip)))
  all_goals (first
    | (fail_if_success (refine Br.mk (i := 9) ?_))
    | (refine Br.mk (i := 9) ?_
       all_goals (refine WC.seq ?_)
       all_goals (refine WC.region ?_)
       all_goals (refine WL.step (ok_assign rfl) rfl rfl rfl ?_)
       all_goals (refine WL.nil ?_)
       all_goals (repeat' (with_reducible first | refine thenP_n ?_ | refine blockP_n ?_))
       all_goals (refine WC.ret ?_)
       all_goals (repeat' (with_reducible first | refine thenP_r ?_ | refine blockP_r ?_))
       all_goals (refine retP_1 _ ⟨rfl, trivial⟩ ?_)
       all_goals (first
                   | exact ⟨by rw [cmpI, if_pos (by assumption)], rfl⟩
                   | exact ⟨by rw [cmpI, if_neg (by assumption), if_pos (by assumption)], rfl⟩
                   | exact ⟨by rw [cmpI, if_neg (by assumption), if_neg (by assumption)], rfl⟩)
       skip))
  all_goals (first
    | (fail_if_success (refine Br.mk (i := 10) ?_))
    | (refine Br.mk (i := 10) ?_
       all_goals (refine WC.skip ?_)
       skip))
  all_goals (repeat' (with_reducible first | refine thenP_n ?_ | refine blockP_n ?_))
  all_goals (refine WC.seq ?_)
  all_goals (refine WC.region ?_)
  all_goals (refine WL.step (ok_assign rfl) rfl rfl rfl ?_)
  all_goals (refine WL.nil ?_)
  all_goals (repeat' (with_reducible first | refine thenP_n ?_ | refine blockP_n ?_))
  all_goals (refine WC.ret ?_)
  all_goals (repeat' (with_reducible first | refine thenP_r ?_ | refine blockP_r ?_))
  all_goals (refine retP_1 _ ⟨rfl, trivial⟩ ?_)
  all_goals (first
              | exact ⟨by rw [cmpI, if_pos (by assumption)], rfl⟩
              | exact ⟨by rw [cmpI, if_neg (by assumption), if_pos (by assumption)], rfl⟩
              | exact ⟨by rw [cmpI, if_neg (by assumption), if_neg (by assumption)], rfl⟩)
set_option maxRecDepth 100000 in
theorem cmp_fn {h : Heap} (x y : Cn) : CallsH Try.prog 53 ⟨[.agg ⟨cnC x⟩, .agg ⟨cnC y⟩]⟩ h fun u h' => u = .int .i64 (cmpI x.1 y.1) ∧ Ext No h h' := by
  obtain ⟨a, b⟩ := x
  obtain ⟨c, d⟩ := y
  dsimp only [cnC]
  refine calls [(0, _), (1, _)] Try.func53 rfl Try.ntmps53 rfl ⟨rfl, rfl, trivial⟩ ?_
  all_goals (refine WC.seq ?_)
  all_goals (refine WC.region ?_)
  all_goals (refine WL.stepR (okE_box rfl) rfl rfl rfl ?_
             rintro _ h1 ⟨b1, rfl, hg1, hb1, hx1⟩)
  all_goals (refine WL.stepR (okE_box rfl) rfl rfl rfl ?_
             rintro _ h2 ⟨b2, rfl, hg2, hb2, hx2⟩)
  all_goals (have hb12 := hx2.obj hb1 nos)
  all_goals (refine WL.step (ok_assign rfl) rfl rfl rfl ?_)
  all_goals (refine WL.nil ?_)
  all_goals (repeat' (with_reducible first | refine thenP_n ?_ | refine blockP_n ?_))
  all_goals (refine WC.seq ?_)
  all_goals (refine WC.region ?_)
  all_goals (refine WL.step (ok_fieldAddr rfl Try.underlying54 rfl (fun w => Try.sizeOf3 w)) rfl rfl rfl ?_)
  all_goals (refine WL.step (ok_load (fun w => Try.isAgg3 w) rfl (by first | assumption | exact cell_blk (by assumption) rfl)) rfl rfl rfl ?_)
  all_goals (refine WL.step (ok_fieldAddr rfl Try.underlying54 rfl (fun w => Try.sizeOf3 w)) rfl rfl rfl ?_)
  all_goals (refine WL.step (ok_load (fun w => Try.isAgg3 w) rfl (by first | assumption | exact cell_blk (by assumption) rfl)) rfl rfl rfl ?_)
  all_goals (refine WL.call (vs := [_, _]) rfl (fun a w => Try.call54 a w) rfl (cmp_int a c) rfl rfl rfl ?_
             rintro _ hz ⟨rfl, _⟩
             subst hz)
  all_goals (refine WL.step (ok_assign rfl) rfl rfl rfl ?_)
  all_goals (refine WL.nil ?_)
  all_goals (repeat' (with_reducible first | refine thenP_n ?_ | refine blockP_n ?_))
  all_goals (refine WC.sub [(4, _)] ⟨rfl, trivial⟩ ?_)
  all_goals (refine WC.ret ?_)
  all_goals (repeat' (with_reducible first | refine thenP_r ?_ | refine blockP_r ?_))
  all_goals (refine retP_1 _ ⟨rfl, trivial⟩ ?_)
  all_goals (exact ⟨rfl, hx1.trans hx2⟩)
theorem swo_cmp : Go.Sort.SWO (ltOf fun x y : Cn => cmpI x.1 y.1) := by
  have key : ∀ x y : Cn, ltOf (fun x y : Cn => cmpI x.1 y.1) x y = decide (x.1 < y.1) := by
    intro x y
    unfold ltOf cmpI
    refine decide_eq_decide.2 ?_
    dsimp only
    split
    · omega
    · split <;> omega
  constructor
  · intro x
    rw [key]
    exact decide_eq_false (by omega)
  · intro x y z
    rw [key, key, key, decide_eq_true_eq, decide_eq_true_eq, decide_eq_true_eq]
    omega
  · intro x y z
    rw [key, key, key, decide_eq_false_iff_not, decide_eq_false_iff_not, decide_eq_false_iff_not]
    omega
def posL (M : List Cn) : List Cn := M.filter fun p => decide (0 < p.1)
theorem posL_snoc (M : List Cn) (q : Cn) : posL (M ++ [q]) = if 0 < q.1 then posL M ++ [q] else posL M := by
  unfold posL
  rw [List.filter_append]
  by_cases h : 0 < q.1 <;> simp [h]
theorem posL_len (M : List Cn) : (posL M).length ≤ M.length := List.length_filter_le _ _
theorem enc_mem {E : List Cn} {p : Int × Value} (h : p ∈ encK In E) : ∃ q ∈ E, p = (q.1, In q.2) := by
  obtain ⟨q, hq, rfl⟩ := List.mem_map.1 h
  exact ⟨q, hq, rfl⟩
theorem enc_mem' {E : List Cn} {q : Cn} (h : (q.1, In q.2) ∈ encK In E) : q ∈ E := by
  obtain ⟨r, hr, e⟩ := List.mem_map.1 h
  simp only [Prod.mk.injEq, Value.int.injEq, true_and] at e
  rw [show q = r from Prod.ext e.1.symm e.2.symm]
  exact hr
theorem cnt_of {l : List Int} {M L : List Cn} (hp : (encK In M).Perm (encK In (tallyL l))) (hL : L.Perm (posL M)) (hs : L.Pairwise fun x y => ¬ cmpI y.1 x.1 < 0) : IsCnt l L := by
  have hmem : ∀ q, q ∈ M ↔ q ∈ tallyL l := fun q => ⟨fun h => enc_mem' (hp.mem_iff.1 (List.mem_map.2 ⟨q, h, rfl⟩)), fun h => enc_mem' (hp.mem_iff.2 (List.mem_map.2 ⟨q, h, rfl⟩))⟩
  have hnd : (M.map (·.1)).Nodup := by
    have h1 := hp.map (·.1)
    rw [encK_keys, encK_keys] at h1
    exact h1.symm.nodup (tally_nd l)
  have hndL : (L.map (·.1)).Nodup := (hL.map (·.1)).symm.nodup (hnd.sublist (List.Sublist.map _ List.filter_sublist))
  refine ⟨fun p => ?_, ?_⟩
  · rw [hL.mem_iff]
    unfold posL
    rw [List.mem_filter, hmem, decide_eq_true_eq]
    constructor
    · rintro ⟨h1, h2⟩
      have h3 := getK_of (tally_nd l) (show (p.1, p.2) ∈ tallyL l from h1)
      rw [tally_get] at h3
      by_cases hi : p.1 ∈ l
      · rw [if_pos hi] at h3
        exact ⟨h2, hi, (Option.some.inj h3).symm⟩
      · rw [if_neg hi] at h3
        cases h3
    · rintro ⟨h1, h2, h3⟩
      refine ⟨?_, h1⟩
      have h4 := tally_get l p.1
      rw [if_pos h2, ← h3] at h4
      exact getK_mem h4
  · have hnd2 : L.Pairwise fun a b => a.1 ≠ b.1 := by
      have := hndL
      rw [List.Nodup, List.pairwise_map] at this
      exact this
    refine (hs.and hnd2).imp fun {a b} h => ?_
    obtain ⟨h1, h2⟩ := h
    unfold cmpI at h1
    rcases Int.lt_trichotomy a.1 b.1 with h | h | h
    · exact h
    · exact absurd h h2
    · rw [if_pos h] at h1; omega
/-- A new row of counts. -/
def NewC (h : Heap) (u : Value) (L : List Cn) (h' : Heap) : Prop := Own h' u 54 2 L.length (L.flatMap cnC) ∧ Ext No h h' ∧ ∀ k, u.ownBlock = some k → h.size ≤ k
set_option maxHeartbeats 1000000 in
set_option maxRecDepth 100000 in
theorem counted_v {h : Heap} (V : VW) (ok : V.ok h) (f : Few V) : CallsH Try.prog 29 ⟨[.agg ⟨V.cells⟩]⟩ h fun u h' => ∃ L, IsCnt (idsV V) L ∧ L.length ≤ 4000 ∧ NewC h u L h' := by
  have hlen := idsV_len f
  have htl := tally_le (idsV V)
  obtain ⟨A1, c1, A2, c2, A3, c3, A4, c4, e1, e2, e3, e4⟩ := ok.slices
  have hids := fun h' (hx : Ext No h h') => tally_v V (ok.ext0 hx) f
  unfold VW.cells at hids ⊢
  rw [e1, e2, e3, e4] at hids ⊢
  refine calls [(0, _)] Try.func29 rfl Try.ntmps29 rfl ⟨rfl, trivial⟩ ?_
  all_goals (refine WC.seq ?_)
  all_goals (refine WC.region ?_)
  all_goals (refine WL.stepR (okE_box rfl) rfl rfl rfl ?_
             rintro _ h1 ⟨b1, rfl, hg1, hb1, hx1⟩)
  all_goals (refine WL.step (ok_assign rfl) rfl rfl rfl ?_)
  all_goals (refine WL.nil ?_)
  all_goals (repeat' (with_reducible first | refine thenP_n ?_ | refine blockP_n ?_))
  all_goals (refine WC.seq ?_)
  all_goals (refine WC.region ?_)
  all_goals (refine WL.step (ok_assign rfl) rfl rfl rfl ?_)
  all_goals (refine WL.nil ?_)
  all_goals (repeat' (with_reducible first | refine thenP_n ?_ | refine blockP_n ?_))
  all_goals (refine WC.seq ?_)
  all_goals (refine WC.seq ?_)
  all_goals (refine WC.region ?_)
  all_goals (refine WL.step (ok_loadN (fun w => Try.isAgg46 w) (fun w => Try.sizeOf46 w) rfl rfl (by exact At.of_block hb1)) rfl rfl rfl ?_)
  all_goals (refine WL.call (vs := [_]) rfl (fun a w => Try.call49 a w) rfl (hids _ hx1) rfl rfl rfl ?_
             rintro _ h2 ⟨m, rfl, hm2, hx2, hgm⟩)
  all_goals (have hX2 := hx1.trans hx2
             have hs2 := hX2.size
             have hml := hm2.lt)
  all_goals (refine WL.stepR (okE_range Try.underlying25 rfl (by assumption)) rfl rfl rfl ?_
             rintro _ h3 ⟨r1, rfl, hgr1, hit3, hx3⟩)
  all_goals (have hs3 := hx3.size
             have hX3 := hX2.trans hx3)
  all_goals (refine WL.nil ?_)
  all_goals (repeat' (with_reducible first | refine thenP_n ?_ | refine blockP_n ?_))
  all_goals (refine WC.sub [(3, _), (8, _)] ⟨rfl, rfl, trivial⟩ ?_)
  all_goals (refine WC.block ?_)
  -- loop 0: slots that turn [3], that stay [8]
  all_goals (refine WC.loopG (X := Value × List Cn) (fun x => ([(3, x.1)] : Fr)) [(8, _)] (fun x h' => It In h' r1 m (encK In (tallyL (idsV V))) (encK In x.2) ∧ Own h' x.1 54 2 (posL x.2).length ((posL x.2).flatMap cnC) ∧ Ext (fun k => k = r1) h3 h' ∧ ∀ k, x.1.ownBlock = some k → h3.size ≤ k) (fun x => (idsV V).length - x.2.length) ((.slice none 0 0, [])) ⟨rfl, rfl, trivial⟩ (by exact ⟨hit3, Own.nil _ _ _, .refl _ _, by simp [Value.ownBlock]⟩) ?_)
  all_goals (rintro ⟨v4, M⟩ h4 ⟨hit4, ho4, hx4, hf4⟩
             simp only at hit4 ho4 hf4
             have hdl := sub_len hit4.nd hit4.sub
             rw [encK_len, encK_len] at hdl
             have hpl := posL_len M
             have hs4 := hx4.size
             have hrlt := hit3.lt)
  all_goals (refine WC.sub [(3, _), (8, _)] ⟨rfl, rfl, trivial⟩ ?_)
  all_goals (dsimp only)
  all_goals (refine WC.seq ?_)
  all_goals (refine WC.region ?_)
  all_goals (refine WL.stepR (okE_next keyI rfl hit4) rfl rfl rfl ?_
             rintro v h5 (⟨rfl, hz, hperm⟩ | ⟨p, rfl, hp5, hnp, hit5, hil5, hx5⟩))
  all_goals (try subst h5)
  all_goals (refine WL.step (ok_extract rfl rfl) rfl rfl rfl ?_)
  all_goals (refine WL.nil ?_)
  all_goals (repeat' (with_reducible first | refine thenP_n ?_ | refine blockP_n ?_))
  all_goals (refine WC.seq ?_)
  all_goals (first | refine WC.condB_t 1 rfl ?_ | refine WC.condB_f 2 rfl ?_ | (refine WC.condB 1 2 rfl (fun hb => ?_) (fun hb => ?_) <;> (first | replace hb := of_decide_eq_true hb | replace hb := of_decide_eq_false hb | replace hb := of_decide_eq_false (nt hb) | replace hb := of_decide_eq_true (nf hb) | skip)))
  all_goals (first
    | (fail_if_success (refine Br.mk (i := 1) ?_))
    | (refine Br.mk (i := 1) ?_
       all_goals (refine WC.skip ?_)
       skip))
  all_goals (first
    | (fail_if_success (refine Br.mk (i := 2) ?_))
    | (refine Br.mk (i := 2) ?_
       all_goals (refine WC.exit ?_)
       all_goals (repeat' (with_reducible first | refine thenP_x ?_ | refine blockP_miss rfl ?_ | refine blockP_hit ?_ | refine blockP_n ?_ | refine thenP_n ?_))
       all_goals (refine Br.out (i := 1000) ?_)
       skip))
  all_goals (first | (refine Br.keep ?_) | (repeat' (with_reducible first | refine thenP_n ?_ | refine blockP_n ?_)))
  all_goals (first | (refine Br.keep ?_) | (refine WC.block ?_))
  all_goals (first | (refine Br.keep ?_) | (refine WC.seq ?_))
  all_goals (first | (refine Br.keep ?_) | (refine WC.region ?_))
  all_goals (first
               | (refine Br.keep ?_)
               | (obtain ⟨⟨qi, qn⟩, hq, rfl⟩ := enc_mem hp5
                  have hit5' : It In h5 r1 m (encK In (tallyL (idsV V))) (encK In (M ++ [(qi, qn)])) := by simpa [encK] using hit5
                  have hd5 := sub_len hit5'.nd hit5'.sub
                  rw [encK_len, encK_len, List.length_append] at hd5
                  simp only [List.length_cons, List.length_nil] at hd5))
  all_goals (first | (refine Br.keep ?_) | (refine WL.step (ok_entry rfl hil5) rfl rfl rfl ?_))
  all_goals (first | (refine Br.keep ?_) | (refine WL.step (ok_extract rfl rfl) rfl rfl rfl ?_))
  all_goals (first | (refine Br.keep ?_) | (refine WL.step (ok_extract rfl rfl) rfl rfl rfl ?_))
  all_goals (first | (refine Br.keep ?_) | (refine WL.step (ok_assign rfl) rfl rfl rfl ?_))
  all_goals (first | (refine Br.keep ?_) | (refine WL.step (ok_assign rfl) rfl rfl rfl ?_))
  all_goals (first | (refine Br.keep ?_) | (refine WL.nil ?_))
  all_goals (first | (refine Br.keep ?_) | (repeat' (with_reducible first | refine thenP_n ?_ | refine blockP_n ?_)))
  all_goals (first | (refine Br.keep ?_) | (refine WC.sub [(3, _), (4, _), (5, _), (8, _)] ⟨rfl, rfl, rfl, rfl, trivial⟩ ?_))
  all_goals (first | (refine Br.keep ?_) | (refine WC.seq ?_))
  all_goals (first | (refine Br.keep ?_) | (refine WC.region ?_))
  all_goals (first | (refine Br.keep ?_) | (refine WL.step (ok_move rfl) rfl rfl rfl ?_))
  all_goals (first | (refine Br.keep ?_) | (first | (refine WL.step (OkP.bool_t (by omega) (ok_gtr rfl rfl)) rfl rfl rfl ?_) | (refine WL.step (OkP.bool_f (by omega) (ok_gtr rfl rfl)) rfl rfl rfl ?_) | (refine WL.step (ok_gtr rfl rfl) rfl rfl rfl ?_)))
  all_goals (first | (refine Br.keep ?_) | (refine WL.nil ?_))
  all_goals (first | (refine Br.keep ?_) | (repeat' (with_reducible first | refine thenP_n ?_ | refine blockP_n ?_)))
  all_goals (first | (refine Br.keep ?_) | (first | refine WC.condB_t 3 rfl ?_ | refine WC.condB_f 4 rfl ?_ | (refine WC.condB 3 4 rfl (fun hb => ?_) (fun hb => ?_) <;> (first | replace hb := of_decide_eq_true hb | replace hb := of_decide_eq_false hb | replace hb := of_decide_eq_false (nt hb) | replace hb := of_decide_eq_true (nf hb) | skip))))
  all_goals (first
    | (fail_if_success (refine Br.mk (i := 3) ?_))
    | (refine Br.mk (i := 3) ?_
       all_goals (refine WC.region ?_)
       all_goals (refine WL.step (ok_move rfl) rfl rfl rfl ?_)
       all_goals (refine WL.step (ok_move rfl) rfl rfl rfl ?_)
       all_goals (refine WL.step (ok_move rfl) rfl rfl rfl ?_)
       all_goals (refine WL.step (ok_buildF (vs := [_, _]) (cs := [_, _]) (fun | [a0, a1] => [a0, a1] | _ => []) rfl rfl (by kernel_rfl)) rfl rfl rfl ?_)
       all_goals (refine WL.stepR (okE_buildSlice (vs := [_]) (cs := [_, _]) (fun | [.agg ⟨[a0, a1]⟩] => [a0, a1] | _ => []) Try.underlying44 rfl rfl (by kernel_rfl)) rfl rfl rfl ?_
                  rintro _ h6 ⟨b6, rfl, hg6, hb6, hx6⟩)
       all_goals (refine WL.stepR (ok_append (sz := 2) (bytes := 16) rfl Try.underlying44 (show Try.prog.info? 54 = some Try.t54 by kernel_rfl) rfl rfl rfl rfl (by decide) rfl rfl ((ho4.ext hx5 (fun k hk e => by have := hf4 k hk; omega)).ext hx6 (fun _ _ => nos)) (rd_blk hb6 rfl) (cnC_one (qi, qn)) (by simp only [maxLen]; omega) (by omega)) rfl rfl rfl ?_
                  rintro v7 h7 ⟨ho7, hx7, hl7⟩)
       all_goals (refine WL.step (ok_assign rfl) rfl rfl rfl ?_)
       all_goals (refine WL.nil ?_)
       skip))
  all_goals (first
    | (fail_if_success (refine Br.mk (i := 4) ?_))
    | (refine Br.mk (i := 4) ?_
       all_goals (refine WC.skip ?_)
       skip))
  all_goals (first | (refine Br.keep ?_) | (repeat' (with_reducible first | refine thenP_n ?_ | refine blockP_n ?_)))
  all_goals (first
               | (refine Br.keep ?_)
               | (exact ⟨(_, M ++ [(qi, qn)]), ⟨rfl, rfl, trivial⟩, (by first
                   | exact ⟨hit5'.ext ((hx6.mono fun _ _ e => e.elim).trans hx7) (fun e => by have := hf4 _ e; omega) (fun e => by have := hf4 _ e; omega), by rw [posL_snoc, if_pos (by assumption)]; simpa [cnC] using ho7, (hx4.trans (hx5.trans' hx6 fun _ _ e => e.elim)).trans' hx7 (fun q hq e => by have := hf4 q e; omega), fresh_of hl7 hf4 (by have := hx5.size; have := hx6.size; omega)⟩
                   | exact ⟨hit5', by rw [posL_snoc, if_neg (by assumption)]; exact ho4.ext hx5 (fun k hk e => by have := hf4 k hk; omega), hx4.trans hx5, hf4⟩), (by simp; omega)⟩))
  all_goals (try (refine Br.mk (i := 1000) ?_))
  all_goals (repeat' (with_reducible first | refine thenP_n ?_ | refine blockP_n ?_))
  all_goals (refine WC.seq ?_)
  all_goals (refine WC.region ?_)
  all_goals (refine WL.step (ok_move rfl) rfl rfl rfl ?_)
  all_goals (refine WL.call (vs := [_, _]) rfl (fun a w => Try.call52 a w) rfl (sortFuncN Try.sortFC (fun w => Try.isAgg54 w) (fun w => Try.sizeOf54 w) cnC cnC_len cnC_one (fun x y => cmpI x.1 y.1) swo_cmp 53 [] (posL M) ho4 (by omega) (fun a w => Try.call53 a w) (fun h' hx' x y => cmp_fn x y)) rfl rfl rfl ?_
             rintro _ h5 ⟨rfl, L, hpl5, hsl5, ho5, hx5⟩)
  all_goals (have hLl := hpl5.length_eq
             rw [← hLl] at ho5)
  all_goals (refine WL.nil ?_)
  all_goals (repeat' (with_reducible first | refine thenP_n ?_ | refine blockP_n ?_))
  all_goals (refine WC.sub [(3, _)] ⟨rfl, trivial⟩ ?_)
  all_goals (refine WC.seq ?_)
  all_goals (refine WC.region ?_)
  all_goals (refine WL.step (ok_move rfl) rfl rfl rfl ?_)
  all_goals (refine WL.step (ok_assign rfl) rfl rfl rfl ?_)
  all_goals (refine WL.nil ?_)
  all_goals (repeat' (with_reducible first | refine thenP_n ?_ | refine blockP_n ?_))
  all_goals (refine WC.ret ?_)
  all_goals (repeat' (with_reducible first | refine thenP_r ?_ | refine blockP_r ?_))
  all_goals (refine retP_1 _ ⟨rfl, trivial⟩ ?_)
  all_goals (exact ⟨L, cnt_of hperm hpl5 hsl5, by omega, ho5, (hX3.trans' hx4 (fun q hq e => by omega)).trans' hx5 (fun q hq e => by have := hf4 q e; omega), fun k hk => by have := hf4 k hk; omega⟩)
end Go.Proofs.Ytfadcbbjjdmmfaa

