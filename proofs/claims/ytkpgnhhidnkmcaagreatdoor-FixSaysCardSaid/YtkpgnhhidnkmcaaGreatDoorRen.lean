/-
  TELL (layer 9): Rename, and awake.
-/
import Derived.Test.YtkpgnhhidnkmcaaGreatDoorTell
import Derived.Test.YtkpgnhhidnkmcaaGreatDoorK13
namespace Go.Proofs.YtkpgnhhidnkmcaaGreatDoor
open Go Go.RK

/-! ### in plain Lean -/
theorem miss_len (n : List UInt8) : (missL n).length ≤ n.length + 41 := by
  unfold missL
  split
  · simp
  · simp [saysL, quote_len]
theorem exis_len (n : List UInt8) : (exisL n).length = n.length + 36 := by simp [exisL, saysL, quote_len]
def swapL (text f t : List UInt8) : List UInt8 := if text = f then t else text
def renL (code text f t : List UInt8) : List UInt8 :=
  if code = ([50, 54, 48, 48, 48] : List UInt8) then swapL text (missL f) (missL t) else if code = ([52, 50, 80, 48, 53] : List UInt8) then swapL text (exisL f) (exisL t) else if code = ([48, 56, 80, 48, 49] : List UInt8) then Lib.replace text (needL f) (needL t) 1 else text
theorem replace_miss {s old new : List UInt8} (h : Lib.index s old = -1) : Lib.replace s old new 1 = s := by
  have hc : Lib.count s old = 0 := Lib.count_miss h
  unfold Lib.replace
  split
  · rfl
  · rw [Lib.replaceNum, if_pos (.inr (by rw [hc]; decide)), hc]
    rfl
theorem replace_hit {s old new : List UInt8} {i : Nat} (ho : 1 ≤ old.length) (h : Lib.index s old = i) : Lib.replace s old new 1 = s.take i ++ new ++ s.drop (i + old.length) := by
  have hroom := Lib.index_room s old (by omega)
  rw [h] at hroom
  unfold Lib.replace
  split
  · rename_i e
    have e := eq_of_beq e
    subst e
    rcases Lib.index_spec s old with ⟨h1, _⟩ | ⟨j, h1, _, h3, _⟩
    · omega
    · have : j = i := by omega
      subst this
      have h4 : old <+: s.drop j := by simpa [Lib.occAt] using h3
      obtain ⟨r, hr⟩ := h4
      conv => lhs; rw [← List.take_append_drop j s, ← hr]
      rw [← List.drop_drop, ← hr]
      simp
  · have hc : ¬ Lib.count s old = 0 := by
      have hb := Lib.countB_hit ⟨⟨s⟩⟩ ⟨⟨old⟩⟩ i ho h
      have : Lib.countB ⟨⟨s⟩⟩ ⟨⟨old⟩⟩ = Lib.count s old := rfl
      omega
    rw [Lib.replaceNum, if_neg (by omega)]
    show Lib.replaceK old new 1 s = _
    rw [Lib.replaceK_hit old new 0 s i h]
    rfl

set_option maxRecDepth 100000 in
/-! ### the walks -/
theorem swap_any {h : Heap} (text f t : List UInt8) : CallsH Tryz.prog 73 ⟨[St text, St f, St t]⟩ h fun u h' => u = St (swapL text f t) ∧ h' = h := by
  by_cases e : text = f
  · rw [swapL, if_pos e]
    refine calls [(0, _), (1, _), (2, _)] Tryz.func73 rfl Tryz.ntmps73 rfl ⟨rfl, rfl, rfl, trivial⟩ ?_
    all_goals (refine WC.seq ?_)
    all_goals (refine WC.region ?_)
    all_goals (refine WL.step (ok_assign rfl) rfl rfl rfl ?_)
    all_goals (refine WL.nil ?_)
    all_goals (repeat' (with_reducible first | refine thenP_n ?_ | refine blockP_n ?_))
    all_goals (refine WC.seq ?_)
    all_goals (refine WC.seq ?_)
    all_goals (refine WC.region ?_)
    all_goals (refine WL.step (ok_move rfl) rfl rfl rfl ?_)
    all_goals (refine WL.step (ok_move rfl) rfl rfl rfl ?_)
    all_goals (first | (refine WL.step (OkP.bool_t (by first | rfl | assumption | decide) (ok_eqlS rfl rfl)) rfl rfl rfl ?_) | (refine WL.step (OkP.bool_f (by first | assumption | decide) (ok_eqlS rfl rfl)) rfl rfl rfl ?_) | (refine WL.step (ok_eqlS rfl rfl) rfl rfl rfl ?_))
    all_goals (refine WL.nil ?_)
    all_goals (repeat' (with_reducible first | refine thenP_n ?_ | refine blockP_n ?_))
    all_goals (refine WC.sub [(0, _), (2, _), (9, _)] ⟨rfl, rfl, rfl, trivial⟩ ?_)
    all_goals (first | refine WC.condB_t 1 rfl ?_ | refine WC.condB_f 2 rfl ?_ | (refine WC.condB 1 2 rfl (fun hb => ?_) (fun hb => ?_) <;> (first | replace hb := of_decide_eq_true hb | replace hb := of_decide_eq_false hb | replace hb := of_decide_eq_false (nt hb) | replace hb := of_decide_eq_true (nf hb) | skip)))
    all_goals (first
      | (fail_if_success (refine Br.mk (i := 1) ?_))
      | (refine Br.mk (i := 1) ?_
         all_goals (refine WC.seq ?_)
         all_goals (refine WC.region ?_)
         all_goals (refine WL.step (ok_move rfl) rfl rfl rfl ?_)
         all_goals (refine WL.step (ok_assign rfl) rfl rfl rfl ?_)
         all_goals (refine WL.nil ?_)
         all_goals (repeat' (with_reducible first | refine thenP_n ?_ | refine blockP_n ?_))
         all_goals (refine WC.sub [(6, _)] ⟨rfl, trivial⟩ ?_)
         all_goals (refine WC.ret ?_)
         all_goals (repeat' (with_reducible first | refine thenP_r ?_ | refine blockP_r ?_))
         all_goals (refine retP_1 _ ⟨rfl, trivial⟩ ?_)
         all_goals (exact ⟨rfl, rfl⟩)
         skip))
    all_goals (first
      | (fail_if_success (refine Br.mk (i := 2) ?_))
      | (refine Br.mk (i := 2) ?_
         all_goals (refine WC.skip ?_)
         skip))
    all_goals (repeat' (with_reducible first | refine thenP_n ?_ | refine blockP_n ?_))
    all_goals (refine WC.seq ?_)
    all_goals (refine WC.region ?_)
    all_goals (refine WL.step (ok_move rfl) rfl rfl rfl ?_)
    all_goals (refine WL.step (ok_assign rfl) rfl rfl rfl ?_)
    all_goals (refine WL.nil ?_)
    all_goals (repeat' (with_reducible first | refine thenP_n ?_ | refine blockP_n ?_))
    all_goals (refine WC.sub [(6, _)] ⟨rfl, trivial⟩ ?_)
    all_goals (refine WC.ret ?_)
    all_goals (repeat' (with_reducible first | refine thenP_r ?_ | refine blockP_r ?_))
    all_goals (refine retP_1 _ ⟨rfl, trivial⟩ ?_)
    all_goals (exact ⟨rfl, rfl⟩)
  · rw [swapL, if_neg e]
    refine calls [(0, _), (1, _), (2, _)] Tryz.func73 rfl Tryz.ntmps73 rfl ⟨rfl, rfl, rfl, trivial⟩ ?_
    all_goals (refine WC.seq ?_)
    all_goals (refine WC.region ?_)
    all_goals (refine WL.step (ok_assign rfl) rfl rfl rfl ?_)
    all_goals (refine WL.nil ?_)
    all_goals (repeat' (with_reducible first | refine thenP_n ?_ | refine blockP_n ?_))
    all_goals (refine WC.seq ?_)
    all_goals (refine WC.seq ?_)
    all_goals (refine WC.region ?_)
    all_goals (refine WL.step (ok_move rfl) rfl rfl rfl ?_)
    all_goals (refine WL.step (ok_move rfl) rfl rfl rfl ?_)
    all_goals (first | (refine WL.step (OkP.bool_t (by first | rfl | assumption | decide) (ok_eqlS rfl rfl)) rfl rfl rfl ?_) | (refine WL.step (OkP.bool_f (by first | assumption | decide) (ok_eqlS rfl rfl)) rfl rfl rfl ?_) | (refine WL.step (ok_eqlS rfl rfl) rfl rfl rfl ?_))
    all_goals (refine WL.nil ?_)
    all_goals (repeat' (with_reducible first | refine thenP_n ?_ | refine blockP_n ?_))
    all_goals (refine WC.sub [(0, _), (2, _), (9, _)] ⟨rfl, rfl, rfl, trivial⟩ ?_)
    all_goals (first | refine WC.condB_t 1 rfl ?_ | refine WC.condB_f 2 rfl ?_ | (refine WC.condB 1 2 rfl (fun hb => ?_) (fun hb => ?_) <;> (first | replace hb := of_decide_eq_true hb | replace hb := of_decide_eq_false hb | replace hb := of_decide_eq_false (nt hb) | replace hb := of_decide_eq_true (nf hb) | skip)))
    all_goals (first
      | (fail_if_success (refine Br.mk (i := 1) ?_))
      | (refine Br.mk (i := 1) ?_
         all_goals (refine WC.seq ?_)
         all_goals (refine WC.region ?_)
         all_goals (refine WL.step (ok_move rfl) rfl rfl rfl ?_)
         all_goals (refine WL.step (ok_assign rfl) rfl rfl rfl ?_)
         all_goals (refine WL.nil ?_)
         all_goals (repeat' (with_reducible first | refine thenP_n ?_ | refine blockP_n ?_))
         all_goals (refine WC.sub [(6, _)] ⟨rfl, trivial⟩ ?_)
         all_goals (refine WC.ret ?_)
         all_goals (repeat' (with_reducible first | refine thenP_r ?_ | refine blockP_r ?_))
         all_goals (refine retP_1 _ ⟨rfl, trivial⟩ ?_)
         all_goals (exact ⟨rfl, rfl⟩)
         skip))
    all_goals (first
      | (fail_if_success (refine Br.mk (i := 2) ?_))
      | (refine Br.mk (i := 2) ?_
         all_goals (refine WC.skip ?_)
         skip))
    all_goals (repeat' (with_reducible first | refine thenP_n ?_ | refine blockP_n ?_))
    all_goals (refine WC.seq ?_)
    all_goals (refine WC.region ?_)
    all_goals (refine WL.step (ok_move rfl) rfl rfl rfl ?_)
    all_goals (refine WL.step (ok_assign rfl) rfl rfl rfl ?_)
    all_goals (refine WL.nil ?_)
    all_goals (repeat' (with_reducible first | refine thenP_n ?_ | refine blockP_n ?_))
    all_goals (refine WC.sub [(6, _)] ⟨rfl, trivial⟩ ?_)
    all_goals (refine WC.ret ?_)
    all_goals (repeat' (with_reducible first | refine thenP_r ?_ | refine blockP_r ?_))
    all_goals (refine retP_1 _ ⟨rfl, trivial⟩ ?_)
    all_goals (exact ⟨rfl, rfl⟩)
set_option maxRecDepth 100000 in
theorem rename_any {h : Heap} (code text f t : List UInt8) (hM : Ml h) (ht : text.length ≤ 100000) (hf : f.length ≤ 10000) (hto : t.length ≤ 10000) :
    CallsH Tryz.prog 58 ⟨[St code, St text, St f, St t]⟩ h fun u h' => u = St (renL code text f t) ∧ Ext No h h' := by
  have n1 := need_len f
  have n2 := need_len t
  refine calls [(0, _), (1, _), (2, _), (3, _)] Tryz.func58 rfl Tryz.ntmps58 rfl ⟨rfl, rfl, rfl, rfl, trivial⟩ ?_
  all_goals (refine WC.seq ?_)
  all_goals (refine WC.region ?_)
  all_goals (refine WL.step (ok_assign rfl) rfl rfl rfl ?_)
  all_goals (refine WL.nil ?_)
  all_goals (repeat' (with_reducible first | refine thenP_n ?_ | refine blockP_n ?_))
  all_goals (refine WC.seq ?_)
  all_goals (refine WC.seq ?_)
  all_goals (refine WC.region ?_)
  all_goals (refine WL.step (ok_move rfl) rfl rfl rfl ?_)
  all_goals (refine WL.nil ?_)
  all_goals (repeat' (with_reducible first | refine thenP_n ?_ | refine blockP_n ?_))
  all_goals (refine WC.block ?_)
  all_goals (refine WC.seq ?_)
  all_goals (refine WC.region ?_)
  all_goals (first | (refine WL.step (OkP.bool_t (by first | rfl | assumption | decide) (ok_eqlS rfl rfl)) rfl rfl rfl ?_) | (refine WL.step (OkP.bool_f (by first | assumption | decide) (ok_eqlS rfl rfl)) rfl rfl rfl ?_) | (refine WL.step (ok_eqlS rfl rfl) rfl rfl rfl ?_))
  all_goals (refine WL.step (ok_assign rfl) rfl rfl rfl ?_)
  all_goals (refine WL.nil ?_)
  all_goals (repeat' (with_reducible first | refine thenP_n ?_ | refine blockP_n ?_))
  all_goals (first | refine WC.condB_t 1 rfl ?_ | refine WC.condB_f 2 rfl ?_ | (refine WC.condB 1 2 rfl (fun hb => ?_) (fun hb => ?_) <;> (first | replace hb := of_decide_eq_true hb | replace hb := of_decide_eq_false hb | replace hb := of_decide_eq_false (nt hb) | replace hb := of_decide_eq_true (nf hb) | skip)))
  all_goals (first
    | (fail_if_success (refine Br.mk (i := 1) ?_))
    | (refine Br.mk (i := 1) ?_
       all_goals (refine WC.seq ?_)
       all_goals (refine WC.region ?_)
       all_goals (refine WL.step (ok_move rfl) rfl rfl rfl ?_)
       all_goals (refine WL.step (ok_move rfl) rfl rfl rfl ?_)
       all_goals (refine WL.call (vs := [_]) rfl (fun a w => Tryz.call18 a w) rfl (missing_any f (by omega)) rfl rfl rfl ?_
                  rintro _ h1 ⟨rfl, hx1⟩)
       all_goals (refine WL.step (ok_move rfl) rfl rfl rfl ?_)
       all_goals (refine WL.call (vs := [_]) rfl (fun a w => Tryz.call18 a w) rfl (missing_any t (by omega)) rfl rfl rfl ?_
                  rintro _ h2 ⟨rfl, hx2⟩)
       all_goals (refine WL.call (vs := [_, _, _]) rfl (fun a w => Tryz.call73 a w) rfl (swap_any text (missL f) (missL t)) rfl rfl rfl ?_
                  rintro _ hz ⟨rfl, _⟩
                  subst hz)
       all_goals (refine WL.step (ok_assign rfl) rfl rfl rfl ?_)
       all_goals (refine WL.nil ?_)
       all_goals (repeat' (with_reducible first | refine thenP_n ?_ | refine blockP_n ?_))
       all_goals (refine WC.sub [(8, _)] ⟨rfl, trivial⟩ ?_)
       all_goals (refine WC.ret ?_)
       all_goals (repeat' (with_reducible first | refine thenP_r ?_ | refine blockP_r ?_))
       all_goals (refine retP_1 _ ⟨rfl, trivial⟩ ?_)
       all_goals (first | exact ⟨by simp [renL, *], hx1.trans hx2⟩ | exact ⟨by simp [renL, *], hx3⟩ | exact ⟨by simp [renL, *], .refl _ _⟩)
       skip))
  all_goals (first
    | (fail_if_success (refine Br.mk (i := 2) ?_))
    | (refine Br.mk (i := 2) ?_
       all_goals (refine WC.seq ?_)
       all_goals (refine WC.region ?_)
       all_goals (first | (refine WL.step (OkP.bool_t (by first | rfl | assumption | decide) (ok_eqlS rfl rfl)) rfl rfl rfl ?_) | (refine WL.step (OkP.bool_f (by first | assumption | decide) (ok_eqlS rfl rfl)) rfl rfl rfl ?_) | (refine WL.step (ok_eqlS rfl rfl) rfl rfl rfl ?_))
       all_goals (refine WL.step (ok_assign rfl) rfl rfl rfl ?_)
       all_goals (refine WL.nil ?_)
       all_goals (repeat' (with_reducible first | refine thenP_n ?_ | refine blockP_n ?_))
       all_goals (refine WC.sub [(1, _), (2, _), (3, _), (9, _), (18, _)] ⟨rfl, rfl, rfl, rfl, rfl, trivial⟩ ?_)
       all_goals (first | refine WC.condB_t 3 rfl ?_ | refine WC.condB_f 4 rfl ?_ | (refine WC.condB 3 4 rfl (fun hb => ?_) (fun hb => ?_) <;> (first | replace hb := of_decide_eq_true hb | replace hb := of_decide_eq_false hb | replace hb := of_decide_eq_false (nt hb) | replace hb := of_decide_eq_true (nf hb) | skip)))
       all_goals (first
         | (fail_if_success (refine Br.mk (i := 3) ?_))
         | (refine Br.mk (i := 3) ?_
            all_goals (refine WC.seq ?_)
            all_goals (refine WC.region ?_)
            all_goals (refine WL.step (ok_move rfl) rfl rfl rfl ?_)
            all_goals (refine WL.step (ok_move rfl) rfl rfl rfl ?_)
            all_goals (refine WL.call (vs := [_]) rfl (fun a w => Tryz.call19 a w) rfl (exists_any f (by omega)) rfl rfl rfl ?_
                       rintro _ h1 ⟨rfl, hx1⟩)
            all_goals (refine WL.step (ok_move rfl) rfl rfl rfl ?_)
            all_goals (refine WL.call (vs := [_]) rfl (fun a w => Tryz.call19 a w) rfl (exists_any t (by omega)) rfl rfl rfl ?_
                       rintro _ h2 ⟨rfl, hx2⟩)
            all_goals (refine WL.call (vs := [_, _, _]) rfl (fun a w => Tryz.call73 a w) rfl (swap_any text (exisL f) (exisL t)) rfl rfl rfl ?_
                       rintro _ hz ⟨rfl, _⟩
                       subst hz)
            all_goals (refine WL.step (ok_assign rfl) rfl rfl rfl ?_)
            all_goals (refine WL.nil ?_)
            all_goals (repeat' (with_reducible first | refine thenP_n ?_ | refine blockP_n ?_))
            all_goals (refine WC.sub [(8, _)] ⟨rfl, trivial⟩ ?_)
            all_goals (refine WC.ret ?_)
            all_goals (repeat' (with_reducible first | refine thenP_r ?_ | refine blockP_r ?_))
            all_goals (refine retP_1 _ ⟨rfl, trivial⟩ ?_)
            all_goals (first | exact ⟨by simp [renL, *], hx1.trans hx2⟩ | exact ⟨by simp [renL, *], hx3⟩ | exact ⟨by simp [renL, *], .refl _ _⟩)
            skip))
       all_goals (first
         | (fail_if_success (refine Br.mk (i := 4) ?_))
         | (refine Br.mk (i := 4) ?_
            all_goals (refine WC.seq ?_)
            all_goals (refine WC.region ?_)
            all_goals (first | (refine WL.step (OkP.bool_t (by first | rfl | assumption | decide) (ok_eqlS rfl rfl)) rfl rfl rfl ?_) | (refine WL.step (OkP.bool_f (by first | assumption | decide) (ok_eqlS rfl rfl)) rfl rfl rfl ?_) | (refine WL.step (ok_eqlS rfl rfl) rfl rfl rfl ?_))
            all_goals (refine WL.step (ok_assign rfl) rfl rfl rfl ?_)
            all_goals (refine WL.nil ?_)
            all_goals (repeat' (with_reducible first | refine thenP_n ?_ | refine blockP_n ?_))
            all_goals (first | refine WC.condB_t 5 rfl ?_ | refine WC.condB_f 6 rfl ?_ | (refine WC.condB 5 6 rfl (fun hb => ?_) (fun hb => ?_) <;> (first | replace hb := of_decide_eq_true hb | replace hb := of_decide_eq_false hb | replace hb := of_decide_eq_false (nt hb) | replace hb := of_decide_eq_true (nf hb) | skip)))
            all_goals (first
              | (fail_if_success (refine Br.mk (i := 5) ?_))
              | (refine Br.mk (i := 5) ?_
                 all_goals (refine WC.seq ?_)
                 all_goals (refine WC.region ?_)
                 all_goals (refine WL.step (ok_move rfl) rfl rfl rfl ?_)
                 all_goals (refine WL.step (ok_move rfl) rfl rfl rfl ?_)
                 all_goals (refine WL.call (vs := [_]) rfl (fun a w => Tryz.call47 a w) rfl (needs_any f (by omega)) rfl rfl rfl ?_
                            rintro _ hz ⟨rfl, _⟩
                            subst hz)
                 all_goals (refine WL.step (ok_move rfl) rfl rfl rfl ?_)
                 all_goals (refine WL.call (vs := [_]) rfl (fun a w => Tryz.call47 a w) rfl (needs_any t (by omega)) rfl rfl rfl ?_
                            rintro _ hz ⟨rfl, _⟩
                            subst hz)
                 all_goals (refine WL.call (vs := [_, _, _, _]) rfl (fun a w => Tryz.call74 a w) rfl (replace_any text (needL f) (needL t) hM ht (by omega) (by omega)) rfl rfl rfl ?_
                            rintro _ h3 ⟨rfl, hx3⟩)
                 all_goals (refine WL.step (ok_assign rfl) rfl rfl rfl ?_)
                 all_goals (refine WL.nil ?_)
                 all_goals (repeat' (with_reducible first | refine thenP_n ?_ | refine blockP_n ?_))
                 all_goals (refine WC.sub [(8, _)] ⟨rfl, trivial⟩ ?_)
                 all_goals (refine WC.ret ?_)
                 all_goals (repeat' (with_reducible first | refine thenP_r ?_ | refine blockP_r ?_))
                 all_goals (refine retP_1 _ ⟨rfl, trivial⟩ ?_)
                 all_goals (first | exact ⟨by simp [renL, *], hx1.trans hx2⟩ | exact ⟨by simp [renL, *], hx3⟩ | exact ⟨by simp [renL, *], .refl _ _⟩)
                 skip))
            all_goals (first
              | (fail_if_success (refine Br.mk (i := 6) ?_))
              | (refine Br.mk (i := 6) ?_
                 all_goals (refine WC.skip ?_)
                 skip))
            skip))
       skip))
  all_goals (repeat' (with_reducible first | refine thenP_n ?_ | refine blockP_n ?_))
  all_goals (refine WC.sub [(1, _)] ⟨rfl, trivial⟩ ?_)
  all_goals (refine WC.seq ?_)
  all_goals (refine WC.region ?_)
  all_goals (refine WL.step (ok_move rfl) rfl rfl rfl ?_)
  all_goals (refine WL.step (ok_assign rfl) rfl rfl rfl ?_)
  all_goals (refine WL.nil ?_)
  all_goals (repeat' (with_reducible first | refine thenP_n ?_ | refine blockP_n ?_))
  all_goals (refine WC.ret ?_)
  all_goals (repeat' (with_reducible first | refine thenP_r ?_ | refine blockP_r ?_))
  all_goals (refine retP_1 _ ⟨rfl, trivial⟩ ?_)
  all_goals (first | exact ⟨by simp [renL, *], hx1.trans hx2⟩ | exact ⟨by simp [renL, *], hx3⟩ | exact ⟨by simp [renL, *], .refl _ _⟩)
theorem occ_eq (s old : List UInt8) (i : Nat) : Lib.occAt s old i = decide ((s.drop i).take old.length = old) := by
  unfold Lib.occAt
  by_cases e : (s.drop i).take old.length = old
  · rw [decide_eq_true e]
    exact List.isPrefixOf_iff_prefix.2 (by rw [← e]; exact List.take_prefix _ _)
  · rw [decide_eq_false e]
    cases h : old.isPrefixOf (s.drop i)
    · rfl
    · obtain ⟨r, hr⟩ := List.isPrefixOf_iff_prefix.1 h
      exact absurd (by rw [← hr]; simp) e
theorem index_no {s old : List UInt8} {k : Nat} (hk : s.length < k + old.length) (hn : ∀ j, j < k → Lib.occAt s old j = false) : Lib.index s old = -1 := by
  refine Lib.index_none fun j hj => ?_
  rcases Nat.lt_or_ge j k with h | h
  · exact hn j h
  · cases e : Lib.occAt s old j
    · rfl
    · obtain ⟨r, hr⟩ := List.isPrefixOf_iff_prefix.1 e
      have := congrArg List.length hr
      simp at this
      omega
set_option maxRecDepth 100000 in
theorem rename_ref {h : Heap} (code text f t : List UInt8) (ht : text.length ≤ 100000) (hf : f.length ≤ 10000) (hto : t.length ≤ 10000) :
    CallsH Tryz.prog 38 ⟨[St code, St text, St f, St t]⟩ h fun u h' => u = St (renL code text f t) ∧ Ext No h h' := by
  have n1 := need_len f
  have n2 := need_len t
  have q1 := quote_len f
  have q2 := quote_len t
  have h25 : (([44, 32, 98, 117, 116, 32, 112, 114, 101, 112, 97, 114, 101, 100, 32, 115, 116, 97, 116, 101, 109, 101, 110, 116, 32] : List UInt8)).length = 25 := rfl
  have h10 : (([32, 114, 101, 113, 117, 105, 114, 101, 115, 32] : List UInt8)).length = 10 := rfl
  have hnd : needL f = ([44, 32, 98, 117, 116, 32, 112, 114, 101, 112, 97, 114, 101, 100, 32, 115, 116, 97, 116, 101, 109, 101, 110, 116, 32] : List UInt8) ++ quoteL f ++ ([32, 114, 101, 113, 117, 105, 114, 101, 115, 32] : List UInt8) := rfl
  refine calls [(0, _), (1, _), (2, _), (3, _)] Tryz.func38 rfl Tryz.ntmps38 rfl ⟨rfl, rfl, rfl, rfl, trivial⟩ ?_
  all_goals (refine WC.seq ?_)
  all_goals (refine WC.region ?_)
  all_goals (refine WL.step (ok_assign rfl) rfl rfl rfl ?_)
  all_goals (refine WL.nil ?_)
  all_goals (repeat' (with_reducible first | refine thenP_n ?_ | refine blockP_n ?_))
  all_goals (refine WC.seq ?_)
  all_goals (refine WC.block ?_)
  all_goals (refine WC.seq ?_)
  all_goals (refine WC.region ?_)
  all_goals (refine WL.step (ok_move rfl) rfl rfl rfl ?_)
  all_goals (first | (refine WL.step (OkP.bool_t (by first | rfl | assumption | decide) (ok_eqlS rfl rfl)) rfl rfl rfl ?_) | (refine WL.step (OkP.bool_f (by first | assumption | decide) (ok_eqlS rfl rfl)) rfl rfl rfl ?_) | (refine WL.step (ok_eqlS rfl rfl) rfl rfl rfl ?_))
  all_goals (refine WL.step (ok_move rfl) rfl rfl rfl ?_)
  all_goals (try ((fail_if_success (refine WL.part 17 (b := true) rfl (fun _ => ?_) (fun _ => ?_))); (fail_if_success (refine WL.part 17 (b := false) rfl (fun _ => ?_) (fun _ => ?_))); (refine WL.part 17 rfl (fun hb => ?_) (fun hb => ?_) <;> (first | replace hb := of_decide_eq_true hb | replace hb := of_decide_eq_false hb | replace hb := of_decide_eq_false (nt hb) | replace hb := of_decide_eq_true (nf hb) | skip))))
  all_goals (first | (refine WL.pass rfl rfl rfl ?_) | (refine WL.step (ok_move rfl) rfl rfl rfl ?_))
  all_goals (first | (refine WL.pass rfl rfl rfl ?_) | (refine WL.step (ok_move rfl) rfl rfl rfl ?_))
  all_goals (first
               | (refine WL.pass rfl rfl rfl ?_)
               | (refine WL.call (vs := [_]) rfl (fun a w => Tryz.call59 a w) rfl (missing_ref f (by omega)) rfl rfl rfl ?_
                  rintro _ h1 ⟨rfl, hx1⟩))
  all_goals (first | (refine WL.pass rfl rfl rfl ?_) | (first | (refine WL.step (OkP.bool_t (by first | rfl | assumption | decide) (ok_eqlS rfl rfl)) rfl rfl rfl ?_) | (refine WL.step (OkP.bool_f (by first | assumption | decide) (ok_eqlS rfl rfl)) rfl rfl rfl ?_) | (refine WL.step (ok_eqlS rfl rfl) rfl rfl rfl ?_)))
  all_goals (first | (refine WL.step (ok_pick_t rfl rfl) rfl rfl rfl ?_) | (refine WL.step (ok_pick_f rfl rfl) rfl rfl rfl ?_))
  all_goals (refine WL.step (ok_assign rfl) rfl rfl rfl ?_)
  all_goals (refine WL.nil ?_)
  all_goals (repeat' (with_reducible first | refine thenP_n ?_ | refine blockP_n ?_))
  all_goals (refine WC.sub [(0, _), (1, _), (2, _), (3, _), (14, _)] ⟨rfl, rfl, rfl, rfl, rfl, trivial⟩ ?_)
  all_goals (first | refine WC.condB_t 1 rfl ?_ | refine WC.condB_f 2 rfl ?_ | (refine WC.condB 1 2 rfl (fun hb => ?_) (fun hb => ?_) <;> (first | replace hb := of_decide_eq_true hb | replace hb := of_decide_eq_false hb | replace hb := of_decide_eq_false (nt hb) | replace hb := of_decide_eq_true (nf hb) | skip)))
  all_goals (first
    | (fail_if_success (refine Br.mk (i := 1) ?_))
    | (refine Br.mk (i := 1) ?_
       all_goals (refine WC.seq ?_)
       all_goals (refine WC.region ?_)
       all_goals (refine WL.step (ok_move rfl) rfl rfl rfl ?_)
       all_goals (refine WL.call (vs := [_]) rfl (fun a w => Tryz.call59 a w) rfl (missing_ref t (by omega)) rfl rfl rfl ?_
                  rintro _ h2 ⟨rfl, hx2⟩)
       all_goals (refine WL.step (ok_assign rfl) rfl rfl rfl ?_)
       all_goals (refine WL.nil ?_)
       all_goals (repeat' (with_reducible first | refine thenP_n ?_ | refine blockP_n ?_))
       all_goals (refine WC.sub [(8, _)] ⟨rfl, trivial⟩ ?_)
       all_goals (refine WC.ret ?_)
       all_goals (repeat' (with_reducible first | refine thenP_r ?_ | refine blockP_r ?_))
       all_goals (refine retP_1 _ ⟨rfl, trivial⟩ ?_)
       all_goals (first
                   | (exfalso; simp_all; done)
                   | exact ⟨by simp [renL, swapL, *], hx1.trans hx2⟩
                   | exact ⟨by simp [renL, swapL, *], hx1⟩
                   | exact ⟨by simp [renL, swapL, *], .refl _ _⟩
                   | exact ⟨by rw [show renL code text f t = Lib.replace text (needL f) (needL t) 1 by simp [renL, *], replace_miss (index_no (by omega) hn)], hx3⟩
                   | exact ⟨by rw [show renL code text f t = Lib.replace text (needL f) (needL t) 1 by simp [renL, *], replace_hit (i := k) (by omega) (Lib.index_first (by omega) (by rw [occ_eq]; exact decide_eq_true hb) hn), show needL t = ([44, 32, 98, 117, 116, 32, 112, 114, 101, 112, 97, 114, 101, 100, 32, 115, 116, 97, 116, 101, 109, 101, 110, 116, 32] : List UInt8) ++ quoteL t ++ ([32, 114, 101, 113, 117, 105, 114, 101, 115, 32] : List UInt8) from rfl, show ((k : Int) + ((needL f).length : Nat)).toNat = k + (needL f).length by omega]; simp [List.append_assoc], hx3.trans hx4⟩)
       skip))
  all_goals (first
    | (fail_if_success (refine Br.mk (i := 2) ?_))
    | (refine Br.mk (i := 2) ?_
       all_goals (refine WC.seq ?_)
       all_goals (refine WC.region ?_)
       all_goals (refine WL.step (ok_move rfl) rfl rfl rfl ?_)
       all_goals (first | (refine WL.step (OkP.bool_t (by first | rfl | assumption | decide) (ok_eqlS rfl rfl)) rfl rfl rfl ?_) | (refine WL.step (OkP.bool_f (by first | assumption | decide) (ok_eqlS rfl rfl)) rfl rfl rfl ?_) | (refine WL.step (ok_eqlS rfl rfl) rfl rfl rfl ?_))
       all_goals (refine WL.step (ok_move rfl) rfl rfl rfl ?_)
       all_goals (try ((fail_if_success (refine WL.part 28 (b := true) rfl (fun _ => ?_) (fun _ => ?_))); (fail_if_success (refine WL.part 28 (b := false) rfl (fun _ => ?_) (fun _ => ?_))); (refine WL.part 28 rfl (fun hb => ?_) (fun hb => ?_) <;> (first | replace hb := of_decide_eq_true hb | replace hb := of_decide_eq_false hb | replace hb := of_decide_eq_false (nt hb) | replace hb := of_decide_eq_true (nf hb) | skip))))
       all_goals (first | (refine WL.pass rfl rfl rfl ?_) | (refine WL.step (ok_move rfl) rfl rfl rfl ?_))
       all_goals (first | (refine WL.pass rfl rfl rfl ?_) | (refine WL.step (ok_move rfl) rfl rfl rfl ?_))
       all_goals (first
                    | (refine WL.pass rfl rfl rfl ?_)
                    | (refine WL.call (vs := [_]) rfl (fun a w => Tryz.call60 a w) rfl (exists_ref f (by omega)) rfl rfl rfl ?_
                       rintro _ h1 ⟨rfl, hx1⟩))
       all_goals (first | (refine WL.pass rfl rfl rfl ?_) | (first | (refine WL.step (OkP.bool_t (by first | rfl | assumption | decide) (ok_eqlS rfl rfl)) rfl rfl rfl ?_) | (refine WL.step (OkP.bool_f (by first | assumption | decide) (ok_eqlS rfl rfl)) rfl rfl rfl ?_) | (refine WL.step (ok_eqlS rfl rfl) rfl rfl rfl ?_)))
       all_goals (first | (refine WL.step (ok_pick_t rfl rfl) rfl rfl rfl ?_) | (refine WL.step (ok_pick_f rfl rfl) rfl rfl rfl ?_))
       all_goals (refine WL.step (ok_assign rfl) rfl rfl rfl ?_)
       all_goals (refine WL.nil ?_)
       all_goals (repeat' (with_reducible first | refine thenP_n ?_ | refine blockP_n ?_))
       all_goals (refine WC.sub [(0, _), (1, _), (2, _), (3, _), (25, _)] ⟨rfl, rfl, rfl, rfl, rfl, trivial⟩ ?_)
       all_goals (first | refine WC.condB_t 3 rfl ?_ | refine WC.condB_f 4 rfl ?_ | (refine WC.condB 3 4 rfl (fun hb => ?_) (fun hb => ?_) <;> (first | replace hb := of_decide_eq_true hb | replace hb := of_decide_eq_false hb | replace hb := of_decide_eq_false (nt hb) | replace hb := of_decide_eq_true (nf hb) | skip)))
       all_goals (first
         | (fail_if_success (refine Br.mk (i := 3) ?_))
         | (refine Br.mk (i := 3) ?_
            all_goals (refine WC.seq ?_)
            all_goals (refine WC.region ?_)
            all_goals (refine WL.step (ok_move rfl) rfl rfl rfl ?_)
            all_goals (refine WL.call (vs := [_]) rfl (fun a w => Tryz.call60 a w) rfl (exists_ref t (by omega)) rfl rfl rfl ?_
                       rintro _ h2 ⟨rfl, hx2⟩)
            all_goals (refine WL.step (ok_assign rfl) rfl rfl rfl ?_)
            all_goals (refine WL.nil ?_)
            all_goals (repeat' (with_reducible first | refine thenP_n ?_ | refine blockP_n ?_))
            all_goals (refine WC.sub [(8, _)] ⟨rfl, trivial⟩ ?_)
            all_goals (refine WC.ret ?_)
            all_goals (repeat' (with_reducible first | refine thenP_r ?_ | refine blockP_r ?_))
            all_goals (refine retP_1 _ ⟨rfl, trivial⟩ ?_)
            all_goals (first
                        | (exfalso; simp_all; done)
                        | exact ⟨by simp [renL, swapL, *], hx1.trans hx2⟩
                        | exact ⟨by simp [renL, swapL, *], hx1⟩
                        | exact ⟨by simp [renL, swapL, *], .refl _ _⟩
                        | exact ⟨by rw [show renL code text f t = Lib.replace text (needL f) (needL t) 1 by simp [renL, *], replace_miss (index_no (by omega) hn)], hx3⟩
                        | exact ⟨by rw [show renL code text f t = Lib.replace text (needL f) (needL t) 1 by simp [renL, *], replace_hit (i := k) (by omega) (Lib.index_first (by omega) (by rw [occ_eq]; exact decide_eq_true hb) hn), show needL t = ([44, 32, 98, 117, 116, 32, 112, 114, 101, 112, 97, 114, 101, 100, 32, 115, 116, 97, 116, 101, 109, 101, 110, 116, 32] : List UInt8) ++ quoteL t ++ ([32, 114, 101, 113, 117, 105, 114, 101, 115, 32] : List UInt8) from rfl, show ((k : Int) + ((needL f).length : Nat)).toNat = k + (needL f).length by omega]; simp [List.append_assoc], hx3.trans hx4⟩)
            skip))
       all_goals (first
         | (fail_if_success (refine Br.mk (i := 4) ?_))
         | (refine Br.mk (i := 4) ?_
            all_goals (refine WC.seq ?_)
            all_goals (refine WC.region ?_)
            all_goals (refine WL.step (ok_move rfl) rfl rfl rfl ?_)
            all_goals (first | (refine WL.step (OkP.nbool_f (by first | rfl | assumption | decide) (ok_neqS rfl rfl)) rfl rfl rfl ?_) | (refine WL.step (OkP.nbool_t (by first | assumption | decide) (ok_neqS rfl rfl)) rfl rfl rfl ?_) | (refine WL.step (ok_neqS rfl rfl) rfl rfl rfl ?_))
            all_goals (refine WL.step (ok_assign rfl) rfl rfl rfl ?_)
            all_goals (refine WL.nil ?_)
            all_goals (repeat' (with_reducible first | refine thenP_n ?_ | refine blockP_n ?_))
            all_goals (refine WC.sub [(1, _), (2, _), (3, _), (36, _)] ⟨rfl, rfl, rfl, rfl, trivial⟩ ?_)
            all_goals (first | refine WC.condB_t 5 rfl ?_ | refine WC.condB_f 6 rfl ?_ | (refine WC.condB 5 6 rfl (fun hb => ?_) (fun hb => ?_) <;> (first | replace hb := of_decide_eq_true hb | replace hb := of_decide_eq_false hb | replace hb := of_decide_eq_false (nt hb) | replace hb := of_decide_eq_true (nf hb) | skip)))
            all_goals (first
              | (fail_if_success (refine Br.mk (i := 5) ?_))
              | (refine Br.mk (i := 5) ?_
                 all_goals (refine WC.seq ?_)
                 all_goals (refine WC.region ?_)
                 all_goals (refine WL.step (ok_move rfl) rfl rfl rfl ?_)
                 all_goals (refine WL.step (ok_assign rfl) rfl rfl rfl ?_)
                 all_goals (refine WL.nil ?_)
                 all_goals (repeat' (with_reducible first | refine thenP_n ?_ | refine blockP_n ?_))
                 all_goals (refine WC.sub [(8, _)] ⟨rfl, trivial⟩ ?_)
                 all_goals (refine WC.ret ?_)
                 all_goals (repeat' (with_reducible first | refine thenP_r ?_ | refine blockP_r ?_))
                 all_goals (refine retP_1 _ ⟨rfl, trivial⟩ ?_)
                 all_goals (first
                             | (exfalso; simp_all; done)
                             | exact ⟨by simp [renL, swapL, *], hx1.trans hx2⟩
                             | exact ⟨by simp [renL, swapL, *], hx1⟩
                             | exact ⟨by simp [renL, swapL, *], .refl _ _⟩
                             | exact ⟨by rw [show renL code text f t = Lib.replace text (needL f) (needL t) 1 by simp [renL, *], replace_miss (index_no (by omega) hn)], hx3⟩
                             | exact ⟨by rw [show renL code text f t = Lib.replace text (needL f) (needL t) 1 by simp [renL, *], replace_hit (i := k) (by omega) (Lib.index_first (by omega) (by rw [occ_eq]; exact decide_eq_true hb) hn), show needL t = ([44, 32, 98, 117, 116, 32, 112, 114, 101, 112, 97, 114, 101, 100, 32, 115, 116, 97, 116, 101, 109, 101, 110, 116, 32] : List UInt8) ++ quoteL t ++ ([32, 114, 101, 113, 117, 105, 114, 101, 115, 32] : List UInt8) from rfl, show ((k : Int) + ((needL f).length : Nat)).toNat = k + (needL f).length by omega]; simp [List.append_assoc], hx3.trans hx4⟩)
                 skip))
            all_goals (first
              | (fail_if_success (refine Br.mk (i := 6) ?_))
              | (refine Br.mk (i := 6) ?_
                 all_goals (refine WC.skip ?_)
                 skip))
            skip))
       skip))
  all_goals (repeat' (with_reducible first | refine thenP_n ?_ | refine blockP_n ?_))
  all_goals (refine WC.seq ?_)
  all_goals (refine WC.region ?_)
  all_goals (refine WL.step (ok_move rfl) rfl rfl rfl ?_)
  all_goals (refine WL.call (vs := [_]) rfl (fun a w => Tryz.call61 a w) rfl (quote_ref f (by omega)) rfl rfl rfl ?_
             rintro _ h3 ⟨rfl, hx3⟩)
  all_goals (refine WL.step (ok_assign rfl) rfl rfl rfl ?_)
  all_goals (refine WL.step (ok_assign rfl) rfl rfl rfl ?_)
  all_goals (refine WL.step (ok_assign rfl) rfl rfl rfl ?_)
  all_goals (refine WL.nil ?_)
  all_goals (repeat' (with_reducible first | refine thenP_n ?_ | refine blockP_n ?_))
  all_goals (refine WC.sub [(1, _), (3, _), (9, _), (10, _), (11, _)] ⟨rfl, rfl, rfl, rfl, rfl, trivial⟩ ?_)
  all_goals (refine WC.seq ?_)
  all_goals (refine WC.region ?_)
  all_goals (refine WL.step (ok_move rfl) rfl rfl rfl ?_)
  all_goals (refine WL.step (ok_lenS rfl Tryz.underlying9 rfl) rfl rfl rfl ?_)
  all_goals (refine WL.step (ok_move rfl) rfl rfl rfl ?_)
  all_goals (refine WL.step (ok_lenS rfl Tryz.underlying9 rfl) rfl rfl rfl ?_)
  all_goals (first | (refine WL.step (ok_addI rfl rfl (by omega)) rfl rfl rfl ?_) | (refine WL.step (ok_add rfl rfl) rfl rfl rfl ?_))
  all_goals (refine WL.step (ok_move rfl) rfl rfl rfl ?_)
  all_goals (refine WL.step (ok_lenS rfl Tryz.underlying9 rfl) rfl rfl rfl ?_)
  all_goals (first | (refine WL.step (ok_addI rfl rfl (by omega)) rfl rfl rfl ?_) | (refine WL.step (ok_add rfl rfl) rfl rfl rfl ?_))
  all_goals (have hnn : ((([44, 32, 98, 117, 116, 32, 112, 114, 101, 112, 97, 114, 101, 100, 32, 115, 116, 97, 116, 101, 109, 101, 110, 116, 32] : List UInt8).length : Int) + (quoteL f).length) + (([32, 114, 101, 113, 117, 105, 114, 101, 115, 32] : List UInt8).length : Int) = ((needL f).length : Nat) := (by rw [hnd]; simp; omega)
             rw [hnn])
  all_goals (refine WL.step (ok_assign rfl) rfl rfl rfl ?_)
  all_goals (refine WL.nil ?_)
  all_goals (repeat' (with_reducible first | refine thenP_n ?_ | refine blockP_n ?_))
  all_goals (refine WC.sub [(1, _), (3, _), (9, _), (10, _), (11, _), (12, _)] ⟨rfl, rfl, rfl, rfl, rfl, rfl, trivial⟩ ?_)
  all_goals (refine WC.seq ?_)
  all_goals (refine WC.seq ?_)
  all_goals (refine WC.region ?_)
  all_goals (refine WL.step (ok_assign rfl) rfl rfl rfl ?_)
  all_goals (refine WL.nil ?_)
  all_goals (repeat' (with_reducible first | refine thenP_n ?_ | refine blockP_n ?_))
  all_goals (refine WC.block ?_)
  -- loop 0: slots that turn [13], that stay [1, 3, 9, 10, 11, 12]
  all_goals (refine WC.loopG (X := Nat) (fun x => ([(13, In (x : Int))] : Fr)) [(1, _), (3, _), (9, _), (10, _), (11, _), (12, _)] (fun k h' => h' = h3 ∧ k ≤ text.length + 1 ∧ ∀ j, j < k → Lib.occAt text (needL f) j = false) (fun k => text.length + 1 - k) (0) ⟨rfl, rfl, rfl, rfl, rfl, rfl, rfl, trivial⟩ (by exact ⟨rfl, Nat.zero_le _, fun j hj => absurd hj (Nat.not_lt_zero _)⟩) ?_)
  all_goals (rintro k h9 ⟨hz, hk, hn⟩
             subst h9
             have e5 : ((k : Int) + ((needL f).length : Nat)).toNat - ((k : Int)).toNat = (needL f).length := by omega)
  all_goals (refine WC.sub [(13, _), (1, _), (3, _), (9, _), (10, _), (11, _), (12, _)] ⟨rfl, rfl, rfl, rfl, rfl, rfl, rfl, trivial⟩ ?_)
  all_goals (refine WC.seq ?_)
  all_goals (refine WC.seq ?_)
  all_goals (refine WC.region ?_)
  all_goals (refine WL.step (ok_move rfl) rfl rfl rfl ?_)
  all_goals (refine WL.step (ok_move rfl) rfl rfl rfl ?_)
  all_goals (first | (refine WL.step (ok_addI rfl rfl (by omega)) rfl rfl rfl ?_) | (refine WL.step (ok_add rfl rfl) rfl rfl rfl ?_))
  all_goals (refine WL.step (ok_move rfl) rfl rfl rfl ?_)
  all_goals (refine WL.step (ok_lenS rfl Tryz.underlying9 rfl) rfl rfl rfl ?_)
  all_goals (first | (refine WL.step (OkP.bool_t (by omega) (ok_leq rfl rfl)) rfl rfl rfl ?_) | (refine WL.step (OkP.bool_f (by omega) (ok_leq rfl rfl)) rfl rfl rfl ?_) | (refine WL.step (ok_leq rfl rfl) rfl rfl rfl ?_))
  all_goals (refine WL.nil ?_)
  all_goals (repeat' (with_reducible first | refine thenP_n ?_ | refine blockP_n ?_))
  all_goals (refine WC.sub [(1, _), (3, _), (9, _), (10, _), (11, _), (12, _), (13, _), (55, _)] ⟨rfl, rfl, rfl, rfl, rfl, rfl, rfl, rfl, trivial⟩ ?_)
  all_goals (first | refine WC.condB_t 7 rfl ?_ | refine WC.condB_f 8 rfl ?_ | (refine WC.condB 7 8 rfl (fun hb => ?_) (fun hb => ?_) <;> (first | replace hb := of_decide_eq_true hb | replace hb := of_decide_eq_false hb | replace hb := of_decide_eq_false (nt hb) | replace hb := of_decide_eq_true (nf hb) | skip)))
  all_goals (first
    | (fail_if_success (refine Br.mk (i := 7) ?_))
    | (refine Br.mk (i := 7) ?_
       all_goals (refine WC.skip ?_)
       skip))
  all_goals (first
    | (fail_if_success (refine Br.mk (i := 8) ?_))
    | (refine Br.mk (i := 8) ?_
       all_goals (refine WC.exit ?_)
       all_goals (repeat' (with_reducible first | refine thenP_x ?_ | refine blockP_miss rfl ?_ | refine blockP_hit ?_ | refine blockP_n ?_ | refine thenP_n ?_))
       all_goals (refine Br.out (i := 1001) ?_)
       skip))
  all_goals (first | (refine Br.keep ?_) | (repeat' (with_reducible first | refine thenP_n ?_ | refine blockP_n ?_)))
  all_goals (first | (refine Br.keep ?_) | (refine WC.seq ?_))
  all_goals (first | (refine Br.keep ?_) | (refine WC.block ?_))
  all_goals (first | (refine Br.keep ?_) | (refine WC.seq ?_))
  all_goals (first | (refine Br.keep ?_) | (refine WC.region ?_))
  all_goals (first | (refine Br.keep ?_) | (refine WL.step (ok_move rfl) rfl rfl rfl ?_))
  all_goals (first | (refine Br.keep ?_) | (refine WL.step (ok_move rfl) rfl rfl rfl ?_))
  all_goals (first | (refine Br.keep ?_) | (refine WL.step (ok_move rfl) rfl rfl rfl ?_))
  all_goals (first | (refine Br.keep ?_) | (refine WL.step (ok_move rfl) rfl rfl rfl ?_))
  all_goals (first | (refine Br.keep ?_) | (first | (refine WL.step (ok_addI rfl rfl (by omega)) rfl rfl rfl ?_) | (refine WL.step (ok_add rfl rfl) rfl rfl rfl ?_)))
  all_goals (first | (refine Br.keep ?_) | (refine WL.step (ok_slice_slh Tryz.underlying9 rfl rfl rfl (by first | omega | (simp <;> omega))) rfl rfl rfl ?_))
  all_goals (first | (refine Br.keep ?_) | (refine WL.step (ok_move rfl) rfl rfl rfl ?_))
  all_goals (first | (refine Br.keep ?_) | (refine WL.step (ok_move rfl) rfl rfl rfl ?_))
  all_goals (first | (refine Br.keep ?_) | (refine WL.step (ok_catS rfl rfl (by first | (simp only [List.length_append, List.length_cons, List.length_nil]; omega) | (simp; omega))) rfl rfl rfl ?_))
  all_goals (first | (refine Br.keep ?_) | (refine WL.step (ok_move rfl) rfl rfl rfl ?_))
  all_goals (first | (refine Br.keep ?_) | (refine WL.step (ok_catS rfl rfl (by first | (simp only [List.length_append, List.length_cons, List.length_nil]; omega) | (simp; omega))) rfl rfl rfl ?_))
  all_goals (first | (refine Br.keep ?_) | (rw [e5]))
  all_goals (first | (refine Br.keep ?_) | (first | (refine WL.step (OkP.bool_t (by first | rfl | assumption | decide) (ok_eqlS rfl rfl)) rfl rfl rfl ?_) | (refine WL.step (OkP.bool_f (by first | assumption | decide) (ok_eqlS rfl rfl)) rfl rfl rfl ?_) | (refine WL.step (ok_eqlS rfl rfl) rfl rfl rfl ?_)))
  all_goals (first | (refine Br.keep ?_) | (rw [← hnd]))
  all_goals (first | (refine Br.keep ?_) | (refine WL.nil ?_))
  all_goals (first | (refine Br.keep ?_) | (repeat' (with_reducible first | refine thenP_n ?_ | refine blockP_n ?_)))
  all_goals (first | (refine Br.keep ?_) | (refine WC.sub [(1, _), (3, _), (9, _), (10, _), (11, _), (12, _), (13, _), (69, _)] ⟨rfl, rfl, rfl, rfl, rfl, rfl, rfl, rfl, trivial⟩ ?_))
  all_goals (first | (refine Br.keep ?_) | (first | refine WC.condB_t 9 rfl ?_ | refine WC.condB_f 10 rfl ?_ | (refine WC.condB 9 10 rfl (fun hb => ?_) (fun hb => ?_) <;> (first | replace hb := of_decide_eq_true hb | replace hb := of_decide_eq_false hb | replace hb := of_decide_eq_false (nt hb) | replace hb := of_decide_eq_true (nf hb) | skip))))
  all_goals (first
    | (fail_if_success (refine Br.mk (i := 9) ?_))
    | (refine Br.mk (i := 9) ?_
       all_goals (refine WC.seq ?_)
       all_goals (refine WC.drawH (fun _ => True) 16 17 rfl fol ?_)
       all_goals (refine WH.take 0 rfl (by kernel_rfl) (by kernel_rfl) (by kernel_rfl) (by kernel_rfl) rfl trivial (fun hq hC => ok_move rfl) rfl rfl rfl ?_)
       all_goals (refine WH.take 1 rfl (by kernel_rfl) (by kernel_rfl) (by kernel_rfl) (by kernel_rfl) rfl trivial (fun hq hC => ok_move rfl) rfl rfl rfl ?_)
       all_goals (refine WH.take 2 rfl (by kernel_rfl) (by kernel_rfl) (by kernel_rfl) (by kernel_rfl) rfl trivial (fun hq hC => ok_slice_sh Tryz.underlying9 rfl rfl (by first | omega | (simp <;> omega))) rfl rfl rfl ?_)
       all_goals (refine WH.take 3 rfl (by kernel_rfl) (by kernel_rfl) (by kernel_rfl) (by kernel_rfl) rfl trivial (fun hq hC => ok_move rfl) rfl rfl rfl ?_)
       all_goals (refine WH.take 4 rfl (by kernel_rfl) (by kernel_rfl) (by kernel_rfl) (by kernel_rfl) rfl trivial (fun hq hC => ok_catS rfl rfl (by first | (simp only [List.length_append, List.length_cons, List.length_nil]; omega) | (simp; omega))) rfl rfl rfl ?_)
       all_goals (refine WH.take 5 rfl (by kernel_rfl) (by kernel_rfl) (by kernel_rfl) (by kernel_rfl) rfl trivial (fun hq hC => ok_move rfl) rfl rfl rfl ?_)
       all_goals (refine WH.take 8 rfl (by kernel_rfl) (by kernel_rfl) (by kernel_rfl) (by kernel_rfl) rfl trivial (fun hq hC => ok_move rfl) rfl rfl rfl ?_)
       all_goals (refine WH.take 10 rfl (by kernel_rfl) (by kernel_rfl) (by kernel_rfl) (by kernel_rfl) rfl trivial (fun hq hC => ok_move rfl) rfl rfl rfl ?_)
       all_goals (refine WH.take 11 rfl (by kernel_rfl) (by kernel_rfl) (by kernel_rfl) (by kernel_rfl) rfl trivial (fun hq hC => ok_move rfl) rfl rfl rfl ?_)
       all_goals (refine WH.take 12 rfl (by kernel_rfl) (by kernel_rfl) (by kernel_rfl) (by kernel_rfl) rfl trivial (fun hq hC => ok_move rfl) rfl rfl rfl ?_)
       all_goals (first | (refine WH.take 13 rfl (by kernel_rfl) (by kernel_rfl) (by kernel_rfl) (by kernel_rfl) rfl trivial (fun hq hC => ok_addI rfl rfl (by omega)) rfl rfl rfl ?_) | (refine WH.take 13 rfl (by kernel_rfl) (by kernel_rfl) (by kernel_rfl) (by kernel_rfl) rfl trivial (fun hq hC => ok_add rfl rfl) rfl rfl rfl ?_))
       all_goals (refine WH.take 14 rfl (by kernel_rfl) (by kernel_rfl) (by kernel_rfl) (by kernel_rfl) rfl trivial (fun hq hC => ok_slice_sl Tryz.underlying9 rfl rfl (by first | omega | (simp <;> omega))) rfl rfl rfl ?_)
       all_goals (refine WH.one 6 (by kernel_rfl) ?_)
       all_goals (refine Comes1.call (vs := [_]) rfl rfl (fun a w => Tryz.call61 a w) rfl (quote_ref t (by omega)) rfl rfl rfl ?_ (fun _ => by kernel_rfl)
                  rintro _ h4 ⟨rfl, hx4⟩)
       all_goals (refine ⟨fun _ => by first | assumption | trivial, ?_⟩)
       all_goals (refine WH.take 7 rfl (by kernel_rfl) (by kernel_rfl) (by kernel_rfl) (by kernel_rfl) rfl trivial (fun hq hC => ok_catS rfl rfl (by first | (simp only [List.length_append, List.length_cons, List.length_nil]; omega) | (simp; omega))) rfl rfl rfl ?_)
       all_goals (refine WH.take 9 rfl (by kernel_rfl) (by kernel_rfl) (by kernel_rfl) (by kernel_rfl) rfl trivial (fun hq hC => ok_catS rfl rfl (by first | (simp only [List.length_append, List.length_cons, List.length_nil]; omega) | (simp; omega))) rfl rfl rfl ?_)
       all_goals (refine WH.take 15 rfl (by kernel_rfl) (by kernel_rfl) (by kernel_rfl) (by kernel_rfl) rfl trivial (fun hq hC => ok_catS rfl rfl (by first | (simp only [List.length_append, List.length_cons, List.length_nil]; omega) | (simp; omega))) rfl rfl rfl ?_)
       all_goals (refine WH.one 16 (by kernel_rfl) ?_)
       all_goals (refine Comes1.run rfl (OkP.r (ok_assign rfl)) rfl rfl rfl ?_ (fun _ => by kernel_rfl)
                  rintro _ hz ⟨rfl, _⟩
                  subst hz)
       all_goals (refine ⟨fun e => (by cases e), ?_⟩)
       all_goals (refine WH.done (by kernel_rfl) ?_)
       all_goals (repeat' (with_reducible first | refine thenP_n ?_ | refine blockP_n ?_))
       all_goals (refine WC.sub [(8, _)] ⟨rfl, trivial⟩ ?_)
       all_goals (refine WC.ret ?_)
       all_goals (repeat' (with_reducible first | refine thenP_r ?_ | refine blockP_r ?_))
       all_goals (refine retP_1 _ ⟨rfl, trivial⟩ ?_)
       all_goals (first
                   | (exfalso; simp_all; done)
                   | exact ⟨by simp [renL, swapL, *], hx1.trans hx2⟩
                   | exact ⟨by simp [renL, swapL, *], hx1⟩
                   | exact ⟨by simp [renL, swapL, *], .refl _ _⟩
                   | exact ⟨by rw [show renL code text f t = Lib.replace text (needL f) (needL t) 1 by simp [renL, *], replace_miss (index_no (by omega) hn)], hx3⟩
                   | exact ⟨by rw [show renL code text f t = Lib.replace text (needL f) (needL t) 1 by simp [renL, *], replace_hit (i := k) (by omega) (Lib.index_first (by omega) (by rw [occ_eq]; exact decide_eq_true hb) hn), show needL t = ([44, 32, 98, 117, 116, 32, 112, 114, 101, 112, 97, 114, 101, 100, 32, 115, 116, 97, 116, 101, 109, 101, 110, 116, 32] : List UInt8) ++ quoteL t ++ ([32, 114, 101, 113, 117, 105, 114, 101, 115, 32] : List UInt8) from rfl, show ((k : Int) + ((needL f).length : Nat)).toNat = k + (needL f).length by omega]; simp [List.append_assoc], hx3.trans hx4⟩)
       skip))
  all_goals (first
    | (fail_if_success (refine Br.mk (i := 10) ?_))
    | (refine Br.mk (i := 10) ?_
       all_goals (refine WC.skip ?_)
       skip))
  all_goals (first | (refine Br.keep ?_) | (repeat' (with_reducible first | refine thenP_n ?_ | refine blockP_n ?_)))
  all_goals (first | (refine Br.keep ?_) | (refine WC.region ?_))
  all_goals (first | (refine Br.keep ?_) | (refine WL.step (ok_move rfl) rfl rfl rfl ?_))
  all_goals (first | (refine Br.keep ?_) | (first | (refine WL.step (ok_addI rfl rfl (by omega)) rfl rfl rfl ?_) | (refine WL.step (ok_add rfl rfl) rfl rfl rfl ?_)))
  all_goals (first | (refine Br.keep ?_) | (refine WL.step (ok_assign rfl) rfl rfl rfl ?_))
  all_goals (first | (refine Br.keep ?_) | (refine WL.nil ?_))
  all_goals (first | (refine Br.keep ?_) | (repeat' (with_reducible first | refine thenP_n ?_ | refine blockP_n ?_)))
  all_goals (first | (refine Br.keep ?_) | (exact ⟨k + 1, ⟨rfl, rfl, rfl, rfl, rfl, rfl, rfl, trivial⟩, (by exact ⟨rfl, by omega, fun j hj => by rcases Nat.lt_succ_iff_lt_or_eq.1 hj with e | e; exact hn j e; subst e; rw [occ_eq]; exact decide_eq_false ‹¬ _ = needL f›⟩), (by omega)⟩))
  all_goals (try (refine Br.mk (i := 1001) ?_))
  all_goals (repeat' (with_reducible first | refine thenP_n ?_ | refine blockP_n ?_))
  all_goals (refine WC.sub [(1, _)] ⟨rfl, trivial⟩ ?_)
  all_goals (refine WC.seq ?_)
  all_goals (refine WC.region ?_)
  all_goals (refine WL.step (ok_move rfl) rfl rfl rfl ?_)
  all_goals (refine WL.step (ok_assign rfl) rfl rfl rfl ?_)
  all_goals (refine WL.nil ?_)
  all_goals (repeat' (with_reducible first | refine thenP_n ?_ | refine blockP_n ?_))
  all_goals (refine WC.ret ?_)
  all_goals (repeat' (with_reducible first | refine thenP_r ?_ | refine blockP_r ?_))
  all_goals (refine retP_1 _ ⟨rfl, trivial⟩ ?_)
  all_goals (first
              | (exfalso; simp_all; done)
              | exact ⟨by simp [renL, swapL, *], hx1.trans hx2⟩
              | exact ⟨by simp [renL, swapL, *], hx1⟩
              | exact ⟨by simp [renL, swapL, *], .refl _ _⟩
              | exact ⟨by rw [show renL code text f t = Lib.replace text (needL f) (needL t) 1 by simp [renL, *], replace_miss (index_no (by omega) hn)], hx3⟩
              | exact ⟨by rw [show renL code text f t = Lib.replace text (needL f) (needL t) 1 by simp [renL, *], replace_hit (i := k) (by omega) (Lib.index_first (by omega) (by rw [occ_eq]; exact decide_eq_true hb) hn), show needL t = ([44, 32, 98, 117, 116, 32, 112, 114, 101, 112, 97, 114, 101, 100, 32, 115, 116, 97, 116, 101, 109, 101, 110, 116, 32] : List UInt8) ++ quoteL t ++ ([32, 114, 101, 113, 117, 105, 114, 101, 115, 32] : List UInt8) from rfl, show ((k : Int) + ((needL f).length : Nat)).toNat = k + (needL f).length by omega]; simp [List.append_assoc], hx3.trans hx4⟩)

end Go.Proofs.YtkpgnhhidnkmcaaGreatDoor

