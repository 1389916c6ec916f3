/-
  LruNobody holds: a list that no call made has nothing. And awake of layer 17.
-/
import Derived.Test.YtgfbilmlgibbfaaLru
import Derived.Test.YtgfbilmlgibbfaaK8
import Derived.Test.YtgfbilmlgibbfaaRows
namespace Go.Proofs.Ytgfbilmlgibbfaa
open Go Go.RK

theorem add_ok {h : Heap} {b : Nat} {v : Value} {most : Int} {l : List Int} (r : Lr 82 h b v most l) (id : Int) (hm : l.length ≤ 100000) (h1 : id ∉ l) (h2 : (l.length : Int) < most) :
    CallsH Try.prog 39 ⟨[.pointer (some ⟨b, 0, none⟩), In id]⟩ h fun u h' => u = In 0 ∧ ∃ v', Lr 82 h' b v' most (l ++ [id]) ∧ Ext (Ft b v) h h' ∧ Kin h v v' := by
  have e1 : addE most l id = 0 := by unfold addE; rw [if_neg h1, if_neg (by omega)]
  have e2 : addL most l id = l ++ [id] := by unfold addL; rw [if_neg h1, if_neg (by omega)]
  have := add_any r id hm (by omega)
  rw [e1, e2] at this
  exact this
theorem add_full {h : Heap} {b : Nat} {v : Value} {most : Int} {l : List Int} (r : Lr 82 h b v most l) (id : Int) (hm : l.length ≤ 100000) (h1 : id ∉ l) (h2 : (l.length : Int) = most) (h0 : 0 < most) :
    CallsH Try.prog 39 ⟨[.pointer (some ⟨b, 0, none⟩), In id]⟩ h fun u h' => u = In 6 ∧ ∃ v', Lr 82 h' b v' most l ∧ Ext (Ft b v) h h' ∧ Kin h v v' := by
  have e1 : addE most l id = 6 := by unfold addE; rw [if_neg h1, if_pos (by omega)]
  have e2 : addL most l id = l := by unfold addL; rw [if_neg h1, if_pos (by omega)]
  have := add_any r id hm h0
  rw [e1, e2] at this
  exact this
theorem touch_yes {h : Heap} {b : Nat} {v : Value} {most : Int} {l m : List Int} (r : Lr 82 h b v most l) (id : Int) (hm : l.length ≤ 100000) (hn : l.Nodup) (hl : (l.length : Int) ≤ most) (h0 : 0 < most) (hi : id ∈ l) (ht : toL l id = m) :
    CallsH Try.prog 41 ⟨[.pointer (some ⟨b, 0, none⟩), In id]⟩ h fun u h' => u = .bool true ∧ ∃ v', Lr 82 h' b v' most m ∧ Ext (Ft b v) h h' ∧ Kin h v v' := by
  have := touch_any r id hm hn hl h0
  rw [decide_eq_true hi, ht] at this
  exact this

theorem ext_all {h0 h h' : Heap} {b : Nat} {v : Value} (a : Ext No h0 h) (c : Ext (Ft b v) h h') (hb : h0.size ≤ b) (hv : ∀ k, v.ownBlock = some k → h0.size ≤ k) : Ext No h0 h' :=
  a.trans' c fun k hk e => by
    rcases e with e | e
    · omega
    · have := hv k e; omega
theorem kin_all {h0 h : Heap} {v v' : Value} (hk : Kin h v v') (hs : h0.size ≤ h.size) (hv : ∀ k, v.ownBlock = some k → h0.size ≤ k) : ∀ k, v'.ownBlock = some k → h0.size ≤ k := fun k e => by
  rcases hk k e with e | e
  · exact hv k e
  · omega

set_option maxRecDepth 100000 in
theorem awake17 {h : Heap} : CallsH Try.prog 51 ⟨[]⟩ h fun u h' => u = .bool true ∧ Ext No h h' := by
  refine calls [] Try.func51 rfl Try.ntmps51 rfl trivial ?_
  all_goals (refine WC.seq ?_)
  all_goals (refine WC.region ?_)
  all_goals (refine WL.step (ok_assign rfl) rfl rfl rfl ?_)
  all_goals (refine WL.nil ?_)
  all_goals (repeat' (with_reducible first | refine thenP_n ?_ | refine blockP_n ?_))
  all_goals (refine WC.seq ?_)
  all_goals (refine WC.region ?_)
  all_goals (refine WL.call (vs := [_]) rfl (fun a w => Try.call37 a w) rfl (new_lru 2 (by decide) (by decide)) rfl rfl rfl ?_
             rintro _ h1 ⟨b, rfl, r1, hgb, hx1⟩)
  all_goals (have hv1 : ∀ k, (Value.slice none 0 0).ownBlock = some k → h.size ≤ k := by simp [Value.ownBlock])
  all_goals (refine WL.step (ok_move rfl) rfl rfl rfl ?_)
  all_goals (refine WL.step (ok_extract rfl rfl) rfl rfl rfl ?_)
  all_goals (refine WL.step (ok_extract rfl rfl) rfl rfl rfl ?_)
  all_goals (refine WL.step (ok_assign rfl) rfl rfl rfl ?_)
  all_goals (refine WL.step (ok_assign rfl) rfl rfl rfl ?_)
  all_goals (refine WL.nil ?_)
  all_goals (repeat' (with_reducible first | refine thenP_n ?_ | refine blockP_n ?_))
  all_goals (refine WC.sub [(1, _), (2, _)] ⟨rfl, rfl, trivial⟩ ?_)
  all_goals (refine WC.seq ?_)
  all_goals (refine WC.seq ?_)
  all_goals (refine WC.region ?_)
  all_goals (refine WL.step (ok_move rfl) rfl rfl rfl ?_)
  all_goals (refine WL.step (ok_eqlPn Try.underlying65 rfl rfl) rfl rfl rfl ?_)
  all_goals (refine WL.step (ok_move rfl) rfl rfl rfl ?_)
  all_goals (try ((fail_if_success (refine WL.part 11 (b := true) rfl (fun _ => ?_) (fun _ => ?_))); (fail_if_success (refine WL.part 11 (b := false) rfl (fun _ => ?_) (fun _ => ?_))); (refine WL.part 11 rfl (fun hb => ?_) (fun hb => ?_) <;> (first | replace hb := of_decide_eq_true hb | replace hb := of_decide_eq_false hb | replace hb := of_decide_eq_false (nt hb) | replace hb := of_decide_eq_true (nf hb) | skip))))
  all_goals (first | (refine WL.pass rfl rfl rfl ?_) | (refine WL.step (ok_move rfl) rfl rfl rfl ?_))
  all_goals (first | (refine WL.pass rfl rfl rfl ?_) | (first | (refine WL.step (OkP.nbool_t (by omega) (ok_neq rfl rfl)) rfl rfl rfl ?_) | (refine WL.step (OkP.nbool_f (by omega) (ok_neq rfl rfl)) rfl rfl rfl ?_) | (refine WL.step (ok_neq rfl rfl) rfl rfl rfl ?_)))
  all_goals (first | (refine WL.step (ok_pick_t rfl rfl) rfl rfl rfl ?_) | (refine WL.step (ok_pick_f rfl rfl) rfl rfl rfl ?_))
  all_goals (refine WL.step (ok_move rfl) rfl rfl rfl ?_)
  all_goals (try ((fail_if_success (refine WL.part 15 (b := true) rfl (fun _ => ?_) (fun _ => ?_))); (fail_if_success (refine WL.part 15 (b := false) rfl (fun _ => ?_) (fun _ => ?_))); (refine WL.part 15 rfl (fun hb => ?_) (fun hb => ?_) <;> (first | replace hb := of_decide_eq_true hb | replace hb := of_decide_eq_false hb | replace hb := of_decide_eq_false (nt hb) | replace hb := of_decide_eq_true (nf hb) | skip))))
  all_goals (first | (refine WL.pass rfl rfl rfl ?_) | (refine WL.step (ok_move rfl) rfl rfl rfl ?_))
  all_goals (first
               | (refine WL.pass rfl rfl rfl ?_)
               | (refine WL.call (vs := [_, _]) rfl (fun a w => Try.call39 a w) rfl (add_ok r1 1 (by decide) (by decide) (by decide)) rfl rfl rfl ?_
                  rintro _ h2 ⟨rfl, v2, r2, hx2, hk2⟩))
  all_goals (have hX2 := ext_all hx1 hx2 hgb hv1
             have hv2 := kin_all hk2 hx1.size hv1)
  all_goals (first | (refine WL.pass rfl rfl rfl ?_) | (first | (refine WL.step (OkP.nbool_t (by omega) (ok_neq rfl rfl)) rfl rfl rfl ?_) | (refine WL.step (OkP.nbool_f (by omega) (ok_neq rfl rfl)) rfl rfl rfl ?_) | (refine WL.step (ok_neq rfl rfl) rfl rfl rfl ?_)))
  all_goals (first | (refine WL.step (ok_pick_t rfl rfl) rfl rfl rfl ?_) | (refine WL.step (ok_pick_f rfl rfl) rfl rfl rfl ?_))
  all_goals (refine WL.step (ok_move rfl) rfl rfl rfl ?_)
  all_goals (try ((fail_if_success (refine WL.part 20 (b := true) rfl (fun _ => ?_) (fun _ => ?_))); (fail_if_success (refine WL.part 20 (b := false) rfl (fun _ => ?_) (fun _ => ?_))); (refine WL.part 20 rfl (fun hb => ?_) (fun hb => ?_) <;> (first | replace hb := of_decide_eq_true hb | replace hb := of_decide_eq_false hb | replace hb := of_decide_eq_false (nt hb) | replace hb := of_decide_eq_true (nf hb) | skip))))
  all_goals (first | (refine WL.pass rfl rfl rfl ?_) | (refine WL.step (ok_move rfl) rfl rfl rfl ?_))
  all_goals (first
               | (refine WL.pass rfl rfl rfl ?_)
               | (refine WL.call (vs := [_, _]) rfl (fun a w => Try.call39 a w) rfl (add_ok r2 2 (by decide) (by decide) (by decide)) rfl rfl rfl ?_
                  rintro _ h3 ⟨rfl, v3, r3, hx3, hk3⟩))
  all_goals (have hX3 := ext_all hX2 hx3 hgb hv2
             have hv3 := kin_all hk3 hX2.size hv2)
  all_goals (first | (refine WL.pass rfl rfl rfl ?_) | (first | (refine WL.step (OkP.nbool_t (by omega) (ok_neq rfl rfl)) rfl rfl rfl ?_) | (refine WL.step (OkP.nbool_f (by omega) (ok_neq rfl rfl)) rfl rfl rfl ?_) | (refine WL.step (ok_neq rfl rfl) rfl rfl rfl ?_)))
  all_goals (first | (refine WL.step (ok_pick_t rfl rfl) rfl rfl rfl ?_) | (refine WL.step (ok_pick_f rfl rfl) rfl rfl rfl ?_))
  all_goals (refine WL.step (ok_move rfl) rfl rfl rfl ?_)
  all_goals (try ((fail_if_success (refine WL.part 25 (b := true) rfl (fun _ => ?_) (fun _ => ?_))); (fail_if_success (refine WL.part 25 (b := false) rfl (fun _ => ?_) (fun _ => ?_))); (refine WL.part 25 rfl (fun hb => ?_) (fun hb => ?_) <;> (first | replace hb := of_decide_eq_true hb | replace hb := of_decide_eq_false hb | replace hb := of_decide_eq_false (nt hb) | replace hb := of_decide_eq_true (nf hb) | skip))))
  all_goals (first | (refine WL.pass rfl rfl rfl ?_) | (refine WL.step (ok_move rfl) rfl rfl rfl ?_))
  all_goals (first
               | (refine WL.pass rfl rfl rfl ?_)
               | (refine WL.call (vs := [_, _]) rfl (fun a w => Try.call41 a w) rfl (touch_yes r3 1 (by decide) (by decide) (by decide) (by decide) (by decide) (m := [2, 1]) (by decide)) rfl rfl rfl ?_
                  rintro _ h4 ⟨rfl, v4, r4, hx4, hk4⟩))
  all_goals (have hX4 := ext_all hX3 hx4 hgb hv3
             have hv4 := kin_all hk4 hX3.size hv3)
  all_goals (first | (refine WL.pass rfl rfl rfl ?_) | (refine WL.step (ok_not rfl) rfl rfl rfl ?_))
  all_goals (first | (refine WL.step (ok_pick_t rfl rfl) rfl rfl rfl ?_) | (refine WL.step (ok_pick_f rfl rfl) rfl rfl rfl ?_))
  all_goals (refine WL.step (ok_move rfl) rfl rfl rfl ?_)
  all_goals (try ((fail_if_success (refine WL.part 30 (b := true) rfl (fun _ => ?_) (fun _ => ?_))); (fail_if_success (refine WL.part 30 (b := false) rfl (fun _ => ?_) (fun _ => ?_))); (refine WL.part 30 rfl (fun hb => ?_) (fun hb => ?_) <;> (first | replace hb := of_decide_eq_true hb | replace hb := of_decide_eq_false hb | replace hb := of_decide_eq_false (nt hb) | replace hb := of_decide_eq_true (nf hb) | skip))))
  all_goals (first | (refine WL.pass rfl rfl rfl ?_) | (refine WL.step (ok_move rfl) rfl rfl rfl ?_))
  all_goals (first
               | (refine WL.pass rfl rfl rfl ?_)
               | (refine WL.call (vs := [_, _]) rfl (fun a w => Try.call39 a w) rfl (add_full r4 3 (by decide) (by decide) (by decide) (by decide)) rfl rfl rfl ?_
                  rintro _ h5 ⟨rfl, v5, r5, hx5, hk5⟩))
  all_goals (have hX5 := ext_all hX4 hx5 hgb hv4)
  all_goals (first | (refine WL.pass rfl rfl rfl ?_) | (first | (refine WL.step (OkP.nbool_t (by omega) (ok_neq rfl rfl)) rfl rfl rfl ?_) | (refine WL.step (OkP.nbool_f (by omega) (ok_neq rfl rfl)) rfl rfl rfl ?_) | (refine WL.step (ok_neq rfl rfl) rfl rfl rfl ?_)))
  all_goals (first | (refine WL.step (ok_pick_t rfl rfl) rfl rfl rfl ?_) | (refine WL.step (ok_pick_f rfl rfl) rfl rfl rfl ?_))
  all_goals (refine WL.nil ?_)
  all_goals (repeat' (with_reducible first | refine thenP_n ?_ | refine blockP_n ?_))
  all_goals (refine WC.sub [(1, _), (34, _)] ⟨rfl, rfl, trivial⟩ ?_)
  all_goals (first | refine WC.condB_t 1 rfl ?_ | refine WC.condB_f 2 rfl ?_ | (refine WC.condB 1 2 rfl (fun hb => ?_) (fun hb => ?_) <;> (first | replace hb := of_decide_eq_true hb | replace hb := of_decide_eq_false hb | replace hb := of_decide_eq_false (nt hb) | replace hb := of_decide_eq_true (nf hb) | skip)))
  all_goals (first
    | (fail_if_success (refine Br.mk (i := 1) ?_))
    | (refine Br.mk (i := 1) ?_
       all_goals (refine WC.seq ?_)
       all_goals (refine WC.region ?_)
       all_goals (refine WL.step (ok_assign rfl) rfl rfl rfl ?_)
       all_goals (refine WL.nil ?_)
       all_goals (repeat' (with_reducible first | refine thenP_n ?_ | refine blockP_n ?_))
       all_goals (refine WC.ret ?_)
       all_goals (repeat' (with_reducible first | refine thenP_r ?_ | refine blockP_r ?_))
       all_goals (refine retP_1 _ ⟨rfl, trivial⟩ ?_)
       all_goals (exact ⟨rfl, hX5.trans (hx6.trans hx7)⟩)
       skip))
  all_goals (first
    | (fail_if_success (refine Br.mk (i := 2) ?_))
    | (refine Br.mk (i := 2) ?_
       all_goals (refine WC.skip ?_)
       skip))
  all_goals (repeat' (with_reducible first | refine thenP_n ?_ | refine blockP_n ?_))
  all_goals (refine WC.seq ?_)
  all_goals (refine WC.region ?_)
  all_goals (refine WL.step (ok_move rfl) rfl rfl rfl ?_)
  all_goals (refine WL.call (vs := [_]) rfl (fun a w => Try.call45 a w) rfl (oldest_some r5) rfl rfl rfl ?_
             rintro _ hz ⟨rfl, _⟩
             subst hz)
  all_goals (refine WL.step (ok_move rfl) rfl rfl rfl ?_)
  all_goals (refine WL.step (ok_extract rfl rfl) rfl rfl rfl ?_)
  all_goals (refine WL.step (ok_extract rfl rfl) rfl rfl rfl ?_)
  all_goals (refine WL.step (ok_assign rfl) rfl rfl rfl ?_)
  all_goals (refine WL.step (ok_assign rfl) rfl rfl rfl ?_)
  all_goals (refine WL.nil ?_)
  all_goals (repeat' (with_reducible first | refine thenP_n ?_ | refine blockP_n ?_))
  all_goals (refine WC.sub [(1, _), (3, _), (4, _)] ⟨rfl, rfl, rfl, trivial⟩ ?_)
  all_goals (refine WC.seq ?_)
  all_goals (refine WC.region ?_)
  all_goals (refine WL.step (ok_move rfl) rfl rfl rfl ?_)
  all_goals (refine WL.step (ok_move rfl) rfl rfl rfl ?_)
  all_goals (try ((fail_if_success (refine WL.part 41 (b := true) rfl (fun _ => ?_) (fun _ => ?_))); (fail_if_success (refine WL.part 41 (b := false) rfl (fun _ => ?_) (fun _ => ?_))); (refine WL.part 41 rfl (fun hb => ?_) (fun hb => ?_) <;> (first | replace hb := of_decide_eq_true hb | replace hb := of_decide_eq_false hb | replace hb := of_decide_eq_false (nt hb) | replace hb := of_decide_eq_true (nf hb) | skip))))
  all_goals (first | (refine WL.pass rfl rfl rfl ?_) | (refine WL.step (ok_move rfl) rfl rfl rfl ?_))
  all_goals (first | (refine WL.pass rfl rfl rfl ?_) | (first | (refine WL.step (OkP.bool_t (by omega) (ok_eql rfl rfl)) rfl rfl rfl ?_) | (refine WL.step (OkP.bool_f (by omega) (ok_eql rfl rfl)) rfl rfl rfl ?_) | (refine WL.step (ok_eql rfl rfl) rfl rfl rfl ?_)))
  all_goals (first | (refine WL.step (ok_pick_t rfl rfl) rfl rfl rfl ?_) | (refine WL.step (ok_pick_f rfl rfl) rfl rfl rfl ?_))
  all_goals (refine WL.step (ok_move rfl) rfl rfl rfl ?_)
  all_goals (try ((fail_if_success (refine WL.part 45 (b := true) rfl (fun _ => ?_) (fun _ => ?_))); (fail_if_success (refine WL.part 45 (b := false) rfl (fun _ => ?_) (fun _ => ?_))); (refine WL.part 45 rfl (fun hb => ?_) (fun hb => ?_) <;> (first | replace hb := of_decide_eq_true hb | replace hb := of_decide_eq_false hb | replace hb := of_decide_eq_false (nt hb) | replace hb := of_decide_eq_true (nf hb) | skip))))
  all_goals (first | (refine WL.pass rfl rfl rfl ?_) | (refine WL.step (ok_move rfl) rfl rfl rfl ?_))
  all_goals (first
               | (refine WL.pass rfl rfl rfl ?_)
               | (refine WL.call (vs := [_]) rfl (fun a w => Try.call47 a w) rfl (list_lru r5 (by decide)) rfl rfl rfl ?_
                  rintro v6 h6 ⟨ho6, hx6, hl6⟩))
  all_goals (obtain ⟨A6, c6, rfl, _⟩ := ho6.slice)
  all_goals (first
               | (refine WL.pass rfl rfl rfl ?_)
               | (refine WL.stepR (okE_buildSlice (vs := [_, _]) (cs := [_, _]) (fun | [a0, a1] => [a0, a1] | _ => []) Try.underlying42 rfl rfl (by kernel_rfl)) rfl rfl rfl ?_
                  rintro _ h7 ⟨b7, rfl, hg7, hb7, hx7⟩))
  all_goals (first
               | (refine WL.pass rfl rfl rfl ?_)
               | (refine WL.call (vs := [_, _]) rfl (fun a w => Try.call46 a w) rfl (equal_int [2, 1] [2, 1] (ho6.rd.ext0 hx7) (rd_blk hb7 rfl) (by decide)) rfl rfl rfl ?_
                  rintro _ hz ⟨rfl, _⟩
                  subst hz))
  all_goals (first | (refine WL.step (ok_pick_t rfl rfl) rfl rfl rfl ?_) | (refine WL.step (ok_pick_f rfl rfl) rfl rfl rfl ?_))
  all_goals (refine WL.step (ok_assign rfl) rfl rfl rfl ?_)
  all_goals (refine WL.nil ?_)
  all_goals (repeat' (with_reducible first | refine thenP_n ?_ | refine blockP_n ?_))
  all_goals (refine WC.sub [(0, _)] ⟨rfl, trivial⟩ ?_)
  all_goals (refine WC.ret ?_)
  all_goals (repeat' (with_reducible first | refine thenP_r ?_ | refine blockP_r ?_))
  all_goals (refine retP_1 _ ⟨rfl, trivial⟩ ?_)
  all_goals (exact ⟨rfl, hX5.trans (hx6.trans hx7)⟩)

set_option maxRecDepth 100000 in
theorem at_nil {h : Heap} (id : Int) : CallsH Try.prog 85 ⟨[.pointer none, In id]⟩ h fun u h' => u = In (-1) ∧ h' = h := by
  refine calls [(0, _), (1, _)] Try.func85 rfl Try.ntmps85 rfl ⟨rfl, rfl, trivial⟩ ?_
  all_goals (refine WC.seq ?_)
  all_goals (refine WC.region ?_)
  all_goals (refine WL.step (ok_assign rfl) rfl rfl rfl ?_)
  all_goals (refine WL.nil ?_)
  all_goals (repeat' (with_reducible first | refine thenP_n ?_ | refine blockP_n ?_))
  all_goals (refine WC.seq ?_)
  all_goals (refine WC.seq ?_)
  all_goals (refine WC.region ?_)
  all_goals (refine WL.step (ok_move rfl) rfl rfl rfl ?_)
  all_goals (refine WL.step (ok_eqlPn Try.underlying65 rfl rfl) rfl rfl rfl ?_)
  all_goals (refine WL.nil ?_)
  all_goals (repeat' (with_reducible first | refine thenP_n ?_ | refine blockP_n ?_))
  all_goals (first | refine WC.condB_t 1 rfl ?_ | refine WC.condB_f 2 rfl ?_ | (refine WC.condB 1 2 rfl (fun hb => ?_) (fun hb => ?_) <;> (first | replace hb := of_decide_eq_true hb | replace hb := of_decide_eq_false hb | replace hb := of_decide_eq_false (nt hb) | replace hb := of_decide_eq_true (nf hb) | skip)))
  all_goals (first
    | (fail_if_success (refine Br.mk (i := 1) ?_))
    | (refine Br.mk (i := 1) ?_
       all_goals (refine WC.seq ?_)
       all_goals (refine WC.region ?_)
       all_goals (refine WL.step (ok_assign rfl) rfl rfl rfl ?_)
       all_goals (refine WL.nil ?_)
       all_goals (repeat' (with_reducible first | refine thenP_n ?_ | refine blockP_n ?_))
       all_goals (refine WC.sub [(4, _)] ⟨rfl, trivial⟩ ?_)
       all_goals (refine WC.ret ?_)
       all_goals (repeat' (with_reducible first | refine thenP_r ?_ | refine blockP_r ?_))
       all_goals (refine retP_1 _ ⟨rfl, trivial⟩ ?_)
       all_goals (exact ⟨rfl, rfl⟩)
       skip))
  all_goals (first
    | (fail_if_success (refine Br.mk (i := 2) ?_))
    | (refine Br.mk (i := 2) ?_
       all_goals (refine WC.skip ?_)
       skip))
  all_goals (repeat' (with_reducible first | refine thenP_n ?_ | refine blockP_n ?_))
  all_goals (refine WC.seq ?_)
  all_goals (refine WC.region ?_)
  all_goals (refine WL.step (ok_move rfl) rfl rfl rfl ?_)
  all_goals (refine WL.step (ok_nilCheck rfl) rfl rfl rfl ?_)
  all_goals (refine WL.step (ok_fieldAddr rfl Try.underlying82 rfl (fun w => Try.sizeOf42 w)) rfl rfl rfl ?_)
  all_goals (refine WL.step (ok_load (fun w => Try.isAgg42 w) rfl (by first | assumption | exact cell_blk (by assumption) rfl)) rfl rfl rfl ?_)
  all_goals (refine WL.step (ok_move rfl) rfl rfl rfl ?_)
  all_goals (fail "no contract for call of slices.Index[[]int,int] at 3.5")
  all_goals (refine WL.step (ok_assign rfl) rfl rfl rfl ?_)
  all_goals (refine WL.nil ?_)
  all_goals (repeat' (with_reducible first | refine thenP_n ?_ | refine blockP_n ?_))
  all_goals (refine WC.sub [(4, _)] ⟨rfl, trivial⟩ ?_)
  all_goals (refine WC.ret ?_)
  all_goals (repeat' (with_reducible first | refine thenP_r ?_ | refine blockP_r ?_))
  all_goals (refine retP_1 _ ⟨rfl, trivial⟩ ?_)
  all_goals (exact ⟨rfl, rfl⟩)
set_option maxRecDepth 100000 in
theorem has_nil {h : Heap} (id : Int) : CallsH Try.prog 49 ⟨[.pointer none, In id]⟩ h fun u h' => u = .bool false ∧ h' = h := by
  refine calls [(0, _), (1, _)] Try.func49 rfl Try.ntmps49 rfl ⟨rfl, rfl, trivial⟩ ?_
  all_goals (refine WC.seq ?_)
  all_goals (refine WC.region ?_)
  all_goals (refine WL.step (ok_assign rfl) rfl rfl rfl ?_)
  all_goals (refine WL.nil ?_)
  all_goals (repeat' (with_reducible first | refine thenP_n ?_ | refine blockP_n ?_))
  all_goals (refine WC.seq ?_)
  all_goals (refine WC.region ?_)
  all_goals (refine WL.step (ok_move rfl) rfl rfl rfl ?_)
  all_goals (refine WL.step (ok_move rfl) rfl rfl rfl ?_)
  all_goals (refine WL.call (vs := [_, _]) rfl (fun a w => Try.call85 a w) rfl (at_nil id) rfl rfl rfl ?_
             rintro _ hz ⟨rfl, _⟩
             subst hz)
  all_goals (first | (refine WL.step (OkP.bool_t (by omega) (ok_geq rfl rfl)) rfl rfl rfl ?_) | (refine WL.step (OkP.bool_f (by omega) (ok_geq rfl rfl)) rfl rfl rfl ?_) | (refine WL.step (ok_geq rfl rfl) rfl rfl rfl ?_))
  all_goals (refine WL.step (ok_assign rfl) rfl rfl rfl ?_)
  all_goals (refine WL.nil ?_)
  all_goals (repeat' (with_reducible first | refine thenP_n ?_ | refine blockP_n ?_))
  all_goals (refine WC.sub [(4, _)] ⟨rfl, trivial⟩ ?_)
  all_goals (refine WC.ret ?_)
  all_goals (repeat' (with_reducible first | refine thenP_r ?_ | refine blockP_r ?_))
  all_goals (refine retP_1 _ ⟨rfl, trivial⟩ ?_)
  all_goals (exact ⟨rfl, rfl⟩)
set_option maxRecDepth 100000 in
theorem remove_nil {h : Heap} (id : Int) : CallsH Try.prog 43 ⟨[.pointer none, In id]⟩ h fun u h' => u = .bool false ∧ h' = h := by
  refine calls [(0, _), (1, _)] Try.func43 rfl Try.ntmps43 rfl ⟨rfl, rfl, trivial⟩ ?_
  all_goals (refine WC.seq ?_)
  all_goals (refine WC.region ?_)
  all_goals (refine WL.step (ok_assign rfl) rfl rfl rfl ?_)
  all_goals (refine WL.nil ?_)
  all_goals (repeat' (with_reducible first | refine thenP_n ?_ | refine blockP_n ?_))
  all_goals (refine WC.seq ?_)
  all_goals (refine WC.region ?_)
  all_goals (refine WL.step (ok_move rfl) rfl rfl rfl ?_)
  all_goals (refine WL.step (ok_move rfl) rfl rfl rfl ?_)
  all_goals (refine WL.call (vs := [_, _]) rfl (fun a w => Try.call85 a w) rfl (at_nil id) rfl rfl rfl ?_
             rintro _ hz ⟨rfl, _⟩
             subst hz)
  all_goals (refine WL.step (ok_assign rfl) rfl rfl rfl ?_)
  all_goals (refine WL.nil ?_)
  all_goals (repeat' (with_reducible first | refine thenP_n ?_ | refine blockP_n ?_))
  all_goals (refine WC.sub [(0, _), (5, _)] ⟨rfl, rfl, trivial⟩ ?_)
  all_goals (refine WC.seq ?_)
  all_goals (refine WC.seq ?_)
  all_goals (refine WC.region ?_)
  all_goals (refine WL.step (ok_move rfl) rfl rfl rfl ?_)
  all_goals (first | (refine WL.step (OkP.bool_t (by omega) (ok_lss rfl rfl)) rfl rfl rfl ?_) | (refine WL.step (OkP.bool_f (by omega) (ok_lss rfl rfl)) rfl rfl rfl ?_) | (refine WL.step (ok_lss rfl rfl) rfl rfl rfl ?_))
  all_goals (refine WL.nil ?_)
  all_goals (repeat' (with_reducible first | refine thenP_n ?_ | refine blockP_n ?_))
  all_goals (first | refine WC.condB_t 1 rfl ?_ | refine WC.condB_f 2 rfl ?_ | (refine WC.condB 1 2 rfl (fun hb => ?_) (fun hb => ?_) <;> (first | replace hb := of_decide_eq_true hb | replace hb := of_decide_eq_false hb | replace hb := of_decide_eq_false (nt hb) | replace hb := of_decide_eq_true (nf hb) | skip)))
  all_goals (first
    | (fail_if_success (refine Br.mk (i := 1) ?_))
    | (refine Br.mk (i := 1) ?_
       all_goals (refine WC.seq ?_)
       all_goals (refine WC.region ?_)
       all_goals (refine WL.step (ok_assign rfl) rfl rfl rfl ?_)
       all_goals (refine WL.nil ?_)
       all_goals (repeat' (with_reducible first | refine thenP_n ?_ | refine blockP_n ?_))
       all_goals (refine WC.sub [(4, _)] ⟨rfl, trivial⟩ ?_)
       all_goals (refine WC.ret ?_)
       all_goals (repeat' (with_reducible first | refine thenP_r ?_ | refine blockP_r ?_))
       all_goals (refine retP_1 _ ⟨rfl, trivial⟩ ?_)
       all_goals (exact ⟨rfl, rfl⟩)
       skip))
  all_goals (first
    | (fail_if_success (refine Br.mk (i := 2) ?_))
    | (refine Br.mk (i := 2) ?_
       all_goals (refine WC.skip ?_)
       skip))
  all_goals (repeat' (with_reducible first | refine thenP_n ?_ | refine blockP_n ?_))
  all_goals (refine WC.seq ?_)
  all_goals (refine WC.region ?_)
  all_goals (refine WL.step (ok_move rfl) rfl rfl rfl ?_)
  all_goals (refine WL.step (ok_move rfl) rfl rfl rfl ?_)
  all_goals (refine WL.step (ok_nilCheck rfl) rfl rfl rfl ?_)
  all_goals (refine WL.step (ok_fieldAddr rfl Try.underlying82 rfl (fun w => Try.sizeOf42 w)) rfl rfl rfl ?_)
  all_goals (refine WL.step (ok_load (fun w => Try.isAgg42 w) rfl (by first | assumption | exact cell_blk (by assumption) rfl)) rfl rfl rfl ?_)
  all_goals (refine WL.step (ok_move rfl) rfl rfl rfl ?_)
  all_goals (refine WL.step (ok_move rfl) rfl rfl rfl ?_)
  all_goals (first | (refine WL.step (ok_addI rfl rfl (by omega)) rfl rfl rfl ?_) | (refine WL.step (ok_add rfl rfl) rfl rfl rfl ?_))
  all_goals (fail "no contract for call of slices.Delete[[]int,int] at 4.8")
  all_goals (refine WL.step (ok_nilCheck rfl) rfl rfl rfl ?_)
  all_goals (refine WL.step (ok_fieldAddr rfl Try.underlying82 rfl (fun w => Try.sizeOf42 w)) rfl rfl rfl ?_)
  all_goals (refine WL.stepR0 (okE_store (fun w => Try.sizeOf42 w) rfl rfl (by assumption) (Nat.le_of_ble_eq_true rfl) rfl rfl) rfl rfl ?_
             rintro _ h1 ⟨hb1, hx1⟩)
  all_goals (refine WL.nil ?_)
  all_goals (repeat' (with_reducible first | refine thenP_n ?_ | refine blockP_n ?_))
  all_goals (refine WC.sub [] trivial ?_)
  all_goals (refine WC.seq ?_)
  all_goals (refine WC.region ?_)
  all_goals (refine WL.step (ok_assign rfl) rfl rfl rfl ?_)
  all_goals (refine WL.nil ?_)
  all_goals (repeat' (with_reducible first | refine thenP_n ?_ | refine blockP_n ?_))
  all_goals (refine WC.ret ?_)
  all_goals (repeat' (with_reducible first | refine thenP_r ?_ | refine blockP_r ?_))
  all_goals (refine retP_1 _ ⟨rfl, trivial⟩ ?_)
  all_goals (exact ⟨rfl, rfl⟩)
set_option maxRecDepth 100000 in
theorem touch_nil {h : Heap} (id : Int) : CallsH Try.prog 41 ⟨[.pointer none, In id]⟩ h fun u h' => u = .bool false ∧ h' = h := by
  refine calls [(0, _), (1, _)] Try.func41 rfl Try.ntmps41 rfl ⟨rfl, rfl, trivial⟩ ?_
  all_goals (refine WC.seq ?_)
  all_goals (refine WC.region ?_)
  all_goals (refine WL.step (ok_assign rfl) rfl rfl rfl ?_)
  all_goals (refine WL.nil ?_)
  all_goals (repeat' (with_reducible first | refine thenP_n ?_ | refine blockP_n ?_))
  all_goals (refine WC.seq ?_)
  all_goals (refine WC.region ?_)
  all_goals (refine WL.step (ok_move rfl) rfl rfl rfl ?_)
  all_goals (refine WL.step (ok_move rfl) rfl rfl rfl ?_)
  all_goals (refine WL.call (vs := [_, _]) rfl (fun a w => Try.call43 a w) rfl (remove_nil id) rfl rfl rfl ?_
             rintro _ hz ⟨rfl, _⟩
             subst hz)
  all_goals (refine WL.step (ok_move rfl) rfl rfl rfl ?_)
  all_goals (try ((fail_if_success (refine WL.part 8 (b := true) rfl (fun _ => ?_) (fun _ => ?_))); (fail_if_success (refine WL.part 8 (b := false) rfl (fun _ => ?_) (fun _ => ?_))); (refine WL.part 8 rfl (fun hb => ?_) (fun hb => ?_) <;> (first | replace hb := of_decide_eq_true hb | replace hb := of_decide_eq_false hb | replace hb := of_decide_eq_false (nt hb) | replace hb := of_decide_eq_true (nf hb) | skip))))
  all_goals (first | (refine WL.pass rfl rfl rfl ?_) | (refine WL.step (ok_move rfl) rfl rfl rfl ?_))
  all_goals (first | (refine WL.pass rfl rfl rfl ?_) | (refine WL.step (ok_move rfl) rfl rfl rfl ?_))
  all_goals (first | (refine WL.pass rfl rfl rfl ?_) | (fail "no contract for call of (*remuda/lru.LRU).Add at 1.6"))
  all_goals (first | (refine WL.pass rfl rfl rfl ?_) | (first | (refine WL.step (OkP.bool_t (by omega) (ok_eql rfl rfl)) rfl rfl rfl ?_) | (refine WL.step (OkP.bool_f (by omega) (ok_eql rfl rfl)) rfl rfl rfl ?_) | (refine WL.step (ok_eql rfl rfl) rfl rfl rfl ?_)))
  all_goals (first | (refine WL.step (ok_pick_t rfl rfl) rfl rfl rfl ?_) | (refine WL.step (ok_pick_f rfl rfl) rfl rfl rfl ?_))
  all_goals (refine WL.step (ok_assign rfl) rfl rfl rfl ?_)
  all_goals (refine WL.nil ?_)
  all_goals (repeat' (with_reducible first | refine thenP_n ?_ | refine blockP_n ?_))
  all_goals (refine WC.sub [(4, _)] ⟨rfl, trivial⟩ ?_)
  all_goals (refine WC.ret ?_)
  all_goals (repeat' (with_reducible first | refine thenP_r ?_ | refine blockP_r ?_))
  all_goals (refine retP_1 _ ⟨rfl, trivial⟩ ?_)
  all_goals (exact ⟨rfl, rfl⟩)
set_option maxRecDepth 100000 in
theorem len_nil {h : Heap} : CallsH Try.prog 48 ⟨[.pointer none]⟩ h fun u h' => u = In 0 ∧ h' = h := by
  refine calls [(0, _)] Try.func48 rfl Try.ntmps48 rfl ⟨rfl, trivial⟩ ?_
  all_goals (refine WC.seq ?_)
  all_goals (refine WC.region ?_)
  all_goals (refine WL.step (ok_assign rfl) rfl rfl rfl ?_)
  all_goals (refine WL.nil ?_)
  all_goals (repeat' (with_reducible first | refine thenP_n ?_ | refine blockP_n ?_))
  all_goals (refine WC.seq ?_)
  all_goals (refine WC.seq ?_)
  all_goals (refine WC.region ?_)
  all_goals (refine WL.step (ok_move rfl) rfl rfl rfl ?_)
  all_goals (refine WL.step (ok_eqlPn Try.underlying65 rfl rfl) rfl rfl rfl ?_)
  all_goals (refine WL.nil ?_)
  all_goals (repeat' (with_reducible first | refine thenP_n ?_ | refine blockP_n ?_))
  all_goals (first | refine WC.condB_t 1 rfl ?_ | refine WC.condB_f 2 rfl ?_ | (refine WC.condB 1 2 rfl (fun hb => ?_) (fun hb => ?_) <;> (first | replace hb := of_decide_eq_true hb | replace hb := of_decide_eq_false hb | replace hb := of_decide_eq_false (nt hb) | replace hb := of_decide_eq_true (nf hb) | skip)))
  all_goals (first
    | (fail_if_success (refine Br.mk (i := 1) ?_))
    | (refine Br.mk (i := 1) ?_
       all_goals (refine WC.seq ?_)
       all_goals (refine WC.region ?_)
       all_goals (refine WL.step (ok_assign rfl) rfl rfl rfl ?_)
       all_goals (refine WL.nil ?_)
       all_goals (repeat' (with_reducible first | refine thenP_n ?_ | refine blockP_n ?_))
       all_goals (refine WC.ret ?_)
       all_goals (repeat' (with_reducible first | refine thenP_r ?_ | refine blockP_r ?_))
       all_goals (refine retP_1 _ ⟨rfl, trivial⟩ ?_)
       all_goals (exact ⟨rfl, rfl⟩)
       skip))
  all_goals (first
    | (fail_if_success (refine Br.mk (i := 2) ?_))
    | (refine Br.mk (i := 2) ?_
       all_goals (refine WC.skip ?_)
       skip))
  all_goals (repeat' (with_reducible first | refine thenP_n ?_ | refine blockP_n ?_))
  all_goals (refine WC.seq ?_)
  all_goals (refine WC.region ?_)
  all_goals (refine WL.step (ok_move rfl) rfl rfl rfl ?_)
  all_goals (refine WL.step (ok_nilCheck rfl) rfl rfl rfl ?_)
  all_goals (refine WL.step (ok_fieldAddr rfl Try.underlying82 rfl (fun w => Try.sizeOf42 w)) rfl rfl rfl ?_)
  all_goals (refine WL.step (ok_load (fun w => Try.isAgg42 w) rfl (by first | assumption | exact cell_blk (by assumption) rfl)) rfl rfl rfl ?_)
  all_goals (refine WL.step (ok_lenL rfl Try.underlying42 rfl) rfl rfl rfl ?_)
  all_goals (refine WL.step (ok_assign rfl) rfl rfl rfl ?_)
  all_goals (refine WL.nil ?_)
  all_goals (repeat' (with_reducible first | refine thenP_n ?_ | refine blockP_n ?_))
  all_goals (refine WC.sub [(2, _)] ⟨rfl, trivial⟩ ?_)
  all_goals (refine WC.ret ?_)
  all_goals (repeat' (with_reducible first | refine thenP_r ?_ | refine blockP_r ?_))
  all_goals (refine retP_1 _ ⟨rfl, trivial⟩ ?_)
  all_goals (exact ⟨rfl, rfl⟩)
set_option maxRecDepth 100000 in
theorem oldest_nil {h : Heap} : CallsH Try.prog 45 ⟨[.pointer none]⟩ h fun u h' => u = .tuple ⟨[In 0, .bool false]⟩ ∧ h' = h := by
  refine calls [(0, _)] Try.func45 rfl Try.ntmps45 rfl ⟨rfl, trivial⟩ ?_
  all_goals (refine WC.seq ?_)
  all_goals (refine WC.region ?_)
  all_goals (refine WL.step (ok_assign rfl) rfl rfl rfl ?_)
  all_goals (refine WL.step (ok_assign rfl) rfl rfl rfl ?_)
  all_goals (refine WL.nil ?_)
  all_goals (repeat' (with_reducible first | refine thenP_n ?_ | refine blockP_n ?_))
  all_goals (refine WC.seq ?_)
  all_goals (refine WC.seq ?_)
  all_goals (refine WC.region ?_)
  all_goals (refine WL.step (ok_move rfl) rfl rfl rfl ?_)
  all_goals (refine WL.call (vs := [_]) rfl (fun a w => Try.call48 a w) rfl (len_nil) rfl rfl rfl ?_
             rintro _ hz ⟨rfl, _⟩
             subst hz)
  all_goals (first | (refine WL.step (OkP.bool_t (by omega) (ok_eql rfl rfl)) rfl rfl rfl ?_) | (refine WL.step (OkP.bool_f (by omega) (ok_eql rfl rfl)) rfl rfl rfl ?_) | (refine WL.step (ok_eql rfl rfl) rfl rfl rfl ?_))
  all_goals (refine WL.nil ?_)
  all_goals (repeat' (with_reducible first | refine thenP_n ?_ | refine blockP_n ?_))
  all_goals (refine WC.sub [(0, _), (6, _)] ⟨rfl, rfl, trivial⟩ ?_)
  all_goals (first | refine WC.condB_t 1 rfl ?_ | refine WC.condB_f 2 rfl ?_ | (refine WC.condB 1 2 rfl (fun hb => ?_) (fun hb => ?_) <;> (first | replace hb := of_decide_eq_true hb | replace hb := of_decide_eq_false hb | replace hb := of_decide_eq_false (nt hb) | replace hb := of_decide_eq_true (nf hb) | skip)))
  all_goals (first
    | (fail_if_success (refine Br.mk (i := 1) ?_))
    | (refine Br.mk (i := 1) ?_
       all_goals (refine WC.seq ?_)
       all_goals (refine WC.region ?_)
       all_goals (refine WL.step (ok_assign rfl) rfl rfl rfl ?_)
       all_goals (refine WL.step (ok_assign rfl) rfl rfl rfl ?_)
       all_goals (refine WL.nil ?_)
       all_goals (repeat' (with_reducible first | refine thenP_n ?_ | refine blockP_n ?_))
       all_goals (refine WC.ret ?_)
       all_goals (repeat' (with_reducible first | refine thenP_r ?_ | refine blockP_r ?_))
       all_goals (refine retP_2 _ _ ⟨rfl, rfl, trivial⟩ ?_)
       all_goals (exact ⟨rfl, rfl⟩)
       skip))
  all_goals (first
    | (fail_if_success (refine Br.mk (i := 2) ?_))
    | (refine Br.mk (i := 2) ?_
       all_goals (refine WC.skip ?_)
       skip))
  all_goals (repeat' (with_reducible first | refine thenP_n ?_ | refine blockP_n ?_))
  all_goals (refine WC.seq ?_)
  all_goals (refine WC.region ?_)
  all_goals (refine WL.step (ok_move rfl) rfl rfl rfl ?_)
  all_goals (refine WL.step (ok_nilCheck rfl) rfl rfl rfl ?_)
  all_goals (refine WL.step (ok_fieldAddr rfl Try.underlying82 rfl (fun w => Try.sizeOf42 w)) rfl rfl rfl ?_)
  all_goals (refine WL.step (ok_load (fun w => Try.isAgg42 w) rfl (by first | assumption | exact cell_blk (by assumption) rfl)) rfl rfl rfl ?_)
  all_goals (refine WL.step (ok_idxAddrA Try.underlying42 (fun w => Try.sizeOf3 w) rfl rfl rfl (by first | omega | (simp <;> omega)) (by first | rfl | assumption) (k := 0)) rfl rfl rfl ?_)
  all_goals (refine WL.step (ok_load (fun w => Try.isAgg3 w) rfl (by first | assumption | exact cell_blk (by assumption) rfl)) rfl rfl rfl ?_)
  all_goals (refine WL.step (ok_assign rfl) rfl rfl rfl ?_)
  all_goals (refine WL.step (ok_assign rfl) rfl rfl rfl ?_)
  all_goals (refine WL.nil ?_)
  all_goals (repeat' (with_reducible first | refine thenP_n ?_ | refine blockP_n ?_))
  all_goals (refine WC.sub [(2, _), (3, _)] ⟨rfl, rfl, trivial⟩ ?_)
  all_goals (refine WC.ret ?_)
  all_goals (repeat' (with_reducible first | refine thenP_r ?_ | refine blockP_r ?_))
  all_goals (refine retP_2 _ _ ⟨rfl, rfl, trivial⟩ ?_)
  all_goals (exact ⟨rfl, rfl⟩)
set_option maxRecDepth 100000 in
theorem add_nil {h : Heap} (id : Int) : CallsH Try.prog 39 ⟨[.pointer none, In id]⟩ h fun u h' => u = In 2 ∧ h' = h := by
  refine calls [(0, _), (1, _)] Try.func39 rfl Try.ntmps39 rfl ⟨rfl, rfl, trivial⟩ ?_
  all_goals (refine WC.seq ?_)
  all_goals (refine WC.region ?_)
  all_goals (refine WL.step (ok_assign rfl) rfl rfl rfl ?_)
  all_goals (refine WL.nil ?_)
  all_goals (repeat' (with_reducible first | refine thenP_n ?_ | refine blockP_n ?_))
  all_goals (refine WC.seq ?_)
  all_goals (refine WC.block ?_)
  all_goals (refine WC.seq ?_)
  all_goals (refine WC.region ?_)
  all_goals (refine WL.step (ok_move rfl) rfl rfl rfl ?_)
  all_goals (refine WL.step (ok_eqlPn Try.underlying65 rfl rfl) rfl rfl rfl ?_)
  all_goals (refine WL.step (ok_move rfl) rfl rfl rfl ?_)
  all_goals (try ((fail_if_success (refine WL.part 8 (b := true) rfl (fun _ => ?_) (fun _ => ?_))); (fail_if_success (refine WL.part 8 (b := false) rfl (fun _ => ?_) (fun _ => ?_))); (refine WL.part 8 rfl (fun hb => ?_) (fun hb => ?_) <;> (first | replace hb := of_decide_eq_true hb | replace hb := of_decide_eq_false hb | replace hb := of_decide_eq_false (nt hb) | replace hb := of_decide_eq_true (nf hb) | skip))))
  all_goals (first | (refine WL.pass rfl rfl rfl ?_) | (refine WL.step (ok_move rfl) rfl rfl rfl ?_))
  all_goals (first | (refine WL.pass rfl rfl rfl ?_) | (refine WL.step (ok_nilCheck rfl) rfl rfl rfl ?_))
  all_goals (first | (refine WL.pass rfl rfl rfl ?_) | (refine WL.step (ok_fieldAddr rfl Try.underlying82 rfl (fun w => Try.sizeOf3 w)) rfl rfl rfl ?_))
  all_goals (first | (refine WL.pass rfl rfl rfl ?_) | (refine WL.step (ok_load (fun w => Try.isAgg3 w) rfl (by first | assumption | exact cell_blk (by assumption) rfl)) rfl rfl rfl ?_))
  all_goals (first | (refine WL.pass rfl rfl rfl ?_) | (first | (refine WL.step (OkP.bool_t (by omega) (ok_eql rfl rfl)) rfl rfl rfl ?_) | (refine WL.step (OkP.bool_f (by omega) (ok_eql rfl rfl)) rfl rfl rfl ?_) | (refine WL.step (ok_eql rfl rfl) rfl rfl rfl ?_)))
  all_goals (first | (refine WL.step (ok_pick_t rfl rfl) rfl rfl rfl ?_) | (refine WL.step (ok_pick_f rfl rfl) rfl rfl rfl ?_))
  all_goals (refine WL.step (ok_assign rfl) rfl rfl rfl ?_)
  all_goals (refine WL.nil ?_)
  all_goals (repeat' (with_reducible first | refine thenP_n ?_ | refine blockP_n ?_))
  all_goals (refine WC.sub [(0, _), (1, _), (5, _)] ⟨rfl, rfl, rfl, trivial⟩ ?_)
  all_goals (first | refine WC.condB_t 1 rfl ?_ | refine WC.condB_f 2 rfl ?_ | (refine WC.condB 1 2 rfl (fun hb => ?_) (fun hb => ?_) <;> (first | replace hb := of_decide_eq_true hb | replace hb := of_decide_eq_false hb | replace hb := of_decide_eq_false (nt hb) | replace hb := of_decide_eq_true (nf hb) | skip)))
  all_goals (first
    | (fail_if_success (refine Br.mk (i := 1) ?_))
    | (refine Br.mk (i := 1) ?_
       all_goals (refine WC.seq ?_)
       all_goals (refine WC.region ?_)
       all_goals (refine WL.step (ok_assign rfl) rfl rfl rfl ?_)
       all_goals (refine WL.nil ?_)
       all_goals (repeat' (with_reducible first | refine thenP_n ?_ | refine blockP_n ?_))
       all_goals (refine WC.ret ?_)
       all_goals (repeat' (with_reducible first | refine thenP_r ?_ | refine blockP_r ?_))
       all_goals (refine retP_1 _ ⟨rfl, trivial⟩ ?_)
       all_goals (exact ⟨rfl, rfl⟩)
       skip))
  all_goals (first
    | (fail_if_success (refine Br.mk (i := 2) ?_))
    | (refine Br.mk (i := 2) ?_
       all_goals (refine WC.seq ?_)
       all_goals (refine WC.region ?_)
       all_goals (refine WL.step (ok_move rfl) rfl rfl rfl ?_)
       all_goals (refine WL.step (ok_move rfl) rfl rfl rfl ?_)
       all_goals (fail "no contract for call of (*remuda/lru.LRU).Has at 3.2")
       all_goals (refine WL.step (ok_assign rfl) rfl rfl rfl ?_)
       all_goals (refine WL.nil ?_)
       all_goals (repeat' (with_reducible first | refine thenP_n ?_ | refine blockP_n ?_))
       all_goals (refine WC.sub [(0, _), (1, _), (15, _)] ⟨rfl, rfl, rfl, trivial⟩ ?_)
       all_goals (first | refine WC.condB_t 3 rfl ?_ | refine WC.condB_f 4 rfl ?_ | (refine WC.condB 3 4 rfl (fun hb => ?_) (fun hb => ?_) <;> (first | replace hb := of_decide_eq_true hb | replace hb := of_decide_eq_false hb | replace hb := of_decide_eq_false (nt hb) | replace hb := of_decide_eq_true (nf hb) | skip)))
       all_goals (first
         | (fail_if_success (refine Br.mk (i := 3) ?_))
         | (refine Br.mk (i := 3) ?_
            all_goals (refine WC.seq ?_)
            all_goals (refine WC.region ?_)
            all_goals (refine WL.step (ok_assign rfl) rfl rfl rfl ?_)
            all_goals (refine WL.nil ?_)
            all_goals (repeat' (with_reducible first | refine thenP_n ?_ | refine blockP_n ?_))
            all_goals (refine WC.ret ?_)
            all_goals (repeat' (with_reducible first | refine thenP_r ?_ | refine blockP_r ?_))
            all_goals (refine retP_1 _ ⟨rfl, trivial⟩ ?_)
            all_goals (exact ⟨rfl, rfl⟩)
            skip))
       all_goals (first
         | (fail_if_success (refine Br.mk (i := 4) ?_))
         | (refine Br.mk (i := 4) ?_
            all_goals (refine WC.seq ?_)
            all_goals (refine WC.drawE fol (by kernel_rfl) ?_)
            all_goals (refine WQ.stepE (ok_move rfl) rfl rfl rfl ?_)
            all_goals (refine WQ.stepE (ok_nilCheck rfl) rfl rfl rfl ?_)
            all_goals (refine WQ.stepE (ok_fieldAddr rfl Try.underlying82 rfl (fun w => Try.sizeOf42 w)) rfl rfl rfl ?_)
            all_goals (refine WQ.stepE (ok_load (fun w => Try.isAgg42 w) rfl (by first | assumption | exact cell_blk (by assumption) rfl)) rfl rfl rfl ?_)
            all_goals (refine WQ.stepE (ok_lenL rfl Try.underlying42 rfl) rfl rfl rfl ?_)
            all_goals (refine WQ.stepE (ok_move rfl) rfl rfl rfl ?_)
            all_goals (refine WQ.stepE (ok_nilCheck rfl) rfl rfl rfl ?_)
            all_goals (refine WQ.stepE (ok_fieldAddr rfl Try.underlying82 rfl (fun w => Try.sizeOf3 w)) rfl rfl rfl ?_)
            all_goals (refine WQ.stepE (ok_load (fun w => Try.isAgg3 w) rfl (by first | assumption | exact cell_blk (by assumption) rfl)) rfl rfl rfl ?_)
            all_goals (first | (refine WQ.stepE (OkP.bool_t (by omega) (ok_eql rfl rfl)) rfl rfl rfl ?_) | (refine WQ.stepE (OkP.bool_f (by omega) (ok_eql rfl rfl)) rfl rfl rfl ?_) | (refine WQ.stepE (ok_eql rfl rfl) rfl rfl rfl ?_))
            all_goals (refine WQ.stepE (ok_assign rfl) rfl rfl rfl ?_)
            all_goals (refine WQ.nil ?_)
            all_goals (repeat' (with_reducible first | refine thenP_n ?_ | refine blockP_n ?_))
            all_goals (refine WC.sub [(0, _), (1, _), (19, _)] ⟨rfl, rfl, rfl, trivial⟩ ?_)
            all_goals (first | refine WC.condB_t 5 rfl ?_ | refine WC.condB_f 6 rfl ?_ | (refine WC.condB 5 6 rfl (fun hb => ?_) (fun hb => ?_) <;> (first | replace hb := of_decide_eq_true hb | replace hb := of_decide_eq_false hb | replace hb := of_decide_eq_false (nt hb) | replace hb := of_decide_eq_true (nf hb) | skip)))
            all_goals (first
              | (fail_if_success (refine Br.mk (i := 5) ?_))
              | (refine Br.mk (i := 5) ?_
                 all_goals (refine WC.seq ?_)
                 all_goals (refine WC.region ?_)
                 all_goals (refine WL.step (ok_assign rfl) rfl rfl rfl ?_)
                 all_goals (refine WL.nil ?_)
                 all_goals (repeat' (with_reducible first | refine thenP_n ?_ | refine blockP_n ?_))
                 all_goals (refine WC.ret ?_)
                 all_goals (repeat' (with_reducible first | refine thenP_r ?_ | refine blockP_r ?_))
                 all_goals (refine retP_1 _ ⟨rfl, trivial⟩ ?_)
                 all_goals (exact ⟨rfl, rfl⟩)
                 skip))
            all_goals (first
              | (fail_if_success (refine Br.mk (i := 6) ?_))
              | (refine Br.mk (i := 6) ?_
                 all_goals (refine WC.skip ?_)
                 skip))
            skip))
       skip))
  all_goals (repeat' (with_reducible first | refine thenP_n ?_ | refine blockP_n ?_))
  all_goals (refine WC.seq ?_)
  all_goals (refine WC.region ?_)
  all_goals (refine WL.step (ok_move rfl) rfl rfl rfl ?_)
  all_goals (refine WL.step (ok_move rfl) rfl rfl rfl ?_)
  all_goals (refine WL.step (ok_nilCheck rfl) rfl rfl rfl ?_)
  all_goals (refine WL.step (ok_fieldAddr rfl Try.underlying82 rfl (fun w => Try.sizeOf42 w)) rfl rfl rfl ?_)
  all_goals (refine WL.step (ok_load (fun w => Try.isAgg42 w) rfl (by first | assumption | exact cell_blk (by assumption) rfl)) rfl rfl rfl ?_)
  all_goals (refine WL.step (ok_move rfl) rfl rfl rfl ?_)
  all_goals (refine WL.stepR (okE_buildSlice (vs := [_]) (cs := [_]) (fun | [a0] => [a0] | _ => []) Try.underlying42 rfl rfl (by kernel_rfl)) rfl rfl rfl ?_
             rintro _ h1 ⟨b1, rfl, hg1, hb1, hx1⟩)
  all_goals (refine WL.stepR (ok_append (sz := 1) (bytes := 8) rfl Try.underlying42 (show Try.prog.info? 3 = some Try.t3 by kernel_rfl) rfl rfl rfl rfl (by decide) rfl rfl (by assumption) (by first | assumption | exact rd_blk (by assumption) rfl) (by simp [Value.oneCell']) (by simp only [maxLen]; omega) (by omega)) rfl rfl rfl ?_
             rintro v1 h1 ⟨ho1, hx1, hl1⟩)
  all_goals (refine WL.step (ok_nilCheck rfl) rfl rfl rfl ?_)
  all_goals (refine WL.step (ok_fieldAddr rfl Try.underlying82 rfl (fun w => Try.sizeOf42 w)) rfl rfl rfl ?_)
  all_goals (refine WL.stepR0 (okE_store (fun w => Try.sizeOf42 w) rfl rfl (by assumption) (Nat.le_of_ble_eq_true rfl) rfl rfl) rfl rfl ?_
             rintro _ h1 ⟨hb1, hx1⟩)
  all_goals (refine WL.nil ?_)
  all_goals (repeat' (with_reducible first | refine thenP_n ?_ | refine blockP_n ?_))
  all_goals (refine WC.sub [] trivial ?_)
  all_goals (refine WC.seq ?_)
  all_goals (refine WC.region ?_)
  all_goals (refine WL.step (ok_assign rfl) rfl rfl rfl ?_)
  all_goals (refine WL.nil ?_)
  all_goals (repeat' (with_reducible first | refine thenP_n ?_ | refine blockP_n ?_))
  all_goals (refine WC.ret ?_)
  all_goals (repeat' (with_reducible first | refine thenP_r ?_ | refine blockP_r ?_))
  all_goals (refine retP_1 _ ⟨rfl, trivial⟩ ?_)
  all_goals (exact ⟨rfl, rfl⟩)
set_option maxRecDepth 100000 in
theorem add_zero {h : Heap} {b : Nat} (r : Lr 82 h b (.slice none 0 0) 0 []) (id : Int) : CallsH Try.prog 39 ⟨[.pointer (some ⟨b, 0, none⟩), In id]⟩ h fun u h' => u = In 2 ∧ h' = h := by
  obtain ⟨hb, ho⟩ := r
  refine calls [(0, _), (1, _)] Try.func39 rfl Try.ntmps39 rfl ⟨rfl, rfl, trivial⟩ ?_
  all_goals (refine WC.seq ?_)
  all_goals (refine WC.region ?_)
  all_goals (refine WL.step (ok_assign rfl) rfl rfl rfl ?_)
  all_goals (refine WL.nil ?_)
  all_goals (repeat' (with_reducible first | refine thenP_n ?_ | refine blockP_n ?_))
  all_goals (refine WC.seq ?_)
  all_goals (refine WC.block ?_)
  all_goals (refine WC.seq ?_)
  all_goals (refine WC.region ?_)
  all_goals (refine WL.step (ok_move rfl) rfl rfl rfl ?_)
  all_goals (refine WL.step (ok_eqlPn Try.underlying65 rfl rfl) rfl rfl rfl ?_)
  all_goals (refine WL.step (ok_move rfl) rfl rfl rfl ?_)
  all_goals (try ((fail_if_success (refine WL.part 8 (b := true) rfl (fun _ => ?_) (fun _ => ?_))); (fail_if_success (refine WL.part 8 (b := false) rfl (fun _ => ?_) (fun _ => ?_))); (refine WL.part 8 rfl (fun hb => ?_) (fun hb => ?_) <;> (first | replace hb := of_decide_eq_true hb | replace hb := of_decide_eq_false hb | replace hb := of_decide_eq_false (nt hb) | replace hb := of_decide_eq_true (nf hb) | skip))))
  all_goals (first | (refine WL.pass rfl rfl rfl ?_) | (refine WL.step (ok_move rfl) rfl rfl rfl ?_))
  all_goals (first | (refine WL.pass rfl rfl rfl ?_) | (refine WL.step (ok_nilCheck rfl) rfl rfl rfl ?_))
  all_goals (first | (refine WL.pass rfl rfl rfl ?_) | (refine WL.step (ok_fieldAddr rfl Try.underlying82 rfl (fun w => Try.sizeOf3 w)) rfl rfl rfl ?_))
  all_goals (first | (refine WL.pass rfl rfl rfl ?_) | (refine WL.step (ok_load (fun w => Try.isAgg3 w) rfl (by first | assumption | exact cell_blk (by assumption) rfl)) rfl rfl rfl ?_))
  all_goals (first | (refine WL.pass rfl rfl rfl ?_) | (first | (refine WL.step (OkP.bool_t (by omega) (ok_eql rfl rfl)) rfl rfl rfl ?_) | (refine WL.step (OkP.bool_f (by omega) (ok_eql rfl rfl)) rfl rfl rfl ?_) | (refine WL.step (ok_eql rfl rfl) rfl rfl rfl ?_)))
  all_goals (first | (refine WL.step (ok_pick_t rfl rfl) rfl rfl rfl ?_) | (refine WL.step (ok_pick_f rfl rfl) rfl rfl rfl ?_))
  all_goals (refine WL.step (ok_assign rfl) rfl rfl rfl ?_)
  all_goals (refine WL.nil ?_)
  all_goals (repeat' (with_reducible first | refine thenP_n ?_ | refine blockP_n ?_))
  all_goals (refine WC.sub [(0, _), (1, _), (5, _)] ⟨rfl, rfl, rfl, trivial⟩ ?_)
  all_goals (first | refine WC.condB_t 1 rfl ?_ | refine WC.condB_f 2 rfl ?_ | (refine WC.condB 1 2 rfl (fun hb => ?_) (fun hb => ?_) <;> (first | replace hb := of_decide_eq_true hb | replace hb := of_decide_eq_false hb | replace hb := of_decide_eq_false (nt hb) | replace hb := of_decide_eq_true (nf hb) | skip)))
  all_goals (first
    | (fail_if_success (refine Br.mk (i := 1) ?_))
    | (refine Br.mk (i := 1) ?_
       all_goals (refine WC.seq ?_)
       all_goals (refine WC.region ?_)
       all_goals (refine WL.step (ok_assign rfl) rfl rfl rfl ?_)
       all_goals (refine WL.nil ?_)
       all_goals (repeat' (with_reducible first | refine thenP_n ?_ | refine blockP_n ?_))
       all_goals (refine WC.ret ?_)
       all_goals (repeat' (with_reducible first | refine thenP_r ?_ | refine blockP_r ?_))
       all_goals (refine retP_1 _ ⟨rfl, trivial⟩ ?_)
       all_goals (exact ⟨rfl, rfl⟩)
       skip))
  all_goals (first
    | (fail_if_success (refine Br.mk (i := 2) ?_))
    | (refine Br.mk (i := 2) ?_
       all_goals (refine WC.seq ?_)
       all_goals (refine WC.region ?_)
       all_goals (refine WL.step (ok_move rfl) rfl rfl rfl ?_)
       all_goals (refine WL.step (ok_move rfl) rfl rfl rfl ?_)
       all_goals (fail "no contract for call of (*remuda/lru.LRU).Has at 3.2")
       all_goals (refine WL.step (ok_assign rfl) rfl rfl rfl ?_)
       all_goals (refine WL.nil ?_)
       all_goals (repeat' (with_reducible first | refine thenP_n ?_ | refine blockP_n ?_))
       all_goals (refine WC.sub [(0, _), (1, _), (15, _)] ⟨rfl, rfl, rfl, trivial⟩ ?_)
       all_goals (first | refine WC.condB_t 3 rfl ?_ | refine WC.condB_f 4 rfl ?_ | (refine WC.condB 3 4 rfl (fun hb => ?_) (fun hb => ?_) <;> (first | replace hb := of_decide_eq_true hb | replace hb := of_decide_eq_false hb | replace hb := of_decide_eq_false (nt hb) | replace hb := of_decide_eq_true (nf hb) | skip)))
       all_goals (first
         | (fail_if_success (refine Br.mk (i := 3) ?_))
         | (refine Br.mk (i := 3) ?_
            all_goals (refine WC.seq ?_)
            all_goals (refine WC.region ?_)
            all_goals (refine WL.step (ok_assign rfl) rfl rfl rfl ?_)
            all_goals (refine WL.nil ?_)
            all_goals (repeat' (with_reducible first | refine thenP_n ?_ | refine blockP_n ?_))
            all_goals (refine WC.ret ?_)
            all_goals (repeat' (with_reducible first | refine thenP_r ?_ | refine blockP_r ?_))
            all_goals (refine retP_1 _ ⟨rfl, trivial⟩ ?_)
            all_goals (exact ⟨rfl, rfl⟩)
            skip))
       all_goals (first
         | (fail_if_success (refine Br.mk (i := 4) ?_))
         | (refine Br.mk (i := 4) ?_
            all_goals (refine WC.seq ?_)
            all_goals (refine WC.drawE fol (by kernel_rfl) ?_)
            all_goals (refine WQ.stepE (ok_move rfl) rfl rfl rfl ?_)
            all_goals (refine WQ.stepE (ok_nilCheck rfl) rfl rfl rfl ?_)
            all_goals (refine WQ.stepE (ok_fieldAddr rfl Try.underlying82 rfl (fun w => Try.sizeOf42 w)) rfl rfl rfl ?_)
            all_goals (refine WQ.stepE (ok_load (fun w => Try.isAgg42 w) rfl (by first | assumption | exact cell_blk (by assumption) rfl)) rfl rfl rfl ?_)
            all_goals (refine WQ.stepE (ok_lenL rfl Try.underlying42 rfl) rfl rfl rfl ?_)
            all_goals (refine WQ.stepE (ok_move rfl) rfl rfl rfl ?_)
            all_goals (refine WQ.stepE (ok_nilCheck rfl) rfl rfl rfl ?_)
            all_goals (refine WQ.stepE (ok_fieldAddr rfl Try.underlying82 rfl (fun w => Try.sizeOf3 w)) rfl rfl rfl ?_)
            all_goals (refine WQ.stepE (ok_load (fun w => Try.isAgg3 w) rfl (by first | assumption | exact cell_blk (by assumption) rfl)) rfl rfl rfl ?_)
            all_goals (first | (refine WQ.stepE (OkP.bool_t (by omega) (ok_eql rfl rfl)) rfl rfl rfl ?_) | (refine WQ.stepE (OkP.bool_f (by omega) (ok_eql rfl rfl)) rfl rfl rfl ?_) | (refine WQ.stepE (ok_eql rfl rfl) rfl rfl rfl ?_))
            all_goals (refine WQ.stepE (ok_assign rfl) rfl rfl rfl ?_)
            all_goals (refine WQ.nil ?_)
            all_goals (repeat' (with_reducible first | refine thenP_n ?_ | refine blockP_n ?_))
            all_goals (refine WC.sub [(0, _), (1, _), (19, _)] ⟨rfl, rfl, rfl, trivial⟩ ?_)
            all_goals (first | refine WC.condB_t 5 rfl ?_ | refine WC.condB_f 6 rfl ?_ | (refine WC.condB 5 6 rfl (fun hb => ?_) (fun hb => ?_) <;> (first | replace hb := of_decide_eq_true hb | replace hb := of_decide_eq_false hb | replace hb := of_decide_eq_false (nt hb) | replace hb := of_decide_eq_true (nf hb) | skip)))
            all_goals (first
              | (fail_if_success (refine Br.mk (i := 5) ?_))
              | (refine Br.mk (i := 5) ?_
                 all_goals (refine WC.seq ?_)
                 all_goals (refine WC.region ?_)
                 all_goals (refine WL.step (ok_assign rfl) rfl rfl rfl ?_)
                 all_goals (refine WL.nil ?_)
                 all_goals (repeat' (with_reducible first | refine thenP_n ?_ | refine blockP_n ?_))
                 all_goals (refine WC.ret ?_)
                 all_goals (repeat' (with_reducible first | refine thenP_r ?_ | refine blockP_r ?_))
                 all_goals (refine retP_1 _ ⟨rfl, trivial⟩ ?_)
                 all_goals (exact ⟨rfl, rfl⟩)
                 skip))
            all_goals (first
              | (fail_if_success (refine Br.mk (i := 6) ?_))
              | (refine Br.mk (i := 6) ?_
                 all_goals (refine WC.skip ?_)
                 skip))
            skip))
       skip))
  all_goals (repeat' (with_reducible first | refine thenP_n ?_ | refine blockP_n ?_))
  all_goals (refine WC.seq ?_)
  all_goals (refine WC.region ?_)
  all_goals (refine WL.step (ok_move rfl) rfl rfl rfl ?_)
  all_goals (refine WL.step (ok_move rfl) rfl rfl rfl ?_)
  all_goals (refine WL.step (ok_nilCheck rfl) rfl rfl rfl ?_)
  all_goals (refine WL.step (ok_fieldAddr rfl Try.underlying82 rfl (fun w => Try.sizeOf42 w)) rfl rfl rfl ?_)
  all_goals (refine WL.step (ok_load (fun w => Try.isAgg42 w) rfl (by first | assumption | exact cell_blk (by assumption) rfl)) rfl rfl rfl ?_)
  all_goals (refine WL.step (ok_move rfl) rfl rfl rfl ?_)
  all_goals (refine WL.stepR (okE_buildSlice (vs := [_]) (cs := [_]) (fun | [a0] => [a0] | _ => []) Try.underlying42 rfl rfl (by kernel_rfl)) rfl rfl rfl ?_
             rintro _ h1 ⟨b1, rfl, hg1, hb1, hx1⟩)
  all_goals (refine WL.stepR (ok_append (sz := 1) (bytes := 8) rfl Try.underlying42 (show Try.prog.info? 3 = some Try.t3 by kernel_rfl) rfl rfl rfl rfl (by decide) rfl rfl (by assumption) (by first | assumption | exact rd_blk (by assumption) rfl) (by simp [Value.oneCell']) (by simp only [maxLen]; omega) (by omega)) rfl rfl rfl ?_
             rintro v1 h1 ⟨ho1, hx1, hl1⟩)
  all_goals (refine WL.step (ok_nilCheck rfl) rfl rfl rfl ?_)
  all_goals (refine WL.step (ok_fieldAddr rfl Try.underlying82 rfl (fun w => Try.sizeOf42 w)) rfl rfl rfl ?_)
  all_goals (refine WL.stepR0 (okE_store (fun w => Try.sizeOf42 w) rfl rfl (by assumption) (Nat.le_of_ble_eq_true rfl) rfl rfl) rfl rfl ?_
             rintro _ h1 ⟨hb1, hx1⟩)
  all_goals (refine WL.nil ?_)
  all_goals (repeat' (with_reducible first | refine thenP_n ?_ | refine blockP_n ?_))
  all_goals (refine WC.sub [] trivial ?_)
  all_goals (refine WC.seq ?_)
  all_goals (refine WC.region ?_)
  all_goals (refine WL.step (ok_assign rfl) rfl rfl rfl ?_)
  all_goals (refine WL.nil ?_)
  all_goals (repeat' (with_reducible first | refine thenP_n ?_ | refine blockP_n ?_))
  all_goals (refine WC.ret ?_)
  all_goals (repeat' (with_reducible first | refine thenP_r ?_ | refine blockP_r ?_))
  all_goals (refine retP_1 _ ⟨rfl, trivial⟩ ?_)
  all_goals (exact ⟨rfl, rfl⟩)

set_option maxRecDepth 100000 in
theorem nobody_law {h : Heap} (id : Int) :
    CallsH Try.prog 7 ⟨[In id]⟩ h fun u h' => u = .bool true ∧ Ext No h h' := by
  refine calls [(0, _)] Try.func7 rfl Try.ntmps7 rfl ⟨rfl, trivial⟩ ?_
  all_goals (refine WC.seq ?_)
  all_goals (refine WC.region ?_)
  all_goals (refine WL.step (ok_assign rfl) rfl rfl rfl ?_)
  all_goals (refine WL.nil ?_)
  all_goals (repeat' (with_reducible first | refine thenP_n ?_ | refine blockP_n ?_))
  all_goals (refine WC.seq ?_)
  all_goals (refine WC.region ?_)
  all_goals (refine WL.step (ok_assign rfl) rfl rfl rfl ?_)
  all_goals (refine WL.nil ?_)
  all_goals (repeat' (with_reducible first | refine thenP_n ?_ | refine blockP_n ?_))
  all_goals (refine WC.seq ?_)
  all_goals (refine WC.region ?_)
  all_goals (refine WL.stepR (okE_alloc (fun w => Try.zeroValue82 w)) rfl rfl rfl ?_
             rintro _ h1 ⟨b1, rfl, hg1, hb1, hx1⟩)
  all_goals (have r1 : Lr 82 h1 b1 (.slice none 0 0) 0 [] := ⟨hb1, Own.nil _ _ _⟩)
  all_goals (refine WL.nil ?_)
  all_goals (repeat' (with_reducible first | refine thenP_n ?_ | refine blockP_n ?_))
  all_goals (refine WC.seq ?_)
  all_goals (refine WC.region ?_)
  all_goals (refine WL.step (ok_move rfl) rfl rfl rfl ?_)
  all_goals (refine WL.call (vs := [_]) rfl (fun a w => Try.call45 a w) rfl (oldest_nil) rfl rfl rfl ?_
             rintro _ hz ⟨rfl, _⟩
             subst hz)
  all_goals (refine WL.step (ok_move rfl) rfl rfl rfl ?_)
  all_goals (refine WL.step (ok_extract rfl rfl) rfl rfl rfl ?_)
  all_goals (refine WL.step (ok_extract rfl rfl) rfl rfl rfl ?_)
  all_goals (refine WL.step (ok_assign rfl) rfl rfl rfl ?_)
  all_goals (refine WL.step (ok_assign rfl) rfl rfl rfl ?_)
  all_goals (refine WL.nil ?_)
  all_goals (repeat' (with_reducible first | refine thenP_n ?_ | refine blockP_n ?_))
  all_goals (refine WC.sub [(0, _), (3, _), (4, _), (6, _)] ⟨rfl, rfl, rfl, rfl, trivial⟩ ?_)
  all_goals (refine WC.seq ?_)
  all_goals (refine WC.region ?_)
  all_goals (refine WL.step (ok_move rfl) rfl rfl rfl ?_)
  all_goals (refine WL.step (ok_move rfl) rfl rfl rfl ?_)
  all_goals (refine WL.call (vs := [_, _]) rfl (fun a w => Try.call39 a w) rfl (add_nil id) rfl rfl rfl ?_
             rintro _ hz ⟨rfl, _⟩
             subst hz)
  all_goals (first | (refine WL.step (OkP.bool_t (by omega) (ok_eql rfl rfl)) rfl rfl rfl ?_) | (refine WL.step (OkP.bool_f (by omega) (ok_eql rfl rfl)) rfl rfl rfl ?_) | (refine WL.step (ok_eql rfl rfl) rfl rfl rfl ?_))
  all_goals (refine WL.step (ok_move rfl) rfl rfl rfl ?_)
  all_goals (try ((fail_if_success (refine WL.part 16 (b := true) rfl (fun _ => ?_) (fun _ => ?_))); (fail_if_success (refine WL.part 16 (b := false) rfl (fun _ => ?_) (fun _ => ?_))); (refine WL.part 16 rfl (fun hb => ?_) (fun hb => ?_) <;> (first | replace hb := of_decide_eq_true hb | replace hb := of_decide_eq_false hb | replace hb := of_decide_eq_false (nt hb) | replace hb := of_decide_eq_true (nf hb) | skip))))
  all_goals (first | (refine WL.pass rfl rfl rfl ?_) | (refine WL.step (ok_move rfl) rfl rfl rfl ?_))
  all_goals (first
               | (refine WL.pass rfl rfl rfl ?_)
               | (refine WL.call (vs := [_, _]) rfl (fun a w => Try.call39 a w) rfl (add_zero r1 id) rfl rfl rfl ?_
                  rintro _ hz ⟨rfl, _⟩
                  subst hz))
  all_goals (first | (refine WL.pass rfl rfl rfl ?_) | (first | (refine WL.step (OkP.bool_t (by omega) (ok_eql rfl rfl)) rfl rfl rfl ?_) | (refine WL.step (OkP.bool_f (by omega) (ok_eql rfl rfl)) rfl rfl rfl ?_) | (refine WL.step (ok_eql rfl rfl) rfl rfl rfl ?_)))
  all_goals (first | (refine WL.step (ok_pick_t rfl rfl) rfl rfl rfl ?_) | (refine WL.step (ok_pick_f rfl rfl) rfl rfl rfl ?_))
  all_goals (refine WL.step (ok_move rfl) rfl rfl rfl ?_)
  all_goals (try ((fail_if_success (refine WL.part 21 (b := true) rfl (fun _ => ?_) (fun _ => ?_))); (fail_if_success (refine WL.part 21 (b := false) rfl (fun _ => ?_) (fun _ => ?_))); (refine WL.part 21 rfl (fun hb => ?_) (fun hb => ?_) <;> (first | replace hb := of_decide_eq_true hb | replace hb := of_decide_eq_false hb | replace hb := of_decide_eq_false (nt hb) | replace hb := of_decide_eq_true (nf hb) | skip))))
  all_goals (first | (refine WL.pass rfl rfl rfl ?_) | (refine WL.step (ok_move rfl) rfl rfl rfl ?_))
  all_goals (first | (refine WL.pass rfl rfl rfl ?_) | (refine WL.step (ok_move rfl) rfl rfl rfl ?_))
  all_goals (first
               | (refine WL.pass rfl rfl rfl ?_)
               | (refine WL.call (vs := [_, _]) rfl (fun a w => Try.call41 a w) rfl (touch_nil id) rfl rfl rfl ?_
                  rintro _ hz ⟨rfl, _⟩
                  subst hz))
  all_goals (first | (refine WL.pass rfl rfl rfl ?_) | (refine WL.step (ok_not rfl) rfl rfl rfl ?_))
  all_goals (first | (refine WL.step (ok_pick_t rfl rfl) rfl rfl rfl ?_) | (refine WL.step (ok_pick_f rfl rfl) rfl rfl rfl ?_))
  all_goals (refine WL.step (ok_move rfl) rfl rfl rfl ?_)
  all_goals (try ((fail_if_success (refine WL.part 27 (b := true) rfl (fun _ => ?_) (fun _ => ?_))); (fail_if_success (refine WL.part 27 (b := false) rfl (fun _ => ?_) (fun _ => ?_))); (refine WL.part 27 rfl (fun hb => ?_) (fun hb => ?_) <;> (first | replace hb := of_decide_eq_true hb | replace hb := of_decide_eq_false hb | replace hb := of_decide_eq_false (nt hb) | replace hb := of_decide_eq_true (nf hb) | skip))))
  all_goals (first | (refine WL.pass rfl rfl rfl ?_) | (refine WL.step (ok_move rfl) rfl rfl rfl ?_))
  all_goals (first
               | (refine WL.pass rfl rfl rfl ?_)
               | (refine WL.call (vs := [_, _]) rfl (fun a w => Try.call43 a w) rfl (remove_any r1 id (by decide) (by decide)) rfl rfl rfl ?_
                  rintro _ h2 ⟨rfl, v2, r2, hx2, hk2⟩))
  all_goals (have hX2 := ext_all hx1 hx2 hg1 (by simp [Value.ownBlock]))
  all_goals (first | (refine WL.pass rfl rfl rfl ?_) | (refine WL.step (ok_not rfl) rfl rfl rfl ?_))
  all_goals (first | (refine WL.step (ok_pick_t rfl rfl) rfl rfl rfl ?_) | (refine WL.step (ok_pick_f rfl rfl) rfl rfl rfl ?_))
  all_goals (refine WL.step (ok_move rfl) rfl rfl rfl ?_)
  all_goals (try ((fail_if_success (refine WL.part 32 (b := true) rfl (fun _ => ?_) (fun _ => ?_))); (fail_if_success (refine WL.part 32 (b := false) rfl (fun _ => ?_) (fun _ => ?_))); (refine WL.part 32 rfl (fun hb => ?_) (fun hb => ?_) <;> (first | replace hb := of_decide_eq_true hb | replace hb := of_decide_eq_false hb | replace hb := of_decide_eq_false (nt hb) | replace hb := of_decide_eq_true (nf hb) | skip))))
  all_goals (first | (refine WL.pass rfl rfl rfl ?_) | (refine WL.step (ok_move rfl) rfl rfl rfl ?_))
  all_goals (first | (refine WL.pass rfl rfl rfl ?_) | (refine WL.step (ok_move rfl) rfl rfl rfl ?_))
  all_goals (first
               | (refine WL.pass rfl rfl rfl ?_)
               | (refine WL.call (vs := [_, _]) rfl (fun a w => Try.call49 a w) rfl (has_nil id) rfl rfl rfl ?_
                  rintro _ hz ⟨rfl, _⟩
                  subst hz))
  all_goals (first | (refine WL.pass rfl rfl rfl ?_) | (refine WL.step (ok_not rfl) rfl rfl rfl ?_))
  all_goals (first | (refine WL.step (ok_pick_t rfl rfl) rfl rfl rfl ?_) | (refine WL.step (ok_pick_f rfl rfl) rfl rfl rfl ?_))
  all_goals (refine WL.step (ok_move rfl) rfl rfl rfl ?_)
  all_goals (try ((fail_if_success (refine WL.part 38 (b := true) rfl (fun _ => ?_) (fun _ => ?_))); (fail_if_success (refine WL.part 38 (b := false) rfl (fun _ => ?_) (fun _ => ?_))); (refine WL.part 38 rfl (fun hb => ?_) (fun hb => ?_) <;> (first | replace hb := of_decide_eq_true hb | replace hb := of_decide_eq_false hb | replace hb := of_decide_eq_false (nt hb) | replace hb := of_decide_eq_true (nf hb) | skip))))
  all_goals (first | (refine WL.pass rfl rfl rfl ?_) | (refine WL.step (ok_move rfl) rfl rfl rfl ?_))
  all_goals (first | (refine WL.pass rfl rfl rfl ?_) | (refine WL.step (ok_not rfl) rfl rfl rfl ?_))
  all_goals (first | (refine WL.step (ok_pick_t rfl rfl) rfl rfl rfl ?_) | (refine WL.step (ok_pick_f rfl rfl) rfl rfl rfl ?_))
  all_goals (refine WL.step (ok_move rfl) rfl rfl rfl ?_)
  all_goals (try ((fail_if_success (refine WL.part 42 (b := true) rfl (fun _ => ?_) (fun _ => ?_))); (fail_if_success (refine WL.part 42 (b := false) rfl (fun _ => ?_) (fun _ => ?_))); (refine WL.part 42 rfl (fun hb => ?_) (fun hb => ?_) <;> (first | replace hb := of_decide_eq_true hb | replace hb := of_decide_eq_false hb | replace hb := of_decide_eq_false (nt hb) | replace hb := of_decide_eq_true (nf hb) | skip))))
  all_goals (first
               | (refine WL.pass rfl rfl rfl ?_)
               | (refine WL.call (vs := [_]) rfl (fun a w => Try.call47 a w) rfl (list_lru r2 (by simp [rmL])) rfl rfl rfl ?_
                  rintro v6 h6 ⟨ho6, hx6, hl6⟩))
  all_goals (obtain ⟨A6, c6, rfl, _⟩ := ho6.slice)
  all_goals (first | (refine WL.pass rfl rfl rfl ?_) | (refine WL.step (ok_lenL rfl Try.underlying42 rfl) rfl rfl rfl ?_))
  all_goals (first | (refine WL.pass rfl rfl rfl ?_) | (first | (refine WL.step (OkP.bool_t (by omega) (ok_eql rfl rfl)) rfl rfl rfl ?_) | (refine WL.step (OkP.bool_f (by omega) (ok_eql rfl rfl)) rfl rfl rfl ?_) | (refine WL.step (ok_eql rfl rfl) rfl rfl rfl ?_)))
  all_goals (first | (refine WL.step (ok_pick_t rfl rfl) rfl rfl rfl ?_) | (refine WL.step (ok_pick_f rfl rfl) rfl rfl rfl ?_))
  all_goals (refine WL.step (ok_move rfl) rfl rfl rfl ?_)
  all_goals (try ((fail_if_success (refine WL.part 47 (b := true) rfl (fun _ => ?_) (fun _ => ?_))); (fail_if_success (refine WL.part 47 (b := false) rfl (fun _ => ?_) (fun _ => ?_))); (refine WL.part 47 rfl (fun hb => ?_) (fun hb => ?_) <;> (first | replace hb := of_decide_eq_true hb | replace hb := of_decide_eq_false hb | replace hb := of_decide_eq_false (nt hb) | replace hb := of_decide_eq_true (nf hb) | skip))))
  all_goals (first | (refine WL.pass rfl rfl rfl ?_) | (refine WL.step (ok_move rfl) rfl rfl rfl ?_))
  all_goals (first
               | (refine WL.pass rfl rfl rfl ?_)
               | (refine WL.call (vs := [_]) rfl (fun a w => Try.call48 a w) rfl (len_nil) rfl rfl rfl ?_
                  rintro _ hz ⟨rfl, _⟩
                  subst hz))
  all_goals (first | (refine WL.pass rfl rfl rfl ?_) | (first | (refine WL.step (OkP.bool_t (by omega) (ok_eql rfl rfl)) rfl rfl rfl ?_) | (refine WL.step (OkP.bool_f (by omega) (ok_eql rfl rfl)) rfl rfl rfl ?_) | (refine WL.step (ok_eql rfl rfl) rfl rfl rfl ?_)))
  all_goals (first | (refine WL.step (ok_pick_t rfl rfl) rfl rfl rfl ?_) | (refine WL.step (ok_pick_f rfl rfl) rfl rfl rfl ?_))
  all_goals (refine WL.step (ok_move rfl) rfl rfl rfl ?_)
  all_goals (try ((fail_if_success (refine WL.part 52 (b := true) rfl (fun _ => ?_) (fun _ => ?_))); (fail_if_success (refine WL.part 52 (b := false) rfl (fun _ => ?_) (fun _ => ?_))); (refine WL.part 52 rfl (fun hb => ?_) (fun hb => ?_) <;> (first | replace hb := of_decide_eq_true hb | replace hb := of_decide_eq_false hb | replace hb := of_decide_eq_false (nt hb) | replace hb := of_decide_eq_true (nf hb) | skip))))
  all_goals (first
               | (refine WL.pass rfl rfl rfl ?_)
               | (refine WL.call (vs := []) rfl (fun a w => Try.call51 a w) rfl (awake17) rfl rfl rfl ?_
                  rintro _ h7 ⟨rfl, hx7⟩))
  all_goals (first | (refine WL.step (ok_pick_t rfl rfl) rfl rfl rfl ?_) | (refine WL.step (ok_pick_f rfl rfl) rfl rfl rfl ?_))
  all_goals (refine WL.step (ok_assign rfl) rfl rfl rfl ?_)
  all_goals (refine WL.nil ?_)
  all_goals (repeat' (with_reducible first | refine thenP_n ?_ | refine blockP_n ?_))
  all_goals (refine WC.sub [(2, _)] ⟨rfl, trivial⟩ ?_)
  all_goals (refine WC.ret ?_)
  all_goals (repeat' (with_reducible first | refine thenP_r ?_ | refine blockP_r ?_))
  all_goals (refine retP_1 _ ⟨rfl, trivial⟩ ?_)
  all_goals (exact ⟨rfl, hX2.trans (hx6.trans hx7)⟩)

namespace LLruNobody
open Go.ChangeShapes Go.WideShapes Go.ChangeAt Go.RowKit
open Go.ChangeMaps (open_string shut_string)
theorem own : ownKnob Try.prog.godebug = none := by kernel_rfl
theorem laidOut : laidOutB Try.prog = true := by kernel_rfl
set_option maxRecDepth 100000 in
theorem lifted (os : Os) (started : os.Started) (H : Type) (enc : TypeId × Value → H) :
    ReturnsInHanded {} Try.checked os 7 .any (Rows.lruNobodySpec.pre6 enc Try.prog Try.f7 Rows.lruNobodyRow.domain false) (Rows.lruNobodySpec.post enc Try.prog Try.f7 false true false false) := by
  refine returnsInHanded_of_change_sized (C := Try.checked) own started (by kernel_rfl) Try.func7
    (ChangeSpec.witness6 (enc := enc) (C := Try.checked) false ⟨#[], #[.int .i64 0], []⟩ 8 (by kernel_rfl) (by kernel_rfl) (by kernel_rfl) (by kernel_rfl)) ?_
  intro W base args ds gs before hval0 hW hcnd hsz0 _
  have hval : ∀ (j : Nat) t v, Try.f7.params[j]? = some t → args[j]? = some v → Value.okWide Try.prog W .any base t v := hval0
  have hsz := hsz0
  rw [Try.params7] at hsz
  clear hsz0
  have hW' := hW
  obtain ⟨p, q, hA0, hV, rfl, hfz, hnd⟩ := hW
  have hA : DataW.TrodAll enc Try.prog W 0 (fun _ => true) true Try.f7.params.toList args.toList ds p := hA0
  rw [Try.params7] at hA hval
  obtain ⟨v0, vs0, d0, ds0, p0, q0, hargs, rfl, rfl, h0, r0⟩ := trodAll_cons hA
  obtain ⟨rfl, rfl, rfl⟩ := trodAll_nil r0
  obtain rfl : args = #[v0] := by cases args; simp_all
  obtain ⟨rfl, rfl⟩ := trodVars_none hV
  have hz0 : ∀ n ∈ d0.weights Try.prog 3, n ≤ reachBytes := fun n hn => by simpa using List.all_eq_true.1 hsz n (DataW.weights_mem_each (j := 0) rfl rfl n hn)
  have k0 := h0
  have lt0 : ∀ x ∈ p0, x.block < W.heap.size := by obtain ⟨m, hm⟩ := k0; exact DataW.trod_lt m _ _ _ hm
  obtain ⟨a0, rfl, e0, _, w0⟩ := open_int Try.underlying3 (hval 0 3 v0 rfl rfl) h0
  clear hA0 hval0
  refine (law_calls (nobody_law a0)).mono fun e W' ⟨he, bel⟩ => ?_
  subst he
  exact ⟨_, rfl, _, _, _, [], _, [], hW', trodAll_mk1 (shut_bool Try.underlying4 _), (trodAll_cons_mk (Below.trod laidOut (by kernel_rfl) (of_decide_eq_true (by kernel_rfl)) k0 bel lt0) trodAll_mk0), rfl, bel.frame _, fun h => by cases h⟩
theorem over : Rows.lruNobodyRow.holds Try.pinned (OpenSpec.ofChange Rows.lruNobodySpec) :=
  OpenClaim.holds_of_wide 7 Try.f7 rfl rfl rfl rfl rfl rfl rfl ⟨rfl, rfl, rfl, rfl, rfl⟩ rfl rfl rfl rfl rfl (by kernel_rfl) Try.func7 (by kernel_rfl)
    (of_decide_eq_true (by kernel_rfl)) (by unfold Func.isWrapper; first | (rw [if_pos (by decide +kernel)]; kernel_rfl) | (rw [if_neg (by decide +kernel)]; exact ⟨rfl, rfl⟩))
    (fun os started H enc _ => lifted os started H enc)
end LLruNobody
theorem lruNobody_proved : Rows.LruNobodySaid := LLruNobody.over
#print axioms lruNobody_proved
end Go.Proofs.Ytgfbilmlgibbfaa

