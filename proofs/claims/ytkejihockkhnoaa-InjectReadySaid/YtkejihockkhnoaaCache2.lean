/-
  CACHE (layer 18) and the document's: caches as objects.
-/
import Derived.Test.YtkejihockkhnoaaCache
namespace Go.Proofs.Ytkejihockkhnoaa
open Go Go.RK

/-- A cache at block b0, its list at block b. -/
structure Cc (h : Heap) (b0 b : Nat) (v : Value) (most : Int) (l : List Int) : Prop where
  cells : h[b0]? = some (.cells ⟨[.pointer (some ⟨b, 0, none⟩), In most]⟩ 67 (0, 0))
  lru : Lr 104 h b v most l
theorem Lr.ne_ty {T T' : TypeId} {h : Heap} {b b0 : Nat} {v : Value} {most : Int} {l : List Int} {cs : Array Value} (r : Lr T h b v most l) (h0 : h[b0]? = some (.cells cs T' (0, 0))) (h1 : T' ≠ T) (h2 : T' ≠ 3) : ¬ Ft b v b0 := by
  rintro (rfl | e)
  · rw [r.cells] at h0
    simp only [Option.some.injEq, Obj.cells.injEq] at h0
    exact h1 h0.2.1.symm
  · exact own_ne r.own (cs := cs.toList) h0 h2 e
theorem Cc.ne0 {h : Heap} {b0 b : Nat} {v : Value} {most : Int} {l : List Int} (r : Cc h b0 b v most l) : ¬ Ft b v b0 := r.lru.ne_ty r.cells (by decide) (by decide)
theorem Cc.ext {S : Nat → Prop} {h h' : Heap} {b0 b : Nat} {v : Value} {most : Int} {l : List Int} (r : Cc h b0 b v most l) (a : Ext S h h') (h0 : ¬ S b0) (hS : ∀ k, Ft b v k → ¬ S k) : Cc h' b0 b v most l := ⟨a.obj r.cells h0, r.lru.ext a hS⟩
theorem Cc.ext0 {h h' : Heap} {b0 b : Nat} {v : Value} {most : Int} {l : List Int} (r : Cc h b0 b v most l) (a : Ext No h h') : Cc h' b0 b v most l := r.ext a nos fun _ _ => nos
theorem Cc.turn {h h' : Heap} {b0 b : Nat} {v v' : Value} {most : Int} {l l' : List Int} (r : Cc h b0 b v most l) (x : Ext (Ft b v) h h') (r' : Lr 104 h' b v' most l') : Cc h' b0 b v' most l' := ⟨x.obj r.cells r.ne0, r'⟩

set_option maxRecDepth 100000 in
theorem ready_cc {h : Heap} {b0 b : Nat} {v : Value} {most : Int} {l : List Int} (r : Cc h b0 b v most l) :
    CallsH Try.prog 52 ⟨[.pointer (some ⟨b0, 0, none⟩)]⟩ h fun u h' => u = .bool true ∧ h' = h := by
  obtain ⟨hb, _⟩ := r
  refine calls [(0, _)] Try.func52 rfl Try.ntmps52 rfl ⟨rfl, trivial⟩ ?_
  all_goals (refine WC.seq ?_)
  all_goals (refine WC.region ?_)
  all_goals (refine WL.step (ok_assign rfl) rfl rfl rfl ?_)
  all_goals (refine WL.nil ?_)
  all_goals (repeat' (with_reducible first | refine thenP_n ?_ | refine blockP_n ?_))
  all_goals (refine WC.seq ?_)
  all_goals (refine WC.region ?_)
  all_goals (refine WL.step (ok_move rfl) rfl rfl rfl ?_)
  all_goals (refine WL.step (ok_neqPn Try.underlying42 rfl rfl) rfl rfl rfl ?_)
  all_goals (refine WL.step (ok_move rfl) rfl rfl rfl ?_)
  all_goals (try ((fail_if_success (refine WL.part 5 (b := true) rfl (fun _ => ?_) (fun _ => ?_))); (fail_if_success (refine WL.part 5 (b := false) rfl (fun _ => ?_) (fun _ => ?_))); (refine WL.part 5 rfl (fun hb => ?_) (fun hb => ?_) <;> (first | replace hb := of_decide_eq_true hb | replace hb := of_decide_eq_false hb | replace hb := of_decide_eq_false (nt hb) | replace hb := of_decide_eq_true (nf hb) | skip))))
  all_goals (first | (refine WL.pass rfl rfl rfl ?_) | (refine WL.step (ok_move rfl) rfl rfl rfl ?_))
  all_goals (first | (refine WL.pass rfl rfl rfl ?_) | (refine WL.step (ok_nilCheck rfl) rfl rfl rfl ?_))
  all_goals (first | (refine WL.pass rfl rfl rfl ?_) | (refine WL.step (ok_fieldAddr rfl Try.underlying67 rfl (fun w => Try.sizeOf65 w)) rfl rfl rfl ?_))
  all_goals (first | (refine WL.pass rfl rfl rfl ?_) | (refine WL.step (ok_load (fun w => Try.isAgg65 w) rfl (by first | assumption | exact cell_blk (by assumption) rfl)) rfl rfl rfl ?_))
  all_goals (first | (refine WL.pass rfl rfl rfl ?_) | (refine WL.step (ok_neqPn Try.underlying65 rfl rfl) rfl rfl rfl ?_))
  all_goals (first | (refine WL.step (ok_pick_t rfl rfl) rfl rfl rfl ?_) | (refine WL.step (ok_pick_f rfl rfl) rfl rfl rfl ?_))
  all_goals (refine WL.step (ok_assign rfl) rfl rfl rfl ?_)
  all_goals (refine WL.nil ?_)
  all_goals (repeat' (with_reducible first | refine thenP_n ?_ | refine blockP_n ?_))
  all_goals (refine WC.sub [(2, _)] ⟨rfl, trivial⟩ ?_)
  all_goals (refine WC.ret ?_)
  all_goals (repeat' (with_reducible first | refine thenP_r ?_ | refine blockP_r ?_))
  all_goals (refine retP_1 _ ⟨rfl, trivial⟩ ?_)
  all_goals (exact ⟨rfl, rfl⟩)
set_option maxRecDepth 100000 in
theorem list_cc {h : Heap} {b0 b : Nat} {v : Value} {most : Int} {l : List Int} (r : Cc h b0 b v most l) (hm : l.length ≤ 100000) :
    CallsH Try.prog 27 ⟨[.pointer (some ⟨b0, 0, none⟩)]⟩ h fun u h' => NewL h u l h' := by
  have r0 := r
  obtain ⟨hb, hl⟩ := r
  refine calls [(0, _)] Try.func27 rfl Try.ntmps27 rfl ⟨rfl, trivial⟩ ?_
  all_goals (refine WC.seq ?_)
  all_goals (refine WC.region ?_)
  all_goals (refine WL.step (ok_assign rfl) rfl rfl rfl ?_)
  all_goals (refine WL.nil ?_)
  all_goals (repeat' (with_reducible first | refine thenP_n ?_ | refine blockP_n ?_))
  all_goals (refine WC.seq ?_)
  all_goals (refine WC.seq ?_)
  all_goals (refine WC.region ?_)
  all_goals (refine WL.step (ok_move rfl) rfl rfl rfl ?_)
  all_goals (refine WL.call (vs := [_]) rfl (fun a w => Try.call52 a w) rfl (ready_cc r0) rfl rfl rfl ?_
             rintro _ hz ⟨rfl, _⟩
             subst hz)
  all_goals (refine WL.step (ok_not rfl) rfl rfl rfl ?_)
  all_goals (refine WL.nil ?_)
  all_goals (repeat' (with_reducible first | refine thenP_n ?_ | refine blockP_n ?_))
  all_goals (first | refine WC.condB_t 1 rfl ?_ | refine WC.condB_f 2 rfl ?_ | (refine WC.condB 1 2 rfl (fun hb => ?_) (fun hb => ?_) <;> (first | replace hb := of_decide_eq_true hb | replace hb := of_decide_eq_false hb | replace hb := of_decide_eq_false (nt hb) | replace hb := of_decide_eq_true (nf hb) | skip)))
  all_goals (first
    | (fail_if_success (refine Br.mk (i := 1) ?_))
    | (refine Br.mk (i := 1) ?_
       all_goals (refine WC.seq ?_)
       all_goals (refine WC.region ?_)
       all_goals (refine WL.step (ok_assign rfl) rfl rfl rfl ?_)
       all_goals (refine WL.nil ?_)
       all_goals (repeat' (with_reducible first | refine thenP_n ?_ | refine blockP_n ?_))
       all_goals (refine WC.sub [(2, _)] ⟨rfl, trivial⟩ ?_)
       all_goals (refine WC.ret ?_)
       all_goals (repeat' (with_reducible first | refine thenP_r ?_ | refine blockP_r ?_))
       all_goals (refine retP_1 _ ⟨rfl, trivial⟩ ?_)
       all_goals (exact ⟨ho1, hx1, hf1⟩)
       skip))
  all_goals (first
    | (fail_if_success (refine Br.mk (i := 2) ?_))
    | (refine Br.mk (i := 2) ?_
       all_goals (refine WC.skip ?_)
       skip))
  all_goals (repeat' (with_reducible first | refine thenP_n ?_ | refine blockP_n ?_))
  all_goals (refine WC.sub [(0, _)] ⟨rfl, trivial⟩ ?_)
  all_goals (refine WC.seq ?_)
  all_goals (refine WC.region ?_)
  all_goals (refine WL.step (ok_move rfl) rfl rfl rfl ?_)
  all_goals (refine WL.step (ok_nilCheck rfl) rfl rfl rfl ?_)
  all_goals (refine WL.step (ok_fieldAddr rfl Try.underlying67 rfl (fun w => Try.sizeOf65 w)) rfl rfl rfl ?_)
  all_goals (refine WL.step (ok_load (fun w => Try.isAgg65 w) rfl (by first | assumption | exact cell_blk (by assumption) rfl)) rfl rfl rfl ?_)
  all_goals (refine WL.call (vs := [_]) rfl (fun a w => Try.call56 a w) rfl (list_lru hl hm) rfl rfl rfl ?_
             rintro v1 h1 ⟨ho1, hx1, hf1⟩)
  all_goals (refine WL.step (ok_assign rfl) rfl rfl rfl ?_)
  all_goals (refine WL.nil ?_)
  all_goals (repeat' (with_reducible first | refine thenP_n ?_ | refine blockP_n ?_))
  all_goals (refine WC.sub [(2, _)] ⟨rfl, trivial⟩ ?_)
  all_goals (refine WC.ret ?_)
  all_goals (repeat' (with_reducible first | refine thenP_r ?_ | refine blockP_r ?_))
  all_goals (refine retP_1 _ ⟨rfl, trivial⟩ ?_)
  all_goals (exact ⟨ho1, hx1, hf1⟩)
set_option maxRecDepth 100000 in
theorem most_cc {h : Heap} {b0 b : Nat} {v : Value} {most : Int} {l : List Int} (r : Cc h b0 b v most l) :
    CallsH Try.prog 34 ⟨[.pointer (some ⟨b0, 0, none⟩)]⟩ h fun u h' => u = In most ∧ h' = h := by
  have r0 := r
  obtain ⟨hb, hl⟩ := r
  refine calls [(0, _)] Try.func34 rfl Try.ntmps34 rfl ⟨rfl, trivial⟩ ?_
  all_goals (refine WC.seq ?_)
  all_goals (refine WC.region ?_)
  all_goals (refine WL.step (ok_assign rfl) rfl rfl rfl ?_)
  all_goals (refine WL.nil ?_)
  all_goals (repeat' (with_reducible first | refine thenP_n ?_ | refine blockP_n ?_))
  all_goals (refine WC.seq ?_)
  all_goals (refine WC.seq ?_)
  all_goals (refine WC.region ?_)
  all_goals (refine WL.step (ok_move rfl) rfl rfl rfl ?_)
  all_goals (refine WL.call (vs := [_]) rfl (fun a w => Try.call52 a w) rfl (ready_cc r0) rfl rfl rfl ?_
             rintro _ hz ⟨rfl, _⟩
             subst hz)
  all_goals (refine WL.step (ok_not rfl) rfl rfl rfl ?_)
  all_goals (refine WL.nil ?_)
  all_goals (repeat' (with_reducible first | refine thenP_n ?_ | refine blockP_n ?_))
  all_goals (first | refine WC.condB_t 1 rfl ?_ | refine WC.condB_f 2 rfl ?_ | (refine WC.condB 1 2 rfl (fun hb => ?_) (fun hb => ?_) <;> (first | replace hb := of_decide_eq_true hb | replace hb := of_decide_eq_false hb | replace hb := of_decide_eq_false (nt hb) | replace hb := of_decide_eq_true (nf hb) | skip)))
  all_goals (first
    | (fail_if_success (refine Br.mk (i := 1) ?_))
    | (refine Br.mk (i := 1) ?_
       all_goals (refine WC.seq ?_)
       all_goals (refine WC.region ?_)
       all_goals (refine WL.step (ok_assign rfl) rfl rfl rfl ?_)
       all_goals (refine WL.nil ?_)
       all_goals (repeat' (with_reducible first | refine thenP_n ?_ | refine blockP_n ?_))
       all_goals (refine WC.sub [(2, _)] ⟨rfl, trivial⟩ ?_)
       all_goals (refine WC.ret ?_)
       all_goals (repeat' (with_reducible first | refine thenP_r ?_ | refine blockP_r ?_))
       all_goals (refine retP_1 _ ⟨rfl, trivial⟩ ?_)
       all_goals (exact ⟨rfl, rfl⟩)
       skip))
  all_goals (first
    | (fail_if_success (refine Br.mk (i := 2) ?_))
    | (refine Br.mk (i := 2) ?_
       all_goals (refine WC.skip ?_)
       skip))
  all_goals (repeat' (with_reducible first | refine thenP_n ?_ | refine blockP_n ?_))
  all_goals (refine WC.sub [(0, _)] ⟨rfl, trivial⟩ ?_)
  all_goals (refine WC.seq ?_)
  all_goals (refine WC.region ?_)
  all_goals (refine WL.step (ok_move rfl) rfl rfl rfl ?_)
  all_goals (refine WL.step (ok_nilCheck rfl) rfl rfl rfl ?_)
  all_goals (refine WL.step (ok_fieldAddr rfl Try.underlying67 rfl (fun w => Try.sizeOf3 w)) rfl rfl rfl ?_)
  all_goals (refine WL.step (ok_load (fun w => Try.isAgg3 w) rfl (by first | assumption | exact cell_blk (by assumption) rfl)) rfl rfl rfl ?_)
  all_goals (refine WL.step (ok_assign rfl) rfl rfl rfl ?_)
  all_goals (refine WL.nil ?_)
  all_goals (repeat' (with_reducible first | refine thenP_n ?_ | refine blockP_n ?_))
  all_goals (refine WC.sub [(2, _)] ⟨rfl, trivial⟩ ?_)
  all_goals (refine WC.ret ?_)
  all_goals (repeat' (with_reducible first | refine thenP_r ?_ | refine blockP_r ?_))
  all_goals (refine retP_1 _ ⟨rfl, trivial⟩ ?_)
  all_goals (exact ⟨rfl, rfl⟩)
set_option maxRecDepth 100000 in
theorem new_cc {h : Heap} (most : Int) (h0 : 1 ≤ most) (h1 : most ≤ 4096) :
    CallsH Try.prog 23 ⟨[In most]⟩ h fun u h' => ∃ b0 b, u = .tuple ⟨[.pointer (some ⟨b0, 0, none⟩), In 0]⟩ ∧ Cc h' b0 b (.slice none 0 0) most [] ∧ h.size ≤ b0 ∧ h.size ≤ b ∧ Ext No h h' := by
  refine calls [(0, _)] Try.func23 rfl Try.ntmps23 rfl ⟨rfl, trivial⟩ ?_
  all_goals (refine WC.seq ?_)
  all_goals (refine WC.region ?_)
  all_goals (refine WL.step (ok_assign rfl) rfl rfl rfl ?_)
  all_goals (refine WL.step (ok_assign rfl) rfl rfl rfl ?_)
  all_goals (refine WL.nil ?_)
  all_goals (repeat' (with_reducible first | refine thenP_n ?_ | refine blockP_n ?_))
  all_goals (refine WC.seq ?_)
  all_goals (refine WC.region ?_)
  all_goals (refine WL.step (ok_move rfl) rfl rfl rfl ?_)
  all_goals (refine WL.call (vs := [_]) rfl (fun a w => Try.call51 a w) rfl (new_lru most h0 h1) rfl rfl rfl ?_
             rintro _ h2 ⟨b, rfl, r2, hg2, hx2⟩)
  all_goals (refine WL.step (ok_move rfl) rfl rfl rfl ?_)
  all_goals (refine WL.step (ok_extract rfl rfl) rfl rfl rfl ?_)
  all_goals (refine WL.step (ok_extract rfl rfl) rfl rfl rfl ?_)
  all_goals (refine WL.step (ok_assign rfl) rfl rfl rfl ?_)
  all_goals (refine WL.step (ok_assign rfl) rfl rfl rfl ?_)
  all_goals (refine WL.nil ?_)
  all_goals (repeat' (with_reducible first | refine thenP_n ?_ | refine blockP_n ?_))
  all_goals (refine WC.sub [(0, _), (4, _), (5, _)] ⟨rfl, rfl, rfl, trivial⟩ ?_)
  all_goals (refine WC.seq ?_)
  all_goals (refine WC.seq ?_)
  all_goals (refine WC.region ?_)
  all_goals (refine WL.step (ok_move rfl) rfl rfl rfl ?_)
  all_goals (first | (refine WL.step (OkP.nbool_t (by omega) (ok_neq rfl rfl)) rfl rfl rfl ?_) | (refine WL.step (OkP.nbool_f (by omega) (ok_neq rfl rfl)) rfl rfl rfl ?_) | (refine WL.step (ok_neq rfl rfl) rfl rfl rfl ?_))
  all_goals (refine WL.nil ?_)
  all_goals (repeat' (with_reducible first | refine thenP_n ?_ | refine blockP_n ?_))
  all_goals (first | refine WC.condB_t 1 rfl ?_ | refine WC.condB_f 2 rfl ?_ | (refine WC.condB 1 2 rfl (fun hb => ?_) (fun hb => ?_) <;> (first | replace hb := of_decide_eq_true hb | replace hb := of_decide_eq_false hb | replace hb := of_decide_eq_false (nt hb) | replace hb := of_decide_eq_true (nf hb) | skip)))
  all_goals (first
    | (fail_if_success (refine Br.mk (i := 1) ?_))
    | (refine Br.mk (i := 1) ?_
       all_goals (refine WC.seq ?_)
       all_goals (refine WC.region ?_)
       all_goals (refine WL.step (ok_move rfl) rfl rfl rfl ?_)
       all_goals (refine WL.step (ok_assign rfl) rfl rfl rfl ?_)
       all_goals (refine WL.step (ok_assign rfl) rfl rfl rfl ?_)
       all_goals (refine WL.nil ?_)
       all_goals (repeat' (with_reducible first | refine thenP_n ?_ | refine blockP_n ?_))
       all_goals (refine WC.sub [(2, _), (3, _)] ⟨rfl, rfl, trivial⟩ ?_)
       all_goals (refine WC.ret ?_)
       all_goals (repeat' (with_reducible first | refine thenP_r ?_ | refine blockP_r ?_))
       all_goals (refine retP_2 _ _ ⟨rfl, rfl, trivial⟩ ?_)
       all_goals (exact ⟨_, _, rfl, ⟨hb3, r2.ext hx3 fun _ _ => nos⟩, Nat.le_trans hx2.size hg3, hg2, hx2.trans hx3⟩)
       skip))
  all_goals (first
    | (fail_if_success (refine Br.mk (i := 2) ?_))
    | (refine Br.mk (i := 2) ?_
       all_goals (refine WC.skip ?_)
       skip))
  all_goals (repeat' (with_reducible first | refine thenP_n ?_ | refine blockP_n ?_))
  all_goals (refine WC.seq ?_)
  all_goals (refine WC.region ?_)
  all_goals (refine WL.step (ok_move rfl) rfl rfl rfl ?_)
  all_goals (refine WL.step (ok_move rfl) rfl rfl rfl ?_)
  all_goals (refine WL.step (ok_buildF (vs := [_, _]) (cs := [_, _]) (fun | [a0, a1] => [a0, a1] | _ => []) rfl rfl (by kernel_rfl)) rfl rfl rfl ?_)
  all_goals (refine WL.stepR (okE_box rfl) rfl rfl rfl ?_
             rintro _ h3 ⟨b3, rfl, hg3, hb3, hx3⟩)
  all_goals (refine WL.step (ok_assign rfl) rfl rfl rfl ?_)
  all_goals (refine WL.step (ok_assign rfl) rfl rfl rfl ?_)
  all_goals (refine WL.nil ?_)
  all_goals (repeat' (with_reducible first | refine thenP_n ?_ | refine blockP_n ?_))
  all_goals (refine WC.sub [(2, _), (3, _)] ⟨rfl, rfl, trivial⟩ ?_)
  all_goals (refine WC.ret ?_)
  all_goals (repeat' (with_reducible first | refine thenP_r ?_ | refine blockP_r ?_))
  all_goals (refine retP_2 _ _ ⟨rfl, rfl, trivial⟩ ?_)
  all_goals (exact ⟨_, _, rfl, ⟨hb3, r2.ext hx3 fun _ _ => nos⟩, Nat.le_trans hx2.size hg3, hg2, hx2.trans hx3⟩)
set_option maxRecDepth 100000 in
theorem new_cc_no {h : Heap} (most : Int) (h0 : most < 1 ∨ 4096 < most) :
    CallsH Try.prog 23 ⟨[In most]⟩ h fun u h' => u = .tuple ⟨[.pointer none, In 1]⟩ ∧ h' = h := by
  refine calls [(0, _)] Try.func23 rfl Try.ntmps23 rfl ⟨rfl, trivial⟩ ?_
  all_goals (refine WC.seq ?_)
  all_goals (refine WC.region ?_)
  all_goals (refine WL.step (ok_assign rfl) rfl rfl rfl ?_)
  all_goals (refine WL.step (ok_assign rfl) rfl rfl rfl ?_)
  all_goals (refine WL.nil ?_)
  all_goals (repeat' (with_reducible first | refine thenP_n ?_ | refine blockP_n ?_))
  all_goals (refine WC.seq ?_)
  all_goals (refine WC.region ?_)
  all_goals (refine WL.step (ok_move rfl) rfl rfl rfl ?_)
  all_goals (refine WL.call (vs := [_]) rfl (fun a w => Try.call51 a w) rfl (new_lru_no most h0) rfl rfl rfl ?_
             rintro _ hz ⟨rfl, _⟩
             subst hz)
  all_goals (refine WL.step (ok_move rfl) rfl rfl rfl ?_)
  all_goals (refine WL.step (ok_extract rfl rfl) rfl rfl rfl ?_)
  all_goals (refine WL.step (ok_extract rfl rfl) rfl rfl rfl ?_)
  all_goals (refine WL.step (ok_assign rfl) rfl rfl rfl ?_)
  all_goals (refine WL.step (ok_assign rfl) rfl rfl rfl ?_)
  all_goals (refine WL.nil ?_)
  all_goals (repeat' (with_reducible first | refine thenP_n ?_ | refine blockP_n ?_))
  all_goals (refine WC.sub [(0, _), (4, _), (5, _)] ⟨rfl, rfl, rfl, trivial⟩ ?_)
  all_goals (refine WC.seq ?_)
  all_goals (refine WC.seq ?_)
  all_goals (refine WC.region ?_)
  all_goals (refine WL.step (ok_move rfl) rfl rfl rfl ?_)
  all_goals (first | (refine WL.step (OkP.nbool_t (by omega) (ok_neq rfl rfl)) rfl rfl rfl ?_) | (refine WL.step (OkP.nbool_f (by omega) (ok_neq rfl rfl)) rfl rfl rfl ?_) | (refine WL.step (ok_neq rfl rfl) rfl rfl rfl ?_))
  all_goals (refine WL.nil ?_)
  all_goals (repeat' (with_reducible first | refine thenP_n ?_ | refine blockP_n ?_))
  all_goals (first | refine WC.condB_t 1 rfl ?_ | refine WC.condB_f 2 rfl ?_ | (refine WC.condB 1 2 rfl (fun hb => ?_) (fun hb => ?_) <;> (first | replace hb := of_decide_eq_true hb | replace hb := of_decide_eq_false hb | replace hb := of_decide_eq_false (nt hb) | replace hb := of_decide_eq_true (nf hb) | skip)))
  all_goals (first
    | (fail_if_success (refine Br.mk (i := 1) ?_))
    | (refine Br.mk (i := 1) ?_
       all_goals (refine WC.seq ?_)
       all_goals (refine WC.region ?_)
       all_goals (refine WL.step (ok_move rfl) rfl rfl rfl ?_)
       all_goals (refine WL.step (ok_assign rfl) rfl rfl rfl ?_)
       all_goals (refine WL.step (ok_assign rfl) rfl rfl rfl ?_)
       all_goals (refine WL.nil ?_)
       all_goals (repeat' (with_reducible first | refine thenP_n ?_ | refine blockP_n ?_))
       all_goals (refine WC.sub [(2, _), (3, _)] ⟨rfl, rfl, trivial⟩ ?_)
       all_goals (refine WC.ret ?_)
       all_goals (repeat' (with_reducible first | refine thenP_r ?_ | refine blockP_r ?_))
       all_goals (refine retP_2 _ _ ⟨rfl, rfl, trivial⟩ ?_)
       all_goals (exact ⟨rfl, rfl⟩)
       skip))
  all_goals (first
    | (fail_if_success (refine Br.mk (i := 2) ?_))
    | (refine Br.mk (i := 2) ?_
       all_goals (refine WC.skip ?_)
       skip))
  all_goals (repeat' (with_reducible first | refine thenP_n ?_ | refine blockP_n ?_))
  all_goals (refine WC.seq ?_)
  all_goals (refine WC.region ?_)
  all_goals (refine WL.step (ok_move rfl) rfl rfl rfl ?_)
  all_goals (refine WL.step (ok_move rfl) rfl rfl rfl ?_)
  all_goals (refine WL.step (ok_buildF (vs := [_, _]) (cs := [_, _]) (fun | [a0, a1] => [a0, a1] | _ => []) rfl rfl (by kernel_rfl)) rfl rfl rfl ?_)
  all_goals (refine WL.stepR (okE_box rfl) rfl rfl rfl ?_
             rintro _ h1 ⟨b1, rfl, hg1, hb1, hx1⟩)
  all_goals (refine WL.step (ok_assign rfl) rfl rfl rfl ?_)
  all_goals (refine WL.step (ok_assign rfl) rfl rfl rfl ?_)
  all_goals (refine WL.nil ?_)
  all_goals (repeat' (with_reducible first | refine thenP_n ?_ | refine blockP_n ?_))
  all_goals (refine WC.sub [(2, _), (3, _)] ⟨rfl, rfl, trivial⟩ ?_)
  all_goals (refine WC.ret ?_)
  all_goals (repeat' (with_reducible first | refine thenP_r ?_ | refine blockP_r ?_))
  all_goals (refine retP_2 _ _ ⟨rfl, rfl, trivial⟩ ?_)
  all_goals (exact ⟨rfl, rfl⟩)
set_option maxRecDepth 100000 in
theorem settle1_cc {h : Heap} {b0 b : Nat} {v : Value} {most : Int} {l : List Int} (r : Cc h b0 b v most l) (k id : Int) (hm : l.length ≤ 100000) (hn : l.Nodup) (hl : (l.length : Int) ≤ most) (h0 : 0 < most) :
    CallsH Try.prog 53 ⟨[.pointer (some ⟨b0, 0, none⟩), .agg ⟨[In k, In id]⟩]⟩ h fun u h' => u = .tuple ⟨[]⟩ ∧ ∃ v', Cc h' b0 b v' most (setL most l k id) ∧ Ext (Ft b v) h h' ∧ Kin h v v' := by
  refine calls [(0, _), (1, _)] Try.func53 rfl Try.ntmps53 rfl ⟨rfl, rfl, trivial⟩ ?_
  all_goals (refine WC.seq ?_)
  all_goals (refine WC.region ?_)
  all_goals (refine WL.stepR (okE_box rfl) rfl rfl rfl ?_
             rintro _ h1 ⟨b1, rfl, hg1, hb1, hx1⟩)
  all_goals (have r1 := r.ext0 hx1
             have hc1 := r1.cells)
  all_goals (refine WL.nil ?_)
  all_goals (repeat' (with_reducible first | refine thenP_n ?_ | refine blockP_n ?_))
  all_goals (refine WC.seq ?_)
  all_goals (refine WC.region ?_)
  all_goals (refine WL.step (ok_fieldAddr rfl Try.underlying78 rfl (fun w => Try.sizeOf3 w)) rfl rfl rfl ?_)
  all_goals (refine WL.step (ok_load (fun w => Try.isAgg3 w) rfl (by first | assumption | exact cell_blk (by assumption) rfl)) rfl rfl rfl ?_)
  all_goals (refine WL.nil ?_)
  all_goals (repeat' (with_reducible first | refine thenP_n ?_ | refine blockP_n ?_))
  all_goals (refine WC.block ?_)
  all_goals (refine WC.seq ?_)
  all_goals (refine WC.region ?_)
  all_goals (first | (refine WL.step (OkP.bool_t (by omega) (ok_eql rfl rfl)) rfl rfl rfl ?_) | (refine WL.step (OkP.bool_f (by omega) (ok_eql rfl rfl)) rfl rfl rfl ?_) | (refine WL.step (ok_eql rfl rfl) rfl rfl rfl ?_))
  all_goals (refine WL.step (ok_assign rfl) rfl rfl rfl ?_)
  all_goals (refine WL.nil ?_)
  all_goals (repeat' (with_reducible first | refine thenP_n ?_ | refine blockP_n ?_))
  all_goals (first | refine WC.condB_t 1 rfl ?_ | refine WC.condB_f 2 rfl ?_ | (refine WC.condB 1 2 rfl (fun hb => ?_) (fun hb => ?_) <;> (first | replace hb := of_decide_eq_true hb | replace hb := of_decide_eq_false hb | replace hb := of_decide_eq_false (nt hb) | replace hb := of_decide_eq_true (nf hb) | skip)))
  all_goals (first
    | (fail_if_success (refine Br.mk (i := 1) ?_))
    | (refine Br.mk (i := 1) ?_
       all_goals (refine WC.drawT 6 fol (by kernel_rfl) ?_)
       all_goals (show WS _ _ _ [_, _, _, _, _, _] _ _ _)
       all_goals (refine WS.step (ok_move rfl) rfl rfl rfl ?_)
       all_goals (refine WS.step (ok_nilCheck rfl) rfl rfl rfl ?_)
       all_goals (refine WS.step (ok_fieldAddr rfl Try.underlying67 rfl (fun w => Try.sizeOf65 w)) rfl rfl rfl ?_)
       all_goals (refine WS.step (ok_load (fun w => Try.isAgg65 w) rfl (by first | assumption | exact cell_blk (by assumption) rfl)) rfl rfl rfl ?_)
       all_goals (refine WS.step (ok_fieldAddr rfl Try.underlying78 rfl (fun w => Try.sizeOf3 w)) rfl rfl rfl ?_)
       all_goals (refine WS.step (ok_load (fun w => Try.isAgg3 w) rfl (by first | assumption | exact cell_blk (by assumption) rfl)) rfl rfl rfl ?_)
       all_goals (refine WS.nil ?_)
       all_goals (show WL _ _ _ [_] _ _ _)
       all_goals (refine WL.call (vs := [_, _]) rfl (fun a w => Try.call73 a w) rfl (add_any r1.lru id hm h0) rfl rfl rfl ?_
                  rintro _ h2 ⟨rfl, v2, r2, hx2, hk2⟩)
       all_goals (refine WL.nil ?_)
       skip))
  all_goals (first
    | (fail_if_success (refine Br.mk (i := 2) ?_))
    | (refine Br.mk (i := 2) ?_
       all_goals (refine WC.seq ?_)
       all_goals (refine WC.region ?_)
       all_goals (first | (refine WL.step (OkP.bool_t (by omega) (ok_eql rfl rfl)) rfl rfl rfl ?_) | (refine WL.step (OkP.bool_f (by omega) (ok_eql rfl rfl)) rfl rfl rfl ?_) | (refine WL.step (ok_eql rfl rfl) rfl rfl rfl ?_))
       all_goals (refine WL.step (ok_assign rfl) rfl rfl rfl ?_)
       all_goals (refine WL.nil ?_)
       all_goals (repeat' (with_reducible first | refine thenP_n ?_ | refine blockP_n ?_))
       all_goals (refine WC.sub [(0, _), (3, _), (5, _), (15, _)] ⟨rfl, rfl, rfl, rfl, trivial⟩ ?_)
       all_goals (first | refine WC.condB_t 3 rfl ?_ | refine WC.condB_f 4 rfl ?_ | (refine WC.condB 3 4 rfl (fun hb => ?_) (fun hb => ?_) <;> (first | replace hb := of_decide_eq_true hb | replace hb := of_decide_eq_false hb | replace hb := of_decide_eq_false (nt hb) | replace hb := of_decide_eq_true (nf hb) | skip)))
       all_goals (first
         | (fail_if_success (refine Br.mk (i := 3) ?_))
         | (refine Br.mk (i := 3) ?_
            all_goals (refine WC.drawT 6 fol (by kernel_rfl) ?_)
            all_goals (show WS _ _ _ [_, _, _, _, _, _] _ _ _)
            all_goals (refine WS.step (ok_move rfl) rfl rfl rfl ?_)
            all_goals (refine WS.step (ok_nilCheck rfl) rfl rfl rfl ?_)
            all_goals (refine WS.step (ok_fieldAddr rfl Try.underlying67 rfl (fun w => Try.sizeOf65 w)) rfl rfl rfl ?_)
            all_goals (refine WS.step (ok_load (fun w => Try.isAgg65 w) rfl (by first | assumption | exact cell_blk (by assumption) rfl)) rfl rfl rfl ?_)
            all_goals (refine WS.step (ok_fieldAddr rfl Try.underlying78 rfl (fun w => Try.sizeOf3 w)) rfl rfl rfl ?_)
            all_goals (refine WS.step (ok_load (fun w => Try.isAgg3 w) rfl (by first | assumption | exact cell_blk (by assumption) rfl)) rfl rfl rfl ?_)
            all_goals (refine WS.nil ?_)
            all_goals (show WL _ _ _ [_] _ _ _)
            all_goals (refine WL.call (vs := [_, _]) rfl (fun a w => Try.call74 a w) rfl (remove_any r1.lru id hm hn) rfl rfl rfl ?_
                       rintro _ h2 ⟨rfl, v2, r2, hx2, hk2⟩)
            all_goals (refine WL.nil ?_)
            skip))
       all_goals (first
         | (fail_if_success (refine Br.mk (i := 4) ?_))
         | (refine Br.mk (i := 4) ?_
            all_goals (refine WC.seq ?_)
            all_goals (refine WC.region ?_)
            all_goals (first | (refine WL.step (OkP.bool_t (by omega) (ok_eql rfl rfl)) rfl rfl rfl ?_) | (refine WL.step (OkP.bool_f (by omega) (ok_eql rfl rfl)) rfl rfl rfl ?_) | (refine WL.step (ok_eql rfl rfl) rfl rfl rfl ?_))
            all_goals (refine WL.step (ok_assign rfl) rfl rfl rfl ?_)
            all_goals (refine WL.nil ?_)
            all_goals (repeat' (with_reducible first | refine thenP_n ?_ | refine blockP_n ?_))
            all_goals (first | refine WC.condB_t 5 rfl ?_ | refine WC.condB_f 6 rfl ?_ | (refine WC.condB 5 6 rfl (fun hb => ?_) (fun hb => ?_) <;> (first | replace hb := of_decide_eq_true hb | replace hb := of_decide_eq_false hb | replace hb := of_decide_eq_false (nt hb) | replace hb := of_decide_eq_true (nf hb) | skip)))
            all_goals (first
              | (fail_if_success (refine Br.mk (i := 5) ?_))
              | (refine Br.mk (i := 5) ?_
                 all_goals (refine WC.drawT 6 fol (by kernel_rfl) ?_)
                 all_goals (show WS _ _ _ [_, _, _, _, _, _] _ _ _)
                 all_goals (refine WS.step (ok_move rfl) rfl rfl rfl ?_)
                 all_goals (refine WS.step (ok_nilCheck rfl) rfl rfl rfl ?_)
                 all_goals (refine WS.step (ok_fieldAddr rfl Try.underlying67 rfl (fun w => Try.sizeOf65 w)) rfl rfl rfl ?_)
                 all_goals (refine WS.step (ok_load (fun w => Try.isAgg65 w) rfl (by first | assumption | exact cell_blk (by assumption) rfl)) rfl rfl rfl ?_)
                 all_goals (refine WS.step (ok_fieldAddr rfl Try.underlying78 rfl (fun w => Try.sizeOf3 w)) rfl rfl rfl ?_)
                 all_goals (refine WS.step (ok_load (fun w => Try.isAgg3 w) rfl (by first | assumption | exact cell_blk (by assumption) rfl)) rfl rfl rfl ?_)
                 all_goals (refine WS.nil ?_)
                 all_goals (show WL _ _ _ [_] _ _ _)
                 all_goals (refine WL.call (vs := [_, _]) rfl (fun a w => Try.call75 a w) rfl (touch_any r1.lru id hm hn hl h0) rfl rfl rfl ?_
                            rintro _ h2 ⟨rfl, v2, r2, hx2, hk2⟩)
                 all_goals (refine WL.nil ?_)
                 skip))
            all_goals (first
              | (fail_if_success (refine Br.mk (i := 6) ?_))
              | (refine Br.mk (i := 6) ?_
                 all_goals (refine WC.skip ?_)
                 skip))
            skip))
       skip))
  all_goals (repeat' (with_reducible first | refine thenP_n ?_ | refine blockP_n ?_))
  all_goals (refine retP_n [] trivial ?_)
  all_goals (first
              | exact ⟨rfl, v2, by rw [show setL most l k id = addL most l id by simp [setL, *]]; exact r1.turn hx2 r2, (hx1.mono fun _ _ e => e.elim).trans hx2, fun q hq => (hk2 q hq).imp_right (Nat.le_trans hx1.size)⟩
              | exact ⟨rfl, v2, by rw [show setL most l k id = rmL l id by simp [setL, *]]; exact r1.turn hx2 r2, (hx1.mono fun _ _ e => e.elim).trans hx2, fun q hq => (hk2 q hq).imp_right (Nat.le_trans hx1.size)⟩
              | exact ⟨rfl, v2, by rw [show setL most l k id = toL l id by simp [setL, *]]; exact r1.turn hx2 r2, (hx1.mono fun _ _ e => e.elim).trans hx2, fun q hq => (hk2 q hq).imp_right (Nat.le_trans hx1.size)⟩
              | exact ⟨rfl, v, by rw [show setL most l k id = l by simp [setL, *]]; exact r1, hx1.mono fun _ _ e => e.elim, fun q hq => .inl hq⟩)
theorem gone_not (l m : List Int) : (l.filter fun x => !decide (x ∈ m)) = goneL l m := by
  unfold goneL
  congr 1
  funext x
  simp
theorem settle_snoc {most : Int} {l : List Int} {ops : List COp} {k : Nat} {kd id : Int} {z : Unit} (hy : ops[k]? = some (kd, id, z)) : settleL most l (ops.take (k + 1)) = setL most (settleL most l (ops.take k)) kd id := foldl_take _ _ _ hy
set_option maxRecDepth 100000 in
theorem settle_cc {h : Heap} {b0 b : Nat} {v w : Value} {most : Int} {l : List Int} (r : Cc h b0 b v most l) (ops : List COp) (ho : Ops h w ops) (hapart : ∀ q, 0 < ops.length → w.ownBlock = some q → ¬ Ft b v q) (hn : l.Nodup) (hl : (l.length : Int) ≤ most) (h0 : 0 < most) (hmo : most ≤ 4096) :
    CallsH Try.prog 24 ⟨[.pointer (some ⟨b0, 0, none⟩), w]⟩ h fun u h' => (∃ v', Cc h' b0 b v' most (settleL most l ops) ∧ Ext (Ft b v) h h' ∧ Kin h v v') ∧ Own h' u 3 1 (goneL l (settleL most l ops)).length (ints (goneL l (settleL most l ops))) ∧ (∀ q, u.ownBlock = some q → h.size ≤ q) := by
  obtain ⟨ho, hob⟩ := ho
  obtain ⟨B, d, rfl, _⟩ := id ho
  unfold reachBytes at hob
  have hvl := r.lru.lt
  refine calls [(0, _), (1, _)] Try.func24 rfl Try.ntmps24 rfl ⟨rfl, rfl, trivial⟩ ?_
  all_goals (refine WC.seq ?_)
  all_goals (refine WC.region ?_)
  all_goals (refine WL.step (ok_assign rfl) rfl rfl rfl ?_)
  all_goals (refine WL.nil ?_)
  all_goals (repeat' (with_reducible first | refine thenP_n ?_ | refine blockP_n ?_))
  all_goals (refine WC.seq ?_)
  all_goals (refine WC.seq ?_)
  all_goals (refine WC.region ?_)
  all_goals (refine WL.step (ok_move rfl) rfl rfl rfl ?_)
  all_goals (refine WL.call (vs := [_]) rfl (fun a w => Try.call52 a w) rfl (ready_cc r) rfl rfl rfl ?_
             rintro _ hz ⟨rfl, _⟩
             subst hz)
  all_goals (refine WL.step (ok_not rfl) rfl rfl rfl ?_)
  all_goals (refine WL.nil ?_)
  all_goals (repeat' (with_reducible first | refine thenP_n ?_ | refine blockP_n ?_))
  all_goals (first | refine WC.condB_t 1 rfl ?_ | refine WC.condB_f 2 rfl ?_ | (refine WC.condB 1 2 rfl (fun hb => ?_) (fun hb => ?_) <;> (first | replace hb := of_decide_eq_true hb | replace hb := of_decide_eq_false hb | replace hb := of_decide_eq_false (nt hb) | replace hb := of_decide_eq_true (nf hb) | skip)))
  all_goals (first
    | (fail_if_success (refine Br.mk (i := 1) ?_))
    | (refine Br.mk (i := 1) ?_
       all_goals (refine WC.seq ?_)
       all_goals (refine WC.region ?_)
       all_goals (refine WL.step (ok_assign rfl) rfl rfl rfl ?_)
       all_goals (refine WL.nil ?_)
       all_goals (repeat' (with_reducible first | refine thenP_n ?_ | refine blockP_n ?_))
       all_goals (refine WC.sub [(4, _)] ⟨rfl, trivial⟩ ?_)
       all_goals (refine WC.ret ?_)
       all_goals (repeat' (with_reducible first | refine thenP_r ?_ | refine blockP_r ?_))
       all_goals (refine retP_1 _ ⟨rfl, trivial⟩ ?_)
       all_goals (exact ⟨⟨v2, r2.ext hx6 h0q (fun q hq e => hap q e hq), ((hx1.mono fun _ _ e => e.elim).trans hx2).trans' hx6 (fun q hq e => by have := hf1 q (by cases A1 <;> simp_all [Value.ownBlock]); omega), fun q hq => (hk2 q hq).imp_right (Nat.le_trans hs1)⟩, ho6, fun q hq => hf1 q (by rw [hl6] at hq; cases A1 <;> simp_all [Value.ownBlock])⟩)
       skip))
  all_goals (first
    | (fail_if_success (refine Br.mk (i := 2) ?_))
    | (refine Br.mk (i := 2) ?_
       all_goals (refine WC.skip ?_)
       skip))
  all_goals (repeat' (with_reducible first | refine thenP_n ?_ | refine blockP_n ?_))
  all_goals (refine WC.sub [(0, _), (1, _)] ⟨rfl, rfl, trivial⟩ ?_)
  all_goals (refine WC.seq ?_)
  all_goals (refine WC.region ?_)
  all_goals (refine WL.step (ok_move rfl) rfl rfl rfl ?_)
  all_goals (refine WL.call (vs := [_]) rfl (fun a w => Try.call27 a w) rfl (list_cc r (by omega)) rfl rfl rfl ?_
             rintro v1 h1 ⟨ho1, hx1, hf1⟩)
  all_goals (obtain ⟨A1, c1, rfl, _⟩ := ho1.slice
             have hs1 := hx1.size
             have hlt1 : ∀ q, (Value.slice A1 l.length c1).ownBlock = some q → q < h1.size := fun q hq => ho1.lt hq
             have ho' := ho.ext0 hx1
             have r1 := r.ext0 hx1)
  all_goals (refine WL.step (ok_assign rfl) rfl rfl rfl ?_)
  all_goals (refine WL.nil ?_)
  all_goals (repeat' (with_reducible first | refine thenP_n ?_ | refine blockP_n ?_))
  all_goals (refine WC.seq ?_)
  all_goals (refine WC.seq ?_)
  all_goals (refine WC.region ?_)
  all_goals (refine WL.step (ok_move rfl) rfl rfl rfl ?_)
  all_goals (refine WL.step (ok_lenL rfl Try.underlying40 rfl) rfl rfl rfl ?_)
  all_goals (refine WL.step (ok_move rfl) rfl rfl rfl ?_)
  all_goals (refine WL.nil ?_)
  all_goals (repeat' (with_reducible first | refine thenP_n ?_ | refine blockP_n ?_))
  all_goals (refine WC.block ?_)
  -- loop 0: slots that turn [15], that stay [0, 5, 13, 14]
  all_goals (refine WC.loopG (X := Nat) (fun x => ([(15, In (x : Int))] : Fr)) [(0, _), (5, _), (13, _), (14, _)] (fun k h' => k ≤ ops.length ∧ ∃ v', Cc h' b0 b v' most (settleL most l (ops.take k)) ∧ Ext (Ft b v) h1 h' ∧ Kin h1 v v') (fun k => ops.length - k) (0) ⟨rfl, rfl, rfl, rfl, rfl, trivial⟩ (by exact ⟨Nat.zero_le _, v, r1, .refl _ _, fun q hq => .inl hq⟩) ?_)
  all_goals (rintro k h2 ⟨hk, v2, r2, hx2, hk2⟩
             have hok := settle_ok (ops.take k) hn hl
             have ho2 := ho1.ext hx2 (fun q hq e => by have := hf1 q hq; have := hvl q e; omega))
  all_goals (refine WC.sub [(15, _), (0, _), (5, _), (13, _), (14, _)] ⟨rfl, rfl, rfl, rfl, rfl, trivial⟩ ?_)
  all_goals (refine WC.seq ?_)
  all_goals (refine WC.region ?_)
  all_goals (first | (refine WL.step (OkP.bool_t (by omega) (ok_lss rfl rfl)) rfl rfl rfl ?_) | (refine WL.step (OkP.bool_f (by omega) (ok_lss rfl rfl)) rfl rfl rfl ?_) | (refine WL.step (ok_lss rfl rfl) rfl rfl rfl ?_))
  all_goals (refine WL.nil ?_)
  all_goals (repeat' (with_reducible first | refine thenP_n ?_ | refine blockP_n ?_))
  all_goals (refine WC.seq ?_)
  all_goals (first | refine WC.condB_t 3 rfl ?_ | refine WC.condB_f 4 rfl ?_ | (refine WC.condB 3 4 rfl (fun hb => ?_) (fun hb => ?_) <;> (first | replace hb := of_decide_eq_true hb | replace hb := of_decide_eq_false hb | replace hb := of_decide_eq_false (nt hb) | replace hb := of_decide_eq_true (nf hb) | skip)))
  all_goals (first
    | (fail_if_success (refine Br.mk (i := 3) ?_))
    | (refine Br.mk (i := 3) ?_
       all_goals (refine WC.skip ?_)
       skip))
  all_goals (first
    | (fail_if_success (refine Br.mk (i := 4) ?_))
    | (refine Br.mk (i := 4) ?_
       all_goals (refine WC.exit ?_)
       all_goals (repeat' (with_reducible first | refine thenP_x ?_ | refine blockP_miss rfl ?_ | refine blockP_hit ?_ | refine blockP_n ?_ | refine thenP_n ?_))
       all_goals (refine Br.out (i := 1000) ?_)
       skip))
  all_goals (first | (refine Br.keep ?_) | (repeat' (with_reducible first | refine thenP_n ?_ | refine blockP_n ?_)))
  all_goals (first | (refine Br.keep ?_) | (refine WC.seq ?_))
  all_goals (first | (refine Br.keep ?_) | (refine WC.block ?_))
  all_goals (first | (refine Br.keep ?_) | (refine WC.seq ?_))
  all_goals (first | (refine Br.keep ?_) | (refine WC.region ?_))
  all_goals (first
               | (refine Br.keep ?_)
               | (obtain ⟨bL, oL, hA, hbL, hat⟩ := Rd.at_ (ho'.ext' hx2 (fun q hn hq => hapart q hn hq)) (by omega)
                  obtain ⟨⟨kd, id, _⟩, hy⟩ : ∃ y, ops[k]? = some y := ⟨_, List.getElem?_eq_getElem (by omega)⟩
                  have hc : At h2 bL (oL + k * 2) [In kd, In id] := cop_at hat hy))
  all_goals (first | (refine Br.keep ?_) | (refine WL.step (ok_idxAddrA Try.underlying40 (fun w => Try.sizeOf78 w) rfl rfl rfl (by omega) (by first | rfl | assumption)) rfl rfl rfl ?_))
  all_goals (first | (refine Br.keep ?_) | (refine WL.step (ok_loadN (fun w => Try.isAgg78 w) (fun w => Try.sizeOf78 w) rfl rfl (by assumption)) rfl rfl rfl ?_))
  all_goals (first
               | (refine Br.keep ?_)
               | (refine WL.stepR (okE_alloc (fun w => Try.zeroValue78 w)) rfl rfl rfl ?_
                  rintro _ h3 ⟨b3, rfl, hg3, hb3, hx3⟩))
  all_goals (first
               | (refine Br.keep ?_)
               | (refine WL.stepR0 (okE_storeW (fun w => Try.sizeOf78 w) rfl rfl rfl (by assumption) rfl (by simp [Value.oneCell'])) rfl rfl ?_
                  rintro _ h4 ⟨hb4, hx4⟩))
  all_goals (first
               | (refine Br.keep ?_)
               | (have hX4 := hx3.trans' hx4 (fun q hq e => by omega)
                  have hat4 := At.of_block hb4))
  all_goals (first | (refine Br.keep ?_) | (refine WL.nil ?_))
  all_goals (first | (refine Br.keep ?_) | (repeat' (with_reducible first | refine thenP_n ?_ | refine blockP_n ?_)))
  all_goals (first | (refine Br.keep ?_) | (refine WC.region ?_))
  all_goals (first | (refine Br.keep ?_) | (refine WL.step (ok_move rfl) rfl rfl rfl ?_))
  all_goals (first | (refine Br.keep ?_) | (refine WL.step (ok_loadN (fun w => Try.isAgg78 w) (fun w => Try.sizeOf78 w) rfl rfl (by assumption)) rfl rfl rfl ?_))
  all_goals (first
               | (refine Br.keep ?_)
               | (refine WL.call (vs := [_, _]) rfl (fun a w => Try.call53 a w) rfl (settle1_cc (r2.ext0 hX4) kd id (by omega) hok.1 hok.2 h0) rfl rfl rfl ?_
                  rintro _ h5 ⟨rfl, v5, r5, hx5, hk5⟩))
  all_goals (first | (refine Br.keep ?_) | (refine WL.nil ?_))
  all_goals (first | (refine Br.keep ?_) | (repeat' (with_reducible first | refine thenP_n ?_ | refine blockP_n ?_)))
  all_goals (first | (refine Br.keep ?_) | (refine WC.sub [(0, _), (5, _), (13, _), (14, _), (15, _)] ⟨rfl, rfl, rfl, rfl, rfl, trivial⟩ ?_))
  all_goals (first | (refine Br.keep ?_) | (refine WC.region ?_))
  all_goals (first | (refine Br.keep ?_) | (first | (refine WL.step (ok_addI rfl rfl (by omega)) rfl rfl rfl ?_) | (refine WL.step (ok_add rfl rfl) rfl rfl rfl ?_)))
  all_goals (first | (refine Br.keep ?_) | (refine WL.step (ok_move rfl) rfl rfl rfl ?_))
  all_goals (first | (refine Br.keep ?_) | (refine WL.nil ?_))
  all_goals (first | (refine Br.keep ?_) | (repeat' (with_reducible first | refine thenP_n ?_ | refine blockP_n ?_)))
  all_goals (first | (refine Br.keep ?_) | (exact ⟨k + 1, ⟨rfl, rfl, rfl, rfl, rfl, trivial⟩, (by exact ⟨by omega, v5, by rw [settle_snoc hy]; exact r5, (hx2.trans (hX4.mono fun _ _ e => e.elim)).trans' hx5 (fun q hq e => by rcases e with e | e; exact .inl e; rcases hk2 q e with e | e; exact .inr e; omega), fun q hq => by rcases hk5 q hq with e | e; exact hk2 q e; exact .inr (by have := hx2.size; have := hX4.size; omega)⟩), (by omega)⟩))
  all_goals (try (refine Br.mk (i := 1000) ?_))
  all_goals (repeat' (with_reducible first | refine thenP_n ?_ | refine blockP_n ?_))
  all_goals (refine WC.sub [(0, _), (5, _)] ⟨rfl, rfl, trivial⟩ ?_)
  all_goals (refine WC.seq ?_)
  all_goals (refine WC.region ?_)
  all_goals (have htk : ops.take k = ops := List.take_of_length_le (by omega)
             rw [htk] at r2 hok
             have hc2 := r2.cells
             have hap : ∀ q, A1.map (·.block) = some q → ¬ Ft b v2 q := fun q hq e => by
              have h1' : (Value.slice A1 l.length c1).ownBlock = some q := by cases A1 <;> simp_all [Value.ownBlock]
              have h2' := hf1 q h1'
              have h3' := hlt1 q h1'
              rcases e with e | e
              · have := hvl q (.inl e); omega
              · rcases hk2 q e with e | e
                · have := hvl q (.inr e); omega
                · omega)
  all_goals (refine WL.step (ok_move rfl) rfl rfl rfl ?_)
  all_goals (refine WL.step (ok_move rfl) rfl rfl rfl ?_)
  all_goals (refine WL.step (ok_nilCheck rfl) rfl rfl rfl ?_)
  all_goals (refine WL.step (ok_fieldAddr rfl Try.underlying67 rfl (fun w => Try.sizeOf65 w)) rfl rfl rfl ?_)
  all_goals (refine WL.step (ok_load (fun w => Try.isAgg65 w) rfl (by first | assumption | exact cell_blk (by assumption) rfl)) rfl rfl rfl ?_)
  all_goals (refine WL.step (ok_makeFunc (vs := [_]) (us := []) rfl rfl) rfl rfl rfl ?_)
  all_goals (refine WL.call (vs := [_, _]) rfl (fun a w => Try.call54 a w) rfl (deleteFunc_int l (fun x => decide (x ∈ settleL most l ops)) (fun a w => Try.call55 a w) (fs := [.pointer (some ⟨b, 0, none⟩)]) (us := []) ho2 (by omega) (fun x _ h' hx' => has_any (r2.lru.ext hx' (fun q hq e => hap q e hq)) x (by omega))) rfl rfl rfl ?_
             rintro v6 h6 ⟨ho6, hx6, hl6⟩)
  all_goals (rw [gone_not] at ho6
             have h0q : ¬ A1.map (·.block) = some b0 := fun e => by
              have h1' : (Value.slice A1 l.length c1).ownBlock = some b0 := by cases A1 <;> simp_all [Value.ownBlock]
              have := hf1 b0 h1'
              have := lt_of_some r.cells
              omega)
  all_goals (refine WL.step (ok_assign rfl) rfl rfl rfl ?_)
  all_goals (refine WL.nil ?_)
  all_goals (repeat' (with_reducible first | refine thenP_n ?_ | refine blockP_n ?_))
  all_goals (refine WC.sub [(4, _)] ⟨rfl, trivial⟩ ?_)
  all_goals (refine WC.ret ?_)
  all_goals (repeat' (with_reducible first | refine thenP_r ?_ | refine blockP_r ?_))
  all_goals (refine retP_1 _ ⟨rfl, trivial⟩ ?_)
  all_goals (exact ⟨⟨v2, r2.ext hx6 h0q (fun q hq e => hap q e hq), ((hx1.mono fun _ _ e => e.elim).trans hx2).trans' hx6 (fun q hq e => by have := hf1 q (by cases A1 <;> simp_all [Value.ownBlock]); omega), fun q hq => (hk2 q hq).imp_right (Nat.le_trans hs1)⟩, ho6, fun q hq => hf1 q (by rw [hl6] at hq; cases A1 <;> simp_all [Value.ownBlock])⟩)
/-- A list behind the ops of entries. -/
def laterL (l : List Int) (L : List En) : List Int := L.foldl (fun l e => foldL l e.ops) l
theorem later_len (L : List En) : ∀ (l : List Int), (∀ e ∈ L, e.ops.length ≤ 10) → (laterL l L).length ≤ l.length + 10 * L.length := by
  induction L with
  | nil => exact fun _ _ => Nat.le_refl _
  | cons e L ih =>
    intro l h
    have h1 := ih (foldL l e.ops) fun x hx => h x (List.mem_cons_of_mem _ hx)
    have h2 := fold_len e.ops l
    have h3 := h e List.mem_cons_self
    show (laterL (foldL l e.ops) L).length ≤ _
    simp only [List.length_cons]
    omega
set_option maxRecDepth 100000 in
theorem spec_cc {h : Heap} {b0 b : Nat} {v w : Value} {most : Int} {l : List Int} (r : Cc h b0 b v most l) (L : List En) (hL : Ens h w L) (hm : l.length ≤ 5000) (h20 : L.length ≤ 20) (h10 : ∀ e ∈ L, e.ops.length ≤ 10) :
    CallsH Try.prog 25 ⟨[.pointer (some ⟨b0, 0, none⟩), w]⟩ h fun u h' => NewL h u (laterL l L) h' := by
  obtain ⟨B, d, rfl, _⟩ := id hL.1
  refine calls [(0, _), (1, _)] Try.func25 rfl Try.ntmps25 rfl ⟨rfl, rfl, trivial⟩ ?_
  all_goals (refine WC.seq ?_)
  all_goals (refine WC.region ?_)
  all_goals (refine WL.step (ok_assign rfl) rfl rfl rfl ?_)
  all_goals (refine WL.nil ?_)
  all_goals (repeat' (with_reducible first | refine thenP_n ?_ | refine blockP_n ?_))
  all_goals (refine WC.seq ?_)
  all_goals (refine WC.region ?_)
  all_goals (refine WL.step (ok_move rfl) rfl rfl rfl ?_)
  all_goals (refine WL.call (vs := [_]) rfl (fun a w => Try.call27 a w) rfl (list_cc r (by omega)) rfl rfl rfl ?_
             rintro v1 h1 ⟨ho1, hx1, hf1⟩)
  all_goals (refine WL.step (ok_assign rfl) rfl rfl rfl ?_)
  all_goals (refine WL.nil ?_)
  all_goals (repeat' (with_reducible first | refine thenP_n ?_ | refine blockP_n ?_))
  all_goals (refine WC.seq ?_)
  all_goals (refine WC.seq ?_)
  all_goals (refine WC.region ?_)
  all_goals (refine WL.step (ok_move rfl) rfl rfl rfl ?_)
  all_goals (refine WL.call (vs := [_]) rfl (fun a w => Try.call52 a w) rfl (ready_cc (r.ext0 hx1)) rfl rfl rfl ?_
             rintro _ hz ⟨rfl, _⟩
             subst hz)
  all_goals (refine WL.step (ok_not rfl) rfl rfl rfl ?_)
  all_goals (refine WL.nil ?_)
  all_goals (repeat' (with_reducible first | refine thenP_n ?_ | refine blockP_n ?_))
  all_goals (refine WC.sub [(1, _), (5, _), (12, _)] ⟨rfl, rfl, rfl, trivial⟩ ?_)
  all_goals (first | refine WC.condB_t 1 rfl ?_ | refine WC.condB_f 2 rfl ?_ | (refine WC.condB 1 2 rfl (fun hb => ?_) (fun hb => ?_) <;> (first | replace hb := of_decide_eq_true hb | replace hb := of_decide_eq_false hb | replace hb := of_decide_eq_false (nt hb) | replace hb := of_decide_eq_true (nf hb) | skip)))
  all_goals (first
    | (fail_if_success (refine Br.mk (i := 1) ?_))
    | (refine Br.mk (i := 1) ?_
       all_goals (refine WC.seq ?_)
       all_goals (refine WC.region ?_)
       all_goals (refine WL.step (ok_assign rfl) rfl rfl rfl ?_)
       all_goals (refine WL.nil ?_)
       all_goals (repeat' (with_reducible first | refine thenP_n ?_ | refine blockP_n ?_))
       all_goals (refine WC.ret ?_)
       all_goals (repeat' (with_reducible first | refine thenP_r ?_ | refine blockP_r ?_))
       all_goals (refine retP_1 _ ⟨rfl, trivial⟩ ?_)
       all_goals (rw [show laterL l L = laterL l (L.take k) by rw [List.take_of_length_le (by omega)]]
                  exact ⟨ho2, hx2, hf2⟩)
       skip))
  all_goals (first
    | (fail_if_success (refine Br.mk (i := 2) ?_))
    | (refine Br.mk (i := 2) ?_
       all_goals (refine WC.skip ?_)
       skip))
  all_goals (repeat' (with_reducible first | refine thenP_n ?_ | refine blockP_n ?_))
  all_goals (refine WC.seq ?_)
  all_goals (refine WC.seq ?_)
  all_goals (refine WC.region ?_)
  all_goals (refine WL.step (ok_move rfl) rfl rfl rfl ?_)
  all_goals (refine WL.step (ok_lenL rfl Try.underlying27 rfl) rfl rfl rfl ?_)
  all_goals (refine WL.step (ok_move rfl) rfl rfl rfl ?_)
  all_goals (refine WL.nil ?_)
  all_goals (repeat' (with_reducible first | refine thenP_n ?_ | refine blockP_n ?_))
  all_goals (refine WC.block ?_)
  -- loop 0: slots that turn [5, 15], that stay [13, 14]
  all_goals (refine WC.loopG (X := Nat × Value) (fun x => ([(15, In (x.1 : Int)), (5, x.2)] : Fr)) [(13, _), (14, _)] (fun x h' => x.1 ≤ L.length ∧ NewL h x.2 (laterL l (L.take x.1)) h') (fun x => L.length - x.1) ((0, v1)) ⟨rfl, rfl, rfl, rfl, trivial⟩ (by exact ⟨Nat.zero_le _, by simpa [laterL] using ho1, hx1, hf1⟩) ?_)
  all_goals (rintro ⟨k, v2⟩ h2 ⟨hk, ho2, hx2, hf2⟩
             simp only at hk ho2 hf2
             have hle := later_len (L.take k) l (fun e he => h10 e (List.mem_of_mem_take he))
             rw [List.length_take] at hle)
  all_goals (refine WC.sub [(5, _), (15, _), (13, _), (14, _)] ⟨rfl, rfl, rfl, rfl, trivial⟩ ?_)
  all_goals (dsimp only)
  all_goals (refine WC.seq ?_)
  all_goals (refine WC.region ?_)
  all_goals (first | (refine WL.step (OkP.bool_t (by omega) (ok_lss rfl rfl)) rfl rfl rfl ?_) | (refine WL.step (OkP.bool_f (by omega) (ok_lss rfl rfl)) rfl rfl rfl ?_) | (refine WL.step (ok_lss rfl rfl) rfl rfl rfl ?_))
  all_goals (refine WL.nil ?_)
  all_goals (repeat' (with_reducible first | refine thenP_n ?_ | refine blockP_n ?_))
  all_goals (refine WC.seq ?_)
  all_goals (first | refine WC.condB_t 3 rfl ?_ | refine WC.condB_f 4 rfl ?_ | (refine WC.condB 3 4 rfl (fun hb => ?_) (fun hb => ?_) <;> (first | replace hb := of_decide_eq_true hb | replace hb := of_decide_eq_false hb | replace hb := of_decide_eq_false (nt hb) | replace hb := of_decide_eq_true (nf hb) | skip)))
  all_goals (first
    | (fail_if_success (refine Br.mk (i := 3) ?_))
    | (refine Br.mk (i := 3) ?_
       all_goals (refine WC.skip ?_)
       skip))
  all_goals (first
    | (fail_if_success (refine Br.mk (i := 4) ?_))
    | (refine Br.mk (i := 4) ?_
       all_goals (refine WC.exit ?_)
       all_goals (repeat' (with_reducible first | refine thenP_x ?_ | refine blockP_miss rfl ?_ | refine blockP_hit ?_ | refine blockP_n ?_ | refine thenP_n ?_))
       all_goals (refine Br.out (i := 1000) ?_)
       skip))
  all_goals (first | (refine Br.keep ?_) | (repeat' (with_reducible first | refine thenP_n ?_ | refine blockP_n ?_)))
  all_goals (first | (refine Br.keep ?_) | (refine WC.seq ?_))
  all_goals (first | (refine Br.keep ?_) | (refine WC.block ?_))
  all_goals (first | (refine Br.keep ?_) | (refine WC.seq ?_))
  all_goals (first | (refine Br.keep ?_) | (refine WC.region ?_))
  all_goals (first
               | (refine Br.keep ?_)
               | (obtain ⟨bL, oL, hA, hbL, hat⟩ := Rd.at_ (hL.1.ext0 hx2) (by omega)
                  obtain ⟨y, hy⟩ : ∃ y, L[k]? = some y := ⟨_, List.getElem?_eq_getElem (by omega)⟩
                  have hc : At h2 bL (oL + k * 8) y.cells := At.elem En.len hat hy
                  have hy10 := h10 y (List.mem_of_getElem? hy)
                  have hyo := (hL.2.2 y (List.mem_of_getElem? hy)).ops.ext0 hx2))
  all_goals (first | (refine Br.keep ?_) | (refine WL.step (ok_idxAddrA Try.underlying27 (fun w => Try.sizeOf51 w) rfl rfl rfl (by omega) (by first | rfl | assumption)) rfl rfl rfl ?_))
  all_goals (first | (refine Br.keep ?_) | (refine WL.step (ok_loadN (fun w => Try.isAgg51 w) (fun w => Try.sizeOf51 w) rfl rfl (by assumption)) rfl rfl rfl ?_))
  all_goals (first
               | (refine Br.keep ?_)
               | (refine WL.stepR (okE_alloc (fun w => Try.zeroValue51 w)) rfl rfl rfl ?_
                  rintro _ h3 ⟨b3, rfl, hg3, hb3, hx3⟩))
  all_goals (first
               | (refine Br.keep ?_)
               | (refine WL.stepR0 (okE_storeW (fun w => Try.sizeOf51 w) rfl rfl rfl (by assumption) rfl (hL.2.2 y (List.mem_of_getElem? hy)).one) rfl rfl ?_
                  rintro _ h4 ⟨hb4, hx4⟩))
  all_goals (first | (refine Br.keep ?_) | (have hX4 := hx3.trans' hx4 (fun q hq e => by omega)))
  all_goals (first | (refine Br.keep ?_) | (refine WL.nil ?_))
  all_goals (first | (refine Br.keep ?_) | (repeat' (with_reducible first | refine thenP_n ?_ | refine blockP_n ?_)))
  all_goals (first | (refine Br.keep ?_) | (refine WC.region ?_))
  all_goals (first | (refine Br.keep ?_) | (refine WL.step (ok_move rfl) rfl rfl rfl ?_))
  all_goals (first | (refine Br.keep ?_) | (refine WL.step (ok_fieldAddr rfl Try.underlying51 rfl (fun w => Try.sizeOf40 w)) rfl rfl rfl ?_))
  all_goals (first | (refine Br.keep ?_) | (refine WL.step (ok_load (fun w => Try.isAgg40 w) rfl (by first | assumption | exact cell_blk (by assumption) rfl)) rfl rfl rfl ?_))
  all_goals (first
               | (refine Br.keep ?_)
               | (refine WL.call (vs := [_, _]) rfl (fun a w => Try.call31 a w) rfl (fold_any _ y.ops (ho2.rd.ext0 hX4) (hyo.ext0 hX4) (by omega)) rfl rfl rfl ?_
                  rintro v5 h5 ⟨ho5, hx5, hf5⟩))
  all_goals (first | (refine Br.keep ?_) | (refine WL.step (ok_assign rfl) rfl rfl rfl ?_))
  all_goals (first | (refine Br.keep ?_) | (refine WL.nil ?_))
  all_goals (first | (refine Br.keep ?_) | (repeat' (with_reducible first | refine thenP_n ?_ | refine blockP_n ?_)))
  all_goals (first | (refine Br.keep ?_) | (refine WC.sub [(5, _), (13, _), (14, _), (15, _)] ⟨rfl, rfl, rfl, rfl, trivial⟩ ?_))
  all_goals (first | (refine Br.keep ?_) | (refine WC.region ?_))
  all_goals (first | (refine Br.keep ?_) | (first | (refine WL.step (ok_addI rfl rfl (by omega)) rfl rfl rfl ?_) | (refine WL.step (ok_add rfl rfl) rfl rfl rfl ?_)))
  all_goals (first | (refine Br.keep ?_) | (refine WL.step (ok_move rfl) rfl rfl rfl ?_))
  all_goals (first | (refine Br.keep ?_) | (refine WL.nil ?_))
  all_goals (first | (refine Br.keep ?_) | (repeat' (with_reducible first | refine thenP_n ?_ | refine blockP_n ?_)))
  all_goals (first | (refine Br.keep ?_) | (exact ⟨(k + 1, _), ⟨rfl, rfl, rfl, rfl, trivial⟩, (by exact ⟨by simp; omega, by show Own _ _ _ _ (laterL l (L.take (k + 1))).length _; rw [laterL, foldl_take _ _ _ hy]; exact ho5, (hx2.trans hX4).trans hx5, fun q hq => Nat.le_trans (hx2.trans hX4).size (hf5 q hq)⟩), (by simp; omega)⟩))
  all_goals (try (refine Br.mk (i := 1000) ?_))
  all_goals (repeat' (with_reducible first | refine thenP_n ?_ | refine blockP_n ?_))
  all_goals (refine WC.sub [(5, _)] ⟨rfl, trivial⟩ ?_)
  all_goals (refine WC.seq ?_)
  all_goals (refine WC.region ?_)
  all_goals (refine WL.step (ok_move rfl) rfl rfl rfl ?_)
  all_goals (refine WL.step (ok_assign rfl) rfl rfl rfl ?_)
  all_goals (refine WL.nil ?_)
  all_goals (repeat' (with_reducible first | refine thenP_n ?_ | refine blockP_n ?_))
  all_goals (refine WC.ret ?_)
  all_goals (repeat' (with_reducible first | refine thenP_r ?_ | refine blockP_r ?_))
  all_goals (refine retP_1 _ ⟨rfl, trivial⟩ ?_)
  all_goals (rw [show laterL l L = laterL l (L.take k) by rw [List.take_of_length_le (by omega)]]
             exact ⟨ho2, hx2, hf2⟩)
end Go.Proofs.Ytkejihockkhnoaa

