/-
  LRU (layer 17) and the document's: each told by the list of numbers that it holds.
-/
import Derived.Test.YtkejihockkhnoaaSl
namespace Go.Proofs.Ytkejihockkhnoaa
open Go Go.RK

/-- A list of numbers at block b (its struct's type T), its own row in v. -/
structure Lr (T : TypeId) (h : Heap) (b : Nat) (v : Value) (most : Int) (l : List Int) : Prop where
  cells : h[b]? = some (.cells ⟨[v, In most]⟩ T (0, 0))
  own : Own h v 3 1 l.length (ints l)
/-- The blocks that it holds. -/
def Ft (b : Nat) (v : Value) : Nat → Prop := fun k => k = b ∨ v.ownBlock = some k
theorem Lr.ext {T : TypeId} {S : Nat → Prop} {h h' : Heap} {b : Nat} {v : Value} {most : Int} {l : List Int} (r : Lr T h b v most l) (a : Ext S h h') (hS : ∀ k, Ft b v k → ¬ S k) : Lr T h' b v most l :=
  ⟨a.obj r.cells (hS b (.inl rfl)), r.own.ext a fun k hk => hS k (.inr hk)⟩
theorem Lr.ne {T : TypeId} (hT : T ≠ 3) {h : Heap} {b : Nat} {v : Value} {most : Int} {l : List Int} (r : Lr T h b v most l) : v.ownBlock ≠ some b := by
  intro e
  obtain ⟨_, ⟨rfl, _⟩ | ⟨g, cap, cur, rfl, hg, _⟩⟩ := r.own
  · cases e
  · simp only [Value.ownBlock, Option.some.injEq] at e
    subst e
    have := r.cells
    rw [hg] at this
    simp only [Option.some.injEq, Obj.cells.injEq] at this
    exact hT this.2.1.symm
theorem Lr.lt {T : TypeId} {h : Heap} {b : Nat} {v : Value} {most : Int} {l : List Int} (r : Lr T h b v most l) : ∀ k, Ft b v k → k < h.size := by
  rintro k (rfl | e)
  · exact lt_of_some r.cells
  · obtain ⟨_, ⟨rfl, _⟩ | ⟨g, cap, cur, rfl, hg, _⟩⟩ := r.own
    · cases e
    · simp only [Value.ownBlock, Option.some.injEq] at e
      exact e ▸ lt_of_some hg
/-- What a call that turns it leaves: its blocks are those that it had, or new. -/
def Kin (h : Heap) (v v' : Value) : Prop := ∀ k, v'.ownBlock = some k → v.ownBlock = some k ∨ h.size ≤ k

/-- One taken out, wherever it stands. -/
def rmL (l : List Int) (id : Int) : List Int := l.filter fun x => decide (x ≠ id)

set_option maxRecDepth 100000 in
/-! ### package lru -/
theorem at_any {h : Heap} {b : Nat} {v : Value} {most : Int} {l : List Int} (r : Lr 104 h b v most l) (id : Int) (hm : l.length ≤ 1000000) :
    CallsH Try.prog 77 ⟨[.pointer (some ⟨b, 0, none⟩), In id]⟩ h fun u h' => u = In (idxOf l id) ∧ h' = h := by
  obtain ⟨hb, ho⟩ := r
  obtain ⟨A, c, rfl, _⟩ := ho.slice
  have hr := ho.rd
  refine calls [(0, _), (1, _)] Try.func77 rfl Try.ntmps77 rfl ⟨rfl, rfl, trivial⟩ ?_
  all_goals (refine WC.seq ?_)
  all_goals (refine WC.region ?_)
  all_goals (refine WL.step (ok_assign rfl) rfl rfl rfl ?_)
  all_goals (refine WL.nil ?_)
  all_goals (repeat' (with_reducible first | refine thenP_n ?_ | refine blockP_n ?_))
  all_goals (refine WC.seq ?_)
  all_goals (refine WC.seq ?_)
  all_goals (refine WC.region ?_)
  all_goals (refine WL.step (ok_move rfl) rfl rfl rfl ?_)
  all_goals (refine WL.step (ok_eqlPn Try.underlying65 rfl rfl) rfl rfl rfl ?_)
  all_goals (refine WL.nil ?_)
  all_goals (repeat' (with_reducible first | refine thenP_n ?_ | refine blockP_n ?_))
  all_goals (first | refine WC.condB_t 1 rfl ?_ | refine WC.condB_f 2 rfl ?_ | (refine WC.condB 1 2 rfl (fun hb => ?_) (fun hb => ?_) <;> (first | replace hb := of_decide_eq_true hb | replace hb := of_decide_eq_false hb | replace hb := of_decide_eq_false (nt hb) | replace hb := of_decide_eq_true (nf hb) | skip)))
  all_goals (first
    | (fail_if_success (refine Br.mk (i := 1) ?_))
    | (refine Br.mk (i := 1) ?_
       all_goals (refine WC.seq ?_)
       all_goals (refine WC.region ?_)
       all_goals (refine WL.step (ok_assign rfl) rfl rfl rfl ?_)
       all_goals (refine WL.nil ?_)
       all_goals (repeat' (with_reducible first | refine thenP_n ?_ | refine blockP_n ?_))
       all_goals (refine WC.sub [(4, _)] ⟨rfl, trivial⟩ ?_)
       all_goals (refine WC.ret ?_)
       all_goals (repeat' (with_reducible first | refine thenP_r ?_ | refine blockP_r ?_))
       all_goals (refine retP_1 _ ⟨rfl, trivial⟩ ?_)
       all_goals (exact ⟨rfl, rfl⟩)
       skip))
  all_goals (first
    | (fail_if_success (refine Br.mk (i := 2) ?_))
    | (refine Br.mk (i := 2) ?_
       all_goals (refine WC.skip ?_)
       skip))
  all_goals (repeat' (with_reducible first | refine thenP_n ?_ | refine blockP_n ?_))
  all_goals (refine WC.seq ?_)
  all_goals (refine WC.region ?_)
  all_goals (refine WL.step (ok_move rfl) rfl rfl rfl ?_)
  all_goals (refine WL.step (ok_nilCheck rfl) rfl rfl rfl ?_)
  all_goals (refine WL.step (ok_fieldAddr rfl Try.underlying104 rfl (fun w => Try.sizeOf22 w)) rfl rfl rfl ?_)
  all_goals (refine WL.step (ok_load (fun w => Try.isAgg22 w) rfl (by first | assumption | exact cell_blk (by assumption) rfl)) rfl rfl rfl ?_)
  all_goals (refine WL.step (ok_move rfl) rfl rfl rfl ?_)
  all_goals (refine WL.call (vs := [_, _]) rfl (fun a w => Try.call59 a w) rfl (index_int l id hr (by unfold maxLen; omega)) rfl rfl rfl ?_
             rintro _ hz ⟨rfl, _⟩
             subst hz)
  all_goals (refine WL.step (ok_assign rfl) rfl rfl rfl ?_)
  all_goals (refine WL.nil ?_)
  all_goals (repeat' (with_reducible first | refine thenP_n ?_ | refine blockP_n ?_))
  all_goals (refine WC.sub [(4, _)] ⟨rfl, trivial⟩ ?_)
  all_goals (refine WC.ret ?_)
  all_goals (repeat' (with_reducible first | refine thenP_r ?_ | refine blockP_r ?_))
  all_goals (refine retP_1 _ ⟨rfl, trivial⟩ ?_)
  all_goals (exact ⟨rfl, rfl⟩)
theorem idxOf_iff (l : List Int) (id : Int) : 0 ≤ idxOf l id ↔ id ∈ l := by
  rcases idxOf_cases l id with ⟨e, h⟩ | ⟨k, e, h, _⟩
  · rw [e]; simp [h]
  · rw [e]; simp [List.mem_of_getElem? h]
set_option maxRecDepth 100000 in
theorem has_any {h : Heap} {b : Nat} {v : Value} {most : Int} {l : List Int} (r : Lr 104 h b v most l) (id : Int) (hm : l.length ≤ 1000000) :
    CallsH Try.prog 55 ⟨[.pointer (some ⟨b, 0, none⟩), In id]⟩ h fun u h' => u = .bool (decide (id ∈ l)) ∧ h' = h := by
  refine calls [(0, _), (1, _)] Try.func55 rfl Try.ntmps55 rfl ⟨rfl, rfl, trivial⟩ ?_
  all_goals (refine WC.seq ?_)
  all_goals (refine WC.region ?_)
  all_goals (refine WL.step (ok_assign rfl) rfl rfl rfl ?_)
  all_goals (refine WL.nil ?_)
  all_goals (repeat' (with_reducible first | refine thenP_n ?_ | refine blockP_n ?_))
  all_goals (refine WC.seq ?_)
  all_goals (refine WC.region ?_)
  all_goals (refine WL.step (ok_move rfl) rfl rfl rfl ?_)
  all_goals (refine WL.step (ok_move rfl) rfl rfl rfl ?_)
  all_goals (refine WL.call (vs := [_, _]) rfl (fun a w => Try.call77 a w) rfl (at_any r id hm) rfl rfl rfl ?_
             rintro _ hz ⟨rfl, _⟩
             subst hz)
  all_goals (refine WL.step (ok_geq rfl rfl) rfl rfl rfl ?_)
  all_goals (refine WL.step (ok_assign rfl) rfl rfl rfl ?_)
  all_goals (refine WL.nil ?_)
  all_goals (repeat' (with_reducible first | refine thenP_n ?_ | refine blockP_n ?_))
  all_goals (refine WC.sub [(4, _)] ⟨rfl, trivial⟩ ?_)
  all_goals (refine WC.ret ?_)
  all_goals (repeat' (with_reducible first | refine thenP_r ?_ | refine blockP_r ?_))
  all_goals (refine retP_1 _ ⟨rfl, trivial⟩ ?_)
  all_goals (exact ⟨by simp only [idxOf_iff], rfl⟩)
/-- What Add answers, and what is there behind it. -/
def addE (most : Int) (l : List Int) (id : Int) : Int := if id ∈ l then 8 else if (l.length : Int) = most then 6 else 0
def addL (most : Int) (l : List Int) (id : Int) : List Int := if id ∈ l then l else if (l.length : Int) = most then l else l ++ [id]
set_option maxRecDepth 100000 in
theorem add_any {h : Heap} {b : Nat} {v : Value} {most : Int} {l : List Int} (r : Lr 104 h b v most l) (id : Int) (hm : l.length ≤ 100000) (h0 : 0 < most) :
    CallsH Try.prog 73 ⟨[.pointer (some ⟨b, 0, none⟩), In id]⟩ h fun u h' => u = In (addE most l id) ∧ ∃ v', Lr 104 h' b v' most (addL most l id) ∧ Ext (Ft b v) h h' ∧ Kin h v v' := by
  have r0 := r
  have hne := r.ne (by decide)
  have hlt := r.lt
  obtain ⟨hb, ho⟩ := r
  obtain ⟨A, c, rfl, _⟩ := ho.slice
  by_cases h1 : id ∈ l
  · have hd : decide (id ∈ l) = true := by simp [h1]
    have hh := (has_any r0 id (by omega)).as (congrArg Value.bool hd)
    refine calls [(0, _), (1, _)] Try.func73 rfl Try.ntmps73 rfl ⟨rfl, rfl, trivial⟩ ?_
    all_goals (refine WC.seq ?_)
    all_goals (refine WC.region ?_)
    all_goals (refine WL.step (ok_assign rfl) rfl rfl rfl ?_)
    all_goals (refine WL.nil ?_)
    all_goals (repeat' (with_reducible first | refine thenP_n ?_ | refine blockP_n ?_))
    all_goals (refine WC.seq ?_)
    all_goals (refine WC.block ?_)
    all_goals (refine WC.seq ?_)
    all_goals (refine WC.region ?_)
    all_goals (refine WL.step (ok_move rfl) rfl rfl rfl ?_)
    all_goals (refine WL.step (ok_eqlPn Try.underlying65 rfl rfl) rfl rfl rfl ?_)
    all_goals (refine WL.step (ok_move rfl) rfl rfl rfl ?_)
    all_goals (try ((fail_if_success (refine WL.part 8 (b := true) rfl (fun _ => ?_) (fun _ => ?_))); (fail_if_success (refine WL.part 8 (b := false) rfl (fun _ => ?_) (fun _ => ?_))); (refine WL.part 8 rfl (fun hb => ?_) (fun hb => ?_) <;> (first | replace hb := of_decide_eq_true hb | replace hb := of_decide_eq_false hb | replace hb := of_decide_eq_false (nt hb) | replace hb := of_decide_eq_true (nf hb) | skip))))
    all_goals (first | (refine WL.pass rfl rfl rfl ?_) | (refine WL.step (ok_move rfl) rfl rfl rfl ?_))
    all_goals (first | (refine WL.pass rfl rfl rfl ?_) | (refine WL.step (ok_nilCheck rfl) rfl rfl rfl ?_))
    all_goals (first | (refine WL.pass rfl rfl rfl ?_) | (refine WL.step (ok_fieldAddr rfl Try.underlying104 rfl (fun w => Try.sizeOf3 w)) rfl rfl rfl ?_))
    all_goals (first | (refine WL.pass rfl rfl rfl ?_) | (refine WL.step (ok_load (fun w => Try.isAgg3 w) rfl (by first | assumption | exact cell_blk (by assumption) rfl)) rfl rfl rfl ?_))
    all_goals (first | (refine WL.pass rfl rfl rfl ?_) | (first | (refine WL.step (OkP.bool_t (by omega) (ok_eql rfl rfl)) rfl rfl rfl ?_) | (refine WL.step (OkP.bool_f (by omega) (ok_eql rfl rfl)) rfl rfl rfl ?_) | (refine WL.step (ok_eql rfl rfl) rfl rfl rfl ?_)))
    all_goals (first | (refine WL.step (ok_pick_t rfl rfl) rfl rfl rfl ?_) | (refine WL.step (ok_pick_f rfl rfl) rfl rfl rfl ?_))
    all_goals (refine WL.step (ok_assign rfl) rfl rfl rfl ?_)
    all_goals (refine WL.nil ?_)
    all_goals (repeat' (with_reducible first | refine thenP_n ?_ | refine blockP_n ?_))
    all_goals (refine WC.sub [(0, _), (1, _), (5, _)] ⟨rfl, rfl, rfl, trivial⟩ ?_)
    all_goals (first | refine WC.condB_t 1 rfl ?_ | refine WC.condB_f 2 rfl ?_ | (refine WC.condB 1 2 rfl (fun hb => ?_) (fun hb => ?_) <;> (first | replace hb := of_decide_eq_true hb | replace hb := of_decide_eq_false hb | replace hb := of_decide_eq_false (nt hb) | replace hb := of_decide_eq_true (nf hb) | skip)))
    all_goals (first
      | (fail_if_success (refine Br.mk (i := 1) ?_))
      | (refine Br.mk (i := 1) ?_
         all_goals (refine WC.seq ?_)
         all_goals (refine WC.region ?_)
         all_goals (refine WL.step (ok_assign rfl) rfl rfl rfl ?_)
         all_goals (refine WL.nil ?_)
         all_goals (repeat' (with_reducible first | refine thenP_n ?_ | refine blockP_n ?_))
         all_goals (refine WC.ret ?_)
         all_goals (repeat' (with_reducible first | refine thenP_r ?_ | refine blockP_r ?_))
         all_goals (refine retP_1 _ ⟨rfl, trivial⟩ ?_)
         all_goals (exact ⟨by simp [addE, h1], _, by simpa [addL, h1] using r0, .refl _ _, fun k hk => .inl hk⟩)
         skip))
    all_goals (first
      | (fail_if_success (refine Br.mk (i := 2) ?_))
      | (refine Br.mk (i := 2) ?_
         all_goals (refine WC.seq ?_)
         all_goals (refine WC.region ?_)
         all_goals (refine WL.step (ok_move rfl) rfl rfl rfl ?_)
         all_goals (refine WL.step (ok_move rfl) rfl rfl rfl ?_)
         all_goals (refine WL.call (vs := [_, _]) rfl (fun a w => Try.call55 a w) rfl (hh) rfl rfl rfl ?_
                    rintro _ hz ⟨rfl, _⟩
                    subst hz)
         all_goals (refine WL.step (ok_assign rfl) rfl rfl rfl ?_)
         all_goals (refine WL.nil ?_)
         all_goals (repeat' (with_reducible first | refine thenP_n ?_ | refine blockP_n ?_))
         all_goals (refine WC.sub [(0, _), (1, _), (15, _)] ⟨rfl, rfl, rfl, trivial⟩ ?_)
         all_goals (first | refine WC.condB_t 3 rfl ?_ | refine WC.condB_f 4 rfl ?_ | (refine WC.condB 3 4 rfl (fun hb => ?_) (fun hb => ?_) <;> (first | replace hb := of_decide_eq_true hb | replace hb := of_decide_eq_false hb | replace hb := of_decide_eq_false (nt hb) | replace hb := of_decide_eq_true (nf hb) | skip)))
         all_goals (first
           | (fail_if_success (refine Br.mk (i := 3) ?_))
           | (refine Br.mk (i := 3) ?_
              all_goals (refine WC.seq ?_)
              all_goals (refine WC.region ?_)
              all_goals (refine WL.step (ok_assign rfl) rfl rfl rfl ?_)
              all_goals (refine WL.nil ?_)
              all_goals (repeat' (with_reducible first | refine thenP_n ?_ | refine blockP_n ?_))
              all_goals (refine WC.ret ?_)
              all_goals (repeat' (with_reducible first | refine thenP_r ?_ | refine blockP_r ?_))
              all_goals (refine retP_1 _ ⟨rfl, trivial⟩ ?_)
              all_goals (exact ⟨by simp [addE, h1], _, by simpa [addL, h1] using r0, .refl _ _, fun k hk => .inl hk⟩)
              skip))
         all_goals (first
           | (fail_if_success (refine Br.mk (i := 4) ?_))
           | (refine Br.mk (i := 4) ?_
              all_goals (refine WC.seq ?_)
              all_goals (refine WC.drawE fol (by kernel_rfl) ?_)
              all_goals (refine WQ.stepE (ok_move rfl) rfl rfl rfl ?_)
              all_goals (refine WQ.stepE (ok_nilCheck rfl) rfl rfl rfl ?_)
              all_goals (refine WQ.stepE (ok_fieldAddr rfl Try.underlying104 rfl (fun w => Try.sizeOf22 w)) rfl rfl rfl ?_)
              all_goals (refine WQ.stepE (ok_load (fun w => Try.isAgg22 w) rfl (by first | assumption | exact cell_blk (by assumption) rfl)) rfl rfl rfl ?_)
              all_goals (refine WQ.stepE (ok_lenL rfl Try.underlying22 rfl) rfl rfl rfl ?_)
              all_goals (refine WQ.stepE (ok_move rfl) rfl rfl rfl ?_)
              all_goals (refine WQ.stepE (ok_nilCheck rfl) rfl rfl rfl ?_)
              all_goals (refine WQ.stepE (ok_fieldAddr rfl Try.underlying104 rfl (fun w => Try.sizeOf3 w)) rfl rfl rfl ?_)
              all_goals (refine WQ.stepE (ok_load (fun w => Try.isAgg3 w) rfl (by first | assumption | exact cell_blk (by assumption) rfl)) rfl rfl rfl ?_)
              all_goals (first | (refine WQ.stepE (OkP.bool_t (by omega) (ok_eql rfl rfl)) rfl rfl rfl ?_) | (refine WQ.stepE (OkP.bool_f (by omega) (ok_eql rfl rfl)) rfl rfl rfl ?_) | (refine WQ.stepE (ok_eql rfl rfl) rfl rfl rfl ?_))
              all_goals (refine WQ.stepE (ok_assign rfl) rfl rfl rfl ?_)
              all_goals (refine WQ.nil ?_)
              all_goals (repeat' (with_reducible first | refine thenP_n ?_ | refine blockP_n ?_))
              all_goals (refine WC.sub [(0, _), (1, _), (19, _)] ⟨rfl, rfl, rfl, trivial⟩ ?_)
              all_goals (first | refine WC.condB_t 5 rfl ?_ | refine WC.condB_f 6 rfl ?_ | (refine WC.condB 5 6 rfl (fun hb => ?_) (fun hb => ?_) <;> (first | replace hb := of_decide_eq_true hb | replace hb := of_decide_eq_false hb | replace hb := of_decide_eq_false (nt hb) | replace hb := of_decide_eq_true (nf hb) | skip)))
              all_goals (first
                | (fail_if_success (refine Br.mk (i := 5) ?_))
                | (refine Br.mk (i := 5) ?_
                   all_goals (refine WC.seq ?_)
                   all_goals (refine WC.region ?_)
                   all_goals (refine WL.step (ok_assign rfl) rfl rfl rfl ?_)
                   all_goals (refine WL.nil ?_)
                   all_goals (repeat' (with_reducible first | refine thenP_n ?_ | refine blockP_n ?_))
                   all_goals (refine WC.ret ?_)
                   all_goals (repeat' (with_reducible first | refine thenP_r ?_ | refine blockP_r ?_))
                   all_goals (refine retP_1 _ ⟨rfl, trivial⟩ ?_)
                   all_goals (exact ⟨by simp [addE, h1], _, by simpa [addL, h1] using r0, .refl _ _, fun k hk => .inl hk⟩)
                   skip))
              all_goals (first
                | (fail_if_success (refine Br.mk (i := 6) ?_))
                | (refine Br.mk (i := 6) ?_
                   all_goals (refine WC.skip ?_)
                   skip))
              skip))
         skip))
    all_goals (repeat' (with_reducible first | refine thenP_n ?_ | refine blockP_n ?_))
    all_goals (refine WC.seq ?_)
    all_goals (refine WC.region ?_)
    all_goals (refine WL.step (ok_move rfl) rfl rfl rfl ?_)
    all_goals (refine WL.step (ok_move rfl) rfl rfl rfl ?_)
    all_goals (refine WL.step (ok_nilCheck rfl) rfl rfl rfl ?_)
    all_goals (refine WL.step (ok_fieldAddr rfl Try.underlying104 rfl (fun w => Try.sizeOf22 w)) rfl rfl rfl ?_)
    all_goals (refine WL.step (ok_load (fun w => Try.isAgg22 w) rfl (by first | assumption | exact cell_blk (by assumption) rfl)) rfl rfl rfl ?_)
    all_goals (refine WL.step (ok_move rfl) rfl rfl rfl ?_)
    all_goals (refine WL.stepR (okE_buildSlice (vs := [_]) (cs := [_]) (fun | [a0] => [a0] | _ => []) Try.underlying22 rfl rfl (by kernel_rfl)) rfl rfl rfl ?_
               rintro _ h1 ⟨b1, rfl, hg1, hb1, hx1⟩)
    all_goals (refine WL.stepR (ok_append (sz := 1) (bytes := 8) rfl Try.underlying22 (show Try.prog.info? 3 = some Try.t3 by kernel_rfl) rfl rfl rfl rfl (by decide) rfl rfl (by assumption) (by first | assumption | exact rd_blk (by assumption) rfl) (by simp [Value.oneCell']) (by simp only [maxLen]; omega) (by omega)) rfl rfl rfl ?_
               rintro v1 h1 ⟨ho1, hx1, hl1⟩)
    all_goals (refine WL.step (ok_nilCheck rfl) rfl rfl rfl ?_)
    all_goals (refine WL.step (ok_fieldAddr rfl Try.underlying104 rfl (fun w => Try.sizeOf22 w)) rfl rfl rfl ?_)
    all_goals (refine WL.stepR0 (okE_store (fun w => Try.sizeOf22 w) rfl rfl (by assumption) (Nat.le_of_ble_eq_true rfl) rfl rfl) rfl rfl ?_
               rintro _ h1 ⟨hb1, hx1⟩)
    all_goals (refine WL.nil ?_)
    all_goals (repeat' (with_reducible first | refine thenP_n ?_ | refine blockP_n ?_))
    all_goals (refine WC.sub [] trivial ?_)
    all_goals (refine WC.seq ?_)
    all_goals (refine WC.region ?_)
    all_goals (refine WL.step (ok_assign rfl) rfl rfl rfl ?_)
    all_goals (refine WL.nil ?_)
    all_goals (repeat' (with_reducible first | refine thenP_n ?_ | refine blockP_n ?_))
    all_goals (refine WC.ret ?_)
    all_goals (repeat' (with_reducible first | refine thenP_r ?_ | refine blockP_r ?_))
    all_goals (refine retP_1 _ ⟨rfl, trivial⟩ ?_)
    all_goals (exact ⟨by simp [addE, h1], _, by simpa [addL, h1] using r0, .refl _ _, fun k hk => .inl hk⟩)
  · have hd : decide (id ∈ l) = false := by simp [h1]
    have hh := (has_any r0 id (by omega)).as (congrArg Value.bool hd)
    by_cases h2 : (l.length : Int) = most
    · have e2 : (l.length : Int) = most := h2
      refine calls [(0, _), (1, _)] Try.func73 rfl Try.ntmps73 rfl ⟨rfl, rfl, trivial⟩ ?_
      all_goals (refine WC.seq ?_)
      all_goals (refine WC.region ?_)
      all_goals (refine WL.step (ok_assign rfl) rfl rfl rfl ?_)
      all_goals (refine WL.nil ?_)
      all_goals (repeat' (with_reducible first | refine thenP_n ?_ | refine blockP_n ?_))
      all_goals (refine WC.seq ?_)
      all_goals (refine WC.block ?_)
      all_goals (refine WC.seq ?_)
      all_goals (refine WC.region ?_)
      all_goals (refine WL.step (ok_move rfl) rfl rfl rfl ?_)
      all_goals (refine WL.step (ok_eqlPn Try.underlying65 rfl rfl) rfl rfl rfl ?_)
      all_goals (refine WL.step (ok_move rfl) rfl rfl rfl ?_)
      all_goals (try ((fail_if_success (refine WL.part 8 (b := true) rfl (fun _ => ?_) (fun _ => ?_))); (fail_if_success (refine WL.part 8 (b := false) rfl (fun _ => ?_) (fun _ => ?_))); (refine WL.part 8 rfl (fun hb => ?_) (fun hb => ?_) <;> (first | replace hb := of_decide_eq_true hb | replace hb := of_decide_eq_false hb | replace hb := of_decide_eq_false (nt hb) | replace hb := of_decide_eq_true (nf hb) | skip))))
      all_goals (first | (refine WL.pass rfl rfl rfl ?_) | (refine WL.step (ok_move rfl) rfl rfl rfl ?_))
      all_goals (first | (refine WL.pass rfl rfl rfl ?_) | (refine WL.step (ok_nilCheck rfl) rfl rfl rfl ?_))
      all_goals (first | (refine WL.pass rfl rfl rfl ?_) | (refine WL.step (ok_fieldAddr rfl Try.underlying104 rfl (fun w => Try.sizeOf3 w)) rfl rfl rfl ?_))
      all_goals (first | (refine WL.pass rfl rfl rfl ?_) | (refine WL.step (ok_load (fun w => Try.isAgg3 w) rfl (by first | assumption | exact cell_blk (by assumption) rfl)) rfl rfl rfl ?_))
      all_goals (first | (refine WL.pass rfl rfl rfl ?_) | (first | (refine WL.step (OkP.bool_t (by omega) (ok_eql rfl rfl)) rfl rfl rfl ?_) | (refine WL.step (OkP.bool_f (by omega) (ok_eql rfl rfl)) rfl rfl rfl ?_) | (refine WL.step (ok_eql rfl rfl) rfl rfl rfl ?_)))
      all_goals (first | (refine WL.step (ok_pick_t rfl rfl) rfl rfl rfl ?_) | (refine WL.step (ok_pick_f rfl rfl) rfl rfl rfl ?_))
      all_goals (refine WL.step (ok_assign rfl) rfl rfl rfl ?_)
      all_goals (refine WL.nil ?_)
      all_goals (repeat' (with_reducible first | refine thenP_n ?_ | refine blockP_n ?_))
      all_goals (refine WC.sub [(0, _), (1, _), (5, _)] ⟨rfl, rfl, rfl, trivial⟩ ?_)
      all_goals (first | refine WC.condB_t 1 rfl ?_ | refine WC.condB_f 2 rfl ?_ | (refine WC.condB 1 2 rfl (fun hb => ?_) (fun hb => ?_) <;> (first | replace hb := of_decide_eq_true hb | replace hb := of_decide_eq_false hb | replace hb := of_decide_eq_false (nt hb) | replace hb := of_decide_eq_true (nf hb) | skip)))
      all_goals (first
        | (fail_if_success (refine Br.mk (i := 1) ?_))
        | (refine Br.mk (i := 1) ?_
           all_goals (refine WC.seq ?_)
           all_goals (refine WC.region ?_)
           all_goals (refine WL.step (ok_assign rfl) rfl rfl rfl ?_)
           all_goals (refine WL.nil ?_)
           all_goals (repeat' (with_reducible first | refine thenP_n ?_ | refine blockP_n ?_))
           all_goals (refine WC.ret ?_)
           all_goals (repeat' (with_reducible first | refine thenP_r ?_ | refine blockP_r ?_))
           all_goals (refine retP_1 _ ⟨rfl, trivial⟩ ?_)
           all_goals (exact ⟨by simp [addE, h1, h2], _, by simpa [addL, h1, h2] using r0, .refl _ _, fun k hk => .inl hk⟩)
           skip))
      all_goals (first
        | (fail_if_success (refine Br.mk (i := 2) ?_))
        | (refine Br.mk (i := 2) ?_
           all_goals (refine WC.seq ?_)
           all_goals (refine WC.region ?_)
           all_goals (refine WL.step (ok_move rfl) rfl rfl rfl ?_)
           all_goals (refine WL.step (ok_move rfl) rfl rfl rfl ?_)
           all_goals (refine WL.call (vs := [_, _]) rfl (fun a w => Try.call55 a w) rfl (hh) rfl rfl rfl ?_
                      rintro _ hz ⟨rfl, _⟩
                      subst hz)
           all_goals (refine WL.step (ok_assign rfl) rfl rfl rfl ?_)
           all_goals (refine WL.nil ?_)
           all_goals (repeat' (with_reducible first | refine thenP_n ?_ | refine blockP_n ?_))
           all_goals (refine WC.sub [(0, _), (1, _), (15, _)] ⟨rfl, rfl, rfl, trivial⟩ ?_)
           all_goals (first | refine WC.condB_t 3 rfl ?_ | refine WC.condB_f 4 rfl ?_ | (refine WC.condB 3 4 rfl (fun hb => ?_) (fun hb => ?_) <;> (first | replace hb := of_decide_eq_true hb | replace hb := of_decide_eq_false hb | replace hb := of_decide_eq_false (nt hb) | replace hb := of_decide_eq_true (nf hb) | skip)))
           all_goals (first
             | (fail_if_success (refine Br.mk (i := 3) ?_))
             | (refine Br.mk (i := 3) ?_
                all_goals (refine WC.seq ?_)
                all_goals (refine WC.region ?_)
                all_goals (refine WL.step (ok_assign rfl) rfl rfl rfl ?_)
                all_goals (refine WL.nil ?_)
                all_goals (repeat' (with_reducible first | refine thenP_n ?_ | refine blockP_n ?_))
                all_goals (refine WC.ret ?_)
                all_goals (repeat' (with_reducible first | refine thenP_r ?_ | refine blockP_r ?_))
                all_goals (refine retP_1 _ ⟨rfl, trivial⟩ ?_)
                all_goals (exact ⟨by simp [addE, h1, h2], _, by simpa [addL, h1, h2] using r0, .refl _ _, fun k hk => .inl hk⟩)
                skip))
           all_goals (first
             | (fail_if_success (refine Br.mk (i := 4) ?_))
             | (refine Br.mk (i := 4) ?_
                all_goals (refine WC.seq ?_)
                all_goals (refine WC.drawE fol (by kernel_rfl) ?_)
                all_goals (refine WQ.stepE (ok_move rfl) rfl rfl rfl ?_)
                all_goals (refine WQ.stepE (ok_nilCheck rfl) rfl rfl rfl ?_)
                all_goals (refine WQ.stepE (ok_fieldAddr rfl Try.underlying104 rfl (fun w => Try.sizeOf22 w)) rfl rfl rfl ?_)
                all_goals (refine WQ.stepE (ok_load (fun w => Try.isAgg22 w) rfl (by first | assumption | exact cell_blk (by assumption) rfl)) rfl rfl rfl ?_)
                all_goals (refine WQ.stepE (ok_lenL rfl Try.underlying22 rfl) rfl rfl rfl ?_)
                all_goals (refine WQ.stepE (ok_move rfl) rfl rfl rfl ?_)
                all_goals (refine WQ.stepE (ok_nilCheck rfl) rfl rfl rfl ?_)
                all_goals (refine WQ.stepE (ok_fieldAddr rfl Try.underlying104 rfl (fun w => Try.sizeOf3 w)) rfl rfl rfl ?_)
                all_goals (refine WQ.stepE (ok_load (fun w => Try.isAgg3 w) rfl (by first | assumption | exact cell_blk (by assumption) rfl)) rfl rfl rfl ?_)
                all_goals (first | (refine WQ.stepE (OkP.bool_t (by omega) (ok_eql rfl rfl)) rfl rfl rfl ?_) | (refine WQ.stepE (OkP.bool_f (by omega) (ok_eql rfl rfl)) rfl rfl rfl ?_) | (refine WQ.stepE (ok_eql rfl rfl) rfl rfl rfl ?_))
                all_goals (refine WQ.stepE (ok_assign rfl) rfl rfl rfl ?_)
                all_goals (refine WQ.nil ?_)
                all_goals (repeat' (with_reducible first | refine thenP_n ?_ | refine blockP_n ?_))
                all_goals (refine WC.sub [(0, _), (1, _), (19, _)] ⟨rfl, rfl, rfl, trivial⟩ ?_)
                all_goals (first | refine WC.condB_t 5 rfl ?_ | refine WC.condB_f 6 rfl ?_ | (refine WC.condB 5 6 rfl (fun hb => ?_) (fun hb => ?_) <;> (first | replace hb := of_decide_eq_true hb | replace hb := of_decide_eq_false hb | replace hb := of_decide_eq_false (nt hb) | replace hb := of_decide_eq_true (nf hb) | skip)))
                all_goals (first
                  | (fail_if_success (refine Br.mk (i := 5) ?_))
                  | (refine Br.mk (i := 5) ?_
                     all_goals (refine WC.seq ?_)
                     all_goals (refine WC.region ?_)
                     all_goals (refine WL.step (ok_assign rfl) rfl rfl rfl ?_)
                     all_goals (refine WL.nil ?_)
                     all_goals (repeat' (with_reducible first | refine thenP_n ?_ | refine blockP_n ?_))
                     all_goals (refine WC.ret ?_)
                     all_goals (repeat' (with_reducible first | refine thenP_r ?_ | refine blockP_r ?_))
                     all_goals (refine retP_1 _ ⟨rfl, trivial⟩ ?_)
                     all_goals (exact ⟨by simp [addE, h1, h2], _, by simpa [addL, h1, h2] using r0, .refl _ _, fun k hk => .inl hk⟩)
                     skip))
                all_goals (first
                  | (fail_if_success (refine Br.mk (i := 6) ?_))
                  | (refine Br.mk (i := 6) ?_
                     all_goals (refine WC.skip ?_)
                     skip))
                skip))
           skip))
      all_goals (repeat' (with_reducible first | refine thenP_n ?_ | refine blockP_n ?_))
      all_goals (refine WC.seq ?_)
      all_goals (refine WC.region ?_)
      all_goals (refine WL.step (ok_move rfl) rfl rfl rfl ?_)
      all_goals (refine WL.step (ok_move rfl) rfl rfl rfl ?_)
      all_goals (refine WL.step (ok_nilCheck rfl) rfl rfl rfl ?_)
      all_goals (refine WL.step (ok_fieldAddr rfl Try.underlying104 rfl (fun w => Try.sizeOf22 w)) rfl rfl rfl ?_)
      all_goals (refine WL.step (ok_load (fun w => Try.isAgg22 w) rfl (by first | assumption | exact cell_blk (by assumption) rfl)) rfl rfl rfl ?_)
      all_goals (refine WL.step (ok_move rfl) rfl rfl rfl ?_)
      all_goals (refine WL.stepR (okE_buildSlice (vs := [_]) (cs := [_]) (fun | [a0] => [a0] | _ => []) Try.underlying22 rfl rfl (by kernel_rfl)) rfl rfl rfl ?_
                 rintro _ h1 ⟨b1, rfl, hg1, hb1, hx1⟩)
      all_goals (refine WL.stepR (ok_append (sz := 1) (bytes := 8) rfl Try.underlying22 (show Try.prog.info? 3 = some Try.t3 by kernel_rfl) rfl rfl rfl rfl (by decide) rfl rfl (by assumption) (by first | assumption | exact rd_blk (by assumption) rfl) (by simp [Value.oneCell']) (by simp only [maxLen]; omega) (by omega)) rfl rfl rfl ?_
                 rintro v1 h1 ⟨ho1, hx1, hl1⟩)
      all_goals (refine WL.step (ok_nilCheck rfl) rfl rfl rfl ?_)
      all_goals (refine WL.step (ok_fieldAddr rfl Try.underlying104 rfl (fun w => Try.sizeOf22 w)) rfl rfl rfl ?_)
      all_goals (refine WL.stepR0 (okE_store (fun w => Try.sizeOf22 w) rfl rfl (by assumption) (Nat.le_of_ble_eq_true rfl) rfl rfl) rfl rfl ?_
                 rintro _ h1 ⟨hb1, hx1⟩)
      all_goals (refine WL.nil ?_)
      all_goals (repeat' (with_reducible first | refine thenP_n ?_ | refine blockP_n ?_))
      all_goals (refine WC.sub [] trivial ?_)
      all_goals (refine WC.seq ?_)
      all_goals (refine WC.region ?_)
      all_goals (refine WL.step (ok_assign rfl) rfl rfl rfl ?_)
      all_goals (refine WL.nil ?_)
      all_goals (repeat' (with_reducible first | refine thenP_n ?_ | refine blockP_n ?_))
      all_goals (refine WC.ret ?_)
      all_goals (repeat' (with_reducible first | refine thenP_r ?_ | refine blockP_r ?_))
      all_goals (refine retP_1 _ ⟨rfl, trivial⟩ ?_)
      all_goals (exact ⟨by simp [addE, h1, h2], _, by simpa [addL, h1, h2] using r0, .refl _ _, fun k hk => .inl hk⟩)
    ·
      refine calls [(0, _), (1, _)] Try.func73 rfl Try.ntmps73 rfl ⟨rfl, rfl, trivial⟩ ?_
      all_goals (refine WC.seq ?_)
      all_goals (refine WC.region ?_)
      all_goals (refine WL.step (ok_assign rfl) rfl rfl rfl ?_)
      all_goals (refine WL.nil ?_)
      all_goals (repeat' (with_reducible first | refine thenP_n ?_ | refine blockP_n ?_))
      all_goals (refine WC.seq ?_)
      all_goals (refine WC.block ?_)
      all_goals (refine WC.seq ?_)
      all_goals (refine WC.region ?_)
      all_goals (refine WL.step (ok_move rfl) rfl rfl rfl ?_)
      all_goals (refine WL.step (ok_eqlPn Try.underlying65 rfl rfl) rfl rfl rfl ?_)
      all_goals (refine WL.step (ok_move rfl) rfl rfl rfl ?_)
      all_goals (try ((fail_if_success (refine WL.part 8 (b := true) rfl (fun _ => ?_) (fun _ => ?_))); (fail_if_success (refine WL.part 8 (b := false) rfl (fun _ => ?_) (fun _ => ?_))); (refine WL.part 8 rfl (fun hb => ?_) (fun hb => ?_) <;> (first | replace hb := of_decide_eq_true hb | replace hb := of_decide_eq_false hb | replace hb := of_decide_eq_false (nt hb) | replace hb := of_decide_eq_true (nf hb) | skip))))
      all_goals (first | (refine WL.pass rfl rfl rfl ?_) | (refine WL.step (ok_move rfl) rfl rfl rfl ?_))
      all_goals (first | (refine WL.pass rfl rfl rfl ?_) | (refine WL.step (ok_nilCheck rfl) rfl rfl rfl ?_))
      all_goals (first | (refine WL.pass rfl rfl rfl ?_) | (refine WL.step (ok_fieldAddr rfl Try.underlying104 rfl (fun w => Try.sizeOf3 w)) rfl rfl rfl ?_))
      all_goals (first | (refine WL.pass rfl rfl rfl ?_) | (refine WL.step (ok_load (fun w => Try.isAgg3 w) rfl (by first | assumption | exact cell_blk (by assumption) rfl)) rfl rfl rfl ?_))
      all_goals (first | (refine WL.pass rfl rfl rfl ?_) | (first | (refine WL.step (OkP.bool_t (by omega) (ok_eql rfl rfl)) rfl rfl rfl ?_) | (refine WL.step (OkP.bool_f (by omega) (ok_eql rfl rfl)) rfl rfl rfl ?_) | (refine WL.step (ok_eql rfl rfl) rfl rfl rfl ?_)))
      all_goals (first | (refine WL.step (ok_pick_t rfl rfl) rfl rfl rfl ?_) | (refine WL.step (ok_pick_f rfl rfl) rfl rfl rfl ?_))
      all_goals (refine WL.step (ok_assign rfl) rfl rfl rfl ?_)
      all_goals (refine WL.nil ?_)
      all_goals (repeat' (with_reducible first | refine thenP_n ?_ | refine blockP_n ?_))
      all_goals (refine WC.sub [(0, _), (1, _), (5, _)] ⟨rfl, rfl, rfl, trivial⟩ ?_)
      all_goals (first | refine WC.condB_t 1 rfl ?_ | refine WC.condB_f 2 rfl ?_ | (refine WC.condB 1 2 rfl (fun hb => ?_) (fun hb => ?_) <;> (first | replace hb := of_decide_eq_true hb | replace hb := of_decide_eq_false hb | replace hb := of_decide_eq_false (nt hb) | replace hb := of_decide_eq_true (nf hb) | skip)))
      all_goals (first
        | (fail_if_success (refine Br.mk (i := 1) ?_))
        | (refine Br.mk (i := 1) ?_
           all_goals (refine WC.seq ?_)
           all_goals (refine WC.region ?_)
           all_goals (refine WL.step (ok_assign rfl) rfl rfl rfl ?_)
           all_goals (refine WL.nil ?_)
           all_goals (repeat' (with_reducible first | refine thenP_n ?_ | refine blockP_n ?_))
           all_goals (refine WC.ret ?_)
           all_goals (repeat' (with_reducible first | refine thenP_r ?_ | refine blockP_r ?_))
           all_goals (refine retP_1 _ ⟨rfl, trivial⟩ ?_)
           all_goals (exact ⟨by simp [addE, h1, h2], _, ⟨hb5, by simpa [addL, h1, h2] using ho4.ext hx5 (fun k hk e => own_ne ho4 hb4 (by decide) (by rw [hk, e]))⟩, ((hx3.mono (fun k _ e => e.elim)).trans' hx4 (fun k _ e => .inr e)).trans' hx5 (fun k _ e => .inl e), kin_of hl4 hx3.size⟩)
           skip))
      all_goals (first
        | (fail_if_success (refine Br.mk (i := 2) ?_))
        | (refine Br.mk (i := 2) ?_
           all_goals (refine WC.seq ?_)
           all_goals (refine WC.region ?_)
           all_goals (refine WL.step (ok_move rfl) rfl rfl rfl ?_)
           all_goals (refine WL.step (ok_move rfl) rfl rfl rfl ?_)
           all_goals (refine WL.call (vs := [_, _]) rfl (fun a w => Try.call55 a w) rfl (hh) rfl rfl rfl ?_
                      rintro _ hz ⟨rfl, _⟩
                      subst hz)
           all_goals (refine WL.step (ok_assign rfl) rfl rfl rfl ?_)
           all_goals (refine WL.nil ?_)
           all_goals (repeat' (with_reducible first | refine thenP_n ?_ | refine blockP_n ?_))
           all_goals (refine WC.sub [(0, _), (1, _), (15, _)] ⟨rfl, rfl, rfl, trivial⟩ ?_)
           all_goals (first | refine WC.condB_t 3 rfl ?_ | refine WC.condB_f 4 rfl ?_ | (refine WC.condB 3 4 rfl (fun hb => ?_) (fun hb => ?_) <;> (first | replace hb := of_decide_eq_true hb | replace hb := of_decide_eq_false hb | replace hb := of_decide_eq_false (nt hb) | replace hb := of_decide_eq_true (nf hb) | skip)))
           all_goals (first
             | (fail_if_success (refine Br.mk (i := 3) ?_))
             | (refine Br.mk (i := 3) ?_
                all_goals (refine WC.seq ?_)
                all_goals (refine WC.region ?_)
                all_goals (refine WL.step (ok_assign rfl) rfl rfl rfl ?_)
                all_goals (refine WL.nil ?_)
                all_goals (repeat' (with_reducible first | refine thenP_n ?_ | refine blockP_n ?_))
                all_goals (refine WC.ret ?_)
                all_goals (repeat' (with_reducible first | refine thenP_r ?_ | refine blockP_r ?_))
                all_goals (refine retP_1 _ ⟨rfl, trivial⟩ ?_)
                all_goals (exact ⟨by simp [addE, h1, h2], _, ⟨hb5, by simpa [addL, h1, h2] using ho4.ext hx5 (fun k hk e => own_ne ho4 hb4 (by decide) (by rw [hk, e]))⟩, ((hx3.mono (fun k _ e => e.elim)).trans' hx4 (fun k _ e => .inr e)).trans' hx5 (fun k _ e => .inl e), kin_of hl4 hx3.size⟩)
                skip))
           all_goals (first
             | (fail_if_success (refine Br.mk (i := 4) ?_))
             | (refine Br.mk (i := 4) ?_
                all_goals (refine WC.seq ?_)
                all_goals (refine WC.drawE fol (by kernel_rfl) ?_)
                all_goals (refine WQ.stepE (ok_move rfl) rfl rfl rfl ?_)
                all_goals (refine WQ.stepE (ok_nilCheck rfl) rfl rfl rfl ?_)
                all_goals (refine WQ.stepE (ok_fieldAddr rfl Try.underlying104 rfl (fun w => Try.sizeOf22 w)) rfl rfl rfl ?_)
                all_goals (refine WQ.stepE (ok_load (fun w => Try.isAgg22 w) rfl (by first | assumption | exact cell_blk (by assumption) rfl)) rfl rfl rfl ?_)
                all_goals (refine WQ.stepE (ok_lenL rfl Try.underlying22 rfl) rfl rfl rfl ?_)
                all_goals (refine WQ.stepE (ok_move rfl) rfl rfl rfl ?_)
                all_goals (refine WQ.stepE (ok_nilCheck rfl) rfl rfl rfl ?_)
                all_goals (refine WQ.stepE (ok_fieldAddr rfl Try.underlying104 rfl (fun w => Try.sizeOf3 w)) rfl rfl rfl ?_)
                all_goals (refine WQ.stepE (ok_load (fun w => Try.isAgg3 w) rfl (by first | assumption | exact cell_blk (by assumption) rfl)) rfl rfl rfl ?_)
                all_goals (first | (refine WQ.stepE (OkP.bool_t (by omega) (ok_eql rfl rfl)) rfl rfl rfl ?_) | (refine WQ.stepE (OkP.bool_f (by omega) (ok_eql rfl rfl)) rfl rfl rfl ?_) | (refine WQ.stepE (ok_eql rfl rfl) rfl rfl rfl ?_))
                all_goals (refine WQ.stepE (ok_assign rfl) rfl rfl rfl ?_)
                all_goals (refine WQ.nil ?_)
                all_goals (repeat' (with_reducible first | refine thenP_n ?_ | refine blockP_n ?_))
                all_goals (refine WC.sub [(0, _), (1, _), (19, _)] ⟨rfl, rfl, rfl, trivial⟩ ?_)
                all_goals (first | refine WC.condB_t 5 rfl ?_ | refine WC.condB_f 6 rfl ?_ | (refine WC.condB 5 6 rfl (fun hb => ?_) (fun hb => ?_) <;> (first | replace hb := of_decide_eq_true hb | replace hb := of_decide_eq_false hb | replace hb := of_decide_eq_false (nt hb) | replace hb := of_decide_eq_true (nf hb) | skip)))
                all_goals (first
                  | (fail_if_success (refine Br.mk (i := 5) ?_))
                  | (refine Br.mk (i := 5) ?_
                     all_goals (refine WC.seq ?_)
                     all_goals (refine WC.region ?_)
                     all_goals (refine WL.step (ok_assign rfl) rfl rfl rfl ?_)
                     all_goals (refine WL.nil ?_)
                     all_goals (repeat' (with_reducible first | refine thenP_n ?_ | refine blockP_n ?_))
                     all_goals (refine WC.ret ?_)
                     all_goals (repeat' (with_reducible first | refine thenP_r ?_ | refine blockP_r ?_))
                     all_goals (refine retP_1 _ ⟨rfl, trivial⟩ ?_)
                     all_goals (exact ⟨by simp [addE, h1, h2], _, ⟨hb5, by simpa [addL, h1, h2] using ho4.ext hx5 (fun k hk e => own_ne ho4 hb4 (by decide) (by rw [hk, e]))⟩, ((hx3.mono (fun k _ e => e.elim)).trans' hx4 (fun k _ e => .inr e)).trans' hx5 (fun k _ e => .inl e), kin_of hl4 hx3.size⟩)
                     skip))
                all_goals (first
                  | (fail_if_success (refine Br.mk (i := 6) ?_))
                  | (refine Br.mk (i := 6) ?_
                     all_goals (refine WC.skip ?_)
                     skip))
                skip))
           skip))
      all_goals (repeat' (with_reducible first | refine thenP_n ?_ | refine blockP_n ?_))
      all_goals (refine WC.seq ?_)
      all_goals (refine WC.region ?_)
      all_goals (refine WL.step (ok_move rfl) rfl rfl rfl ?_)
      all_goals (refine WL.step (ok_move rfl) rfl rfl rfl ?_)
      all_goals (refine WL.step (ok_nilCheck rfl) rfl rfl rfl ?_)
      all_goals (refine WL.step (ok_fieldAddr rfl Try.underlying104 rfl (fun w => Try.sizeOf22 w)) rfl rfl rfl ?_)
      all_goals (refine WL.step (ok_load (fun w => Try.isAgg22 w) rfl (by first | assumption | exact cell_blk (by assumption) rfl)) rfl rfl rfl ?_)
      all_goals (refine WL.step (ok_move rfl) rfl rfl rfl ?_)
      all_goals (refine WL.stepR (okE_buildSlice (vs := [_]) (cs := [_]) (fun | [a0] => [a0] | _ => []) Try.underlying22 rfl rfl (by kernel_rfl)) rfl rfl rfl ?_
                 rintro _ h3 ⟨b3, rfl, hg3, hb3, hx3⟩)
      all_goals (have ho3 := ho.ext hx3 (fun _ _ => nos)
                 have hb3' := hx3.obj hb nos)
      all_goals (refine WL.stepR (ok_append (sz := 1) (bytes := 8) rfl Try.underlying22 (show Try.prog.info? 3 = some Try.t3 by kernel_rfl) rfl rfl rfl rfl (by decide) rfl rfl ho3 (rd_blk hb3 rfl) (by simp [Value.oneCell']) (by simp only [maxLen]; omega) (by omega)) rfl rfl rfl ?_
                 rintro v4 h4 ⟨ho4, hx4, hl4⟩)
      all_goals (obtain ⟨A4, c4, rfl, _⟩ := ho4.slice
                 have hb4 := hx4.obj hb3' (fun e => hne e))
      all_goals (refine WL.step (ok_nilCheck rfl) rfl rfl rfl ?_)
      all_goals (refine WL.step (ok_fieldAddr rfl Try.underlying104 rfl (fun w => Try.sizeOf22 w)) rfl rfl rfl ?_)
      all_goals (refine WL.stepR0 (okE_store (fun w => Try.sizeOf22 w) rfl rfl hb4 (Nat.le_of_ble_eq_true rfl) rfl rfl) rfl rfl ?_
                 rintro _ h5 ⟨hb5, hx5⟩)
      all_goals (refine WL.nil ?_)
      all_goals (repeat' (with_reducible first | refine thenP_n ?_ | refine blockP_n ?_))
      all_goals (refine WC.sub [] trivial ?_)
      all_goals (refine WC.seq ?_)
      all_goals (refine WC.region ?_)
      all_goals (refine WL.step (ok_assign rfl) rfl rfl rfl ?_)
      all_goals (refine WL.nil ?_)
      all_goals (repeat' (with_reducible first | refine thenP_n ?_ | refine blockP_n ?_))
      all_goals (refine WC.ret ?_)
      all_goals (repeat' (with_reducible first | refine thenP_r ?_ | refine blockP_r ?_))
      all_goals (refine retP_1 _ ⟨rfl, trivial⟩ ?_)
      all_goals (exact ⟨by simp [addE, h1, h2], _, ⟨hb5, by simpa [addL, h1, h2] using ho4.ext hx5 (fun k hk e => own_ne ho4 hb4 (by decide) (by rw [hk, e]))⟩, ((hx3.mono (fun k _ e => e.elim)).trans' hx4 (fun k _ e => .inr e)).trans' hx5 (fun k _ e => .inl e), kin_of hl4 hx3.size⟩)
theorem mem_rm {l : List Int} {id : Int} (h : id ∉ l) : rmL l id = l := List.filter_eq_self.2 fun a ha => by
  simp only [decide_eq_true_eq]
  rintro rfl
  exact h ha
theorem erase_rm {l : List Int} {id : Int} {k : Nat} (hn : l.Nodup) (hk : l[k]? = some id) : l.eraseIdx k = rmL l id := by
  induction l generalizing k with
  | nil => simp at hk
  | cons a l ih =>
    obtain ⟨ha, hn'⟩ := List.nodup_cons.1 hn
    cases k with
    | zero =>
      obtain rfl : a = id := by simpa using hk
      have := (mem_rm ha).symm
      unfold rmL at this ⊢
      simpa using this
    | succ k =>
      have hk' : l[k]? = some id := by simpa using hk
      have hne : a ≠ id := fun e => ha (e ▸ List.mem_of_getElem? hk')
      have := ih hn' hk'
      unfold rmL at this ⊢
      simp [this, hne]
set_option maxRecDepth 100000 in
theorem remove_any {h : Heap} {b : Nat} {v : Value} {most : Int} {l : List Int} (r : Lr 104 h b v most l) (id : Int) (hm : l.length ≤ 100000) (hn : l.Nodup) :
    CallsH Try.prog 74 ⟨[.pointer (some ⟨b, 0, none⟩), In id]⟩ h fun u h' => u = .bool (decide (id ∈ l)) ∧ ∃ v', Lr 104 h' b v' most (rmL l id) ∧ Ext (Ft b v) h h' ∧ Kin h v v' := by
  have r0 := r
  have hne := r.ne (by decide)
  obtain ⟨hb, ho⟩ := r
  obtain ⟨A, c, rfl, _⟩ := ho.slice
  rcases idxOf_cases l id with ⟨e, hin⟩ | ⟨k, e, hk, _⟩
  · have ha := (at_any r0 id (by omega)).as (congrArg In e)
    refine calls [(0, _), (1, _)] Try.func74 rfl Try.ntmps74 rfl ⟨rfl, rfl, trivial⟩ ?_
    all_goals (refine WC.seq ?_)
    all_goals (refine WC.region ?_)
    all_goals (refine WL.step (ok_assign rfl) rfl rfl rfl ?_)
    all_goals (refine WL.nil ?_)
    all_goals (repeat' (with_reducible first | refine thenP_n ?_ | refine blockP_n ?_))
    all_goals (refine WC.seq ?_)
    all_goals (refine WC.region ?_)
    all_goals (refine WL.step (ok_move rfl) rfl rfl rfl ?_)
    all_goals (refine WL.step (ok_move rfl) rfl rfl rfl ?_)
    all_goals (refine WL.call (vs := [_, _]) rfl (fun a w => Try.call77 a w) rfl (ha) rfl rfl rfl ?_
               rintro _ hz ⟨rfl, _⟩
               subst hz)
    all_goals (refine WL.step (ok_assign rfl) rfl rfl rfl ?_)
    all_goals (refine WL.nil ?_)
    all_goals (repeat' (with_reducible first | refine thenP_n ?_ | refine blockP_n ?_))
    all_goals (refine WC.sub [(0, _), (5, _)] ⟨rfl, rfl, trivial⟩ ?_)
    all_goals (refine WC.seq ?_)
    all_goals (refine WC.seq ?_)
    all_goals (refine WC.region ?_)
    all_goals (refine WL.step (ok_move rfl) rfl rfl rfl ?_)
    all_goals (first | (refine WL.step (OkP.bool_t (by omega) (ok_lss rfl rfl)) rfl rfl rfl ?_) | (refine WL.step (OkP.bool_f (by omega) (ok_lss rfl rfl)) rfl rfl rfl ?_) | (refine WL.step (ok_lss rfl rfl) rfl rfl rfl ?_))
    all_goals (refine WL.nil ?_)
    all_goals (repeat' (with_reducible first | refine thenP_n ?_ | refine blockP_n ?_))
    all_goals (first | refine WC.condB_t 1 rfl ?_ | refine WC.condB_f 2 rfl ?_ | (refine WC.condB 1 2 rfl (fun hb => ?_) (fun hb => ?_) <;> (first | replace hb := of_decide_eq_true hb | replace hb := of_decide_eq_false hb | replace hb := of_decide_eq_false (nt hb) | replace hb := of_decide_eq_true (nf hb) | skip)))
    all_goals (first
      | (fail_if_success (refine Br.mk (i := 1) ?_))
      | (refine Br.mk (i := 1) ?_
         all_goals (refine WC.seq ?_)
         all_goals (refine WC.region ?_)
         all_goals (refine WL.step (ok_assign rfl) rfl rfl rfl ?_)
         all_goals (refine WL.nil ?_)
         all_goals (repeat' (with_reducible first | refine thenP_n ?_ | refine blockP_n ?_))
         all_goals (refine WC.sub [(4, _)] ⟨rfl, trivial⟩ ?_)
         all_goals (refine WC.ret ?_)
         all_goals (repeat' (with_reducible first | refine thenP_r ?_ | refine blockP_r ?_))
         all_goals (refine retP_1 _ ⟨rfl, trivial⟩ ?_)
         all_goals (exact ⟨by simp [hin], _, by rw [mem_rm hin]; exact r0, .refl _ _, fun k hk => .inl hk⟩)
         skip))
    all_goals (first
      | (fail_if_success (refine Br.mk (i := 2) ?_))
      | (refine Br.mk (i := 2) ?_
         all_goals (refine WC.skip ?_)
         skip))
    all_goals (repeat' (with_reducible first | refine thenP_n ?_ | refine blockP_n ?_))
    all_goals (refine WC.seq ?_)
    all_goals (refine WC.region ?_)
    all_goals (refine WL.step (ok_move rfl) rfl rfl rfl ?_)
    all_goals (refine WL.step (ok_move rfl) rfl rfl rfl ?_)
    all_goals (refine WL.step (ok_nilCheck rfl) rfl rfl rfl ?_)
    all_goals (refine WL.step (ok_fieldAddr rfl Try.underlying104 rfl (fun w => Try.sizeOf22 w)) rfl rfl rfl ?_)
    all_goals (refine WL.step (ok_load (fun w => Try.isAgg22 w) rfl (by first | assumption | exact cell_blk (by assumption) rfl)) rfl rfl rfl ?_)
    all_goals (refine WL.step (ok_move rfl) rfl rfl rfl ?_)
    all_goals (refine WL.step (ok_move rfl) rfl rfl rfl ?_)
    all_goals (first | (refine WL.step (ok_addI rfl rfl (by omega)) rfl rfl rfl ?_) | (refine WL.step (ok_add rfl rfl) rfl rfl rfl ?_))
    all_goals (fail "no contract for call of slices.Delete[[]int,int] at 4.8")
    all_goals (refine WL.step (ok_nilCheck rfl) rfl rfl rfl ?_)
    all_goals (refine WL.step (ok_fieldAddr rfl Try.underlying104 rfl (fun w => Try.sizeOf22 w)) rfl rfl rfl ?_)
    all_goals (refine WL.stepR0 (okE_store (fun w => Try.sizeOf22 w) rfl rfl (by assumption) (Nat.le_of_ble_eq_true rfl) rfl rfl) rfl rfl ?_
               rintro _ h1 ⟨hb1, hx1⟩)
    all_goals (refine WL.nil ?_)
    all_goals (repeat' (with_reducible first | refine thenP_n ?_ | refine blockP_n ?_))
    all_goals (refine WC.sub [] trivial ?_)
    all_goals (refine WC.seq ?_)
    all_goals (refine WC.region ?_)
    all_goals (refine WL.step (ok_assign rfl) rfl rfl rfl ?_)
    all_goals (refine WL.nil ?_)
    all_goals (repeat' (with_reducible first | refine thenP_n ?_ | refine blockP_n ?_))
    all_goals (refine WC.ret ?_)
    all_goals (repeat' (with_reducible first | refine thenP_r ?_ | refine blockP_r ?_))
    all_goals (refine retP_1 _ ⟨rfl, trivial⟩ ?_)
    all_goals (exact ⟨by simp [hin], _, by rw [mem_rm hin]; exact r0, .refl _ _, fun k hk => .inl hk⟩)
  · have ha := (at_any r0 id (by omega)).as (congrArg In e)
    have hkl : k < l.length := (List.getElem?_eq_some_iff.1 hk).1
    refine calls [(0, _), (1, _)] Try.func74 rfl Try.ntmps74 rfl ⟨rfl, rfl, trivial⟩ ?_
    all_goals (refine WC.seq ?_)
    all_goals (refine WC.region ?_)
    all_goals (refine WL.step (ok_assign rfl) rfl rfl rfl ?_)
    all_goals (refine WL.nil ?_)
    all_goals (repeat' (with_reducible first | refine thenP_n ?_ | refine blockP_n ?_))
    all_goals (refine WC.seq ?_)
    all_goals (refine WC.region ?_)
    all_goals (refine WL.step (ok_move rfl) rfl rfl rfl ?_)
    all_goals (refine WL.step (ok_move rfl) rfl rfl rfl ?_)
    all_goals (refine WL.call (vs := [_, _]) rfl (fun a w => Try.call77 a w) rfl (ha) rfl rfl rfl ?_
               rintro _ hz ⟨rfl, _⟩
               subst hz)
    all_goals (refine WL.step (ok_assign rfl) rfl rfl rfl ?_)
    all_goals (refine WL.nil ?_)
    all_goals (repeat' (with_reducible first | refine thenP_n ?_ | refine blockP_n ?_))
    all_goals (refine WC.sub [(0, _), (5, _)] ⟨rfl, rfl, trivial⟩ ?_)
    all_goals (refine WC.seq ?_)
    all_goals (refine WC.seq ?_)
    all_goals (refine WC.region ?_)
    all_goals (refine WL.step (ok_move rfl) rfl rfl rfl ?_)
    all_goals (first | (refine WL.step (OkP.bool_t (by omega) (ok_lss rfl rfl)) rfl rfl rfl ?_) | (refine WL.step (OkP.bool_f (by omega) (ok_lss rfl rfl)) rfl rfl rfl ?_) | (refine WL.step (ok_lss rfl rfl) rfl rfl rfl ?_))
    all_goals (refine WL.nil ?_)
    all_goals (repeat' (with_reducible first | refine thenP_n ?_ | refine blockP_n ?_))
    all_goals (first | refine WC.condB_t 1 rfl ?_ | refine WC.condB_f 2 rfl ?_ | (refine WC.condB 1 2 rfl (fun hb => ?_) (fun hb => ?_) <;> (first | replace hb := of_decide_eq_true hb | replace hb := of_decide_eq_false hb | replace hb := of_decide_eq_false (nt hb) | replace hb := of_decide_eq_true (nf hb) | skip)))
    all_goals (first
      | (fail_if_success (refine Br.mk (i := 1) ?_))
      | (refine Br.mk (i := 1) ?_
         all_goals (refine WC.seq ?_)
         all_goals (refine WC.region ?_)
         all_goals (refine WL.step (ok_assign rfl) rfl rfl rfl ?_)
         all_goals (refine WL.nil ?_)
         all_goals (repeat' (with_reducible first | refine thenP_n ?_ | refine blockP_n ?_))
         all_goals (refine WC.sub [(4, _)] ⟨rfl, trivial⟩ ?_)
         all_goals (refine WC.ret ?_)
         all_goals (repeat' (with_reducible first | refine thenP_r ?_ | refine blockP_r ?_))
         all_goals (refine retP_1 _ ⟨rfl, trivial⟩ ?_)
         all_goals (exact ⟨by simp [List.mem_of_getElem? hk], _, ⟨hb5, by rw [← erase_rm hn hk]; exact ho4.ext hx5 (fun k hk e => own_ne ho4 hb4 (by decide) (by rw [hk, e]))⟩, (hx4.mono (fun q _ e => .inr (by cases A <;> simp_all [Value.ownBlock]))).trans' hx5 (fun k _ e => .inl e), fun q hq => .inl (by rw [hl4] at hq; cases A <;> simp_all [Value.ownBlock])⟩)
         skip))
    all_goals (first
      | (fail_if_success (refine Br.mk (i := 2) ?_))
      | (refine Br.mk (i := 2) ?_
         all_goals (refine WC.skip ?_)
         skip))
    all_goals (repeat' (with_reducible first | refine thenP_n ?_ | refine blockP_n ?_))
    all_goals (refine WC.seq ?_)
    all_goals (refine WC.region ?_)
    all_goals (refine WL.step (ok_move rfl) rfl rfl rfl ?_)
    all_goals (refine WL.step (ok_move rfl) rfl rfl rfl ?_)
    all_goals (refine WL.step (ok_nilCheck rfl) rfl rfl rfl ?_)
    all_goals (refine WL.step (ok_fieldAddr rfl Try.underlying104 rfl (fun w => Try.sizeOf22 w)) rfl rfl rfl ?_)
    all_goals (refine WL.step (ok_load (fun w => Try.isAgg22 w) rfl (by first | assumption | exact cell_blk (by assumption) rfl)) rfl rfl rfl ?_)
    all_goals (refine WL.step (ok_move rfl) rfl rfl rfl ?_)
    all_goals (refine WL.step (ok_move rfl) rfl rfl rfl ?_)
    all_goals (first | (refine WL.step (ok_addI rfl rfl (by omega)) rfl rfl rfl ?_) | (refine WL.step (ok_add rfl rfl) rfl rfl rfl ?_))
    all_goals (refine WL.call (vs := [_, _, _]) rfl (fun a w => Try.call105 a w) rfl (delete_int l ho hkl (by omega)) rfl rfl rfl ?_
               rintro v4 h4 ⟨ho4, hx4, hl4⟩)
    all_goals (obtain ⟨A4, c4, rfl, _⟩ := ho4.slice
               have hb4 := hx4.obj hb (fun e => hne (by cases A <;> simp_all [Value.ownBlock])))
    all_goals (refine WL.step (ok_nilCheck rfl) rfl rfl rfl ?_)
    all_goals (refine WL.step (ok_fieldAddr rfl Try.underlying104 rfl (fun w => Try.sizeOf22 w)) rfl rfl rfl ?_)
    all_goals (refine WL.stepR0 (okE_store (fun w => Try.sizeOf22 w) rfl rfl hb4 (Nat.le_of_ble_eq_true rfl) rfl rfl) rfl rfl ?_
               rintro _ h5 ⟨hb5, hx5⟩)
    all_goals (refine WL.nil ?_)
    all_goals (repeat' (with_reducible first | refine thenP_n ?_ | refine blockP_n ?_))
    all_goals (refine WC.sub [] trivial ?_)
    all_goals (refine WC.seq ?_)
    all_goals (refine WC.region ?_)
    all_goals (refine WL.step (ok_assign rfl) rfl rfl rfl ?_)
    all_goals (refine WL.nil ?_)
    all_goals (repeat' (with_reducible first | refine thenP_n ?_ | refine blockP_n ?_))
    all_goals (refine WC.ret ?_)
    all_goals (repeat' (with_reducible first | refine thenP_r ?_ | refine blockP_r ?_))
    all_goals (refine retP_1 _ ⟨rfl, trivial⟩ ?_)
    all_goals (exact ⟨by simp [List.mem_of_getElem? hk], _, ⟨hb5, by rw [← erase_rm hn hk]; exact ho4.ext hx5 (fun k hk e => own_ne ho4 hb4 (by decide) (by rw [hk, e]))⟩, (hx4.mono (fun q _ e => .inr (by cases A <;> simp_all [Value.ownBlock]))).trans' hx5 (fun k _ e => .inl e), fun q hq => .inl (by rw [hl4] at hq; cases A <;> simp_all [Value.ownBlock])⟩)
/-- What Touch leaves. -/
def toL (l : List Int) (id : Int) : List Int := if id ∈ l then rmL l id ++ [id] else l
theorem not_mem_rm (l : List Int) (id : Int) : id ∉ rmL l id := by simp [rmL]
theorem rm_len {l : List Int} {id : Int} (h : id ∈ l) : (rmL l id).length < l.length := by
  unfold rmL
  exact List.length_filter_lt_length_iff_exists.2 ⟨id, h, by simp⟩
theorem rm_lt_iff (l : List Int) (id : Int) : ((rmL l id).length : Int) < l.length ↔ id ∈ l := by
  constructor
  · intro e
    apply Classical.byContradiction
    intro hc
    rw [mem_rm hc] at e
    omega
  · intro e
    have := rm_len e
    omega
theorem rm_le (l : List Int) (id : Int) : (rmL l id).length ≤ l.length := List.length_filter_le _ _
theorem Kin.trans {h h' : Heap} {a b c : Value} (h1 : Kin h a b) (h2 : Kin h' b c) (hs : h.size ≤ h'.size) : Kin h a c := by
  intro k hk
  rcases h2 k hk with e | e
  · exact h1 k e
  · exact .inr (by omega)
set_option maxRecDepth 100000 in
theorem touch_any {h : Heap} {b : Nat} {v : Value} {most : Int} {l : List Int} (r : Lr 104 h b v most l) (id : Int) (hm : l.length ≤ 100000) (hn : l.Nodup) (hl : (l.length : Int) ≤ most) (h0 : 0 < most) :
    CallsH Try.prog 75 ⟨[.pointer (some ⟨b, 0, none⟩), In id]⟩ h fun u h' => u = .bool (decide (id ∈ l)) ∧ ∃ v', Lr 104 h' b v' most (toL l id) ∧ Ext (Ft b v) h h' ∧ Kin h v v' := by
  by_cases hin : id ∈ l
  · have hlt := rm_len hin
    have e1 : addE most (rmL l id) id = 0 := by simp [addE, not_mem_rm]; omega
    have e2 : addL most (rmL l id) id = toL l id := by simp [addL, toL, hin, not_mem_rm]; omega
    have hr := (remove_any r id hm hn).mono (R' := fun u h' => u = .bool true ∧ ∃ v', Lr 104 h' b v' most (rmL l id) ∧ Ext (Ft b v) h h' ∧ Kin h v v') fun u h' ⟨e, p⟩ => ⟨by simpa [hin] using e, p⟩
    refine calls [(0, _), (1, _)] Try.func75 rfl Try.ntmps75 rfl ⟨rfl, rfl, trivial⟩ ?_
    all_goals (refine WC.seq ?_)
    all_goals (refine WC.region ?_)
    all_goals (refine WL.step (ok_assign rfl) rfl rfl rfl ?_)
    all_goals (refine WL.nil ?_)
    all_goals (repeat' (with_reducible first | refine thenP_n ?_ | refine blockP_n ?_))
    all_goals (refine WC.seq ?_)
    all_goals (refine WC.region ?_)
    all_goals (refine WL.step (ok_move rfl) rfl rfl rfl ?_)
    all_goals (refine WL.step (ok_move rfl) rfl rfl rfl ?_)
    all_goals (refine WL.call (vs := [_, _]) rfl (fun a w => Try.call74 a w) rfl (hr) rfl rfl rfl ?_
               rintro _ h1 ⟨rfl, v1, r1, hx1, hk1⟩)
    all_goals (refine WL.step (ok_move rfl) rfl rfl rfl ?_)
    all_goals (try ((fail_if_success (refine WL.part 8 (b := true) rfl (fun _ => ?_) (fun _ => ?_))); (fail_if_success (refine WL.part 8 (b := false) rfl (fun _ => ?_) (fun _ => ?_))); (refine WL.part 8 rfl (fun hb => ?_) (fun hb => ?_) <;> (first | replace hb := of_decide_eq_true hb | replace hb := of_decide_eq_false hb | replace hb := of_decide_eq_false (nt hb) | replace hb := of_decide_eq_true (nf hb) | skip))))
    all_goals (first | (refine WL.pass rfl rfl rfl ?_) | (refine WL.step (ok_move rfl) rfl rfl rfl ?_))
    all_goals (first | (refine WL.pass rfl rfl rfl ?_) | (refine WL.step (ok_move rfl) rfl rfl rfl ?_))
    all_goals (first
                 | (refine WL.pass rfl rfl rfl ?_)
                 | (refine WL.call (vs := [_, _]) rfl (fun a w => Try.call73 a w) rfl (add_any r1 id (by omega) h0) rfl rfl rfl ?_
                    rintro _ h2 ⟨rfl, v2, r2, hx2, hk2⟩))
    all_goals (rw [e1])
    all_goals (first | (refine WL.pass rfl rfl rfl ?_) | (first | (refine WL.step (OkP.bool_t (by omega) (ok_eql rfl rfl)) rfl rfl rfl ?_) | (refine WL.step (OkP.bool_f (by omega) (ok_eql rfl rfl)) rfl rfl rfl ?_) | (refine WL.step (ok_eql rfl rfl) rfl rfl rfl ?_)))
    all_goals (first | (refine WL.step (ok_pick_t rfl rfl) rfl rfl rfl ?_) | (refine WL.step (ok_pick_f rfl rfl) rfl rfl rfl ?_))
    all_goals (refine WL.step (ok_assign rfl) rfl rfl rfl ?_)
    all_goals (refine WL.nil ?_)
    all_goals (repeat' (with_reducible first | refine thenP_n ?_ | refine blockP_n ?_))
    all_goals (refine WC.sub [(4, _)] ⟨rfl, trivial⟩ ?_)
    all_goals (refine WC.ret ?_)
    all_goals (repeat' (with_reducible first | refine thenP_r ?_ | refine blockP_r ?_))
    all_goals (refine retP_1 _ ⟨rfl, trivial⟩ ?_)
    all_goals (exact ⟨by simp [hin], v2, by rw [← e2]; exact r2, hx1.trans' hx2 (fun k hk e => by rcases e with e | e; exact .inl e; rcases hk1 k e with e | e; exact .inr e; omega), hk1.trans hk2 hx1.size⟩)
  · have hr := (remove_any r id hm hn).mono (R' := fun u h' => u = .bool false ∧ ∃ v', Lr 104 h' b v' most (rmL l id) ∧ Ext (Ft b v) h h' ∧ Kin h v v') fun u h' ⟨e, p⟩ => ⟨by simpa [hin] using e, p⟩
    refine calls [(0, _), (1, _)] Try.func75 rfl Try.ntmps75 rfl ⟨rfl, rfl, trivial⟩ ?_
    all_goals (refine WC.seq ?_)
    all_goals (refine WC.region ?_)
    all_goals (refine WL.step (ok_assign rfl) rfl rfl rfl ?_)
    all_goals (refine WL.nil ?_)
    all_goals (repeat' (with_reducible first | refine thenP_n ?_ | refine blockP_n ?_))
    all_goals (refine WC.seq ?_)
    all_goals (refine WC.region ?_)
    all_goals (refine WL.step (ok_move rfl) rfl rfl rfl ?_)
    all_goals (refine WL.step (ok_move rfl) rfl rfl rfl ?_)
    all_goals (refine WL.call (vs := [_, _]) rfl (fun a w => Try.call74 a w) rfl (hr) rfl rfl rfl ?_
               rintro _ h1 ⟨rfl, v1, r1, hx1, hk1⟩)
    all_goals (refine WL.step (ok_move rfl) rfl rfl rfl ?_)
    all_goals (try ((fail_if_success (refine WL.part 8 (b := true) rfl (fun _ => ?_) (fun _ => ?_))); (fail_if_success (refine WL.part 8 (b := false) rfl (fun _ => ?_) (fun _ => ?_))); (refine WL.part 8 rfl (fun hb => ?_) (fun hb => ?_) <;> (first | replace hb := of_decide_eq_true hb | replace hb := of_decide_eq_false hb | replace hb := of_decide_eq_false (nt hb) | replace hb := of_decide_eq_true (nf hb) | skip))))
    all_goals (first | (refine WL.pass rfl rfl rfl ?_) | (refine WL.step (ok_move rfl) rfl rfl rfl ?_))
    all_goals (first | (refine WL.pass rfl rfl rfl ?_) | (refine WL.step (ok_move rfl) rfl rfl rfl ?_))
    all_goals (first | (refine WL.pass rfl rfl rfl ?_) | (fail "no contract for call of (*remuda/lru.LRU).Add at 1.6"))
    all_goals (first | (refine WL.pass rfl rfl rfl ?_) | (first | (refine WL.step (OkP.bool_t (by omega) (ok_eql rfl rfl)) rfl rfl rfl ?_) | (refine WL.step (OkP.bool_f (by omega) (ok_eql rfl rfl)) rfl rfl rfl ?_) | (refine WL.step (ok_eql rfl rfl) rfl rfl rfl ?_)))
    all_goals (first | (refine WL.step (ok_pick_t rfl rfl) rfl rfl rfl ?_) | (refine WL.step (ok_pick_f rfl rfl) rfl rfl rfl ?_))
    all_goals (refine WL.step (ok_assign rfl) rfl rfl rfl ?_)
    all_goals (refine WL.nil ?_)
    all_goals (repeat' (with_reducible first | refine thenP_n ?_ | refine blockP_n ?_))
    all_goals (refine WC.sub [(4, _)] ⟨rfl, trivial⟩ ?_)
    all_goals (refine WC.ret ?_)
    all_goals (repeat' (with_reducible first | refine thenP_r ?_ | refine blockP_r ?_))
    all_goals (refine retP_1 _ ⟨rfl, trivial⟩ ?_)
    all_goals (exact ⟨by simp [hin], v1, by rw [toL, if_neg hin, ← mem_rm hin]; exact r1, hx1, hk1⟩)
set_option maxRecDepth 100000 in
theorem new_lru {h : Heap} (most : Int) (h0 : 1 ≤ most) (h1 : most ≤ 4096) :
    CallsH Try.prog 51 ⟨[In most]⟩ h fun u h' => ∃ b, u = .tuple ⟨[.pointer (some ⟨b, 0, none⟩), In 0]⟩ ∧ Lr 104 h' b (.slice none 0 0) most [] ∧ h.size ≤ b ∧ Ext No h h' := by
  refine calls [(0, _)] Try.func51 rfl Try.ntmps51 rfl ⟨rfl, trivial⟩ ?_
  all_goals (refine WC.seq ?_)
  all_goals (refine WC.region ?_)
  all_goals (refine WL.step (ok_assign rfl) rfl rfl rfl ?_)
  all_goals (refine WL.step (ok_assign rfl) rfl rfl rfl ?_)
  all_goals (refine WL.nil ?_)
  all_goals (repeat' (with_reducible first | refine thenP_n ?_ | refine blockP_n ?_))
  all_goals (refine WC.seq ?_)
  all_goals (refine WC.seq ?_)
  all_goals (refine WC.region ?_)
  all_goals (refine WL.step (ok_move rfl) rfl rfl rfl ?_)
  all_goals (first | (refine WL.step (OkP.bool_t (by omega) (ok_lss rfl rfl)) rfl rfl rfl ?_) | (refine WL.step (OkP.bool_f (by omega) (ok_lss rfl rfl)) rfl rfl rfl ?_) | (refine WL.step (ok_lss rfl rfl) rfl rfl rfl ?_))
  all_goals (refine WL.step (ok_move rfl) rfl rfl rfl ?_)
  all_goals (try ((fail_if_success (refine WL.part 6 (b := true) rfl (fun _ => ?_) (fun _ => ?_))); (fail_if_success (refine WL.part 6 (b := false) rfl (fun _ => ?_) (fun _ => ?_))); (refine WL.part 6 rfl (fun hb => ?_) (fun hb => ?_) <;> (first | replace hb := of_decide_eq_true hb | replace hb := of_decide_eq_false hb | replace hb := of_decide_eq_false (nt hb) | replace hb := of_decide_eq_true (nf hb) | skip))))
  all_goals (first | (refine WL.pass rfl rfl rfl ?_) | (refine WL.step (ok_move rfl) rfl rfl rfl ?_))
  all_goals (first | (refine WL.pass rfl rfl rfl ?_) | (first | (refine WL.step (OkP.bool_t (by omega) (ok_gtr rfl rfl)) rfl rfl rfl ?_) | (refine WL.step (OkP.bool_f (by omega) (ok_gtr rfl rfl)) rfl rfl rfl ?_) | (refine WL.step (ok_gtr rfl rfl) rfl rfl rfl ?_)))
  all_goals (first | (refine WL.step (ok_pick_t rfl rfl) rfl rfl rfl ?_) | (refine WL.step (ok_pick_f rfl rfl) rfl rfl rfl ?_))
  all_goals (refine WL.nil ?_)
  all_goals (repeat' (with_reducible first | refine thenP_n ?_ | refine blockP_n ?_))
  all_goals (refine WC.sub [(0, _), (9, _)] ⟨rfl, rfl, trivial⟩ ?_)
  all_goals (first | refine WC.condB_t 1 rfl ?_ | refine WC.condB_f 2 rfl ?_ | (refine WC.condB 1 2 rfl (fun hb => ?_) (fun hb => ?_) <;> (first | replace hb := of_decide_eq_true hb | replace hb := of_decide_eq_false hb | replace hb := of_decide_eq_false (nt hb) | replace hb := of_decide_eq_true (nf hb) | skip)))
  all_goals (first
    | (fail_if_success (refine Br.mk (i := 1) ?_))
    | (refine Br.mk (i := 1) ?_
       all_goals (refine WC.seq ?_)
       all_goals (refine WC.region ?_)
       all_goals (refine WL.step (ok_assign rfl) rfl rfl rfl ?_)
       all_goals (refine WL.step (ok_assign rfl) rfl rfl rfl ?_)
       all_goals (refine WL.nil ?_)
       all_goals (repeat' (with_reducible first | refine thenP_n ?_ | refine blockP_n ?_))
       all_goals (refine WC.ret ?_)
       all_goals (repeat' (with_reducible first | refine thenP_r ?_ | refine blockP_r ?_))
       all_goals (refine retP_2 _ _ ⟨rfl, rfl, trivial⟩ ?_)
       all_goals (exact ⟨_, rfl, ⟨hb1, Own.nil _ _ _⟩, hg1, hx1⟩)
       skip))
  all_goals (first
    | (fail_if_success (refine Br.mk (i := 2) ?_))
    | (refine Br.mk (i := 2) ?_
       all_goals (refine WC.skip ?_)
       skip))
  all_goals (repeat' (with_reducible first | refine thenP_n ?_ | refine blockP_n ?_))
  all_goals (refine WC.seq ?_)
  all_goals (refine WC.region ?_)
  all_goals (refine WL.step (ok_move rfl) rfl rfl rfl ?_)
  all_goals (refine WL.step (ok_buildF (vs := [_]) (cs := [_, _]) (fun | [a1] => [(.slice none 0 0), a1] | _ => []) rfl rfl (by kernel_rfl)) rfl rfl rfl ?_)
  all_goals (refine WL.stepR (okE_box rfl) rfl rfl rfl ?_
             rintro _ h1 ⟨b1, rfl, hg1, hb1, hx1⟩)
  all_goals (refine WL.step (ok_assign rfl) rfl rfl rfl ?_)
  all_goals (refine WL.step (ok_assign rfl) rfl rfl rfl ?_)
  all_goals (refine WL.nil ?_)
  all_goals (repeat' (with_reducible first | refine thenP_n ?_ | refine blockP_n ?_))
  all_goals (refine WC.sub [(2, _), (3, _)] ⟨rfl, rfl, trivial⟩ ?_)
  all_goals (refine WC.ret ?_)
  all_goals (repeat' (with_reducible first | refine thenP_r ?_ | refine blockP_r ?_))
  all_goals (refine retP_2 _ _ ⟨rfl, rfl, trivial⟩ ?_)
  all_goals (exact ⟨_, rfl, ⟨hb1, Own.nil _ _ _⟩, hg1, hx1⟩)
set_option maxRecDepth 100000 in
theorem new_lru_no {h : Heap} (most : Int) (h0 : most < 1 ∨ 4096 < most) :
    CallsH Try.prog 51 ⟨[In most]⟩ h fun u h' => u = .tuple ⟨[.pointer none, In 1]⟩ ∧ h' = h := by
  rcases h0 with h0 | h0
  ·
    refine calls [(0, _)] Try.func51 rfl Try.ntmps51 rfl ⟨rfl, trivial⟩ ?_
    all_goals (refine WC.seq ?_)
    all_goals (refine WC.region ?_)
    all_goals (refine WL.step (ok_assign rfl) rfl rfl rfl ?_)
    all_goals (refine WL.step (ok_assign rfl) rfl rfl rfl ?_)
    all_goals (refine WL.nil ?_)
    all_goals (repeat' (with_reducible first | refine thenP_n ?_ | refine blockP_n ?_))
    all_goals (refine WC.seq ?_)
    all_goals (refine WC.seq ?_)
    all_goals (refine WC.region ?_)
    all_goals (refine WL.step (ok_move rfl) rfl rfl rfl ?_)
    all_goals (first | (refine WL.step (OkP.bool_t (by omega) (ok_lss rfl rfl)) rfl rfl rfl ?_) | (refine WL.step (OkP.bool_f (by omega) (ok_lss rfl rfl)) rfl rfl rfl ?_) | (refine WL.step (ok_lss rfl rfl) rfl rfl rfl ?_))
    all_goals (refine WL.step (ok_move rfl) rfl rfl rfl ?_)
    all_goals (try ((fail_if_success (refine WL.part 6 (b := true) rfl (fun _ => ?_) (fun _ => ?_))); (fail_if_success (refine WL.part 6 (b := false) rfl (fun _ => ?_) (fun _ => ?_))); (refine WL.part 6 rfl (fun hb => ?_) (fun hb => ?_) <;> (first | replace hb := of_decide_eq_true hb | replace hb := of_decide_eq_false hb | replace hb := of_decide_eq_false (nt hb) | replace hb := of_decide_eq_true (nf hb) | skip))))
    all_goals (first | (refine WL.pass rfl rfl rfl ?_) | (refine WL.step (ok_move rfl) rfl rfl rfl ?_))
    all_goals (first | (refine WL.pass rfl rfl rfl ?_) | (first | (refine WL.step (OkP.bool_t (by omega) (ok_gtr rfl rfl)) rfl rfl rfl ?_) | (refine WL.step (OkP.bool_f (by omega) (ok_gtr rfl rfl)) rfl rfl rfl ?_) | (refine WL.step (ok_gtr rfl rfl) rfl rfl rfl ?_)))
    all_goals (first | (refine WL.step (ok_pick_t rfl rfl) rfl rfl rfl ?_) | (refine WL.step (ok_pick_f rfl rfl) rfl rfl rfl ?_))
    all_goals (refine WL.nil ?_)
    all_goals (repeat' (with_reducible first | refine thenP_n ?_ | refine blockP_n ?_))
    all_goals (refine WC.sub [(0, _), (9, _)] ⟨rfl, rfl, trivial⟩ ?_)
    all_goals (first | refine WC.condB_t 1 rfl ?_ | refine WC.condB_f 2 rfl ?_ | (refine WC.condB 1 2 rfl (fun hb => ?_) (fun hb => ?_) <;> (first | replace hb := of_decide_eq_true hb | replace hb := of_decide_eq_false hb | replace hb := of_decide_eq_false (nt hb) | replace hb := of_decide_eq_true (nf hb) | skip)))
    all_goals (first
      | (fail_if_success (refine Br.mk (i := 1) ?_))
      | (refine Br.mk (i := 1) ?_
         all_goals (refine WC.seq ?_)
         all_goals (refine WC.region ?_)
         all_goals (refine WL.step (ok_assign rfl) rfl rfl rfl ?_)
         all_goals (refine WL.step (ok_assign rfl) rfl rfl rfl ?_)
         all_goals (refine WL.nil ?_)
         all_goals (repeat' (with_reducible first | refine thenP_n ?_ | refine blockP_n ?_))
         all_goals (refine WC.ret ?_)
         all_goals (repeat' (with_reducible first | refine thenP_r ?_ | refine blockP_r ?_))
         all_goals (refine retP_2 _ _ ⟨rfl, rfl, trivial⟩ ?_)
         all_goals (exact ⟨rfl, rfl⟩)
         skip))
    all_goals (first
      | (fail_if_success (refine Br.mk (i := 2) ?_))
      | (refine Br.mk (i := 2) ?_
         all_goals (refine WC.skip ?_)
         skip))
    all_goals (repeat' (with_reducible first | refine thenP_n ?_ | refine blockP_n ?_))
    all_goals (refine WC.seq ?_)
    all_goals (refine WC.region ?_)
    all_goals (refine WL.step (ok_move rfl) rfl rfl rfl ?_)
    all_goals (refine WL.step (ok_buildF (vs := [_]) (cs := [_, _]) (fun | [a1] => [(.slice none 0 0), a1] | _ => []) rfl rfl (by kernel_rfl)) rfl rfl rfl ?_)
    all_goals (refine WL.stepR (okE_box rfl) rfl rfl rfl ?_
               rintro _ h1 ⟨b1, rfl, hg1, hb1, hx1⟩)
    all_goals (refine WL.step (ok_assign rfl) rfl rfl rfl ?_)
    all_goals (refine WL.step (ok_assign rfl) rfl rfl rfl ?_)
    all_goals (refine WL.nil ?_)
    all_goals (repeat' (with_reducible first | refine thenP_n ?_ | refine blockP_n ?_))
    all_goals (refine WC.sub [(2, _), (3, _)] ⟨rfl, rfl, trivial⟩ ?_)
    all_goals (refine WC.ret ?_)
    all_goals (repeat' (with_reducible first | refine thenP_r ?_ | refine blockP_r ?_))
    all_goals (refine retP_2 _ _ ⟨rfl, rfl, trivial⟩ ?_)
    all_goals (exact ⟨rfl, rfl⟩)
  ·
    refine calls [(0, _)] Try.func51 rfl Try.ntmps51 rfl ⟨rfl, trivial⟩ ?_
    all_goals (refine WC.seq ?_)
    all_goals (refine WC.region ?_)
    all_goals (refine WL.step (ok_assign rfl) rfl rfl rfl ?_)
    all_goals (refine WL.step (ok_assign rfl) rfl rfl rfl ?_)
    all_goals (refine WL.nil ?_)
    all_goals (repeat' (with_reducible first | refine thenP_n ?_ | refine blockP_n ?_))
    all_goals (refine WC.seq ?_)
    all_goals (refine WC.seq ?_)
    all_goals (refine WC.region ?_)
    all_goals (refine WL.step (ok_move rfl) rfl rfl rfl ?_)
    all_goals (first | (refine WL.step (OkP.bool_t (by omega) (ok_lss rfl rfl)) rfl rfl rfl ?_) | (refine WL.step (OkP.bool_f (by omega) (ok_lss rfl rfl)) rfl rfl rfl ?_) | (refine WL.step (ok_lss rfl rfl) rfl rfl rfl ?_))
    all_goals (refine WL.step (ok_move rfl) rfl rfl rfl ?_)
    all_goals (try ((fail_if_success (refine WL.part 6 (b := true) rfl (fun _ => ?_) (fun _ => ?_))); (fail_if_success (refine WL.part 6 (b := false) rfl (fun _ => ?_) (fun _ => ?_))); (refine WL.part 6 rfl (fun hb => ?_) (fun hb => ?_) <;> (first | replace hb := of_decide_eq_true hb | replace hb := of_decide_eq_false hb | replace hb := of_decide_eq_false (nt hb) | replace hb := of_decide_eq_true (nf hb) | skip))))
    all_goals (first | (refine WL.pass rfl rfl rfl ?_) | (refine WL.step (ok_move rfl) rfl rfl rfl ?_))
    all_goals (first | (refine WL.pass rfl rfl rfl ?_) | (first | (refine WL.step (OkP.bool_t (by omega) (ok_gtr rfl rfl)) rfl rfl rfl ?_) | (refine WL.step (OkP.bool_f (by omega) (ok_gtr rfl rfl)) rfl rfl rfl ?_) | (refine WL.step (ok_gtr rfl rfl) rfl rfl rfl ?_)))
    all_goals (first | (refine WL.step (ok_pick_t rfl rfl) rfl rfl rfl ?_) | (refine WL.step (ok_pick_f rfl rfl) rfl rfl rfl ?_))
    all_goals (refine WL.nil ?_)
    all_goals (repeat' (with_reducible first | refine thenP_n ?_ | refine blockP_n ?_))
    all_goals (refine WC.sub [(0, _), (9, _)] ⟨rfl, rfl, trivial⟩ ?_)
    all_goals (first | refine WC.condB_t 1 rfl ?_ | refine WC.condB_f 2 rfl ?_ | (refine WC.condB 1 2 rfl (fun hb => ?_) (fun hb => ?_) <;> (first | replace hb := of_decide_eq_true hb | replace hb := of_decide_eq_false hb | replace hb := of_decide_eq_false (nt hb) | replace hb := of_decide_eq_true (nf hb) | skip)))
    all_goals (first
      | (fail_if_success (refine Br.mk (i := 1) ?_))
      | (refine Br.mk (i := 1) ?_
         all_goals (refine WC.seq ?_)
         all_goals (refine WC.region ?_)
         all_goals (refine WL.step (ok_assign rfl) rfl rfl rfl ?_)
         all_goals (refine WL.step (ok_assign rfl) rfl rfl rfl ?_)
         all_goals (refine WL.nil ?_)
         all_goals (repeat' (with_reducible first | refine thenP_n ?_ | refine blockP_n ?_))
         all_goals (refine WC.ret ?_)
         all_goals (repeat' (with_reducible first | refine thenP_r ?_ | refine blockP_r ?_))
         all_goals (refine retP_2 _ _ ⟨rfl, rfl, trivial⟩ ?_)
         all_goals (exact ⟨rfl, rfl⟩)
         skip))
    all_goals (first
      | (fail_if_success (refine Br.mk (i := 2) ?_))
      | (refine Br.mk (i := 2) ?_
         all_goals (refine WC.skip ?_)
         skip))
    all_goals (repeat' (with_reducible first | refine thenP_n ?_ | refine blockP_n ?_))
    all_goals (refine WC.seq ?_)
    all_goals (refine WC.region ?_)
    all_goals (refine WL.step (ok_move rfl) rfl rfl rfl ?_)
    all_goals (refine WL.step (ok_buildF (vs := [_]) (cs := [_, _]) (fun | [a1] => [(.slice none 0 0), a1] | _ => []) rfl rfl (by kernel_rfl)) rfl rfl rfl ?_)
    all_goals (refine WL.stepR (okE_box rfl) rfl rfl rfl ?_
               rintro _ h1 ⟨b1, rfl, hg1, hb1, hx1⟩)
    all_goals (refine WL.step (ok_assign rfl) rfl rfl rfl ?_)
    all_goals (refine WL.step (ok_assign rfl) rfl rfl rfl ?_)
    all_goals (refine WL.nil ?_)
    all_goals (repeat' (with_reducible first | refine thenP_n ?_ | refine blockP_n ?_))
    all_goals (refine WC.sub [(2, _), (3, _)] ⟨rfl, rfl, trivial⟩ ?_)
    all_goals (refine WC.ret ?_)
    all_goals (repeat' (with_reducible first | refine thenP_r ?_ | refine blockP_r ?_))
    all_goals (refine retP_2 _ _ ⟨rfl, rfl, trivial⟩ ?_)
    all_goals (exact ⟨rfl, rfl⟩)
set_option maxRecDepth 100000 in
theorem list_lru {h : Heap} {b : Nat} {v : Value} {most : Int} {l : List Int} (r : Lr 104 h b v most l) (hm : l.length ≤ 100000) :
    CallsH Try.prog 56 ⟨[.pointer (some ⟨b, 0, none⟩)]⟩ h fun u h' => Own h' u 3 1 l.length (ints l) ∧ Ext No h h' ∧ (∀ k, u.ownBlock = some k → h.size ≤ k) := by
  obtain ⟨hb, ho⟩ := r
  obtain ⟨A, c, rfl, _⟩ := ho.slice
  refine calls [(0, _)] Try.func56 rfl Try.ntmps56 rfl ⟨rfl, trivial⟩ ?_
  all_goals (refine WC.seq ?_)
  all_goals (refine WC.region ?_)
  all_goals (refine WL.step (ok_assign rfl) rfl rfl rfl ?_)
  all_goals (refine WL.nil ?_)
  all_goals (repeat' (with_reducible first | refine thenP_n ?_ | refine blockP_n ?_))
  all_goals (refine WC.seq ?_)
  all_goals (refine WC.seq ?_)
  all_goals (refine WC.region ?_)
  all_goals (refine WL.step (ok_move rfl) rfl rfl rfl ?_)
  all_goals (refine WL.step (ok_eqlPn Try.underlying65 rfl rfl) rfl rfl rfl ?_)
  all_goals (refine WL.nil ?_)
  all_goals (repeat' (with_reducible first | refine thenP_n ?_ | refine blockP_n ?_))
  all_goals (first | refine WC.condB_t 1 rfl ?_ | refine WC.condB_f 2 rfl ?_ | (refine WC.condB 1 2 rfl (fun hb => ?_) (fun hb => ?_) <;> (first | replace hb := of_decide_eq_true hb | replace hb := of_decide_eq_false hb | replace hb := of_decide_eq_false (nt hb) | replace hb := of_decide_eq_true (nf hb) | skip)))
  all_goals (first
    | (fail_if_success (refine Br.mk (i := 1) ?_))
    | (refine Br.mk (i := 1) ?_
       all_goals (refine WC.seq ?_)
       all_goals (refine WC.region ?_)
       all_goals (refine WL.step (ok_assign rfl) rfl rfl rfl ?_)
       all_goals (refine WL.nil ?_)
       all_goals (repeat' (with_reducible first | refine thenP_n ?_ | refine blockP_n ?_))
       all_goals (refine WC.ret ?_)
       all_goals (repeat' (with_reducible first | refine thenP_r ?_ | refine blockP_r ?_))
       all_goals (refine retP_1 _ ⟨rfl, trivial⟩ ?_)
       all_goals (exact ⟨ho4, hx4, hl4⟩)
       skip))
  all_goals (first
    | (fail_if_success (refine Br.mk (i := 2) ?_))
    | (refine Br.mk (i := 2) ?_
       all_goals (refine WC.skip ?_)
       skip))
  all_goals (repeat' (with_reducible first | refine thenP_n ?_ | refine blockP_n ?_))
  all_goals (refine WC.seq ?_)
  all_goals (refine WC.region ?_)
  all_goals (refine WL.step (ok_move rfl) rfl rfl rfl ?_)
  all_goals (refine WL.step (ok_nilCheck rfl) rfl rfl rfl ?_)
  all_goals (refine WL.step (ok_fieldAddr rfl Try.underlying104 rfl (fun w => Try.sizeOf22 w)) rfl rfl rfl ?_)
  all_goals (refine WL.step (ok_load (fun w => Try.isAgg22 w) rfl (by first | assumption | exact cell_blk (by assumption) rfl)) rfl rfl rfl ?_)
  all_goals (refine WL.call (vs := [_]) rfl (fun a w => Try.call46 a w) rfl (clone_int l ho.rd (by omega)) rfl rfl rfl ?_
             rintro v4 h4 ⟨ho4, hx4, hl4⟩)
  all_goals (refine WL.step (ok_assign rfl) rfl rfl rfl ?_)
  all_goals (refine WL.nil ?_)
  all_goals (repeat' (with_reducible first | refine thenP_n ?_ | refine blockP_n ?_))
  all_goals (refine WC.sub [(2, _)] ⟨rfl, trivial⟩ ?_)
  all_goals (refine WC.ret ?_)
  all_goals (repeat' (with_reducible first | refine thenP_r ?_ | refine blockP_r ?_))
  all_goals (refine retP_1 _ ⟨rfl, trivial⟩ ?_)
  all_goals (exact ⟨ho4, hx4, hl4⟩)
theorem rm_take {l : List Int} {id y : Int} {k : Nat} (hy : l[k]? = some y) : rmL (l.take (k + 1)) id = rmL (l.take k) id ++ if y = id then [] else [y] := by
  rw [List.take_add_one, hy]
  unfold rmL
  rw [List.filter_append]
  by_cases h : y = id <;> simp [h]
end Go.Proofs.Ytkejihockkhnoaa

