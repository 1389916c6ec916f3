/-
  CacheLives holds: a cache settles any ops in any order, and is seen behind any entries, as the document says.
-/
import Derived.Test.YtkejihockkhnoaaCache3
import Derived.Test.YtkejihockkhnoaaRows
namespace Go.Proofs.Ytkejihockkhnoaa
open Go Go.RK

theorem opens_ints (w : World) : Opens Try.prog w 22 (fun p : Value × List Int => [p.1]) (fun p => Rd w.heap p.1 1 p.2.length (ints p.2) ∧ p.2.length * 8 ≤ reachBytes) :=
  (opens_slice (sz := 1) (F := fun n : Int => [In n]) Try.underlying22 (by kernel_rfl) (by decide) (fun _ => rfl) (opens_int Try.underlying3)).map id (fun _ => rfl) fun p q => ⟨by have := q.1; rw [flat_one] at this; exact this, by have := q.2.2.2.2; rwa [show Try.prog.bytesOf 3 = 8 by kernel_rfl] at this⟩
/-- Both caches. -/
structure Duo (h0 h : Heap) (b0 b b2 : Nat) (v w : Value) (most : Int) (l : List Int) : Prop where
  a : Cc h b0 b v most l
  x : Lr 61 h b2 w most l
  ext : Ext No h0 h
  f0 : h0.size ≤ b0
  fa : ∀ k, Ft b v k → h0.size ≤ k
  fx : ∀ k, Ft b2 w k → h0.size ≤ k
  sep : ∀ k, Ft b v k → ¬ Ft b2 w k
  nd : l.Nodup
  len : (l.length : Int) ≤ most
theorem Duo.s0 {h0 h : Heap} {b0 b b2 : Nat} {v w : Value} {most : Int} {l : List Int} (d : Duo h0 h b0 b b2 v w most l) : ¬ Ft b2 w b0 := d.x.ne_ty d.a.cells (by decide) (by decide)
theorem Duo.stay {h0 h h' : Heap} {b0 b b2 : Nat} {v w : Value} {most : Int} {l : List Int} (d : Duo h0 h b0 b b2 v w most l) (e : Ext No h h') : Duo h0 h' b0 b b2 v w most l :=
  ⟨d.a.ext0 e, d.x.ext e (fun _ _ => nos), d.ext.trans e, d.f0, d.fa, d.fx, d.sep, d.nd, d.len⟩
theorem Duo.turn {h0 h h1 h2 : Heap} {b0 b b2 : Nat} {v w v' w' : Value} {most : Int} {l l' : List Int} (d : Duo h0 h b0 b b2 v w most l)
    (r1 : Cc h1 b0 b v' most l') (x1 : Ext (Ft b v) h h1) (k1 : Kin h v v') (r2 : Lr 61 h2 b2 w' most l') (x2 : Ext (fun q => q = b2) h1 h2) (k2 : Kin h1 w w')
    (hn : l'.Nodup) (hl : (l'.length : Int) ≤ most) : Duo h0 h2 b0 b b2 v' w' most l' := by
  have s0 := d.ext.size
  have s1 := x1.size
  have lb2 := lt_of_some d.x.cells
  have m1 : ∀ k, Ft b v' k → Ft b v k ∨ h.size ≤ k := by
    rintro k (e | e)
    · exact .inl (.inl e)
    · rcases k1 k e with e | e
      · exact .inl (.inr e)
      · exact .inr e
  have m2 : ∀ k, Ft b2 w' k → Ft b2 w k ∨ h1.size ≤ k := by
    rintro k (e | e)
    · exact .inl (.inl e)
    · rcases k2 k e with e | e
      · exact .inl (.inr e)
      · exact .inr e
  refine ⟨r1.ext x2 (fun e => d.s0 (.inl e)) fun k hk e => ?_, r2, (d.ext.trans' x1 fun k hk e => ?_).trans' x2 fun k hk e => ?_, d.f0, fun k hk => ?_, fun k hk => ?_, fun k hk hk2 => ?_, hn, hl⟩
  · rcases m1 k hk with e' | e'
    · exact d.sep k e' (.inl e)
    · omega
  · have := d.fa k e; omega
  · have := d.fx k (.inl e); omega
  · rcases m1 k hk with e | e
    · exact d.fa k e
    · omega
  · rcases m2 k hk with e | e
    · exact d.fx k e
    · omega
  · have h1l := r1.lru.lt k hk
    rcases m2 k hk2 with e2 | e2
    · rcases m1 k hk with e | e
      · exact d.sep k e e2
      · have := d.x.lt k e2; omega
    · omega
/-- Few ops. -/
def fewO (L : List Ob) : Bool := decide (L.length ≤ 40) && L.all fun o => decide (o.l.length ≤ 10)
set_option maxRecDepth 100000 in
theorem few18 {h : Heap} {v : Value} (L : List Ob) (hL : Obs h v L) :
    CallsH Try.prog 29 ⟨[v]⟩ h fun u h' => u = .bool (fewO L) ∧ h' = h := by
  obtain ⟨hr, hm, hok⟩ := hL
  obtain ⟨A, c, rfl, _⟩ := id hr
  unfold reachBytes at hm
  refine calls [(0, _)] Try.func29 rfl Try.ntmps29 rfl ⟨rfl, trivial⟩ ?_
  all_goals (refine WC.seq ?_)
  all_goals (refine WC.region ?_)
  all_goals (refine WL.step (ok_assign rfl) rfl rfl rfl ?_)
  all_goals (refine WL.nil ?_)
  all_goals (repeat' (with_reducible first | refine thenP_n ?_ | refine blockP_n ?_))
  all_goals (refine WC.seq ?_)
  all_goals (refine WC.seq ?_)
  all_goals (refine WC.region ?_)
  all_goals (refine WL.step (ok_move rfl) rfl rfl rfl ?_)
  all_goals (refine WL.step (ok_lenL rfl Try.underlying55 rfl) rfl rfl rfl ?_)
  all_goals (refine WL.step (ok_move rfl) rfl rfl rfl ?_)
  all_goals (refine WL.nil ?_)
  all_goals (repeat' (with_reducible first | refine thenP_n ?_ | refine blockP_n ?_))
  all_goals (refine WC.block ?_)
  -- loop 0: slots that turn [7], that stay [5, 6]
  all_goals (refine WC.loopG (X := Nat) (fun x => ([(7, In (x : Int))] : Fr)) [(5, _), (6, _)] (fun k h' => h' = h ∧ k ≤ L.length ∧ k ≤ 40 ∧ ∀ o ∈ L.take k, o.l.length ≤ 10) (fun k => L.length - k) (0) ⟨rfl, rfl, rfl, trivial⟩ (by exact ⟨rfl, Nat.zero_le _, Nat.zero_le _, by simp⟩) ?_)
  all_goals (rintro k _ ⟨rfl, hk, h40, hn⟩)
  all_goals (refine WC.sub [(7, _), (5, _), (6, _)] ⟨rfl, rfl, rfl, trivial⟩ ?_)
  all_goals (refine WC.seq ?_)
  all_goals (refine WC.region ?_)
  all_goals (first | (refine WL.step (OkP.bool_t (by omega) (ok_lss rfl rfl)) rfl rfl rfl ?_) | (refine WL.step (OkP.bool_f (by omega) (ok_lss rfl rfl)) rfl rfl rfl ?_) | (refine WL.step (ok_lss rfl rfl) rfl rfl rfl ?_))
  all_goals (refine WL.nil ?_)
  all_goals (repeat' (with_reducible first | refine thenP_n ?_ | refine blockP_n ?_))
  all_goals (refine WC.seq ?_)
  all_goals (first | refine WC.condB_t 1 rfl ?_ | refine WC.condB_f 2 rfl ?_ | (refine WC.condB 1 2 rfl (fun hb => ?_) (fun hb => ?_) <;> (first | replace hb := of_decide_eq_true hb | replace hb := of_decide_eq_false hb | replace hb := of_decide_eq_false (nt hb) | replace hb := of_decide_eq_true (nf hb) | skip)))
  all_goals (first
    | (fail_if_success (refine Br.mk (i := 1) ?_))
    | (refine Br.mk (i := 1) ?_
       all_goals (refine WC.skip ?_)
       skip))
  all_goals (first
    | (fail_if_success (refine Br.mk (i := 2) ?_))
    | (refine Br.mk (i := 2) ?_
       all_goals (refine WC.exit ?_)
       all_goals (repeat' (with_reducible first | refine thenP_x ?_ | refine blockP_miss rfl ?_ | refine blockP_hit ?_ | refine blockP_n ?_ | refine thenP_n ?_))
       all_goals (refine Br.out (i := 1000) ?_)
       skip))
  all_goals (first | (refine Br.keep ?_) | (repeat' (with_reducible first | refine thenP_n ?_ | refine blockP_n ?_)))
  all_goals (first | (refine Br.keep ?_) | (refine WC.seq ?_))
  all_goals (first | (refine Br.keep ?_) | (refine WC.block ?_))
  all_goals (first | (refine Br.keep ?_) | (refine WC.seq ?_))
  all_goals (first | (refine Br.keep ?_) | (refine WC.region ?_))
  all_goals (first
               | (refine Br.keep ?_)
               | (obtain ⟨bL, oL, hA, hbL, hat⟩ := Rd.at_ hr (by omega)
                  obtain ⟨y, hy⟩ : ∃ y, L[k]? = some y := ⟨_, List.getElem?_eq_getElem (by omega)⟩
                  have hc := hat.get (p := oL + k * 1) (v := y.v) k (by rw [List.getElem?_map, hy]; exact rfl) (by omega)
                  have hy10 := (hok y (List.mem_of_getElem? hy)).1
                  obtain ⟨Ay, cy, ey, _⟩ := id hy10
                  rw [ey] at hc))
  all_goals (first | (refine Br.keep ?_) | (refine WL.step (ok_move rfl) rfl rfl rfl ?_))
  all_goals (first | (refine Br.keep ?_) | (refine WL.step (ok_idxAddrA Try.underlying55 (fun w => Try.sizeOf40 w) rfl rfl rfl (by omega) (by first | rfl | assumption)) rfl rfl rfl ?_))
  all_goals (first | (refine Br.keep ?_) | (refine WL.step (ok_load (fun w => Try.isAgg40 w) rfl (by first | assumption | exact cell_blk (by assumption) rfl)) rfl rfl rfl ?_))
  all_goals (first | (refine Br.keep ?_) | (refine WL.step (ok_assign rfl) rfl rfl rfl ?_))
  all_goals (first | (refine Br.keep ?_) | (refine WL.step (ok_assign rfl) rfl rfl rfl ?_))
  all_goals (first | (refine Br.keep ?_) | (refine WL.nil ?_))
  all_goals (first | (refine Br.keep ?_) | (repeat' (with_reducible first | refine thenP_n ?_ | refine blockP_n ?_)))
  all_goals (first | (refine Br.keep ?_) | (refine WC.sub [(3, _), (4, _), (5, _), (6, _), (7, _)] ⟨rfl, rfl, rfl, rfl, rfl, trivial⟩ ?_))
  all_goals (first | (refine Br.keep ?_) | (refine WC.seq ?_))
  all_goals (first | (refine Br.keep ?_) | (refine WC.region ?_))
  all_goals (first | (refine Br.keep ?_) | (refine WL.step (ok_move rfl) rfl rfl rfl ?_))
  all_goals (first | (refine Br.keep ?_) | (first | (refine WL.step (OkP.bool_t (by omega) (ok_geq rfl rfl)) rfl rfl rfl ?_) | (refine WL.step (OkP.bool_f (by omega) (ok_geq rfl rfl)) rfl rfl rfl ?_) | (refine WL.step (ok_geq rfl rfl) rfl rfl rfl ?_)))
  all_goals (first | (refine Br.keep ?_) | (refine WL.step (ok_move rfl) rfl rfl rfl ?_))
  all_goals (first | (refine Br.keep ?_) | (try ((fail_if_success (refine WL.part 14 (b := true) rfl (fun _ => ?_) (fun _ => ?_))); (fail_if_success (refine WL.part 14 (b := false) rfl (fun _ => ?_) (fun _ => ?_))); (refine WL.part 14 rfl (fun hb => ?_) (fun hb => ?_) <;> (first | replace hb := of_decide_eq_true hb | replace hb := of_decide_eq_false hb | replace hb := of_decide_eq_false (nt hb) | replace hb := of_decide_eq_true (nf hb) | skip)))))
  all_goals (first | (refine Br.keep ?_) | (first | (refine WL.pass rfl rfl rfl ?_) | (refine WL.step (ok_move rfl) rfl rfl rfl ?_)))
  all_goals (first | (refine Br.keep ?_) | (first | (refine WL.pass rfl rfl rfl ?_) | (refine WL.step (ok_lenL rfl Try.underlying40 rfl) rfl rfl rfl ?_)))
  all_goals (first | (refine Br.keep ?_) | (first | (refine WL.pass rfl rfl rfl ?_) | (first | (refine WL.step (OkP.bool_t (by omega) (ok_gtr rfl rfl)) rfl rfl rfl ?_) | (refine WL.step (OkP.bool_f (by omega) (ok_gtr rfl rfl)) rfl rfl rfl ?_) | (refine WL.step (ok_gtr rfl rfl) rfl rfl rfl ?_))))
  all_goals (first | (refine Br.keep ?_) | (first | (refine WL.step (ok_pick_t rfl rfl) rfl rfl rfl ?_) | (refine WL.step (ok_pick_f rfl rfl) rfl rfl rfl ?_)))
  all_goals (first | (refine Br.keep ?_) | (refine WL.nil ?_))
  all_goals (first | (refine Br.keep ?_) | (repeat' (with_reducible first | refine thenP_n ?_ | refine blockP_n ?_)))
  all_goals (first | (refine Br.keep ?_) | (refine WC.sub [(5, _), (6, _), (7, _), (18, _)] ⟨rfl, rfl, rfl, rfl, trivial⟩ ?_))
  all_goals (first | (refine Br.keep ?_) | (first | refine WC.condB_t 3 rfl ?_ | refine WC.condB_f 4 rfl ?_ | (refine WC.condB 3 4 rfl (fun hb => ?_) (fun hb => ?_) <;> (first | replace hb := of_decide_eq_true hb | replace hb := of_decide_eq_false hb | replace hb := of_decide_eq_false (nt hb) | replace hb := of_decide_eq_true (nf hb) | skip))))
  all_goals (first
    | (fail_if_success (refine Br.mk (i := 3) ?_))
    | (refine Br.mk (i := 3) ?_
       all_goals (refine WC.seq ?_)
       all_goals (refine WC.region ?_)
       all_goals (refine WL.step (ok_assign rfl) rfl rfl rfl ?_)
       all_goals (refine WL.nil ?_)
       all_goals (repeat' (with_reducible first | refine thenP_n ?_ | refine blockP_n ?_))
       all_goals (refine WC.sub [(2, _)] ⟨rfl, trivial⟩ ?_)
       all_goals (refine WC.ret ?_)
       all_goals (repeat' (with_reducible first | refine thenP_r ?_ | refine blockP_r ?_))
       all_goals (refine retP_1 _ ⟨rfl, trivial⟩ ?_)
       all_goals (first
                   | exact ⟨by rw [show fewO L = true by simp only [fewO, Bool.and_eq_true, decide_eq_true_eq, List.all_eq_true]; rw [List.take_of_length_le (by omega)] at hn; exact ⟨by omega, hn⟩], rfl⟩
                   | exact ⟨by rw [show fewO L = false by simp only [fewO, Bool.and_eq_false_iff, decide_eq_false_iff_not]; exact .inl (by omega)], rfl⟩
                   | exact ⟨by rw [show fewO L = false by simp only [fewO, Bool.and_eq_false_iff, List.all_eq_false, decide_eq_true_eq]; exact .inr ⟨y, List.mem_of_getElem? hy, by omega⟩], rfl⟩)
       skip))
  all_goals (first
    | (fail_if_success (refine Br.mk (i := 4) ?_))
    | (refine Br.mk (i := 4) ?_
       all_goals (refine WC.skip ?_)
       skip))
  all_goals (first | (refine Br.keep ?_) | (repeat' (with_reducible first | refine thenP_n ?_ | refine blockP_n ?_)))
  all_goals (first | (refine Br.keep ?_) | (refine WC.region ?_))
  all_goals (first | (refine Br.keep ?_) | (first | (refine WL.step (ok_addI rfl rfl (by omega)) rfl rfl rfl ?_) | (refine WL.step (ok_add rfl rfl) rfl rfl rfl ?_)))
  all_goals (first | (refine Br.keep ?_) | (refine WL.step (ok_move rfl) rfl rfl rfl ?_))
  all_goals (first | (refine Br.keep ?_) | (refine WL.nil ?_))
  all_goals (first | (refine Br.keep ?_) | (repeat' (with_reducible first | refine thenP_n ?_ | refine blockP_n ?_)))
  all_goals (first | (refine Br.keep ?_) | (exact ⟨k + 1, ⟨rfl, rfl, rfl, trivial⟩, (by exact ⟨rfl, by omega, by omega, fun o ho => by rw [List.take_add_one, hy] at ho; simp only [Option.toList_some, List.mem_append, List.mem_singleton] at ho; rcases ho with ho | rfl; exact hn o ho; omega⟩), (by omega)⟩))
  all_goals (try (refine Br.mk (i := 1000) ?_))
  all_goals (repeat' (with_reducible first | refine thenP_n ?_ | refine blockP_n ?_))
  all_goals (refine WC.sub [] trivial ?_)
  all_goals (refine WC.seq ?_)
  all_goals (refine WC.region ?_)
  all_goals (refine WL.step (ok_assign rfl) rfl rfl rfl ?_)
  all_goals (refine WL.nil ?_)
  all_goals (repeat' (with_reducible first | refine thenP_n ?_ | refine blockP_n ?_))
  all_goals (refine WC.ret ?_)
  all_goals (repeat' (with_reducible first | refine thenP_r ?_ | refine blockP_r ?_))
  all_goals (refine retP_1 _ ⟨rfl, trivial⟩ ?_)
  all_goals (first
              | exact ⟨by rw [show fewO L = true by simp only [fewO, Bool.and_eq_true, decide_eq_true_eq, List.all_eq_true]; rw [List.take_of_length_le (by omega)] at hn; exact ⟨by omega, hn⟩], rfl⟩
              | exact ⟨by rw [show fewO L = false by simp only [fewO, Bool.and_eq_false_iff, decide_eq_false_iff_not]; exact .inl (by omega)], rfl⟩
              | exact ⟨by rw [show fewO L = false by simp only [fewO, Bool.and_eq_false_iff, List.all_eq_false, decide_eq_true_eq]; exact .inr ⟨y, List.mem_of_getElem? hy, by omega⟩], rfl⟩)
theorem fewO_ops {L : List Ob} (h : fewO L = true) : ∀ o ∈ L, o.l.length ≤ 10 := by
  simp only [fewO, Bool.and_eq_true, List.all_eq_true, decide_eq_true_eq] at h
  exact h.2
set_option maxRecDepth 100000 in
theorem lives18_no {h : Heap} {v w u : Value} (most : Int) (hmo : most < 1 ∨ 4096 < most) :
    CallsH Try.prog 5 ⟨[In most, v, w, u]⟩ h fun u h' => u = .bool true ∧ Ext No h h' := by
  refine calls [(0, _), (1, _), (2, _), (3, _)] Try.func5 rfl Try.ntmps5 rfl ⟨rfl, rfl, rfl, rfl, trivial⟩ ?_
  all_goals (refine WC.seq ?_)
  all_goals (refine WC.region ?_)
  all_goals (refine WL.step (ok_assign rfl) rfl rfl rfl ?_)
  all_goals (refine WL.nil ?_)
  all_goals (repeat' (with_reducible first | refine thenP_n ?_ | refine blockP_n ?_))
  all_goals (refine WC.seq ?_)
  all_goals (refine WC.region ?_)
  all_goals (refine WL.step (ok_move rfl) rfl rfl rfl ?_)
  all_goals (refine WL.call (vs := [_]) rfl (fun a w => Try.call23 a w) rfl (new_cc_no most hmo) rfl rfl rfl ?_
             rintro _ hz ⟨rfl, _⟩
             subst hz)
  all_goals (refine WL.step (ok_move rfl) rfl rfl rfl ?_)
  all_goals (refine WL.step (ok_extract rfl rfl) rfl rfl rfl ?_)
  all_goals (refine WL.step (ok_extract rfl rfl) rfl rfl rfl ?_)
  all_goals (refine WL.step (ok_assign rfl) rfl rfl rfl ?_)
  all_goals (refine WL.step (ok_assign rfl) rfl rfl rfl ?_)
  all_goals (refine WL.nil ?_)
  all_goals (repeat' (with_reducible first | refine thenP_n ?_ | refine blockP_n ?_))
  all_goals (refine WC.sub [(0, _), (1, _), (2, _), (3, _), (9, _), (10, _)] ⟨rfl, rfl, rfl, rfl, rfl, rfl, trivial⟩ ?_)
  all_goals (refine WC.seq ?_)
  all_goals (refine WC.region ?_)
  all_goals (refine WL.step (ok_move rfl) rfl rfl rfl ?_)
  all_goals (refine WL.call (vs := [_]) rfl (fun a w => Try.call28 a w) rfl (new18_no most hmo) rfl rfl rfl ?_
             rintro _ hz ⟨rfl, _⟩
             subst hz)
  all_goals (refine WL.step (ok_move rfl) rfl rfl rfl ?_)
  all_goals (refine WL.step (ok_extract rfl rfl) rfl rfl rfl ?_)
  all_goals (refine WL.step (ok_extract rfl rfl) rfl rfl rfl ?_)
  all_goals (refine WL.step (ok_assign rfl) rfl rfl rfl ?_)
  all_goals (refine WL.step (ok_assign rfl) rfl rfl rfl ?_)
  all_goals (refine WL.nil ?_)
  all_goals (repeat' (with_reducible first | refine thenP_n ?_ | refine blockP_n ?_))
  all_goals (refine WC.sub [(0, _), (1, _), (2, _), (3, _), (9, _), (10, _), (11, _), (12, _)] ⟨rfl, rfl, rfl, rfl, rfl, rfl, rfl, rfl, trivial⟩ ?_)
  all_goals (refine WC.seq ?_)
  all_goals (refine WC.seq ?_)
  all_goals (refine WC.region ?_)
  all_goals (refine WL.step (ok_move rfl) rfl rfl rfl ?_)
  all_goals (refine WL.step (ok_move rfl) rfl rfl rfl ?_)
  all_goals (first | (refine WL.step (OkP.nbool_t (by omega) (ok_neq rfl rfl)) rfl rfl rfl ?_) | (refine WL.step (OkP.nbool_f (by omega) (ok_neq rfl rfl)) rfl rfl rfl ?_) | (refine WL.step (ok_neq rfl rfl) rfl rfl rfl ?_))
  all_goals (refine WL.step (ok_move rfl) rfl rfl rfl ?_)
  all_goals (try ((fail_if_success (refine WL.part 28 (b := true) rfl (fun _ => ?_) (fun _ => ?_))); (fail_if_success (refine WL.part 28 (b := false) rfl (fun _ => ?_) (fun _ => ?_))); (refine WL.part 28 rfl (fun hb => ?_) (fun hb => ?_) <;> (first | replace hb := of_decide_eq_true hb | replace hb := of_decide_eq_false hb | replace hb := of_decide_eq_false (nt hb) | replace hb := of_decide_eq_true (nf hb) | skip))))
  all_goals (first | (refine WL.pass rfl rfl rfl ?_) | (refine WL.step (ok_move rfl) rfl rfl rfl ?_))
  all_goals (first | (refine WL.pass rfl rfl rfl ?_) | (refine WL.step (ok_eqlPn Try.underlying42 rfl rfl) rfl rfl rfl ?_))
  all_goals (first | (refine WL.pass rfl rfl rfl ?_) | (refine WL.step (ok_move rfl) rfl rfl rfl ?_))
  all_goals (first | (refine WL.pass rfl rfl rfl ?_) | (refine WL.step (ok_eqlPn Try.underlying56 rfl rfl) rfl rfl rfl ?_))
  all_goals (first | (refine WL.pass rfl rfl rfl ?_) | (first | (refine WL.step (OkP.nbool_f (by rfl) (ok_neqB Try.underlying4 rfl rfl)) rfl rfl rfl ?_) | (refine WL.step (OkP.nbool_t (by decide) (ok_neqB Try.underlying4 rfl rfl)) rfl rfl rfl ?_) | (refine WL.step (ok_neqB Try.underlying4 rfl rfl) rfl rfl rfl ?_)))
  all_goals (first | (refine WL.step (ok_pick_t rfl rfl) rfl rfl rfl ?_) | (refine WL.step (ok_pick_f rfl rfl) rfl rfl rfl ?_))
  all_goals (refine WL.nil ?_)
  all_goals (repeat' (with_reducible first | refine thenP_n ?_ | refine blockP_n ?_))
  all_goals (refine WC.sub [(0, _), (1, _), (2, _), (3, _), (9, _), (11, _), (34, _)] ⟨rfl, rfl, rfl, rfl, rfl, rfl, rfl, trivial⟩ ?_)
  all_goals (first | refine WC.condB_t 1 rfl ?_ | refine WC.condB_f 2 rfl ?_ | (refine WC.condB 1 2 rfl (fun hb => ?_) (fun hb => ?_) <;> (first | replace hb := of_decide_eq_true hb | replace hb := of_decide_eq_false hb | replace hb := of_decide_eq_false (nt hb) | replace hb := of_decide_eq_true (nf hb) | skip)))
  all_goals (first
    | (fail_if_success (refine Br.mk (i := 1) ?_))
    | (refine Br.mk (i := 1) ?_
       all_goals (refine WC.seq ?_)
       all_goals (refine WC.region ?_)
       all_goals (refine WL.step (ok_assign rfl) rfl rfl rfl ?_)
       all_goals (refine WL.nil ?_)
       all_goals (repeat' (with_reducible first | refine thenP_n ?_ | refine blockP_n ?_))
       all_goals (refine WC.sub [(8, _)] ⟨rfl, trivial⟩ ?_)
       all_goals (refine WC.ret ?_)
       all_goals (repeat' (with_reducible first | refine thenP_r ?_ | refine blockP_r ?_))
       all_goals (refine retP_1 _ ⟨rfl, trivial⟩ ?_)
       all_goals (exact ⟨rfl, hx7⟩)
       skip))
  all_goals (first
    | (fail_if_success (refine Br.mk (i := 2) ?_))
    | (refine Br.mk (i := 2) ?_
       all_goals (refine WC.skip ?_)
       skip))
  all_goals (repeat' (with_reducible first | refine thenP_n ?_ | refine blockP_n ?_))
  all_goals (refine WC.seq ?_)
  all_goals (refine WC.seq ?_)
  all_goals (refine WC.region ?_)
  all_goals (refine WL.step (ok_move rfl) rfl rfl rfl ?_)
  all_goals (refine WL.step (ok_eqlPn Try.underlying56 rfl rfl) rfl rfl rfl ?_)
  all_goals (refine WL.step (ok_move rfl) rfl rfl rfl ?_)
  all_goals (try ((fail_if_success (refine WL.part 37 (b := true) rfl (fun _ => ?_) (fun _ => ?_))); (fail_if_success (refine WL.part 37 (b := false) rfl (fun _ => ?_) (fun _ => ?_))); (refine WL.part 37 rfl (fun hb => ?_) (fun hb => ?_) <;> (first | replace hb := of_decide_eq_true hb | replace hb := of_decide_eq_false hb | replace hb := of_decide_eq_false (nt hb) | replace hb := of_decide_eq_true (nf hb) | skip))))
  all_goals (first | (refine WL.pass rfl rfl rfl ?_) | (refine WL.step (ok_move rfl) rfl rfl rfl ?_))
  all_goals (first | (refine WL.pass rfl rfl rfl ?_) | (fail "no contract for call of remuda/remudalaw18.few at 5.4"))
  all_goals (first | (refine WL.pass rfl rfl rfl ?_) | (refine WL.step (ok_not rfl) rfl rfl rfl ?_))
  all_goals (first | (refine WL.step (ok_pick_t rfl rfl) rfl rfl rfl ?_) | (refine WL.step (ok_pick_f rfl rfl) rfl rfl rfl ?_))
  all_goals (refine WL.step (ok_move rfl) rfl rfl rfl ?_)
  all_goals (try ((fail_if_success (refine WL.part 42 (b := true) rfl (fun _ => ?_) (fun _ => ?_))); (fail_if_success (refine WL.part 42 (b := false) rfl (fun _ => ?_) (fun _ => ?_))); (refine WL.part 42 rfl (fun hb => ?_) (fun hb => ?_) <;> (first | replace hb := of_decide_eq_true hb | replace hb := of_decide_eq_false hb | replace hb := of_decide_eq_false (nt hb) | replace hb := of_decide_eq_true (nf hb) | skip))))
  all_goals (first | (refine WL.pass rfl rfl rfl ?_) | (refine WL.step (ok_move rfl) rfl rfl rfl ?_))
  all_goals (first | (refine WL.pass rfl rfl rfl ?_) | (fail "no contract for call of remuda/remudaplain.Entries at 5.9"))
  all_goals (first | (refine WL.pass rfl rfl rfl ?_) | (refine WL.step (ok_not rfl) rfl rfl rfl ?_))
  all_goals (first | (refine WL.step (ok_pick_t rfl rfl) rfl rfl rfl ?_) | (refine WL.step (ok_pick_f rfl rfl) rfl rfl rfl ?_))
  all_goals (refine WL.step (ok_move rfl) rfl rfl rfl ?_)
  all_goals (try ((fail_if_success (refine WL.part 47 (b := true) rfl (fun _ => ?_) (fun _ => ?_))); (fail_if_success (refine WL.part 47 (b := false) rfl (fun _ => ?_) (fun _ => ?_))); (refine WL.part 47 rfl (fun hb => ?_) (fun hb => ?_) <;> (first | replace hb := of_decide_eq_true hb | replace hb := of_decide_eq_false hb | replace hb := of_decide_eq_false (nt hb) | replace hb := of_decide_eq_true (nf hb) | skip))))
  all_goals (first | (refine WL.pass rfl rfl rfl ?_) | (refine WL.step (ok_move rfl) rfl rfl rfl ?_))
  all_goals (first | (refine WL.pass rfl rfl rfl ?_) | (refine WL.step (ok_lenL rfl Try.underlying22 rfl) rfl rfl rfl ?_))
  all_goals (first | (refine WL.pass rfl rfl rfl ?_) | (first | (refine WL.step (OkP.bool_t (by omega) (ok_gtr rfl rfl)) rfl rfl rfl ?_) | (refine WL.step (OkP.bool_f (by omega) (ok_gtr rfl rfl)) rfl rfl rfl ?_) | (refine WL.step (ok_gtr rfl rfl) rfl rfl rfl ?_)))
  all_goals (first | (refine WL.step (ok_pick_t rfl rfl) rfl rfl rfl ?_) | (refine WL.step (ok_pick_f rfl rfl) rfl rfl rfl ?_))
  all_goals (refine WL.nil ?_)
  all_goals (repeat' (with_reducible first | refine thenP_n ?_ | refine blockP_n ?_))
  all_goals (refine WC.sub [(0, _), (1, _), (2, _), (3, _), (9, _), (11, _), (51, _)] ⟨rfl, rfl, rfl, rfl, rfl, rfl, rfl, trivial⟩ ?_)
  all_goals (first | refine WC.condB_t 3 rfl ?_ | refine WC.condB_f 4 rfl ?_ | (refine WC.condB 3 4 rfl (fun hb => ?_) (fun hb => ?_) <;> (first | replace hb := of_decide_eq_true hb | replace hb := of_decide_eq_false hb | replace hb := of_decide_eq_false (nt hb) | replace hb := of_decide_eq_true (nf hb) | skip)))
  all_goals (first
    | (fail_if_success (refine Br.mk (i := 3) ?_))
    | (refine Br.mk (i := 3) ?_
       all_goals (refine WC.seq ?_)
       all_goals (refine WC.region ?_)
       all_goals (refine WL.call (vs := []) rfl (fun a w => Try.call22 a w) rfl (awake18) rfl rfl rfl ?_
                  rintro _ h7 ⟨rfl, hx7⟩)
       all_goals (refine WL.step (ok_assign rfl) rfl rfl rfl ?_)
       all_goals (refine WL.nil ?_)
       all_goals (repeat' (with_reducible first | refine thenP_n ?_ | refine blockP_n ?_))
       all_goals (refine WC.sub [(8, _)] ⟨rfl, trivial⟩ ?_)
       all_goals (refine WC.ret ?_)
       all_goals (repeat' (with_reducible first | refine thenP_r ?_ | refine blockP_r ?_))
       all_goals (refine retP_1 _ ⟨rfl, trivial⟩ ?_)
       all_goals (exact ⟨rfl, hx7⟩)
       skip))
  all_goals (first
    | (fail_if_success (refine Br.mk (i := 4) ?_))
    | (refine Br.mk (i := 4) ?_
       all_goals (refine WC.skip ?_)
       skip))
  all_goals (repeat' (with_reducible first | refine thenP_n ?_ | refine blockP_n ?_))
  all_goals (refine WC.seq ?_)
  all_goals (refine WC.seq ?_)
  all_goals (refine WC.region ?_)
  all_goals (refine WL.step (ok_move rfl) rfl rfl rfl ?_)
  all_goals (refine WL.step (ok_lenL rfl Try.underlying55 rfl) rfl rfl rfl ?_)
  all_goals (refine WL.step (ok_move rfl) rfl rfl rfl ?_)
  all_goals (refine WL.nil ?_)
  all_goals (repeat' (with_reducible first | refine thenP_n ?_ | refine blockP_n ?_))
  all_goals (refine WC.block ?_)
  -- loop 0: slots that turn [55], that stay [0, 2, 3, 9, 11, 53, 54]
  all_goals (refine WC.loopG (fun x => (None : Fr)) [(0, _), (2, _), (3, _), (9, _), (11, _), (53, _), (54, _)] (None) (None) (None) ⟨rfl, rfl, rfl, rfl, rfl, rfl, rfl, rfl, trivial⟩ (by exact ⟨⟩) ?_)
  all_goals (rintro x h1 hI)
  all_goals (refine WC.sub [(55, _), (0, _), (2, _), (3, _), (9, _), (11, _), (53, _), (54, _)] ⟨rfl, rfl, rfl, rfl, rfl, rfl, rfl, rfl, trivial⟩ ?_)
  all_goals (refine WC.seq ?_)
  all_goals (refine WC.region ?_)
  all_goals (first | (refine WL.step (OkP.bool_t (by omega) (ok_lss rfl rfl)) rfl rfl rfl ?_) | (refine WL.step (OkP.bool_f (by omega) (ok_lss rfl rfl)) rfl rfl rfl ?_) | (refine WL.step (ok_lss rfl rfl) rfl rfl rfl ?_))
  all_goals (refine WL.nil ?_)
  all_goals (repeat' (with_reducible first | refine thenP_n ?_ | refine blockP_n ?_))
  all_goals (refine WC.seq ?_)
  all_goals (first | refine WC.condB_t 5 rfl ?_ | refine WC.condB_f 6 rfl ?_ | (refine WC.condB 5 6 rfl (fun hb => ?_) (fun hb => ?_) <;> (first | replace hb := of_decide_eq_true hb | replace hb := of_decide_eq_false hb | replace hb := of_decide_eq_false (nt hb) | replace hb := of_decide_eq_true (nf hb) | skip)))
  all_goals (first
    | (fail_if_success (refine Br.mk (i := 5) ?_))
    | (refine Br.mk (i := 5) ?_
       all_goals (refine WC.skip ?_)
       skip))
  all_goals (first
    | (fail_if_success (refine Br.mk (i := 6) ?_))
    | (refine Br.mk (i := 6) ?_
       all_goals (refine WC.exit ?_)
       all_goals (repeat' (with_reducible first | refine thenP_x ?_ | refine blockP_miss rfl ?_ | refine blockP_hit ?_ | refine blockP_n ?_ | refine thenP_n ?_))
       all_goals (refine Br.out (i := 1000) ?_)
       skip))
  all_goals (first | (refine Br.keep ?_) | (repeat' (with_reducible first | refine thenP_n ?_ | refine blockP_n ?_)))
  all_goals (first | (refine Br.keep ?_) | (refine WC.seq ?_))
  all_goals (first | (refine Br.keep ?_) | (refine WC.block ?_))
  all_goals (first | (refine Br.keep ?_) | (refine WC.seq ?_))
  all_goals (first | (refine Br.keep ?_) | (refine WC.region ?_))
  all_goals (first | (refine Br.keep ?_) | (refine WL.step (ok_idxAddrA Try.underlying55 (fun w => Try.sizeOf40 w) rfl rfl rfl (by omega) (by first | rfl | assumption)) rfl rfl rfl ?_))
  all_goals (first | (refine Br.keep ?_) | (refine WL.step (ok_load (fun w => Try.isAgg40 w) rfl (by first | assumption | exact cell_blk (by assumption) rfl)) rfl rfl rfl ?_))
  all_goals (first | (refine Br.keep ?_) | (refine WL.step (ok_assign rfl) rfl rfl rfl ?_))
  all_goals (first | (refine Br.keep ?_) | (refine WL.nil ?_))
  all_goals (first | (refine Br.keep ?_) | (repeat' (with_reducible first | refine thenP_n ?_ | refine blockP_n ?_)))
  all_goals (first | (refine Br.keep ?_) | (refine WC.seq ?_))
  all_goals (first | (refine Br.keep ?_) | (refine WC.drawE fol (by kernel_rfl) ?_))
  all_goals (first | (refine Br.keep ?_) | (refine WQ.stepE (ok_move rfl) rfl rfl rfl ?_))
  all_goals (first | (refine Br.keep ?_) | (refine WQ.stepE (ok_move rfl) rfl rfl rfl ?_))
  all_goals (first | (refine Br.keep ?_) | (fail "no contract for call of (*remuda/cache.Cache).Settle at 10.2"))
  all_goals (first | (refine Br.keep ?_) | (refine WQ.stepE (ok_move rfl) rfl rfl rfl ?_))
  all_goals (first | (refine Br.keep ?_) | (refine WQ.stepE (ok_move rfl) rfl rfl rfl ?_))
  all_goals (first | (refine Br.keep ?_) | (fail "no contract for call of (*remuda/remudaref18.Cache).Settle at 10.5"))
  all_goals (first | (refine Br.keep ?_) | (fail "no contract for call of slices.Equal[[]int,int] at 10.6"))
  all_goals (first | (refine Br.keep ?_) | (refine WQ.stepE (ok_not rfl) rfl rfl rfl ?_))
  all_goals (first | (refine Br.keep ?_) | (refine WQ.stepE (ok_move rfl) rfl rfl rfl ?_))
  all_goals (first | (refine Br.keep ?_) | (try ((fail_if_success (refine WQ.part 67 (b := true) rfl (fun _ => ?_) (fun _ => ?_))); (fail_if_success (refine WQ.part 67 (b := false) rfl (fun _ => ?_) (fun _ => ?_))); (refine WQ.part 67 rfl (fun hb => ?_) (fun hb => ?_) <;> (first | replace hb := of_decide_eq_true hb | replace hb := of_decide_eq_false hb | replace hb := of_decide_eq_false (nt hb) | replace hb := of_decide_eq_true (nf hb) | skip)))))
  all_goals (first | (refine Br.keep ?_) | (first | (refine WQ.pass rfl rfl rfl ?_) | (refine WQ.stepE (ok_move rfl) rfl rfl rfl ?_)))
  all_goals (first | (refine Br.keep ?_) | (first | (refine WQ.pass rfl rfl rfl ?_) | (fail "no contract for call of (*remuda/cache.Cache).List at 10.10")))
  all_goals (first | (refine Br.keep ?_) | (first | (refine WQ.pass rfl rfl rfl ?_) | (refine WQ.stepE (ok_move rfl) rfl rfl rfl ?_)))
  all_goals (first | (refine Br.keep ?_) | (first | (refine WQ.pass rfl rfl rfl ?_) | (refine WQ.stepE (ok_nilCheck rfl) rfl rfl rfl ?_)))
  all_goals (first | (refine Br.keep ?_) | (first | (refine WQ.pass rfl rfl rfl ?_) | (refine WQ.stepE (ok_fieldAddr rfl Try.underlying61 rfl (fun w => Try.sizeOf22 w)) rfl rfl rfl ?_)))
  all_goals (first | (refine Br.keep ?_) | (first | (refine WQ.pass rfl rfl rfl ?_) | (refine WQ.stepE (ok_load (fun w => Try.isAgg22 w) rfl (by first | assumption | exact cell_blk (by assumption) rfl)) rfl rfl rfl ?_)))
  all_goals (first | (refine Br.keep ?_) | (first | (refine WQ.pass rfl rfl rfl ?_) | (fail "no contract for call of slices.Equal[[]int,int] at 10.15")))
  all_goals (first | (refine Br.keep ?_) | (first | (refine WQ.pass rfl rfl rfl ?_) | (refine WQ.stepE (ok_not rfl) rfl rfl rfl ?_)))
  all_goals (first | (refine Br.keep ?_) | (first | (refine WQ.stepE (ok_pick_t rfl rfl) rfl rfl rfl ?_) | (refine WQ.stepE (ok_pick_f rfl rfl) rfl rfl rfl ?_)))
  all_goals (first | (refine Br.keep ?_) | (refine WQ.stepE (ok_move rfl) rfl rfl rfl ?_))
  all_goals (first | (refine Br.keep ?_) | (try ((fail_if_success (refine WQ.part 77 (b := true) rfl (fun _ => ?_) (fun _ => ?_))); (fail_if_success (refine WQ.part 77 (b := false) rfl (fun _ => ?_) (fun _ => ?_))); (refine WQ.part 77 rfl (fun hb => ?_) (fun hb => ?_) <;> (first | replace hb := of_decide_eq_true hb | replace hb := of_decide_eq_false hb | replace hb := of_decide_eq_false (nt hb) | replace hb := of_decide_eq_true (nf hb) | skip)))))
  all_goals (first | (refine Br.keep ?_) | (first | (refine WQ.pass rfl rfl rfl ?_) | (refine WQ.stepE (ok_move rfl) rfl rfl rfl ?_)))
  all_goals (first | (refine Br.keep ?_) | (first | (refine WQ.pass rfl rfl rfl ?_) | (refine WQ.stepE (ok_move rfl) rfl rfl rfl ?_)))
  all_goals (first | (refine Br.keep ?_) | (first | (refine WQ.pass rfl rfl rfl ?_) | (fail "no contract for call of remuda/cache.Fold at 10.21")))
  all_goals (first | (refine Br.keep ?_) | (first | (refine WQ.pass rfl rfl rfl ?_) | (refine WQ.stepE (ok_move rfl) rfl rfl rfl ?_)))
  all_goals (first | (refine Br.keep ?_) | (first | (refine WQ.pass rfl rfl rfl ?_) | (refine WQ.stepE (ok_move rfl) rfl rfl rfl ?_)))
  all_goals (first | (refine Br.keep ?_) | (first | (refine WQ.pass rfl rfl rfl ?_) | (fail "no contract for call of remuda/remudaref18.Fold at 10.24")))
  all_goals (first | (refine Br.keep ?_) | (first | (refine WQ.pass rfl rfl rfl ?_) | (fail "no contract for call of slices.Equal[[]int,int] at 10.25")))
  all_goals (first | (refine Br.keep ?_) | (first | (refine WQ.pass rfl rfl rfl ?_) | (refine WQ.stepE (ok_not rfl) rfl rfl rfl ?_)))
  all_goals (first | (refine Br.keep ?_) | (first | (refine WQ.stepE (ok_pick_t rfl rfl) rfl rfl rfl ?_) | (refine WQ.stepE (ok_pick_f rfl rfl) rfl rfl rfl ?_)))
  all_goals (first | (refine Br.keep ?_) | (refine WQ.nil ?_))
  all_goals (first | (refine Br.keep ?_) | (repeat' (with_reducible first | refine thenP_n ?_ | refine blockP_n ?_)))
  all_goals (first | (refine Br.keep ?_) | (refine WC.sub [(0, _), (2, _), (3, _), (9, _), (11, _), (53, _), (54, _), (55, _), (86, _)] ⟨rfl, rfl, rfl, rfl, rfl, rfl, rfl, rfl, rfl, trivial⟩ ?_))
  all_goals (first | (refine Br.keep ?_) | (first | refine WC.condB_t 7 rfl ?_ | refine WC.condB_f 8 rfl ?_ | (refine WC.condB 7 8 rfl (fun hb => ?_) (fun hb => ?_) <;> (first | replace hb := of_decide_eq_true hb | replace hb := of_decide_eq_false hb | replace hb := of_decide_eq_false (nt hb) | replace hb := of_decide_eq_true (nf hb) | skip))))
  all_goals (first
    | (fail_if_success (refine Br.mk (i := 7) ?_))
    | (refine Br.mk (i := 7) ?_
       all_goals (refine WC.seq ?_)
       all_goals (refine WC.region ?_)
       all_goals (refine WL.step (ok_assign rfl) rfl rfl rfl ?_)
       all_goals (refine WL.nil ?_)
       all_goals (repeat' (with_reducible first | refine thenP_n ?_ | refine blockP_n ?_))
       all_goals (refine WC.sub [(8, _)] ⟨rfl, trivial⟩ ?_)
       all_goals (refine WC.ret ?_)
       all_goals (repeat' (with_reducible first | refine thenP_r ?_ | refine blockP_r ?_))
       all_goals (refine retP_1 _ ⟨rfl, trivial⟩ ?_)
       all_goals (exact ⟨rfl, hx7⟩)
       skip))
  all_goals (first
    | (fail_if_success (refine Br.mk (i := 8) ?_))
    | (refine Br.mk (i := 8) ?_
       all_goals (refine WC.skip ?_)
       skip))
  all_goals (first | (refine Br.keep ?_) | (repeat' (with_reducible first | refine thenP_n ?_ | refine blockP_n ?_)))
  all_goals (first | (refine Br.keep ?_) | (refine WC.region ?_))
  all_goals (first | (refine Br.keep ?_) | (first | (refine WL.step (ok_addI rfl rfl (by omega)) rfl rfl rfl ?_) | (refine WL.step (ok_add rfl rfl) rfl rfl rfl ?_)))
  all_goals (first | (refine Br.keep ?_) | (refine WL.step (ok_move rfl) rfl rfl rfl ?_))
  all_goals (first | (refine Br.keep ?_) | (refine WL.nil ?_))
  all_goals (first | (refine Br.keep ?_) | (repeat' (with_reducible first | refine thenP_n ?_ | refine blockP_n ?_)))
  all_goals (first | (refine Br.keep ?_) | (exact ⟨None, ⟨rfl, rfl, rfl, rfl, rfl, rfl, rfl, rfl, trivial⟩, (by exact ⟨⟩), (by simp; omega)⟩))
  all_goals (try (refine Br.mk (i := 1000) ?_))
  all_goals (repeat' (with_reducible first | refine thenP_n ?_ | refine blockP_n ?_))
  all_goals (refine WC.sub [(0, _), (2, _), (9, _), (11, _)] ⟨rfl, rfl, rfl, rfl, trivial⟩ ?_)
  all_goals (refine WC.seq ?_)
  all_goals (refine WC.region ?_)
  all_goals (refine WL.step (ok_move rfl) rfl rfl rfl ?_)
  all_goals (refine WL.step (ok_move rfl) rfl rfl rfl ?_)
  all_goals (fail "no contract for call of (*remuda/cache.Cache).Spec at 13.2")
  all_goals (refine WL.step (ok_move rfl) rfl rfl rfl ?_)
  all_goals (refine WL.step (ok_move rfl) rfl rfl rfl ?_)
  all_goals (fail "no contract for call of (*remuda/remudaref18.Cache).Spec at 13.5")
  all_goals (fail "no contract for call of slices.Equal[[]int,int] at 13.6")
  all_goals (refine WL.step (ok_move rfl) rfl rfl rfl ?_)
  all_goals (try ((fail_if_success (refine WL.part 95 (b := true) rfl (fun _ => ?_) (fun _ => ?_))); (fail_if_success (refine WL.part 95 (b := false) rfl (fun _ => ?_) (fun _ => ?_))); (refine WL.part 95 rfl (fun hb => ?_) (fun hb => ?_) <;> (first | replace hb := of_decide_eq_true hb | replace hb := of_decide_eq_false hb | replace hb := of_decide_eq_false (nt hb) | replace hb := of_decide_eq_true (nf hb) | skip))))
  all_goals (first | (refine WL.pass rfl rfl rfl ?_) | (refine WL.step (ok_move rfl) rfl rfl rfl ?_))
  all_goals (first | (refine WL.pass rfl rfl rfl ?_) | (fail "no contract for call of (*remuda/cache.Cache).Most at 13.9"))
  all_goals (first | (refine WL.pass rfl rfl rfl ?_) | (refine WL.step (ok_move rfl) rfl rfl rfl ?_))
  all_goals (first | (refine WL.pass rfl rfl rfl ?_) | (first | (refine WL.step (OkP.bool_t (by omega) (ok_eql rfl rfl)) rfl rfl rfl ?_) | (refine WL.step (OkP.bool_f (by omega) (ok_eql rfl rfl)) rfl rfl rfl ?_) | (refine WL.step (ok_eql rfl rfl) rfl rfl rfl ?_)))
  all_goals (first | (refine WL.step (ok_pick_t rfl rfl) rfl rfl rfl ?_) | (refine WL.step (ok_pick_f rfl rfl) rfl rfl rfl ?_))
  all_goals (refine WL.step (ok_move rfl) rfl rfl rfl ?_)
  all_goals (try ((fail_if_success (refine WL.part 101 (b := true) rfl (fun _ => ?_) (fun _ => ?_))); (fail_if_success (refine WL.part 101 (b := false) rfl (fun _ => ?_) (fun _ => ?_))); (refine WL.part 101 rfl (fun hb => ?_) (fun hb => ?_) <;> (first | replace hb := of_decide_eq_true hb | replace hb := of_decide_eq_false hb | replace hb := of_decide_eq_false (nt hb) | replace hb := of_decide_eq_true (nf hb) | skip))))
  all_goals (first | (refine WL.pass rfl rfl rfl ?_) | (fail "no contract for call of remuda/remudalaw18.awake at 13.14"))
  all_goals (first | (refine WL.step (ok_pick_t rfl rfl) rfl rfl rfl ?_) | (refine WL.step (ok_pick_f rfl rfl) rfl rfl rfl ?_))
  all_goals (refine WL.step (ok_assign rfl) rfl rfl rfl ?_)
  all_goals (refine WL.nil ?_)
  all_goals (repeat' (with_reducible first | refine thenP_n ?_ | refine blockP_n ?_))
  all_goals (refine WC.sub [(8, _)] ⟨rfl, trivial⟩ ?_)
  all_goals (refine WC.ret ?_)
  all_goals (repeat' (with_reducible first | refine thenP_r ?_ | refine blockP_r ?_))
  all_goals (refine retP_1 _ ⟨rfl, trivial⟩ ?_)
  all_goals (exact ⟨rfl, hx7⟩)
set_option maxHeartbeats 2000000 in
set_option maxRecDepth 100000 in
theorem lives18 {h : Heap} {v w u : Value} (most : Int) (L : List Ob) (E : List En) (l : List Int) (h1m : 1 ≤ most) (hm2 : most ≤ 4096) (hL : Obs h v L) (hE : Ens h w E) (hl : Rd h u 1 l.length (ints l)) (hlm : l.length * 8 ≤ reachBytes) :
    CallsH Try.prog 5 ⟨[In most, v, w, u]⟩ h fun u h' => u = .bool true ∧ Ext No h h' := by
  obtain ⟨A, c, rfl, _⟩ := id hL.1
  obtain ⟨B, d, rfl, _⟩ := id hE.1
  obtain ⟨C, e, rfl, _⟩ := id hl
  have hLm := hL.2.1
  unfold reachBytes at hlm hLm
  refine calls [(0, _), (1, _), (2, _), (3, _)] Try.func5 rfl Try.ntmps5 rfl ⟨rfl, rfl, rfl, rfl, trivial⟩ ?_
  all_goals (refine WC.seq ?_)
  all_goals (refine WC.region ?_)
  all_goals (refine WL.step (ok_assign rfl) rfl rfl rfl ?_)
  all_goals (refine WL.nil ?_)
  all_goals (repeat' (with_reducible first | refine thenP_n ?_ | refine blockP_n ?_))
  all_goals (refine WC.seq ?_)
  all_goals (refine WC.region ?_)
  all_goals (refine WL.step (ok_move rfl) rfl rfl rfl ?_)
  all_goals (refine WL.call (vs := [_]) rfl (fun a w => Try.call23 a w) rfl (new_cc most h1m hm2) rfl rfl rfl ?_
             rintro _ h1 ⟨b0, b, rfl, r1, hg0, hgb, hx1⟩)
  all_goals (refine WL.step (ok_move rfl) rfl rfl rfl ?_)
  all_goals (refine WL.step (ok_extract rfl rfl) rfl rfl rfl ?_)
  all_goals (refine WL.step (ok_extract rfl rfl) rfl rfl rfl ?_)
  all_goals (refine WL.step (ok_assign rfl) rfl rfl rfl ?_)
  all_goals (refine WL.step (ok_assign rfl) rfl rfl rfl ?_)
  all_goals (refine WL.nil ?_)
  all_goals (repeat' (with_reducible first | refine thenP_n ?_ | refine blockP_n ?_))
  all_goals (refine WC.sub [(0, _), (1, _), (2, _), (3, _), (9, _), (10, _)] ⟨rfl, rfl, rfl, rfl, rfl, rfl, trivial⟩ ?_)
  all_goals (refine WC.seq ?_)
  all_goals (refine WC.region ?_)
  all_goals (refine WL.step (ok_move rfl) rfl rfl rfl ?_)
  all_goals (refine WL.call (vs := [_]) rfl (fun a w => Try.call28 a w) rfl (new18 most h1m hm2) rfl rfl rfl ?_
             rintro _ h2 ⟨b2, rfl, r2, hg2, hx2⟩)
  all_goals (have d2 : Duo h h2 b0 b b2 (.slice none 0 0) (.slice none 0 0) most [] := ⟨r1.ext0 hx2, r2, hx1.trans hx2, hg0, (by rintro k (rfl | e); exact hgb; cases e), (by have := hx1.size; rintro k (rfl | e); omega; cases e), (by rintro k (rfl | e) (rfl | e'); exact absurd (lt_of_some r1.lru.cells) (by omega); cases e'; cases e; cases e), by simp, by simp; omega⟩)
  all_goals (refine WL.step (ok_move rfl) rfl rfl rfl ?_)
  all_goals (refine WL.step (ok_extract rfl rfl) rfl rfl rfl ?_)
  all_goals (refine WL.step (ok_extract rfl rfl) rfl rfl rfl ?_)
  all_goals (refine WL.step (ok_assign rfl) rfl rfl rfl ?_)
  all_goals (refine WL.step (ok_assign rfl) rfl rfl rfl ?_)
  all_goals (refine WL.nil ?_)
  all_goals (repeat' (with_reducible first | refine thenP_n ?_ | refine blockP_n ?_))
  all_goals (refine WC.sub [(0, _), (1, _), (2, _), (3, _), (9, _), (10, _), (11, _), (12, _)] ⟨rfl, rfl, rfl, rfl, rfl, rfl, rfl, rfl, trivial⟩ ?_)
  all_goals (refine WC.seq ?_)
  all_goals (refine WC.seq ?_)
  all_goals (refine WC.region ?_)
  all_goals (refine WL.step (ok_move rfl) rfl rfl rfl ?_)
  all_goals (refine WL.step (ok_move rfl) rfl rfl rfl ?_)
  all_goals (first | (refine WL.step (OkP.nbool_t (by omega) (ok_neq rfl rfl)) rfl rfl rfl ?_) | (refine WL.step (OkP.nbool_f (by omega) (ok_neq rfl rfl)) rfl rfl rfl ?_) | (refine WL.step (ok_neq rfl rfl) rfl rfl rfl ?_))
  all_goals (refine WL.step (ok_move rfl) rfl rfl rfl ?_)
  all_goals (try ((fail_if_success (refine WL.part 28 (b := true) rfl (fun _ => ?_) (fun _ => ?_))); (fail_if_success (refine WL.part 28 (b := false) rfl (fun _ => ?_) (fun _ => ?_))); (refine WL.part 28 rfl (fun hb => ?_) (fun hb => ?_) <;> (first | replace hb := of_decide_eq_true hb | replace hb := of_decide_eq_false hb | replace hb := of_decide_eq_false (nt hb) | replace hb := of_decide_eq_true (nf hb) | skip))))
  all_goals (first | (refine WL.pass rfl rfl rfl ?_) | (refine WL.step (ok_move rfl) rfl rfl rfl ?_))
  all_goals (first | (refine WL.pass rfl rfl rfl ?_) | (refine WL.step (ok_eqlPn Try.underlying42 rfl rfl) rfl rfl rfl ?_))
  all_goals (first | (refine WL.pass rfl rfl rfl ?_) | (refine WL.step (ok_move rfl) rfl rfl rfl ?_))
  all_goals (first | (refine WL.pass rfl rfl rfl ?_) | (refine WL.step (ok_eqlPn Try.underlying56 rfl rfl) rfl rfl rfl ?_))
  all_goals (first | (refine WL.pass rfl rfl rfl ?_) | (first | (refine WL.step (OkP.nbool_f (by rfl) (ok_neqB Try.underlying4 rfl rfl)) rfl rfl rfl ?_) | (refine WL.step (OkP.nbool_t (by decide) (ok_neqB Try.underlying4 rfl rfl)) rfl rfl rfl ?_) | (refine WL.step (ok_neqB Try.underlying4 rfl rfl) rfl rfl rfl ?_)))
  all_goals (first | (refine WL.step (ok_pick_t rfl rfl) rfl rfl rfl ?_) | (refine WL.step (ok_pick_f rfl rfl) rfl rfl rfl ?_))
  all_goals (refine WL.nil ?_)
  all_goals (repeat' (with_reducible first | refine thenP_n ?_ | refine blockP_n ?_))
  all_goals (refine WC.sub [(0, _), (1, _), (2, _), (3, _), (9, _), (11, _), (34, _)] ⟨rfl, rfl, rfl, rfl, rfl, rfl, rfl, trivial⟩ ?_)
  all_goals (first | refine WC.condB_t 1 rfl ?_ | refine WC.condB_f 2 rfl ?_ | (refine WC.condB 1 2 rfl (fun hb => ?_) (fun hb => ?_) <;> (first | replace hb := of_decide_eq_true hb | replace hb := of_decide_eq_false hb | replace hb := of_decide_eq_false (nt hb) | replace hb := of_decide_eq_true (nf hb) | skip)))
  all_goals (first
    | (fail_if_success (refine Br.mk (i := 1) ?_))
    | (refine Br.mk (i := 1) ?_
       all_goals (refine WC.seq ?_)
       all_goals (refine WC.region ?_)
       all_goals (refine WL.step (ok_assign rfl) rfl rfl rfl ?_)
       all_goals (refine WL.nil ?_)
       all_goals (repeat' (with_reducible first | refine thenP_n ?_ | refine blockP_n ?_))
       all_goals (refine WC.sub [(8, _)] ⟨rfl, trivial⟩ ?_)
       all_goals (refine WC.ret ?_)
       all_goals (repeat' (with_reducible first | refine thenP_r ?_ | refine blockP_r ?_))
       all_goals (refine retP_1 _ ⟨rfl, trivial⟩ ?_)
       all_goals (first | exact ⟨rfl, d6.ext.trans hx7⟩ | exact ⟨rfl, (d2.ext.trans hx3).trans hx7⟩ | exact ⟨rfl, d2.ext.trans hx7⟩)
       skip))
  all_goals (first
    | (fail_if_success (refine Br.mk (i := 2) ?_))
    | (refine Br.mk (i := 2) ?_
       all_goals (refine WC.skip ?_)
       skip))
  all_goals (repeat' (with_reducible first | refine thenP_n ?_ | refine blockP_n ?_))
  all_goals (refine WC.seq ?_)
  all_goals (refine WC.seq ?_)
  all_goals (refine WC.region ?_)
  all_goals (refine WL.step (ok_move rfl) rfl rfl rfl ?_)
  all_goals (refine WL.step (ok_eqlPn Try.underlying56 rfl rfl) rfl rfl rfl ?_)
  all_goals (refine WL.step (ok_move rfl) rfl rfl rfl ?_)
  all_goals (try ((fail_if_success (refine WL.part 37 (b := true) rfl (fun _ => ?_) (fun _ => ?_))); (fail_if_success (refine WL.part 37 (b := false) rfl (fun _ => ?_) (fun _ => ?_))); (refine WL.part 37 rfl (fun hb => ?_) (fun hb => ?_) <;> (first | replace hb := of_decide_eq_true hb | replace hb := of_decide_eq_false hb | replace hb := of_decide_eq_false (nt hb) | replace hb := of_decide_eq_true (nf hb) | skip))))
  all_goals (first | (refine WL.pass rfl rfl rfl ?_) | (refine WL.step (ok_move rfl) rfl rfl rfl ?_))
  all_goals (first
               | (refine WL.pass rfl rfl rfl ?_)
               | (refine WL.call (vs := [_]) rfl (fun a w => Try.call29 a w) rfl (few18 L (hL.ext0 d2.ext)) rfl rfl rfl ?_
                  rintro _ hz ⟨rfl, _⟩
                  subst hz))
  all_goals (cases hfo : fewO L)
  all_goals (first | (refine WL.pass rfl rfl rfl ?_) | (refine WL.step (ok_not rfl) rfl rfl rfl ?_))
  all_goals (first | (refine WL.step (ok_pick_t rfl rfl) rfl rfl rfl ?_) | (refine WL.step (ok_pick_f rfl rfl) rfl rfl rfl ?_))
  all_goals (refine WL.step (ok_move rfl) rfl rfl rfl ?_)
  all_goals (try ((fail_if_success (refine WL.part 42 (b := true) rfl (fun _ => ?_) (fun _ => ?_))); (fail_if_success (refine WL.part 42 (b := false) rfl (fun _ => ?_) (fun _ => ?_))); (refine WL.part 42 rfl (fun hb => ?_) (fun hb => ?_) <;> (first | replace hb := of_decide_eq_true hb | replace hb := of_decide_eq_false hb | replace hb := of_decide_eq_false (nt hb) | replace hb := of_decide_eq_true (nf hb) | skip))))
  all_goals (first | (refine WL.pass rfl rfl rfl ?_) | (refine WL.step (ok_move rfl) rfl rfl rfl ?_))
  all_goals (first
               | (refine WL.pass rfl rfl rfl ?_)
               | (refine WL.call (vs := [_, _]) rfl (fun a w => Try.call21 a w) rfl (entries_any E 20 (hE.ext0 d2.ext)) rfl rfl rfl ?_
                  rintro _ h3 ⟨rfl, hx3⟩))
  all_goals (cases hfe : fewE E 20)
  all_goals (first | (refine WL.pass rfl rfl rfl ?_) | (refine WL.step (ok_not rfl) rfl rfl rfl ?_))
  all_goals (first | (refine WL.step (ok_pick_t rfl rfl) rfl rfl rfl ?_) | (refine WL.step (ok_pick_f rfl rfl) rfl rfl rfl ?_))
  all_goals (refine WL.step (ok_move rfl) rfl rfl rfl ?_)
  all_goals (try ((fail_if_success (refine WL.part 47 (b := true) rfl (fun _ => ?_) (fun _ => ?_))); (fail_if_success (refine WL.part 47 (b := false) rfl (fun _ => ?_) (fun _ => ?_))); (refine WL.part 47 rfl (fun hb => ?_) (fun hb => ?_) <;> (first | replace hb := of_decide_eq_true hb | replace hb := of_decide_eq_false hb | replace hb := of_decide_eq_false (nt hb) | replace hb := of_decide_eq_true (nf hb) | skip))))
  all_goals (first | (refine WL.pass rfl rfl rfl ?_) | (refine WL.step (ok_move rfl) rfl rfl rfl ?_))
  all_goals (first | (refine WL.pass rfl rfl rfl ?_) | (refine WL.step (ok_lenL rfl Try.underlying22 rfl) rfl rfl rfl ?_))
  all_goals (first | (refine WL.pass rfl rfl rfl ?_) | (first | (refine WL.step (OkP.bool_t (by omega) (ok_gtr rfl rfl)) rfl rfl rfl ?_) | (refine WL.step (OkP.bool_f (by omega) (ok_gtr rfl rfl)) rfl rfl rfl ?_) | (refine WL.step (ok_gtr rfl rfl) rfl rfl rfl ?_)))
  all_goals (first | (refine WL.step (ok_pick_t rfl rfl) rfl rfl rfl ?_) | (refine WL.step (ok_pick_f rfl rfl) rfl rfl rfl ?_))
  all_goals (refine WL.nil ?_)
  all_goals (repeat' (with_reducible first | refine thenP_n ?_ | refine blockP_n ?_))
  all_goals (refine WC.sub [(0, _), (1, _), (2, _), (3, _), (9, _), (11, _), (51, _)] ⟨rfl, rfl, rfl, rfl, rfl, rfl, rfl, trivial⟩ ?_)
  all_goals (first | refine WC.condB_t 3 rfl ?_ | refine WC.condB_f 4 rfl ?_ | (refine WC.condB 3 4 rfl (fun hb => ?_) (fun hb => ?_) <;> (first | replace hb := of_decide_eq_true hb | replace hb := of_decide_eq_false hb | replace hb := of_decide_eq_false (nt hb) | replace hb := of_decide_eq_true (nf hb) | skip)))
  all_goals (first
    | (fail_if_success (refine Br.mk (i := 3) ?_))
    | (refine Br.mk (i := 3) ?_
       all_goals (refine WC.seq ?_)
       all_goals (refine WC.region ?_)
       all_goals (refine WL.call (vs := []) rfl (fun a w => Try.call22 a w) rfl (awake18) rfl rfl rfl ?_
                  rintro _ h7 ⟨rfl, hx7⟩)
       all_goals (refine WL.step (ok_assign rfl) rfl rfl rfl ?_)
       all_goals (refine WL.nil ?_)
       all_goals (repeat' (with_reducible first | refine thenP_n ?_ | refine blockP_n ?_))
       all_goals (refine WC.sub [(8, _)] ⟨rfl, trivial⟩ ?_)
       all_goals (refine WC.ret ?_)
       all_goals (repeat' (with_reducible first | refine thenP_r ?_ | refine blockP_r ?_))
       all_goals (refine retP_1 _ ⟨rfl, trivial⟩ ?_)
       all_goals (first | exact ⟨rfl, d6.ext.trans hx7⟩ | exact ⟨rfl, (d2.ext.trans hx3).trans hx7⟩ | exact ⟨rfl, d2.ext.trans hx7⟩)
       skip))
  all_goals (first
    | (fail_if_success (refine Br.mk (i := 4) ?_))
    | (refine Br.mk (i := 4) ?_
       all_goals (refine WC.skip ?_)
       skip))
  all_goals (repeat' (with_reducible first | refine thenP_n ?_ | refine blockP_n ?_))
  all_goals (refine WC.seq ?_)
  all_goals (refine WC.seq ?_)
  all_goals (refine WC.region ?_)
  all_goals (have ho10 := fewO_ops hfo
             obtain ⟨h20, h10⟩ := fewE_ops hfe
             have d3 := d2.stay hx3)
  all_goals (refine WL.step (ok_move rfl) rfl rfl rfl ?_)
  all_goals (refine WL.step (ok_lenL rfl Try.underlying55 rfl) rfl rfl rfl ?_)
  all_goals (refine WL.step (ok_move rfl) rfl rfl rfl ?_)
  all_goals (refine WL.nil ?_)
  all_goals (repeat' (with_reducible first | refine thenP_n ?_ | refine blockP_n ?_))
  all_goals (refine WC.block ?_)
  -- loop 0: slots that turn [55], that stay [0, 2, 3, 9, 11, 53, 54]
  all_goals (refine WC.loopG (X := Nat) (fun x => ([(55, In (x : Int))] : Fr)) [(0, _), (2, _), (3, _), (9, _), (11, _), (53, _), (54, _)] (fun k h' => k ≤ L.length ∧ ∃ v w l', Duo h h' b0 b b2 v w most l') (fun k => L.length - k) (0) ⟨rfl, rfl, rfl, rfl, rfl, rfl, rfl, rfl, trivial⟩ (by exact ⟨Nat.zero_le _, _, _, _, d3⟩) ?_)
  all_goals (rintro k h4 ⟨hk, v4, w4, l4, d4⟩
             have hlen4 := d4.len)
  all_goals (refine WC.sub [(55, _), (0, _), (2, _), (3, _), (9, _), (11, _), (53, _), (54, _)] ⟨rfl, rfl, rfl, rfl, rfl, rfl, rfl, rfl, trivial⟩ ?_)
  all_goals (refine WC.seq ?_)
  all_goals (refine WC.region ?_)
  all_goals (first | (refine WL.step (OkP.bool_t (by omega) (ok_lss rfl rfl)) rfl rfl rfl ?_) | (refine WL.step (OkP.bool_f (by omega) (ok_lss rfl rfl)) rfl rfl rfl ?_) | (refine WL.step (ok_lss rfl rfl) rfl rfl rfl ?_))
  all_goals (refine WL.nil ?_)
  all_goals (repeat' (with_reducible first | refine thenP_n ?_ | refine blockP_n ?_))
  all_goals (refine WC.seq ?_)
  all_goals (first | refine WC.condB_t 5 rfl ?_ | refine WC.condB_f 6 rfl ?_ | (refine WC.condB 5 6 rfl (fun hb => ?_) (fun hb => ?_) <;> (first | replace hb := of_decide_eq_true hb | replace hb := of_decide_eq_false hb | replace hb := of_decide_eq_false (nt hb) | replace hb := of_decide_eq_true (nf hb) | skip)))
  all_goals (first
    | (fail_if_success (refine Br.mk (i := 5) ?_))
    | (refine Br.mk (i := 5) ?_
       all_goals (refine WC.skip ?_)
       skip))
  all_goals (first
    | (fail_if_success (refine Br.mk (i := 6) ?_))
    | (refine Br.mk (i := 6) ?_
       all_goals (refine WC.exit ?_)
       all_goals (repeat' (with_reducible first | refine thenP_x ?_ | refine blockP_miss rfl ?_ | refine blockP_hit ?_ | refine blockP_n ?_ | refine thenP_n ?_))
       all_goals (refine Br.out (i := 1000) ?_)
       skip))
  all_goals (first | (refine Br.keep ?_) | (repeat' (with_reducible first | refine thenP_n ?_ | refine blockP_n ?_)))
  all_goals (first | (refine Br.keep ?_) | (refine WC.seq ?_))
  all_goals (first | (refine Br.keep ?_) | (refine WC.block ?_))
  all_goals (first | (refine Br.keep ?_) | (refine WC.seq ?_))
  all_goals (first | (refine Br.keep ?_) | (refine WC.region ?_))
  all_goals (first
               | (refine Br.keep ?_)
               | (obtain ⟨bL, oL, hA, hbL, hat⟩ := Rd.at_ (hL.1.ext0 d4.ext) (by omega)
                  obtain ⟨y, hy⟩ : ∃ y, L[k]? = some y := ⟨_, List.getElem?_eq_getElem (by omega)⟩
                  have hc := hat.get (p := oL + k * 1) (v := y.v) k (by rw [List.getElem?_map, hy]; exact rfl) (by omega)
                  have hy10 := ho10 y (List.mem_of_getElem? hy)
                  have hyo := hL.2.2 y (List.mem_of_getElem? hy)
                  have hyl : ∀ q, 0 < y.l.length → y.v.ownBlock = some q → q < h.size := fun q hn hq => hyo.1.lt hn hq
                  have hok4 := settle_ok y.l d4.nd d4.len
                  obtain ⟨Ay, cy, ey, _⟩ := id hyo.1
                  have hyo4 := hyo.ext0 d4.ext))
  all_goals (first | (refine Br.keep ?_) | (refine WL.step (ok_idxAddrA Try.underlying55 (fun w => Try.sizeOf40 w) rfl rfl rfl (by omega) (by first | rfl | assumption)) rfl rfl rfl ?_))
  all_goals (first | (refine Br.keep ?_) | (refine WL.step (ok_load (fun w => Try.isAgg40 w) rfl (by first | assumption | exact cell_blk (by assumption) rfl)) rfl rfl rfl ?_))
  all_goals (first | (refine Br.keep ?_) | (refine WL.step (ok_assign rfl) rfl rfl rfl ?_))
  all_goals (first | (refine Br.keep ?_) | (refine WL.nil ?_))
  all_goals (first | (refine Br.keep ?_) | (repeat' (with_reducible first | refine thenP_n ?_ | refine blockP_n ?_)))
  all_goals (first | (refine Br.keep ?_) | (refine WC.seq ?_))
  all_goals (first | (refine Br.keep ?_) | (refine WC.drawH (fun _ => True) 28 28 rfl fol ?_))
  all_goals (first | (refine Br.keep ?_) | (refine WH.take 0 rfl (by kernel_rfl) (by kernel_rfl) (by kernel_rfl) (by kernel_rfl) rfl trivial (fun hq hC => ok_move rfl) rfl rfl rfl ?_))
  all_goals (first | (refine Br.keep ?_) | (refine WH.take 1 rfl (by kernel_rfl) (by kernel_rfl) (by kernel_rfl) (by kernel_rfl) rfl trivial (fun hq hC => ok_move rfl) rfl rfl rfl ?_))
  all_goals (first | (refine Br.keep ?_) | (refine WH.take 3 rfl (by kernel_rfl) (by kernel_rfl) (by kernel_rfl) (by kernel_rfl) rfl trivial (fun hq hC => ok_move rfl) rfl rfl rfl ?_))
  all_goals (first | (refine Br.keep ?_) | (refine WH.take 4 rfl (by kernel_rfl) (by kernel_rfl) (by kernel_rfl) (by kernel_rfl) rfl trivial (fun hq hC => ok_move rfl) rfl rfl rfl ?_))
  all_goals (first | (refine Br.keep ?_) | (refine WH.one 2 (by kernel_rfl) ?_))
  all_goals (first
               | (refine Br.keep ?_)
               | (refine Comes1.call (vs := [_, _]) rfl rfl (fun a w => Try.call24 a w) rfl (settle_cc d4.a y.l hyo4 (fun q hn hq e => by have := hyl q hn hq; have := d4.fa q e; omega) d4.nd d4.len (by omega) hm2) rfl rfl rfl ?_ (fun _ => by kernel_rfl)
                  rintro v5 h5 ⟨⟨v5', r5, hx5, hk5⟩, ho5, hf5⟩))
  all_goals (first | (refine Br.keep ?_) | (refine ⟨fun _ => trivial, ?_⟩))
  all_goals (first
               | (refine Br.keep ?_)
               | (obtain ⟨A5, c5, rfl, _⟩ := ho5.slice
                  have hyo5 : Ops h5 y.v y.l := ⟨hyo4.1.ext' hx5 (fun q hn hq e => by have := hyl q hn hq; have := d4.fa q e; omega), hyo4.2⟩
                  have x5 := d4.x.ext hx5 (fun k hk e => d4.sep k e hk)))
  all_goals (first | (refine Br.keep ?_) | (refine WH.one 5 (by kernel_rfl) ?_))
  all_goals (first
               | (refine Br.keep ?_)
               | (refine Comes1.call (vs := [_, _]) rfl rfl (fun a w => Try.call30 a w) rfl (settle18 x5 y.l hyo5 (fun q hn hq e => by have := hyl q hn hq; have := d4.fx q (.inl e); omega) d4.nd d4.len (by omega) hm2) rfl rfl rfl ?_ (fun _ => by kernel_rfl)
                  rintro v6 h6 ⟨⟨w6', r6, hx6, hk6⟩, ho6, hf6⟩))
  all_goals (first | (refine Br.keep ?_) | (refine ⟨fun _ => trivial, ?_⟩))
  all_goals (first
               | (refine Br.keep ?_)
               | (obtain ⟨A6, c6, rfl, _⟩ := ho6.slice
                  have d6 := d4.turn r5 hx5 hk5 r6 hx6 hk6 hok4.1 hok4.2
                  have hb2 := lt_of_some d4.x.cells))
  all_goals (first | (refine Br.keep ?_) | (refine WH.one 6 (by kernel_rfl) ?_))
  all_goals (first
               | (refine Br.keep ?_)
               | (refine Comes1.call (vs := [_, _]) rfl rfl (fun a w => Try.call26 a w) rfl ((equal_int _ _ (ho5.rd.ext hx6 (fun q hq e => by have := hf5 q hq; omega)) ho6.rd (by have : (goneL l4 (settleL most l4 y.l)).length ≤ l4.length := List.length_filter_le _ _; unfold maxLen; omega)).as (congrArg Value.bool (decide_eq_true rfl))) rfl rfl rfl ?_ (fun _ => by kernel_rfl)
                  rintro _ hz ⟨rfl, _⟩
                  subst hz))
  all_goals (first | (refine Br.keep ?_) | (refine ⟨fun _ => by first | assumption | trivial, ?_⟩))
  all_goals (first | (refine Br.keep ?_) | (refine WH.take 7 rfl (by kernel_rfl) (by kernel_rfl) (by kernel_rfl) (by kernel_rfl) rfl trivial (fun hq hC => ok_not rfl) rfl rfl rfl ?_))
  all_goals (first | (refine Br.keep ?_) | (refine WH.take 8 rfl (by kernel_rfl) (by kernel_rfl) (by kernel_rfl) (by kernel_rfl) rfl trivial (fun hq hC => ok_move rfl) rfl rfl rfl ?_))
  all_goals (first | (refine Br.keep ?_) | (try ((fail_if_success (refine WH.part 67 (b := true) rfl (fun _ => ?_) (fun _ => ?_))); (fail_if_success (refine WH.part 67 (b := false) rfl (fun _ => ?_) (fun _ => ?_))); (refine WH.part 67 rfl (fun hb => ?_) (fun hb => ?_)))))
  all_goals (first | (refine Br.keep ?_) | (first | (refine WH.pass 9 rfl (by kernel_rfl) (by kernel_rfl) (by kernel_rfl) (by kernel_rfl) rfl trivial rfl rfl rfl ?_) | (refine WH.take 9 rfl (by kernel_rfl) (by kernel_rfl) (by kernel_rfl) (by kernel_rfl) rfl trivial (fun hq hC => ok_move rfl) rfl rfl rfl ?_)))
  all_goals (first | (refine Br.keep ?_) | (first | (refine WH.pass 11 rfl (by kernel_rfl) (by kernel_rfl) (by kernel_rfl) (by kernel_rfl) rfl trivial rfl rfl rfl ?_) | (refine WH.take 11 rfl (by kernel_rfl) (by kernel_rfl) (by kernel_rfl) (by kernel_rfl) rfl trivial (fun hq hC => ok_move rfl) rfl rfl rfl ?_)))
  all_goals (first | (refine Br.keep ?_) | (first | (refine WH.pass 12 rfl (by kernel_rfl) (by kernel_rfl) (by kernel_rfl) (by kernel_rfl) rfl trivial rfl rfl rfl ?_) | (refine WH.take 12 rfl (by kernel_rfl) (by kernel_rfl) (by kernel_rfl) (by kernel_rfl) rfl trivial (fun hq hC => ok_nilCheck rfl) rfl rfl rfl ?_)))
  all_goals (first | (refine Br.keep ?_) | (first | (refine WH.pass 13 rfl (by kernel_rfl) (by kernel_rfl) (by kernel_rfl) (by kernel_rfl) rfl trivial rfl rfl rfl ?_) | (refine WH.take 13 rfl (by kernel_rfl) (by kernel_rfl) (by kernel_rfl) (by kernel_rfl) rfl trivial (fun hq hC => ok_fieldAddr rfl Try.underlying61 rfl (fun w => Try.sizeOf22 w)) rfl rfl rfl ?_)))
  all_goals (first | (refine Br.keep ?_) | (refine WH.two 10 14 (by kernel_rfl) (Br.out (i := 5002) ?_) (Br.out (i := 5003) ?_)))
  all_goals (first
    | (fail_if_success (refine Br.mk (i := 5002) ?_))
    | (refine Br.mk (i := 5002) ?_
       all_goals (first
                    | (refine Br.keep ?_)
                    | (refine Comes1.call (vs := [_]) rfl rfl (fun a w => Try.call27 a w) rfl (list_cc d6.a (by omega)) rfl rfl rfl ?_ (fun _ => by kernel_rfl)
                       rintro v8 h8 ⟨ho8, hx8, hf8⟩))
       all_goals (first | (refine Br.keep ?_) | (refine ⟨fun _ => trivial, ?_⟩))
       all_goals (first
                    | (refine Br.keep ?_)
                    | (obtain ⟨A8, c8, rfl, _⟩ := ho8.slice
                       have d8 := d6.stay hx8))
       all_goals (first | (refine Br.keep ?_) | (refine WH.one 14 (by kernel_rfl) ?_))
       all_goals (first
                    | (refine Br.keep ?_)
                    | (refine Comes1.run rfl (OkP.r (ok_load (fun w => Try.isAgg22 w) rfl (by first | exact (by first | exact cell_blk d8.x.cells rfl | exact cell_blk d6.x.cells rfl) | assumption | exact cell_blk (by assumption) rfl))) rfl rfl rfl ?_ (fun _ => by kernel_rfl)
                       rintro _ hz ⟨rfl, _⟩
                       subst hz))
       all_goals (first | (refine Br.keep ?_) | (refine ⟨fun _ => by first | assumption | trivial, ?_⟩))
       all_goals (first | (refine Br.keep ?_) | (refine WH.one 15 (by kernel_rfl) ?_))
       all_goals (first | (refine Br.keep ?_) | (obtain ⟨Aw, cw, rfl, _⟩ := d8.x.own.slice))
       all_goals (first
                    | (refine Br.keep ?_)
                    | (refine Comes1.call (vs := [_, _]) rfl rfl (fun a w => Try.call26 a w) rfl ((equal_int _ _ ho8.rd d8.x.own.rd (by unfold maxLen; omega)).as (congrArg Value.bool (decide_eq_true rfl))) rfl rfl rfl ?_ (fun _ => by kernel_rfl)
                       rintro _ hz ⟨rfl, _⟩
                       subst hz))
       all_goals (first | (refine Br.keep ?_) | (refine ⟨fun _ => by first | assumption | trivial, ?_⟩))
       all_goals (first | (refine Br.keep ?_) | (first | (refine WH.pass 16 rfl (by kernel_rfl) (by kernel_rfl) (by kernel_rfl) (by kernel_rfl) rfl trivial rfl rfl rfl ?_) | (refine WH.take 16 rfl (by kernel_rfl) (by kernel_rfl) (by kernel_rfl) (by kernel_rfl) rfl trivial (fun hq hC => ok_not rfl) rfl rfl rfl ?_)))
       all_goals (first | (refine Br.keep ?_) | (first | (refine WH.take 17 rfl (by kernel_rfl) (by kernel_rfl) (by kernel_rfl) (by kernel_rfl) rfl trivial (fun hq hC => ok_pick_t rfl rfl) rfl rfl rfl ?_) | (refine WH.take 17 rfl (by kernel_rfl) (by kernel_rfl) (by kernel_rfl) (by kernel_rfl) rfl trivial (fun hq hC => ok_pick_f rfl rfl) rfl rfl rfl ?_)))
       all_goals (first | (refine Br.keep ?_) | (refine WH.take 18 rfl (by kernel_rfl) (by kernel_rfl) (by kernel_rfl) (by kernel_rfl) rfl trivial (fun hq hC => ok_move rfl) rfl rfl rfl ?_))
       all_goals (first | (refine Br.keep ?_) | (try ((fail_if_success (refine WH.part 77 (b := true) rfl (fun _ => ?_) (fun _ => ?_))); (fail_if_success (refine WH.part 77 (b := false) rfl (fun _ => ?_) (fun _ => ?_))); (refine WH.part 77 rfl (fun hb => ?_) (fun hb => ?_)))))
       all_goals (first | (refine Br.keep ?_) | (first | (refine WH.pass 19 rfl (by kernel_rfl) (by kernel_rfl) (by kernel_rfl) (by kernel_rfl) rfl trivial rfl rfl rfl ?_) | (refine WH.take 19 rfl (by kernel_rfl) (by kernel_rfl) (by kernel_rfl) (by kernel_rfl) rfl trivial (fun hq hC => ok_move rfl) rfl rfl rfl ?_)))
       all_goals (first | (refine Br.keep ?_) | (first | (refine WH.pass 20 rfl (by kernel_rfl) (by kernel_rfl) (by kernel_rfl) (by kernel_rfl) rfl trivial rfl rfl rfl ?_) | (refine WH.take 20 rfl (by kernel_rfl) (by kernel_rfl) (by kernel_rfl) (by kernel_rfl) rfl trivial (fun hq hC => ok_move rfl) rfl rfl rfl ?_)))
       all_goals (first | (refine Br.keep ?_) | (first | (refine WH.pass 22 rfl (by kernel_rfl) (by kernel_rfl) (by kernel_rfl) (by kernel_rfl) rfl trivial rfl rfl rfl ?_) | (refine WH.take 22 rfl (by kernel_rfl) (by kernel_rfl) (by kernel_rfl) (by kernel_rfl) rfl trivial (fun hq hC => ok_move rfl) rfl rfl rfl ?_)))
       all_goals (first | (refine Br.keep ?_) | (first | (refine WH.pass 23 rfl (by kernel_rfl) (by kernel_rfl) (by kernel_rfl) (by kernel_rfl) rfl trivial rfl rfl rfl ?_) | (refine WH.take 23 rfl (by kernel_rfl) (by kernel_rfl) (by kernel_rfl) (by kernel_rfl) rfl trivial (fun hq hC => ok_move rfl) rfl rfl rfl ?_)))
       all_goals (first | (refine Br.keep ?_) | (refine WH.one 21 (by kernel_rfl) ?_))
       all_goals (first
                    | (refine Br.keep ?_)
                    | (refine Comes1.call (vs := [_, _]) rfl rfl (fun a w => Try.call31 a w) rfl (fold_any l y.l (hl.ext0 d8.ext) (hyo.ext0 d8.ext) (by omega)) rfl rfl rfl ?_ (fun _ => by kernel_rfl)
                       rintro v9 h9 ⟨ho9, hx9, hf9⟩))
       all_goals (first | (refine Br.keep ?_) | (refine ⟨fun _ => trivial, ?_⟩))
       all_goals (first
                    | (refine Br.keep ?_)
                    | (obtain ⟨A9, c9, rfl, _⟩ := ho9.slice
                       have d9 := d8.stay hx9))
       all_goals (first | (refine Br.keep ?_) | (refine WH.one 24 (by kernel_rfl) ?_))
       all_goals (first
                    | (refine Br.keep ?_)
                    | (refine Comes1.call (vs := [_, _]) rfl rfl (fun a w => Try.call32 a w) rfl (fold18 l y.l (hl.ext0 d9.ext) (hyo.ext0 d9.ext) (by omega)) rfl rfl rfl ?_ (fun _ => by kernel_rfl)
                       rintro v10 h10' ⟨ho10', hx10, hf10⟩))
       all_goals (first | (refine Br.keep ?_) | (refine ⟨fun _ => trivial, ?_⟩))
       all_goals (first
                    | (refine Br.keep ?_)
                    | (obtain ⟨A10, c10, rfl, _⟩ := ho10'.slice
                       have d10 := d9.stay hx10
                       have hfl := fold_len y.l l))
       all_goals (first | (refine Br.keep ?_) | (refine WH.one 25 (by kernel_rfl) ?_))
       all_goals (first
                    | (refine Br.keep ?_)
                    | (refine Comes1.call (vs := [_, _]) rfl rfl (fun a w => Try.call26 a w) rfl ((equal_int _ _ (ho9.rd.ext0 hx10) ho10'.rd (by unfold maxLen; omega)).as (congrArg Value.bool (decide_eq_true rfl))) rfl rfl rfl ?_ (fun _ => by kernel_rfl)
                       rintro _ hz ⟨rfl, _⟩
                       subst hz))
       all_goals (first | (refine Br.keep ?_) | (refine ⟨fun _ => by first | assumption | trivial, ?_⟩))
       all_goals (first | (refine Br.keep ?_) | (first | (refine WH.pass 26 rfl (by kernel_rfl) (by kernel_rfl) (by kernel_rfl) (by kernel_rfl) rfl trivial rfl rfl rfl ?_) | (refine WH.take 26 rfl (by kernel_rfl) (by kernel_rfl) (by kernel_rfl) (by kernel_rfl) rfl trivial (fun hq hC => ok_not rfl) rfl rfl rfl ?_)))
       all_goals (first | (refine Br.keep ?_) | (first | (refine WH.take 27 rfl (by kernel_rfl) (by kernel_rfl) (by kernel_rfl) (by kernel_rfl) rfl trivial (fun hq hC => ok_pick_t rfl rfl) rfl rfl rfl ?_) | (refine WH.take 27 rfl (by kernel_rfl) (by kernel_rfl) (by kernel_rfl) (by kernel_rfl) rfl trivial (fun hq hC => ok_pick_f rfl rfl) rfl rfl rfl ?_)))
       all_goals (first | (refine Br.keep ?_) | (refine WH.done (by kernel_rfl) ?_))
       skip))
  all_goals (first
    | (fail_if_success (refine Br.mk (i := 5003) ?_))
    | (refine Br.mk (i := 5003) ?_
       all_goals (first
                    | (refine Br.keep ?_)
                    | (refine Comes1.run rfl (OkP.r (ok_load (fun w => Try.isAgg22 w) rfl (by first | exact (by first | exact cell_blk d8.x.cells rfl | exact cell_blk d6.x.cells rfl) | assumption | exact cell_blk (by assumption) rfl))) rfl rfl rfl ?_ (fun _ => by kernel_rfl)
                       rintro _ hz ⟨rfl, _⟩
                       subst hz))
       all_goals (first | (refine Br.keep ?_) | (refine ⟨fun _ => by first | assumption | trivial, ?_⟩))
       all_goals (first | (refine Br.keep ?_) | (refine WH.one 10 (by kernel_rfl) ?_))
       all_goals (first
                    | (refine Br.keep ?_)
                    | (refine Comes1.call (vs := [_]) rfl rfl (fun a w => Try.call27 a w) rfl (list_cc d6.a (by omega)) rfl rfl rfl ?_ (fun _ => by kernel_rfl)
                       rintro v8 h8 ⟨ho8, hx8, hf8⟩))
       all_goals (first | (refine Br.keep ?_) | (refine ⟨fun _ => trivial, ?_⟩))
       all_goals (first
                    | (refine Br.keep ?_)
                    | (obtain ⟨A8, c8, rfl, _⟩ := ho8.slice
                       have d8 := d6.stay hx8))
       all_goals (first | (refine Br.keep ?_) | (refine WH.one 15 (by kernel_rfl) ?_))
       all_goals (first | (refine Br.keep ?_) | (obtain ⟨Aw, cw, rfl, _⟩ := d8.x.own.slice))
       all_goals (first
                    | (refine Br.keep ?_)
                    | (refine Comes1.call (vs := [_, _]) rfl rfl (fun a w => Try.call26 a w) rfl ((equal_int _ _ ho8.rd d8.x.own.rd (by unfold maxLen; omega)).as (congrArg Value.bool (decide_eq_true rfl))) rfl rfl rfl ?_ (fun _ => by kernel_rfl)
                       rintro _ hz ⟨rfl, _⟩
                       subst hz))
       all_goals (first | (refine Br.keep ?_) | (refine ⟨fun _ => by first | assumption | trivial, ?_⟩))
       all_goals (first | (refine Br.keep ?_) | (first | (refine WH.pass 16 rfl (by kernel_rfl) (by kernel_rfl) (by kernel_rfl) (by kernel_rfl) rfl trivial rfl rfl rfl ?_) | (refine WH.take 16 rfl (by kernel_rfl) (by kernel_rfl) (by kernel_rfl) (by kernel_rfl) rfl trivial (fun hq hC => ok_not rfl) rfl rfl rfl ?_)))
       all_goals (first | (refine Br.keep ?_) | (first | (refine WH.take 17 rfl (by kernel_rfl) (by kernel_rfl) (by kernel_rfl) (by kernel_rfl) rfl trivial (fun hq hC => ok_pick_t rfl rfl) rfl rfl rfl ?_) | (refine WH.take 17 rfl (by kernel_rfl) (by kernel_rfl) (by kernel_rfl) (by kernel_rfl) rfl trivial (fun hq hC => ok_pick_f rfl rfl) rfl rfl rfl ?_)))
       all_goals (first | (refine Br.keep ?_) | (refine WH.take 18 rfl (by kernel_rfl) (by kernel_rfl) (by kernel_rfl) (by kernel_rfl) rfl trivial (fun hq hC => ok_move rfl) rfl rfl rfl ?_))
       all_goals (first | (refine Br.keep ?_) | (try ((fail_if_success (refine WH.part 77 (b := true) rfl (fun _ => ?_) (fun _ => ?_))); (fail_if_success (refine WH.part 77 (b := false) rfl (fun _ => ?_) (fun _ => ?_))); (refine WH.part 77 rfl (fun hb => ?_) (fun hb => ?_)))))
       all_goals (first | (refine Br.keep ?_) | (first | (refine WH.pass 19 rfl (by kernel_rfl) (by kernel_rfl) (by kernel_rfl) (by kernel_rfl) rfl trivial rfl rfl rfl ?_) | (refine WH.take 19 rfl (by kernel_rfl) (by kernel_rfl) (by kernel_rfl) (by kernel_rfl) rfl trivial (fun hq hC => ok_move rfl) rfl rfl rfl ?_)))
       all_goals (first | (refine Br.keep ?_) | (first | (refine WH.pass 20 rfl (by kernel_rfl) (by kernel_rfl) (by kernel_rfl) (by kernel_rfl) rfl trivial rfl rfl rfl ?_) | (refine WH.take 20 rfl (by kernel_rfl) (by kernel_rfl) (by kernel_rfl) (by kernel_rfl) rfl trivial (fun hq hC => ok_move rfl) rfl rfl rfl ?_)))
       all_goals (first | (refine Br.keep ?_) | (first | (refine WH.pass 22 rfl (by kernel_rfl) (by kernel_rfl) (by kernel_rfl) (by kernel_rfl) rfl trivial rfl rfl rfl ?_) | (refine WH.take 22 rfl (by kernel_rfl) (by kernel_rfl) (by kernel_rfl) (by kernel_rfl) rfl trivial (fun hq hC => ok_move rfl) rfl rfl rfl ?_)))
       all_goals (first | (refine Br.keep ?_) | (first | (refine WH.pass 23 rfl (by kernel_rfl) (by kernel_rfl) (by kernel_rfl) (by kernel_rfl) rfl trivial rfl rfl rfl ?_) | (refine WH.take 23 rfl (by kernel_rfl) (by kernel_rfl) (by kernel_rfl) (by kernel_rfl) rfl trivial (fun hq hC => ok_move rfl) rfl rfl rfl ?_)))
       all_goals (first | (refine Br.keep ?_) | (refine WH.one 21 (by kernel_rfl) ?_))
       all_goals (first
                    | (refine Br.keep ?_)
                    | (refine Comes1.call (vs := [_, _]) rfl rfl (fun a w => Try.call31 a w) rfl (fold_any l y.l (hl.ext0 d8.ext) (hyo.ext0 d8.ext) (by omega)) rfl rfl rfl ?_ (fun _ => by kernel_rfl)
                       rintro v9 h9 ⟨ho9, hx9, hf9⟩))
       all_goals (first | (refine Br.keep ?_) | (refine ⟨fun _ => trivial, ?_⟩))
       all_goals (first
                    | (refine Br.keep ?_)
                    | (obtain ⟨A9, c9, rfl, _⟩ := ho9.slice
                       have d9 := d8.stay hx9))
       all_goals (first | (refine Br.keep ?_) | (refine WH.one 24 (by kernel_rfl) ?_))
       all_goals (first
                    | (refine Br.keep ?_)
                    | (refine Comes1.call (vs := [_, _]) rfl rfl (fun a w => Try.call32 a w) rfl (fold18 l y.l (hl.ext0 d9.ext) (hyo.ext0 d9.ext) (by omega)) rfl rfl rfl ?_ (fun _ => by kernel_rfl)
                       rintro v10 h10' ⟨ho10', hx10, hf10⟩))
       all_goals (first | (refine Br.keep ?_) | (refine ⟨fun _ => trivial, ?_⟩))
       all_goals (first
                    | (refine Br.keep ?_)
                    | (obtain ⟨A10, c10, rfl, _⟩ := ho10'.slice
                       have d10 := d9.stay hx10
                       have hfl := fold_len y.l l))
       all_goals (first | (refine Br.keep ?_) | (refine WH.one 25 (by kernel_rfl) ?_))
       all_goals (first
                    | (refine Br.keep ?_)
                    | (refine Comes1.call (vs := [_, _]) rfl rfl (fun a w => Try.call26 a w) rfl ((equal_int _ _ (ho9.rd.ext0 hx10) ho10'.rd (by unfold maxLen; omega)).as (congrArg Value.bool (decide_eq_true rfl))) rfl rfl rfl ?_ (fun _ => by kernel_rfl)
                       rintro _ hz ⟨rfl, _⟩
                       subst hz))
       all_goals (first | (refine Br.keep ?_) | (refine ⟨fun _ => by first | assumption | trivial, ?_⟩))
       all_goals (first | (refine Br.keep ?_) | (first | (refine WH.pass 26 rfl (by kernel_rfl) (by kernel_rfl) (by kernel_rfl) (by kernel_rfl) rfl trivial rfl rfl rfl ?_) | (refine WH.take 26 rfl (by kernel_rfl) (by kernel_rfl) (by kernel_rfl) (by kernel_rfl) rfl trivial (fun hq hC => ok_not rfl) rfl rfl rfl ?_)))
       all_goals (first | (refine Br.keep ?_) | (first | (refine WH.take 27 rfl (by kernel_rfl) (by kernel_rfl) (by kernel_rfl) (by kernel_rfl) rfl trivial (fun hq hC => ok_pick_t rfl rfl) rfl rfl rfl ?_) | (refine WH.take 27 rfl (by kernel_rfl) (by kernel_rfl) (by kernel_rfl) (by kernel_rfl) rfl trivial (fun hq hC => ok_pick_f rfl rfl) rfl rfl rfl ?_)))
       all_goals (first | (refine Br.keep ?_) | (refine WH.done (by kernel_rfl) ?_))
       skip))
  all_goals (first | (refine Br.keep ?_) | (repeat' (with_reducible first | refine thenP_n ?_ | refine blockP_n ?_)))
  all_goals (first | (refine Br.keep ?_) | (refine WC.sub [(0, _), (2, _), (3, _), (9, _), (11, _), (53, _), (54, _), (55, _), (86, _)] ⟨rfl, rfl, rfl, rfl, rfl, rfl, rfl, rfl, rfl, trivial⟩ ?_))
  all_goals (first | (refine Br.keep ?_) | (first | refine WC.condB_t 7 rfl ?_ | refine WC.condB_f 8 rfl ?_ | (refine WC.condB 7 8 rfl (fun hb => ?_) (fun hb => ?_) <;> (first | replace hb := of_decide_eq_true hb | replace hb := of_decide_eq_false hb | replace hb := of_decide_eq_false (nt hb) | replace hb := of_decide_eq_true (nf hb) | skip))))
  all_goals (first
    | (fail_if_success (refine Br.mk (i := 7) ?_))
    | (refine Br.mk (i := 7) ?_
       all_goals (refine WC.seq ?_)
       all_goals (refine WC.region ?_)
       all_goals (refine WL.step (ok_assign rfl) rfl rfl rfl ?_)
       all_goals (refine WL.nil ?_)
       all_goals (repeat' (with_reducible first | refine thenP_n ?_ | refine blockP_n ?_))
       all_goals (refine WC.sub [(8, _)] ⟨rfl, trivial⟩ ?_)
       all_goals (refine WC.ret ?_)
       all_goals (repeat' (with_reducible first | refine thenP_r ?_ | refine blockP_r ?_))
       all_goals (refine retP_1 _ ⟨rfl, trivial⟩ ?_)
       all_goals (first | exact ⟨rfl, d6.ext.trans hx7⟩ | exact ⟨rfl, (d2.ext.trans hx3).trans hx7⟩ | exact ⟨rfl, d2.ext.trans hx7⟩)
       skip))
  all_goals (first
    | (fail_if_success (refine Br.mk (i := 8) ?_))
    | (refine Br.mk (i := 8) ?_
       all_goals (refine WC.skip ?_)
       skip))
  all_goals (first | (refine Br.keep ?_) | (repeat' (with_reducible first | refine thenP_n ?_ | refine blockP_n ?_)))
  all_goals (first | (refine Br.keep ?_) | (refine WC.region ?_))
  all_goals (first | (refine Br.keep ?_) | (first | (refine WL.step (ok_addI rfl rfl (by omega)) rfl rfl rfl ?_) | (refine WL.step (ok_add rfl rfl) rfl rfl rfl ?_)))
  all_goals (first | (refine Br.keep ?_) | (refine WL.step (ok_move rfl) rfl rfl rfl ?_))
  all_goals (first | (refine Br.keep ?_) | (refine WL.nil ?_))
  all_goals (first | (refine Br.keep ?_) | (repeat' (with_reducible first | refine thenP_n ?_ | refine blockP_n ?_)))
  all_goals (first | (refine Br.keep ?_) | (exact ⟨k + 1, ⟨rfl, rfl, rfl, rfl, rfl, rfl, rfl, rfl, trivial⟩, (by exact ⟨by omega, _, _, _, d10⟩), (by omega)⟩))
  all_goals (try (refine Br.mk (i := 1000) ?_))
  all_goals (repeat' (with_reducible first | refine thenP_n ?_ | refine blockP_n ?_))
  all_goals (refine WC.sub [(0, _), (2, _), (9, _), (11, _)] ⟨rfl, rfl, rfl, rfl, trivial⟩ ?_)
  all_goals (refine WC.seq ?_)
  all_goals (refine WC.region ?_)
  all_goals (refine WL.step (ok_move rfl) rfl rfl rfl ?_)
  all_goals (refine WL.step (ok_move rfl) rfl rfl rfl ?_)
  all_goals (refine WL.call (vs := [_, _]) rfl (fun a w => Try.call25 a w) rfl (spec_cc d4.a E (hE.ext0 d4.ext) (by omega) h20 h10) rfl rfl rfl ?_
             rintro v5 h5 ⟨ho5, hx5, hf5⟩)
  all_goals (obtain ⟨A5, c5, rfl, _⟩ := ho5.slice
             have d5 := d4.stay hx5)
  all_goals (refine WL.step (ok_move rfl) rfl rfl rfl ?_)
  all_goals (refine WL.step (ok_move rfl) rfl rfl rfl ?_)
  all_goals (refine WL.call (vs := [_, _]) rfl (fun a w => Try.call33 a w) rfl (spec18 d5.x E (hE.ext0 d5.ext) (by omega) h20 h10) rfl rfl rfl ?_
             rintro v6 h6 ⟨ho6, hx6, hf6⟩)
  all_goals (obtain ⟨A6, c6, rfl, _⟩ := ho6.slice
             have d6 := d5.stay hx6
             have hle6 := later_len E l4 h10)
  all_goals (refine WL.call (vs := [_, _]) rfl (fun a w => Try.call26 a w) rfl ((equal_int _ _ (ho5.rd.ext0 hx6) ho6.rd (by unfold maxLen; omega)).as (congrArg Value.bool (decide_eq_true rfl))) rfl rfl rfl ?_
             rintro _ hz ⟨rfl, _⟩
             subst hz)
  all_goals (refine WL.step (ok_move rfl) rfl rfl rfl ?_)
  all_goals (try ((fail_if_success (refine WL.part 95 (b := true) rfl (fun _ => ?_) (fun _ => ?_))); (fail_if_success (refine WL.part 95 (b := false) rfl (fun _ => ?_) (fun _ => ?_))); (refine WL.part 95 rfl (fun hb => ?_) (fun hb => ?_) <;> (first | replace hb := of_decide_eq_true hb | replace hb := of_decide_eq_false hb | replace hb := of_decide_eq_false (nt hb) | replace hb := of_decide_eq_true (nf hb) | skip))))
  all_goals (first | (refine WL.pass rfl rfl rfl ?_) | (refine WL.step (ok_move rfl) rfl rfl rfl ?_))
  all_goals (first
               | (refine WL.pass rfl rfl rfl ?_)
               | (refine WL.call (vs := [_]) rfl (fun a w => Try.call34 a w) rfl (most_cc d6.a) rfl rfl rfl ?_
                  rintro _ hz ⟨rfl, _⟩
                  subst hz))
  all_goals (first | (refine WL.pass rfl rfl rfl ?_) | (refine WL.step (ok_move rfl) rfl rfl rfl ?_))
  all_goals (first | (refine WL.pass rfl rfl rfl ?_) | (first | (refine WL.step (OkP.bool_t (by omega) (ok_eql rfl rfl)) rfl rfl rfl ?_) | (refine WL.step (OkP.bool_f (by omega) (ok_eql rfl rfl)) rfl rfl rfl ?_) | (refine WL.step (ok_eql rfl rfl) rfl rfl rfl ?_)))
  all_goals (first | (refine WL.step (ok_pick_t rfl rfl) rfl rfl rfl ?_) | (refine WL.step (ok_pick_f rfl rfl) rfl rfl rfl ?_))
  all_goals (refine WL.step (ok_move rfl) rfl rfl rfl ?_)
  all_goals (try ((fail_if_success (refine WL.part 101 (b := true) rfl (fun _ => ?_) (fun _ => ?_))); (fail_if_success (refine WL.part 101 (b := false) rfl (fun _ => ?_) (fun _ => ?_))); (refine WL.part 101 rfl (fun hb => ?_) (fun hb => ?_) <;> (first | replace hb := of_decide_eq_true hb | replace hb := of_decide_eq_false hb | replace hb := of_decide_eq_false (nt hb) | replace hb := of_decide_eq_true (nf hb) | skip))))
  all_goals (first
               | (refine WL.pass rfl rfl rfl ?_)
               | (refine WL.call (vs := []) rfl (fun a w => Try.call22 a w) rfl (awake18) rfl rfl rfl ?_
                  rintro _ h7 ⟨rfl, hx7⟩))
  all_goals (first | (refine WL.step (ok_pick_t rfl rfl) rfl rfl rfl ?_) | (refine WL.step (ok_pick_f rfl rfl) rfl rfl rfl ?_))
  all_goals (refine WL.step (ok_assign rfl) rfl rfl rfl ?_)
  all_goals (refine WL.nil ?_)
  all_goals (repeat' (with_reducible first | refine thenP_n ?_ | refine blockP_n ?_))
  all_goals (refine WC.sub [(8, _)] ⟨rfl, trivial⟩ ?_)
  all_goals (refine WC.ret ?_)
  all_goals (repeat' (with_reducible first | refine thenP_r ?_ | refine blockP_r ?_))
  all_goals (refine retP_1 _ ⟨rfl, trivial⟩ ?_)
  all_goals (first | exact ⟨rfl, d6.ext.trans hx7⟩ | exact ⟨rfl, (d2.ext.trans hx3).trans hx7⟩ | exact ⟨rfl, d2.ext.trans hx7⟩)
theorem lives18_all {h : Heap} {v w u : Value} (most : Int) (L : List Ob) (E : List En) (l : List Int) (hL : Obs h v L) (hE : Ens h w E) (hl : Rd h u 1 l.length (ints l)) (hlm : l.length * 8 ≤ reachBytes) :
    CallsH Try.prog 5 ⟨[In most, v, w, u]⟩ h fun u h' => u = .bool true ∧ Ext No h h' := by
  by_cases hmo : 1 ≤ most ∧ most ≤ 4096
  · exact lives18 most L E l hmo.1 hmo.2 hL hE hl hlm
  · exact lives18_no most (by omega)

namespace LCacheLives
open Go.ChangeShapes Go.WideShapes Go.ChangeAt Go.RowKit
open Go.ChangeMaps (open_string shut_string)
theorem own : ownKnob Try.prog.godebug = none := by kernel_rfl
theorem laidOut : laidOutB Try.prog = true := by kernel_rfl
set_option maxRecDepth 100000 in
theorem lifted (os : Os) (started : os.Started) (H : Type) (enc : TypeId × Value → H) :
    ReturnsInHanded {} Try.checked os 5 .any (Rows.cacheLivesSpec.pre6 enc Try.prog Try.f5 Rows.cacheLivesRow.domain false) (Rows.cacheLivesSpec.post enc Try.prog Try.f5 false true false false) := by
  refine returnsInHanded_of_change_sized (C := Try.checked) own started (by kernel_rfl) Try.func5
    (ChangeSpec.witness6 (enc := enc) (C := Try.checked) false ⟨#[], #[.int .i64 0, .slice none 0 0, .slice none 0 0, .slice none 0 0], []⟩ 8 (by kernel_rfl) (by kernel_rfl) (by kernel_rfl) (by kernel_rfl)) ?_
  intro W base args ds gs before hval0 hW hcnd hsz0 _
  have hval : ∀ (j : Nat) t v, Try.f5.params[j]? = some t → args[j]? = some v → Value.okWide Try.prog W .any base t v := hval0
  have hsz := hsz0
  rw [Try.params5] at hsz
  clear hsz0
  have hW' := hW
  obtain ⟨p, q, hA0, hV, rfl, hfz, hnd⟩ := hW
  have hA : DataW.TrodAll enc Try.prog W 0 (fun _ => true) true Try.f5.params.toList args.toList ds p := hA0
  rw [Try.params5] at hA hval
  obtain ⟨v0, vs0, d0, ds0, p0, q0, hargs, rfl, rfl, h0, r0⟩ := trodAll_cons hA
  obtain ⟨v1, vs1, d1, ds1, p1, q1, rfl, rfl, rfl, h1, r1⟩ := trodAll_cons r0
  obtain ⟨v2, vs2, d2, ds2, p2, q2, rfl, rfl, rfl, h2, r2⟩ := trodAll_cons r1
  obtain ⟨v3, vs3, d3, ds3, p3, q3, rfl, rfl, rfl, h3, r3⟩ := trodAll_cons r2
  obtain ⟨rfl, rfl, rfl⟩ := trodAll_nil r3
  obtain rfl : args = #[v0, v1, v2, v3] := by cases args; simp_all
  obtain ⟨rfl, rfl⟩ := trodVars_none hV
  have hz0 : ∀ n ∈ d0.weights Try.prog 3, n ≤ reachBytes := fun n hn => by simpa using List.all_eq_true.1 hsz n (DataW.weights_mem_each (j := 0) rfl rfl n hn)
  have k0 := h0
  have lt0 : ∀ x ∈ p0, x.block < W.heap.size := by obtain ⟨m, hm⟩ := k0; exact DataW.trod_lt m _ _ _ hm
  obtain ⟨a0, rfl, e0, _, w0⟩ := open_int Try.underlying3 (hval 0 3 v0 rfl rfl) h0
  have hz1 : ∀ n ∈ d1.weights Try.prog 55, n ≤ reachBytes := fun n hn => by simpa using List.all_eq_true.1 hsz n (DataW.weights_mem_each (j := 1) rfl rfl n hn)
  have k1 := h1
  have lt1 : ∀ x ∈ p1, x.block < W.heap.size := by obtain ⟨m, hm⟩ := k1; exact DataW.trod_lt m _ _ _ hm
  obtain ⟨A1, n1, c1, rfl⟩ := okWide_slice Try.underlying55 (hval 1 55 v1 rfl rfl)
  obtain ⟨fu1, hf1⟩ := h1
  obtain ⟨⟨v1, l1⟩, e1, w1⟩ := opens_obs W _ _ _ _ _ _ _ _ hf1 hz1
  obtain rfl : .slice A1 n1 c1 = v1 := by simpa [Value.cells] using e1
  have hz2 : ∀ n ∈ d2.weights Try.prog 27, n ≤ reachBytes := fun n hn => by simpa using List.all_eq_true.1 hsz n (DataW.weights_mem_each (j := 2) rfl rfl n hn)
  have k2 := h2
  have lt2 : ∀ x ∈ p2, x.block < W.heap.size := by obtain ⟨m, hm⟩ := k2; exact DataW.trod_lt m _ _ _ hm
  obtain ⟨A2, n2, c2, rfl⟩ := okWide_slice Try.underlying27 (hval 2 27 v2 rfl rfl)
  obtain ⟨fu2, hf2⟩ := h2
  obtain ⟨⟨v2, l2⟩, e2, w2⟩ := opens_entries W _ _ _ _ _ _ _ _ hf2 hz2
  obtain rfl : .slice A2 n2 c2 = v2 := by simpa [Value.cells] using e2
  have hz3 : ∀ n ∈ d3.weights Try.prog 22, n ≤ reachBytes := fun n hn => by simpa using List.all_eq_true.1 hsz n (DataW.weights_mem_each (j := 3) rfl rfl n hn)
  have k3 := h3
  have lt3 : ∀ x ∈ p3, x.block < W.heap.size := by obtain ⟨m, hm⟩ := k3; exact DataW.trod_lt m _ _ _ hm
  obtain ⟨A3, n3, c3, rfl⟩ := okWide_slice Try.underlying22 (hval 3 22 v3 rfl rfl)
  obtain ⟨fu3, hf3⟩ := h3
  obtain ⟨⟨v3, l3⟩, e3, w3⟩ := opens_ints W _ _ _ _ _ _ _ _ hf3 hz3
  obtain rfl : .slice A3 n3 c3 = v3 := by simpa [Value.cells] using e3
  clear hA0 hval0
  refine (law_calls (lives18_all a0 l1 l2 l3 w1 w2 w3.1 w3.2)).mono fun e W' ⟨he, bel⟩ => ?_
  subst he
  exact ⟨_, rfl, _, _, _, [], _, [], hW', trodAll_mk1 (shut_bool Try.underlying4 _), (trodAll_cons_mk (Below.trod laidOut (by kernel_rfl) (of_decide_eq_true (by kernel_rfl)) k0 bel lt0) (trodAll_cons_mk (Below.trod laidOut (by kernel_rfl) (of_decide_eq_true (by kernel_rfl)) k1 bel lt1) (trodAll_cons_mk (Below.trod laidOut (by kernel_rfl) (of_decide_eq_true (by kernel_rfl)) k2 bel lt2) (trodAll_cons_mk (Below.trod laidOut (by kernel_rfl) (of_decide_eq_true (by kernel_rfl)) k3 bel lt3) trodAll_mk0)))), rfl, bel.frame _, fun h => by cases h⟩
theorem over : Rows.cacheLivesRow.holds Try.pinned (OpenSpec.ofChange Rows.cacheLivesSpec) :=
  OpenClaim.holds_of_wide 5 Try.f5 rfl rfl rfl rfl rfl rfl rfl ⟨rfl, rfl, rfl, rfl, rfl⟩ rfl rfl rfl rfl rfl (by kernel_rfl) Try.func5 (by kernel_rfl)
    (of_decide_eq_true (by kernel_rfl)) (by unfold Func.isWrapper; first | (rw [if_pos (by decide +kernel)]; kernel_rfl) | (rw [if_neg (by decide +kernel)]; exact ⟨rfl, rfl⟩))
    (fun os started H enc _ => lifted os started H enc)
end LCacheLives
theorem cacheLives_proved : Rows.CacheLivesSaid := LCacheLives.over
#print axioms cacheLives_proved
end Go.Proofs.Ytkejihockkhnoaa

