/-
  REGISTRY (layer 14): New, Ref, Put, Drop.
-/
import Derived.Test.YtkpgnhhidnkmcaaRg
import Derived.Test.YtkpgnhhidnkmcaaK24
namespace Go.Proofs.Ytkpgnhhidnkmcaa
open Go Go.RK

section
variable {B : Nat} {c : Int} {h h' : Heap} {b m1 m2 : Nat} {last : Int} {L L1 L2 : List En} {e : En}
set_option maxRecDepth 100000 in
theorem rg_new (B : Nat) {h : Heap} (hB : B ≤ h.size) : CallsH Try.prog 22 ⟨[]⟩ h fun u h' => ∃ b m1 m2, u = ptE b ∧ Rg B 0 h' b m1 m2 0 [] ∧ Ext No h h' := by
  unfold ptE
  refine calls [] Try.func22 rfl Try.ntmps22 rfl trivial ?_
  all_goals (refine WC.seq ?_)
  all_goals (refine WC.region ?_)
  all_goals (refine WL.step (ok_assign rfl) rfl rfl rfl ?_)
  all_goals (refine WL.nil ?_)
  all_goals (repeat' (with_reducible first | refine thenP_n ?_ | refine blockP_n ?_))
  all_goals (refine WC.seq ?_)
  all_goals (refine WC.region ?_)
  all_goals (refine WL.stepR okE_makeMap rfl rfl rfl ?_
             rintro _ h1 ⟨b1, rfl, hg1, hb1, hx1⟩)
  all_goals (refine WL.stepR okE_makeMap rfl rfl rfl ?_
             rintro _ h2 ⟨b2, rfl, hg2, hb2, hx2⟩)
  all_goals (refine WL.step (ok_buildF (vs := [_, _]) (cs := [_, _, _]) (fun | [a0, a1] => [a0, a1, (.int .i64 0)] | _ => []) rfl rfl (by kernel_rfl)) rfl rfl rfl ?_)
  all_goals (refine WL.stepR (okE_box rfl) rfl rfl rfl ?_
             rintro _ h3 ⟨b3, rfl, hg3, hb3, hx3⟩)
  all_goals (refine WL.step (ok_assign rfl) rfl rfl rfl ?_)
  all_goals (refine WL.nil ?_)
  all_goals (repeat' (with_reducible first | refine thenP_n ?_ | refine blockP_n ?_))
  all_goals (refine WC.sub [(0, _)] ⟨rfl, trivial⟩ ?_)
  all_goals (refine WC.ret ?_)
  all_goals (repeat' (with_reducible first | refine thenP_r ?_ | refine blockP_r ?_))
  all_goals (refine retP_1 _ ⟨rfl, trivial⟩ ?_)
  all_goals (refine ⟨b3, b1, b2, rfl, ⟨hb3, ⟨[], ⟨_, _, (hx2.trans hx3).obj hb1 nos, MapKept.stamped_empty 0, rfl⟩, .refl _⟩, ⟨[], ⟨_, _, hx3.obj hb2 nos, MapKept.stamped_empty 0, rfl⟩, .refl _⟩, ?_, ?_, ?_, ?_, .nil, ?_, .nil, .nil, ?_, ?_, ?_⟩, (hx1.trans hx2).trans hx3⟩
             any_goals (intro e he; cases he)
             · have := hx1.size; have := hx2.size; exact ⟨by omega, by omega, by omega, fun e he => by cases he⟩
             · have := lt_of_some hb1; omega
             · simp)
theorem mid_cases {x e' : En} (r : Rg B c h b m1 m2 last (L1 ++ e :: L2)) (hx : x ∈ L1 ++ e' :: L2) : x = e' ∨ (x ∈ L1 ++ e :: L2 ∧ x.p ≠ e.p) := by
  have hp := r.ptrs
  simp only [List.pairwise_append, List.pairwise_cons, List.mem_cons, forall_eq_or_imp] at hp
  rcases List.mem_append.1 hx with hx | hx
  · exact .inr ⟨by simp [hx], (hp.2.2 x hx).1⟩
  · rcases List.mem_cons.1 hx with hx | hx
    · exact .inl hx
    · exact .inr ⟨by simp [hx], fun e2 => hp.2.1.1 x hx e2.symm⟩
theorem Rg.up (r : Rg B c h b m1 m2 last L) {c' : Int} (h1 : c ≤ c') (h2 : c' ≤ 1000000) : Rg B c' h b m1 m2 last L := by
  have := r.bd
  exact ⟨r.blk, r.mp1, r.mp2, r.recs, r.oid, r.fair, fun e he => by have := r.rf1 e he; omega, r.rise, r.top, r.keys, r.ptrs, r.lo, r.ne, by omega⟩
/-- Its count is another one. -/
theorem Rg.bump (r : Rg B c h b m1 m2 last (L1 ++ e :: L2)) {n : Int} (hn : 1 ≤ n ∧ n ≤ c + 1) (a : Ext (fun q => q = e.p) h h') (hp : h'[e.p]? = some (.cells ⟨[St e.t, e.v, In n]⟩ 84 (0, 0))) (hc : c + 1 ≤ 1000000) : Rg B (c + 1) h' b m1 m2 last (L1 ++ { e with rf := n } :: L2) := by
  have he : e ∈ L1 ++ e :: L2 := by simp
  obtain ⟨s1, s2, _, s4⟩ := r.sep
  obtain ⟨t1, t2, t3, t4⟩ := s4 e he
  obtain ⟨E, hm, hq⟩ := r.mp1
  obtain ⟨E2, hm2, hq2⟩ := r.mp2
  have := r.bd
  have hbk := r.lo
  refine ⟨a.obj r.blk (fun q => t1 q.symm), ⟨E, hm.ext a (fun q => t2 q.symm), by simpa using hq⟩, ⟨E2, hm2.ext a (fun q => t3 q.symm), by simpa using hq2⟩, fun x hx => ?_, fun x hx => ?_, fun x hx => ?_, fun x hx => ?_, by simpa [List.pairwise_append, List.pairwise_cons] using r.rise, fun x hx => ?_, by simpa [List.pairwise_append, List.pairwise_cons] using r.keys, by simpa [List.pairwise_append, List.pairwise_cons] using r.ptrs, ⟨hbk.1, hbk.2.1, hbk.2.2.1, fun x hx => ?_⟩, r.ne, ?_⟩
  · rcases mid_cases r hx with rfl | ⟨hx, hne⟩
    · exact hp
    · exact a.obj (r.recs x hx) hne
  · rcases mid_cases r hx with rfl | ⟨hx, hne⟩
    · exact (r.oid e he).ext a (fun q hq => (t4 q hq).2.2.2 e he)
    · exact (r.oid x hx).ext a (fun q hq => ((s4 x hx).2.2.2 q hq).2.2.2 e he)
  · rcases mid_cases r hx with rfl | ⟨hx, hne⟩
    · exact r.fair e he
    · exact r.fair x hx
  · rcases mid_cases r hx with rfl | ⟨hx, hne⟩
    · exact hn
    · have := r.rf1 x hx; omega
  · rcases mid_cases r hx with rfl | ⟨hx, hne⟩
    · exact r.top e he
    · exact r.top x hx
  · rcases mid_cases r hx with rfl | ⟨hx, hne⟩
    · exact hbk.2.2.2 e he
    · exact hbk.2.2.2 x hx
  · simp at this ⊢; omega
set_option maxRecDepth 100000 in
theorem rg_ref (r : Rg B c h b m1 m2 last (L1 ++ e :: L2)) (hc : c + 1 ≤ 1000000) : CallsH Try.prog 25 ⟨[ptE b, In e.id]⟩ h fun u h' => u = .bool true ∧ Rg B (c + 1) h' b m1 m2 last (L1 ++ { e with rf := e.rf + 1 } :: L2) ∧ Ext (fun q => q = e.p) h h' := by
  have he : e ∈ L1 ++ e :: L2 := by simp
  have k := rg_of r he
  have hr := r.recs e he
  have hrf := r.rf1 e he
  unfold ptE at *
  refine calls [(0, _), (1, _)] Try.func25 rfl Try.ntmps25 rfl ⟨rfl, rfl, trivial⟩ ?_
  all_goals (refine WC.seq ?_)
  all_goals (refine WC.region ?_)
  all_goals (refine WL.step (ok_assign rfl) rfl rfl rfl ?_)
  all_goals (refine WL.nil ?_)
  all_goals (repeat' (with_reducible first | refine thenP_n ?_ | refine blockP_n ?_))
  all_goals (refine WC.seq ?_)
  all_goals (refine WC.region ?_)
  all_goals (refine WL.step (ok_move rfl) rfl rfl rfl ?_)
  all_goals (refine WL.step (ok_move rfl) rfl rfl rfl ?_)
  all_goals (refine WL.call (vs := [_, _]) rfl (fun a w => Try.call46 a w) rfl (k) rfl rfl rfl ?_
             rintro _ hz ⟨rfl, _⟩
             subst hz)
  all_goals (refine WL.step (ok_move rfl) rfl rfl rfl ?_)
  all_goals (refine WL.step (ok_extract rfl rfl) rfl rfl rfl ?_)
  all_goals (refine WL.step (ok_extract rfl rfl) rfl rfl rfl ?_)
  all_goals (refine WL.step (ok_assign rfl) rfl rfl rfl ?_)
  all_goals (refine WL.step (ok_assign rfl) rfl rfl rfl ?_)
  all_goals (refine WL.nil ?_)
  all_goals (repeat' (with_reducible first | refine thenP_n ?_ | refine blockP_n ?_))
  all_goals (refine WC.sub [(5, _), (6, _)] ⟨rfl, rfl, trivial⟩ ?_)
  all_goals (refine WC.seq ?_)
  all_goals (refine WC.seq ?_)
  all_goals (refine WC.region ?_)
  all_goals (refine WL.step (ok_move rfl) rfl rfl rfl ?_)
  all_goals (refine WL.nil ?_)
  all_goals (repeat' (with_reducible first | refine thenP_n ?_ | refine blockP_n ?_))
  all_goals (first | refine WC.condB_t 1 rfl ?_ | refine WC.condB_f 2 rfl ?_ | (refine WC.condB 1 2 rfl (fun hb => ?_) (fun hb => ?_) <;> (first | replace hb := of_decide_eq_true hb | replace hb := of_decide_eq_false hb | replace hb := of_decide_eq_false (nt hb) | replace hb := of_decide_eq_true (nf hb) | skip)))
  all_goals (first
    | (fail_if_success (refine Br.mk (i := 1) ?_))
    | (refine Br.mk (i := 1) ?_
       all_goals (refine WC.region ?_)
       all_goals (refine WL.step (ok_move rfl) rfl rfl rfl ?_)
       all_goals (refine WL.step (ok_nilCheck rfl) rfl rfl rfl ?_)
       all_goals (refine WL.step (ok_fieldAddr rfl Try.underlying84 rfl (fun w => Try.sizeOf3 w)) rfl rfl rfl ?_)
       all_goals (refine WL.step (ok_load (fun w => Try.isAgg3 w) rfl (by first | assumption | exact cell_blk (by assumption) rfl)) rfl rfl rfl ?_)
       all_goals (first | (refine WL.step (ok_addI rfl rfl (by omega)) rfl rfl rfl ?_) | (refine WL.step (ok_add rfl rfl) rfl rfl rfl ?_))
       all_goals (refine WL.step (ok_nilCheck rfl) rfl rfl rfl ?_)
       all_goals (refine WL.step (ok_fieldAddr rfl Try.underlying84 rfl (fun w => Try.sizeOf3 w)) rfl rfl rfl ?_)
       all_goals (refine WL.stepR0 (okE_store (fun w => Try.sizeOf3 w) rfl rfl (by assumption) (Nat.le_of_ble_eq_true rfl) rfl rfl) rfl rfl ?_
                  rintro _ h1 ⟨hb1, hx1⟩)
       all_goals (refine WL.nil ?_)
       skip))
  all_goals (first
    | (fail_if_success (refine Br.mk (i := 2) ?_))
    | (refine Br.mk (i := 2) ?_
       all_goals (refine WC.skip ?_)
       skip))
  all_goals (repeat' (with_reducible first | refine thenP_n ?_ | refine blockP_n ?_))
  all_goals (refine WC.seq ?_)
  all_goals (refine WC.region ?_)
  all_goals (refine WL.step (ok_move rfl) rfl rfl rfl ?_)
  all_goals (refine WL.step (ok_assign rfl) rfl rfl rfl ?_)
  all_goals (refine WL.nil ?_)
  all_goals (repeat' (with_reducible first | refine thenP_n ?_ | refine blockP_n ?_))
  all_goals (refine WC.sub [(4, _)] ⟨rfl, trivial⟩ ?_)
  all_goals (refine WC.ret ?_)
  all_goals (repeat' (with_reducible first | refine thenP_r ?_ | refine blockP_r ?_))
  all_goals (refine retP_1 _ ⟨rfl, trivial⟩ ?_)
  all_goals (exact ⟨rfl, r.bump (by omega) hx1 hb1 hc, hx1⟩)
set_option maxRecDepth 100000 in
theorem rg_ref_no (r : Rg B c h b m1 m2 last L) {id : Int} (hid : ∀ e ∈ L, e.id ≠ id) : CallsH Try.prog 25 ⟨[ptE b, In id]⟩ h fun u h' => u = .bool false ∧ h' = h := by
  have k := rg_of_no r hid
  unfold ptE at *
  refine calls [(0, _), (1, _)] Try.func25 rfl Try.ntmps25 rfl ⟨rfl, rfl, trivial⟩ ?_
  all_goals (refine WC.seq ?_)
  all_goals (refine WC.region ?_)
  all_goals (refine WL.step (ok_assign rfl) rfl rfl rfl ?_)
  all_goals (refine WL.nil ?_)
  all_goals (repeat' (with_reducible first | refine thenP_n ?_ | refine blockP_n ?_))
  all_goals (refine WC.seq ?_)
  all_goals (refine WC.region ?_)
  all_goals (refine WL.step (ok_move rfl) rfl rfl rfl ?_)
  all_goals (refine WL.step (ok_move rfl) rfl rfl rfl ?_)
  all_goals (refine WL.call (vs := [_, _]) rfl (fun a w => Try.call46 a w) rfl (k) rfl rfl rfl ?_
             rintro _ hz ⟨rfl, _⟩
             subst hz)
  all_goals (refine WL.step (ok_move rfl) rfl rfl rfl ?_)
  all_goals (refine WL.step (ok_extract rfl rfl) rfl rfl rfl ?_)
  all_goals (refine WL.step (ok_extract rfl rfl) rfl rfl rfl ?_)
  all_goals (refine WL.step (ok_assign rfl) rfl rfl rfl ?_)
  all_goals (refine WL.step (ok_assign rfl) rfl rfl rfl ?_)
  all_goals (refine WL.nil ?_)
  all_goals (repeat' (with_reducible first | refine thenP_n ?_ | refine blockP_n ?_))
  all_goals (refine WC.sub [(5, _), (6, _)] ⟨rfl, rfl, trivial⟩ ?_)
  all_goals (refine WC.seq ?_)
  all_goals (refine WC.seq ?_)
  all_goals (refine WC.region ?_)
  all_goals (refine WL.step (ok_move rfl) rfl rfl rfl ?_)
  all_goals (refine WL.nil ?_)
  all_goals (repeat' (with_reducible first | refine thenP_n ?_ | refine blockP_n ?_))
  all_goals (first | refine WC.condB_t 1 rfl ?_ | refine WC.condB_f 2 rfl ?_ | (refine WC.condB 1 2 rfl (fun hb => ?_) (fun hb => ?_) <;> (first | replace hb := of_decide_eq_true hb | replace hb := of_decide_eq_false hb | replace hb := of_decide_eq_false (nt hb) | replace hb := of_decide_eq_true (nf hb) | skip)))
  all_goals (first
    | (fail_if_success (refine Br.mk (i := 1) ?_))
    | (refine Br.mk (i := 1) ?_
       all_goals (refine WC.region ?_)
       all_goals (refine WL.step (ok_move rfl) rfl rfl rfl ?_)
       all_goals (refine WL.step (ok_nilCheck rfl) rfl rfl rfl ?_)
       all_goals (refine WL.step (ok_fieldAddr rfl Try.underlying84 rfl (fun w => Try.sizeOf3 w)) rfl rfl rfl ?_)
       all_goals (refine WL.step (ok_load (fun w => Try.isAgg3 w) rfl (by first | assumption | exact cell_blk (by assumption) rfl)) rfl rfl rfl ?_)
       all_goals (first | (refine WL.step (ok_addI rfl rfl (by omega)) rfl rfl rfl ?_) | (refine WL.step (ok_add rfl rfl) rfl rfl rfl ?_))
       all_goals (refine WL.step (ok_nilCheck rfl) rfl rfl rfl ?_)
       all_goals (refine WL.step (ok_fieldAddr rfl Try.underlying84 rfl (fun w => Try.sizeOf3 w)) rfl rfl rfl ?_)
       all_goals (refine WL.stepR0 (okE_store (fun w => Try.sizeOf3 w) rfl rfl (by assumption) (Nat.le_of_ble_eq_true rfl) rfl rfl) rfl rfl ?_
                  rintro _ h1 ⟨hb1, hx1⟩)
       all_goals (refine WL.nil ?_)
       skip))
  all_goals (first
    | (fail_if_success (refine Br.mk (i := 2) ?_))
    | (refine Br.mk (i := 2) ?_
       all_goals (refine WC.skip ?_)
       skip))
  all_goals (repeat' (with_reducible first | refine thenP_n ?_ | refine blockP_n ?_))
  all_goals (refine WC.seq ?_)
  all_goals (refine WC.region ?_)
  all_goals (refine WL.step (ok_move rfl) rfl rfl rfl ?_)
  all_goals (refine WL.step (ok_assign rfl) rfl rfl rfl ?_)
  all_goals (refine WL.nil ?_)
  all_goals (repeat' (with_reducible first | refine thenP_n ?_ | refine blockP_n ?_))
  all_goals (refine WC.sub [(4, _)] ⟨rfl, trivial⟩ ?_)
  all_goals (refine WC.ret ?_)
  all_goals (repeat' (with_reducible first | refine thenP_r ?_ | refine blockP_r ?_))
  all_goals (refine retP_1 _ ⟨rfl, trivial⟩ ?_)
  all_goals (exact ⟨rfl, rfl⟩)
set_option maxRecDepth 100000 in
theorem rg_drop_no (r : Rg B c h b m1 m2 last L) {id : Int} (hid : ∀ e ∈ L, e.id ≠ id) : CallsH Try.prog 27 ⟨[ptE b, In id]⟩ h fun u h' => u = .bool false ∧ h' = h := by
  have k := rg_of_no r hid
  unfold ptE at *
  refine calls [(0, _), (1, _)] Try.func27 rfl Try.ntmps27 rfl ⟨rfl, rfl, trivial⟩ ?_
  all_goals (refine WC.seq ?_)
  all_goals (refine WC.region ?_)
  all_goals (refine WL.step (ok_assign rfl) rfl rfl rfl ?_)
  all_goals (refine WL.nil ?_)
  all_goals (repeat' (with_reducible first | refine thenP_n ?_ | refine blockP_n ?_))
  all_goals (refine WC.seq ?_)
  all_goals (refine WC.region ?_)
  all_goals (refine WL.step (ok_move rfl) rfl rfl rfl ?_)
  all_goals (refine WL.step (ok_move rfl) rfl rfl rfl ?_)
  all_goals (refine WL.call (vs := [_, _]) rfl (fun a w => Try.call46 a w) rfl (k) rfl rfl rfl ?_
             rintro _ hz ⟨rfl, _⟩
             subst hz)
  all_goals (refine WL.step (ok_move rfl) rfl rfl rfl ?_)
  all_goals (refine WL.step (ok_extract rfl rfl) rfl rfl rfl ?_)
  all_goals (refine WL.step (ok_extract rfl rfl) rfl rfl rfl ?_)
  all_goals (refine WL.step (ok_assign rfl) rfl rfl rfl ?_)
  all_goals (refine WL.step (ok_assign rfl) rfl rfl rfl ?_)
  all_goals (refine WL.nil ?_)
  all_goals (repeat' (with_reducible first | refine thenP_n ?_ | refine blockP_n ?_))
  all_goals (refine WC.sub [(0, _), (1, _), (5, _), (6, _)] ⟨rfl, rfl, rfl, rfl, trivial⟩ ?_)
  all_goals (refine WC.seq ?_)
  all_goals (refine WC.seq ?_)
  all_goals (refine WC.region ?_)
  all_goals (refine WL.step (ok_move rfl) rfl rfl rfl ?_)
  all_goals (refine WL.step (ok_not rfl) rfl rfl rfl ?_)
  all_goals (refine WL.nil ?_)
  all_goals (repeat' (with_reducible first | refine thenP_n ?_ | refine blockP_n ?_))
  all_goals (first | refine WC.condB_t 1 rfl ?_ | refine WC.condB_f 2 rfl ?_ | (refine WC.condB 1 2 rfl (fun hb => ?_) (fun hb => ?_) <;> (first | replace hb := of_decide_eq_true hb | replace hb := of_decide_eq_false hb | replace hb := of_decide_eq_false (nt hb) | replace hb := of_decide_eq_true (nf hb) | skip)))
  all_goals (first
    | (fail_if_success (refine Br.mk (i := 1) ?_))
    | (refine Br.mk (i := 1) ?_
       all_goals (refine WC.seq ?_)
       all_goals (refine WC.region ?_)
       all_goals (refine WL.step (ok_assign rfl) rfl rfl rfl ?_)
       all_goals (refine WL.nil ?_)
       all_goals (repeat' (with_reducible first | refine thenP_n ?_ | refine blockP_n ?_))
       all_goals (refine WC.sub [(4, _)] ⟨rfl, trivial⟩ ?_)
       all_goals (refine WC.ret ?_)
       all_goals (repeat' (with_reducible first | refine thenP_r ?_ | refine blockP_r ?_))
       all_goals (refine retP_1 _ ⟨rfl, trivial⟩ ?_)
       all_goals (exact ⟨rfl, rfl⟩)
       skip))
  all_goals (first
    | (fail_if_success (refine Br.mk (i := 2) ?_))
    | (refine Br.mk (i := 2) ?_
       all_goals (refine WC.skip ?_)
       skip))
  all_goals (repeat' (with_reducible first | refine thenP_n ?_ | refine blockP_n ?_))
  all_goals (refine WC.seq ?_)
  all_goals (refine WC.seq ?_)
  all_goals (refine WC.region ?_)
  all_goals (refine WL.step (ok_move rfl) rfl rfl rfl ?_)
  all_goals (refine WL.step (ok_nilCheck rfl) rfl rfl rfl ?_)
  all_goals (refine WL.step (ok_fieldAddr rfl Try.underlying84 rfl (fun w => Try.sizeOf3 w)) rfl rfl rfl ?_)
  all_goals (refine WL.step (ok_load (fun w => Try.isAgg3 w) rfl (by first | assumption | exact cell_blk (by assumption) rfl)) rfl rfl rfl ?_)
  all_goals (first | (refine WL.step (ok_subI rfl rfl (by omega)) rfl rfl rfl ?_) | (refine WL.step (ok_sub rfl rfl) rfl rfl rfl ?_))
  all_goals (refine WL.step (ok_nilCheck rfl) rfl rfl rfl ?_)
  all_goals (refine WL.step (ok_fieldAddr rfl Try.underlying84 rfl (fun w => Try.sizeOf3 w)) rfl rfl rfl ?_)
  all_goals (refine WL.stepR0 (okE_store (fun w => Try.sizeOf3 w) rfl rfl (by assumption) (Nat.le_of_ble_eq_true rfl) rfl rfl) rfl rfl ?_
             rintro _ h1 ⟨hb1, hx1⟩)
  all_goals (refine WL.nil ?_)
  all_goals (repeat' (with_reducible first | refine thenP_n ?_ | refine blockP_n ?_))
  all_goals (refine WC.sub [(0, _), (1, _), (5, _)] ⟨rfl, rfl, rfl, trivial⟩ ?_)
  all_goals (refine WC.seq ?_)
  all_goals (refine WC.region ?_)
  all_goals (refine WL.step (ok_move rfl) rfl rfl rfl ?_)
  all_goals (refine WL.step (ok_nilCheck rfl) rfl rfl rfl ?_)
  all_goals (refine WL.step (ok_fieldAddr rfl Try.underlying84 rfl (fun w => Try.sizeOf3 w)) rfl rfl rfl ?_)
  all_goals (refine WL.step (ok_load (fun w => Try.isAgg3 w) rfl (by first | assumption | exact cell_blk (by assumption) rfl)) rfl rfl rfl ?_)
  all_goals (first | (refine WL.step (OkP.bool_t (by omega) (ok_eql rfl rfl)) rfl rfl rfl ?_) | (refine WL.step (OkP.bool_f (by omega) (ok_eql rfl rfl)) rfl rfl rfl ?_) | (refine WL.step (ok_eql rfl rfl) rfl rfl rfl ?_))
  all_goals (refine WL.nil ?_)
  all_goals (repeat' (with_reducible first | refine thenP_n ?_ | refine blockP_n ?_))
  all_goals (refine WC.sub [(0, _), (1, _), (5, _), (26, _)] ⟨rfl, rfl, rfl, rfl, trivial⟩ ?_)
  all_goals (first | refine WC.condB_t 3 rfl ?_ | refine WC.condB_f 4 rfl ?_ | (refine WC.condB 3 4 rfl (fun hb => ?_) (fun hb => ?_) <;> (first | replace hb := of_decide_eq_true hb | replace hb := of_decide_eq_false hb | replace hb := of_decide_eq_false (nt hb) | replace hb := of_decide_eq_true (nf hb) | skip)))
  all_goals (first
    | (fail_if_success (refine Br.mk (i := 3) ?_))
    | (refine Br.mk (i := 3) ?_
       all_goals (refine WC.seq ?_)
       all_goals (refine WC.drawE fol (by kernel_rfl) ?_)
       all_goals (refine WQ.stepE (ok_move rfl) rfl rfl rfl ?_)
       all_goals (refine WQ.stepE (ok_nilCheck rfl) rfl rfl rfl ?_)
       all_goals (refine WQ.stepE (ok_fieldAddr rfl Try.underlying73 rfl (fun w => Try.sizeOf39 w)) rfl rfl rfl ?_)
       all_goals (refine WQ.stepE (ok_load (fun w => Try.isAgg39 w) rfl (by first | assumption | exact cell_blk (by assumption) rfl)) rfl rfl rfl ?_)
       all_goals (refine WQ.stepE (ok_move rfl) rfl rfl rfl ?_)
       all_goals (refine WQ.stepE (ok_nilCheck rfl) rfl rfl rfl ?_)
       all_goals (refine WQ.stepE (ok_fieldAddr rfl Try.underlying84 rfl (fun w => Try.sizeOf57 w)) rfl rfl rfl ?_)
       all_goals (refine WQ.stepE (ok_loadN (fun w => Try.isAgg57 w) (fun w => Try.sizeOf57 w) rfl rfl (by assumption)) rfl rfl rfl ?_)
       all_goals (fail "no contract for call of remuda/key.Of at 6.8")
       all_goals (refine WL.stepR0 (ok_delete rfl keyS Try.underlying39 Try.underlying9 rfl rfl (by assumption)) rfl rfl ?_
                  rintro _ h1 ⟨hm1, hx1⟩)
       all_goals (refine WQ.nil ?_)
       all_goals (repeat' (with_reducible first | refine thenP_n ?_ | refine blockP_n ?_))
       all_goals (refine WC.sub [(0, _), (1, _)] ⟨rfl, rfl, trivial⟩ ?_)
       all_goals (refine WC.region ?_)
       all_goals (refine WL.step (ok_move rfl) rfl rfl rfl ?_)
       all_goals (refine WL.step (ok_nilCheck rfl) rfl rfl rfl ?_)
       all_goals (refine WL.step (ok_fieldAddr rfl Try.underlying73 rfl (fun w => Try.sizeOf71 w)) rfl rfl rfl ?_)
       all_goals (refine WL.step (ok_load (fun w => Try.isAgg71 w) rfl (by first | assumption | exact cell_blk (by assumption) rfl)) rfl rfl rfl ?_)
       all_goals (refine WL.step (ok_move rfl) rfl rfl rfl ?_)
       all_goals (refine WL.stepR0 (ok_delete rfl keyI Try.underlying71 Try.underlying3 rfl rfl (by assumption)) rfl rfl ?_
                  rintro _ h1 ⟨hm1, hx1⟩)
       all_goals (refine WL.nil ?_)
       skip))
  all_goals (first
    | (fail_if_success (refine Br.mk (i := 4) ?_))
    | (refine Br.mk (i := 4) ?_
       all_goals (refine WC.skip ?_)
       skip))
  all_goals (repeat' (with_reducible first | refine thenP_n ?_ | refine blockP_n ?_))
  all_goals (refine WC.seq ?_)
  all_goals (refine WC.region ?_)
  all_goals (refine WL.step (ok_assign rfl) rfl rfl rfl ?_)
  all_goals (refine WL.nil ?_)
  all_goals (repeat' (with_reducible first | refine thenP_n ?_ | refine blockP_n ?_))
  all_goals (refine WC.ret ?_)
  all_goals (repeat' (with_reducible first | refine thenP_r ?_ | refine blockP_r ?_))
  all_goals (refine retP_1 _ ⟨rfl, trivial⟩ ?_)
  all_goals (exact ⟨rfl, rfl⟩)
set_option maxRecDepth 100000 in
theorem rg_drop_dec (r : Rg B c h b m1 m2 last (L1 ++ e :: L2)) (h2 : 2 ≤ e.rf) (hc : c + 1 ≤ 1000000) : CallsH Try.prog 27 ⟨[ptE b, In e.id]⟩ h fun u h' => u = .bool true ∧ Rg B (c + 1) h' b m1 m2 last (L1 ++ { e with rf := e.rf - 1 } :: L2) ∧ Ext (fun q => q = e.p) h h' := by
  have he : e ∈ L1 ++ e :: L2 := by simp
  have k := rg_of r he
  have hr := r.recs e he
  have hrf := r.rf1 e he
  have hbd := r.bd
  unfold ptE at *
  refine calls [(0, _), (1, _)] Try.func27 rfl Try.ntmps27 rfl ⟨rfl, rfl, trivial⟩ ?_
  all_goals (refine WC.seq ?_)
  all_goals (refine WC.region ?_)
  all_goals (refine WL.step (ok_assign rfl) rfl rfl rfl ?_)
  all_goals (refine WL.nil ?_)
  all_goals (repeat' (with_reducible first | refine thenP_n ?_ | refine blockP_n ?_))
  all_goals (refine WC.seq ?_)
  all_goals (refine WC.region ?_)
  all_goals (refine WL.step (ok_move rfl) rfl rfl rfl ?_)
  all_goals (refine WL.step (ok_move rfl) rfl rfl rfl ?_)
  all_goals (refine WL.call (vs := [_, _]) rfl (fun a w => Try.call46 a w) rfl (k) rfl rfl rfl ?_
             rintro _ hz ⟨rfl, _⟩
             subst hz)
  all_goals (refine WL.step (ok_move rfl) rfl rfl rfl ?_)
  all_goals (refine WL.step (ok_extract rfl rfl) rfl rfl rfl ?_)
  all_goals (refine WL.step (ok_extract rfl rfl) rfl rfl rfl ?_)
  all_goals (refine WL.step (ok_assign rfl) rfl rfl rfl ?_)
  all_goals (refine WL.step (ok_assign rfl) rfl rfl rfl ?_)
  all_goals (refine WL.nil ?_)
  all_goals (repeat' (with_reducible first | refine thenP_n ?_ | refine blockP_n ?_))
  all_goals (refine WC.sub [(0, _), (1, _), (5, _), (6, _)] ⟨rfl, rfl, rfl, rfl, trivial⟩ ?_)
  all_goals (refine WC.seq ?_)
  all_goals (refine WC.seq ?_)
  all_goals (refine WC.region ?_)
  all_goals (refine WL.step (ok_move rfl) rfl rfl rfl ?_)
  all_goals (refine WL.step (ok_not rfl) rfl rfl rfl ?_)
  all_goals (refine WL.nil ?_)
  all_goals (repeat' (with_reducible first | refine thenP_n ?_ | refine blockP_n ?_))
  all_goals (first | refine WC.condB_t 1 rfl ?_ | refine WC.condB_f 2 rfl ?_ | (refine WC.condB 1 2 rfl (fun hb => ?_) (fun hb => ?_) <;> (first | replace hb := of_decide_eq_true hb | replace hb := of_decide_eq_false hb | replace hb := of_decide_eq_false (nt hb) | replace hb := of_decide_eq_true (nf hb) | skip)))
  all_goals (first
    | (fail_if_success (refine Br.mk (i := 1) ?_))
    | (refine Br.mk (i := 1) ?_
       all_goals (refine WC.seq ?_)
       all_goals (refine WC.region ?_)
       all_goals (refine WL.step (ok_assign rfl) rfl rfl rfl ?_)
       all_goals (refine WL.nil ?_)
       all_goals (repeat' (with_reducible first | refine thenP_n ?_ | refine blockP_n ?_))
       all_goals (refine WC.sub [(4, _)] ⟨rfl, trivial⟩ ?_)
       all_goals (refine WC.ret ?_)
       all_goals (repeat' (with_reducible first | refine thenP_r ?_ | refine blockP_r ?_))
       all_goals (refine retP_1 _ ⟨rfl, trivial⟩ ?_)
       all_goals (exact ⟨rfl, r.bump (by omega) hx1 hb1 hc, hx1⟩)
       skip))
  all_goals (first
    | (fail_if_success (refine Br.mk (i := 2) ?_))
    | (refine Br.mk (i := 2) ?_
       all_goals (refine WC.skip ?_)
       skip))
  all_goals (repeat' (with_reducible first | refine thenP_n ?_ | refine blockP_n ?_))
  all_goals (refine WC.seq ?_)
  all_goals (refine WC.seq ?_)
  all_goals (refine WC.region ?_)
  all_goals (refine WL.step (ok_move rfl) rfl rfl rfl ?_)
  all_goals (refine WL.step (ok_nilCheck rfl) rfl rfl rfl ?_)
  all_goals (refine WL.step (ok_fieldAddr rfl Try.underlying84 rfl (fun w => Try.sizeOf3 w)) rfl rfl rfl ?_)
  all_goals (refine WL.step (ok_load (fun w => Try.isAgg3 w) rfl (by first | assumption | exact cell_blk (by assumption) rfl)) rfl rfl rfl ?_)
  all_goals (first | (refine WL.step (ok_subI rfl rfl (by omega)) rfl rfl rfl ?_) | (refine WL.step (ok_sub rfl rfl) rfl rfl rfl ?_))
  all_goals (refine WL.step (ok_nilCheck rfl) rfl rfl rfl ?_)
  all_goals (refine WL.step (ok_fieldAddr rfl Try.underlying84 rfl (fun w => Try.sizeOf3 w)) rfl rfl rfl ?_)
  all_goals (refine WL.stepR0 (okE_store (fun w => Try.sizeOf3 w) rfl rfl (by assumption) (Nat.le_of_ble_eq_true rfl) rfl rfl) rfl rfl ?_
             rintro _ h1 ⟨hb1, hx1⟩)
  all_goals (refine WL.nil ?_)
  all_goals (repeat' (with_reducible first | refine thenP_n ?_ | refine blockP_n ?_))
  all_goals (refine WC.sub [(0, _), (1, _), (5, _)] ⟨rfl, rfl, rfl, trivial⟩ ?_)
  all_goals (refine WC.seq ?_)
  all_goals (refine WC.region ?_)
  all_goals (refine WL.step (ok_move rfl) rfl rfl rfl ?_)
  all_goals (refine WL.step (ok_nilCheck rfl) rfl rfl rfl ?_)
  all_goals (refine WL.step (ok_fieldAddr rfl Try.underlying84 rfl (fun w => Try.sizeOf3 w)) rfl rfl rfl ?_)
  all_goals (refine WL.step (ok_load (fun w => Try.isAgg3 w) rfl (by first | assumption | exact cell_blk (by assumption) rfl)) rfl rfl rfl ?_)
  all_goals (first | (refine WL.step (OkP.bool_t (by omega) (ok_eql rfl rfl)) rfl rfl rfl ?_) | (refine WL.step (OkP.bool_f (by omega) (ok_eql rfl rfl)) rfl rfl rfl ?_) | (refine WL.step (ok_eql rfl rfl) rfl rfl rfl ?_))
  all_goals (refine WL.nil ?_)
  all_goals (repeat' (with_reducible first | refine thenP_n ?_ | refine blockP_n ?_))
  all_goals (refine WC.sub [(0, _), (1, _), (5, _), (26, _)] ⟨rfl, rfl, rfl, rfl, trivial⟩ ?_)
  all_goals (first | refine WC.condB_t 3 rfl ?_ | refine WC.condB_f 4 rfl ?_ | (refine WC.condB 3 4 rfl (fun hb => ?_) (fun hb => ?_) <;> (first | replace hb := of_decide_eq_true hb | replace hb := of_decide_eq_false hb | replace hb := of_decide_eq_false (nt hb) | replace hb := of_decide_eq_true (nf hb) | skip)))
  all_goals (first
    | (fail_if_success (refine Br.mk (i := 3) ?_))
    | (refine Br.mk (i := 3) ?_
       all_goals (refine WC.seq ?_)
       all_goals (refine WC.drawE fol (by kernel_rfl) ?_)
       all_goals (refine WQ.stepE (ok_move rfl) rfl rfl rfl ?_)
       all_goals (refine WQ.stepE (ok_nilCheck rfl) rfl rfl rfl ?_)
       all_goals (refine WQ.stepE (ok_fieldAddr rfl Try.underlying73 rfl (fun w => Try.sizeOf39 w)) rfl rfl rfl ?_)
       all_goals (refine WQ.stepE (ok_load (fun w => Try.isAgg39 w) rfl (by first | assumption | exact cell_blk (by assumption) rfl)) rfl rfl rfl ?_)
       all_goals (refine WQ.stepE (ok_move rfl) rfl rfl rfl ?_)
       all_goals (refine WQ.stepE (ok_nilCheck rfl) rfl rfl rfl ?_)
       all_goals (refine WQ.stepE (ok_fieldAddr rfl Try.underlying84 rfl (fun w => Try.sizeOf57 w)) rfl rfl rfl ?_)
       all_goals (refine WQ.stepE (ok_loadN (fun w => Try.isAgg57 w) (fun w => Try.sizeOf57 w) rfl rfl (by assumption)) rfl rfl rfl ?_)
       all_goals (fail "no contract for call of remuda/key.Of at 6.8")
       all_goals (refine WL.stepR0 (ok_delete rfl keyS Try.underlying39 Try.underlying9 rfl rfl (by assumption)) rfl rfl ?_
                  rintro _ h1 ⟨hm1, hx1⟩)
       all_goals (refine WQ.nil ?_)
       all_goals (repeat' (with_reducible first | refine thenP_n ?_ | refine blockP_n ?_))
       all_goals (refine WC.sub [(0, _), (1, _)] ⟨rfl, rfl, trivial⟩ ?_)
       all_goals (refine WC.region ?_)
       all_goals (refine WL.step (ok_move rfl) rfl rfl rfl ?_)
       all_goals (refine WL.step (ok_nilCheck rfl) rfl rfl rfl ?_)
       all_goals (refine WL.step (ok_fieldAddr rfl Try.underlying73 rfl (fun w => Try.sizeOf71 w)) rfl rfl rfl ?_)
       all_goals (refine WL.step (ok_load (fun w => Try.isAgg71 w) rfl (by first | assumption | exact cell_blk (by assumption) rfl)) rfl rfl rfl ?_)
       all_goals (refine WL.step (ok_move rfl) rfl rfl rfl ?_)
       all_goals (refine WL.stepR0 (ok_delete rfl keyI Try.underlying71 Try.underlying3 rfl rfl (by assumption)) rfl rfl ?_
                  rintro _ h1 ⟨hm1, hx1⟩)
       all_goals (refine WL.nil ?_)
       skip))
  all_goals (first
    | (fail_if_success (refine Br.mk (i := 4) ?_))
    | (refine Br.mk (i := 4) ?_
       all_goals (refine WC.skip ?_)
       skip))
  all_goals (repeat' (with_reducible first | refine thenP_n ?_ | refine blockP_n ?_))
  all_goals (refine WC.seq ?_)
  all_goals (refine WC.region ?_)
  all_goals (refine WL.step (ok_assign rfl) rfl rfl rfl ?_)
  all_goals (refine WL.nil ?_)
  all_goals (repeat' (with_reducible first | refine thenP_n ?_ | refine blockP_n ?_))
  all_goals (refine WC.ret ?_)
  all_goals (repeat' (with_reducible first | refine thenP_r ?_ | refine blockP_r ?_))
  all_goals (refine retP_1 _ ⟨rfl, trivial⟩ ?_)
  all_goals (exact ⟨rfl, r.bump (by omega) hx1 hb1 hc, hx1⟩)
/-- The last one that refers to it is gone. -/
theorem Rg.out (r : Rg B c h b m1 m2 last (L1 ++ e :: L2)) (a : Ext (fun q => q = e.p ∨ q = m1 ∨ q = m2) h h') {E : List (Int × Value)} {E2 : List (List UInt8 × Value)} (hp : E.Perm ((L1 ++ e :: L2).map fun e => (e.id, ptE e.p))) (hp2 : E2.Perm ((L1 ++ e :: L2).map fun e => (keyB e.t e.o, In e.id))) (hm : Mp (.int .i64) In h' m1 (adel E e.id)) (hm2 : Mp .string St h' m2 (adel E2 (keyB e.t e.o))) : Rg B c h' b m1 m2 last (L1 ++ L2) := by
  have he : e ∈ L1 ++ e :: L2 := by simp
  have sub : ∀ {x}, x ∈ L1 ++ L2 → x ∈ L1 ++ e :: L2 := fun {x} hx => by rcases List.mem_append.1 hx with hx | hx <;> simp [hx]
  obtain ⟨s1, s2, _, s4⟩ := r.sep
  have hsl : (L1 ++ L2).Sublist (L1 ++ e :: L2) := (List.Sublist.refl L1).append (List.sublist_cons_self e L2)
  have ri := r.rise
  have ky := r.keys
  have pt := r.ptrs
  simp only [List.pairwise_append, List.pairwise_cons, List.mem_cons, forall_eq_or_imp] at ri ky pt
  have nid : ∀ x ∈ L1 ++ L2, x.id ≠ e.id := fun x hx => by
    rcases List.mem_append.1 hx with hx | hx
    · have := (ri.2.2 x hx).1; omega
    · have := ri.2.1.1 x hx; omega
  have nky : ∀ x ∈ L1 ++ L2, keyB x.t x.o ≠ keyB e.t e.o := fun x hx q => by
    have q2 := keyB_inj (r.fair x (sub hx)) (r.fair e he) q
    rcases List.mem_append.1 hx with hx | hx
    · exact (ky.2.2 x hx).1 q2
    · exact ky.2.1.1 x hx ⟨q2.1.symm, q2.2.symm⟩
  have npt : ∀ x ∈ L1 ++ L2, x.p ≠ e.p := fun x hx => by
    rcases List.mem_append.1 hx with hx | hx
    · exact (pt.2.2 x hx).1
    · exact fun q => pt.2.1.1 x hx q.symm
  have := r.bd
  have hbk := r.lo
  refine ⟨a.obj r.blk (fun q => by rcases q with q | q | q; exact (s4 e he).1 q.symm; exact s1 q; exact s2 q), ⟨_, hm, ?_⟩, ⟨_, hm2, ?_⟩, fun x hx => a.obj (r.recs x (sub hx)) (fun q => by rcases q with q | q | q; exact npt x hx q; exact (s4 x (sub hx)).2.1 q; exact (s4 x (sub hx)).2.2.1 q), fun x hx => (r.oid x (sub hx)).ext a (fun q hq z => by have := (s4 x (sub hx)).2.2.2 q hq; rcases z with z | z | z; exact this.2.2.2 e he z; exact this.2.1 z; exact this.2.2.1 z), fun x hx => r.fair x (sub hx), fun x hx => r.rf1 x (sub hx), List.Pairwise.sublist hsl r.rise, fun x hx => r.top x (sub hx), List.Pairwise.sublist hsl r.keys, List.Pairwise.sublist hsl r.ptrs, ⟨hbk.1, hbk.2.1, hbk.2.2.1, fun x hx => hbk.2.2.2 x (sub hx)⟩, r.ne, ?_⟩
  · refine (hp.filter _).trans (.of_eq ?_)
    rw [List.map_append, List.map_cons, List.filter_append, List.filter_cons, if_neg (by simp), ← List.filter_append, ← List.map_append, List.filter_eq_self]
    intro y hy
    obtain ⟨x, hx, rfl⟩ := List.mem_map.1 hy
    exact decide_eq_true (nid x hx)
  · refine (hp2.filter _).trans (.of_eq ?_)
    rw [List.map_append, List.map_cons, List.filter_append, List.filter_cons, if_neg (by simp), ← List.filter_append, ← List.map_append, List.filter_eq_self]
    intro y hy
    obtain ⟨x, hx, rfl⟩ := List.mem_map.1 hy
    exact decide_eq_true (nky x hx)
  · simp at this ⊢; omega
set_option maxRecDepth 100000 in
theorem rg_drop_out (r : Rg B c h b m1 m2 last (L1 ++ e :: L2)) (h1 : e.rf = 1) : CallsH Try.prog 27 ⟨[ptE b, In e.id]⟩ h fun u h' => u = .bool true ∧ Rg B c h' b m1 m2 last (L1 ++ L2) ∧ Ext (fun q => q = e.p ∨ q = m1 ∨ q = m2) h h' := by
  have he : e ∈ L1 ++ e :: L2 := by simp
  have k := rg_of r he
  have hr := r.recs e he
  have hB0 := r.blk
  have hfs := r.fair e he
  have hm0 : e.o.length ≤ maxLen := by have := (fairS_yes hfs).2.1; unfold maxLen; omega
  have hv := (r.oid e he).rd
  obtain ⟨A, cc, ev, _⟩ := id hv
  rw [ev] at hv hr
  obtain ⟨E, hm, hp⟩ := id r.mp1
  obtain ⟨E2, hm2, hp2⟩ := id r.mp2
  obtain ⟨s1, s2, _, s4⟩ := r.sep
  obtain ⟨t1, t2, t3, t4⟩ := s4 e he
  have hv1 : ∀ h', Ext (fun q => q = e.p) h h' → Rd h' (.slice A e.o.length cc) 1 e.o.length (ints e.o) := fun h' hx => by have q1 := ((r.oid e he).ext hx (fun q z => (t4 q z).2.2.2 e he)).rd; rw [ev] at q1; exact q1
  have ko := fun h' (hx : Ext (fun q => q = e.p) h h') => of_v e.t e.o (hv1 h' hx) hm0
  rw [show keyS_ e.t e.o = keyB e.t e.o from if_pos hfs] at ko
  have hsz := r.lt
  rw [h1] at hr
  unfold ptE at *
  refine calls [(0, _), (1, _)] Try.func27 rfl Try.ntmps27 rfl ⟨rfl, rfl, trivial⟩ ?_
  all_goals (refine WC.seq ?_)
  all_goals (refine WC.region ?_)
  all_goals (refine WL.step (ok_assign rfl) rfl rfl rfl ?_)
  all_goals (refine WL.nil ?_)
  all_goals (repeat' (with_reducible first | refine thenP_n ?_ | refine blockP_n ?_))
  all_goals (refine WC.seq ?_)
  all_goals (refine WC.region ?_)
  all_goals (refine WL.step (ok_move rfl) rfl rfl rfl ?_)
  all_goals (refine WL.step (ok_move rfl) rfl rfl rfl ?_)
  all_goals (refine WL.call (vs := [_, _]) rfl (fun a w => Try.call46 a w) rfl (k) rfl rfl rfl ?_
             rintro _ hz ⟨rfl, _⟩
             subst hz)
  all_goals (refine WL.step (ok_move rfl) rfl rfl rfl ?_)
  all_goals (refine WL.step (ok_extract rfl rfl) rfl rfl rfl ?_)
  all_goals (refine WL.step (ok_extract rfl rfl) rfl rfl rfl ?_)
  all_goals (refine WL.step (ok_assign rfl) rfl rfl rfl ?_)
  all_goals (refine WL.step (ok_assign rfl) rfl rfl rfl ?_)
  all_goals (refine WL.nil ?_)
  all_goals (repeat' (with_reducible first | refine thenP_n ?_ | refine blockP_n ?_))
  all_goals (refine WC.sub [(0, _), (1, _), (5, _), (6, _)] ⟨rfl, rfl, rfl, rfl, trivial⟩ ?_)
  all_goals (refine WC.seq ?_)
  all_goals (refine WC.seq ?_)
  all_goals (refine WC.region ?_)
  all_goals (refine WL.step (ok_move rfl) rfl rfl rfl ?_)
  all_goals (refine WL.step (ok_not rfl) rfl rfl rfl ?_)
  all_goals (refine WL.nil ?_)
  all_goals (repeat' (with_reducible first | refine thenP_n ?_ | refine blockP_n ?_))
  all_goals (first | refine WC.condB_t 1 rfl ?_ | refine WC.condB_f 2 rfl ?_ | (refine WC.condB 1 2 rfl (fun hb => ?_) (fun hb => ?_) <;> (first | replace hb := of_decide_eq_true hb | replace hb := of_decide_eq_false hb | replace hb := of_decide_eq_false (nt hb) | replace hb := of_decide_eq_true (nf hb) | skip)))
  all_goals (first
    | (fail_if_success (refine Br.mk (i := 1) ?_))
    | (refine Br.mk (i := 1) ?_
       all_goals (refine WC.seq ?_)
       all_goals (refine WC.region ?_)
       all_goals (refine WL.step (ok_assign rfl) rfl rfl rfl ?_)
       all_goals (refine WL.nil ?_)
       all_goals (repeat' (with_reducible first | refine thenP_n ?_ | refine blockP_n ?_))
       all_goals (refine WC.sub [(4, _)] ⟨rfl, trivial⟩ ?_)
       all_goals (refine WC.ret ?_)
       all_goals (repeat' (with_reducible first | refine thenP_r ?_ | refine blockP_r ?_))
       all_goals (refine retP_1 _ ⟨rfl, trivial⟩ ?_)
       all_goals (exact ⟨rfl, r.out (((hx1.mono fun _ _ z => .inl z).trans (hX3.mono fun _ _ z => .inr (.inr z))).trans (hx4.mono fun _ _ z => .inr (.inl z))) hp hp2 hm4 (hm3.ext hx4 (fun z => r.ne z.symm)), ((hx1.mono fun _ _ z => .inl z).trans (hX3.mono fun _ _ z => .inr (.inr z))).trans (hx4.mono fun _ _ z => .inr (.inl z))⟩)
       skip))
  all_goals (first
    | (fail_if_success (refine Br.mk (i := 2) ?_))
    | (refine Br.mk (i := 2) ?_
       all_goals (refine WC.skip ?_)
       skip))
  all_goals (repeat' (with_reducible first | refine thenP_n ?_ | refine blockP_n ?_))
  all_goals (refine WC.seq ?_)
  all_goals (refine WC.seq ?_)
  all_goals (refine WC.region ?_)
  all_goals (refine WL.step (ok_move rfl) rfl rfl rfl ?_)
  all_goals (refine WL.step (ok_nilCheck rfl) rfl rfl rfl ?_)
  all_goals (refine WL.step (ok_fieldAddr rfl Try.underlying84 rfl (fun w => Try.sizeOf3 w)) rfl rfl rfl ?_)
  all_goals (refine WL.step (ok_load (fun w => Try.isAgg3 w) rfl (by first | assumption | exact cell_blk (by assumption) rfl)) rfl rfl rfl ?_)
  all_goals (first | (refine WL.step (ok_subI rfl rfl (by omega)) rfl rfl rfl ?_) | (refine WL.step (ok_sub rfl rfl) rfl rfl rfl ?_))
  all_goals (refine WL.step (ok_nilCheck rfl) rfl rfl rfl ?_)
  all_goals (refine WL.step (ok_fieldAddr rfl Try.underlying84 rfl (fun w => Try.sizeOf3 w)) rfl rfl rfl ?_)
  all_goals (refine WL.stepR0 (okE_store (fun w => Try.sizeOf3 w) rfl rfl (by assumption) (Nat.le_of_ble_eq_true rfl) rfl rfl) rfl rfl ?_
             rintro _ h1 ⟨hb1, hx1⟩)
  all_goals (refine WL.nil ?_)
  all_goals (repeat' (with_reducible first | refine thenP_n ?_ | refine blockP_n ?_))
  all_goals (refine WC.sub [(0, _), (1, _), (5, _)] ⟨rfl, rfl, rfl, trivial⟩ ?_)
  all_goals (refine WC.seq ?_)
  all_goals (refine WC.region ?_)
  all_goals (refine WL.step (ok_move rfl) rfl rfl rfl ?_)
  all_goals (refine WL.step (ok_nilCheck rfl) rfl rfl rfl ?_)
  all_goals (refine WL.step (ok_fieldAddr rfl Try.underlying84 rfl (fun w => Try.sizeOf3 w)) rfl rfl rfl ?_)
  all_goals (refine WL.step (ok_load (fun w => Try.isAgg3 w) rfl (by first | assumption | exact cell_blk (by assumption) rfl)) rfl rfl rfl ?_)
  all_goals (first | (refine WL.step (OkP.bool_t (by omega) (ok_eql rfl rfl)) rfl rfl rfl ?_) | (refine WL.step (OkP.bool_f (by omega) (ok_eql rfl rfl)) rfl rfl rfl ?_) | (refine WL.step (ok_eql rfl rfl) rfl rfl rfl ?_))
  all_goals (refine WL.nil ?_)
  all_goals (repeat' (with_reducible first | refine thenP_n ?_ | refine blockP_n ?_))
  all_goals (refine WC.sub [(0, _), (1, _), (5, _), (26, _)] ⟨rfl, rfl, rfl, rfl, trivial⟩ ?_)
  all_goals (first | refine WC.condB_t 3 rfl ?_ | refine WC.condB_f 4 rfl ?_ | (refine WC.condB 3 4 rfl (fun hb => ?_) (fun hb => ?_) <;> (first | replace hb := of_decide_eq_true hb | replace hb := of_decide_eq_false hb | replace hb := of_decide_eq_false (nt hb) | replace hb := of_decide_eq_true (nf hb) | skip)))
  all_goals (first
    | (fail_if_success (refine Br.mk (i := 3) ?_))
    | (refine Br.mk (i := 3) ?_
       all_goals (refine WC.seq ?_)
       all_goals (refine WC.drawH (fun h' => Ext (fun q => q = m2) h1 h') 10 10 rfl fol ?_)
       all_goals (refine WH.take 0 rfl (by kernel_rfl) (by kernel_rfl) (by kernel_rfl) (by kernel_rfl) rfl (by first | exact Ext.refl _ _ | assumption) (fun hq hC => ok_move rfl) rfl rfl rfl ?_)
       all_goals (refine WH.take 1 rfl (by kernel_rfl) (by kernel_rfl) (by kernel_rfl) (by kernel_rfl) rfl (by first | exact Ext.refl _ _ | assumption) (fun hq hC => ok_nilCheck rfl) rfl rfl rfl ?_)
       all_goals (refine WH.take 2 rfl (by kernel_rfl) (by kernel_rfl) (by kernel_rfl) (by kernel_rfl) rfl (by first | exact Ext.refl _ _ | assumption) (fun hq hC => ok_fieldAddr rfl Try.underlying73 rfl (fun w => Try.sizeOf39 w)) rfl rfl rfl ?_)
       all_goals (refine WH.take 3 rfl (by kernel_rfl) (by kernel_rfl) (by kernel_rfl) (by kernel_rfl) rfl (by first | exact Ext.refl _ _ | assumption) (fun hq hC => ok_load (fun w => Try.isAgg39 w) rfl (by first | exact hC.cell (by first | exact cell_blk (hx1.obj hB0 (fun q => t1 q.symm)) rfl | assumption | exact cell_blk (by assumption) rfl) s2)) rfl rfl rfl ?_)
       all_goals (refine WH.take 4 rfl (by kernel_rfl) (by kernel_rfl) (by kernel_rfl) (by kernel_rfl) rfl (by first | exact Ext.refl _ _ | assumption) (fun hq hC => ok_move rfl) rfl rfl rfl ?_)
       all_goals (refine WH.take 5 rfl (by kernel_rfl) (by kernel_rfl) (by kernel_rfl) (by kernel_rfl) rfl (by first | exact Ext.refl _ _ | assumption) (fun hq hC => ok_nilCheck rfl) rfl rfl rfl ?_)
       all_goals (refine WH.take 6 rfl (by kernel_rfl) (by kernel_rfl) (by kernel_rfl) (by kernel_rfl) rfl (by first | exact Ext.refl _ _ | assumption) (fun hq hC => ok_fieldAddr rfl Try.underlying84 rfl (fun w => Try.sizeOf57 w)) rfl rfl rfl ?_)
       all_goals (refine WH.take 7 rfl (by kernel_rfl) (by kernel_rfl) (by kernel_rfl) (by kernel_rfl) rfl (by first | exact Ext.refl _ _ | assumption) (fun hq hC => ok_loadN (fun w => Try.isAgg57 w) (fun w => Try.sizeOf57 w) rfl rfl (by exact show At _ _ 0 [St e.t, .slice A e.o.length cc] from (At.of_block (hC.obj hb1 t3)).take 2)) rfl rfl rfl ?_)
       all_goals (refine WH.one 8 (by kernel_rfl) ?_)
       all_goals (refine Comes1.call (vs := [_]) rfl rfl (fun a w => Try.call42 a w) rfl (ko _ hx1) rfl rfl rfl ?_ (fun _ => by kernel_rfl)
                  rintro _ h2 ⟨rfl, hx2⟩)
       all_goals (refine ⟨fun _ => hx2.mono fun _ _ z => z.elim, ?_⟩)
       all_goals (refine WH.one 9 (by kernel_rfl) ?_)
       all_goals (refine Comes1.run0 rfl (ok_delete rfl keyS Try.underlying39 Try.underlying9 rfl rfl ((hm2.ext hx1 (fun q => t3 q.symm)).ext hx2 nos)) rfl rfl ?_ (fun _ => by kernel_rfl)
                  rintro _ h3 ⟨hm3, hx3⟩)
       all_goals (refine ⟨fun _ => (hx2.mono fun _ _ z => z.elim).trans hx3, ?_⟩)
       all_goals (have hX3 : Ext (fun q => q = m2) h1 h3 := (hx2.mono fun _ _ z => z.elim).trans hx3
                  have hb3 := hX3.obj (hx1.obj hB0 (fun q => t1 q.symm)) s2
                  have hmm := (hm.ext hx1 (fun q => t2 q.symm)).ext hX3 r.ne)
       all_goals (refine WH.done (by kernel_rfl) ?_)
       all_goals (repeat' (with_reducible first | refine thenP_n ?_ | refine blockP_n ?_))
       all_goals (refine WC.sub [(0, _), (1, _)] ⟨rfl, rfl, trivial⟩ ?_)
       all_goals (refine WC.region ?_)
       all_goals (refine WL.step (ok_move rfl) rfl rfl rfl ?_)
       all_goals (refine WL.step (ok_nilCheck rfl) rfl rfl rfl ?_)
       all_goals (refine WL.step (ok_fieldAddr rfl Try.underlying73 rfl (fun w => Try.sizeOf71 w)) rfl rfl rfl ?_)
       all_goals (refine WL.step (ok_load (fun w => Try.isAgg71 w) rfl (by first | exact cell_blk hb3 rfl | assumption | exact cell_blk (by assumption) rfl)) rfl rfl rfl ?_)
       all_goals (refine WL.step (ok_move rfl) rfl rfl rfl ?_)
       all_goals (refine WL.stepR0 (ok_delete rfl keyI Try.underlying71 Try.underlying3 rfl rfl hmm) rfl rfl ?_
                  rintro _ h4 ⟨hm4, hx4⟩)
       all_goals (refine WL.nil ?_)
       skip))
  all_goals (first
    | (fail_if_success (refine Br.mk (i := 4) ?_))
    | (refine Br.mk (i := 4) ?_
       all_goals (refine WC.skip ?_)
       skip))
  all_goals (repeat' (with_reducible first | refine thenP_n ?_ | refine blockP_n ?_))
  all_goals (refine WC.seq ?_)
  all_goals (refine WC.region ?_)
  all_goals (refine WL.step (ok_assign rfl) rfl rfl rfl ?_)
  all_goals (refine WL.nil ?_)
  all_goals (repeat' (with_reducible first | refine thenP_n ?_ | refine blockP_n ?_))
  all_goals (refine WC.ret ?_)
  all_goals (repeat' (with_reducible first | refine thenP_r ?_ | refine blockP_r ?_))
  all_goals (refine retP_1 _ ⟨rfl, trivial⟩ ?_)
  all_goals (exact ⟨rfl, r.out (((hx1.mono fun _ _ z => .inl z).trans (hX3.mono fun _ _ z => .inr (.inr z))).trans (hx4.mono fun _ _ z => .inr (.inl z))) hp hp2 hm4 (hm3.ext hx4 (fun z => r.ne z.symm)), ((hx1.mono fun _ _ z => .inl z).trans (hX3.mono fun _ _ z => .inr (.inr z))).trans (hx4.mono fun _ _ z => .inr (.inl z))⟩)
end
end Go.Proofs.Ytkpgnhhidnkmcaa

