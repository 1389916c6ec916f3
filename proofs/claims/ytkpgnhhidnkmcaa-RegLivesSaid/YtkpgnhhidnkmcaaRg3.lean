/-
  REGISTRY (layer 14): Put.
-/
import Derived.Test.YtkpgnhhidnkmcaaRg2
namespace Go.Proofs.Ytkpgnhhidnkmcaa
open Go Go.RK

section
variable {B : Nat} {c : Int} {h h' : Heap} {b m1 m2 : Nat} {last : Int} {L : List En}
theorem Rg.add {t : List UInt8} {o : List Int} {p : Nat} {v : Value} (r : Rg B c h b m1 m2 last L) (a : Ext (fun q => q = b ∨ q = m1 ∨ q = m2) h h')
    (hb : h'[b]? = some (.cells ⟨[.map (some m1), .map (some m2), In (last + 1)]⟩ 73 (0, 0)))
    {E : List (Int × Value)} {E2 : List (List UInt8 × Value)} (hp : E.Perm (L.map fun e => (e.id, ptE e.p))) (hp2 : E2.Perm (L.map fun e => (keyB e.t e.o, In e.id)))
    (he1 : alook E (last + 1) = none) (he2 : alook E2 (keyB t o) = none)
    (hm : Mp (.int .i64) In h' m1 (aput E (last + 1) (ptE p))) (hm2 : Mp .string St h' m2 (aput E2 (keyB t o) (In (last + 1))))
    (hr : h'[p]? = some (.cells ⟨[St t, v, In 1]⟩ 84 (0, 0))) (ho : Own h' v 3 1 o.length (ints o)) (hf : fairS t o = true) (hq : h.size ≤ p) (hv : ∀ q, v.ownBlock = some q → h.size ≤ q)
    (hno : ∀ e ∈ L, ¬ (e.t = t ∧ e.o = o)) (hc : c + 1 ≤ 1000000) : Rg B (c + 1) h' b m1 m2 (last + 1) (L ++ [⟨last + 1, 1, t, o, p, v⟩]) := by
  obtain ⟨s1, s2, _, s4⟩ := r.sep
  obtain ⟨l1, l2, l3, l4, l5⟩ := r.lt
  have bd := r.bd
  have lo := r.lo
  have cases_ : ∀ {x}, x ∈ L ++ [(⟨last + 1, 1, t, o, p, v⟩ : En)] → x ∈ L ∨ x = ⟨last + 1, 1, t, o, p, v⟩ := fun {x} hx => by simpa using hx
  have kr : ∀ {K : En → En → Prop}, L.Pairwise K → (∀ x ∈ L, K x ⟨last + 1, 1, t, o, p, v⟩) → (L ++ [(⟨last + 1, 1, t, o, p, v⟩ : En)]).Pairwise K := fun {K} h1 h2 => by
    rw [List.pairwise_append]
    exact ⟨h1, List.pairwise_singleton _ _, fun x hx y hy => by rw [List.mem_singleton.1 hy]; exact h2 x hx⟩
  refine ⟨hb, ⟨_, hm, ?_⟩, ⟨_, hm2, ?_⟩, fun x hx => ?_, fun x hx => ?_, fun x hx => ?_, fun x hx => ?_, kr r.rise (fun x hx => ?_), fun x hx => ?_, kr r.keys (fun x hx => hno x hx), kr r.ptrs (fun x hx => ?_), ⟨lo.1, lo.2.1, lo.2.2.1, fun x hx => ?_⟩, r.ne, ?_⟩
  · unfold aput
    rw [he1, List.map_append]
    exact hp.append_right _
  · unfold aput
    rw [he2, List.map_append]
    exact hp2.append_right _
  · rcases cases_ hx with hx | rfl
    · exact a.obj (r.recs x hx) (fun q => by have := s4 x hx; rcases q with q | q | q; exact this.1 q; exact this.2.1 q; exact this.2.2.1 q)
    · exact hr
  · rcases cases_ hx with hx | rfl
    · exact (r.oid x hx).ext a (fun q hq z => by have := (s4 x hx).2.2.2 q hq; rcases z with z | z | z; exact this.1 z; exact this.2.1 z; exact this.2.2.1 z)
    · exact ho
  · rcases cases_ hx with hx | rfl
    · exact r.fair x hx
    · exact hf
  · rcases cases_ hx with hx | rfl
    · have := r.rf1 x hx; omega
    · simp; omega
  · have := r.top x hx; simp; omega
  · rcases cases_ hx with hx | rfl
    · have := r.top x hx; omega
    · simp; omega
  · have := l4 x hx; simp; omega
  · rcases cases_ hx with hx | rfl
    · exact lo.2.2.2 x hx
    · exact ⟨by simp; omega, fun q hq => by have := hv q hq; omega⟩
  · simp; omega
set_option maxRecDepth 100000 in
theorem rg_put_zero (r : Rg B c h b m1 m2 last L) {t : List UInt8} {o : List Int} (hf : fairS t o = false) {v : Value} (hv : Rd h v 1 o.length (ints o)) (hol : o.length ≤ maxLen) :
    CallsH Try.prog 23 ⟨[ptE b, .agg ⟨[St t, v]⟩]⟩ h fun u h' => u = In 0 ∧ Ext No h h' := by
  have kr := fun h' (hx : Ext No h h') => rg_ready (r.ext0 hx)
  have ko := fun h' (hx : Ext No h h') => of_v t o (hv.ext0 hx) hol
  obtain ⟨A, cc, rfl, hzz⟩ := id hv
  clear hzz
  rw [show keyS_ t o = [] by unfold keyS_; rw [hf]; rfl] at ko
  unfold ptE at *
  refine calls [(0, _), (1, _)] Try.func23 rfl Try.ntmps23 rfl ⟨rfl, rfl, trivial⟩ ?_
  all_goals (refine WC.seq ?_)
  all_goals (refine WC.region ?_)
  all_goals (refine WL.stepR (okE_box rfl) rfl rfl rfl ?_
             rintro _ h1 ⟨b1, rfl, hg1, hb1, hx1⟩)
  all_goals (refine WL.step (ok_assign rfl) rfl rfl rfl ?_)
  all_goals (refine WL.nil ?_)
  all_goals (repeat' (with_reducible first | refine thenP_n ?_ | refine blockP_n ?_))
  all_goals (refine WC.seq ?_)
  all_goals (refine WC.region ?_)
  all_goals (refine WL.step (ok_loadN (fun w => Try.isAgg57 w) (fun w => Try.sizeOf57 w) rfl rfl (by exact At.of_block hb1)) rfl rfl rfl ?_)
  all_goals (refine WL.call (vs := [_]) rfl (fun a w => Try.call42 a w) rfl (ko _ hx1) rfl rfl rfl ?_
             rintro _ h2 ⟨rfl, hx2⟩)
  all_goals (refine WL.step (ok_assign rfl) rfl rfl rfl ?_)
  all_goals (refine WL.nil ?_)
  all_goals (repeat' (with_reducible first | refine thenP_n ?_ | refine blockP_n ?_))
  all_goals (refine WC.sub [(0, _), (3, _), (5, _)] ⟨rfl, rfl, rfl, trivial⟩ ?_)
  all_goals (refine WC.seq ?_)
  all_goals (refine WC.seq ?_)
  all_goals (refine WC.region ?_)
  all_goals (refine WL.step (ok_move rfl) rfl rfl rfl ?_)
  all_goals (refine WL.call (vs := [_]) rfl (fun a w => Try.call43 a w) rfl (kr _ (hx1.trans hx2)) rfl rfl rfl ?_
             rintro _ hz ⟨rfl, _⟩
             subst hz)
  all_goals (refine WL.step (ok_not rfl) rfl rfl rfl ?_)
  all_goals (refine WL.step (ok_move rfl) rfl rfl rfl ?_)
  all_goals (try ((fail_if_success (refine WL.part 14 (b := true) rfl (fun _ => ?_) (fun _ => ?_))); (fail_if_success (refine WL.part 14 (b := false) rfl (fun _ => ?_) (fun _ => ?_))); (refine WL.part 14 rfl (fun hb => ?_) (fun hb => ?_) <;> (first | replace hb := of_decide_eq_true hb | replace hb := of_decide_eq_false hb | replace hb := of_decide_eq_false (nt hb) | replace hb := of_decide_eq_true (nf hb) | skip))))
  all_goals (first | (refine WL.pass rfl rfl rfl ?_) | (refine WL.step (ok_move rfl) rfl rfl rfl ?_))
  all_goals (first | (refine WL.pass rfl rfl rfl ?_) | (first | (refine WL.step (OkP.bool_t (by first | rfl | assumption | decide) (ok_eqlS rfl rfl)) rfl rfl rfl ?_) | (refine WL.step (OkP.bool_f (by first | assumption | decide) (ok_eqlS rfl rfl)) rfl rfl rfl ?_) | (refine WL.step (ok_eqlS rfl rfl) rfl rfl rfl ?_)))
  all_goals (first | (refine WL.step (ok_pick_t rfl rfl) rfl rfl rfl ?_) | (refine WL.step (ok_pick_f rfl rfl) rfl rfl rfl ?_))
  all_goals (refine WL.nil ?_)
  all_goals (repeat' (with_reducible first | refine thenP_n ?_ | refine blockP_n ?_))
  all_goals (refine WC.sub [(0, _), (3, _), (5, _), (17, _)] ⟨rfl, rfl, rfl, rfl, trivial⟩ ?_)
  all_goals (first | refine WC.condB_t 1 rfl ?_ | refine WC.condB_f 2 rfl ?_ | (refine WC.condB 1 2 rfl (fun hb => ?_) (fun hb => ?_) <;> (first | replace hb := of_decide_eq_true hb | replace hb := of_decide_eq_false hb | replace hb := of_decide_eq_false (nt hb) | replace hb := of_decide_eq_true (nf hb) | skip)))
  all_goals (first
    | (fail_if_success (refine Br.mk (i := 1) ?_))
    | (refine Br.mk (i := 1) ?_
       all_goals (refine WC.seq ?_)
       all_goals (refine WC.region ?_)
       all_goals (refine WL.step (ok_assign rfl) rfl rfl rfl ?_)
       all_goals (refine WL.nil ?_)
       all_goals (repeat' (with_reducible first | refine thenP_n ?_ | refine blockP_n ?_))
       all_goals (refine WC.sub [(4, _)] ⟨rfl, trivial⟩ ?_)
       all_goals (refine WC.ret ?_)
       all_goals (repeat' (with_reducible first | refine thenP_r ?_ | refine blockP_r ?_))
       all_goals (refine retP_1 _ ⟨rfl, trivial⟩ ?_)
       all_goals (exact ⟨rfl, hx1.trans hx2⟩)
       skip))
  all_goals (first
    | (fail_if_success (refine Br.mk (i := 2) ?_))
    | (refine Br.mk (i := 2) ?_
       all_goals (refine WC.skip ?_)
       skip))
  all_goals (repeat' (with_reducible first | refine thenP_n ?_ | refine blockP_n ?_))
  all_goals (refine WC.seq ?_)
  all_goals (refine WC.seq ?_)
  all_goals (refine WC.region ?_)
  all_goals (refine WL.step (ok_move rfl) rfl rfl rfl ?_)
  all_goals (refine WL.step (ok_nilCheck rfl) rfl rfl rfl ?_)
  all_goals (refine WL.step (ok_fieldAddr rfl Try.underlying73 rfl (fun w => Try.sizeOf39 w)) rfl rfl rfl ?_)
  all_goals (refine WL.step (ok_load (fun w => Try.isAgg39 w) rfl (by first | assumption | exact cell_blk (by assumption) rfl)) rfl rfl rfl ?_)
  all_goals (refine WL.step (ok_move rfl) rfl rfl rfl ?_)
  all_goals (first | (refine WL.step ((ok_lookup keyS Try.underlying39 Try.underlying9 rfl rfl (by assumption) (by assumption)).1) rfl rfl rfl ?_) | (refine WL.step ((ok_lookup_no keyS Try.underlying39 Try.underlying9 (fun w => Try.zeroValue3 w) rfl rfl (by assumption) (by assumption)).1) rfl rfl rfl ?_) | (refine WL.step ((ok_lookup_nil keyS Try.underlying39 Try.underlying9 (fun w => Try.zeroValue3 w) rfl rfl).1) rfl rfl rfl ?_))
  all_goals (refine WL.step (ok_move rfl) rfl rfl rfl ?_)
  all_goals (refine WL.step (ok_extract rfl rfl) rfl rfl rfl ?_)
  all_goals (refine WL.step (ok_extract rfl rfl) rfl rfl rfl ?_)
  all_goals (refine WL.step (ok_assign rfl) rfl rfl rfl ?_)
  all_goals (refine WL.step (ok_assign rfl) rfl rfl rfl ?_)
  all_goals (refine WL.nil ?_)
  all_goals (repeat' (with_reducible first | refine thenP_n ?_ | refine blockP_n ?_))
  all_goals (refine WC.sub [(0, _), (3, _), (5, _), (6, _), (7, _)] ⟨rfl, rfl, rfl, rfl, rfl, trivial⟩ ?_)
  all_goals (refine WC.seq ?_)
  all_goals (refine WC.region ?_)
  all_goals (refine WL.step (ok_move rfl) rfl rfl rfl ?_)
  all_goals (refine WL.nil ?_)
  all_goals (repeat' (with_reducible first | refine thenP_n ?_ | refine blockP_n ?_))
  all_goals (first | refine WC.condB_t 3 rfl ?_ | refine WC.condB_f 4 rfl ?_ | (refine WC.condB 3 4 rfl (fun hb => ?_) (fun hb => ?_) <;> (first | replace hb := of_decide_eq_true hb | replace hb := of_decide_eq_false hb | replace hb := of_decide_eq_false (nt hb) | replace hb := of_decide_eq_true (nf hb) | skip)))
  all_goals (first
    | (fail_if_success (refine Br.mk (i := 3) ?_))
    | (refine Br.mk (i := 3) ?_
       all_goals (refine WC.seq ?_)
       all_goals (refine WC.region ?_)
       all_goals (refine WL.step (ok_move rfl) rfl rfl rfl ?_)
       all_goals (refine WL.step (ok_nilCheck rfl) rfl rfl rfl ?_)
       all_goals (refine WL.step (ok_fieldAddr rfl Try.underlying73 rfl (fun w => Try.sizeOf71 w)) rfl rfl rfl ?_)
       all_goals (refine WL.step (ok_load (fun w => Try.isAgg71 w) rfl (by first | assumption | exact cell_blk (by assumption) rfl)) rfl rfl rfl ?_)
       all_goals (refine WL.step (ok_move rfl) rfl rfl rfl ?_)
       all_goals (first | (refine WL.step ((ok_lookup keyI Try.underlying71 Try.underlying3 rfl rfl (by assumption) (by assumption)).2) rfl rfl rfl ?_) | (refine WL.step ((ok_lookup_no keyI Try.underlying71 Try.underlying3 (fun w => Try.zeroValue85 w) rfl rfl (by assumption) (by assumption)).2) rfl rfl rfl ?_) | (refine WL.step ((ok_lookup_nil keyI Try.underlying71 Try.underlying3 (fun w => Try.zeroValue85 w) rfl rfl).2) rfl rfl rfl ?_))
       all_goals (refine WL.step (ok_nilCheck rfl) rfl rfl rfl ?_)
       all_goals (refine WL.step (ok_fieldAddr rfl Try.underlying84 rfl (fun w => Try.sizeOf3 w)) rfl rfl rfl ?_)
       all_goals (refine WL.step (ok_load (fun w => Try.isAgg3 w) rfl (by first | assumption | exact cell_blk (by assumption) rfl)) rfl rfl rfl ?_)
       all_goals (first | (refine WL.step (ok_addI rfl rfl (by omega)) rfl rfl rfl ?_) | (refine WL.step (ok_add rfl rfl) rfl rfl rfl ?_))
       all_goals (refine WL.step (ok_nilCheck rfl) rfl rfl rfl ?_)
       all_goals (refine WL.step (ok_fieldAddr rfl Try.underlying84 rfl (fun w => Try.sizeOf3 w)) rfl rfl rfl ?_)
       all_goals (refine WL.stepR0 (okE_store (fun w => Try.sizeOf3 w) rfl rfl (by assumption) (Nat.le_of_ble_eq_true rfl) rfl rfl) rfl rfl ?_
                  rintro _ h1 ⟨hb1, hx1⟩)
       all_goals (refine WL.nil ?_)
       all_goals (repeat' (with_reducible first | refine thenP_n ?_ | refine blockP_n ?_))
       all_goals (refine WC.sub [(6, _)] ⟨rfl, trivial⟩ ?_)
       all_goals (refine WC.seq ?_)
       all_goals (refine WC.region ?_)
       all_goals (refine WL.step (ok_move rfl) rfl rfl rfl ?_)
       all_goals (refine WL.step (ok_assign rfl) rfl rfl rfl ?_)
       all_goals (refine WL.nil ?_)
       all_goals (repeat' (with_reducible first | refine thenP_n ?_ | refine blockP_n ?_))
       all_goals (refine WC.ret ?_)
       all_goals (repeat' (with_reducible first | refine thenP_r ?_ | refine blockP_r ?_))
       all_goals (refine retP_1 _ ⟨rfl, trivial⟩ ?_)
       all_goals (exact ⟨rfl, hx1.trans hx2⟩)
       skip))
  all_goals (first
    | (fail_if_success (refine Br.mk (i := 4) ?_))
    | (refine Br.mk (i := 4) ?_
       all_goals (refine WC.skip ?_)
       skip))
  all_goals (repeat' (with_reducible first | refine thenP_n ?_ | refine blockP_n ?_))
  all_goals (refine WC.seq ?_)
  all_goals (refine WC.region ?_)
  all_goals (refine WL.step (ok_move rfl) rfl rfl rfl ?_)
  all_goals (refine WL.step (ok_nilCheck rfl) rfl rfl rfl ?_)
  all_goals (refine WL.step (ok_fieldAddr rfl Try.underlying73 rfl (fun w => Try.sizeOf3 w)) rfl rfl rfl ?_)
  all_goals (refine WL.step (ok_load (fun w => Try.isAgg3 w) rfl (by first | assumption | exact cell_blk (by assumption) rfl)) rfl rfl rfl ?_)
  all_goals (first | (refine WL.step (ok_addI rfl rfl (by omega)) rfl rfl rfl ?_) | (refine WL.step (ok_add rfl rfl) rfl rfl rfl ?_))
  all_goals (refine WL.step (ok_nilCheck rfl) rfl rfl rfl ?_)
  all_goals (refine WL.step (ok_fieldAddr rfl Try.underlying73 rfl (fun w => Try.sizeOf3 w)) rfl rfl rfl ?_)
  all_goals (refine WL.stepR0 (okE_store (fun w => Try.sizeOf3 w) rfl rfl (by assumption) (Nat.le_of_ble_eq_true rfl) rfl rfl) rfl rfl ?_
             rintro _ h1 ⟨hb1, hx1⟩)
  all_goals (refine WL.nil ?_)
  all_goals (repeat' (with_reducible first | refine thenP_n ?_ | refine blockP_n ?_))
  all_goals (refine WC.sub [(0, _), (3, _), (5, _)] ⟨rfl, rfl, rfl, trivial⟩ ?_)
  all_goals (refine WC.seq ?_)
  all_goals (refine WC.drawE fol (by kernel_rfl) ?_)
  all_goals (refine WQ.stepE (ok_fieldAddr rfl Try.underlying57 rfl (fun w => Try.sizeOf9 w)) rfl rfl rfl ?_)
  all_goals (refine WQ.stepE (ok_load (fun w => Try.isAgg9 w) rfl (by first | assumption | exact cell_blk (by assumption) rfl)) rfl rfl rfl ?_)
  all_goals (refine WQ.stepE (ok_fieldAddr rfl Try.underlying57 rfl (fun w => Try.sizeOf55 w)) rfl rfl rfl ?_)
  all_goals (refine WQ.stepE (ok_load (fun w => Try.isAgg55 w) rfl (by first | assumption | exact cell_blk (by assumption) rfl)) rfl rfl rfl ?_)
  all_goals (fail "no contract for call of slices.Clone[[]int,int] at 9.4")
  all_goals (refine WQ.stepE (ok_buildF (vs := [_, _]) (cs := [_, _]) (fun | [a0, a1] => [a0, a1] | _ => []) rfl rfl (by kernel_rfl)) rfl rfl rfl ?_)
  all_goals (refine WL.stepR (okE_alloc (fun w => Try.zeroValue57 w)) rfl rfl rfl ?_
             rintro _ h1 ⟨b1, rfl, hg1, hb1, hx1⟩)
  all_goals (refine WL.stepR0 (okE_storeW (fun w => Try.sizeOf57 w) rfl rfl rfl (by assumption) rfl (by simp [Value.oneCell'])) rfl rfl ?_
             rintro _ h1 ⟨hb1, hx1⟩)
  all_goals (refine WQ.nil ?_)
  all_goals (repeat' (with_reducible first | refine thenP_n ?_ | refine blockP_n ?_))
  all_goals (refine WC.sub [(0, _), (5, _), (8, _)] ⟨rfl, rfl, rfl, trivial⟩ ?_)
  all_goals (refine WC.seq ?_)
  all_goals (refine WC.drawE fol (by kernel_rfl) ?_)
  all_goals (refine WQ.stepE (ok_move rfl) rfl rfl rfl ?_)
  all_goals (refine WQ.stepE (ok_nilCheck rfl) rfl rfl rfl ?_)
  all_goals (refine WQ.stepE (ok_fieldAddr rfl Try.underlying73 rfl (fun w => Try.sizeOf71 w)) rfl rfl rfl ?_)
  all_goals (refine WQ.stepE (ok_load (fun w => Try.isAgg71 w) rfl (by first | assumption | exact cell_blk (by assumption) rfl)) rfl rfl rfl ?_)
  all_goals (refine WQ.stepE (ok_move rfl) rfl rfl rfl ?_)
  all_goals (refine WQ.stepE (ok_nilCheck rfl) rfl rfl rfl ?_)
  all_goals (refine WQ.stepE (ok_fieldAddr rfl Try.underlying73 rfl (fun w => Try.sizeOf3 w)) rfl rfl rfl ?_)
  all_goals (refine WQ.stepE (ok_load (fun w => Try.isAgg3 w) rfl (by first | assumption | exact cell_blk (by assumption) rfl)) rfl rfl rfl ?_)
  all_goals (refine WQ.stepE (ok_move rfl) rfl rfl rfl ?_)
  all_goals (refine WQ.stepE (ok_nilCheck rfl) rfl rfl rfl ?_)
  all_goals (refine WQ.stepE (ok_fieldAddr rfl Try.underlying73 rfl (fun w => Try.sizeOf39 w)) rfl rfl rfl ?_)
  all_goals (refine WQ.stepE (ok_load (fun w => Try.isAgg39 w) rfl (by first | assumption | exact cell_blk (by assumption) rfl)) rfl rfl rfl ?_)
  all_goals (refine WQ.stepE (ok_move rfl) rfl rfl rfl ?_)
  all_goals (refine WQ.stepE (ok_loadN (fun w => Try.isAgg57 w) (fun w => Try.sizeOf57 w) rfl rfl (by assumption)) rfl rfl rfl ?_)
  all_goals (refine WQ.stepE (ok_buildF (vs := [_, _]) (cs := [_, _, _]) (fun | [.agg ⟨[a0, a1]⟩, a2] => [a0, a1, a2] | _ => []) rfl rfl (by kernel_rfl)) rfl rfl rfl ?_)
  all_goals (refine WL.stepR (okE_box rfl) rfl rfl rfl ?_
             rintro _ h1 ⟨b1, rfl, hg1, hb1, hx1⟩)
  all_goals (refine WQ.stepE (ok_move rfl) rfl rfl rfl ?_)
  all_goals (refine WQ.stepE (ok_nilCheck rfl) rfl rfl rfl ?_)
  all_goals (refine WQ.stepE (ok_fieldAddr rfl Try.underlying73 rfl (fun w => Try.sizeOf3 w)) rfl rfl rfl ?_)
  all_goals (refine WQ.stepE (ok_load (fun w => Try.isAgg3 w) rfl (by first | assumption | exact cell_blk (by assumption) rfl)) rfl rfl rfl ?_)
  all_goals (refine WL.stepR (okE_mapEntry keyI Try.underlying71 Try.underlying3 (fun w => Try.zeroValue85 w) rfl rfl (by assumption) (by assumption)) rfl rfl rfl ?_
             rintro _ h1 ⟨st1, rfl, he1, hx1⟩)
  all_goals (refine WQ.stepE (ok_extract rfl rfl) rfl rfl rfl ?_)
  all_goals (refine WL.stepR0 (okE_entryStore rfl rfl rfl (by assumption)) rfl rfl ?_
             rintro _ h1 ⟨hm1, hx1⟩)
  all_goals (refine WL.stepR (okE_mapEntry keyS Try.underlying39 Try.underlying9 (fun w => Try.zeroValue3 w) rfl rfl (by assumption) (by assumption)) rfl rfl rfl ?_
             rintro _ h1 ⟨st1, rfl, he1, hx1⟩)
  all_goals (refine WQ.stepE (ok_extract rfl rfl) rfl rfl rfl ?_)
  all_goals (refine WL.stepR0 (okE_entryStore rfl rfl rfl (by assumption)) rfl rfl ?_
             rintro _ h1 ⟨hm1, hx1⟩)
  all_goals (refine WQ.nil ?_)
  all_goals (repeat' (with_reducible first | refine thenP_n ?_ | refine blockP_n ?_))
  all_goals (refine WC.sub [(0, _)] ⟨rfl, trivial⟩ ?_)
  all_goals (refine WC.seq ?_)
  all_goals (refine WC.region ?_)
  all_goals (refine WL.step (ok_move rfl) rfl rfl rfl ?_)
  all_goals (refine WL.step (ok_nilCheck rfl) rfl rfl rfl ?_)
  all_goals (refine WL.step (ok_fieldAddr rfl Try.underlying73 rfl (fun w => Try.sizeOf3 w)) rfl rfl rfl ?_)
  all_goals (refine WL.step (ok_load (fun w => Try.isAgg3 w) rfl (by first | assumption | exact cell_blk (by assumption) rfl)) rfl rfl rfl ?_)
  all_goals (refine WL.step (ok_assign rfl) rfl rfl rfl ?_)
  all_goals (refine WL.nil ?_)
  all_goals (repeat' (with_reducible first | refine thenP_n ?_ | refine blockP_n ?_))
  all_goals (refine WC.sub [(4, _)] ⟨rfl, trivial⟩ ?_)
  all_goals (refine WC.ret ?_)
  all_goals (repeat' (with_reducible first | refine thenP_r ?_ | refine blockP_r ?_))
  all_goals (refine retP_1 _ ⟨rfl, trivial⟩ ?_)
  all_goals (exact ⟨rfl, hx1.trans hx2⟩)
set_option maxRecDepth 100000 in
theorem rg_put_old {L1 L2 : List En} {e : En} (r : Rg B c h b m1 m2 last (L1 ++ e :: L2)) {v : Value} (hv : Rd h v 1 e.o.length (ints e.o)) (hc : c + 1 ≤ 1000000) :
    CallsH Try.prog 23 ⟨[ptE b, .agg ⟨[St e.t, v]⟩]⟩ h fun u h' => u = In e.id ∧ Rg B (c + 1) h' b m1 m2 last (L1 ++ { e with rf := e.rf + 1 } :: L2) ∧ Ext (fun q => q = e.p) h h' := by
  have he : e ∈ L1 ++ e :: L2 := by simp
  have hfs := r.fair e he
  have hol : e.o.length ≤ maxLen := by have := (fairS_yes hfs).2.1; unfold maxLen; omega
  have kr := fun h' (hx : Ext No h h') => rg_ready (r.ext0 hx)
  have ko := fun h' (hx : Ext No h h') => of_v e.t e.o (hv.ext0 hx) hol
  have hr := r.recs e he
  have hrf := r.rf1 e he
  have hB0 := r.blk
  obtain ⟨A, cc, rfl, hzz⟩ := id hv
  clear hzz
  obtain ⟨E2, hm2, hp2, ha2, _⟩ := r.at2
  have hl2 := ha2 e he
  obtain ⟨E, hm, hp, ha, _⟩ := r.at1
  have hl := ha e he
  have hsz := r.lt.2.2.2.1 e he
  rw [show keyS_ e.t e.o = keyB e.t e.o from if_pos hfs] at ko
  unfold ptE at *
  refine calls [(0, _), (1, _)] Try.func23 rfl Try.ntmps23 rfl ⟨rfl, rfl, trivial⟩ ?_
  all_goals (refine WC.seq ?_)
  all_goals (refine WC.region ?_)
  all_goals (refine WL.stepR (okE_box rfl) rfl rfl rfl ?_
             rintro _ h1 ⟨b1, rfl, hg1, hb1, hx1⟩)
  all_goals (refine WL.step (ok_assign rfl) rfl rfl rfl ?_)
  all_goals (refine WL.nil ?_)
  all_goals (repeat' (with_reducible first | refine thenP_n ?_ | refine blockP_n ?_))
  all_goals (refine WC.seq ?_)
  all_goals (refine WC.region ?_)
  all_goals (refine WL.step (ok_loadN (fun w => Try.isAgg57 w) (fun w => Try.sizeOf57 w) rfl rfl (by exact At.of_block hb1)) rfl rfl rfl ?_)
  all_goals (refine WL.call (vs := [_]) rfl (fun a w => Try.call42 a w) rfl (ko _ hx1) rfl rfl rfl ?_
             rintro _ h2 ⟨rfl, hx2⟩)
  all_goals (have hX2 := hx1.trans hx2)
  all_goals (refine WL.step (ok_assign rfl) rfl rfl rfl ?_)
  all_goals (refine WL.nil ?_)
  all_goals (repeat' (with_reducible first | refine thenP_n ?_ | refine blockP_n ?_))
  all_goals (refine WC.sub [(0, _), (3, _), (5, _)] ⟨rfl, rfl, rfl, trivial⟩ ?_)
  all_goals (refine WC.seq ?_)
  all_goals (refine WC.seq ?_)
  all_goals (refine WC.region ?_)
  all_goals (refine WL.step (ok_move rfl) rfl rfl rfl ?_)
  all_goals (refine WL.call (vs := [_]) rfl (fun a w => Try.call43 a w) rfl (kr _ hX2) rfl rfl rfl ?_
             rintro _ hz ⟨rfl, _⟩
             subst hz)
  all_goals (refine WL.step (ok_not rfl) rfl rfl rfl ?_)
  all_goals (refine WL.step (ok_move rfl) rfl rfl rfl ?_)
  all_goals (try ((fail_if_success (refine WL.part 14 (b := true) rfl (fun _ => ?_) (fun _ => ?_))); (fail_if_success (refine WL.part 14 (b := false) rfl (fun _ => ?_) (fun _ => ?_))); (refine WL.part 14 rfl (fun hb => ?_) (fun hb => ?_) <;> (first | replace hb := of_decide_eq_true hb | replace hb := of_decide_eq_false hb | replace hb := of_decide_eq_false (nt hb) | replace hb := of_decide_eq_true (nf hb) | skip))))
  all_goals (first | (refine WL.pass rfl rfl rfl ?_) | (refine WL.step (ok_move rfl) rfl rfl rfl ?_))
  all_goals (first | (refine WL.pass rfl rfl rfl ?_) | (first | (refine WL.step (OkP.bool_t (by first | rfl | assumption | decide) (ok_eqlS rfl rfl)) rfl rfl rfl ?_) | (refine WL.step (OkP.bool_f (by first | assumption | decide) (ok_eqlS rfl rfl)) rfl rfl rfl ?_) | (refine WL.step (ok_eqlS rfl rfl) rfl rfl rfl ?_)))
  all_goals (first | (refine WL.step (ok_pick_t rfl rfl) rfl rfl rfl ?_) | (refine WL.step (ok_pick_f rfl rfl) rfl rfl rfl ?_))
  all_goals (refine WL.nil ?_)
  all_goals (repeat' (with_reducible first | refine thenP_n ?_ | refine blockP_n ?_))
  all_goals (refine WC.sub [(0, _), (3, _), (5, _), (17, _)] ⟨rfl, rfl, rfl, rfl, trivial⟩ ?_)
  all_goals (first | refine WC.condB_t 1 rfl ?_ | refine WC.condB_f 2 rfl ?_ | (refine WC.condB 1 2 rfl (fun hb => ?_) (fun hb => ?_) <;> (first | replace hb := of_decide_eq_true hb | replace hb := of_decide_eq_false hb | replace hb := of_decide_eq_false (nt hb) | replace hb := of_decide_eq_true (nf hb) | skip)))
  all_goals (first
    | (fail_if_success (refine Br.mk (i := 1) ?_))
    | (refine Br.mk (i := 1) ?_
       all_goals (refine WC.seq ?_)
       all_goals (refine WC.region ?_)
       all_goals (refine WL.step (ok_assign rfl) rfl rfl rfl ?_)
       all_goals (refine WL.nil ?_)
       all_goals (repeat' (with_reducible first | refine thenP_n ?_ | refine blockP_n ?_))
       all_goals (refine WC.sub [(4, _)] ⟨rfl, trivial⟩ ?_)
       all_goals (refine WC.ret ?_)
       all_goals (repeat' (with_reducible first | refine thenP_r ?_ | refine blockP_r ?_))
       all_goals (refine retP_1 _ ⟨rfl, trivial⟩ ?_)
       all_goals (first | exact absurd hb (keyB_ne _ _) | exact ⟨rfl, (r.ext0 hX2).bump (by omega) hx3 hb3 hc, (hX2.mono fun _ _ z => z.elim).trans hx3⟩)
       skip))
  all_goals (first
    | (fail_if_success (refine Br.mk (i := 2) ?_))
    | (refine Br.mk (i := 2) ?_
       all_goals (refine WC.skip ?_)
       skip))
  all_goals (repeat' (with_reducible first | refine thenP_n ?_ | refine blockP_n ?_))
  all_goals (refine WC.seq ?_)
  all_goals (refine WC.seq ?_)
  all_goals (refine WC.region ?_)
  all_goals (refine WL.step (ok_move rfl) rfl rfl rfl ?_)
  all_goals (refine WL.step (ok_nilCheck rfl) rfl rfl rfl ?_)
  all_goals (refine WL.step (ok_fieldAddr rfl Try.underlying73 rfl (fun w => Try.sizeOf39 w)) rfl rfl rfl ?_)
  all_goals (refine WL.step (ok_load (fun w => Try.isAgg39 w) rfl (by first | exact cell_blk (hX2.obj hB0 nos) rfl | assumption | exact cell_blk (by assumption) rfl)) rfl rfl rfl ?_)
  all_goals (refine WL.step (ok_move rfl) rfl rfl rfl ?_)
  all_goals (first | (refine WL.step ((ok_lookup keyS Try.underlying39 Try.underlying9 rfl rfl (hm2.ext hX2 nos) hl2).1) rfl rfl rfl ?_) | (refine WL.step ((ok_lookup_no keyS Try.underlying39 Try.underlying9 (fun w => Try.zeroValue3 w) rfl rfl (hm2.ext hX2 nos) hl2).1) rfl rfl rfl ?_) | (refine WL.step ((ok_lookup_nil keyS Try.underlying39 Try.underlying9 (fun w => Try.zeroValue3 w) rfl rfl).1) rfl rfl rfl ?_))
  all_goals (refine WL.step (ok_move rfl) rfl rfl rfl ?_)
  all_goals (refine WL.step (ok_extract rfl rfl) rfl rfl rfl ?_)
  all_goals (refine WL.step (ok_extract rfl rfl) rfl rfl rfl ?_)
  all_goals (refine WL.step (ok_assign rfl) rfl rfl rfl ?_)
  all_goals (refine WL.step (ok_assign rfl) rfl rfl rfl ?_)
  all_goals (refine WL.nil ?_)
  all_goals (repeat' (with_reducible first | refine thenP_n ?_ | refine blockP_n ?_))
  all_goals (refine WC.sub [(0, _), (3, _), (5, _), (6, _), (7, _)] ⟨rfl, rfl, rfl, rfl, rfl, trivial⟩ ?_)
  all_goals (refine WC.seq ?_)
  all_goals (refine WC.region ?_)
  all_goals (refine WL.step (ok_move rfl) rfl rfl rfl ?_)
  all_goals (refine WL.nil ?_)
  all_goals (repeat' (with_reducible first | refine thenP_n ?_ | refine blockP_n ?_))
  all_goals (first | refine WC.condB_t 3 rfl ?_ | refine WC.condB_f 4 rfl ?_ | (refine WC.condB 3 4 rfl (fun hb => ?_) (fun hb => ?_) <;> (first | replace hb := of_decide_eq_true hb | replace hb := of_decide_eq_false hb | replace hb := of_decide_eq_false (nt hb) | replace hb := of_decide_eq_true (nf hb) | skip)))
  all_goals (first
    | (fail_if_success (refine Br.mk (i := 3) ?_))
    | (refine Br.mk (i := 3) ?_
       all_goals (refine WC.seq ?_)
       all_goals (refine WC.region ?_)
       all_goals (refine WL.step (ok_move rfl) rfl rfl rfl ?_)
       all_goals (refine WL.step (ok_nilCheck rfl) rfl rfl rfl ?_)
       all_goals (refine WL.step (ok_fieldAddr rfl Try.underlying73 rfl (fun w => Try.sizeOf71 w)) rfl rfl rfl ?_)
       all_goals (refine WL.step (ok_load (fun w => Try.isAgg71 w) rfl (by first | exact cell_blk (hX2.obj hB0 nos) rfl | assumption | exact cell_blk (by assumption) rfl)) rfl rfl rfl ?_)
       all_goals (refine WL.step (ok_move rfl) rfl rfl rfl ?_)
       all_goals (first | (refine WL.step ((ok_lookup keyI Try.underlying71 Try.underlying3 rfl rfl (hm.ext hX2 nos) hl).2) rfl rfl rfl ?_) | (refine WL.step ((ok_lookup_no keyI Try.underlying71 Try.underlying3 (fun w => Try.zeroValue85 w) rfl rfl (hm.ext hX2 nos) hl).2) rfl rfl rfl ?_) | (refine WL.step ((ok_lookup_nil keyI Try.underlying71 Try.underlying3 (fun w => Try.zeroValue85 w) rfl rfl).2) rfl rfl rfl ?_))
       all_goals (refine WL.step (ok_nilCheck rfl) rfl rfl rfl ?_)
       all_goals (refine WL.step (ok_fieldAddr rfl Try.underlying84 rfl (fun w => Try.sizeOf3 w)) rfl rfl rfl ?_)
       all_goals (refine WL.step (ok_load (fun w => Try.isAgg3 w) rfl (by first | exact cell_blk (hX2.obj hr nos) rfl | assumption | exact cell_blk (by assumption) rfl)) rfl rfl rfl ?_)
       all_goals (first | (refine WL.step (ok_addI rfl rfl (by omega)) rfl rfl rfl ?_) | (refine WL.step (ok_add rfl rfl) rfl rfl rfl ?_))
       all_goals (refine WL.step (ok_nilCheck rfl) rfl rfl rfl ?_)
       all_goals (refine WL.step (ok_fieldAddr rfl Try.underlying84 rfl (fun w => Try.sizeOf3 w)) rfl rfl rfl ?_)
       all_goals (refine WL.stepR0 (okE_store (fun w => Try.sizeOf3 w) rfl rfl (hX2.obj hr nos) (Nat.le_of_ble_eq_true rfl) rfl rfl) rfl rfl ?_
                  rintro _ h3 ⟨hb3, hx3⟩)
       all_goals (refine WL.nil ?_)
       all_goals (repeat' (with_reducible first | refine thenP_n ?_ | refine blockP_n ?_))
       all_goals (refine WC.sub [(6, _)] ⟨rfl, trivial⟩ ?_)
       all_goals (refine WC.seq ?_)
       all_goals (refine WC.region ?_)
       all_goals (refine WL.step (ok_move rfl) rfl rfl rfl ?_)
       all_goals (refine WL.step (ok_assign rfl) rfl rfl rfl ?_)
       all_goals (refine WL.nil ?_)
       all_goals (repeat' (with_reducible first | refine thenP_n ?_ | refine blockP_n ?_))
       all_goals (refine WC.ret ?_)
       all_goals (repeat' (with_reducible first | refine thenP_r ?_ | refine blockP_r ?_))
       all_goals (refine retP_1 _ ⟨rfl, trivial⟩ ?_)
       all_goals (first | exact absurd hb (keyB_ne _ _) | exact ⟨rfl, (r.ext0 hX2).bump (by omega) hx3 hb3 hc, (hX2.mono fun _ _ z => z.elim).trans hx3⟩)
       skip))
  all_goals (first
    | (fail_if_success (refine Br.mk (i := 4) ?_))
    | (refine Br.mk (i := 4) ?_
       all_goals (refine WC.skip ?_)
       skip))
  all_goals (repeat' (with_reducible first | refine thenP_n ?_ | refine blockP_n ?_))
  all_goals (refine WC.seq ?_)
  all_goals (refine WC.region ?_)
  all_goals (refine WL.step (ok_move rfl) rfl rfl rfl ?_)
  all_goals (refine WL.step (ok_nilCheck rfl) rfl rfl rfl ?_)
  all_goals (refine WL.step (ok_fieldAddr rfl Try.underlying73 rfl (fun w => Try.sizeOf3 w)) rfl rfl rfl ?_)
  all_goals (refine WL.step (ok_load (fun w => Try.isAgg3 w) rfl (by first | assumption | exact cell_blk (by assumption) rfl)) rfl rfl rfl ?_)
  all_goals (first | (refine WL.step (ok_addI rfl rfl (by omega)) rfl rfl rfl ?_) | (refine WL.step (ok_add rfl rfl) rfl rfl rfl ?_))
  all_goals (refine WL.step (ok_nilCheck rfl) rfl rfl rfl ?_)
  all_goals (refine WL.step (ok_fieldAddr rfl Try.underlying73 rfl (fun w => Try.sizeOf3 w)) rfl rfl rfl ?_)
  all_goals (refine WL.stepR0 (okE_store (fun w => Try.sizeOf3 w) rfl rfl (by assumption) (Nat.le_of_ble_eq_true rfl) rfl rfl) rfl rfl ?_
             rintro _ h1 ⟨hb1, hx1⟩)
  all_goals (refine WL.nil ?_)
  all_goals (repeat' (with_reducible first | refine thenP_n ?_ | refine blockP_n ?_))
  all_goals (refine WC.sub [(0, _), (3, _), (5, _)] ⟨rfl, rfl, rfl, trivial⟩ ?_)
  all_goals (refine WC.seq ?_)
  all_goals (refine WC.drawE fol (by kernel_rfl) ?_)
  all_goals (refine WQ.stepE (ok_fieldAddr rfl Try.underlying57 rfl (fun w => Try.sizeOf9 w)) rfl rfl rfl ?_)
  all_goals (refine WQ.stepE (ok_load (fun w => Try.isAgg9 w) rfl (by first | assumption | exact cell_blk (by assumption) rfl)) rfl rfl rfl ?_)
  all_goals (refine WQ.stepE (ok_fieldAddr rfl Try.underlying57 rfl (fun w => Try.sizeOf55 w)) rfl rfl rfl ?_)
  all_goals (refine WQ.stepE (ok_load (fun w => Try.isAgg55 w) rfl (by first | assumption | exact cell_blk (by assumption) rfl)) rfl rfl rfl ?_)
  all_goals (fail "no contract for call of slices.Clone[[]int,int] at 9.4")
  all_goals (refine WQ.stepE (ok_buildF (vs := [_, _]) (cs := [_, _]) (fun | [a0, a1] => [a0, a1] | _ => []) rfl rfl (by kernel_rfl)) rfl rfl rfl ?_)
  all_goals (refine WL.stepR (okE_alloc (fun w => Try.zeroValue57 w)) rfl rfl rfl ?_
             rintro _ h1 ⟨b1, rfl, hg1, hb1, hx1⟩)
  all_goals (refine WL.stepR0 (okE_storeW (fun w => Try.sizeOf57 w) rfl rfl rfl (by assumption) rfl (by simp [Value.oneCell'])) rfl rfl ?_
             rintro _ h1 ⟨hb1, hx1⟩)
  all_goals (refine WQ.nil ?_)
  all_goals (repeat' (with_reducible first | refine thenP_n ?_ | refine blockP_n ?_))
  all_goals (refine WC.sub [(0, _), (5, _), (8, _)] ⟨rfl, rfl, rfl, trivial⟩ ?_)
  all_goals (refine WC.seq ?_)
  all_goals (refine WC.drawE fol (by kernel_rfl) ?_)
  all_goals (refine WQ.stepE (ok_move rfl) rfl rfl rfl ?_)
  all_goals (refine WQ.stepE (ok_nilCheck rfl) rfl rfl rfl ?_)
  all_goals (refine WQ.stepE (ok_fieldAddr rfl Try.underlying73 rfl (fun w => Try.sizeOf71 w)) rfl rfl rfl ?_)
  all_goals (refine WQ.stepE (ok_load (fun w => Try.isAgg71 w) rfl (by first | assumption | exact cell_blk (by assumption) rfl)) rfl rfl rfl ?_)
  all_goals (refine WQ.stepE (ok_move rfl) rfl rfl rfl ?_)
  all_goals (refine WQ.stepE (ok_nilCheck rfl) rfl rfl rfl ?_)
  all_goals (refine WQ.stepE (ok_fieldAddr rfl Try.underlying73 rfl (fun w => Try.sizeOf3 w)) rfl rfl rfl ?_)
  all_goals (refine WQ.stepE (ok_load (fun w => Try.isAgg3 w) rfl (by first | assumption | exact cell_blk (by assumption) rfl)) rfl rfl rfl ?_)
  all_goals (refine WQ.stepE (ok_move rfl) rfl rfl rfl ?_)
  all_goals (refine WQ.stepE (ok_nilCheck rfl) rfl rfl rfl ?_)
  all_goals (refine WQ.stepE (ok_fieldAddr rfl Try.underlying73 rfl (fun w => Try.sizeOf39 w)) rfl rfl rfl ?_)
  all_goals (refine WQ.stepE (ok_load (fun w => Try.isAgg39 w) rfl (by first | assumption | exact cell_blk (by assumption) rfl)) rfl rfl rfl ?_)
  all_goals (refine WQ.stepE (ok_move rfl) rfl rfl rfl ?_)
  all_goals (refine WQ.stepE (ok_loadN (fun w => Try.isAgg57 w) (fun w => Try.sizeOf57 w) rfl rfl (by assumption)) rfl rfl rfl ?_)
  all_goals (refine WQ.stepE (ok_buildF (vs := [_, _]) (cs := [_, _, _]) (fun | [.agg ⟨[a0, a1]⟩, a2] => [a0, a1, a2] | _ => []) rfl rfl (by kernel_rfl)) rfl rfl rfl ?_)
  all_goals (refine WL.stepR (okE_box rfl) rfl rfl rfl ?_
             rintro _ h1 ⟨b1, rfl, hg1, hb1, hx1⟩)
  all_goals (refine WQ.stepE (ok_move rfl) rfl rfl rfl ?_)
  all_goals (refine WQ.stepE (ok_nilCheck rfl) rfl rfl rfl ?_)
  all_goals (refine WQ.stepE (ok_fieldAddr rfl Try.underlying73 rfl (fun w => Try.sizeOf3 w)) rfl rfl rfl ?_)
  all_goals (refine WQ.stepE (ok_load (fun w => Try.isAgg3 w) rfl (by first | assumption | exact cell_blk (by assumption) rfl)) rfl rfl rfl ?_)
  all_goals (refine WL.stepR (okE_mapEntry keyI Try.underlying71 Try.underlying3 (fun w => Try.zeroValue85 w) rfl rfl (by assumption) (by assumption)) rfl rfl rfl ?_
             rintro _ h1 ⟨st1, rfl, he1, hx1⟩)
  all_goals (refine WQ.stepE (ok_extract rfl rfl) rfl rfl rfl ?_)
  all_goals (refine WL.stepR0 (okE_entryStore rfl rfl rfl (by assumption)) rfl rfl ?_
             rintro _ h1 ⟨hm1, hx1⟩)
  all_goals (refine WL.stepR (okE_mapEntry keyS Try.underlying39 Try.underlying9 (fun w => Try.zeroValue3 w) rfl rfl (by assumption) (by assumption)) rfl rfl rfl ?_
             rintro _ h1 ⟨st1, rfl, he1, hx1⟩)
  all_goals (refine WQ.stepE (ok_extract rfl rfl) rfl rfl rfl ?_)
  all_goals (refine WL.stepR0 (okE_entryStore rfl rfl rfl (by assumption)) rfl rfl ?_
             rintro _ h1 ⟨hm1, hx1⟩)
  all_goals (refine WQ.nil ?_)
  all_goals (repeat' (with_reducible first | refine thenP_n ?_ | refine blockP_n ?_))
  all_goals (refine WC.sub [(0, _)] ⟨rfl, trivial⟩ ?_)
  all_goals (refine WC.seq ?_)
  all_goals (refine WC.region ?_)
  all_goals (refine WL.step (ok_move rfl) rfl rfl rfl ?_)
  all_goals (refine WL.step (ok_nilCheck rfl) rfl rfl rfl ?_)
  all_goals (refine WL.step (ok_fieldAddr rfl Try.underlying73 rfl (fun w => Try.sizeOf3 w)) rfl rfl rfl ?_)
  all_goals (refine WL.step (ok_load (fun w => Try.isAgg3 w) rfl (by first | assumption | exact cell_blk (by assumption) rfl)) rfl rfl rfl ?_)
  all_goals (refine WL.step (ok_assign rfl) rfl rfl rfl ?_)
  all_goals (refine WL.nil ?_)
  all_goals (repeat' (with_reducible first | refine thenP_n ?_ | refine blockP_n ?_))
  all_goals (refine WC.sub [(4, _)] ⟨rfl, trivial⟩ ?_)
  all_goals (refine WC.ret ?_)
  all_goals (repeat' (with_reducible first | refine thenP_r ?_ | refine blockP_r ?_))
  all_goals (refine retP_1 _ ⟨rfl, trivial⟩ ?_)
  all_goals (first | exact absurd hb (keyB_ne _ _) | exact ⟨rfl, (r.ext0 hX2).bump (by omega) hx3 hb3 hc, (hX2.mono fun _ _ z => z.elim).trans hx3⟩)
set_option maxHeartbeats 1000000 in
set_option maxRecDepth 100000 in
theorem rg_put_new (r : Rg B c h b m1 m2 last L) {t : List UInt8} {o : List Int} (hfs : fairS t o = true) (hno : ∀ e ∈ L, ¬ (e.t = t ∧ e.o = o)) {v : Value} {h0 : Heap} (hv0 : Rd h0 v 1 o.length (ints o)) (x0 : Ext No h0 h) (hBB : h0.size ≤ B) (hc : c + 1 ≤ 1000000) :
    CallsH Try.prog 23 ⟨[ptE b, .agg ⟨[St t, v]⟩]⟩ h fun u h' => u = In (last + 1) ∧ (∃ p v', Rg B (c + 1) h' b m1 m2 (last + 1) (L ++ [⟨last + 1, 1, t, o, p, v'⟩])) ∧ Ext (fun q => q = b ∨ q = m1 ∨ q = m2) h h' := by
  have hlen := (fairS_yes hfs).2.1
  have hol : o.length ≤ maxLen := by unfold maxLen; omega
  have hv := hv0.ext0 x0
  have lo := r.lo
  have kr := fun h' (hx : Ext No h h') => rg_ready (r.ext0 hx)
  have ko := fun h' (hx : Ext No h h') => of_v t o (hv.ext0 hx) hol
  have hB0 := r.blk
  have bd := r.bd
  obtain ⟨l1, l2, l3, l4, l5⟩ := r.lt
  obtain ⟨s1, s2, _, s4⟩ := r.sep
  have s3 := r.ne
  obtain ⟨A, cc, rfl, hzz⟩ := id hv
  clear hzz
  obtain ⟨E2, hm2, hp2, _, ha2⟩ := r.at2
  have hl2 := ha2 t o hno
  obtain ⟨E, hm, hp, _, ha⟩ := r.at1
  have hl := ha (last + 1) (fun e he => by have := r.top e he; omega)
  rw [show keyS_ t o = keyB t o from if_pos hfs] at ko hl2
  unfold ptE at *
  refine calls [(0, _), (1, _)] Try.func23 rfl Try.ntmps23 rfl ⟨rfl, rfl, trivial⟩ ?_
  all_goals (refine WC.seq ?_)
  all_goals (refine WC.region ?_)
  all_goals (refine WL.stepR (okE_box rfl) rfl rfl rfl ?_
             rintro _ h1 ⟨b1, rfl, hg1, hb1, hx1⟩)
  all_goals (refine WL.step (ok_assign rfl) rfl rfl rfl ?_)
  all_goals (refine WL.nil ?_)
  all_goals (repeat' (with_reducible first | refine thenP_n ?_ | refine blockP_n ?_))
  all_goals (refine WC.seq ?_)
  all_goals (refine WC.region ?_)
  all_goals (refine WL.step (ok_loadN (fun w => Try.isAgg57 w) (fun w => Try.sizeOf57 w) rfl rfl (by exact At.of_block hb1)) rfl rfl rfl ?_)
  all_goals (refine WL.call (vs := [_]) rfl (fun a w => Try.call42 a w) rfl (ko _ hx1) rfl rfl rfl ?_
             rintro _ h2 ⟨rfl, hx2⟩)
  all_goals (have hX2 := hx1.trans hx2
             have hb12 := hx2.obj hb1 nos
             have hsz2 := hX2.size)
  all_goals (refine WL.step (ok_assign rfl) rfl rfl rfl ?_)
  all_goals (refine WL.nil ?_)
  all_goals (repeat' (with_reducible first | refine thenP_n ?_ | refine blockP_n ?_))
  all_goals (refine WC.sub [(0, _), (3, _), (5, _)] ⟨rfl, rfl, rfl, trivial⟩ ?_)
  all_goals (refine WC.seq ?_)
  all_goals (refine WC.seq ?_)
  all_goals (refine WC.region ?_)
  all_goals (refine WL.step (ok_move rfl) rfl rfl rfl ?_)
  all_goals (refine WL.call (vs := [_]) rfl (fun a w => Try.call43 a w) rfl (kr _ hX2) rfl rfl rfl ?_
             rintro _ hz ⟨rfl, _⟩
             subst hz)
  all_goals (refine WL.step (ok_not rfl) rfl rfl rfl ?_)
  all_goals (refine WL.step (ok_move rfl) rfl rfl rfl ?_)
  all_goals (try ((fail_if_success (refine WL.part 14 (b := true) rfl (fun _ => ?_) (fun _ => ?_))); (fail_if_success (refine WL.part 14 (b := false) rfl (fun _ => ?_) (fun _ => ?_))); (refine WL.part 14 rfl (fun hb => ?_) (fun hb => ?_) <;> (first | replace hb := of_decide_eq_true hb | replace hb := of_decide_eq_false hb | replace hb := of_decide_eq_false (nt hb) | replace hb := of_decide_eq_true (nf hb) | skip))))
  all_goals (first | (refine WL.pass rfl rfl rfl ?_) | (refine WL.step (ok_move rfl) rfl rfl rfl ?_))
  all_goals (first | (refine WL.pass rfl rfl rfl ?_) | (first | (refine WL.step (OkP.bool_t (by first | rfl | assumption | decide) (ok_eqlS rfl rfl)) rfl rfl rfl ?_) | (refine WL.step (OkP.bool_f (by first | assumption | decide) (ok_eqlS rfl rfl)) rfl rfl rfl ?_) | (refine WL.step (ok_eqlS rfl rfl) rfl rfl rfl ?_)))
  all_goals (first | (refine WL.step (ok_pick_t rfl rfl) rfl rfl rfl ?_) | (refine WL.step (ok_pick_f rfl rfl) rfl rfl rfl ?_))
  all_goals (refine WL.nil ?_)
  all_goals (repeat' (with_reducible first | refine thenP_n ?_ | refine blockP_n ?_))
  all_goals (refine WC.sub [(0, _), (3, _), (5, _), (17, _)] ⟨rfl, rfl, rfl, rfl, trivial⟩ ?_)
  all_goals (first | refine WC.condB_t 1 rfl ?_ | refine WC.condB_f 2 rfl ?_ | (refine WC.condB 1 2 rfl (fun hb => ?_) (fun hb => ?_) <;> (first | replace hb := of_decide_eq_true hb | replace hb := of_decide_eq_false hb | replace hb := of_decide_eq_false (nt hb) | replace hb := of_decide_eq_true (nf hb) | skip)))
  all_goals (first
    | (fail_if_success (refine Br.mk (i := 1) ?_))
    | (refine Br.mk (i := 1) ?_
       all_goals (refine WC.seq ?_)
       all_goals (refine WC.region ?_)
       all_goals (refine WL.step (ok_assign rfl) rfl rfl rfl ?_)
       all_goals (refine WL.nil ?_)
       all_goals (repeat' (with_reducible first | refine thenP_n ?_ | refine blockP_n ?_))
       all_goals (refine WC.sub [(4, _)] ⟨rfl, trivial⟩ ?_)
       all_goals (refine WC.ret ?_)
       all_goals (repeat' (with_reducible first | refine thenP_r ?_ | refine blockP_r ?_))
       all_goals (refine retP_1 _ ⟨rfl, trivial⟩ ?_)
       all_goals (first
                   | exact absurd hb (keyB_ne _ _)
                   | exact ⟨rfl, ⟨p15, _, r.add ((hX3.trans (hX7.mono fun _ _ z => z.elim)).trans (hC25.mono fun _ _ z => .inr z)) hb25 hp hp2 hl hl2 (hm22.ext ((hx23.trans hx25)) s3) hm25 hr25 (hO7.ext hC25 (fun q hq z => by have := hf q hq; omega)) hfs (by omega) (fun q hq => by have := hf q hq; omega) hno hc⟩, (hX3.trans (hX7.mono fun _ _ z => z.elim)).trans (hC25.mono fun _ _ z => .inr z)⟩)
       skip))
  all_goals (first
    | (fail_if_success (refine Br.mk (i := 2) ?_))
    | (refine Br.mk (i := 2) ?_
       all_goals (refine WC.skip ?_)
       skip))
  all_goals (repeat' (with_reducible first | refine thenP_n ?_ | refine blockP_n ?_))
  all_goals (refine WC.seq ?_)
  all_goals (refine WC.seq ?_)
  all_goals (refine WC.region ?_)
  all_goals (refine WL.step (ok_move rfl) rfl rfl rfl ?_)
  all_goals (refine WL.step (ok_nilCheck rfl) rfl rfl rfl ?_)
  all_goals (refine WL.step (ok_fieldAddr rfl Try.underlying73 rfl (fun w => Try.sizeOf39 w)) rfl rfl rfl ?_)
  all_goals (refine WL.step (ok_load (fun w => Try.isAgg39 w) rfl (by first | exact cell_blk (hX2.obj hB0 nos) rfl | assumption | exact cell_blk (by assumption) rfl)) rfl rfl rfl ?_)
  all_goals (refine WL.step (ok_move rfl) rfl rfl rfl ?_)
  all_goals (first | (refine WL.step ((ok_lookup keyS Try.underlying39 Try.underlying9 rfl rfl (hm2.ext hX2 nos) hl2).1) rfl rfl rfl ?_) | (refine WL.step ((ok_lookup_no keyS Try.underlying39 Try.underlying9 (fun w => Try.zeroValue3 w) rfl rfl (hm2.ext hX2 nos) hl2).1) rfl rfl rfl ?_) | (refine WL.step ((ok_lookup_nil keyS Try.underlying39 Try.underlying9 (fun w => Try.zeroValue3 w) rfl rfl).1) rfl rfl rfl ?_))
  all_goals (refine WL.step (ok_move rfl) rfl rfl rfl ?_)
  all_goals (refine WL.step (ok_extract rfl rfl) rfl rfl rfl ?_)
  all_goals (refine WL.step (ok_extract rfl rfl) rfl rfl rfl ?_)
  all_goals (refine WL.step (ok_assign rfl) rfl rfl rfl ?_)
  all_goals (refine WL.step (ok_assign rfl) rfl rfl rfl ?_)
  all_goals (refine WL.nil ?_)
  all_goals (repeat' (with_reducible first | refine thenP_n ?_ | refine blockP_n ?_))
  all_goals (refine WC.sub [(0, _), (3, _), (5, _), (6, _), (7, _)] ⟨rfl, rfl, rfl, rfl, rfl, trivial⟩ ?_)
  all_goals (refine WC.seq ?_)
  all_goals (refine WC.region ?_)
  all_goals (refine WL.step (ok_move rfl) rfl rfl rfl ?_)
  all_goals (refine WL.nil ?_)
  all_goals (repeat' (with_reducible first | refine thenP_n ?_ | refine blockP_n ?_))
  all_goals (first | refine WC.condB_t 3 rfl ?_ | refine WC.condB_f 4 rfl ?_ | (refine WC.condB 3 4 rfl (fun hb => ?_) (fun hb => ?_) <;> (first | replace hb := of_decide_eq_true hb | replace hb := of_decide_eq_false hb | replace hb := of_decide_eq_false (nt hb) | replace hb := of_decide_eq_true (nf hb) | skip)))
  all_goals (first
    | (fail_if_success (refine Br.mk (i := 3) ?_))
    | (refine Br.mk (i := 3) ?_
       all_goals (refine WC.seq ?_)
       all_goals (refine WC.region ?_)
       all_goals (refine WL.step (ok_move rfl) rfl rfl rfl ?_)
       all_goals (refine WL.step (ok_nilCheck rfl) rfl rfl rfl ?_)
       all_goals (refine WL.step (ok_fieldAddr rfl Try.underlying73 rfl (fun w => Try.sizeOf71 w)) rfl rfl rfl ?_)
       all_goals (refine WL.step (ok_load (fun w => Try.isAgg71 w) rfl (by first | assumption | exact cell_blk (by assumption) rfl)) rfl rfl rfl ?_)
       all_goals (refine WL.step (ok_move rfl) rfl rfl rfl ?_)
       all_goals (first | (refine WL.step ((ok_lookup keyI Try.underlying71 Try.underlying3 rfl rfl (by assumption) (by assumption)).2) rfl rfl rfl ?_) | (refine WL.step ((ok_lookup_no keyI Try.underlying71 Try.underlying3 (fun w => Try.zeroValue85 w) rfl rfl (by assumption) (by assumption)).2) rfl rfl rfl ?_) | (refine WL.step ((ok_lookup_nil keyI Try.underlying71 Try.underlying3 (fun w => Try.zeroValue85 w) rfl rfl).2) rfl rfl rfl ?_))
       all_goals (refine WL.step (ok_nilCheck rfl) rfl rfl rfl ?_)
       all_goals (refine WL.step (ok_fieldAddr rfl Try.underlying84 rfl (fun w => Try.sizeOf3 w)) rfl rfl rfl ?_)
       all_goals (refine WL.step (ok_load (fun w => Try.isAgg3 w) rfl (by first | assumption | exact cell_blk (by assumption) rfl)) rfl rfl rfl ?_)
       all_goals (first | (refine WL.step (ok_addI rfl rfl (by omega)) rfl rfl rfl ?_) | (refine WL.step (ok_add rfl rfl) rfl rfl rfl ?_))
       all_goals (refine WL.step (ok_nilCheck rfl) rfl rfl rfl ?_)
       all_goals (refine WL.step (ok_fieldAddr rfl Try.underlying84 rfl (fun w => Try.sizeOf3 w)) rfl rfl rfl ?_)
       all_goals (refine WL.stepR0 (okE_store (fun w => Try.sizeOf3 w) rfl rfl (by assumption) (Nat.le_of_ble_eq_true rfl) rfl rfl) rfl rfl ?_
                  rintro _ h1 ⟨hb1, hx1⟩)
       all_goals (refine WL.nil ?_)
       all_goals (repeat' (with_reducible first | refine thenP_n ?_ | refine blockP_n ?_))
       all_goals (refine WC.sub [(6, _)] ⟨rfl, trivial⟩ ?_)
       all_goals (refine WC.seq ?_)
       all_goals (refine WC.region ?_)
       all_goals (refine WL.step (ok_move rfl) rfl rfl rfl ?_)
       all_goals (refine WL.step (ok_assign rfl) rfl rfl rfl ?_)
       all_goals (refine WL.nil ?_)
       all_goals (repeat' (with_reducible first | refine thenP_n ?_ | refine blockP_n ?_))
       all_goals (refine WC.ret ?_)
       all_goals (repeat' (with_reducible first | refine thenP_r ?_ | refine blockP_r ?_))
       all_goals (refine retP_1 _ ⟨rfl, trivial⟩ ?_)
       all_goals (first
                   | exact absurd hb (keyB_ne _ _)
                   | exact ⟨rfl, ⟨p15, _, r.add ((hX3.trans (hX7.mono fun _ _ z => z.elim)).trans (hC25.mono fun _ _ z => .inr z)) hb25 hp hp2 hl hl2 (hm22.ext ((hx23.trans hx25)) s3) hm25 hr25 (hO7.ext hC25 (fun q hq z => by have := hf q hq; omega)) hfs (by omega) (fun q hq => by have := hf q hq; omega) hno hc⟩, (hX3.trans (hX7.mono fun _ _ z => z.elim)).trans (hC25.mono fun _ _ z => .inr z)⟩)
       skip))
  all_goals (first
    | (fail_if_success (refine Br.mk (i := 4) ?_))
    | (refine Br.mk (i := 4) ?_
       all_goals (refine WC.skip ?_)
       skip))
  all_goals (repeat' (with_reducible first | refine thenP_n ?_ | refine blockP_n ?_))
  all_goals (refine WC.seq ?_)
  all_goals (refine WC.region ?_)
  all_goals (refine WL.step (ok_move rfl) rfl rfl rfl ?_)
  all_goals (refine WL.step (ok_nilCheck rfl) rfl rfl rfl ?_)
  all_goals (refine WL.step (ok_fieldAddr rfl Try.underlying73 rfl (fun w => Try.sizeOf3 w)) rfl rfl rfl ?_)
  all_goals (refine WL.step (ok_load (fun w => Try.isAgg3 w) rfl (by first | exact cell_blk (hX2.obj hB0 nos) rfl | assumption | exact cell_blk (by assumption) rfl)) rfl rfl rfl ?_)
  all_goals (first | (refine WL.step (ok_addI rfl rfl (by omega)) rfl rfl rfl ?_) | (refine WL.step (ok_add rfl rfl) rfl rfl rfl ?_))
  all_goals (refine WL.step (ok_nilCheck rfl) rfl rfl rfl ?_)
  all_goals (refine WL.step (ok_fieldAddr rfl Try.underlying73 rfl (fun w => Try.sizeOf3 w)) rfl rfl rfl ?_)
  all_goals (refine WL.stepR0 (okE_store (fun w => Try.sizeOf3 w) rfl rfl (hX2.obj hB0 nos) (Nat.le_of_ble_eq_true rfl) rfl rfl) rfl rfl ?_
             rintro _ h3 ⟨hb3, hx3⟩)
  all_goals (have hb13 := hx3.obj hb12 (fun e => by omega)
             have hX3 : Ext (fun q => q = b ∨ q = m1 ∨ q = m2) h h3 := (hX2.mono fun _ _ z => z.elim).trans (hx3.mono fun _ _ z => .inl z)
             have hsz3 := hX3.size
             have hrd3 := hv0.ext0 (x0.trans' hX3 (fun q hq e => by omega)))
  all_goals (refine WL.nil ?_)
  all_goals (repeat' (with_reducible first | refine thenP_n ?_ | refine blockP_n ?_))
  all_goals (refine WC.sub [(0, _), (3, _), (5, _)] ⟨rfl, rfl, rfl, trivial⟩ ?_)
  all_goals (refine WC.seq ?_)
  all_goals (refine WC.drawH (fun h' => Ext No h3 h') 7 8 rfl fol ?_)
  all_goals (refine WH.take 0 rfl (by kernel_rfl) (by kernel_rfl) (by kernel_rfl) (by kernel_rfl) rfl (by first | exact Ext.refl _ _ | assumption) (fun hq hC => ok_fieldAddr rfl Try.underlying57 rfl (fun w => Try.sizeOf9 w)) rfl rfl rfl ?_)
  all_goals (refine WH.take 1 rfl (by kernel_rfl) (by kernel_rfl) (by kernel_rfl) (by kernel_rfl) rfl (by first | exact Ext.refl _ _ | assumption) (fun hq hC => ok_load (fun w => Try.isAgg9 w) rfl (by first | exact hC.cell (by first | exact cell_blk hb13 rfl | assumption | exact cell_blk (by assumption) rfl) nos)) rfl rfl rfl ?_)
  all_goals (refine WH.take 2 rfl (by kernel_rfl) (by kernel_rfl) (by kernel_rfl) (by kernel_rfl) rfl (by first | exact Ext.refl _ _ | assumption) (fun hq hC => ok_fieldAddr rfl Try.underlying57 rfl (fun w => Try.sizeOf55 w)) rfl rfl rfl ?_)
  all_goals (refine WH.take 3 rfl (by kernel_rfl) (by kernel_rfl) (by kernel_rfl) (by kernel_rfl) rfl (by first | exact Ext.refl _ _ | assumption) (fun hq hC => ok_load (fun w => Try.isAgg55 w) rfl (by first | exact hC.cell (by first | exact cell_blk hb13 rfl | assumption | exact cell_blk (by assumption) rfl) nos)) rfl rfl rfl ?_)
  all_goals (refine WH.two 4 6 (by kernel_rfl) (Br.out (i := 5003) ?_) (Br.out (i := 5004) ?_))
  all_goals (first
    | (fail_if_success (refine Br.mk (i := 5003) ?_))
    | (refine Br.mk (i := 5003) ?_
       all_goals (refine Comes1.call (vs := [_]) rfl rfl (fun a w => Try.call44 a w) rfl (clone_int o (by first | exact hrd3 | exact hrd3.ext0 hx6) (by omega)) rfl rfl rfl ?_ (fun _ => by kernel_rfl)
                  rintro v4 h4 ⟨ho4, hx4, hf4⟩
                  obtain ⟨A4, c4, rfl, _⟩ := ho4.slice)
       all_goals (refine ⟨fun _ => by first | exact hx4 | exact hx6.trans hx4, ?_⟩)
       all_goals (have hX4 : Ext No h3 h4 := by first | exact hx4 | exact hx6.trans hx4)
       all_goals (refine WH.take 5 rfl (by kernel_rfl) (by kernel_rfl) (by kernel_rfl) (by kernel_rfl) rfl (by first | exact Ext.refl _ _ | assumption) (fun hq hC => ok_buildF (vs := [_, _]) (cs := [_, _]) (fun | [a0, a1] => [a0, a1] | _ => []) rfl rfl (by kernel_rfl)) rfl rfl rfl ?_)
       all_goals (refine WH.one 6 (by kernel_rfl) ?_)
       all_goals (refine Comes1.run rfl (okE_alloc (fun w => Try.zeroValue57 w)) rfl rfl rfl ?_ (fun _ => by kernel_rfl)
                  rintro _ h6 ⟨b6, rfl, hg6, hb6, hx6⟩)
       all_goals (refine ⟨fun _ => by first | exact hx6 | exact hx4.trans hx6, ?_⟩)
       all_goals (have hX6 : Ext No h3 h6 := by first | exact hx6 | exact hx4.trans hx6)
       all_goals (refine WH.one 7 (by kernel_rfl) ?_)
       all_goals (first
                   | (have hX := hx4.trans hx6; have hB6 := hb6; have hO := ho4.ext hx6 (fun _ _ => nos); have hg : h3.size ≤ b6 := Nat.le_trans hx4.size hg6; have hne : ∀ q, (Value.slice A4 o.length c4).ownBlock = some q → q ≠ b6 := (fun q hq => by have := ho4.lt hq; omega); have hf := hf4)
                   | (have hX := hx6.trans hx4; have hB6 := hx4.obj hb6 nos; have hO := ho4; have hg : h3.size ≤ b6 := hg6; have hne : ∀ q, (Value.slice A4 o.length c4).ownBlock = some q → q ≠ b6 := (fun q hq => by have := hf4 q hq; have := lt_of_some hb6; omega); have hf : ∀ q, (Value.slice A4 o.length c4).ownBlock = some q → h3.size ≤ q := (fun q hq => Nat.le_trans hx6.size (hf4 q hq))))
       all_goals (refine Comes1.run0 rfl (okE_storeW (fun w => Try.sizeOf57 w) rfl rfl rfl hB6 rfl (by simp [Value.oneCell'])) rfl rfl ?_ (fun _ => by kernel_rfl)
                  rintro _ h7 ⟨hb7, hx7⟩)
       all_goals (refine ⟨fun e => (by cases e), ?_⟩)
       all_goals (have hX7 : Ext No h3 h7 := hX.trans' hx7 (fun q hq e => by omega)
                  have hO7 := hO.ext hx7 hne
                  have hbb7 := hX7.obj hb3 nos
                  have hm7 := (((hm.ext hX2 nos).ext hx3 (fun e => s1 e.symm)).ext hX7 nos)
                  have hm27 := (((hm2.ext hX2 nos).ext hx3 (fun e => s2 e.symm)).ext hX7 nos)
                  have hsz7 := hX7.size
                  have n6 : ¬ (b6 = m1 ∨ b6 = m2) := by omega
                  have nb : ¬ (b = m1 ∨ b = m2) := by omega)
       all_goals (refine WH.done (by kernel_rfl) ?_)
       skip))
  all_goals (first
    | (fail_if_success (refine Br.mk (i := 5004) ?_))
    | (refine Br.mk (i := 5004) ?_
       all_goals (refine Comes1.run rfl (okE_alloc (fun w => Try.zeroValue57 w)) rfl rfl rfl ?_ (fun _ => by kernel_rfl)
                  rintro _ h6 ⟨b6, rfl, hg6, hb6, hx6⟩)
       all_goals (refine ⟨fun _ => by first | exact hx6 | exact hx4.trans hx6, ?_⟩)
       all_goals (have hX6 : Ext No h3 h6 := by first | exact hx6 | exact hx4.trans hx6)
       all_goals (refine WH.one 4 (by kernel_rfl) ?_)
       all_goals (refine Comes1.call (vs := [_]) rfl rfl (fun a w => Try.call44 a w) rfl (clone_int o (by first | exact hrd3 | exact hrd3.ext0 hx6) (by omega)) rfl rfl rfl ?_ (fun _ => by kernel_rfl)
                  rintro v4 h4 ⟨ho4, hx4, hf4⟩
                  obtain ⟨A4, c4, rfl, _⟩ := ho4.slice)
       all_goals (refine ⟨fun _ => by first | exact hx4 | exact hx6.trans hx4, ?_⟩)
       all_goals (have hX4 : Ext No h3 h4 := by first | exact hx4 | exact hx6.trans hx4)
       all_goals (refine WH.take 5 rfl (by kernel_rfl) (by kernel_rfl) (by kernel_rfl) (by kernel_rfl) rfl (by first | exact Ext.refl _ _ | assumption) (fun hq hC => ok_buildF (vs := [_, _]) (cs := [_, _]) (fun | [a0, a1] => [a0, a1] | _ => []) rfl rfl (by kernel_rfl)) rfl rfl rfl ?_)
       all_goals (refine WH.one 7 (by kernel_rfl) ?_)
       all_goals (first
                   | (have hX := hx4.trans hx6; have hB6 := hb6; have hO := ho4.ext hx6 (fun _ _ => nos); have hg : h3.size ≤ b6 := Nat.le_trans hx4.size hg6; have hne : ∀ q, (Value.slice A4 o.length c4).ownBlock = some q → q ≠ b6 := (fun q hq => by have := ho4.lt hq; omega); have hf := hf4)
                   | (have hX := hx6.trans hx4; have hB6 := hx4.obj hb6 nos; have hO := ho4; have hg : h3.size ≤ b6 := hg6; have hne : ∀ q, (Value.slice A4 o.length c4).ownBlock = some q → q ≠ b6 := (fun q hq => by have := hf4 q hq; have := lt_of_some hb6; omega); have hf : ∀ q, (Value.slice A4 o.length c4).ownBlock = some q → h3.size ≤ q := (fun q hq => Nat.le_trans hx6.size (hf4 q hq))))
       all_goals (refine Comes1.run0 rfl (okE_storeW (fun w => Try.sizeOf57 w) rfl rfl rfl hB6 rfl (by simp [Value.oneCell'])) rfl rfl ?_ (fun _ => by kernel_rfl)
                  rintro _ h7 ⟨hb7, hx7⟩)
       all_goals (refine ⟨fun e => (by cases e), ?_⟩)
       all_goals (have hX7 : Ext No h3 h7 := hX.trans' hx7 (fun q hq e => by omega)
                  have hO7 := hO.ext hx7 hne
                  have hbb7 := hX7.obj hb3 nos
                  have hm7 := (((hm.ext hX2 nos).ext hx3 (fun e => s1 e.symm)).ext hX7 nos)
                  have hm27 := (((hm2.ext hX2 nos).ext hx3 (fun e => s2 e.symm)).ext hX7 nos)
                  have hsz7 := hX7.size
                  have n6 : ¬ (b6 = m1 ∨ b6 = m2) := by omega
                  have nb : ¬ (b = m1 ∨ b = m2) := by omega)
       all_goals (refine WH.done (by kernel_rfl) ?_)
       skip))
  all_goals (repeat' (with_reducible first | refine thenP_n ?_ | refine blockP_n ?_))
  all_goals (refine WC.sub [(0, _), (5, _), (8, _)] ⟨rfl, rfl, rfl, trivial⟩ ?_)
  all_goals (refine WC.seq ?_)
  all_goals (refine WC.drawH (fun h' => Ext (fun q => q = m1 ∨ q = m2) h7 h') 26 26 rfl fol ?_)
  all_goals (refine WH.take 0 rfl (by kernel_rfl) (by kernel_rfl) (by kernel_rfl) (by kernel_rfl) rfl (by first | exact Ext.refl _ _ | assumption) (fun hq hC => ok_move rfl) rfl rfl rfl ?_)
  all_goals (refine WH.take 1 rfl (by kernel_rfl) (by kernel_rfl) (by kernel_rfl) (by kernel_rfl) rfl (by first | exact Ext.refl _ _ | assumption) (fun hq hC => ok_nilCheck rfl) rfl rfl rfl ?_)
  all_goals (refine WH.take 2 rfl (by kernel_rfl) (by kernel_rfl) (by kernel_rfl) (by kernel_rfl) rfl (by first | exact Ext.refl _ _ | assumption) (fun hq hC => ok_fieldAddr rfl Try.underlying73 rfl (fun w => Try.sizeOf71 w)) rfl rfl rfl ?_)
  all_goals (refine WH.take 3 rfl (by kernel_rfl) (by kernel_rfl) (by kernel_rfl) (by kernel_rfl) rfl (by first | exact Ext.refl _ _ | assumption) (fun hq hC => ok_load (fun w => Try.isAgg71 w) rfl (by first | exact hC.cell (by first | exact cell_blk hbb7 rfl | assumption | exact cell_blk (by assumption) rfl) nb)) rfl rfl rfl ?_)
  all_goals (refine WH.take 4 rfl (by kernel_rfl) (by kernel_rfl) (by kernel_rfl) (by kernel_rfl) rfl (by first | exact Ext.refl _ _ | assumption) (fun hq hC => ok_move rfl) rfl rfl rfl ?_)
  all_goals (refine WH.take 5 rfl (by kernel_rfl) (by kernel_rfl) (by kernel_rfl) (by kernel_rfl) rfl (by first | exact Ext.refl _ _ | assumption) (fun hq hC => ok_nilCheck rfl) rfl rfl rfl ?_)
  all_goals (refine WH.take 6 rfl (by kernel_rfl) (by kernel_rfl) (by kernel_rfl) (by kernel_rfl) rfl (by first | exact Ext.refl _ _ | assumption) (fun hq hC => ok_fieldAddr rfl Try.underlying73 rfl (fun w => Try.sizeOf3 w)) rfl rfl rfl ?_)
  all_goals (refine WH.take 7 rfl (by kernel_rfl) (by kernel_rfl) (by kernel_rfl) (by kernel_rfl) rfl (by first | exact Ext.refl _ _ | assumption) (fun hq hC => ok_load (fun w => Try.isAgg3 w) rfl (by first | exact hC.cell (by first | exact cell_blk hbb7 rfl | assumption | exact cell_blk (by assumption) rfl) nb)) rfl rfl rfl ?_)
  all_goals (refine WH.take 8 rfl (by kernel_rfl) (by kernel_rfl) (by kernel_rfl) (by kernel_rfl) rfl (by first | exact Ext.refl _ _ | assumption) (fun hq hC => ok_move rfl) rfl rfl rfl ?_)
  all_goals (refine WH.take 9 rfl (by kernel_rfl) (by kernel_rfl) (by kernel_rfl) (by kernel_rfl) rfl (by first | exact Ext.refl _ _ | assumption) (fun hq hC => ok_nilCheck rfl) rfl rfl rfl ?_)
  all_goals (refine WH.take 10 rfl (by kernel_rfl) (by kernel_rfl) (by kernel_rfl) (by kernel_rfl) rfl (by first | exact Ext.refl _ _ | assumption) (fun hq hC => ok_fieldAddr rfl Try.underlying73 rfl (fun w => Try.sizeOf39 w)) rfl rfl rfl ?_)
  all_goals (refine WH.take 11 rfl (by kernel_rfl) (by kernel_rfl) (by kernel_rfl) (by kernel_rfl) rfl (by first | exact Ext.refl _ _ | assumption) (fun hq hC => ok_load (fun w => Try.isAgg39 w) rfl (by first | exact hC.cell (by first | exact cell_blk hbb7 rfl | assumption | exact cell_blk (by assumption) rfl) nb)) rfl rfl rfl ?_)
  all_goals (refine WH.take 12 rfl (by kernel_rfl) (by kernel_rfl) (by kernel_rfl) (by kernel_rfl) rfl (by first | exact Ext.refl _ _ | assumption) (fun hq hC => ok_move rfl) rfl rfl rfl ?_)
  all_goals (refine WH.take 13 rfl (by kernel_rfl) (by kernel_rfl) (by kernel_rfl) (by kernel_rfl) rfl (by first | exact Ext.refl _ _ | assumption) (fun hq hC => ok_loadN (fun w => Try.isAgg57 w) (fun w => Try.sizeOf57 w) rfl rfl (by exact At.of_block (hC.obj hb7 n6))) rfl rfl rfl ?_)
  all_goals (refine WH.take 14 rfl (by kernel_rfl) (by kernel_rfl) (by kernel_rfl) (by kernel_rfl) rfl (by first | exact Ext.refl _ _ | assumption) (fun hq hC => ok_buildF (vs := [_, _]) (cs := [_, _, _]) (fun | [.agg ⟨[a0, a1]⟩, a2] => [a0, a1, a2] | _ => []) rfl rfl (by kernel_rfl)) rfl rfl rfl ?_)
  all_goals (refine WH.take 16 rfl (by kernel_rfl) (by kernel_rfl) (by kernel_rfl) (by kernel_rfl) rfl (by first | exact Ext.refl _ _ | assumption) (fun hq hC => ok_move rfl) rfl rfl rfl ?_)
  all_goals (refine WH.take 17 rfl (by kernel_rfl) (by kernel_rfl) (by kernel_rfl) (by kernel_rfl) rfl (by first | exact Ext.refl _ _ | assumption) (fun hq hC => ok_nilCheck rfl) rfl rfl rfl ?_)
  all_goals (refine WH.take 18 rfl (by kernel_rfl) (by kernel_rfl) (by kernel_rfl) (by kernel_rfl) rfl (by first | exact Ext.refl _ _ | assumption) (fun hq hC => ok_fieldAddr rfl Try.underlying73 rfl (fun w => Try.sizeOf3 w)) rfl rfl rfl ?_)
  all_goals (refine WH.take 19 rfl (by kernel_rfl) (by kernel_rfl) (by kernel_rfl) (by kernel_rfl) rfl (by first | exact Ext.refl _ _ | assumption) (fun hq hC => ok_load (fun w => Try.isAgg3 w) rfl (by first | exact hC.cell (by first | exact cell_blk hbb7 rfl | assumption | exact cell_blk (by assumption) rfl) nb)) rfl rfl rfl ?_)
  all_goals (refine WH.two 15 20 (by kernel_rfl) (Br.out (i := 5006) ?_) (Br.out (i := 5007) ?_))
  all_goals (first
    | (fail_if_success (refine Br.mk (i := 5006) ?_))
    | (refine Br.mk (i := 5006) ?_
       all_goals (refine Comes1.run rfl (okE_box rfl) rfl rfl rfl ?_ (fun _ => by kernel_rfl)
                  rintro _ h15 ⟨p15, rfl, hgp, hbp, hx15⟩
                  have hD15 : Ext (fun q => q = m1) h7 h15 := by first | exact hx15.mono (fun _ _ e => e.elim) | exact hD20.trans (hx15.mono fun _ _ e => e.elim)
                  have hC15 : Ext (fun q => q = m1 ∨ q = m2) h7 h15 := hD15.mono fun _ _ e => .inl e)
       all_goals (refine ⟨fun _ => by first | assumption | trivial, ?_⟩)
       all_goals (refine WH.one 20 (by kernel_rfl) ?_)
       all_goals (refine Comes1.run rfl (okE_mapEntry keyI Try.underlying71 Try.underlying3 (fun w => Try.zeroValue85 w) rfl rfl (by first | exact hm7 | exact hm7.ext hx15 nos) hl) rfl rfl rfl ?_ (fun _ => by kernel_rfl)
                  rintro _ h20 ⟨st20, rfl, he20, hx20⟩
                  have hD20 : Ext (fun q => q = m1) h7 h20 := by first | exact hx20 | exact hD15.trans hx20
                  have hC20 : Ext (fun q => q = m1 ∨ q = m2) h7 h20 := hD20.mono fun _ _ e => .inl e)
       all_goals (refine ⟨fun _ => by first | assumption | trivial, ?_⟩)
       all_goals (refine WH.take 21 rfl (by kernel_rfl) (by kernel_rfl) (by kernel_rfl) (by kernel_rfl) rfl (by first | exact Ext.refl _ _ | assumption) (fun hq hC => ok_extract rfl rfl) rfl rfl rfl ?_)
       all_goals (refine WH.one 22 (by kernel_rfl) ?_)
       all_goals (refine Comes1.run0 rfl (okE_entryStore rfl rfl rfl (by first | exact he20 | exact he20.ext hx15 nos)) rfl rfl ?_ (fun _ => by kernel_rfl)
                  rintro _ h22 ⟨hm22, hx22⟩
                  have hD22 : Ext (fun q => q = m1) h7 h22 := by first | exact hD20.trans hx22 | exact hD15.trans hx22
                  have hC22 : Ext (fun q => q = m1 ∨ q = m2) h7 h22 := hD22.mono fun _ _ e => .inl e)
       all_goals (refine ⟨fun _ => by first | assumption | trivial, ?_⟩)
       all_goals (refine WH.one 23 (by kernel_rfl) ?_)
       all_goals (refine Comes1.run rfl (okE_mapEntry keyS Try.underlying39 Try.underlying9 (fun w => Try.zeroValue3 w) rfl rfl (hm27.ext hD22 (fun e => s3 e.symm)) hl2) rfl rfl rfl ?_ (fun _ => by kernel_rfl)
                  rintro _ h23 ⟨st23, rfl, he23, hx23⟩
                  have hC23 : Ext (fun q => q = m1 ∨ q = m2) h7 h23 := hC22.trans (hx23.mono fun _ _ e => .inr e))
       all_goals (refine ⟨fun _ => by first | assumption | trivial, ?_⟩)
       all_goals (refine WH.take 24 rfl (by kernel_rfl) (by kernel_rfl) (by kernel_rfl) (by kernel_rfl) rfl (by first | exact Ext.refl _ _ | assumption) (fun hq hC => ok_extract rfl rfl) rfl rfl rfl ?_)
       all_goals (refine WH.one 25 (by kernel_rfl) ?_)
       all_goals (refine Comes1.run0 rfl (okE_entryStore rfl rfl rfl he23) rfl rfl ?_ (fun _ => by kernel_rfl)
                  rintro _ h25 ⟨hm25, hx25⟩
                  have hC25 : Ext (fun q => q = m1 ∨ q = m2) h7 h25 := hC23.trans (hx25.mono fun _ _ e => .inr e))
       all_goals (refine ⟨fun _ => by first | assumption | trivial, ?_⟩)
       all_goals (have hb25 := hC25.obj hbb7 nb
                  have hlp : h7.size ≤ p15 := by first | exact hgp | exact Nat.le_trans hx20.size hgp
                  have hr25 : h25[p15]? = some (.cells ⟨[St t, .slice A4 o.length c4, In 1]⟩ 84 (0, 0)) := by first | exact (((hx22.obj (hx20.obj hbp (fun e => by omega)) (fun e => by omega)) |> fun z => hx25.obj (hx23.obj z (fun e => by omega)) (fun e => by omega))) | exact ((hx22.obj hbp (fun e => by omega)) |> fun z => hx25.obj (hx23.obj z (fun e => by omega)) (fun e => by omega)))
       all_goals (refine WH.done (by kernel_rfl) ?_)
       skip))
  all_goals (first
    | (fail_if_success (refine Br.mk (i := 5007) ?_))
    | (refine Br.mk (i := 5007) ?_
       all_goals (refine Comes1.run rfl (okE_mapEntry keyI Try.underlying71 Try.underlying3 (fun w => Try.zeroValue85 w) rfl rfl (by first | exact hm7 | exact hm7.ext hx15 nos) hl) rfl rfl rfl ?_ (fun _ => by kernel_rfl)
                  rintro _ h20 ⟨st20, rfl, he20, hx20⟩
                  have hD20 : Ext (fun q => q = m1) h7 h20 := by first | exact hx20 | exact hD15.trans hx20
                  have hC20 : Ext (fun q => q = m1 ∨ q = m2) h7 h20 := hD20.mono fun _ _ e => .inl e)
       all_goals (refine ⟨fun _ => by first | assumption | trivial, ?_⟩)
       all_goals (refine WH.take 21 rfl (by kernel_rfl) (by kernel_rfl) (by kernel_rfl) (by kernel_rfl) rfl (by first | exact Ext.refl _ _ | assumption) (fun hq hC => ok_extract rfl rfl) rfl rfl rfl ?_)
       all_goals (refine WH.one 15 (by kernel_rfl) ?_)
       all_goals (refine Comes1.run rfl (okE_box rfl) rfl rfl rfl ?_ (fun _ => by kernel_rfl)
                  rintro _ h15 ⟨p15, rfl, hgp, hbp, hx15⟩
                  have hD15 : Ext (fun q => q = m1) h7 h15 := by first | exact hx15.mono (fun _ _ e => e.elim) | exact hD20.trans (hx15.mono fun _ _ e => e.elim)
                  have hC15 : Ext (fun q => q = m1 ∨ q = m2) h7 h15 := hD15.mono fun _ _ e => .inl e)
       all_goals (refine ⟨fun _ => by first | assumption | trivial, ?_⟩)
       all_goals (refine WH.one 22 (by kernel_rfl) ?_)
       all_goals (refine Comes1.run0 rfl (okE_entryStore rfl rfl rfl (by first | exact he20 | exact he20.ext hx15 nos)) rfl rfl ?_ (fun _ => by kernel_rfl)
                  rintro _ h22 ⟨hm22, hx22⟩
                  have hD22 : Ext (fun q => q = m1) h7 h22 := by first | exact hD20.trans hx22 | exact hD15.trans hx22
                  have hC22 : Ext (fun q => q = m1 ∨ q = m2) h7 h22 := hD22.mono fun _ _ e => .inl e)
       all_goals (refine ⟨fun _ => by first | assumption | trivial, ?_⟩)
       all_goals (refine WH.one 23 (by kernel_rfl) ?_)
       all_goals (refine Comes1.run rfl (okE_mapEntry keyS Try.underlying39 Try.underlying9 (fun w => Try.zeroValue3 w) rfl rfl (hm27.ext hD22 (fun e => s3 e.symm)) hl2) rfl rfl rfl ?_ (fun _ => by kernel_rfl)
                  rintro _ h23 ⟨st23, rfl, he23, hx23⟩
                  have hC23 : Ext (fun q => q = m1 ∨ q = m2) h7 h23 := hC22.trans (hx23.mono fun _ _ e => .inr e))
       all_goals (refine ⟨fun _ => by first | assumption | trivial, ?_⟩)
       all_goals (refine WH.take 24 rfl (by kernel_rfl) (by kernel_rfl) (by kernel_rfl) (by kernel_rfl) rfl (by first | exact Ext.refl _ _ | assumption) (fun hq hC => ok_extract rfl rfl) rfl rfl rfl ?_)
       all_goals (refine WH.one 25 (by kernel_rfl) ?_)
       all_goals (refine Comes1.run0 rfl (okE_entryStore rfl rfl rfl he23) rfl rfl ?_ (fun _ => by kernel_rfl)
                  rintro _ h25 ⟨hm25, hx25⟩
                  have hC25 : Ext (fun q => q = m1 ∨ q = m2) h7 h25 := hC23.trans (hx25.mono fun _ _ e => .inr e))
       all_goals (refine ⟨fun _ => by first | assumption | trivial, ?_⟩)
       all_goals (have hb25 := hC25.obj hbb7 nb
                  have hlp : h7.size ≤ p15 := by first | exact hgp | exact Nat.le_trans hx20.size hgp
                  have hr25 : h25[p15]? = some (.cells ⟨[St t, .slice A4 o.length c4, In 1]⟩ 84 (0, 0)) := by first | exact (((hx22.obj (hx20.obj hbp (fun e => by omega)) (fun e => by omega)) |> fun z => hx25.obj (hx23.obj z (fun e => by omega)) (fun e => by omega))) | exact ((hx22.obj hbp (fun e => by omega)) |> fun z => hx25.obj (hx23.obj z (fun e => by omega)) (fun e => by omega)))
       all_goals (refine WH.done (by kernel_rfl) ?_)
       skip))
  all_goals (repeat' (with_reducible first | refine thenP_n ?_ | refine blockP_n ?_))
  all_goals (refine WC.sub [(0, _)] ⟨rfl, trivial⟩ ?_)
  all_goals (refine WC.seq ?_)
  all_goals (refine WC.region ?_)
  all_goals (refine WL.step (ok_move rfl) rfl rfl rfl ?_)
  all_goals (refine WL.step (ok_nilCheck rfl) rfl rfl rfl ?_)
  all_goals (refine WL.step (ok_fieldAddr rfl Try.underlying73 rfl (fun w => Try.sizeOf3 w)) rfl rfl rfl ?_)
  all_goals (refine WL.step (ok_load (fun w => Try.isAgg3 w) rfl (by first | exact cell_blk hb25 rfl | assumption | exact cell_blk (by assumption) rfl)) rfl rfl rfl ?_)
  all_goals (refine WL.step (ok_assign rfl) rfl rfl rfl ?_)
  all_goals (refine WL.nil ?_)
  all_goals (repeat' (with_reducible first | refine thenP_n ?_ | refine blockP_n ?_))
  all_goals (refine WC.sub [(4, _)] ⟨rfl, trivial⟩ ?_)
  all_goals (refine WC.ret ?_)
  all_goals (repeat' (with_reducible first | refine thenP_r ?_ | refine blockP_r ?_))
  all_goals (refine retP_1 _ ⟨rfl, trivial⟩ ?_)
  all_goals (first
              | exact absurd hb (keyB_ne _ _)
              | exact ⟨rfl, ⟨p15, _, r.add ((hX3.trans (hX7.mono fun _ _ z => z.elim)).trans (hC25.mono fun _ _ z => .inr z)) hb25 hp hp2 hl hl2 (hm22.ext ((hx23.trans hx25)) s3) hm25 hr25 (hO7.ext hC25 (fun q hq z => by have := hf q hq; omega)) hfs (by omega) (fun q hq => by have := hf q hq; omega) hno hc⟩, (hX3.trans (hX7.mono fun _ _ z => z.elim)).trans (hC25.mono fun _ _ z => .inr z)⟩)
end
end Go.Proofs.Ytkpgnhhidnkmcaa

