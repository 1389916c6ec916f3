/-
  REGISTRY (layer 14): the document's Ref, Drop, Put.
-/
import Derived.Test.YtkpgnhhidnkmcaaR14d
namespace Go.Proofs.Ytkpgnhhidnkmcaa
open Go Go.RK

section
variable {B : Nat} {h h' : Heap} {bt : Nat} {v : Value} {last : Int} {D D1 D2 : List En} {d : En}
theorem mem_mid {d' x : En} (hx : x ∈ D1 ++ d' :: D2) : x = d' ∨ x ∈ D1 ++ d :: D2 := by
  rcases List.mem_append.1 hx with hx | hx
  · exact .inr (by simp [hx])
  · rcases List.mem_cons.1 hx with hx | hx
    · exact .inl hx
    · exact .inr (by simp [hx])
theorem dC_flat {l : List En} : ∀ x ∈ l.flatMap dC, (∀ e ∈ l, ∃ A n c, e.v = .slice A n c) → x.oneCell' = true := fun x hx hs => by
  obtain ⟨p, hp, hq⟩ := List.mem_flatMap.1 hx
  obtain ⟨A, n, c, hv⟩ := hs p hp
  simp only [dC, List.mem_cons, List.not_mem_nil, or_false] at hq
  rcases hq with rfl | rfl | rfl | rfl
  · rfl
  · rfl
  · rfl
  · rw [hv]; rfl
/-- The count of one slot is another one. -/
theorem R14.bump (r : R14 B h bt v last (D1 ++ d :: D2)) {n : Int} (a : Ext (fun q => v.ownBlock = some q) h h') (ho : Own h' v 88 4 (D1 ++ d :: D2).length ((D1 ++ { d with rf := n } :: D2).flatMap dC)) : R14 B h' bt v last (D1 ++ { d with rf := n } :: D2) := by
  have hd : d ∈ D1 ++ d :: D2 := by simp
  obtain ⟨s1, s2⟩ := r.sep
  have lo := r.lo
  have bd := r.bd
  refine ⟨a.obj r.blk (fun e => s1 _ e rfl), by simpa using ho, fun x hx => ?_, ⟨lo.1, lo.2.1, fun x hx => ?_⟩, ⟨by simpa using bd.1, fun x hx => ?_⟩⟩
  · rcases mem_mid (d := d) hx with rfl | hx
    · exact (r.oid d hd).ext a (fun q hq => (s2 d hd q hq).2)
    · exact (r.oid x hx).ext a (fun q hq => (s2 x hx q hq).2)
  · rcases mem_mid (d := d) hx with rfl | hx
    · exact lo.2.2 d hd
    · exact lo.2.2 x hx
  · rcases mem_mid (d := d) hx with rfl | hx
    · exact bd.2 d hd
    · exact bd.2 x hx
set_option maxRecDepth 100000 in
theorem ref14 (r : R14 B h bt v last (D1 ++ d :: D2)) (hd : ∀ x ∈ D1, x.id ≠ d.id) (hrf : 1 ≤ d.rf ∧ d.rf ≤ 1000000) : CallsH Try.prog 26 ⟨[ptE bt, In d.id]⟩ h fun u h' => u = .bool true ∧ R14 B h' bt v last (D1 ++ { d with rf := d.rf + 1 } :: D2) ∧ Ext (fun q => v.ownBlock = some q) h h' := by
  have kp := place14 r d.id
  rw [idx_mid hd] at kp
  have hB0 := r.blk
  have ho := r.own
  have r0 := r
  have hos := ho.slice
  obtain ⟨A, c, rfl, _⟩ := hos
  obtain ⟨g, gs, rfl, hg, hgl, hset⟩ := row_set dC_len ho at_mid
  have hlt : D1.length < (D1 ++ d :: D2).length := by simp
  obtain ⟨bL, oL, hA, hbL, hat⟩ := Rd.at_ ho.rd (by omega)
  cases hA
  have hc : At h g (0 + D1.length * 4) (dC d) := At.elem dC_len hat at_mid
  unfold ptE at *
  refine calls [(0, _), (1, _)] Try.func26 rfl Try.ntmps26 rfl ⟨rfl, rfl, trivial⟩ ?_
  all_goals (refine WC.seq ?_)
  all_goals (refine WC.region ?_)
  all_goals (refine WL.step (ok_assign rfl) rfl rfl rfl ?_)
  all_goals (refine WL.nil ?_)
  all_goals (repeat' (with_reducible first | refine thenP_n ?_ | refine blockP_n ?_))
  all_goals (refine WC.seq ?_)
  all_goals (refine WC.region ?_)
  all_goals (refine WL.step (ok_move rfl) rfl rfl rfl ?_)
  all_goals (refine WL.step (ok_move rfl) rfl rfl rfl ?_)
  all_goals (refine WL.call (vs := [_, _]) rfl (fun a w => Try.call47 a w) rfl (kp) rfl rfl rfl ?_
             rintro _ hz ⟨rfl, _⟩
             subst hz)
  all_goals (refine WL.step (ok_assign rfl) rfl rfl rfl ?_)
  all_goals (refine WL.nil ?_)
  all_goals (repeat' (with_reducible first | refine thenP_n ?_ | refine blockP_n ?_))
  all_goals (refine WC.sub [(0, _), (5, _)] ⟨rfl, rfl, trivial⟩ ?_)
  all_goals (refine WC.seq ?_)
  all_goals (refine WC.seq ?_)
  all_goals (refine WC.region ?_)
  all_goals (refine WL.step (ok_move rfl) rfl rfl rfl ?_)
  all_goals (first | (refine WL.step (OkP.bool_t (by omega) (ok_lss rfl rfl)) rfl rfl rfl ?_) | (refine WL.step (OkP.bool_f (by omega) (ok_lss rfl rfl)) rfl rfl rfl ?_) | (refine WL.step (ok_lss rfl rfl) rfl rfl rfl ?_))
  all_goals (refine WL.nil ?_)
  all_goals (repeat' (with_reducible first | refine thenP_n ?_ | refine blockP_n ?_))
  all_goals (first | refine WC.condB_t 1 rfl ?_ | refine WC.condB_f 2 rfl ?_ | (refine WC.condB 1 2 rfl (fun hb => ?_) (fun hb => ?_) <;> (first | replace hb := of_decide_eq_true hb | replace hb := of_decide_eq_false hb | replace hb := of_decide_eq_false (nt hb) | replace hb := of_decide_eq_true (nf hb) | skip)))
  all_goals (first
    | (fail_if_success (refine Br.mk (i := 1) ?_))
    | (refine Br.mk (i := 1) ?_
       all_goals (refine WC.seq ?_)
       all_goals (refine WC.region ?_)
       all_goals (refine WL.step (ok_assign rfl) rfl rfl rfl ?_)
       all_goals (refine WL.nil ?_)
       all_goals (repeat' (with_reducible first | refine thenP_n ?_ | refine blockP_n ?_))
       all_goals (refine WC.sub [(4, _)] ⟨rfl, trivial⟩ ?_)
       all_goals (refine WC.ret ?_)
       all_goals (repeat' (with_reducible first | refine thenP_r ?_ | refine blockP_r ?_))
       all_goals (refine retP_1 _ ⟨rfl, trivial⟩ ?_)
       all_goals (exact ⟨rfl, r0.bump hx6' ho6, hx6'⟩)
       skip))
  all_goals (first
    | (fail_if_success (refine Br.mk (i := 2) ?_))
    | (refine Br.mk (i := 2) ?_
       all_goals (refine WC.skip ?_)
       skip))
  all_goals (repeat' (with_reducible first | refine thenP_n ?_ | refine blockP_n ?_))
  all_goals (refine WC.seq ?_)
  all_goals (refine WC.region ?_)
  all_goals (refine WL.step (ok_move rfl) rfl rfl rfl ?_)
  all_goals (refine WL.step (ok_nilCheck rfl) rfl rfl rfl ?_)
  all_goals (refine WL.step (ok_fieldAddr rfl Try.underlying54 rfl (fun w => Try.sizeOf52 w)) rfl rfl rfl ?_)
  all_goals (refine WL.step (ok_load (fun w => Try.isAgg52 w) rfl (by first | exact cell_blk hB0 rfl | assumption | exact cell_blk (by assumption) rfl)) rfl rfl rfl ?_)
  all_goals (refine WL.step (ok_move rfl) rfl rfl rfl ?_)
  all_goals (refine WL.step (ok_idxAddrA Try.underlying52 (fun w => Try.sizeOf88 w) rfl rfl rfl (by omega) (by first | rfl | assumption)) rfl rfl rfl ?_)
  all_goals (refine WL.step (ok_fieldAddr rfl Try.underlying88 rfl (fun w => Try.sizeOf3 w)) rfl rfl rfl ?_)
  all_goals (refine WL.step (ok_load (fun w => Try.isAgg3 w) rfl (by first | exact hc.get 1 rfl rfl | assumption | exact cell_blk (by assumption) rfl)) rfl rfl rfl ?_)
  all_goals (first | (refine WL.step (ok_addI rfl rfl (by omega)) rfl rfl rfl ?_) | (refine WL.step (ok_add rfl rfl) rfl rfl rfl ?_))
  all_goals (refine WL.step (ok_idxAddrA Try.underlying52 (fun w => Try.sizeOf88 w) rfl rfl rfl (by omega) (by first | rfl | assumption)) rfl rfl rfl ?_)
  all_goals (refine WL.step (ok_fieldAddr rfl Try.underlying88 rfl (fun w => Try.sizeOf3 w)) rfl rfl rfl ?_)
  all_goals (refine WL.stepR0 (okE_store (fun w => Try.sizeOf3 w) rfl rfl hg (by show 0 + D1.length * 4 + 1 < gs.length; omega) rfl rfl) rfl rfl ?_
             rintro _ h6 ⟨hb6, hx6⟩)
  all_goals (have ho6 := hset (j := 1) (q' := { d with rf := d.rf + 1 }) (by decide) rfl (by simpa using hb6)
             rw [show (D1 ++ d :: D2).set D1.length { d with rf := d.rf + 1 } = D1 ++ { d with rf := d.rf + 1 } :: D2 by simp] at ho6
             have hx6' : Ext (fun q => (Value.slice (some ⟨g, 0, none⟩) (D1 ++ d :: D2).length c).ownBlock = some q) h h6 := hx6.mono fun q _ e => by rw [e]; rfl)
  all_goals (refine WL.nil ?_)
  all_goals (repeat' (with_reducible first | refine thenP_n ?_ | refine blockP_n ?_))
  all_goals (refine WC.sub [] trivial ?_)
  all_goals (refine WC.seq ?_)
  all_goals (refine WC.region ?_)
  all_goals (refine WL.step (ok_assign rfl) rfl rfl rfl ?_)
  all_goals (refine WL.nil ?_)
  all_goals (repeat' (with_reducible first | refine thenP_n ?_ | refine blockP_n ?_))
  all_goals (refine WC.ret ?_)
  all_goals (repeat' (with_reducible first | refine thenP_r ?_ | refine blockP_r ?_))
  all_goals (refine retP_1 _ ⟨rfl, trivial⟩ ?_)
  all_goals (exact ⟨rfl, r0.bump hx6' ho6, hx6'⟩)
set_option maxRecDepth 100000 in
theorem ref14_no (r : R14 B h bt v last D) {id : Int} (hd : ∀ x ∈ D, x.id ≠ id) : CallsH Try.prog 26 ⟨[ptE bt, In id]⟩ h fun u h' => u = .bool false ∧ h' = h := by
  have kp := place14 r id
  rw [idx_no hd] at kp
  unfold ptE at *
  refine calls [(0, _), (1, _)] Try.func26 rfl Try.ntmps26 rfl ⟨rfl, rfl, trivial⟩ ?_
  all_goals (refine WC.seq ?_)
  all_goals (refine WC.region ?_)
  all_goals (refine WL.step (ok_assign rfl) rfl rfl rfl ?_)
  all_goals (refine WL.nil ?_)
  all_goals (repeat' (with_reducible first | refine thenP_n ?_ | refine blockP_n ?_))
  all_goals (refine WC.seq ?_)
  all_goals (refine WC.region ?_)
  all_goals (refine WL.step (ok_move rfl) rfl rfl rfl ?_)
  all_goals (refine WL.step (ok_move rfl) rfl rfl rfl ?_)
  all_goals (refine WL.call (vs := [_, _]) rfl (fun a w => Try.call47 a w) rfl (kp) rfl rfl rfl ?_
             rintro _ hz ⟨rfl, _⟩
             subst hz)
  all_goals (refine WL.step (ok_assign rfl) rfl rfl rfl ?_)
  all_goals (refine WL.nil ?_)
  all_goals (repeat' (with_reducible first | refine thenP_n ?_ | refine blockP_n ?_))
  all_goals (refine WC.sub [(0, _), (5, _)] ⟨rfl, rfl, trivial⟩ ?_)
  all_goals (refine WC.seq ?_)
  all_goals (refine WC.seq ?_)
  all_goals (refine WC.region ?_)
  all_goals (refine WL.step (ok_move rfl) rfl rfl rfl ?_)
  all_goals (first | (refine WL.step (OkP.bool_t (by omega) (ok_lss rfl rfl)) rfl rfl rfl ?_) | (refine WL.step (OkP.bool_f (by omega) (ok_lss rfl rfl)) rfl rfl rfl ?_) | (refine WL.step (ok_lss rfl rfl) rfl rfl rfl ?_))
  all_goals (refine WL.nil ?_)
  all_goals (repeat' (with_reducible first | refine thenP_n ?_ | refine blockP_n ?_))
  all_goals (first | refine WC.condB_t 1 rfl ?_ | refine WC.condB_f 2 rfl ?_ | (refine WC.condB 1 2 rfl (fun hb => ?_) (fun hb => ?_) <;> (first | replace hb := of_decide_eq_true hb | replace hb := of_decide_eq_false hb | replace hb := of_decide_eq_false (nt hb) | replace hb := of_decide_eq_true (nf hb) | skip)))
  all_goals (first
    | (fail_if_success (refine Br.mk (i := 1) ?_))
    | (refine Br.mk (i := 1) ?_
       all_goals (refine WC.seq ?_)
       all_goals (refine WC.region ?_)
       all_goals (refine WL.step (ok_assign rfl) rfl rfl rfl ?_)
       all_goals (refine WL.nil ?_)
       all_goals (repeat' (with_reducible first | refine thenP_n ?_ | refine blockP_n ?_))
       all_goals (refine WC.sub [(4, _)] ⟨rfl, trivial⟩ ?_)
       all_goals (refine WC.ret ?_)
       all_goals (repeat' (with_reducible first | refine thenP_r ?_ | refine blockP_r ?_))
       all_goals (refine retP_1 _ ⟨rfl, trivial⟩ ?_)
       all_goals (exact ⟨rfl, rfl⟩)
       skip))
  all_goals (first
    | (fail_if_success (refine Br.mk (i := 2) ?_))
    | (refine Br.mk (i := 2) ?_
       all_goals (refine WC.skip ?_)
       skip))
  all_goals (repeat' (with_reducible first | refine thenP_n ?_ | refine blockP_n ?_))
  all_goals (refine WC.seq ?_)
  all_goals (refine WC.region ?_)
  all_goals (refine WL.step (ok_move rfl) rfl rfl rfl ?_)
  all_goals (refine WL.step (ok_nilCheck rfl) rfl rfl rfl ?_)
  all_goals (refine WL.step (ok_fieldAddr rfl Try.underlying54 rfl (fun w => Try.sizeOf52 w)) rfl rfl rfl ?_)
  all_goals (refine WL.step (ok_load (fun w => Try.isAgg52 w) rfl (by first | assumption | exact cell_blk (by assumption) rfl)) rfl rfl rfl ?_)
  all_goals (refine WL.step (ok_move rfl) rfl rfl rfl ?_)
  all_goals (refine WL.step (ok_idxAddrA Try.underlying52 (fun w => Try.sizeOf88 w) rfl rfl rfl (by omega) (by first | rfl | assumption)) rfl rfl rfl ?_)
  all_goals (refine WL.step (ok_fieldAddr rfl Try.underlying88 rfl (fun w => Try.sizeOf3 w)) rfl rfl rfl ?_)
  all_goals (refine WL.step (ok_load (fun w => Try.isAgg3 w) rfl (by first | assumption | exact cell_blk (by assumption) rfl)) rfl rfl rfl ?_)
  all_goals (first | (refine WL.step (ok_addI rfl rfl (by omega)) rfl rfl rfl ?_) | (refine WL.step (ok_add rfl rfl) rfl rfl rfl ?_))
  all_goals (refine WL.step (ok_idxAddrA Try.underlying52 (fun w => Try.sizeOf88 w) rfl rfl rfl (by omega) (by first | rfl | assumption)) rfl rfl rfl ?_)
  all_goals (refine WL.step (ok_fieldAddr rfl Try.underlying88 rfl (fun w => Try.sizeOf3 w)) rfl rfl rfl ?_)
  all_goals (refine WL.stepR0 (okE_store (fun w => Try.sizeOf3 w) rfl rfl (by assumption) (Nat.le_of_ble_eq_true rfl) rfl rfl) rfl rfl ?_
             rintro _ h1 ⟨hb1, hx1⟩)
  all_goals (refine WL.nil ?_)
  all_goals (repeat' (with_reducible first | refine thenP_n ?_ | refine blockP_n ?_))
  all_goals (refine WC.sub [] trivial ?_)
  all_goals (refine WC.seq ?_)
  all_goals (refine WC.region ?_)
  all_goals (refine WL.step (ok_assign rfl) rfl rfl rfl ?_)
  all_goals (refine WL.nil ?_)
  all_goals (repeat' (with_reducible first | refine thenP_n ?_ | refine blockP_n ?_))
  all_goals (refine WC.ret ?_)
  all_goals (repeat' (with_reducible first | refine thenP_r ?_ | refine blockP_r ?_))
  all_goals (refine retP_1 _ ⟨rfl, trivial⟩ ?_)
  all_goals (exact ⟨rfl, rfl⟩)
set_option maxRecDepth 100000 in
theorem drop14_no (r : R14 B h bt v last D) {id : Int} (hd : ∀ x ∈ D, x.id ≠ id) : CallsH Try.prog 28 ⟨[ptE bt, In id]⟩ h fun u h' => u = .bool false ∧ h' = h := by
  have kp := place14 r id
  rw [idx_no hd] at kp
  unfold ptE at *
  refine calls [(0, _), (1, _)] Try.func28 rfl Try.ntmps28 rfl ⟨rfl, rfl, trivial⟩ ?_
  all_goals (refine WC.seq ?_)
  all_goals (refine WC.region ?_)
  all_goals (refine WL.step (ok_assign rfl) rfl rfl rfl ?_)
  all_goals (refine WL.nil ?_)
  all_goals (repeat' (with_reducible first | refine thenP_n ?_ | refine blockP_n ?_))
  all_goals (refine WC.seq ?_)
  all_goals (refine WC.region ?_)
  all_goals (refine WL.step (ok_move rfl) rfl rfl rfl ?_)
  all_goals (refine WL.step (ok_move rfl) rfl rfl rfl ?_)
  all_goals (refine WL.call (vs := [_, _]) rfl (fun a w => Try.call47 a w) rfl (kp) rfl rfl rfl ?_
             rintro _ hz ⟨rfl, _⟩
             subst hz)
  all_goals (refine WL.step (ok_assign rfl) rfl rfl rfl ?_)
  all_goals (refine WL.nil ?_)
  all_goals (repeat' (with_reducible first | refine thenP_n ?_ | refine blockP_n ?_))
  all_goals (refine WC.sub [(0, _), (5, _)] ⟨rfl, rfl, trivial⟩ ?_)
  all_goals (refine WC.seq ?_)
  all_goals (refine WC.seq ?_)
  all_goals (refine WC.region ?_)
  all_goals (refine WL.step (ok_move rfl) rfl rfl rfl ?_)
  all_goals (first | (refine WL.step (OkP.bool_t (by omega) (ok_lss rfl rfl)) rfl rfl rfl ?_) | (refine WL.step (OkP.bool_f (by omega) (ok_lss rfl rfl)) rfl rfl rfl ?_) | (refine WL.step (ok_lss rfl rfl) rfl rfl rfl ?_))
  all_goals (refine WL.nil ?_)
  all_goals (repeat' (with_reducible first | refine thenP_n ?_ | refine blockP_n ?_))
  all_goals (first | refine WC.condB_t 1 rfl ?_ | refine WC.condB_f 2 rfl ?_ | (refine WC.condB 1 2 rfl (fun hb => ?_) (fun hb => ?_) <;> (first | replace hb := of_decide_eq_true hb | replace hb := of_decide_eq_false hb | replace hb := of_decide_eq_false (nt hb) | replace hb := of_decide_eq_true (nf hb) | skip)))
  all_goals (first
    | (fail_if_success (refine Br.mk (i := 1) ?_))
    | (refine Br.mk (i := 1) ?_
       all_goals (refine WC.seq ?_)
       all_goals (refine WC.region ?_)
       all_goals (refine WL.step (ok_assign rfl) rfl rfl rfl ?_)
       all_goals (refine WL.nil ?_)
       all_goals (repeat' (with_reducible first | refine thenP_n ?_ | refine blockP_n ?_))
       all_goals (refine WC.sub [(4, _)] ⟨rfl, trivial⟩ ?_)
       all_goals (refine WC.ret ?_)
       all_goals (repeat' (with_reducible first | refine thenP_r ?_ | refine blockP_r ?_))
       all_goals (refine retP_1 _ ⟨rfl, trivial⟩ ?_)
       all_goals (exact ⟨rfl, rfl⟩)
       skip))
  all_goals (first
    | (fail_if_success (refine Br.mk (i := 2) ?_))
    | (refine Br.mk (i := 2) ?_
       all_goals (refine WC.skip ?_)
       skip))
  all_goals (repeat' (with_reducible first | refine thenP_n ?_ | refine blockP_n ?_))
  all_goals (refine WC.seq ?_)
  all_goals (refine WC.region ?_)
  all_goals (refine WL.step (ok_move rfl) rfl rfl rfl ?_)
  all_goals (refine WL.step (ok_nilCheck rfl) rfl rfl rfl ?_)
  all_goals (refine WL.step (ok_fieldAddr rfl Try.underlying54 rfl (fun w => Try.sizeOf52 w)) rfl rfl rfl ?_)
  all_goals (refine WL.step (ok_load (fun w => Try.isAgg52 w) rfl (by first | assumption | exact cell_blk (by assumption) rfl)) rfl rfl rfl ?_)
  all_goals (refine WL.step (ok_move rfl) rfl rfl rfl ?_)
  all_goals (refine WL.step (ok_idxAddrA Try.underlying52 (fun w => Try.sizeOf88 w) rfl rfl rfl (by omega) (by first | rfl | assumption)) rfl rfl rfl ?_)
  all_goals (refine WL.step (ok_fieldAddr rfl Try.underlying88 rfl (fun w => Try.sizeOf3 w)) rfl rfl rfl ?_)
  all_goals (refine WL.step (ok_load (fun w => Try.isAgg3 w) rfl (by first | assumption | exact cell_blk (by assumption) rfl)) rfl rfl rfl ?_)
  all_goals (first | (refine WL.step (ok_subI rfl rfl (by omega)) rfl rfl rfl ?_) | (refine WL.step (ok_sub rfl rfl) rfl rfl rfl ?_))
  all_goals (refine WL.step (ok_idxAddrA Try.underlying52 (fun w => Try.sizeOf88 w) rfl rfl rfl (by omega) (by first | rfl | assumption)) rfl rfl rfl ?_)
  all_goals (refine WL.step (ok_fieldAddr rfl Try.underlying88 rfl (fun w => Try.sizeOf3 w)) rfl rfl rfl ?_)
  all_goals (refine WL.stepR0 (okE_store (fun w => Try.sizeOf3 w) rfl rfl (by assumption) (Nat.le_of_ble_eq_true rfl) rfl rfl) rfl rfl ?_
             rintro _ h1 ⟨hb1, hx1⟩)
  all_goals (refine WL.nil ?_)
  all_goals (repeat' (with_reducible first | refine thenP_n ?_ | refine blockP_n ?_))
  all_goals (refine WC.sub [(0, _), (5, _)] ⟨rfl, rfl, trivial⟩ ?_)
  all_goals (refine WC.seq ?_)
  all_goals (refine WC.seq ?_)
  all_goals (refine WC.region ?_)
  all_goals (refine WL.step (ok_move rfl) rfl rfl rfl ?_)
  all_goals (refine WL.step (ok_nilCheck rfl) rfl rfl rfl ?_)
  all_goals (refine WL.step (ok_fieldAddr rfl Try.underlying54 rfl (fun w => Try.sizeOf52 w)) rfl rfl rfl ?_)
  all_goals (refine WL.step (ok_load (fun w => Try.isAgg52 w) rfl (by first | assumption | exact cell_blk (by assumption) rfl)) rfl rfl rfl ?_)
  all_goals (refine WL.step (ok_move rfl) rfl rfl rfl ?_)
  all_goals (refine WL.step (ok_idxAddrA Try.underlying52 (fun w => Try.sizeOf88 w) rfl rfl rfl (by omega) (by first | rfl | assumption)) rfl rfl rfl ?_)
  all_goals (refine WL.step (ok_fieldAddr rfl Try.underlying88 rfl (fun w => Try.sizeOf3 w)) rfl rfl rfl ?_)
  all_goals (refine WL.step (ok_load (fun w => Try.isAgg3 w) rfl (by first | assumption | exact cell_blk (by assumption) rfl)) rfl rfl rfl ?_)
  all_goals (first | (refine WL.step (OkP.bool_t (by omega) (ok_eql rfl rfl)) rfl rfl rfl ?_) | (refine WL.step (OkP.bool_f (by omega) (ok_eql rfl rfl)) rfl rfl rfl ?_) | (refine WL.step (ok_eql rfl rfl) rfl rfl rfl ?_))
  all_goals (refine WL.nil ?_)
  all_goals (repeat' (with_reducible first | refine thenP_n ?_ | refine blockP_n ?_))
  all_goals (refine WC.sub [(0, _), (5, _), (30, _)] ⟨rfl, rfl, rfl, trivial⟩ ?_)
  all_goals (first | refine WC.condB_t 3 rfl ?_ | refine WC.condB_f 4 rfl ?_ | (refine WC.condB 3 4 rfl (fun hb => ?_) (fun hb => ?_) <;> (first | replace hb := of_decide_eq_true hb | replace hb := of_decide_eq_false hb | replace hb := of_decide_eq_false (nt hb) | replace hb := of_decide_eq_true (nf hb) | skip)))
  all_goals (first
    | (fail_if_success (refine Br.mk (i := 3) ?_))
    | (refine Br.mk (i := 3) ?_
       all_goals (refine WC.drawE fol (by kernel_rfl) ?_)
       all_goals (refine WQ.stepE (ok_move rfl) rfl rfl rfl ?_)
       all_goals (refine WQ.stepE (ok_move rfl) rfl rfl rfl ?_)
       all_goals (refine WQ.stepE (ok_nilCheck rfl) rfl rfl rfl ?_)
       all_goals (refine WQ.stepE (ok_fieldAddr rfl Try.underlying54 rfl (fun w => Try.sizeOf52 w)) rfl rfl rfl ?_)
       all_goals (refine WQ.stepE (ok_load (fun w => Try.isAgg52 w) rfl (by first | assumption | exact cell_blk (by assumption) rfl)) rfl rfl rfl ?_)
       all_goals (refine WQ.stepE (ok_move rfl) rfl rfl rfl ?_)
       all_goals (first | (refine WQ.stepE (ok_slice_hN Try.underlying52 (fun w => Try.sizeOf88 w) rfl rfl (by omega)) rfl rfl rfl ?_) | (refine WQ.stepE (ok_slice_h Try.underlying52 (fun w => Try.sizeOf88 w) rfl rfl (by omega)) rfl rfl rfl ?_))
       all_goals (refine WL.stepR (ok_append (sz := 4) (bytes := 56) rfl Try.underlying52 (show Try.prog.info? 88 = some Try.t88 by kernel_rfl) rfl rfl rfl rfl (by decide) rfl rfl (by assumption) (by first | assumption | exact rd_blk (by assumption) rfl) (by simp [Value.oneCell']) (by simp only [maxLen]; omega) (by omega)) rfl rfl rfl ?_
                  rintro v1 h1 ⟨ho1, hx1, hl1⟩)
       all_goals (refine WQ.stepE (ok_move rfl) rfl rfl rfl ?_)
       all_goals (refine WQ.stepE (ok_nilCheck rfl) rfl rfl rfl ?_)
       all_goals (refine WQ.stepE (ok_fieldAddr rfl Try.underlying54 rfl (fun w => Try.sizeOf52 w)) rfl rfl rfl ?_)
       all_goals (refine WQ.stepE (ok_load (fun w => Try.isAgg52 w) rfl (by first | assumption | exact cell_blk (by assumption) rfl)) rfl rfl rfl ?_)
       all_goals (refine WQ.stepE (ok_move rfl) rfl rfl rfl ?_)
       all_goals (first | (refine WQ.stepE (ok_addI rfl rfl (by omega)) rfl rfl rfl ?_) | (refine WQ.stepE (ok_add rfl rfl) rfl rfl rfl ?_))
       all_goals (first | (refine WQ.stepE (ok_slice_lN Try.underlying52 (fun w => Try.sizeOf88 w) rfl rfl (by omega)) rfl rfl rfl ?_) | (refine WQ.stepE (ok_slice_lS Try.underlying52 (fun w => Try.sizeOf88 w) rfl rfl (by omega)) rfl rfl rfl ?_) | (refine WQ.stepE (ok_slice_l Try.underlying52 (fun w => Try.sizeOf88 w) rfl rfl (by omega)) rfl rfl rfl ?_))
       all_goals (refine WL.stepR (ok_append (sz := 4) (bytes := 56) rfl Try.underlying52 (show Try.prog.info? 88 = some Try.t88 by kernel_rfl) rfl rfl rfl rfl (by decide) rfl rfl (by assumption) (by first | assumption | exact rd_blk (by assumption) rfl) (by simp [Value.oneCell']) (by simp only [maxLen]; omega) (by omega)) rfl rfl rfl ?_
                  rintro v1 h1 ⟨ho1, hx1, hl1⟩)
       all_goals (refine WQ.stepE (ok_nilCheck rfl) rfl rfl rfl ?_)
       all_goals (refine WQ.stepE (ok_fieldAddr rfl Try.underlying54 rfl (fun w => Try.sizeOf52 w)) rfl rfl rfl ?_)
       all_goals (refine WL.stepR0 (okE_store (fun w => Try.sizeOf52 w) rfl rfl (by assumption) (Nat.le_of_ble_eq_true rfl) rfl rfl) rfl rfl ?_
                  rintro _ h1 ⟨hb1, hx1⟩)
       all_goals (refine WQ.nil ?_)
       skip))
  all_goals (first
    | (fail_if_success (refine Br.mk (i := 4) ?_))
    | (refine Br.mk (i := 4) ?_
       all_goals (refine WC.skip ?_)
       skip))
  all_goals (repeat' (with_reducible first | refine thenP_n ?_ | refine blockP_n ?_))
  all_goals (refine WC.seq ?_)
  all_goals (refine WC.region ?_)
  all_goals (refine WL.step (ok_assign rfl) rfl rfl rfl ?_)
  all_goals (refine WL.nil ?_)
  all_goals (repeat' (with_reducible first | refine thenP_n ?_ | refine blockP_n ?_))
  all_goals (refine WC.ret ?_)
  all_goals (repeat' (with_reducible first | refine thenP_r ?_ | refine blockP_r ?_))
  all_goals (refine retP_1 _ ⟨rfl, trivial⟩ ?_)
  all_goals (exact ⟨rfl, rfl⟩)
set_option maxRecDepth 100000 in
theorem drop14_dec (r : R14 B h bt v last (D1 ++ d :: D2)) (hd : ∀ x ∈ D1, x.id ≠ d.id) (hrf : 2 ≤ d.rf ∧ d.rf ≤ 1000000) : CallsH Try.prog 28 ⟨[ptE bt, In d.id]⟩ h fun u h' => u = .bool true ∧ R14 B h' bt v last (D1 ++ { d with rf := d.rf - 1 } :: D2) ∧ Ext (fun q => v.ownBlock = some q) h h' := by
  have kp := place14 r d.id
  rw [idx_mid hd] at kp
  have hB0 := r.blk
  have ho := r.own
  have r0 := r
  have hos := ho.slice
  obtain ⟨A, c, rfl, _⟩ := hos
  obtain ⟨g, gs, rfl, hg, hgl, hset⟩ := row_set dC_len ho at_mid
  have hlt : D1.length < (D1 ++ d :: D2).length := by simp
  obtain ⟨bL, oL, hA, hbL, hat⟩ := Rd.at_ ho.rd (by omega)
  cases hA
  have hc : At h g (0 + D1.length * 4) (dC d) := At.elem dC_len hat at_mid
  unfold ptE at *
  refine calls [(0, _), (1, _)] Try.func28 rfl Try.ntmps28 rfl ⟨rfl, rfl, trivial⟩ ?_
  all_goals (refine WC.seq ?_)
  all_goals (refine WC.region ?_)
  all_goals (refine WL.step (ok_assign rfl) rfl rfl rfl ?_)
  all_goals (refine WL.nil ?_)
  all_goals (repeat' (with_reducible first | refine thenP_n ?_ | refine blockP_n ?_))
  all_goals (refine WC.seq ?_)
  all_goals (refine WC.region ?_)
  all_goals (refine WL.step (ok_move rfl) rfl rfl rfl ?_)
  all_goals (refine WL.step (ok_move rfl) rfl rfl rfl ?_)
  all_goals (refine WL.call (vs := [_, _]) rfl (fun a w => Try.call47 a w) rfl (kp) rfl rfl rfl ?_
             rintro _ hz ⟨rfl, _⟩
             subst hz)
  all_goals (refine WL.step (ok_assign rfl) rfl rfl rfl ?_)
  all_goals (refine WL.nil ?_)
  all_goals (repeat' (with_reducible first | refine thenP_n ?_ | refine blockP_n ?_))
  all_goals (refine WC.sub [(0, _), (5, _)] ⟨rfl, rfl, trivial⟩ ?_)
  all_goals (refine WC.seq ?_)
  all_goals (refine WC.seq ?_)
  all_goals (refine WC.region ?_)
  all_goals (refine WL.step (ok_move rfl) rfl rfl rfl ?_)
  all_goals (first | (refine WL.step (OkP.bool_t (by omega) (ok_lss rfl rfl)) rfl rfl rfl ?_) | (refine WL.step (OkP.bool_f (by omega) (ok_lss rfl rfl)) rfl rfl rfl ?_) | (refine WL.step (ok_lss rfl rfl) rfl rfl rfl ?_))
  all_goals (refine WL.nil ?_)
  all_goals (repeat' (with_reducible first | refine thenP_n ?_ | refine blockP_n ?_))
  all_goals (first | refine WC.condB_t 1 rfl ?_ | refine WC.condB_f 2 rfl ?_ | (refine WC.condB 1 2 rfl (fun hb => ?_) (fun hb => ?_) <;> (first | replace hb := of_decide_eq_true hb | replace hb := of_decide_eq_false hb | replace hb := of_decide_eq_false (nt hb) | replace hb := of_decide_eq_true (nf hb) | skip)))
  all_goals (first
    | (fail_if_success (refine Br.mk (i := 1) ?_))
    | (refine Br.mk (i := 1) ?_
       all_goals (refine WC.seq ?_)
       all_goals (refine WC.region ?_)
       all_goals (refine WL.step (ok_assign rfl) rfl rfl rfl ?_)
       all_goals (refine WL.nil ?_)
       all_goals (repeat' (with_reducible first | refine thenP_n ?_ | refine blockP_n ?_))
       all_goals (refine WC.sub [(4, _)] ⟨rfl, trivial⟩ ?_)
       all_goals (refine WC.ret ?_)
       all_goals (repeat' (with_reducible first | refine thenP_r ?_ | refine blockP_r ?_))
       all_goals (refine retP_1 _ ⟨rfl, trivial⟩ ?_)
       all_goals (exact ⟨rfl, r6, hx6'⟩)
       skip))
  all_goals (first
    | (fail_if_success (refine Br.mk (i := 2) ?_))
    | (refine Br.mk (i := 2) ?_
       all_goals (refine WC.skip ?_)
       skip))
  all_goals (repeat' (with_reducible first | refine thenP_n ?_ | refine blockP_n ?_))
  all_goals (refine WC.seq ?_)
  all_goals (refine WC.region ?_)
  all_goals (refine WL.step (ok_move rfl) rfl rfl rfl ?_)
  all_goals (refine WL.step (ok_nilCheck rfl) rfl rfl rfl ?_)
  all_goals (refine WL.step (ok_fieldAddr rfl Try.underlying54 rfl (fun w => Try.sizeOf52 w)) rfl rfl rfl ?_)
  all_goals (refine WL.step (ok_load (fun w => Try.isAgg52 w) rfl (by first | exact cell_blk hB0 rfl | assumption | exact cell_blk (by assumption) rfl)) rfl rfl rfl ?_)
  all_goals (refine WL.step (ok_move rfl) rfl rfl rfl ?_)
  all_goals (refine WL.step (ok_idxAddrA Try.underlying52 (fun w => Try.sizeOf88 w) rfl rfl rfl (by omega) (by first | rfl | assumption)) rfl rfl rfl ?_)
  all_goals (refine WL.step (ok_fieldAddr rfl Try.underlying88 rfl (fun w => Try.sizeOf3 w)) rfl rfl rfl ?_)
  all_goals (refine WL.step (ok_load (fun w => Try.isAgg3 w) rfl (by first | exact hc.get 1 rfl rfl | assumption | exact cell_blk (by assumption) rfl)) rfl rfl rfl ?_)
  all_goals (first | (refine WL.step (ok_subI rfl rfl (by omega)) rfl rfl rfl ?_) | (refine WL.step (ok_sub rfl rfl) rfl rfl rfl ?_))
  all_goals (refine WL.step (ok_idxAddrA Try.underlying52 (fun w => Try.sizeOf88 w) rfl rfl rfl (by omega) (by first | rfl | assumption)) rfl rfl rfl ?_)
  all_goals (refine WL.step (ok_fieldAddr rfl Try.underlying88 rfl (fun w => Try.sizeOf3 w)) rfl rfl rfl ?_)
  all_goals (refine WL.stepR0 (okE_store (fun w => Try.sizeOf3 w) rfl rfl hg (by show 0 + D1.length * 4 + 1 < gs.length; omega) rfl rfl) rfl rfl ?_
             rintro _ h6 ⟨hb6, hx6⟩)
  all_goals (have ho6 := hset (j := 1) (q' := { d with rf := d.rf - 1 }) (by decide) rfl (by simpa using hb6)
             rw [show (D1 ++ d :: D2).set D1.length { d with rf := d.rf - 1 } = D1 ++ { d with rf := d.rf - 1 } :: D2 by simp] at ho6
             have hx6' : Ext (fun q => (Value.slice (some ⟨g, 0, none⟩) (D1 ++ d :: D2).length c).ownBlock = some q) h h6 := hx6.mono fun q _ e => by rw [e]; rfl
             have r6 := r0.bump hx6' ho6
             obtain ⟨b7, o7, hA7, _, hat7⟩ := Rd.at_ ho6.rd (by omega)
             cases hA7
             have hc6 : At h6 g (0 + D1.length * 4) [In d.id, In (d.rf - 1), St d.t, d.v] := At.elem dC_len hat7 at_mid)
  all_goals (refine WL.nil ?_)
  all_goals (repeat' (with_reducible first | refine thenP_n ?_ | refine blockP_n ?_))
  all_goals (refine WC.sub [(0, _), (5, _)] ⟨rfl, rfl, trivial⟩ ?_)
  all_goals (refine WC.seq ?_)
  all_goals (refine WC.seq ?_)
  all_goals (refine WC.region ?_)
  all_goals (refine WL.step (ok_move rfl) rfl rfl rfl ?_)
  all_goals (refine WL.step (ok_nilCheck rfl) rfl rfl rfl ?_)
  all_goals (refine WL.step (ok_fieldAddr rfl Try.underlying54 rfl (fun w => Try.sizeOf52 w)) rfl rfl rfl ?_)
  all_goals (refine WL.step (ok_load (fun w => Try.isAgg52 w) rfl (by first | exact cell_blk r6.blk rfl | assumption | exact cell_blk (by assumption) rfl)) rfl rfl rfl ?_)
  all_goals (refine WL.step (ok_move rfl) rfl rfl rfl ?_)
  all_goals (refine WL.step (ok_idxAddrA Try.underlying52 (fun w => Try.sizeOf88 w) rfl rfl rfl (by omega) (by first | rfl | assumption)) rfl rfl rfl ?_)
  all_goals (refine WL.step (ok_fieldAddr rfl Try.underlying88 rfl (fun w => Try.sizeOf3 w)) rfl rfl rfl ?_)
  all_goals (refine WL.step (ok_load (fun w => Try.isAgg3 w) rfl (by first | exact hc6.get 1 rfl rfl | assumption | exact cell_blk (by assumption) rfl)) rfl rfl rfl ?_)
  all_goals (first | (refine WL.step (OkP.bool_t (by omega) (ok_eql rfl rfl)) rfl rfl rfl ?_) | (refine WL.step (OkP.bool_f (by omega) (ok_eql rfl rfl)) rfl rfl rfl ?_) | (refine WL.step (ok_eql rfl rfl) rfl rfl rfl ?_))
  all_goals (refine WL.nil ?_)
  all_goals (repeat' (with_reducible first | refine thenP_n ?_ | refine blockP_n ?_))
  all_goals (refine WC.sub [(0, _), (5, _), (30, _)] ⟨rfl, rfl, rfl, trivial⟩ ?_)
  all_goals (first | refine WC.condB_t 3 rfl ?_ | refine WC.condB_f 4 rfl ?_ | (refine WC.condB 3 4 rfl (fun hb => ?_) (fun hb => ?_) <;> (first | replace hb := of_decide_eq_true hb | replace hb := of_decide_eq_false hb | replace hb := of_decide_eq_false (nt hb) | replace hb := of_decide_eq_true (nf hb) | skip)))
  all_goals (first
    | (fail_if_success (refine Br.mk (i := 3) ?_))
    | (refine Br.mk (i := 3) ?_
       all_goals (refine WC.drawE fol (by kernel_rfl) ?_)
       all_goals (refine WQ.stepE (ok_move rfl) rfl rfl rfl ?_)
       all_goals (refine WQ.stepE (ok_move rfl) rfl rfl rfl ?_)
       all_goals (refine WQ.stepE (ok_nilCheck rfl) rfl rfl rfl ?_)
       all_goals (refine WQ.stepE (ok_fieldAddr rfl Try.underlying54 rfl (fun w => Try.sizeOf52 w)) rfl rfl rfl ?_)
       all_goals (refine WQ.stepE (ok_load (fun w => Try.isAgg52 w) rfl (by first | assumption | exact cell_blk (by assumption) rfl)) rfl rfl rfl ?_)
       all_goals (refine WQ.stepE (ok_move rfl) rfl rfl rfl ?_)
       all_goals (first | (refine WQ.stepE (ok_slice_hN Try.underlying52 (fun w => Try.sizeOf88 w) rfl rfl (by omega)) rfl rfl rfl ?_) | (refine WQ.stepE (ok_slice_h Try.underlying52 (fun w => Try.sizeOf88 w) rfl rfl (by omega)) rfl rfl rfl ?_))
       all_goals (refine WL.stepR (ok_append (sz := 4) (bytes := 56) rfl Try.underlying52 (show Try.prog.info? 88 = some Try.t88 by kernel_rfl) rfl rfl rfl rfl (by decide) rfl rfl (by assumption) (by first | assumption | exact rd_blk (by assumption) rfl) (by simp [Value.oneCell']) (by simp only [maxLen]; omega) (by omega)) rfl rfl rfl ?_
                  rintro v1 h1 ⟨ho1, hx1, hl1⟩)
       all_goals (refine WQ.stepE (ok_move rfl) rfl rfl rfl ?_)
       all_goals (refine WQ.stepE (ok_nilCheck rfl) rfl rfl rfl ?_)
       all_goals (refine WQ.stepE (ok_fieldAddr rfl Try.underlying54 rfl (fun w => Try.sizeOf52 w)) rfl rfl rfl ?_)
       all_goals (refine WQ.stepE (ok_load (fun w => Try.isAgg52 w) rfl (by first | assumption | exact cell_blk (by assumption) rfl)) rfl rfl rfl ?_)
       all_goals (refine WQ.stepE (ok_move rfl) rfl rfl rfl ?_)
       all_goals (first | (refine WQ.stepE (ok_addI rfl rfl (by omega)) rfl rfl rfl ?_) | (refine WQ.stepE (ok_add rfl rfl) rfl rfl rfl ?_))
       all_goals (first | (refine WQ.stepE (ok_slice_lN Try.underlying52 (fun w => Try.sizeOf88 w) rfl rfl (by omega)) rfl rfl rfl ?_) | (refine WQ.stepE (ok_slice_lS Try.underlying52 (fun w => Try.sizeOf88 w) rfl rfl (by omega)) rfl rfl rfl ?_) | (refine WQ.stepE (ok_slice_l Try.underlying52 (fun w => Try.sizeOf88 w) rfl rfl (by omega)) rfl rfl rfl ?_))
       all_goals (refine WL.stepR (ok_append (sz := 4) (bytes := 56) rfl Try.underlying52 (show Try.prog.info? 88 = some Try.t88 by kernel_rfl) rfl rfl rfl rfl (by decide) rfl rfl (by assumption) (by first | assumption | exact rd_blk (by assumption) rfl) (by simp [Value.oneCell']) (by simp only [maxLen]; omega) (by omega)) rfl rfl rfl ?_
                  rintro v1 h1 ⟨ho1, hx1, hl1⟩)
       all_goals (refine WQ.stepE (ok_nilCheck rfl) rfl rfl rfl ?_)
       all_goals (refine WQ.stepE (ok_fieldAddr rfl Try.underlying54 rfl (fun w => Try.sizeOf52 w)) rfl rfl rfl ?_)
       all_goals (refine WL.stepR0 (okE_store (fun w => Try.sizeOf52 w) rfl rfl (by assumption) (Nat.le_of_ble_eq_true rfl) rfl rfl) rfl rfl ?_
                  rintro _ h1 ⟨hb1, hx1⟩)
       all_goals (refine WQ.nil ?_)
       skip))
  all_goals (first
    | (fail_if_success (refine Br.mk (i := 4) ?_))
    | (refine Br.mk (i := 4) ?_
       all_goals (refine WC.skip ?_)
       skip))
  all_goals (repeat' (with_reducible first | refine thenP_n ?_ | refine blockP_n ?_))
  all_goals (refine WC.seq ?_)
  all_goals (refine WC.region ?_)
  all_goals (refine WL.step (ok_assign rfl) rfl rfl rfl ?_)
  all_goals (refine WL.nil ?_)
  all_goals (repeat' (with_reducible first | refine thenP_n ?_ | refine blockP_n ?_))
  all_goals (refine WC.ret ?_)
  all_goals (repeat' (with_reducible first | refine thenP_r ?_ | refine blockP_r ?_))
  all_goals (refine retP_1 _ ⟨rfl, trivial⟩ ?_)
  all_goals (exact ⟨rfl, r6, hx6'⟩)
set_option maxHeartbeats 1000000 in
set_option maxRecDepth 100000 in
theorem drop14_out (r : R14 B h bt v last (D1 ++ d :: D2)) (hd : ∀ x ∈ D1, x.id ≠ d.id) (hrf : d.rf = 1) : CallsH Try.prog 28 ⟨[ptE bt, In d.id]⟩ h fun u h' => u = .bool true ∧ (∃ v', R14 B h' bt v' last (D1 ++ D2)) ∧ Ext (fun q => q = bt ∨ v.ownBlock = some q) h h' := by
  have kp := place14 r d.id
  rw [idx_mid hd] at kp
  have hB0 := r.blk
  have hbd := r.bd.1
  have ho := r.own
  have r0 := r
  have hos := ho.slice
  have hsz : B ≤ h.size := by have := r.lo.1; have := lt_of_some r.blk; omega
  obtain ⟨A, c, rfl, _⟩ := hos
  obtain ⟨g, gs, rfl, hg, hgl, hset⟩ := row_set dC_len ho at_mid
  have hlt : D1.length < (D1 ++ d :: D2).length := by simp
  obtain ⟨bL, oL, hA, hbL, hat⟩ := Rd.at_ ho.rd (by omega)
  cases hA
  have hc : At h g (0 + D1.length * 4) (dC d) := At.elem dC_len hat at_mid
  unfold ptE at *
  refine calls [(0, _), (1, _)] Try.func28 rfl Try.ntmps28 rfl ⟨rfl, rfl, trivial⟩ ?_
  all_goals (refine WC.seq ?_)
  all_goals (refine WC.region ?_)
  all_goals (refine WL.step (ok_assign rfl) rfl rfl rfl ?_)
  all_goals (refine WL.nil ?_)
  all_goals (repeat' (with_reducible first | refine thenP_n ?_ | refine blockP_n ?_))
  all_goals (refine WC.seq ?_)
  all_goals (refine WC.region ?_)
  all_goals (refine WL.step (ok_move rfl) rfl rfl rfl ?_)
  all_goals (refine WL.step (ok_move rfl) rfl rfl rfl ?_)
  all_goals (refine WL.call (vs := [_, _]) rfl (fun a w => Try.call47 a w) rfl (kp) rfl rfl rfl ?_
             rintro _ hz ⟨rfl, _⟩
             subst hz)
  all_goals (refine WL.step (ok_assign rfl) rfl rfl rfl ?_)
  all_goals (refine WL.nil ?_)
  all_goals (repeat' (with_reducible first | refine thenP_n ?_ | refine blockP_n ?_))
  all_goals (refine WC.sub [(0, _), (5, _)] ⟨rfl, rfl, trivial⟩ ?_)
  all_goals (refine WC.seq ?_)
  all_goals (refine WC.seq ?_)
  all_goals (refine WC.region ?_)
  all_goals (refine WL.step (ok_move rfl) rfl rfl rfl ?_)
  all_goals (first | (refine WL.step (OkP.bool_t (by omega) (ok_lss rfl rfl)) rfl rfl rfl ?_) | (refine WL.step (OkP.bool_f (by omega) (ok_lss rfl rfl)) rfl rfl rfl ?_) | (refine WL.step (ok_lss rfl rfl) rfl rfl rfl ?_))
  all_goals (refine WL.nil ?_)
  all_goals (repeat' (with_reducible first | refine thenP_n ?_ | refine blockP_n ?_))
  all_goals (first | refine WC.condB_t 1 rfl ?_ | refine WC.condB_f 2 rfl ?_ | (refine WC.condB 1 2 rfl (fun hb => ?_) (fun hb => ?_) <;> (first | replace hb := of_decide_eq_true hb | replace hb := of_decide_eq_false hb | replace hb := of_decide_eq_false (nt hb) | replace hb := of_decide_eq_true (nf hb) | skip)))
  all_goals (first
    | (fail_if_success (refine Br.mk (i := 1) ?_))
    | (refine Br.mk (i := 1) ?_
       all_goals (refine WC.seq ?_)
       all_goals (refine WC.region ?_)
       all_goals (refine WL.step (ok_assign rfl) rfl rfl rfl ?_)
       all_goals (refine WL.nil ?_)
       all_goals (repeat' (with_reducible first | refine thenP_n ?_ | refine blockP_n ?_))
       all_goals (refine WC.sub [(4, _)] ⟨rfl, trivial⟩ ?_)
       all_goals (refine WC.ret ?_)
       all_goals (repeat' (with_reducible first | refine thenP_r ?_ | refine blockP_r ?_))
       all_goals (refine retP_1 _ ⟨rfl, trivial⟩ ?_)
       all_goals (exact ⟨rfl, ⟨_, ⟨hb18, ho19, fun e he => ((r0.oid e (sub e he)).ext hx6' (fun q hq => ((r0.sep).2 e (sub e he) q hq).2)).ext hX18 (fun q hq => ((r0.sep).2 e (sub e he) q hq).1), ⟨r0.lo.1, fun q hq => by have := hf15 q hq; omega, fun e he => r0.lo.2.2 e (sub e he)⟩, ⟨by have := r0.bd.1; simp at this ⊢; omega, fun e he => r0.bd.2 e (sub e he)⟩⟩⟩, (hx6'.mono fun q _ e => .inr e).trans (hX18.mono fun q _ e => .inl e)⟩)
       skip))
  all_goals (first
    | (fail_if_success (refine Br.mk (i := 2) ?_))
    | (refine Br.mk (i := 2) ?_
       all_goals (refine WC.skip ?_)
       skip))
  all_goals (repeat' (with_reducible first | refine thenP_n ?_ | refine blockP_n ?_))
  all_goals (refine WC.seq ?_)
  all_goals (refine WC.region ?_)
  all_goals (refine WL.step (ok_move rfl) rfl rfl rfl ?_)
  all_goals (refine WL.step (ok_nilCheck rfl) rfl rfl rfl ?_)
  all_goals (refine WL.step (ok_fieldAddr rfl Try.underlying54 rfl (fun w => Try.sizeOf52 w)) rfl rfl rfl ?_)
  all_goals (refine WL.step (ok_load (fun w => Try.isAgg52 w) rfl (by first | exact cell_blk hB0 rfl | assumption | exact cell_blk (by assumption) rfl)) rfl rfl rfl ?_)
  all_goals (refine WL.step (ok_move rfl) rfl rfl rfl ?_)
  all_goals (refine WL.step (ok_idxAddrA Try.underlying52 (fun w => Try.sizeOf88 w) rfl rfl rfl (by omega) (by first | rfl | assumption)) rfl rfl rfl ?_)
  all_goals (refine WL.step (ok_fieldAddr rfl Try.underlying88 rfl (fun w => Try.sizeOf3 w)) rfl rfl rfl ?_)
  all_goals (refine WL.step (ok_load (fun w => Try.isAgg3 w) rfl (by first | exact hc.get 1 rfl rfl | assumption | exact cell_blk (by assumption) rfl)) rfl rfl rfl ?_)
  all_goals (first | (refine WL.step (ok_subI rfl rfl (by omega)) rfl rfl rfl ?_) | (refine WL.step (ok_sub rfl rfl) rfl rfl rfl ?_))
  all_goals (refine WL.step (ok_idxAddrA Try.underlying52 (fun w => Try.sizeOf88 w) rfl rfl rfl (by omega) (by first | rfl | assumption)) rfl rfl rfl ?_)
  all_goals (refine WL.step (ok_fieldAddr rfl Try.underlying88 rfl (fun w => Try.sizeOf3 w)) rfl rfl rfl ?_)
  all_goals (refine WL.stepR0 (okE_store (fun w => Try.sizeOf3 w) rfl rfl hg (by show 0 + D1.length * 4 + 1 < gs.length; omega) rfl rfl) rfl rfl ?_
             rintro _ h6 ⟨hb6, hx6⟩)
  all_goals (have ho6 := hset (j := 1) (q' := { d with rf := d.rf - 1 }) (by decide) rfl (by simpa using hb6)
             rw [show (D1 ++ d :: D2).set D1.length { d with rf := d.rf - 1 } = D1 ++ { d with rf := d.rf - 1 } :: D2 by simp] at ho6
             have hx6' : Ext (fun q => (Value.slice (some ⟨g, 0, none⟩) (D1 ++ d :: D2).length c).ownBlock = some q) h h6 := hx6.mono fun q _ e => by rw [e]; rfl
             have r6 := r0.bump hx6' ho6
             obtain ⟨b7, o7, hA7, _, hat7⟩ := Rd.at_ ho6.rd (by omega)
             cases hA7
             have hc6 : At h6 g (0 + D1.length * 4) [In d.id, In (d.rf - 1), St d.t, d.v] := At.elem dC_len hat7 at_mid
             have hrt := ho6.rd.take (show D1.length ≤ (D1 ++ d :: D2).length by omega)
             have hrd := ho6.rd.drop (show D1.length + 1 ≤ (D1 ++ d :: D2).length by omega)
             rw [fl_take dC_len, show (D1 ++ { d with rf := d.rf - 1 } :: D2).take D1.length = D1 by simp] at hrt
             rw [fl_drop dC_len, show (D1 ++ { d with rf := d.rf - 1 } :: D2).drop (D1.length + 1) = D2 by simp] at hrd
             have sub : ∀ e ∈ D1 ++ D2, e ∈ D1 ++ d :: D2 := fun e he => by rcases List.mem_append.1 he with he | he <;> simp [he]
             have hsl : ∀ e ∈ D1 ++ D2, ∃ A n c, e.v = .slice A n c := fun e he => by obtain ⟨A, c, hv, _⟩ := (r0.oid e (sub e he)).slice; exact ⟨_, _, _, hv⟩
             have hs6 := hx6.size)
  all_goals (refine WL.nil ?_)
  all_goals (repeat' (with_reducible first | refine thenP_n ?_ | refine blockP_n ?_))
  all_goals (refine WC.sub [(0, _), (5, _)] ⟨rfl, rfl, trivial⟩ ?_)
  all_goals (refine WC.seq ?_)
  all_goals (refine WC.seq ?_)
  all_goals (refine WC.region ?_)
  all_goals (refine WL.step (ok_move rfl) rfl rfl rfl ?_)
  all_goals (refine WL.step (ok_nilCheck rfl) rfl rfl rfl ?_)
  all_goals (refine WL.step (ok_fieldAddr rfl Try.underlying54 rfl (fun w => Try.sizeOf52 w)) rfl rfl rfl ?_)
  all_goals (refine WL.step (ok_load (fun w => Try.isAgg52 w) rfl (by first | exact cell_blk r6.blk rfl | assumption | exact cell_blk (by assumption) rfl)) rfl rfl rfl ?_)
  all_goals (refine WL.step (ok_move rfl) rfl rfl rfl ?_)
  all_goals (refine WL.step (ok_idxAddrA Try.underlying52 (fun w => Try.sizeOf88 w) rfl rfl rfl (by omega) (by first | rfl | assumption)) rfl rfl rfl ?_)
  all_goals (refine WL.step (ok_fieldAddr rfl Try.underlying88 rfl (fun w => Try.sizeOf3 w)) rfl rfl rfl ?_)
  all_goals (refine WL.step (ok_load (fun w => Try.isAgg3 w) rfl (by first | exact hc6.get 1 rfl rfl | assumption | exact cell_blk (by assumption) rfl)) rfl rfl rfl ?_)
  all_goals (first | (refine WL.step (OkP.bool_t (by omega) (ok_eql rfl rfl)) rfl rfl rfl ?_) | (refine WL.step (OkP.bool_f (by omega) (ok_eql rfl rfl)) rfl rfl rfl ?_) | (refine WL.step (ok_eql rfl rfl) rfl rfl rfl ?_))
  all_goals (refine WL.nil ?_)
  all_goals (repeat' (with_reducible first | refine thenP_n ?_ | refine blockP_n ?_))
  all_goals (refine WC.sub [(0, _), (5, _), (30, _)] ⟨rfl, rfl, rfl, trivial⟩ ?_)
  all_goals (first | refine WC.condB_t 3 rfl ?_ | refine WC.condB_f 4 rfl ?_ | (refine WC.condB 3 4 rfl (fun hb => ?_) (fun hb => ?_) <;> (first | replace hb := of_decide_eq_true hb | replace hb := of_decide_eq_false hb | replace hb := of_decide_eq_false (nt hb) | replace hb := of_decide_eq_true (nf hb) | skip)))
  all_goals (first
    | (fail_if_success (refine Br.mk (i := 3) ?_))
    | (refine Br.mk (i := 3) ?_
       all_goals (refine WC.drawH (fun h' => Ext No h6 h') 16 19 rfl fol ?_)
       all_goals (refine WH.take 0 rfl (by kernel_rfl) (by kernel_rfl) (by kernel_rfl) (by kernel_rfl) rfl (by first | exact Ext.refl _ _ | assumption) (fun hq hC => ok_move rfl) rfl rfl rfl ?_)
       all_goals (refine WH.take 1 rfl (by kernel_rfl) (by kernel_rfl) (by kernel_rfl) (by kernel_rfl) rfl (by first | exact Ext.refl _ _ | assumption) (fun hq hC => ok_move rfl) rfl rfl rfl ?_)
       all_goals (refine WH.take 2 rfl (by kernel_rfl) (by kernel_rfl) (by kernel_rfl) (by kernel_rfl) rfl (by first | exact Ext.refl _ _ | assumption) (fun hq hC => ok_nilCheck rfl) rfl rfl rfl ?_)
       all_goals (refine WH.take 3 rfl (by kernel_rfl) (by kernel_rfl) (by kernel_rfl) (by kernel_rfl) rfl (by first | exact Ext.refl _ _ | assumption) (fun hq hC => ok_fieldAddr rfl Try.underlying54 rfl (fun w => Try.sizeOf52 w)) rfl rfl rfl ?_)
       all_goals (refine WH.take 4 rfl (by kernel_rfl) (by kernel_rfl) (by kernel_rfl) (by kernel_rfl) rfl (by first | exact Ext.refl _ _ | assumption) (fun hq hC => ok_load (fun w => Try.isAgg52 w) rfl (by first | exact hC.cell (by first | exact cell_blk r6.blk rfl | assumption | exact cell_blk (by assumption) rfl) nos)) rfl rfl rfl ?_)
       all_goals (refine WH.take 5 rfl (by kernel_rfl) (by kernel_rfl) (by kernel_rfl) (by kernel_rfl) rfl (by first | exact Ext.refl _ _ | assumption) (fun hq hC => ok_move rfl) rfl rfl rfl ?_)
       all_goals (first | (refine WH.take 6 rfl (by kernel_rfl) (by kernel_rfl) (by kernel_rfl) (by kernel_rfl) rfl (by first | exact Ext.refl _ _ | assumption) (fun hq hC => ok_slice_hN Try.underlying52 (fun w => Try.sizeOf88 w) rfl rfl (by omega)) rfl rfl rfl ?_) | (refine WH.take 6 rfl (by kernel_rfl) (by kernel_rfl) (by kernel_rfl) (by kernel_rfl) rfl (by first | exact Ext.refl _ _ | assumption) (fun hq hC => ok_slice_h Try.underlying52 (fun w => Try.sizeOf88 w) rfl rfl (by omega)) rfl rfl rfl ?_))
       all_goals (refine WH.take 8 rfl (by kernel_rfl) (by kernel_rfl) (by kernel_rfl) (by kernel_rfl) rfl (by first | exact Ext.refl _ _ | assumption) (fun hq hC => ok_move rfl) rfl rfl rfl ?_)
       all_goals (refine WH.take 9 rfl (by kernel_rfl) (by kernel_rfl) (by kernel_rfl) (by kernel_rfl) rfl (by first | exact Ext.refl _ _ | assumption) (fun hq hC => ok_nilCheck rfl) rfl rfl rfl ?_)
       all_goals (refine WH.take 10 rfl (by kernel_rfl) (by kernel_rfl) (by kernel_rfl) (by kernel_rfl) rfl (by first | exact Ext.refl _ _ | assumption) (fun hq hC => ok_fieldAddr rfl Try.underlying54 rfl (fun w => Try.sizeOf52 w)) rfl rfl rfl ?_)
       all_goals (refine WH.take 11 rfl (by kernel_rfl) (by kernel_rfl) (by kernel_rfl) (by kernel_rfl) rfl (by first | exact Ext.refl _ _ | assumption) (fun hq hC => ok_load (fun w => Try.isAgg52 w) rfl (by first | exact hC.cell (by first | exact cell_blk r6.blk rfl | assumption | exact cell_blk (by assumption) rfl) nos)) rfl rfl rfl ?_)
       all_goals (refine WH.take 12 rfl (by kernel_rfl) (by kernel_rfl) (by kernel_rfl) (by kernel_rfl) rfl (by first | exact Ext.refl _ _ | assumption) (fun hq hC => ok_move rfl) rfl rfl rfl ?_)
       all_goals (first | (refine WH.take 13 rfl (by kernel_rfl) (by kernel_rfl) (by kernel_rfl) (by kernel_rfl) rfl (by first | exact Ext.refl _ _ | assumption) (fun hq hC => ok_addI rfl rfl (by omega)) rfl rfl rfl ?_) | (refine WH.take 13 rfl (by kernel_rfl) (by kernel_rfl) (by kernel_rfl) (by kernel_rfl) rfl (by first | exact Ext.refl _ _ | assumption) (fun hq hC => ok_add rfl rfl) rfl rfl rfl ?_))
       all_goals (first | (refine WH.take 14 rfl (by kernel_rfl) (by kernel_rfl) (by kernel_rfl) (by kernel_rfl) rfl (by first | exact Ext.refl _ _ | assumption) (fun hq hC => ok_slice_lN Try.underlying52 (fun w => Try.sizeOf88 w) rfl rfl (by omega)) rfl rfl rfl ?_) | (refine WH.take 14 rfl (by kernel_rfl) (by kernel_rfl) (by kernel_rfl) (by kernel_rfl) rfl (by first | exact Ext.refl _ _ | assumption) (fun hq hC => ok_slice_lS Try.underlying52 (fun w => Try.sizeOf88 w) rfl rfl (by omega)) rfl rfl rfl ?_) | (refine WH.take 14 rfl (by kernel_rfl) (by kernel_rfl) (by kernel_rfl) (by kernel_rfl) rfl (by first | exact Ext.refl _ _ | assumption) (fun hq hC => ok_slice_l Try.underlying52 (fun w => Try.sizeOf88 w) rfl rfl (by omega)) rfl rfl rfl ?_))
       all_goals (refine WH.one 7 (by kernel_rfl) ?_)
       all_goals (refine Comes1.run rfl (ok_append (sz := 4) (bytes := 56) rfl Try.underlying52 (show Try.prog.info? 88 = some Try.t88 by kernel_rfl) rfl rfl rfl rfl (by decide) rfl rfl (Own.nil _ _ _) hrt (fun x hx => dC_flat x hx (fun e he => hsl e (by simp [he]))) (by simp only [maxLen]; omega) (by omega)) rfl rfl rfl ?_ (fun _ => by kernel_rfl)
                  rintro v7 h7 ⟨ho7, hx7, hl7⟩)
       all_goals (refine ⟨fun _ => hx7.mono (fun _ _ e => by cases e), ?_⟩)
       all_goals (have hx7' := hx7.mono (S' := No) (fun _ _ e => by cases e)
                  have hf7 : ∀ q, v7.ownBlock = some q → h6.size ≤ q := fresh_of hl7 (by simp [Value.ownBlock]) (Nat.le_refl _))
       all_goals (refine WH.one 15 (by kernel_rfl) ?_)
       all_goals (refine Comes1.run rfl (ok_append (sz := 4) (bytes := 56) rfl Try.underlying52 (show Try.prog.info? 88 = some Try.t88 by kernel_rfl) rfl rfl rfl rfl (by decide) rfl rfl ho7 (hrd.ext0 hx7') (fun x hx => dC_flat x hx (fun e he => hsl e (by simp [he]))) (by simp only [maxLen]; omega) (by omega)) rfl rfl rfl ?_ (fun _ => by kernel_rfl)
                  rintro v15 h15 ⟨ho15, hx15, hl15⟩)
       all_goals (refine ⟨fun _ => hx7'.trans' hx15 (fun q hq e => by have := hf7 q e; omega), ?_⟩)
       all_goals (have hX15 := hx7'.trans' hx15 (fun q hq e => by have := hf7 q e; omega)
                  have hf15 : ∀ q, v15.ownBlock = some q → h6.size ≤ q := fresh_of hl15 hf7 hx7'.size
                  have hb15 := hX15.obj r6.blk nos
                  obtain ⟨A15, c15, rfl, _⟩ := ho15.slice)
       all_goals (refine WH.one 16 (by kernel_rfl) ?_)
       all_goals (refine Comes1.run rfl (OkP.r (ok_nilCheck rfl)) rfl rfl rfl ?_ (fun _ => by kernel_rfl)
                  rintro _ hz ⟨rfl, _⟩
                  subst hz)
       all_goals (refine ⟨fun e => (by cases e), ?_⟩)
       all_goals (refine WH.one 17 (by kernel_rfl) ?_)
       all_goals (refine Comes1.run rfl (OkP.r (ok_fieldAddr rfl Try.underlying54 rfl (fun w => Try.sizeOf52 w))) rfl rfl rfl ?_ (fun _ => by kernel_rfl)
                  rintro _ hz ⟨rfl, _⟩
                  subst hz)
       all_goals (refine ⟨fun e => (by cases e), ?_⟩)
       all_goals (refine WH.one 18 (by kernel_rfl) ?_)
       all_goals (refine Comes1.run0 rfl (okE_store (fun w => Try.sizeOf52 w) rfl rfl hb15 (Nat.le_of_ble_eq_true rfl) rfl rfl) rfl rfl ?_ (fun _ => by kernel_rfl)
                  rintro _ h18 ⟨hb18, hx18⟩)
       all_goals (refine ⟨fun e => (by cases e), ?_⟩)
       all_goals (have hX18 : Ext (fun q => q = bt) h6 h18 := (hX15.mono fun _ _ e => e.elim).trans hx18
                  have hbl6 := lt_of_some r6.blk
                  have ho18 := ho15.ext hx18 (fun q hq e => by rw [e] at hq; have := hf15 _ hq; omega)
                  have hlen : 0 + D1.length + ((D1 ++ d :: D2).length - (D1.length + 1)) = (D1 ++ D2).length := by simp; omega
                  have ho19 : Own h18 (.slice A15 (0 + D1.length + ((D1 ++ d :: D2).length - (D1.length + 1))) c15) 88 4 (D1 ++ D2).length ((D1 ++ D2).flatMap dC) := by rw [← hlen, List.flatMap_append]; simpa using ho18)
       all_goals (refine WH.done (by kernel_rfl) ?_)
       skip))
  all_goals (first
    | (fail_if_success (refine Br.mk (i := 4) ?_))
    | (refine Br.mk (i := 4) ?_
       all_goals (refine WC.skip ?_)
       skip))
  all_goals (repeat' (with_reducible first | refine thenP_n ?_ | refine blockP_n ?_))
  all_goals (refine WC.seq ?_)
  all_goals (refine WC.region ?_)
  all_goals (refine WL.step (ok_assign rfl) rfl rfl rfl ?_)
  all_goals (refine WL.nil ?_)
  all_goals (repeat' (with_reducible first | refine thenP_n ?_ | refine blockP_n ?_))
  all_goals (refine WC.ret ?_)
  all_goals (repeat' (with_reducible first | refine thenP_r ?_ | refine blockP_r ?_))
  all_goals (refine retP_1 _ ⟨rfl, trivial⟩ ?_)
  all_goals (exact ⟨rfl, ⟨_, ⟨hb18, ho19, fun e he => ((r0.oid e (sub e he)).ext hx6' (fun q hq => ((r0.sep).2 e (sub e he) q hq).2)).ext hX18 (fun q hq => ((r0.sep).2 e (sub e he) q hq).1), ⟨r0.lo.1, fun q hq => by have := hf15 q hq; omega, fun e he => r0.lo.2.2 e (sub e he)⟩, ⟨by have := r0.bd.1; simp at this ⊢; omega, fun e he => r0.bd.2 e (sub e he)⟩⟩⟩, (hx6'.mono fun q _ e => .inr e).trans (hX18.mono fun q _ e => .inl e)⟩)
set_option maxRecDepth 100000 in
theorem put14_zero (r : R14 B h bt v last D) (s : Stm) (ok : stOk h s) (hf : fairS s.1 s.2.2 = false) : CallsH Try.prog 24 ⟨[ptE bt, .agg ⟨stC s⟩]⟩ h fun u h' => u = In 0 ∧ Ext No h h' := by
  obtain ⟨t, vs, o⟩ := s
  have ko := fun h' (hx : Ext No h h') => of12 t o (ok.1.ext0 hx) ok.le
  rw [show keyS_ t o = [] by unfold keyS_; dsimp only at hf; rw [hf]; rfl] at ko
  unfold ptE stC
  dsimp only
  refine calls [(0, _), (1, _)] Try.func24 rfl Try.ntmps24 rfl ⟨rfl, rfl, trivial⟩ ?_
  all_goals (refine WC.seq ?_)
  all_goals (refine WC.region ?_)
  all_goals (refine WL.stepR (okE_box rfl) rfl rfl rfl ?_
             rintro _ h1 ⟨b1, rfl, hg1, hb1, hx1⟩)
  all_goals (refine WL.step (ok_assign rfl) rfl rfl rfl ?_)
  all_goals (refine WL.nil ?_)
  all_goals (repeat' (with_reducible first | refine thenP_n ?_ | refine blockP_n ?_))
  all_goals (refine WC.seq ?_)
  all_goals (refine WC.seq ?_)
  all_goals (refine WC.region ?_)
  all_goals (refine WL.step (ok_loadN (fun w => Try.isAgg57 w) (fun w => Try.sizeOf57 w) rfl rfl (by exact At.of_block hb1)) rfl rfl rfl ?_)
  all_goals (refine WL.call (vs := [_]) rfl (fun a w => Try.call45 a w) rfl (ko _ hx1) rfl rfl rfl ?_
             rintro _ h2 ⟨rfl, hx2⟩)
  all_goals (first | (refine WL.step (OkP.bool_t (by first | rfl | assumption | decide) (ok_eqlS rfl rfl)) rfl rfl rfl ?_) | (refine WL.step (OkP.bool_f (by first | assumption | decide) (ok_eqlS rfl rfl)) rfl rfl rfl ?_) | (refine WL.step (ok_eqlS rfl rfl) rfl rfl rfl ?_))
  all_goals (refine WL.nil ?_)
  all_goals (repeat' (with_reducible first | refine thenP_n ?_ | refine blockP_n ?_))
  all_goals (refine WC.sub [(0, _), (3, _), (9, _)] ⟨rfl, rfl, rfl, trivial⟩ ?_)
  all_goals (first | refine WC.condB_t 1 rfl ?_ | refine WC.condB_f 2 rfl ?_ | (refine WC.condB 1 2 rfl (fun hb => ?_) (fun hb => ?_) <;> (first | replace hb := of_decide_eq_true hb | replace hb := of_decide_eq_false hb | replace hb := of_decide_eq_false (nt hb) | replace hb := of_decide_eq_true (nf hb) | skip)))
  all_goals (first
    | (fail_if_success (refine Br.mk (i := 1) ?_))
    | (refine Br.mk (i := 1) ?_
       all_goals (refine WC.seq ?_)
       all_goals (refine WC.region ?_)
       all_goals (refine WL.step (ok_assign rfl) rfl rfl rfl ?_)
       all_goals (refine WL.nil ?_)
       all_goals (repeat' (with_reducible first | refine thenP_n ?_ | refine blockP_n ?_))
       all_goals (refine WC.ret ?_)
       all_goals (repeat' (with_reducible first | refine thenP_r ?_ | refine blockP_r ?_))
       all_goals (refine retP_1 _ ⟨rfl, trivial⟩ ?_)
       all_goals (exact ⟨rfl, hx1.trans hx2⟩)
       skip))
  all_goals (first
    | (fail_if_success (refine Br.mk (i := 2) ?_))
    | (refine Br.mk (i := 2) ?_
       all_goals (refine WC.skip ?_)
       skip))
  all_goals (repeat' (with_reducible first | refine thenP_n ?_ | refine blockP_n ?_))
  all_goals (refine WC.seq ?_)
  all_goals (refine WC.seq ?_)
  all_goals (refine WC.region ?_)
  all_goals (refine WL.step (ok_move rfl) rfl rfl rfl ?_)
  all_goals (refine WL.step (ok_loadN (fun w => Try.isAgg57 w) (fun w => Try.sizeOf57 w) rfl rfl (by assumption)) rfl rfl rfl ?_)
  all_goals (fail "no contract for call of (*remuda/remudaref14.Registry).Find at 3.2")
  all_goals (refine WL.step (ok_move rfl) rfl rfl rfl ?_)
  all_goals (refine WL.step (ok_extract rfl rfl) rfl rfl rfl ?_)
  all_goals (refine WL.step (ok_extract rfl rfl) rfl rfl rfl ?_)
  all_goals (refine WL.step (ok_assign rfl) rfl rfl rfl ?_)
  all_goals (refine WL.step (ok_assign rfl) rfl rfl rfl ?_)
  all_goals (refine WL.nil ?_)
  all_goals (repeat' (with_reducible first | refine thenP_n ?_ | refine blockP_n ?_))
  all_goals (refine WC.sub [(0, _), (3, _), (5, _), (6, _)] ⟨rfl, rfl, rfl, rfl, trivial⟩ ?_)
  all_goals (refine WC.seq ?_)
  all_goals (refine WC.region ?_)
  all_goals (refine WL.step (ok_move rfl) rfl rfl rfl ?_)
  all_goals (refine WL.nil ?_)
  all_goals (repeat' (with_reducible first | refine thenP_n ?_ | refine blockP_n ?_))
  all_goals (first | refine WC.condB_t 3 rfl ?_ | refine WC.condB_f 4 rfl ?_ | (refine WC.condB 3 4 rfl (fun hb => ?_) (fun hb => ?_) <;> (first | replace hb := of_decide_eq_true hb | replace hb := of_decide_eq_false hb | replace hb := of_decide_eq_false (nt hb) | replace hb := of_decide_eq_true (nf hb) | skip)))
  all_goals (first
    | (fail_if_success (refine Br.mk (i := 3) ?_))
    | (refine Br.mk (i := 3) ?_
       all_goals (refine WC.seq ?_)
       all_goals (refine WC.region ?_)
       all_goals (refine WL.step (ok_move rfl) rfl rfl rfl ?_)
       all_goals (refine WL.step (ok_move rfl) rfl rfl rfl ?_)
       all_goals (fail "no contract for call of (*remuda/remudaref14.Registry).Ref at 5.2")
       all_goals (refine WL.nil ?_)
       all_goals (repeat' (with_reducible first | refine thenP_n ?_ | refine blockP_n ?_))
       all_goals (refine WC.sub [(5, _)] ⟨rfl, trivial⟩ ?_)
       all_goals (refine WC.seq ?_)
       all_goals (refine WC.region ?_)
       all_goals (refine WL.step (ok_move rfl) rfl rfl rfl ?_)
       all_goals (refine WL.step (ok_assign rfl) rfl rfl rfl ?_)
       all_goals (refine WL.nil ?_)
       all_goals (repeat' (with_reducible first | refine thenP_n ?_ | refine blockP_n ?_))
       all_goals (refine WC.ret ?_)
       all_goals (repeat' (with_reducible first | refine thenP_r ?_ | refine blockP_r ?_))
       all_goals (refine retP_1 _ ⟨rfl, trivial⟩ ?_)
       all_goals (exact ⟨rfl, hx1.trans hx2⟩)
       skip))
  all_goals (first
    | (fail_if_success (refine Br.mk (i := 4) ?_))
    | (refine Br.mk (i := 4) ?_
       all_goals (refine WC.skip ?_)
       skip))
  all_goals (repeat' (with_reducible first | refine thenP_n ?_ | refine blockP_n ?_))
  all_goals (refine WC.seq ?_)
  all_goals (refine WC.region ?_)
  all_goals (refine WL.step (ok_move rfl) rfl rfl rfl ?_)
  all_goals (refine WL.step (ok_nilCheck rfl) rfl rfl rfl ?_)
  all_goals (refine WL.step (ok_fieldAddr rfl Try.underlying54 rfl (fun w => Try.sizeOf3 w)) rfl rfl rfl ?_)
  all_goals (refine WL.step (ok_load (fun w => Try.isAgg3 w) rfl (by first | assumption | exact cell_blk (by assumption) rfl)) rfl rfl rfl ?_)
  all_goals (first | (refine WL.step (ok_addI rfl rfl (by omega)) rfl rfl rfl ?_) | (refine WL.step (ok_add rfl rfl) rfl rfl rfl ?_))
  all_goals (refine WL.step (ok_nilCheck rfl) rfl rfl rfl ?_)
  all_goals (refine WL.step (ok_fieldAddr rfl Try.underlying54 rfl (fun w => Try.sizeOf3 w)) rfl rfl rfl ?_)
  all_goals (refine WL.stepR0 (okE_store (fun w => Try.sizeOf3 w) rfl rfl (by assumption) (Nat.le_of_ble_eq_true rfl) rfl rfl) rfl rfl ?_
             rintro _ h1 ⟨hb1, hx1⟩)
  all_goals (refine WL.nil ?_)
  all_goals (repeat' (with_reducible first | refine thenP_n ?_ | refine blockP_n ?_))
  all_goals (refine WC.sub [(0, _), (3, _)] ⟨rfl, rfl, trivial⟩ ?_)
  all_goals (refine WC.seq ?_)
  all_goals (refine WC.drawE fol (by kernel_rfl) ?_)
  all_goals (refine WQ.stepE (ok_move rfl) rfl rfl rfl ?_)
  all_goals (refine WQ.stepE (ok_move rfl) rfl rfl rfl ?_)
  all_goals (refine WQ.stepE (ok_nilCheck rfl) rfl rfl rfl ?_)
  all_goals (refine WQ.stepE (ok_fieldAddr rfl Try.underlying54 rfl (fun w => Try.sizeOf52 w)) rfl rfl rfl ?_)
  all_goals (refine WQ.stepE (ok_load (fun w => Try.isAgg52 w) rfl (by first | assumption | exact cell_blk (by assumption) rfl)) rfl rfl rfl ?_)
  all_goals (refine WQ.stepE (ok_move rfl) rfl rfl rfl ?_)
  all_goals (refine WQ.stepE (ok_nilCheck rfl) rfl rfl rfl ?_)
  all_goals (refine WQ.stepE (ok_fieldAddr rfl Try.underlying54 rfl (fun w => Try.sizeOf3 w)) rfl rfl rfl ?_)
  all_goals (refine WQ.stepE (ok_load (fun w => Try.isAgg3 w) rfl (by first | assumption | exact cell_blk (by assumption) rfl)) rfl rfl rfl ?_)
  all_goals (refine WQ.stepE (ok_fieldAddr rfl Try.underlying57 rfl (fun w => Try.sizeOf9 w)) rfl rfl rfl ?_)
  all_goals (refine WQ.stepE (ok_load (fun w => Try.isAgg9 w) rfl (by first | assumption | exact cell_blk (by assumption) rfl)) rfl rfl rfl ?_)
  all_goals (refine WQ.stepE (ok_fieldAddr rfl Try.underlying57 rfl (fun w => Try.sizeOf55 w)) rfl rfl rfl ?_)
  all_goals (refine WQ.stepE (ok_load (fun w => Try.isAgg55 w) rfl (by first | assumption | exact cell_blk (by assumption) rfl)) rfl rfl rfl ?_)
  all_goals (refine WL.stepR (ok_append (sz := 1) (bytes := 8) rfl Try.underlying55 (show Try.prog.info? 3 = some Try.t3 by kernel_rfl) rfl rfl rfl rfl (by decide) rfl rfl (by assumption) (by first | assumption | exact rd_blk (by assumption) rfl) (by simp [Value.oneCell']) (by simp only [maxLen]; omega) (by omega)) rfl rfl rfl ?_
             rintro v1 h1 ⟨ho1, hx1, hl1⟩)
  all_goals (refine WQ.stepE (ok_buildF (vs := [_, _]) (cs := [_, _]) (fun | [a0, a1] => [a0, a1] | _ => []) rfl rfl (by kernel_rfl)) rfl rfl rfl ?_)
  all_goals (refine WQ.stepE (ok_buildF (vs := [_, _, _]) (cs := [_, _, _, _]) (fun | [a0, a1, .agg ⟨[a2, a3]⟩] => [a0, a1, a2, a3] | _ => []) rfl rfl (by kernel_rfl)) rfl rfl rfl ?_)
  all_goals (refine WL.stepR (okE_buildSlice (vs := [_]) (cs := [_, _, _, _]) (fun | [.agg ⟨[a0, a1, a2, a3]⟩] => [a0, a1, a2, a3] | _ => []) Try.underlying52 rfl rfl (by kernel_rfl)) rfl rfl rfl ?_
             rintro _ h1 ⟨b1, rfl, hg1, hb1, hx1⟩)
  all_goals (refine WL.stepR (ok_append (sz := 4) (bytes := 56) rfl Try.underlying52 (show Try.prog.info? 88 = some Try.t88 by kernel_rfl) rfl rfl rfl rfl (by decide) rfl rfl (by assumption) (by first | assumption | exact rd_blk (by assumption) rfl) (by simp [Value.oneCell']) (by simp only [maxLen]; omega) (by omega)) rfl rfl rfl ?_
             rintro v1 h1 ⟨ho1, hx1, hl1⟩)
  all_goals (refine WQ.stepE (ok_nilCheck rfl) rfl rfl rfl ?_)
  all_goals (refine WQ.stepE (ok_fieldAddr rfl Try.underlying54 rfl (fun w => Try.sizeOf52 w)) rfl rfl rfl ?_)
  all_goals (refine WL.stepR0 (okE_store (fun w => Try.sizeOf52 w) rfl rfl (by assumption) (Nat.le_of_ble_eq_true rfl) rfl rfl) rfl rfl ?_
             rintro _ h1 ⟨hb1, hx1⟩)
  all_goals (refine WQ.nil ?_)
  all_goals (repeat' (with_reducible first | refine thenP_n ?_ | refine blockP_n ?_))
  all_goals (refine WC.sub [(0, _)] ⟨rfl, trivial⟩ ?_)
  all_goals (refine WC.seq ?_)
  all_goals (refine WC.region ?_)
  all_goals (refine WL.step (ok_move rfl) rfl rfl rfl ?_)
  all_goals (refine WL.step (ok_nilCheck rfl) rfl rfl rfl ?_)
  all_goals (refine WL.step (ok_fieldAddr rfl Try.underlying54 rfl (fun w => Try.sizeOf3 w)) rfl rfl rfl ?_)
  all_goals (refine WL.step (ok_load (fun w => Try.isAgg3 w) rfl (by first | assumption | exact cell_blk (by assumption) rfl)) rfl rfl rfl ?_)
  all_goals (refine WL.step (ok_assign rfl) rfl rfl rfl ?_)
  all_goals (refine WL.nil ?_)
  all_goals (repeat' (with_reducible first | refine thenP_n ?_ | refine blockP_n ?_))
  all_goals (refine WC.sub [(4, _)] ⟨rfl, trivial⟩ ?_)
  all_goals (refine WC.ret ?_)
  all_goals (repeat' (with_reducible first | refine thenP_r ?_ | refine blockP_r ?_))
  all_goals (refine retP_1 _ ⟨rfl, trivial⟩ ?_)
  all_goals (exact ⟨rfl, hx1.trans hx2⟩)
set_option maxRecDepth 100000 in
theorem put14_old (r : R14 B h bt v last (D1 ++ d :: D2)) (s : Stm) (ok : stOk h s) (hf : fairS s.1 s.2.2 = true) (hs : d.t = s.1 ∧ d.o = s.2.2) (hu : ∀ y ∈ D1 ++ d :: D2, y.t = s.1 ∧ y.o = s.2.2 → y.id = d.id) (hd : ∀ x ∈ D1, x.id ≠ d.id) (hrf : 1 ≤ d.rf ∧ d.rf ≤ 1000000) :
    CallsH Try.prog 24 ⟨[ptE bt, .agg ⟨stC s⟩]⟩ h fun u h' => u = In d.id ∧ R14 B h' bt v last (D1 ++ { d with rf := d.rf + 1 } :: D2) ∧ Ext (fun q => v.ownBlock = some q) h h' := by
  have ko := fun h' (hx : Ext No h h') => of12 s.1 s.2.2 (ok.1.ext0 hx) ok.le
  have hne : keyS_ s.1 s.2.2 ≠ [] := keyS_fair.2 hf
  unfold ptE stC
  refine calls [(0, _), (1, _)] Try.func24 rfl Try.ntmps24 rfl ⟨rfl, rfl, trivial⟩ ?_
  all_goals (refine WC.seq ?_)
  all_goals (refine WC.region ?_)
  all_goals (refine WL.stepR (okE_box rfl) rfl rfl rfl ?_
             rintro _ h1 ⟨b1, rfl, hg1, hb1, hx1⟩)
  all_goals (refine WL.step (ok_assign rfl) rfl rfl rfl ?_)
  all_goals (refine WL.nil ?_)
  all_goals (repeat' (with_reducible first | refine thenP_n ?_ | refine blockP_n ?_))
  all_goals (refine WC.seq ?_)
  all_goals (refine WC.seq ?_)
  all_goals (refine WC.region ?_)
  all_goals (refine WL.step (ok_loadN (fun w => Try.isAgg57 w) (fun w => Try.sizeOf57 w) rfl rfl (by exact At.of_block hb1)) rfl rfl rfl ?_)
  all_goals (refine WL.call (vs := [_]) rfl (fun a w => Try.call45 a w) rfl (ko _ hx1) rfl rfl rfl ?_
             rintro _ h2 ⟨rfl, hx2⟩)
  all_goals (have hX2 := hx1.trans hx2)
  all_goals (first | (refine WL.step (OkP.bool_t (by first | rfl | assumption | decide) (ok_eqlS rfl rfl)) rfl rfl rfl ?_) | (refine WL.step (OkP.bool_f (by first | assumption | decide) (ok_eqlS rfl rfl)) rfl rfl rfl ?_) | (refine WL.step (ok_eqlS rfl rfl) rfl rfl rfl ?_))
  all_goals (refine WL.nil ?_)
  all_goals (repeat' (with_reducible first | refine thenP_n ?_ | refine blockP_n ?_))
  all_goals (refine WC.sub [(0, _), (3, _), (9, _)] ⟨rfl, rfl, rfl, trivial⟩ ?_)
  all_goals (first | refine WC.condB_t 1 rfl ?_ | refine WC.condB_f 2 rfl ?_ | (refine WC.condB 1 2 rfl (fun hb => ?_) (fun hb => ?_) <;> (first | replace hb := of_decide_eq_true hb | replace hb := of_decide_eq_false hb | replace hb := of_decide_eq_false (nt hb) | replace hb := of_decide_eq_true (nf hb) | skip)))
  all_goals (first
    | (fail_if_success (refine Br.mk (i := 1) ?_))
    | (refine Br.mk (i := 1) ?_
       all_goals (refine WC.seq ?_)
       all_goals (refine WC.region ?_)
       all_goals (refine WL.step (ok_assign rfl) rfl rfl rfl ?_)
       all_goals (refine WL.nil ?_)
       all_goals (repeat' (with_reducible first | refine thenP_n ?_ | refine blockP_n ?_))
       all_goals (refine WC.ret ?_)
       all_goals (repeat' (with_reducible first | refine thenP_r ?_ | refine blockP_r ?_))
       all_goals (refine retP_1 _ ⟨rfl, trivial⟩ ?_)
       all_goals (first | exact absurd ‹_› hne | exact ⟨rfl, r4, (hX3.mono fun _ _ e => e.elim).trans hx4⟩)
       skip))
  all_goals (first
    | (fail_if_success (refine Br.mk (i := 2) ?_))
    | (refine Br.mk (i := 2) ?_
       all_goals (refine WC.skip ?_)
       skip))
  all_goals (repeat' (with_reducible first | refine thenP_n ?_ | refine blockP_n ?_))
  all_goals (refine WC.seq ?_)
  all_goals (refine WC.seq ?_)
  all_goals (refine WC.region ?_)
  all_goals (refine WL.step (ok_move rfl) rfl rfl rfl ?_)
  all_goals (refine WL.step (ok_loadN (fun w => Try.isAgg57 w) (fun w => Try.sizeOf57 w) rfl rfl (by exact At.of_block (hx2.obj hb1 nos))) rfl rfl rfl ?_)
  all_goals (refine WL.call (vs := [_, _]) rfl (fun a w => Try.call32 a w) rfl (find14 (r.ext0 hX2) s ⟨ok.1.ext0 hX2, ok.2⟩) rfl rfl rfl ?_
             rintro _ h3 ⟨⟨x, bb, rfl, hres⟩, hx3⟩
             obtain ⟨rfl, rfl⟩ : x = d.id ∧ bb = true := by rcases hres with ⟨hb1, y, hy, hz, e⟩ | ⟨_, _, hz⟩; exact ⟨e.trans (hu y hy hz), hb1⟩; exact absurd hs (hz d (by simp))
             have hX3 := hX2.trans hx3)
  all_goals (refine WL.step (ok_move rfl) rfl rfl rfl ?_)
  all_goals (refine WL.step (ok_extract rfl rfl) rfl rfl rfl ?_)
  all_goals (refine WL.step (ok_extract rfl rfl) rfl rfl rfl ?_)
  all_goals (refine WL.step (ok_assign rfl) rfl rfl rfl ?_)
  all_goals (refine WL.step (ok_assign rfl) rfl rfl rfl ?_)
  all_goals (refine WL.nil ?_)
  all_goals (repeat' (with_reducible first | refine thenP_n ?_ | refine blockP_n ?_))
  all_goals (refine WC.sub [(0, _), (3, _), (5, _), (6, _)] ⟨rfl, rfl, rfl, rfl, trivial⟩ ?_)
  all_goals (refine WC.seq ?_)
  all_goals (refine WC.region ?_)
  all_goals (refine WL.step (ok_move rfl) rfl rfl rfl ?_)
  all_goals (refine WL.nil ?_)
  all_goals (repeat' (with_reducible first | refine thenP_n ?_ | refine blockP_n ?_))
  all_goals (first | refine WC.condB_t 3 rfl ?_ | refine WC.condB_f 4 rfl ?_ | (refine WC.condB 3 4 rfl (fun hb => ?_) (fun hb => ?_) <;> (first | replace hb := of_decide_eq_true hb | replace hb := of_decide_eq_false hb | replace hb := of_decide_eq_false (nt hb) | replace hb := of_decide_eq_true (nf hb) | skip)))
  all_goals (first
    | (fail_if_success (refine Br.mk (i := 3) ?_))
    | (refine Br.mk (i := 3) ?_
       all_goals (refine WC.seq ?_)
       all_goals (refine WC.region ?_)
       all_goals (refine WL.step (ok_move rfl) rfl rfl rfl ?_)
       all_goals (refine WL.step (ok_move rfl) rfl rfl rfl ?_)
       all_goals (refine WL.call (vs := [_, _]) rfl (fun a w => Try.call26 a w) rfl (ref14 (r.ext0 hX3) hd hrf) rfl rfl rfl ?_
                  rintro _ h4 ⟨rfl, r4, hx4⟩)
       all_goals (refine WL.nil ?_)
       all_goals (repeat' (with_reducible first | refine thenP_n ?_ | refine blockP_n ?_))
       all_goals (refine WC.sub [(5, _)] ⟨rfl, trivial⟩ ?_)
       all_goals (refine WC.seq ?_)
       all_goals (refine WC.region ?_)
       all_goals (refine WL.step (ok_move rfl) rfl rfl rfl ?_)
       all_goals (refine WL.step (ok_assign rfl) rfl rfl rfl ?_)
       all_goals (refine WL.nil ?_)
       all_goals (repeat' (with_reducible first | refine thenP_n ?_ | refine blockP_n ?_))
       all_goals (refine WC.ret ?_)
       all_goals (repeat' (with_reducible first | refine thenP_r ?_ | refine blockP_r ?_))
       all_goals (refine retP_1 _ ⟨rfl, trivial⟩ ?_)
       all_goals (first | exact absurd ‹_› hne | exact ⟨rfl, r4, (hX3.mono fun _ _ e => e.elim).trans hx4⟩)
       skip))
  all_goals (first
    | (fail_if_success (refine Br.mk (i := 4) ?_))
    | (refine Br.mk (i := 4) ?_
       all_goals (refine WC.skip ?_)
       skip))
  all_goals (repeat' (with_reducible first | refine thenP_n ?_ | refine blockP_n ?_))
  all_goals (refine WC.seq ?_)
  all_goals (refine WC.region ?_)
  all_goals (refine WL.step (ok_move rfl) rfl rfl rfl ?_)
  all_goals (refine WL.step (ok_nilCheck rfl) rfl rfl rfl ?_)
  all_goals (refine WL.step (ok_fieldAddr rfl Try.underlying54 rfl (fun w => Try.sizeOf3 w)) rfl rfl rfl ?_)
  all_goals (refine WL.step (ok_load (fun w => Try.isAgg3 w) rfl (by first | assumption | exact cell_blk (by assumption) rfl)) rfl rfl rfl ?_)
  all_goals (first | (refine WL.step (ok_addI rfl rfl (by omega)) rfl rfl rfl ?_) | (refine WL.step (ok_add rfl rfl) rfl rfl rfl ?_))
  all_goals (refine WL.step (ok_nilCheck rfl) rfl rfl rfl ?_)
  all_goals (refine WL.step (ok_fieldAddr rfl Try.underlying54 rfl (fun w => Try.sizeOf3 w)) rfl rfl rfl ?_)
  all_goals (refine WL.stepR0 (okE_store (fun w => Try.sizeOf3 w) rfl rfl (by assumption) (Nat.le_of_ble_eq_true rfl) rfl rfl) rfl rfl ?_
             rintro _ h1 ⟨hb1, hx1⟩)
  all_goals (refine WL.nil ?_)
  all_goals (repeat' (with_reducible first | refine thenP_n ?_ | refine blockP_n ?_))
  all_goals (refine WC.sub [(0, _), (3, _)] ⟨rfl, rfl, trivial⟩ ?_)
  all_goals (refine WC.seq ?_)
  all_goals (refine WC.drawE fol (by kernel_rfl) ?_)
  all_goals (refine WQ.stepE (ok_move rfl) rfl rfl rfl ?_)
  all_goals (refine WQ.stepE (ok_move rfl) rfl rfl rfl ?_)
  all_goals (refine WQ.stepE (ok_nilCheck rfl) rfl rfl rfl ?_)
  all_goals (refine WQ.stepE (ok_fieldAddr rfl Try.underlying54 rfl (fun w => Try.sizeOf52 w)) rfl rfl rfl ?_)
  all_goals (refine WQ.stepE (ok_load (fun w => Try.isAgg52 w) rfl (by first | assumption | exact cell_blk (by assumption) rfl)) rfl rfl rfl ?_)
  all_goals (refine WQ.stepE (ok_move rfl) rfl rfl rfl ?_)
  all_goals (refine WQ.stepE (ok_nilCheck rfl) rfl rfl rfl ?_)
  all_goals (refine WQ.stepE (ok_fieldAddr rfl Try.underlying54 rfl (fun w => Try.sizeOf3 w)) rfl rfl rfl ?_)
  all_goals (refine WQ.stepE (ok_load (fun w => Try.isAgg3 w) rfl (by first | assumption | exact cell_blk (by assumption) rfl)) rfl rfl rfl ?_)
  all_goals (refine WQ.stepE (ok_fieldAddr rfl Try.underlying57 rfl (fun w => Try.sizeOf9 w)) rfl rfl rfl ?_)
  all_goals (refine WQ.stepE (ok_load (fun w => Try.isAgg9 w) rfl (by first | assumption | exact cell_blk (by assumption) rfl)) rfl rfl rfl ?_)
  all_goals (refine WQ.stepE (ok_fieldAddr rfl Try.underlying57 rfl (fun w => Try.sizeOf55 w)) rfl rfl rfl ?_)
  all_goals (refine WQ.stepE (ok_load (fun w => Try.isAgg55 w) rfl (by first | assumption | exact cell_blk (by assumption) rfl)) rfl rfl rfl ?_)
  all_goals (refine WL.stepR (ok_append (sz := 1) (bytes := 8) rfl Try.underlying55 (show Try.prog.info? 3 = some Try.t3 by kernel_rfl) rfl rfl rfl rfl (by decide) rfl rfl (by assumption) (by first | assumption | exact rd_blk (by assumption) rfl) (by simp [Value.oneCell']) (by simp only [maxLen]; omega) (by omega)) rfl rfl rfl ?_
             rintro v1 h1 ⟨ho1, hx1, hl1⟩)
  all_goals (refine WQ.stepE (ok_buildF (vs := [_, _]) (cs := [_, _]) (fun | [a0, a1] => [a0, a1] | _ => []) rfl rfl (by kernel_rfl)) rfl rfl rfl ?_)
  all_goals (refine WQ.stepE (ok_buildF (vs := [_, _, _]) (cs := [_, _, _, _]) (fun | [a0, a1, .agg ⟨[a2, a3]⟩] => [a0, a1, a2, a3] | _ => []) rfl rfl (by kernel_rfl)) rfl rfl rfl ?_)
  all_goals (refine WL.stepR (okE_buildSlice (vs := [_]) (cs := [_, _, _, _]) (fun | [.agg ⟨[a0, a1, a2, a3]⟩] => [a0, a1, a2, a3] | _ => []) Try.underlying52 rfl rfl (by kernel_rfl)) rfl rfl rfl ?_
             rintro _ h1 ⟨b1, rfl, hg1, hb1, hx1⟩)
  all_goals (refine WL.stepR (ok_append (sz := 4) (bytes := 56) rfl Try.underlying52 (show Try.prog.info? 88 = some Try.t88 by kernel_rfl) rfl rfl rfl rfl (by decide) rfl rfl (by assumption) (by first | assumption | exact rd_blk (by assumption) rfl) (by simp [Value.oneCell']) (by simp only [maxLen]; omega) (by omega)) rfl rfl rfl ?_
             rintro v1 h1 ⟨ho1, hx1, hl1⟩)
  all_goals (refine WQ.stepE (ok_nilCheck rfl) rfl rfl rfl ?_)
  all_goals (refine WQ.stepE (ok_fieldAddr rfl Try.underlying54 rfl (fun w => Try.sizeOf52 w)) rfl rfl rfl ?_)
  all_goals (refine WL.stepR0 (okE_store (fun w => Try.sizeOf52 w) rfl rfl (by assumption) (Nat.le_of_ble_eq_true rfl) rfl rfl) rfl rfl ?_
             rintro _ h1 ⟨hb1, hx1⟩)
  all_goals (refine WQ.nil ?_)
  all_goals (repeat' (with_reducible first | refine thenP_n ?_ | refine blockP_n ?_))
  all_goals (refine WC.sub [(0, _)] ⟨rfl, trivial⟩ ?_)
  all_goals (refine WC.seq ?_)
  all_goals (refine WC.region ?_)
  all_goals (refine WL.step (ok_move rfl) rfl rfl rfl ?_)
  all_goals (refine WL.step (ok_nilCheck rfl) rfl rfl rfl ?_)
  all_goals (refine WL.step (ok_fieldAddr rfl Try.underlying54 rfl (fun w => Try.sizeOf3 w)) rfl rfl rfl ?_)
  all_goals (refine WL.step (ok_load (fun w => Try.isAgg3 w) rfl (by first | assumption | exact cell_blk (by assumption) rfl)) rfl rfl rfl ?_)
  all_goals (refine WL.step (ok_assign rfl) rfl rfl rfl ?_)
  all_goals (refine WL.nil ?_)
  all_goals (repeat' (with_reducible first | refine thenP_n ?_ | refine blockP_n ?_))
  all_goals (refine WC.sub [(4, _)] ⟨rfl, trivial⟩ ?_)
  all_goals (refine WC.ret ?_)
  all_goals (repeat' (with_reducible first | refine thenP_r ?_ | refine blockP_r ?_))
  all_goals (refine retP_1 _ ⟨rfl, trivial⟩ ?_)
  all_goals (first | exact absurd ‹_› hne | exact ⟨rfl, r4, (hX3.mono fun _ _ e => e.elim).trans hx4⟩)
set_option maxHeartbeats 1000000 in
set_option maxRecDepth 100000 in
theorem put14_new (r : R14 B h bt v last D) (s : Stm) {h0 : Heap} (ok0 : stOk h0 s) (x0 : Ext No h0 h) (hBB : h0.size ≤ B) (hf : fairS s.1 s.2.2 = true) (hno : ∀ y ∈ D, ¬ (y.t = s.1 ∧ y.o = s.2.2)) (hlast : 0 ≤ last ∧ last ≤ 1000000) (hDl : D.length + 1 ≤ 1000000) :
    CallsH Try.prog 24 ⟨[ptE bt, .agg ⟨stC s⟩]⟩ h fun u h' => u = In (last + 1) ∧ (∃ v' v2, R14 B h' bt v' (last + 1) (D ++ [⟨last + 1, 1, s.1, s.2.2, 0, v2⟩])) ∧ Ext (fun q => q = bt ∨ v.ownBlock = some q) h h' := by
  have ok : stOk h s := ⟨ok0.1.ext0 x0, ok0.2⟩
  have ko := fun h' (hx : Ext No h h') => of12 s.1 s.2.2 (ok.1.ext0 hx) ok.le
  have hne : keyS_ s.1 s.2.2 ≠ [] := keyS_fair.2 hf
  have hol := (fairS_yes hf).2.1
  have hB0 := r.blk
  have ho := r.own
  have lo := r.lo
  have sp := r.sep
  have hos := ho.slice
  have bd := r.bd
  have hbl := lt_of_some hB0
  obtain ⟨A, c, rfl, _⟩ := hos
  have k5 := fun h' (hx : Ext No h h') => find14 (r.ext0 hx) s ⟨ok.1.ext0 hx, ok.2⟩
  have hsl : ∀ e ∈ D, ∃ A n c, e.v = .slice A n c := fun e he => by obtain ⟨A, c, hv, _⟩ := (r.oid e he).slice; exact ⟨_, _, _, hv⟩
  obtain ⟨t, vs, o⟩ := s
  have hr0 := ok0.1
  dsimp only at hr0 hol
  have hrs := hr0
  obtain ⟨As, cs, rfl, _⟩ := hrs
  unfold ptE stC at *
  dsimp only at *
  refine calls [(0, _), (1, _)] Try.func24 rfl Try.ntmps24 rfl ⟨rfl, rfl, trivial⟩ ?_
  all_goals (refine WC.seq ?_)
  all_goals (refine WC.region ?_)
  all_goals (refine WL.stepR (okE_box rfl) rfl rfl rfl ?_
             rintro _ h1 ⟨b1, rfl, hg1, hb1, hx1⟩)
  all_goals (refine WL.step (ok_assign rfl) rfl rfl rfl ?_)
  all_goals (refine WL.nil ?_)
  all_goals (repeat' (with_reducible first | refine thenP_n ?_ | refine blockP_n ?_))
  all_goals (refine WC.seq ?_)
  all_goals (refine WC.seq ?_)
  all_goals (refine WC.region ?_)
  all_goals (refine WL.step (ok_loadN (fun w => Try.isAgg57 w) (fun w => Try.sizeOf57 w) rfl rfl (by exact At.of_block hb1)) rfl rfl rfl ?_)
  all_goals (refine WL.call (vs := [_]) rfl (fun a w => Try.call45 a w) rfl (ko _ hx1) rfl rfl rfl ?_
             rintro _ h2 ⟨rfl, hx2⟩)
  all_goals (have hX2 := hx1.trans hx2)
  all_goals (first | (refine WL.step (OkP.bool_t (by first | rfl | assumption | decide) (ok_eqlS rfl rfl)) rfl rfl rfl ?_) | (refine WL.step (OkP.bool_f (by first | assumption | decide) (ok_eqlS rfl rfl)) rfl rfl rfl ?_) | (refine WL.step (ok_eqlS rfl rfl) rfl rfl rfl ?_))
  all_goals (refine WL.nil ?_)
  all_goals (repeat' (with_reducible first | refine thenP_n ?_ | refine blockP_n ?_))
  all_goals (refine WC.sub [(0, _), (3, _), (9, _)] ⟨rfl, rfl, rfl, trivial⟩ ?_)
  all_goals (first | refine WC.condB_t 1 rfl ?_ | refine WC.condB_f 2 rfl ?_ | (refine WC.condB 1 2 rfl (fun hb => ?_) (fun hb => ?_) <;> (first | replace hb := of_decide_eq_true hb | replace hb := of_decide_eq_false hb | replace hb := of_decide_eq_false (nt hb) | replace hb := of_decide_eq_true (nf hb) | skip)))
  all_goals (first
    | (fail_if_success (refine Br.mk (i := 1) ?_))
    | (refine Br.mk (i := 1) ?_
       all_goals (refine WC.seq ?_)
       all_goals (refine WC.region ?_)
       all_goals (refine WL.step (ok_assign rfl) rfl rfl rfl ?_)
       all_goals (refine WL.nil ?_)
       all_goals (repeat' (with_reducible first | refine thenP_n ?_ | refine blockP_n ?_))
       all_goals (refine WC.ret ?_)
       all_goals (repeat' (with_reducible first | refine thenP_r ?_ | refine blockP_r ?_))
       all_goals (refine retP_1 _ ⟨rfl, trivial⟩ ?_)
       all_goals (first | exact absurd ‹_› hne | skip
                  have hs16 := hx16'.size
                  have hs17 := hx17.size
                  have hf17 : ∀ q, (Value.slice A17 (D.length + 1) c17).ownBlock = some q → (Value.slice A D.length c).ownBlock = some q ∨ h16.size ≤ q := fun q hq => hl17.elim (fun e => .inl (e ▸ hq)) (fun e => .inr (by rw [e] at hq; cases hq; exact Nat.le_refl _))
                  have o17 : ∀ q, (Value.slice A17 (D.length + 1) c17).ownBlock = some q → q ≠ bt := fun q hq => by rcases hf17 q hq with e | e; exact sp.1 q e; omega
                  have o13 := ((ho13.ext hx16 (fun _ _ => nos)).ext hx17 (fun q hq e => by have := hf13 q hq; have := ol4 _ e; omega)).ext hx20 (fun q hq e => by have := hf13 q hq; omega)
                  refine ⟨rfl, ⟨_, .slice A13 (0 + o.length) c13, ⟨hb20, by simpa using ho17.ext hx20 (fun q hq e => o17 q hq e), fun e he => ?_, ⟨lo.1, fun q hq => ?_, fun e he => ?_⟩, ⟨by simp; omega, fun e he => ?_⟩⟩⟩, ((hX4.mono fun q _ e => .inl e).trans (hC17.mono fun q _ e => .inr e)).trans (hx20.mono fun q _ e => .inl e)⟩
                  · exact (List.mem_append.1 he).elim (fun he => (((r.oid e he).ext hX4 (fun q hq => (sp.2 e he q hq).1)).ext hC17 (fun q hq => (sp.2 e he q hq).2)).ext hx20 (fun q hq => (sp.2 e he q hq).1)) (fun he => by obtain rfl := List.mem_singleton.1 he; simpa using o13)
                  · exact (hf17 q hq).elim (fun e => lo.2.1 q e) (fun e => by omega)
                  · exact (List.mem_append.1 he).elim (fun he => lo.2.2 e he) (fun he => by obtain rfl := List.mem_singleton.1 he; intro q hq; have := hf13 q hq; omega)
                  · exact (List.mem_append.1 he).elim (fun he => bd.2 e he) (fun he => by obtain rfl := List.mem_singleton.1 he; exact hol))
       skip))
  all_goals (first
    | (fail_if_success (refine Br.mk (i := 2) ?_))
    | (refine Br.mk (i := 2) ?_
       all_goals (refine WC.skip ?_)
       skip))
  all_goals (repeat' (with_reducible first | refine thenP_n ?_ | refine blockP_n ?_))
  all_goals (refine WC.seq ?_)
  all_goals (refine WC.seq ?_)
  all_goals (refine WC.region ?_)
  all_goals (refine WL.step (ok_move rfl) rfl rfl rfl ?_)
  all_goals (refine WL.step (ok_loadN (fun w => Try.isAgg57 w) (fun w => Try.sizeOf57 w) rfl rfl (by exact At.of_block (hx2.obj hb1 nos))) rfl rfl rfl ?_)
  all_goals (refine WL.call (vs := [_, _]) rfl (fun a w => Try.call32 a w) rfl (k5 _ hX2) rfl rfl rfl ?_
             rintro _ h3 ⟨⟨x, bb, rfl, hres⟩, hx3⟩
             obtain ⟨rfl, rfl⟩ : x = 0 ∧ bb = false := by rcases hres with ⟨_, y, hy, hz, e⟩ | ⟨e1, e2, _⟩; exact absurd hz (hno y hy); exact ⟨e2, e1⟩
             have hX3 := hX2.trans hx3
             have hb13 := (hx2.trans hx3).obj hb1 nos
             have hs3 := hX3.size)
  all_goals (refine WL.step (ok_move rfl) rfl rfl rfl ?_)
  all_goals (refine WL.step (ok_extract rfl rfl) rfl rfl rfl ?_)
  all_goals (refine WL.step (ok_extract rfl rfl) rfl rfl rfl ?_)
  all_goals (refine WL.step (ok_assign rfl) rfl rfl rfl ?_)
  all_goals (refine WL.step (ok_assign rfl) rfl rfl rfl ?_)
  all_goals (refine WL.nil ?_)
  all_goals (repeat' (with_reducible first | refine thenP_n ?_ | refine blockP_n ?_))
  all_goals (refine WC.sub [(0, _), (3, _), (5, _), (6, _)] ⟨rfl, rfl, rfl, rfl, trivial⟩ ?_)
  all_goals (refine WC.seq ?_)
  all_goals (refine WC.region ?_)
  all_goals (refine WL.step (ok_move rfl) rfl rfl rfl ?_)
  all_goals (refine WL.nil ?_)
  all_goals (repeat' (with_reducible first | refine thenP_n ?_ | refine blockP_n ?_))
  all_goals (first | refine WC.condB_t 3 rfl ?_ | refine WC.condB_f 4 rfl ?_ | (refine WC.condB 3 4 rfl (fun hb => ?_) (fun hb => ?_) <;> (first | replace hb := of_decide_eq_true hb | replace hb := of_decide_eq_false hb | replace hb := of_decide_eq_false (nt hb) | replace hb := of_decide_eq_true (nf hb) | skip)))
  all_goals (first
    | (fail_if_success (refine Br.mk (i := 3) ?_))
    | (refine Br.mk (i := 3) ?_
       all_goals (refine WC.seq ?_)
       all_goals (refine WC.region ?_)
       all_goals (refine WL.step (ok_move rfl) rfl rfl rfl ?_)
       all_goals (refine WL.step (ok_move rfl) rfl rfl rfl ?_)
       all_goals (fail "no contract for call of (*remuda/remudaref14.Registry).Ref at 5.2")
       all_goals (refine WL.nil ?_)
       all_goals (repeat' (with_reducible first | refine thenP_n ?_ | refine blockP_n ?_))
       all_goals (refine WC.sub [(5, _)] ⟨rfl, trivial⟩ ?_)
       all_goals (refine WC.seq ?_)
       all_goals (refine WC.region ?_)
       all_goals (refine WL.step (ok_move rfl) rfl rfl rfl ?_)
       all_goals (refine WL.step (ok_assign rfl) rfl rfl rfl ?_)
       all_goals (refine WL.nil ?_)
       all_goals (repeat' (with_reducible first | refine thenP_n ?_ | refine blockP_n ?_))
       all_goals (refine WC.ret ?_)
       all_goals (repeat' (with_reducible first | refine thenP_r ?_ | refine blockP_r ?_))
       all_goals (refine retP_1 _ ⟨rfl, trivial⟩ ?_)
       all_goals (first | exact absurd ‹_› hne | skip
                  have hs16 := hx16'.size
                  have hs17 := hx17.size
                  have hf17 : ∀ q, (Value.slice A17 (D.length + 1) c17).ownBlock = some q → (Value.slice A D.length c).ownBlock = some q ∨ h16.size ≤ q := fun q hq => hl17.elim (fun e => .inl (e ▸ hq)) (fun e => .inr (by rw [e] at hq; cases hq; exact Nat.le_refl _))
                  have o17 : ∀ q, (Value.slice A17 (D.length + 1) c17).ownBlock = some q → q ≠ bt := fun q hq => by rcases hf17 q hq with e | e; exact sp.1 q e; omega
                  have o13 := ((ho13.ext hx16 (fun _ _ => nos)).ext hx17 (fun q hq e => by have := hf13 q hq; have := ol4 _ e; omega)).ext hx20 (fun q hq e => by have := hf13 q hq; omega)
                  refine ⟨rfl, ⟨_, .slice A13 (0 + o.length) c13, ⟨hb20, by simpa using ho17.ext hx20 (fun q hq e => o17 q hq e), fun e he => ?_, ⟨lo.1, fun q hq => ?_, fun e he => ?_⟩, ⟨by simp; omega, fun e he => ?_⟩⟩⟩, ((hX4.mono fun q _ e => .inl e).trans (hC17.mono fun q _ e => .inr e)).trans (hx20.mono fun q _ e => .inl e)⟩
                  · exact (List.mem_append.1 he).elim (fun he => (((r.oid e he).ext hX4 (fun q hq => (sp.2 e he q hq).1)).ext hC17 (fun q hq => (sp.2 e he q hq).2)).ext hx20 (fun q hq => (sp.2 e he q hq).1)) (fun he => by obtain rfl := List.mem_singleton.1 he; simpa using o13)
                  · exact (hf17 q hq).elim (fun e => lo.2.1 q e) (fun e => by omega)
                  · exact (List.mem_append.1 he).elim (fun he => lo.2.2 e he) (fun he => by obtain rfl := List.mem_singleton.1 he; intro q hq; have := hf13 q hq; omega)
                  · exact (List.mem_append.1 he).elim (fun he => bd.2 e he) (fun he => by obtain rfl := List.mem_singleton.1 he; exact hol))
       skip))
  all_goals (first
    | (fail_if_success (refine Br.mk (i := 4) ?_))
    | (refine Br.mk (i := 4) ?_
       all_goals (refine WC.skip ?_)
       skip))
  all_goals (repeat' (with_reducible first | refine thenP_n ?_ | refine blockP_n ?_))
  all_goals (refine WC.seq ?_)
  all_goals (refine WC.region ?_)
  all_goals (refine WL.step (ok_move rfl) rfl rfl rfl ?_)
  all_goals (refine WL.step (ok_nilCheck rfl) rfl rfl rfl ?_)
  all_goals (refine WL.step (ok_fieldAddr rfl Try.underlying54 rfl (fun w => Try.sizeOf3 w)) rfl rfl rfl ?_)
  all_goals (refine WL.step (ok_load (fun w => Try.isAgg3 w) rfl (by first | exact cell_blk (hX3.obj hB0 nos) rfl | assumption | exact cell_blk (by assumption) rfl)) rfl rfl rfl ?_)
  all_goals (first | (refine WL.step (ok_addI rfl rfl (by omega)) rfl rfl rfl ?_) | (refine WL.step (ok_add rfl rfl) rfl rfl rfl ?_))
  all_goals (refine WL.step (ok_nilCheck rfl) rfl rfl rfl ?_)
  all_goals (refine WL.step (ok_fieldAddr rfl Try.underlying54 rfl (fun w => Try.sizeOf3 w)) rfl rfl rfl ?_)
  all_goals (refine WL.stepR0 (okE_store (fun w => Try.sizeOf3 w) rfl rfl (hX3.obj hB0 nos) (Nat.le_of_ble_eq_true rfl) rfl rfl) rfl rfl ?_
             rintro _ h4 ⟨hb4, hx4⟩)
  all_goals (have hX4 : Ext (fun q => q = bt) h h4 := (hX3.mono fun _ _ e => e.elim).trans hx4
             have hb14 := hx4.obj hb13 (fun e => by have := hg1; omega)
             have ho4 := ho.ext hX4 (fun q hq => sp.1 q hq)
             have hs4 := hX4.size
             have hr4 := hr0.ext0 (x0.trans' hX4 (fun q hq e => by omega))
             have ol4 : ∀ q, (Value.slice A D.length c).ownBlock = some q → q < h4.size := fun q hq => ho4.lt hq)
  all_goals (refine WL.nil ?_)
  all_goals (repeat' (with_reducible first | refine thenP_n ?_ | refine blockP_n ?_))
  all_goals (refine WC.sub [(0, _), (3, _)] ⟨rfl, rfl, trivial⟩ ?_)
  all_goals (refine WC.seq ?_)
  all_goals (have n1 : ¬ (Value.slice A D.length c).ownBlock = some b1 := fun e => by have := ho.lt e; omega
             have nbt : ¬ (Value.slice A D.length c).ownBlock = some bt := fun e => sp.1 _ e rfl)
  all_goals (refine WC.drawH (fun h' => Ext (fun q => (Value.slice A D.length c).ownBlock = some q) h4 h') 18 21 rfl fol ?_)
  all_goals (refine WH.take 0 rfl (by kernel_rfl) (by kernel_rfl) (by kernel_rfl) (by kernel_rfl) rfl (by first | exact Ext.refl _ _ | assumption) (fun hq hC => ok_move rfl) rfl rfl rfl ?_)
  all_goals (refine WH.take 1 rfl (by kernel_rfl) (by kernel_rfl) (by kernel_rfl) (by kernel_rfl) rfl (by first | exact Ext.refl _ _ | assumption) (fun hq hC => ok_move rfl) rfl rfl rfl ?_)
  all_goals (refine WH.take 2 rfl (by kernel_rfl) (by kernel_rfl) (by kernel_rfl) (by kernel_rfl) rfl (by first | exact Ext.refl _ _ | assumption) (fun hq hC => ok_nilCheck rfl) rfl rfl rfl ?_)
  all_goals (refine WH.take 3 rfl (by kernel_rfl) (by kernel_rfl) (by kernel_rfl) (by kernel_rfl) rfl (by first | exact Ext.refl _ _ | assumption) (fun hq hC => ok_fieldAddr rfl Try.underlying54 rfl (fun w => Try.sizeOf52 w)) rfl rfl rfl ?_)
  all_goals (refine WH.take 4 rfl (by kernel_rfl) (by kernel_rfl) (by kernel_rfl) (by kernel_rfl) rfl (by first | exact Ext.refl _ _ | assumption) (fun hq hC => ok_load (fun w => Try.isAgg52 w) rfl (by first | exact hC.cell (by first | exact cell_blk hb4 rfl | assumption | exact cell_blk (by assumption) rfl) (by first | exact (fun e => sp.1 _ e rfl) | exact n1))) rfl rfl rfl ?_)
  all_goals (refine WH.take 5 rfl (by kernel_rfl) (by kernel_rfl) (by kernel_rfl) (by kernel_rfl) rfl (by first | exact Ext.refl _ _ | assumption) (fun hq hC => ok_move rfl) rfl rfl rfl ?_)
  all_goals (refine WH.take 6 rfl (by kernel_rfl) (by kernel_rfl) (by kernel_rfl) (by kernel_rfl) rfl (by first | exact Ext.refl _ _ | assumption) (fun hq hC => ok_nilCheck rfl) rfl rfl rfl ?_)
  all_goals (refine WH.take 7 rfl (by kernel_rfl) (by kernel_rfl) (by kernel_rfl) (by kernel_rfl) rfl (by first | exact Ext.refl _ _ | assumption) (fun hq hC => ok_fieldAddr rfl Try.underlying54 rfl (fun w => Try.sizeOf3 w)) rfl rfl rfl ?_)
  all_goals (refine WH.take 8 rfl (by kernel_rfl) (by kernel_rfl) (by kernel_rfl) (by kernel_rfl) rfl (by first | exact Ext.refl _ _ | assumption) (fun hq hC => ok_load (fun w => Try.isAgg3 w) rfl (by first | exact hC.cell (by first | exact cell_blk hb4 rfl | assumption | exact cell_blk (by assumption) rfl) (by first | exact (fun e => sp.1 _ e rfl) | exact n1))) rfl rfl rfl ?_)
  all_goals (refine WH.take 9 rfl (by kernel_rfl) (by kernel_rfl) (by kernel_rfl) (by kernel_rfl) rfl (by first | exact Ext.refl _ _ | assumption) (fun hq hC => ok_fieldAddr rfl Try.underlying57 rfl (fun w => Try.sizeOf9 w)) rfl rfl rfl ?_)
  all_goals (refine WH.take 10 rfl (by kernel_rfl) (by kernel_rfl) (by kernel_rfl) (by kernel_rfl) rfl (by first | exact Ext.refl _ _ | assumption) (fun hq hC => ok_load (fun w => Try.isAgg9 w) rfl (by first | exact hC.cell (by first | exact cell_blk hb14 rfl | assumption | exact cell_blk (by assumption) rfl) (by first | exact (fun e => sp.1 _ e rfl) | exact n1))) rfl rfl rfl ?_)
  all_goals (refine WH.take 11 rfl (by kernel_rfl) (by kernel_rfl) (by kernel_rfl) (by kernel_rfl) rfl (by first | exact Ext.refl _ _ | assumption) (fun hq hC => ok_fieldAddr rfl Try.underlying57 rfl (fun w => Try.sizeOf55 w)) rfl rfl rfl ?_)
  all_goals (refine WH.take 12 rfl (by kernel_rfl) (by kernel_rfl) (by kernel_rfl) (by kernel_rfl) rfl (by first | exact Ext.refl _ _ | assumption) (fun hq hC => ok_load (fun w => Try.isAgg55 w) rfl (by first | exact hC.cell (by first | exact cell_blk hb14 rfl | assumption | exact cell_blk (by assumption) rfl) (by first | exact (fun e => sp.1 _ e rfl) | exact n1))) rfl rfl rfl ?_)
  all_goals (refine WH.one 13 (by kernel_rfl) ?_)
  all_goals (refine Comes1.run rfl (ok_append (sz := 1) (bytes := 8) rfl Try.underlying55 (show Try.prog.info? 3 = some Try.t3 by kernel_rfl) rfl rfl rfl rfl (by decide) rfl rfl (Own.nil _ _ _) hr4 (one_ints o) (by simp only [maxLen]; omega) (by omega)) rfl rfl rfl ?_ (fun _ => by kernel_rfl)
             rintro v13 h13 ⟨ho13, hx13, hl13⟩)
  all_goals (refine ⟨fun _ => hx13.mono (fun _ _ e => by cases e), ?_⟩)
  all_goals (have hx13' := hx13.mono (S' := No) (fun _ _ e => by cases e)
             have hC13 : Ext (fun q => (Value.slice A D.length c).ownBlock = some q) h4 h13 := hx13'.mono fun _ _ e => e.elim
             have hf13 : ∀ q, v13.ownBlock = some q → h4.size ≤ q := fresh_of hl13 (by simp [Value.ownBlock]) (Nat.le_refl _)
             obtain ⟨A13, c13, rfl, _⟩ := ho13.slice)
  all_goals (refine WH.take 14 rfl (by kernel_rfl) (by kernel_rfl) (by kernel_rfl) (by kernel_rfl) rfl (by first | exact Ext.refl _ _ | assumption) (fun hq hC => ok_buildF (vs := [_, _]) (cs := [_, _]) (fun | [a0, a1] => [a0, a1] | _ => []) rfl rfl (by kernel_rfl)) rfl rfl rfl ?_)
  all_goals (refine WH.take 15 rfl (by kernel_rfl) (by kernel_rfl) (by kernel_rfl) (by kernel_rfl) rfl (by first | exact Ext.refl _ _ | assumption) (fun hq hC => ok_buildF (vs := [_, _, _]) (cs := [_, _, _, _]) (fun | [a0, a1, .agg ⟨[a2, a3]⟩] => [a0, a1, a2, a3] | _ => []) rfl rfl (by kernel_rfl)) rfl rfl rfl ?_)
  all_goals (refine WH.one 16 (by kernel_rfl) ?_)
  all_goals (refine Comes1.run rfl (okE_buildSlice (vs := [_]) (cs := [_, _, _, _]) (fun | [.agg ⟨[a0, a1, a2, a3]⟩] => [a0, a1, a2, a3] | _ => []) Try.underlying52 rfl rfl (by kernel_rfl)) rfl rfl rfl ?_ (fun _ => by kernel_rfl)
             rintro _ h16 ⟨b16, rfl, hg16, hb16, hx16⟩)
  all_goals (refine ⟨fun _ => hC13.trans (hx16.mono fun _ _ e => e.elim), ?_⟩)
  all_goals (have hx16' := hx13'.trans hx16
             have hC16 : Ext (fun q => (Value.slice A D.length c).ownBlock = some q) h4 h16 := hx16'.mono fun _ _ e => e.elim)
  all_goals (refine WH.one 17 (by kernel_rfl) ?_)
  all_goals (refine Comes1.run rfl (ok_append (sz := 4) (bytes := 56) rfl Try.underlying52 (show Try.prog.info? 88 = some Try.t88 by kernel_rfl) rfl rfl rfl rfl (by decide) rfl rfl (ho4.ext hx16' (fun _ _ => nos)) (rd_blk hb16 rfl) (by simp [Value.oneCell']) (by simp only [maxLen]; omega) (by omega)) rfl rfl rfl ?_ (fun _ => by kernel_rfl)
             rintro v17 h17 ⟨ho17, hx17, hl17⟩)
  all_goals (refine ⟨fun _ => hC16.trans hx17, ?_⟩)
  all_goals (have hC17 := hC16.trans hx17
             obtain ⟨A17, c17, rfl, _⟩ := ho17.slice
             have hb17 := hC17.obj hb4 nbt)
  all_goals (refine WH.one 18 (by kernel_rfl) ?_)
  all_goals (refine Comes1.run rfl (OkP.r (ok_nilCheck rfl)) rfl rfl rfl ?_ (fun _ => by kernel_rfl)
             rintro _ hz ⟨rfl, _⟩
             subst hz)
  all_goals (refine ⟨fun e => (by cases e), ?_⟩)
  all_goals (refine WH.one 19 (by kernel_rfl) ?_)
  all_goals (refine Comes1.run rfl (OkP.r (ok_fieldAddr rfl Try.underlying54 rfl (fun w => Try.sizeOf52 w))) rfl rfl rfl ?_ (fun _ => by kernel_rfl)
             rintro _ hz ⟨rfl, _⟩
             subst hz)
  all_goals (refine ⟨fun e => (by cases e), ?_⟩)
  all_goals (refine WH.one 20 (by kernel_rfl) ?_)
  all_goals (refine Comes1.run0 rfl (okE_store (fun w => Try.sizeOf52 w) rfl rfl hb17 (Nat.le_of_ble_eq_true rfl) rfl rfl) rfl rfl ?_ (fun _ => by kernel_rfl)
             rintro _ h20 ⟨hb20, hx20⟩)
  all_goals (refine ⟨fun e => (by cases e), ?_⟩)
  all_goals (refine WH.done (by kernel_rfl) ?_)
  all_goals (repeat' (with_reducible first | refine thenP_n ?_ | refine blockP_n ?_))
  all_goals (refine WC.sub [(0, _)] ⟨rfl, trivial⟩ ?_)
  all_goals (refine WC.seq ?_)
  all_goals (refine WC.region ?_)
  all_goals (refine WL.step (ok_move rfl) rfl rfl rfl ?_)
  all_goals (refine WL.step (ok_nilCheck rfl) rfl rfl rfl ?_)
  all_goals (refine WL.step (ok_fieldAddr rfl Try.underlying54 rfl (fun w => Try.sizeOf3 w)) rfl rfl rfl ?_)
  all_goals (refine WL.step (ok_load (fun w => Try.isAgg3 w) rfl (by first | exact cell_blk hb20 rfl | assumption | exact cell_blk (by assumption) rfl)) rfl rfl rfl ?_)
  all_goals (refine WL.step (ok_assign rfl) rfl rfl rfl ?_)
  all_goals (refine WL.nil ?_)
  all_goals (repeat' (with_reducible first | refine thenP_n ?_ | refine blockP_n ?_))
  all_goals (refine WC.sub [(4, _)] ⟨rfl, trivial⟩ ?_)
  all_goals (refine WC.ret ?_)
  all_goals (repeat' (with_reducible first | refine thenP_r ?_ | refine blockP_r ?_))
  all_goals (refine retP_1 _ ⟨rfl, trivial⟩ ?_)
  all_goals (first | exact absurd ‹_› hne | skip
             have hs16 := hx16'.size
             have hs17 := hx17.size
             have hf17 : ∀ q, (Value.slice A17 (D.length + 1) c17).ownBlock = some q → (Value.slice A D.length c).ownBlock = some q ∨ h16.size ≤ q := fun q hq => hl17.elim (fun e => .inl (e ▸ hq)) (fun e => .inr (by rw [e] at hq; cases hq; exact Nat.le_refl _))
             have o17 : ∀ q, (Value.slice A17 (D.length + 1) c17).ownBlock = some q → q ≠ bt := fun q hq => by rcases hf17 q hq with e | e; exact sp.1 q e; omega
             have o13 := ((ho13.ext hx16 (fun _ _ => nos)).ext hx17 (fun q hq e => by have := hf13 q hq; have := ol4 _ e; omega)).ext hx20 (fun q hq e => by have := hf13 q hq; omega)
             refine ⟨rfl, ⟨_, .slice A13 (0 + o.length) c13, ⟨hb20, by simpa using ho17.ext hx20 (fun q hq e => o17 q hq e), fun e he => ?_, ⟨lo.1, fun q hq => ?_, fun e he => ?_⟩, ⟨by simp; omega, fun e he => ?_⟩⟩⟩, ((hX4.mono fun q _ e => .inl e).trans (hC17.mono fun q _ e => .inr e)).trans (hx20.mono fun q _ e => .inl e)⟩
             · exact (List.mem_append.1 he).elim (fun he => (((r.oid e he).ext hX4 (fun q hq => (sp.2 e he q hq).1)).ext hC17 (fun q hq => (sp.2 e he q hq).2)).ext hx20 (fun q hq => (sp.2 e he q hq).1)) (fun he => by obtain rfl := List.mem_singleton.1 he; simpa using o13)
             · exact (hf17 q hq).elim (fun e => lo.2.1 q e) (fun e => by omega)
             · exact (List.mem_append.1 he).elim (fun he => lo.2.2 e he) (fun he => by obtain rfl := List.mem_singleton.1 he; intro q hq; have := hf13 q hq; omega)
             · exact (List.mem_append.1 he).elim (fun he => bd.2 e he) (fun he => by obtain rfl := List.mem_singleton.1 he; exact hol))
end
end Go.Proofs.Ytkpgnhhidnkmcaa

