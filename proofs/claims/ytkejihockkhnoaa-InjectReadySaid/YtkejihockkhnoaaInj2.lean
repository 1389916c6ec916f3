/-
  INJECT (layer 19): Ready, and awake.
-/
import Derived.Test.YtkejihockkhnoaaInj
namespace Go.Proofs.Ytkejihockkhnoaa
open Go Go.RK

theorem own_apart {h : Heap} {v v' : Value} {e e' : TypeId} {sz n sz' n' : Nat} {xs xs' : List Value} (ho : Own h v e sz n xs) (ho' : Own h v' e' sz' n' xs') (he : e' ≠ e) : ∀ q, v'.ownBlock = some q → v.ownBlock ≠ some q := by
  intro q hq
  obtain ⟨_, ⟨rfl, _⟩ | ⟨g, cap, cur, rfl, hg, _⟩⟩ := ho'
  · cases hq
  · simp only [Value.ownBlock, Option.some.injEq] at hq
    subst hq
    exact own_ne ho (cs := cur.toList) hg he
/-- What Room has told, so that one may go on behind it. -/
def RoomG (spec : List Int) (most : Int) (h : Heap) (u : Value) (h' : Heap) : Prop := ∃ vF vE, ∃ (L : List Fm) (M : List En), u = .tuple ⟨[vF, vE]⟩ ∧ Own h' vF 34 10 L.length (L.flatMap Fm.cells) ∧ Own h' vE 51 8 M.length (M.flatMap En.cells) ∧ L.length ≤ 1 ∧ M.length ≤ 1 ∧ (∀ f ∈ L, ∀ h, f.ok h) ∧ (∀ e ∈ M, ∃ k a id b, e = hiM k a id b ∧ h'[b]? = some (.cells ⟨[In a, In id]⟩ 78 (0, 0))) ∧ L.map Fm.pl = roomF spec most ∧ M.map En.pl = roomE spec most ∧ Ext No h h' ∧ (∀ k, vF.ownBlock = some k → h.size ≤ k) ∧ (∀ k, vE.ownBlock = some k → h.size ≤ k)
theorem roomG_no {h : Heap} {spec : List Int} {most : Int} (h0 : spec.length = 0 ∨ (spec.length : Int) < most) : RoomG spec most h (.tuple ⟨[.slice none 0 0, .slice none 0 0]⟩) h := by
  have e1 : roomF spec most = [] := by
    cases spec with
    | nil => rfl
    | cons x l => exact if_pos (by simpa using h0)
  have e2 : roomE spec most = [] := by
    cases spec with
    | nil => rfl
    | cons x l => exact if_pos (by simpa using h0)
  unfold RoomG
  rw [e1, e2]
  exact ⟨_, _, [], [], rfl, Own.nil _ _ _, Own.nil _ _ _, by simp, by simp, by simp, by simp, rfl, rfl, .refl _ _, by simp [Value.ownBlock], by simp [Value.ownBlock]⟩
theorem roomG_yes {h h' : Heap} {u : Value} {x : Int} {l : List Int} {most : Int} (h0 : most ≤ ((x :: l).length : Int)) (r : RoomY h x u h') : RoomG (x :: l) most h u h' := by
  obtain ⟨bo, vF, vE, rfl, hF, hE, hb, hx, f1, f2⟩ := r
  have e1 : roomF (x :: l) most = [closeP (srvL x)] := if_neg (by omega)
  have e2 : roomE (x :: l) most = [hideP 7 2 x] := if_neg (by omega)
  unfold RoomG
  rw [e1, e2]
  exact ⟨_, _, [clM (srvL x)], [hiM 7 2 x bo], rfl, hF, hE, by simp, by simp, fun f hf h => by obtain rfl := List.mem_singleton.1 hf; exact clM_ok _ _, fun e he => by obtain rfl := List.mem_singleton.1 he; exact ⟨_, _, _, _, rfl, hb⟩, rfl, rfl, hx, f1, f2⟩
theorem room_any {h : Heap} {v : Value} (spec : List Int) (most : Int) (hr : Rd h v 1 spec.length (ints spec)) (hm : spec.length ≤ 100000) :
    CallsH Try.prog 10 ⟨[v, In most]⟩ h fun u h' => RoomG spec most h u h' := by
  by_cases h0 : spec.length = 0 ∨ (spec.length : Int) < most
  · exact (room_no spec most hr hm h0).mono fun u h' ⟨e1, e2⟩ => by rw [e1, e2]; exact roomG_no h0
  · cases spec with
    | nil => exact absurd (.inl rfl) h0
    | cons x l => exact (room_yes x l most hr hm (by omega)).mono fun u h' r => roomG_yes (by omega) r
theorem room_any_ref {h : Heap} {v : Value} (spec : List Int) (most : Int) (hr : Rd h v 1 spec.length (ints spec)) (hm : spec.length ≤ 100000) :
    CallsH Try.prog 11 ⟨[v, In most]⟩ h fun u h' => RoomG spec most h u h' := by
  by_cases h0 : spec.length = 0 ∨ (spec.length : Int) < most
  · exact (room_no_ref spec most hr hm h0).mono fun u h' ⟨e1, e2⟩ => by rw [e1, e2]; exact roomG_no h0
  · cases spec with
    | nil => exact absurd (.inl rfl) h0
    | cons x l => exact (room_yes_ref x l most hr hm (by omega)).mono fun u h' r => roomG_yes (by omega) r
theorem told_room {spec : List Int} {most : Int} {h h' : Heap} {u : Value} (r : RoomG spec most h u h') : Told (roomF spec most) (roomE spec most) h u h' := by
  obtain ⟨vF, vE, L, M, e, hF, hE, hl, hm, f1, f2, p1, p2, hx, _, _⟩ := r
  exact ⟨vF, vE, L, M, e, ⟨hF.rd, by unfold maxLen; omega, fun f hf => f1 f hf _⟩, ⟨hE.rd, by unfold maxLen; omega, fun f hf => by obtain ⟨k, a, id, b, rfl, hb⟩ := f2 f hf; exact hiM_ok k hb⟩, p1, p2, hx⟩
/-- Behind Room: one more of each. -/
theorem told_ready {spec : List Int} {most id : Int} {h h' : Heap} {vF vE : Value} {L : List Fm} {M : List En} {t : List UInt8} {l : List Int} {v : Value} {b : Nat} (hin : id ∉ spec)
    (hF : Own h' vF 34 10 (L.length + 1) (L.flatMap Fm.cells ++ paC (srvL id) t v)) (hE : Own h' vE 51 8 (M.length + 1) (M.flatMap En.cells ++ hiC 2 (.slice (some ⟨b, 0, none⟩) 1 1))) (hl : L.length ≤ 1) (hm : M.length ≤ 1) (f1 : ∀ f ∈ L, ∀ h, f.ok h) (f2 : ∀ e ∈ M, ∃ k a id b, e = hiM k a id b ∧ h'[b]? = some (.cells ⟨[In a, In id]⟩ 78 (0, 0)))
    (hv : Rd h' v 1 l.length (ints l)) (hlm : l.length ≤ 100000) (hb : h'[b]? = some (.cells ⟨[In 1, In id]⟩ 78 (0, 0))) (p1 : L.map Fm.pl = roomF spec most) (p2 : M.map En.pl = roomE spec most) (hx : Ext No h h') : Told (readyF spec most id t l) (readyE spec most id) h (.tuple ⟨[vF, vE]⟩) h' := by
  refine ⟨vF, vE, L ++ [paM (srvL id) t v l], M ++ [hiM 2 1 id b], rfl, ⟨?_, by simp [maxLen]; omega, ?_⟩, ⟨?_, by simp [maxLen]; omega, ?_⟩, by simp [readyF, hin, p1, paM, Fm.pl, parseP], by simp [readyE, hin, p2, hiM, En.pl, hideP], hx⟩
  · rw [List.length_append, List.flatMap_append]; exact hF.rd
  · intro f hf
    rcases List.mem_append.1 hf with hf | hf
    · exact f1 f hf _
    · obtain rfl := List.mem_singleton.1 hf; exact paM_ok _ _ hv hlm
  · rw [List.length_append, List.flatMap_append]; exact hE.rd
  · intro f hf
    rcases List.mem_append.1 hf with hf | hf
    · obtain ⟨k, a, id, b, rfl, hb⟩ := f2 f hf; exact hiM_ok k hb
    · obtain rfl := List.mem_singleton.1 hf; exact hiM_ok 2 hb
theorem told_none {spec : List Int} {most id : Int} {h h' : Heap} {t : List UInt8} {l : List Int} (hin : id ∈ spec) (hx : Ext No h h') : Told (readyF spec most id t l) (readyE spec most id) h (.tuple ⟨[.slice none 0 0, .slice none 0 0]⟩) h' :=
  ⟨_, _, [], [], rfl, ⟨Rd.nil _ _, by simp [maxLen], by simp⟩, ⟨Rd.nil _ _, by simp [maxLen], by simp⟩, by simp [readyF, hin], by simp [readyE, hin], hx⟩
set_option maxRecDepth 100000 in
theorem ready_any {h : Heap} {v w : Value} (spec : List Int) (most id : Int) (t : List UInt8) (l : List Int) (hr : Rd h v 1 spec.length (ints spec)) (hm : spec.length ≤ 100000) (hl : Rd h w 1 l.length (ints l)) (hlm : l.length ≤ 100000) :
    CallsH Try.prog 12 ⟨[v, In most, In id, .agg ⟨[St t, w]⟩]⟩ h fun u h' => Told (readyF spec most id t l) (readyE spec most id) h u h' := by
  obtain ⟨A, c, rfl, _⟩ := _root_.id hr
  obtain ⟨B, d, rfl, _⟩ := _root_.id hl
  by_cases hin : id ∈ spec
  · have hd : decide (id ∈ spec) = true := by simp [hin]
    refine calls [(0, _), (1, _), (2, _), (3, _)] Try.func12 rfl Try.ntmps12 rfl ⟨rfl, rfl, rfl, rfl, trivial⟩ ?_
    all_goals (refine WC.seq ?_)
    all_goals (refine WC.region ?_)
    all_goals (refine WL.stepR (okE_box rfl) rfl rfl rfl ?_
               rintro _ h1 ⟨b1, rfl, hg1, hb1, hx1⟩)
    all_goals (refine WL.step (ok_assign rfl) rfl rfl rfl ?_)
    all_goals (refine WL.step (ok_assign rfl) rfl rfl rfl ?_)
    all_goals (refine WL.nil ?_)
    all_goals (repeat' (with_reducible first | refine thenP_n ?_ | refine blockP_n ?_))
    all_goals (refine WC.seq ?_)
    all_goals (refine WC.seq ?_)
    all_goals (refine WC.region ?_)
    all_goals (refine WL.step (ok_move rfl) rfl rfl rfl ?_)
    all_goals (refine WL.step (ok_move rfl) rfl rfl rfl ?_)
    all_goals (refine WL.call (vs := [_, _]) rfl (fun a w => Try.call35 a w) rfl ((contains_int spec id (hr.ext0 hx1) (by unfold maxLen; omega)).as (congrArg Value.bool hd)) rfl rfl rfl ?_
               rintro _ hz ⟨rfl, _⟩
               subst hz)
    all_goals (refine WL.nil ?_)
    all_goals (repeat' (with_reducible first | refine thenP_n ?_ | refine blockP_n ?_))
    all_goals (refine WC.sub [(0, _), (1, _), (2, _), (7, _), (14, _)] ⟨rfl, rfl, rfl, rfl, rfl, trivial⟩ ?_)
    all_goals (first | refine WC.condB_t 1 rfl ?_ | refine WC.condB_f 2 rfl ?_ | (refine WC.condB 1 2 rfl (fun hb => ?_) (fun hb => ?_) <;> (first | replace hb := of_decide_eq_true hb | replace hb := of_decide_eq_false hb | replace hb := of_decide_eq_false (nt hb) | replace hb := of_decide_eq_true (nf hb) | skip)))
    all_goals (first
      | (fail_if_success (refine Br.mk (i := 1) ?_))
      | (refine Br.mk (i := 1) ?_
         all_goals (refine WC.seq ?_)
         all_goals (refine WC.region ?_)
         all_goals (refine WL.step (ok_assign rfl) rfl rfl rfl ?_)
         all_goals (refine WL.step (ok_assign rfl) rfl rfl rfl ?_)
         all_goals (refine WL.nil ?_)
         all_goals (repeat' (with_reducible first | refine thenP_n ?_ | refine blockP_n ?_))
         all_goals (refine WC.sub [(8, _), (9, _)] ⟨rfl, rfl, trivial⟩ ?_)
         all_goals (refine WC.ret ?_)
         all_goals (repeat' (with_reducible first | refine thenP_r ?_ | refine blockP_r ?_))
         all_goals (refine retP_2 _ _ ⟨rfl, rfl, trivial⟩ ?_)
         all_goals (exact told_none hin hx1)
         skip))
    all_goals (first
      | (fail_if_success (refine Br.mk (i := 2) ?_))
      | (refine Br.mk (i := 2) ?_
         all_goals (refine WC.skip ?_)
         skip))
    all_goals (repeat' (with_reducible first | refine thenP_n ?_ | refine blockP_n ?_))
    all_goals (refine WC.seq ?_)
    all_goals (refine WC.region ?_)
    all_goals (refine WL.step (ok_move rfl) rfl rfl rfl ?_)
    all_goals (refine WL.step (ok_move rfl) rfl rfl rfl ?_)
    all_goals (fail "no contract for call of remuda/inject.Room at 3.2")
    all_goals (refine WL.step (ok_move rfl) rfl rfl rfl ?_)
    all_goals (refine WL.step (ok_extract rfl rfl) rfl rfl rfl ?_)
    all_goals (refine WL.step (ok_extract rfl rfl) rfl rfl rfl ?_)
    all_goals (refine WL.step (ok_assign rfl) rfl rfl rfl ?_)
    all_goals (refine WL.step (ok_assign rfl) rfl rfl rfl ?_)
    all_goals (refine WL.nil ?_)
    all_goals (repeat' (with_reducible first | refine thenP_n ?_ | refine blockP_n ?_))
    all_goals (refine WC.sub [(2, _), (7, _), (10, _), (11, _)] ⟨rfl, rfl, rfl, rfl, trivial⟩ ?_)
    all_goals (refine WC.seq ?_)
    all_goals (refine WC.drawE fol (by kernel_rfl) ?_)
    all_goals (refine WQ.stepE (ok_move rfl) rfl rfl rfl ?_)
    all_goals (refine WQ.stepE (ok_move rfl) rfl rfl rfl ?_)
    all_goals (fail "no contract for call of remuda/names.Server at 4.2")
    all_goals (refine WQ.stepE (ok_loadN (fun w => Try.isAgg24 w) (fun w => Try.sizeOf24 w) rfl rfl (by assumption)) rfl rfl rfl ?_)
    all_goals (fail "no contract for call of remuda/inject.Parse at 4.4")
    all_goals (refine WL.stepR (okE_buildSlice (vs := [_]) (cs := [_, _, _, _, _, _, _, _, _, _]) (fun | [.agg ⟨[a0, a1, a2, a3, a4, a5, a6, a7, a8, a9]⟩] => [a0, a1, a2, a3, a4, a5, a6, a7, a8, a9] | _ => []) Try.underlying26 rfl rfl (by kernel_rfl)) rfl rfl rfl ?_
               rintro _ h1 ⟨b1, rfl, hg1, hb1, hx1⟩)
    all_goals (refine WL.stepR (ok_append (sz := 10) (bytes := 160) rfl Try.underlying26 (show Try.prog.info? 34 = some Try.t34 by kernel_rfl) rfl rfl rfl rfl (by decide) rfl rfl (by assumption) (by first | assumption | exact rd_blk (by assumption) rfl) (by simp [Value.oneCell']) (by simp only [maxLen]; omega) (by omega)) rfl rfl rfl ?_
               rintro v1 h1 ⟨ho1, hx1, hl1⟩)
    all_goals (refine WQ.stepE (ok_assign rfl) rfl rfl rfl ?_)
    all_goals (refine WQ.nil ?_)
    all_goals (repeat' (with_reducible first | refine thenP_n ?_ | refine blockP_n ?_))
    all_goals (refine WC.sub [(2, _), (10, _), (11, _)] ⟨rfl, rfl, rfl, trivial⟩ ?_)
    all_goals (refine WC.seq ?_)
    all_goals (refine WC.region ?_)
    all_goals (refine WL.step (ok_move rfl) rfl rfl rfl ?_)
    all_goals (refine WL.step (ok_move rfl) rfl rfl rfl ?_)
    all_goals (refine WL.step (ok_move rfl) rfl rfl rfl ?_)
    all_goals (refine WL.step (ok_buildF (vs := [_, _]) (cs := [_, _]) (fun | [a0, a1] => [a0, a1] | _ => []) rfl rfl (by kernel_rfl)) rfl rfl rfl ?_)
    all_goals (refine WL.stepR (okE_buildSlice (vs := [_]) (cs := [_, _]) (fun | [.agg ⟨[a0, a1]⟩] => [a0, a1] | _ => []) Try.underlying40 rfl rfl (by kernel_rfl)) rfl rfl rfl ?_
               rintro _ h1 ⟨b1, rfl, hg1, hb1, hx1⟩)
    all_goals (fail "no contract for call of remuda/inject.hidden at 5.5")
    all_goals (refine WL.stepR (okE_buildSlice (vs := [_]) (cs := [_, _, _, _, _, _, _, _]) (fun | [.agg ⟨[a0, a1, a2, a3, a4, a5, a6, a7]⟩] => [a0, a1, a2, a3, a4, a5, a6, a7] | _ => []) Try.underlying27 rfl rfl (by kernel_rfl)) rfl rfl rfl ?_
               rintro _ h1 ⟨b1, rfl, hg1, hb1, hx1⟩)
    all_goals (refine WL.stepR (ok_append (sz := 8) (bytes := 144) rfl Try.underlying27 (show Try.prog.info? 51 = some Try.t51 by kernel_rfl) rfl rfl rfl rfl (by decide) rfl rfl (by assumption) (by first | assumption | exact rd_blk (by assumption) rfl) (by simp [Value.oneCell']) (by simp only [maxLen]; omega) (by omega)) rfl rfl rfl ?_
               rintro v1 h1 ⟨ho1, hx1, hl1⟩)
    all_goals (refine WL.step (ok_assign rfl) rfl rfl rfl ?_)
    all_goals (refine WL.step (ok_assign rfl) rfl rfl rfl ?_)
    all_goals (refine WL.nil ?_)
    all_goals (repeat' (with_reducible first | refine thenP_n ?_ | refine blockP_n ?_))
    all_goals (refine WC.sub [(8, _), (9, _)] ⟨rfl, rfl, trivial⟩ ?_)
    all_goals (refine WC.ret ?_)
    all_goals (repeat' (with_reducible first | refine thenP_r ?_ | refine blockP_r ?_))
    all_goals (refine retP_2 _ _ ⟨rfl, rfl, trivial⟩ ?_)
    all_goals (exact told_none hin hx1)
  · have hd : decide (id ∈ spec) = false := by simp [hin]
    refine calls [(0, _), (1, _), (2, _), (3, _)] Try.func12 rfl Try.ntmps12 rfl ⟨rfl, rfl, rfl, rfl, trivial⟩ ?_
    all_goals (refine WC.seq ?_)
    all_goals (refine WC.region ?_)
    all_goals (refine WL.stepR (okE_box rfl) rfl rfl rfl ?_
               rintro _ h1 ⟨b1, rfl, hg1, hb1, hx1⟩)
    all_goals (refine WL.step (ok_assign rfl) rfl rfl rfl ?_)
    all_goals (refine WL.step (ok_assign rfl) rfl rfl rfl ?_)
    all_goals (refine WL.nil ?_)
    all_goals (repeat' (with_reducible first | refine thenP_n ?_ | refine blockP_n ?_))
    all_goals (refine WC.seq ?_)
    all_goals (refine WC.seq ?_)
    all_goals (refine WC.region ?_)
    all_goals (refine WL.step (ok_move rfl) rfl rfl rfl ?_)
    all_goals (refine WL.step (ok_move rfl) rfl rfl rfl ?_)
    all_goals (refine WL.call (vs := [_, _]) rfl (fun a w => Try.call35 a w) rfl ((contains_int spec id (hr.ext0 hx1) (by unfold maxLen; omega)).as (congrArg Value.bool hd)) rfl rfl rfl ?_
               rintro _ hz ⟨rfl, _⟩
               subst hz)
    all_goals (refine WL.nil ?_)
    all_goals (repeat' (with_reducible first | refine thenP_n ?_ | refine blockP_n ?_))
    all_goals (refine WC.sub [(0, _), (1, _), (2, _), (7, _), (14, _)] ⟨rfl, rfl, rfl, rfl, rfl, trivial⟩ ?_)
    all_goals (first | refine WC.condB_t 1 rfl ?_ | refine WC.condB_f 2 rfl ?_ | (refine WC.condB 1 2 rfl (fun hb => ?_) (fun hb => ?_) <;> (first | replace hb := of_decide_eq_true hb | replace hb := of_decide_eq_false hb | replace hb := of_decide_eq_false (nt hb) | replace hb := of_decide_eq_true (nf hb) | skip)))
    all_goals (first
      | (fail_if_success (refine Br.mk (i := 1) ?_))
      | (refine Br.mk (i := 1) ?_
         all_goals (refine WC.seq ?_)
         all_goals (refine WC.region ?_)
         all_goals (refine WL.step (ok_assign rfl) rfl rfl rfl ?_)
         all_goals (refine WL.step (ok_assign rfl) rfl rfl rfl ?_)
         all_goals (refine WL.nil ?_)
         all_goals (repeat' (with_reducible first | refine thenP_n ?_ | refine blockP_n ?_))
         all_goals (refine WC.sub [(8, _), (9, _)] ⟨rfl, rfl, trivial⟩ ?_)
         all_goals (refine WC.ret ?_)
         all_goals (repeat' (with_reducible first | refine thenP_r ?_ | refine blockP_r ?_))
         all_goals (refine retP_2 _ _ ⟨rfl, rfl, trivial⟩ ?_)
         all_goals (have hXF : Ext No h h7 := (hX2.trans hX6).trans' hx7 (fun q hq e => by have := fF q e; have := hx1.size; omega)
                    have hX11 : Ext No h h11 := (hXF.trans hX10).trans' hx11 (fun q hq e => by have := fE q e; have := hx1.size; omega)
                    exact told_ready hin (hoF10.ext hx11 (fun q hq e => own_apart hoE10 hoF10 (by decide) q hq e)) hoE11 hL1 hM1 f1 (fun e he => by obtain ⟨k, a, i, b, e1, e2⟩ := f27 e he; have e3 := hX10.obj e2 nos; exact ⟨k, a, i, b, e1, hx11.obj e3 (fun q => own_ne hoE10 e3 (by decide) q)⟩) (ho10.ext hx11 (fun q hq e => own_apart hoE10 ho10 (by decide) q hq e)).rd hlm (hx11.obj hb8' (fun q => own_ne hoE10 hb8' (by decide) q)) p1 p2 hX11)
         skip))
    all_goals (first
      | (fail_if_success (refine Br.mk (i := 2) ?_))
      | (refine Br.mk (i := 2) ?_
         all_goals (refine WC.skip ?_)
         skip))
    all_goals (repeat' (with_reducible first | refine thenP_n ?_ | refine blockP_n ?_))
    all_goals (refine WC.seq ?_)
    all_goals (refine WC.region ?_)
    all_goals (refine WL.step (ok_move rfl) rfl rfl rfl ?_)
    all_goals (refine WL.step (ok_move rfl) rfl rfl rfl ?_)
    all_goals (refine WL.call (vs := [_, _]) rfl (fun a w => Try.call10 a w) rfl (room_any spec most (hr.ext0 hx1) hm) rfl rfl rfl ?_
               rintro _ h2 ⟨vF, vE, L, M, rfl, hoF, hoE, hL1, hM1, f1, f2, p1, p2, hx2, fF, fE⟩)
    all_goals (have hX2 := hx1.trans hx2
               have hb2 := hx2.obj hb1 nos
               have s1 := lt_of_some hb1
               have nF : ¬ vF.ownBlock = some b1 := fun e => by have := fF b1 e; omega)
    all_goals (refine WL.step (ok_move rfl) rfl rfl rfl ?_)
    all_goals (refine WL.step (ok_extract rfl rfl) rfl rfl rfl ?_)
    all_goals (refine WL.step (ok_extract rfl rfl) rfl rfl rfl ?_)
    all_goals (refine WL.step (ok_assign rfl) rfl rfl rfl ?_)
    all_goals (refine WL.step (ok_assign rfl) rfl rfl rfl ?_)
    all_goals (refine WL.nil ?_)
    all_goals (repeat' (with_reducible first | refine thenP_n ?_ | refine blockP_n ?_))
    all_goals (refine WC.sub [(2, _), (7, _), (10, _), (11, _)] ⟨rfl, rfl, rfl, rfl, trivial⟩ ?_)
    all_goals (refine WC.seq ?_)
    all_goals (refine WC.drawH (fun h' => Ext (fun q => vF.ownBlock = some q) h2 h') 8 8 rfl fol ?_)
    all_goals (refine WH.take 0 rfl (by kernel_rfl) (by kernel_rfl) (by kernel_rfl) (by kernel_rfl) rfl (by first | exact Ext.refl _ _ | assumption) (fun hq hC => ok_move rfl) rfl rfl rfl ?_)
    all_goals (refine WH.take 1 rfl (by kernel_rfl) (by kernel_rfl) (by kernel_rfl) (by kernel_rfl) rfl (by first | exact Ext.refl _ _ | assumption) (fun hq hC => ok_move rfl) rfl rfl rfl ?_)
    all_goals (refine WH.take 3 rfl (by kernel_rfl) (by kernel_rfl) (by kernel_rfl) (by kernel_rfl) rfl (by first | exact Ext.refl _ _ | assumption) (fun hq hC => ok_loadN (fun w => Try.isAgg24 w) (fun w => Try.sizeOf24 w) rfl rfl (by exact ((At.of_block hb2).ext hC nF))) rfl rfl rfl ?_)
    all_goals (refine WH.one 2 (by kernel_rfl) ?_)
    all_goals (refine Comes1.call (vs := [_]) rfl rfl (fun a w => Try.call40 a w) rfl (srv_any id) rfl rfl rfl ?_ (fun _ => by kernel_rfl)
               rintro _ h4 ⟨rfl, hx4⟩)
    all_goals (refine ⟨fun _ => hx4.mono fun _ _ e => e.elim, ?_⟩)
    all_goals (refine WH.one 4 (by kernel_rfl) ?_)
    all_goals (refine Comes1.call (vs := [_, _]) rfl rfl (fun a w => Try.call15 a w) rfl (parse_inj (srvL id) t l ((hl.ext0 hX2).ext0 hx4) hlm) rfl rfl rfl ?_ (fun _ => by kernel_rfl)
               rintro _ h5 ⟨v5, rfl, ho5, hx5, hf5⟩)
    all_goals (refine ⟨fun _ => (hx4.trans hx5).mono fun _ _ e => e.elim, ?_⟩)
    all_goals (have hX5 := hx4.trans hx5
               obtain ⟨A5, c5, rfl, _⟩ := ho5.slice)
    all_goals (refine WH.one 5 (by kernel_rfl) ?_)
    all_goals (refine Comes1.run rfl (okE_buildSlice (vs := [_]) (cs := [_, _, _, _, _, _, _, _, _, _]) (fun | [.agg ⟨[a0, a1, a2, a3, a4, a5, a6, a7, a8, a9]⟩] => [a0, a1, a2, a3, a4, a5, a6, a7, a8, a9] | _ => []) Try.underlying26 rfl rfl (by kernel_rfl)) rfl rfl rfl ?_ (fun _ => by kernel_rfl)
               rintro _ h6 ⟨b6, rfl, hg6, hb6, hx6⟩)
    all_goals (refine ⟨fun _ => (hX5.trans hx6).mono fun _ _ e => e.elim, ?_⟩)
    all_goals (have hX6 := hX5.trans hx6
               have hoF6 := hoF.ext hX6 (fun _ _ => nos)
               have hoE6 := hoE.ext hX6 (fun _ _ => nos)
               have ho6 := ho5.ext hx6 (fun _ _ => nos))
    all_goals (refine WH.one 6 (by kernel_rfl) ?_)
    all_goals (refine Comes1.run rfl (ok_append (sz := 10) (bytes := 160) rfl Try.underlying26 (show Try.prog.info? 34 = some Try.t34 by kernel_rfl) rfl rfl rfl rfl (by decide) rfl rfl hoF6 (rd_blk hb6 rfl) (by simp [Value.oneCell']) (by simp only [maxLen]; omega) (by omega)) rfl rfl rfl ?_ (fun _ => by kernel_rfl)
               rintro v7 h7 ⟨hoF7, hx7, hl7⟩)
    all_goals (refine ⟨fun _ => (hX6.mono fun _ _ e => e.elim).trans hx7, ?_⟩)
    all_goals (have hXF7 : Ext (fun q => vF.ownBlock = some q) h2 h7 := (hX6.mono fun _ _ e => e.elim).trans hx7
               have hoE7 := hoE6.ext hx7 (fun q hq e => own_apart hoF6 hoE6 (by decide) q hq e)
               have ho7 := ho6.ext hx7 (fun q hq e => own_apart hoF6 ho6 (by decide) q hq e)
               have f27 : ∀ e ∈ M, ∃ k a id b, e = hiM k a id b ∧ h7[b]? = some (.cells ⟨[In a, In id]⟩ 78 (0, 0)) := fun e he => by
                obtain ⟨k, a, i, b, e1, e2⟩ := f2 e he
                have e3 := hX6.obj e2 nos
                exact ⟨k, a, i, b, e1, hx7.obj e3 (fun q => own_ne hoF6 e3 (by decide) q)⟩)
    all_goals (refine WH.take 7 rfl (by kernel_rfl) (by kernel_rfl) (by kernel_rfl) (by kernel_rfl) rfl (by first | exact Ext.refl _ _ | assumption) (fun hq hC => ok_assign rfl) rfl rfl rfl ?_)
    all_goals (refine WH.done (by kernel_rfl) ?_)
    all_goals (repeat' (with_reducible first | refine thenP_n ?_ | refine blockP_n ?_))
    all_goals (refine WC.sub [(2, _), (10, _), (11, _)] ⟨rfl, rfl, rfl, trivial⟩ ?_)
    all_goals (refine WC.seq ?_)
    all_goals (refine WC.region ?_)
    all_goals (refine WL.step (ok_move rfl) rfl rfl rfl ?_)
    all_goals (refine WL.step (ok_move rfl) rfl rfl rfl ?_)
    all_goals (refine WL.step (ok_move rfl) rfl rfl rfl ?_)
    all_goals (refine WL.step (ok_buildF (vs := [_, _]) (cs := [_, _]) (fun | [a0, a1] => [a0, a1] | _ => []) rfl rfl (by kernel_rfl)) rfl rfl rfl ?_)
    all_goals (refine WL.stepR (okE_buildSlice (vs := [_]) (cs := [_, _]) (fun | [.agg ⟨[a0, a1]⟩] => [a0, a1] | _ => []) Try.underlying40 rfl rfl (by kernel_rfl)) rfl rfl rfl ?_
               rintro _ h8 ⟨b8, rfl, hg8, hb8, hx8⟩)
    all_goals (refine WL.call (vs := [_, _]) rfl (fun a w => Try.call41 a w) rfl (hidden_any 2 b8) rfl rfl rfl ?_
               rintro _ h9 ⟨rfl, hx9⟩)
    all_goals (refine WL.stepR (okE_buildSlice (vs := [_]) (cs := [_, _, _, _, _, _, _, _]) (fun | [.agg ⟨[a0, a1, a2, a3, a4, a5, a6, a7]⟩] => [a0, a1, a2, a3, a4, a5, a6, a7] | _ => []) Try.underlying27 rfl rfl (by kernel_rfl)) rfl rfl rfl ?_
               rintro _ h10 ⟨b10, rfl, hg10, hb10, hx10⟩)
    all_goals (have hX10 := (hx8.trans hx9).trans hx10
               have hoE10 := hoE7.ext hX10 (fun _ _ => nos)
               have hoF10 := hoF7.ext hX10 (fun _ _ => nos)
               have ho10 := ho7.ext hX10 (fun _ _ => nos)
               have hb8' := (hx9.trans hx10).obj hb8 nos)
    all_goals (refine WL.stepR (ok_append (sz := 8) (bytes := 144) rfl Try.underlying27 (show Try.prog.info? 51 = some Try.t51 by kernel_rfl) rfl rfl rfl rfl (by decide) rfl rfl hoE10 (rd_blk hb10 rfl) (by simp [Value.oneCell']) (by simp only [maxLen]; omega) (by omega)) rfl rfl rfl ?_
               rintro v11 h11 ⟨hoE11, hx11, hl11⟩)
    all_goals (refine WL.step (ok_assign rfl) rfl rfl rfl ?_)
    all_goals (refine WL.step (ok_assign rfl) rfl rfl rfl ?_)
    all_goals (refine WL.nil ?_)
    all_goals (repeat' (with_reducible first | refine thenP_n ?_ | refine blockP_n ?_))
    all_goals (refine WC.sub [(8, _), (9, _)] ⟨rfl, rfl, trivial⟩ ?_)
    all_goals (refine WC.ret ?_)
    all_goals (repeat' (with_reducible first | refine thenP_r ?_ | refine blockP_r ?_))
    all_goals (refine retP_2 _ _ ⟨rfl, rfl, trivial⟩ ?_)
    all_goals (have hXF : Ext No h h7 := (hX2.trans hX6).trans' hx7 (fun q hq e => by have := fF q e; have := hx1.size; omega)
               have hX11 : Ext No h h11 := (hXF.trans hX10).trans' hx11 (fun q hq e => by have := fE q e; have := hx1.size; omega)
               exact told_ready hin (hoF10.ext hx11 (fun q hq e => own_apart hoE10 hoF10 (by decide) q hq e)) hoE11 hL1 hM1 f1 (fun e he => by obtain ⟨k, a, i, b, e1, e2⟩ := f27 e he; have e3 := hX10.obj e2 nos; exact ⟨k, a, i, b, e1, hx11.obj e3 (fun q => own_ne hoE10 e3 (by decide) q)⟩) (ho10.ext hx11 (fun q hq e => own_apart hoE10 ho10 (by decide) q hq e)).rd hlm (hx11.obj hb8' (fun q => own_ne hoE10 hb8' (by decide) q)) p1 p2 hX11)
end Go.Proofs.Ytkejihockkhnoaa

