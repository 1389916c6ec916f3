/-
  MixPrefix holds: whether bytes begin others is what the document says.
-/
import Derived.Test.YtdjjpbbhcidaaaaGreatDoorPMixPrefix4
import Derived.Test.YtdjjpbbhcidaaaaGreatDoorCards
import Derived.Test.YtdjjpbbhcidaaaaGreatDoorTie
import Derived.SevenTiedAt
namespace Go.Proofs.YtdjjpbbhcidaaaaGreatDoor
open Go Go.RK

set_option maxHeartbeats 2000000 in
set_option maxRecDepth 100000 in
theorem prefix_long {h : Heap} {v w : Value} (a b : List UInt8) (ha : Rd h v 1 a.length (bys a)) (hb : Rd h w 1 b.length (bys b)) (hl : 2000 < a.length ∨ a.length ≤ 2000 ∧ 2000 < b.length) : CallsH Tryz.prog 5 ⟨[v, w]⟩ h fun u h' => u = .bool true ∧ Ext No h h' := by
  obtain ⟨A, c, rfl, _⟩ := id ha
  obtain ⟨B, d, rfl, _⟩ := id hb
  rcases hl with hl | ⟨hl, hm⟩
  all_goals
    refine calls [(0, _), (1, _)] Tryz.func5 rfl Tryz.ntmps5 rfl ⟨rfl, rfl, trivial⟩ ?_
    all_goals (refine WC.sr ?_)
    all_goals (refine Go ?_)
    all_goals (refine WC.seq ?_)
    all_goals (refine WC.sr ?_)
    all_goals (refine Go ?_)
    all_goals (refine goP 8 ?_ ?_ <;> first | exact ⟨⟩ | refine Hb.mk fun hb => ?_ | skip)
    all_goals (refine Gg ?_)
    all_goals (refine Go ?_)
    all_goals (refine Gs [(0, _), (1, _), (12, _)] ?_)
    all_goals (refine goC 1 2 ?_ ?_ <;> first | exact ⟨⟩ | refine Hb.mk fun hb => ?_ | skip)
    all_goals (first | (fail_if_success refine goB 1 ?_) | (
    refine goB 1 ?_
    all_goals (refine WC.sr ?_)
    all_goals (refine WL.call (vs := []) rfl (fun a w => Tryz.call17 a w) rfl (awake45) rfl rfl rfl ?_
               rintro _ h1 ⟨rfl, hx1⟩)
    all_goals (refine Go ?_)
    all_goals (refine Gs [(4, _)] ?_)
    all_goals (refine Gt ?_)
    all_goals (exact ⟨rfl, hx1⟩)
    skip))
    all_goals (first | (fail_if_success refine goB 2 ?_) | (
    refine goB 2 ?_
    all_goals (refine WC.skip ?_)
    skip))
    all_goals (refine Gn ?_)
    all_goals (refine WC.sr ?_)
    all_goals (refine Go ?_)
    all_goals (fail "no contract for call of remuda/mix.Prefix at 3.2")
    all_goals (refine Go ?_)
    all_goals (fail "no contract for call of remuda/remudaref45.Prefix at 3.5")
    all_goals (first | (refine WL.step (OkP.bool_t (by rfl) (ok_eqlB Tryz.underlying4 rfl rfl)) rfl rfl rfl ?_) | (refine WL.step (OkP.bool_f (by decide) (ok_eqlB Tryz.underlying4 rfl rfl)) rfl rfl rfl ?_) | (refine WL.step (ok_eqlB Tryz.underlying4 rfl rfl) rfl rfl rfl ?_))
    all_goals (refine Go ?_)
    all_goals (refine goP 21 ?_ ?_ <;> first | exact ⟨⟩ | refine Hb.mk fun hb => ?_ | skip)
    all_goals (refine Gg ?_)
    all_goals (first | (refine WL.pass rfl rfl rfl ?_) | (fail "no contract for call of bytes.Clone at 3.10"))
    all_goals (refine Gg ?_)
    all_goals (first
                 | (refine WL.pass rfl rfl rfl ?_)
                 | (refine WL.stepR (ok_append (sz := 1) (bytes := 1) rfl Tryz.underlying22 (show Tryz.prog.info? 5 = some Tryz.t5 by kernel_rfl) rfl rfl rfl rfl (by decide) rfl rfl (by assumption) (by first | assumption | exact rd_blk (by assumption) rfl) (by simp [Value.oneCell']) (by simp only [maxLen]; omega) (by omega)) rfl rfl rfl ?_
                    rintro v1 h1 ⟨ho1, hx1, hl1⟩))
    all_goals (first | (refine WL.pass rfl rfl rfl ?_) | (fail "no contract for call of remuda/mix.Prefix at 3.13"))
    all_goals (refine Go ?_)
    all_goals (refine goP 29 ?_ ?_ <;> first | exact ⟨⟩ | refine Hb.mk fun hb => ?_ | skip)
    all_goals (refine Gg ?_)
    all_goals (first | (refine WL.pass rfl rfl rfl ?_) | (fail "no contract for call of remuda/mix.Prefix at 3.18"))
    all_goals (first | (refine WL.pass rfl rfl rfl ?_) | (refine WL.step (ok_not rfl) rfl rfl rfl ?_))
    all_goals (first | (refine WL.pass rfl rfl rfl ?_) | (refine WL.step (ok_move rfl) rfl rfl rfl ?_))
    all_goals (refine goP 34 ?_ ?_ <;> first | exact ⟨⟩ | refine Hb.mk fun hb => ?_ | skip)
    all_goals (refine Gg ?_)
    all_goals (first | (refine WL.pass rfl rfl rfl ?_) | (fail "no contract for call of remuda/mix.Prefix at 3.23"))
    all_goals (first | (refine WL.pass rfl rfl rfl ?_) | (refine WL.step (ok_not rfl) rfl rfl rfl ?_))
    all_goals (first | (refine WL.pass rfl rfl rfl ?_) | (first | (refine WL.step (ok_pick_t rfl rfl) rfl rfl rfl ?_) | (refine WL.step (ok_pick_f rfl rfl) rfl rfl rfl ?_)))
    all_goals (first | (refine WL.pass rfl rfl rfl ?_) | (refine WL.step (ok_move rfl) rfl rfl rfl ?_))
    all_goals (refine goP 40 ?_ ?_ <;> first | exact ⟨⟩ | refine Hb.mk fun hb => ?_ | skip)
    all_goals (refine Gg ?_)
    all_goals (first | (refine WL.pass rfl rfl rfl ?_) | (fail "no contract for call of bytes.Equal at 3.29"))
    all_goals (refine Gg ?_)
    all_goals (refine Go ?_)
    all_goals (refine goP 46 ?_ ?_ <;> first | exact ⟨⟩ | refine Hb.mk fun hb => ?_ | skip)
    all_goals (first | (refine WL.pass rfl rfl rfl ?_) | (fail "no contract for call of remuda/remudalaw45.awake at 3.33"))
    all_goals (refine Go ?_)
    all_goals (refine Gs [(4, _)] ?_)
    all_goals (refine Gt ?_)
    all_goals (exact ⟨rfl, hx1⟩)
set_option maxHeartbeats 2000000 in
set_option maxRecDepth 100000 in
theorem prefix_few {h : Heap} {v w : Value} (a b : List UInt8) (ha : Rd h v 1 a.length (bys a)) (hb : Rd h w 1 b.length (bys b)) (hl : a.length ≤ 2000 ∧ b.length ≤ 2000) : CallsH Tryz.prog 5 ⟨[v, w]⟩ h fun u h' => u = .bool true ∧ Ext No h h' := by
  have k1 := fun (h' : Heap) (x : Ext No h h') => mix_pre a b (ha.ext0 x) (hb.ext0 x)
  have k2 := fun (h' : Heap) (x : Ext No h h') => ref_pre a b (ha.ext0 x) (hb.ext0 x)
  have k3 := fun (h' : Heap) (x : Ext No h h') => mix_pre b a (hb.ext0 x) (ha.ext0 x)
  have k4 := fun (h' : Heap) (x : Ext No h h') => eq_bytes a b (ha.ext0 x) (hb.ext0 x)
  have k5 := fun (h' : Heap) (u : Value) (x : Ext No h h') (hu : Rd h' u 1 (a ++ b).length (bys (a ++ b))) => mix_pre a (a ++ b) (ha.ext0 x) hu
  rw [show decide (a <+: a ++ b) = true from decide_eq_true (List.prefix_append a b)] at k5
  have hab : a <+: b → b <+: a → a = b := fun x y => x.eq_of_length (Nat.le_antisymm x.length_le y.length_le)
  obtain ⟨A, c, rfl, _⟩ := id ha
  obtain ⟨B, d, rfl, _⟩ := id hb
  rcases (show (decide (a <+: b) = false) ∨ (decide (a <+: b) = true ∧ decide (b <+: a) = false) ∨ (decide (a <+: b) = true ∧ decide (b <+: a) = true ∧ decide (a = b) = true) by
    by_cases e1 : a <+: b
    · by_cases e2 : b <+: a
      · exact .inr (.inr ⟨decide_eq_true e1, decide_eq_true e2, decide_eq_true (hab e1 e2)⟩)
      · exact .inr (.inl ⟨decide_eq_true e1, decide_eq_false e2⟩)
    · exact .inl (decide_eq_false e1)) with e1 | ⟨e1, e2⟩ | ⟨e1, e2, e3⟩
  all_goals
    (try rw [e1] at k1 k2)
    (try rw [e2] at k3)
    (try rw [e3] at k4)
    refine calls [(0, _), (1, _)] Tryz.func5 rfl Tryz.ntmps5 rfl ⟨rfl, rfl, trivial⟩ ?_
    all_goals (refine WC.sr ?_)
    all_goals (refine Go ?_)
    all_goals (refine WC.seq ?_)
    all_goals (refine WC.sr ?_)
    all_goals (refine Go ?_)
    all_goals (refine goP 8 ?_ ?_ <;> first | exact ⟨⟩ | refine Hb.mk fun hb => ?_ | skip)
    all_goals (refine Gg ?_)
    all_goals (refine Go ?_)
    all_goals (refine Gs [(0, _), (1, _), (12, _)] ?_)
    all_goals (refine goC 1 2 ?_ ?_ <;> first | exact ⟨⟩ | refine Hb.mk fun hb => ?_ | skip)
    all_goals (first | (fail_if_success refine goB 2 ?_) | (
    refine goB 2 ?_
    all_goals (refine WC.skip ?_)
    skip))
    all_goals (refine Gn ?_)
    all_goals (refine WC.sr ?_)
    all_goals (refine Go ?_)
    all_goals (refine WL.call (vs := [_, _]) rfl (fun a w => Tryz.call18 a w) rfl (k1 _ (.refl _ _)) rfl rfl rfl ?_
               rintro _ hq ⟨rfl, hz⟩
               replace hz := hz.symm
               subst hz)
    all_goals (refine Go ?_)
    all_goals (refine WL.call (vs := [_, _]) rfl (fun a w => Tryz.call19 a w) rfl (k2 _ (.refl _ _)) rfl rfl rfl ?_
               rintro _ hq ⟨rfl, hz⟩
               replace hz := hz.symm
               subst hz)
    all_goals (first | (refine WL.step (OkP.bool_t (by rfl) (ok_eqlB Tryz.underlying4 rfl rfl)) rfl rfl rfl ?_) | (refine WL.step (OkP.bool_f (by decide) (ok_eqlB Tryz.underlying4 rfl rfl)) rfl rfl rfl ?_) | (refine WL.step (ok_eqlB Tryz.underlying4 rfl rfl) rfl rfl rfl ?_))
    all_goals (refine Go ?_)
    all_goals (refine goP 21 ?_ ?_ <;> first | exact ⟨⟩ | refine Hb.mk fun hb => ?_ | skip)
    all_goals (refine Gg ?_)
    all_goals (first
                 | (refine WL.pass rfl rfl rfl ?_)
                 | (refine WL.call (vs := [_]) rfl (fun a w => Tryz.call20 a w) rfl (clone_bytV a ha (by omega)) rfl rfl rfl ?_
                    rintro v1 h1 ⟨ho1, hx1, hf1⟩))
    all_goals (refine Gg ?_)
    all_goals (first
                 | (refine WL.pass rfl rfl rfl ?_)
                 | (refine WL.stepR (ok_append (sz := 1) (bytes := 1) rfl Tryz.underlying22 (show Tryz.prog.info? 5 = some Tryz.t5 by kernel_rfl) rfl rfl rfl rfl (by decide) rfl rfl ho1 (hb.ext0 hx1) (by intro c hc; obtain ⟨b, _, rfl⟩ := List.mem_map.1 hc; rfl) (by unfold maxLen; omega) (by omega)) rfl rfl rfl ?_
                    rintro v2 h2 ⟨ho2, hx2, hl2⟩
                    have X2 : Ext No h h2 := hx1.trans' hx2 (fun q hq e => by have := hf1 q e; omega)
                    have hr2 : Rd h2 v2 1 (a ++ b).length (bys (a ++ b)) := by rw [List.length_append, bys_app]; exact ho2.rd))
    all_goals (first
                 | (refine WL.pass rfl rfl rfl ?_)
                 | (refine WL.call (vs := [_, _]) rfl (fun a w => Tryz.call18 a w) rfl (k5 _ _ X2 hr2) rfl rfl rfl ?_
                    rintro _ hq ⟨rfl, hz⟩
                    replace hz := hz.symm
                    subst hz))
    all_goals (refine Go ?_)
    all_goals (refine goP 29 ?_ ?_ <;> first | exact ⟨⟩ | refine Hb.mk fun hb => ?_ | skip)
    all_goals (refine Gg ?_)
    all_goals (first
                 | (refine WL.pass rfl rfl rfl ?_)
                 | (refine WL.call (vs := [_, _]) rfl (fun a w => Tryz.call18 a w) rfl (k1 _ X2) rfl rfl rfl ?_
                    rintro _ hq ⟨rfl, hz⟩
                    replace hz := hz.symm
                    subst hz))
    all_goals (first | (refine WL.pass rfl rfl rfl ?_) | (refine WL.step (ok_not rfl) rfl rfl rfl ?_))
    all_goals (first | (refine WL.pass rfl rfl rfl ?_) | (refine WL.step (ok_move rfl) rfl rfl rfl ?_))
    all_goals (refine goP 34 ?_ ?_ <;> first | exact ⟨⟩ | refine Hb.mk fun hb => ?_ | skip)
    all_goals (refine Gg ?_)
    all_goals (first
                 | (refine WL.pass rfl rfl rfl ?_)
                 | (refine WL.call (vs := [_, _]) rfl (fun a w => Tryz.call18 a w) rfl (k3 _ X2) rfl rfl rfl ?_
                    rintro _ hq ⟨rfl, hz⟩
                    replace hz := hz.symm
                    subst hz))
    all_goals (first | (refine WL.pass rfl rfl rfl ?_) | (refine WL.step (ok_not rfl) rfl rfl rfl ?_))
    all_goals (first | (refine WL.pass rfl rfl rfl ?_) | (first | (refine WL.step (ok_pick_t rfl rfl) rfl rfl rfl ?_) | (refine WL.step (ok_pick_f rfl rfl) rfl rfl rfl ?_)))
    all_goals (first | (refine WL.pass rfl rfl rfl ?_) | (refine WL.step (ok_move rfl) rfl rfl rfl ?_))
    all_goals (refine goP 40 ?_ ?_ <;> first | exact ⟨⟩ | refine Hb.mk fun hb => ?_ | skip)
    all_goals (refine Gg ?_)
    all_goals (first
                 | (refine WL.pass rfl rfl rfl ?_)
                 | (refine WL.call (vs := [_, _]) rfl (fun a w => Tryz.call21 a w) rfl (k4 _ X2) rfl rfl rfl ?_
                    rintro _ hq ⟨rfl, hz⟩
                    replace hz := hz.symm
                    subst hz))
    all_goals (refine Gg ?_)
    all_goals (refine Go ?_)
    all_goals (refine goP 46 ?_ ?_ <;> first | exact ⟨⟩ | refine Hb.mk fun hb => ?_ | skip)
    all_goals (first
                 | (refine WL.pass rfl rfl rfl ?_)
                 | (refine WL.call (vs := []) rfl (fun a w => Tryz.call17 a w) rfl (awake45) rfl rfl rfl ?_
                    rintro _ h3 ⟨rfl, hx3⟩))
    all_goals (refine Go ?_)
    all_goals (refine Gs [(4, _)] ?_)
    all_goals (refine Gt ?_)
    all_goals (exact ⟨rfl, X2.trans hx3⟩)
theorem prefix_all {h : Heap} {v w : Value} (a b : List UInt8) (ha : Rd h v 1 a.length (bys a)) (hb : Rd h w 1 b.length (bys b)) : CallsH Tryz.prog 5 ⟨[v, w]⟩ h fun u h' => u = .bool true ∧ Ext No h h' := by
  by_cases h1 : a.length ≤ 2000
  · by_cases h2 : b.length ≤ 2000
    · exact prefix_few a b ha hb ⟨h1, h2⟩
    · exact prefix_long a b ha hb (.inr ⟨h1, by omega⟩)
  · exact prefix_long a b ha hb (.inl (by omega))
namespace LMixPrefix
open Go.ChangeShapes Go.WideShapes Go.ChangeAt Go.RowKit
open Go.ChangeMaps (open_string shut_string)
theorem own : ownKnob Tryz.prog.godebug = none := by kernel_rfl
theorem laidOut : laidOutB Tryz.prog = true := by kernel_rfl
set_option maxRecDepth 100000 in
theorem lifted (os : Os) (started : os.Started) (H : Type) (enc : TypeId × Value → H) :
    ReturnsInHanded {} Tryz.checked os 5 .any (fun w args => (Rows.mixPrefixSpec.pre enc Tryz.prog Tryz.f5 [] false w args ∧ laidMetH Tryz.prog Rows.mixPrefixRow.laid w) ∧ sizedMet enc Tryz.prog Tryz.f5 (OpenSpec.ofChange Rows.mixPrefixSpec) false w args) (Rows.mixPrefixSpec.post enc Tryz.prog Tryz.f5 false true false false) := by
  refine returnsInHanded_of_change_and (C := Tryz.checked) (X := fun w _ => laidMetH Tryz.prog Rows.mixPrefixRow.laid w) (fun _ _ _ hh h => h.of_heap hh) own started (by kernel_rfl) Tryz.func5
    (ChangeSpec.witness_at (enc := enc) (C := Tryz.checked) (os := os) (X := fun w _ => laidMetH Tryz.prog Rows.mixPrefixRow.laid w) false (laidWorld os) #[.slice none 0 0, .slice none 0 0] 8 (laidWorld_os os) (by kernel_rfl) (by kernel_rfl) (by kernel_rfl) (by kernel_rfl) (by kernel_rfl) (laidWorld_met os _)) ?_
  intro W base args ds gs before hval0 hW hcnd hsz0 hL _
  have hval : ∀ (j : Nat) t v, Tryz.f5.params[j]? = some t → args[j]? = some v → Value.okWide Tryz.prog W .any base t v := hval0
  have hsz := hsz0
  rw [Tryz.params5] at hsz
  clear hsz0
  have hW' := hW
  obtain ⟨p, q, hA0, hV, rfl, hfz, hnd⟩ := hW
  have hA : DataW.TrodAll enc Tryz.prog W 0 (fun _ => true) true Tryz.f5.params.toList args.toList ds p := hA0
  rw [Tryz.params5] at hA hval
  obtain ⟨v0, vs0, d0, ds0, p0, q0, hargs, rfl, rfl, h0, r0⟩ := trodAll_cons hA
  obtain ⟨v1, vs1, d1, ds1, p1, q1, rfl, rfl, rfl, h1, r1⟩ := trodAll_cons r0
  obtain ⟨rfl, rfl, rfl⟩ := trodAll_nil r1
  obtain rfl : args = #[v0, v1] := by cases args; simp_all
  obtain ⟨rfl, rfl⟩ := trodVars_none hV
  have hz0 : ∀ n ∈ d0.weights Tryz.prog 22, n ≤ reachBytes := fun n hn => by simpa using List.all_eq_true.1 hsz n (DataW.weights_mem_each (j := 0) rfl rfl n hn)
  have k0 := h0
  have lt0 : ∀ x ∈ p0, x.block < W.heap.size := by obtain ⟨m, hm⟩ := k0; exact DataW.trod_lt m _ _ _ hm
  obtain ⟨A0, n0, c0, rfl⟩ := okWide_slice Tryz.underlying22 (hval 0 22 v0 rfl rfl)
  obtain ⟨fu0, hf0⟩ := h0
  obtain ⟨⟨v0, l0⟩, e0, w0⟩ := opens_bytes (w := W) Tryz.underlying22 (by kernel_rfl) (by kernel_rfl) Tryz.underlying5 _ _ _ _ _ _ _ _ hf0 hz0
  obtain rfl : .slice A0 n0 c0 = v0 := by simpa [Value.cells] using e0
  have hz1 : ∀ n ∈ d1.weights Tryz.prog 22, n ≤ reachBytes := fun n hn => by simpa using List.all_eq_true.1 hsz n (DataW.weights_mem_each (j := 1) rfl rfl n hn)
  have k1 := h1
  have lt1 : ∀ x ∈ p1, x.block < W.heap.size := by obtain ⟨m, hm⟩ := k1; exact DataW.trod_lt m _ _ _ hm
  obtain ⟨A1, n1, c1, rfl⟩ := okWide_slice Tryz.underlying22 (hval 1 22 v1 rfl rfl)
  obtain ⟨fu1, hf1⟩ := h1
  obtain ⟨⟨v1, l1⟩, e1, w1⟩ := opens_bytes (w := W) Tryz.underlying22 (by kernel_rfl) (by kernel_rfl) Tryz.underlying5 _ _ _ _ _ _ _ _ hf1 hz1
  obtain rfl : .slice A1 n1 c1 = v1 := by simpa [Value.cells] using e1
  clear hA0 hval0
  refine (law_calls (prefix_all l0 l1 w0.1 w1.1)).mono fun e W' ⟨he, bel⟩ => ?_
  subst he
  exact ⟨_, rfl, _, _, _, [], _, [], hW', trodAll_mk1 (shut_bool Tryz.underlying4 _), (trodAll_cons_mk (Below.trod laidOut (by kernel_rfl) (of_decide_eq_true (by kernel_rfl)) k0 bel lt0) (trodAll_cons_mk (Below.trod laidOut (by kernel_rfl) (of_decide_eq_true (by kernel_rfl)) k1 bel lt1) trodAll_mk0)), rfl, bel.frame _, fun h => by cases h⟩
theorem over : Rows.mixPrefixRow.holds Tryz.pinned (OpenSpec.ofChange Rows.mixPrefixSpec) :=
  OpenClaim.holds_of_wide 5 Tryz.f5 rfl rfl rfl rfl rfl rfl rfl ⟨rfl, rfl, rfl, rfl, rfl⟩ rfl rfl rfl rfl rfl (by kernel_rfl) Tryz.func5 (by kernel_rfl)
    (of_decide_eq_true (by kernel_rfl)) (by unfold Func.isWrapper; first | (rw [if_pos (by decide +kernel)]; kernel_rfl) | (rw [if_neg (by decide +kernel)]; exact ⟨rfl, rfl⟩))
    (fun os started H enc _ => lifted os started H enc)
end LMixPrefix
theorem mixPrefix_card : Rows.MixPrefixCardSaid :=
  Claim7.holds_tied_plain_at .later [] Rows.mixPrefixCard.laidKinds true Rows.mixPrefixCard.stood.harness true
    LMixPrefix.over (fun _ h => by cases h) (by kernel_rfl) (fun _ h => by cases h) mixPrefix_row_tie rfl ⟨rfl, rfl⟩ (by kernel_rfl) rfl
    (fun f fn hf hfn => by
      obtain rfl : f = 5 := Option.some.inj ((show Tryz.prog.funcNamed Rows.mixPrefixRow.func = some 5 by kernel_rfl).symm.trans hf) |>.symm
      obtain rfl : fn = Tryz.f5 := (Option.some.inj (Tryz.func5.symm.trans hfn)).symm
      exact ⟨by kernel_rfl, fun j t ht => by
        rw [Tryz.params5] at ht
        have hm : t ∈ [22, 22] := by simpa using Array.mem_of_getElem? ht
        have hall : ([22, 22].all fun u => !Tryz.prog.wantsStandIn u) = true := by kernel_rfl
        exact (show Tryz.prog.wantsStandIn t = false by simpa using List.all_eq_true.1 hall t hm)⟩)
    (by kernel_rfl)
end Go.Proofs.YtdjjpbbhcidaaaaGreatDoor

