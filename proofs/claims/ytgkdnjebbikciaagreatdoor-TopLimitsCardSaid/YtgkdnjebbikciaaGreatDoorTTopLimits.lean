/-
  TopLimits holds: who sends more than is allowed, or what is not served, is told that by one fault, and is closed; others go on.
-/
import Derived.Test.YtgkdnjebbikciaaGreatDoorPTopLimits6
import Derived.Test.YtgkdnjebbikciaaGreatDoorSTopLimitsClo
import Derived.Test.YtgkdnjebbikciaaGreatDoorCards
import Derived.Test.YtgkdnjebbikciaaGreatDoorTieT
import Derived.SevenTiedAt
import Derived.Test.YtgkdnjebbikciaaGreatDoorFTopLimits1
import Derived.Test.YtgkdnjebbikciaaGreatDoorFTopLimits2
import Derived.Test.YtgkdnjebbikciaaGreatDoorFTopLimits3
namespace Go.Proofs.YtgkdnjebbikciaaGreatDoor
open Go Go.RK

namespace LTopLimits
open Go.ChangeShapes Go.WideShapes Go.ChangeAt Go.RowKit
open Go.ChangeMaps (open_string shut_string)
set_option maxRecDepth 100000 in
theorem lifted (os : Os) (started : os.Started) (H : Type) (enc : TypeId × Value → H) :
    ReturnsInHanded {} Tryz.checked os 3 .any (fun w args => (Rows.topLimitsSpec.pre enc Tryz.prog Tryz.f3 [] false w args ∧ laidMetH Tryz.prog Rows.topLimitsRow.laid w) ∧ sizedMet enc Tryz.prog Tryz.f3 (OpenSpec.ofChange Rows.topLimitsSpec) false w args) (Rows.topLimitsSpec.post enc Tryz.prog Tryz.f3 false true false false) := by
  refine returnsInHanded_of_change_and (C := Tryz.checked) (X := fun w _ => laidMetH Tryz.prog Rows.topLimitsRow.laid w) (fun _ _ _ hh h => h.of_heap hh) own started wi0 Tryz.func3
    (ChangeSpec.witness_at (enc := enc) (C := Tryz.checked) (os := os) (X := fun w _ => laidMetH Tryz.prog Rows.topLimitsRow.laid w) false (laidWorld os) #[.int .u8 0, .int .u16 0] 8 (laidWorld_os os) (wiA os) (wiB os) (wiC os) (wiD os H enc) (wiE os H enc) (laidWorld_met os _)) ?_
  intro W base args ds gs before hval0 hW hcnd hsz0 hL _
  have hval : ∀ (j : Nat) t v, Tryz.f3.params[j]? = some t → args[j]? = some v → Value.okWide Tryz.prog W .any base t v := hval0
  have hsz := hsz0
  rw [Tryz.params3] at hsz
  clear hsz0
  have hW' := hW
  obtain ⟨p, q, hA0, hV, rfl, hfz, hnd⟩ := hW
  have hA : DataW.TrodAll enc Tryz.prog W 0 (fun _ => true) true Tryz.f3.params.toList args.toList ds p := hA0
  rw [Tryz.params3] at hA hval
  obtain ⟨v0, vs0, d0, ds0, p0, q0, hargs, rfl, rfl, h0, r0⟩ := trodAll_cons hA
  obtain ⟨v1, vs1, d1, ds1, p1, q1, rfl, rfl, rfl, h1, r1⟩ := trodAll_cons r0
  obtain ⟨rfl, rfl, rfl⟩ := trodAll_nil r1
  obtain rfl : args = #[v0, v1] := by cases args; simp_all
  obtain ⟨rfl, rfl⟩ := trodVars_none hV
  have hz0 : ∀ n ∈ d0.weights Tryz.prog 5, n ≤ reachBytes := fun n hn => by simpa using List.all_eq_true.1 hsz n (DataW.weights_mem_each (j := 0) rfl rfl n hn)
  have k0 := h0
  have lt0 : ∀ x ∈ p0, x.block < W.heap.size := by obtain ⟨m, hm⟩ := k0; exact DataW.trod_lt m _ _ _ hm
  obtain ⟨a0, rfl, e0, _, w0⟩ := open_int Tryz.underlying5 (hval 0 5 v0 rfl rfl) h0
  have hz1 : ∀ n ∈ d1.weights Tryz.prog 22, n ≤ reachBytes := fun n hn => by simpa using List.all_eq_true.1 hsz n (DataW.weights_mem_each (j := 1) rfl rfl n hn)
  have k1 := h1
  have lt1 : ∀ x ∈ p1, x.block < W.heap.size := by obtain ⟨m, hm⟩ := k1; exact DataW.trod_lt m _ _ _ hm
  obtain ⟨a1, rfl, e1, _, w1⟩ := open_int Tryz.underlying22 (hval 1 22 v1 rfl rfl) h1
  clear hA0 hval0
  refine (law_calls (topLimitsI a0 a1 w0 w1)).mono fun e W' ⟨he, bel⟩ => ?_
  subst he
  exact ⟨_, rfl, _, _, _, [], _, [], hW', trodAll_mk1 (shut_bool Tryz.underlying4 _), (trodAll_cons_mk (Below.trod laidOut rr0 ty0 k0 bel lt0) (trodAll_cons_mk (Below.trod laidOut rr1 ty1 k1 bel lt1) trodAll_mk0)), rfl, bel.frame _, fun h => by cases h⟩
theorem cl1 : (Rows.topLimitsRow.inPlace == Tryz.prog.inPlace 3) = true := by rw [inPlaceOk]; kernel_rfl
theorem cl2 : (Rows.topLimitsRow.unfollowed == Tryz.prog.unfollowed 3) = true := by rw [unfOk]; rfl
theorem cl3 : (Rows.topLimitsRow.recurses == Tryz.prog.recurses 3) = true := by rw [recOk]; rfl
theorem cl4 : (Rows.topLimitsRow.named == Tryz.prog.varsNamed 3) = true := by rw [varsOk]; kernel_rfl
theorem closed : joinedFacts Tryz.prog 3 Tryz.f3 Rows.topLimitsSpec Rows.topLimitsRow = true := by
  unfold joinedFacts
  rw [cl0, cl1, cl2, cl3, cl4, cl5, cl6, cl7]
  kernel_rfl
theorem over : Rows.topLimitsRow.holds Tryz.pinned (OpenSpec.ofChange Rows.topLimitsSpec) :=
  OpenClaim.holds_of_wide 3 Tryz.f3 rfl rfl rfl rfl rfl rfl rfl ⟨rfl, rfl, rfl, rfl, rfl⟩ rfl rfl rfl rfl rfl (by kernel_rfl) Tryz.func3 closed
    (of_decide_eq_true (by kernel_rfl)) (by unfold Func.isWrapper; first | (rw [if_pos (by decide +kernel)]; kernel_rfl) | (rw [if_neg (by decide +kernel)]; exact ⟨rfl, rfl⟩))
    (fun os started H enc _ => lifted os started H enc)
end LTopLimits
theorem topLimits_cdg : false = Rows.topLimitsRow.goesBy Tryz.prog := goesBy_none rfl (by kernel_rfl)
theorem topLimits_card : Rows.TopLimitsCardSaid :=
  Claim7.holds_tied_plain_at .later [] Rows.topLimitsCard.laidKinds true Rows.topLimitsCard.stood.harness true
    LTopLimits.over (fun _ h => by cases h) topLimits_cdw (fun _ h => by cases h) topLimits_row_tie rfl ⟨rfl, rfl⟩ topLimits_cdm rfl
    (fun f fn hf hfn => by
      obtain rfl : f = 3 := Option.some.inj (topLimits_cdf.symm.trans hf) |>.symm
      obtain rfl : fn = Tryz.f3 := (Option.some.inj (Tryz.func3.symm.trans hfn)).symm
      exact ⟨topLimits_cdk, fun j t ht => by
        rw [Tryz.params3] at ht
        have hm : t ∈ [5, 22] := by simpa using Array.mem_of_getElem? ht
        exact (show Tryz.prog.wantsStandIn t = false by simpa using List.all_eq_true.1 topLimits_cda t hm)⟩)
    topLimits_cdg
end Go.Proofs.YtgkdnjebbikciaaGreatDoor

