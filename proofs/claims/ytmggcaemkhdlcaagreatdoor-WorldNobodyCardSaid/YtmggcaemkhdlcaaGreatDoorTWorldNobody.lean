/-
  WorldNobody holds: a world that no call made does nothing.
-/
import Derived.Test.YtmggcaemkhdlcaaGreatDoorPWorldNobody3
import Derived.Test.YtmggcaemkhdlcaaGreatDoorCards
import Derived.Test.YtmggcaemkhdlcaaGreatDoorTieW
import Derived.SevenTiedAt
import Derived.Test.YtmggcaemkhdlcaaGreatDoorFWorldNobody1
import Derived.Test.YtmggcaemkhdlcaaGreatDoorFWorldNobody2
import Derived.Test.YtmggcaemkhdlcaaGreatDoorFWorldNobody3
namespace Go.Proofs.YtmggcaemkhdlcaaGreatDoor
open Go Go.RK

namespace LWorldNobody
open Go.ChangeShapes Go.WideShapes Go.ChangeAt Go.RowKit
open Go.ChangeMaps (open_string shut_string)
set_option maxRecDepth 100000 in
theorem lifted (os : Os) (started : os.Started) (H : Type) (enc : TypeId × Value → H) :
    ReturnsInHanded {} Tryz.checked os 3 .any (fun w args => (Rows.worldNobodySpec.pre enc Tryz.prog Tryz.f3 [] false w args ∧ laidMetH Tryz.prog Rows.worldNobodyRow.laid w) ∧ sizedMet enc Tryz.prog Tryz.f3 (OpenSpec.ofChange Rows.worldNobodySpec) false w args) (Rows.worldNobodySpec.post enc Tryz.prog Tryz.f3 false true false false) := by
  refine returnsInHanded_of_change_and (C := Tryz.checked) (X := fun w _ => laidMetH Tryz.prog Rows.worldNobodyRow.laid w) (fun _ _ _ hh h => h.of_heap hh) own started wi0 Tryz.func3
    (ChangeSpec.witness_at (enc := enc) (C := Tryz.checked) (os := os) (X := fun w _ => laidMetH Tryz.prog Rows.worldNobodyRow.laid w) false (laidWorld os) #[.agg #[(.int .i64 0), (.int .i64 0), (.int .i64 0), (.slice none 0 0)], .int .i64 0] 8 (laidWorld_os os) (wiA os) (wiB os) (wiC os) (wiD os H enc) (wiE os H enc) (laidWorld_met os _)) ?_
  intro W base args ds gs before hval0 hW hcnd hsz0 hL _
  have hval : ∀ (j : Nat) t v, Tryz.f3.params[j]? = some t → args[j]? = some v → Value.okWide Tryz.prog W .any base t v := hval0
  have hsz := hsz0
  rw [Tryz.params3] at hsz
  clear hsz0
  have hW' := hW
  obtain ⟨p, q, hA0, hV, rfl, hfz, hnd⟩ := hW
  have hA : DataW.TrodAll enc Tryz.prog W 0 (fun _ => true) true Tryz.f3.params.toList args.toList ds p := hA0
  rw [Tryz.params3] at hA hval
  obtain ⟨v0, vs0, d0, ds0, p0, q0, hargs, rfl, rfl, h0, r0⟩ := trodAll_cons hA
  obtain ⟨v1, vs1, d1, ds1, p1, q1, rfl, rfl, rfl, h1, r1⟩ := trodAll_cons r0
  obtain ⟨rfl, rfl, rfl⟩ := trodAll_nil r1
  obtain rfl : args = #[v0, v1] := by cases args; simp_all
  obtain ⟨rfl, rfl⟩ := trodVars_none hV
  have hz0 : ∀ n ∈ d0.weights Tryz.prog 24, n ≤ reachBytes := fun n hn => by simpa using List.all_eq_true.1 hsz n (DataW.weights_mem_each (j := 0) rfl rfl n hn)
  have k0 := h0
  have lt0 : ∀ x ∈ p0, x.block < W.heap.size := by obtain ⟨m, hm⟩ := k0; exact DataW.trod_lt m _ _ _ hm
  obtain ⟨cs0, rfl, hsz0⟩ := okWide_struct Tryz.underlying24 (hval 0 24 v0 rfl rfl)
  obtain ⟨fu0, hf0⟩ := h0
  obtain ⟨a0, e0, w0⟩ := opens_evt W _ _ _ _ _ _ _ _ hf0 hz0
  obtain ⟨cs0⟩ := cs0
  obtain rfl := (show cs0 = _ from e0)
  have hz1 : ∀ n ∈ d1.weights Tryz.prog 3, n ≤ reachBytes := fun n hn => by simpa using List.all_eq_true.1 hsz n (DataW.weights_mem_each (j := 1) rfl rfl n hn)
  have k1 := h1
  have lt1 : ∀ x ∈ p1, x.block < W.heap.size := by obtain ⟨m, hm⟩ := k1; exact DataW.trod_lt m _ _ _ hm
  obtain ⟨a1, rfl, e1, _, w1⟩ := open_int Tryz.underlying3 (hval 1 3 v1 rfl rfl) h1
  clear hA0 hval0
  refine (law_calls (nobody43 a0 a1 w0)).mono fun e W' ⟨he, bel⟩ => ?_
  subst he
  exact ⟨_, rfl, _, _, _, [], _, [], hW', trodAll_mk1 (shut_bool Tryz.underlying4 _), (trodAll_cons_mk (Below.trod laidOut rr0 ty0 k0 bel lt0) (trodAll_cons_mk (Below.trod laidOut rr1 ty1 k1 bel lt1) trodAll_mk0)), rfl, bel.frame _, fun h => by cases h⟩
theorem closed : joinedFacts Tryz.prog 3 Tryz.f3 Rows.worldNobodySpec Rows.worldNobodyRow = true := by
  unfold joinedFacts
  rw [cl0, cl1, cl2, cl3, cl4, cl5, cl6, cl7]
  kernel_rfl
theorem over : Rows.worldNobodyRow.holds Tryz.pinned (OpenSpec.ofChange Rows.worldNobodySpec) :=
  OpenClaim.holds_of_wide 3 Tryz.f3 rfl rfl rfl rfl rfl rfl rfl ⟨rfl, rfl, rfl, rfl, rfl⟩ rfl rfl rfl rfl rfl (by kernel_rfl) Tryz.func3 closed
    (of_decide_eq_true (by kernel_rfl)) (by unfold Func.isWrapper; first | (rw [if_pos (by decide +kernel)]; kernel_rfl) | (rw [if_neg (by decide +kernel)]; exact ⟨rfl, rfl⟩))
    (fun os started H enc _ => lifted os started H enc)
end LWorldNobody
theorem worldNobody_cdg : false = Rows.worldNobodyRow.goesBy Tryz.prog := goesBy_none rfl (by kernel_rfl)
theorem worldNobody_card : Rows.WorldNobodyCardSaid :=
  Claim7.holds_tied_plain_at .later [] Rows.worldNobodyCard.laidKinds true Rows.worldNobodyCard.stood.harness true
    LWorldNobody.over (fun _ h => by cases h) worldNobody_cdw (fun _ h => by cases h) worldNobody_row_tie rfl ⟨rfl, rfl⟩ worldNobody_cdm rfl
    (fun f fn hf hfn => by
      obtain rfl : f = 3 := Option.some.inj (worldNobody_cdf.symm.trans hf) |>.symm
      obtain rfl : fn = Tryz.f3 := (Option.some.inj (Tryz.func3.symm.trans hfn)).symm
      exact ⟨worldNobody_cdk, fun j t ht => by
        rw [Tryz.params3] at ht
        have hm : t ∈ [24, 3] := by simpa using Array.mem_of_getElem? ht
        exact (show Tryz.prog.wantsStandIn t = false by simpa using List.all_eq_true.1 worldNobody_cda t hm)⟩)
    worldNobody_cdg
end Go.Proofs.YtmggcaemkhdlcaaGreatDoor

