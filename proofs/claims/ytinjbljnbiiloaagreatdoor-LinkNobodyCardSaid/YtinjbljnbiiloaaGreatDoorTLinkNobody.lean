/-
  LinkNobody holds: a link that no call made does nothing.
-/
import Derived.Test.YtinjbljnbiiloaaGreatDoorPLinkNobody5
import Derived.Test.YtinjbljnbiiloaaGreatDoorCards
import Derived.Test.YtinjbljnbiiloaaGreatDoorTie
import Derived.SevenTiedAt
namespace Go.Proofs.YtinjbljnbiiloaaGreatDoor
open Go Go.RK

namespace LLinkNobody
open Go.ChangeShapes Go.WideShapes Go.ChangeAt Go.RowKit
open Go.ChangeMaps (open_string shut_string)
theorem own : ownKnob Tryz.prog.godebug = none := by kernel_rfl
theorem laidOut : laidOutB Tryz.prog = true := by kernel_rfl
set_option maxRecDepth 100000 in
theorem lifted (os : Os) (started : os.Started) (H : Type) (enc : TypeId × Value → H) :
    ReturnsInHanded {} Tryz.checked os 3 .any (fun w args => (Rows.linkNobodySpec.pre enc Tryz.prog Tryz.f3 [] false w args ∧ laidMetH Tryz.prog Rows.linkNobodyRow.laid w) ∧ sizedMet enc Tryz.prog Tryz.f3 (OpenSpec.ofChange Rows.linkNobodySpec) false w args) (Rows.linkNobodySpec.post enc Tryz.prog Tryz.f3 false true false false) := by
  refine returnsInHanded_of_change_and (C := Tryz.checked) (X := fun w _ => laidMetH Tryz.prog Rows.linkNobodyRow.laid w) (fun _ _ _ hh h => h.of_heap hh) own started (by kernel_rfl) Tryz.func3
    (ChangeSpec.witness_at (enc := enc) (C := Tryz.checked) (os := os) (X := fun w _ => laidMetH Tryz.prog Rows.linkNobodyRow.laid w) false (laidWorld os) #[.agg #[(.int .u8 0), (.int .u8 0), (.string ByteArray.empty), (.string ByteArray.empty), (.string ByteArray.empty), (.slice none 0 0), (.slice none 0 0), (.slice none 0 0), (.slice none 0 0), (.int .i64 0)], .agg #[(.int .u8 0), (.int .u8 0), (.string ByteArray.empty), (.string ByteArray.empty), (.string ByteArray.empty), (.int .i64 0), (.int .i64 0), (.slice none 0 0), (.slice none 0 0), (.slice none 0 0), (.slice none 0 0)]] 8 (laidWorld_os os) (by kernel_rfl) (by kernel_rfl) (by kernel_rfl) (by kernel_rfl) (by kernel_rfl) (laidWorld_met os _)) ?_
  intro W base args ds gs before hval0 hW hcnd hsz0 hL _
  have hval : ∀ (j : Nat) t v, Tryz.f3.params[j]? = some t → args[j]? = some v → Value.okWide Tryz.prog W .any base t v := hval0
  have hsz := hsz0
  rw [Tryz.params3] at hsz
  clear hsz0
  have hW' := hW
  obtain ⟨p, q, hA0, hV, rfl, hfz, hnd⟩ := hW
  have hA : DataW.TrodAll enc Tryz.prog W 0 (fun _ => true) true Tryz.f3.params.toList args.toList ds p := hA0
  rw [Tryz.params3] at hA hval
  obtain ⟨v0, vs0, d0, ds0, p0, q0, hargs, rfl, rfl, h0, r0⟩ := trodAll_cons hA
  obtain ⟨v1, vs1, d1, ds1, p1, q1, rfl, rfl, rfl, h1, r1⟩ := trodAll_cons r0
  obtain ⟨rfl, rfl, rfl⟩ := trodAll_nil r1
  obtain rfl : args = #[v0, v1] := by cases args; simp_all
  obtain ⟨rfl, rfl⟩ := trodVars_none hV
  have hz0 : ∀ n ∈ d0.weights Tryz.prog 25, n ≤ reachBytes := fun n hn => by simpa using List.all_eq_true.1 hsz n (DataW.weights_mem_each (j := 0) rfl rfl n hn)
  have k0 := h0
  have lt0 : ∀ x ∈ p0, x.block < W.heap.size := by obtain ⟨m, hm⟩ := k0; exact DataW.trod_lt m _ _ _ hm
  obtain ⟨cs0, rfl, hsz0⟩ := okWide_struct Tryz.underlying25 (hval 0 25 v0 rfl rfl)
  obtain ⟨fu0, hf0⟩ := h0
  obtain ⟨a0, e0, w0⟩ := opens_fm W _ _ _ _ _ _ _ _ hf0 hz0
  obtain ⟨cs0⟩ := cs0
  obtain rfl := (show cs0 = _ from e0)
  have hz1 : ∀ n ∈ d1.weights Tryz.prog 29, n ≤ reachBytes := fun n hn => by simpa using List.all_eq_true.1 hsz n (DataW.weights_mem_each (j := 1) rfl rfl n hn)
  have k1 := h1
  have lt1 : ∀ x ∈ p1, x.block < W.heap.size := by obtain ⟨m, hm⟩ := k1; exact DataW.trod_lt m _ _ _ hm
  obtain ⟨cs1, rfl, hsz1⟩ := okWide_struct Tryz.underlying29 (hval 1 29 v1 rfl rfl)
  obtain ⟨fu1, hf1⟩ := h1
  obtain ⟨a1, e1, w1⟩ := opens_bk W _ _ _ _ _ _ _ _ hf1 hz1
  obtain ⟨cs1⟩ := cs1
  obtain rfl := (show cs1 = _ from e1)
  clear hA0 hval0
  refine (law_calls (nobody40 a0 a1 w0.1 w1.1 w1.2)).mono fun e W' ⟨he, bel⟩ => ?_
  subst he
  exact ⟨_, rfl, _, _, _, [], _, [], hW', trodAll_mk1 (shut_bool Tryz.underlying4 _), (trodAll_cons_mk (Below.trod laidOut (by kernel_rfl) (of_decide_eq_true (by kernel_rfl)) k0 bel lt0) (trodAll_cons_mk (Below.trod laidOut (by kernel_rfl) (of_decide_eq_true (by kernel_rfl)) k1 bel lt1) trodAll_mk0)), rfl, bel.frame _, fun h => by cases h⟩
theorem cl0 : (laidOutB Tryz.prog) = true := by kernel_rfl
theorem cl1 : (Rows.linkNobodyRow.inPlace == Tryz.prog.inPlace 3) = true := by kernel_rfl
theorem cl2 : (Rows.linkNobodyRow.unfollowed == Tryz.prog.unfollowed 3) = true := by kernel_rfl
theorem cl3 : (Rows.linkNobodyRow.recurses == Tryz.prog.recurses 3) = true := by kernel_rfl
theorem cl4 : (Rows.linkNobodyRow.named == Tryz.prog.varsNamed 3) = true := by kernel_rfl
theorem cl5 : (Rows.linkNobodyRow.plainKeys == Tryz.prog.plainKeys) = true := by kernel_rfl
theorem cl6 : (Tryz.prog.stopsHeard) = true := by kernel_rfl
theorem cl7 : (Tryz.prog.mayEnter) = true := by kernel_rfl
theorem closed : joinedFacts Tryz.prog 3 Tryz.f3 Rows.linkNobodySpec Rows.linkNobodyRow = true := by
  unfold joinedFacts
  rw [cl0, cl1, cl2, cl3, cl4, cl5, cl6, cl7]
  kernel_rfl
theorem over : Rows.linkNobodyRow.holds Tryz.pinned (OpenSpec.ofChange Rows.linkNobodySpec) :=
  OpenClaim.holds_of_wide 3 Tryz.f3 rfl rfl rfl rfl rfl rfl rfl ⟨rfl, rfl, rfl, rfl, rfl⟩ rfl rfl rfl rfl rfl (by kernel_rfl) Tryz.func3 closed
    (of_decide_eq_true (by kernel_rfl)) (by unfold Func.isWrapper; first | (rw [if_pos (by decide +kernel)]; kernel_rfl) | (rw [if_neg (by decide +kernel)]; exact ⟨rfl, rfl⟩))
    (fun os started H enc _ => lifted os started H enc)
end LLinkNobody
theorem linkNobody_cdw : Rows.linkNobodyRow.wfByText (OpenSpec.ofChange Rows.linkNobodySpec) = true := by kernel_rfl
theorem linkNobody_cdm : Tryz.prog.mainIs = some (Rows.linkNobodyCard.stood.harness.1, Rows.linkNobodyCard.stood.harness.2.toList) := by kernel_rfl
theorem linkNobody_cdf : Tryz.prog.funcNamed Rows.linkNobodyRow.func = some 3 := by kernel_rfl
theorem linkNobody_cdk : true = Tryz.prog.looks [] := by kernel_rfl
theorem linkNobody_cda : ([25, 29].all fun u => !Tryz.prog.wantsStandIn u) = true := by kernel_rfl
theorem linkNobody_cdg : false = Rows.linkNobodyRow.goesBy Tryz.prog := goesBy_none rfl (by kernel_rfl)
theorem linkNobody_card : Rows.LinkNobodyCardSaid :=
  Claim7.holds_tied_plain_at .later [] Rows.linkNobodyCard.laidKinds true Rows.linkNobodyCard.stood.harness true
    LLinkNobody.over (fun _ h => by cases h) linkNobody_cdw (fun _ h => by cases h) linkNobody_row_tie rfl ⟨rfl, rfl⟩ linkNobody_cdm rfl
    (fun f fn hf hfn => by
      obtain rfl : f = 3 := Option.some.inj (linkNobody_cdf.symm.trans hf) |>.symm
      obtain rfl : fn = Tryz.f3 := (Option.some.inj (Tryz.func3.symm.trans hfn)).symm
      exact ⟨linkNobody_cdk, fun j t ht => by
        rw [Tryz.params3] at ht
        have hm : t ∈ [25, 29] := by simpa using Array.mem_of_getElem? ht
        exact (show Tryz.prog.wantsStandIn t = false by simpa using List.all_eq_true.1 linkNobody_cda t hm)⟩)
    linkNobody_cdg
end Go.Proofs.YtinjbljnbiiloaaGreatDoor

