/-
  ProxyNobody holds (arguments of bulk at most 2^20): a pooler that no call made does nothing.
-/
import Derived.Test.YtbglafgndaekoaaGreatDoorPProxyNobody5
import Derived.Test.YtbglafgndaekoaaGreatDoorCards
import Derived.Test.YtbglafgndaekoaaGreatDoorTieP
import Derived.SevenTiedAt
import Derived.JoinedCond
import Derived.Deep.DeepHandedRow
import Derived.Test.YtbglafgndaekoaaGreatDoorFProxyNobody1
import Derived.Test.YtbglafgndaekoaaGreatDoorFProxyNobody2
import Derived.Test.YtbglafgndaekoaaGreatDoorFProxyNobody3
namespace Go.Proofs.YtbglafgndaekoaaGreatDoor
open Go Go.RK

namespace LProxyNobody
open Go.ChangeShapes Go.WideShapes Go.ChangeAt Go.RowKit
open Go.ChangeMaps (open_string shut_string)
set_option maxRecDepth 100000 in
theorem lifted (os : Os) (started : os.Started) (H : Type) (enc : TypeId × Value → H) (F : Stop.Interp) :
    ReturnsInHanded {} Tryz.checked os 3 .any ((Rows.OpenSpec.upto Rows.proxyNobodySpec).preRow enc Tryz.prog Tryz.f3 Rows.proxyNobodyUptoRow.domain false Rows.proxyNobodyUptoRow.laid) (((Rows.OpenSpec.upto Rows.proxyNobodySpec).at F).post enc Tryz.prog Tryz.f3 false true false false) := by
  obtain ⟨x, hx, hxk⟩ := Option.map_eq_some_iff.1 (wiD os H enc)
  refine returnsInHanded_of_row (C := Tryz.checked) (s := (Rows.OpenSpec.upto Rows.proxyNobodySpec)) own started wi0 Tryz.func3
    (witness_row_at (enc := enc) (C := Tryz.checked) false (laidWorld os) #[.agg #[(.int .i64 0), (.int .i64 0), (.int .i64 0), (.slice none 0 0), (.int .u8 0), (.int .u8 0), (.string ByteArray.empty), (.string ByteArray.empty), (.string ByteArray.empty), (.int .i64 0), (.int .i64 0), (.slice none 0 0), (.slice none 0 0), (.slice none 0 0), (.slice none 0 0)]] (laidWorld_os os) (wiA os) (wiB os) (wiC os)
      (OpenSpec.preRow_of_cond 8 hx rfl (fun k hk => by cases hk; exact hxk) (wiE os H enc) (laidWorld_met os _))) ?_
  intro W base args ds gs before hval0 hW hcnd hbk0 hsz0 hL _ _
  have hval : ∀ (j : Nat) t v, Tryz.f3.params[j]? = some t → args[j]? = some v → Value.okWide Tryz.prog W .any base t v := hval0
  have hsz := hsz0
  rw [Tryz.params3] at hsz
  clear hsz0
  have hW' := hW
  obtain ⟨p, q, hA0, hV, rfl, hfz, hnd⟩ := hW
  have hA : DataW.TrodAll enc Tryz.prog W 0 (fun _ => true) true Tryz.f3.params.toList args.toList ds p := hA0
  rw [Tryz.params3] at hA hval
  obtain ⟨v0, vs0, d0, ds0, p0, q0, hargs, rfl, rfl, h0, r0⟩ := trodAll_cons hA
  obtain ⟨rfl, rfl, rfl⟩ := trodAll_nil r0
  obtain rfl : args = #[v0] := by cases args; simp_all
  obtain ⟨rfl, rfl⟩ := trodVars_none hV
  have hz0 : ∀ n ∈ d0.weights Tryz.prog 30, n ≤ reachBytes := fun n hn => by simpa using List.all_eq_true.1 hsz n (DataW.weights_mem_each (j := 0) rfl rfl n hn)
  have k0 := h0
  have lt0 : ∀ x ∈ p0, x.block < W.heap.size := by obtain ⟨m, hm⟩ := k0; exact DataW.trod_lt m _ _ _ hm
  obtain ⟨cs0, rfl, hsz0⟩ := okWide_struct Tryz.underlying30 (hval 0 30 v0 rfl rfl)
  obtain ⟨fu0, hf0⟩ := h0
  have hu0 : Rows.uptoBulk d0 ≤ 1048576 := by have hb := of_decide_eq_true (hbk0 _ rfl); simp only [List.append_nil, Rows.uptoBulkAll] at hb; omega
  obtain ⟨a0, e0, w0⟩ := opensU_do W _ _ _ _ _ _ _ _ hf0 hz0 hu0
  obtain ⟨cs0⟩ := cs0
  obtain rfl := (show cs0 = _ from e0)
  clear hA0 hval0
  refine (law_calls (nobody41 a0 w0.1 w0.2.1 w0.2.2.1 w0.2.2.2)).mono fun e W' ⟨he, bel⟩ => ?_
  subst he
  exact ⟨_, rfl, _, _, _, [], _, [], hW', trodAll_mk1 (shut_bool Tryz.underlying4 _), (trodAll_cons_mk (Below.trod laidOut rr0 ty0 k0 bel lt0) trodAll_mk0), rfl, bel.frame _, fun h => by cases h⟩
theorem closed : joinedFacts Tryz.prog 3 Tryz.f3 (Rows.OpenSpec.upto Rows.proxyNobodySpec).bare Rows.proxyNobodyUptoRow = true := by
  unfold joinedFacts
  rw [cl0, cl1, cl2, cl3, cl4, cl5, cl6, cl7]
  kernel_rfl
theorem over : Rows.proxyNobodyUptoRow.holds Tryz.pinned (Rows.OpenSpec.upto Rows.proxyNobodySpec) :=
  OpenClaim.holds_of_cond 3 Tryz.f3 rfl rfl rfl rfl rfl rfl rfl ⟨rfl, rfl, rfl, rfl, rfl⟩ rfl rfl rfl rfl rfl (by kernel_rfl) Tryz.func3 closed
    (of_decide_eq_true (by kernel_rfl)) (by unfold Func.isWrapper; first | (rw [if_pos (by decide +kernel)]; kernel_rfl) | (rw [if_neg (by decide +kernel)]; exact ⟨rfl, rfl⟩))
    (fun os started H enc _ F => by rw [OpenClaim.pre_eq_preRow]; exact lifted os started H enc F)
end LProxyNobody
theorem proxyNobodyUpto_cdg : false = Rows.proxyNobodyUptoRow.goesBy Tryz.prog := goesBy_none rfl (by kernel_rfl)
theorem proxyNobodyUpto_card : Rows.ProxyNobodyUptoCardSaid :=
  Claim7.holds_tied_plain_at .later [] Rows.proxyNobodyUptoCard.laidKinds true Rows.proxyNobodyUptoCard.stood.harness false
    LProxyNobody.over (fun _ h => by cases h) proxyNobodyUpto_cdw (fun _ h => by cases h) proxyNobodyUpto_row_tie rfl ⟨rfl, rfl⟩ proxyNobodyUpto_cdm rfl
    (fun f fn hf hfn => by
      obtain rfl : f = 3 := Option.some.inj (proxyNobodyUpto_cdf.symm.trans hf) |>.symm
      obtain rfl : fn = Tryz.f3 := (Option.some.inj (Tryz.func3.symm.trans hfn)).symm
      exact ⟨proxyNobodyUpto_cdk, fun j t ht => by
        rw [Tryz.params3] at ht
        have hm : t ∈ [30] := by simpa using Array.mem_of_getElem? ht
        exact (show Tryz.prog.wantsStandIn t = false by simpa using List.all_eq_true.1 proxyNobodyUpto_cda t hm)⟩)
    proxyNobodyUpto_cdg
end Go.Proofs.YtbglafgndaekoaaGreatDoor

