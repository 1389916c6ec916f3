/-
  FixSays holds: what a server says of its own name a client is told of its name.
-/
import Derived.Test.YtkpgnhhidnkmcaaGreatDoorFixAw
import Derived.Test.YtkpgnhhidnkmcaaGreatDoorRows
import Derived.Test.YtkpgnhhidnkmcaaGreatDoorCards
import Derived.Test.YtkpgnhhidnkmcaaGreatDoorTie
import Derived.Lay
import Derived.LaidOnce
import Derived.SevenTiedAt
namespace Go.Proofs.YtkpgnhhidnkmcaaGreatDoor
open Go Go.RK

theorem rdig_range (m : Nat) : ∀ b ∈ rdig m, 48 ≤ b.toNat ∧ b.toNat ≤ 57 := by
  induction m using Nat.strongRecOn with
  | _ m ih =>
    by_cases h : m < 10
    · rw [rdig_lt h]
      intro b hb
      obtain rfl := List.mem_singleton.1 hb
      simp
      omega
    · rw [rdig_ge h]
      intro b hb
      rcases List.mem_cons.1 hb with rfl | hb
      · have : m % 10 < 10 := Nat.mod_lt _ (by omega)
        simp
        omega
      · exact ih (m / 10) (by omega) b hb
theorem deci_no (p : Int) : (44 : UInt8) ∉ deci p := by
  have key : ∀ m, (44 : UInt8) ∉ dig m := fun m h => by
    have := rdig_range m 44 (List.mem_reverse.1 h)
    exact absurd this.1 (by decide)
  unfold deci
  split
  · simp only [List.mem_cons, not_or]
    exact ⟨by decide, key _⟩
  · exact key _
theorem arity_index (p : Int) (f : List UInt8) (w : Int) : Lib.index (arityL p f w) (needL f) = ((([98, 105, 110, 100, 32, 109, 101, 115, 115, 97, 103, 101, 32, 115, 117, 112, 112, 108, 105, 101, 115, 32] : List UInt8) ++ deci p ++ ([32, 112, 97, 114, 97, 109, 101, 116, 101, 114, 115] : List UInt8)).length : Nat) := by
  have hpre : (44 : UInt8) ∉ ([98, 105, 110, 100, 32, 109, 101, 115, 115, 97, 103, 101, 32, 115, 117, 112, 112, 108, 105, 101, 115, 32] : List UInt8) ++ deci p ++ ([32, 112, 97, 114, 97, 109, 101, 116, 101, 114, 115] : List UInt8) := by
    simp only [List.mem_append, not_or]
    exact ⟨⟨by decide, deci_no p⟩, by decide⟩
  have hs : arityL p f w = (([98, 105, 110, 100, 32, 109, 101, 115, 115, 97, 103, 101, 32, 115, 117, 112, 112, 108, 105, 101, 115, 32] : List UInt8) ++ deci p ++ ([32, 112, 97, 114, 97, 109, 101, 116, 101, 114, 115] : List UInt8)) ++ (needL f ++ deci w) := by simp [arityL]
  have hn : ∃ r, needL f = 44 :: r := ⟨_, rfl⟩
  generalize ([98, 105, 110, 100, 32, 109, 101, 115, 115, 97, 103, 101, 32, 115, 117, 112, 112, 108, 105, 101, 115, 32] : List UInt8) ++ deci p ++ ([32, 112, 97, 114, 97, 109, 101, 116, 101, 114, 115] : List UInt8) = pre at hpre hs
  rw [hs]
  refine Lib.index_first (by simp) ?_ fun j hj => ?_
  · rw [Lib.occAt, List.drop_left]
    exact List.isPrefixOf_iff_prefix.2 (List.prefix_append _ _)
  · obtain ⟨r, hr⟩ := hn
    rw [Lib.occAt, List.drop_append_of_le_length (by omega), List.drop_eq_getElem_cons hj, hr]
    have : pre[j] ≠ 44 := fun e => hpre (e ▸ List.getElem_mem hj)
    simp only [List.cons_append, List.isPrefixOf, Bool.and_eq_false_iff, beq_eq_false_iff_ne]
    exact .inl (Ne.symm this)
theorem arity_ren (p : Int) (f t : List UInt8) (w : Int) : renL ([48, 56, 80, 48, 49] : List UInt8) (arityL p f w) f t = arityL p t w := by
  have h1 : renL ([48, 56, 80, 48, 49] : List UInt8) (arityL p f w) f t = Lib.replace (arityL p f w) (needL f) (needL t) 1 := by simp [renL]
  rw [h1, replace_hit (by rw [need_len]; omega) (arity_index p f w)]
  have hs : ∀ x, arityL p x w = (([98, 105, 110, 100, 32, 109, 101, 115, 115, 97, 103, 101, 32, 115, 117, 112, 112, 108, 105, 101, 115, 32] : List UInt8) ++ deci p ++ ([32, 112, 97, 114, 97, 109, 101, 116, 101, 114, 115] : List UInt8)) ++ (needL x ++ deci w) := fun x => by simp [arityL]
  rw [hs f, hs t]
  generalize ([98, 105, 110, 100, 32, 109, 101, 115, 115, 97, 103, 101, 32, 115, 117, 112, 112, 108, 105, 101, 115, 32] : List UInt8) ++ deci p ++ ([32, 112, 97, 114, 97, 109, 101, 116, 101, 114, 115] : List UInt8) = pre
  rw [List.take_left, ← List.drop_drop, List.drop_left, List.drop_left]
  simp
set_option maxHeartbeats 2000000 in
set_option maxRecDepth 100000 in
theorem says25 {h : Heap} (f t : List UInt8) (p w : Int) (hf : f.length ≤ maxLen) (ht : t.length ≤ maxLen) (hp : 0 ≤ p ∧ p ≤ 255) (hw : 0 ≤ w ∧ w ≤ 255) (hM : Ml h) :
    CallsH Tryz.prog 5 ⟨[St f, St t, .int .u8 p, .int .u8 w]⟩ h fun u h' => u = .bool true ∧ Ext No h h' := by
  unfold maxLen at hf ht
  have r1 : renL ([50, 54, 48, 48, 48] : List UInt8) (missL f) f t = missL t := by simp [renL, swapL]
  have r2 : renL ([52, 50, 80, 48, 53] : List UInt8) (exisL f) f t = exisL t := by simp [renL, swapL]
  have r3 := arity_ren p f t w
  have l1 := miss_len f
  have l2 := exis_len f
  have l3 : (arityL p f w).length ≤ f.length + 200 := by
    have := need_len f
    have := deci_len p (by omega)
    have := deci_len w (by omega)
    simp [arityL]
    omega
  refine calls [(0, _), (1, _), (2, _), (3, _)] Tryz.func5 rfl Tryz.ntmps5 rfl ⟨rfl, rfl, rfl, rfl, trivial⟩ ?_
  all_goals (refine WC.seq ?_)
  all_goals (refine WC.region ?_)
  all_goals (refine WL.step (ok_assign rfl) rfl rfl rfl ?_)
  all_goals (refine WL.nil ?_)
  all_goals (repeat' (with_reducible first | refine thenP_n ?_ | refine blockP_n ?_))
  all_goals (refine WC.seq ?_)
  all_goals (refine WC.seq ?_)
  all_goals (refine WC.region ?_)
  all_goals (refine WL.step (ok_move rfl) rfl rfl rfl ?_)
  all_goals (refine WL.step (ok_lenS rfl Tryz.underlying9 rfl) rfl rfl rfl ?_)
  all_goals (first | (refine WL.step (OkP.bool_t (by omega) (ok_gtr rfl rfl)) rfl rfl rfl ?_) | (refine WL.step (OkP.bool_f (by omega) (ok_gtr rfl rfl)) rfl rfl rfl ?_) | (refine WL.step (ok_gtr rfl rfl) rfl rfl rfl ?_))
  all_goals (refine WL.step (ok_move rfl) rfl rfl rfl ?_)
  all_goals (try ((fail_if_success (refine WL.part 19 (b := true) rfl (fun _ => ?_) (fun _ => ?_))); (fail_if_success (refine WL.part 19 (b := false) rfl (fun _ => ?_) (fun _ => ?_))); (refine WL.part 19 rfl (fun hb => ?_) (fun hb => ?_) <;> (first | replace hb := of_decide_eq_true hb | replace hb := of_decide_eq_false hb | replace hb := of_decide_eq_false (nt hb) | replace hb := of_decide_eq_true (nf hb) | skip))))
  all_goals (first | (refine WL.pass rfl rfl rfl ?_) | (refine WL.step (ok_move rfl) rfl rfl rfl ?_))
  all_goals (first | (refine WL.pass rfl rfl rfl ?_) | (refine WL.step (ok_lenS rfl Tryz.underlying9 rfl) rfl rfl rfl ?_))
  all_goals (first | (refine WL.pass rfl rfl rfl ?_) | (first | (refine WL.step (OkP.bool_t (by omega) (ok_gtr rfl rfl)) rfl rfl rfl ?_) | (refine WL.step (OkP.bool_f (by omega) (ok_gtr rfl rfl)) rfl rfl rfl ?_) | (refine WL.step (ok_gtr rfl rfl) rfl rfl rfl ?_)))
  all_goals (first | (refine WL.step (ok_pick_t rfl rfl) rfl rfl rfl ?_) | (refine WL.step (ok_pick_f rfl rfl) rfl rfl rfl ?_))
  all_goals (refine WL.nil ?_)
  all_goals (repeat' (with_reducible first | refine thenP_n ?_ | refine blockP_n ?_))
  all_goals (refine WC.sub [(0, _), (1, _), (2, _), (3, _), (23, _)] ⟨rfl, rfl, rfl, rfl, rfl, trivial⟩ ?_)
  all_goals (first | refine WC.condB_t 1 rfl ?_ | refine WC.condB_f 2 rfl ?_ | (refine WC.condB 1 2 rfl (fun hb => ?_) (fun hb => ?_) <;> (first | replace hb := of_decide_eq_true hb | replace hb := of_decide_eq_false hb | replace hb := of_decide_eq_false (nt hb) | replace hb := of_decide_eq_true (nf hb) | skip)))
  all_goals (first
    | (fail_if_success (refine Br.mk (i := 1) ?_))
    | (refine Br.mk (i := 1) ?_
       all_goals (refine WC.seq ?_)
       all_goals (refine WC.region ?_)
       all_goals (refine WL.call (vs := []) rfl (fun a w => Tryz.call8 a w) rfl (awake25 hM) rfl rfl rfl ?_
                  rintro _ h9 ⟨rfl, hx9⟩)
       all_goals (refine WL.step (ok_assign rfl) rfl rfl rfl ?_)
       all_goals (refine WL.nil ?_)
       all_goals (repeat' (with_reducible first | refine thenP_n ?_ | refine blockP_n ?_))
       all_goals (refine WC.sub [(8, _)] ⟨rfl, trivial⟩ ?_)
       all_goals (refine WC.ret ?_)
       all_goals (repeat' (with_reducible first | refine thenP_r ?_ | refine blockP_r ?_))
       all_goals (refine retP_1 _ ⟨rfl, trivial⟩ ?_)
       all_goals (first | exact ⟨rfl, (((hX7.trans hx7).trans hx8).trans hx10).trans hx9⟩ | exact ⟨rfl, hx9⟩)
       skip))
  all_goals (first
    | (fail_if_success (refine Br.mk (i := 2) ?_))
    | (refine Br.mk (i := 2) ?_
       all_goals (refine WC.skip ?_)
       skip))
  all_goals (repeat' (with_reducible first | refine thenP_n ?_ | refine blockP_n ?_))
  all_goals (refine WC.seq ?_)
  all_goals (refine WC.region ?_)
  all_goals (refine WL.step (ok_move rfl) rfl rfl rfl ?_)
  all_goals (refine WL.step (ok_move rfl) rfl rfl rfl ?_)
  all_goals (refine WL.step (ok_buildF (vs := [_, _]) (cs := [_, _, _, _, _, _, _, _]) (fun | [a2, a3] => [(.int .i64 0), (.bool false), a2, a3, (.slice none 0 0), (.slice none 0 0), (.slice none 0 0), (.slice none 0 0)] | _ => []) rfl rfl (by kernel_rfl)) rfl rfl rfl ?_)
  all_goals (refine WL.stepR (okE_alloc (fun w => Tryz.zeroValue26 w)) rfl rfl rfl ?_
             rintro _ h1 ⟨b9, rfl, hg9, hb9, hx1⟩)
  all_goals (refine WL.stepR0 (okE_storeW (fun w => Tryz.sizeOf26 w) rfl rfl rfl hb9 rfl (by simp [Value.oneCell'])) rfl rfl ?_
             rintro _ h2 ⟨hb92, hx2⟩)
  all_goals (have hX2 : Ext No h h2 := hx1.trans' hx2 (fun q hq e => by omega)
             have hb92' : h2[b9]? = some (.cells ⟨eC f t⟩ 26 (0, 0)) := hb92)
  all_goals (refine WL.nil ?_)
  all_goals (repeat' (with_reducible first | refine thenP_n ?_ | refine blockP_n ?_))
  all_goals (refine WC.sub [(0, _), (1, _), (2, _), (3, _), (9, _)] ⟨rfl, rfl, rfl, rfl, rfl, trivial⟩ ?_)
  all_goals (refine WC.seq ?_)
  all_goals (refine WC.drawH (fun h' => Ext No h2 h') 12 12 rfl fol ?_)
  all_goals (refine WH.take 0 rfl (by kernel_rfl) (by kernel_rfl) (by kernel_rfl) (by kernel_rfl) rfl (by first | exact Ext.refl _ _ | assumption) (fun hq hC => ok_loadN (fun w => Tryz.isAgg26 w) (fun w => Tryz.sizeOf26 w) rfl rfl (by exact At.of_block (hC.obj hb92' nos))) rfl rfl rfl ?_)
  all_goals (refine WH.take 1 rfl (by kernel_rfl) (by kernel_rfl) (by kernel_rfl) (by kernel_rfl) rfl (by first | exact Ext.refl _ _ | assumption) (fun hq hC => ok_move rfl) rfl rfl rfl ?_)
  all_goals (refine WH.one 2 (by kernel_rfl) ?_)
  all_goals (refine Comes1.call (vs := [_]) rfl rfl (fun a w => Tryz.call18 a w) rfl (missing_any f (by omega)) rfl rfl rfl ?_ (fun _ => by kernel_rfl)
             rintro _ g1 ⟨rfl, hy1⟩)
  all_goals (refine ⟨fun _ => hy1, ?_⟩)
  all_goals (refine WH.one 3 (by kernel_rfl) ?_)
  all_goals (refine Comes1.call (vs := [_, _]) rfl rfl (fun a w => Tryz.call17 a w) rfl (error_v ([50, 54, 48, 48, 48] : List UInt8) (missL f)) rfl rfl rfl ?_ (fun _ => by kernel_rfl)
             rintro _ g2 ⟨v2, rfl, ho2, hy2⟩)
  all_goals (refine ⟨fun _ => hy1.trans hy2, ?_⟩)
  all_goals (refine WH.one 4 (by kernel_rfl) ?_)
  all_goals (refine Comes1.call (vs := [_, _]) rfl rfl (fun a w => Tryz.call10 a w) rfl (back_fl f t ([50, 54, 48, 48, 48] : List UInt8) (missL f) (missL t) ho2.rd (hM.ext0 ((hX2.trans hy1).trans hy2)) (by omega) (by omega) (by omega) r1 (fun e => by rw [e])) rfl rfl rfl ?_ (fun _ => by kernel_rfl)
             rintro _ g3 ⟨v3, rfl, ho3, hy3⟩
             unfold eB)
  all_goals (refine ⟨fun _ => (hy1.trans hy2).trans hy3, ?_⟩)
  all_goals (have hC3 := (hy1.trans hy2).trans hy3)
  all_goals (refine WH.take 5 rfl (by kernel_rfl) (by kernel_rfl) (by kernel_rfl) (by kernel_rfl) rfl (by first | exact Ext.refl _ _ | assumption) (fun hq hC => ok_field Tryz.underlying32 rfl (fun w => Tryz.isAgg30 w) rfl rfl) rfl rfl rfl ?_)
  all_goals (refine WH.one 6 (by kernel_rfl) ?_)
  all_goals (refine Comes1.call (vs := [_, _]) rfl rfl (fun a w => Tryz.call16 a w) rfl (get_v (fl4 ([69, 82, 82, 79, 82] : List UInt8) ([50, 54, 48, 48, 48] : List UInt8) (missL t)) 77 ho3.rd (by show 4 ≤ _; unfold maxLen; omega)) rfl rfl rfl ?_ (fun _ => by kernel_rfl)
             rintro _ g4 ⟨rfl, hy4⟩
             rw [get77])
  all_goals (refine ⟨fun _ => hC3.trans hy4, ?_⟩)
  all_goals (have hC4 := hC3.trans hy4)
  all_goals (refine WH.take 7 rfl (by kernel_rfl) (by kernel_rfl) (by kernel_rfl) (by kernel_rfl) rfl (by first | exact Ext.refl _ _ | assumption) (fun hq hC => ok_move rfl) rfl rfl rfl ?_)
  all_goals (refine WH.take 8 rfl (by kernel_rfl) (by kernel_rfl) (by kernel_rfl) (by kernel_rfl) rfl (by first | exact Ext.refl _ _ | assumption) (fun hq hC => ok_extract rfl rfl) rfl rfl rfl ?_)
  all_goals (refine WH.take 9 rfl (by kernel_rfl) (by kernel_rfl) (by kernel_rfl) (by kernel_rfl) rfl (by first | exact Ext.refl _ _ | assumption) (fun hq hC => ok_extract rfl rfl) rfl rfl rfl ?_)
  all_goals (refine WH.take 10 rfl (by kernel_rfl) (by kernel_rfl) (by kernel_rfl) (by kernel_rfl) rfl (by first | exact Ext.refl _ _ | assumption) (fun hq hC => ok_assign rfl) rfl rfl rfl ?_)
  all_goals (refine WH.take 11 rfl (by kernel_rfl) (by kernel_rfl) (by kernel_rfl) (by kernel_rfl) rfl (by first | exact Ext.refl _ _ | assumption) (fun hq hC => ok_assign rfl) rfl rfl rfl ?_)
  all_goals (refine WH.done (by kernel_rfl) ?_)
  all_goals (repeat' (with_reducible first | refine thenP_n ?_ | refine blockP_n ?_))
  all_goals (refine WC.sub [(0, _), (1, _), (2, _), (3, _), (9, _), (10, _)] ⟨rfl, rfl, rfl, rfl, rfl, rfl, trivial⟩ ?_)
  all_goals (refine WC.seq ?_)
  all_goals (have hX4 := hX2.trans hC4
             have hb94 := hC4.obj hb92' nos)
  all_goals (refine WC.drawH (fun h' => Ext No g4 h') 12 12 rfl fol ?_)
  all_goals (refine WH.take 0 rfl (by kernel_rfl) (by kernel_rfl) (by kernel_rfl) (by kernel_rfl) rfl (by first | exact Ext.refl _ _ | assumption) (fun hq hC => ok_loadN (fun w => Tryz.isAgg26 w) (fun w => Tryz.sizeOf26 w) rfl rfl (by exact At.of_block (hC.obj hb94 nos))) rfl rfl rfl ?_)
  all_goals (refine WH.take 1 rfl (by kernel_rfl) (by kernel_rfl) (by kernel_rfl) (by kernel_rfl) rfl (by first | exact Ext.refl _ _ | assumption) (fun hq hC => ok_move rfl) rfl rfl rfl ?_)
  all_goals (refine WH.one 2 (by kernel_rfl) ?_)
  all_goals (refine Comes1.call (vs := [_]) rfl rfl (fun a w => Tryz.call19 a w) rfl (exists_any f (by omega)) rfl rfl rfl ?_ (fun _ => by kernel_rfl)
             rintro _ j1 ⟨rfl, hz1⟩)
  all_goals (refine ⟨fun _ => hz1, ?_⟩)
  all_goals (refine WH.one 3 (by kernel_rfl) ?_)
  all_goals (refine Comes1.call (vs := [_, _]) rfl rfl (fun a w => Tryz.call17 a w) rfl (error_v ([52, 50, 80, 48, 53] : List UInt8) (exisL f)) rfl rfl rfl ?_ (fun _ => by kernel_rfl)
             rintro _ j2 ⟨w2, rfl, hp2, hz2⟩)
  all_goals (refine ⟨fun _ => hz1.trans hz2, ?_⟩)
  all_goals (refine WH.one 4 (by kernel_rfl) ?_)
  all_goals (refine Comes1.call (vs := [_, _]) rfl rfl (fun a w => Tryz.call10 a w) rfl (back_fl f t ([52, 50, 80, 48, 53] : List UInt8) (exisL f) (exisL t) hp2.rd (hM.ext0 ((hX4.trans hz1).trans hz2)) (by omega) (by omega) (by omega) r2 (fun e => by rw [e])) rfl rfl rfl ?_ (fun _ => by kernel_rfl)
             rintro _ j3 ⟨w3, rfl, hp3, hz3⟩
             unfold eB)
  all_goals (refine ⟨fun _ => (hz1.trans hz2).trans hz3, ?_⟩)
  all_goals (have hD3 := (hz1.trans hz2).trans hz3)
  all_goals (refine WH.take 5 rfl (by kernel_rfl) (by kernel_rfl) (by kernel_rfl) (by kernel_rfl) rfl (by first | exact Ext.refl _ _ | assumption) (fun hq hC => ok_field Tryz.underlying32 rfl (fun w => Tryz.isAgg30 w) rfl rfl) rfl rfl rfl ?_)
  all_goals (refine WH.one 6 (by kernel_rfl) ?_)
  all_goals (refine Comes1.call (vs := [_, _]) rfl rfl (fun a w => Tryz.call16 a w) rfl (get_v (fl4 ([69, 82, 82, 79, 82] : List UInt8) ([52, 50, 80, 48, 53] : List UInt8) (exisL t)) 77 hp3.rd (by show 4 ≤ _; unfold maxLen; omega)) rfl rfl rfl ?_ (fun _ => by kernel_rfl)
             rintro _ j4 ⟨rfl, hz4⟩
             rw [get77])
  all_goals (refine ⟨fun _ => hD3.trans hz4, ?_⟩)
  all_goals (have hD4 := hD3.trans hz4)
  all_goals (refine WH.take 7 rfl (by kernel_rfl) (by kernel_rfl) (by kernel_rfl) (by kernel_rfl) rfl (by first | exact Ext.refl _ _ | assumption) (fun hq hC => ok_move rfl) rfl rfl rfl ?_)
  all_goals (refine WH.take 8 rfl (by kernel_rfl) (by kernel_rfl) (by kernel_rfl) (by kernel_rfl) rfl (by first | exact Ext.refl _ _ | assumption) (fun hq hC => ok_extract rfl rfl) rfl rfl rfl ?_)
  all_goals (refine WH.take 9 rfl (by kernel_rfl) (by kernel_rfl) (by kernel_rfl) (by kernel_rfl) rfl (by first | exact Ext.refl _ _ | assumption) (fun hq hC => ok_extract rfl rfl) rfl rfl rfl ?_)
  all_goals (refine WH.take 10 rfl (by kernel_rfl) (by kernel_rfl) (by kernel_rfl) (by kernel_rfl) rfl (by first | exact Ext.refl _ _ | assumption) (fun hq hC => ok_assign rfl) rfl rfl rfl ?_)
  all_goals (refine WH.take 11 rfl (by kernel_rfl) (by kernel_rfl) (by kernel_rfl) (by kernel_rfl) rfl (by first | exact Ext.refl _ _ | assumption) (fun hq hC => ok_assign rfl) rfl rfl rfl ?_)
  all_goals (refine WH.done (by kernel_rfl) ?_)
  all_goals (repeat' (with_reducible first | refine thenP_n ?_ | refine blockP_n ?_))
  all_goals (refine WC.sub [(0, _), (1, _), (2, _), (3, _), (9, _), (10, _), (12, _)] ⟨rfl, rfl, rfl, rfl, rfl, rfl, rfl, trivial⟩ ?_)
  all_goals (refine WC.seq ?_)
  all_goals (have hX6 := hX4.trans hD4
             have hb96 := hD4.obj hb94 nos)
  all_goals (refine WC.drawH (fun h' => Ext No j4 h') 16 16 rfl fol ?_)
  all_goals (refine WH.take 0 rfl (by kernel_rfl) (by kernel_rfl) (by kernel_rfl) (by kernel_rfl) rfl (by first | exact Ext.refl _ _ | assumption) (fun hq hC => ok_loadN (fun w => Tryz.isAgg26 w) (fun w => Tryz.sizeOf26 w) rfl rfl (by exact At.of_block (hC.obj hb96 nos))) rfl rfl rfl ?_)
  all_goals (refine WH.take 1 rfl (by kernel_rfl) (by kernel_rfl) (by kernel_rfl) (by kernel_rfl) rfl (by first | exact Ext.refl _ _ | assumption) (fun hq hC => ok_move rfl) rfl rfl rfl ?_)
  all_goals (first | (refine WH.take 2 rfl (by kernel_rfl) (by kernel_rfl) (by kernel_rfl) (by kernel_rfl) rfl (by first | exact Ext.refl _ _ | assumption) (fun hq hC => ok_convI Tryz.underlying5 Tryz.underlying3 rfl (by omega)) rfl rfl rfl ?_) | (refine WH.take 2 rfl (by kernel_rfl) (by kernel_rfl) (by kernel_rfl) (by kernel_rfl) rfl (by first | exact Ext.refl _ _ | assumption) (fun hq hC => ok_conv Tryz.underlying5 Tryz.underlying3 rfl) rfl rfl rfl ?_))
  all_goals (refine WH.take 3 rfl (by kernel_rfl) (by kernel_rfl) (by kernel_rfl) (by kernel_rfl) rfl (by first | exact Ext.refl _ _ | assumption) (fun hq hC => ok_move rfl) rfl rfl rfl ?_)
  all_goals (refine WH.take 4 rfl (by kernel_rfl) (by kernel_rfl) (by kernel_rfl) (by kernel_rfl) rfl (by first | exact Ext.refl _ _ | assumption) (fun hq hC => ok_move rfl) rfl rfl rfl ?_)
  all_goals (first | (refine WH.take 5 rfl (by kernel_rfl) (by kernel_rfl) (by kernel_rfl) (by kernel_rfl) rfl (by first | exact Ext.refl _ _ | assumption) (fun hq hC => ok_convI Tryz.underlying5 Tryz.underlying3 rfl (by omega)) rfl rfl rfl ?_) | (refine WH.take 5 rfl (by kernel_rfl) (by kernel_rfl) (by kernel_rfl) (by kernel_rfl) rfl (by first | exact Ext.refl _ _ | assumption) (fun hq hC => ok_conv Tryz.underlying5 Tryz.underlying3 rfl) rfl rfl rfl ?_))
  all_goals (refine WH.one 6 (by kernel_rfl) ?_)
  all_goals (refine Comes1.call (vs := [_, _, _]) rfl rfl (fun a w => Tryz.call20 a w) rfl (arity_any p f w (by omega) (by omega) (by omega)) rfl rfl rfl ?_ (fun _ => by kernel_rfl)
             rintro _ q1 ⟨rfl, hs1⟩)
  all_goals (refine ⟨fun _ => hs1, ?_⟩)
  all_goals (refine WH.one 7 (by kernel_rfl) ?_)
  all_goals (refine Comes1.call (vs := [_, _]) rfl rfl (fun a w => Tryz.call17 a w) rfl (error_v ([48, 56, 80, 48, 49] : List UInt8) (arityL p f w)) rfl rfl rfl ?_ (fun _ => by kernel_rfl)
             rintro _ q2 ⟨u2, rfl, hq2, hs2⟩)
  all_goals (refine ⟨fun _ => hs1.trans hs2, ?_⟩)
  all_goals (refine WH.one 8 (by kernel_rfl) ?_)
  all_goals (refine Comes1.call (vs := [_, _]) rfl rfl (fun a w => Tryz.call10 a w) rfl (back_fl f t ([48, 56, 80, 48, 49] : List UInt8) (arityL p f w) (arityL p t w) hq2.rd (hM.ext0 ((hX6.trans hs1).trans hs2)) (by omega) (by omega) (by omega) r3 (fun e => by rw [e])) rfl rfl rfl ?_ (fun _ => by kernel_rfl)
             rintro _ q3 ⟨u3, rfl, hq3, hs3⟩
             unfold eB)
  all_goals (refine ⟨fun _ => (hs1.trans hs2).trans hs3, ?_⟩)
  all_goals (have hE3 := (hs1.trans hs2).trans hs3)
  all_goals (refine WH.take 9 rfl (by kernel_rfl) (by kernel_rfl) (by kernel_rfl) (by kernel_rfl) rfl (by first | exact Ext.refl _ _ | assumption) (fun hq hC => ok_field Tryz.underlying32 rfl (fun w => Tryz.isAgg30 w) rfl rfl) rfl rfl rfl ?_)
  all_goals (refine WH.one 10 (by kernel_rfl) ?_)
  all_goals (refine Comes1.call (vs := [_, _]) rfl rfl (fun a w => Tryz.call16 a w) rfl (get_v (fl4 ([69, 82, 82, 79, 82] : List UInt8) ([48, 56, 80, 48, 49] : List UInt8) (arityL p t w)) 77 hq3.rd (by show 4 ≤ _; unfold maxLen; omega)) rfl rfl rfl ?_ (fun _ => by kernel_rfl)
             rintro _ q4 ⟨rfl, hs4⟩
             rw [get77])
  all_goals (refine ⟨fun _ => hE3.trans hs4, ?_⟩)
  all_goals (have hE4 := hE3.trans hs4)
  all_goals (refine WH.take 11 rfl (by kernel_rfl) (by kernel_rfl) (by kernel_rfl) (by kernel_rfl) rfl (by first | exact Ext.refl _ _ | assumption) (fun hq hC => ok_move rfl) rfl rfl rfl ?_)
  all_goals (refine WH.take 12 rfl (by kernel_rfl) (by kernel_rfl) (by kernel_rfl) (by kernel_rfl) rfl (by first | exact Ext.refl _ _ | assumption) (fun hq hC => ok_extract rfl rfl) rfl rfl rfl ?_)
  all_goals (refine WH.take 13 rfl (by kernel_rfl) (by kernel_rfl) (by kernel_rfl) (by kernel_rfl) rfl (by first | exact Ext.refl _ _ | assumption) (fun hq hC => ok_extract rfl rfl) rfl rfl rfl ?_)
  all_goals (refine WH.take 14 rfl (by kernel_rfl) (by kernel_rfl) (by kernel_rfl) (by kernel_rfl) rfl (by first | exact Ext.refl _ _ | assumption) (fun hq hC => ok_assign rfl) rfl rfl rfl ?_)
  all_goals (refine WH.take 15 rfl (by kernel_rfl) (by kernel_rfl) (by kernel_rfl) (by kernel_rfl) rfl (by first | exact Ext.refl _ _ | assumption) (fun hq hC => ok_assign rfl) rfl rfl rfl ?_)
  all_goals (refine WH.done (by kernel_rfl) ?_)
  all_goals (repeat' (with_reducible first | refine thenP_n ?_ | refine blockP_n ?_))
  all_goals (refine WC.sub [(1, _), (2, _), (3, _), (10, _), (12, _), (14, _)] ⟨rfl, rfl, rfl, rfl, rfl, rfl, trivial⟩ ?_)
  all_goals (refine WC.seq ?_)
  all_goals (have hX7 := hX6.trans hE4)
  all_goals (refine WC.region ?_)
  all_goals (refine WL.step (ok_move rfl) rfl rfl rfl ?_)
  all_goals (refine WL.step (ok_move rfl) rfl rfl rfl ?_)
  all_goals (refine WL.call (vs := [_]) rfl (fun a w => Tryz.call18 a w) rfl (missing_any t (by omega)) rfl rfl rfl ?_
             rintro _ h7 ⟨rfl, hx7⟩)
  all_goals (first | (refine WL.step (OkP.bool_t (by first | rfl | assumption | decide) (ok_eqlS rfl rfl)) rfl rfl rfl ?_) | (refine WL.step (OkP.bool_f (by first | assumption | decide) (ok_eqlS rfl rfl)) rfl rfl rfl ?_) | (refine WL.step (ok_eqlS rfl rfl) rfl rfl rfl ?_))
  all_goals (refine WL.step (ok_move rfl) rfl rfl rfl ?_)
  all_goals (try ((fail_if_success (refine WL.part 66 (b := true) rfl (fun _ => ?_) (fun _ => ?_))); (fail_if_success (refine WL.part 66 (b := false) rfl (fun _ => ?_) (fun _ => ?_))); (refine WL.part 66 rfl (fun hb => ?_) (fun hb => ?_) <;> (first | replace hb := of_decide_eq_true hb | replace hb := of_decide_eq_false hb | replace hb := of_decide_eq_false (nt hb) | replace hb := of_decide_eq_true (nf hb) | skip))))
  all_goals (first | (refine WL.pass rfl rfl rfl ?_) | (refine WL.step (ok_move rfl) rfl rfl rfl ?_))
  all_goals (first | (refine WL.pass rfl rfl rfl ?_) | (refine WL.step (ok_move rfl) rfl rfl rfl ?_))
  all_goals (first
               | (refine WL.pass rfl rfl rfl ?_)
               | (refine WL.call (vs := [_]) rfl (fun a w => Tryz.call19 a w) rfl (exists_any t (by omega)) rfl rfl rfl ?_
                  rintro _ h8 ⟨rfl, hx8⟩))
  all_goals (first | (refine WL.pass rfl rfl rfl ?_) | (first | (refine WL.step (OkP.bool_t (by first | rfl | assumption | decide) (ok_eqlS rfl rfl)) rfl rfl rfl ?_) | (refine WL.step (OkP.bool_f (by first | assumption | decide) (ok_eqlS rfl rfl)) rfl rfl rfl ?_) | (refine WL.step (ok_eqlS rfl rfl) rfl rfl rfl ?_)))
  all_goals (first | (refine WL.step (ok_pick_t rfl rfl) rfl rfl rfl ?_) | (refine WL.step (ok_pick_f rfl rfl) rfl rfl rfl ?_))
  all_goals (refine WL.step (ok_move rfl) rfl rfl rfl ?_)
  all_goals (try ((fail_if_success (refine WL.part 72 (b := true) rfl (fun _ => ?_) (fun _ => ?_))); (fail_if_success (refine WL.part 72 (b := false) rfl (fun _ => ?_) (fun _ => ?_))); (refine WL.part 72 rfl (fun hb => ?_) (fun hb => ?_) <;> (first | replace hb := of_decide_eq_true hb | replace hb := of_decide_eq_false hb | replace hb := of_decide_eq_false (nt hb) | replace hb := of_decide_eq_true (nf hb) | skip))))
  all_goals (first | (refine WL.pass rfl rfl rfl ?_) | (refine WL.step (ok_move rfl) rfl rfl rfl ?_))
  all_goals (first | (refine WL.pass rfl rfl rfl ?_) | (refine WL.step (ok_move rfl) rfl rfl rfl ?_))
  all_goals (first | (refine WL.pass rfl rfl rfl ?_) | (first | (refine WL.step (ok_convI Tryz.underlying5 Tryz.underlying3 rfl (by omega)) rfl rfl rfl ?_) | (refine WL.step (ok_conv Tryz.underlying5 Tryz.underlying3 rfl) rfl rfl rfl ?_)))
  all_goals (first | (refine WL.pass rfl rfl rfl ?_) | (refine WL.step (ok_move rfl) rfl rfl rfl ?_))
  all_goals (first | (refine WL.pass rfl rfl rfl ?_) | (refine WL.step (ok_move rfl) rfl rfl rfl ?_))
  all_goals (first | (refine WL.pass rfl rfl rfl ?_) | (first | (refine WL.step (ok_convI Tryz.underlying5 Tryz.underlying3 rfl (by omega)) rfl rfl rfl ?_) | (refine WL.step (ok_conv Tryz.underlying5 Tryz.underlying3 rfl) rfl rfl rfl ?_)))
  all_goals (first
               | (refine WL.pass rfl rfl rfl ?_)
               | (refine WL.call (vs := [_, _, _]) rfl (fun a w => Tryz.call20 a w) rfl (arity_any p t w (by omega) (by omega) (by omega)) rfl rfl rfl ?_
                  rintro _ h10 ⟨rfl, hx10⟩))
  all_goals (first | (refine WL.pass rfl rfl rfl ?_) | (first | (refine WL.step (OkP.bool_t (by first | rfl | assumption | decide) (ok_eqlS rfl rfl)) rfl rfl rfl ?_) | (refine WL.step (OkP.bool_f (by first | assumption | decide) (ok_eqlS rfl rfl)) rfl rfl rfl ?_) | (refine WL.step (ok_eqlS rfl rfl) rfl rfl rfl ?_)))
  all_goals (first | (refine WL.step (ok_pick_t rfl rfl) rfl rfl rfl ?_) | (refine WL.step (ok_pick_f rfl rfl) rfl rfl rfl ?_))
  all_goals (refine WL.step (ok_move rfl) rfl rfl rfl ?_)
  all_goals (try ((fail_if_success (refine WL.part 82 (b := true) rfl (fun _ => ?_) (fun _ => ?_))); (fail_if_success (refine WL.part 82 (b := false) rfl (fun _ => ?_) (fun _ => ?_))); (refine WL.part 82 rfl (fun hb => ?_) (fun hb => ?_) <;> (first | replace hb := of_decide_eq_true hb | replace hb := of_decide_eq_false hb | replace hb := of_decide_eq_false (nt hb) | replace hb := of_decide_eq_true (nf hb) | skip))))
  all_goals (first
               | (refine WL.pass rfl rfl rfl ?_)
               | (refine WL.call (vs := []) rfl (fun a w => Tryz.call8 a w) rfl (awake25 (hM.ext0 (((hX7.trans hx7).trans hx8).trans hx10))) rfl rfl rfl ?_
                  rintro _ h9 ⟨rfl, hx9⟩))
  all_goals (first | (refine WL.step (ok_pick_t rfl rfl) rfl rfl rfl ?_) | (refine WL.step (ok_pick_f rfl rfl) rfl rfl rfl ?_))
  all_goals (refine WL.step (ok_assign rfl) rfl rfl rfl ?_)
  all_goals (refine WL.nil ?_)
  all_goals (repeat' (with_reducible first | refine thenP_n ?_ | refine blockP_n ?_))
  all_goals (refine WC.sub [(8, _)] ⟨rfl, trivial⟩ ?_)
  all_goals (refine WC.ret ?_)
  all_goals (repeat' (with_reducible first | refine thenP_r ?_ | refine blockP_r ?_))
  all_goals (refine retP_1 _ ⟨rfl, trivial⟩ ?_)
  all_goals (first | exact ⟨rfl, (((hX7.trans hx7).trans hx8).trans hx10).trans hx9⟩ | exact ⟨rfl, hx9⟩)
theorem wf8 {n : Int} (h : (Lit.int .u8 n).wf = true) : 0 ≤ n ∧ n ≤ 255 := by simpa [Lit.wf, IntKind.min, IntKind.max, IntKind.signed, IntKind.bits] using h

namespace LFixSays
open Go.ChangeShapes Go.WideShapes Go.ChangeAt Go.RowKit
open Go.ChangeMaps (open_string shut_string)
theorem own : ownKnob Tryz.prog.godebug = none := by kernel_rfl
theorem laidOut : laidOutB Tryz.prog = true := by kernel_rfl
set_option maxRecDepth 100000 in
theorem lifted (os : Os) (started : os.Started) (H : Type) (enc : TypeId × Value → H) :
    ReturnsInHanded {} Tryz.checked os 5 .any (fun w args => (Rows.fixSaysSpec.pre enc Tryz.prog Tryz.f5 [] false w args ∧ laidMetH Tryz.prog Rows.fixSaysRow.laid w) ∧ sizedMet enc Tryz.prog Tryz.f5 (OpenSpec.ofChange Rows.fixSaysSpec) false w args) (Rows.fixSaysSpec.post enc Tryz.prog Tryz.f5 false true false false) := by
  refine returnsInHanded_both (C := Tryz.checked) (X := fun w _ => laidMetH Tryz.prog Rows.fixSaysRow.laid w) own started (by kernel_rfl) Tryz.func5
    (ChangeSpec.witness_shaped (enc := enc) (C := Tryz.checked) (os := os) (X := fun w _ => laidMetH Tryz.prog Rows.fixSaysRow.laid w) false (World.laidAll Tryz.prog os Rows.fixSaysRow.laid) #[.string ByteArray.empty, .string ByteArray.empty, .int .u8 0, .int .u8 0] 8 (World.laidAll_os _ _ _)
      (World.shaped_of_ZipB (by kernel_rfl) (by kernel_rfl)) (by kernel_rfl) (by kernel_rfl) (by kernel_rfl)
      (by rw [MakeChecks.laidMetH_plain _ _ _ (by kernel_rfl)]; exact laidMet_laidAll _ (by kernel_rfl) (by kernel_rfl))) ?_
  intro W base args ds gs before hval0 hW hcnd hsz0 hshape
  have hval : ∀ (j : Nat) t v, Tryz.f5.params[j]? = some t → args[j]? = some v → Value.okWide Tryz.prog W .any base t v := hval0
  have hsz := hsz0
  rw [Tryz.params5] at hsz
  clear hsz0
  have hW' := hW
  obtain ⟨p, q, hA0, hV, rfl, hfz, hnd⟩ := hW
  have hA : DataW.TrodAll enc Tryz.prog W 0 (fun _ => true) true Tryz.f5.params.toList args.toList ds p := hA0
  rw [Tryz.params5] at hA hval
  obtain ⟨v0, vs0, d0, ds0, p0, q0, hargs, rfl, rfl, h0, r0⟩ := trodAll_cons hA
  obtain ⟨v1, vs1, d1, ds1, p1, q1, rfl, rfl, rfl, h1, r1⟩ := trodAll_cons r0
  obtain ⟨v2, vs2, d2, ds2, p2, q2, rfl, rfl, rfl, h2, r2⟩ := trodAll_cons r1
  obtain ⟨v3, vs3, d3, ds3, p3, q3, rfl, rfl, rfl, h3, r3⟩ := trodAll_cons r2
  obtain ⟨rfl, rfl, rfl⟩ := trodAll_nil r3
  obtain rfl : args = #[v0, v1, v2, v3] := by cases args; simp_all
  obtain ⟨rfl, rfl⟩ := trodVars_none hV
  have hz0 : ∀ n ∈ d0.weights Tryz.prog 9, n ≤ reachBytes := fun n hn => by simpa using List.all_eq_true.1 hsz n (DataW.weights_mem_each (j := 0) rfl rfl n hn)
  have k0 := h0
  have lt0 : ∀ x ∈ p0, x.block < W.heap.size := by obtain ⟨m, hm⟩ := k0; exact DataW.trod_lt m _ _ _ hm
  obtain ⟨a0, rfl, e0, _, w0⟩ := open_string Tryz.underlying9 (hval 0 9 v0 rfl rfl) h0
  have hz1 : ∀ n ∈ d1.weights Tryz.prog 9, n ≤ reachBytes := fun n hn => by simpa using List.all_eq_true.1 hsz n (DataW.weights_mem_each (j := 1) rfl rfl n hn)
  have k1 := h1
  have lt1 : ∀ x ∈ p1, x.block < W.heap.size := by obtain ⟨m, hm⟩ := k1; exact DataW.trod_lt m _ _ _ hm
  obtain ⟨a1, rfl, e1, _, w1⟩ := open_string Tryz.underlying9 (hval 1 9 v1 rfl rfl) h1
  have hz2 : ∀ n ∈ d2.weights Tryz.prog 5, n ≤ reachBytes := fun n hn => by simpa using List.all_eq_true.1 hsz n (DataW.weights_mem_each (j := 2) rfl rfl n hn)
  have k2 := h2
  have lt2 : ∀ x ∈ p2, x.block < W.heap.size := by obtain ⟨m, hm⟩ := k2; exact DataW.trod_lt m _ _ _ hm
  obtain ⟨a2, rfl, e2, _, w2⟩ := open_int Tryz.underlying5 (hval 2 5 v2 rfl rfl) h2
  have hz3 : ∀ n ∈ d3.weights Tryz.prog 5, n ≤ reachBytes := fun n hn => by simpa using List.all_eq_true.1 hsz n (DataW.weights_mem_each (j := 3) rfl rfl n hn)
  have k3 := h3
  have lt3 : ∀ x ∈ p3, x.block < W.heap.size := by obtain ⟨m, hm⟩ := k3; exact DataW.trod_lt m _ _ _ hm
  obtain ⟨a3, rfl, e3, _, w3⟩ := open_int Tryz.underlying5 (hval 3 5 v3 rfl rfl) h3
  clear hA0 hval0
  refine (law_calls (says25 a0.data.toList a1.data.toList a2 a3 (show a0.data.toList.length ≤ maxLen from w0) (show a1.data.toList.length ≤ maxLen from w1) (wf8 w2) (wf8 w3) (Tryz.laysM154.s1_3 W hshape))).mono fun e W' ⟨he, bel⟩ => ?_
  subst he
  exact ⟨_, rfl, _, _, _, [], _, [], hW', trodAll_mk1 (shut_bool Tryz.underlying4 _), (trodAll_cons_mk (Below.trod laidOut (by kernel_rfl) (of_decide_eq_true (by kernel_rfl)) k0 bel lt0) (trodAll_cons_mk (Below.trod laidOut (by kernel_rfl) (of_decide_eq_true (by kernel_rfl)) k1 bel lt1) (trodAll_cons_mk (Below.trod laidOut (by kernel_rfl) (of_decide_eq_true (by kernel_rfl)) k2 bel lt2) (trodAll_cons_mk (Below.trod laidOut (by kernel_rfl) (of_decide_eq_true (by kernel_rfl)) k3 bel lt3) trodAll_mk0)))), rfl, bel.frame _, fun h => by cases h⟩
theorem over : Rows.fixSaysRow.holds Tryz.pinned (OpenSpec.ofChange Rows.fixSaysSpec) :=
  OpenClaim.holds_of_wide 5 Tryz.f5 rfl rfl rfl rfl rfl rfl rfl ⟨rfl, rfl, rfl, rfl, rfl⟩ rfl rfl rfl rfl rfl (by kernel_rfl) Tryz.func5 (by kernel_rfl)
    (of_decide_eq_true (by kernel_rfl)) (by unfold Func.isWrapper; first | (rw [if_pos (by decide +kernel)]; kernel_rfl) | (rw [if_neg (by decide +kernel)]; exact ⟨rfl, rfl⟩))
    (fun os started H enc _ => lifted os started H enc)
end LFixSays
theorem fixSays_card : Rows.FixSaysCardSaid :=
  Claim7.holds_tied_plain_at .later [] Rows.fixSaysCard.laidKinds true Rows.fixSaysCard.stood.harness false
    LFixSays.over (fun _ h => by cases h) (by kernel_rfl) (fun _ h => by cases h) fixSays_row_tie rfl ⟨rfl, rfl⟩ (by kernel_rfl) rfl
    (fun f fn hf hfn => by
      obtain rfl : f = 5 := Option.some.inj ((show Tryz.prog.funcNamed Rows.fixSaysRow.func = some 5 by kernel_rfl).symm.trans hf) |>.symm
      obtain rfl : fn = Tryz.f5 := (Option.some.inj (Tryz.func5.symm.trans hfn)).symm
      exact ⟨by kernel_rfl, fun j t ht => by
        rw [Tryz.params5] at ht
        have hm : t ∈ [9, 9, 5, 5] := by simpa using Array.mem_of_getElem? ht
        have hall : ([9, 9, 5, 5].all fun u => !Tryz.prog.wantsStandIn u) = true := by kernel_rfl
        exact (show Tryz.prog.wantsStandIn t = false by simpa using List.all_eq_true.1 hall t hm)⟩)
    (by kernel_rfl)
#print axioms fixSays_card
end Go.Proofs.YtkpgnhhidnkmcaaGreatDoor

