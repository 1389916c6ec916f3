/-
  HbaParses holds: any text's rules, or the line that is wrong, and any rules' text, are what the document says.
-/
import Derived.Test.YtfbekbkkklijiaaDoorHba6
import Derived.Test.YtfbekbkkklijiaaDoorHbaAw
import Derived.Test.YtfbekbkkklijiaaDoorRows
import Derived.Test.YtfbekbkkklijiaaDoorCards
import Derived.Test.YtfbekbkkklijiaaDoorTie
import Derived.Lay
import Derived.LaidOnce
import Derived.SevenTiedAt
namespace Go.Proofs.YtfbekbkkklijiaaDoor
open Go Go.RK

set_option maxHeartbeats 1000000 in
set_option maxRecDepth 100000 in
theorem parses_law {h : Heap} {v : Value} (s : List UInt8) (l : List RuD) (hl : Rus h v l) (hM : Ml h) :
    CallsH Tryd.prog 8 ⟨[St s, v]⟩ h fun u h' => u = .bool true ∧ Ext No h h' := by
  obtain ⟨A, c, rfl, _⟩ := id hl.1
  have hPl := parseL_len s
  refine calls [(0, _), (1, _)] Tryd.func8 rfl Tryd.ntmps8 rfl ⟨rfl, rfl, trivial⟩ ?_
  all_goals (refine WC.seq ?_)
  all_goals (refine WC.region ?_)
  all_goals (refine WL.step (ok_assign rfl) rfl rfl rfl ?_)
  all_goals (refine WL.nil ?_)
  all_goals (repeat' (with_reducible first | refine thenP_n ?_ | refine blockP_n ?_))
  all_goals (refine WC.seq ?_)
  all_goals (refine WC.seq ?_)
  all_goals (refine WC.region ?_)
  all_goals (refine WL.step (ok_move rfl) rfl rfl rfl ?_)
  all_goals (refine WL.call (vs := [_]) rfl (fun a w => Tryd.call10 a w) rfl (far_any l hl) rfl rfl rfl ?_
             rintro _ h1 ⟨rfl, hx1⟩)
  all_goals (cases hfar : farL l)
  all_goals (refine WL.step (ok_move rfl) rfl rfl rfl ?_)
  all_goals (try ((fail_if_success (refine WL.part 17 (b := true) rfl (fun _ => ?_) (fun _ => ?_))); (fail_if_success (refine WL.part 17 (b := false) rfl (fun _ => ?_) (fun _ => ?_))); (refine WL.part 17 rfl (fun hb => ?_) (fun hb => ?_) <;> (first | replace hb := of_decide_eq_true hb | replace hb := of_decide_eq_false hb | replace hb := of_decide_eq_false (nt hb) | replace hb := of_decide_eq_true (nf hb) | skip))))
  all_goals (first | (refine WL.pass rfl rfl rfl ?_) | (refine WL.step (ok_move rfl) rfl rfl rfl ?_))
  all_goals (first | (refine WL.pass rfl rfl rfl ?_) | (refine WL.step (ok_lenS rfl Tryd.underlying9 rfl) rfl rfl rfl ?_))
  all_goals (first | (refine WL.pass rfl rfl rfl ?_) | (first | (refine WL.step (OkP.bool_t (by omega) (ok_gtr rfl rfl)) rfl rfl rfl ?_) | (refine WL.step (OkP.bool_f (by omega) (ok_gtr rfl rfl)) rfl rfl rfl ?_) | (refine WL.step (ok_gtr rfl rfl) rfl rfl rfl ?_)))
  all_goals (first | (refine WL.step (ok_pick_t rfl rfl) rfl rfl rfl ?_) | (refine WL.step (ok_pick_f rfl rfl) rfl rfl rfl ?_))
  all_goals (refine WL.nil ?_)
  all_goals (repeat' (with_reducible first | refine thenP_n ?_ | refine blockP_n ?_))
  all_goals (refine WC.sub [(0, _), (1, _), (21, _)] ⟨rfl, rfl, rfl, trivial⟩ ?_)
  all_goals (first | refine WC.condB_t 1 rfl ?_ | refine WC.condB_f 2 rfl ?_ | (refine WC.condB 1 2 rfl (fun hb => ?_) (fun hb => ?_) <;> (first | replace hb := of_decide_eq_true hb | replace hb := of_decide_eq_false hb | replace hb := of_decide_eq_false (nt hb) | replace hb := of_decide_eq_true (nf hb) | skip)))
  all_goals (first
    | (fail_if_success (refine Br.mk (i := 1) ?_))
    | (refine Br.mk (i := 1) ?_
       all_goals (refine WC.seq ?_)
       all_goals (refine WC.region ?_)
       all_goals (refine WL.call (vs := []) rfl (fun a w => Tryd.call11 a w) rfl (awake52 (hM.ext0 hx1)) rfl rfl rfl ?_
                  rintro _ h9 ⟨rfl, hx9⟩)
       all_goals (refine WL.step (ok_assign rfl) rfl rfl rfl ?_)
       all_goals (refine WL.nil ?_)
       all_goals (repeat' (with_reducible first | refine thenP_n ?_ | refine blockP_n ?_))
       all_goals (refine WC.sub [(4, _)] ⟨rfl, trivial⟩ ?_)
       all_goals (refine WC.ret ?_)
       all_goals (repeat' (with_reducible first | refine thenP_r ?_ | refine blockP_r ?_))
       all_goals (refine retP_1 _ ⟨rfl, trivial⟩ ?_)
       all_goals (first | exact ⟨rfl, hx1.trans hx9⟩ | exact ⟨rfl, (hX6.trans hx7).trans hx9⟩)
       skip))
  all_goals (first
    | (fail_if_success (refine Br.mk (i := 2) ?_))
    | (refine Br.mk (i := 2) ?_
       all_goals (refine WC.skip ?_)
       skip))
  all_goals (repeat' (with_reducible first | refine thenP_n ?_ | refine blockP_n ?_))
  all_goals (refine WC.seq ?_)
  all_goals (refine WC.region ?_)
  all_goals (have h30 := (farL_no hfar).1)
  all_goals (refine WL.step (ok_move rfl) rfl rfl rfl ?_)
  all_goals (refine WL.call (vs := [_]) rfl (fun a w => Tryd.call28 a w) rfl (parse_any s (hM.ext0 hx1) (by unfold reachBytes; omega)) rfl rfl rfl ?_
             rintro _ h2 ⟨v2, rfl, ho2, hx2, hf2⟩)
  all_goals (obtain ⟨A2, c2, rfl, _⟩ := ho2.slice
             have hX2 := hx1.trans hx2)
  all_goals (refine WL.step (ok_move rfl) rfl rfl rfl ?_)
  all_goals (refine WL.step (ok_extract rfl rfl) rfl rfl rfl ?_)
  all_goals (refine WL.step (ok_extract rfl rfl) rfl rfl rfl ?_)
  all_goals (refine WL.step (ok_extract rfl rfl) rfl rfl rfl ?_)
  all_goals (refine WL.step (ok_assign rfl) rfl rfl rfl ?_)
  all_goals (refine WL.step (ok_assign rfl) rfl rfl rfl ?_)
  all_goals (refine WL.step (ok_assign rfl) rfl rfl rfl ?_)
  all_goals (refine WL.nil ?_)
  all_goals (repeat' (with_reducible first | refine thenP_n ?_ | refine blockP_n ?_))
  all_goals (refine WC.sub [(0, _), (1, _), (5, _), (6, _), (7, _)] ⟨rfl, rfl, rfl, rfl, rfl, trivial⟩ ?_)
  all_goals (refine WC.seq ?_)
  all_goals (refine WC.region ?_)
  all_goals (refine WL.step (ok_move rfl) rfl rfl rfl ?_)
  all_goals (refine WL.call (vs := [_]) rfl (fun a w => Tryd.call29 a w) rfl (parse_ref s (by unfold reachBytes; omega)) rfl rfl rfl ?_
             rintro _ h3 ⟨v3, rfl, ho3, hx3, hf3⟩)
  all_goals (obtain ⟨A3, c3, rfl, _⟩ := ho3.slice
             have hX3 := hX2.trans hx3)
  all_goals (refine WL.step (ok_move rfl) rfl rfl rfl ?_)
  all_goals (refine WL.step (ok_extract rfl rfl) rfl rfl rfl ?_)
  all_goals (refine WL.step (ok_extract rfl rfl) rfl rfl rfl ?_)
  all_goals (refine WL.step (ok_extract rfl rfl) rfl rfl rfl ?_)
  all_goals (refine WL.step (ok_assign rfl) rfl rfl rfl ?_)
  all_goals (refine WL.step (ok_assign rfl) rfl rfl rfl ?_)
  all_goals (refine WL.step (ok_assign rfl) rfl rfl rfl ?_)
  all_goals (refine WL.nil ?_)
  all_goals (repeat' (with_reducible first | refine thenP_n ?_ | refine blockP_n ?_))
  all_goals (refine WC.sub [(1, _), (5, _), (6, _), (7, _), (8, _), (9, _), (10, _)] ⟨rfl, rfl, rfl, rfl, rfl, rfl, rfl, trivial⟩ ?_)
  all_goals (refine WC.seq ?_)
  all_goals (refine WC.region ?_)
  all_goals (refine WL.step (ok_move rfl) rfl rfl rfl ?_)
  all_goals (refine WL.call (vs := [_]) rfl (fun a w => Tryd.call30 a w) rfl (print_any l (hl.ext0 hX3) (hM.ext0 hX3) hfar) rfl rfl rfl ?_
             rintro _ h4 ⟨rfl, hx4⟩)
  all_goals (have hX4 := hX3.trans hx4)
  all_goals (refine WL.step (ok_move rfl) rfl rfl rfl ?_)
  all_goals (refine WL.step (ok_extract rfl rfl) rfl rfl rfl ?_)
  all_goals (refine WL.step (ok_extract rfl rfl) rfl rfl rfl ?_)
  all_goals (refine WL.step (ok_assign rfl) rfl rfl rfl ?_)
  all_goals (refine WL.step (ok_assign rfl) rfl rfl rfl ?_)
  all_goals (refine WL.nil ?_)
  all_goals (repeat' (with_reducible first | refine thenP_n ?_ | refine blockP_n ?_))
  all_goals (refine WC.sub [(1, _), (5, _), (6, _), (7, _), (8, _), (9, _), (10, _), (11, _), (12, _)] ⟨rfl, rfl, rfl, rfl, rfl, rfl, rfl, rfl, rfl, trivial⟩ ?_)
  all_goals (refine WC.seq ?_)
  all_goals (refine WC.region ?_)
  all_goals (refine WL.step (ok_move rfl) rfl rfl rfl ?_)
  all_goals (refine WL.call (vs := [_]) rfl (fun a w => Tryd.call14 a w) rfl (own52 l (hl.ext0 hX4) (by omega)) rfl rfl rfl ?_
             rintro v5 h5 ⟨ho5, hx5, hf5⟩)
  all_goals (refine WL.call (vs := [_]) rfl (fun a w => Tryd.call31 a w) rfl (print_ref l ho5.rd hfar) rfl rfl rfl ?_
             rintro _ h6 ⟨rfl, hx6⟩)
  all_goals (have hX6 := (hX4.trans hx5).trans hx6
             have hx36 := ((hx4.trans hx5).trans hx6)
             have hx26 := hx3.trans hx36)
  all_goals (refine WL.step (ok_move rfl) rfl rfl rfl ?_)
  all_goals (refine WL.step (ok_extract rfl rfl) rfl rfl rfl ?_)
  all_goals (refine WL.step (ok_extract rfl rfl) rfl rfl rfl ?_)
  all_goals (refine WL.step (ok_assign rfl) rfl rfl rfl ?_)
  all_goals (refine WL.step (ok_assign rfl) rfl rfl rfl ?_)
  all_goals (refine WL.nil ?_)
  all_goals (repeat' (with_reducible first | refine thenP_n ?_ | refine blockP_n ?_))
  all_goals (refine WC.sub [(5, _), (6, _), (7, _), (8, _), (9, _), (10, _), (11, _), (12, _), (13, _), (14, _)] ⟨rfl, rfl, rfl, rfl, rfl, rfl, rfl, rfl, rfl, rfl, trivial⟩ ?_)
  all_goals (refine WC.seq ?_)
  all_goals (refine WC.region ?_)
  all_goals (refine WL.step (ok_move rfl) rfl rfl rfl ?_)
  all_goals (refine WL.call (vs := [_]) rfl (fun a w => Tryd.call14 a w) rfl (own52 (parseL s).1 ⟨ho2.rd.ext0 hx26, (by unfold reachBytes; omega)⟩ (by omega)) rfl rfl rfl ?_
             rintro v7 h7 ⟨ho7, hx7, hf7⟩)
  all_goals (refine WL.step (ok_move rfl) rfl rfl rfl ?_)
  all_goals (refine WL.call (vs := [_, _]) rfl (fun a w => Tryd.call32 a w) rfl (same52 (parseL s).1 (parseL s).1 ho7.rd (ho3.rd.ext0 (hx36.trans hx7)) (by omega) (by omega)) rfl rfl rfl ?_
             rintro _ hz ⟨rfl, _⟩
             subst hz)
  all_goals (rw [decide_eq_true rfl])
  all_goals (refine WL.step (ok_move rfl) rfl rfl rfl ?_)
  all_goals (try ((fail_if_success (refine WL.part 50 (b := true) rfl (fun _ => ?_) (fun _ => ?_))); (fail_if_success (refine WL.part 50 (b := false) rfl (fun _ => ?_) (fun _ => ?_))); (refine WL.part 50 rfl (fun hb => ?_) (fun hb => ?_) <;> (first | replace hb := of_decide_eq_true hb | replace hb := of_decide_eq_false hb | replace hb := of_decide_eq_false (nt hb) | replace hb := of_decide_eq_true (nf hb) | skip))))
  all_goals (first | (refine WL.pass rfl rfl rfl ?_) | (refine WL.step (ok_move rfl) rfl rfl rfl ?_))
  all_goals (first | (refine WL.pass rfl rfl rfl ?_) | (refine WL.step (ok_move rfl) rfl rfl rfl ?_))
  all_goals (first | (refine WL.pass rfl rfl rfl ?_) | (first | (refine WL.step (OkP.bool_t (by omega) (ok_eql rfl rfl)) rfl rfl rfl ?_) | (refine WL.step (OkP.bool_f (by omega) (ok_eql rfl rfl)) rfl rfl rfl ?_) | (refine WL.step (ok_eql rfl rfl) rfl rfl rfl ?_)))
  all_goals (first | (refine WL.step (ok_pick_t rfl rfl) rfl rfl rfl ?_) | (refine WL.step (ok_pick_f rfl rfl) rfl rfl rfl ?_))
  all_goals (refine WL.step (ok_move rfl) rfl rfl rfl ?_)
  all_goals (try ((fail_if_success (refine WL.part 55 (b := true) rfl (fun _ => ?_) (fun _ => ?_))); (fail_if_success (refine WL.part 55 (b := false) rfl (fun _ => ?_) (fun _ => ?_))); (refine WL.part 55 rfl (fun hb => ?_) (fun hb => ?_) <;> (first | replace hb := of_decide_eq_true hb | replace hb := of_decide_eq_false hb | replace hb := of_decide_eq_false (nt hb) | replace hb := of_decide_eq_true (nf hb) | skip))))
  all_goals (first | (refine WL.pass rfl rfl rfl ?_) | (refine WL.step (ok_move rfl) rfl rfl rfl ?_))
  all_goals (first | (refine WL.pass rfl rfl rfl ?_) | (refine WL.step (ok_move rfl) rfl rfl rfl ?_))
  all_goals (first | (refine WL.pass rfl rfl rfl ?_) | (first | (refine WL.step (OkP.bool_t (by omega) (ok_eql rfl rfl)) rfl rfl rfl ?_) | (refine WL.step (OkP.bool_f (by omega) (ok_eql rfl rfl)) rfl rfl rfl ?_) | (refine WL.step (ok_eql rfl rfl) rfl rfl rfl ?_)))
  all_goals (first | (refine WL.step (ok_pick_t rfl rfl) rfl rfl rfl ?_) | (refine WL.step (ok_pick_f rfl rfl) rfl rfl rfl ?_))
  all_goals (refine WL.step (ok_move rfl) rfl rfl rfl ?_)
  all_goals (try ((fail_if_success (refine WL.part 60 (b := true) rfl (fun _ => ?_) (fun _ => ?_))); (fail_if_success (refine WL.part 60 (b := false) rfl (fun _ => ?_) (fun _ => ?_))); (refine WL.part 60 rfl (fun hb => ?_) (fun hb => ?_) <;> (first | replace hb := of_decide_eq_true hb | replace hb := of_decide_eq_false hb | replace hb := of_decide_eq_false (nt hb) | replace hb := of_decide_eq_true (nf hb) | skip))))
  all_goals (first | (refine WL.pass rfl rfl rfl ?_) | (refine WL.step (ok_move rfl) rfl rfl rfl ?_))
  all_goals (first | (refine WL.pass rfl rfl rfl ?_) | (refine WL.step (ok_move rfl) rfl rfl rfl ?_))
  all_goals (first | (refine WL.pass rfl rfl rfl ?_) | (first | (refine WL.step (OkP.bool_t (by first | rfl | assumption | decide) (ok_eqlS rfl rfl)) rfl rfl rfl ?_) | (refine WL.step (OkP.bool_f (by first | assumption | decide) (ok_eqlS rfl rfl)) rfl rfl rfl ?_) | (refine WL.step (ok_eqlS rfl rfl) rfl rfl rfl ?_)))
  all_goals (first | (refine WL.step (ok_pick_t rfl rfl) rfl rfl rfl ?_) | (refine WL.step (ok_pick_f rfl rfl) rfl rfl rfl ?_))
  all_goals (refine WL.step (ok_move rfl) rfl rfl rfl ?_)
  all_goals (try ((fail_if_success (refine WL.part 65 (b := true) rfl (fun _ => ?_) (fun _ => ?_))); (fail_if_success (refine WL.part 65 (b := false) rfl (fun _ => ?_) (fun _ => ?_))); (refine WL.part 65 rfl (fun hb => ?_) (fun hb => ?_) <;> (first | replace hb := of_decide_eq_true hb | replace hb := of_decide_eq_false hb | replace hb := of_decide_eq_false (nt hb) | replace hb := of_decide_eq_true (nf hb) | skip))))
  all_goals (first | (refine WL.pass rfl rfl rfl ?_) | (refine WL.step (ok_move rfl) rfl rfl rfl ?_))
  all_goals (first | (refine WL.pass rfl rfl rfl ?_) | (refine WL.step (ok_move rfl) rfl rfl rfl ?_))
  all_goals (first | (refine WL.pass rfl rfl rfl ?_) | (first | (refine WL.step (OkP.bool_t (by omega) (ok_eql rfl rfl)) rfl rfl rfl ?_) | (refine WL.step (OkP.bool_f (by omega) (ok_eql rfl rfl)) rfl rfl rfl ?_) | (refine WL.step (ok_eql rfl rfl) rfl rfl rfl ?_)))
  all_goals (first | (refine WL.step (ok_pick_t rfl rfl) rfl rfl rfl ?_) | (refine WL.step (ok_pick_f rfl rfl) rfl rfl rfl ?_))
  all_goals (refine WL.step (ok_move rfl) rfl rfl rfl ?_)
  all_goals (try ((fail_if_success (refine WL.part 70 (b := true) rfl (fun _ => ?_) (fun _ => ?_))); (fail_if_success (refine WL.part 70 (b := false) rfl (fun _ => ?_) (fun _ => ?_))); (refine WL.part 70 rfl (fun hb => ?_) (fun hb => ?_) <;> (first | replace hb := of_decide_eq_true hb | replace hb := of_decide_eq_false hb | replace hb := of_decide_eq_false (nt hb) | replace hb := of_decide_eq_true (nf hb) | skip))))
  all_goals (first
               | (refine WL.pass rfl rfl rfl ?_)
               | (refine WL.call (vs := []) rfl (fun a w => Tryd.call11 a w) rfl (awake52 (hM.ext0 (hX6.trans hx7))) rfl rfl rfl ?_
                  rintro _ h9 ⟨rfl, hx9⟩))
  all_goals (first | (refine WL.step (ok_pick_t rfl rfl) rfl rfl rfl ?_) | (refine WL.step (ok_pick_f rfl rfl) rfl rfl rfl ?_))
  all_goals (refine WL.step (ok_assign rfl) rfl rfl rfl ?_)
  all_goals (refine WL.nil ?_)
  all_goals (repeat' (with_reducible first | refine thenP_n ?_ | refine blockP_n ?_))
  all_goals (refine WC.sub [(4, _)] ⟨rfl, trivial⟩ ?_)
  all_goals (refine WC.ret ?_)
  all_goals (repeat' (with_reducible first | refine thenP_r ?_ | refine blockP_r ?_))
  all_goals (refine retP_1 _ ⟨rfl, trivial⟩ ?_)
  all_goals (first | exact ⟨rfl, hx1.trans hx9⟩ | exact ⟨rfl, (hX6.trans hx7).trans hx9⟩)

namespace LHbaParses
open Go.ChangeShapes Go.WideShapes Go.ChangeAt Go.RowKit
open Go.ChangeMaps (open_string shut_string)
theorem own : ownKnob Tryd.prog.godebug = none := by kernel_rfl
theorem laidOut : laidOutB Tryd.prog = true := by kernel_rfl
set_option maxRecDepth 100000 in
theorem lifted (os : Os) (started : os.Started) (H : Type) (enc : TypeId × Value → H) :
    ReturnsInHanded {} Tryd.checked os 8 .any (fun w args => (Rows.hbaParsesSpec.pre enc Tryd.prog Tryd.f8 [] false w args ∧ laidMetH Tryd.prog Rows.hbaParsesRow.laid w) ∧ sizedMet enc Tryd.prog Tryd.f8 (OpenSpec.ofChange Rows.hbaParsesSpec) false w args) (Rows.hbaParsesSpec.post enc Tryd.prog Tryd.f8 false true false false) := by
  refine returnsInHanded_both (C := Tryd.checked) (X := fun w _ => laidMetH Tryd.prog Rows.hbaParsesRow.laid w) own started (by kernel_rfl) Tryd.func8
    (ChangeSpec.witness_shaped (enc := enc) (C := Tryd.checked) (os := os) (X := fun w _ => laidMetH Tryd.prog Rows.hbaParsesRow.laid w) false (World.laidAll Tryd.prog os Rows.hbaParsesRow.laid) #[.string ByteArray.empty, .slice none 0 0] 8 (World.laidAll_os _ _ _)
      (World.shaped_of_ZipB (by kernel_rfl) (by kernel_rfl)) (by kernel_rfl) (by kernel_rfl) (by kernel_rfl)
      (by rw [MakeChecks.laidMetH_plain _ _ _ (by kernel_rfl)]; exact laidMet_laidAll _ (by kernel_rfl) (by kernel_rfl))) ?_
  intro W base args ds gs before hval0 hW hcnd hsz0 hshape
  have hval : ∀ (j : Nat) t v, Tryd.f8.params[j]? = some t → args[j]? = some v → Value.okWide Tryd.prog W .any base t v := hval0
  have hsz := hsz0
  rw [Tryd.params8] at hsz
  clear hsz0
  have hW' := hW
  obtain ⟨p, q, hA0, hV, rfl, hfz, hnd⟩ := hW
  have hA : DataW.TrodAll enc Tryd.prog W 0 (fun _ => true) true Tryd.f8.params.toList args.toList ds p := hA0
  rw [Tryd.params8] at hA hval
  obtain ⟨v0, vs0, d0, ds0, p0, q0, hargs, rfl, rfl, h0, r0⟩ := trodAll_cons hA
  obtain ⟨v1, vs1, d1, ds1, p1, q1, rfl, rfl, rfl, h1, r1⟩ := trodAll_cons r0
  obtain ⟨rfl, rfl, rfl⟩ := trodAll_nil r1
  obtain rfl : args = #[v0, v1] := by cases args; simp_all
  obtain ⟨rfl, rfl⟩ := trodVars_none hV
  have hz0 : ∀ n ∈ d0.weights Tryd.prog 9, n ≤ reachBytes := fun n hn => by simpa using List.all_eq_true.1 hsz n (DataW.weights_mem_each (j := 0) rfl rfl n hn)
  have k0 := h0
  have lt0 : ∀ x ∈ p0, x.block < W.heap.size := by obtain ⟨m, hm⟩ := k0; exact DataW.trod_lt m _ _ _ hm
  obtain ⟨a0, rfl, e0, _, w0⟩ := open_string Tryd.underlying9 (hval 0 9 v0 rfl rfl) h0
  have hz1 : ∀ n ∈ d1.weights Tryd.prog 22, n ≤ reachBytes := fun n hn => by simpa using List.all_eq_true.1 hsz n (DataW.weights_mem_each (j := 1) rfl rfl n hn)
  have k1 := h1
  have lt1 : ∀ x ∈ p1, x.block < W.heap.size := by obtain ⟨m, hm⟩ := k1; exact DataW.trod_lt m _ _ _ hm
  obtain ⟨A1, n1, c1, rfl⟩ := okWide_slice Tryd.underlying22 (hval 1 22 v1 rfl rfl)
  obtain ⟨fu1, hf1⟩ := h1
  obtain ⟨⟨v1, l1⟩, e1, w1⟩ := opens_rules W _ _ _ _ _ _ _ _ hf1 hz1
  obtain rfl : .slice A1 n1 c1 = v1 := by simpa [Value.cells] using e1
  clear hA0 hval0
  refine (law_calls (parses_law a0.data.toList l1 w1.1 (Tryd.laysM146.s1_3 W hshape))).mono fun e W' ⟨he, bel⟩ => ?_
  subst he
  exact ⟨_, rfl, _, _, _, [], _, [], hW', trodAll_mk1 (shut_bool Tryd.underlying4 _), (trodAll_cons_mk (Below.trod laidOut (by kernel_rfl) (of_decide_eq_true (by kernel_rfl)) k0 bel lt0) (trodAll_cons_mk (Below.trod laidOut (by kernel_rfl) (of_decide_eq_true (by kernel_rfl)) k1 bel lt1) trodAll_mk0)), rfl, bel.frame _, fun h => by cases h⟩
theorem over : Rows.hbaParsesRow.holds Tryd.pinned (OpenSpec.ofChange Rows.hbaParsesSpec) :=
  OpenClaim.holds_of_wide 8 Tryd.f8 rfl rfl rfl rfl rfl rfl rfl ⟨rfl, rfl, rfl, rfl, rfl⟩ rfl rfl rfl rfl rfl (by kernel_rfl) Tryd.func8 (by kernel_rfl)
    (of_decide_eq_true (by kernel_rfl)) (by unfold Func.isWrapper; first | (rw [if_pos (by decide +kernel)]; kernel_rfl) | (rw [if_neg (by decide +kernel)]; exact ⟨rfl, rfl⟩))
    (fun os started H enc _ => lifted os started H enc)
end LHbaParses
theorem hbaParses_card : Rows.HbaParsesCardSaid :=
  Claim7.holds_tied_plain_at .later [] Rows.hbaParsesCard.laidKinds true Rows.hbaParsesCard.stood.harness false
    LHbaParses.over (fun _ h => by cases h) (by kernel_rfl) (fun _ h => by cases h) hbaParses_row_tie rfl ⟨rfl, rfl⟩ (by kernel_rfl) rfl
    (fun f fn hf hfn => by
      obtain rfl : f = 8 := Option.some.inj ((show Tryd.prog.funcNamed Rows.hbaParsesRow.func = some 8 by kernel_rfl).symm.trans hf) |>.symm
      obtain rfl : fn = Tryd.f8 := (Option.some.inj (Tryd.func8.symm.trans hfn)).symm
      exact ⟨by kernel_rfl, fun j t ht => by
        rw [Tryd.params8] at ht
        have hm : t ∈ [9, 22] := by simpa using Array.mem_of_getElem? ht
        have hall : ([9, 22].all fun u => !Tryd.prog.wantsStandIn u) = true := by kernel_rfl
        exact (show Tryd.prog.wantsStandIn t = false by simpa using List.all_eq_true.1 hall t hm)⟩)
    (by kernel_rfl)
#print axioms hbaParses_card
end Go.Proofs.YtfbekbkkklijiaaDoor

