/-
  FIX (layer 25): the law's awake.
-/
import Derived.Test.YtkpgnhhidnkmcaaGreatDoorFlt5
namespace Go.Proofs.YtkpgnhhidnkmcaaGreatDoor
open Go Go.RK

theorem fl4_len (s c x : List UInt8) : (fl4 s c x).length = 4 := rfl
theorem get67 (s c x : List UInt8) : getT 67 (fl4 s c x) = some c := rfl
theorem get77 (s c x : List UInt8) : getT 77 (fl4 s c x) = some x := rfl
theorem with77 (s c x y : List UInt8) : withF 77 y (fl4 s c x) = fl4 s c y := rfl
theorem fl4_ok {s c x : List UInt8} (h1 : cleanB s = true) (h2 : cleanB c = true) (h3 : cleanB x = true) : ∀ f ∈ fl4 s c x, f.okB := fun f hf => by
  simp only [fl4, List.mem_cons, List.not_mem_nil, or_false] at hf
  rcases hf with rfl | rfl | rfl | rfl
  · exact ⟨by show ¬ (83 : Int) = 0; decide, h1⟩
  · exact ⟨by show ¬ (86 : Int) = 0; decide, h1⟩
  · exact ⟨by show ¬ (67 : Int) = 0; decide, h2⟩
  · exact ⟨by show ¬ (77 : Int) = 0; decide, h3⟩
theorem fl4_le {s c x : List UInt8} (h1 : s.length ≤ 200000) (h2 : c.length ≤ 200000) (h3 : x.length ≤ 200000) : ∀ f ∈ fl4 s c x, f.t.length ≤ 200000 ∧ 0 ≤ f.k ∧ f.k ≤ 255 := fun f hf => by
  simp only [fl4, List.mem_cons, List.not_mem_nil, or_false] at hf
  rcases hf with rfl | rfl | rfl | rfl
  · exact ⟨h1, by show (0 : Int) ≤ 83; decide, by show (83 : Int) ≤ 255; decide⟩
  · exact ⟨h1, by show (0 : Int) ≤ 86; decide, by show (86 : Int) ≤ 255; decide⟩
  · exact ⟨h2, by show (0 : Int) ≤ 67; decide, by show (67 : Int) ≤ 255; decide⟩
  · exact ⟨h3, by show (0 : Int) ≤ 77; decide, by show (77 : Int) ≤ 255; decide⟩
/-- What fix.Back makes of a fault whose text turns to y. -/
theorem back_fl {h : Heap} {v : Value} (f t c x y : List UInt8) (hr : Rd h v 2 4 ((fl4 ([69, 82, 82, 79, 82] : List UInt8) c x).flatMap FieldD.cells)) (hM : Ml h) (hxl : x.length ≤ 100000) (hfl : f.length ≤ 10000) (htl : t.length ≤ 10000) (hy : renL c x f t = y) (he : f = t → y = x) :
    CallsH Tryz.prog 10 ⟨[.agg ⟨eC f t⟩, .agg ⟨eB v⟩]⟩ h fun u h' => ∃ v', u = .agg ⟨eB v'⟩ ∧ Own h' v' 60 2 4 ((fl4 ([69, 82, 82, 79, 82] : List UInt8) c y).flatMap FieldD.cells) ∧ Ext No h h' := by
  have k := back_e (fl4 ([69, 82, 82, 79, 82] : List UInt8) c x) f t c x hr (by show 4 ≤ _; decide) (get67 _ _ _) (get77 _ _ _) hM hxl hfl htl
  rw [hy, with77] at k
  by_cases e : f = t
  · rw [if_pos e] at k
    rw [he e]
    exact k
  · rw [if_neg e] at k
    exact k
set_option maxHeartbeats 1000000 in
set_option maxRecDepth 100000 in
theorem shown_fl {h : Heap} {v : Value} (f t c x y : List UInt8) (hr : Rd h v 2 4 ((fl4 ([69, 82, 82, 79, 82] : List UInt8) c x).flatMap FieldD.cells)) (hM : Ml h) (hxl : x.length ≤ 100000) (hfl : f.length ≤ 10000) (htl : t.length ≤ 10000) (hy : renL c x f t = y) (he : f = t → y = x) (hcl : c.length ≤ 1000) (hyl : y.length ≤ 100000) (hc1 : cleanB c = true) (hc2 : cleanB y = true) :
    CallsH Tryz.prog 13 ⟨[.agg ⟨eC f t⟩, .agg ⟨eB v⟩]⟩ h fun u h' => ∃ L : List UInt8, (encF (fl4 ([69, 82, 82, 79, 82] : List UInt8) c y)).length + 1 ≤ L.length ∧ Own h' u 5 1 L.length (bys L) ∧ Ext No h h' := by
  have kb := fun h' (hx : Ext No h h') => back_fl f t c x y (hr.ext0 hx) (hM.ext0 hx) hxl hfl htl hy he
  have hF := fl4_le (s := ([69, 82, 82, 79, 82] : List UInt8)) (c := c) (x := y) (by decide) (by omega) (by omega)
  have hok := fl4_ok (s := ([69, 82, 82, 79, 82] : List UInt8)) (c := c) (x := y) rfl hc1 hc2
  have hel := encF_len (fl4 ([69, 82, 82, 79, 82] : List UInt8) c y) 200000 (fun f hf => (hF f hf).1)
  rw [fl4_len] at hel
  obtain ⟨A, cc, rfl, _⟩ := id hr
  unfold eC eB at *
  refine calls [(0, _), (1, _)] Tryz.func13 rfl Tryz.ntmps13 rfl ⟨rfl, rfl, trivial⟩ ?_
  all_goals (refine WC.seq ?_)
  all_goals (refine WC.region ?_)
  all_goals (refine WL.stepR (okE_box rfl) rfl rfl rfl ?_
             rintro _ h1 ⟨b1, rfl, hg1, hb1, hx1⟩)
  all_goals (refine WL.stepR (okE_box rfl) rfl rfl rfl ?_
             rintro _ h2 ⟨b2, rfl, hg2, hb2, hx2⟩)
  all_goals (have hb12 := hx2.obj hb1 nos
             have hX2 := hx1.trans hx2)
  all_goals (refine WL.step (ok_assign rfl) rfl rfl rfl ?_)
  all_goals (refine WL.nil ?_)
  all_goals (repeat' (with_reducible first | refine thenP_n ?_ | refine blockP_n ?_))
  all_goals (refine WC.seq ?_)
  all_goals (refine WC.seq ?_)
  all_goals (refine WC.region ?_)
  all_goals (refine WL.step (ok_fieldAddr rfl Tryz.underlying26 rfl (fun w => Tryz.sizeOf4 w)) rfl rfl rfl ?_)
  all_goals (refine WL.step (ok_load (fun w => Tryz.isAgg4 w) rfl (by first | exact cell_blk hb12 rfl | assumption | exact cell_blk (by assumption) rfl)) rfl rfl rfl ?_)
  all_goals (refine WL.nil ?_)
  all_goals (repeat' (with_reducible first | refine thenP_n ?_ | refine blockP_n ?_))
  all_goals (refine WC.sub [(2, _), (3, _), (6, _)] ⟨rfl, rfl, rfl, trivial⟩ ?_)
  all_goals (first | refine WC.condB_t 1 rfl ?_ | refine WC.condB_f 2 rfl ?_ | (refine WC.condB 1 2 rfl (fun hb => ?_) (fun hb => ?_) <;> (first | replace hb := of_decide_eq_true hb | replace hb := of_decide_eq_false hb | replace hb := of_decide_eq_false (nt hb) | replace hb := of_decide_eq_true (nf hb) | skip)))
  all_goals (first
    | (fail_if_success (refine Br.mk (i := 1) ?_))
    | (refine Br.mk (i := 1) ?_
       all_goals (refine WC.seq ?_)
       all_goals (refine WC.region ?_)
       all_goals (refine WL.step (ok_assign rfl) rfl rfl rfl ?_)
       all_goals (refine WL.nil ?_)
       all_goals (repeat' (with_reducible first | refine thenP_n ?_ | refine blockP_n ?_))
       all_goals (refine WC.ret ?_)
       all_goals (repeat' (with_reducible first | refine thenP_r ?_ | refine blockP_r ?_))
       all_goals (refine retP_1 _ ⟨rfl, trivial⟩ ?_)
       all_goals (exact ⟨L, hL, ho5, ((hX2.trans hx3).trans hx4).trans hx5⟩)
       skip))
  all_goals (first
    | (fail_if_success (refine Br.mk (i := 2) ?_))
    | (refine Br.mk (i := 2) ?_
       all_goals (refine WC.skip ?_)
       skip))
  all_goals (repeat' (with_reducible first | refine thenP_n ?_ | refine blockP_n ?_))
  all_goals (refine WC.seq ?_)
  all_goals (refine WC.region ?_)
  all_goals (refine WL.step (ok_loadN (fun w => Tryz.isAgg26 w) (fun w => Tryz.sizeOf26 w) rfl rfl (by exact At.of_block hb12)) rfl rfl rfl ?_)
  all_goals (refine WL.step (ok_loadN (fun w => Tryz.isAgg32 w) (fun w => Tryz.sizeOf32 w) rfl rfl (by exact At.of_block hb2)) rfl rfl rfl ?_)
  all_goals (refine WL.call (vs := [_, _]) rfl (fun a w => Tryz.call10 a w) rfl (kb _ hX2) rfl rfl rfl ?_
             rintro _ h3 ⟨v3, rfl, ho3, hx3⟩)
  all_goals (refine WL.stepR (okE_buildSlice (vs := [_]) (cs := [_, _, _, _, _, _, _, _, _, _, _]) (fun | [.agg ⟨[a0, a1, a2, a3, a4, a5, a6, a7, a8, a9, a10]⟩] => [a0, a1, a2, a3, a4, a5, a6, a7, a8, a9, a10] | _ => []) Tryz.underlying73 rfl rfl (by kernel_rfl)) rfl rfl rfl ?_
             rintro _ h4 ⟨b4, rfl, hg4, hb4, hx4⟩)
  all_goals (refine WL.call (vs := [_]) rfl (fun a w => Tryz.call39 a w) rfl (bbytes (fl4 ([69, 82, 82, 79, 82] : List UInt8) c y) hb4 (ho3.rd.ext0 hx4) hF (by show 4 ≤ _; decide) hok (by omega)) rfl rfl rfl ?_
             rintro v5 h5 ⟨L, hL, ho5, hx5⟩)
  all_goals (refine WL.step (ok_assign rfl) rfl rfl rfl ?_)
  all_goals (refine WL.nil ?_)
  all_goals (repeat' (with_reducible first | refine thenP_n ?_ | refine blockP_n ?_))
  all_goals (refine WC.sub [(4, _)] ⟨rfl, trivial⟩ ?_)
  all_goals (refine WC.ret ?_)
  all_goals (repeat' (with_reducible first | refine thenP_r ?_ | refine blockP_r ?_))
  all_goals (refine retP_1 _ ⟨rfl, trivial⟩ ?_)
  all_goals (exact ⟨L, hL, ho5, ((hX2.trans hx3).trans hx4).trans hx5⟩)
set_option maxHeartbeats 2000000 in
set_option maxRecDepth 100000 in
theorem awake25 {h : Heap} (hM : Ml h) : CallsH Tryz.prog 8 ⟨[]⟩ h fun u h' => u = .bool true ∧ Ext No h h' := by
  have r1 : renL ([50, 54, 48, 48, 48] : List UInt8) (missL ([95, 110, 111, 110, 101] : List UInt8)) ([95, 110, 111, 110, 101] : List UInt8) ([97] : List UInt8) = missL ([97] : List UInt8) := by simp [renL, swapL]
  have r2 : renL ([50, 54, 48, 48, 48] : List UInt8) (missL ([97] : List UInt8)) ([95, 110, 111, 110, 101] : List UInt8) ([97] : List UInt8) = missL ([97] : List UInt8) := by simp [renL, swapL]
  have hle : 20 ≤ (encF (fl4 ([69, 82, 82, 79, 82] : List UInt8) ([50, 54, 48, 48, 48] : List UInt8) (missL ([97] : List UInt8)))).length := by decide
  refine calls [] Tryz.func8 rfl Tryz.ntmps8 rfl trivial ?_
  all_goals (refine WC.seq ?_)
  all_goals (refine WC.region ?_)
  all_goals (refine WL.step (ok_assign rfl) rfl rfl rfl ?_)
  all_goals (refine WL.nil ?_)
  all_goals (repeat' (with_reducible first | refine thenP_n ?_ | refine blockP_n ?_))
  all_goals (refine WC.seq ?_)
  all_goals (refine WC.region ?_)
  all_goals (refine WL.step (ok_buildF (vs := [_, _]) (cs := [_, _, _, _, _, _, _, _]) (fun | [a2, a3] => [(.int .i64 0), (.bool false), a2, a3, (.slice none 0 0), (.slice none 0 0), (.slice none 0 0), (.slice none 0 0)] | _ => []) rfl rfl (by kernel_rfl)) rfl rfl rfl ?_)
  all_goals (refine WL.stepR (okE_alloc (fun w => Tryz.zeroValue26 w)) rfl rfl rfl ?_
             rintro _ h1 ⟨b1, rfl, hg1, hb1, hx1⟩)
  all_goals (refine WL.stepR0 (okE_storeW (fun w => Tryz.sizeOf26 w) rfl rfl rfl hb1 rfl (by simp [Value.oneCell'])) rfl rfl ?_
             rintro _ h2 ⟨hb2, hx2⟩)
  all_goals (have hX2 : Ext No h h2 := hx1.trans' hx2 (fun q hq e => by omega))
  all_goals (refine WL.nil ?_)
  all_goals (repeat' (with_reducible first | refine thenP_n ?_ | refine blockP_n ?_))
  all_goals (refine WC.seq ?_)
  all_goals (refine WC.drawH (fun h' => Ext No h2 h') 5 6 rfl fol ?_)
  all_goals (refine WH.take 0 rfl (by kernel_rfl) (by kernel_rfl) (by kernel_rfl) (by kernel_rfl) rfl (by first | exact Ext.refl _ _ | assumption) (fun hq hC => ok_loadN (fun w => Tryz.isAgg26 w) (fun w => Tryz.sizeOf26 w) rfl rfl (by exact At.of_block (hC.obj hb2 nos))) rfl rfl rfl ?_)
  all_goals (refine WH.two 1 4 (by kernel_rfl) (Br.out (i := 5009) ?_) (Br.out (i := 5010) ?_))
  all_goals (first
    | (fail_if_success (refine Br.mk (i := 5009) ?_))
    | (refine Br.mk (i := 5009) ?_
       all_goals (refine Comes1.call (vs := [_]) rfl rfl (fun a w => Tryz.call18 a w) rfl (missing_any ([95, 110, 111, 110, 101] : List UInt8) (by decide)) rfl rfl rfl ?_ (fun _ => by kernel_rfl)
                  rintro _ g1 ⟨rfl, hy1⟩)
       all_goals (refine ⟨fun _ => by first | exact hy1 | exact hC4.trans hy1, ?_⟩)
       all_goals (have hC1 : Ext No h2 g1 := by first | exact hy1 | exact hC4.trans hy1)
       all_goals (refine WH.two 2 4 (by kernel_rfl) (Br.out (i := 5009) ?_) (Br.out (i := 5010) ?_))
       all_goals (first
         | (fail_if_success (refine Br.mk (i := 5009) ?_))
         | (refine Br.mk (i := 5009) ?_
            all_goals (refine Comes1.call (vs := [_, _]) rfl rfl (fun a w => Tryz.call17 a w) rfl (error_v ([50, 54, 48, 48, 48] : List UInt8) (missL ([95, 110, 111, 110, 101] : List UInt8))) rfl rfl rfl ?_ (fun _ => by kernel_rfl)
                       rintro _ g2 ⟨v2, rfl, ho2, hy2⟩)
            all_goals (refine ⟨fun _ => by first | exact hC1.trans hy2 | exact hC4.trans hy2, ?_⟩)
            all_goals (have hC2 : Ext No h2 g2 := by first | exact hC1.trans hy2 | exact hC4.trans hy2)
            all_goals (refine WH.two 3 4 (by kernel_rfl) (Br.out (i := 5009) ?_) (Br.out (i := 5010) ?_))
            all_goals (first
              | (fail_if_success (refine Br.mk (i := 5009) ?_))
              | (refine Br.mk (i := 5009) ?_
                 all_goals (refine Comes1.call (vs := [_, _]) rfl rfl (fun a w => Tryz.call10 a w) rfl (back_fl ([95, 110, 111, 110, 101] : List UInt8) ([97] : List UInt8) ([50, 54, 48, 48, 48] : List UInt8) (missL ([95, 110, 111, 110, 101] : List UInt8)) (missL ([97] : List UInt8)) (by first | exact ho2.rd | exact ho2.rd.ext0 hy4) ((hM.ext0 hX2).ext0 (by first | exact hC2 | exact hC4)) (by decide) (by decide) (by decide) r1 (fun e => absurd e (by decide))) rfl rfl rfl ?_ (fun _ => by kernel_rfl)
                            rintro _ g3 ⟨v3, rfl, ho3, hy3⟩
                            obtain ⟨A3, c3, rfl, _⟩ := ho3.slice)
                 all_goals (refine ⟨fun _ => by first | exact hC2.trans hy3 | exact hC4.trans hy3, ?_⟩)
                 all_goals (have hC3 : Ext No h2 g3 := by first | exact hC2.trans hy3 | exact hC4.trans hy3)
                 all_goals (refine WH.one 4 (by kernel_rfl) ?_)
                 all_goals (refine Comes1.run rfl (okE_alloc (fun w => Tryz.zeroValue32 w)) rfl rfl rfl ?_ (fun _ => by kernel_rfl)
                            rintro _ g4 ⟨b4, rfl, hg4, hb4, hy4⟩)
                 all_goals (refine ⟨fun _ => by first | exact hy4 | exact hC1.trans hy4 | exact hC2.trans hy4 | exact hC3.trans hy4, ?_⟩)
                 all_goals (have hC4 : Ext No h2 g4 := by first | exact hy4 | exact hC1.trans hy4 | exact hC2.trans hy4 | exact hC3.trans hy4)
                 all_goals (refine WH.one 5 (by kernel_rfl) ?_)
                 all_goals (first
                             | (have HO := ho3; have HB := hy3.obj hb4 nos; have HC := hC3)
                             | (have HO := ho3; have HB := (hy2.trans hy3).obj hb4 nos; have HC := hC3)
                             | (have HO := ho3; have HB := ((hy1.trans hy2).trans hy3).obj hb4 nos; have HC := hC3)
                             | (have HO := ho3.ext hy4 (fun _ _ => nos); have HB := hb4; have HC := hC4)
                            have hgb : h2.size ≤ b4 := by first | exact hg4 | exact Nat.le_trans hC1.size hg4 | exact Nat.le_trans hC2.size hg4 | exact Nat.le_trans hC3.size hg4)
                 all_goals (refine Comes1.run0 rfl (okE_storeW (fun w => Tryz.sizeOf32 w) rfl rfl rfl HB rfl (by simp [eB, Value.oneCell'])) rfl rfl ?_ (fun _ => by kernel_rfl)
                            rintro _ h5 ⟨hb5, hx5⟩)
                 all_goals (refine ⟨fun e => (by cases e), ?_⟩)
                 all_goals (have hO5 := HO.ext hx5 (fun q hq e => by obtain ⟨_, z⟩ := own_kind HO hq; rw [e, HB] at z; simp at z)
                            have hX25 : Ext No h2 h5 := HC.trans' hx5 (fun q hq e => by omega)
                            have hX5 := hX2.trans hX25
                            have hb25 := hX25.obj hb2 nos
                            have hb5' : h5[b4]? = some (.cells ⟨eB (.slice A3 4 c3)⟩ 32 (0, 0)) := hb5
                            clear hb5)
                 all_goals (refine WH.done (by kernel_rfl) ?_)
                 skip))
            all_goals (first
              | (fail_if_success (refine Br.mk (i := 5010) ?_))
              | (refine Br.mk (i := 5010) ?_
                 all_goals (refine Comes1.run rfl (okE_alloc (fun w => Tryz.zeroValue32 w)) rfl rfl rfl ?_ (fun _ => by kernel_rfl)
                            rintro _ g4 ⟨b4, rfl, hg4, hb4, hy4⟩)
                 all_goals (refine ⟨fun _ => by first | exact hy4 | exact hC1.trans hy4 | exact hC2.trans hy4 | exact hC3.trans hy4, ?_⟩)
                 all_goals (have hC4 : Ext No h2 g4 := by first | exact hy4 | exact hC1.trans hy4 | exact hC2.trans hy4 | exact hC3.trans hy4)
                 all_goals (refine WH.one 3 (by kernel_rfl) ?_)
                 all_goals (refine Comes1.call (vs := [_, _]) rfl rfl (fun a w => Tryz.call10 a w) rfl (back_fl ([95, 110, 111, 110, 101] : List UInt8) ([97] : List UInt8) ([50, 54, 48, 48, 48] : List UInt8) (missL ([95, 110, 111, 110, 101] : List UInt8)) (missL ([97] : List UInt8)) (by first | exact ho2.rd | exact ho2.rd.ext0 hy4) ((hM.ext0 hX2).ext0 (by first | exact hC2 | exact hC4)) (by decide) (by decide) (by decide) r1 (fun e => absurd e (by decide))) rfl rfl rfl ?_ (fun _ => by kernel_rfl)
                            rintro _ g3 ⟨v3, rfl, ho3, hy3⟩
                            obtain ⟨A3, c3, rfl, _⟩ := ho3.slice)
                 all_goals (refine ⟨fun _ => by first | exact hC2.trans hy3 | exact hC4.trans hy3, ?_⟩)
                 all_goals (have hC3 : Ext No h2 g3 := by first | exact hC2.trans hy3 | exact hC4.trans hy3)
                 all_goals (refine WH.one 5 (by kernel_rfl) ?_)
                 all_goals (first
                             | (have HO := ho3; have HB := hy3.obj hb4 nos; have HC := hC3)
                             | (have HO := ho3; have HB := (hy2.trans hy3).obj hb4 nos; have HC := hC3)
                             | (have HO := ho3; have HB := ((hy1.trans hy2).trans hy3).obj hb4 nos; have HC := hC3)
                             | (have HO := ho3.ext hy4 (fun _ _ => nos); have HB := hb4; have HC := hC4)
                            have hgb : h2.size ≤ b4 := by first | exact hg4 | exact Nat.le_trans hC1.size hg4 | exact Nat.le_trans hC2.size hg4 | exact Nat.le_trans hC3.size hg4)
                 all_goals (refine Comes1.run0 rfl (okE_storeW (fun w => Tryz.sizeOf32 w) rfl rfl rfl HB rfl (by simp [eB, Value.oneCell'])) rfl rfl ?_ (fun _ => by kernel_rfl)
                            rintro _ h5 ⟨hb5, hx5⟩)
                 all_goals (refine ⟨fun e => (by cases e), ?_⟩)
                 all_goals (have hO5 := HO.ext hx5 (fun q hq e => by obtain ⟨_, z⟩ := own_kind HO hq; rw [e, HB] at z; simp at z)
                            have hX25 : Ext No h2 h5 := HC.trans' hx5 (fun q hq e => by omega)
                            have hX5 := hX2.trans hX25
                            have hb25 := hX25.obj hb2 nos
                            have hb5' : h5[b4]? = some (.cells ⟨eB (.slice A3 4 c3)⟩ 32 (0, 0)) := hb5
                            clear hb5)
                 all_goals (refine WH.done (by kernel_rfl) ?_)
                 skip))
            skip))
       all_goals (first
         | (fail_if_success (refine Br.mk (i := 5010) ?_))
         | (refine Br.mk (i := 5010) ?_
            all_goals (refine Comes1.run rfl (okE_alloc (fun w => Tryz.zeroValue32 w)) rfl rfl rfl ?_ (fun _ => by kernel_rfl)
                       rintro _ g4 ⟨b4, rfl, hg4, hb4, hy4⟩)
            all_goals (refine ⟨fun _ => by first | exact hy4 | exact hC1.trans hy4 | exact hC2.trans hy4 | exact hC3.trans hy4, ?_⟩)
            all_goals (have hC4 : Ext No h2 g4 := by first | exact hy4 | exact hC1.trans hy4 | exact hC2.trans hy4 | exact hC3.trans hy4)
            all_goals (refine WH.one 2 (by kernel_rfl) ?_)
            all_goals (refine Comes1.call (vs := [_, _]) rfl rfl (fun a w => Tryz.call17 a w) rfl (error_v ([50, 54, 48, 48, 48] : List UInt8) (missL ([95, 110, 111, 110, 101] : List UInt8))) rfl rfl rfl ?_ (fun _ => by kernel_rfl)
                       rintro _ g2 ⟨v2, rfl, ho2, hy2⟩)
            all_goals (refine ⟨fun _ => by first | exact hC1.trans hy2 | exact hC4.trans hy2, ?_⟩)
            all_goals (have hC2 : Ext No h2 g2 := by first | exact hC1.trans hy2 | exact hC4.trans hy2)
            all_goals (refine WH.one 3 (by kernel_rfl) ?_)
            all_goals (refine Comes1.call (vs := [_, _]) rfl rfl (fun a w => Tryz.call10 a w) rfl (back_fl ([95, 110, 111, 110, 101] : List UInt8) ([97] : List UInt8) ([50, 54, 48, 48, 48] : List UInt8) (missL ([95, 110, 111, 110, 101] : List UInt8)) (missL ([97] : List UInt8)) (by first | exact ho2.rd | exact ho2.rd.ext0 hy4) ((hM.ext0 hX2).ext0 (by first | exact hC2 | exact hC4)) (by decide) (by decide) (by decide) r1 (fun e => absurd e (by decide))) rfl rfl rfl ?_ (fun _ => by kernel_rfl)
                       rintro _ g3 ⟨v3, rfl, ho3, hy3⟩
                       obtain ⟨A3, c3, rfl, _⟩ := ho3.slice)
            all_goals (refine ⟨fun _ => by first | exact hC2.trans hy3 | exact hC4.trans hy3, ?_⟩)
            all_goals (have hC3 : Ext No h2 g3 := by first | exact hC2.trans hy3 | exact hC4.trans hy3)
            all_goals (refine WH.one 5 (by kernel_rfl) ?_)
            all_goals (first
                        | (have HO := ho3; have HB := hy3.obj hb4 nos; have HC := hC3)
                        | (have HO := ho3; have HB := (hy2.trans hy3).obj hb4 nos; have HC := hC3)
                        | (have HO := ho3; have HB := ((hy1.trans hy2).trans hy3).obj hb4 nos; have HC := hC3)
                        | (have HO := ho3.ext hy4 (fun _ _ => nos); have HB := hb4; have HC := hC4)
                       have hgb : h2.size ≤ b4 := by first | exact hg4 | exact Nat.le_trans hC1.size hg4 | exact Nat.le_trans hC2.size hg4 | exact Nat.le_trans hC3.size hg4)
            all_goals (refine Comes1.run0 rfl (okE_storeW (fun w => Tryz.sizeOf32 w) rfl rfl rfl HB rfl (by simp [eB, Value.oneCell'])) rfl rfl ?_ (fun _ => by kernel_rfl)
                       rintro _ h5 ⟨hb5, hx5⟩)
            all_goals (refine ⟨fun e => (by cases e), ?_⟩)
            all_goals (have hO5 := HO.ext hx5 (fun q hq e => by obtain ⟨_, z⟩ := own_kind HO hq; rw [e, HB] at z; simp at z)
                       have hX25 : Ext No h2 h5 := HC.trans' hx5 (fun q hq e => by omega)
                       have hX5 := hX2.trans hX25
                       have hb25 := hX25.obj hb2 nos
                       have hb5' : h5[b4]? = some (.cells ⟨eB (.slice A3 4 c3)⟩ 32 (0, 0)) := hb5
                       clear hb5)
            all_goals (refine WH.done (by kernel_rfl) ?_)
            skip))
       skip))
  all_goals (first
    | (fail_if_success (refine Br.mk (i := 5010) ?_))
    | (refine Br.mk (i := 5010) ?_
       all_goals (refine Comes1.run rfl (okE_alloc (fun w => Tryz.zeroValue32 w)) rfl rfl rfl ?_ (fun _ => by kernel_rfl)
                  rintro _ g4 ⟨b4, rfl, hg4, hb4, hy4⟩)
       all_goals (refine ⟨fun _ => by first | exact hy4 | exact hC1.trans hy4 | exact hC2.trans hy4 | exact hC3.trans hy4, ?_⟩)
       all_goals (have hC4 : Ext No h2 g4 := by first | exact hy4 | exact hC1.trans hy4 | exact hC2.trans hy4 | exact hC3.trans hy4)
       all_goals (refine WH.one 1 (by kernel_rfl) ?_)
       all_goals (refine Comes1.call (vs := [_]) rfl rfl (fun a w => Tryz.call18 a w) rfl (missing_any ([95, 110, 111, 110, 101] : List UInt8) (by decide)) rfl rfl rfl ?_ (fun _ => by kernel_rfl)
                  rintro _ g1 ⟨rfl, hy1⟩)
       all_goals (refine ⟨fun _ => by first | exact hy1 | exact hC4.trans hy1, ?_⟩)
       all_goals (have hC1 : Ext No h2 g1 := by first | exact hy1 | exact hC4.trans hy1)
       all_goals (refine WH.one 2 (by kernel_rfl) ?_)
       all_goals (refine Comes1.call (vs := [_, _]) rfl rfl (fun a w => Tryz.call17 a w) rfl (error_v ([50, 54, 48, 48, 48] : List UInt8) (missL ([95, 110, 111, 110, 101] : List UInt8))) rfl rfl rfl ?_ (fun _ => by kernel_rfl)
                  rintro _ g2 ⟨v2, rfl, ho2, hy2⟩)
       all_goals (refine ⟨fun _ => by first | exact hC1.trans hy2 | exact hC4.trans hy2, ?_⟩)
       all_goals (have hC2 : Ext No h2 g2 := by first | exact hC1.trans hy2 | exact hC4.trans hy2)
       all_goals (refine WH.one 3 (by kernel_rfl) ?_)
       all_goals (refine Comes1.call (vs := [_, _]) rfl rfl (fun a w => Tryz.call10 a w) rfl (back_fl ([95, 110, 111, 110, 101] : List UInt8) ([97] : List UInt8) ([50, 54, 48, 48, 48] : List UInt8) (missL ([95, 110, 111, 110, 101] : List UInt8)) (missL ([97] : List UInt8)) (by first | exact ho2.rd | exact ho2.rd.ext0 hy4) ((hM.ext0 hX2).ext0 (by first | exact hC2 | exact hC4)) (by decide) (by decide) (by decide) r1 (fun e => absurd e (by decide))) rfl rfl rfl ?_ (fun _ => by kernel_rfl)
                  rintro _ g3 ⟨v3, rfl, ho3, hy3⟩
                  obtain ⟨A3, c3, rfl, _⟩ := ho3.slice)
       all_goals (refine ⟨fun _ => by first | exact hC2.trans hy3 | exact hC4.trans hy3, ?_⟩)
       all_goals (have hC3 : Ext No h2 g3 := by first | exact hC2.trans hy3 | exact hC4.trans hy3)
       all_goals (refine WH.one 5 (by kernel_rfl) ?_)
       all_goals (first
                   | (have HO := ho3; have HB := hy3.obj hb4 nos; have HC := hC3)
                   | (have HO := ho3; have HB := (hy2.trans hy3).obj hb4 nos; have HC := hC3)
                   | (have HO := ho3; have HB := ((hy1.trans hy2).trans hy3).obj hb4 nos; have HC := hC3)
                   | (have HO := ho3.ext hy4 (fun _ _ => nos); have HB := hb4; have HC := hC4)
                  have hgb : h2.size ≤ b4 := by first | exact hg4 | exact Nat.le_trans hC1.size hg4 | exact Nat.le_trans hC2.size hg4 | exact Nat.le_trans hC3.size hg4)
       all_goals (refine Comes1.run0 rfl (okE_storeW (fun w => Tryz.sizeOf32 w) rfl rfl rfl HB rfl (by simp [eB, Value.oneCell'])) rfl rfl ?_ (fun _ => by kernel_rfl)
                  rintro _ h5 ⟨hb5, hx5⟩)
       all_goals (refine ⟨fun e => (by cases e), ?_⟩)
       all_goals (have hO5 := HO.ext hx5 (fun q hq e => by obtain ⟨_, z⟩ := own_kind HO hq; rw [e, HB] at z; simp at z)
                  have hX25 : Ext No h2 h5 := HC.trans' hx5 (fun q hq e => by omega)
                  have hX5 := hX2.trans hX25
                  have hb25 := hX25.obj hb2 nos
                  have hb5' : h5[b4]? = some (.cells ⟨eB (.slice A3 4 c3)⟩ 32 (0, 0)) := hb5
                  clear hb5)
       all_goals (refine WH.done (by kernel_rfl) ?_)
       skip))
  all_goals (repeat' (with_reducible first | refine thenP_n ?_ | refine blockP_n ?_))
  all_goals (refine WC.sub [(1, _), (2, _)] ⟨rfl, rfl, trivial⟩ ?_)
  all_goals (refine WC.seq ?_)
  all_goals (refine WC.region ?_)
  all_goals (refine WL.step (ok_fieldAddr rfl Tryz.underlying32 rfl (fun w => Tryz.sizeOf30 w)) rfl rfl rfl ?_)
  all_goals (refine WL.step (ok_load (fun w => Tryz.isAgg30 w) rfl (by first | exact cell_blk hb5' rfl | assumption | exact cell_blk (by assumption) rfl)) rfl rfl rfl ?_)
  all_goals (refine WL.call (vs := [_, _]) rfl (fun a w => Tryz.call16 a w) rfl (get_v (fl4 ([69, 82, 82, 79, 82] : List UInt8) ([50, 54, 48, 48, 48] : List UInt8) (missL ([97] : List UInt8))) 77 hO5.rd (by decide)) rfl rfl rfl ?_
             rintro _ h6 ⟨rfl, hx6⟩
             rw [get77])
  all_goals (refine WL.step (ok_move rfl) rfl rfl rfl ?_)
  all_goals (refine WL.step (ok_extract rfl rfl) rfl rfl rfl ?_)
  all_goals (refine WL.step (ok_extract rfl rfl) rfl rfl rfl ?_)
  all_goals (refine WL.step (ok_assign rfl) rfl rfl rfl ?_)
  all_goals (refine WL.step (ok_assign rfl) rfl rfl rfl ?_)
  all_goals (refine WL.nil ?_)
  all_goals (repeat' (with_reducible first | refine thenP_n ?_ | refine blockP_n ?_))
  all_goals (refine WC.sub [(1, _), (2, _), (3, _), (4, _)] ⟨rfl, rfl, rfl, rfl, trivial⟩ ?_)
  all_goals (refine WC.seq ?_)
  all_goals (refine WC.region ?_)
  all_goals (refine WL.step (ok_move rfl) rfl rfl rfl ?_)
  all_goals (refine WL.step (ok_move rfl) rfl rfl rfl ?_)
  all_goals (try ((fail_if_success (refine WL.part 17 (b := true) rfl (fun _ => ?_) (fun _ => ?_))); (fail_if_success (refine WL.part 17 (b := false) rfl (fun _ => ?_) (fun _ => ?_))); (refine WL.part 17 rfl (fun hb => ?_) (fun hb => ?_) <;> (first | replace hb := of_decide_eq_true hb | replace hb := of_decide_eq_false hb | replace hb := of_decide_eq_false (nt hb) | replace hb := of_decide_eq_true (nf hb) | skip))))
  all_goals (first | (refine WL.pass rfl rfl rfl ?_) | (refine WL.step (ok_move rfl) rfl rfl rfl ?_))
  all_goals (first
               | (refine WL.pass rfl rfl rfl ?_)
               | (refine WL.call (vs := [_]) rfl (fun a w => Tryz.call18 a w) rfl (missing_any ([97] : List UInt8) (by decide)) rfl rfl rfl ?_
                  rintro _ h7 ⟨rfl, hx7⟩))
  all_goals (have hX57 := hx6.trans hx7)
  all_goals (first | (refine WL.pass rfl rfl rfl ?_) | (first | (refine WL.step (OkP.bool_t (by first | rfl | assumption | decide) (ok_eqlS rfl rfl)) rfl rfl rfl ?_) | (refine WL.step (OkP.bool_f (by first | assumption | decide) (ok_eqlS rfl rfl)) rfl rfl rfl ?_) | (refine WL.step (ok_eqlS rfl rfl) rfl rfl rfl ?_)))
  all_goals (first | (refine WL.step (ok_pick_t rfl rfl) rfl rfl rfl ?_) | (refine WL.step (ok_pick_f rfl rfl) rfl rfl rfl ?_))
  all_goals (refine WL.step (ok_move rfl) rfl rfl rfl ?_)
  all_goals (try ((fail_if_success (refine WL.part 22 (b := true) rfl (fun _ => ?_) (fun _ => ?_))); (fail_if_success (refine WL.part 22 (b := false) rfl (fun _ => ?_) (fun _ => ?_))); (refine WL.part 22 rfl (fun hb => ?_) (fun hb => ?_) <;> (first | replace hb := of_decide_eq_true hb | replace hb := of_decide_eq_false hb | replace hb := of_decide_eq_false (nt hb) | replace hb := of_decide_eq_true (nf hb) | skip))))
  all_goals (first | (refine WL.pass rfl rfl rfl ?_) | (refine WL.step (ok_loadN (fun w => Tryz.isAgg26 w) (fun w => Tryz.sizeOf26 w) rfl rfl (by exact At.of_block (hX57.obj hb25 nos))) rfl rfl rfl ?_))
  all_goals (first | (refine WL.pass rfl rfl rfl ?_) | (refine WL.step (ok_loadN (fun w => Tryz.isAgg32 w) (fun w => Tryz.sizeOf32 w) rfl rfl (by exact At.of_block (hX57.obj hb5' nos))) rfl rfl rfl ?_))
  all_goals (first
               | (refine WL.pass rfl rfl rfl ?_)
               | (refine WL.call (vs := [_, _]) rfl (fun a w => Tryz.call13 a w) rfl (shown_fl ([95, 110, 111, 110, 101] : List UInt8) ([97] : List UInt8) ([50, 54, 48, 48, 48] : List UInt8) (missL ([97] : List UInt8)) (missL ([97] : List UInt8)) (hO5.rd.ext0 hX57) (hM.ext0 (hX5.trans hX57)) (by decide) (by decide) (by decide) r2 (fun _ => rfl) (by decide) (by decide) rfl (by decide)) rfl rfl rfl ?_
                  rintro v8 h8 ⟨L, hL, ho8, hx8⟩
                  obtain ⟨A8, c8, rfl, _⟩ := ho8.slice
                  have hL2 : (10 : Int) < (L.length : Int) := by omega))
  all_goals (first | (refine WL.pass rfl rfl rfl ?_) | (refine WL.step (ok_lenL rfl Tryz.underlying24 rfl) rfl rfl rfl ?_))
  all_goals (first | (refine WL.pass rfl rfl rfl ?_) | (first | (refine WL.step (OkP.bool_t (by omega) (ok_gtr rfl rfl)) rfl rfl rfl ?_) | (refine WL.step (OkP.bool_f (by omega) (ok_gtr rfl rfl)) rfl rfl rfl ?_) | (refine WL.step (ok_gtr rfl rfl) rfl rfl rfl ?_)))
  all_goals (first | (refine WL.step (ok_pick_t rfl rfl) rfl rfl rfl ?_) | (refine WL.step (ok_pick_f rfl rfl) rfl rfl rfl ?_))
  all_goals (refine WL.step (ok_assign rfl) rfl rfl rfl ?_)
  all_goals (refine WL.nil ?_)
  all_goals (repeat' (with_reducible first | refine thenP_n ?_ | refine blockP_n ?_))
  all_goals (refine WC.sub [(0, _)] ⟨rfl, trivial⟩ ?_)
  all_goals (refine WC.ret ?_)
  all_goals (repeat' (with_reducible first | refine thenP_r ?_ | refine blockP_r ?_))
  all_goals (refine retP_1 _ ⟨rfl, trivial⟩ ?_)
  all_goals (exact ⟨rfl, (hX5.trans hX57).trans hx8⟩)
end Go.Proofs.YtkpgnhhidnkmcaaGreatDoor

