/-
  SEVERAL TEXTS IN ONE: Flt2, Flt3, K24, K14, Num, Flt4, Flt5, BkW.
-/
import Derived.Test.YtbahigffjclpdaaGreatDoorPFixTells3
import Derived.Laws.Entries
import Derived.Lib.AppendStr
/-
  FAULTS (layers 8, 25): made, and as clients get them.
-/
namespace Go.Proofs.YtbahigffjclpdaaGreatDoor
open Go Go.RK

set_option maxHeartbeats 2000000 in
set_option maxRecDepth 100000 in
theorem with_v {h : Heap} {v : Value} (F : List FieldD) (c : Int) (t : List UInt8) (hr : Rd h v 2 F.length (F.flatMap FieldD.cells)) (hm : F.length ≤ 1000000) : CallsH Tryz.prog 48 ⟨[v, .int .u8 c, St t]⟩ h fun u h' => Own h' u 54 2 F.length ((withF c t F).flatMap FieldD.cells) ∧ Ext No h h' ∧ ∀ k, u.ownBlock = some k → h.size ≤ k := by
  obtain ⟨A, cc, rfl, _⟩ := id hr
  unfold withF
  rcases idxP_cases (atP c) F with ⟨e, hno⟩ | ⟨k, y, e, hy, hp, hn⟩
  · rw [if_pos (by omega)]
    refine calls [(0, _), (1, _), (2, _)] Tryz.func48 rfl Tryz.ntmps48 rfl ⟨rfl, rfl, rfl, trivial⟩ ?_
    all_goals (refine WC.sr ?_)
    all_goals (refine Go ?_)
    all_goals (refine WC.sr ?_)
    all_goals (refine Go ?_)
    all_goals (refine WL.call (vs := [_]) rfl (fun a w => Tryz.call45 a w) rfl (clone_fld F hr hm) rfl rfl rfl ?_
               rintro v1 h1 ⟨ho1, hx1, hf1⟩)
    all_goals (refine Go ?_)
    all_goals (refine WC.sub [(1, _), (2, _), (7, _)] ⟨rfl, rfl, rfl, trivial⟩ ?_)
    all_goals (refine WC.seq ?_)
    all_goals (refine WC.sr ?_)
    all_goals (refine Go ?_)
    all_goals (refine WL.call (vs := [_, _]) rfl (fun a w => Tryz.call42 a w) rfl (at_v F c ho1.rd (by unfold maxLen; omega)) rfl rfl rfl ?_
               rintro _ h2 ⟨rfl, hx2⟩
               rw [e])
    all_goals (refine Go ?_)
    all_goals (refine WC.sub [(2, _), (7, _), (8, _)] ⟨rfl, rfl, rfl, trivial⟩ ?_)
    all_goals (refine WC.sr ?_)
    all_goals (refine Go ?_)
    all_goals (refine goC 1 2 ?_ ?_ <;> first | exact ⟨⟩ | refine Hb.mk fun hb => ?_ | skip)
    all_goals (first | (fail_if_success refine goB 1 ?_) | (
    refine goB 1 ?_
    all_goals (refine WC.region ?_)
    all_goals (refine Go ?_)
    all_goals (refine WL.step (ok_idxAddrA Tryz.underlying30 (fun w => Tryz.sizeOf54 w) rfl rfl rfl (by omega) (by first | rfl | assumption)) rfl rfl rfl ?_)
    all_goals (refine Go ?_)
    all_goals (refine WL.stepR0 (okE_store (fun w => Tryz.sizeOf9 w) rfl rfl (by assumption) (Nat.le_of_ble_eq_true rfl) rfl rfl) rfl rfl ?_
               rintro _ h1 ⟨hb1, hx1⟩)
    all_goals (refine Gn ?_)
    skip))
    all_goals (first | (fail_if_success refine goB 2 ?_) | (
    refine goB 2 ?_
    all_goals (refine WC.skip ?_)
    skip))
    all_goals (refine Gn ?_)
    all_goals (refine WC.sub [(7, _)] ⟨rfl, trivial⟩ ?_)
    all_goals (refine WC.sr ?_)
    all_goals (refine Go ?_)
    all_goals (refine WC.ret ?_)
    all_goals (repeat' (with_reducible first | refine thenP_r ?_ | refine blockP_r ?_))
    all_goals (refine retP_1 _ ⟨rfl, trivial⟩ ?_)
    all_goals (exact ⟨ho1.ext hx2 (fun _ _ => nos), hx1.trans hx2, hf1⟩)
  · rw [if_neg (by omega)]
    have hkl := (List.getElem?_eq_some_iff.1 hy).1
    have hkc : y.k = c := of_decide_eq_true hp
    have hkk : (idxP (atP c) F).toNat = k := by omega
    rw [hkk]
    refine calls [(0, _), (1, _), (2, _)] Tryz.func48 rfl Tryz.ntmps48 rfl ⟨rfl, rfl, rfl, trivial⟩ ?_
    all_goals (refine WC.sr ?_)
    all_goals (refine Go ?_)
    all_goals (refine WC.sr ?_)
    all_goals (refine Go ?_)
    all_goals (refine WL.call (vs := [_]) rfl (fun a w => Tryz.call45 a w) rfl (clone_fld F hr hm) rfl rfl rfl ?_
               rintro v1 h1 ⟨ho1, hx1, hf1⟩)
    all_goals (refine Go ?_)
    all_goals (refine WC.sub [(1, _), (2, _), (7, _)] ⟨rfl, rfl, rfl, trivial⟩ ?_)
    all_goals (refine WC.seq ?_)
    all_goals (refine WC.sr ?_)
    all_goals (refine Go ?_)
    all_goals (refine WL.call (vs := [_, _]) rfl (fun a w => Tryz.call42 a w) rfl (at_v F c ho1.rd (by unfold maxLen; omega)) rfl rfl rfl ?_
               rintro _ h2 ⟨rfl, hx2⟩
               rw [e]
               have ho2 := ho1.ext hx2 (fun _ _ => nos)
               obtain ⟨A1, c1, rfl, _⟩ := ho2.slice
               obtain ⟨g, gs, rfl, hg, hgl, hset⟩ := row_set FieldD.len ho2 hy
               have hgf : h.size ≤ g := hf1 g rfl)
    all_goals (refine Go ?_)
    all_goals (refine WC.sub [(2, _), (7, _), (8, _)] ⟨rfl, rfl, rfl, trivial⟩ ?_)
    all_goals (refine WC.sr ?_)
    all_goals (refine Go ?_)
    all_goals (refine goC 1 2 ?_ ?_ <;> first | exact ⟨⟩ | refine Hb.mk fun hb => ?_ | skip)
    all_goals (first | (fail_if_success refine goB 1 ?_) | (
    refine goB 1 ?_
    all_goals (refine WC.region ?_)
    all_goals (refine Go ?_)
    all_goals (refine WL.step (ok_idxAddrA Tryz.underlying30 (fun w => Tryz.sizeOf54 w) rfl rfl rfl (by omega) (by first | rfl | assumption)) rfl rfl rfl ?_)
    all_goals (refine Go ?_)
    all_goals (refine WL.stepR0 (okE_store (fun w => Tryz.sizeOf9 w) rfl rfl hg (by show 0 + k * 2 + 1 < gs.length; omega) rfl rfl) rfl rfl ?_
               rintro _ h3 ⟨hb3, hx3⟩)
    all_goals (refine Gn ?_)
    skip))
    all_goals (first | (fail_if_success refine goB 2 ?_) | (
    refine goB 2 ?_
    all_goals (refine WC.skip ?_)
    skip))
    all_goals (refine Gn ?_)
    all_goals (refine WC.sub [(7, _)] ⟨rfl, trivial⟩ ?_)
    all_goals (refine WC.sr ?_)
    all_goals (refine Go ?_)
    all_goals (refine WC.ret ?_)
    all_goals (repeat' (with_reducible first | refine thenP_r ?_ | refine blockP_r ?_))
    all_goals (refine retP_1 _ ⟨rfl, trivial⟩ ?_)
    all_goals (exact ⟨hset (j := 1) (q' := ⟨c, t⟩) (by decide) (by subst hkc; rfl) (by simpa using hb3), (hx1.trans hx2).trans' hx3 (fun q hq e => by omega), hf1⟩)
/-- The fields of a fault. -/
def fl4 (s c x : List UInt8) : List FieldD := [⟨83, s⟩, ⟨86, s⟩, ⟨67, c⟩, ⟨77, x⟩]
set_option maxHeartbeats 2000000 in
set_option maxRecDepth 100000 in
theorem make_v {h : Heap} (s c x : List UInt8) : CallsH Tryz.prog 57 ⟨[St s, St c, St x]⟩ h fun u h' => Own h' u 54 2 4 ((fl4 s c x).flatMap FieldD.cells) ∧ Ext No h h' := by
  refine calls [(0, _), (1, _), (2, _)] Tryz.func57 rfl Tryz.ntmps57 rfl ⟨rfl, rfl, rfl, trivial⟩ ?_
  all_goals (refine WC.sr ?_)
  all_goals (refine Go ?_)
  all_goals (refine WC.sr ?_)
  all_goals (refine Go ?_)
  all_goals (refine WL.step (ok_buildF (vs := [_, _, _, _]) (cs := [_, _, _, _]) (fun | [a0, a1, a2, a3] => [a0, a1, a2, a3] | _ => []) rfl rfl (by kernel_rfl)) rfl rfl rfl ?_)
  all_goals (refine WL.stepR (okE_alloc (fun w => Tryz.zeroValue109 w)) rfl rfl rfl ?_
             rintro _ h1 ⟨b7, rfl, hg7, hb7, hx1⟩)
  all_goals (refine WL.stepR0 (okE_storeW (fun w => Tryz.sizeOf109 w) rfl rfl rfl hb7 rfl (by simp [Value.oneCell'])) rfl rfl ?_
             rintro _ h2 ⟨hb72, hx2⟩)
  all_goals (refine Gn ?_)
  all_goals (refine WC.sub [(7, _)] ⟨rfl, trivial⟩ ?_)
  all_goals (refine WC.sr ?_)
  all_goals (refine Go ?_)
  all_goals (refine WC.seq ?_)
  all_goals (refine WC.sr ?_)
  all_goals (refine WL.stepR (okE_buildSlice (vs := [_, _, _, _]) (cs := [_, _, _, _]) (fun | [a0, a1, a2, a3] => [a0, a1, a2, a3] | _ => []) Tryz.underlying24 rfl rfl (by kernel_rfl)) rfl rfl rfl ?_
             rintro _ h3 ⟨b16, rfl, hg16, hb16, hx3⟩)
  all_goals (refine WL.stepR (okE_convSS Tryz.underlying24 Tryz.underlying5 rfl (by assumption)) rfl rfl rfl ?_
             rintro _ h4 ⟨rfl, ⟨z4, hb4⟩, hx4⟩)
  all_goals (have hX2 := hx1.trans' hx2 (fun q hq e => by omega)
             have s2 := hX2.size
             have hb74 := hx4.obj (hx3.obj hb72 nos) (fun e => by have := lt_of_some hb72; omega)
             have hX4 := (hX2.trans hx3).trans' hx4 (fun q hq e => by omega))
  all_goals (refine Go ?_)
  all_goals (refine WC.block ?_)
  -- loop 0: slots that turn [8, 19], that stay [7, 17, 18]
  all_goals (refine WC.loopG (X := Nat × Value) (fun x => ([(19, In (x.1 : Int)), (8, x.2)] : Fr)) [(7, _), (17, _), (18, _)] (fun y h' => y.1 ≤ 4 ∧ Own h' y.2 54 2 y.1 (((fl4 s c x).take y.1).flatMap FieldD.cells) ∧ Ext No h4 h' ∧ ∀ q, y.2.ownBlock = some q → h4.size ≤ q) (fun y => 4 - y.1) ((0, .slice none 0 0)) ⟨rfl, rfl, rfl, rfl, rfl, trivial⟩ (by exact ⟨by decide, Own.nil _ _ _, .refl _ _, by simp [Value.ownBlock]⟩) ?_)
  all_goals (rintro ⟨k, w⟩ h5 ⟨hk, ho5, hx5, hf5⟩
             dsimp only at hk ho5 hf5)
  all_goals (refine WC.sub [(8, _), (19, _), (7, _), (17, _), (18, _)] ⟨rfl, rfl, rfl, rfl, rfl, trivial⟩ ?_)
  all_goals (dsimp only)
  all_goals (refine WC.sr ?_)
  all_goals (refine Go ?_)
  all_goals (refine WC.seq ?_)
  all_goals (refine goC 1 2 ?_ ?_ <;> first | exact ⟨⟩ | refine Hb.mk fun hb => ?_ | skip)
  all_goals (first | (fail_if_success refine goB 1 ?_) | (
  refine goB 1 ?_
  all_goals (refine WC.skip ?_)
  skip))
  all_goals (first | (fail_if_success refine goB 2 ?_) | (
  refine goB 2 ?_
  all_goals (refine WC.exit ?_)
  all_goals (repeat' (with_reducible first | refine thenP_x ?_ | refine blockP_miss rfl ?_ | refine blockP_hit ?_ | refine blockP_n ?_ | refine thenP_n ?_))
  all_goals (refine Br.out (i := 1000) ?_)
  skip))
  all_goals (refine Gn ?_)
  all_goals (first | (refine Br.keep ?_) | (refine WC.seq ?_))
  all_goals (first | (refine Br.keep ?_) | (refine WC.block ?_))
  all_goals (first | (refine Br.keep ?_) | (refine WC.sr ?_))
  all_goals (first
               | (refine Br.keep ?_)
               | (obtain ⟨y, hy⟩ : ∃ y, (fl4 s c x)[k]? = some y := ⟨_, List.getElem?_eq_getElem (by show k < 4; omega)⟩
                  have hcode : ([.int .u8 83, .int .u8 86, .int .u8 67, .int .u8 77] : List Value)[k]? = some (.int .u8 y.k) := by have := congrArg (Option.map fun f : FieldD => Value.int .u8 f.k) hy; rw [← List.getElem?_map] at this; exact this
                  have htext : ([St s, St s, St c, St x] : List Value)[k]? = some (St y.t) := by have := congrArg (Option.map fun f : FieldD => St f.t) hy; rw [← List.getElem?_map] at this; exact this
                  have hb45 := hx5.obj hb4 nos
                  have hb75 := hx5.obj hb74 nos))
  all_goals (first | (refine Br.keep ?_) | (refine WL.step (ok_move rfl) rfl rfl rfl ?_))
  all_goals (first | (refine Br.keep ?_) | (refine WL.step (ok_idxAddrA Tryz.underlying24 (fun w => Tryz.sizeOf5 w) rfl rfl rfl (by omega) (by first | rfl | assumption)) rfl rfl rfl ?_))
  all_goals (first | (refine Br.keep ?_) | (refine WL.step (ok_load (fun w => Tryz.isAgg5 w) rfl (by first | exact (At.of_block hb45).get k hcode (by omega) | assumption | exact cell_blk (by assumption) rfl)) rfl rfl rfl ?_))
  all_goals (refine Go ?_)
  all_goals (first | (refine Br.keep ?_) | (refine WC.sub [(7, _), (8, _), (9, _), (10, _), (17, _), (18, _), (19, _)] ⟨rfl, rfl, rfl, rfl, rfl, rfl, rfl, trivial⟩ ?_))
  all_goals (first | (refine Br.keep ?_) | (refine WC.region ?_))
  all_goals (refine Go ?_)
  all_goals (first | (refine Br.keep ?_) | (refine WL.step (ok_idxAddrR Tryz.underlying109 (fun w => Tryz.sizeOf9 w) rfl rfl rfl (by omega)) rfl rfl rfl ?_))
  all_goals (first | (refine Br.keep ?_) | (refine WL.step (ok_load (fun w => Tryz.isAgg9 w) rfl (by first | exact (At.of_block hb75).get k htext (by omega) | assumption | exact cell_blk (by assumption) rfl)) rfl rfl rfl ?_))
  all_goals (first | (refine Br.keep ?_) | (refine WL.step (ok_buildF (vs := [_, _]) (cs := [_, _]) (fun | [a0, a1] => [a0, a1] | _ => []) rfl rfl (by kernel_rfl)) rfl rfl rfl ?_))
  all_goals (first
               | (refine Br.keep ?_)
               | (refine WL.stepR (okE_buildSlice (vs := [_]) (cs := [_, _]) (fun | [.agg ⟨[a0, a1]⟩] => [a0, a1] | _ => []) Tryz.underlying30 rfl rfl (by kernel_rfl)) rfl rfl rfl ?_
                  rintro _ h6 ⟨b6, rfl, hg6, hb6, hx6⟩))
  all_goals (first
               | (refine Br.keep ?_)
               | (refine WL.stepR (ok_append (sz := 2) (bytes := 24) rfl Tryz.underlying30 (show Tryz.prog.info? 54 = some Tryz.t54 by kernel_rfl) rfl rfl rfl rfl (by decide) rfl rfl (ho5.ext hx6 (fun _ _ => nos)) (rd_blk hb6 rfl) (by simp [Value.oneCell']) (by simp only [maxLen]; omega) (by omega)) rfl rfl rfl ?_
                  rintro v7 h7 ⟨ho7, hx7, hl7⟩))
  all_goals (refine Go ?_)
  all_goals (first | (refine Br.keep ?_) | (refine WC.sub [(7, _), (8, _), (17, _), (18, _), (19, _)] ⟨rfl, rfl, rfl, rfl, rfl, trivial⟩ ?_))
  all_goals (first | (refine Br.keep ?_) | (refine WC.region ?_))
  all_goals (refine Go ?_)
  all_goals (first | (refine Br.keep ?_) | (exact ⟨(k + 1, _), ⟨rfl, rfl, rfl, rfl, rfl, trivial⟩, (by exact ⟨by omega, by rw [List.take_add_one, hy, List.flatMap_append]; simpa [FieldD.cells] using ho7, (hx5.trans hx6).trans' hx7 (fun q hq e => by have := hf5 q e; omega), fresh_of hl7 hf5 (by have := hx5.size; have := hx6.size; omega)⟩), (by simp; omega)⟩))
  all_goals (try (refine Br.mk (i := 1000) ?_))
  all_goals (refine Gn ?_)
  all_goals (refine WC.sub [(8, _)] ⟨rfl, trivial⟩ ?_)
  all_goals (refine WC.sr ?_)
  all_goals (refine Go ?_)
  all_goals (refine WC.ret ?_)
  all_goals (repeat' (with_reducible first | refine thenP_r ?_ | refine blockP_r ?_))
  all_goals (refine retP_1 _ ⟨rfl, trivial⟩ ?_)
  all_goals (have hk4 : k = 4 := by omega
             subst hk4
             exact ⟨ho5, hX4.trans hx5⟩)
abbrev nilV : Value := .slice none 0 0
/-- A fault. -/
def eB (v : Value) : List Value := [.int .u8 69, .int .u8 0, St [], St [], St [], In 0, In 0, nilV, nilV, nilV, v]
theorem own_kind {h : Heap} {T : TypeId} {sz n q : Nat} {v : Value} {xs : List Value} (ho : Own h v T sz n xs) (hq : v.ownBlock = some q) : ∃ cur, h[q]? = some (.cells cur T (0, 0)) := by
  obtain ⟨_, ⟨e1, _⟩ | ⟨g, cap, cur, e1, hg, _⟩⟩ := ho
  · rw [e1] at hq; cases hq
  · rw [e1] at hq
    have : g = q := by simpa [Value.ownBlock] using hq
    exact ⟨cur, this ▸ hg⟩
set_option maxHeartbeats 2000000 in
set_option maxRecDepth 100000 in
theorem error_v {h : Heap} (c x : List UInt8) : CallsH Tryz.prog 21 ⟨[St c, St x]⟩ h fun u h' => ∃ v, u = .agg ⟨eB v⟩ ∧ Own h' v 54 2 4 ((fl4 ([69, 82, 82, 79, 82] : List UInt8) c x).flatMap FieldD.cells) ∧ Ext No h h' := by
  have kt : ∀ h', CallsH Tryz.prog 40 ⟨[St ([69, 82, 82, 79, 82] : List UInt8), St c, St x]⟩ h' fun u h'' => ∃ v, u = .agg ⟨eB v⟩ ∧ Own h'' v 54 2 4 ((fl4 ([69, 82, 82, 79, 82] : List UInt8) c x).flatMap FieldD.cells) ∧ Ext No h' h'' := fun h' => by
    refine calls [(0, _), (1, _), (2, _)] Tryz.func40 rfl Tryz.ntmps40 rfl ⟨rfl, rfl, rfl, trivial⟩ ?_
    all_goals (refine WC.sr ?_)
    all_goals (refine WL.stepR (okE_alloc (fun w => Tryz.zeroValue32 w)) rfl rfl rfl ?_
               rintro _ h1 ⟨b1, rfl, hg1, hb1, hx1⟩)
    all_goals (refine Gn ?_)
    all_goals (refine WC.sr ?_)
    all_goals (refine Go ?_)
    all_goals (refine WL.call (vs := [_, _, _]) rfl (fun a w => Tryz.call57 a w) rfl (make_v ([69, 82, 82, 79, 82] : List UInt8) c x) rfl rfl rfl ?_
               rintro v2 h2 ⟨ho2, hx2⟩
               obtain ⟨A2, c2, rfl, _⟩ := ho2.slice)
    all_goals (refine WL.step (ok_buildF (vs := [_, _]) (cs := [_, _, _, _, _, _, _, _, _, _, _]) (fun | [a0, a10] => [a0, (.int .u8 0), (St []), (St []), (St []), (.int .i64 0), (.int .i64 0), (.slice none 0 0), (.slice none 0 0), (.slice none 0 0), a10] | _ => []) rfl rfl (by kernel_rfl)) rfl rfl rfl ?_)
    all_goals (refine WL.stepR0 (okE_storeW (fun w => Tryz.sizeOf32 w) rfl rfl rfl (hx2.obj hb1 nos) rfl (by simp [Value.oneCell'])) rfl rfl ?_
               rintro _ h3 ⟨hb3, hx3⟩)
    all_goals (refine Gn ?_)
    all_goals (refine WC.sub [(6, _)] ⟨rfl, trivial⟩ ?_)
    all_goals (refine WC.ret ?_)
    all_goals (repeat' (with_reducible first | refine thenP_r ?_ | refine blockP_r ?_))
    all_goals (refine retP_1 _ ⟨⟨_, rfl, ld_blk (fun w => Tryz.isAgg32 w) (fun w => Tryz.sizeOf32 w) hb3 rfl⟩, trivial⟩ ?_)
    all_goals (exact ⟨_, rfl, ho2.ext hx3 (fun q hq e => by obtain ⟨_, z⟩ := own_kind ho2 hq; rw [e, hx2.obj hb1 nos] at z; simp at z), (hx1.trans hx2).trans' hx3 (fun q hq e => by omega)⟩)
  refine calls [(0, _), (1, _)] Tryz.func21 rfl Tryz.ntmps21 rfl ⟨rfl, rfl, trivial⟩ ?_
  all_goals (refine WC.sr ?_)
  all_goals (refine WL.stepR (okE_alloc (fun w => Tryz.zeroValue32 w)) rfl rfl rfl ?_
             rintro _ h1 ⟨b1, rfl, hg1, hb1, hx1⟩)
  all_goals (refine Gn ?_)
  all_goals (refine WC.sr ?_)
  all_goals (refine Go ?_)
  all_goals (refine WL.call (vs := [_, _, _]) rfl (fun a w => Tryz.call40 a w) rfl (kt _) rfl rfl rfl ?_
             rintro _ h2 ⟨v2, rfl, ho2, hx2⟩
             obtain ⟨A2, c2, rfl, _⟩ := ho2.slice)
  all_goals (refine WL.stepR0 (okE_storeW (fun w => Tryz.sizeOf32 w) rfl rfl rfl (hx2.obj hb1 nos) rfl (by simp [eB, Value.oneCell'])) rfl rfl ?_
             rintro _ h3 ⟨hb3, hx3⟩)
  all_goals (refine Gn ?_)
  all_goals (refine WC.sub [(4, _)] ⟨rfl, trivial⟩ ?_)
  all_goals (refine WC.ret ?_)
  all_goals (repeat' (with_reducible first | refine thenP_r ?_ | refine blockP_r ?_))
  all_goals (refine retP_1 _ ⟨⟨_, rfl, ld_blk (fun w => Tryz.isAgg32 w) (fun w => Tryz.sizeOf32 w) hb3 rfl⟩, trivial⟩ ?_)
  all_goals (exact ⟨_, rfl, ho2.ext hx3 (fun q hq e => by obtain ⟨_, z⟩ := own_kind ho2 hq; rw [e, hx2.obj hb1 nos] at z; simp at z), (hx1.trans hx2).trans' hx3 (fun q hq e => by omega)⟩)
set_option maxHeartbeats 2000000 in
set_option maxRecDepth 100000 in
theorem cln_int {h : Heap} : CallsH Tryz.prog 43 ⟨[nilV]⟩ h fun u h' => u = nilV ∧ h' = h := by
  refine calls [(0, _)] Tryz.func43 rfl Tryz.ntmps43 rfl ⟨rfl, trivial⟩ ?_
  all_goals (refine WC.sr ?_)
  all_goals (refine Go ?_)
  all_goals (refine WC.seq ?_)
  all_goals (refine WC.sr ?_)
  all_goals (refine Go ?_)
  all_goals (refine WL.step (ok_eqlSn Tryz.underlying27 rfl rfl) rfl rfl rfl ?_)
  all_goals (refine Gn ?_)
  all_goals (refine goC 1 2 ?_ ?_ <;> first | exact ⟨⟩ | refine Hb.mk fun hb => ?_ | skip)
  all_goals (first | (fail_if_success refine goB 1 ?_) | (
  refine goB 1 ?_
  all_goals (refine WC.sr ?_)
  all_goals (refine Go ?_)
  all_goals (refine WC.ret ?_)
  all_goals (repeat' (with_reducible first | refine thenP_r ?_ | refine blockP_r ?_))
  all_goals (refine retP_1 _ ⟨rfl, trivial⟩ ?_)
  all_goals (exact ⟨rfl, rfl⟩)
  skip))
  all_goals (first | (fail_if_success refine goB 2 ?_) | (
  refine goB 2 ?_
  all_goals (refine WC.skip ?_)
  skip))
  all_goals (refine Gn ?_)
  all_goals (refine WC.sr ?_)
  all_goals (refine WL.stepR (okE_buildSlice (vs := []) (cs := []) (fun _ => []) Tryz.underlying27 rfl rfl (by kernel_rfl)) rfl rfl rfl ?_
             rintro _ h1 ⟨b1, rfl, hg1, hb1, hx1⟩)
  all_goals (refine Go ?_)
  all_goals (refine WL.stepR (ok_append (sz := 1) (bytes := 8) rfl Tryz.underlying27 (show Tryz.prog.info? 3 = some Tryz.t3 by kernel_rfl) rfl rfl rfl rfl (by decide) rfl rfl (by assumption) (by first | assumption | exact rd_blk (by assumption) rfl) (by simp [Value.oneCell']) (by simp only [maxLen]; omega) (by omega)) rfl rfl rfl ?_
             rintro v1 h1 ⟨ho1, hx1, hl1⟩)
  all_goals (refine Go ?_)
  all_goals (refine WC.sub [(2, _)] ⟨rfl, trivial⟩ ?_)
  all_goals (refine WC.ret ?_)
  all_goals (repeat' (with_reducible first | refine thenP_r ?_ | refine blockP_r ?_))
  all_goals (refine retP_1 _ ⟨rfl, trivial⟩ ?_)
  all_goals (exact ⟨rfl, rfl⟩)
set_option maxHeartbeats 2000000 in
set_option maxRecDepth 100000 in
theorem cln_col {h : Heap} : CallsH Tryz.prog 44 ⟨[nilV]⟩ h fun u h' => u = nilV ∧ h' = h := by
  refine calls [(0, _)] Tryz.func44 rfl Tryz.ntmps44 rfl ⟨rfl, trivial⟩ ?_
  all_goals (refine WC.sr ?_)
  all_goals (refine Go ?_)
  all_goals (refine WC.seq ?_)
  all_goals (refine WC.sr ?_)
  all_goals (refine Go ?_)
  all_goals (refine WL.step (ok_eqlSn Tryz.underlying28 rfl rfl) rfl rfl rfl ?_)
  all_goals (refine Gn ?_)
  all_goals (refine goC 1 2 ?_ ?_ <;> first | exact ⟨⟩ | refine Hb.mk fun hb => ?_ | skip)
  all_goals (first | (fail_if_success refine goB 1 ?_) | (
  refine goB 1 ?_
  all_goals (refine WC.sr ?_)
  all_goals (refine Go ?_)
  all_goals (refine WC.ret ?_)
  all_goals (repeat' (with_reducible first | refine thenP_r ?_ | refine blockP_r ?_))
  all_goals (refine retP_1 _ ⟨rfl, trivial⟩ ?_)
  all_goals (exact ⟨rfl, rfl⟩)
  skip))
  all_goals (first | (fail_if_success refine goB 2 ?_) | (
  refine goB 2 ?_
  all_goals (refine WC.skip ?_)
  skip))
  all_goals (refine Gn ?_)
  all_goals (refine WC.sr ?_)
  all_goals (refine WL.stepR (okE_buildSlice (vs := []) (cs := []) (fun _ => []) Tryz.underlying28 rfl rfl (by kernel_rfl)) rfl rfl rfl ?_
             rintro _ h1 ⟨b1, rfl, hg1, hb1, hx1⟩)
  all_goals (refine Go ?_)
  all_goals (refine WL.stepR (ok_append (sz := 7) (bytes := 64) rfl Tryz.underlying28 (show Tryz.prog.info? 46 = some Tryz.t46 by kernel_rfl) rfl rfl rfl rfl (by decide) rfl rfl (by assumption) (by first | assumption | exact rd_blk (by assumption) rfl) (by simp [Value.oneCell']) (by simp only [maxLen]; omega) (by omega)) rfl rfl rfl ?_
             rintro v1 h1 ⟨ho1, hx1, hl1⟩)
  all_goals (refine Go ?_)
  all_goals (refine WC.sub [(2, _)] ⟨rfl, trivial⟩ ?_)
  all_goals (refine WC.ret ?_)
  all_goals (repeat' (with_reducible first | refine thenP_r ?_ | refine blockP_r ?_))
  all_goals (refine retP_1 _ ⟨rfl, trivial⟩ ?_)
  all_goals (exact ⟨rfl, rfl⟩)
set_option maxHeartbeats 2000000 in
set_option maxRecDepth 100000 in
theorem cln_cel {h : Heap} : CallsH Tryz.prog 46 ⟨[nilV]⟩ h fun u h' => u = nilV ∧ h' = h := by
  refine calls [(0, _)] Tryz.func46 rfl Tryz.ntmps46 rfl ⟨rfl, trivial⟩ ?_
  all_goals (refine WC.sr ?_)
  all_goals (refine Go ?_)
  all_goals (refine WC.seq ?_)
  all_goals (refine WC.sr ?_)
  all_goals (refine Go ?_)
  all_goals (refine WL.step (ok_eqlSn Tryz.underlying29 rfl rfl) rfl rfl rfl ?_)
  all_goals (refine Gn ?_)
  all_goals (refine goC 1 2 ?_ ?_ <;> first | exact ⟨⟩ | refine Hb.mk fun hb => ?_ | skip)
  all_goals (first | (fail_if_success refine goB 1 ?_) | (
  refine goB 1 ?_
  all_goals (refine WC.sr ?_)
  all_goals (refine Go ?_)
  all_goals (refine WC.ret ?_)
  all_goals (repeat' (with_reducible first | refine thenP_r ?_ | refine blockP_r ?_))
  all_goals (refine retP_1 _ ⟨rfl, trivial⟩ ?_)
  all_goals (exact ⟨rfl, rfl⟩)
  skip))
  all_goals (first | (fail_if_success refine goB 2 ?_) | (
  refine goB 2 ?_
  all_goals (refine WC.skip ?_)
  skip))
  all_goals (refine Gn ?_)
  all_goals (refine WC.sr ?_)
  all_goals (refine WL.stepR (okE_buildSlice (vs := []) (cs := []) (fun _ => []) Tryz.underlying29 rfl rfl (by kernel_rfl)) rfl rfl rfl ?_
             rintro _ h1 ⟨b1, rfl, hg1, hb1, hx1⟩)
  all_goals (refine Go ?_)
  all_goals (refine WL.stepR (ok_append (sz := 2) (bytes := 32) rfl Tryz.underlying29 (show Tryz.prog.info? 50 = some Tryz.t50 by kernel_rfl) rfl rfl rfl rfl (by decide) rfl rfl (by assumption) (by first | assumption | exact rd_blk (by assumption) rfl) (by simp [Value.oneCell']) (by simp only [maxLen]; omega) (by omega)) rfl rfl rfl ?_
             rintro v1 h1 ⟨ho1, hx1, hl1⟩)
  all_goals (refine Go ?_)
  all_goals (refine WC.sub [(2, _)] ⟨rfl, trivial⟩ ?_)
  all_goals (refine WC.ret ?_)
  all_goals (repeat' (with_reducible first | refine thenP_r ?_ | refine blockP_r ?_))
  all_goals (refine retP_1 _ ⟨rfl, trivial⟩ ?_)
  all_goals (exact ⟨rfl, rfl⟩)
end Go.Proofs.YtbahigffjclpdaaGreatDoor


/-
  FIX (layer 25): a fault as clients get it.
-/
namespace Go.Proofs.YtbahigffjclpdaaGreatDoor
open Go Go.RK

set_option maxHeartbeats 4000000 in
set_option maxRecDepth 100000 in
theorem copied_e {h : Heap} {v : Value} (F : List FieldD) (hr : Rd h v 2 F.length (F.flatMap FieldD.cells)) (hm : F.length ≤ 1000000) : CallsH Tryz.prog 29 ⟨[.agg ⟨eB v⟩]⟩ h fun u h' => ∃ v', u = .agg ⟨eB v'⟩ ∧ Own h' v' 54 2 F.length (F.flatMap FieldD.cells) ∧ Ext No h h' := by
  obtain ⟨A, c, rfl, _⟩ := id hr
  unfold eB
  refine calls [(0, _)] Tryz.func29 rfl Tryz.ntmps29 rfl ⟨rfl, trivial⟩ ?_
  all_goals (refine WC.sr ?_)
  all_goals (refine WL.stepR (okE_box rfl) rfl rfl rfl ?_
             rintro _ h1 ⟨b1, rfl, hg1, hb1, hx1⟩)
  all_goals (refine WL.stepR (okE_alloc (fun w => Tryz.zeroValue32 w)) rfl rfl rfl ?_
             rintro _ h2 ⟨b2, rfl, hg2, hb2, hx2⟩)
  all_goals (have hb12 := hx2.obj hb1 nos
             have hX2 := hx1.trans hx2
             have l1 := lt_of_some hb1)
  all_goals (refine Gn ?_)
  all_goals (refine WC.seq ?_)
  all_goals (refine WC.drawH (fun h' => Ext No h2 h') 12 20 rfl fol ?_)
  all_goals (refine WH.tk 0 rfl (fun hq hC => ok_fieldAddr rfl Tryz.underlying32 rfl (fun w => Tryz.sizeOf27 w)) rfl rfl rfl ?_)
  all_goals (refine WH.tk 1 rfl (fun hq hC => ok_load (fun w => Tryz.isAgg27 w) rfl (by first | exact hC.cell (by first | exact cell_blk hb12 rfl | assumption | exact cell_blk (by assumption) rfl) nos)) rfl rfl rfl ?_)
  all_goals (refine WH.tk 3 rfl (fun hq hC => ok_fieldAddr rfl Tryz.underlying32 rfl (fun w => Tryz.sizeOf28 w)) rfl rfl rfl ?_)
  all_goals (refine WH.tk 4 rfl (fun hq hC => ok_load (fun w => Tryz.isAgg28 w) rfl (by first | exact hC.cell (by first | exact cell_blk hb12 rfl | assumption | exact cell_blk (by assumption) rfl) nos)) rfl rfl rfl ?_)
  all_goals (refine WH.tk 6 rfl (fun hq hC => ok_fieldAddr rfl Tryz.underlying32 rfl (fun w => Tryz.sizeOf30 w)) rfl rfl rfl ?_)
  all_goals (refine WH.tk 7 rfl (fun hq hC => ok_load (fun w => Tryz.isAgg30 w) rfl (by first | exact hC.cell (by first | exact cell_blk hb12 rfl | assumption | exact cell_blk (by assumption) rfl) nos)) rfl rfl rfl ?_)
  all_goals (refine WH.tk 9 rfl (fun hq hC => ok_fieldAddr rfl Tryz.underlying32 rfl (fun w => Tryz.sizeOf29 w)) rfl rfl rfl ?_)
  all_goals (refine WH.tk 10 rfl (fun hq hC => ok_load (fun w => Tryz.isAgg29 w) rfl (by first | exact hC.cell (by first | exact cell_blk hb12 rfl | assumption | exact cell_blk (by assumption) rfl) nos)) rfl rfl rfl ?_)
  all_goals (refine WH.one 2 (by kernel_rfl) ?_)
  all_goals (refine Comes1.call (vs := [_]) rfl rfl (fun a w => Tryz.call43 a w) rfl (cln_int) rfl rfl rfl ?_ (fun _ => by kernel_rfl)
             rintro _ hz ⟨rfl, _⟩
             subst hz)
  all_goals (refine ⟨fun _ => .refl _ _, ?_⟩)
  all_goals (refine WH.two 5 12 (by kernel_rfl) (Br.out (i := 5009) ?_) (Br.out (i := 5010) ?_))
  all_goals (first | (fail_if_success refine goB 5009 ?_) | (
  refine goB 5009 ?_
  all_goals (refine Comes1.call (vs := [_]) rfl rfl (fun a w => Tryz.call44 a w) rfl (cln_col) rfl rfl rfl ?_ (fun _ => by kernel_rfl)
             rintro _ hz ⟨rfl, _⟩
             subst hz)
  all_goals (refine ⟨fun _ => .refl _ _, ?_⟩)
  all_goals (refine WH.two 8 12 (by kernel_rfl) (Br.out (i := 5009) ?_) (Br.out (i := 5010) ?_))
  all_goals (first | (fail_if_success refine goB 5009 ?_) | (
  refine goB 5009 ?_
  all_goals (refine Comes1.call (vs := [_]) rfl rfl (fun a w => Tryz.call45 a w) rfl (clone_fld F (hr.ext0 hX2) hm) rfl rfl rfl ?_ (fun _ => by kernel_rfl)
             rintro v8 h8 ⟨ho8, hx8, hf8⟩
             obtain ⟨A8, c8, rfl, _⟩ := ho8.slice)
  all_goals (refine ⟨fun _ => hx8, ?_⟩)
  all_goals (refine WH.two 11 12 (by kernel_rfl) (Br.out (i := 5009) ?_) (Br.out (i := 5010) ?_))
  all_goals (first | (fail_if_success refine goB 5009 ?_) | (
  refine goB 5009 ?_
  all_goals (refine Comes1.call (vs := [_]) rfl rfl (fun a w => Tryz.call46 a w) rfl (cln_cel) rfl rfl rfl ?_ (fun _ => by kernel_rfl)
             rintro _ hz ⟨rfl, _⟩
             subst hz)
  all_goals (refine ⟨fun _ => hx8, ?_⟩)
  all_goals (refine WH.one 12 (by kernel_rfl) ?_)
  all_goals (refine Comes1.run rfl (OkP.r (ok_fieldAddr rfl Tryz.underlying32 rfl (fun w => Tryz.sizeOf27 w))) rfl rfl rfl ?_ (fun _ => by kernel_rfl)
             rintro _ hz ⟨rfl, _⟩
             subst hz)
  all_goals (refine ⟨fun e => (by cases e), ?_⟩)
  all_goals (refine WH.one 13 (by kernel_rfl) ?_)
  all_goals (refine Comes1.run0 rfl (okE_store (fun w => Tryz.sizeOf27 w) rfl rfl (hx8.obj hb12 nos) (Nat.le_of_ble_eq_true rfl) rfl rfl) rfl rfl ?_ (fun _ => by kernel_rfl)
             rintro _ h13 ⟨hb13, hx13⟩)
  all_goals (refine ⟨fun e => (by cases e), ?_⟩)
  all_goals (refine WH.one 14 (by kernel_rfl) ?_)
  all_goals (refine Comes1.run rfl (OkP.r (ok_fieldAddr rfl Tryz.underlying32 rfl (fun w => Tryz.sizeOf28 w))) rfl rfl rfl ?_ (fun _ => by kernel_rfl)
             rintro _ hz ⟨rfl, _⟩
             subst hz)
  all_goals (refine ⟨fun e => (by cases e), ?_⟩)
  all_goals (refine WH.one 15 (by kernel_rfl) ?_)
  all_goals (refine Comes1.run0 rfl (okE_store (fun w => Tryz.sizeOf28 w) rfl rfl hb13 (Nat.le_of_ble_eq_true rfl) rfl rfl) rfl rfl ?_ (fun _ => by kernel_rfl)
             rintro _ h15 ⟨hb15, hx15⟩)
  all_goals (refine ⟨fun e => (by cases e), ?_⟩)
  all_goals (refine WH.one 16 (by kernel_rfl) ?_)
  all_goals (refine Comes1.run rfl (OkP.r (ok_fieldAddr rfl Tryz.underlying32 rfl (fun w => Tryz.sizeOf30 w))) rfl rfl rfl ?_ (fun _ => by kernel_rfl)
             rintro _ hz ⟨rfl, _⟩
             subst hz)
  all_goals (refine ⟨fun e => (by cases e), ?_⟩)
  all_goals (refine WH.one 17 (by kernel_rfl) ?_)
  all_goals (refine Comes1.run0 rfl (okE_store (fun w => Tryz.sizeOf30 w) rfl rfl hb15 (Nat.le_of_ble_eq_true rfl) rfl rfl) rfl rfl ?_ (fun _ => by kernel_rfl)
             rintro _ h17 ⟨hb17, hx17⟩)
  all_goals (refine ⟨fun e => (by cases e), ?_⟩)
  all_goals (refine WH.one 18 (by kernel_rfl) ?_)
  all_goals (refine Comes1.run rfl (OkP.r (ok_fieldAddr rfl Tryz.underlying32 rfl (fun w => Tryz.sizeOf29 w))) rfl rfl rfl ?_ (fun _ => by kernel_rfl)
             rintro _ hz ⟨rfl, _⟩
             subst hz)
  all_goals (refine ⟨fun e => (by cases e), ?_⟩)
  all_goals (refine WH.one 19 (by kernel_rfl) ?_)
  all_goals (refine Comes1.run0 rfl (okE_store (fun w => Tryz.sizeOf29 w) rfl rfl hb17 (Nat.le_of_ble_eq_true rfl) rfl rfl) rfl rfl ?_ (fun _ => by kernel_rfl)
             rintro _ h19 ⟨hb19, hx19⟩)
  all_goals (refine ⟨fun e => (by cases e), ?_⟩)
  all_goals (have hX19 : Ext (fun q => q = b1) h8 h19 := ((hx13.trans hx15).trans hx17).trans hx19
             have hX219 : Ext No h h19 := (hX2.trans hx8).trans' hX19 (fun q hq e => by omega)
             have ho19 := ho8.ext hX19 (fun q hq e => by obtain ⟨_, z⟩ := own_kind ho8 hq; rw [e, hx8.obj hb12 nos] at z; simp at z)
             have hb219 := hX19.obj (hx8.obj hb2 nos) (fun e => by omega))
  all_goals (refine WH.done (by kernel_rfl) ?_)
  skip))
  all_goals (first | (fail_if_success refine goB 5010 ?_) | (
  refine goB 5010 ?_
  all_goals (refine Comes1.run rfl (OkP.r (ok_fieldAddr rfl Tryz.underlying32 rfl (fun w => Tryz.sizeOf27 w))) rfl rfl rfl ?_ (fun _ => by kernel_rfl)
             rintro _ hz ⟨rfl, _⟩
             subst hz)
  all_goals (refine ⟨fun e => (by cases e), ?_⟩)
  all_goals (refine WH.one 11 (by kernel_rfl) ?_)
  all_goals (refine Comes1.call (vs := [_]) rfl rfl (fun a w => Tryz.call46 a w) rfl (cln_cel) rfl rfl rfl ?_ (fun _ => by kernel_rfl)
             rintro _ hz ⟨rfl, _⟩
             subst hz)
  all_goals (refine ⟨fun _ => hx8, ?_⟩)
  all_goals (refine WH.one 13 (by kernel_rfl) ?_)
  all_goals (refine Comes1.run0 rfl (okE_store (fun w => Tryz.sizeOf27 w) rfl rfl (hx8.obj hb12 nos) (Nat.le_of_ble_eq_true rfl) rfl rfl) rfl rfl ?_ (fun _ => by kernel_rfl)
             rintro _ h13 ⟨hb13, hx13⟩)
  all_goals (refine ⟨fun e => (by cases e), ?_⟩)
  all_goals (refine WH.one 14 (by kernel_rfl) ?_)
  all_goals (refine Comes1.run rfl (OkP.r (ok_fieldAddr rfl Tryz.underlying32 rfl (fun w => Tryz.sizeOf28 w))) rfl rfl rfl ?_ (fun _ => by kernel_rfl)
             rintro _ hz ⟨rfl, _⟩
             subst hz)
  all_goals (refine ⟨fun e => (by cases e), ?_⟩)
  all_goals (refine WH.one 15 (by kernel_rfl) ?_)
  all_goals (refine Comes1.run0 rfl (okE_store (fun w => Tryz.sizeOf28 w) rfl rfl hb13 (Nat.le_of_ble_eq_true rfl) rfl rfl) rfl rfl ?_ (fun _ => by kernel_rfl)
             rintro _ h15 ⟨hb15, hx15⟩)
  all_goals (refine ⟨fun e => (by cases e), ?_⟩)
  all_goals (refine WH.one 16 (by kernel_rfl) ?_)
  all_goals (refine Comes1.run rfl (OkP.r (ok_fieldAddr rfl Tryz.underlying32 rfl (fun w => Tryz.sizeOf30 w))) rfl rfl rfl ?_ (fun _ => by kernel_rfl)
             rintro _ hz ⟨rfl, _⟩
             subst hz)
  all_goals (refine ⟨fun e => (by cases e), ?_⟩)
  all_goals (refine WH.one 17 (by kernel_rfl) ?_)
  all_goals (refine Comes1.run0 rfl (okE_store (fun w => Tryz.sizeOf30 w) rfl rfl hb15 (Nat.le_of_ble_eq_true rfl) rfl rfl) rfl rfl ?_ (fun _ => by kernel_rfl)
             rintro _ h17 ⟨hb17, hx17⟩)
  all_goals (refine ⟨fun e => (by cases e), ?_⟩)
  all_goals (refine WH.one 18 (by kernel_rfl) ?_)
  all_goals (refine Comes1.run rfl (OkP.r (ok_fieldAddr rfl Tryz.underlying32 rfl (fun w => Tryz.sizeOf29 w))) rfl rfl rfl ?_ (fun _ => by kernel_rfl)
             rintro _ hz ⟨rfl, _⟩
             subst hz)
  all_goals (refine ⟨fun e => (by cases e), ?_⟩)
  all_goals (refine WH.one 19 (by kernel_rfl) ?_)
  all_goals (refine Comes1.run0 rfl (okE_store (fun w => Tryz.sizeOf29 w) rfl rfl hb17 (Nat.le_of_ble_eq_true rfl) rfl rfl) rfl rfl ?_ (fun _ => by kernel_rfl)
             rintro _ h19 ⟨hb19, hx19⟩)
  all_goals (refine ⟨fun e => (by cases e), ?_⟩)
  all_goals (have hX19 : Ext (fun q => q = b1) h8 h19 := ((hx13.trans hx15).trans hx17).trans hx19
             have hX219 : Ext No h h19 := (hX2.trans hx8).trans' hX19 (fun q hq e => by omega)
             have ho19 := ho8.ext hX19 (fun q hq e => by obtain ⟨_, z⟩ := own_kind ho8 hq; rw [e, hx8.obj hb12 nos] at z; simp at z)
             have hb219 := hX19.obj (hx8.obj hb2 nos) (fun e => by omega))
  all_goals (refine WH.done (by kernel_rfl) ?_)
  skip))
  skip))
  all_goals (first | (fail_if_success refine goB 5010 ?_) | (
  refine goB 5010 ?_
  all_goals (refine Comes1.run rfl (OkP.r (ok_fieldAddr rfl Tryz.underlying32 rfl (fun w => Tryz.sizeOf27 w))) rfl rfl rfl ?_ (fun _ => by kernel_rfl)
             rintro _ hz ⟨rfl, _⟩
             subst hz)
  all_goals (refine ⟨fun e => (by cases e), ?_⟩)
  all_goals (refine WH.one 8 (by kernel_rfl) ?_)
  all_goals (refine Comes1.call (vs := [_]) rfl rfl (fun a w => Tryz.call45 a w) rfl (clone_fld F (hr.ext0 hX2) hm) rfl rfl rfl ?_ (fun _ => by kernel_rfl)
             rintro v8 h8 ⟨ho8, hx8, hf8⟩
             obtain ⟨A8, c8, rfl, _⟩ := ho8.slice)
  all_goals (refine ⟨fun _ => hx8, ?_⟩)
  all_goals (refine WH.one 11 (by kernel_rfl) ?_)
  all_goals (refine Comes1.call (vs := [_]) rfl rfl (fun a w => Tryz.call46 a w) rfl (cln_cel) rfl rfl rfl ?_ (fun _ => by kernel_rfl)
             rintro _ hz ⟨rfl, _⟩
             subst hz)
  all_goals (refine ⟨fun _ => hx8, ?_⟩)
  all_goals (refine WH.one 13 (by kernel_rfl) ?_)
  all_goals (refine Comes1.run0 rfl (okE_store (fun w => Tryz.sizeOf27 w) rfl rfl (hx8.obj hb12 nos) (Nat.le_of_ble_eq_true rfl) rfl rfl) rfl rfl ?_ (fun _ => by kernel_rfl)
             rintro _ h13 ⟨hb13, hx13⟩)
  all_goals (refine ⟨fun e => (by cases e), ?_⟩)
  all_goals (refine WH.one 14 (by kernel_rfl) ?_)
  all_goals (refine Comes1.run rfl (OkP.r (ok_fieldAddr rfl Tryz.underlying32 rfl (fun w => Tryz.sizeOf28 w))) rfl rfl rfl ?_ (fun _ => by kernel_rfl)
             rintro _ hz ⟨rfl, _⟩
             subst hz)
  all_goals (refine ⟨fun e => (by cases e), ?_⟩)
  all_goals (refine WH.one 15 (by kernel_rfl) ?_)
  all_goals (refine Comes1.run0 rfl (okE_store (fun w => Tryz.sizeOf28 w) rfl rfl hb13 (Nat.le_of_ble_eq_true rfl) rfl rfl) rfl rfl ?_ (fun _ => by kernel_rfl)
             rintro _ h15 ⟨hb15, hx15⟩)
  all_goals (refine ⟨fun e => (by cases e), ?_⟩)
  all_goals (refine WH.one 16 (by kernel_rfl) ?_)
  all_goals (refine Comes1.run rfl (OkP.r (ok_fieldAddr rfl Tryz.underlying32 rfl (fun w => Tryz.sizeOf30 w))) rfl rfl rfl ?_ (fun _ => by kernel_rfl)
             rintro _ hz ⟨rfl, _⟩
             subst hz)
  all_goals (refine ⟨fun e => (by cases e), ?_⟩)
  all_goals (refine WH.one 17 (by kernel_rfl) ?_)
  all_goals (refine Comes1.run0 rfl (okE_store (fun w => Tryz.sizeOf30 w) rfl rfl hb15 (Nat.le_of_ble_eq_true rfl) rfl rfl) rfl rfl ?_ (fun _ => by kernel_rfl)
             rintro _ h17 ⟨hb17, hx17⟩)
  all_goals (refine ⟨fun e => (by cases e), ?_⟩)
  all_goals (refine WH.one 18 (by kernel_rfl) ?_)
  all_goals (refine Comes1.run rfl (OkP.r (ok_fieldAddr rfl Tryz.underlying32 rfl (fun w => Tryz.sizeOf29 w))) rfl rfl rfl ?_ (fun _ => by kernel_rfl)
             rintro _ hz ⟨rfl, _⟩
             subst hz)
  all_goals (refine ⟨fun e => (by cases e), ?_⟩)
  all_goals (refine WH.one 19 (by kernel_rfl) ?_)
  all_goals (refine Comes1.run0 rfl (okE_store (fun w => Tryz.sizeOf29 w) rfl rfl hb17 (Nat.le_of_ble_eq_true rfl) rfl rfl) rfl rfl ?_ (fun _ => by kernel_rfl)
             rintro _ h19 ⟨hb19, hx19⟩)
  all_goals (refine ⟨fun e => (by cases e), ?_⟩)
  all_goals (have hX19 : Ext (fun q => q = b1) h8 h19 := ((hx13.trans hx15).trans hx17).trans hx19
             have hX219 : Ext No h h19 := (hX2.trans hx8).trans' hX19 (fun q hq e => by omega)
             have ho19 := ho8.ext hX19 (fun q hq e => by obtain ⟨_, z⟩ := own_kind ho8 hq; rw [e, hx8.obj hb12 nos] at z; simp at z)
             have hb219 := hX19.obj (hx8.obj hb2 nos) (fun e => by omega))
  all_goals (refine WH.done (by kernel_rfl) ?_)
  skip))
  skip))
  all_goals (first | (fail_if_success refine goB 5010 ?_) | (
  refine goB 5010 ?_
  all_goals (refine Comes1.run rfl (OkP.r (ok_fieldAddr rfl Tryz.underlying32 rfl (fun w => Tryz.sizeOf27 w))) rfl rfl rfl ?_ (fun _ => by kernel_rfl)
             rintro _ hz ⟨rfl, _⟩
             subst hz)
  all_goals (refine ⟨fun e => (by cases e), ?_⟩)
  all_goals (refine WH.one 5 (by kernel_rfl) ?_)
  all_goals (refine Comes1.call (vs := [_]) rfl rfl (fun a w => Tryz.call44 a w) rfl (cln_col) rfl rfl rfl ?_ (fun _ => by kernel_rfl)
             rintro _ hz ⟨rfl, _⟩
             subst hz)
  all_goals (refine ⟨fun _ => .refl _ _, ?_⟩)
  all_goals (refine WH.one 8 (by kernel_rfl) ?_)
  all_goals (refine Comes1.call (vs := [_]) rfl rfl (fun a w => Tryz.call45 a w) rfl (clone_fld F (hr.ext0 hX2) hm) rfl rfl rfl ?_ (fun _ => by kernel_rfl)
             rintro v8 h8 ⟨ho8, hx8, hf8⟩
             obtain ⟨A8, c8, rfl, _⟩ := ho8.slice)
  all_goals (refine ⟨fun _ => hx8, ?_⟩)
  all_goals (refine WH.one 11 (by kernel_rfl) ?_)
  all_goals (refine Comes1.call (vs := [_]) rfl rfl (fun a w => Tryz.call46 a w) rfl (cln_cel) rfl rfl rfl ?_ (fun _ => by kernel_rfl)
             rintro _ hz ⟨rfl, _⟩
             subst hz)
  all_goals (refine ⟨fun _ => hx8, ?_⟩)
  all_goals (refine WH.one 13 (by kernel_rfl) ?_)
  all_goals (refine Comes1.run0 rfl (okE_store (fun w => Tryz.sizeOf27 w) rfl rfl (hx8.obj hb12 nos) (Nat.le_of_ble_eq_true rfl) rfl rfl) rfl rfl ?_ (fun _ => by kernel_rfl)
             rintro _ h13 ⟨hb13, hx13⟩)
  all_goals (refine ⟨fun e => (by cases e), ?_⟩)
  all_goals (refine WH.one 14 (by kernel_rfl) ?_)
  all_goals (refine Comes1.run rfl (OkP.r (ok_fieldAddr rfl Tryz.underlying32 rfl (fun w => Tryz.sizeOf28 w))) rfl rfl rfl ?_ (fun _ => by kernel_rfl)
             rintro _ hz ⟨rfl, _⟩
             subst hz)
  all_goals (refine ⟨fun e => (by cases e), ?_⟩)
  all_goals (refine WH.one 15 (by kernel_rfl) ?_)
  all_goals (refine Comes1.run0 rfl (okE_store (fun w => Tryz.sizeOf28 w) rfl rfl hb13 (Nat.le_of_ble_eq_true rfl) rfl rfl) rfl rfl ?_ (fun _ => by kernel_rfl)
             rintro _ h15 ⟨hb15, hx15⟩)
  all_goals (refine ⟨fun e => (by cases e), ?_⟩)
  all_goals (refine WH.one 16 (by kernel_rfl) ?_)
  all_goals (refine Comes1.run rfl (OkP.r (ok_fieldAddr rfl Tryz.underlying32 rfl (fun w => Tryz.sizeOf30 w))) rfl rfl rfl ?_ (fun _ => by kernel_rfl)
             rintro _ hz ⟨rfl, _⟩
             subst hz)
  all_goals (refine ⟨fun e => (by cases e), ?_⟩)
  all_goals (refine WH.one 17 (by kernel_rfl) ?_)
  all_goals (refine Comes1.run0 rfl (okE_store (fun w => Tryz.sizeOf30 w) rfl rfl hb15 (Nat.le_of_ble_eq_true rfl) rfl rfl) rfl rfl ?_ (fun _ => by kernel_rfl)
             rintro _ h17 ⟨hb17, hx17⟩)
  all_goals (refine ⟨fun e => (by cases e), ?_⟩)
  all_goals (refine WH.one 18 (by kernel_rfl) ?_)
  all_goals (refine Comes1.run rfl (OkP.r (ok_fieldAddr rfl Tryz.underlying32 rfl (fun w => Tryz.sizeOf29 w))) rfl rfl rfl ?_ (fun _ => by kernel_rfl)
             rintro _ hz ⟨rfl, _⟩
             subst hz)
  all_goals (refine ⟨fun e => (by cases e), ?_⟩)
  all_goals (refine WH.one 19 (by kernel_rfl) ?_)
  all_goals (refine Comes1.run0 rfl (okE_store (fun w => Tryz.sizeOf29 w) rfl rfl hb17 (Nat.le_of_ble_eq_true rfl) rfl rfl) rfl rfl ?_ (fun _ => by kernel_rfl)
             rintro _ h19 ⟨hb19, hx19⟩)
  all_goals (refine ⟨fun e => (by cases e), ?_⟩)
  all_goals (have hX19 : Ext (fun q => q = b1) h8 h19 := ((hx13.trans hx15).trans hx17).trans hx19
             have hX219 : Ext No h h19 := (hX2.trans hx8).trans' hX19 (fun q hq e => by omega)
             have ho19 := ho8.ext hX19 (fun q hq e => by obtain ⟨_, z⟩ := own_kind ho8 hq; rw [e, hx8.obj hb12 nos] at z; simp at z)
             have hb219 := hX19.obj (hx8.obj hb2 nos) (fun e => by omega))
  all_goals (refine WH.done (by kernel_rfl) ?_)
  skip))
  all_goals (refine Gn ?_)
  all_goals (refine WC.sub [(1, _), (2, _)] ⟨rfl, rfl, trivial⟩ ?_)
  all_goals (refine WC.seq ?_)
  all_goals (refine WC.sr ?_)
  all_goals (refine Go ?_)
  all_goals (refine WL.step (ok_load (fun w => Tryz.isAgg29 w) rfl (by first | exact cell_blk hb19 rfl | assumption | exact cell_blk (by assumption) rfl)) rfl rfl rfl ?_)
  all_goals (refine Go ?_)
  all_goals (refine WC.block ?_)
  -- loop 0: slots that turn [23], that stay [1, 2, 22]
  all_goals (refine WC.loopG (X := Nat) (fun x => ([(23, In (x : Int))] : Fr)) [(1, _), (2, _), (22, _)] (fun k h' => h' = h19 ∧ k = 0) (fun k => 0 - k) (0) ⟨rfl, rfl, rfl, rfl, trivial⟩ (by exact ⟨rfl, rfl⟩) ?_)
  all_goals (rintro k _ ⟨rfl, rfl⟩)
  all_goals (refine WC.sub [(23, _), (1, _), (2, _), (22, _)] ⟨rfl, rfl, rfl, rfl, trivial⟩ ?_)
  all_goals (refine WC.sr ?_)
  all_goals (refine Go ?_)
  all_goals (refine WC.seq ?_)
  all_goals (refine goC 1 2 ?_ ?_ <;> first | exact ⟨⟩ | refine Hb.mk fun hb => ?_ | skip)
  all_goals (first | (fail_if_success refine goB 1 ?_) | (
  refine goB 1 ?_
  all_goals (refine WC.skip ?_)
  skip))
  all_goals (first | (fail_if_success refine goB 2 ?_) | (
  refine goB 2 ?_
  all_goals (refine WC.exit ?_)
  all_goals (repeat' (with_reducible first | refine thenP_x ?_ | refine blockP_miss rfl ?_ | refine blockP_hit ?_ | refine blockP_n ?_ | refine thenP_n ?_))
  all_goals (refine Br.out (i := 1000) ?_)
  skip))
  all_goals (refine Gn ?_)
  all_goals (first | (refine Br.keep ?_) | (refine WC.seq ?_))
  all_goals (first | (refine Br.keep ?_) | (refine WC.block ?_))
  all_goals (first | (refine Br.keep ?_) | (refine WC.sr ?_))
  all_goals (refine Go ?_)
  all_goals (first | (refine Br.keep ?_) | (refine WC.drawE fol (by kernel_rfl) ?_))
  all_goals (first | (refine Br.keep ?_) | (refine WQ.stepE (ok_fieldAddr rfl Tryz.underlying32 rfl (fun w => Tryz.sizeOf29 w)) rfl rfl rfl ?_))
  all_goals (first | (refine Br.keep ?_) | (refine WQ.stepE (ok_load (fun w => Tryz.isAgg29 w) rfl (by first | assumption | exact cell_blk (by assumption) rfl)) rfl rfl rfl ?_))
  all_goals (first | (refine Br.keep ?_) | (refine WQ.stepE (ok_move rfl) rfl rfl rfl ?_))
  all_goals (first | (refine Br.keep ?_) | (refine WQ.stepE (ok_fieldAddr rfl Tryz.underlying32 rfl (fun w => Tryz.sizeOf29 w)) rfl rfl rfl ?_))
  all_goals (first | (refine Br.keep ?_) | (refine WQ.stepE (ok_load (fun w => Tryz.isAgg29 w) rfl (by first | assumption | exact cell_blk (by assumption) rfl)) rfl rfl rfl ?_))
  all_goals (first | (refine Br.keep ?_) | (refine WQ.stepE (ok_move rfl) rfl rfl rfl ?_))
  all_goals (first | (refine Br.keep ?_) | (refine WQ.stepE (ok_idxAddrA Tryz.underlying29 (fun w => Tryz.sizeOf50 w) rfl rfl rfl (by omega) (by first | rfl | assumption)) rfl rfl rfl ?_))
  all_goals (first | (refine Br.keep ?_) | (refine WQ.stepE (ok_fieldAddr rfl Tryz.underlying50 rfl (fun w => Tryz.sizeOf24 w)) rfl rfl rfl ?_))
  all_goals (first | (refine Br.keep ?_) | (refine WQ.stepE (ok_load (fun w => Tryz.isAgg24 w) rfl (by first | assumption | exact cell_blk (by assumption) rfl)) rfl rfl rfl ?_))
  all_goals (first | (refine Br.keep ?_) | (fail "no contract for call of slices.Clone[[]byte,byte] at 5.9"))
  all_goals (first | (refine Br.keep ?_) | (refine WQ.stepE (ok_idxAddrA Tryz.underlying29 (fun w => Tryz.sizeOf50 w) rfl rfl rfl (by omega) (by first | rfl | assumption)) rfl rfl rfl ?_))
  all_goals (first | (refine Br.keep ?_) | (refine WQ.stepE (ok_fieldAddr rfl Tryz.underlying50 rfl (fun w => Tryz.sizeOf24 w)) rfl rfl rfl ?_))
  all_goals (first
               | (refine Br.keep ?_)
               | (refine WL.stepR0 (okE_store (fun w => Tryz.sizeOf24 w) rfl rfl (by assumption) (Nat.le_of_ble_eq_true rfl) rfl rfl) rfl rfl ?_
                  rintro _ h1 ⟨hb1, hx1⟩))
  all_goals (first | (refine Br.keep ?_) | (refine WQ.nil ?_))
  all_goals (refine Gn ?_)
  all_goals (first | (refine Br.keep ?_) | (refine WC.sub [(1, _), (2, _), (22, _), (23, _)] ⟨rfl, rfl, rfl, rfl, trivial⟩ ?_))
  all_goals (first | (refine Br.keep ?_) | (refine WC.region ?_))
  all_goals (refine Go ?_)
  all_goals (first | (refine Br.keep ?_) | (exact ⟨k + 1, ⟨rfl, rfl, rfl, rfl, trivial⟩, (by fail "none"), (by omega)⟩))
  all_goals (try (refine Br.mk (i := 1000) ?_))
  all_goals (refine Gn ?_)
  all_goals (refine WC.sr ?_)
  all_goals (refine WL.step (ok_loadN (fun w => Tryz.isAgg32 w) (fun w => Tryz.sizeOf32 w) rfl rfl (by exact At.of_block hb19)) rfl rfl rfl ?_)
  all_goals (refine WL.stepR0 (okE_storeW (fun w => Tryz.sizeOf32 w) rfl rfl rfl hb219 rfl (by simp [Value.oneCell'])) rfl rfl ?_
             rintro _ h20 ⟨hb20, hx20⟩)
  all_goals (refine Gn ?_)
  all_goals (refine WC.sub [(2, _)] ⟨rfl, trivial⟩ ?_)
  all_goals (refine WC.ret ?_)
  all_goals (repeat' (with_reducible first | refine thenP_r ?_ | refine blockP_r ?_))
  all_goals (refine retP_1 _ ⟨⟨_, rfl, ld_blk (fun w => Tryz.isAgg32 w) (fun w => Tryz.sizeOf32 w) hb20 rfl⟩, trivial⟩ ?_)
  all_goals (exact ⟨_, rfl, ho19.ext hx20 (fun q hq e => by obtain ⟨_, z⟩ := own_kind ho19 hq; rw [e, hb219] at z; simp at z), hX219.trans' hx20 (fun q hq e => by have := hx1.size; omega)⟩)
/-- An entry that renames. -/
def eC (f t : List UInt8) : List Value := [In 0, .bool false, St f, St t, nilV, nilV, nilV, nilV]
set_option maxHeartbeats 4000000 in
set_option maxRecDepth 100000 in
theorem renamed_e {h : Heap} {v : Value} (F : List FieldD) (f t c x : List UInt8) (hr : Rd h v 2 F.length (F.flatMap FieldD.cells)) (hm : F.length ≤ 1000000) (hc : getT 67 F = some c) (hx : getT 77 F = some x) (hM : Ml h) (hxl : x.length ≤ 100000) (hfl : f.length ≤ 10000) (htl : t.length ≤ 10000) :
    CallsH Tryz.prog 30 ⟨[.agg ⟨eC f t⟩, .agg ⟨eB v⟩]⟩ h fun u h' => ∃ v', u = .agg ⟨eB v'⟩ ∧ Own h' v' 54 2 F.length ((withF 77 (renL c x f t) F).flatMap FieldD.cells) ∧ Ext No h h' := by
  have kg := fun h' (hx : Ext No h h') (cc : Int) => get_v F cc (hr.ext0 hx) (show F.length ≤ maxLen by unfold maxLen; omega)
  have kw := fun h' (hx : Ext No h h') (y : List UInt8) => with_v F 77 y (hr.ext0 hx) hm
  have kr := fun h' (hx : Ext No h h') => rename_any c x f t (hM.ext0 hx) hxl hfl htl
  obtain ⟨A, cc, rfl, _⟩ := id hr
  unfold eB eC
  refine calls [(0, _), (1, _)] Tryz.func30 rfl Tryz.ntmps30 rfl ⟨rfl, rfl, trivial⟩ ?_
  all_goals (refine WC.sr ?_)
  all_goals (refine WL.stepR (okE_box rfl) rfl rfl rfl ?_
             rintro _ h1 ⟨b2, rfl, hg2, hb2, hx1⟩)
  all_goals (refine WL.stepR (okE_box rfl) rfl rfl rfl ?_
             rintro _ h2 ⟨b3, rfl, hg3, hb3, hx2⟩)
  all_goals (refine WL.stepR (okE_alloc (fun w => Tryz.zeroValue32 w)) rfl rfl rfl ?_
             rintro _ h3 ⟨b4, rfl, hg4, hb4, hx3⟩)
  all_goals (have hX3 := (hx1.trans hx2).trans hx3
             have hb23 := (hx2.trans hx3).obj hb2 nos
             have hb33 := hx3.obj hb3 nos)
  all_goals (refine Gn ?_)
  all_goals (refine WC.sr ?_)
  all_goals (refine Go ?_)
  all_goals (refine WL.step (ok_load (fun w => Tryz.isAgg30 w) rfl (by first | exact cell_blk hb33 rfl | assumption | exact cell_blk (by assumption) rfl)) rfl rfl rfl ?_)
  all_goals (refine WL.call (vs := [_, _]) rfl (fun a w => Tryz.call23 a w) rfl (kg _ hX3 67) rfl rfl rfl ?_
             rintro _ h4 ⟨rfl, hx4⟩
             rw [hc])
  all_goals (have hb34 := hx4.obj hb33 nos)
  all_goals (refine Go ?_)
  all_goals (refine WC.sub [(2, _), (3, _), (4, _), (5, _), (6, _)] ⟨rfl, rfl, rfl, rfl, rfl, trivial⟩ ?_)
  all_goals (refine WC.sr ?_)
  all_goals (refine Go ?_)
  all_goals (refine WL.step (ok_load (fun w => Tryz.isAgg30 w) rfl (by first | exact cell_blk hb34 rfl | assumption | exact cell_blk (by assumption) rfl)) rfl rfl rfl ?_)
  all_goals (refine WL.call (vs := [_, _]) rfl (fun a w => Tryz.call23 a w) rfl (kg _ (hX3.trans hx4) 77) rfl rfl rfl ?_
             rintro _ h5 ⟨rfl, hx5⟩
             rw [hx])
  all_goals (have hX5 := (hX3.trans hx4).trans hx5
             have hb35 := hx5.obj hb34 nos
             have hb25 := (hx4.trans hx5).obj hb23 nos)
  all_goals (refine Go ?_)
  all_goals (refine WC.sub [(2, _), (3, _), (4, _), (5, _), (6, _), (7, _), (8, _)] ⟨rfl, rfl, rfl, rfl, rfl, rfl, rfl, trivial⟩ ?_)
  all_goals (refine WC.seq ?_)
  all_goals (refine WC.sr ?_)
  all_goals (refine Go ?_)
  all_goals (refine goP 22 ?_ ?_ <;> first | exact ⟨⟩ | refine Hb.mk fun hb => ?_ | skip)
  all_goals (refine Gg ?_)
  all_goals (refine Go ?_)
  all_goals (refine WC.sub [(2, _), (3, _), (4, _), (5, _), (7, _), (24, _)] ⟨rfl, rfl, rfl, rfl, rfl, rfl, trivial⟩ ?_)
  all_goals (refine goC 1 2 ?_ ?_ <;> first | exact ⟨⟩ | refine Hb.mk fun hb => ?_ | skip)
  all_goals (first | (fail_if_success refine goB 1 ?_) | (
  refine goB 1 ?_
  all_goals (refine WC.drawH (fun h' => Ext No h5 h') 10 12 rfl fol ?_)
  all_goals (refine WH.tk 0 rfl (fun hq hC => ok_fieldAddr rfl Tryz.underlying32 rfl (fun w => Tryz.sizeOf30 w)) rfl rfl rfl ?_)
  all_goals (refine WH.tk 1 rfl (fun hq hC => ok_load (fun w => Tryz.isAgg30 w) rfl (by first | exact hC.cell (by first | exact cell_blk hb35 rfl | assumption | exact cell_blk (by assumption) rfl) nos)) rfl rfl rfl ?_)
  all_goals (refine WH.tk 2 rfl (fun hq hC => ok_move rfl) rfl rfl rfl ?_)
  all_goals (refine WH.tk 3 rfl (fun hq hC => ok_move rfl) rfl rfl rfl ?_)
  all_goals (refine WH.tk 4 rfl (fun hq hC => ok_fieldAddr rfl Tryz.underlying26 rfl (fun w => Tryz.sizeOf9 w)) rfl rfl rfl ?_)
  all_goals (refine WH.tk 5 rfl (fun hq hC => ok_load (fun w => Tryz.isAgg9 w) rfl (by first | exact hC.cell (by first | exact cell_blk hb25 rfl | assumption | exact cell_blk (by assumption) rfl) nos)) rfl rfl rfl ?_)
  all_goals (refine WH.tk 6 rfl (fun hq hC => ok_fieldAddr rfl Tryz.underlying26 rfl (fun w => Tryz.sizeOf9 w)) rfl rfl rfl ?_)
  all_goals (refine WH.tk 7 rfl (fun hq hC => ok_load (fun w => Tryz.isAgg9 w) rfl (by first | exact hC.cell (by first | exact cell_blk hb25 rfl | assumption | exact cell_blk (by assumption) rfl) nos)) rfl rfl rfl ?_)
  all_goals (refine WH.one 8 (by kernel_rfl) ?_)
  all_goals (refine Comes1.call (vs := [_, _, _, _]) rfl rfl (fun a w => Tryz.call49 a w) rfl (kr _ hX5) rfl rfl rfl ?_ (fun _ => by kernel_rfl)
             rintro _ h6 ⟨rfl, hx6⟩)
  all_goals (refine ⟨fun _ => hx6, ?_⟩)
  all_goals (refine WH.one 9 (by kernel_rfl) ?_)
  all_goals (refine Comes1.call (vs := [_, _, _]) rfl rfl (fun a w => Tryz.call48 a w) rfl (kw _ (hX5.trans hx6) _) rfl rfl rfl ?_ (fun _ => by kernel_rfl)
             rintro v7 h7 ⟨ho7, hx7, hf7⟩
             obtain ⟨A7, c7, rfl, _⟩ := ho7.slice)
  all_goals (refine ⟨fun _ => hx6.trans hx7, ?_⟩)
  all_goals (have hX7 := hx6.trans hx7)
  all_goals (refine WH.one 10 (by kernel_rfl) ?_)
  all_goals (refine Comes1.run rfl (OkP.r (ok_fieldAddr rfl Tryz.underlying32 rfl (fun w => Tryz.sizeOf30 w))) rfl rfl rfl ?_ (fun _ => by kernel_rfl)
             rintro _ hz ⟨rfl, _⟩
             subst hz)
  all_goals (refine ⟨fun e => (by cases e), ?_⟩)
  all_goals (refine WH.one 11 (by kernel_rfl) ?_)
  all_goals (refine Comes1.run0 rfl (okE_store (fun w => Tryz.sizeOf30 w) rfl rfl (hX7.obj hb35 nos) (Nat.le_of_ble_eq_true rfl) rfl rfl) rfl rfl ?_ (fun _ => by kernel_rfl)
             rintro _ h8 ⟨hb8, hx8⟩)
  all_goals (refine ⟨fun e => (by cases e), ?_⟩)
  all_goals (have hb48 := hx8.obj (hX7.obj ((hx4.trans hx5).obj hb4 nos) nos) (fun e => by have := lt_of_some hb3; omega))
  all_goals (refine WH.done (by kernel_rfl) ?_)
  skip))
  all_goals (first | (fail_if_success refine goB 2 ?_) | (
  refine goB 2 ?_
  all_goals (refine WC.skip ?_)
  skip))
  all_goals (refine Gn ?_)
  all_goals (refine WC.sub [(3, _), (4, _)] ⟨rfl, rfl, trivial⟩ ?_)
  all_goals (refine WC.sr ?_)
  all_goals (refine WL.step (ok_loadN (fun w => Tryz.isAgg32 w) (fun w => Tryz.sizeOf32 w) rfl rfl (by exact At.of_block hb8)) rfl rfl rfl ?_)
  all_goals (refine WL.stepR0 (okE_storeW (fun w => Tryz.sizeOf32 w) rfl rfl rfl hb48 rfl (by simp [Value.oneCell'])) rfl rfl ?_
             rintro _ h9 ⟨hb9, hx9⟩)
  all_goals (refine Gn ?_)
  all_goals (refine WC.ret ?_)
  all_goals (repeat' (with_reducible first | refine thenP_r ?_ | refine blockP_r ?_))
  all_goals (refine retP_1 _ ⟨⟨_, rfl, ld_blk (fun w => Tryz.isAgg32 w) (fun w => Tryz.sizeOf32 w) hb9 rfl⟩, trivial⟩ ?_)
  all_goals (have hX8 : Ext No h h8 := (hX5.trans hX7).trans' hx8 (fun q hq e => by have := hx1.size; omega)
             have ho8 := ho7.ext hx8 (fun q hq e => by obtain ⟨_, z⟩ := own_kind ho7 hq; rw [e, hX7.obj hb35 nos] at z; simp at z)
             exact ⟨_, rfl, ho8.ext hx9 (fun q hq e => by obtain ⟨_, z⟩ := own_kind ho8 hq; rw [e, hb48] at z; simp at z), hX8.trans' hx9 (fun q hq e => by have := hx1.size; have := hx2.size; omega)⟩)
set_option maxHeartbeats 2000000 in
set_option maxRecDepth 100000 in
theorem back_e {h : Heap} {v : Value} (F : List FieldD) (f t c x : List UInt8) (hr : Rd h v 2 F.length (F.flatMap FieldD.cells)) (hm : F.length ≤ 1000000) (hc : getT 67 F = some c) (hx : getT 77 F = some x) (hM : Ml h) (hxl : x.length ≤ 100000) (hfl : f.length ≤ 10000) (htl : t.length ≤ 10000) :
    CallsH Tryz.prog 8 ⟨[.agg ⟨eC f t⟩, .agg ⟨eB v⟩]⟩ h fun u h' => ∃ v', u = .agg ⟨eB v'⟩ ∧ Own h' v' 54 2 F.length ((if f = t then F else withF 77 (renL c x f t) F).flatMap FieldD.cells) ∧ Ext No h h' := by
  have kc := fun h' (hx : Ext No h h') => copied_e F (hr.ext0 hx) hm
  unfold eC
  by_cases hft : f = t
  · subst hft
    rw [if_pos rfl]
    obtain ⟨A, cc, rfl, _⟩ := id hr
    refine calls [(0, _), (1, _)] Tryz.func8 rfl Tryz.ntmps8 rfl ⟨rfl, rfl, trivial⟩ ?_
    all_goals (refine WC.sr ?_)
    all_goals (refine WL.stepR (okE_box rfl) rfl rfl rfl ?_
               rintro _ h1 ⟨b2, rfl, hg2, hb2, hx1⟩)
    all_goals (refine WL.stepR (okE_box rfl) rfl rfl rfl ?_
               rintro _ h2 ⟨b3, rfl, hg3, hb3, hx2⟩)
    all_goals (refine WL.stepR (okE_alloc (fun w => Tryz.zeroValue32 w)) rfl rfl rfl ?_
               rintro _ h3 ⟨b4, rfl, hg4, hb4, hx3⟩)
    all_goals (have hX3 := (hx1.trans hx2).trans hx3
               have hb23 := (hx2.trans hx3).obj hb2 nos
               have hb33 := hx3.obj hb3 nos)
    all_goals (refine Gn ?_)
    all_goals (refine WC.sr ?_)
    all_goals (refine WL.step (ok_loadN (fun w => Tryz.isAgg32 w) (fun w => Tryz.sizeOf32 w) rfl rfl (by exact At.of_block hb33)) rfl rfl rfl ?_)
    all_goals (refine WL.call (vs := [_]) rfl (fun a w => Tryz.call29 a w) rfl (kc _ hX3) rfl rfl rfl ?_
               rintro _ h4 ⟨v4, rfl, ho4, hx4⟩
               obtain ⟨A4, c4, rfl, _⟩ := ho4.slice
               unfold eB)
    all_goals (refine WL.stepR0 (okE_storeW (fun w => Tryz.sizeOf32 w) rfl rfl rfl (hx4.obj hb33 nos) rfl (by simp [Value.oneCell'])) rfl rfl ?_
               rintro _ h5 ⟨hb5, hx5⟩)
    all_goals (have hb45 := hx5.obj (hx4.obj hb4 nos) (fun e => by have := lt_of_some hb3; omega)
               have hb25 := hx5.obj (hx4.obj hb23 nos) (fun e => by have := lt_of_some hb2; omega))
    all_goals (refine Gn ?_)
    all_goals (refine WC.sub [(2, _), (3, _), (4, _)] ⟨rfl, rfl, rfl, trivial⟩ ?_)
    all_goals (refine WC.seq ?_)
    all_goals (refine WC.sr ?_)
    all_goals (refine Go ?_)
    all_goals (refine WL.step (ok_load (fun w => Tryz.isAgg5 w) rfl (by first | exact cell_blk hb5 rfl | assumption | exact cell_blk (by assumption) rfl)) rfl rfl rfl ?_)
    all_goals (refine Go ?_)
    all_goals (refine goP 10 ?_ ?_ <;> first | exact ⟨⟩ | refine Hb.mk fun hb => ?_ | skip)
    all_goals (refine Gg ?_)
    all_goals (first | (refine WL.pass rfl rfl rfl ?_) | (refine WL.step (ok_load (fun w => Tryz.isAgg9 w) rfl (by first | exact cell_blk hb25 rfl | assumption | exact cell_blk (by assumption) rfl)) rfl rfl rfl ?_))
    all_goals (refine Gg ?_)
    all_goals (first | (refine WL.pass rfl rfl rfl ?_) | (refine WL.step (ok_load (fun w => Tryz.isAgg9 w) rfl (by first | exact cell_blk hb25 rfl | assumption | exact cell_blk (by assumption) rfl)) rfl rfl rfl ?_))
    all_goals (refine Gg ?_)
    all_goals (refine Go ?_)
    all_goals (refine WC.sub [(2, _), (3, _), (4, _), (16, _)] ⟨rfl, rfl, rfl, rfl, trivial⟩ ?_)
    all_goals (refine goC 1 2 ?_ ?_ <;> first | exact ⟨⟩ | refine Hb.mk fun hb => ?_ | skip)
    all_goals (first | (fail_if_success refine goB 2 ?_) | (
    refine goB 2 ?_
    all_goals (refine WC.skip ?_)
    skip))
    all_goals (refine Gn ?_)
    all_goals (refine WC.sr ?_)
    all_goals (refine WL.step (ok_loadN (fun w => Tryz.isAgg32 w) (fun w => Tryz.sizeOf32 w) rfl rfl (by exact At.of_block hb5)) rfl rfl rfl ?_)
    all_goals (refine WL.stepR0 (okE_storeW (fun w => Tryz.sizeOf32 w) rfl rfl rfl hb45 rfl (by simp [Value.oneCell'])) rfl rfl ?_
               rintro _ h6 ⟨hb6, hx6⟩)
    all_goals (refine Gn ?_)
    all_goals (refine WC.sub [(4, _)] ⟨rfl, trivial⟩ ?_)
    all_goals (refine WC.ret ?_)
    all_goals (repeat' (with_reducible first | refine thenP_r ?_ | refine blockP_r ?_))
    all_goals (refine retP_1 _ ⟨⟨_, rfl, ld_blk (fun w => Tryz.isAgg32 w) (fun w => Tryz.sizeOf32 w) hb6 rfl⟩, trivial⟩ ?_)
    all_goals (have ho5 := ho4.ext hx5 (fun q hq e => by obtain ⟨_, z⟩ := own_kind ho4 hq; rw [e, hx4.obj hb33 nos] at z; simp at z)
               exact ⟨_, rfl, ho5.ext hx6 (fun q hq e => by obtain ⟨_, z⟩ := own_kind ho5 hq; rw [e, hb45] at z; simp at z), ((hX3.trans hx4).trans' hx5 (fun q hq e => by have := hx1.size; omega)).trans' hx6 (fun q hq e => by have := hx1.size; have := hx2.size; omega)⟩)
  · rw [if_neg hft]
    have kn := fun h' (x0 : Ext No h h') v' (ho : Own h' v' 54 2 F.length (F.flatMap FieldD.cells)) => renamed_e F f t c x ho.rd hm hc hx (hM.ext0 x0) hxl hfl htl
    obtain ⟨A, cc, rfl, _⟩ := id hr
    unfold eC at kn
    refine calls [(0, _), (1, _)] Tryz.func8 rfl Tryz.ntmps8 rfl ⟨rfl, rfl, trivial⟩ ?_
    all_goals (refine WC.sr ?_)
    all_goals (refine WL.stepR (okE_box rfl) rfl rfl rfl ?_
               rintro _ h1 ⟨b2, rfl, hg2, hb2, hx1⟩)
    all_goals (refine WL.stepR (okE_box rfl) rfl rfl rfl ?_
               rintro _ h2 ⟨b3, rfl, hg3, hb3, hx2⟩)
    all_goals (refine WL.stepR (okE_alloc (fun w => Tryz.zeroValue32 w)) rfl rfl rfl ?_
               rintro _ h3 ⟨b4, rfl, hg4, hb4, hx3⟩)
    all_goals (have hX3 := (hx1.trans hx2).trans hx3
               have hb23 := (hx2.trans hx3).obj hb2 nos
               have hb33 := hx3.obj hb3 nos)
    all_goals (refine Gn ?_)
    all_goals (refine WC.sr ?_)
    all_goals (refine WL.step (ok_loadN (fun w => Tryz.isAgg32 w) (fun w => Tryz.sizeOf32 w) rfl rfl (by exact At.of_block hb33)) rfl rfl rfl ?_)
    all_goals (refine WL.call (vs := [_]) rfl (fun a w => Tryz.call29 a w) rfl (kc _ hX3) rfl rfl rfl ?_
               rintro _ h4 ⟨v4, rfl, ho4, hx4⟩
               obtain ⟨A4, c4, rfl, _⟩ := ho4.slice
               unfold eB)
    all_goals (refine WL.stepR0 (okE_storeW (fun w => Tryz.sizeOf32 w) rfl rfl rfl (hx4.obj hb33 nos) rfl (by simp [Value.oneCell'])) rfl rfl ?_
               rintro _ h5 ⟨hb5, hx5⟩)
    all_goals (have hb45 := hx5.obj (hx4.obj hb4 nos) (fun e => by have := lt_of_some hb3; omega)
               have hb25 := hx5.obj (hx4.obj hb23 nos) (fun e => by have := lt_of_some hb2; omega)
               have ho5 := ho4.ext hx5 (fun q hq e => by obtain ⟨_, z⟩ := own_kind ho4 hq; rw [e, hx4.obj hb33 nos] at z; simp at z)
               have hX5 := (hX3.trans hx4).trans' hx5 (fun q hq e => by have := hx1.size; omega))
    all_goals (refine Gn ?_)
    all_goals (refine WC.sub [(2, _), (3, _), (4, _)] ⟨rfl, rfl, rfl, trivial⟩ ?_)
    all_goals (refine WC.seq ?_)
    all_goals (refine WC.sr ?_)
    all_goals (refine Go ?_)
    all_goals (refine WL.step (ok_load (fun w => Tryz.isAgg5 w) rfl (by first | exact cell_blk hb5 rfl | assumption | exact cell_blk (by assumption) rfl)) rfl rfl rfl ?_)
    all_goals (refine Go ?_)
    all_goals (refine goP 10 ?_ ?_ <;> first | exact ⟨⟩ | refine Hb.mk fun hb => ?_ | skip)
    all_goals (refine Gg ?_)
    all_goals (first | (refine WL.pass rfl rfl rfl ?_) | (refine WL.step (ok_load (fun w => Tryz.isAgg9 w) rfl (by first | exact cell_blk hb25 rfl | assumption | exact cell_blk (by assumption) rfl)) rfl rfl rfl ?_))
    all_goals (refine Gg ?_)
    all_goals (first | (refine WL.pass rfl rfl rfl ?_) | (refine WL.step (ok_load (fun w => Tryz.isAgg9 w) rfl (by first | exact cell_blk hb25 rfl | assumption | exact cell_blk (by assumption) rfl)) rfl rfl rfl ?_))
    all_goals (refine Gg ?_)
    all_goals (refine Go ?_)
    all_goals (refine WC.sub [(2, _), (3, _), (4, _), (16, _)] ⟨rfl, rfl, rfl, rfl, trivial⟩ ?_)
    all_goals (refine goC 1 2 ?_ ?_ <;> first | exact ⟨⟩ | refine Hb.mk fun hb => ?_ | skip)
    all_goals (first | (fail_if_success refine goB 1 ?_) | (
    refine goB 1 ?_
    all_goals (refine WC.sr ?_)
    all_goals (refine WL.step (ok_loadN (fun w => Tryz.isAgg26 w) (fun w => Tryz.sizeOf26 w) rfl rfl (by exact At.of_block hb25)) rfl rfl rfl ?_)
    all_goals (refine WL.step (ok_loadN (fun w => Tryz.isAgg32 w) (fun w => Tryz.sizeOf32 w) rfl rfl (by exact At.of_block hb5)) rfl rfl rfl ?_)
    all_goals (refine WL.call (vs := [_, _]) rfl (fun a w => Tryz.call30 a w) rfl (kn _ hX5 _ ho5) rfl rfl rfl ?_
               rintro _ h6 ⟨v6, rfl, ho6, hx6⟩
               obtain ⟨A6, c6, rfl, _⟩ := ho6.slice
               unfold eB)
    all_goals (refine WL.stepR0 (okE_storeW (fun w => Tryz.sizeOf32 w) rfl rfl rfl (hx6.obj hb45 nos) rfl (by simp [Value.oneCell'])) rfl rfl ?_
               rintro _ h7 ⟨hb7, hx7⟩)
    all_goals (refine Gn ?_)
    all_goals (refine WC.sub [(4, _)] ⟨rfl, trivial⟩ ?_)
    all_goals (refine WC.ret ?_)
    all_goals (repeat' (with_reducible first | refine thenP_r ?_ | refine blockP_r ?_))
    all_goals (refine retP_1 _ ⟨⟨_, rfl, ld_blk (fun w => Tryz.isAgg32 w) (fun w => Tryz.sizeOf32 w) hb7 rfl⟩, trivial⟩ ?_)
    all_goals (exact ⟨_, rfl, ho6.ext hx7 (fun q hq e => by obtain ⟨_, z⟩ := own_kind ho6 hq; rw [e, hx6.obj hb45 nos] at z; simp at z), (hX5.trans hx6).trans' hx7 (fun q hq e => by have := hx1.size; have := hx2.size; omega)⟩)
    skip))
    all_goals (first | (fail_if_success refine goB 2 ?_) | (
    refine goB 2 ?_
    all_goals (refine WC.skip ?_)
    skip))
    all_goals (refine Gn ?_)
    all_goals (refine WC.sr ?_)
    all_goals (refine WL.step (ok_loadN (fun w => Tryz.isAgg32 w) (fun w => Tryz.sizeOf32 w) rfl rfl (by assumption)) rfl rfl rfl ?_)
    all_goals (refine WL.stepR0 (okE_storeW (fun w => Tryz.sizeOf32 w) rfl rfl rfl (by assumption) rfl (by simp [Value.oneCell'])) rfl rfl ?_
               rintro _ h1 ⟨hb1, hx1⟩)
    all_goals (refine Gn ?_)
    all_goals (refine WC.sub [(4, _)] ⟨rfl, trivial⟩ ?_)
    all_goals (refine WC.ret ?_)
    all_goals (repeat' (with_reducible first | refine thenP_r ?_ | refine blockP_r ?_))
    all_goals (refine retP_1 _ ⟨⟨_, rfl, ld_blk (fun w => Tryz.isAgg32 w) (fun w => Tryz.sizeOf32 w) hb7 rfl⟩, trivial⟩ ?_)
    all_goals (exact ⟨_, rfl, ho6.ext hx7 (fun q hq e => by obtain ⟨_, z⟩ := own_kind ho6 hq; rw [e, hx6.obj hb45 nos] at z; simp at z), (hX5.trans hx6).trans' hx7 (fun q hq e => by have := hx1.size; have := hx2.size; omega)⟩)
end Go.Proofs.YtbahigffjclpdaaGreatDoor


/-
  SHIFTS; A MAP's ENTRY SET IN TWO STEPS. No program is named here.
-/
namespace Go.RK
open Go Go.MapKept Go.ChangeMaps

section
variable {P : Program} {f : Fr} {h : Heap} {d : Option Tmp} {ty : TypeId} {pos : String} {af : Array Edge} {g : Option (Nat × Bool)}
variable {t t2 : TypeId} {x y : Operand} {a b : Int}
theorem ok_shr (hx : f.ev x = some (In a)) (hy : f.ev y = some (In b)) (hb : 0 ≤ b ∧ b ≤ 64) : OkP P f ⟨d, .binOp .shr t x y t2, ty, pos, af, g⟩ h (In (a / 2 ^ b.toNat)) :=
  fun ρ w ha _ => by
    have h1 : ¬ b < 0 := by omega
    have h2 : min b.toNat 64 = b.toNat := by omega
    have h3 : (IntKind.i64).bits = 64 := rfl
    simp [execOp, ha _ _ hx, ha _ _ hy, eqGuard_shr, binOp_shr, Op.shift, h1, h3, h2]
theorem ok_shl (hx : f.ev x = some (In a)) (hy : f.ev y = some (In b)) (hb : 0 ≤ b ∧ b ≤ 64) (hr : -9223372036854775808 ≤ a * 2 ^ b.toNat ∧ a * 2 ^ b.toNat ≤ 9223372036854775807) : OkP P f ⟨d, .binOp .shl t x y t2, ty, pos, af, g⟩ h (In (a * 2 ^ b.toNat)) :=
  fun ρ w ha _ => by
    have h1 : ¬ b < 0 := by omega
    have h2 : min b.toNat 64 = b.toNat := by omega
    have h3 : (IntKind.i64).bits = 64 := rfl
    have h4 := wrap_i64 _ hr.1 hr.2
    simp [execOp, ha _ _ hx, ha _ _ hy, eqGuard_shl, binOp_shl, Op.shift, h1, h3, h2, h4]
end

/-! ### an entry in two steps -/
/-- Entry st of the map at block m is the one of key k; with its value set the map holds aput es k v. -/
def MpE {κ : Type} [DecidableEq κ] (dsc : TypeDesc) (enc : κ → Value) (h : Heap) (m : Nat) (es : List (κ × Value)) (k : κ) (st : Int) : Prop :=
  ∃ arr clock i, h[m]? = some (.map arr clock) ∧ arr.findIdx? (fun e => (e.born : Int) == st) = some i ∧
    ∀ v : Value, Stamped (arr.modify i fun e => { e with val := v }) clock ∧ ((arr.modify i fun e => { e with val := v }).toList.map (fun e => (e.key, e.val)) = (aput es k v).map fun p => (enc p.1, p.2))
section
variable {P : Program} {f : Fr} {h : Heap} {dd : Option Tmp} {ty : TypeId} {pos : String} {af : Array Edge} {g : Option (Nat × Bool)}
variable {κ : Type} [DecidableEq κ] {dsc : TypeDesc} {enc : κ → Value} {m : Nat} {es : List (κ × Value)} {k : κ}
theorem MpE.ext {S : Nat → Prop} {h' : Heap} {st : Int} (e : MpE dsc enc h m es k st) (a : Ext S h h') (hm : ¬ S m) : MpE dsc enc h' m es k st := by
  obtain ⟨arr, clock, i, hb, r⟩ := e
  exact ⟨arr, clock, i, a.obj hb hm, r⟩
end
end Go.RK

/-
  A TEXT APPENDED TO A ROW OF BYTES; unsafe.String of a row of which a text was taken before. No program is named here.
-/
namespace Go.RK
open Go

section
variable {P : Program} {f : Fr} {h : Heap} {d : Option Tmp} {ty : TypeId} {pos : String} {af : Array Edge} {g : Option (Nat × Bool)}
theorem okE_appendS {x y : Operand} {t u e : TypeId} {i : TypeInfo} {ts : Array TypeId} (hts : ts = #[t, u]) (ht : P.underlying t = some (.slice e)) (hu : P.underlying u = some .string) (hi : P.info? e = some i) (hz : i.zero = some (.int .u8 0)) (hsz : i.size = 1) (hby : i.bytes = 1)
    {v : Value} {n : Nat} {xs : List Value} {s : List UInt8} (hx : f.ev x = some v) (hy : f.ev y = some (St s)) (hown : Own h v e 1 n xs) (hm : n + s.length ≤ 140737488355328) :
    OkR P f ⟨d, .call { callee := .builtin .append, args := #[x, y], argTypes := ts }, ty, pos, af, g⟩ h
      (fun v' h' => Own h' v' e 1 (n + s.length) (xs ++ bys s) ∧ Ext (fun k => v.ownBlock = some k) h h' ∧ (∀ k, v'.ownBlock = some k → v.ownBlock = some k ∨ h.size ≤ k) ∧ (v' = .slice Option.none 0 0 ↔ v = .slice Option.none 0 0 ∧ s = [])) :=
  fun ρ w ha hw => by
    subst hw
    subst hts
    have hup := hown.up
    have e63 : n + (ByteArray.mk ⟨s⟩).size ≤ maxLen := by show n + s.length ≤ maxLen; unfold maxLen; omega
    obtain ⟨v', w', hr, ho', hgr, hiff⟩ := Lib.run_append_own_string (P := P) w 0 t u ty e i ht hu hi hz hsz hby v n xs hup ⟨⟨s⟩⟩ e63 hm (Nat.zero_le _)
    have hloc : ∀ k, v'.ownBlock = some k → v.ownBlock = some k ∨ w.heap.size ≤ k := by
      intro k hk
      obtain ⟨hl, ⟨rfl, hn0⟩ | ⟨g0, cap, cur, rfl, hg0, hn, hc, hs, htk⟩⟩ := hown
      · have hup2 : w.ownsRow w.heap.size e 1 (.slice Option.none 0 0) n xs := ⟨hl, .inl ⟨rfl, hn0⟩⟩
        obtain ⟨v2, w2, hr2, ho2, _, _⟩ := Lib.run_append_own_string (P := P) w w.heap.size t u ty e i ht hu hi hz hsz hby _ n xs hup2 ⟨⟨s⟩⟩ e63 hm (Nat.le_refl _)
        rw [hr] at hr2
        injection hr2 with e1 e2
        subst e1
        obtain ⟨_, ⟨rfl, _⟩ | ⟨g1, _, _, rfl, hb, _⟩⟩ := ho2
        · cases hk
        · simp only [Value.ownBlock, Option.some.injEq] at hk
          exact .inr (hk ▸ hb)
      · by_cases hroom : n + (ByteArray.mk ⟨s⟩).size ≤ cap
        · have hr2 := Lib.run_append_room_string (P := P) w t u ty e i ht hu hi hsz g0 n cap cur hg0 ⟨⟨s⟩⟩ hroom (by rw [hs]; simpa using hroom)
          rw [hr] at hr2
          injection hr2 with e1 e2
          subst e1
          exact .inl hk
        · have hxl : xs.length = n := by simpa using hl
          have holds := hup.cells (g := g0) rfl
          have hr2 := Lib.run_append_grow_string (P := P) w t u ty e i (.int .u8 0) ht hu hi hz ⟨g0, 0, Option.none⟩ n cap xs (by rw [hsz]; omega) holds ⟨⟨s⟩⟩ (by omega) (by unfold maxLen at e63; omega) (by rw [hby]; exact growslice_fits (by omega) (by show (n + s.length) * 1 ≤ 140737488355328; omega))
          rw [hr] at hr2
          injection hr2 with e1 e2
          subst e1
          simp only [Value.ownBlock, Option.some.injEq] at hk
          exact .inr (by omega)
    refine ⟨v', w', ⟨hgr.tape, hgr.os, hgr.output, trivial⟩, ⟨.down ho', ⟨hgr.size, fun k hk hS => hgr.block k hk (fun e => hS e.symm)⟩, hloc, ?_⟩, .inl ?_⟩
    · rw [hiff]
      constructor
      · rintro ⟨h1, h2⟩
        exact ⟨h1, List.eq_nil_of_length_eq_zero h2⟩
      · rintro ⟨h1, rfl⟩
        exact ⟨h1, rfl⟩
    · simp [execOp, resolve, invoke, builtin, ha _ _ hx, ha _ _ hy, hr]
end
end Go.RK

/-
  NUMBERS AS BYTES (layer 1): package num's Put, and the document's.
-/
namespace Go.Proofs.YtbahigffjclpdaaGreatDoor
open Go Go.RK

/-- Byte i (the last is 0) of a number. -/
def bI (n : Int) (i : Nat) : UInt8 := UInt8.ofNat ((n / 256 ^ i) % 256).toNat
/-- The first k of a number's s bytes. -/
def beK (n : Int) (s : Nat) : Nat → List UInt8
  | 0 => []
  | k + 1 => beK n s k ++ [bI n (s - 1 - k)]
def be (n : Int) (s : Nat) : List UInt8 := beK n s s
theorem beK_len (n : Int) (s k : Nat) : (beK n s k).length = k := by
  induction k with
  | zero => rfl
  | succ k ih => simp [beK, ih]
theorem be_len (n : Int) (s : Nat) : (be n s).length = s := beK_len n s s
theorem bI_val (n : Int) (i : Nat) : ((bI n i).toNat : Int) = (n / 256 ^ i) % 256 := by
  unfold bI
  have h1 : 0 ≤ (n / 256 ^ i) % 256 := Int.emod_nonneg _ (by decide)
  have h2 : (n / 256 ^ i) % 256 < 256 := Int.emod_lt_of_pos _ (by decide)
  have h3 : (UInt8.ofNat ((n / 256 ^ i) % 256).toNat).toNat = ((n / 256 ^ i) % 256).toNat := by simp; omega
  rw [h3, Int.toNat_of_nonneg h1]
/-- Of one size: 1, 2 or 4. -/
def Sz (s : Nat) : Prop := s = 1 ∨ s = 2 ∨ s = 4
def Rt (n : Int) (s : Nat) : Prop := -(256 ^ s / 2) ≤ n ∧ n < 256 ^ s
theorem By_bI {n x : Int} {i : Nat} (h : x % 256 = (n / 256 ^ i) % 256) : (.int .u8 (IntKind.u8.wrap x) : Value) = By (bI n i) := by
  unfold By
  rw [bI_val, ← h]
  congr 1
set_option maxHeartbeats 2000000 in
set_option maxRecDepth 100000 in
theorem sized_v {h : Heap} (s : Nat) (hs : Sz s) : CallsH Tryz.prog 123 ⟨[In s]⟩ h fun u h' => u = .bool true ∧ h' = h := by
  rcases hs with rfl | rfl | rfl
  all_goals
    refine calls [(0, _)] Tryz.func123 rfl Tryz.ntmps123 rfl ⟨rfl, trivial⟩ ?_
    all_goals (refine WC.sr ?_)
    all_goals (refine Go ?_)
    all_goals (refine WC.seq ?_)
    all_goals (refine WC.sr ?_)
    all_goals (refine Go ?_)
    all_goals (refine WC.block ?_)
    all_goals (refine WC.seq ?_)
    all_goals (refine WC.sr ?_)
    all_goals (refine Go ?_)
    all_goals (refine goC 1 2 ?_ ?_ <;> first | exact ⟨⟩ | refine Hb.mk fun hb => ?_ | skip)
    all_goals (first | (fail_if_success refine goB 1 ?_) | (
    refine goB 1 ?_
    all_goals (refine WC.skip ?_)
    skip))
    all_goals (first | (fail_if_success refine goB 2 ?_) | (
    refine goB 2 ?_
    all_goals (refine WC.sr ?_)
    all_goals (refine Go ?_)
    all_goals (refine WC.sub [(3, _), (4, _)] ⟨rfl, rfl, trivial⟩ ?_)
    all_goals (refine goC 3 4 ?_ ?_ <;> first | exact ⟨⟩ | refine Hb.mk fun hb => ?_ | skip)
    all_goals (first | (fail_if_success refine goB 3 ?_) | (
    refine goB 3 ?_
    all_goals (refine WC.skip ?_)
    skip))
    all_goals (first | (fail_if_success refine goB 4 ?_) | (
    refine goB 4 ?_
    all_goals (refine WC.region ?_)
    all_goals (refine Go ?_)
    skip))
    skip))
    all_goals (refine Gn ?_)
    all_goals (refine goC 5 6 ?_ ?_ <;> first | exact ⟨⟩ | refine Hb.mk fun hb => ?_ | skip)
    all_goals (first | (fail_if_success refine goB 5 ?_) | (
    refine goB 5 ?_
    all_goals (refine WC.sr ?_)
    all_goals (refine Go ?_)
    all_goals (refine WC.ret ?_)
    all_goals (repeat' (with_reducible first | refine thenP_r ?_ | refine blockP_r ?_))
    all_goals (refine retP_1 _ ⟨rfl, trivial⟩ ?_)
    all_goals (exact ⟨rfl, rfl⟩)
    skip))
    all_goals (first | (fail_if_success refine goB 6 ?_) | (
    refine goB 6 ?_
    all_goals (refine WC.skip ?_)
    skip))
    all_goals (refine Gn ?_)
    all_goals (refine WC.sr ?_)
    all_goals (refine Go ?_)
    all_goals (refine WC.ret ?_)
    all_goals (repeat' (with_reducible first | refine thenP_r ?_ | refine blockP_r ?_))
    all_goals (refine retP_1 _ ⟨rfl, trivial⟩ ?_)
    all_goals (exact ⟨rfl, rfl⟩)
set_option maxHeartbeats 2000000 in
set_option maxRecDepth 100000 in
theorem span_v {h : Heap} (s : Nat) (hs : Sz s) : CallsH Tryz.prog 124 ⟨[In s]⟩ h fun u h' => u = In (256 ^ s) ∧ h' = h := by
  rcases hs with rfl | rfl | rfl
  all_goals
    refine calls [(0, _)] Tryz.func124 rfl Tryz.ntmps124 rfl ⟨rfl, trivial⟩ ?_
    all_goals (refine WC.sr ?_)
    all_goals (refine Go ?_)
    all_goals (refine WC.sr ?_)
    all_goals (refine Go ?_)
    all_goals (first | (refine WL.step (ok_mulI rfl rfl (by omega)) rfl rfl rfl ?_) | (refine WL.step (ok_mul rfl rfl) rfl rfl rfl ?_))
    all_goals (refine WL.step (ok_shl rfl rfl (by decide) (by decide)) rfl rfl rfl ?_)
    all_goals (refine Go ?_)
    all_goals (refine WC.sub [(2, _)] ⟨rfl, trivial⟩ ?_)
    all_goals (refine WC.ret ?_)
    all_goals (repeat' (with_reducible first | refine thenP_r ?_ | refine blockP_r ?_))
    all_goals (refine retP_1 _ ⟨rfl, trivial⟩ ?_)
    all_goals (exact ⟨rfl, rfl⟩)
theorem pow_sz {s : Nat} (hs : Sz s) : (256 : Int) ^ s = 256 ∨ (256 : Int) ^ s = 65536 ∨ (256 : Int) ^ s = 4294967296 := by
  rcases hs with rfl | rfl | rfl
  · exact .inl rfl
  · exact .inr (.inl rfl)
  · exact .inr (.inr rfl)
set_option maxHeartbeats 2000000 in
set_option maxRecDepth 100000 in
theorem right_v {h : Heap} (n : Int) (s : Nat) (hs : Sz s) (hr : Rt n s) : CallsH Tryz.prog 97 ⟨[In n, In s]⟩ h fun u h' => u = .bool true ∧ h' = h := by
  obtain ⟨r1, r2⟩ := hr
  have ks := span_v (h := h) s hs
  have hq := pow_sz hs
  generalize (256 : Int) ^ s = q at r1 r2 ks hq
  rcases hq with rfl | rfl | rfl
  all_goals
    refine calls [(0, _), (1, _)] Tryz.func97 rfl Tryz.ntmps97 rfl ⟨rfl, rfl, trivial⟩ ?_
    all_goals (refine WC.sr ?_)
    all_goals (refine Go ?_)
    all_goals (refine WC.seq ?_)
    all_goals (refine WC.sr ?_)
    all_goals (refine Go ?_)
    all_goals (refine WL.call (vs := [_]) rfl (fun a w => Tryz.call123 a w) rfl (sized_v s hs) rfl rfl rfl ?_
               rintro _ hz ⟨rfl, _⟩
               subst hz)
    all_goals (refine Go ?_)
    all_goals (refine goC 1 2 ?_ ?_ <;> first | exact ⟨⟩ | refine Hb.mk fun hb => ?_ | skip)
    all_goals (first | (fail_if_success refine goB 1 ?_) | (
    refine goB 1 ?_
    all_goals (refine WC.sr ?_)
    all_goals (refine Go ?_)
    all_goals (refine WC.sub [(4, _)] ⟨rfl, trivial⟩ ?_)
    all_goals (refine WC.ret ?_)
    all_goals (repeat' (with_reducible first | refine thenP_r ?_ | refine blockP_r ?_))
    all_goals (refine retP_1 _ ⟨rfl, trivial⟩ ?_)
    all_goals (exact ⟨rfl, rfl⟩)
    skip))
    all_goals (first | (fail_if_success refine goB 2 ?_) | (
    refine goB 2 ?_
    all_goals (refine WC.skip ?_)
    skip))
    all_goals (refine Gn ?_)
    all_goals (refine WC.sub [(0, _), (1, _)] ⟨rfl, rfl, trivial⟩ ?_)
    all_goals (refine WC.sr ?_)
    all_goals (refine Go ?_)
    all_goals (refine WL.call (vs := [_]) rfl (fun a w => Tryz.call124 a w) rfl (ks) rfl rfl rfl ?_
               rintro _ hz ⟨rfl, _⟩
               subst hz)
    all_goals (first | (refine WL.step (ok_negI rfl (by omega)) rfl rfl rfl ?_) | (refine WL.step (ok_neg rfl) rfl rfl rfl ?_))
    all_goals (first | (refine WL.step (ok_quoI rfl rfl (by decide) (tdiv_in (by omega) (by decide))) rfl rfl rfl ?_) | (refine WL.step (ok_quo rfl rfl (by decide)) rfl rfl rfl ?_))
    all_goals (first | rw [show (-256 : Int).tdiv 2 = -128 from rfl] | rw [show (-65536 : Int).tdiv 2 = -32768 from rfl] | rw [show (-4294967296 : Int).tdiv 2 = -2147483648 from rfl])
    all_goals (refine Go ?_)
    all_goals (refine goP 14 ?_ ?_ <;> first | exact ⟨⟩ | refine Hb.mk fun hb => ?_ | skip)
    all_goals (refine Gg ?_)
    all_goals (first
                 | (refine WL.pass rfl rfl rfl ?_)
                 | (refine WL.call (vs := [_]) rfl (fun a w => Tryz.call124 a w) rfl (ks) rfl rfl rfl ?_
                    rintro _ hz ⟨rfl, _⟩
                    subst hz))
    all_goals (refine Gg ?_)
    all_goals (refine Go ?_)
    all_goals (refine WC.sub [(4, _)] ⟨rfl, trivial⟩ ?_)
    all_goals (refine WC.ret ?_)
    all_goals (repeat' (with_reducible first | refine thenP_r ?_ | refine blockP_r ?_))
    all_goals (refine retP_1 _ ⟨rfl, trivial⟩ ?_)
    all_goals (exact ⟨rfl, rfl⟩)
set_option maxHeartbeats 2000000 in
set_option maxRecDepth 100000 in
theorem right01 {h : Heap} (n : Int) (s : Nat) (hs : Sz s) (hr : Rt n s) (kp : CallsH Tryz.prog 108 ⟨[In s]⟩ h fun u h' => u = In (256 ^ s) ∧ h' = h) (kz : CallsH Tryz.prog 127 ⟨[In s]⟩ h fun u h' => u = .bool true ∧ h' = h) :
    CallsH Tryz.prog 107 ⟨[In n, In s]⟩ h fun u h' => u = .bool true ∧ h' = h := by
  obtain ⟨r1, r2⟩ := hr
  have hq := pow_sz hs
  generalize (256 : Int) ^ s = q at r1 r2 kp hq
  rcases hq with rfl | rfl | rfl
  all_goals
    refine calls [(0, _), (1, _)] Tryz.func107 rfl Tryz.ntmps107 rfl ⟨rfl, rfl, trivial⟩ ?_
    all_goals (refine WC.sr ?_)
    all_goals (refine Go ?_)
    all_goals (refine WC.sr ?_)
    all_goals (refine Go ?_)
    all_goals (refine WL.call (vs := [_]) rfl (fun a w => Tryz.call127 a w) rfl (kz) rfl rfl rfl ?_
               rintro _ hz ⟨rfl, _⟩
               subst hz)
    all_goals (refine Go ?_)
    all_goals (refine goP 7 ?_ ?_ <;> first | exact ⟨⟩ | refine Hb.mk fun hb => ?_ | skip)
    all_goals (refine Gg ?_)
    all_goals (first
                 | (refine WL.pass rfl rfl rfl ?_)
                 | (refine WL.call (vs := [_]) rfl (fun a w => Tryz.call108 a w) rfl (kp) rfl rfl rfl ?_
                    rintro _ hz ⟨rfl, _⟩
                    subst hz))
    all_goals (first | (refine WL.pass rfl rfl rfl ?_) | (first | (refine WL.step (ok_negI rfl (by omega)) rfl rfl rfl ?_) | (refine WL.step (ok_neg rfl) rfl rfl rfl ?_)))
    all_goals (first | (refine WL.pass rfl rfl rfl ?_) | (first | (refine WL.step (ok_quoI rfl rfl (by decide) (tdiv_in (by omega) (by decide))) rfl rfl rfl ?_) | (refine WL.step (ok_quo rfl rfl (by decide)) rfl rfl rfl ?_)))
    all_goals (first | rw [show (-256 : Int).tdiv 2 = -128 from rfl] | rw [show (-65536 : Int).tdiv 2 = -32768 from rfl] | rw [show (-4294967296 : Int).tdiv 2 = -2147483648 from rfl])
    all_goals (refine Gg ?_)
    all_goals (refine Go ?_)
    all_goals (refine goP 15 ?_ ?_ <;> first | exact ⟨⟩ | refine Hb.mk fun hb => ?_ | skip)
    all_goals (refine Gg ?_)
    all_goals (first
                 | (refine WL.pass rfl rfl rfl ?_)
                 | (refine WL.call (vs := [_]) rfl (fun a w => Tryz.call108 a w) rfl (kp) rfl rfl rfl ?_
                    rintro _ hz ⟨rfl, _⟩
                    subst hz))
    all_goals (refine Gg ?_)
    all_goals (refine Go ?_)
    all_goals (refine WC.sub [(4, _)] ⟨rfl, trivial⟩ ?_)
    all_goals (refine WC.ret ?_)
    all_goals (repeat' (with_reducible first | refine thenP_r ?_ | refine blockP_r ?_))
    all_goals (refine retP_1 _ ⟨rfl, trivial⟩ ?_)
    all_goals (exact ⟨rfl, rfl⟩)
set_option maxHeartbeats 2000000 in
set_option maxRecDepth 100000 in
theorem sized01 {h : Heap} (s : Nat) (hs : Sz s) : CallsH Tryz.prog 127 ⟨[In s]⟩ h fun u h' => u = .bool true ∧ h' = h := by
  rcases hs with rfl | rfl | rfl
  all_goals
    refine calls [(0, _)] Tryz.func127 rfl Tryz.ntmps127 rfl ⟨rfl, trivial⟩ ?_
    all_goals (refine WC.sr ?_)
    all_goals (refine Go ?_)
    all_goals (refine WC.sr ?_)
    all_goals (refine Go ?_)
    all_goals (refine goP 5 ?_ ?_ <;> first | exact ⟨⟩ | refine Hb.mk fun hb => ?_ | skip)
    all_goals (refine Gg ?_)
    all_goals (refine Go ?_)
    all_goals (refine goP 9 ?_ ?_ <;> first | exact ⟨⟩ | refine Hb.mk fun hb => ?_ | skip)
    all_goals (refine Gg ?_)
    all_goals (refine Go ?_)
    all_goals (refine WC.sub [(2, _)] ⟨rfl, trivial⟩ ?_)
    all_goals (refine WC.ret ?_)
    all_goals (repeat' (with_reducible first | refine thenP_r ?_ | refine blockP_r ?_))
    all_goals (refine retP_1 _ ⟨rfl, trivial⟩ ?_)
    all_goals (exact ⟨rfl, rfl⟩)
theorem pow_le {k : Nat} (h : k ≤ 3) : 1 ≤ (256 : Int) ^ k ∧ (256 : Int) ^ k ≤ 16777216 := by
  have : k = 0 ∨ k = 1 ∨ k = 2 ∨ k = 3 := by omega
  rcases this with rfl | rfl | rfl | rfl <;> decide
set_option maxHeartbeats 2000000 in
set_option maxRecDepth 100000 in
theorem pow_v {h : Heap} (s : Nat) (hs : s ≤ 4) : CallsH Tryz.prog 108 ⟨[In s]⟩ h fun u h' => u = In (256 ^ s) ∧ h' = h := by
  refine calls [(0, _)] Tryz.func108 rfl Tryz.ntmps108 rfl ⟨rfl, trivial⟩ ?_
  all_goals (refine WC.sr ?_)
  all_goals (refine Go ?_)
  all_goals (refine WC.sr ?_)
  all_goals (refine Go ?_)
  all_goals (refine WC.seq ?_)
  all_goals (refine WC.sr ?_)
  all_goals (refine Go ?_)
  all_goals (refine WC.block ?_)
  -- loop 0: slots that turn [3, 4], that stay [0]
  all_goals (refine WC.loopG (X := Nat × Int) (fun x => ([(3, In x.2), (4, In (x.1 : Int))] : Fr)) [(0, _)] (fun x h' => h' = h ∧ x.1 ≤ s ∧ x.2 = 256 ^ x.1) (fun x => s - x.1) ((0, 1)) ⟨rfl, rfl, rfl, trivial⟩ (by exact ⟨rfl, Nat.zero_le _, rfl⟩) ?_)
  all_goals (rintro ⟨k, p⟩ h9 ⟨hz, hk, hp⟩
             dsimp only at hk hp
             subst h9)
  all_goals (refine WC.sub [(3, _), (4, _), (0, _)] ⟨rfl, rfl, rfl, trivial⟩ ?_)
  all_goals (dsimp only)
  all_goals (refine WC.seq ?_)
  all_goals (refine WC.sr ?_)
  all_goals (refine Go ?_)
  all_goals (refine goC 1 2 ?_ ?_ <;> first | exact ⟨⟩ | refine Hb.mk fun hb => ?_ | skip)
  all_goals (first | (fail_if_success refine goB 1 ?_) | (
  refine goB 1 ?_
  all_goals (refine WC.skip ?_)
  skip))
  all_goals (first | (fail_if_success refine goB 2 ?_) | (
  refine goB 2 ?_
  all_goals (refine WC.exit ?_)
  all_goals (repeat' (with_reducible first | refine thenP_x ?_ | refine blockP_miss rfl ?_ | refine blockP_hit ?_ | refine blockP_n ?_ | refine thenP_n ?_))
  all_goals (refine Br.out (i := 1000) ?_)
  skip))
  all_goals (refine Gn ?_)
  all_goals (first | (refine Br.keep ?_) | (refine WC.seq ?_))
  all_goals (first | (refine Br.keep ?_) | (refine WC.block ?_))
  all_goals (first | (refine Br.keep ?_) | (refine WC.region ?_))
  all_goals (first
               | (refine Br.keep ?_)
               | (have hpl := pow_le (show k ≤ 3 by omega)
                  rw [← hp] at hpl))
  all_goals (first | (refine Br.keep ?_) | (refine WL.step (ok_move rfl) rfl rfl rfl ?_))
  all_goals (first | (refine Br.keep ?_) | (first | (refine WL.step (ok_mulI rfl rfl (by omega)) rfl rfl rfl ?_) | (refine WL.step (ok_mul rfl rfl) rfl rfl rfl ?_)))
  all_goals (refine Go ?_)
  all_goals (first | (refine Br.keep ?_) | (refine WC.sub [(0, _), (3, _), (4, _)] ⟨rfl, rfl, rfl, trivial⟩ ?_))
  all_goals (first | (refine Br.keep ?_) | (refine WC.region ?_))
  all_goals (refine Go ?_)
  all_goals (first | (refine Br.keep ?_) | (exact ⟨(k + 1, _), ⟨rfl, rfl, rfl, trivial⟩, (by exact ⟨rfl, by omega, by rw [hp]; rfl⟩), (by simp; omega)⟩))
  all_goals (try (refine Br.mk (i := 1000) ?_))
  all_goals (refine Gn ?_)
  all_goals (refine WC.sub [(3, _)] ⟨rfl, trivial⟩ ?_)
  all_goals (refine WC.sr ?_)
  all_goals (refine Go ?_)
  all_goals (refine WC.ret ?_)
  all_goals (repeat' (with_reducible first | refine thenP_r ?_ | refine blockP_r ?_))
  all_goals (refine retP_1 _ ⟨rfl, trivial⟩ ?_)
  all_goals (exact ⟨by rw [hp, show k = s by omega], rfl⟩)
/-! ### Put -/
theorem shr_byte {n : Int} {k : Nat} {b : Int} (hb : b = 8 * (k : Int)) : n / 2 ^ b.toNat = n / 256 ^ k := by
  have h1 : b.toNat = 8 * k := by omega
  rw [h1, show (2 : Int) ^ (8 * k) = 256 ^ k by rw [Int.pow_mul]; rfl]
set_option maxHeartbeats 2000000 in
set_option maxRecDepth 100000 in
theorem put_v {h : Heap} {v : Value} (l : List UInt8) (n : Int) (s : Nat) (hs : Sz s) (hr : Rt n s) (hv : Rd h v 1 l.length (bys l)) (hl : l.length ≤ 100000000000000) :
    CallsH Tryz.prog 71 ⟨[v, In n, In s]⟩ h fun u h' => Own h' u 5 1 (l ++ be n s).length (bys (l ++ be n s)) ∧ Ext No h h' ∧ ∀ q, u.ownBlock = some q → h.size ≤ q := by
  obtain ⟨A, c, rfl, hc⟩ := id hv
  have hs4 : s ≤ 4 := by unfold Sz at hs; omega
  have hs1 : 1 ≤ s := by unfold Sz at hs; omega
  refine calls [(0, _), (1, _), (2, _)] Tryz.func71 rfl Tryz.ntmps71 rfl ⟨rfl, rfl, rfl, trivial⟩ ?_
  all_goals (refine WC.sr ?_)
  all_goals (refine Go ?_)
  all_goals (refine WC.sr ?_)
  all_goals (refine WL.stepR (okE_buildSlice (vs := []) (cs := []) (fun _ => []) Tryz.underlying24 rfl rfl (by kernel_rfl)) rfl rfl rfl ?_
             rintro _ h1 ⟨b1, rfl, hg1, hb1, hx1⟩)
  all_goals (refine Go ?_)
  all_goals (refine WL.stepR (ok_append (sz := 1) (bytes := 1) rfl Tryz.underlying24 (show Tryz.prog.info? 5 = some Tryz.t5 by kernel_rfl) rfl rfl rfl rfl (by decide) rfl rfl (own_blk hb1 rfl (by decide)) (hv.ext0 hx1) (by intro c hc; obtain ⟨b, _, rfl⟩ := List.mem_map.1 hc; rfl) (by simp only [maxLen]; omega) (by omega)) rfl rfl rfl ?_
             rintro v2 h2 ⟨ho2, hx2, hl2⟩)
  all_goals (have hf2 : ∀ q, v2.ownBlock = some q → h.size ≤ q := fresh_of hl2 (by simp [Value.ownBlock]; omega) hx1.size
             have hX2 : Ext No h h2 := hx1.trans' hx2 (fun q hq e => by simp [Value.ownBlock] at e; omega))
  all_goals (refine Go ?_)
  all_goals (refine WC.sub [(1, _), (2, _), (7, _)] ⟨rfl, rfl, rfl, trivial⟩ ?_)
  all_goals (refine WC.seq ?_)
  all_goals (refine WC.sr ?_)
  all_goals (refine Go ?_)
  all_goals (refine WL.call (vs := [_, _]) rfl (fun a w => Tryz.call97 a w) rfl (right_v n s hs hr) rfl rfl rfl ?_
             rintro _ hz ⟨rfl, _⟩
             subst hz)
  all_goals (refine Go ?_)
  all_goals (refine goC 1 2 ?_ ?_ <;> first | exact ⟨⟩ | refine Hb.mk fun hb => ?_ | skip)
  all_goals (first | (fail_if_success refine goB 1 ?_) | (
  refine goB 1 ?_
  all_goals (refine WC.sr ?_)
  all_goals (refine Go ?_)
  all_goals (refine WC.sub [(6, _)] ⟨rfl, trivial⟩ ?_)
  all_goals (refine WC.ret ?_)
  all_goals (repeat' (with_reducible first | refine thenP_r ?_ | refine blockP_r ?_))
  all_goals (refine retP_1 _ ⟨rfl, trivial⟩ ?_)
  all_goals ((obtain rfl : k = s := by omega); exact ⟨ho3, hx3, hf3⟩)
  skip))
  all_goals (first | (fail_if_success refine goB 2 ?_) | (
  refine goB 2 ?_
  all_goals (refine WC.skip ?_)
  skip))
  all_goals (refine Gn ?_)
  all_goals (refine WC.sub [(1, _), (2, _), (7, _)] ⟨rfl, rfl, rfl, trivial⟩ ?_)
  all_goals (refine WC.seq ?_)
  all_goals (refine WC.sr ?_)
  all_goals (refine Go ?_)
  all_goals (first | (refine WL.step (ok_mulI rfl rfl (by omega)) rfl rfl rfl ?_) | (refine WL.step (ok_mul rfl rfl) rfl rfl rfl ?_))
  all_goals (refine Go ?_)
  all_goals (refine WC.sub [(1, _), (7, _), (8, _)] ⟨rfl, rfl, rfl, trivial⟩ ?_)
  all_goals (refine WC.block ?_)
  -- loop 0: slots that turn [7, 8], that stay [1]
  all_goals (refine WC.loopG (X := Value × Int × Nat) (fun x => ([(7, x.1), (8, In x.2.1)] : Fr)) [(1, _)] (fun x h' => x.2.2 ≤ s ∧ x.2.1 = 8 * ((s : Int) - 1 - x.2.2) ∧ Own h' x.1 5 1 (l ++ beK n s x.2.2).length (bys (l ++ beK n s x.2.2)) ∧ Ext No h h' ∧ ∀ q, x.1.ownBlock = some q → h.size ≤ q) (fun x => s - x.2.2) ((v2, _, 0)) ⟨rfl, rfl, rfl, trivial⟩ (by exact ⟨Nat.zero_le _, by simp, by simpa [beK] using ho2, hX2, hf2⟩) ?_)
  all_goals (rintro ⟨w, sh, k⟩ h3 ⟨hk, hsh, ho3, hx3, hf3⟩
             dsimp only at hk hsh ho3 hf3
             have hbl := beK_len n s k
             have hlen3 : (l ++ beK n s k).length = l.length + k := by rw [List.length_append, hbl])
  all_goals (refine WC.sub [(7, _), (8, _), (1, _)] ⟨rfl, rfl, rfl, trivial⟩ ?_)
  all_goals (dsimp only)
  all_goals (refine WC.seq ?_)
  all_goals (refine WC.sr ?_)
  all_goals (refine Go ?_)
  all_goals (refine goC 3 4 ?_ ?_ <;> first | exact ⟨⟩ | refine Hb.mk fun hb => ?_ | skip)
  all_goals (first | (fail_if_success refine goB 3 ?_) | (
  refine goB 3 ?_
  all_goals (refine WC.skip ?_)
  skip))
  all_goals (first | (fail_if_success refine goB 4 ?_) | (
  refine goB 4 ?_
  all_goals (refine WC.exit ?_)
  all_goals (repeat' (with_reducible first | refine thenP_x ?_ | refine blockP_miss rfl ?_ | refine blockP_hit ?_ | refine blockP_n ?_ | refine thenP_n ?_))
  all_goals (refine Br.out (i := 1000) ?_)
  skip))
  all_goals (refine Gn ?_)
  all_goals (first | (refine Br.keep ?_) | (refine WC.seq ?_))
  all_goals (first | (refine Br.keep ?_) | (refine WC.block ?_))
  all_goals (first | (refine Br.keep ?_) | (refine WC.region ?_))
  all_goals (refine Go ?_)
  all_goals (first | (refine Br.keep ?_) | (refine WL.step (ok_shr rfl rfl (by omega)) rfl rfl rfl ?_))
  all_goals (first | (refine Br.keep ?_) | (first | (refine WL.step (ok_convU8 Tryz.underlying3 Tryz.underlying5 rfl (by omega)) rfl rfl rfl ?_) | (refine WL.step (ok_conv Tryz.underlying3 Tryz.underlying5 rfl) rfl rfl rfl ?_)))
  all_goals (first
               | (refine Br.keep ?_)
               | (refine WL.stepR (okE_buildSlice (vs := [_]) (cs := [_]) (fun | [a0] => [a0] | _ => []) Tryz.underlying24 rfl rfl (by kernel_rfl)) rfl rfl rfl ?_
                  rintro _ h4 ⟨b4, rfl, hg4, hb4, hx4⟩))
  all_goals (first
               | (refine Br.keep ?_)
               | (refine WL.stepR (ok_append (sz := 1) (bytes := 1) rfl Tryz.underlying24 (show Tryz.prog.info? 5 = some Tryz.t5 by kernel_rfl) rfl rfl rfl rfl (by decide) rfl rfl (ho3.ext hx4 (fun _ _ => nos)) (rd_blk hb4 rfl) (by simp [Value.oneCell']) (by simp only [maxLen]; omega) (by omega)) rfl rfl rfl ?_
                  rintro v5 h5 ⟨ho5, hx5, hl5⟩))
  all_goals (first
               | (refine Br.keep ?_)
               | (have hsb : n / 2 ^ sh.toNat = n / 256 ^ (s - 1 - k) := shr_byte (by omega)
                  rw [hsb, By_bI rfl] at ho5
                  have hO : Own h5 v5 5 1 (l ++ beK n s (k + 1)).length (bys (l ++ beK n s (k + 1))) := by have e : l ++ beK n s (k + 1) = (l ++ beK n s k) ++ [bI n (s - 1 - k)] := (by simp [beK]); rw [e, bys, List.map_append, List.length_append]; exact ho5))
  all_goals (refine Go ?_)
  all_goals (first | (refine Br.keep ?_) | (refine WC.sub [(1, _), (7, _), (8, _)] ⟨rfl, rfl, rfl, trivial⟩ ?_))
  all_goals (first | (refine Br.keep ?_) | (refine WC.region ?_))
  all_goals (refine Go ?_)
  all_goals (first | (refine Br.keep ?_) | (exact ⟨(_, _, k + 1), ⟨rfl, rfl, rfl, trivial⟩, (by exact ⟨by dsimp only; omega, by dsimp only; omega, hO, (hx3.trans hx4).trans' hx5 (fun q hq e => by have := hf3 q e; omega), fresh_of hl5 hf3 (by have := hx3.size; have := hx4.size; omega)⟩), (by simp; omega)⟩))
  all_goals (try (refine Br.mk (i := 1000) ?_))
  all_goals (refine Gn ?_)
  all_goals (refine WC.sub [(7, _)] ⟨rfl, trivial⟩ ?_)
  all_goals (refine WC.sr ?_)
  all_goals (refine Go ?_)
  all_goals (refine WC.ret ?_)
  all_goals (repeat' (with_reducible first | refine thenP_r ?_ | refine blockP_r ?_))
  all_goals (refine retP_1 _ ⟨rfl, trivial⟩ ?_)
  all_goals ((obtain rfl : k = s := by omega); exact ⟨ho3, hx3, hf3⟩)
theorem bI_up {n : Int} {s i : Nat} (h : i < s) : bI (n + 256 ^ s) i = bI n i := by
  have h1 : (n + 256 ^ s) / 256 ^ i = n / 256 ^ i + 256 ^ (s - i) := by
    rw [show (256 : Int) ^ s = 256 ^ i * 256 ^ (s - i) by rw [← Int.pow_add, show i + (s - i) = s by omega]]
    rw [Int.add_mul_ediv_left _ _ (by have : (0 : Int) < 256 ^ i := Int.pow_pos (by decide); omega)]
  obtain ⟨j, hj⟩ : ∃ j, s - i = j + 1 := ⟨s - i - 1, by omega⟩
  have h2 : (256 : Int) ^ (s - i) = 256 ^ j * 256 := by rw [hj, Int.pow_succ]
  unfold bI
  rw [h1, h2, Int.add_mul_emod_self_right]
theorem beK_congr {m n : Int} {s : Nat} (h : ∀ i, i < s → bI m i = bI n i) (hs : 1 ≤ s) : ∀ k, beK m s k = beK n s k
  | 0 => rfl
  | k + 1 => by rw [beK, beK, beK_congr h hs k, h _ (by omega)]
theorem td_in {m p : Int} (h : 0 ≤ m ∧ m ≤ 4294967296) (hp : 1 ≤ p) : m.tdiv p = m / p ∧ 0 ≤ m / p ∧ m / p ≤ 4294967296 := by
  refine ⟨Int.tdiv_eq_ediv_of_nonneg h.1, Int.ediv_nonneg h.1 (by omega), ?_⟩
  have := Int.ediv_le_self p h.1
  omega
set_option maxHeartbeats 2000000 in
set_option maxRecDepth 100000 in
theorem put01 {h : Heap} {v : Value} (l : List UInt8) (n : Int) (s : Nat) (hs : Sz s) (hr : Rt n s) (hv : Rd h v 1 l.length (bys l)) (hl : l.length ≤ 100000000000000) :
    CallsH Tryz.prog 73 ⟨[v, In n, In s]⟩ h fun u h' => Own h' u 5 1 (l ++ be n s).length (bys (l ++ be n s)) ∧ Ext No h h' ∧ ∀ q, u.ownBlock = some q → h.size ≤ q := by
  obtain ⟨A, c, rfl, hc⟩ := id hv
  have hs4 : s ≤ 4 := by unfold Sz at hs; omega
  have hs1 : 1 ≤ s := by unfold Sz at hs; omega
  have hq := pow_sz hs
  obtain ⟨r1, r2⟩ := id hr
  have kp := fun h' => pow_v (h := h') s (by omega)
  have kr := fun h' => right01 (h := h') n s hs hr (kp h') (sized01 s hs)
  obtain ⟨m, hm0, hm1, hmb⟩ : ∃ m : Int, (if n < 0 then n + 256 ^ s else n) = m ∧ (0 ≤ m ∧ m ≤ 4294967296) ∧ ∀ i, i < s → bI m i = bI n i := by
    refine ⟨_, rfl, ?_, fun i hi => ?_⟩
    · generalize (256 : Int) ^ s = q at r1 r2 hq
      split <;> rcases hq with rfl | rfl | rfl <;> omega
    · split
      · exact bI_up hi
      · rfl
  rw [show be n s = be m s from (beK_congr hmb hs1 s).symm]
  generalize hqq : (256 : Int) ^ s = q at r1 r2 kp hq hm0
  refine calls [(0, _), (1, _), (2, _)] Tryz.func73 rfl Tryz.ntmps73 rfl ⟨rfl, rfl, rfl, trivial⟩ ?_
  all_goals (refine WC.sr ?_)
  all_goals (refine Go ?_)
  all_goals (refine WC.sr ?_)
  all_goals (refine Go ?_)
  all_goals (refine WL.stepR (ok_append (sz := 1) (bytes := 1) rfl Tryz.underlying24 (show Tryz.prog.info? 5 = some Tryz.t5 by kernel_rfl) rfl rfl rfl rfl (by decide) rfl rfl (Own.nil _ _ _) hv (by intro c hc; obtain ⟨b, _, rfl⟩ := List.mem_map.1 hc; rfl) (by simp only [maxLen]; omega) (by omega)) rfl rfl rfl ?_
             rintro v2 h2 ⟨ho2, hx2, hl2⟩)
  all_goals (have hf2 : ∀ q, v2.ownBlock = some q → h.size ≤ q := fresh_of hl2 (by simp [Value.ownBlock]) (Nat.le_refl _)
             have hX2 : Ext No h h2 := hx2.mono (fun q hq e => by simp [Value.ownBlock] at e))
  all_goals (refine Go ?_)
  all_goals (refine WC.sub [(1, _), (2, _), (7, _)] ⟨rfl, rfl, rfl, trivial⟩ ?_)
  all_goals (refine WC.seq ?_)
  all_goals (refine WC.sr ?_)
  all_goals (refine Go ?_)
  all_goals (refine WL.call (vs := [_, _]) rfl (fun a w => Tryz.call107 a w) rfl (kr _) rfl rfl rfl ?_
             rintro _ hz ⟨rfl, _⟩
             subst hz)
  all_goals (refine Go ?_)
  all_goals (refine goC 1 2 ?_ ?_ <;> first | exact ⟨⟩ | refine Hb.mk fun hb => ?_ | skip)
  all_goals (first | (fail_if_success refine goB 1 ?_) | (
  refine goB 1 ?_
  all_goals (refine WC.sr ?_)
  all_goals (refine Go ?_)
  all_goals (refine WC.sub [(6, _)] ⟨rfl, trivial⟩ ?_)
  all_goals (refine WC.ret ?_)
  all_goals (repeat' (with_reducible first | refine thenP_r ?_ | refine blockP_r ?_))
  all_goals (refine retP_1 _ ⟨rfl, trivial⟩ ?_)
  all_goals ((obtain rfl : k = s := by omega); exact ⟨ho3, hx3, hf3⟩)
  skip))
  all_goals (first | (fail_if_success refine goB 2 ?_) | (
  refine goB 2 ?_
  all_goals (refine WC.skip ?_)
  skip))
  all_goals (refine Gn ?_)
  all_goals (refine WC.sub [(1, _), (2, _), (7, _)] ⟨rfl, rfl, rfl, trivial⟩ ?_)
  all_goals (refine WC.seq ?_)
  all_goals (refine WC.sr ?_)
  all_goals (refine Go ?_)
  all_goals (refine goC 3 4 ?_ ?_ <;> first | exact ⟨⟩ | refine Hb.mk fun hb => ?_ | skip)
  all_goals (first | (fail_if_success refine goB 3 ?_) | (
  refine goB 3 ?_
  all_goals (refine WC.region ?_)
  all_goals (refine Go ?_)
  all_goals (refine WL.call (vs := [_]) rfl (fun a w => Tryz.call108 a w) rfl (kp _) rfl rfl rfl ?_
             rintro _ hz ⟨rfl, _⟩
             subst hz)
  all_goals (refine Go ?_)
  skip))
  all_goals (first | (fail_if_success refine goB 4 ?_) | (
  refine goB 4 ?_
  all_goals (refine WC.skip ?_)
  skip))
  all_goals (refine Gn ?_)
  all_goals (refine WC.seq ?_)
  all_goals (refine WC.sr ?_)
  all_goals (first | rw [if_pos (by assumption)] at hm0 | rw [if_neg (by assumption)] at hm0
             rw [hm0])
  all_goals (refine WL.step (ok_move rfl) rfl rfl rfl ?_)
  all_goals (refine Go ?_)
  all_goals (refine WC.sub [(1, _), (7, _), (8, _)] ⟨rfl, rfl, rfl, trivial⟩ ?_)
  all_goals (refine WC.block ?_)
  -- loop 0: slots that turn [7, 8], that stay [1]
  all_goals (refine WC.loopG (X := Value × Int × Nat) (fun x => ([(7, x.1), (8, In x.2.1)] : Fr)) [(1, _)] (fun x h' => x.2.2 ≤ s ∧ x.2.1 = (s : Int) - 1 - x.2.2 ∧ Own h' x.1 5 1 (l ++ beK m s x.2.2).length (bys (l ++ beK m s x.2.2)) ∧ Ext No h h' ∧ ∀ q, x.1.ownBlock = some q → h.size ≤ q) (fun x => s - x.2.2) ((v2, _, 0)) ⟨rfl, rfl, rfl, trivial⟩ (by exact ⟨Nat.zero_le _, by simp, by simpa [beK] using ho2, hX2, hf2⟩) ?_)
  all_goals (rintro ⟨w, sh, k⟩ h3 ⟨hk, hsh, ho3, hx3, hf3⟩
             dsimp only at hk hsh ho3 hf3
             have hbl := beK_len m s k
             have hlen3 : (l ++ beK m s k).length = l.length + k := by rw [List.length_append, hbl])
  all_goals (refine WC.sub [(7, _), (8, _), (1, _)] ⟨rfl, rfl, rfl, trivial⟩ ?_)
  all_goals (dsimp only)
  all_goals (refine WC.seq ?_)
  all_goals (refine WC.sr ?_)
  all_goals (refine Go ?_)
  all_goals (refine goC 5 6 ?_ ?_ <;> first | exact ⟨⟩ | refine Hb.mk fun hb => ?_ | skip)
  all_goals (first | (fail_if_success refine goB 5 ?_) | (
  refine goB 5 ?_
  all_goals (refine WC.skip ?_)
  skip))
  all_goals (first | (fail_if_success refine goB 6 ?_) | (
  refine goB 6 ?_
  all_goals (refine WC.exit ?_)
  all_goals (repeat' (with_reducible first | refine thenP_x ?_ | refine blockP_miss rfl ?_ | refine blockP_hit ?_ | refine blockP_n ?_ | refine thenP_n ?_))
  all_goals (refine Br.out (i := 1000) ?_)
  skip))
  all_goals (refine Gn ?_)
  all_goals (first | (refine Br.keep ?_) | (refine WC.seq ?_))
  all_goals (first | (refine Br.keep ?_) | (refine WC.block ?_))
  all_goals (first | (refine Br.keep ?_) | (refine WC.region ?_))
  all_goals (first
               | (refine Br.keep ?_)
               | (obtain ⟨j, rfl⟩ : ∃ j : Nat, sh = (j : Int) := ⟨sh.toNat, by omega⟩
                  have hpj := pow_le (show j ≤ 3 by omega)
                  have htd := td_in hm1 hpj.1))
  all_goals (first | (refine Br.keep ?_) | (refine WL.step (ok_move rfl) rfl rfl rfl ?_))
  all_goals (refine Go ?_)
  all_goals (first
               | (refine Br.keep ?_)
               | (refine WL.call (vs := [_]) rfl (fun a w => Tryz.call108 a w) rfl (pow_v j (by omega)) rfl rfl rfl ?_
                  rintro _ hz ⟨rfl, _⟩
                  subst hz))
  all_goals (first | (refine Br.keep ?_) | (first | (refine WL.step (ok_quoI rfl rfl (by omega) (⟨by rw [htd.1]; omega, by rw [htd.1]; omega⟩)) rfl rfl rfl ?_) | (refine WL.step (ok_quo rfl rfl (by omega)) rfl rfl rfl ?_)))
  all_goals (first | (refine Br.keep ?_) | (refine WL.step (ok_rem rfl rfl (by decide)) rfl rfl rfl ?_))
  all_goals (first | (refine Br.keep ?_) | (first | (refine WL.step (ok_convU8 Tryz.underlying3 Tryz.underlying5 rfl (by omega)) rfl rfl rfl ?_) | (refine WL.step (ok_conv Tryz.underlying3 Tryz.underlying5 rfl) rfl rfl rfl ?_)))
  all_goals (first
               | (refine Br.keep ?_)
               | (refine WL.stepR (okE_buildSlice (vs := [_]) (cs := [_]) (fun | [a0] => [a0] | _ => []) Tryz.underlying24 rfl rfl (by kernel_rfl)) rfl rfl rfl ?_
                  rintro _ h4 ⟨b4, rfl, hg4, hb4, hx4⟩))
  all_goals (first
               | (refine Br.keep ?_)
               | (refine WL.stepR (ok_append (sz := 1) (bytes := 1) rfl Tryz.underlying24 (show Tryz.prog.info? 5 = some Tryz.t5 by kernel_rfl) rfl rfl rfl rfl (by decide) rfl rfl (ho3.ext hx4 (fun _ _ => nos)) (rd_blk hb4 rfl) (by simp [Value.oneCell']) (by simp only [maxLen]; omega) (by omega)) rfl rfl rfl ?_
                  rintro v5 h5 ⟨ho5, hx5, hl5⟩))
  all_goals (first
               | (refine Br.keep ?_)
               | (have hsb : ((m.tdiv (256 ^ j)).tmod 256) % 256 = (m / 256 ^ (s - 1 - k)) % 256 := by rw [htd.1, Int.tmod_eq_emod_of_nonneg htd.2.1, Int.emod_emod, show j = s - 1 - k by omega]
                  rw [By_bI hsb] at ho5
                  have hO : Own h5 v5 5 1 (l ++ beK m s (k + 1)).length (bys (l ++ beK m s (k + 1))) := by have e : l ++ beK m s (k + 1) = (l ++ beK m s k) ++ [bI m (s - 1 - k)] := (by simp [beK]); rw [e, bys, List.map_append, List.length_append]; exact ho5))
  all_goals (refine Go ?_)
  all_goals (first | (refine Br.keep ?_) | (refine WC.sub [(1, _), (7, _), (8, _)] ⟨rfl, rfl, rfl, trivial⟩ ?_))
  all_goals (first | (refine Br.keep ?_) | (refine WC.region ?_))
  all_goals (refine Go ?_)
  all_goals (first | (refine Br.keep ?_) | (exact ⟨(_, _, k + 1), ⟨rfl, rfl, rfl, trivial⟩, (by exact ⟨by dsimp only; omega, by dsimp only; omega, hO, (hx3.trans hx4).trans' hx5 (fun q hq e => by have := hf3 q e; omega), fresh_of hl5 hf3 (by have := hx3.size; have := hx4.size; omega)⟩), (by simp; omega)⟩))
  all_goals (try (refine Br.mk (i := 1000) ?_))
  all_goals (refine Gn ?_)
  all_goals (refine WC.sub [(7, _)] ⟨rfl, trivial⟩ ?_)
  all_goals (refine WC.sr ?_)
  all_goals (refine Go ?_)
  all_goals (refine WC.ret ?_)
  all_goals (repeat' (with_reducible first | refine thenP_r ?_ | refine blockP_r ?_))
  all_goals (refine retP_1 _ ⟨rfl, trivial⟩ ?_)
  all_goals ((obtain rfl : k = s := by omega); exact ⟨ho3, hx3, hf3⟩)
end Go.Proofs.YtbahigffjclpdaaGreatDoor


/-
  FIX (layer 25): a fault's bytes; the law's awake.
-/
namespace Go.Proofs.YtbahigffjclpdaaGreatDoor
open Go Go.RK

/-- A writer at block b, all of it made since the heap g: what it has written. -/
structure Wr (g h : Heap) (b : Nat) (v : Value) (l : List UInt8) : Prop where
  blk : h[b]? = some (.cells ⟨[v]⟩ 97 (0, 0))
  own : Own h v 5 1 l.length (bys l)
  lo : g.size ≤ b ∧ ∀ q, v.ownBlock = some q → g.size ≤ q
  ext : Ext No g h
def WS_ (b : Nat) (v : Value) (q : Nat) : Prop := q = b ∨ v.ownBlock = some q
section
variable {g h : Heap} {b : Nat} {v : Value} {l : List UInt8}
theorem Wr.ne (w : Wr g h b v l) : v.ownBlock ≠ some b := fun e => by obtain ⟨_, z⟩ := own_kind w.own e; rw [w.blk] at z; simp at z
theorem Wr.stay {h' : Heap} (w : Wr g h b v l) (x : Ext No h h') : Wr g h' b v l := ⟨x.obj w.blk nos, w.own.ext x (fun _ _ => nos), w.lo, w.ext.trans x⟩
set_option maxHeartbeats 2000000 in
set_option maxRecDepth 100000 in
theorem text_w (w : Wr g h b v l) (s : List UInt8) (hl : l.length + s.length ≤ 1000000000) : CallsH Tryz.prog 67 ⟨[.pointer (some ⟨b, 0, none⟩), St s]⟩ h fun _ h' => ∃ v', Wr g h' b v' (l ++ s ++ [0]) ∧ Ext (WS_ b v) h h' ∧ ∀ q, v'.ownBlock = some q → v.ownBlock = some q ∨ h.size ≤ q := by
  have hne := w.ne
  have hB0 := w.blk
  have hbl := lt_of_some hB0
  have ho := w.own
  have lo := w.lo
  have hxg := w.ext
  have hsg := hxg.size
  refine calls [(0, _), (1, _)] Tryz.func67 rfl Tryz.ntmps67 rfl ⟨rfl, rfl, trivial⟩ ?_
  all_goals (refine WC.region ?_)
  all_goals (refine Go ?_)
  all_goals (refine WL.step (ok_nilCheck rfl) rfl rfl rfl ?_)
  all_goals (refine Go ?_)
  all_goals (refine WL.step (ok_load (fun w => Tryz.isAgg24 w) rfl (by first | exact cell_blk hB0 rfl | assumption | exact cell_blk (by assumption) rfl)) rfl rfl rfl ?_)
  all_goals (refine Go ?_)
  all_goals (refine WL.stepR (okE_appendS rfl Tryz.underlying24 Tryz.underlying9 (show Tryz.prog.info? 5 = some Tryz.t5 by kernel_rfl) rfl rfl rfl rfl rfl ho (by omega)) rfl rfl rfl ?_
             rintro v1 h1 ⟨ho1, hx1, hl1, _⟩)
  all_goals (refine WL.stepR (okE_buildSlice (vs := [_]) (cs := [_]) (fun | [a0] => [a0] | _ => []) Tryz.underlying24 rfl rfl (by kernel_rfl)) rfl rfl rfl ?_
             rintro _ h2 ⟨b2, rfl, hg2, hb2, hx2⟩)
  all_goals (refine WL.stepR (ok_append (sz := 1) (bytes := 1) rfl Tryz.underlying24 (show Tryz.prog.info? 5 = some Tryz.t5 by kernel_rfl) rfl rfl rfl rfl (by decide) rfl rfl (ho1.ext hx2 (fun _ _ => nos)) (rd_blk hb2 rfl) (by simp [Value.oneCell']) (by simp only [maxLen]; omega) (by omega)) rfl rfl rfl ?_
             rintro v3 h3 ⟨ho3, hx3, hl3⟩)
  all_goals (have hf1 : ∀ q, v1.ownBlock = some q → v.ownBlock = some q ∨ h.size ≤ q := hl1
             have s1 := hx1.size
             have s2 := hx2.size
             have hf3 : ∀ q, v3.ownBlock = some q → v.ownBlock = some q ∨ h.size ≤ q := fun q hq => hl3.elim (fun e => hf1 q (e ▸ hq)) (fun e => .inr (by rw [e] at hq; cases hq; omega))
             have hX3 : Ext (fun q => v.ownBlock = some q) h h3 := (hx1.trans (hx2.mono fun _ _ e => e.elim)).trans' hx3 (fun q hq e => (hf1 q e).elim id (fun z => by omega))
             obtain ⟨A3, c3, rfl, _⟩ := ho3.slice
             have hb3 := hX3.obj hB0 hne)
  all_goals (refine WL.step (ok_nilCheck rfl) rfl rfl rfl ?_)
  all_goals (refine Go ?_)
  all_goals (refine WL.stepR0 (okE_store (fun w => Tryz.sizeOf24 w) rfl rfl hb3 (Nat.le_of_ble_eq_true rfl) rfl rfl) rfl rfl ?_
             rintro _ h4 ⟨hb4, hx4⟩)
  all_goals (refine Gn ?_)
  all_goals (refine retP_n [] trivial ?_)
  all_goals (refine ⟨_, ⟨hb4, ?_, ⟨lo.1, fun q hq => ?_⟩, ?_⟩, (hX3.mono fun q _ e => .inr e).trans (hx4.mono fun q _ e => .inl e), hf3⟩
             · rw [show (l ++ s ++ [(0 : UInt8)]).length = l.length + s.length + 1 by simp [Nat.add_assoc], show bys (l ++ s ++ [0]) = bys l ++ bys s ++ [Value.int .u8 0] by simp only [bys, List.map_append, List.map_cons, List.map_nil]; rfl]; exact ho3.ext hx4 (fun q hq e => by obtain ⟨_, z⟩ := own_kind ho3 hq; rw [e, hb3] at z; simp at z)
             · exact (hf3 q hq).elim (fun e => lo.2 q e) (fun e => by omega)
             · exact (hxg.trans' hX3 (fun q hq e => by have := lo.2 q e; omega)).trans' hx4 (fun q hq e => by have := lo.1; omega))
end
def encF (F : List FieldD) : List UInt8 := F.flatMap fun f => [UInt8.ofNat f.k.toNat] ++ f.t ++ [0]
theorem byK {k : Int} (h0 : 0 ≤ k) (h1 : k ≤ 255) : By (UInt8.ofNat k.toNat) = .int .u8 k := by
  show Value.int .u8 ((UInt8.ofNat k.toNat).toNat : Int) = .int .u8 k
  rw [UInt8.toNat_ofNat']
  congr 1
  omega
theorem encF_snoc {F : List FieldD} {k : Nat} {y : FieldD} (hy : F[k]? = some y) : encF (F.take (k + 1)) = encF (F.take k) ++ [UInt8.ofNat y.k.toNat] ++ y.t ++ [0] := by
  unfold encF
  rw [List.take_add_one, hy, List.flatMap_append]
  simp
theorem encF_len (F : List FieldD) (n : Nat) (hF : ∀ f ∈ F, f.t.length ≤ n) : (encF F).length ≤ F.length * (n + 2) := by
  induction F with
  | nil => simp [encF]
  | cons a F ih =>
    have h1 := ih (fun f hf => hF f (by simp [hf]))
    have h2 := hF a (by simp)
    have : encF (a :: F) = [UInt8.ofNat a.k.toNat] ++ a.t ++ [0] ++ encF F := by simp [encF]
    rw [this]
    simp only [List.length_append, List.length_cons, List.length_nil] at *
    rw [Nat.add_mul]
    omega
set_option maxHeartbeats 2000000 in
set_option maxRecDepth 100000 in
theorem fields_w {g h : Heap} {b : Nat} {v : Value} (F : List FieldD) (w : Wr g h b nilV []) (hr : Rd g v 2 F.length (F.flatMap FieldD.cells)) (hF : ∀ f ∈ F, f.t.length ≤ 200000 ∧ 0 ≤ f.k ∧ f.k ≤ 255) (hm : F.length ≤ 100) :
    CallsH Tryz.prog 70 ⟨[.pointer (some ⟨b, 0, none⟩), v]⟩ h fun _ h' => ∃ v', Wr g h' b v' (encF F ++ [0]) ∧ Ext (fun q => q = b) h h' := by
  obtain ⟨A, c, rfl, _⟩ := id hr
  have hlen : ∀ k, (encF (F.take k)).length ≤ 100 * 200002 := fun k => Nat.le_trans (encF_len (F.take k) 200000 (fun f hf => (hF f (List.mem_of_mem_take hf)).1)) (Nat.mul_le_mul (by rw [List.length_take]; omega) (Nat.le_refl _))
  refine calls [(0, _), (1, _)] Tryz.func70 rfl Tryz.ntmps70 rfl ⟨rfl, rfl, trivial⟩ ?_
  all_goals (refine WC.seq ?_)
  all_goals (refine WC.sr ?_)
  all_goals (refine Go ?_)
  all_goals (refine WC.block ?_)
  -- loop 0: slots that turn [8], that stay [0, 6, 7]
  all_goals (refine WC.loopG (X := Nat × Value) (fun x => ([(8, In (x.1 : Int))] : Fr)) [(0, _), (6, _), (7, _)] (fun y h' => y.1 ≤ F.length ∧ Wr g h' b y.2 (encF (F.take y.1)) ∧ Ext (fun q => q = b) h h' ∧ ∀ q, y.2.ownBlock = some q → h.size ≤ q) (fun y => F.length - y.1) ((0, nilV)) ⟨rfl, rfl, rfl, rfl, trivial⟩ (by exact ⟨Nat.zero_le _, w, .refl _ _, by simp [Value.ownBlock]⟩) ?_)
  all_goals (rintro ⟨k, u⟩ h1 ⟨hk, w1, hx1, hf1⟩
             dsimp only at hk w1 hf1)
  all_goals (refine WC.sub [(8, _), (0, _), (6, _), (7, _)] ⟨rfl, rfl, rfl, rfl, trivial⟩ ?_)
  all_goals (dsimp only)
  all_goals (refine WC.sr ?_)
  all_goals (refine Go ?_)
  all_goals (refine WC.seq ?_)
  all_goals (refine goC 1 2 ?_ ?_ <;> first | exact ⟨⟩ | refine Hb.mk fun hb => ?_ | skip)
  all_goals (first | (fail_if_success refine goB 1 ?_) | (
  refine goB 1 ?_
  all_goals (refine WC.skip ?_)
  skip))
  all_goals (first | (fail_if_success refine goB 2 ?_) | (
  refine goB 2 ?_
  all_goals (refine WC.exit ?_)
  all_goals (repeat' (with_reducible first | refine thenP_x ?_ | refine blockP_miss rfl ?_ | refine blockP_hit ?_ | refine blockP_n ?_ | refine thenP_n ?_))
  all_goals (refine Br.out (i := 1000) ?_)
  skip))
  all_goals (refine Gn ?_)
  all_goals (first | (refine Br.keep ?_) | (refine WC.seq ?_))
  all_goals (first | (refine Br.keep ?_) | (refine WC.block ?_))
  all_goals (first | (refine Br.keep ?_) | (refine WC.sr ?_))
  all_goals (first
               | (refine Br.keep ?_)
               | (obtain ⟨bL, oL, hA, hbL, hat⟩ := Rd.at_ hr (by omega)
                  obtain ⟨⟨yk, yt⟩, hy⟩ : ∃ y, F[k]? = some y := ⟨_, List.getElem?_eq_getElem (by omega)⟩
                  have hyF := hF _ (List.mem_of_getElem? hy)
                  dsimp only at hyF
                  have hcd : At h1 bL (oL + k * 2) [.int .u8 yk, St yt] := At.elem FieldD.len (hat.ext w1.ext nos) hy
                  have hlk := hlen k))
  all_goals (first | (refine Br.keep ?_) | (refine WL.step (ok_idxAddrA Tryz.underlying30 (fun w => Tryz.sizeOf54 w) rfl rfl rfl (by omega) (by first | rfl | assumption)) rfl rfl rfl ?_))
  all_goals (first | (refine Br.keep ?_) | (refine WL.step (ok_loadN (fun w => Tryz.isAgg54 w) (fun w => Tryz.sizeOf54 w) rfl rfl (by exact hcd)) rfl rfl rfl ?_))
  all_goals (first
               | (refine Br.keep ?_)
               | (refine WL.stepR (okE_alloc (fun w => Tryz.zeroValue54 w)) rfl rfl rfl ?_
                  rintro _ h2 ⟨b5, rfl, hg5, hb5, hx2⟩))
  all_goals (first
               | (refine Br.keep ?_)
               | (refine WL.stepR0 (okE_storeW (fun w => Tryz.sizeOf54 w) rfl rfl rfl hb5 rfl (by simp [Value.oneCell'])) rfl rfl ?_
                  rintro _ h3 ⟨hb53, hx3⟩))
  all_goals (first
               | (refine Br.keep ?_)
               | (have hX3 : Ext No h1 h3 := hx2.trans' hx3 (fun q hq e => by omega)
                  have w3 := w1.stay hX3
                  have n3 := w3.ne
                  have n5 : ¬ u.ownBlock = some b5 := fun e => by have := w1.own.lt e; omega
                  have l1 := lt_of_some w1.blk
                  have s3 := hX3.size
                  have sh := hx1.size))
  all_goals (refine Gn ?_)
  all_goals (first | (refine Br.keep ?_) | (refine WC.seq ?_))
  all_goals (first | (refine Br.keep ?_) | (refine WC.drawH (fun h' => Ext (fun q => u.ownBlock = some q) h3 h') 9 12 rfl fol ?_))
  all_goals (first | (refine Br.keep ?_) | (refine WH.tk 0 rfl (fun hq hC => ok_move rfl) rfl rfl rfl ?_))
  all_goals (first | (refine Br.keep ?_) | (refine WH.tk 1 rfl (fun hq hC => ok_move rfl) rfl rfl rfl ?_))
  all_goals (first | (refine Br.keep ?_) | (refine WH.tk 2 rfl (fun hq hC => ok_nilCheck rfl) rfl rfl rfl ?_))
  all_goals (first | (refine Br.keep ?_) | (refine WH.tk 3 rfl (fun hq hC => ok_fieldAddr rfl Tryz.underlying97 rfl (fun w => Tryz.sizeOf24 w)) rfl rfl rfl ?_))
  all_goals (first | (refine Br.keep ?_) | (refine WH.tk 4 rfl (fun hq hC => ok_load (fun w => Tryz.isAgg24 w) rfl (by first | exact hC.cell (by first | exact cell_blk w3.blk rfl | assumption | exact cell_blk (by assumption) rfl) (by first | exact n3 | exact n5))) rfl rfl rfl ?_))
  all_goals (first | (refine Br.keep ?_) | (refine WH.tk 5 rfl (fun hq hC => ok_fieldAddr rfl Tryz.underlying54 rfl (fun w => Tryz.sizeOf5 w)) rfl rfl rfl ?_))
  all_goals (first | (refine Br.keep ?_) | (refine WH.tk 6 rfl (fun hq hC => ok_load (fun w => Tryz.isAgg5 w) rfl (by first | exact hC.cell (by first | exact cell_blk hb53 rfl | assumption | exact cell_blk (by assumption) rfl) (by first | exact n3 | exact n5))) rfl rfl rfl ?_))
  all_goals (first | (refine Br.keep ?_) | (refine WH.one 7 (by kernel_rfl) ?_))
  all_goals (first
               | (refine Br.keep ?_)
               | (refine Comes1.run rfl (okE_buildSlice (vs := [_]) (cs := [_]) (fun | [a0] => [a0] | _ => []) Tryz.underlying24 rfl rfl (by kernel_rfl)) rfl rfl rfl ?_ (fun _ => by kernel_rfl)
                  rintro _ h7 ⟨b7, rfl, hg7, hb7, hx7⟩))
  all_goals (first | (refine Br.keep ?_) | (refine ⟨fun _ => hx7.mono fun _ _ e => e.elim, ?_⟩))
  all_goals (first | (refine Br.keep ?_) | (have hC7 : Ext (fun q => u.ownBlock = some q) h3 h7 := hx7.mono fun _ _ e => e.elim))
  all_goals (first | (refine Br.keep ?_) | (refine WH.one 8 (by kernel_rfl) ?_))
  all_goals (first
               | (refine Br.keep ?_)
               | (refine Comes1.run rfl (ok_append (sz := 1) (bytes := 1) rfl Tryz.underlying24 (show Tryz.prog.info? 5 = some Tryz.t5 by kernel_rfl) rfl rfl rfl rfl (by decide) rfl rfl (w3.own.ext hx7 (fun _ _ => nos)) (rd_blk hb7 rfl) (by simp [Value.oneCell']) (by simp only [maxLen]; omega) (by omega)) rfl rfl rfl ?_ (fun _ => by kernel_rfl)
                  rintro v8 h8 ⟨ho8, hx8, hl8⟩))
  all_goals (first | (refine Br.keep ?_) | (refine ⟨fun _ => hC7.trans hx8, ?_⟩))
  all_goals (first
               | (refine Br.keep ?_)
               | (have hC8 := hC7.trans hx8
                  have hb8 := hC8.obj w3.blk n3
                  obtain ⟨A8, c8, rfl, _⟩ := ho8.slice))
  all_goals (first | (refine Br.keep ?_) | (refine WH.one 9 (by kernel_rfl) ?_))
  all_goals (first
               | (refine Br.keep ?_)
               | (refine Comes1.run rfl (OkP.r (ok_nilCheck rfl)) rfl rfl rfl ?_ (fun _ => by kernel_rfl)
                  rintro _ hz ⟨rfl, _⟩
                  subst hz))
  all_goals (first | (refine Br.keep ?_) | (refine ⟨fun e => (by cases e), ?_⟩))
  all_goals (first | (refine Br.keep ?_) | (refine WH.one 10 (by kernel_rfl) ?_))
  all_goals (first
               | (refine Br.keep ?_)
               | (refine Comes1.run rfl (OkP.r (ok_fieldAddr rfl Tryz.underlying97 rfl (fun w => Tryz.sizeOf24 w))) rfl rfl rfl ?_ (fun _ => by kernel_rfl)
                  rintro _ hz ⟨rfl, _⟩
                  subst hz))
  all_goals (first | (refine Br.keep ?_) | (refine ⟨fun e => (by cases e), ?_⟩))
  all_goals (first | (refine Br.keep ?_) | (refine WH.one 11 (by kernel_rfl) ?_))
  all_goals (first
               | (refine Br.keep ?_)
               | (refine Comes1.run0 rfl (okE_store (fun w => Tryz.sizeOf24 w) rfl rfl hb8 (Nat.le_of_ble_eq_true rfl) rfl rfl) rfl rfl ?_ (fun _ => by kernel_rfl)
                  rintro _ h9 ⟨hb9, hx9⟩))
  all_goals (first | (refine Br.keep ?_) | (refine ⟨fun e => (by cases e), ?_⟩))
  all_goals (first
               | (refine Br.keep ?_)
               | (have s7 := hx7.size
                  have hf8 : ∀ q, (Value.slice A8 ((encF (F.take k)).length + 1) c8).ownBlock = some q → u.ownBlock = some q ∨ h3.size ≤ q := fun q hq => hl8.elim (fun e => .inl (e ▸ hq)) (fun e => .inr (by rw [e] at hq; cases hq; omega))
                  have w9 : Wr g h9 b (.slice A8 ((encF (F.take k)).length + 1) c8) (encF (F.take k) ++ [UInt8.ofNat yk.toNat]) := ⟨hb9, by rw [show (encF (F.take k) ++ [UInt8.ofNat yk.toNat]).length = (encF (F.take k)).length + 1 by simp, show bys (encF (F.take k) ++ [UInt8.ofNat yk.toNat]) = bys (encF (F.take k)) ++ [Value.int .u8 yk] by simp only [bys, List.map_append, List.map_cons, List.map_nil]; rw [byK hyF.2.1 hyF.2.2]]; exact ho8.ext hx9 (fun q hq e => by obtain ⟨_, z⟩ := own_kind ho8 hq; rw [e, hb8] at z; simp at z), ⟨w1.lo.1, fun q hq => (hf8 q hq).elim (fun e => w1.lo.2 q e) (fun e => by have := w1.ext.size; omega)⟩, (w3.ext.trans' hC8 (fun q hq e => by have := w1.lo.2 q e; omega)).trans' hx9 (fun q hq e => by have := w1.lo.1; omega)⟩
                  have n5b : b5 ≠ b := by omega
                  have hb59 := hx9.obj (hC8.obj hb53 n5) n5b))
  all_goals (first | (refine Br.keep ?_) | (refine WH.done (by kernel_rfl) ?_))
  all_goals (refine Gn ?_)
  all_goals (first | (refine Br.keep ?_) | (refine WC.sub [(0, _), (5, _), (6, _), (7, _), (8, _)] ⟨rfl, rfl, rfl, rfl, rfl, trivial⟩ ?_))
  all_goals (first | (refine Br.keep ?_) | (refine WC.region ?_))
  all_goals (refine Go ?_)
  all_goals (first | (refine Br.keep ?_) | (refine WL.step (ok_load (fun w => Tryz.isAgg9 w) rfl (by first | exact cell_blk hb59 rfl | assumption | exact cell_blk (by assumption) rfl)) rfl rfl rfl ?_))
  all_goals (first
               | (refine Br.keep ?_)
               | (refine WL.call (vs := [_, _]) rfl (fun a w => Tryz.call67 a w) rfl (text_w w9 yt (by simp only [List.length_append, List.length_cons, List.length_nil]; omega)) rfl rfl rfl ?_
                  rintro _ h10 ⟨v10, w10, hx10, hf10⟩))
  all_goals (refine Gn ?_)
  all_goals (first | (refine Br.keep ?_) | (refine WC.sub [(0, _), (6, _), (7, _), (8, _)] ⟨rfl, rfl, rfl, rfl, trivial⟩ ?_))
  all_goals (first | (refine Br.keep ?_) | (refine WC.region ?_))
  all_goals (refine Go ?_)
  all_goals (first | (refine Br.keep ?_) | (exact ⟨(k + 1, _), ⟨rfl, rfl, rfl, rfl, trivial⟩, (by exact ⟨by omega, by rw [encF_snoc hy]; exact w10, (((hx1.trans' hX3 (fun q hq e => e.elim)).trans' hC8 (fun q hq e => by have := hf1 q e; omega)).trans' hx9 (fun q hq e => e)).trans' hx10 (fun q hq e => e.elim id (fun z => (hf8 q z).elim (fun z => by have := hf1 q z; omega) (fun z => by omega))), fun q hq => (hf10 q hq).elim (fun z => (hf8 q z).elim (fun z => hf1 q z) (fun z => by omega)) (fun z => by have := hC8.size; have := hx9.size; omega)⟩), (by simp; omega)⟩))
  all_goals (try (refine Br.mk (i := 1000) ?_))
  all_goals (refine Gn ?_)
  all_goals (refine WC.sub [(0, _)] ⟨rfl, trivial⟩ ?_)
  all_goals (refine WC.region ?_)
  all_goals (have hkF : k = F.length := by omega
             have hlk := hlen k
             have sh := hx1.size
             have n1 := w1.ne)
  all_goals (refine WL.step (ok_move rfl) rfl rfl rfl ?_)
  all_goals (refine Go ?_)
  all_goals (refine WL.step (ok_nilCheck rfl) rfl rfl rfl ?_)
  all_goals (refine Go ?_)
  all_goals (refine WL.step (ok_load (fun w => Tryz.isAgg24 w) rfl (by first | exact cell_blk w1.blk rfl | assumption | exact cell_blk (by assumption) rfl)) rfl rfl rfl ?_)
  all_goals (refine WL.stepR (okE_buildSlice (vs := [_]) (cs := [_]) (fun | [a0] => [a0] | _ => []) Tryz.underlying24 rfl rfl (by kernel_rfl)) rfl rfl rfl ?_
             rintro _ h2 ⟨b2, rfl, hg2, hb2, hx2⟩)
  all_goals (refine WL.stepR (ok_append (sz := 1) (bytes := 1) rfl Tryz.underlying24 (show Tryz.prog.info? 5 = some Tryz.t5 by kernel_rfl) rfl rfl rfl rfl (by decide) rfl rfl (w1.own.ext hx2 (fun _ _ => nos)) (rd_blk hb2 rfl) (by simp [Value.oneCell']) (by simp only [maxLen]; omega) (by omega)) rfl rfl rfl ?_
             rintro v3 h3 ⟨ho3, hx3, hl3⟩)
  all_goals (have hC3 : Ext (fun q => u.ownBlock = some q) h1 h3 := (hx2.mono fun _ _ e => e.elim).trans hx3
             have hb3 := hC3.obj w1.blk n1
             obtain ⟨A3, c3, rfl, _⟩ := ho3.slice
             have s2 := hx2.size)
  all_goals (refine WL.step (ok_nilCheck rfl) rfl rfl rfl ?_)
  all_goals (refine Go ?_)
  all_goals (refine WL.stepR0 (okE_store (fun w => Tryz.sizeOf24 w) rfl rfl hb3 (Nat.le_of_ble_eq_true rfl) rfl rfl) rfl rfl ?_
             rintro _ h4 ⟨hb4, hx4⟩)
  all_goals (refine Gn ?_)
  all_goals (refine retP_n [] trivial ?_)
  all_goals (have hf3 : ∀ q, (Value.slice A3 ((encF (F.take k)).length + 1) c3).ownBlock = some q → u.ownBlock = some q ∨ h1.size ≤ q := fun q hq => hl3.elim (fun e => .inl (e ▸ hq)) (fun e => .inr (by rw [e] at hq; cases hq; omega))
             have e0 : F.take k = F := List.take_of_length_le (by omega)
             refine ⟨_, ⟨hb4, ?_, ⟨w1.lo.1, fun q hq => (hf3 q hq).elim (fun e => w1.lo.2 q e) (fun e => by have := w1.ext.size; omega)⟩, (w1.ext.trans' hC3 (fun q hq e => by have := w1.lo.2 q e; omega)).trans' hx4 (fun q hq e => by have := w1.lo.1; omega)⟩, (hx1.trans' hC3 (fun q hq e => by have := hf1 q e; omega)).trans hx4⟩
             rw [e0] at ho3 ⊢
             rw [show (encF F ++ [(0 : UInt8)]).length = (encF F).length + 1 by simp, show bys (encF F ++ [0]) = bys (encF F) ++ [Value.int .u8 0] by simp only [bys, List.map_append, List.map_cons, List.map_nil]; rfl]
             exact ho3.ext hx4 (fun q hq e => by obtain ⟨_, z⟩ := own_kind ho3 hq; rw [e, hb3] at z; simp at z))
end Go.Proofs.YtbahigffjclpdaaGreatDoor


/-
  FIX (layer 25): a fault's bytes, as clients get them; the law's awake.
-/
namespace Go.Proofs.YtbahigffjclpdaaGreatDoor
open Go Go.RK

def eBk (v : Value) (F : List FieldD) : Bk := ⟨69, 0, [], [], [], 0, 0, nilV, [], nilV, [], nilV, [], v, F⟩
theorem eBk_ok {h : Heap} {v : Value} {F : List FieldD} (hr : Rd h v 2 F.length (F.flatMap FieldD.cells)) (hm : F.length ≤ 100) : (eBk v F).ok h := ⟨⟨Rd.nil _ _, by show (0 : Nat) ≤ _; omega⟩, ⟨Rd.nil _ _, by show (0 : Nat) ≤ _; omega⟩, cels_no h, ⟨hr, by show F.length ≤ _; unfold maxLen; omega⟩⟩
theorem eBk_may {v : Value} {F : List FieldD} (hm : F.length ≤ 100) (hF : ∀ f ∈ F, f.okB) : (eBk v F).may := ⟨⟨69, rfl, rfl⟩, rfl, rfl, rfl, ⟨by show (0 : Nat) ≤ _; omega, fun _ h => by cases h⟩, ⟨by show F.length ≤ _; omega, hF⟩, ⟨by show (0 : Nat) ≤ _; omega, fun _ h => by cases h⟩, ⟨by show (0 : Nat) ≤ _; omega, fun _ h => by cases h⟩, ⟨by show (0 : Int) ≤ 0; decide, by show (0 : Int) ≤ 4294967295; decide⟩, ⟨by show (0 : Int) ≤ 0; decide, by show (0 : Int) ≤ 4294967295; decide⟩, .inl (by show ¬ (69 : Int) = 90; decide), rfl⟩
set_option maxHeartbeats 4000000 in
set_option maxRecDepth 100000 in
theorem encode_e {h : Heap} {v : Value} (F : List FieldD) (hr : Rd h v 2 F.length (F.flatMap FieldD.cells)) (hF : ∀ f ∈ F, f.t.length ≤ 200000 ∧ 0 ≤ f.k ∧ f.k ≤ 255) (hm : F.length ≤ 100) (hok : ∀ f ∈ F, f.okB) :
    CallsH Tryz.prog 53 ⟨[.agg ⟨eB v⟩]⟩ h fun u h' => ∃ v', u = .tuple ⟨[.agg ⟨[.int .u8 69, v']⟩, In 0]⟩ ∧ Own h' v' 5 1 (encF F ++ [0]).length (bys (encF F ++ [0])) ∧ Ext No h h' := by
  have kc := fun h' (hx : Ext No h h') => check_back (eBk v F) (eBk_ok (hr.ext0 hx) hm) (eBk_may hm hok)
  obtain ⟨A, c, rfl, _⟩ := id hr
  unfold eB
  simp only [eBk, Bk.cells] at kc
  refine calls [(0, _)] Tryz.func53 rfl Tryz.ntmps53 rfl ⟨rfl, trivial⟩ ?_
  all_goals (refine WC.sr ?_)
  all_goals (refine WL.stepR (okE_box rfl) rfl rfl rfl ?_
             rintro _ h1 ⟨b1, rfl, hg1, hb1, hx1⟩)
  all_goals (refine WL.stepR (okE_alloc (fun w => Tryz.zeroValue85 w)) rfl rfl rfl ?_
             rintro _ h2 ⟨b2, rfl, hg2, hb2, hx2⟩)
  all_goals (have hX2 := hx1.trans hx2
             have hb12 := hx2.obj hb1 nos
             have s1 := hx1.size
             have s2 := hx2.size)
  all_goals (refine Go ?_)
  all_goals (refine WC.seq ?_)
  all_goals (refine WC.sr ?_)
  all_goals (refine WL.step (ok_loadN (fun w => Tryz.isAgg32 w) (fun w => Tryz.sizeOf32 w) rfl rfl (by exact At.of_block hb12)) rfl rfl rfl ?_)
  all_goals (refine WL.call (vs := [_]) rfl (fun a w => Tryz.call65 a w) rfl (kc _ hX2) rfl rfl rfl ?_
             rintro _ h3 ⟨rfl, hx3⟩)
  all_goals (have hb13 := hx3.obj hb12 nos)
  all_goals (refine Go ?_)
  all_goals (refine WC.sub [(1, _), (2, _), (4, _)] ⟨rfl, rfl, rfl, trivial⟩ ?_)
  all_goals (refine WC.sr ?_)
  all_goals (refine Go ?_)
  all_goals (refine goC 1 2 ?_ ?_ <;> first | exact ⟨⟩ | refine Hb.mk fun hb => ?_ | skip)
  all_goals (first | (fail_if_success refine goB 1 ?_) | (
  refine goB 1 ?_
  all_goals (refine WC.sr ?_)
  all_goals (refine WL.step (ok_buildF (vs := []) (cs := [_, _]) (fun | [] => [(.int .u8 0), (.slice none 0 0)] | _ => []) rfl rfl (by kernel_rfl)) rfl rfl rfl ?_)
  all_goals (refine Go ?_)
  all_goals (refine WL.stepR0 (okE_storeW (fun w => Tryz.sizeOf85 w) rfl rfl rfl (by assumption) rfl (by simp [Value.oneCell'])) rfl rfl ?_
             rintro _ h1 ⟨hb1, hx1⟩)
  all_goals (refine Go ?_)
  all_goals (refine WC.sub [(2, _), (3, _)] ⟨rfl, rfl, trivial⟩ ?_)
  all_goals (refine WC.ret ?_)
  all_goals (repeat' (with_reducible first | refine thenP_r ?_ | refine blockP_r ?_))
  all_goals (refine retP_2 _ _ ⟨⟨_, rfl, ld_blk (fun w => Tryz.isAgg85 w) (fun w => Tryz.sizeOf85 w) hb7 rfl⟩, rfl, trivial⟩ ?_)
  all_goals (exact ⟨_, rfl, hw6.ext hx7 (fun q hq e => by obtain ⟨_, z⟩ := own_kind hw6 hq; rw [e, hb26] at z; simp at z), w6.ext.trans' hx7 (fun q hq e => by omega)⟩)
  skip))
  all_goals (first | (fail_if_success refine goB 2 ?_) | (
  refine goB 2 ?_
  all_goals (refine WC.skip ?_)
  skip))
  all_goals (refine Gn ?_)
  all_goals (refine WC.sr ?_)
  all_goals (refine WL.step (ok_buildF (vs := []) (cs := [_]) (fun | [] => [(.slice none 0 0)] | _ => []) rfl rfl (by kernel_rfl)) rfl rfl rfl ?_)
  all_goals (refine WL.stepR (okE_box rfl) rfl rfl rfl ?_
             rintro _ h4 ⟨b5, rfl, hg5, hb5, hx4⟩)
  all_goals (have hb14 := hx4.obj hb13 nos
             have hb24 := (hx3.trans hx4).obj hb2 nos
             have hX4 := (hX2.trans hx3).trans hx4
             have s3 := hx3.size
             have w4 : Wr h h4 b5 nilV [] := ⟨hb5, Own.nil _ _ _, ⟨by omega, by simp [Value.ownBlock]⟩, hX4⟩
             have l2 := lt_of_some hb2
             have l1 := lt_of_some hb1)
  all_goals (refine Go ?_)
  all_goals (refine WC.sub [(1, _), (2, _), (5, _)] ⟨rfl, rfl, rfl, trivial⟩ ?_)
  all_goals (refine WC.seq ?_)
  all_goals (refine WC.sr ?_)
  all_goals (refine Go ?_)
  all_goals (refine WL.step (ok_load (fun w => Tryz.isAgg5 w) rfl (by first | exact cell_blk hb14 rfl | assumption | exact cell_blk (by assumption) rfl)) rfl rfl rfl ?_)
  all_goals (refine Gn ?_)
  all_goals (refine WC.block ?_)
  all_goals (refine WC.sr ?_)
  all_goals (refine Go ?_)
  all_goals (refine goC 3 4 ?_ ?_ <;> first | exact ⟨⟩ | refine Hb.mk fun hb => ?_ | skip)
  all_goals (first | (fail_if_success refine goB 4 ?_) | (
  refine goB 4 ?_
  all_goals (refine WC.sr ?_)
  all_goals (refine Go ?_)
  all_goals (refine WC.sub [(1, _), (2, _), (5, _), (19, _), (24, _)] ⟨rfl, rfl, rfl, rfl, rfl, trivial⟩ ?_)
  all_goals (refine goC 5 6 ?_ ?_ <;> first | exact ⟨⟩ | refine Hb.mk fun hb => ?_ | skip)
  all_goals (first | (fail_if_success refine goB 6 ?_) | (
  refine goB 6 ?_
  all_goals (refine WC.sr ?_)
  all_goals (refine Go ?_)
  all_goals (refine goC 7 8 ?_ ?_ <;> first | exact ⟨⟩ | refine Hb.mk fun hb => ?_ | skip)
  all_goals (first | (fail_if_success refine goB 8 ?_) | (
  refine goB 8 ?_
  all_goals (refine WC.sr ?_)
  all_goals (refine Go ?_)
  all_goals (refine WC.sub [(1, _), (2, _), (5, _), (19, _), (44, _)] ⟨rfl, rfl, rfl, rfl, rfl, trivial⟩ ?_)
  all_goals (refine goC 9 10 ?_ ?_ <;> first | exact ⟨⟩ | refine Hb.mk fun hb => ?_ | skip)
  all_goals (first | (fail_if_success refine goB 9 ?_) | (
  refine goB 9 ?_
  all_goals (refine WC.region ?_)
  all_goals (refine Go ?_)
  all_goals (refine WL.step (ok_load (fun w => Tryz.isAgg5 w) rfl (by first | assumption | exact cell_blk (by assumption) rfl)) rfl rfl rfl ?_)
  all_goals (refine WL.stepR (okE_buildSlice (vs := [_]) (cs := [_]) (fun | [a0] => [a0] | _ => []) Tryz.underlying24 rfl rfl (by kernel_rfl)) rfl rfl rfl ?_
             rintro _ h1 ⟨b1, rfl, hg1, hb1, hx1⟩)
  all_goals (refine WL.step (ok_nilCheck rfl) rfl rfl rfl ?_)
  all_goals (refine Go ?_)
  all_goals (refine WL.stepR0 (okE_store (fun w => Tryz.sizeOf24 w) rfl rfl (by assumption) (Nat.le_of_ble_eq_true rfl) rfl rfl) rfl rfl ?_
             rintro _ h1 ⟨hb1, hx1⟩)
  all_goals (refine Gn ?_)
  skip))
  all_goals (first | (fail_if_success refine goB 10 ?_) | (
  refine goB 10 ?_
  all_goals (refine WC.sr ?_)
  all_goals (refine Go ?_)
  all_goals (refine goC 11 12 ?_ ?_ <;> first | exact ⟨⟩ | refine Hb.mk fun hb => ?_ | skip)
  all_goals (first | (fail_if_success refine goB 12 ?_) | (
  refine goB 12 ?_
  all_goals (refine WC.sr ?_)
  all_goals (refine Go ?_)
  all_goals (refine WC.sub [(1, _), (2, _), (5, _), (19, _), (58, _)] ⟨rfl, rfl, rfl, rfl, rfl, trivial⟩ ?_)
  all_goals (refine goC 13 14 ?_ ?_ <;> first | exact ⟨⟩ | refine Hb.mk fun hb => ?_ | skip)
  all_goals (first | (fail_if_success refine goB 14 ?_) | (
  refine goB 14 ?_
  all_goals (refine WC.sr ?_)
  all_goals (refine Go ?_)
  all_goals (refine goC 15 16 ?_ ?_ <;> first | exact ⟨⟩ | refine Hb.mk fun hb => ?_ | skip)
  all_goals (first | (fail_if_success refine goB 16 ?_) | (
  refine goB 16 ?_
  all_goals (refine WC.sr ?_)
  all_goals (refine Go ?_)
  all_goals (refine WC.sub [(1, _), (2, _), (5, _), (19, _), (82, _)] ⟨rfl, rfl, rfl, rfl, rfl, trivial⟩ ?_)
  all_goals (refine goC 19 20 ?_ ?_ <;> first | exact ⟨⟩ | refine Hb.mk fun hb => ?_ | skip)
  all_goals (first | (fail_if_success refine goB 20 ?_) | (
  refine goB 20 ?_
  all_goals (refine WC.seq ?_)
  all_goals (refine WC.sr ?_)
  all_goals (refine Go ?_)
  all_goals (refine goC 23 24 ?_ ?_ <;> first | exact ⟨⟩ | refine Hb.mk fun hb => ?_ | skip)
  all_goals (first | (fail_if_success refine goB 23 ?_) | (
  refine goB 23 ?_
  all_goals (refine WC.skip ?_)
  skip))
  all_goals (first | (fail_if_success refine goB 24 ?_) | (
  refine goB 24 ?_
  all_goals (refine WC.region ?_)
  all_goals (refine Go ?_)
  skip))
  all_goals (refine Gn ?_)
  all_goals (refine goC 25 26 ?_ ?_ <;> first | exact ⟨⟩ | refine Hb.mk fun hb => ?_ | skip)
  all_goals (first | (fail_if_success refine goB 25 ?_) | (
  refine goB 25 ?_
  all_goals (refine WC.region ?_)
  all_goals (refine Go ?_)
  all_goals (refine WL.step (ok_load (fun w => Tryz.isAgg30 w) rfl (by first | exact cell_blk hb14 rfl | assumption | exact cell_blk (by assumption) rfl)) rfl rfl rfl ?_)
  all_goals (refine WL.call (vs := [_, _]) rfl (fun a w => Tryz.call70 a w) rfl (fields_w F w4 hr hF hm) rfl rfl rfl ?_
             rintro _ h6 ⟨v6, w6, hx6⟩)
  all_goals (have hb16 := hx6.obj hb14 (fun e => by omega)
             have hb26 := hx6.obj hb24 (fun e => by omega)
             have hw6 := w6.own
             obtain ⟨A6, c6, rfl, _⟩ := hw6.slice)
  all_goals (refine Gn ?_)
  skip))
  all_goals (first | (fail_if_success refine goB 26 ?_) | (
  refine goB 26 ?_
  all_goals (refine WC.skip ?_)
  skip))
  skip))
  skip))
  skip))
  skip))
  skip))
  skip))
  skip))
  skip))
  all_goals (refine Gn ?_)
  all_goals (refine WC.seq ?_)
  all_goals (refine WC.drawH (fun h' => Ext No h6 h') 7 9 rfl fol ?_)
  all_goals (refine WH.tk 0 rfl (fun hq hC => ok_fieldAddr rfl Tryz.underlying32 rfl (fun w => Tryz.sizeOf5 w)) rfl rfl rfl ?_)
  all_goals (refine WH.tk 1 rfl (fun hq hC => ok_load (fun w => Tryz.isAgg5 w) rfl (by first | exact hC.cell (by first | exact cell_blk hb16 rfl | assumption | exact cell_blk (by assumption) rfl) nos)) rfl rfl rfl ?_)
  all_goals (refine WH.tk 2 rfl (fun hq hC => ok_move rfl) rfl rfl rfl ?_)
  all_goals (refine WH.tk 3 rfl (fun hq hC => ok_nilCheck rfl) rfl rfl rfl ?_)
  all_goals (refine WH.tk 4 rfl (fun hq hC => ok_fieldAddr rfl Tryz.underlying97 rfl (fun w => Tryz.sizeOf24 w)) rfl rfl rfl ?_)
  all_goals (refine WH.tk 5 rfl (fun hq hC => ok_load (fun w => Tryz.isAgg24 w) rfl (by first | exact hC.cell (by first | exact cell_blk w6.blk rfl | assumption | exact cell_blk (by assumption) rfl) nos)) rfl rfl rfl ?_)
  all_goals (refine WH.tk 6 rfl (fun hq hC => ok_buildF (vs := [_, _]) (cs := [_, _]) (fun | [a0, a1] => [a0, a1] | _ => []) rfl rfl (by kernel_rfl)) rfl rfl rfl ?_)
  all_goals (refine WH.one 7 (by kernel_rfl) ?_)
  all_goals (refine Comes1.run0 rfl (okE_storeW (fun w => Tryz.sizeOf85 w) rfl rfl rfl hb26 rfl (by simp [Value.oneCell'])) rfl rfl ?_ (fun _ => by kernel_rfl)
             rintro _ h7 ⟨hb7, hx7⟩)
  all_goals (refine ⟨fun e => (by cases e), ?_⟩)
  all_goals (refine WH.one 8 (by kernel_rfl) ?_)
  all_goals (refine Comes1.run rfl (OkP.r (ok_assign rfl)) rfl rfl rfl ?_ (fun _ => by kernel_rfl)
             rintro _ hz ⟨rfl, _⟩
             subst hz)
  all_goals (refine ⟨fun e => (by cases e), ?_⟩)
  all_goals (refine WH.done (by kernel_rfl) ?_)
  all_goals (refine Gn ?_)
  all_goals (refine WC.sub [(2, _), (3, _)] ⟨rfl, rfl, trivial⟩ ?_)
  all_goals (refine WC.ret ?_)
  all_goals (repeat' (with_reducible first | refine thenP_r ?_ | refine blockP_r ?_))
  all_goals (refine retP_2 _ _ ⟨⟨_, rfl, ld_blk (fun w => Tryz.isAgg85 w) (fun w => Tryz.sizeOf85 w) hb7 rfl⟩, rfl, trivial⟩ ?_)
  all_goals (exact ⟨_, rfl, hw6.ext hx7 (fun q hq e => by obtain ⟨_, z⟩ := own_kind hw6 hq; rw [e, hb26] at z; simp at z), w6.ext.trans' hx7 (fun q hq e => by omega)⟩)
theorem rtF {n : Int} (h : 0 ≤ n ∧ n ≤ 4294967295) : Rt n 4 := by
  unfold Rt
  rw [show (256 : Int) ^ 4 = 4294967296 from rfl]
  omega
set_option maxHeartbeats 2000000 in
set_option maxRecDepth 100000 in
theorem fbytes {h : Heap} {v : Value} (l : List UInt8) (hv : Rd h v 1 l.length (bys l)) (hl : l.length ≤ 1000000000) :
    CallsH Tryz.prog 54 ⟨[.agg ⟨[.int .u8 69, v]⟩]⟩ h fun u h' => ∃ L : List UInt8, l.length ≤ L.length ∧ L.length ≤ l.length + 5 ∧ Own h' u 5 1 L.length (bys L) ∧ Ext No h h' := by
  obtain ⟨A, c, rfl, _⟩ := id hv
  refine calls [(0, _)] Tryz.func54 rfl Tryz.ntmps54 rfl ⟨rfl, trivial⟩ ?_
  all_goals (refine WC.sr ?_)
  all_goals (refine WL.stepR (okE_box rfl) rfl rfl rfl ?_
             rintro _ h1 ⟨b1, rfl, hg1, hb1, hx1⟩)
  all_goals (refine Go ?_)
  all_goals (refine WC.sr ?_)
  all_goals (refine Go ?_)
  all_goals (refine WC.seq ?_)
  all_goals (refine WC.sr ?_)
  all_goals (refine Go ?_)
  all_goals (refine WL.step (ok_load (fun w => Tryz.isAgg5 w) rfl (by first | assumption | exact cell_blk (by assumption) rfl)) rfl rfl rfl ?_)
  all_goals (refine Go ?_)
  all_goals (refine WC.sub [(1, _), (3, _), (6, _)] ⟨rfl, rfl, rfl, trivial⟩ ?_)
  all_goals (refine goC 1 2 ?_ ?_ <;> first | exact ⟨⟩ | refine Hb.mk fun hb => ?_ | skip)
  all_goals (first | (fail_if_success refine goB 1 ?_) | (
  refine goB 1 ?_
  all_goals (refine WC.region ?_)
  all_goals (refine Go ?_)
  all_goals (refine WL.step (ok_load (fun w => Tryz.isAgg5 w) rfl (by first | assumption | exact cell_blk (by assumption) rfl)) rfl rfl rfl ?_)
  all_goals (refine WL.stepR (okE_buildSlice (vs := [_]) (cs := [_]) (fun | [a0] => [a0] | _ => []) Tryz.underlying24 rfl rfl (by kernel_rfl)) rfl rfl rfl ?_
             rintro _ h2 ⟨b2, rfl, hg2, hb2, hx2⟩)
  all_goals (have hb12 := hx2.obj hb1 nos
             have hX2 := hx1.trans hx2
             have hr2 : Rd h2 (.slice (some ⟨b2, 0, none⟩) 1 1) 1 ([69] : List UInt8).length (bys [69]) := rd_blk hb2 rfl)
  all_goals (refine Go ?_)
  skip))
  all_goals (first | (fail_if_success refine goB 2 ?_) | (
  refine goB 2 ?_
  all_goals (refine WC.skip ?_)
  skip))
  all_goals (refine Gn ?_)
  all_goals (refine WC.seq ?_)
  all_goals (refine WC.drawH (fun h' => Ext No h2 h') 9 10 rfl fol ?_)
  all_goals (refine WH.tk 0 rfl (fun hq hC => ok_move rfl) rfl rfl rfl ?_)
  all_goals (refine WH.tk 1 rfl (fun hq hC => ok_fieldAddr rfl Tryz.underlying85 rfl (fun w => Tryz.sizeOf24 w)) rfl rfl rfl ?_)
  all_goals (refine WH.tk 2 rfl (fun hq hC => ok_load (fun w => Tryz.isAgg24 w) rfl (by first | exact hC.cell (by first | exact cell_blk hb12 rfl | assumption | exact cell_blk (by assumption) rfl) nos)) rfl rfl rfl ?_)
  all_goals (refine WH.tk 3 rfl (fun hq hC => ok_lenL rfl Tryz.underlying24 rfl) rfl rfl rfl ?_)
  all_goals (first | (refine WH.tk 4 rfl (fun hq hC => ok_addI rfl rfl (by omega)) rfl rfl rfl ?_) | (refine WH.tk 4 rfl (fun hq hC => ok_add rfl rfl) rfl rfl rfl ?_))
  all_goals (refine WH.tk 6 rfl (fun hq hC => ok_fieldAddr rfl Tryz.underlying85 rfl (fun w => Tryz.sizeOf24 w)) rfl rfl rfl ?_)
  all_goals (refine WH.tk 7 rfl (fun hq hC => ok_load (fun w => Tryz.isAgg24 w) rfl (by first | exact hC.cell (by first | exact cell_blk hb12 rfl | assumption | exact cell_blk (by assumption) rfl) nos)) rfl rfl rfl ?_)
  all_goals (refine WH.one 5 (by kernel_rfl) ?_)
  all_goals (refine Comes1.call (vs := [_, _, _]) rfl rfl (fun a w => Tryz.call71 a w) rfl (put_v [69] (4 + (l.length : Int)) 4 (.inr (.inr rfl)) (rtF ⟨by omega, by omega⟩) hr2 (by decide)) rfl rfl rfl ?_ (fun _ => by kernel_rfl)
             rintro v5 h5 ⟨ho5, hx5, hf5⟩)
  all_goals (refine ⟨fun _ => hx5, ?_⟩)
  all_goals (have hbl : ([69] ++ be (4 + (l.length : Int)) 4).length = 5 := by simp [be_len])
  all_goals (refine WH.one 8 (by kernel_rfl) ?_)
  all_goals (refine Comes1.run rfl (ok_append (sz := 1) (bytes := 1) rfl Tryz.underlying24 (show Tryz.prog.info? 5 = some Tryz.t5 by kernel_rfl) rfl rfl rfl rfl (by decide) rfl rfl ho5 (hv.ext0 (hX2.trans hx5)) (by intro c hc; obtain ⟨b, _, rfl⟩ := List.mem_map.1 hc; rfl) (by simp only [maxLen]; omega) (by omega)) rfl rfl rfl ?_ (fun _ => by kernel_rfl)
             rintro v8 h8 ⟨ho8, hx8, hl8⟩)
  all_goals (refine ⟨fun _ => hx5.trans' hx8 (fun q hq e => by have := hf5 q e; omega), ?_⟩)
  all_goals (have hX8 := hx5.trans' hx8 (fun q hq e => by have := hf5 q e; omega))
  all_goals (refine WH.one 9 (by kernel_rfl) ?_)
  all_goals (refine Comes1.run rfl (OkP.r (ok_assign rfl)) rfl rfl rfl ?_ (fun _ => by kernel_rfl)
             rintro _ hz ⟨rfl, _⟩
             subst hz)
  all_goals (refine ⟨fun _ => hX8, ?_⟩)
  all_goals (refine WH.done (by kernel_rfl) ?_)
  all_goals (refine Gn ?_)
  all_goals (refine WC.sub [(2, _)] ⟨rfl, trivial⟩ ?_)
  all_goals (refine WC.ret ?_)
  all_goals (repeat' (with_reducible first | refine thenP_r ?_ | refine blockP_r ?_))
  all_goals (refine retP_1 _ ⟨rfl, trivial⟩ ?_)
  all_goals (exact ⟨([69] ++ be (4 + (l.length : Int)) 4) ++ l, by simp; omega, by simp [be_len]; omega, by rw [List.length_append, show bys (([69] ++ be (4 + (l.length : Int)) 4) ++ l) = bys ([69] ++ be (4 + (l.length : Int)) 4) ++ bys l from List.map_append ..]; exact ho8, hX2.trans hX8⟩)
set_option maxHeartbeats 2000000 in
set_option maxRecDepth 100000 in
theorem bbytes {h : Heap} {b : Nat} {v : Value} (F : List FieldD) (hB0 : h[b]? = some (.cells ⟨eB v⟩ 32 (0, 0))) (hr : Rd h v 2 F.length (F.flatMap FieldD.cells)) (hF : ∀ f ∈ F, f.t.length ≤ 200000 ∧ 0 ≤ f.k ∧ f.k ≤ 255) (hm : F.length ≤ 100) (hok : ∀ f ∈ F, f.okB) (hl : (encF F).length ≤ 100000000) :
    CallsH Tryz.prog 34 ⟨[.slice (some ⟨b, 0, none⟩) 1 1]⟩ h fun u h' => ∃ L : List UInt8, (encF F).length + 1 ≤ L.length ∧ Own h' u 5 1 L.length (bys L) ∧ Ext No h h' := by
  have ke := fun h' (hx : Ext No h h') => encode_e F (hr.ext0 hx) hF hm hok
  obtain ⟨A, c, rfl, _⟩ := id hr
  unfold eB at *
  refine calls [(0, _)] Tryz.func34 rfl Tryz.ntmps34 rfl ⟨rfl, trivial⟩ ?_
  all_goals (refine WC.sr ?_)
  all_goals (refine Go ?_)
  all_goals (refine WC.sr ?_)
  all_goals (refine Go ?_)
  all_goals (refine WC.seq ?_)
  all_goals (refine WC.sr ?_)
  all_goals (refine Go ?_)
  all_goals (refine WC.block ?_)
  -- loop 0: slots that turn [3, 10], that stay [8, 9]
  all_goals (refine WC.loopG (X := Nat × Value) (fun x => ([(10, In (x.1 : Int)), (3, x.2)] : Fr)) [(8, _), (9, _)] (fun y h' => Ext No h h' ∧ ((y.1 = 0 ∧ y.2 = nilV) ∨ (y.1 = 1 ∧ ∃ L : List UInt8, (encF F).length + 1 ≤ L.length ∧ Own h' y.2 5 1 L.length (bys L)))) (fun y => 1 - y.1) ((0, nilV)) ⟨rfl, rfl, rfl, rfl, trivial⟩ (by exact ⟨.refl _ _, .inl ⟨rfl, rfl⟩⟩) ?_)
  all_goals (rintro ⟨k, w⟩ h1 ⟨hx1, hI⟩
             dsimp only at hI)
  all_goals (refine WC.sub [(3, _), (10, _), (8, _), (9, _)] ⟨rfl, rfl, rfl, rfl, trivial⟩ ?_)
  all_goals (dsimp only)
  all_goals (refine WC.sr ?_)
  all_goals (refine Go ?_)
  all_goals (refine WC.seq ?_)
  all_goals (refine goC 1 2 ?_ ?_ <;> first | exact ⟨⟩ | refine Hb.mk fun hb => ?_ | skip)
  all_goals (first | (fail_if_success refine goB 1 ?_) | (
  refine goB 1 ?_
  all_goals (refine WC.skip ?_)
  skip))
  all_goals (first | (fail_if_success refine goB 2 ?_) | (
  refine goB 2 ?_
  all_goals (refine WC.exit ?_)
  all_goals (repeat' (with_reducible first | refine thenP_x ?_ | refine blockP_miss rfl ?_ | refine blockP_hit ?_ | refine blockP_n ?_ | refine thenP_n ?_))
  all_goals (refine Br.out (i := 1000) ?_)
  skip))
  all_goals (refine Gn ?_)
  all_goals (first | (refine Br.keep ?_) | (refine WC.seq ?_))
  all_goals (first | (refine Br.keep ?_) | (refine WC.block ?_))
  all_goals (first | (refine Br.keep ?_) | (refine WC.sr ?_))
  all_goals (first | (refine Br.keep ?_) | (obtain ⟨rfl, rfl⟩ : k = 0 ∧ w = nilV := by rcases hI with h | ⟨h, _⟩; exact h; exfalso; omega))
  all_goals (first | (refine Br.keep ?_) | (refine WL.step (ok_idxAddrA Tryz.underlying71 (fun w => Tryz.sizeOf32 w) rfl rfl rfl (by omega) (by first | rfl | assumption)) rfl rfl rfl ?_))
  all_goals (first | (refine Br.keep ?_) | (refine WL.step (ok_loadN (fun w => Tryz.isAgg32 w) (fun w => Tryz.sizeOf32 w) rfl rfl (by exact show At _ _ 0 (eB (.slice A F.length c)) from At.of_block (hx1.obj hB0 nos))) rfl rfl rfl ?_))
  all_goals (first
               | (refine Br.keep ?_)
               | (refine WL.stepR (okE_alloc (fun w => Tryz.zeroValue32 w)) rfl rfl rfl ?_
                  rintro _ h2 ⟨b2, rfl, hg2, hb2, hx2⟩))
  all_goals (first
               | (refine Br.keep ?_)
               | (refine WL.stepR0 (okE_storeW (fun w => Tryz.sizeOf32 w) rfl rfl rfl hb2 rfl (by simp [eB, Value.oneCell'])) rfl rfl ?_
                  rintro _ h3 ⟨hb3, hx3⟩))
  all_goals (first | (refine Br.keep ?_) | (have hX3 := hx1.trans (hx2.trans' hx3 (fun q hq e => by omega))))
  all_goals (refine Gn ?_)
  all_goals (first | (refine Br.keep ?_) | (refine WC.sr ?_))
  all_goals (first | (refine Br.keep ?_) | (refine WL.step (ok_loadN (fun w => Tryz.isAgg32 w) (fun w => Tryz.sizeOf32 w) rfl rfl (by exact At.of_block hb3)) rfl rfl rfl ?_))
  all_goals (first
               | (refine Br.keep ?_)
               | (refine WL.call (vs := [_]) rfl (fun a w => Tryz.call53 a w) rfl (ke _ hX3) rfl rfl rfl ?_
                  rintro _ h4 ⟨v4, rfl, ho4, hx4⟩
                  obtain ⟨A4, c4, rfl, _⟩ := ho4.slice))
  all_goals (refine Go ?_)
  all_goals (first
               | (refine Br.keep ?_)
               | (refine WL.stepR (okE_alloc (fun w => Tryz.zeroValue85 w)) rfl rfl rfl ?_
                  rintro _ h5 ⟨b6, rfl, hg6, hb6, hx5⟩))
  all_goals (first
               | (refine Br.keep ?_)
               | (refine WL.stepR0 (okE_storeW (fun w => Tryz.sizeOf85 w) rfl rfl rfl hb6 rfl (by simp [Value.oneCell'])) rfl rfl ?_
                  rintro _ h6 ⟨hb66, hx6⟩))
  all_goals (first
               | (refine Br.keep ?_)
               | (have hX46 : Ext No h4 h6 := hx5.trans' hx6 (fun q hq e => by omega)
                  have ho6 := ho4.ext hX46 (fun _ _ => nos)))
  all_goals (refine Go ?_)
  all_goals (first | (refine Br.keep ?_) | (refine WC.sub [(3, _), (6, _), (7, _), (8, _), (9, _), (10, _)] ⟨rfl, rfl, rfl, rfl, rfl, rfl, trivial⟩ ?_))
  all_goals (first | (refine Br.keep ?_) | (refine WC.seq ?_))
  all_goals (first | (refine Br.keep ?_) | (refine WC.sr ?_))
  all_goals (refine Go ?_)
  all_goals (first | (refine Br.keep ?_) | (refine goC 3 4 ?_ ?_ <;> first | exact ⟨⟩ | refine Hb.mk fun hb => ?_ | skip))
  all_goals (first | (fail_if_success refine goB 3 ?_) | (
  refine goB 3 ?_
  all_goals (refine WC.exit ?_)
  all_goals (repeat' (with_reducible first | refine thenP_x ?_ | refine blockP_miss rfl ?_ | refine blockP_hit ?_ | refine blockP_n ?_ | refine thenP_n ?_))
  all_goals (refine Br.out (i := 1001) ?_)
  skip))
  all_goals (first | (fail_if_success refine goB 4 ?_) | (
  refine goB 4 ?_
  all_goals (refine WC.skip ?_)
  skip))
  all_goals (refine Gn ?_)
  all_goals (first | (refine Br.keep ?_) | (refine WC.region ?_))
  all_goals (refine Go ?_)
  all_goals (first | (refine Br.keep ?_) | (refine WL.step (ok_loadN (fun w => Tryz.isAgg85 w) (fun w => Tryz.sizeOf85 w) rfl rfl (by exact At.of_block hb66)) rfl rfl rfl ?_))
  all_goals (first
               | (refine Br.keep ?_)
               | (refine WL.call (vs := [_]) rfl (fun a w => Tryz.call54 a w) rfl (fbytes (encF F ++ [0]) ho6.rd (by simp only [List.length_append, List.length_cons, List.length_nil]; omega)) rfl rfl rfl ?_
                  rintro v7 h7 ⟨L, hL1, hL2, ho7, hx7⟩
                  have hL3 : L.length ≤ 200000000 := by simp only [List.length_append, List.length_cons, List.length_nil] at hL2; omega
                  obtain ⟨A7, c7, rfl, _⟩ := ho7.slice))
  all_goals (first
               | (refine Br.keep ?_)
               | (refine WL.stepR (ok_append (sz := 1) (bytes := 1) rfl Tryz.underlying24 (show Tryz.prog.info? 5 = some Tryz.t5 by kernel_rfl) rfl rfl rfl rfl (by decide) rfl rfl (Own.nil _ _ _) ho7.rd (by intro c hc; obtain ⟨b, _, rfl⟩ := List.mem_map.1 hc; rfl) (by simp only [maxLen]; omega) (by omega)) rfl rfl rfl ?_
                  rintro v8 h8 ⟨ho8, hx8, hl8⟩))
  all_goals (refine Go ?_)
  all_goals (try (refine Br.mk (i := 1001) ?_))
  all_goals (refine Gn ?_)
  all_goals (first | (refine Br.keep ?_) | (refine WC.sub [(3, _), (8, _), (9, _), (10, _)] ⟨rfl, rfl, rfl, rfl, trivial⟩ ?_))
  all_goals (first | (refine Br.keep ?_) | (refine WC.region ?_))
  all_goals (refine Go ?_)
  all_goals (first | (refine Br.keep ?_) | (exact ⟨(0 + 1, _), ⟨rfl, rfl, rfl, rfl, trivial⟩, (by exact ⟨((hX3.trans hx4).trans hX46).trans (hx7.trans (hx8.mono fun _ _ e => by cases e)), .inr ⟨rfl, L, by simp only [List.length_append, List.length_cons, List.length_nil] at hL1; omega, by simpa using ho8⟩⟩), (by first | omega | (dsimp only; omega) | simp)⟩))
  all_goals (try (refine Br.mk (i := 1000) ?_))
  all_goals (refine Gn ?_)
  all_goals (refine WC.sub [(3, _)] ⟨rfl, trivial⟩ ?_)
  all_goals (refine WC.sr ?_)
  all_goals (refine Go ?_)
  all_goals (refine WC.ret ?_)
  all_goals (repeat' (with_reducible first | refine thenP_r ?_ | refine blockP_r ?_))
  all_goals (refine retP_1 _ ⟨rfl, trivial⟩ ?_)
  all_goals (rcases hI with ⟨h, _⟩ | ⟨_, L, h1, h2⟩
             · exfalso; omega
             · exact ⟨L, h1, h2, hx1⟩)
end Go.Proofs.YtbahigffjclpdaaGreatDoor


/-
  REPLIES (layer 7): what a writer writes.
-/
namespace Go.Proofs.YtbahigffjclpdaaGreatDoor
open Go Go.RK

theorem rt2 {n : Int} (h : -32768 ≤ n ∧ n ≤ 65535) : Rt n 2 := by
  unfold Rt
  rw [show (256 : Int) ^ 2 = 65536 from rfl]
  omega
theorem rt4s {n : Int} (h : -2147483648 ≤ n ∧ n ≤ 4294967295) : Rt n 4 := by
  unfold Rt
  rw [show (256 : Int) ^ 4 = 4294967296 from rfl]
  omega
theorem sz2 : Sz 2 := .inr (.inl rfl)
theorem sz4 : Sz 4 := .inr (.inr rfl)
theorem flat_len {α : Type} {f : α → List UInt8} {n : Nat} (l : List α) (h : ∀ x ∈ l, (f x).length ≤ n) : (l.flatMap f).length ≤ l.length * n := by
  induction l with
  | nil => simp
  | cons a l ih =>
    have h1 := ih (fun x hx => h x (by simp [hx]))
    have h2 := h a (by simp)
    simp only [List.flatMap_cons, List.length_append, List.length_cons, Nat.add_mul, Nat.one_mul]
    omega
theorem flat_take {α : Type} {f : α → List UInt8} {n : Nat} (l : List α) (k : Nat) (h : ∀ x ∈ l, (f x).length ≤ n) : ((l.take k).flatMap f).length ≤ l.length * n :=
  Nat.le_trans (flat_len _ fun x hx => h x (List.mem_of_mem_take hx)) (Nat.mul_le_mul_right n (by rw [List.length_take]; omega))
theorem flat_snoc {α : Type} {f : α → List UInt8} {l : List α} {k : Nat} {y : α} (hy : l[k]? = some y) : (l.take (k + 1)).flatMap f = (l.take k).flatMap f ++ f y := by
  rw [List.take_add_one, hy, List.flatMap_append]
  simp
def encCol (c : ColD) : List UInt8 := c.nm ++ [0] ++ be c.t 4 ++ be c.a 2 ++ be c.o 4 ++ be c.s 2 ++ be c.m 4 ++ be c.f 2
def encCel (c : Cel) : List UInt8 := if c.null then be 4294967295 4 else be c.bytes.length 4 ++ c.bytes
theorem encCol_len {c : ColD} (h : c.nm.length ≤ 1000) : (encCol c).length ≤ 1100 := by simp [encCol, be_len]; omega
theorem encCel_len {c : Cel} (h : c.bytes.length ≤ 1000) : (encCel c).length ≤ 1100 := by unfold encCel; split <;> simp [be_len] <;> omega
/-- A step of a writer. -/
def WStep (h : Heap) (b : Nat) (v : Value) (h' : Heap) (v' : Value) : Prop := Ext (WS_ b v) h h' ∧ ∀ q, v'.ownBlock = some q → v.ownBlock = some q ∨ h.size ≤ q
theorem WStep.refl {h : Heap} {b : Nat} {v : Value} : WStep h b v h v := ⟨.refl _ _, fun _ e => .inl e⟩
theorem WStep.stay {h h' : Heap} {b : Nat} {v : Value} (x : Ext No h h') : WStep h b v h' v := ⟨x.mono fun _ _ e => e.elim, fun _ e => .inl e⟩
theorem WStep.trans {h h1 h2 : Heap} {b : Nat} {v v1 v2 : Value} (a : WStep h b v h1 v1) (c : WStep h1 b v1 h2 v2) : WStep h b v h2 v2 :=
  ⟨a.1.trans' c.1 (fun q hq e => e.elim .inl (fun e => (a.2 q e).elim .inr (fun z => absurd hq (by omega)))), fun q e => (c.2 q e).elim (fun e => a.2 q e) (fun z => .inr (by have := a.1.size; omega))⟩
section
variable {g h h' : Heap} {b : Nat} {v : Value} {l : List UInt8}
theorem Wr.obj (w : Wr g h b v l) (x : Ext (WS_ b v) h h') {q : Nat} {o : Array Value} {T : TypeId} {z : Nat × Nat} (hq : h[q]? = some (.cells o T z)) (hT : T ≠ 5) (hne : q ≠ b) : h'[q]? = some (.cells o T z) :=
  x.obj hq (fun e => e.elim hne (fun e => by obtain ⟨_, k⟩ := own_kind w.own e; rw [hq] at k; simp only [Option.some.injEq, Obj.cells.injEq] at k; exact hT k.2.1))
theorem text_s (w : Wr g h b v l) (s : List UInt8) (hl : l.length + s.length ≤ 1000000000) : CallsH Tryz.prog 67 ⟨[.pointer (some ⟨b, 0, none⟩), St s]⟩ h fun _ h' => ∃ v', Wr g h' b v' (l ++ s ++ [0]) ∧ WStep h b v h' v' :=
  (text_w w s hl).mono fun _ _ ⟨v', a, x, c⟩ => ⟨v', a, x, c⟩
set_option maxHeartbeats 2000000 in
set_option maxRecDepth 100000 in
theorem num_w (w : Wr g h b v l) (n : Int) (s : Nat) (hs : Sz s) (hr : Rt n s) (hl : l.length ≤ 1000000000) : CallsH Tryz.prog 66 ⟨[.pointer (some ⟨b, 0, none⟩), In n, In s]⟩ h fun _ h' => ∃ v', Wr g h' b v' (l ++ be n s) ∧ WStep h b v h' v' := by
  have hB0 := w.blk
  have hbl := lt_of_some hB0
  have ho := w.own
  have lo := w.lo
  have hxg := w.ext
  have hsg := hxg.size
  obtain ⟨A0, c0, rfl, _⟩ := id ho.slice
  refine calls [(0, _), (1, _), (2, _)] Tryz.func66 rfl Tryz.ntmps66 rfl ⟨rfl, rfl, rfl, trivial⟩ ?_
  all_goals (refine WC.region ?_)
  all_goals (refine Go ?_)
  all_goals (refine WL.step (ok_nilCheck rfl) rfl rfl rfl ?_)
  all_goals (refine Go ?_)
  all_goals (refine WL.step (ok_load (fun w => Tryz.isAgg24 w) rfl (by first | exact cell_blk hB0 rfl | assumption | exact cell_blk (by assumption) rfl)) rfl rfl rfl ?_)
  all_goals (refine Go ?_)
  all_goals (refine WL.call (vs := [_, _, _]) rfl (fun a w => Tryz.call71 a w) rfl (put_v l n s hs hr ho.rd (by omega)) rfl rfl rfl ?_
             rintro v1 h1 ⟨ho1, hx1, hf1⟩
             obtain ⟨A1, c1, rfl, _⟩ := id ho1.slice)
  all_goals (refine WL.step (ok_nilCheck rfl) rfl rfl rfl ?_)
  all_goals (refine Go ?_)
  all_goals (refine WL.stepR0 (okE_store (fun w => Tryz.sizeOf24 w) rfl rfl (hx1.obj hB0 nos) (Nat.le_of_ble_eq_true rfl) rfl rfl) rfl rfl ?_
             rintro _ h4 ⟨hb4, hx4⟩)
  all_goals (refine Gn ?_)
  all_goals (refine retP_n [] trivial ?_)
  all_goals (have hb1 := hx1.obj hB0 nos
             exact ⟨_, ⟨hb4, ho1.ext hx4 (fun q hq e => by obtain ⟨_, z⟩ := own_kind ho1 hq; rw [e, hb1] at z; simp at z), ⟨lo.1, fun q hq => by have := hf1 q hq; omega⟩, (hxg.trans hx1).trans' hx4 (fun q hq e => by have := lo.1; omega)⟩, ⟨(hx1.mono fun _ _ e => e.elim).trans (hx4.mono fun q _ e => .inl e), fun q hq => .inr (hf1 q hq)⟩⟩)
set_option maxHeartbeats 2000000 in
set_option maxRecDepth 100000 in
theorem column_w (w : Wr g h b v l) (c : ColD) (hc : c.okB) (hn : c.nm.length ≤ 1000) (hl : l.length ≤ 900000000) : CallsH Tryz.prog 69 ⟨[.pointer (some ⟨b, 0, none⟩), .agg ⟨c.cells⟩]⟩ h fun _ h' => ∃ v', Wr g h' b v' (l ++ encCol c) ∧ WStep h b v h' v' := by
  obtain ⟨nm, t, a, o, s, m, f⟩ := c
  obtain ⟨c1, c2, c3, c4, c5, c6, c7⟩ := hc
  dsimp only at c2 c3 c4 c5 c6 c7 hn
  dsimp only [ColD.cells]
  have hbl := lt_of_some w.blk
  refine calls [(0, _), (1, _)] Tryz.func69 rfl Tryz.ntmps69 rfl ⟨rfl, rfl, trivial⟩ ?_
  all_goals (refine WC.sr ?_)
  all_goals (refine WL.stepR (okE_box rfl) rfl rfl rfl ?_
             rintro _ h1 ⟨b1, rfl, hg1, hb1, hx1⟩)
  all_goals (have w1 := w.stay hx1
             have s1 : WStep h b v h1 v := .stay hx1
             have hne : b1 ≠ b := by omega)
  all_goals (refine Gn ?_)
  all_goals (refine WC.sr ?_)
  all_goals (refine Go ?_)
  all_goals (refine WL.step (ok_load (fun w => Tryz.isAgg9 w) rfl (by first | exact cell_blk hb1 rfl | assumption | exact cell_blk (by assumption) rfl)) rfl rfl rfl ?_)
  all_goals (refine WL.call (vs := [_, _]) rfl (fun a w => Tryz.call67 a w) rfl (text_s w1 nm (by omega)) rfl rfl rfl ?_
             rintro _ h2 ⟨v2, w2, t2⟩
             have hb2 := w1.obj t2.1 hb1 (by decide) hne
             have l2 : (l ++ nm ++ [(0 : UInt8)]).length = l.length + nm.length + 1 := by simp [Nat.add_assoc])
  all_goals (refine Gn ?_)
  all_goals (refine WC.sub [(0, _), (3, _)] ⟨rfl, rfl, trivial⟩ ?_)
  all_goals (refine WC.sr ?_)
  all_goals (refine Go ?_)
  all_goals (refine WL.step (ok_load (fun w => Tryz.isAgg3 w) rfl (by first | exact cell_blk hb2 rfl | assumption | exact cell_blk (by assumption) rfl)) rfl rfl rfl ?_)
  all_goals (refine WL.call (vs := [_, _, _]) rfl (fun a w => Tryz.call66 a w) rfl (num_w w2 t 4 sz4 (rt4s (by omega)) (by omega)) rfl rfl rfl ?_
             rintro _ h3 ⟨v3, w3, t3⟩
             have hb3 := w2.obj t3.1 hb2 (by decide) hne)
  all_goals (refine Gn ?_)
  all_goals (refine WC.sub [(0, _), (3, _)] ⟨rfl, rfl, trivial⟩ ?_)
  all_goals (refine WC.sr ?_)
  all_goals (refine Go ?_)
  all_goals (refine WL.step (ok_load (fun w => Tryz.isAgg3 w) rfl (by first | exact cell_blk hb3 rfl | assumption | exact cell_blk (by assumption) rfl)) rfl rfl rfl ?_)
  all_goals (refine WL.call (vs := [_, _, _]) rfl (fun a w => Tryz.call66 a w) rfl (num_w w3 a 2 sz2 (rt2 (by omega)) (by simp only [List.length_append, be_len] at l2 ⊢; omega)) rfl rfl rfl ?_
             rintro _ h4 ⟨v4, w4, t4⟩
             have hb4 := w3.obj t4.1 hb3 (by decide) hne)
  all_goals (refine Gn ?_)
  all_goals (refine WC.sub [(0, _), (3, _)] ⟨rfl, rfl, trivial⟩ ?_)
  all_goals (refine WC.sr ?_)
  all_goals (refine Go ?_)
  all_goals (refine WL.step (ok_load (fun w => Tryz.isAgg3 w) rfl (by first | exact cell_blk hb4 rfl | assumption | exact cell_blk (by assumption) rfl)) rfl rfl rfl ?_)
  all_goals (refine WL.call (vs := [_, _, _]) rfl (fun a w => Tryz.call66 a w) rfl (num_w w4 o 4 sz4 (rt4s (by omega)) (by simp only [List.length_append, be_len] at l2 ⊢; omega)) rfl rfl rfl ?_
             rintro _ h5 ⟨v5, w5, t5⟩
             have hb5 := w4.obj t5.1 hb4 (by decide) hne)
  all_goals (refine Gn ?_)
  all_goals (refine WC.sub [(0, _), (3, _)] ⟨rfl, rfl, trivial⟩ ?_)
  all_goals (refine WC.sr ?_)
  all_goals (refine Go ?_)
  all_goals (refine WL.step (ok_load (fun w => Tryz.isAgg3 w) rfl (by first | exact cell_blk hb5 rfl | assumption | exact cell_blk (by assumption) rfl)) rfl rfl rfl ?_)
  all_goals (refine WL.call (vs := [_, _, _]) rfl (fun a w => Tryz.call66 a w) rfl (num_w w5 s 2 sz2 (rt2 (by omega)) (by simp only [List.length_append, be_len] at l2 ⊢; omega)) rfl rfl rfl ?_
             rintro _ h6 ⟨v6, w6, t6⟩
             have hb6 := w5.obj t6.1 hb5 (by decide) hne)
  all_goals (refine Gn ?_)
  all_goals (refine WC.sub [(0, _), (3, _)] ⟨rfl, rfl, trivial⟩ ?_)
  all_goals (refine WC.sr ?_)
  all_goals (refine Go ?_)
  all_goals (refine WL.step (ok_load (fun w => Tryz.isAgg3 w) rfl (by first | exact cell_blk hb6 rfl | assumption | exact cell_blk (by assumption) rfl)) rfl rfl rfl ?_)
  all_goals (refine WL.call (vs := [_, _, _]) rfl (fun a w => Tryz.call66 a w) rfl (num_w w6 m 4 sz4 (rt4s (by omega)) (by simp only [List.length_append, be_len] at l2 ⊢; omega)) rfl rfl rfl ?_
             rintro _ h7 ⟨v7, w7, t7⟩
             have hb7 := w6.obj t7.1 hb6 (by decide) hne)
  all_goals (refine Gn ?_)
  all_goals (refine WC.sub [(0, _), (3, _)] ⟨rfl, rfl, trivial⟩ ?_)
  all_goals (refine WC.region ?_)
  all_goals (refine Go ?_)
  all_goals (refine WL.step (ok_load (fun w => Tryz.isAgg3 w) rfl (by first | exact cell_blk hb7 rfl | assumption | exact cell_blk (by assumption) rfl)) rfl rfl rfl ?_)
  all_goals (refine WL.call (vs := [_, _, _]) rfl (fun a w => Tryz.call66 a w) rfl (num_w w7 f 2 sz2 (rt2 (by omega)) (by simp only [List.length_append, be_len] at l2 ⊢; omega)) rfl rfl rfl ?_
             rintro _ h8 ⟨v8, w8, t8⟩)
  all_goals (refine Gn ?_)
  all_goals (refine retP_n [] trivial ?_)
  all_goals (exact ⟨v8, by simpa [encCol] using w8, ((((((s1.trans t2).trans t3).trans t4).trans t5).trans t6).trans t7).trans t8⟩)
set_option maxHeartbeats 2000000 in
set_option maxRecDepth 100000 in
theorem row_w (w : Wr g h b v l) {vr : Value} (R : List Cel) (hR : Cels g vr R) (hm : R.length ≤ 100) (hc : ∀ c ∈ R, c.bytes.length ≤ 1000) (hl : l.length ≤ 1000000) :
    CallsH Tryz.prog 68 ⟨[.pointer (some ⟨b, 0, none⟩), vr]⟩ h fun _ h' => ∃ v', Wr g h' b v' (l ++ be R.length 2 ++ R.flatMap encCel) ∧ WStep h b v h' v' := by
  obtain ⟨hr, ⟨_, A, cc, rfl, _⟩, hok⟩ := hR
  have hfl : ∀ k, ((R.take k).flatMap encCel).length ≤ 110000 := fun k => Nat.le_trans (flat_take R k fun x hx => encCel_len (hc x hx)) (by omega)
  refine calls [(0, _), (1, _)] Tryz.func68 rfl Tryz.ntmps68 rfl ⟨rfl, rfl, trivial⟩ ?_
  all_goals (refine WC.sr ?_)
  all_goals (refine Go ?_)
  all_goals (refine WL.call (vs := [_, _, _]) rfl (fun a w => Tryz.call66 a w) rfl (num_w w R.length 2 sz2 (rt2 (by omega)) (by omega)) rfl rfl rfl ?_
             rintro _ h1 ⟨v1, w1, t1⟩)
  all_goals (refine Gn ?_)
  all_goals (refine WC.sub [(0, _), (1, _)] ⟨rfl, rfl, trivial⟩ ?_)
  all_goals (refine WC.sr ?_)
  all_goals (refine Go ?_)
  all_goals (refine WC.block ?_)
  -- loop 0: slots that turn [12], that stay [0, 10, 11]
  all_goals (refine WC.loopG (X := Nat × Value) (fun x => ([(12, In (x.1 : Int))] : Fr)) [(0, _), (10, _), (11, _)] (fun y h' => y.1 ≤ R.length ∧ Wr g h' b y.2 (l ++ be R.length 2 ++ (R.take y.1).flatMap encCel) ∧ WStep h b v h' y.2) (fun y => R.length - y.1) ((0, v1)) ⟨rfl, rfl, rfl, rfl, trivial⟩ (by exact ⟨Nat.zero_le _, by simpa using w1, t1⟩) ?_)
  all_goals (rintro ⟨k, u⟩ h2 ⟨hk, w2, t2⟩
             dsimp only at hk w2 t2)
  all_goals (refine WC.sub [(12, _), (0, _), (10, _), (11, _)] ⟨rfl, rfl, rfl, rfl, trivial⟩ ?_)
  all_goals (dsimp only)
  all_goals (refine WC.sr ?_)
  all_goals (refine Go ?_)
  all_goals (refine WC.seq ?_)
  all_goals (refine goC 1 2 ?_ ?_ <;> first | exact ⟨⟩ | refine Hb.mk fun hb => ?_ | skip)
  all_goals (first | (fail_if_success refine goB 1 ?_) | (
  refine goB 1 ?_
  all_goals (refine WC.skip ?_)
  skip))
  all_goals (first | (fail_if_success refine goB 2 ?_) | (
  refine goB 2 ?_
  all_goals (refine WC.exit ?_)
  all_goals (repeat' (with_reducible first | refine thenP_x ?_ | refine blockP_miss rfl ?_ | refine blockP_hit ?_ | refine blockP_n ?_ | refine thenP_n ?_))
  all_goals (refine Br.out (i := 1000) ?_)
  skip))
  all_goals (refine Gn ?_)
  all_goals (first | (refine Br.keep ?_) | (refine WC.seq ?_))
  all_goals (first | (refine Br.keep ?_) | (refine WC.block ?_))
  all_goals (first | (refine Br.keep ?_) | (refine WC.sr ?_))
  all_goals (first
               | (refine Br.keep ?_)
               | (obtain ⟨bL, oL, hA, hbL, hat⟩ := Rd.at_ hr (by omega)
                  obtain ⟨⟨yn, yv, yb⟩, hy⟩ : ∃ y, R[k]? = some y := ⟨_, List.getElem?_eq_getElem (by omega)⟩
                  have hyo := (hok _ (List.mem_of_getElem? hy)).1
                  have hyc := hc _ (List.mem_of_getElem? hy)
                  dsimp only at hyo hyc
                  obtain ⟨yA, yc, rfl, _⟩ := id hyo
                  have hcd : At h2 bL (oL + k * 2) [.bool yn, .slice yA yb.length yc] := At.elem Cel.len (hat.ext w2.ext nos) hy
                  have hlk := hfl k
                  have hl2 : (l ++ be (R.length : Int) 2 ++ (R.take k).flatMap encCel).length ≤ 2000000 := by simp only [List.length_append, be_len]; omega
                  cases yn))
  all_goals (first | (refine Br.keep ?_) | (refine WL.step (ok_idxAddrA Tryz.underlying29 (fun w => Tryz.sizeOf50 w) rfl rfl rfl (by omega) (by first | rfl | assumption)) rfl rfl rfl ?_))
  all_goals (first | (refine Br.keep ?_) | (refine WL.step (ok_loadN (fun w => Tryz.isAgg50 w) (fun w => Tryz.sizeOf50 w) rfl rfl (by exact hcd)) rfl rfl rfl ?_))
  all_goals (first
               | (refine Br.keep ?_)
               | (refine WL.stepR (okE_alloc (fun w => Tryz.zeroValue50 w)) rfl rfl rfl ?_
                  rintro _ h3 ⟨b5, rfl, hg5, hb5, hx3⟩))
  all_goals (first
               | (refine Br.keep ?_)
               | (refine WL.stepR0 (okE_storeW (fun w => Tryz.sizeOf50 w) rfl rfl rfl hb5 rfl (by simp [Value.oneCell'])) rfl rfl ?_
                  rintro _ h4 ⟨hb54, hx4⟩))
  all_goals (first
               | (refine Br.keep ?_)
               | (have hX4 : Ext No h2 h4 := hx3.trans' hx4 (fun q hq e => by omega)
                  have w4 := w2.stay hX4
                  have t4 := t2.trans (.stay hX4)
                  have hbl := lt_of_some w2.blk
                  have hne : b5 ≠ b := by omega))
  all_goals (refine Gn ?_)
  all_goals (first | (refine Br.keep ?_) | (refine WC.seq ?_))
  all_goals (first | (refine Br.keep ?_) | (refine WC.sr ?_))
  all_goals (refine Go ?_)
  all_goals (first | (refine Br.keep ?_) | (refine WL.step (ok_load (fun w => Tryz.isAgg4 w) rfl (by first | exact cell_blk hb54 rfl | assumption | exact cell_blk (by assumption) rfl)) rfl rfl rfl ?_))
  all_goals (refine Gn ?_)
  all_goals (first | (refine Br.keep ?_) | (refine WC.sub [(0, _), (5, _), (10, _), (11, _), (12, _), (17, _)] ⟨rfl, rfl, rfl, rfl, rfl, rfl, trivial⟩ ?_))
  all_goals (first | (refine Br.keep ?_) | (refine goC 3 4 ?_ ?_ <;> first | exact ⟨⟩ | refine Hb.mk fun hb => ?_ | skip))
  all_goals (first | (fail_if_success refine goB 3 ?_) | (
  refine goB 3 ?_
  all_goals (refine WC.sr ?_)
  all_goals (refine Go ?_)
  all_goals (refine WL.call (vs := [_, _, _]) rfl (fun a w => Tryz.call66 a w) rfl (num_w w4 4294967295 4 sz4 (rt4s (by omega)) (by omega)) rfl rfl rfl ?_
             rintro _ h5 ⟨v5, w5, t5⟩
             have tE := t4.trans t5
             have wE : Wr g h5 b v5 (l ++ be (R.length : Int) 2 ++ (R.take (k + 1)).flatMap encCel) := by rw [flat_snoc hy, show encCel ⟨true, .slice yA yb.length yc, yb⟩ = be 4294967295 4 from rfl, ← List.append_assoc]; exact w5)
  all_goals (refine Gn ?_)
  all_goals (refine WC.sub [(0, _), (10, _), (11, _), (12, _)] ⟨rfl, rfl, rfl, rfl, trivial⟩ ?_)
  all_goals (refine WC.exit ?_)
  all_goals (repeat' (with_reducible first | refine thenP_x ?_ | refine blockP_miss rfl ?_ | refine blockP_hit ?_ | refine blockP_n ?_ | refine thenP_n ?_))
  all_goals (refine Br.out (i := 1001) ?_)
  skip))
  all_goals (first | (fail_if_success refine goB 4 ?_) | (
  refine goB 4 ?_
  all_goals (refine WC.skip ?_)
  skip))
  all_goals (refine Gn ?_)
  all_goals (first | (refine Br.keep ?_) | (refine WC.sr ?_))
  all_goals (refine Go ?_)
  all_goals (first | (refine Br.keep ?_) | (refine WL.step (ok_load (fun w => Tryz.isAgg24 w) rfl (by first | exact cell_blk hb54 rfl | assumption | exact cell_blk (by assumption) rfl)) rfl rfl rfl ?_))
  all_goals (refine Go ?_)
  all_goals (first
               | (refine Br.keep ?_)
               | (refine WL.call (vs := [_, _, _]) rfl (fun a w => Tryz.call66 a w) rfl (num_w w4 yb.length 4 sz4 (rt4s (by omega)) (by omega)) rfl rfl rfl ?_
                  rintro _ h5 ⟨v5, w5, t5⟩
                  have hb55 := w4.obj t5.1 hb54 (by decide) hne
                  have n5 := w5.ne
                  have n55 : ¬ v5.ownBlock = some b5 := fun e => by obtain ⟨_, z⟩ := own_kind w5.own e; rw [hb55] at z; simp at z
                  have hl5 : (l ++ be (R.length : Int) 2 ++ (R.take k).flatMap encCel ++ be (yb.length : Int) 4).length ≤ 3000000 := by rw [List.length_append, be_len]; omega))
  all_goals (refine Gn ?_)
  all_goals (first | (refine Br.keep ?_) | (refine WC.sub [(0, _), (5, _), (10, _), (11, _), (12, _)] ⟨rfl, rfl, rfl, rfl, rfl, trivial⟩ ?_))
  all_goals (first | (refine Br.keep ?_) | (refine WC.drawH (fun h' => Ext (fun q => v5.ownBlock = some q) h5 h') 8 11 rfl fol ?_))
  all_goals (first | (refine Br.keep ?_) | (refine WH.tk 0 rfl (fun hq hC => ok_move rfl) rfl rfl rfl ?_))
  all_goals (first | (refine Br.keep ?_) | (refine WH.tk 1 rfl (fun hq hC => ok_move rfl) rfl rfl rfl ?_))
  all_goals (first | (refine Br.keep ?_) | (refine WH.tk 2 rfl (fun hq hC => ok_nilCheck rfl) rfl rfl rfl ?_))
  all_goals (first | (refine Br.keep ?_) | (refine WH.tk 3 rfl (fun hq hC => ok_fieldAddr rfl Tryz.underlying97 rfl (fun w => Tryz.sizeOf24 w)) rfl rfl rfl ?_))
  all_goals (first | (refine Br.keep ?_) | (refine WH.tk 4 rfl (fun hq hC => ok_load (fun w => Tryz.isAgg24 w) rfl (by first | exact hC.cell (by first | exact cell_blk w5.blk rfl | assumption | exact cell_blk (by assumption) rfl) (by first | exact n5 | exact n55))) rfl rfl rfl ?_))
  all_goals (first | (refine Br.keep ?_) | (refine WH.tk 5 rfl (fun hq hC => ok_fieldAddr rfl Tryz.underlying50 rfl (fun w => Tryz.sizeOf24 w)) rfl rfl rfl ?_))
  all_goals (first | (refine Br.keep ?_) | (refine WH.tk 6 rfl (fun hq hC => ok_load (fun w => Tryz.isAgg24 w) rfl (by first | exact hC.cell (by first | exact cell_blk hb55 rfl | assumption | exact cell_blk (by assumption) rfl) (by first | exact n5 | exact n55))) rfl rfl rfl ?_))
  all_goals (first | (refine Br.keep ?_) | (refine WH.one 7 (by kernel_rfl) ?_))
  all_goals (first
               | (refine Br.keep ?_)
               | (refine Comes1.run rfl (ok_append (sz := 1) (bytes := 1) rfl Tryz.underlying24 (show Tryz.prog.info? 5 = some Tryz.t5 by kernel_rfl) rfl rfl rfl rfl (by decide) rfl rfl w5.own (hyo.ext0 w5.ext) (by intro c hc; obtain ⟨b, _, rfl⟩ := List.mem_map.1 hc; rfl) (by simp only [maxLen]; omega) (by omega)) rfl rfl rfl ?_ (fun _ => by kernel_rfl)
                  rintro v8 h8 ⟨ho8, hx8, hl8⟩
                  obtain ⟨A8, c8, rfl, _⟩ := ho8.slice))
  all_goals (first | (refine Br.keep ?_) | (refine ⟨fun _ => hx8, ?_⟩))
  all_goals (first | (refine Br.keep ?_) | (refine WH.one 8 (by kernel_rfl) ?_))
  all_goals (first
               | (refine Br.keep ?_)
               | (refine Comes1.run rfl (OkP.r (ok_nilCheck rfl)) rfl rfl rfl ?_ (fun _ => by kernel_rfl)
                  rintro _ hz ⟨rfl, _⟩
                  subst hz))
  all_goals (first | (refine Br.keep ?_) | (refine ⟨fun e => (by cases e), ?_⟩))
  all_goals (first | (refine Br.keep ?_) | (refine WH.one 9 (by kernel_rfl) ?_))
  all_goals (first
               | (refine Br.keep ?_)
               | (refine Comes1.run rfl (OkP.r (ok_fieldAddr rfl Tryz.underlying97 rfl (fun w => Tryz.sizeOf24 w))) rfl rfl rfl ?_ (fun _ => by kernel_rfl)
                  rintro _ hz ⟨rfl, _⟩
                  subst hz))
  all_goals (first | (refine Br.keep ?_) | (refine ⟨fun e => (by cases e), ?_⟩))
  all_goals (first | (refine Br.keep ?_) | (refine WH.one 10 (by kernel_rfl) ?_))
  all_goals (first
               | (refine Br.keep ?_)
               | (refine Comes1.run0 rfl (okE_store (fun w => Tryz.sizeOf24 w) rfl rfl (hx8.obj w5.blk n5) (Nat.le_of_ble_eq_true rfl) rfl rfl) rfl rfl ?_ (fun _ => by kernel_rfl)
                  rintro _ h9 ⟨hb9, hx9⟩
                  have hb8 := hx8.obj w5.blk n5
                  have sg := w5.ext.size
                  have f8 : ∀ q, (Value.slice A8 ((l ++ be (R.length : Int) 2 ++ (R.take k).flatMap encCel ++ be (yb.length : Int) 4).length + yb.length) c8).ownBlock = some q → v5.ownBlock = some q ∨ h5.size ≤ q := fun q hq => hl8.elim (fun e => .inl (e ▸ hq)) (fun e => .inr (by rw [e] at hq; cases hq; exact Nat.le_refl _))
                  have tE := (t4.trans t5).trans ⟨(hx8.mono fun q _ e => .inr e).trans (hx9.mono fun q _ e => .inl e), f8⟩
                  have wE : Wr g h9 b _ (l ++ be (R.length : Int) 2 ++ (R.take (k + 1)).flatMap encCel) := ⟨hb9, by rw [flat_snoc hy, show encCel ⟨false, .slice yA yb.length yc, yb⟩ = be yb.length 4 ++ yb from rfl, ← List.append_assoc, ← List.append_assoc, List.length_append (bs := yb), show ∀ m : List UInt8, bys (m ++ yb) = bys m ++ bys yb from fun m => List.map_append ..]; exact ho8.ext hx9 (fun q hq e => by obtain ⟨_, z⟩ := own_kind ho8 hq; rw [e, hb8] at z; simp at z), ⟨w5.lo.1, fun q hq => (f8 q hq).elim (fun e => w5.lo.2 q e) (fun e => by omega)⟩, (w5.ext.trans' hx8 (fun q hq e => by have := w5.lo.2 q e; omega)).trans' hx9 (fun q hq e => by have := w5.lo.1; omega)⟩))
  all_goals (first | (refine Br.keep ?_) | (refine ⟨fun e => (by cases e), ?_⟩))
  all_goals (first | (refine Br.keep ?_) | (refine WH.done (by kernel_rfl) ?_))
  all_goals (refine Gn ?_)
  all_goals (try (refine Br.mk (i := 1001) ?_))
  all_goals (refine Gn ?_)
  all_goals (first | (refine Br.keep ?_) | (refine WC.region ?_))
  all_goals (refine Go ?_)
  all_goals (first | (refine Br.keep ?_) | (exact ⟨(k + 1, _), ⟨rfl, rfl, rfl, rfl, trivial⟩, (by exact ⟨by omega, wE, tE⟩), (by simp; omega)⟩))
  all_goals (try (refine Br.mk (i := 1000) ?_))
  all_goals (refine Gn ?_)
  all_goals (refine retP_n [] trivial ?_)
  all_goals (exact ⟨u, by rw [List.take_of_length_le (by omega)] at w2; exact w2, t2⟩)
end
end Go.Proofs.YtbahigffjclpdaaGreatDoor


