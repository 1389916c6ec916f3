/-
  SEVERAL TEXTS IN ONE: BkR, BkC, BkC2, K25, Flt, K18, Srl, SrlX, Str, Dig, Tell, K13, Ren.
-/
import Derived.Test.YtbahigffjclpdaaGreatDoorPFixTells2
import Derived.Maps.RangeRun
import Derived.Below
import Derived.HandedShaped
import Derived.Handed
import Derived.Scope
/-
  REPLIES (layer 7): the document's compare and check, of any reply that is short.
-/
namespace Go.Proofs.YtbahigffjclpdaaGreatDoor
open Go Go.RK

/-- A server's kinds. -/
def KnownK (k : Int) : Prop := k = 82 ∨ k = 83 ∨ k = 75 ∨ k = 90 ∨ k = 49 ∨ k = 50 ∨ k = 51 ∨ k = 110 ∨ k = 115 ∨ k = 73 ∨ k = 67 ∨ k = 68 ∨ k = 84 ∨ k = 116 ∨ k = 69 ∨ k = 78
set_option maxHeartbeats 2000000 in
set_option maxRecDepth 100000 in
theorem kind07 {h : Heap} (k : Int) : CallsH Tryz.prog 98 ⟨[.int .u8 k]⟩ h fun u h' => (∃ x, u = .bool x ∧ (x = true ↔ KnownK k)) ∧ h' = h := by
  refine calls [(0, _)] Tryz.func98 rfl Tryz.ntmps98 rfl ⟨rfl, trivial⟩ ?_
  all_goals (refine WC.sr ?_)
  all_goals (refine Go ?_)
  all_goals (refine WC.seq ?_)
  all_goals (refine WC.sr ?_)
  all_goals (refine Go ?_)
  all_goals (refine WC.block ?_)
  all_goals (refine WC.seq ?_)
  all_goals (refine WC.sr ?_)
  all_goals (refine Go ?_)
  all_goals (refine goC 1 2 ?_ ?_ <;> first | exact ⟨⟩ | refine Hb.mk fun hb => ?_ | skip)
  all_goals (first | (fail_if_success refine goB 1 ?_) | (
  refine goB 1 ?_
  all_goals (refine WC.skip ?_)
  skip))
  all_goals (first | (fail_if_success refine goB 2 ?_) | (
  refine goB 2 ?_
  all_goals (refine WC.sr ?_)
  all_goals (refine Go ?_)
  all_goals (refine WC.sub [(3, _), (4, _)] ⟨rfl, rfl, trivial⟩ ?_)
  all_goals (refine goC 3 4 ?_ ?_ <;> first | exact ⟨⟩ | refine Hb.mk fun hb => ?_ | skip)
  all_goals (first | (fail_if_success refine goB 3 ?_) | (
  refine goB 3 ?_
  all_goals (refine WC.skip ?_)
  skip))
  all_goals (first | (fail_if_success refine goB 4 ?_) | (
  refine goB 4 ?_
  all_goals (refine WC.sr ?_)
  all_goals (refine Go ?_)
  all_goals (refine goC 5 6 ?_ ?_ <;> first | exact ⟨⟩ | refine Hb.mk fun hb => ?_ | skip)
  all_goals (first | (fail_if_success refine goB 5 ?_) | (
  refine goB 5 ?_
  all_goals (refine WC.skip ?_)
  skip))
  all_goals (first | (fail_if_success refine goB 6 ?_) | (
  refine goB 6 ?_
  all_goals (refine WC.sr ?_)
  all_goals (refine Go ?_)
  all_goals (refine goC 7 8 ?_ ?_ <;> first | exact ⟨⟩ | refine Hb.mk fun hb => ?_ | skip)
  all_goals (first | (fail_if_success refine goB 7 ?_) | (
  refine goB 7 ?_
  all_goals (refine WC.skip ?_)
  skip))
  all_goals (first | (fail_if_success refine goB 8 ?_) | (
  refine goB 8 ?_
  all_goals (refine WC.sr ?_)
  all_goals (refine Go ?_)
  all_goals (refine goC 9 10 ?_ ?_ <;> first | exact ⟨⟩ | refine Hb.mk fun hb => ?_ | skip)
  all_goals (first | (fail_if_success refine goB 9 ?_) | (
  refine goB 9 ?_
  all_goals (refine WC.skip ?_)
  skip))
  all_goals (first | (fail_if_success refine goB 10 ?_) | (
  refine goB 10 ?_
  all_goals (refine WC.sr ?_)
  all_goals (refine Go ?_)
  all_goals (refine WC.sub [(3, _), (4, _)] ⟨rfl, rfl, trivial⟩ ?_)
  all_goals (refine goC 11 12 ?_ ?_ <;> first | exact ⟨⟩ | refine Hb.mk fun hb => ?_ | skip)
  all_goals (first | (fail_if_success refine goB 11 ?_) | (
  refine goB 11 ?_
  all_goals (refine WC.skip ?_)
  skip))
  all_goals (first | (fail_if_success refine goB 12 ?_) | (
  refine goB 12 ?_
  all_goals (refine WC.sr ?_)
  all_goals (refine Go ?_)
  all_goals (refine goC 13 14 ?_ ?_ <;> first | exact ⟨⟩ | refine Hb.mk fun hb => ?_ | skip)
  all_goals (first | (fail_if_success refine goB 13 ?_) | (
  refine goB 13 ?_
  all_goals (refine WC.skip ?_)
  skip))
  all_goals (first | (fail_if_success refine goB 14 ?_) | (
  refine goB 14 ?_
  all_goals (refine WC.sr ?_)
  all_goals (refine Go ?_)
  all_goals (refine goC 15 16 ?_ ?_ <;> first | exact ⟨⟩ | refine Hb.mk fun hb => ?_ | skip)
  all_goals (first | (fail_if_success refine goB 15 ?_) | (
  refine goB 15 ?_
  all_goals (refine WC.skip ?_)
  skip))
  all_goals (first | (fail_if_success refine goB 16 ?_) | (
  refine goB 16 ?_
  all_goals (refine WC.sr ?_)
  all_goals (refine Go ?_)
  all_goals (refine goC 17 18 ?_ ?_ <;> first | exact ⟨⟩ | refine Hb.mk fun hb => ?_ | skip)
  all_goals (first | (fail_if_success refine goB 17 ?_) | (
  refine goB 17 ?_
  all_goals (refine WC.skip ?_)
  skip))
  all_goals (first | (fail_if_success refine goB 18 ?_) | (
  refine goB 18 ?_
  all_goals (refine WC.sr ?_)
  all_goals (refine Go ?_)
  all_goals (refine WC.sub [(3, _), (4, _)] ⟨rfl, rfl, trivial⟩ ?_)
  all_goals (refine goC 19 20 ?_ ?_ <;> first | exact ⟨⟩ | refine Hb.mk fun hb => ?_ | skip)
  all_goals (first | (fail_if_success refine goB 19 ?_) | (
  refine goB 19 ?_
  all_goals (refine WC.skip ?_)
  skip))
  all_goals (first | (fail_if_success refine goB 20 ?_) | (
  refine goB 20 ?_
  all_goals (refine WC.sr ?_)
  all_goals (refine Go ?_)
  all_goals (refine goC 21 22 ?_ ?_ <;> first | exact ⟨⟩ | refine Hb.mk fun hb => ?_ | skip)
  all_goals (first | (fail_if_success refine goB 21 ?_) | (
  refine goB 21 ?_
  all_goals (refine WC.skip ?_)
  skip))
  all_goals (first | (fail_if_success refine goB 22 ?_) | (
  refine goB 22 ?_
  all_goals (refine WC.sr ?_)
  all_goals (refine Go ?_)
  all_goals (refine goC 23 24 ?_ ?_ <;> first | exact ⟨⟩ | refine Hb.mk fun hb => ?_ | skip)
  all_goals (first | (fail_if_success refine goB 23 ?_) | (
  refine goB 23 ?_
  all_goals (refine WC.skip ?_)
  skip))
  all_goals (first | (fail_if_success refine goB 24 ?_) | (
  refine goB 24 ?_
  all_goals (refine WC.sr ?_)
  all_goals (refine Go ?_)
  all_goals (refine goC 25 26 ?_ ?_ <;> first | exact ⟨⟩ | refine Hb.mk fun hb => ?_ | skip)
  all_goals (first | (fail_if_success refine goB 25 ?_) | (
  refine goB 25 ?_
  all_goals (refine WC.skip ?_)
  skip))
  all_goals (first | (fail_if_success refine goB 26 ?_) | (
  refine goB 26 ?_
  all_goals (refine WC.sr ?_)
  all_goals (refine Go ?_)
  all_goals (refine WC.sub [(3, _), (4, _)] ⟨rfl, rfl, trivial⟩ ?_)
  all_goals (refine goC 27 28 ?_ ?_ <;> first | exact ⟨⟩ | refine Hb.mk fun hb => ?_ | skip)
  all_goals (first | (fail_if_success refine goB 27 ?_) | (
  refine goB 27 ?_
  all_goals (refine WC.skip ?_)
  skip))
  all_goals (first | (fail_if_success refine goB 28 ?_) | (
  refine goB 28 ?_
  all_goals (refine WC.sr ?_)
  all_goals (refine Go ?_)
  all_goals (refine goC 29 30 ?_ ?_ <;> first | exact ⟨⟩ | refine Hb.mk fun hb => ?_ | skip)
  all_goals (first | (fail_if_success refine goB 29 ?_) | (
  refine goB 29 ?_
  all_goals (refine WC.skip ?_)
  skip))
  all_goals (first | (fail_if_success refine goB 30 ?_) | (
  refine goB 30 ?_
  all_goals (refine WC.region ?_)
  all_goals (refine Go ?_)
  skip))
  skip))
  skip))
  skip))
  skip))
  skip))
  skip))
  skip))
  skip))
  skip))
  skip))
  skip))
  skip))
  skip))
  skip))
  all_goals (refine Gn ?_)
  all_goals (refine goC 31 32 ?_ ?_ <;> first | exact ⟨⟩ | refine Hb.mk fun hb => ?_ | skip)
  all_goals (first | (fail_if_success refine goB 31 ?_) | (
  refine goB 31 ?_
  all_goals (refine WC.sr ?_)
  all_goals (refine Go ?_)
  all_goals (refine WC.ret ?_)
  all_goals (repeat' (with_reducible first | refine thenP_r ?_ | refine blockP_r ?_))
  all_goals (refine retP_1 _ ⟨rfl, trivial⟩ ?_)
  all_goals (first
              | exact ⟨⟨true, rfl, ⟨fun _ => by unfold KnownK; omega, fun _ => rfl⟩⟩, rfl⟩
              | exact ⟨⟨false, rfl, ⟨fun z => (by cases z), fun z => by unfold KnownK at z; exfalso; omega⟩⟩, rfl⟩)
  skip))
  all_goals (first | (fail_if_success refine goB 32 ?_) | (
  refine goB 32 ?_
  all_goals (refine WC.skip ?_)
  skip))
  all_goals (refine Gn ?_)
  all_goals (refine WC.sr ?_)
  all_goals (refine Go ?_)
  all_goals (refine WC.ret ?_)
  all_goals (repeat' (with_reducible first | refine thenP_r ?_ | refine blockP_r ?_))
  all_goals (refine retP_1 _ ⟨rfl, trivial⟩ ?_)
  all_goals (first
              | exact ⟨⟨true, rfl, ⟨fun _ => by unfold KnownK; omega, fun _ => rfl⟩⟩, rfl⟩
              | exact ⟨⟨false, rfl, ⟨fun z => (by cases z), fun z => by unfold KnownK at z; exfalso; omega⟩⟩, rfl⟩)
theorem known_iff (k : UInt8) : kindsB.contains k = true ↔ KnownK (k.toNat : Int) := by
  simp only [kindsB, List.contains_cons, List.contains_nil, Bool.or_eq_true, beq_iff_eq, ← UInt8.toNat_inj, KnownK, Bool.or_false]
  simp
  omega
set_option maxHeartbeats 2000000 in
set_option maxRecDepth 100000 in
theorem known_any {h : Heap} (k : Int) (h0 : 0 ≤ k ∧ k ≤ 255) : CallsH Tryz.prog 85 ⟨[.int .u8 k]⟩ h fun u h' => (∃ x, u = .bool x ∧ (x = true ↔ KnownK k)) ∧ Ext No h h' := by
  obtain ⟨c, rfl⟩ : ∃ c : UInt8, k = (c.toNat : Int) := ⟨UInt8.ofNat k.toNat, by rw [UInt8.toNat_ofNat']; omega⟩
  have e1 := Lib.contains_iff_indexByte [82, 83, 75, 90, 49, 50, 51, 110, 115, 73, 67, 68, 84, 116, 69, 78] c
  refine calls [(0, _)] Tryz.func85 rfl Tryz.ntmps85 rfl ⟨rfl, trivial⟩ ?_
  all_goals (refine WC.sr ?_)
  all_goals (refine Go ?_)
  all_goals (refine WC.sr ?_)
  all_goals (refine WL.stepR (okE_buildSlice (vs := [_, _, _, _, _, _, _, _, _, _, _, _, _, _, _, _]) (cs := [_, _, _, _, _, _, _, _, _, _, _, _, _, _, _, _]) (fun | [a0, a1, a2, a3, a4, a5, a6, a7, a8, a9, a10, a11, a12, a13, a14, a15] => [a0, a1, a2, a3, a4, a5, a6, a7, a8, a9, a10, a11, a12, a13, a14, a15] | _ => []) Tryz.underlying24 rfl rfl (by kernel_rfl)) rfl rfl rfl ?_
             rintro _ h1 ⟨b1, rfl, hg1, hb1, hx1⟩)
  all_goals (refine WL.stepR (okE_convSS Tryz.underlying24 Tryz.underlying5 rfl (by assumption)) rfl rfl rfl ?_
             rintro _ h2 ⟨rfl, ⟨z2, hb2⟩, hx2⟩)
  all_goals (refine Go ?_)
  all_goals (refine WL.call (vs := [_, _]) rfl (fun a w => Tryz.call115 a w) rfl (indexByte_bys [82, 83, 75, 90, 49, 50, 51, 110, 115, 73, 67, 68, 84, 116, 69, 78] c (rd_blk hb2 rfl) (by simp)) rfl rfl rfl ?_
             rintro _ hz ⟨rfl, _⟩
             subst hz)
  all_goals (refine WL.step (ok_geq rfl rfl) rfl rfl rfl ?_)
  all_goals (refine Go ?_)
  all_goals (refine WC.sub [(2, _)] ⟨rfl, trivial⟩ ?_)
  all_goals (refine WC.ret ?_)
  all_goals (repeat' (with_reducible first | refine thenP_r ?_ | refine blockP_r ?_))
  all_goals (refine retP_1 _ ⟨rfl, trivial⟩ ?_)
  all_goals (exact ⟨⟨_, rfl, by rw [← e1]; exact known_iff c⟩, hx1.trans' hx2 (fun q hq e => by omega)⟩)
set_option maxHeartbeats 2000000 in
set_option maxRecDepth 100000 in
theorem in07 {h : Heap} (n lo hi : Int) : CallsH Tryz.prog 100 ⟨[In n, In lo, In hi]⟩ h fun u h' => u = .bool (decide (lo ≤ n ∧ n ≤ hi)) ∧ h' = h := by
  refine calls [(0, _), (1, _), (2, _)] Tryz.func100 rfl Tryz.ntmps100 rfl ⟨rfl, rfl, rfl, trivial⟩ ?_
  all_goals (refine WC.sr ?_)
  all_goals (refine Go ?_)
  all_goals (refine WC.sr ?_)
  all_goals (refine Go ?_)
  all_goals (refine goP 10 ?_ ?_ <;> first | exact ⟨⟩ | refine Hb.mk fun hb => ?_ | skip)
  all_goals (refine Gg ?_)
  all_goals (refine Go ?_)
  all_goals (refine WC.sub [(6, _)] ⟨rfl, trivial⟩ ?_)
  all_goals (refine WC.ret ?_)
  all_goals (repeat' (with_reducible first | refine thenP_r ?_ | refine blockP_r ?_))
  all_goals (refine retP_1 _ ⟨rfl, trivial⟩ ?_)
  all_goals (refine ⟨congrArg Value.bool ?_, rfl⟩
             by_cases q1 : lo ≤ n
             all_goals by_cases q2 : n ≤ hi
             all_goals first | (simp [q1, q2]; done) | (simp [q1, q2]; omega) | (exfalso; omega))
set_option maxHeartbeats 2000000 in
set_option maxRecDepth 100000 in
theorem clean07 {h : Heap} (s : List UInt8) (hm : s.length ≤ 1000000) : CallsH Tryz.prog 99 ⟨[St s]⟩ h fun u h' => u = .bool (cleanB s) ∧ h' = h := by
  have hci : cleanB s = true ↔ ∀ c ∈ s, c ≠ 0 := by
    unfold cleanB
    rw [Bool.not_eq_true', ← Bool.not_eq_true, List.contains_iff_mem]
    exact ⟨fun z c hc e => z (e ▸ hc), fun z hc => z 0 hc rfl⟩
  refine calls [(0, _)] Tryz.func99 rfl Tryz.ntmps99 rfl ⟨rfl, trivial⟩ ?_
  all_goals (refine WC.sr ?_)
  all_goals (refine Go ?_)
  all_goals (refine WC.seq ?_)
  all_goals (refine WC.sr ?_)
  all_goals (refine Go ?_)
  all_goals (refine WC.block ?_)
  -- loop 0: slots that turn [3], that stay [0]
  all_goals (refine WC.loopG (X := Nat) (fun x => ([(3, In (x : Int))] : Fr)) [(0, _)] (fun k h' => h = h' ∧ k ≤ s.length ∧ ∀ c ∈ s.take k, c ≠ 0) (fun k => s.length - k) (0) ⟨rfl, rfl, trivial⟩ (by exact ⟨rfl, Nat.zero_le _, fun c hc => by cases hc⟩) ?_)
  all_goals (rintro k h2 ⟨e, hk, hn⟩
             subst e)
  all_goals (refine WC.sub [(3, _), (0, _)] ⟨rfl, rfl, trivial⟩ ?_)
  all_goals (refine WC.seq ?_)
  all_goals (refine WC.sr ?_)
  all_goals (refine Go ?_)
  all_goals (refine goC 1 2 ?_ ?_ <;> first | exact ⟨⟩ | refine Hb.mk fun hb => ?_ | skip)
  all_goals (first | (fail_if_success refine goB 1 ?_) | (
  refine goB 1 ?_
  all_goals (refine WC.skip ?_)
  skip))
  all_goals (first | (fail_if_success refine goB 2 ?_) | (
  refine goB 2 ?_
  all_goals (refine WC.exit ?_)
  all_goals (repeat' (with_reducible first | refine thenP_x ?_ | refine blockP_miss rfl ?_ | refine blockP_hit ?_ | refine blockP_n ?_ | refine thenP_n ?_))
  all_goals (refine Br.out (i := 1000) ?_)
  skip))
  all_goals (refine Gn ?_)
  all_goals (first | (refine Br.keep ?_) | (refine WC.sub [(0, _), (3, _)] ⟨rfl, rfl, trivial⟩ ?_))
  all_goals (first | (refine Br.keep ?_) | (refine WC.seq ?_))
  all_goals (first | (refine Br.keep ?_) | (refine WC.block ?_))
  all_goals (first | (refine Br.keep ?_) | (refine WC.seq ?_))
  all_goals (first | (refine Br.keep ?_) | (obtain ⟨y, hy⟩ : ∃ y, s[k]? = some y := ⟨_, List.getElem?_eq_getElem (by omega)⟩))
  all_goals (first | (refine Br.keep ?_) | (refine WC.region ?_))
  all_goals (refine Go ?_)
  all_goals (first | (refine Br.keep ?_) | (refine WL.step (ok_idxS Tryz.underlying9 rfl rfl (by omega) (by assumption)) rfl rfl rfl ?_))
  all_goals (refine Go ?_)
  all_goals (first | (refine Br.keep ?_) | (refine goC 3 4 ?_ ?_ <;> first | exact ⟨⟩ | refine Hb.mk fun hb => ?_ | skip))
  all_goals (first | (fail_if_success refine goB 3 ?_) | (
  refine goB 3 ?_
  all_goals (refine WC.sr ?_)
  all_goals (refine Go ?_)
  all_goals (refine WC.sub [(2, _)] ⟨rfl, trivial⟩ ?_)
  all_goals (refine WC.ret ?_)
  all_goals (repeat' (with_reducible first | refine thenP_r ?_ | refine blockP_r ?_))
  all_goals (refine retP_1 _ ⟨rfl, trivial⟩ ?_)
  all_goals (first
              | (refine ⟨congrArg Value.bool ?_, rfl⟩; symm; rw [hci]; rw [List.take_of_length_le (by omega)] at hn; exact hn)
              | (refine ⟨congrArg Value.bool ?_, rfl⟩; cases hq : cleanB s; rfl; exact absurd (UInt8.toNat_inj.1 (by simpa using hb)) (hci.1 hq _ (List.mem_of_getElem? hy))))
  skip))
  all_goals (first | (fail_if_success refine goB 4 ?_) | (
  refine goB 4 ?_
  all_goals (refine WC.skip ?_)
  skip))
  all_goals (refine Gn ?_)
  all_goals (first | (refine Br.keep ?_) | (refine WC.sub [(0, _), (3, _)] ⟨rfl, rfl, trivial⟩ ?_))
  all_goals (first | (refine Br.keep ?_) | (refine WC.region ?_))
  all_goals (refine Go ?_)
  all_goals (first | (refine Br.keep ?_) | (exact ⟨k + 1, ⟨rfl, rfl, trivial⟩, (by exact ⟨rfl, by omega, fun c hc => by rw [List.take_add_one, hy] at hc; simp only [Option.toList_some, List.mem_append, List.mem_singleton] at hc; rcases hc with hc | rfl; exact hn c hc; exact (fun e => by subst e; simp at *)⟩), (by omega)⟩))
  all_goals (try (refine Br.mk (i := 1000) ?_))
  all_goals (refine Gn ?_)
  all_goals (refine WC.sub [] trivial ?_)
  all_goals (refine WC.sr ?_)
  all_goals (refine Go ?_)
  all_goals (refine WC.ret ?_)
  all_goals (repeat' (with_reducible first | refine thenP_r ?_ | refine blockP_r ?_))
  all_goals (refine retP_1 _ ⟨rfl, trivial⟩ ?_)
  all_goals (first
              | (refine ⟨congrArg Value.bool ?_, rfl⟩; symm; rw [hci]; rw [List.take_of_length_le (by omega)] at hn; exact hn)
              | (refine ⟨congrArg Value.bool ?_, rfl⟩; cases hq : cleanB s; rfl; exact absurd (UInt8.toNat_inj.1 (by simpa using hb)) (hci.1 hq _ (List.mem_of_getElem? hy))))
theorem col_cases (c : ColD) : (cleanB c.nm = true ∧ (0 ≤ c.t ∧ c.t ≤ 4294967295) ∧ (0 ≤ c.a ∧ c.a ≤ 65535) ∧ (0 ≤ c.o ∧ c.o ≤ 4294967295) ∧ (-32768 ≤ c.s ∧ c.s ≤ 32767) ∧ (-2147483648 ≤ c.m ∧ c.m ≤ 2147483647) ∧ (0 ≤ c.f ∧ c.f ≤ 65535)) ∨ (cleanB c.nm = false) ∨ (cleanB c.nm = true ∧ ¬(0 ≤ c.t ∧ c.t ≤ 4294967295)) ∨ (cleanB c.nm = true ∧ (0 ≤ c.t ∧ c.t ≤ 4294967295) ∧ ¬(0 ≤ c.a ∧ c.a ≤ 65535)) ∨ (cleanB c.nm = true ∧ (0 ≤ c.t ∧ c.t ≤ 4294967295) ∧ (0 ≤ c.a ∧ c.a ≤ 65535) ∧ ¬(0 ≤ c.o ∧ c.o ≤ 4294967295)) ∨ (cleanB c.nm = true ∧ (0 ≤ c.t ∧ c.t ≤ 4294967295) ∧ (0 ≤ c.a ∧ c.a ≤ 65535) ∧ (0 ≤ c.o ∧ c.o ≤ 4294967295) ∧ ¬(-32768 ≤ c.s ∧ c.s ≤ 32767)) ∨ (cleanB c.nm = true ∧ (0 ≤ c.t ∧ c.t ≤ 4294967295) ∧ (0 ≤ c.a ∧ c.a ≤ 65535) ∧ (0 ≤ c.o ∧ c.o ≤ 4294967295) ∧ (-32768 ≤ c.s ∧ c.s ≤ 32767) ∧ ¬(-2147483648 ≤ c.m ∧ c.m ≤ 2147483647)) ∨ (cleanB c.nm = true ∧ (0 ≤ c.t ∧ c.t ≤ 4294967295) ∧ (0 ≤ c.a ∧ c.a ≤ 65535) ∧ (0 ≤ c.o ∧ c.o ≤ 4294967295) ∧ (-32768 ≤ c.s ∧ c.s ≤ 32767) ∧ (-2147483648 ≤ c.m ∧ c.m ≤ 2147483647) ∧ ¬(0 ≤ c.f ∧ c.f ≤ 65535)) := by
  cases c1 : cleanB c.nm
  · exact .inr (.inl rfl)
  · by_cases c2 : (0 ≤ c.t ∧ c.t ≤ 4294967295)
    · by_cases c3 : (0 ≤ c.a ∧ c.a ≤ 65535)
      · by_cases c4 : (0 ≤ c.o ∧ c.o ≤ 4294967295)
        · by_cases c5 : (-32768 ≤ c.s ∧ c.s ≤ 32767)
          · by_cases c6 : (-2147483648 ≤ c.m ∧ c.m ≤ 2147483647)
            · by_cases c7 : (0 ≤ c.f ∧ c.f ≤ 65535)
              · exact .inl ⟨rfl, c2, c3, c4, c5, c6, c7⟩
              · exact .inr (.inr (.inr (.inr (.inr (.inr (.inr (⟨rfl, c2, c3, c4, c5, c6, c7⟩)))))))
            · exact .inr (.inr (.inr (.inr (.inr (.inr (.inl ⟨rfl, c2, c3, c4, c5, c6⟩))))))
          · exact .inr (.inr (.inr (.inr (.inr (.inl ⟨rfl, c2, c3, c4, c5⟩)))))
        · exact .inr (.inr (.inr (.inr (.inl ⟨rfl, c2, c3, c4⟩))))
      · exact .inr (.inr (.inr (.inl ⟨rfl, c2, c3⟩)))
    · exact .inr (.inr (.inl ⟨rfl, c2⟩))
theorem fld_cases (c : FieldD) : (c.k ≠ 0 ∧ cleanB c.t = true) ∨ c.k = 0 ∨ (c.k ≠ 0 ∧ cleanB c.t = false) := by
  by_cases h1 : c.k = 0
  · exact .inr (.inl h1)
  · cases h2 : cleanB c.t
    · exact .inr (.inr ⟨h1, rfl⟩)
    · exact .inl ⟨h1, rfl⟩
theorem all_take {α : Type} {p : α → Prop} {l : List α} {k : Nat} {y : α} (hy : l[k]? = some y) (hn : ∀ c ∈ l.take k, p c) (hp : p y) : ∀ c ∈ l.take (k + 1), p c := fun c hc => by
  rw [List.take_add_one, hy] at hc
  simp only [Option.toList_some, List.mem_append, List.mem_singleton] at hc
  rcases hc with hc | rfl
  · exact hn c hc
  · exact hp
set_option maxHeartbeats 2000000 in
set_option maxRecDepth 100000 in
theorem cols07 {h : Heap} {v : Value} (l : List ColD) (hr : Rd h v 7 l.length (l.flatMap ColD.cells)) (hm : l.length ≤ 65535) (ht : ∀ c ∈ l, c.nm.length ≤ 1000000) :
    CallsH Tryz.prog 102 ⟨[v]⟩ h fun u h' => u = .bool (decide (∀ c ∈ l, c.okB)) ∧ Ext No h h' := by
  obtain ⟨A, c, rfl, _⟩ := id hr
  refine calls [(0, _)] Tryz.func102 rfl Tryz.ntmps102 rfl ⟨rfl, trivial⟩ ?_
  all_goals (refine WC.sr ?_)
  all_goals (refine Go ?_)
  all_goals (refine WC.seq ?_)
  all_goals (refine WC.sr ?_)
  all_goals (refine Go ?_)
  all_goals (refine goC 1 2 ?_ ?_ <;> first | exact ⟨⟩ | refine Hb.mk fun hb => ?_ | skip)
  all_goals (first | (fail_if_success refine goB 1 ?_) | (
  refine goB 1 ?_
  all_goals (refine WC.sr ?_)
  all_goals (refine Go ?_)
  all_goals (refine WC.sub [(2, _)] ⟨rfl, trivial⟩ ?_)
  all_goals (refine WC.ret ?_)
  all_goals (repeat' (with_reducible first | refine thenP_r ?_ | refine blockP_r ?_))
  all_goals (refine retP_1 _ ⟨rfl, trivial⟩ ?_)
  all_goals (first
              | exact ⟨congrArg Value.bool (decide_eq_true (by rw [List.take_of_length_le (by omega)] at hn; exact hn)).symm, hx1⟩
              | (refine ⟨congrArg Value.bool (decide_eq_false (fun z => ?_)).symm, hx1.trans hX3⟩
                 obtain ⟨d1, d2, d3, d4, d5, d6, d7⟩ := z _ (List.mem_of_getElem? hy)
                 first | exact c7 d7 | exact c6 d6 | exact c5 d5 | exact c4 d4 | exact c3 d3 | exact c2 d2 | (rw [c1] at d1; cases d1)))
  skip))
  all_goals (first | (fail_if_success refine goB 2 ?_) | (
  refine goB 2 ?_
  all_goals (refine WC.skip ?_)
  skip))
  all_goals (refine Gn ?_)
  all_goals (refine WC.sub [(0, _)] ⟨rfl, trivial⟩ ?_)
  all_goals (refine WC.seq ?_)
  all_goals (refine WC.sr ?_)
  all_goals (refine Go ?_)
  all_goals (refine WC.block ?_)
  -- loop 0: slots that turn [3], that stay [0]
  all_goals (refine WC.loopG (X := Nat) (fun x => ([(3, In (x : Int))] : Fr)) [(0, _)] (fun k h' => Ext No h h' ∧ k ≤ l.length ∧ ∀ c ∈ l.take k, c.okB) (fun k => l.length - k) (0) ⟨rfl, rfl, trivial⟩ (by exact ⟨.refl _ _, Nat.zero_le _, by simp⟩) ?_)
  all_goals (rintro k h1 ⟨hx1, hk, hn⟩)
  all_goals (refine WC.sub [(3, _), (0, _)] ⟨rfl, rfl, trivial⟩ ?_)
  all_goals (refine WC.seq ?_)
  all_goals (refine WC.sr ?_)
  all_goals (refine Go ?_)
  all_goals (refine goC 3 4 ?_ ?_ <;> first | exact ⟨⟩ | refine Hb.mk fun hb => ?_ | skip)
  all_goals (first | (fail_if_success refine goB 3 ?_) | (
  refine goB 3 ?_
  all_goals (refine WC.skip ?_)
  skip))
  all_goals (first | (fail_if_success refine goB 4 ?_) | (
  refine goB 4 ?_
  all_goals (refine WC.exit ?_)
  all_goals (repeat' (with_reducible first | refine thenP_x ?_ | refine blockP_miss rfl ?_ | refine blockP_hit ?_ | refine blockP_n ?_ | refine thenP_n ?_))
  all_goals (refine Br.out (i := 1000) ?_)
  skip))
  all_goals (refine Gn ?_)
  all_goals (first | (refine Br.keep ?_) | (refine WC.sub [(0, _), (3, _)] ⟨rfl, rfl, trivial⟩ ?_))
  all_goals (first | (refine Br.keep ?_) | (refine WC.seq ?_))
  all_goals (first | (refine Br.keep ?_) | (refine WC.block ?_))
  all_goals (first | (refine Br.keep ?_) | (refine WC.sr ?_))
  all_goals (first
               | (refine Br.keep ?_)
               | (obtain ⟨bL, oL, hA, hbL, hat⟩ := Rd.at_ (hr.ext0 hx1) (by omega)
                  obtain ⟨y, hy⟩ : ∃ y, l[k]? = some y := ⟨_, List.getElem?_eq_getElem (by omega)⟩
                  have hyl := ht y (List.mem_of_getElem? hy)
                  have at1 : At h1 bL (oL + k * 7) y.cells := At.elem ColD.len hat hy
                  have hcc := col_cases y
                  obtain ⟨ynm, yt, ya, yo, ys, ym, yf⟩ := y
                  dsimp only [ColD.cells] at at1 hyl hcc))
  all_goals (first | (refine Br.keep ?_) | (refine WL.step (ok_move rfl) rfl rfl rfl ?_))
  all_goals (refine Go ?_)
  all_goals (first | (refine Br.keep ?_) | (refine WL.step (ok_idxAddrA Tryz.underlying28 (fun w => Tryz.sizeOf46 w) rfl rfl rfl (by omega) (by first | rfl | assumption)) rfl rfl rfl ?_))
  all_goals (first | (refine Br.keep ?_) | (refine WL.step (ok_loadN (fun w => Tryz.isAgg46 w) (fun w => Tryz.sizeOf46 w) rfl rfl (by exact at1)) rfl rfl rfl ?_))
  all_goals (first
               | (refine Br.keep ?_)
               | (refine WL.stepR (okE_alloc (fun w => Tryz.zeroValue46 w)) rfl rfl rfl ?_
                  rintro _ h2 ⟨b2, rfl, hg2, hb2, hx2⟩))
  all_goals (first
               | (refine Br.keep ?_)
               | (refine WL.stepR0 (okE_storeW (fun w => Tryz.sizeOf46 w) rfl rfl rfl hb2 rfl (by simp [Value.oneCell'])) rfl rfl ?_
                  rintro _ h3 ⟨hb3, hx3⟩))
  all_goals (first
               | (refine Br.keep ?_)
               | (have hX3 : Ext No h1 h3 := hx2.trans' hx3 (fun q hq e => by omega)
                  rcases hcc with ⟨c1, c2, c3, c4, c5, c6, c7⟩ | c1 | ⟨c1, c2⟩ | ⟨c1, c2, c3⟩ | ⟨c1, c2, c3, c4⟩ | ⟨c1, c2, c3, c4, c5⟩ | ⟨c1, c2, c3, c4, c5, c6⟩ | ⟨c1, c2, c3, c4, c5, c6, c7⟩))
  all_goals (refine Gn ?_)
  all_goals (first | (refine Br.keep ?_) | (refine WC.sub [(0, _), (3, _), (4, _)] ⟨rfl, rfl, rfl, trivial⟩ ?_))
  all_goals (first | (refine Br.keep ?_) | (refine WC.seq ?_))
  all_goals (first | (refine Br.keep ?_) | (refine WC.sr ?_))
  all_goals (refine Go ?_)
  all_goals (first | (refine Br.keep ?_) | (refine WL.step (ok_load (fun w => Tryz.isAgg9 w) rfl (by first | assumption | exact cell_blk (by assumption) rfl)) rfl rfl rfl ?_))
  all_goals (first
               | (refine Br.keep ?_)
               | (refine WL.call (vs := [_]) rfl (fun a w => Tryz.call99 a w) rfl ((clean07 ynm hyl).as (congrArg Value.bool c1)) rfl rfl rfl ?_
                  rintro _ hz ⟨rfl, _⟩
                  subst hz))
  all_goals (refine Go ?_)
  all_goals (first | (refine Br.keep ?_) | (refine goP 22 ?_ ?_ <;> first | exact ⟨⟩ | refine Hb.mk fun hb => ?_ | skip))
  all_goals (refine Gg ?_)
  all_goals (first | (refine Br.keep ?_) | (first | (refine WL.pass rfl rfl rfl ?_) | (refine WL.step (ok_load (fun w => Tryz.isAgg3 w) rfl (by first | assumption | exact cell_blk (by assumption) rfl)) rfl rfl rfl ?_)))
  all_goals (first
               | (refine Br.keep ?_)
               | (first
                    | (refine WL.pass rfl rfl rfl ?_)
                    | (refine WL.call (vs := [_, _, _]) rfl (fun a w => Tryz.call100 a w) rfl ((in07 yt 0 4294967295).as (by first | exact congrArg Value.bool (decide_eq_true c2) | exact congrArg Value.bool (decide_eq_false c2))) rfl rfl rfl ?_
                       rintro _ hz ⟨rfl, _⟩
                       subst hz)))
  all_goals (refine Gg ?_)
  all_goals (refine Go ?_)
  all_goals (first | (refine Br.keep ?_) | (refine goP 28 ?_ ?_ <;> first | exact ⟨⟩ | refine Hb.mk fun hb => ?_ | skip))
  all_goals (refine Gg ?_)
  all_goals (first | (refine Br.keep ?_) | (first | (refine WL.pass rfl rfl rfl ?_) | (refine WL.step (ok_load (fun w => Tryz.isAgg3 w) rfl (by first | assumption | exact cell_blk (by assumption) rfl)) rfl rfl rfl ?_)))
  all_goals (first
               | (refine Br.keep ?_)
               | (first
                    | (refine WL.pass rfl rfl rfl ?_)
                    | (refine WL.call (vs := [_, _, _]) rfl (fun a w => Tryz.call100 a w) rfl ((in07 ya 0 65535).as (by first | exact congrArg Value.bool (decide_eq_true c3) | exact congrArg Value.bool (decide_eq_false c3))) rfl rfl rfl ?_
                       rintro _ hz ⟨rfl, _⟩
                       subst hz)))
  all_goals (refine Gg ?_)
  all_goals (refine Go ?_)
  all_goals (first | (refine Br.keep ?_) | (refine goP 34 ?_ ?_ <;> first | exact ⟨⟩ | refine Hb.mk fun hb => ?_ | skip))
  all_goals (refine Gg ?_)
  all_goals (first | (refine Br.keep ?_) | (first | (refine WL.pass rfl rfl rfl ?_) | (refine WL.step (ok_load (fun w => Tryz.isAgg3 w) rfl (by first | assumption | exact cell_blk (by assumption) rfl)) rfl rfl rfl ?_)))
  all_goals (first
               | (refine Br.keep ?_)
               | (first
                    | (refine WL.pass rfl rfl rfl ?_)
                    | (refine WL.call (vs := [_, _, _]) rfl (fun a w => Tryz.call100 a w) rfl ((in07 yo 0 4294967295).as (by first | exact congrArg Value.bool (decide_eq_true c4) | exact congrArg Value.bool (decide_eq_false c4))) rfl rfl rfl ?_
                       rintro _ hz ⟨rfl, _⟩
                       subst hz)))
  all_goals (refine Gg ?_)
  all_goals (refine Go ?_)
  all_goals (first | (refine Br.keep ?_) | (refine WC.sub [(0, _), (3, _), (4, _), (39, _)] ⟨rfl, rfl, rfl, rfl, trivial⟩ ?_))
  all_goals (first | (refine Br.keep ?_) | (refine goC 5 6 ?_ ?_ <;> first | exact ⟨⟩ | refine Hb.mk fun hb => ?_ | skip))
  all_goals (first | (fail_if_success refine goB 5 ?_) | (
  refine goB 5 ?_
  all_goals (refine WC.sr ?_)
  all_goals (refine Go ?_)
  all_goals (refine WC.sub [(2, _)] ⟨rfl, trivial⟩ ?_)
  all_goals (refine WC.ret ?_)
  all_goals (repeat' (with_reducible first | refine thenP_r ?_ | refine blockP_r ?_))
  all_goals (refine retP_1 _ ⟨rfl, trivial⟩ ?_)
  all_goals (first
              | exact ⟨congrArg Value.bool (decide_eq_true (by rw [List.take_of_length_le (by omega)] at hn; exact hn)).symm, hx1⟩
              | (refine ⟨congrArg Value.bool (decide_eq_false (fun z => ?_)).symm, hx1.trans hX3⟩
                 obtain ⟨d1, d2, d3, d4, d5, d6, d7⟩ := z _ (List.mem_of_getElem? hy)
                 first | exact c7 d7 | exact c6 d6 | exact c5 d5 | exact c4 d4 | exact c3 d3 | exact c2 d2 | (rw [c1] at d1; cases d1)))
  skip))
  all_goals (first | (fail_if_success refine goB 6 ?_) | (
  refine goB 6 ?_
  all_goals (refine WC.skip ?_)
  skip))
  all_goals (refine Gn ?_)
  all_goals (first | (refine Br.keep ?_) | (refine WC.sr ?_))
  all_goals (refine Go ?_)
  all_goals (first | (refine Br.keep ?_) | (refine WL.step (ok_load (fun w => Tryz.isAgg3 w) rfl (by first | assumption | exact cell_blk (by assumption) rfl)) rfl rfl rfl ?_))
  all_goals (first
               | (refine Br.keep ?_)
               | (refine WL.call (vs := [_, _, _]) rfl (fun a w => Tryz.call100 a w) rfl ((in07 ys (-32768) 32767).as (by first | exact congrArg Value.bool (decide_eq_true c5) | exact congrArg Value.bool (decide_eq_false c5))) rfl rfl rfl ?_
                  rintro _ hz ⟨rfl, _⟩
                  subst hz))
  all_goals (refine Go ?_)
  all_goals (first | (refine Br.keep ?_) | (refine goP 44 ?_ ?_ <;> first | exact ⟨⟩ | refine Hb.mk fun hb => ?_ | skip))
  all_goals (refine Gg ?_)
  all_goals (first | (refine Br.keep ?_) | (first | (refine WL.pass rfl rfl rfl ?_) | (refine WL.step (ok_load (fun w => Tryz.isAgg3 w) rfl (by first | assumption | exact cell_blk (by assumption) rfl)) rfl rfl rfl ?_)))
  all_goals (first
               | (refine Br.keep ?_)
               | (first
                    | (refine WL.pass rfl rfl rfl ?_)
                    | (refine WL.call (vs := [_, _, _]) rfl (fun a w => Tryz.call100 a w) rfl ((in07 ym (-2147483648) 2147483647).as (by first | exact congrArg Value.bool (decide_eq_true c6) | exact congrArg Value.bool (decide_eq_false c6))) rfl rfl rfl ?_
                       rintro _ hz ⟨rfl, _⟩
                       subst hz)))
  all_goals (refine Gg ?_)
  all_goals (refine Go ?_)
  all_goals (first | (refine Br.keep ?_) | (refine goP 50 ?_ ?_ <;> first | exact ⟨⟩ | refine Hb.mk fun hb => ?_ | skip))
  all_goals (refine Gg ?_)
  all_goals (first | (refine Br.keep ?_) | (first | (refine WL.pass rfl rfl rfl ?_) | (refine WL.step (ok_load (fun w => Tryz.isAgg3 w) rfl (by first | assumption | exact cell_blk (by assumption) rfl)) rfl rfl rfl ?_)))
  all_goals (first
               | (refine Br.keep ?_)
               | (first
                    | (refine WL.pass rfl rfl rfl ?_)
                    | (refine WL.call (vs := [_, _, _]) rfl (fun a w => Tryz.call100 a w) rfl ((in07 yf 0 65535).as (by first | exact congrArg Value.bool (decide_eq_true c7) | exact congrArg Value.bool (decide_eq_false c7))) rfl rfl rfl ?_
                       rintro _ hz ⟨rfl, _⟩
                       subst hz)))
  all_goals (refine Gg ?_)
  all_goals (refine Go ?_)
  all_goals (first | (refine Br.keep ?_) | (refine WC.sub [(0, _), (3, _), (55, _)] ⟨rfl, rfl, rfl, trivial⟩ ?_))
  all_goals (first | (refine Br.keep ?_) | (refine goC 7 8 ?_ ?_ <;> first | exact ⟨⟩ | refine Hb.mk fun hb => ?_ | skip))
  all_goals (first | (fail_if_success refine goB 7 ?_) | (
  refine goB 7 ?_
  all_goals (refine WC.sr ?_)
  all_goals (refine Go ?_)
  all_goals (refine WC.ret ?_)
  all_goals (repeat' (with_reducible first | refine thenP_r ?_ | refine blockP_r ?_))
  all_goals (refine retP_1 _ ⟨rfl, trivial⟩ ?_)
  all_goals (first
              | exact ⟨congrArg Value.bool (decide_eq_true (by rw [List.take_of_length_le (by omega)] at hn; exact hn)).symm, hx1⟩
              | (refine ⟨congrArg Value.bool (decide_eq_false (fun z => ?_)).symm, hx1.trans hX3⟩
                 obtain ⟨d1, d2, d3, d4, d5, d6, d7⟩ := z _ (List.mem_of_getElem? hy)
                 first | exact c7 d7 | exact c6 d6 | exact c5 d5 | exact c4 d4 | exact c3 d3 | exact c2 d2 | (rw [c1] at d1; cases d1)))
  skip))
  all_goals (first | (fail_if_success refine goB 8 ?_) | (
  refine goB 8 ?_
  all_goals (refine WC.skip ?_)
  skip))
  all_goals (refine Gn ?_)
  all_goals (first | (refine Br.keep ?_) | (refine WC.region ?_))
  all_goals (refine Go ?_)
  all_goals (first | (refine Br.keep ?_) | (exact ⟨k + 1, ⟨rfl, rfl, trivial⟩, (by exact ⟨hx1.trans hX3, by omega, all_take hy hn ⟨c1, c2, c3, c4, c5, c6, c7⟩⟩), (by omega)⟩))
  all_goals (try (refine Br.mk (i := 1000) ?_))
  all_goals (refine Gn ?_)
  all_goals (refine WC.sub [] trivial ?_)
  all_goals (refine WC.sr ?_)
  all_goals (refine Go ?_)
  all_goals (refine WC.ret ?_)
  all_goals (repeat' (with_reducible first | refine thenP_r ?_ | refine blockP_r ?_))
  all_goals (refine retP_1 _ ⟨rfl, trivial⟩ ?_)
  all_goals (first
              | exact ⟨congrArg Value.bool (decide_eq_true (by rw [List.take_of_length_le (by omega)] at hn; exact hn)).symm, hx1⟩
              | (refine ⟨congrArg Value.bool (decide_eq_false (fun z => ?_)).symm, hx1.trans hX3⟩
                 obtain ⟨d1, d2, d3, d4, d5, d6, d7⟩ := z _ (List.mem_of_getElem? hy)
                 first | exact c7 d7 | exact c6 d6 | exact c5 d5 | exact c4 d4 | exact c3 d3 | exact c2 d2 | (rw [c1] at d1; cases d1)))
set_option maxHeartbeats 2000000 in
set_option maxRecDepth 100000 in
theorem fields07 {h : Heap} {v : Value} (l : List FieldD) (hr : Rd h v 2 l.length (l.flatMap FieldD.cells)) (hm : l.length ≤ 65535) (ht : ∀ c ∈ l, c.t.length ≤ 1000000) :
    CallsH Tryz.prog 103 ⟨[v]⟩ h fun u h' => u = .bool (decide (∀ c ∈ l, c.okB)) ∧ h' = h := by
  obtain ⟨A, c, rfl, _⟩ := id hr
  refine calls [(0, _)] Tryz.func103 rfl Tryz.ntmps103 rfl ⟨rfl, trivial⟩ ?_
  all_goals (refine WC.sr ?_)
  all_goals (refine Go ?_)
  all_goals (refine WC.seq ?_)
  all_goals (refine WC.sr ?_)
  all_goals (refine Go ?_)
  all_goals (refine goC 1 2 ?_ ?_ <;> first | exact ⟨⟩ | refine Hb.mk fun hb => ?_ | skip)
  all_goals (first | (fail_if_success refine goB 1 ?_) | (
  refine goB 1 ?_
  all_goals (refine WC.sr ?_)
  all_goals (refine Go ?_)
  all_goals (refine WC.sub [(2, _)] ⟨rfl, trivial⟩ ?_)
  all_goals (refine WC.ret ?_)
  all_goals (repeat' (with_reducible first | refine thenP_r ?_ | refine blockP_r ?_))
  all_goals (refine retP_1 _ ⟨rfl, trivial⟩ ?_)
  all_goals (first
              | exact ⟨congrArg Value.bool (decide_eq_true (by rw [List.take_of_length_le (by omega)] at hn; exact hn)).symm, rfl⟩
              | (refine ⟨congrArg Value.bool (decide_eq_false (fun z => ?_)).symm, rfl⟩
                 obtain ⟨d1, d2⟩ := z _ (List.mem_of_getElem? hy)
                 first | exact d1 c1 | (rw [c2] at d2; cases d2)))
  skip))
  all_goals (first | (fail_if_success refine goB 2 ?_) | (
  refine goB 2 ?_
  all_goals (refine WC.skip ?_)
  skip))
  all_goals (refine Gn ?_)
  all_goals (refine WC.sub [(0, _)] ⟨rfl, trivial⟩ ?_)
  all_goals (refine WC.seq ?_)
  all_goals (refine WC.sr ?_)
  all_goals (refine Go ?_)
  all_goals (refine WC.block ?_)
  -- loop 0: slots that turn [3], that stay [0]
  all_goals (refine WC.loopG (X := Nat) (fun x => ([(3, In (x : Int))] : Fr)) [(0, _)] (fun k h' => h' = h ∧ k ≤ l.length ∧ ∀ c ∈ l.take k, c.okB) (fun k => l.length - k) (0) ⟨rfl, rfl, trivial⟩ (by exact ⟨rfl, Nat.zero_le _, by simp⟩) ?_)
  all_goals (rintro k h1 ⟨hz, hk, hn⟩
             subst h1)
  all_goals (refine WC.sub [(3, _), (0, _)] ⟨rfl, rfl, trivial⟩ ?_)
  all_goals (refine WC.seq ?_)
  all_goals (refine WC.sr ?_)
  all_goals (refine Go ?_)
  all_goals (refine goC 3 4 ?_ ?_ <;> first | exact ⟨⟩ | refine Hb.mk fun hb => ?_ | skip)
  all_goals (first | (fail_if_success refine goB 3 ?_) | (
  refine goB 3 ?_
  all_goals (refine WC.skip ?_)
  skip))
  all_goals (first | (fail_if_success refine goB 4 ?_) | (
  refine goB 4 ?_
  all_goals (refine WC.exit ?_)
  all_goals (repeat' (with_reducible first | refine thenP_x ?_ | refine blockP_miss rfl ?_ | refine blockP_hit ?_ | refine blockP_n ?_ | refine thenP_n ?_))
  all_goals (refine Br.out (i := 1000) ?_)
  skip))
  all_goals (refine Gn ?_)
  all_goals (first | (refine Br.keep ?_) | (refine WC.sub [(0, _), (3, _)] ⟨rfl, rfl, trivial⟩ ?_))
  all_goals (first | (refine Br.keep ?_) | (refine WC.seq ?_))
  all_goals (first | (refine Br.keep ?_) | (refine WC.block ?_))
  all_goals (first | (refine Br.keep ?_) | (refine WC.sr ?_))
  all_goals (first
               | (refine Br.keep ?_)
               | (obtain ⟨bL, oL, hA, hbL, hat⟩ := Rd.at_ hr (by omega)
                  obtain ⟨y, hy⟩ : ∃ y, l[k]? = some y := ⟨_, List.getElem?_eq_getElem (by omega)⟩
                  have hyl := ht y (List.mem_of_getElem? hy)
                  have at1 : At h bL (oL + k * 2) y.cells := At.elem FieldD.len hat hy
                  have hcc := fld_cases y
                  obtain ⟨yk, yt⟩ := y
                  dsimp only [FieldD.cells] at at1 hyl hcc
                  rcases hcc with ⟨c1, c2⟩ | c1 | ⟨c1, c2⟩))
  all_goals (first | (refine Br.keep ?_) | (refine WL.step (ok_move rfl) rfl rfl rfl ?_))
  all_goals (refine Go ?_)
  all_goals (first | (refine Br.keep ?_) | (refine WL.step (ok_idxAddrA Tryz.underlying30 (fun w => Tryz.sizeOf54 w) rfl rfl rfl (by omega) (by first | rfl | assumption)) rfl rfl rfl ?_))
  all_goals (refine Go ?_)
  all_goals (first | (refine Br.keep ?_) | (refine WL.step (ok_load (fun w => Tryz.isAgg5 w) rfl (by first | exact at1.get 0 rfl rfl | assumption | exact cell_blk (by assumption) rfl)) rfl rfl rfl ?_))
  all_goals (refine Go ?_)
  all_goals (first | (refine Br.keep ?_) | (refine goP 19 ?_ ?_ <;> first | exact ⟨⟩ | refine Hb.mk fun hb => ?_ | skip))
  all_goals (refine Gg ?_)
  all_goals (first | (refine Br.keep ?_) | (first | (refine WL.pass rfl rfl rfl ?_) | (refine WL.step (ok_idxAddrA Tryz.underlying30 (fun w => Tryz.sizeOf54 w) rfl rfl rfl (by omega) (by first | rfl | assumption)) rfl rfl rfl ?_)))
  all_goals (refine Gg ?_)
  all_goals (first | (refine Br.keep ?_) | (first | (refine WL.pass rfl rfl rfl ?_) | (refine WL.step (ok_load (fun w => Tryz.isAgg9 w) rfl (by first | exact at1.get 1 rfl rfl | assumption | exact cell_blk (by assumption) rfl)) rfl rfl rfl ?_)))
  all_goals (first
               | (refine Br.keep ?_)
               | (first
                    | (refine WL.pass rfl rfl rfl ?_)
                    | (refine WL.call (vs := [_]) rfl (fun a w => Tryz.call99 a w) rfl ((clean07 yt hyl).as (congrArg Value.bool c2)) rfl rfl rfl ?_
                       rintro _ hz ⟨rfl, _⟩
                       subst hz)))
  all_goals (refine Gg ?_)
  all_goals (refine Go ?_)
  all_goals (first | (refine Br.keep ?_) | (refine WC.sub [(0, _), (3, _), (27, _)] ⟨rfl, rfl, rfl, trivial⟩ ?_))
  all_goals (first | (refine Br.keep ?_) | (refine goC 5 6 ?_ ?_ <;> first | exact ⟨⟩ | refine Hb.mk fun hb => ?_ | skip))
  all_goals (first | (fail_if_success refine goB 5 ?_) | (
  refine goB 5 ?_
  all_goals (refine WC.sr ?_)
  all_goals (refine Go ?_)
  all_goals (refine WC.ret ?_)
  all_goals (repeat' (with_reducible first | refine thenP_r ?_ | refine blockP_r ?_))
  all_goals (refine retP_1 _ ⟨rfl, trivial⟩ ?_)
  all_goals (first
              | exact ⟨congrArg Value.bool (decide_eq_true (by rw [List.take_of_length_le (by omega)] at hn; exact hn)).symm, rfl⟩
              | (refine ⟨congrArg Value.bool (decide_eq_false (fun z => ?_)).symm, rfl⟩
                 obtain ⟨d1, d2⟩ := z _ (List.mem_of_getElem? hy)
                 first | exact d1 c1 | (rw [c2] at d2; cases d2)))
  skip))
  all_goals (first | (fail_if_success refine goB 6 ?_) | (
  refine goB 6 ?_
  all_goals (refine WC.skip ?_)
  skip))
  all_goals (refine Gn ?_)
  all_goals (first | (refine Br.keep ?_) | (refine WC.region ?_))
  all_goals (refine Go ?_)
  all_goals (first | (refine Br.keep ?_) | (exact ⟨k + 1, ⟨rfl, rfl, trivial⟩, (by exact ⟨rfl, by omega, all_take hy hn ⟨c1, c2⟩⟩), (by omega)⟩))
  all_goals (try (refine Br.mk (i := 1000) ?_))
  all_goals (refine Gn ?_)
  all_goals (refine WC.sub [] trivial ?_)
  all_goals (refine WC.sr ?_)
  all_goals (refine Go ?_)
  all_goals (refine WC.ret ?_)
  all_goals (repeat' (with_reducible first | refine thenP_r ?_ | refine blockP_r ?_))
  all_goals (refine retP_1 _ ⟨rfl, trivial⟩ ?_)
  all_goals (first
              | exact ⟨congrArg Value.bool (decide_eq_true (by rw [List.take_of_length_le (by omega)] at hn; exact hn)).symm, rfl⟩
              | (refine ⟨congrArg Value.bool (decide_eq_false (fun z => ?_)).symm, rfl⟩
                 obtain ⟨d1, d2⟩ := z _ (List.mem_of_getElem? hy)
                 first | exact d1 c1 | (rw [c2] at d2; cases d2)))
set_option maxHeartbeats 2000000 in
set_option maxRecDepth 100000 in
theorem values07 {h : Heap} {v : Value} (l : List Cel) (hl : Cels h v l) (hm : l.length ≤ 65535) (ht : ∀ c ∈ l, c.bytes.length ≤ 1048576) :
    CallsH Tryz.prog 104 ⟨[v]⟩ h fun u h' => u = .bool (decide (∀ c ∈ l, c.okB)) ∧ h' = h := by
  obtain ⟨hr, ⟨_, A, c, rfl, _⟩, ho⟩ := hl
  refine calls [(0, _)] Tryz.func104 rfl Tryz.ntmps104 rfl ⟨rfl, trivial⟩ ?_
  all_goals (refine WC.sr ?_)
  all_goals (refine Go ?_)
  all_goals (refine WC.seq ?_)
  all_goals (refine WC.sr ?_)
  all_goals (refine Go ?_)
  all_goals (refine goC 1 2 ?_ ?_ <;> first | exact ⟨⟩ | refine Hb.mk fun hb => ?_ | skip)
  all_goals (first | (fail_if_success refine goB 1 ?_) | (
  refine goB 1 ?_
  all_goals (refine WC.sr ?_)
  all_goals (refine Go ?_)
  all_goals (refine WC.sub [(2, _)] ⟨rfl, trivial⟩ ?_)
  all_goals (refine WC.ret ?_)
  all_goals (repeat' (with_reducible first | refine thenP_r ?_ | refine blockP_r ?_))
  all_goals (refine retP_1 _ ⟨rfl, trivial⟩ ?_)
  all_goals (first
              | exact ⟨congrArg Value.bool (decide_eq_true (by rw [List.take_of_length_le (by omega)] at hn; exact hn)).symm, rfl⟩
              | (refine ⟨congrArg Value.bool (decide_eq_false (fun z => ?_)).symm, rfl⟩
                 obtain ⟨d1, d2⟩ := z _ (List.mem_of_getElem? hy)
                 first | exact c2 (d1 rfl) | (exfalso; omega)))
  skip))
  all_goals (first | (fail_if_success refine goB 2 ?_) | (
  refine goB 2 ?_
  all_goals (refine WC.skip ?_)
  skip))
  all_goals (refine Gn ?_)
  all_goals (refine WC.sub [(0, _)] ⟨rfl, trivial⟩ ?_)
  all_goals (refine WC.seq ?_)
  all_goals (refine WC.sr ?_)
  all_goals (refine Go ?_)
  all_goals (refine WC.block ?_)
  -- loop 0: slots that turn [3], that stay [0]
  all_goals (refine WC.loopG (X := Nat) (fun x => ([(3, In (x : Int))] : Fr)) [(0, _)] (fun k h' => h' = h ∧ k ≤ l.length ∧ ∀ c ∈ l.take k, c.okB) (fun k => l.length - k) (0) ⟨rfl, rfl, trivial⟩ (by exact ⟨rfl, Nat.zero_le _, by simp⟩) ?_)
  all_goals (rintro k h1 ⟨hz, hk, hn⟩
             subst h1)
  all_goals (refine WC.sub [(3, _), (0, _)] ⟨rfl, rfl, trivial⟩ ?_)
  all_goals (refine WC.seq ?_)
  all_goals (refine WC.sr ?_)
  all_goals (refine Go ?_)
  all_goals (refine goC 3 4 ?_ ?_ <;> first | exact ⟨⟩ | refine Hb.mk fun hb => ?_ | skip)
  all_goals (first | (fail_if_success refine goB 3 ?_) | (
  refine goB 3 ?_
  all_goals (refine WC.skip ?_)
  skip))
  all_goals (first | (fail_if_success refine goB 4 ?_) | (
  refine goB 4 ?_
  all_goals (refine WC.exit ?_)
  all_goals (repeat' (with_reducible first | refine thenP_x ?_ | refine blockP_miss rfl ?_ | refine blockP_hit ?_ | refine blockP_n ?_ | refine thenP_n ?_))
  all_goals (refine Br.out (i := 1000) ?_)
  skip))
  all_goals (refine Gn ?_)
  all_goals (first | (refine Br.keep ?_) | (refine WC.sub [(0, _), (3, _)] ⟨rfl, rfl, trivial⟩ ?_))
  all_goals (first | (refine Br.keep ?_) | (refine WC.seq ?_))
  all_goals (first | (refine Br.keep ?_) | (refine WC.block ?_))
  all_goals (first | (refine Br.keep ?_) | (refine WC.sr ?_))
  all_goals (first
               | (refine Br.keep ?_)
               | (obtain ⟨bL, oL, hA, hbL, hat⟩ := Rd.at_ hr (by omega)
                  obtain ⟨y, hy⟩ : ∃ y, l[k]? = some y := ⟨_, List.getElem?_eq_getElem (by omega)⟩
                  have hyl := ht y (List.mem_of_getElem? hy)
                  have hyo := (ho y (List.mem_of_getElem? hy)).1
                  have at1 : At h bL (oL + k * 2) y.cells := At.elem Cel.len hat hy
                  obtain ⟨yn, yv, yb⟩ := y
                  dsimp only [Cel.cells] at at1 hyl hyo
                  obtain ⟨yA, yc, rfl, _⟩ := id hyo
                  cases yn
                  all_goals by_cases c2 : yb.length = 0))
  all_goals (first | (refine Br.keep ?_) | (refine WL.step (ok_move rfl) rfl rfl rfl ?_))
  all_goals (refine Go ?_)
  all_goals (first | (refine Br.keep ?_) | (refine WL.step (ok_idxAddrA Tryz.underlying29 (fun w => Tryz.sizeOf50 w) rfl rfl rfl (by omega) (by first | rfl | assumption)) rfl rfl rfl ?_))
  all_goals (refine Go ?_)
  all_goals (first | (refine Br.keep ?_) | (refine WL.step (ok_load (fun w => Tryz.isAgg4 w) rfl (by first | exact at1.get 0 rfl rfl | assumption | exact cell_blk (by assumption) rfl)) rfl rfl rfl ?_))
  all_goals (refine Go ?_)
  all_goals (first | (refine Br.keep ?_) | (refine goP 18 ?_ ?_ <;> first | exact ⟨⟩ | refine Hb.mk fun hb => ?_ | skip))
  all_goals (refine Gg ?_)
  all_goals (first | (refine Br.keep ?_) | (first | (refine WL.pass rfl rfl rfl ?_) | (refine WL.step (ok_idxAddrA Tryz.underlying29 (fun w => Tryz.sizeOf50 w) rfl rfl rfl (by omega) (by first | rfl | assumption)) rfl rfl rfl ?_)))
  all_goals (refine Gg ?_)
  all_goals (first | (refine Br.keep ?_) | (first | (refine WL.pass rfl rfl rfl ?_) | (refine WL.step (ok_load (fun w => Tryz.isAgg24 w) rfl (by first | exact at1.get 1 rfl rfl | assumption | exact cell_blk (by assumption) rfl)) rfl rfl rfl ?_)))
  all_goals (refine Gg ?_)
  all_goals (refine Go ?_)
  all_goals (first | (refine Br.keep ?_) | (refine goP 27 ?_ ?_ <;> first | exact ⟨⟩ | refine Hb.mk fun hb => ?_ | skip))
  all_goals (refine Gg ?_)
  all_goals (first | (refine Br.keep ?_) | (first | (refine WL.pass rfl rfl rfl ?_) | (refine WL.step (ok_idxAddrA Tryz.underlying29 (fun w => Tryz.sizeOf50 w) rfl rfl rfl (by omega) (by first | rfl | assumption)) rfl rfl rfl ?_)))
  all_goals (refine Gg ?_)
  all_goals (first | (refine Br.keep ?_) | (first | (refine WL.pass rfl rfl rfl ?_) | (refine WL.step (ok_load (fun w => Tryz.isAgg24 w) rfl (by first | exact at1.get 1 rfl rfl | assumption | exact cell_blk (by assumption) rfl)) rfl rfl rfl ?_)))
  all_goals (refine Gg ?_)
  all_goals (refine Go ?_)
  all_goals (first | (refine Br.keep ?_) | (refine WC.sub [(0, _), (3, _), (35, _)] ⟨rfl, rfl, rfl, trivial⟩ ?_))
  all_goals (first | (refine Br.keep ?_) | (refine goC 5 6 ?_ ?_ <;> first | exact ⟨⟩ | refine Hb.mk fun hb => ?_ | skip))
  all_goals (first | (fail_if_success refine goB 5 ?_) | (
  refine goB 5 ?_
  all_goals (refine WC.sr ?_)
  all_goals (refine Go ?_)
  all_goals (refine WC.ret ?_)
  all_goals (repeat' (with_reducible first | refine thenP_r ?_ | refine blockP_r ?_))
  all_goals (refine retP_1 _ ⟨rfl, trivial⟩ ?_)
  all_goals (first
              | exact ⟨congrArg Value.bool (decide_eq_true (by rw [List.take_of_length_le (by omega)] at hn; exact hn)).symm, rfl⟩
              | (refine ⟨congrArg Value.bool (decide_eq_false (fun z => ?_)).symm, rfl⟩
                 obtain ⟨d1, d2⟩ := z _ (List.mem_of_getElem? hy)
                 first | exact c2 (d1 rfl) | (exfalso; omega)))
  skip))
  all_goals (first | (fail_if_success refine goB 6 ?_) | (
  refine goB 6 ?_
  all_goals (refine WC.skip ?_)
  skip))
  all_goals (refine Gn ?_)
  all_goals (first | (refine Br.keep ?_) | (refine WC.region ?_))
  all_goals (refine Go ?_)
  all_goals (first | (refine Br.keep ?_) | (exact ⟨k + 1, ⟨rfl, rfl, trivial⟩, (by exact ⟨rfl, by omega, all_take hy hn ⟨(fun z => by first | exact c2 | cases z), hyl⟩⟩), (by omega)⟩))
  all_goals (try (refine Br.mk (i := 1000) ?_))
  all_goals (refine Gn ?_)
  all_goals (refine WC.sub [] trivial ?_)
  all_goals (refine WC.sr ?_)
  all_goals (refine Go ?_)
  all_goals (refine WC.ret ?_)
  all_goals (repeat' (with_reducible first | refine thenP_r ?_ | refine blockP_r ?_))
  all_goals (refine retP_1 _ ⟨rfl, trivial⟩ ?_)
  all_goals (first
              | exact ⟨congrArg Value.bool (decide_eq_true (by rw [List.take_of_length_le (by omega)] at hn; exact hn)).symm, rfl⟩
              | (refine ⟨congrArg Value.bool (decide_eq_false (fun z => ?_)).symm, rfl⟩
                 obtain ⟨d1, d2⟩ := z _ (List.mem_of_getElem? hy)
                 first | exact c2 (d1 rfl) | (exfalso; omega)))
set_option maxHeartbeats 4000000 in
set_option maxRecDepth 100000 in
theorem kept07 {h : Heap} (b : Bk) (hb : b.ok h) : CallsH Tryz.prog 106 ⟨[.agg ⟨b.cells⟩]⟩ h fun u h' => u = .agg ⟨(ofB b).cells⟩ ∧ Ext No h h' := by
  obtain ⟨k, st, t, n, v, x, y, vo, lo, vc, lc, vr, lr, vf, lf⟩ := b
  obtain ⟨⟨ho, _⟩, ⟨hc, _⟩, hr, hf, _⟩ := hb
  simp only at ho hc hr hf
  obtain ⟨A1, c1, rfl, _⟩ := id ho
  obtain ⟨A2, c2, rfl, _⟩ := id hc
  obtain ⟨_, ⟨_, A3, c3, rfl, _⟩, _⟩ := id hr
  obtain ⟨A4, c4, rfl, _⟩ := id hf
  dsimp only [Bk.cells]
  refine calls [(0, _)] Tryz.func106 rfl Tryz.ntmps106 rfl ⟨rfl, trivial⟩ ?_
  all_goals (refine WC.sr ?_)
  all_goals (refine WL.stepR (okE_box rfl) rfl rfl rfl ?_
             rintro _ h1 ⟨b1, rfl, hg1, hb1, hx1⟩)
  all_goals (refine WL.stepR (okE_alloc (fun w => Tryz.zeroValue32 w)) rfl rfl rfl ?_
             rintro _ h2 ⟨b2, rfl, hg2, hb2, hx2⟩)
  all_goals (have hb1a := hx2.obj hb1 nos)
  all_goals (refine Gn ?_)
  all_goals (refine WC.sr ?_)
  all_goals (refine Go ?_)
  all_goals (refine WL.step (ok_load (fun w => Tryz.isAgg5 w) rfl (by first | assumption | exact cell_blk (by assumption) rfl)) rfl rfl rfl ?_)
  all_goals (refine WL.step (ok_buildF (vs := [_]) (cs := [_, _, _, _, _, _, _, _, _, _, _]) (fun | [a0] => [a0, (.int .u8 0), (St []), (St []), (St []), (.int .i64 0), (.int .i64 0), (.slice none 0 0), (.slice none 0 0), (.slice none 0 0), (.slice none 0 0)] | _ => []) rfl rfl (by kernel_rfl)) rfl rfl rfl ?_)
  all_goals (refine WL.stepR (okE_alloc (fun w => Tryz.zeroValue32 w)) rfl rfl rfl ?_
             rintro _ h3 ⟨b3, rfl, hg3, hb3, hx3⟩)
  all_goals (have hb1b := hx3.obj hb1a nos
             have hb2b := hx3.obj hb2 nos
             have n13 : ¬ b1 = b3 := by have := lt_of_some hb1a; omega
             have n23 : ¬ b2 = b3 := by have := lt_of_some hb2; omega)
  all_goals (refine WL.stepR0 (okE_storeW (fun w => Tryz.sizeOf32 w) rfl rfl rfl (by assumption) rfl (by simp [Value.oneCell'])) rfl rfl ?_
             rintro _ h4 ⟨hb4, hx4⟩)
  all_goals (have hb1c := hx4.obj hb1b n13
             have hb2c := hx4.obj hb2b n23
             have hX4 : Ext No h h4 := ((hx1.trans hx2).trans hx3).trans' hx4 (fun q hq e => by have := hx1.size; have := hx2.size; omega))
  all_goals (refine Gn ?_)
  all_goals (refine WC.sub [(1, _), (2, _), (3, _)] ⟨rfl, rfl, rfl, trivial⟩ ?_)
  all_goals (refine WC.seq ?_)
  all_goals (refine WC.sr ?_)
  all_goals (refine Go ?_)
  all_goals (refine WL.step (ok_load (fun w => Tryz.isAgg5 w) rfl (by first | assumption | exact cell_blk (by assumption) rfl)) rfl rfl rfl ?_)
  all_goals (refine Gn ?_)
  all_goals (refine WC.block ?_)
  all_goals (refine WC.sr ?_)
  all_goals (refine Go ?_)
  all_goals (refine goC 1 2 ?_ ?_ <;> first | exact ⟨⟩ | refine Hb.mk fun hb => ?_ | skip)
  all_goals (first | (fail_if_success refine goB 1 ?_) | (
  refine goB 1 ?_
  all_goals (refine WC.drawH (fun h' => Ext (fun q => q = b3) h4 h') 7 8 rfl fol ?_)
  all_goals (refine WH.tk 0 rfl (fun hq hC => ok_fieldAddr rfl Tryz.underlying32 rfl (fun w => Tryz.sizeOf9 w)) rfl rfl rfl ?_ (hC := (by first | exact Ext.refl _ _ | assumption | exact hx5.trans hx6)))
  all_goals (refine WH.tk 1 rfl (fun hq hC => ok_load (fun w => Tryz.isAgg9 w) rfl (by first | exact hC.cell (by first | exact cell_blk hb1c rfl | assumption | exact cell_blk (by assumption) rfl) n13)) rfl rfl rfl ?_ (hC := (by first | exact Ext.refl _ _ | assumption | exact hx5.trans hx6)))
  all_goals (refine WH.tk 2 rfl (fun hq hC => ok_fieldAddr rfl Tryz.underlying32 rfl (fun w => Tryz.sizeOf9 w)) rfl rfl rfl ?_ (hC := (by first | exact Ext.refl _ _ | assumption | exact hx5.trans hx6)))
  all_goals (refine WH.tk 3 rfl (fun hq hC => ok_load (fun w => Tryz.isAgg9 w) rfl (by first | exact hC.cell (by first | exact cell_blk hb1c rfl | assumption | exact cell_blk (by assumption) rfl) n13)) rfl rfl rfl ?_ (hC := (by first | exact Ext.refl _ _ | assumption | exact hx5.trans hx6)))
  all_goals (refine WH.tk 4 rfl (fun hq hC => ok_fieldAddr rfl Tryz.underlying32 rfl (fun w => Tryz.sizeOf9 w)) rfl rfl rfl ?_ (hC := (by first | exact Ext.refl _ _ | assumption | exact hx5.trans hx6)))
  all_goals (refine WH.one 5 (by kernel_rfl) ?_)
  all_goals (refine Comes1.run0 rfl (okE_store (fun w => Tryz.sizeOf9 w) rfl rfl (by assumption) (Nat.le_of_ble_eq_true rfl) rfl rfl) rfl rfl ?_ (fun _ => by kernel_rfl)
             rintro _ h5 ⟨hb5, hx5⟩)
  all_goals (refine ⟨fun _ => hx5, ?_⟩)
  all_goals (refine WH.tk 6 rfl (fun hq hC => ok_fieldAddr rfl Tryz.underlying32 rfl (fun w => Tryz.sizeOf9 w)) rfl rfl rfl ?_ (hC := (by first | exact Ext.refl _ _ | assumption | exact hx5.trans hx6)))
  all_goals (refine WH.one 7 (by kernel_rfl) ?_)
  all_goals (refine Comes1.run0 rfl (okE_store (fun w => Tryz.sizeOf9 w) rfl rfl (by assumption) (Nat.le_of_ble_eq_true rfl) rfl rfl) rfl rfl ?_ (fun _ => by kernel_rfl)
             rintro _ h6 ⟨hb6, hx6⟩)
  all_goals (refine ⟨fun _ => hx5.trans hx6, ?_⟩)
  all_goals (have hE := hx5.trans hx6
             have hb2z := hE.obj hb2c n23)
  all_goals (refine WH.done (by kernel_rfl) ?_)
  skip))
  all_goals (first | (fail_if_success refine goB 2 ?_) | (
  refine goB 2 ?_
  all_goals (refine WC.sr ?_)
  all_goals (refine Go ?_)
  all_goals (refine WC.sub [(1, _), (2, _), (3, _), (8, _), (17, _)] ⟨rfl, rfl, rfl, rfl, rfl, trivial⟩ ?_)
  all_goals (refine goC 3 4 ?_ ?_ <;> first | exact ⟨⟩ | refine Hb.mk fun hb => ?_ | skip)
  all_goals (first | (fail_if_success refine goB 3 ?_) | (
  refine goB 3 ?_
  all_goals (refine WC.drawH (fun h' => Ext (fun q => q = b3) h4 h') 7 8 rfl fol ?_)
  all_goals (refine WH.tk 0 rfl (fun hq hC => ok_fieldAddr rfl Tryz.underlying32 rfl (fun w => Tryz.sizeOf3 w)) rfl rfl rfl ?_ (hC := (by first | exact Ext.refl _ _ | assumption | exact hx5.trans hx6)))
  all_goals (refine WH.tk 1 rfl (fun hq hC => ok_load (fun w => Tryz.isAgg3 w) rfl (by first | exact hC.cell (by first | exact cell_blk hb1c rfl | assumption | exact cell_blk (by assumption) rfl) n13)) rfl rfl rfl ?_ (hC := (by first | exact Ext.refl _ _ | assumption | exact hx5.trans hx6)))
  all_goals (refine WH.tk 2 rfl (fun hq hC => ok_fieldAddr rfl Tryz.underlying32 rfl (fun w => Tryz.sizeOf3 w)) rfl rfl rfl ?_ (hC := (by first | exact Ext.refl _ _ | assumption | exact hx5.trans hx6)))
  all_goals (refine WH.tk 3 rfl (fun hq hC => ok_load (fun w => Tryz.isAgg3 w) rfl (by first | exact hC.cell (by first | exact cell_blk hb1c rfl | assumption | exact cell_blk (by assumption) rfl) n13)) rfl rfl rfl ?_ (hC := (by first | exact Ext.refl _ _ | assumption | exact hx5.trans hx6)))
  all_goals (refine WH.tk 4 rfl (fun hq hC => ok_fieldAddr rfl Tryz.underlying32 rfl (fun w => Tryz.sizeOf3 w)) rfl rfl rfl ?_ (hC := (by first | exact Ext.refl _ _ | assumption | exact hx5.trans hx6)))
  all_goals (refine WH.one 5 (by kernel_rfl) ?_)
  all_goals (refine Comes1.run0 rfl (okE_store (fun w => Tryz.sizeOf3 w) rfl rfl (by assumption) (Nat.le_of_ble_eq_true rfl) rfl rfl) rfl rfl ?_ (fun _ => by kernel_rfl)
             rintro _ h5 ⟨hb5, hx5⟩)
  all_goals (refine ⟨fun _ => hx5, ?_⟩)
  all_goals (refine WH.tk 6 rfl (fun hq hC => ok_fieldAddr rfl Tryz.underlying32 rfl (fun w => Tryz.sizeOf3 w)) rfl rfl rfl ?_ (hC := (by first | exact Ext.refl _ _ | assumption | exact hx5.trans hx6)))
  all_goals (refine WH.one 7 (by kernel_rfl) ?_)
  all_goals (refine Comes1.run0 rfl (okE_store (fun w => Tryz.sizeOf3 w) rfl rfl (by assumption) (Nat.le_of_ble_eq_true rfl) rfl rfl) rfl rfl ?_ (fun _ => by kernel_rfl)
             rintro _ h6 ⟨hb6, hx6⟩)
  all_goals (refine ⟨fun _ => hx5.trans hx6, ?_⟩)
  all_goals (have hE := hx5.trans hx6
             have hb2z := hE.obj hb2c n23)
  all_goals (refine WH.done (by kernel_rfl) ?_)
  skip))
  all_goals (first | (fail_if_success refine goB 4 ?_) | (
  refine goB 4 ?_
  all_goals (refine WC.sr ?_)
  all_goals (refine Go ?_)
  all_goals (refine goC 5 6 ?_ ?_ <;> first | exact ⟨⟩ | refine Hb.mk fun hb => ?_ | skip)
  all_goals (first | (fail_if_success refine goB 5 ?_) | (
  refine goB 5 ?_
  all_goals (refine WC.region ?_)
  all_goals (refine Go ?_)
  all_goals (refine WL.step (ok_load (fun w => Tryz.isAgg5 w) rfl (by first | assumption | exact cell_blk (by assumption) rfl)) rfl rfl rfl ?_)
  all_goals (refine Go ?_)
  all_goals (refine WL.stepR0 (okE_store (fun w => Tryz.sizeOf5 w) rfl rfl (by assumption) (Nat.le_of_ble_eq_true rfl) rfl rfl) rfl rfl ?_
             rintro _ h5 ⟨hb5, hE⟩)
  all_goals (have hb2z := hE.obj hb2c n23)
  all_goals (refine Gn ?_)
  skip))
  all_goals (first | (fail_if_success refine goB 6 ?_) | (
  refine goB 6 ?_
  all_goals (refine WC.sr ?_)
  all_goals (refine Go ?_)
  all_goals (refine WC.sub [(1, _), (2, _), (3, _), (8, _), (30, _)] ⟨rfl, rfl, rfl, rfl, rfl, trivial⟩ ?_)
  all_goals (refine goC 7 8 ?_ ?_ <;> first | exact ⟨⟩ | refine Hb.mk fun hb => ?_ | skip)
  all_goals (first | (fail_if_success refine goB 7 ?_) | (
  refine goB 7 ?_
  all_goals (refine WC.region ?_)
  all_goals (refine Go ?_)
  all_goals (refine WL.step (ok_load (fun w => Tryz.isAgg9 w) rfl (by first | assumption | exact cell_blk (by assumption) rfl)) rfl rfl rfl ?_)
  all_goals (refine Go ?_)
  all_goals (refine WL.stepR0 (okE_store (fun w => Tryz.sizeOf9 w) rfl rfl (by assumption) (Nat.le_of_ble_eq_true rfl) rfl rfl) rfl rfl ?_
             rintro _ h5 ⟨hb5, hE⟩)
  all_goals (have hb2z := hE.obj hb2c n23)
  all_goals (refine Gn ?_)
  skip))
  all_goals (first | (fail_if_success refine goB 8 ?_) | (
  refine goB 8 ?_
  all_goals (refine WC.sr ?_)
  all_goals (refine Go ?_)
  all_goals (refine goC 9 10 ?_ ?_ <;> first | exact ⟨⟩ | refine Hb.mk fun hb => ?_ | skip)
  all_goals (first | (fail_if_success refine goB 9 ?_) | (
  refine goB 9 ?_
  all_goals (refine WC.region ?_)
  all_goals (refine Go ?_)
  all_goals (refine WL.step (ok_load (fun w => Tryz.isAgg29 w) rfl (by first | assumption | exact cell_blk (by assumption) rfl)) rfl rfl rfl ?_)
  all_goals (refine Go ?_)
  all_goals (refine WL.stepR0 (okE_store (fun w => Tryz.sizeOf29 w) rfl rfl (by assumption) (Nat.le_of_ble_eq_true rfl) rfl rfl) rfl rfl ?_
             rintro _ h5 ⟨hb5, hE⟩)
  all_goals (have hb2z := hE.obj hb2c n23)
  all_goals (refine Gn ?_)
  skip))
  all_goals (first | (fail_if_success refine goB 10 ?_) | (
  refine goB 10 ?_
  all_goals (refine WC.sr ?_)
  all_goals (refine Go ?_)
  all_goals (refine WC.sub [(1, _), (2, _), (3, _), (8, _), (40, _)] ⟨rfl, rfl, rfl, rfl, rfl, trivial⟩ ?_)
  all_goals (refine goC 11 12 ?_ ?_ <;> first | exact ⟨⟩ | refine Hb.mk fun hb => ?_ | skip)
  all_goals (first | (fail_if_success refine goB 11 ?_) | (
  refine goB 11 ?_
  all_goals (refine WC.region ?_)
  all_goals (refine Go ?_)
  all_goals (refine WL.step (ok_load (fun w => Tryz.isAgg28 w) rfl (by first | assumption | exact cell_blk (by assumption) rfl)) rfl rfl rfl ?_)
  all_goals (refine Go ?_)
  all_goals (refine WL.stepR0 (okE_store (fun w => Tryz.sizeOf28 w) rfl rfl (by assumption) (Nat.le_of_ble_eq_true rfl) rfl rfl) rfl rfl ?_
             rintro _ h5 ⟨hb5, hE⟩)
  all_goals (have hb2z := hE.obj hb2c n23)
  all_goals (refine Gn ?_)
  skip))
  all_goals (first | (fail_if_success refine goB 12 ?_) | (
  refine goB 12 ?_
  all_goals (refine WC.sr ?_)
  all_goals (refine Go ?_)
  all_goals (refine goC 13 14 ?_ ?_ <;> first | exact ⟨⟩ | refine Hb.mk fun hb => ?_ | skip)
  all_goals (first | (fail_if_success refine goB 13 ?_) | (
  refine goB 13 ?_
  all_goals (refine WC.region ?_)
  all_goals (refine Go ?_)
  all_goals (refine WL.step (ok_load (fun w => Tryz.isAgg27 w) rfl (by first | assumption | exact cell_blk (by assumption) rfl)) rfl rfl rfl ?_)
  all_goals (refine Go ?_)
  all_goals (refine WL.stepR0 (okE_store (fun w => Tryz.sizeOf27 w) rfl rfl (by assumption) (Nat.le_of_ble_eq_true rfl) rfl rfl) rfl rfl ?_
             rintro _ h5 ⟨hb5, hE⟩)
  all_goals (have hb2z := hE.obj hb2c n23)
  all_goals (refine Gn ?_)
  skip))
  all_goals (first | (fail_if_success refine goB 14 ?_) | (
  refine goB 14 ?_
  all_goals (refine WC.seq ?_)
  all_goals (refine WC.sr ?_)
  all_goals (refine Go ?_)
  all_goals (refine WC.sub [(1, _), (2, _), (3, _), (8, _), (50, _)] ⟨rfl, rfl, rfl, rfl, rfl, trivial⟩ ?_)
  all_goals (refine goC 15 16 ?_ ?_ <;> first | exact ⟨⟩ | refine Hb.mk fun hb => ?_ | skip)
  all_goals (first | (fail_if_success refine goB 15 ?_) | (
  refine goB 15 ?_
  all_goals (refine WC.skip ?_)
  skip))
  all_goals (first | (fail_if_success refine goB 16 ?_) | (
  refine goB 16 ?_
  all_goals (refine WC.region ?_)
  all_goals (refine Go ?_)
  skip))
  all_goals (refine Gn ?_)
  all_goals (refine goC 17 18 ?_ ?_ <;> first | exact ⟨⟩ | refine Hb.mk fun hb => ?_ | skip)
  all_goals (first | (fail_if_success refine goB 17 ?_) | (
  refine goB 17 ?_
  all_goals (refine WC.region ?_)
  all_goals (refine Go ?_)
  all_goals (refine WL.step (ok_load (fun w => Tryz.isAgg30 w) rfl (by first | assumption | exact cell_blk (by assumption) rfl)) rfl rfl rfl ?_)
  all_goals (refine Go ?_)
  all_goals (refine WL.stepR0 (okE_store (fun w => Tryz.sizeOf30 w) rfl rfl (by assumption) (Nat.le_of_ble_eq_true rfl) rfl rfl) rfl rfl ?_
             rintro _ h5 ⟨hb5, hE⟩)
  all_goals (have hb2z := hE.obj hb2c n23)
  all_goals (refine Gn ?_)
  skip))
  all_goals (first | (fail_if_success refine goB 18 ?_) | (
  refine goB 18 ?_
  all_goals (refine WC.skip ?_)
  skip))
  skip))
  skip))
  skip))
  skip))
  skip))
  skip))
  skip))
  all_goals (refine Gn ?_)
  all_goals (refine WC.sr ?_)
  all_goals (refine WL.step (ok_loadN (fun w => Tryz.isAgg32 w) (fun w => Tryz.sizeOf32 w) rfl rfl (by exact (by first | exact At.of_block hb6 | exact At.of_block hb5 | exact At.of_block hb4))) rfl rfl rfl ?_)
  all_goals (refine WL.stepR0 (okE_storeW (fun w => Tryz.sizeOf32 w) rfl rfl rfl (by first | exact hb2z | exact hb2c) rfl (by simp [Value.oneCell'])) rfl rfl ?_
             rintro _ h9 ⟨hb9, hx9⟩)
  all_goals (refine Gn ?_)
  all_goals (refine WC.sub [(2, _)] ⟨rfl, trivial⟩ ?_)
  all_goals (refine WC.ret ?_)
  all_goals (repeat' (with_reducible first | refine thenP_r ?_ | refine blockP_r ?_))
  all_goals (refine retP_1 _ ⟨⟨_, rfl, ld_blk (fun w => Tryz.isAgg32 w) (fun w => Tryz.sizeOf32 w) (by assumption) rfl⟩, trivial⟩ ?_)
  all_goals (have hs1 := hx1.size
             have hs2 := hx2.size
             refine ⟨?_, by first | exact (hX4.trans' hE (fun q hq e => by omega)).trans' hx9 (fun q hq e => by omega) | exact hX4.trans' hx9 (fun q hq e => by omega)⟩
             first
              | (exfalso; omega)
              | (simp only [ofB, if_pos, *]; rfl)
              | (simp [ofB, zB, Bk.cells, *]; done))

set_option maxHeartbeats 4000000 in
set_option maxRecDepth 100000 in
theorem same07A {h : Heap} (a b : Bk) (ha : a.ok h) (hb : b.ok h) :
    CallsH Tryz.prog 105 ⟨[.agg ⟨a.cells⟩, .agg ⟨b.cells⟩]⟩ h fun u h' => (∃ x, u = .bool x ∧ (x = true ↔ a.pl = b.pl)) ∧ Ext No h h' := by
  obtain ⟨k1, s1, t1, n1, v1, x1, y1, vo1, l1, vc1, c1, vr1, r1, vf1, f1⟩ := a
  obtain ⟨k2, s2, t2, n2, v2, x2, y2, vo2, l2, vc2, c2, vr2, r2, vf2, f2⟩ := b
  obtain ⟨⟨ao, hlo⟩, ⟨ac, hlc⟩, ar, af, hlf⟩ := ha
  obtain ⟨⟨bo, hmo⟩, ⟨bc, hmc⟩, br, bf, hmf⟩ := hb
  simp only at ao ac ar af bo bc br bf hlo hlc hlf hmo hmc hmf
  obtain ⟨Ao, co, rfl, _⟩ := id ao
  obtain ⟨Bo, do_, rfl, _⟩ := id bo
  obtain ⟨Ac, cc, rfl, _⟩ := id ac
  obtain ⟨Bc, dc, rfl, _⟩ := id bc
  obtain ⟨Af, cf, rfl, _⟩ := id af
  obtain ⟨Bf, df, rfl, _⟩ := id bf
  dsimp only [Bk.cells]
  have hpc : (k1 = k2 ∧ s1 = s2 ∧ t1 = t2 ∧ n1 = n2 ∧ v1 = v2 ∧ x1 = x2 ∧ y1 = y2) ∨ k1 ≠ k2 ∨ (k1 = k2 ∧ s1 ≠ s2) ∨ (k1 = k2 ∧ s1 = s2 ∧ t1 ≠ t2) ∨ (k1 = k2 ∧ s1 = s2 ∧ t1 = t2 ∧ n1 ≠ n2) ∨ (k1 = k2 ∧ s1 = s2 ∧ t1 = t2 ∧ n1 = n2 ∧ v1 ≠ v2) ∨ (k1 = k2 ∧ s1 = s2 ∧ t1 = t2 ∧ n1 = n2 ∧ v1 = v2 ∧ x1 ≠ x2) ∨ (k1 = k2 ∧ s1 = s2 ∧ t1 = t2 ∧ n1 = n2 ∧ v1 = v2 ∧ x1 = x2 ∧ y1 ≠ y2) := by
    by_cases e1 : k1 = k2
    · by_cases e2 : s1 = s2
      · by_cases e3 : t1 = t2
        · by_cases e4 : n1 = n2
          · by_cases e5 : v1 = v2
            · simp only [e1, e2, e3, e4, e5, true_and, ne_eq, not_true_eq_false, false_or]; omega
            · exact .inr (.inr (.inr (.inr (.inr (.inl ⟨e1, e2, e3, e4, e5⟩)))))
          · exact .inr (.inr (.inr (.inr (.inl ⟨e1, e2, e3, e4⟩))))
        · exact .inr (.inr (.inr (.inl ⟨e1, e2, e3⟩)))
      · exact .inr (.inr (.inl ⟨e1, e2⟩))
    · exact .inr (.inl e1)
  unfold maxLen at hlc hlf hmc hmf
  rcases hpc with ⟨rfl, rfl, rfl, rfl, rfl, rfl, rfl⟩ | q | ⟨rfl, q⟩ | ⟨rfl, rfl, q⟩ | ⟨rfl, rfl, rfl, q⟩ | ⟨rfl, rfl, rfl, rfl, q⟩ | ⟨rfl, rfl, rfl, rfl, rfl, q⟩ | ⟨rfl, rfl, rfl, rfl, rfl, rfl, q⟩
  case inl =>
    refine calls [(0, _), (1, _)] Tryz.func105 rfl Tryz.ntmps105 rfl ⟨rfl, rfl, trivial⟩ ?_
    all_goals (refine WC.sr ?_)
    all_goals (refine WL.stepR (okE_box rfl) rfl rfl rfl ?_
               rintro _ h1 ⟨b1, rfl, hg1, hb1, hx1⟩)
    all_goals (refine WL.stepR (okE_box rfl) rfl rfl rfl ?_
               rintro _ h2 ⟨b2, rfl, hg2, hb2, hx2⟩)
    all_goals (have hb1' := hx2.obj hb1 nos
               have hx := hx1.trans hx2)
    all_goals (refine Go ?_)
    all_goals (refine WC.sr ?_)
    all_goals (refine Go ?_)
    all_goals (refine WL.step (ok_load (fun w => Tryz.isAgg5 w) rfl (by first | assumption | exact cell_blk (by assumption) rfl)) rfl rfl rfl ?_)
    all_goals (refine Go ?_)
    all_goals (refine WL.step (ok_load (fun w => Tryz.isAgg5 w) rfl (by first | assumption | exact cell_blk (by assumption) rfl)) rfl rfl rfl ?_)
    all_goals (refine Go ?_)
    all_goals (refine goP 13 ?_ ?_ <;> first | exact ⟨⟩ | refine Hb.mk fun hb => ?_ | skip)
    all_goals (refine Gg ?_)
    all_goals (first | (refine WL.pass rfl rfl rfl ?_) | (refine WL.step (ok_load (fun w => Tryz.isAgg5 w) rfl (by first | assumption | exact cell_blk (by assumption) rfl)) rfl rfl rfl ?_))
    all_goals (refine Gg ?_)
    all_goals (first | (refine WL.pass rfl rfl rfl ?_) | (refine WL.step (ok_load (fun w => Tryz.isAgg5 w) rfl (by first | assumption | exact cell_blk (by assumption) rfl)) rfl rfl rfl ?_))
    all_goals (refine Gg ?_)
    all_goals (refine Go ?_)
    all_goals (refine goP 20 ?_ ?_ <;> first | exact ⟨⟩ | refine Hb.mk fun hb => ?_ | skip)
    all_goals (refine Gg ?_)
    all_goals (first | (refine WL.pass rfl rfl rfl ?_) | (refine WL.step (ok_load (fun w => Tryz.isAgg9 w) rfl (by first | assumption | exact cell_blk (by assumption) rfl)) rfl rfl rfl ?_))
    all_goals (refine Gg ?_)
    all_goals (first | (refine WL.pass rfl rfl rfl ?_) | (refine WL.step (ok_load (fun w => Tryz.isAgg9 w) rfl (by first | assumption | exact cell_blk (by assumption) rfl)) rfl rfl rfl ?_))
    all_goals (refine Gg ?_)
    all_goals (refine Go ?_)
    all_goals (refine goP 27 ?_ ?_ <;> first | exact ⟨⟩ | refine Hb.mk fun hb => ?_ | skip)
    all_goals (refine Gg ?_)
    all_goals (first | (refine WL.pass rfl rfl rfl ?_) | (refine WL.step (ok_load (fun w => Tryz.isAgg9 w) rfl (by first | assumption | exact cell_blk (by assumption) rfl)) rfl rfl rfl ?_))
    all_goals (refine Gg ?_)
    all_goals (first | (refine WL.pass rfl rfl rfl ?_) | (refine WL.step (ok_load (fun w => Tryz.isAgg9 w) rfl (by first | assumption | exact cell_blk (by assumption) rfl)) rfl rfl rfl ?_))
    all_goals (refine Gg ?_)
    all_goals (refine Go ?_)
    all_goals (refine goP 34 ?_ ?_ <;> first | exact ⟨⟩ | refine Hb.mk fun hb => ?_ | skip)
    all_goals (refine Gg ?_)
    all_goals (first | (refine WL.pass rfl rfl rfl ?_) | (refine WL.step (ok_load (fun w => Tryz.isAgg9 w) rfl (by first | assumption | exact cell_blk (by assumption) rfl)) rfl rfl rfl ?_))
    all_goals (refine Gg ?_)
    all_goals (first | (refine WL.pass rfl rfl rfl ?_) | (refine WL.step (ok_load (fun w => Tryz.isAgg9 w) rfl (by first | assumption | exact cell_blk (by assumption) rfl)) rfl rfl rfl ?_))
    all_goals (refine Gg ?_)
    all_goals (refine Go ?_)
    all_goals (refine goP 41 ?_ ?_ <;> first | exact ⟨⟩ | refine Hb.mk fun hb => ?_ | skip)
    all_goals (refine Gg ?_)
    all_goals (first | (refine WL.pass rfl rfl rfl ?_) | (refine WL.step (ok_load (fun w => Tryz.isAgg3 w) rfl (by first | assumption | exact cell_blk (by assumption) rfl)) rfl rfl rfl ?_))
    all_goals (refine Gg ?_)
    all_goals (first | (refine WL.pass rfl rfl rfl ?_) | (refine WL.step (ok_load (fun w => Tryz.isAgg3 w) rfl (by first | assumption | exact cell_blk (by assumption) rfl)) rfl rfl rfl ?_))
    all_goals (refine Gg ?_)
    all_goals (refine Go ?_)
    all_goals (refine goP 48 ?_ ?_ <;> first | exact ⟨⟩ | refine Hb.mk fun hb => ?_ | skip)
    all_goals (refine Gg ?_)
    all_goals (first | (refine WL.pass rfl rfl rfl ?_) | (refine WL.step (ok_load (fun w => Tryz.isAgg3 w) rfl (by first | assumption | exact cell_blk (by assumption) rfl)) rfl rfl rfl ?_))
    all_goals (refine Gg ?_)
    all_goals (first | (refine WL.pass rfl rfl rfl ?_) | (refine WL.step (ok_load (fun w => Tryz.isAgg3 w) rfl (by first | assumption | exact cell_blk (by assumption) rfl)) rfl rfl rfl ?_))
    all_goals (refine Gg ?_)
    all_goals (refine Go ?_)
    all_goals (refine WC.sub [(2, _), (3, _), (5, _)] ⟨rfl, rfl, rfl, trivial⟩ ?_)
    all_goals (refine WC.seq ?_)
    all_goals (refine WC.sr ?_)
    all_goals (refine Go ?_)
    all_goals (refine goP 57 ?_ ?_ <;> first | exact ⟨⟩ | refine Hb.mk fun hb => ?_ | skip)
    all_goals (refine Gg ?_)
    all_goals (first | (refine WL.pass rfl rfl rfl ?_) | (refine WL.step (ok_load (fun w => Tryz.isAgg27 w) rfl (by first | assumption | exact cell_blk (by assumption) rfl)) rfl rfl rfl ?_))
    all_goals (refine Gg ?_)
    all_goals (first | (refine WL.pass rfl rfl rfl ?_) | (refine WL.step (ok_load (fun w => Tryz.isAgg27 w) rfl (by first | assumption | exact cell_blk (by assumption) rfl)) rfl rfl rfl ?_))
    all_goals (first
                 | (refine WL.pass rfl rfl rfl ?_)
                 | (refine WL.call (vs := [_, _]) rfl (fun a w => Tryz.call125 a w) rfl ((ints_ref l1 l2 (ao.ext0 hx) (bo.ext0 hx) hlo hmo).dec) rfl rfl rfl ?_
                    rintro _ h9 ⟨⟨rfl, ho⟩ | ⟨rfl, ho⟩, hz9⟩
                    all_goals subst h9))
    all_goals (refine Gg ?_)
    all_goals (refine Go ?_)
    all_goals (refine goP 65 ?_ ?_ <;> first | exact ⟨⟩ | refine Hb.mk fun hb => ?_ | skip)
    all_goals (refine Gg ?_)
    all_goals (first | (refine WL.pass rfl rfl rfl ?_) | (refine WL.step (ok_load (fun w => Tryz.isAgg29 w) rfl (by first | assumption | exact cell_blk (by assumption) rfl)) rfl rfl rfl ?_))
    all_goals (refine Gg ?_)
    all_goals (first | (refine WL.pass rfl rfl rfl ?_) | (refine WL.step (ok_load (fun w => Tryz.isAgg29 w) rfl (by first | assumption | exact cell_blk (by assumption) rfl)) rfl rfl rfl ?_))
    all_goals (first
                 | (refine WL.pass rfl rfl rfl ?_)
                 | (refine WL.call (vs := [_, _]) rfl (fun a w => Tryz.call126 a w) rfl ((cells_ref r1 r2 (ar.ext0 hx) (br.ext0 hx)).dec) rfl rfl rfl ?_
                    rintro _ h9 ⟨⟨rfl, hr⟩ | ⟨rfl, hr⟩, hz9⟩
                    all_goals subst h9))
    all_goals (refine Gg ?_)
    all_goals (refine Go ?_)
    all_goals (refine goP 73 ?_ ?_ <;> first | exact ⟨⟩ | refine Hb.mk fun hb => ?_ | skip)
    all_goals (refine Gg ?_)
    all_goals (first | (refine WL.pass rfl rfl rfl ?_) | (refine WL.step (ok_load (fun w => Tryz.isAgg28 w) rfl (by first | assumption | exact cell_blk (by assumption) rfl)) rfl rfl rfl ?_))
    all_goals (refine Gg ?_)
    all_goals (first | (refine WL.pass rfl rfl rfl ?_) | (refine WL.step (ok_load (fun w => Tryz.isAgg28 w) rfl (by first | assumption | exact cell_blk (by assumption) rfl)) rfl rfl rfl ?_))
    all_goals (refine Gg ?_)
    all_goals (refine Go ?_)
    all_goals (refine goP 82 ?_ ?_ <;> first | exact ⟨⟩ | refine Hb.mk fun hb => ?_ | skip)
    all_goals (refine Gg ?_)
    all_goals (first | (refine WL.pass rfl rfl rfl ?_) | (refine WL.step (ok_load (fun w => Tryz.isAgg30 w) rfl (by first | assumption | exact cell_blk (by assumption) rfl)) rfl rfl rfl ?_))
    all_goals (refine Gg ?_)
    all_goals (first | (refine WL.pass rfl rfl rfl ?_) | (refine WL.step (ok_load (fun w => Tryz.isAgg30 w) rfl (by first | assumption | exact cell_blk (by assumption) rfl)) rfl rfl rfl ?_))
    all_goals (refine Gg ?_)
    all_goals (refine Go ?_)
    all_goals (refine WC.sub [(2, _), (3, _), (90, _)] ⟨rfl, rfl, rfl, trivial⟩ ?_)
    all_goals (refine goC 1 2 ?_ ?_ <;> first | exact ⟨⟩ | refine Hb.mk fun hb => ?_ | skip)
    all_goals (first | (fail_if_success refine goB 1 ?_) | (
    refine goB 1 ?_
    all_goals (refine WC.sr ?_)
    all_goals (refine Go ?_)
    all_goals (refine WC.ret ?_)
    all_goals (repeat' (with_reducible first | refine thenP_r ?_ | refine blockP_r ?_))
    all_goals (refine retP_1 _ ⟨rfl, trivial⟩ ?_)
    all_goals (first
                | (refine ⟨⟨false, rfl, ⟨fun z => (by cases z), fun z => ?_⟩⟩, hx⟩
                   exfalso
                   simp only [Bk.pl, Prod.mk.injEq, true_and] at z
                   obtain ⟨z8, z9, z10, z11⟩ := z
                   first | exact ho z8 | exact hr z10 | exact hyz (by subst z9; rw [hy] at hz; exact Option.some.inj hz) | exact hyw (by subst z11; rw [hy] at hz; exact Option.some.inj hz) | (subst z9; subst z11; omega))
                | (refine ⟨⟨true, rfl, ⟨fun _ => ?_, fun _ => rfl⟩⟩, hx⟩
                   have hff : f1 = f2 := (by rw [List.take_of_length_le (by omega), List.take_of_length_le (by omega)] at hm; exact hm)
                   simp [Bk.pl, ho, hr, hcc, hff]))
    skip))
    all_goals (first | (fail_if_success refine goB 2 ?_) | (
    refine goB 2 ?_
    all_goals (refine WC.skip ?_)
    skip))
    all_goals (refine Gn ?_)
    all_goals (refine WC.seq ?_)
    all_goals (refine WC.sr ?_)
    all_goals (refine Go ?_)
    all_goals (refine WC.block ?_)
    -- loop 0: slots that turn [6], that stay [2, 3]
    all_goals (refine WC.loopG (X := Nat) (fun x => ([(6, In (x : Int))] : Fr)) [(2, _), (3, _)] (fun k h' => h' = h2 ∧ k ≤ c1.length ∧ c1.length = c2.length ∧ f1.length = f2.length ∧ c1.take k = c2.take k) (fun k => c1.length - k) (0) ⟨rfl, rfl, rfl, trivial⟩ (by exact ⟨rfl, Nat.zero_le _, by omega, by omega, by simp⟩) ?_)
    all_goals (rintro k h9 ⟨hz, hk, hlC, hlF, hn⟩
               subst h9)
    all_goals (refine WC.sub [(6, _), (2, _), (3, _)] ⟨rfl, rfl, rfl, trivial⟩ ?_)
    all_goals (refine WC.seq ?_)
    all_goals (refine WC.sr ?_)
    all_goals (refine Go ?_)
    all_goals (refine WL.step (ok_load (fun w => Tryz.isAgg28 w) rfl (by first | assumption | exact cell_blk (by assumption) rfl)) rfl rfl rfl ?_)
    all_goals (refine Go ?_)
    all_goals (refine WC.sub [(2, _), (3, _), (6, _), (95, _)] ⟨rfl, rfl, rfl, rfl, trivial⟩ ?_)
    all_goals (refine goC 3 4 ?_ ?_ <;> first | exact ⟨⟩ | refine Hb.mk fun hb => ?_ | skip)
    all_goals (first | (fail_if_success refine goB 3 ?_) | (
    refine goB 3 ?_
    all_goals (refine WC.skip ?_)
    skip))
    all_goals (first | (fail_if_success refine goB 4 ?_) | (
    refine goB 4 ?_
    all_goals (refine WC.exit ?_)
    all_goals (repeat' (with_reducible first | refine thenP_x ?_ | refine blockP_miss rfl ?_ | refine blockP_hit ?_ | refine blockP_n ?_ | refine thenP_n ?_))
    all_goals (refine Br.out (i := 1000) ?_)
    skip))
    all_goals (refine Gn ?_)
    all_goals (first | (refine Br.keep ?_) | (refine WC.seq ?_))
    all_goals (first | (refine Br.keep ?_) | (refine WC.block ?_))
    all_goals (first | (refine Br.keep ?_) | (refine WC.seq ?_))
    all_goals (first
                 | (refine Br.keep ?_)
                 | (obtain ⟨g, o, hA, hbL, hat⟩ := Rd.at_ (ac.ext0 hx) (by omega)
                    obtain ⟨g2, o2, hB, hbL2, hat2⟩ := Rd.at_ (bc.ext0 hx) (by omega)
                    obtain ⟨y, hy⟩ : ∃ y, c1[k]? = some y := ⟨_, List.getElem?_eq_getElem (by omega)⟩
                    obtain ⟨z, hz⟩ : ∃ y, c2[k]? = some y := ⟨_, List.getElem?_eq_getElem (by omega)⟩
                    have at1 : At _ g (o + k * 7) y.cells := At.elem ColD.len hat hy
                    have at2 : At _ g2 (o2 + k * 7) z.cells := At.elem ColD.len hat2 hz
                    by_cases hyz : y = z))
    all_goals (first | (refine Br.keep ?_) | (refine WC.drawE fol (by kernel_rfl) ?_))
    all_goals (first | (refine Br.keep ?_) | (refine WQ.stepE (ok_fieldAddr rfl Tryz.underlying32 rfl (fun w => Tryz.sizeOf28 w)) rfl rfl rfl ?_))
    all_goals (first | (refine Br.keep ?_) | (refine WQ.stepE (ok_load (fun w => Tryz.isAgg28 w) rfl (by first | assumption | exact cell_blk (by assumption) rfl)) rfl rfl rfl ?_))
    all_goals (first | (refine Br.keep ?_) | (refine WQ.stepE (ok_move rfl) rfl rfl rfl ?_))
    all_goals (first | (refine Br.keep ?_) | (refine WQ.stepE (ok_idxAddrA Tryz.underlying28 (fun w => Tryz.sizeOf46 w) rfl rfl rfl (by omega) (by first | rfl | assumption)) rfl rfl rfl ?_))
    all_goals (first | (refine Br.keep ?_) | (refine WQ.stepE (ok_loadN (fun w => Tryz.isAgg46 w) (fun w => Tryz.sizeOf46 w) rfl rfl (by assumption)) rfl rfl rfl ?_))
    all_goals (first | (refine Br.keep ?_) | (refine WQ.stepE (ok_fieldAddr rfl Tryz.underlying32 rfl (fun w => Tryz.sizeOf28 w)) rfl rfl rfl ?_))
    all_goals (first | (refine Br.keep ?_) | (refine WQ.stepE (ok_load (fun w => Tryz.isAgg28 w) rfl (by first | assumption | exact cell_blk (by assumption) rfl)) rfl rfl rfl ?_))
    all_goals (first | (refine Br.keep ?_) | (refine WQ.stepE (ok_move rfl) rfl rfl rfl ?_))
    all_goals (first | (refine Br.keep ?_) | (refine WQ.stepE (ok_idxAddrA Tryz.underlying28 (fun w => Tryz.sizeOf46 w) rfl rfl rfl (by omega) (by first | rfl | assumption)) rfl rfl rfl ?_))
    all_goals (first | (refine Br.keep ?_) | (refine WQ.stepE (ok_loadN (fun w => Tryz.isAgg46 w) (fun w => Tryz.sizeOf46 w) rfl rfl (by assumption)) rfl rfl rfl ?_))
    all_goals (first | (refine Br.keep ?_) | (first | (refine WQ.stepE (OkP.nbool_f (congrArg (·.sca) hyz) (ok_neqF (us := y.sca) (vs := z.sca) [.s, .i .i64, .i .i64, .i .i64, .i .i64, .i .i64, .i .i64] (by kernel_rfl) rfl rfl rfl rfl)) rfl rfl rfl ?_) | (refine WQ.stepE (OkP.nbool_t (fun e => hyz ((ColD.inj _ _).1 e)) (ok_neqF (us := y.sca) (vs := z.sca) [.s, .i .i64, .i .i64, .i .i64, .i .i64, .i .i64, .i .i64] (by kernel_rfl) rfl rfl rfl rfl)) rfl rfl rfl ?_)))
    all_goals (first | (refine Br.keep ?_) | (refine WQ.nil ?_))
    all_goals (refine Gn ?_)
    all_goals (first | (refine Br.keep ?_) | (refine WC.sub [(2, _), (3, _), (6, _), (108, _)] ⟨rfl, rfl, rfl, rfl, trivial⟩ ?_))
    all_goals (first | (refine Br.keep ?_) | (refine goC 5 6 ?_ ?_ <;> first | exact ⟨⟩ | refine Hb.mk fun hb => ?_ | skip))
    all_goals (first | (fail_if_success refine goB 5 ?_) | (
    refine goB 5 ?_
    all_goals (refine WC.sr ?_)
    all_goals (refine Go ?_)
    all_goals (refine WC.sub [(4, _)] ⟨rfl, trivial⟩ ?_)
    all_goals (refine WC.ret ?_)
    all_goals (repeat' (with_reducible first | refine thenP_r ?_ | refine blockP_r ?_))
    all_goals (refine retP_1 _ ⟨rfl, trivial⟩ ?_)
    all_goals (first
                | (refine ⟨⟨false, rfl, ⟨fun z => (by cases z), fun z => ?_⟩⟩, hx⟩
                   exfalso
                   simp only [Bk.pl, Prod.mk.injEq, true_and] at z
                   obtain ⟨z8, z9, z10, z11⟩ := z
                   first | exact ho z8 | exact hr z10 | exact hyz (by subst z9; rw [hy] at hz; exact Option.some.inj hz) | exact hyw (by subst z11; rw [hy] at hz; exact Option.some.inj hz) | (subst z9; subst z11; omega))
                | (refine ⟨⟨true, rfl, ⟨fun _ => ?_, fun _ => rfl⟩⟩, hx⟩
                   have hff : f1 = f2 := (by rw [List.take_of_length_le (by omega), List.take_of_length_le (by omega)] at hm; exact hm)
                   simp [Bk.pl, ho, hr, hcc, hff]))
    skip))
    all_goals (first | (fail_if_success refine goB 6 ?_) | (
    refine goB 6 ?_
    all_goals (refine WC.skip ?_)
    skip))
    all_goals (refine Gn ?_)
    all_goals (first | (refine Br.keep ?_) | (refine WC.region ?_))
    all_goals (refine Go ?_)
    all_goals (first | (refine Br.keep ?_) | (exact ⟨k + 1, ⟨rfl, rfl, rfl, trivial⟩, (by exact ⟨rfl, by omega, hlC, hlF, by rw [List.take_add_one, List.take_add_one, hn, hy, hz, hyz]⟩), (by omega)⟩))
    all_goals (try (refine Br.mk (i := 1000) ?_))
    all_goals (refine Gn ?_)
    all_goals (refine WC.seq ?_)
    all_goals (refine WC.sr ?_)
    all_goals (refine Go ?_)
    all_goals (refine WC.block ?_)
    -- loop 1: slots that turn [7], that stay [2, 3]
    all_goals (refine WC.loopG (X := Nat) (fun x => ([(7, In (x : Int))] : Fr)) [(2, _), (3, _)] (fun k h' => h' = h2 ∧ k ≤ f1.length ∧ f1.length = f2.length ∧ f1.take k = f2.take k) (fun k => f1.length - k) (0) ⟨rfl, rfl, rfl, trivial⟩ (by exact ⟨rfl, Nat.zero_le _, hlF, by simp⟩) ?_)
    all_goals (have hcc : c1 = c2 := (by rw [List.take_of_length_le (by omega), List.take_of_length_le (by omega)] at hn; exact hn)
               rintro j h9 ⟨hz, hj, hlF, hm⟩
               subst h9)
    all_goals (refine WC.sub [(7, _), (2, _), (3, _)] ⟨rfl, rfl, rfl, trivial⟩ ?_)
    all_goals (refine WC.seq ?_)
    all_goals (refine WC.sr ?_)
    all_goals (refine Go ?_)
    all_goals (refine WL.step (ok_load (fun w => Tryz.isAgg30 w) rfl (by first | assumption | exact cell_blk (by assumption) rfl)) rfl rfl rfl ?_)
    all_goals (refine Go ?_)
    all_goals (refine WC.sub [(2, _), (3, _), (7, _), (113, _)] ⟨rfl, rfl, rfl, rfl, trivial⟩ ?_)
    all_goals (refine goC 7 8 ?_ ?_ <;> first | exact ⟨⟩ | refine Hb.mk fun hb => ?_ | skip)
    all_goals (first | (fail_if_success refine goB 7 ?_) | (
    refine goB 7 ?_
    all_goals (refine WC.skip ?_)
    skip))
    all_goals (first | (fail_if_success refine goB 8 ?_) | (
    refine goB 8 ?_
    all_goals (refine WC.exit ?_)
    all_goals (repeat' (with_reducible first | refine thenP_x ?_ | refine blockP_miss rfl ?_ | refine blockP_hit ?_ | refine blockP_n ?_ | refine thenP_n ?_))
    all_goals (refine Br.out (i := 1002) ?_)
    skip))
    all_goals (refine Gn ?_)
    all_goals (first | (refine Br.keep ?_) | (refine WC.seq ?_))
    all_goals (first | (refine Br.keep ?_) | (refine WC.block ?_))
    all_goals (first | (refine Br.keep ?_) | (refine WC.seq ?_))
    all_goals (first
                 | (refine Br.keep ?_)
                 | (obtain ⟨g, o, hA, hbL, hat⟩ := Rd.at_ (af.ext0 hx) (by omega)
                    obtain ⟨g2, o2, hB, hbL2, hat2⟩ := Rd.at_ (bf.ext0 hx) (by omega)
                    obtain ⟨y, hy⟩ : ∃ y, f1[j]? = some y := ⟨_, List.getElem?_eq_getElem (by omega)⟩
                    obtain ⟨z, hz⟩ : ∃ y, f2[j]? = some y := ⟨_, List.getElem?_eq_getElem (by omega)⟩
                    have at1 : At _ g (o + j * 2) y.cells := At.elem FieldD.len hat hy
                    have at2 : At _ g2 (o2 + j * 2) z.cells := At.elem FieldD.len hat2 hz
                    by_cases hyw : y = z))
    all_goals (first | (refine Br.keep ?_) | (refine WC.drawE fol (by kernel_rfl) ?_))
    all_goals (first | (refine Br.keep ?_) | (refine WQ.stepE (ok_fieldAddr rfl Tryz.underlying32 rfl (fun w => Tryz.sizeOf30 w)) rfl rfl rfl ?_))
    all_goals (first | (refine Br.keep ?_) | (refine WQ.stepE (ok_load (fun w => Tryz.isAgg30 w) rfl (by first | assumption | exact cell_blk (by assumption) rfl)) rfl rfl rfl ?_))
    all_goals (first | (refine Br.keep ?_) | (refine WQ.stepE (ok_move rfl) rfl rfl rfl ?_))
    all_goals (first | (refine Br.keep ?_) | (refine WQ.stepE (ok_idxAddrA Tryz.underlying30 (fun w => Tryz.sizeOf54 w) rfl rfl rfl (by omega) (by first | rfl | assumption)) rfl rfl rfl ?_))
    all_goals (first | (refine Br.keep ?_) | (refine WQ.stepE (ok_loadN (fun w => Tryz.isAgg54 w) (fun w => Tryz.sizeOf54 w) rfl rfl (by assumption)) rfl rfl rfl ?_))
    all_goals (first | (refine Br.keep ?_) | (refine WQ.stepE (ok_fieldAddr rfl Tryz.underlying32 rfl (fun w => Tryz.sizeOf30 w)) rfl rfl rfl ?_))
    all_goals (first | (refine Br.keep ?_) | (refine WQ.stepE (ok_load (fun w => Tryz.isAgg30 w) rfl (by first | assumption | exact cell_blk (by assumption) rfl)) rfl rfl rfl ?_))
    all_goals (first | (refine Br.keep ?_) | (refine WQ.stepE (ok_move rfl) rfl rfl rfl ?_))
    all_goals (first | (refine Br.keep ?_) | (refine WQ.stepE (ok_idxAddrA Tryz.underlying30 (fun w => Tryz.sizeOf54 w) rfl rfl rfl (by omega) (by first | rfl | assumption)) rfl rfl rfl ?_))
    all_goals (first | (refine Br.keep ?_) | (refine WQ.stepE (ok_loadN (fun w => Tryz.isAgg54 w) (fun w => Tryz.sizeOf54 w) rfl rfl (by assumption)) rfl rfl rfl ?_))
    all_goals (first | (refine Br.keep ?_) | (first | (refine WQ.stepE (OkP.nbool_f (congrArg (·.sca) hyw) (ok_neqF (us := y.sca) (vs := z.sca) [.i .u8, .s] (by kernel_rfl) rfl rfl rfl rfl)) rfl rfl rfl ?_) | (refine WQ.stepE (OkP.nbool_t (fun e => hyw ((FieldD.inj _ _).1 e)) (ok_neqF (us := y.sca) (vs := z.sca) [.i .u8, .s] (by kernel_rfl) rfl rfl rfl rfl)) rfl rfl rfl ?_)))
    all_goals (first | (refine Br.keep ?_) | (refine WQ.nil ?_))
    all_goals (refine Gn ?_)
    all_goals (first | (refine Br.keep ?_) | (refine WC.sub [(2, _), (3, _), (7, _), (126, _)] ⟨rfl, rfl, rfl, rfl, trivial⟩ ?_))
    all_goals (first | (refine Br.keep ?_) | (refine goC 9 10 ?_ ?_ <;> first | exact ⟨⟩ | refine Hb.mk fun hb => ?_ | skip))
    all_goals (first | (fail_if_success refine goB 9 ?_) | (
    refine goB 9 ?_
    all_goals (refine WC.sr ?_)
    all_goals (refine Go ?_)
    all_goals (refine WC.sub [(4, _)] ⟨rfl, trivial⟩ ?_)
    all_goals (refine WC.ret ?_)
    all_goals (repeat' (with_reducible first | refine thenP_r ?_ | refine blockP_r ?_))
    all_goals (refine retP_1 _ ⟨rfl, trivial⟩ ?_)
    all_goals (first
                | (refine ⟨⟨false, rfl, ⟨fun z => (by cases z), fun z => ?_⟩⟩, hx⟩
                   exfalso
                   simp only [Bk.pl, Prod.mk.injEq, true_and] at z
                   obtain ⟨z8, z9, z10, z11⟩ := z
                   first | exact ho z8 | exact hr z10 | exact hyz (by subst z9; rw [hy] at hz; exact Option.some.inj hz) | exact hyw (by subst z11; rw [hy] at hz; exact Option.some.inj hz) | (subst z9; subst z11; omega))
                | (refine ⟨⟨true, rfl, ⟨fun _ => ?_, fun _ => rfl⟩⟩, hx⟩
                   have hff : f1 = f2 := (by rw [List.take_of_length_le (by omega), List.take_of_length_le (by omega)] at hm; exact hm)
                   simp [Bk.pl, ho, hr, hcc, hff]))
    skip))
    all_goals (first | (fail_if_success refine goB 10 ?_) | (
    refine goB 10 ?_
    all_goals (refine WC.skip ?_)
    skip))
    all_goals (refine Gn ?_)
    all_goals (first | (refine Br.keep ?_) | (refine WC.region ?_))
    all_goals (refine Go ?_)
    all_goals (first | (refine Br.keep ?_) | (exact ⟨j + 1, ⟨rfl, rfl, rfl, trivial⟩, (by exact ⟨rfl, by omega, hlF, by rw [List.take_add_one, List.take_add_one, hm, hy, hz, hyw]⟩), (by omega)⟩))
    all_goals (try (refine Br.mk (i := 1002) ?_))
    all_goals (refine Gn ?_)
    all_goals (refine WC.sub [] trivial ?_)
    all_goals (refine WC.sr ?_)
    all_goals (refine Go ?_)
    all_goals (refine WC.ret ?_)
    all_goals (repeat' (with_reducible first | refine thenP_r ?_ | refine blockP_r ?_))
    all_goals (refine retP_1 _ ⟨rfl, trivial⟩ ?_)
    all_goals (first
                | (refine ⟨⟨false, rfl, ⟨fun z => (by cases z), fun z => ?_⟩⟩, hx⟩
                   exfalso
                   simp only [Bk.pl, Prod.mk.injEq, true_and] at z
                   obtain ⟨z8, z9, z10, z11⟩ := z
                   first | exact ho z8 | exact hr z10 | exact hyz (by subst z9; rw [hy] at hz; exact Option.some.inj hz) | exact hyw (by subst z11; rw [hy] at hz; exact Option.some.inj hz) | (subst z9; subst z11; omega))
                | (refine ⟨⟨true, rfl, ⟨fun _ => ?_, fun _ => rfl⟩⟩, hx⟩
                   have hff : f1 = f2 := (by rw [List.take_of_length_le (by omega), List.take_of_length_le (by omega)] at hm; exact hm)
                   simp [Bk.pl, ho, hr, hcc, hff]))
  all_goals
    refine calls [(0, _), (1, _)] Tryz.func105 rfl Tryz.ntmps105 rfl ⟨rfl, rfl, trivial⟩ ?_
    all_goals (refine WC.sr ?_)
    all_goals (refine WL.stepR (okE_box rfl) rfl rfl rfl ?_
               rintro _ h1 ⟨b1, rfl, hg1, hb1, hx1⟩)
    all_goals (refine WL.stepR (okE_box rfl) rfl rfl rfl ?_
               rintro _ h2 ⟨b2, rfl, hg2, hb2, hx2⟩)
    all_goals (have hb1' := hx2.obj hb1 nos
               have hx := hx1.trans hx2)
    all_goals (refine Go ?_)
    all_goals (refine WC.sr ?_)
    all_goals (refine Go ?_)
    all_goals (refine WL.step (ok_load (fun w => Tryz.isAgg5 w) rfl (by first | assumption | exact cell_blk (by assumption) rfl)) rfl rfl rfl ?_)
    all_goals (refine Go ?_)
    all_goals (refine WL.step (ok_load (fun w => Tryz.isAgg5 w) rfl (by first | assumption | exact cell_blk (by assumption) rfl)) rfl rfl rfl ?_)
    all_goals (refine Go ?_)
    all_goals (refine goP 13 ?_ ?_ <;> first | exact ⟨⟩ | refine Hb.mk fun hb => ?_ | skip)
    all_goals (refine Gg ?_)
    all_goals (first | (refine WL.pass rfl rfl rfl ?_) | (refine WL.step (ok_load (fun w => Tryz.isAgg5 w) rfl (by first | assumption | exact cell_blk (by assumption) rfl)) rfl rfl rfl ?_))
    all_goals (refine Gg ?_)
    all_goals (first | (refine WL.pass rfl rfl rfl ?_) | (refine WL.step (ok_load (fun w => Tryz.isAgg5 w) rfl (by first | assumption | exact cell_blk (by assumption) rfl)) rfl rfl rfl ?_))
    all_goals (refine Gg ?_)
    all_goals (refine Go ?_)
    all_goals (refine goP 20 ?_ ?_ <;> first | exact ⟨⟩ | refine Hb.mk fun hb => ?_ | skip)
    all_goals (refine Gg ?_)
    all_goals (first | (refine WL.pass rfl rfl rfl ?_) | (refine WL.step (ok_load (fun w => Tryz.isAgg9 w) rfl (by first | assumption | exact cell_blk (by assumption) rfl)) rfl rfl rfl ?_))
    all_goals (refine Gg ?_)
    all_goals (first | (refine WL.pass rfl rfl rfl ?_) | (refine WL.step (ok_load (fun w => Tryz.isAgg9 w) rfl (by first | assumption | exact cell_blk (by assumption) rfl)) rfl rfl rfl ?_))
    all_goals (refine Gg ?_)
    all_goals (refine Go ?_)
    all_goals (refine goP 27 ?_ ?_ <;> first | exact ⟨⟩ | refine Hb.mk fun hb => ?_ | skip)
    all_goals (refine Gg ?_)
    all_goals (first | (refine WL.pass rfl rfl rfl ?_) | (refine WL.step (ok_load (fun w => Tryz.isAgg9 w) rfl (by first | assumption | exact cell_blk (by assumption) rfl)) rfl rfl rfl ?_))
    all_goals (refine Gg ?_)
    all_goals (first | (refine WL.pass rfl rfl rfl ?_) | (refine WL.step (ok_load (fun w => Tryz.isAgg9 w) rfl (by first | assumption | exact cell_blk (by assumption) rfl)) rfl rfl rfl ?_))
    all_goals (refine Gg ?_)
    all_goals (refine Go ?_)
    all_goals (refine goP 34 ?_ ?_ <;> first | exact ⟨⟩ | refine Hb.mk fun hb => ?_ | skip)
    all_goals (refine Gg ?_)
    all_goals (first | (refine WL.pass rfl rfl rfl ?_) | (refine WL.step (ok_load (fun w => Tryz.isAgg9 w) rfl (by first | assumption | exact cell_blk (by assumption) rfl)) rfl rfl rfl ?_))
    all_goals (refine Gg ?_)
    all_goals (first | (refine WL.pass rfl rfl rfl ?_) | (refine WL.step (ok_load (fun w => Tryz.isAgg9 w) rfl (by first | assumption | exact cell_blk (by assumption) rfl)) rfl rfl rfl ?_))
    all_goals (refine Gg ?_)
    all_goals (refine Go ?_)
    all_goals (refine goP 41 ?_ ?_ <;> first | exact ⟨⟩ | refine Hb.mk fun hb => ?_ | skip)
    all_goals (refine Gg ?_)
    all_goals (first | (refine WL.pass rfl rfl rfl ?_) | (refine WL.step (ok_load (fun w => Tryz.isAgg3 w) rfl (by first | assumption | exact cell_blk (by assumption) rfl)) rfl rfl rfl ?_))
    all_goals (refine Gg ?_)
    all_goals (first | (refine WL.pass rfl rfl rfl ?_) | (refine WL.step (ok_load (fun w => Tryz.isAgg3 w) rfl (by first | assumption | exact cell_blk (by assumption) rfl)) rfl rfl rfl ?_))
    all_goals (refine Gg ?_)
    all_goals (refine Go ?_)
    all_goals (refine goP 48 ?_ ?_ <;> first | exact ⟨⟩ | refine Hb.mk fun hb => ?_ | skip)
    all_goals (refine Gg ?_)
    all_goals (first | (refine WL.pass rfl rfl rfl ?_) | (refine WL.step (ok_load (fun w => Tryz.isAgg3 w) rfl (by first | assumption | exact cell_blk (by assumption) rfl)) rfl rfl rfl ?_))
    all_goals (refine Gg ?_)
    all_goals (first | (refine WL.pass rfl rfl rfl ?_) | (refine WL.step (ok_load (fun w => Tryz.isAgg3 w) rfl (by first | assumption | exact cell_blk (by assumption) rfl)) rfl rfl rfl ?_))
    all_goals (refine Gg ?_)
    all_goals (refine Go ?_)
    all_goals (refine WC.sub [(2, _), (3, _), (5, _)] ⟨rfl, rfl, rfl, trivial⟩ ?_)
    all_goals (refine WC.seq ?_)
    all_goals (refine WC.sr ?_)
    all_goals (refine Go ?_)
    all_goals (refine goP 57 ?_ ?_ <;> first | exact ⟨⟩ | refine Hb.mk fun hb => ?_ | skip)
    all_goals (refine Gg ?_)
    all_goals (first | (refine WL.pass rfl rfl rfl ?_) | (refine WL.step (ok_load (fun w => Tryz.isAgg27 w) rfl (by first | assumption | exact cell_blk (by assumption) rfl)) rfl rfl rfl ?_))
    all_goals (refine Gg ?_)
    all_goals (first | (refine WL.pass rfl rfl rfl ?_) | (refine WL.step (ok_load (fun w => Tryz.isAgg27 w) rfl (by first | assumption | exact cell_blk (by assumption) rfl)) rfl rfl rfl ?_))
    all_goals (first
                 | (refine WL.pass rfl rfl rfl ?_)
                 | (refine WL.call (vs := [_, _]) rfl (fun a w => Tryz.call125 a w) rfl ((ints_ref l1 l2 (ao.ext0 hx) (bo.ext0 hx) hlo hmo).dec) rfl rfl rfl ?_
                    rintro _ h9 ⟨⟨rfl, ho⟩ | ⟨rfl, ho⟩, hz9⟩
                    all_goals subst h9))
    all_goals (refine Gg ?_)
    all_goals (refine Go ?_)
    all_goals (refine goP 65 ?_ ?_ <;> first | exact ⟨⟩ | refine Hb.mk fun hb => ?_ | skip)
    all_goals (refine Gg ?_)
    all_goals (first | (refine WL.pass rfl rfl rfl ?_) | (refine WL.step (ok_load (fun w => Tryz.isAgg29 w) rfl (by first | assumption | exact cell_blk (by assumption) rfl)) rfl rfl rfl ?_))
    all_goals (refine Gg ?_)
    all_goals (first | (refine WL.pass rfl rfl rfl ?_) | (refine WL.step (ok_load (fun w => Tryz.isAgg29 w) rfl (by first | assumption | exact cell_blk (by assumption) rfl)) rfl rfl rfl ?_))
    all_goals (first
                 | (refine WL.pass rfl rfl rfl ?_)
                 | (refine WL.call (vs := [_, _]) rfl (fun a w => Tryz.call126 a w) rfl ((cells_ref r1 r2 (ar.ext0 hx) (br.ext0 hx)).dec) rfl rfl rfl ?_
                    rintro _ h9 ⟨⟨rfl, hr⟩ | ⟨rfl, hr⟩, hz9⟩
                    all_goals subst h9))
    all_goals (refine Gg ?_)
    all_goals (refine Go ?_)
    all_goals (refine goP 73 ?_ ?_ <;> first | exact ⟨⟩ | refine Hb.mk fun hb => ?_ | skip)
    all_goals (refine Gg ?_)
    all_goals (first | (refine WL.pass rfl rfl rfl ?_) | (refine WL.step (ok_load (fun w => Tryz.isAgg28 w) rfl (by first | assumption | exact cell_blk (by assumption) rfl)) rfl rfl rfl ?_))
    all_goals (refine Gg ?_)
    all_goals (first | (refine WL.pass rfl rfl rfl ?_) | (refine WL.step (ok_load (fun w => Tryz.isAgg28 w) rfl (by first | assumption | exact cell_blk (by assumption) rfl)) rfl rfl rfl ?_))
    all_goals (refine Gg ?_)
    all_goals (refine Go ?_)
    all_goals (refine goP 82 ?_ ?_ <;> first | exact ⟨⟩ | refine Hb.mk fun hb => ?_ | skip)
    all_goals (refine Gg ?_)
    all_goals (first | (refine WL.pass rfl rfl rfl ?_) | (refine WL.step (ok_load (fun w => Tryz.isAgg30 w) rfl (by first | assumption | exact cell_blk (by assumption) rfl)) rfl rfl rfl ?_))
    all_goals (refine Gg ?_)
    all_goals (first | (refine WL.pass rfl rfl rfl ?_) | (refine WL.step (ok_load (fun w => Tryz.isAgg30 w) rfl (by first | assumption | exact cell_blk (by assumption) rfl)) rfl rfl rfl ?_))
    all_goals (refine Gg ?_)
    all_goals (refine Go ?_)
    all_goals (refine WC.sub [(2, _), (3, _), (90, _)] ⟨rfl, rfl, rfl, trivial⟩ ?_)
    all_goals (refine goC 1 2 ?_ ?_ <;> first | exact ⟨⟩ | refine Hb.mk fun hb => ?_ | skip)
    all_goals (first | (fail_if_success refine goB 1 ?_) | (
    refine goB 1 ?_
    all_goals (refine WC.sr ?_)
    all_goals (refine Go ?_)
    all_goals (refine WC.ret ?_)
    all_goals (repeat' (with_reducible first | refine thenP_r ?_ | refine blockP_r ?_))
    all_goals (refine retP_1 _ ⟨rfl, trivial⟩ ?_)
    all_goals (refine ⟨⟨false, rfl, ⟨fun z => (by cases z), fun z => ?_⟩⟩, hx⟩
               exfalso
               simp only [Bk.pl, Prod.mk.injEq] at z
               obtain ⟨z1, z2, z3, z4, z5, z6, z7, z8, z9, z10, z11⟩ := z
               first | exact q z1 | exact q z2 | exact q z3 | exact q z4 | exact q z5 | exact q z6 | exact q z7)
    skip))
    all_goals (first | (fail_if_success refine goB 2 ?_) | (
    refine goB 2 ?_
    all_goals (refine WC.skip ?_)
    skip))
    all_goals (refine Gn ?_)
    all_goals (refine WC.seq ?_)
    all_goals (refine WC.sr ?_)
    all_goals (refine Go ?_)
    all_goals (refine WC.block ?_)
    -- loop 0: slots that turn [6], that stay [2, 3]
    all_goals (refine WC.loopG (X := Nat) (fun x => ([(6, In (x : Int))] : Fr)) [(2, _), (3, _)] (fun k h' => True) (fun k => 0) (0) ⟨rfl, rfl, rfl, trivial⟩ (by exact ⟨⟩) ?_)
    all_goals (rintro x h1 hI)
    all_goals (refine WC.sub [(6, _), (2, _), (3, _)] ⟨rfl, rfl, rfl, trivial⟩ ?_)
    all_goals (refine WC.seq ?_)
    all_goals (refine WC.sr ?_)
    all_goals (refine Go ?_)
    all_goals (refine WL.step (ok_load (fun w => Tryz.isAgg28 w) rfl (by first | assumption | exact cell_blk (by assumption) rfl)) rfl rfl rfl ?_)
    all_goals (refine Go ?_)
    all_goals (refine WC.sub [(2, _), (3, _), (6, _), (95, _)] ⟨rfl, rfl, rfl, rfl, trivial⟩ ?_)
    all_goals (refine goC 3 4 ?_ ?_ <;> first | exact ⟨⟩ | refine Hb.mk fun hb => ?_ | skip)
    all_goals (first | (fail_if_success refine goB 3 ?_) | (
    refine goB 3 ?_
    all_goals (refine WC.skip ?_)
    skip))
    all_goals (first | (fail_if_success refine goB 4 ?_) | (
    refine goB 4 ?_
    all_goals (refine WC.exit ?_)
    all_goals (repeat' (with_reducible first | refine thenP_x ?_ | refine blockP_miss rfl ?_ | refine blockP_hit ?_ | refine blockP_n ?_ | refine thenP_n ?_))
    all_goals (refine Br.out (i := 1000) ?_)
    skip))
    all_goals (refine Gn ?_)
    all_goals (first | (refine Br.keep ?_) | (refine WC.seq ?_))
    all_goals (first | (refine Br.keep ?_) | (refine WC.block ?_))
    all_goals (first | (refine Br.keep ?_) | (refine WC.seq ?_))
    all_goals (first | (refine Br.keep ?_) | (refine WC.drawE fol (by kernel_rfl) ?_))
    all_goals (first | (refine Br.keep ?_) | (refine WQ.stepE (ok_fieldAddr rfl Tryz.underlying32 rfl (fun w => Tryz.sizeOf28 w)) rfl rfl rfl ?_))
    all_goals (first | (refine Br.keep ?_) | (refine WQ.stepE (ok_load (fun w => Tryz.isAgg28 w) rfl (by first | assumption | exact cell_blk (by assumption) rfl)) rfl rfl rfl ?_))
    all_goals (first | (refine Br.keep ?_) | (refine WQ.stepE (ok_move rfl) rfl rfl rfl ?_))
    all_goals (first | (refine Br.keep ?_) | (refine WQ.stepE (ok_idxAddrA Tryz.underlying28 (fun w => Tryz.sizeOf46 w) rfl rfl rfl (by omega) (by first | rfl | assumption)) rfl rfl rfl ?_))
    all_goals (first | (refine Br.keep ?_) | (refine WQ.stepE (ok_loadN (fun w => Tryz.isAgg46 w) (fun w => Tryz.sizeOf46 w) rfl rfl (by assumption)) rfl rfl rfl ?_))
    all_goals (first | (refine Br.keep ?_) | (refine WQ.stepE (ok_fieldAddr rfl Tryz.underlying32 rfl (fun w => Tryz.sizeOf28 w)) rfl rfl rfl ?_))
    all_goals (first | (refine Br.keep ?_) | (refine WQ.stepE (ok_load (fun w => Tryz.isAgg28 w) rfl (by first | assumption | exact cell_blk (by assumption) rfl)) rfl rfl rfl ?_))
    all_goals (first | (refine Br.keep ?_) | (refine WQ.stepE (ok_move rfl) rfl rfl rfl ?_))
    all_goals (first | (refine Br.keep ?_) | (refine WQ.stepE (ok_idxAddrA Tryz.underlying28 (fun w => Tryz.sizeOf46 w) rfl rfl rfl (by omega) (by first | rfl | assumption)) rfl rfl rfl ?_))
    all_goals (first | (refine Br.keep ?_) | (refine WQ.stepE (ok_loadN (fun w => Tryz.isAgg46 w) (fun w => Tryz.sizeOf46 w) rfl rfl (by assumption)) rfl rfl rfl ?_))
    all_goals (first | (refine Br.keep ?_) | (fail "no rule for binOp at 7.10"))
    all_goals (first | (refine Br.keep ?_) | (refine WQ.nil ?_))
    all_goals (refine Gn ?_)
    all_goals (first | (refine Br.keep ?_) | (refine WC.sub [(2, _), (3, _), (6, _), (108, _)] ⟨rfl, rfl, rfl, rfl, trivial⟩ ?_))
    all_goals (first | (refine Br.keep ?_) | (refine goC 5 6 ?_ ?_ <;> first | exact ⟨⟩ | refine Hb.mk fun hb => ?_ | skip))
    all_goals (first | (fail_if_success refine goB 5 ?_) | (
    refine goB 5 ?_
    all_goals (refine WC.sr ?_)
    all_goals (refine Go ?_)
    all_goals (refine WC.sub [(4, _)] ⟨rfl, trivial⟩ ?_)
    all_goals (refine WC.ret ?_)
    all_goals (repeat' (with_reducible first | refine thenP_r ?_ | refine blockP_r ?_))
    all_goals (refine retP_1 _ ⟨rfl, trivial⟩ ?_)
    all_goals (refine ⟨⟨false, rfl, ⟨fun z => (by cases z), fun z => ?_⟩⟩, hx⟩
               exfalso
               simp only [Bk.pl, Prod.mk.injEq] at z
               obtain ⟨z1, z2, z3, z4, z5, z6, z7, z8, z9, z10, z11⟩ := z
               first | exact q z1 | exact q z2 | exact q z3 | exact q z4 | exact q z5 | exact q z6 | exact q z7)
    skip))
    all_goals (first | (fail_if_success refine goB 6 ?_) | (
    refine goB 6 ?_
    all_goals (refine WC.skip ?_)
    skip))
    all_goals (refine Gn ?_)
    all_goals (first | (refine Br.keep ?_) | (refine WC.region ?_))
    all_goals (refine Go ?_)
    all_goals (first | (refine Br.keep ?_) | (exact ⟨None, ⟨rfl, rfl, rfl, trivial⟩, (by exact ⟨⟩), (by simp; omega)⟩))
    all_goals (try (refine Br.mk (i := 1000) ?_))
    all_goals (refine Gn ?_)
    all_goals (refine WC.seq ?_)
    all_goals (refine WC.sr ?_)
    all_goals (refine Go ?_)
    all_goals (refine WC.block ?_)
    -- loop 1: slots that turn [7], that stay [2, 3]
    all_goals (refine WC.loopG (X := Nat) (fun x => ([(7, In (x : Int))] : Fr)) [(2, _), (3, _)] (fun k h' => True) (fun k => 0) (0) ⟨rfl, rfl, rfl, trivial⟩ (by exact ⟨⟩) ?_)
    all_goals (rintro x h1 hI)
    all_goals (refine WC.sub [(7, _), (2, _), (3, _)] ⟨rfl, rfl, rfl, trivial⟩ ?_)
    all_goals (refine WC.seq ?_)
    all_goals (refine WC.sr ?_)
    all_goals (refine Go ?_)
    all_goals (refine WL.step (ok_load (fun w => Tryz.isAgg30 w) rfl (by first | assumption | exact cell_blk (by assumption) rfl)) rfl rfl rfl ?_)
    all_goals (refine Go ?_)
    all_goals (refine WC.sub [(2, _), (3, _), (7, _), (113, _)] ⟨rfl, rfl, rfl, rfl, trivial⟩ ?_)
    all_goals (refine goC 7 8 ?_ ?_ <;> first | exact ⟨⟩ | refine Hb.mk fun hb => ?_ | skip)
    all_goals (first | (fail_if_success refine goB 7 ?_) | (
    refine goB 7 ?_
    all_goals (refine WC.skip ?_)
    skip))
    all_goals (first | (fail_if_success refine goB 8 ?_) | (
    refine goB 8 ?_
    all_goals (refine WC.exit ?_)
    all_goals (repeat' (with_reducible first | refine thenP_x ?_ | refine blockP_miss rfl ?_ | refine blockP_hit ?_ | refine blockP_n ?_ | refine thenP_n ?_))
    all_goals (refine Br.out (i := 1002) ?_)
    skip))
    all_goals (refine Gn ?_)
    all_goals (first | (refine Br.keep ?_) | (refine WC.seq ?_))
    all_goals (first | (refine Br.keep ?_) | (refine WC.block ?_))
    all_goals (first | (refine Br.keep ?_) | (refine WC.seq ?_))
    all_goals (first | (refine Br.keep ?_) | (refine WC.drawE fol (by kernel_rfl) ?_))
    all_goals (first | (refine Br.keep ?_) | (refine WQ.stepE (ok_fieldAddr rfl Tryz.underlying32 rfl (fun w => Tryz.sizeOf30 w)) rfl rfl rfl ?_))
    all_goals (first | (refine Br.keep ?_) | (refine WQ.stepE (ok_load (fun w => Tryz.isAgg30 w) rfl (by first | assumption | exact cell_blk (by assumption) rfl)) rfl rfl rfl ?_))
    all_goals (first | (refine Br.keep ?_) | (refine WQ.stepE (ok_move rfl) rfl rfl rfl ?_))
    all_goals (first | (refine Br.keep ?_) | (refine WQ.stepE (ok_idxAddrA Tryz.underlying30 (fun w => Tryz.sizeOf54 w) rfl rfl rfl (by omega) (by first | rfl | assumption)) rfl rfl rfl ?_))
    all_goals (first | (refine Br.keep ?_) | (refine WQ.stepE (ok_loadN (fun w => Tryz.isAgg54 w) (fun w => Tryz.sizeOf54 w) rfl rfl (by assumption)) rfl rfl rfl ?_))
    all_goals (first | (refine Br.keep ?_) | (refine WQ.stepE (ok_fieldAddr rfl Tryz.underlying32 rfl (fun w => Tryz.sizeOf30 w)) rfl rfl rfl ?_))
    all_goals (first | (refine Br.keep ?_) | (refine WQ.stepE (ok_load (fun w => Tryz.isAgg30 w) rfl (by first | assumption | exact cell_blk (by assumption) rfl)) rfl rfl rfl ?_))
    all_goals (first | (refine Br.keep ?_) | (refine WQ.stepE (ok_move rfl) rfl rfl rfl ?_))
    all_goals (first | (refine Br.keep ?_) | (refine WQ.stepE (ok_idxAddrA Tryz.underlying30 (fun w => Tryz.sizeOf54 w) rfl rfl rfl (by omega) (by first | rfl | assumption)) rfl rfl rfl ?_))
    all_goals (first | (refine Br.keep ?_) | (refine WQ.stepE (ok_loadN (fun w => Tryz.isAgg54 w) (fun w => Tryz.sizeOf54 w) rfl rfl (by assumption)) rfl rfl rfl ?_))
    all_goals (first | (refine Br.keep ?_) | (fail "no rule for binOp at 12.10"))
    all_goals (first | (refine Br.keep ?_) | (refine WQ.nil ?_))
    all_goals (refine Gn ?_)
    all_goals (first | (refine Br.keep ?_) | (refine WC.sub [(2, _), (3, _), (7, _), (126, _)] ⟨rfl, rfl, rfl, rfl, trivial⟩ ?_))
    all_goals (first | (refine Br.keep ?_) | (refine goC 9 10 ?_ ?_ <;> first | exact ⟨⟩ | refine Hb.mk fun hb => ?_ | skip))
    all_goals (first | (fail_if_success refine goB 9 ?_) | (
    refine goB 9 ?_
    all_goals (refine WC.sr ?_)
    all_goals (refine Go ?_)
    all_goals (refine WC.sub [(4, _)] ⟨rfl, trivial⟩ ?_)
    all_goals (refine WC.ret ?_)
    all_goals (repeat' (with_reducible first | refine thenP_r ?_ | refine blockP_r ?_))
    all_goals (refine retP_1 _ ⟨rfl, trivial⟩ ?_)
    all_goals (refine ⟨⟨false, rfl, ⟨fun z => (by cases z), fun z => ?_⟩⟩, hx⟩
               exfalso
               simp only [Bk.pl, Prod.mk.injEq] at z
               obtain ⟨z1, z2, z3, z4, z5, z6, z7, z8, z9, z10, z11⟩ := z
               first | exact q z1 | exact q z2 | exact q z3 | exact q z4 | exact q z5 | exact q z6 | exact q z7)
    skip))
    all_goals (first | (fail_if_success refine goB 10 ?_) | (
    refine goB 10 ?_
    all_goals (refine WC.skip ?_)
    skip))
    all_goals (refine Gn ?_)
    all_goals (first | (refine Br.keep ?_) | (refine WC.region ?_))
    all_goals (refine Go ?_)
    all_goals (first | (refine Br.keep ?_) | (exact ⟨None, ⟨rfl, rfl, rfl, trivial⟩, (by exact ⟨⟩), (by simp; omega)⟩))
    all_goals (try (refine Br.mk (i := 1002) ?_))
    all_goals (refine Gn ?_)
    all_goals (refine WC.sub [] trivial ?_)
    all_goals (refine WC.sr ?_)
    all_goals (refine Go ?_)
    all_goals (refine WC.ret ?_)
    all_goals (repeat' (with_reducible first | refine thenP_r ?_ | refine blockP_r ?_))
    all_goals (refine retP_1 _ ⟨rfl, trivial⟩ ?_)
    all_goals (refine ⟨⟨false, rfl, ⟨fun z => (by cases z), fun z => ?_⟩⟩, hx⟩
               exfalso
               simp only [Bk.pl, Prod.mk.injEq] at z
               obtain ⟨z1, z2, z3, z4, z5, z6, z7, z8, z9, z10, z11⟩ := z
               first | exact q z1 | exact q z2 | exact q z3 | exact q z4 | exact q z5 | exact q z6 | exact q z7)
end Go.Proofs.YtbahigffjclpdaaGreatDoor


/-
  REPLIES (layer 7): whether a reply may be, of any that is short: back.Check and the document's.
-/
namespace Go.Proofs.YtbahigffjclpdaaGreatDoor
open Go Go.RK

/-- Short, with room for names that were replaced. -/
structure Bk.mid (b : Bk) : Prop where
  oids : b.oids.length ≤ 100
  cols : b.cols.length ≤ 100
  row : b.row.length ≤ 100
  fields : b.fields.length ≤ 100
  names : ∀ c ∈ b.cols, c.nm.length ≤ 1000
  cells : ∀ c ∈ b.row, c.bytes.length ≤ 1000
  texts : ∀ f ∈ b.fields, f.t.length ≤ 200000
  tag : b.tag.length ≤ 1000
  name : b.name.length ≤ 1000
  value : b.value.length ≤ 1000
instance (b : Bk) : Decidable b.stOk := by unfold Bk.stOk; exact inferInstance
theorem st_cases (k st : Int) : k ≠ 90 ∨ (k = 90 ∧ st = 73) ∨ (k = 90 ∧ st = 84) ∨ (k = 90 ∧ st = 69) ∨ (k = 90 ∧ st ≠ 73 ∧ st ≠ 84 ∧ st ≠ 69) := by omega
set_option maxHeartbeats 2000000 in
set_option maxRecDepth 100000 in
theorem status_any {h : Heap} (b : Bk) : CallsH Tryz.prog 95 ⟨[.agg ⟨b.cells⟩]⟩ h fun u h' => u = .bool (decide b.stOk) ∧ Ext No h h' := by
  obtain ⟨k, st, t, n, v, x, y, vo, lo, vc, lc, vr, lr, vf, lf⟩ := b
  dsimp only [Bk.cells]
  rcases st_cases k st with q | ⟨q, q1⟩ | ⟨q, q1⟩ | ⟨q, q1⟩ | ⟨q, q1, q2, q3⟩
  all_goals
    refine calls [(0, _)] Tryz.func95 rfl Tryz.ntmps95 rfl ⟨rfl, trivial⟩ ?_
    all_goals (refine WC.sr ?_)
    all_goals (refine WL.stepR (okE_box rfl) rfl rfl rfl ?_
               rintro _ h1 ⟨b1, rfl, hg1, hb1, hx1⟩)
    all_goals (refine Go ?_)
    all_goals (refine WC.sr ?_)
    all_goals (refine Go ?_)
    all_goals (refine WL.step (ok_load (fun w => Tryz.isAgg5 w) rfl (by first | assumption | exact cell_blk (by assumption) rfl)) rfl rfl rfl ?_)
    all_goals (refine Go ?_)
    all_goals (refine goP 6 ?_ ?_ <;> first | exact ⟨⟩ | refine Hb.mk fun hb => ?_ | skip)
    all_goals (refine Gg ?_)
    all_goals (first | (refine WL.pass rfl rfl rfl ?_) | (refine WL.step (ok_load (fun w => Tryz.isAgg5 w) rfl (by first | assumption | exact cell_blk (by assumption) rfl)) rfl rfl rfl ?_))
    all_goals (refine Gg ?_)
    all_goals (refine Go ?_)
    all_goals (refine goP 11 ?_ ?_ <;> first | exact ⟨⟩ | refine Hb.mk fun hb => ?_ | skip)
    all_goals (refine Gg ?_)
    all_goals (first | (refine WL.pass rfl rfl rfl ?_) | (refine WL.step (ok_load (fun w => Tryz.isAgg5 w) rfl (by first | assumption | exact cell_blk (by assumption) rfl)) rfl rfl rfl ?_))
    all_goals (refine Gg ?_)
    all_goals (refine Go ?_)
    all_goals (refine goP 16 ?_ ?_ <;> first | exact ⟨⟩ | refine Hb.mk fun hb => ?_ | skip)
    all_goals (refine Gg ?_)
    all_goals (first | (refine WL.pass rfl rfl rfl ?_) | (refine WL.step (ok_load (fun w => Tryz.isAgg5 w) rfl (by first | assumption | exact cell_blk (by assumption) rfl)) rfl rfl rfl ?_))
    all_goals (refine Gg ?_)
    all_goals (refine Go ?_)
    all_goals (refine WC.sub [(2, _)] ⟨rfl, trivial⟩ ?_)
    all_goals (refine WC.ret ?_)
    all_goals (repeat' (with_reducible first | refine thenP_r ?_ | refine blockP_r ?_))
    all_goals (refine retP_1 _ ⟨rfl, trivial⟩ ?_)
    all_goals (refine ⟨congrArg Value.bool ?_, hx1⟩
               first
                | exact (decide_eq_true (p := Bk.stOk _) (by unfold Bk.stOk; simp only; omega)).symm
                | exact (decide_eq_false (p := Bk.stOk _) (by unfold Bk.stOk; simp only; omega)).symm)
theorem may_kind {k : Int} (h0 : 0 ≤ k ∧ k ≤ 255) : (∃ c : UInt8, Value.int .u8 k = By c ∧ kindsB.contains c = true) ↔ KnownK k := by
  obtain ⟨c, rfl⟩ : ∃ c : UInt8, k = (c.toNat : Int) := ⟨UInt8.ofNat k.toNat, by rw [UInt8.toNat_ofNat']; omega⟩
  rw [← known_iff]
  constructor
  · rintro ⟨d, e, hd⟩
    have : c = d := by simp only [By, Value.int.injEq, true_and] at e; exact UInt8.toNat_inj.1 (by omega)
    rw [this]; exact hd
  · exact fun hd => ⟨c, rfl, hd⟩
theorem all_dec {α : Type} {p : α → Prop} [DecidablePred p] {l : List α} : (l.all fun c => decide (p c)) = true ↔ ∀ c ∈ l, p c := by simp
theorem oids_ok {l : List Int} : l.all oidB = true ↔ ∀ n ∈ l, 0 ≤ n ∧ n ≤ 4294967295 := by simp [oidB]
theorem oidB_ok {n : Int} : oidB n = true ↔ 0 ≤ n ∧ n ≤ 4294967295 := by simp [oidB]
set_option maxHeartbeats 4000000 in
set_option maxRecDepth 100000 in
theorem checkA_back {h : Heap} (b : Bk) (hb : b.ok h) (hk0 : 0 ≤ b.kind ∧ b.kind ≤ 255) (hmd : b.mid) :
    CallsH Tryz.prog 65 ⟨[.agg ⟨b.cells⟩]⟩ h fun u h' => (∃ e, u = In e ∧ (e = 0 ↔ b.may)) ∧ Ext No h h' := by
  have hof := fun {h' : Heap} (hx : Ext No h h') => of_back (h := h') b (hb.ext0 hx)
  have hst := fun {h' : Heap} => (status_any (h := h') b).dec
  have hsa := fun {h' : Heap} (hx : Ext No h h') => sameA_back (h := h') b (ofB b) (hb.ext0 hx) (ofB_ok (hb.ext0 hx))
  have hmk := may_kind hk0
  have hyes : KnownK b.kind → cleanB b.tag = true → cleanB b.name = true → cleanB b.value = true → (∀ c ∈ b.cols, c.okB) → (∀ c ∈ b.fields, c.okB) → (∀ c ∈ b.row, c.okB) → (∀ n ∈ b.oids, 0 ≤ n ∧ n ≤ 4294967295) → (0 ≤ b.n ∧ b.n ≤ 4294967295) → (0 ≤ b.m ∧ b.m ≤ 4294967295) → b.stOk → b.pl = (ofB b).pl → b.may := fun a1 a2 a3 a4 a5 a6 a7 a8 a9 a10 a11 a12 =>
    ⟨hmk.2 a1, a2, a3, a4, ⟨by have := hmd.cols; omega, a5⟩, ⟨by have := hmd.fields; omega, a6⟩, ⟨by have := hmd.row; omega, a7⟩, ⟨by have := hmd.oids; omega, a8⟩, a9, a10, a11, a12.symm⟩
  have hnk : ¬ KnownK b.kind → ¬ b.may := fun a z => a (hmk.1 z.kind)
  have hn1 : cleanB b.tag = false → ¬ b.may := fun a z => by rw [z.tag] at a; cases a
  have hn2 : cleanB b.name = false → ¬ b.may := fun a z => by rw [z.name] at a; cases a
  have hn3 : cleanB b.value = false → ¬ b.may := fun a z => by rw [z.value] at a; cases a
  have hn4 : (b.cols.all fun c => decide c.okB) = false → ¬ b.may := fun a z => by rw [all_dec.2 z.cols.2] at a; cases a
  have hn5 : (b.fields.all fun c => decide c.okB) = false → ¬ b.may := fun a z => by rw [all_dec.2 z.fields.2] at a; cases a
  have hn6 : (b.row.all fun c => decide c.okB) = false → ¬ b.may := fun a z => by rw [all_dec.2 z.row.2] at a; cases a
  have hn7 : b.oids.all oidB = false → ¬ b.may := fun a z => by rw [oids_ok.2 z.oids.2] at a; cases a
  have hn8 : oidB b.n = false → ¬ b.may := fun a z => by rw [oidB_ok.2 z.n] at a; cases a
  have hn9 : oidB b.m = false → ¬ b.may := fun a z => by rw [oidB_ok.2 z.m] at a; cases a
  have hn10 : ¬ b.stOk → ¬ b.may := fun a z => a z.st
  have hn11 : ¬ b.pl = (ofB b).pl → ¬ b.may := fun a z => a z.own.symm
  generalize hob : ofB b = ob at hof hsa hyes hn11
  generalize b.may = BM at hyes hnk hn1 hn2 hn3 hn4 hn5 hn6 hn7 hn8 hn9 hn10 hn11 ⊢
  obtain ⟨ho, hc, hr, hf⟩ := hb
  obtain ⟨md1, md2, md3, md4, md5, md6, md7, md8, md9, md10⟩ := hmd
  generalize hPL : b.pl = PL at hsa hyes hn11
  generalize hST : b.stOk = ST at hst hyes hn10
  obtain ⟨k, st, t, n, v, x, y, vo, lo, vc, lc, vr, lr, vf, lf⟩ := b
  simp only at hk0 ho hc hr hf md1 md2 md3 md4 md5 md6 md7 md8 md9 md10 hyes hnk hn1 hn2 hn3 hn4 hn5 hn6 hn7 hn8 hn9
  dsimp only [Bk.cells] at hof hst hsa ⊢
  refine calls [(0, _)] Tryz.func65 rfl Tryz.ntmps65 rfl ⟨rfl, trivial⟩ ?_
  all_goals (refine WC.sr ?_)
  all_goals (refine WL.stepR (okE_box rfl) rfl rfl rfl ?_
             rintro _ g1 ⟨b1, rfl, hg1, hb1, hx1⟩)
  all_goals (refine Go ?_)
  all_goals (refine WC.seq ?_)
  all_goals (refine WC.sr ?_)
  all_goals (refine Go ?_)
  all_goals (refine WL.step (ok_load (fun w => Tryz.isAgg5 w) rfl (by first | assumption | exact cell_blk (by assumption) rfl)) rfl rfl rfl ?_)
  all_goals (refine WL.call (vs := [_]) rfl (fun a w => Tryz.call85 a w) rfl (known_any k hk0) rfl rfl rfl ?_
             rintro _ g2 ⟨⟨kx, rfl, hkx⟩, hx2⟩)
  all_goals (have hb2 := hx2.obj hb1 nos
             have hX2 := hx1.trans hx2
             cases kx)
  all_goals (refine Go ?_)
  all_goals (refine WC.sub [(1, _), (8, _)] ⟨rfl, rfl, trivial⟩ ?_)
  all_goals (refine goC 1 2 ?_ ?_ <;> first | exact ⟨⟩ | refine Hb.mk fun hb => ?_ | skip)
  all_goals (first | (fail_if_success refine goB 1 ?_) | (
  refine goB 1 ?_
  all_goals (refine WC.sr ?_)
  all_goals (refine Go ?_)
  all_goals (refine WC.ret ?_)
  all_goals (repeat' (with_reducible first | refine thenP_r ?_ | refine blockP_r ?_))
  all_goals (refine retP_1 _ ⟨rfl, trivial⟩ ?_)
  all_goals (first
              | exact ⟨⟨0, rfl, ⟨fun _ => hyes (hkx.1 rfl) c1 c2 c3 (all_dec.1 c4) (all_dec.1 c5) (all_dec.1 c6) (oids_ok.1 c7) (oidB_ok.1 c8) (oidB_ok.1 c9) c10 (hsx.1 rfl), fun _ => rfl⟩⟩, hX8.trans hx9⟩
              | (refine ⟨⟨_, rfl, ⟨fun z => absurd z (by decide), fun z => absurd z ?_⟩⟩, ?_⟩
                 · first | exact hnk (fun z => Bool.false_ne_true (hkx.2 z)) | exact hn1 c1 | exact hn2 c2 | exact hn3 c3 | exact hn4 c4 | exact hn5 c5 | exact hn6 c6 | exact hn7 c7 | exact hn8 c8 | exact hn9 c9 | exact hn10 c10 | exact hn11 (fun z => Bool.false_ne_true (hsx.2 z))
                 · first | exact hX8.trans hx9 | exact hX7 | exact hX6 | exact hX5 | exact hX4 | exact hX3 | exact hX2))
  skip))
  all_goals (first | (fail_if_success refine goB 2 ?_) | (
  refine goB 2 ?_
  all_goals (refine WC.skip ?_)
  skip))
  all_goals (refine Gn ?_)
  all_goals (refine WC.sr ?_)
  all_goals (refine Go ?_)
  all_goals (refine WL.step (ok_load (fun w => Tryz.isAgg9 w) rfl (by first | assumption | exact cell_blk (by assumption) rfl)) rfl rfl rfl ?_)
  all_goals (refine WL.call (vs := [_]) rfl (fun a w => Tryz.call86 a w) rfl ((clean_any t).bl) rfl rfl rfl ?_
             rintro _ h9 ⟨⟨rfl, c1⟩ | ⟨rfl, c1⟩, hz9⟩
             all_goals subst h9)
  all_goals (refine Go ?_)
  all_goals (refine goP 12 ?_ ?_ <;> first | exact ⟨⟩ | refine Hb.mk fun hb => ?_ | skip)
  all_goals (refine Gg ?_)
  all_goals (first | (refine WL.pass rfl rfl rfl ?_) | (refine WL.step (ok_load (fun w => Tryz.isAgg9 w) rfl (by first | assumption | exact cell_blk (by assumption) rfl)) rfl rfl rfl ?_))
  all_goals (first
               | (refine WL.pass rfl rfl rfl ?_)
               | (refine WL.call (vs := [_]) rfl (fun a w => Tryz.call86 a w) rfl ((clean_any n).bl) rfl rfl rfl ?_
                  rintro _ h9 ⟨⟨rfl, c2⟩ | ⟨rfl, c2⟩, hz9⟩
                  all_goals subst h9))
  all_goals (refine Go ?_)
  all_goals (refine goP 17 ?_ ?_ <;> first | exact ⟨⟩ | refine Hb.mk fun hb => ?_ | skip)
  all_goals (refine Gg ?_)
  all_goals (first | (refine WL.pass rfl rfl rfl ?_) | (refine WL.step (ok_load (fun w => Tryz.isAgg9 w) rfl (by first | assumption | exact cell_blk (by assumption) rfl)) rfl rfl rfl ?_))
  all_goals (first
               | (refine WL.pass rfl rfl rfl ?_)
               | (refine WL.call (vs := [_]) rfl (fun a w => Tryz.call86 a w) rfl ((clean_any v).bl) rfl rfl rfl ?_
                  rintro _ h9 ⟨⟨rfl, c3⟩ | ⟨rfl, c3⟩, hz9⟩
                  all_goals subst h9))
  all_goals (refine Go ?_)
  all_goals (refine WC.sub [(1, _), (3, _)] ⟨rfl, rfl, trivial⟩ ?_)
  all_goals (refine WC.sr ?_)
  all_goals (refine Go ?_)
  all_goals (refine WL.step (ok_load (fun w => Tryz.isAgg28 w) rfl (by first | assumption | exact cell_blk (by assumption) rfl)) rfl rfl rfl ?_)
  all_goals (refine WL.call (vs := [_, _]) rfl (fun a w => Tryz.call87 a w) rfl ((everyA_col lc (fun c => decide c.okB) (hc.1.ext0 hX2) (by omega) (fun a w => Tryz.call88 a w) (fun c hc _ _ => column_any c)).bl) rfl rfl rfl ?_
             rintro _ g3 ⟨⟨rfl, c4⟩ | ⟨rfl, c4⟩, hx3⟩
             all_goals have hb3 := hx3.obj hb2 nos
             all_goals have hX3 := hX2.trans hx3)
  all_goals (refine Go ?_)
  all_goals (refine goP 25 ?_ ?_ <;> first | exact ⟨⟩ | refine Hb.mk fun hb => ?_ | skip)
  all_goals (refine Gg ?_)
  all_goals (first | (refine WL.pass rfl rfl rfl ?_) | (refine WL.step (ok_load (fun w => Tryz.isAgg30 w) rfl (by first | assumption | exact cell_blk (by assumption) rfl)) rfl rfl rfl ?_))
  all_goals (first
               | (refine WL.pass rfl rfl rfl ?_)
               | (refine WL.call (vs := [_, _]) rfl (fun a w => Tryz.call89 a w) rfl ((everyA_fld lf (fun c => decide c.okB) (hf.1.ext0 hX3) (by omega) (fun a w => Tryz.call90 a w) (fun c hc _ _ => field_any c)).bl) rfl rfl rfl ?_
                  rintro _ g4 ⟨⟨rfl, c5⟩ | ⟨rfl, c5⟩, hx4⟩
                  all_goals have hb4 := hx4.obj hb3 nos
                  all_goals have hX4 := hX3.trans hx4))
  all_goals (refine Go ?_)
  all_goals (refine goP 30 ?_ ?_ <;> first | exact ⟨⟩ | refine Hb.mk fun hb => ?_ | skip)
  all_goals (refine Gg ?_)
  all_goals (first | (refine WL.pass rfl rfl rfl ?_) | (refine WL.step (ok_load (fun w => Tryz.isAgg29 w) rfl (by first | assumption | exact cell_blk (by assumption) rfl)) rfl rfl rfl ?_))
  all_goals (first
               | (refine WL.pass rfl rfl rfl ?_)
               | (refine WL.call (vs := [_, _]) rfl (fun a w => Tryz.call91 a w) rfl ((everyA_cel lr (fun c => decide c.okB) (hr.1.ext0 hX4) (by omega) (fun a w => Tryz.call92 a w) (fun c hc _ _ => cell_any c (hr.2.2 c hc) (by have := md6 c hc; omega))).bl) rfl rfl rfl ?_
                  rintro _ g5 ⟨⟨rfl, c6⟩ | ⟨rfl, c6⟩, hx5⟩
                  all_goals have hb5 := hx5.obj hb4 nos
                  all_goals have hX5 := hX4.trans hx5))
  all_goals (refine Go ?_)
  all_goals (refine goP 35 ?_ ?_ <;> first | exact ⟨⟩ | refine Hb.mk fun hb => ?_ | skip)
  all_goals (refine Gg ?_)
  all_goals (first | (refine WL.pass rfl rfl rfl ?_) | (refine WL.step (ok_load (fun w => Tryz.isAgg27 w) rfl (by first | assumption | exact cell_blk (by assumption) rfl)) rfl rfl rfl ?_))
  all_goals (first
               | (refine WL.pass rfl rfl rfl ?_)
               | (refine WL.call (vs := [_, _]) rfl (fun a w => Tryz.call93 a w) rfl ((everyA_int lo (ho.1.ext0 hX5) (by omega)).bl) rfl rfl rfl ?_
                  rintro _ g6 ⟨⟨rfl, c7⟩ | ⟨rfl, c7⟩, hx6⟩
                  all_goals have hb6 := hx6.obj hb5 nos
                  all_goals have hX6 := hX5.trans hx6))
  all_goals (refine Go ?_)
  all_goals (refine WC.sub [(1, _), (3, _), (4, _)] ⟨rfl, rfl, rfl, trivial⟩ ?_)
  all_goals (refine WC.seq ?_)
  all_goals (refine WC.seq ?_)
  all_goals (refine WC.drawH (fun h' => h'[b1]? = some (.cells ⟨[.int .u8 k, .int .u8 st, St t, St n, St v, In x, In y, vo, vc, vr, vf]⟩ 32 (0, 0))) 30 30 rfl fol ?_)
  all_goals (refine WH.tk 0 rfl (fun hq hC => ok_move rfl) rfl rfl rfl ?_ (hC := (by first | exact hb9 | exact hb8 | exact hb7 | exact hb6 | exact hb5 | exact hb4 | exact hb3)))
  all_goals (refine WH.tk 1 rfl (fun hq hC => ok_not rfl) rfl rfl rfl ?_ (hC := (by first | exact hb9 | exact hb8 | exact hb7 | exact hb6 | exact hb5 | exact hb4 | exact hb3)))
  all_goals (refine WH.tk 2 rfl (fun hq hC => ok_move rfl) rfl rfl rfl ?_ (hC := (by first | exact hb9 | exact hb8 | exact hb7 | exact hb6 | exact hb5 | exact hb4 | exact hb3)))
  all_goals (try ((fail_if_success (refine WH.part 42 (b := true) rfl (fun _ => ?_) (fun _ => ?_))); (fail_if_success (refine WH.part 42 (b := false) rfl (fun _ => ?_) (fun _ => ?_))); (refine WH.part 42 rfl (fun hb => ?_) (fun hb => ?_))))
  all_goals (first | (refine WH.ps 3 rfl rfl rfl rfl ?_ (hC := (by first | exact hb9 | exact hb8 | exact hb7 | exact hb6 | exact hb5 | exact hb4 | exact hb3))) | (refine WH.tk 3 rfl (fun hq hC => ok_move rfl) rfl rfl rfl ?_ (hC := (by first | exact hb9 | exact hb8 | exact hb7 | exact hb6 | exact hb5 | exact hb4 | exact hb3))))
  all_goals (first | (refine WH.ps 4 rfl rfl rfl rfl ?_ (hC := (by first | exact hb9 | exact hb8 | exact hb7 | exact hb6 | exact hb5 | exact hb4 | exact hb3))) | (refine WH.tk 4 rfl (fun hq hC => ok_not rfl) rfl rfl rfl ?_ (hC := (by first | exact hb9 | exact hb8 | exact hb7 | exact hb6 | exact hb5 | exact hb4 | exact hb3))))
  all_goals (first | (refine WH.tk 5 rfl (fun hq hC => ok_pick_t rfl rfl) rfl rfl rfl ?_ (hC := (by first | exact hb9 | exact hb8 | exact hb7 | exact hb6 | exact hb5 | exact hb4 | exact hb3))) | (refine WH.tk 5 rfl (fun hq hC => ok_pick_f rfl rfl) rfl rfl rfl ?_ (hC := (by first | exact hb9 | exact hb8 | exact hb7 | exact hb6 | exact hb5 | exact hb4 | exact hb3))))
  all_goals (refine WH.tk 6 rfl (fun hq hC => ok_move rfl) rfl rfl rfl ?_ (hC := (by first | exact hb9 | exact hb8 | exact hb7 | exact hb6 | exact hb5 | exact hb4 | exact hb3)))
  all_goals (try ((fail_if_success (refine WH.part 46 (b := true) rfl (fun _ => ?_) (fun _ => ?_))); (fail_if_success (refine WH.part 46 (b := false) rfl (fun _ => ?_) (fun _ => ?_))); (refine WH.part 46 rfl (fun hb => ?_) (fun hb => ?_))))
  all_goals (first | (refine WH.ps 7 rfl rfl rfl rfl ?_ (hC := (by first | exact hb9 | exact hb8 | exact hb7 | exact hb6 | exact hb5 | exact hb4 | exact hb3))) | (refine WH.tk 7 rfl (fun hq hC => ok_fieldAddr rfl Tryz.underlying32 rfl (fun w => Tryz.sizeOf3 w)) rfl rfl rfl ?_ (hC := (by first | exact hb9 | exact hb8 | exact hb7 | exact hb6 | exact hb5 | exact hb4 | exact hb3))))
  all_goals (first | (refine WH.ps 8 rfl rfl rfl rfl ?_ (hC := (by first | exact hb9 | exact hb8 | exact hb7 | exact hb6 | exact hb5 | exact hb4 | exact hb3))) | (refine WH.tk 8 rfl (fun hq hC => ok_load (fun w => Tryz.isAgg3 w) rfl (cell_blk hC rfl)) rfl rfl rfl ?_ (hC := (by first | exact hb9 | exact hb8 | exact hb7 | exact hb6 | exact hb5 | exact hb4 | exact hb3))))
  all_goals (first
    | (refine WH.ps 9 rfl rfl rfl rfl ?_ (hC := (by first | exact hb9 | exact hb8 | exact hb7 | exact hb6 | exact hb5 | exact hb4 | exact hb3)))
    | (all_goals (refine WH.one 9 (by kernel_rfl) ?_)
       all_goals (refine Comes1.call (vs := [_]) rfl rfl (fun a w => Tryz.call94 a w) rfl ((oid_any x).bl) rfl rfl rfl ?_ (fun _ => by kernel_rfl)
                  rintro _ h9 ⟨⟨rfl, c8⟩ | ⟨rfl, c8⟩, hz9⟩
                  all_goals subst h9)
       all_goals (refine ⟨fun _ => by first | assumption | trivial, ?_⟩)
       skip))
  all_goals (first | (refine WH.ps 10 rfl rfl rfl rfl ?_ (hC := (by first | exact hb9 | exact hb8 | exact hb7 | exact hb6 | exact hb5 | exact hb4 | exact hb3))) | (refine WH.tk 10 rfl (fun hq hC => ok_not rfl) rfl rfl rfl ?_ (hC := (by first | exact hb9 | exact hb8 | exact hb7 | exact hb6 | exact hb5 | exact hb4 | exact hb3))))
  all_goals (first | (refine WH.tk 11 rfl (fun hq hC => ok_pick_t rfl rfl) rfl rfl rfl ?_ (hC := (by first | exact hb9 | exact hb8 | exact hb7 | exact hb6 | exact hb5 | exact hb4 | exact hb3))) | (refine WH.tk 11 rfl (fun hq hC => ok_pick_f rfl rfl) rfl rfl rfl ?_ (hC := (by first | exact hb9 | exact hb8 | exact hb7 | exact hb6 | exact hb5 | exact hb4 | exact hb3))))
  all_goals (refine WH.tk 12 rfl (fun hq hC => ok_move rfl) rfl rfl rfl ?_ (hC := (by first | exact hb9 | exact hb8 | exact hb7 | exact hb6 | exact hb5 | exact hb4 | exact hb3)))
  all_goals (try ((fail_if_success (refine WH.part 52 (b := true) rfl (fun _ => ?_) (fun _ => ?_))); (fail_if_success (refine WH.part 52 (b := false) rfl (fun _ => ?_) (fun _ => ?_))); (refine WH.part 52 rfl (fun hb => ?_) (fun hb => ?_))))
  all_goals (first | (refine WH.ps 13 rfl rfl rfl rfl ?_ (hC := (by first | exact hb9 | exact hb8 | exact hb7 | exact hb6 | exact hb5 | exact hb4 | exact hb3))) | (refine WH.tk 13 rfl (fun hq hC => ok_fieldAddr rfl Tryz.underlying32 rfl (fun w => Tryz.sizeOf3 w)) rfl rfl rfl ?_ (hC := (by first | exact hb9 | exact hb8 | exact hb7 | exact hb6 | exact hb5 | exact hb4 | exact hb3))))
  all_goals (first | (refine WH.ps 14 rfl rfl rfl rfl ?_ (hC := (by first | exact hb9 | exact hb8 | exact hb7 | exact hb6 | exact hb5 | exact hb4 | exact hb3))) | (refine WH.tk 14 rfl (fun hq hC => ok_load (fun w => Tryz.isAgg3 w) rfl (cell_blk hC rfl)) rfl rfl rfl ?_ (hC := (by first | exact hb9 | exact hb8 | exact hb7 | exact hb6 | exact hb5 | exact hb4 | exact hb3))))
  all_goals (first
    | (refine WH.ps 15 rfl rfl rfl rfl ?_ (hC := (by first | exact hb9 | exact hb8 | exact hb7 | exact hb6 | exact hb5 | exact hb4 | exact hb3)))
    | (all_goals (refine WH.one 15 (by kernel_rfl) ?_)
       all_goals (refine Comes1.call (vs := [_]) rfl rfl (fun a w => Tryz.call94 a w) rfl ((oid_any y).bl) rfl rfl rfl ?_ (fun _ => by kernel_rfl)
                  rintro _ h9 ⟨⟨rfl, c9⟩ | ⟨rfl, c9⟩, hz9⟩
                  all_goals subst h9)
       all_goals (refine ⟨fun _ => by first | assumption | trivial, ?_⟩)
       skip))
  all_goals (first | (refine WH.ps 16 rfl rfl rfl rfl ?_ (hC := (by first | exact hb9 | exact hb8 | exact hb7 | exact hb6 | exact hb5 | exact hb4 | exact hb3))) | (refine WH.tk 16 rfl (fun hq hC => ok_not rfl) rfl rfl rfl ?_ (hC := (by first | exact hb9 | exact hb8 | exact hb7 | exact hb6 | exact hb5 | exact hb4 | exact hb3))))
  all_goals (first | (refine WH.tk 17 rfl (fun hq hC => ok_pick_t rfl rfl) rfl rfl rfl ?_ (hC := (by first | exact hb9 | exact hb8 | exact hb7 | exact hb6 | exact hb5 | exact hb4 | exact hb3))) | (refine WH.tk 17 rfl (fun hq hC => ok_pick_f rfl rfl) rfl rfl rfl ?_ (hC := (by first | exact hb9 | exact hb8 | exact hb7 | exact hb6 | exact hb5 | exact hb4 | exact hb3))))
  all_goals (refine WH.tk 18 rfl (fun hq hC => ok_move rfl) rfl rfl rfl ?_ (hC := (by first | exact hb9 | exact hb8 | exact hb7 | exact hb6 | exact hb5 | exact hb4 | exact hb3)))
  all_goals (try ((fail_if_success (refine WH.part 58 (b := true) rfl (fun _ => ?_) (fun _ => ?_))); (fail_if_success (refine WH.part 58 (b := false) rfl (fun _ => ?_) (fun _ => ?_))); (refine WH.part 58 rfl (fun hb => ?_) (fun hb => ?_))))
  all_goals (first | (refine WH.ps 19 rfl rfl rfl rfl ?_ (hC := (by first | exact hb9 | exact hb8 | exact hb7 | exact hb6 | exact hb5 | exact hb4 | exact hb3))) | (refine WH.tk 19 rfl (fun hq hC => ok_loadN (fun w => Tryz.isAgg32 w) (fun w => Tryz.sizeOf32 w) rfl rfl (by exact At.of_block hC)) rfl rfl rfl ?_ (hC := (by first | exact hb9 | exact hb8 | exact hb7 | exact hb6 | exact hb5 | exact hb4 | exact hb3))))
  all_goals (first
    | (refine WH.ps 20 rfl rfl rfl rfl ?_ (hC := (by first | exact hb9 | exact hb8 | exact hb7 | exact hb6 | exact hb5 | exact hb4 | exact hb3)))
    | (all_goals (refine WH.one 20 (by kernel_rfl) ?_)
       all_goals (refine Comes1.call (vs := [_]) rfl rfl (fun a w => Tryz.call95 a w) rfl (hst) rfl rfl rfl ?_ (fun _ => by kernel_rfl)
                  rintro _ g7 ⟨⟨rfl, c10⟩ | ⟨rfl, c10⟩, hx7⟩
                  all_goals have hb7 := hx7.obj hb6 nos
                  all_goals have hX7 := hX6.trans hx7)
       all_goals (refine ⟨fun _ => hb7, ?_⟩)
       skip))
  all_goals (first | (refine WH.ps 21 rfl rfl rfl rfl ?_ (hC := (by first | exact hb9 | exact hb8 | exact hb7 | exact hb6 | exact hb5 | exact hb4 | exact hb3))) | (refine WH.tk 21 rfl (fun hq hC => ok_not rfl) rfl rfl rfl ?_ (hC := (by first | exact hb9 | exact hb8 | exact hb7 | exact hb6 | exact hb5 | exact hb4 | exact hb3))))
  all_goals (first | (refine WH.tk 22 rfl (fun hq hC => ok_pick_t rfl rfl) rfl rfl rfl ?_ (hC := (by first | exact hb9 | exact hb8 | exact hb7 | exact hb6 | exact hb5 | exact hb4 | exact hb3))) | (refine WH.tk 22 rfl (fun hq hC => ok_pick_f rfl rfl) rfl rfl rfl ?_ (hC := (by first | exact hb9 | exact hb8 | exact hb7 | exact hb6 | exact hb5 | exact hb4 | exact hb3))))
  all_goals (refine WH.tk 23 rfl (fun hq hC => ok_move rfl) rfl rfl rfl ?_ (hC := (by first | exact hb9 | exact hb8 | exact hb7 | exact hb6 | exact hb5 | exact hb4 | exact hb3)))
  all_goals (try ((fail_if_success (refine WH.part 63 (b := true) rfl (fun _ => ?_) (fun _ => ?_))); (fail_if_success (refine WH.part 63 (b := false) rfl (fun _ => ?_) (fun _ => ?_))); (refine WH.part 63 rfl (fun hb => ?_) (fun hb => ?_))))
  all_goals (first | (refine WH.ps 24 rfl rfl rfl rfl ?_ (hC := (by first | exact hb9 | exact hb8 | exact hb7 | exact hb6 | exact hb5 | exact hb4 | exact hb3))) | (refine WH.tk 24 rfl (fun hq hC => ok_loadN (fun w => Tryz.isAgg32 w) (fun w => Tryz.sizeOf32 w) rfl rfl (by exact At.of_block hC)) rfl rfl rfl ?_ (hC := (by first | exact hb9 | exact hb8 | exact hb7 | exact hb6 | exact hb5 | exact hb4 | exact hb3))))
  all_goals (first | (refine WH.ps 25 rfl rfl rfl rfl ?_ (hC := (by first | exact hb9 | exact hb8 | exact hb7 | exact hb6 | exact hb5 | exact hb4 | exact hb3))) | (refine WH.tk 25 rfl (fun hq hC => ok_loadN (fun w => Tryz.isAgg32 w) (fun w => Tryz.sizeOf32 w) rfl rfl (by exact At.of_block hC)) rfl rfl rfl ?_ (hC := (by first | exact hb9 | exact hb8 | exact hb7 | exact hb6 | exact hb5 | exact hb4 | exact hb3))))
  all_goals (first
    | (refine WH.ps 26 rfl rfl rfl rfl ?_ (hC := (by first | exact hb9 | exact hb8 | exact hb7 | exact hb6 | exact hb5 | exact hb4 | exact hb3)))
    | (all_goals (refine WH.one 26 (by kernel_rfl) ?_)
       all_goals (refine Comes1.call (vs := [_]) rfl rfl (fun a w => Tryz.call96 a w) rfl (hof hX7) rfl rfl rfl ?_ (fun _ => by kernel_rfl)
                  rintro _ g8 ⟨rfl, hx8⟩
                  have hb8 := hx8.obj hb7 nos
                  have hX8 := hX7.trans hx8)
       all_goals (refine ⟨fun _ => hb8, ?_⟩)
       skip))
  all_goals (first
    | (refine WH.ps 27 rfl rfl rfl rfl ?_ (hC := (by first | exact hb9 | exact hb8 | exact hb7 | exact hb6 | exact hb5 | exact hb4 | exact hb3)))
    | (all_goals (refine WH.one 27 (by kernel_rfl) ?_)
       all_goals (refine Comes1.call (vs := [_, _]) rfl rfl (fun a w => Tryz.call7 a w) rfl (hsa hX8) rfl rfl rfl ?_ (fun _ => by kernel_rfl)
                  rintro _ g9 ⟨⟨sx, rfl, hsx⟩, hx9⟩
                  have hb9 := hx9.obj hb8 nos
                  cases sx)
       all_goals (refine ⟨fun _ => hb9, ?_⟩)
       skip))
  all_goals (first | (refine WH.ps 28 rfl rfl rfl rfl ?_ (hC := (by first | exact hb9 | exact hb8 | exact hb7 | exact hb6 | exact hb5 | exact hb4 | exact hb3))) | (refine WH.tk 28 rfl (fun hq hC => ok_not rfl) rfl rfl rfl ?_ (hC := (by first | exact hb9 | exact hb8 | exact hb7 | exact hb6 | exact hb5 | exact hb4 | exact hb3))))
  all_goals (first | (refine WH.tk 29 rfl (fun hq hC => ok_pick_t rfl rfl) rfl rfl rfl ?_ (hC := (by first | exact hb9 | exact hb8 | exact hb7 | exact hb6 | exact hb5 | exact hb4 | exact hb3))) | (refine WH.tk 29 rfl (fun hq hC => ok_pick_f rfl rfl) rfl rfl rfl ?_ (hC := (by first | exact hb9 | exact hb8 | exact hb7 | exact hb6 | exact hb5 | exact hb4 | exact hb3))))
  all_goals (refine WH.done (by kernel_rfl) ?_)
  all_goals (refine Gn ?_)
  all_goals (refine WC.sub [(69, _)] ⟨rfl, trivial⟩ ?_)
  all_goals (refine goC 3 4 ?_ ?_ <;> first | exact ⟨⟩ | refine Hb.mk fun hb => ?_ | skip)
  all_goals (first | (fail_if_success refine goB 3 ?_) | (
  refine goB 3 ?_
  all_goals (refine WC.sr ?_)
  all_goals (refine Go ?_)
  all_goals (refine WC.ret ?_)
  all_goals (repeat' (with_reducible first | refine thenP_r ?_ | refine blockP_r ?_))
  all_goals (refine retP_1 _ ⟨rfl, trivial⟩ ?_)
  all_goals (first
              | exact ⟨⟨0, rfl, ⟨fun _ => hyes (hkx.1 rfl) c1 c2 c3 (all_dec.1 c4) (all_dec.1 c5) (all_dec.1 c6) (oids_ok.1 c7) (oidB_ok.1 c8) (oidB_ok.1 c9) c10 (hsx.1 rfl), fun _ => rfl⟩⟩, hX8.trans hx9⟩
              | (refine ⟨⟨_, rfl, ⟨fun z => absurd z (by decide), fun z => absurd z ?_⟩⟩, ?_⟩
                 · first | exact hnk (fun z => Bool.false_ne_true (hkx.2 z)) | exact hn1 c1 | exact hn2 c2 | exact hn3 c3 | exact hn4 c4 | exact hn5 c5 | exact hn6 c6 | exact hn7 c7 | exact hn8 c8 | exact hn9 c9 | exact hn10 c10 | exact hn11 (fun z => Bool.false_ne_true (hsx.2 z))
                 · first | exact hX8.trans hx9 | exact hX7 | exact hX6 | exact hX5 | exact hX4 | exact hX3 | exact hX2))
  skip))
  all_goals (first | (fail_if_success refine goB 4 ?_) | (
  refine goB 4 ?_
  all_goals (refine WC.skip ?_)
  skip))
  all_goals (refine Gn ?_)
  all_goals (refine WC.sr ?_)
  all_goals (refine Go ?_)
  all_goals (refine WC.ret ?_)
  all_goals (repeat' (with_reducible first | refine thenP_r ?_ | refine blockP_r ?_))
  all_goals (refine retP_1 _ ⟨rfl, trivial⟩ ?_)
  all_goals (first
              | exact ⟨⟨0, rfl, ⟨fun _ => hyes (hkx.1 rfl) c1 c2 c3 (all_dec.1 c4) (all_dec.1 c5) (all_dec.1 c6) (oids_ok.1 c7) (oidB_ok.1 c8) (oidB_ok.1 c9) c10 (hsx.1 rfl), fun _ => rfl⟩⟩, hX8.trans hx9⟩
              | (refine ⟨⟨_, rfl, ⟨fun z => absurd z (by decide), fun z => absurd z ?_⟩⟩, ?_⟩
                 · first | exact hnk (fun z => Bool.false_ne_true (hkx.2 z)) | exact hn1 c1 | exact hn2 c2 | exact hn3 c3 | exact hn4 c4 | exact hn5 c5 | exact hn6 c6 | exact hn7 c7 | exact hn8 c8 | exact hn9 c9 | exact hn10 c10 | exact hn11 (fun z => Bool.false_ne_true (hsx.2 z))
                 · first | exact hX8.trans hx9 | exact hX7 | exact hX6 | exact hX5 | exact hX4 | exact hX3 | exact hX2))
end Go.Proofs.YtbahigffjclpdaaGreatDoor


/-
  REPLIES (layer 7): whether a reply may be, as the document finds it.
-/
namespace Go.Proofs.YtbahigffjclpdaaGreatDoor
open Go Go.RK

set_option maxHeartbeats 2000000 in
set_option maxRecDepth 100000 in
theorem between07 {h : Heap} {v : Value} (l : List Int) (hr : Rd h v 1 l.length (ints l)) (hm : l.length ≤ 65535) :
    CallsH Tryz.prog 101 ⟨[v, In 0, In 4294967295]⟩ h fun u h' => u = .bool (decide (∀ n ∈ l, 0 ≤ n ∧ n ≤ 4294967295)) ∧ h' = h := by
  obtain ⟨A, c, rfl, _⟩ := id hr
  refine calls [(0, _), (1, _), (2, _)] Tryz.func101 rfl Tryz.ntmps101 rfl ⟨rfl, rfl, rfl, trivial⟩ ?_
  all_goals (refine WC.sr ?_)
  all_goals (refine Go ?_)
  all_goals (refine WC.seq ?_)
  all_goals (refine WC.sr ?_)
  all_goals (refine Go ?_)
  all_goals (refine goC 1 2 ?_ ?_ <;> first | exact ⟨⟩ | refine Hb.mk fun hb => ?_ | skip)
  all_goals (first | (fail_if_success refine goB 1 ?_) | (
  refine goB 1 ?_
  all_goals (refine WC.sr ?_)
  all_goals (refine Go ?_)
  all_goals (refine WC.sub [(6, _)] ⟨rfl, trivial⟩ ?_)
  all_goals (refine WC.ret ?_)
  all_goals (repeat' (with_reducible first | refine thenP_r ?_ | refine blockP_r ?_))
  all_goals (refine retP_1 _ ⟨rfl, trivial⟩ ?_)
  all_goals (first
              | exact ⟨congrArg Value.bool (decide_eq_true (by rw [List.take_of_length_le (by omega)] at hn; exact hn)).symm, rfl⟩
              | exact ⟨congrArg Value.bool (decide_eq_false (fun z => by have := z _ (List.mem_of_getElem? hy); omega)).symm, rfl⟩)
  skip))
  all_goals (first | (fail_if_success refine goB 2 ?_) | (
  refine goB 2 ?_
  all_goals (refine WC.skip ?_)
  skip))
  all_goals (refine Gn ?_)
  all_goals (refine WC.sub [(0, _), (1, _), (2, _)] ⟨rfl, rfl, rfl, trivial⟩ ?_)
  all_goals (refine WC.seq ?_)
  all_goals (refine WC.sr ?_)
  all_goals (refine Go ?_)
  all_goals (refine WC.block ?_)
  -- loop 0: slots that turn [7], that stay [0, 1, 2]
  all_goals (refine WC.loopG (X := Nat) (fun x => ([(7, In (x : Int))] : Fr)) [(0, _), (1, _), (2, _)] (fun k h' => h' = h ∧ k ≤ l.length ∧ ∀ n ∈ l.take k, 0 ≤ n ∧ n ≤ 4294967295) (fun k => l.length - k) (0) ⟨rfl, rfl, rfl, rfl, trivial⟩ (by exact ⟨rfl, Nat.zero_le _, by simp⟩) ?_)
  all_goals (rintro k h9 ⟨hz, hk, hn⟩
             subst h9)
  all_goals (refine WC.sub [(7, _), (0, _), (1, _), (2, _)] ⟨rfl, rfl, rfl, rfl, trivial⟩ ?_)
  all_goals (refine WC.seq ?_)
  all_goals (refine WC.sr ?_)
  all_goals (refine Go ?_)
  all_goals (refine goC 3 4 ?_ ?_ <;> first | exact ⟨⟩ | refine Hb.mk fun hb => ?_ | skip)
  all_goals (first | (fail_if_success refine goB 3 ?_) | (
  refine goB 3 ?_
  all_goals (refine WC.skip ?_)
  skip))
  all_goals (first | (fail_if_success refine goB 4 ?_) | (
  refine goB 4 ?_
  all_goals (refine WC.exit ?_)
  all_goals (repeat' (with_reducible first | refine thenP_x ?_ | refine blockP_miss rfl ?_ | refine blockP_hit ?_ | refine blockP_n ?_ | refine thenP_n ?_))
  all_goals (refine Br.out (i := 1000) ?_)
  skip))
  all_goals (refine Gn ?_)
  all_goals (first | (refine Br.keep ?_) | (refine WC.sub [(0, _), (1, _), (2, _), (7, _)] ⟨rfl, rfl, rfl, rfl, trivial⟩ ?_))
  all_goals (first | (refine Br.keep ?_) | (refine WC.seq ?_))
  all_goals (first | (refine Br.keep ?_) | (refine WC.block ?_))
  all_goals (first | (refine Br.keep ?_) | (refine WC.seq ?_))
  all_goals (first
               | (refine Br.keep ?_)
               | (obtain ⟨bL, oL, hA, hbL, hat⟩ := Rd.at_ hr (by omega)
                  obtain ⟨y, hy⟩ : ∃ y, l[k]? = some y := ⟨_, List.getElem?_eq_getElem (by omega)⟩
                  have hcd : cell h ⟨bL, oL + k * 1, none⟩ = some (In y) := by rw [Nat.mul_one]; exact hat.one (j := k) (by simp [hy])))
  all_goals (first | (refine Br.keep ?_) | (refine WC.region ?_))
  all_goals (refine Go ?_)
  all_goals (first | (refine Br.keep ?_) | (refine WL.step (ok_idxAddrA Tryz.underlying27 (fun w => Tryz.sizeOf3 w) rfl rfl rfl (by omega) (by first | rfl | assumption)) rfl rfl rfl ?_))
  all_goals (first | (refine Br.keep ?_) | (refine WL.step (ok_load (fun w => Tryz.isAgg3 w) rfl (by first | exact hcd | assumption | exact cell_blk (by assumption) rfl)) rfl rfl rfl ?_))
  all_goals (refine Go ?_)
  all_goals (first | (refine Br.keep ?_) | (refine goP 23 ?_ ?_ <;> first | exact ⟨⟩ | refine Hb.mk fun hb => ?_ | skip))
  all_goals (refine Gg ?_)
  all_goals (first | (refine Br.keep ?_) | (first | (refine WL.pass rfl rfl rfl ?_) | (refine WL.step (ok_idxAddrA Tryz.underlying27 (fun w => Tryz.sizeOf3 w) rfl rfl rfl (by omega) (by first | rfl | assumption)) rfl rfl rfl ?_)))
  all_goals (first | (refine Br.keep ?_) | (first | (refine WL.pass rfl rfl rfl ?_) | (refine WL.step (ok_load (fun w => Tryz.isAgg3 w) rfl (by first | exact hcd | assumption | exact cell_blk (by assumption) rfl)) rfl rfl rfl ?_)))
  all_goals (refine Gg ?_)
  all_goals (refine Go ?_)
  all_goals (first | (refine Br.keep ?_) | (refine WC.sub [(0, _), (1, _), (2, _), (7, _), (30, _)] ⟨rfl, rfl, rfl, rfl, rfl, trivial⟩ ?_))
  all_goals (first | (refine Br.keep ?_) | (refine goC 5 6 ?_ ?_ <;> first | exact ⟨⟩ | refine Hb.mk fun hb => ?_ | skip))
  all_goals (first | (fail_if_success refine goB 5 ?_) | (
  refine goB 5 ?_
  all_goals (refine WC.sr ?_)
  all_goals (refine Go ?_)
  all_goals (refine WC.sub [(6, _)] ⟨rfl, trivial⟩ ?_)
  all_goals (refine WC.ret ?_)
  all_goals (repeat' (with_reducible first | refine thenP_r ?_ | refine blockP_r ?_))
  all_goals (refine retP_1 _ ⟨rfl, trivial⟩ ?_)
  all_goals (first
              | exact ⟨congrArg Value.bool (decide_eq_true (by rw [List.take_of_length_le (by omega)] at hn; exact hn)).symm, rfl⟩
              | exact ⟨congrArg Value.bool (decide_eq_false (fun z => by have := z _ (List.mem_of_getElem? hy); omega)).symm, rfl⟩)
  skip))
  all_goals (first | (fail_if_success refine goB 6 ?_) | (
  refine goB 6 ?_
  all_goals (refine WC.skip ?_)
  skip))
  all_goals (refine Gn ?_)
  all_goals (first | (refine Br.keep ?_) | (refine WC.region ?_))
  all_goals (refine Go ?_)
  all_goals (first | (refine Br.keep ?_) | (exact ⟨k + 1, ⟨rfl, rfl, rfl, rfl, trivial⟩, (by exact ⟨rfl, by omega, all_take hy hn (by omega)⟩), (by omega)⟩))
  all_goals (try (refine Br.mk (i := 1000) ?_))
  all_goals (refine Gn ?_)
  all_goals (refine WC.sub [] trivial ?_)
  all_goals (refine WC.sr ?_)
  all_goals (refine Go ?_)
  all_goals (refine WC.ret ?_)
  all_goals (repeat' (with_reducible first | refine thenP_r ?_ | refine blockP_r ?_))
  all_goals (refine retP_1 _ ⟨rfl, trivial⟩ ?_)
  all_goals (first
              | exact ⟨congrArg Value.bool (decide_eq_true (by rw [List.take_of_length_le (by omega)] at hn; exact hn)).symm, rfl⟩
              | exact ⟨congrArg Value.bool (decide_eq_false (fun z => by have := z _ (List.mem_of_getElem? hy); omega)).symm, rfl⟩)
set_option maxHeartbeats 4000000 in
set_option maxRecDepth 100000 in
theorem checkA07 {h : Heap} (b : Bk) (hb : b.ok h) (hk0 : 0 ≤ b.kind ∧ b.kind ≤ 255) (hmd : b.mid) :
    CallsH Tryz.prog 72 ⟨[.agg ⟨b.cells⟩]⟩ h fun u h' => (∃ e, u = In e ∧ (e = 0 ↔ b.may)) ∧ Ext No h h' := by
  have hof := fun {h' : Heap} (hx : Ext No h h') => kept07 (h := h') b (hb.ext0 hx)
  have hsa := fun {h' : Heap} (hx : Ext No h h') => same07A (h := h') b (ofB b) (hb.ext0 hx) (ofB_ok (hb.ext0 hx))
  have hsc := st_cases b.kind b.status
  have hst : (b.kind ≠ 90 ∨ b.status = 73 ∨ b.status = 84 ∨ b.status = 69) ↔ b.stOk := Iff.rfl
  have hmk := may_kind hk0
  have hyes : KnownK b.kind → cleanB b.tag = true → cleanB b.name = true → cleanB b.value = true → (∀ c ∈ b.cols, c.okB) → (∀ c ∈ b.fields, c.okB) → (∀ c ∈ b.row, c.okB) → (∀ n ∈ b.oids, 0 ≤ n ∧ n ≤ 4294967295) → (0 ≤ b.n ∧ b.n ≤ 4294967295) → (0 ≤ b.m ∧ b.m ≤ 4294967295) → b.stOk → b.pl = (ofB b).pl → b.may := fun a1 a2 a3 a4 a5 a6 a7 a8 a9 a10 a11 a12 =>
    ⟨hmk.2 a1, a2, a3, a4, ⟨by have := hmd.cols; omega, a5⟩, ⟨by have := hmd.fields; omega, a6⟩, ⟨by have := hmd.row; omega, a7⟩, ⟨by have := hmd.oids; omega, a8⟩, a9, a10, a11, a12.symm⟩
  have hnk : ¬ KnownK b.kind → ¬ b.may := fun a z => a (hmk.1 z.kind)
  have hn1 : cleanB b.tag = false → ¬ b.may := fun a z => by rw [z.tag] at a; cases a
  have hn2 : cleanB b.name = false → ¬ b.may := fun a z => by rw [z.name] at a; cases a
  have hn3 : cleanB b.value = false → ¬ b.may := fun a z => by rw [z.value] at a; cases a
  have hn4 : ¬ (∀ c ∈ b.cols, c.okB) → ¬ b.may := fun a z => a z.cols.2
  have hn5 : ¬ (∀ c ∈ b.fields, c.okB) → ¬ b.may := fun a z => a z.fields.2
  have hn6 : ¬ (∀ c ∈ b.row, c.okB) → ¬ b.may := fun a z => a z.row.2
  have hn7 : ¬ (∀ n ∈ b.oids, 0 ≤ n ∧ n ≤ 4294967295) → ¬ b.may := fun a z => a z.oids.2
  have hn8 : ¬ (0 ≤ b.n ∧ b.n ≤ 4294967295) → ¬ b.may := fun a z => a z.n
  have hn9 : ¬ (0 ≤ b.m ∧ b.m ≤ 4294967295) → ¬ b.may := fun a z => a z.m
  have hn10 : ¬ b.stOk → ¬ b.may := fun a z => a z.st
  have hn11 : ¬ b.pl = (ofB b).pl → ¬ b.may := fun a z => a z.own.symm
  generalize hob : ofB b = ob at hof hsa hyes hn11
  generalize b.may = BM at hyes hnk hn1 hn2 hn3 hn4 hn5 hn6 hn7 hn8 hn9 hn10 hn11 ⊢
  obtain ⟨ho, hc, hr, hf⟩ := hb
  obtain ⟨md1, md2, md3, md4, md5, md6, md7, md8, md9, md10⟩ := hmd
  generalize hPL : b.pl = PL at hsa hyes hn11
  generalize hST : b.stOk = ST at hst hyes hn10
  obtain ⟨k, st, t, n, v, x, y, vo, lo, vc, lc, vr, lr, vf, lf⟩ := b
  simp only at hk0 ho hc hr hf md1 md2 md3 md4 md5 md6 md7 md8 md9 md10 hyes hnk hn1 hn2 hn3 hn4 hn5 hn6 hn7 hn8 hn9 hst hsc
  dsimp only [Bk.cells] at hof hsa ⊢
  refine calls [(0, _)] Tryz.func72 rfl Tryz.ntmps72 rfl ⟨rfl, trivial⟩ ?_
  all_goals (refine WC.sr ?_)
  all_goals (refine WL.stepR (okE_box rfl) rfl rfl rfl ?_
             rintro _ g1 ⟨b1, rfl, hg1, hb1, hx1⟩)
  all_goals (refine Go ?_)
  all_goals (refine WC.seq ?_)
  all_goals (refine WC.sr ?_)
  all_goals (refine Go ?_)
  all_goals (refine WL.step (ok_load (fun w => Tryz.isAgg5 w) rfl (by first | assumption | exact cell_blk (by assumption) rfl)) rfl rfl rfl ?_)
  all_goals (refine WL.call (vs := [_]) rfl (fun a w => Tryz.call98 a w) rfl (kind07 k) rfl rfl rfl ?_
             rintro _ h9 ⟨⟨kx, rfl, hkx⟩, hz9⟩)
  all_goals (subst h9
             cases kx)
  all_goals (refine Go ?_)
  all_goals (refine WC.sub [(1, _), (9, _)] ⟨rfl, rfl, trivial⟩ ?_)
  all_goals (refine goC 1 2 ?_ ?_ <;> first | exact ⟨⟩ | refine Hb.mk fun hb => ?_ | skip)
  all_goals (first | (fail_if_success refine goB 1 ?_) | (
  refine goB 1 ?_
  all_goals (refine WC.sr ?_)
  all_goals (refine Go ?_)
  all_goals (refine WC.ret ?_)
  all_goals (repeat' (with_reducible first | refine thenP_r ?_ | refine blockP_r ?_))
  all_goals (refine retP_1 _ ⟨rfl, trivial⟩ ?_)
  all_goals (first
              | exact ⟨⟨0, rfl, ⟨fun _ => hyes (hkx.1 rfl) c1 c2 c3 c4 c5 c6 c7 c8 c9 (hst.1 (by omega)) (hsx.1 rfl), fun _ => rfl⟩⟩, hX8.trans hx9⟩
              | (refine ⟨⟨_, rfl, ⟨fun z => absurd z (by decide), fun z => absurd z ?_⟩⟩, ?_⟩
                 · first | exact hnk (fun z => Bool.false_ne_true (hkx.2 z)) | exact hn1 c1 | exact hn2 c2 | exact hn3 c3 | exact hn8 c8 | exact hn9 c9 | exact hn7 c7 | exact hn10 (fun z => by have := hst.2 z; omega) | exact hn4 c4 | exact hn5 c5 | exact hn6 c6 | exact hn11 (fun z => Bool.false_ne_true (hsx.2 z))
                 · first | exact hX8.trans hx9 | exact hX3 | exact hx1))
  skip))
  all_goals (first | (fail_if_success refine goB 2 ?_) | (
  refine goB 2 ?_
  all_goals (refine WC.skip ?_)
  skip))
  all_goals (refine Gn ?_)
  all_goals (refine WC.sr ?_)
  all_goals (refine Go ?_)
  all_goals (refine WL.step (ok_load (fun w => Tryz.isAgg9 w) rfl (by first | assumption | exact cell_blk (by assumption) rfl)) rfl rfl rfl ?_)
  all_goals (refine WL.call (vs := [_]) rfl (fun a w => Tryz.call99 a w) rfl ((clean07 t (by omega)).bl) rfl rfl rfl ?_
             rintro _ h9 ⟨⟨rfl, c1⟩ | ⟨rfl, c1⟩, hz9⟩
             all_goals subst h9)
  all_goals (refine Go ?_)
  all_goals (refine goP 13 ?_ ?_ <;> first | exact ⟨⟩ | refine Hb.mk fun hb => ?_ | skip)
  all_goals (refine Gg ?_)
  all_goals (first | (refine WL.pass rfl rfl rfl ?_) | (refine WL.step (ok_load (fun w => Tryz.isAgg9 w) rfl (by first | assumption | exact cell_blk (by assumption) rfl)) rfl rfl rfl ?_))
  all_goals (first
               | (refine WL.pass rfl rfl rfl ?_)
               | (refine WL.call (vs := [_]) rfl (fun a w => Tryz.call99 a w) rfl ((clean07 n (by omega)).bl) rfl rfl rfl ?_
                  rintro _ h9 ⟨⟨rfl, c2⟩ | ⟨rfl, c2⟩, hz9⟩
                  all_goals subst h9))
  all_goals (refine Go ?_)
  all_goals (refine goP 18 ?_ ?_ <;> first | exact ⟨⟩ | refine Hb.mk fun hb => ?_ | skip)
  all_goals (refine Gg ?_)
  all_goals (first | (refine WL.pass rfl rfl rfl ?_) | (refine WL.step (ok_load (fun w => Tryz.isAgg9 w) rfl (by first | assumption | exact cell_blk (by assumption) rfl)) rfl rfl rfl ?_))
  all_goals (first
               | (refine WL.pass rfl rfl rfl ?_)
               | (refine WL.call (vs := [_]) rfl (fun a w => Tryz.call99 a w) rfl ((clean07 v (by omega)).bl) rfl rfl rfl ?_
                  rintro _ h9 ⟨⟨rfl, c3⟩ | ⟨rfl, c3⟩, hz9⟩
                  all_goals subst h9))
  all_goals (refine Go ?_)
  all_goals (refine WC.sub [(1, _), (3, _)] ⟨rfl, rfl, trivial⟩ ?_)
  all_goals (refine WC.sr ?_)
  all_goals (refine Go ?_)
  all_goals (refine WL.step (ok_load (fun w => Tryz.isAgg3 w) rfl (by first | assumption | exact cell_blk (by assumption) rfl)) rfl rfl rfl ?_)
  all_goals (refine WL.call (vs := [_, _, _]) rfl (fun a w => Tryz.call100 a w) rfl ((in07 x 0 4294967295).dec) rfl rfl rfl ?_
             rintro _ h9 ⟨⟨rfl, c8⟩ | ⟨rfl, c8⟩, hz9⟩
             all_goals subst h9)
  all_goals (refine Go ?_)
  all_goals (refine goP 26 ?_ ?_ <;> first | exact ⟨⟩ | refine Hb.mk fun hb => ?_ | skip)
  all_goals (refine Gg ?_)
  all_goals (first | (refine WL.pass rfl rfl rfl ?_) | (refine WL.step (ok_load (fun w => Tryz.isAgg3 w) rfl (by first | assumption | exact cell_blk (by assumption) rfl)) rfl rfl rfl ?_))
  all_goals (first
               | (refine WL.pass rfl rfl rfl ?_)
               | (refine WL.call (vs := [_, _, _]) rfl (fun a w => Tryz.call100 a w) rfl ((in07 y 0 4294967295).dec) rfl rfl rfl ?_
                  rintro _ h9 ⟨⟨rfl, c9⟩ | ⟨rfl, c9⟩, hz9⟩
                  all_goals subst h9))
  all_goals (refine Go ?_)
  all_goals (refine goP 31 ?_ ?_ <;> first | exact ⟨⟩ | refine Hb.mk fun hb => ?_ | skip)
  all_goals (refine Gg ?_)
  all_goals (first | (refine WL.pass rfl rfl rfl ?_) | (refine WL.step (ok_load (fun w => Tryz.isAgg27 w) rfl (by first | assumption | exact cell_blk (by assumption) rfl)) rfl rfl rfl ?_))
  all_goals (first
               | (refine WL.pass rfl rfl rfl ?_)
               | (refine WL.call (vs := [_, _, _]) rfl (fun a w => Tryz.call101 a w) rfl ((between07 lo (ho.1.ext0 hx1) (by omega)).dec) rfl rfl rfl ?_
                  rintro _ h9 ⟨⟨rfl, c7⟩ | ⟨rfl, c7⟩, hz9⟩
                  all_goals subst h9))
  all_goals (refine Go ?_)
  all_goals (refine WC.sub [(1, _), (3, _), (4, _)] ⟨rfl, rfl, rfl, trivial⟩ ?_)
  all_goals (refine WC.sr ?_)
  all_goals (rcases hsc with q | ⟨q, q1⟩ | ⟨q, q1⟩ | ⟨q, q1⟩ | ⟨q, q1, q2, q3⟩)
  all_goals (refine WL.step (ok_fieldAddr rfl Tryz.underlying32 rfl (fun w => Tryz.sizeOf5 w)) rfl rfl rfl ?_)
  all_goals (refine WL.step (ok_load (fun w => Tryz.isAgg5 w) rfl (by first | assumption | exact cell_blk (by assumption) rfl)) rfl rfl rfl ?_)
  all_goals (refine Go ?_)
  all_goals (refine goP 39 ?_ ?_ <;> first | exact ⟨⟩ | refine Hb.mk fun hb => ?_ | skip)
  all_goals (refine Gg ?_)
  all_goals (first | (refine WL.pass rfl rfl rfl ?_) | (refine WL.step (ok_load (fun w => Tryz.isAgg5 w) rfl (by first | assumption | exact cell_blk (by assumption) rfl)) rfl rfl rfl ?_))
  all_goals (refine Gg ?_)
  all_goals (refine Go ?_)
  all_goals (refine goP 44 ?_ ?_ <;> first | exact ⟨⟩ | refine Hb.mk fun hb => ?_ | skip)
  all_goals (refine Gg ?_)
  all_goals (first | (refine WL.pass rfl rfl rfl ?_) | (refine WL.step (ok_load (fun w => Tryz.isAgg5 w) rfl (by first | assumption | exact cell_blk (by assumption) rfl)) rfl rfl rfl ?_))
  all_goals (refine Gg ?_)
  all_goals (refine Go ?_)
  all_goals (refine goP 49 ?_ ?_ <;> first | exact ⟨⟩ | refine Hb.mk fun hb => ?_ | skip)
  all_goals (refine Gg ?_)
  all_goals (first | (refine WL.pass rfl rfl rfl ?_) | (refine WL.step (ok_load (fun w => Tryz.isAgg5 w) rfl (by first | assumption | exact cell_blk (by assumption) rfl)) rfl rfl rfl ?_))
  all_goals (refine Gg ?_)
  all_goals (refine Go ?_)
  all_goals (refine WC.sub [(1, _), (3, _), (4, _), (5, _)] ⟨rfl, rfl, rfl, rfl, trivial⟩ ?_)
  all_goals (refine WC.seq ?_)
  all_goals (refine WC.seq ?_)
  all_goals (refine WC.drawH (fun h' => h'[b1]? = some (.cells ⟨[.int .u8 k, .int .u8 st, St t, St n, St v, In x, In y, vo, vc, vr, vf]⟩ 32 (0, 0))) 35 35 rfl fol ?_)
  all_goals (refine WH.tk 0 rfl (fun hq hC => ok_move rfl) rfl rfl rfl ?_ (hC := (by first | exact hb9 | exact hb8 | exact hb7 | exact hb6 | exact hb5 | exact hb4 | exact hb3 | exact hb1)))
  all_goals (refine WH.tk 1 rfl (fun hq hC => ok_not rfl) rfl rfl rfl ?_ (hC := (by first | exact hb9 | exact hb8 | exact hb7 | exact hb6 | exact hb5 | exact hb4 | exact hb3 | exact hb1)))
  all_goals (refine WH.tk 2 rfl (fun hq hC => ok_move rfl) rfl rfl rfl ?_ (hC := (by first | exact hb9 | exact hb8 | exact hb7 | exact hb6 | exact hb5 | exact hb4 | exact hb3 | exact hb1)))
  all_goals (try ((fail_if_success (refine WH.part 56 (b := true) rfl (fun _ => ?_) (fun _ => ?_))); (fail_if_success (refine WH.part 56 (b := false) rfl (fun _ => ?_) (fun _ => ?_))); (refine WH.part 56 rfl (fun hb => ?_) (fun hb => ?_))))
  all_goals (first | (refine WH.ps 3 rfl rfl rfl rfl ?_ (hC := (by first | exact hb9 | exact hb8 | exact hb7 | exact hb6 | exact hb5 | exact hb4 | exact hb3 | exact hb1))) | (refine WH.tk 3 rfl (fun hq hC => ok_move rfl) rfl rfl rfl ?_ (hC := (by first | exact hb9 | exact hb8 | exact hb7 | exact hb6 | exact hb5 | exact hb4 | exact hb3 | exact hb1))))
  all_goals (first | (refine WH.ps 4 rfl rfl rfl rfl ?_ (hC := (by first | exact hb9 | exact hb8 | exact hb7 | exact hb6 | exact hb5 | exact hb4 | exact hb3 | exact hb1))) | (refine WH.tk 4 rfl (fun hq hC => ok_not rfl) rfl rfl rfl ?_ (hC := (by first | exact hb9 | exact hb8 | exact hb7 | exact hb6 | exact hb5 | exact hb4 | exact hb3 | exact hb1))))
  all_goals (first | (refine WH.tk 5 rfl (fun hq hC => ok_pick_t rfl rfl) rfl rfl rfl ?_ (hC := (by first | exact hb9 | exact hb8 | exact hb7 | exact hb6 | exact hb5 | exact hb4 | exact hb3 | exact hb1))) | (refine WH.tk 5 rfl (fun hq hC => ok_pick_f rfl rfl) rfl rfl rfl ?_ (hC := (by first | exact hb9 | exact hb8 | exact hb7 | exact hb6 | exact hb5 | exact hb4 | exact hb3 | exact hb1))))
  all_goals (refine WH.tk 6 rfl (fun hq hC => ok_move rfl) rfl rfl rfl ?_ (hC := (by first | exact hb9 | exact hb8 | exact hb7 | exact hb6 | exact hb5 | exact hb4 | exact hb3 | exact hb1)))
  all_goals (try ((fail_if_success (refine WH.part 60 (b := true) rfl (fun _ => ?_) (fun _ => ?_))); (fail_if_success (refine WH.part 60 (b := false) rfl (fun _ => ?_) (fun _ => ?_))); (refine WH.part 60 rfl (fun hb => ?_) (fun hb => ?_))))
  all_goals (first | (refine WH.ps 7 rfl rfl rfl rfl ?_ (hC := (by first | exact hb9 | exact hb8 | exact hb7 | exact hb6 | exact hb5 | exact hb4 | exact hb3 | exact hb1))) | (refine WH.tk 7 rfl (fun hq hC => ok_move rfl) rfl rfl rfl ?_ (hC := (by first | exact hb9 | exact hb8 | exact hb7 | exact hb6 | exact hb5 | exact hb4 | exact hb3 | exact hb1))))
  all_goals (first | (refine WH.ps 8 rfl rfl rfl rfl ?_ (hC := (by first | exact hb9 | exact hb8 | exact hb7 | exact hb6 | exact hb5 | exact hb4 | exact hb3 | exact hb1))) | (refine WH.tk 8 rfl (fun hq hC => ok_not rfl) rfl rfl rfl ?_ (hC := (by first | exact hb9 | exact hb8 | exact hb7 | exact hb6 | exact hb5 | exact hb4 | exact hb3 | exact hb1))))
  all_goals (first | (refine WH.tk 9 rfl (fun hq hC => ok_pick_t rfl rfl) rfl rfl rfl ?_ (hC := (by first | exact hb9 | exact hb8 | exact hb7 | exact hb6 | exact hb5 | exact hb4 | exact hb3 | exact hb1))) | (refine WH.tk 9 rfl (fun hq hC => ok_pick_f rfl rfl) rfl rfl rfl ?_ (hC := (by first | exact hb9 | exact hb8 | exact hb7 | exact hb6 | exact hb5 | exact hb4 | exact hb3 | exact hb1))))
  all_goals (refine WH.tk 10 rfl (fun hq hC => ok_move rfl) rfl rfl rfl ?_ (hC := (by first | exact hb9 | exact hb8 | exact hb7 | exact hb6 | exact hb5 | exact hb4 | exact hb3 | exact hb1)))
  all_goals (try ((fail_if_success (refine WH.part 64 (b := true) rfl (fun _ => ?_) (fun _ => ?_))); (fail_if_success (refine WH.part 64 (b := false) rfl (fun _ => ?_) (fun _ => ?_))); (refine WH.part 64 rfl (fun hb => ?_) (fun hb => ?_))))
  all_goals (first | (refine WH.ps 11 rfl rfl rfl rfl ?_ (hC := (by first | exact hb9 | exact hb8 | exact hb7 | exact hb6 | exact hb5 | exact hb4 | exact hb3 | exact hb1))) | (refine WH.tk 11 rfl (fun hq hC => ok_fieldAddr rfl Tryz.underlying32 rfl (fun w => Tryz.sizeOf28 w)) rfl rfl rfl ?_ (hC := (by first | exact hb9 | exact hb8 | exact hb7 | exact hb6 | exact hb5 | exact hb4 | exact hb3 | exact hb1))))
  all_goals (first | (refine WH.ps 12 rfl rfl rfl rfl ?_ (hC := (by first | exact hb9 | exact hb8 | exact hb7 | exact hb6 | exact hb5 | exact hb4 | exact hb3 | exact hb1))) | (refine WH.tk 12 rfl (fun hq hC => ok_load (fun w => Tryz.isAgg28 w) rfl (cell_blk hC rfl)) rfl rfl rfl ?_ (hC := (by first | exact hb9 | exact hb8 | exact hb7 | exact hb6 | exact hb5 | exact hb4 | exact hb3 | exact hb1))))
  all_goals (first
    | (refine WH.ps 13 rfl rfl rfl rfl ?_ (hC := (by first | exact hb9 | exact hb8 | exact hb7 | exact hb6 | exact hb5 | exact hb4 | exact hb3 | exact hb1)))
    | (all_goals (refine WH.one 13 (by kernel_rfl) ?_)
       all_goals (refine Comes1.call (vs := [_]) rfl rfl (fun a w => Tryz.call102 a w) rfl ((cols07 lc (hc.1.ext0 hx1) (by omega) (fun c hc => by have := md5 c hc; omega)).dec) rfl rfl rfl ?_ (fun _ => by kernel_rfl)
                  rintro _ g3 ⟨⟨rfl, c4⟩ | ⟨rfl, c4⟩, hx3⟩
                  all_goals have hb3 := hx3.obj hb1 nos
                  all_goals have hX3 := hx1.trans hx3)
       all_goals (refine ⟨fun _ => hb3, ?_⟩)
       skip))
  all_goals (first | (refine WH.ps 14 rfl rfl rfl rfl ?_ (hC := (by first | exact hb9 | exact hb8 | exact hb7 | exact hb6 | exact hb5 | exact hb4 | exact hb3 | exact hb1))) | (refine WH.tk 14 rfl (fun hq hC => ok_not rfl) rfl rfl rfl ?_ (hC := (by first | exact hb9 | exact hb8 | exact hb7 | exact hb6 | exact hb5 | exact hb4 | exact hb3 | exact hb1))))
  all_goals (first | (refine WH.tk 15 rfl (fun hq hC => ok_pick_t rfl rfl) rfl rfl rfl ?_ (hC := (by first | exact hb9 | exact hb8 | exact hb7 | exact hb6 | exact hb5 | exact hb4 | exact hb3 | exact hb1))) | (refine WH.tk 15 rfl (fun hq hC => ok_pick_f rfl rfl) rfl rfl rfl ?_ (hC := (by first | exact hb9 | exact hb8 | exact hb7 | exact hb6 | exact hb5 | exact hb4 | exact hb3 | exact hb1))))
  all_goals (refine WH.tk 16 rfl (fun hq hC => ok_move rfl) rfl rfl rfl ?_ (hC := (by first | exact hb9 | exact hb8 | exact hb7 | exact hb6 | exact hb5 | exact hb4 | exact hb3 | exact hb1)))
  all_goals (try ((fail_if_success (refine WH.part 70 (b := true) rfl (fun _ => ?_) (fun _ => ?_))); (fail_if_success (refine WH.part 70 (b := false) rfl (fun _ => ?_) (fun _ => ?_))); (refine WH.part 70 rfl (fun hb => ?_) (fun hb => ?_))))
  all_goals (first | (refine WH.ps 17 rfl rfl rfl rfl ?_ (hC := (by first | exact hb9 | exact hb8 | exact hb7 | exact hb6 | exact hb5 | exact hb4 | exact hb3 | exact hb1))) | (refine WH.tk 17 rfl (fun hq hC => ok_fieldAddr rfl Tryz.underlying32 rfl (fun w => Tryz.sizeOf30 w)) rfl rfl rfl ?_ (hC := (by first | exact hb9 | exact hb8 | exact hb7 | exact hb6 | exact hb5 | exact hb4 | exact hb3 | exact hb1))))
  all_goals (first | (refine WH.ps 18 rfl rfl rfl rfl ?_ (hC := (by first | exact hb9 | exact hb8 | exact hb7 | exact hb6 | exact hb5 | exact hb4 | exact hb3 | exact hb1))) | (refine WH.tk 18 rfl (fun hq hC => ok_load (fun w => Tryz.isAgg30 w) rfl (cell_blk hC rfl)) rfl rfl rfl ?_ (hC := (by first | exact hb9 | exact hb8 | exact hb7 | exact hb6 | exact hb5 | exact hb4 | exact hb3 | exact hb1))))
  all_goals (first
    | (refine WH.ps 19 rfl rfl rfl rfl ?_ (hC := (by first | exact hb9 | exact hb8 | exact hb7 | exact hb6 | exact hb5 | exact hb4 | exact hb3 | exact hb1)))
    | (all_goals (refine WH.one 19 (by kernel_rfl) ?_)
       all_goals (refine Comes1.call (vs := [_]) rfl rfl (fun a w => Tryz.call103 a w) rfl ((fields07 lf (hf.1.ext0 hX3) (by omega) (fun c hc => by have := md7 c hc; omega)).dec) rfl rfl rfl ?_ (fun _ => by kernel_rfl)
                  rintro _ h9 ⟨⟨rfl, c5⟩ | ⟨rfl, c5⟩, hz9⟩
                  all_goals subst h9)
       all_goals (refine ⟨fun _ => by first | assumption | trivial, ?_⟩)
       skip))
  all_goals (first | (refine WH.ps 20 rfl rfl rfl rfl ?_ (hC := (by first | exact hb9 | exact hb8 | exact hb7 | exact hb6 | exact hb5 | exact hb4 | exact hb3 | exact hb1))) | (refine WH.tk 20 rfl (fun hq hC => ok_not rfl) rfl rfl rfl ?_ (hC := (by first | exact hb9 | exact hb8 | exact hb7 | exact hb6 | exact hb5 | exact hb4 | exact hb3 | exact hb1))))
  all_goals (first | (refine WH.tk 21 rfl (fun hq hC => ok_pick_t rfl rfl) rfl rfl rfl ?_ (hC := (by first | exact hb9 | exact hb8 | exact hb7 | exact hb6 | exact hb5 | exact hb4 | exact hb3 | exact hb1))) | (refine WH.tk 21 rfl (fun hq hC => ok_pick_f rfl rfl) rfl rfl rfl ?_ (hC := (by first | exact hb9 | exact hb8 | exact hb7 | exact hb6 | exact hb5 | exact hb4 | exact hb3 | exact hb1))))
  all_goals (refine WH.tk 22 rfl (fun hq hC => ok_move rfl) rfl rfl rfl ?_ (hC := (by first | exact hb9 | exact hb8 | exact hb7 | exact hb6 | exact hb5 | exact hb4 | exact hb3 | exact hb1)))
  all_goals (try ((fail_if_success (refine WH.part 76 (b := true) rfl (fun _ => ?_) (fun _ => ?_))); (fail_if_success (refine WH.part 76 (b := false) rfl (fun _ => ?_) (fun _ => ?_))); (refine WH.part 76 rfl (fun hb => ?_) (fun hb => ?_))))
  all_goals (first | (refine WH.ps 23 rfl rfl rfl rfl ?_ (hC := (by first | exact hb9 | exact hb8 | exact hb7 | exact hb6 | exact hb5 | exact hb4 | exact hb3 | exact hb1))) | (refine WH.tk 23 rfl (fun hq hC => ok_fieldAddr rfl Tryz.underlying32 rfl (fun w => Tryz.sizeOf29 w)) rfl rfl rfl ?_ (hC := (by first | exact hb9 | exact hb8 | exact hb7 | exact hb6 | exact hb5 | exact hb4 | exact hb3 | exact hb1))))
  all_goals (first | (refine WH.ps 24 rfl rfl rfl rfl ?_ (hC := (by first | exact hb9 | exact hb8 | exact hb7 | exact hb6 | exact hb5 | exact hb4 | exact hb3 | exact hb1))) | (refine WH.tk 24 rfl (fun hq hC => ok_load (fun w => Tryz.isAgg29 w) rfl (cell_blk hC rfl)) rfl rfl rfl ?_ (hC := (by first | exact hb9 | exact hb8 | exact hb7 | exact hb6 | exact hb5 | exact hb4 | exact hb3 | exact hb1))))
  all_goals (first
    | (refine WH.ps 25 rfl rfl rfl rfl ?_ (hC := (by first | exact hb9 | exact hb8 | exact hb7 | exact hb6 | exact hb5 | exact hb4 | exact hb3 | exact hb1)))
    | (all_goals (refine WH.one 25 (by kernel_rfl) ?_)
       all_goals (refine Comes1.call (vs := [_]) rfl rfl (fun a w => Tryz.call104 a w) rfl ((values07 lr (hr.ext0 hX3) (by omega) (fun c hc => by have := md6 c hc; omega)).dec) rfl rfl rfl ?_ (fun _ => by kernel_rfl)
                  rintro _ h9 ⟨⟨rfl, c6⟩ | ⟨rfl, c6⟩, hz9⟩
                  all_goals subst h9)
       all_goals (refine ⟨fun _ => by first | assumption | trivial, ?_⟩)
       skip))
  all_goals (first | (refine WH.ps 26 rfl rfl rfl rfl ?_ (hC := (by first | exact hb9 | exact hb8 | exact hb7 | exact hb6 | exact hb5 | exact hb4 | exact hb3 | exact hb1))) | (refine WH.tk 26 rfl (fun hq hC => ok_not rfl) rfl rfl rfl ?_ (hC := (by first | exact hb9 | exact hb8 | exact hb7 | exact hb6 | exact hb5 | exact hb4 | exact hb3 | exact hb1))))
  all_goals (first | (refine WH.tk 27 rfl (fun hq hC => ok_pick_t rfl rfl) rfl rfl rfl ?_ (hC := (by first | exact hb9 | exact hb8 | exact hb7 | exact hb6 | exact hb5 | exact hb4 | exact hb3 | exact hb1))) | (refine WH.tk 27 rfl (fun hq hC => ok_pick_f rfl rfl) rfl rfl rfl ?_ (hC := (by first | exact hb9 | exact hb8 | exact hb7 | exact hb6 | exact hb5 | exact hb4 | exact hb3 | exact hb1))))
  all_goals (refine WH.tk 28 rfl (fun hq hC => ok_move rfl) rfl rfl rfl ?_ (hC := (by first | exact hb9 | exact hb8 | exact hb7 | exact hb6 | exact hb5 | exact hb4 | exact hb3 | exact hb1)))
  all_goals (try ((fail_if_success (refine WH.part 82 (b := true) rfl (fun _ => ?_) (fun _ => ?_))); (fail_if_success (refine WH.part 82 (b := false) rfl (fun _ => ?_) (fun _ => ?_))); (refine WH.part 82 rfl (fun hb => ?_) (fun hb => ?_))))
  all_goals (first | (refine WH.ps 29 rfl rfl rfl rfl ?_ (hC := (by first | exact hb9 | exact hb8 | exact hb7 | exact hb6 | exact hb5 | exact hb4 | exact hb3 | exact hb1))) | (refine WH.tk 29 rfl (fun hq hC => ok_loadN (fun w => Tryz.isAgg32 w) (fun w => Tryz.sizeOf32 w) rfl rfl (by exact At.of_block hC)) rfl rfl rfl ?_ (hC := (by first | exact hb9 | exact hb8 | exact hb7 | exact hb6 | exact hb5 | exact hb4 | exact hb3 | exact hb1))))
  all_goals (first | (refine WH.ps 30 rfl rfl rfl rfl ?_ (hC := (by first | exact hb9 | exact hb8 | exact hb7 | exact hb6 | exact hb5 | exact hb4 | exact hb3 | exact hb1))) | (refine WH.tk 30 rfl (fun hq hC => ok_loadN (fun w => Tryz.isAgg32 w) (fun w => Tryz.sizeOf32 w) rfl rfl (by exact At.of_block hC)) rfl rfl rfl ?_ (hC := (by first | exact hb9 | exact hb8 | exact hb7 | exact hb6 | exact hb5 | exact hb4 | exact hb3 | exact hb1))))
  all_goals (first
    | (refine WH.ps 31 rfl rfl rfl rfl ?_ (hC := (by first | exact hb9 | exact hb8 | exact hb7 | exact hb6 | exact hb5 | exact hb4 | exact hb3 | exact hb1)))
    | (all_goals (refine WH.one 31 (by kernel_rfl) ?_)
       all_goals (refine Comes1.call (vs := [_]) rfl rfl (fun a w => Tryz.call106 a w) rfl (hof hX3) rfl rfl rfl ?_ (fun _ => by kernel_rfl)
                  rintro _ g8 ⟨rfl, hx8⟩
                  have hb8 := hx8.obj hb3 nos
                  have hX8 := hX3.trans hx8)
       all_goals (refine ⟨fun _ => hb8, ?_⟩)
       skip))
  all_goals (first
    | (refine WH.ps 32 rfl rfl rfl rfl ?_ (hC := (by first | exact hb9 | exact hb8 | exact hb7 | exact hb6 | exact hb5 | exact hb4 | exact hb3 | exact hb1)))
    | (all_goals (refine WH.one 32 (by kernel_rfl) ?_)
       all_goals (refine Comes1.call (vs := [_, _]) rfl rfl (fun a w => Tryz.call105 a w) rfl (hsa hX8) rfl rfl rfl ?_ (fun _ => by kernel_rfl)
                  rintro _ g9 ⟨⟨sx, rfl, hsx⟩, hx9⟩
                  have hb9 := hx9.obj hb8 nos
                  cases sx)
       all_goals (refine ⟨fun _ => hb9, ?_⟩)
       skip))
  all_goals (first | (refine WH.ps 33 rfl rfl rfl rfl ?_ (hC := (by first | exact hb9 | exact hb8 | exact hb7 | exact hb6 | exact hb5 | exact hb4 | exact hb3 | exact hb1))) | (refine WH.tk 33 rfl (fun hq hC => ok_not rfl) rfl rfl rfl ?_ (hC := (by first | exact hb9 | exact hb8 | exact hb7 | exact hb6 | exact hb5 | exact hb4 | exact hb3 | exact hb1))))
  all_goals (first | (refine WH.tk 34 rfl (fun hq hC => ok_pick_t rfl rfl) rfl rfl rfl ?_ (hC := (by first | exact hb9 | exact hb8 | exact hb7 | exact hb6 | exact hb5 | exact hb4 | exact hb3 | exact hb1))) | (refine WH.tk 34 rfl (fun hq hC => ok_pick_f rfl rfl) rfl rfl rfl ?_ (hC := (by first | exact hb9 | exact hb8 | exact hb7 | exact hb6 | exact hb5 | exact hb4 | exact hb3 | exact hb1))))
  all_goals (refine WH.done (by kernel_rfl) ?_)
  all_goals (refine Gn ?_)
  all_goals (refine WC.sub [(88, _)] ⟨rfl, trivial⟩ ?_)
  all_goals (refine goC 3 4 ?_ ?_ <;> first | exact ⟨⟩ | refine Hb.mk fun hb => ?_ | skip)
  all_goals (first | (fail_if_success refine goB 3 ?_) | (
  refine goB 3 ?_
  all_goals (refine WC.sr ?_)
  all_goals (refine Go ?_)
  all_goals (refine WC.ret ?_)
  all_goals (repeat' (with_reducible first | refine thenP_r ?_ | refine blockP_r ?_))
  all_goals (refine retP_1 _ ⟨rfl, trivial⟩ ?_)
  all_goals (first
              | exact ⟨⟨0, rfl, ⟨fun _ => hyes (hkx.1 rfl) c1 c2 c3 c4 c5 c6 c7 c8 c9 (hst.1 (by omega)) (hsx.1 rfl), fun _ => rfl⟩⟩, hX8.trans hx9⟩
              | (refine ⟨⟨_, rfl, ⟨fun z => absurd z (by decide), fun z => absurd z ?_⟩⟩, ?_⟩
                 · first | exact hnk (fun z => Bool.false_ne_true (hkx.2 z)) | exact hn1 c1 | exact hn2 c2 | exact hn3 c3 | exact hn8 c8 | exact hn9 c9 | exact hn7 c7 | exact hn10 (fun z => by have := hst.2 z; omega) | exact hn4 c4 | exact hn5 c5 | exact hn6 c6 | exact hn11 (fun z => Bool.false_ne_true (hsx.2 z))
                 · first | exact hX8.trans hx9 | exact hX3 | exact hx1))
  skip))
  all_goals (first | (fail_if_success refine goB 4 ?_) | (
  refine goB 4 ?_
  all_goals (refine WC.skip ?_)
  skip))
  all_goals (refine Gn ?_)
  all_goals (refine WC.sr ?_)
  all_goals (refine Go ?_)
  all_goals (refine WC.ret ?_)
  all_goals (repeat' (with_reducible first | refine thenP_r ?_ | refine blockP_r ?_))
  all_goals (refine retP_1 _ ⟨rfl, trivial⟩ ?_)
  all_goals (first
              | exact ⟨⟨0, rfl, ⟨fun _ => hyes (hkx.1 rfl) c1 c2 c3 c4 c5 c6 c7 c8 c9 (hst.1 (by omega)) (hsx.1 rfl), fun _ => rfl⟩⟩, hX8.trans hx9⟩
              | (refine ⟨⟨_, rfl, ⟨fun z => absurd z (by decide), fun z => absurd z ?_⟩⟩, ?_⟩
                 · first | exact hnk (fun z => Bool.false_ne_true (hkx.2 z)) | exact hn1 c1 | exact hn2 c2 | exact hn3 c3 | exact hn8 c8 | exact hn9 c9 | exact hn7 c7 | exact hn10 (fun z => by have := hst.2 z; omega) | exact hn4 c4 | exact hn5 c5 | exact hn6 c6 | exact hn11 (fun z => Bool.false_ne_true (hsx.2 z))
                 · first | exact hX8.trans hx9 | exact hX3 | exact hx1))
end Go.Proofs.YtbahigffjclpdaaGreatDoor


/-
  THE ADDRESS OF AN ARRAY's ENTRY. No program is named here.
-/
namespace Go.RK
open Go

section
variable {P : Program} {f : Fr} {h : Heap} {d : Option Tmp} {ty : TypeId} {pos : String} {af : Array Edge} {g : Option (Nat × Bool)}
theorem ok_idxAddrR {t e : TypeId} {x y : Operand} {b o l sz k : Nat} {kd : IntKind} {i : Int} (hu : P.underlying t = some (.array l e)) (hz : ∀ w, (sizeOf e).run P w = .ok sz w)
    (hx : f.ev x = some (.pointer (some ⟨b, o, Option.none⟩))) (hy : f.ev y = some (.int kd i)) (hi : i = (k : Int)) (hk : k < l) :
    OkP P f ⟨d, .indexAddr t x y, ty, pos, af, g⟩ h (.pointer (some ⟨b, o + k * sz, Option.none⟩)) := fun ρ w ha _ => by
  subst hi
  have h1 : (0 : Int) ≤ k ∧ (k : Int) < l := ⟨by omega, by omega⟩
  have hs : (Instr.sureAddr (.pointer (some ⟨b, o, Option.none⟩))).run P w = .ok ⟨b, o, Option.none⟩ w := rfl
  simp [execOp, ha _ _ hx, ha _ _ hy, Instr.indexAt, asIntOf, run_underlying hu, h1, hz, hs, hk, Addr.add_lit]
end
end Go.RK

/-
  FAULTS (layer 8): fields of messages: found, set, made.
-/
namespace Go.Proofs.YtbahigffjclpdaaGreatDoor
open Go Go.RK

abbrev atP (c : Int) (f : FieldD) : Bool := decide (f.k = c)
set_option maxHeartbeats 2000000 in
set_option maxRecDepth 100000 in
theorem atf {h : Heap} {b : Nat} {ty : TypeId} (x : FieldD) (c : Int) (hb : h[b]? = some (.cells ⟨[.int .u8 c]⟩ ty (0, 0))) : CallsH Tryz.prog 60 ⟨[.agg ⟨x.cells⟩, .pointer (some ⟨b, 0, none⟩)]⟩ h fun u h' => u = .bool (atP c x) ∧ Ext No h h' := by
  obtain ⟨k, t⟩ := x
  dsimp only [FieldD.cells, atP]
  refine calls [(0, _), (1, _)] Tryz.func60 rfl Tryz.ntmps60 rfl ⟨rfl, rfl, trivial⟩ ?_
  all_goals (refine WC.sr ?_)
  all_goals (refine WL.stepR (okE_box rfl) rfl rfl rfl ?_
             rintro _ h1 ⟨b1, rfl, hg1, hb1, hx1⟩)
  all_goals (refine Go ?_)
  all_goals (refine WC.sr ?_)
  all_goals (refine Go ?_)
  all_goals (refine WL.step (ok_load (fun w => Tryz.isAgg5 w) rfl (by first | assumption | exact cell_blk (by assumption) rfl)) rfl rfl rfl ?_)
  all_goals (refine WL.step (ok_load (fun w => Tryz.isAgg5 w) rfl (by first | exact cell_blk (hx1.obj hb nos) rfl | assumption | exact cell_blk (by assumption) rfl)) rfl rfl rfl ?_)
  all_goals (refine WL.step (ok_eql rfl rfl) rfl rfl rfl ?_)
  all_goals (refine Go ?_)
  all_goals (refine WC.sub [(3, _)] ⟨rfl, trivial⟩ ?_)
  all_goals (refine WC.ret ?_)
  all_goals (repeat' (with_reducible first | refine thenP_r ?_ | refine blockP_r ?_))
  all_goals (refine retP_1 _ ⟨rfl, trivial⟩ ?_)
  all_goals (exact ⟨rfl, hx1⟩)
set_option maxHeartbeats 2000000 in
set_option maxRecDepth 100000 in
theorem at_v {h : Heap} {v : Value} (F : List FieldD) (c : Int) (hr : Rd h v 2 F.length (F.flatMap FieldD.cells)) (hm : F.length ≤ maxLen) : CallsH Tryz.prog 42 ⟨[v, .int .u8 c]⟩ h fun u h' => u = In (idxP (atP c) F) ∧ Ext No h h' := by
  refine calls [(0, _), (1, _)] Tryz.func42 rfl Tryz.ntmps42 rfl ⟨rfl, rfl, trivial⟩ ?_
  all_goals (refine WC.sr ?_)
  all_goals (refine WL.stepR (okE_box rfl) rfl rfl rfl ?_
             rintro _ h1 ⟨b1, rfl, hg1, hb1, hx1⟩)
  all_goals (refine Go ?_)
  all_goals (refine WC.sr ?_)
  all_goals (refine Go ?_)
  all_goals (refine WL.step (ok_makeFunc (vs := []) (us := [_]) rfl rfl) rfl rfl rfl ?_)
  all_goals (refine WL.call (vs := [_, _]) rfl (fun a w => Tryz.call39 a w) rfl (indexFunc_fld F (atP c) (fun a w => Tryz.call60 a w) (fs := []) (us := [.pointer (some ⟨b1, 0, none⟩)]) (hr.ext0 hx1) hm (fun x hx h' hx' => atf x c (hx'.obj hb1 nos))) rfl rfl rfl ?_
             rintro _ h2 ⟨rfl, hx2⟩)
  all_goals (refine Go ?_)
  all_goals (refine WC.sub [(4, _)] ⟨rfl, trivial⟩ ?_)
  all_goals (refine WC.ret ?_)
  all_goals (repeat' (with_reducible first | refine thenP_r ?_ | refine blockP_r ?_))
  all_goals (refine retP_1 _ ⟨rfl, trivial⟩ ?_)
  all_goals (exact ⟨rfl, hx1.trans hx2⟩)
def getT (c : Int) (F : List FieldD) : Option (List UInt8) := (F.find? (atP c)).map (·.t)
theorem getT_at {c : Int} {F : List FieldD} {k : Nat} {y : FieldD} (h1 : F[k]? = some y) (h2 : atP c y = true) (h3 : ∀ x ∈ F.take k, atP c x = false) : getT c F = some y.t := by
  have hk := (List.getElem?_eq_some_iff.1 h1)
  have e : F = F.take k ++ y :: F.drop (k + 1) := by
    conv => lhs; rw [← List.take_append_drop k F]
    rw [List.drop_eq_getElem_cons hk.1, hk.2]
  unfold getT
  rw [e, List.find?_append, List.find?_eq_none.2 (fun x hx => by rw [h3 x hx]; decide), Option.none_or, List.find?_cons, h2]
  rfl
theorem getT_no {c : Int} {F : List FieldD} (h : ∀ x ∈ F, atP c x = false) : getT c F = none := by
  unfold getT
  rw [List.find?_eq_none.2 (fun x hx => by rw [h x hx]; decide)]
  rfl
set_option maxHeartbeats 2000000 in
set_option maxRecDepth 100000 in
theorem get_v {h : Heap} {v : Value} (F : List FieldD) (c : Int) (hr : Rd h v 2 F.length (F.flatMap FieldD.cells)) (hm : F.length ≤ maxLen) : CallsH Tryz.prog 23 ⟨[v, .int .u8 c]⟩ h fun u h' => u = .tuple ⟨[St ((getT c F).getD []), .bool (getT c F).isSome]⟩ ∧ Ext No h h' := by
  have ka := at_v F c hr hm
  obtain ⟨A, cc, rfl, _⟩ := id hr
  rcases idxP_cases (atP c) F with ⟨e, hno⟩ | ⟨k, y, e, hy, hp, hn⟩
  · rw [e] at ka
    rw [getT_no hno]
    refine calls [(0, _), (1, _)] Tryz.func23 rfl Tryz.ntmps23 rfl ⟨rfl, rfl, trivial⟩ ?_
    all_goals (refine WC.sr ?_)
    all_goals (refine Go ?_)
    all_goals (refine WC.sr ?_)
    all_goals (refine Go ?_)
    all_goals (refine WL.call (vs := [_, _]) rfl (fun a w => Tryz.call42 a w) rfl (ka) rfl rfl rfl ?_
               rintro _ h1 ⟨rfl, hx1⟩)
    all_goals (refine Go ?_)
    all_goals (refine WC.sub [(0, _), (6, _)] ⟨rfl, rfl, trivial⟩ ?_)
    all_goals (refine WC.seq ?_)
    all_goals (refine WC.sr ?_)
    all_goals (refine Go ?_)
    all_goals (refine goC 1 2 ?_ ?_ <;> first | exact ⟨⟩ | refine Hb.mk fun hb => ?_ | skip)
    all_goals (first | (fail_if_success refine goB 1 ?_) | (
    refine goB 1 ?_
    all_goals (refine WC.sr ?_)
    all_goals (refine Go ?_)
    all_goals (refine WC.sub [(4, _), (5, _)] ⟨rfl, rfl, trivial⟩ ?_)
    all_goals (refine WC.ret ?_)
    all_goals (repeat' (with_reducible first | refine thenP_r ?_ | refine blockP_r ?_))
    all_goals (refine retP_2 _ _ ⟨rfl, rfl, trivial⟩ ?_)
    all_goals (exact ⟨rfl, hx1⟩)
    skip))
    all_goals (first | (fail_if_success refine goB 2 ?_) | (
    refine goB 2 ?_
    all_goals (refine WC.skip ?_)
    skip))
    all_goals (refine Gn ?_)
    all_goals (refine WC.sr ?_)
    all_goals (refine Go ?_)
    all_goals (refine WL.step (ok_idxAddrA Tryz.underlying30 (fun w => Tryz.sizeOf54 w) rfl rfl rfl (by omega) (by first | rfl | assumption)) rfl rfl rfl ?_)
    all_goals (refine Go ?_)
    all_goals (refine WL.step (ok_load (fun w => Tryz.isAgg9 w) rfl (by first | assumption | exact cell_blk (by assumption) rfl)) rfl rfl rfl ?_)
    all_goals (refine Go ?_)
    all_goals (refine WC.sub [(4, _), (5, _)] ⟨rfl, rfl, trivial⟩ ?_)
    all_goals (refine WC.ret ?_)
    all_goals (repeat' (with_reducible first | refine thenP_r ?_ | refine blockP_r ?_))
    all_goals (refine retP_2 _ _ ⟨rfl, rfl, trivial⟩ ?_)
    all_goals (exact ⟨rfl, hx1⟩)
  · rw [e] at ka
    rw [getT_at hy hp hn]
    have hkl := (List.getElem?_eq_some_iff.1 hy).1
    obtain ⟨bL, oL, hA, hbL, hat⟩ := Rd.at_ hr (by omega)
    have hc : At h bL (oL + k * 2) [.int .u8 y.k, St y.t] := At.elem FieldD.len hat hy
    refine calls [(0, _), (1, _)] Tryz.func23 rfl Tryz.ntmps23 rfl ⟨rfl, rfl, trivial⟩ ?_
    all_goals (refine WC.sr ?_)
    all_goals (refine Go ?_)
    all_goals (refine WC.sr ?_)
    all_goals (refine Go ?_)
    all_goals (refine WL.call (vs := [_, _]) rfl (fun a w => Tryz.call42 a w) rfl (ka) rfl rfl rfl ?_
               rintro _ h1 ⟨rfl, hx1⟩)
    all_goals (refine Go ?_)
    all_goals (refine WC.sub [(0, _), (6, _)] ⟨rfl, rfl, trivial⟩ ?_)
    all_goals (refine WC.seq ?_)
    all_goals (refine WC.sr ?_)
    all_goals (refine Go ?_)
    all_goals (refine goC 1 2 ?_ ?_ <;> first | exact ⟨⟩ | refine Hb.mk fun hb => ?_ | skip)
    all_goals (first | (fail_if_success refine goB 1 ?_) | (
    refine goB 1 ?_
    all_goals (refine WC.sr ?_)
    all_goals (refine Go ?_)
    all_goals (refine WC.sub [(4, _), (5, _)] ⟨rfl, rfl, trivial⟩ ?_)
    all_goals (refine WC.ret ?_)
    all_goals (repeat' (with_reducible first | refine thenP_r ?_ | refine blockP_r ?_))
    all_goals (refine retP_2 _ _ ⟨rfl, rfl, trivial⟩ ?_)
    all_goals (exact ⟨rfl, hx1⟩)
    skip))
    all_goals (first | (fail_if_success refine goB 2 ?_) | (
    refine goB 2 ?_
    all_goals (refine WC.skip ?_)
    skip))
    all_goals (refine Gn ?_)
    all_goals (refine WC.sr ?_)
    all_goals (refine Go ?_)
    all_goals (refine WL.step (ok_idxAddrA Tryz.underlying30 (fun w => Tryz.sizeOf54 w) rfl rfl rfl (by omega) (by first | rfl | assumption)) rfl rfl rfl ?_)
    all_goals (refine Go ?_)
    all_goals (refine WL.step (ok_load (fun w => Tryz.isAgg9 w) rfl (by first | exact (hc.ext hx1 nos).get 1 rfl rfl | assumption | exact cell_blk (by assumption) rfl)) rfl rfl rfl ?_)
    all_goals (refine Go ?_)
    all_goals (refine WC.sub [(4, _), (5, _)] ⟨rfl, rfl, trivial⟩ ?_)
    all_goals (refine WC.ret ?_)
    all_goals (repeat' (with_reducible first | refine thenP_r ?_ | refine blockP_r ?_))
    all_goals (refine retP_2 _ _ ⟨rfl, rfl, trivial⟩ ?_)
    all_goals (exact ⟨rfl, hx1⟩)
theorem fld_one {l : List FieldD} : ∀ v ∈ l.flatMap FieldD.cells, v.oneCell' = true := fun v hv => by
  obtain ⟨p, _, hp⟩ := List.mem_flatMap.1 hv
  simp only [FieldD.cells, List.mem_cons, List.not_mem_nil, or_false] at hp
  rcases hp with rfl | rfl <;> rfl
set_option maxHeartbeats 2000000 in
set_option maxRecDepth 100000 in
theorem clone_fld {h : Heap} {A : Option Addr} {c : Nat} (F : List FieldD) (hr : Rd h (.slice A F.length c) 2 F.length (F.flatMap FieldD.cells)) (hm : F.length ≤ 1000000) :
    CallsH Tryz.prog 45 ⟨[.slice A F.length c]⟩ h fun u h' => Own h' u 54 2 F.length (F.flatMap FieldD.cells) ∧ Ext No h h' ∧ (∀ k, u.ownBlock = some k → h.size ≤ k) := by
  cases A with
  | none =>
    have h0 : F = [] := by
      cases F with
      | nil => rfl
      | cons a l => obtain ⟨b, o, e, _⟩ := Rd.at_ hr (by simp); cases e
    subst h0
    refine calls [(0, _)] Tryz.func45 rfl Tryz.ntmps45 rfl ⟨rfl, trivial⟩ ?_
    all_goals (refine WC.sr ?_)
    all_goals (refine Go ?_)
    all_goals (refine WC.seq ?_)
    all_goals (refine WC.sr ?_)
    all_goals (refine Go ?_)
    all_goals (refine WL.step (ok_eqlSn Tryz.underlying30 rfl rfl) rfl rfl rfl ?_)
    all_goals (refine Gn ?_)
    all_goals (refine goC 1 2 ?_ ?_ <;> first | exact ⟨⟩ | refine Hb.mk fun hb => ?_ | skip)
    all_goals (first | (fail_if_success refine goB 1 ?_) | (
    refine goB 1 ?_
    all_goals (refine WC.sr ?_)
    all_goals (refine Go ?_)
    all_goals (refine WC.ret ?_)
    all_goals (repeat' (with_reducible first | refine thenP_r ?_ | refine blockP_r ?_))
    all_goals (refine retP_1 _ ⟨rfl, trivial⟩ ?_)
    all_goals (exact ⟨Own.nil _ _ _, .refl _ _, by simp [Value.ownBlock]⟩)
    skip))
    all_goals (first | (fail_if_success refine goB 2 ?_) | (
    refine goB 2 ?_
    all_goals (refine WC.skip ?_)
    skip))
    all_goals (refine Gn ?_)
    all_goals (refine WC.sr ?_)
    all_goals (refine WL.stepR (okE_buildSlice (vs := []) (cs := []) (fun _ => []) Tryz.underlying30 rfl rfl (by kernel_rfl)) rfl rfl rfl ?_
               rintro _ h1 ⟨b1, rfl, hg1, hb1, hx1⟩)
    all_goals (refine Go ?_)
    all_goals (refine WL.stepR (ok_append (sz := 2) (bytes := 24) rfl Tryz.underlying30 (show Tryz.prog.info? 54 = some Tryz.t54 by kernel_rfl) rfl rfl rfl rfl (by decide) rfl rfl (by assumption) (by first | assumption | exact rd_blk (by assumption) rfl) (by simp [Value.oneCell']) (by simp only [maxLen]; omega) (by omega)) rfl rfl rfl ?_
               rintro v1 h1 ⟨ho1, hx1, hl1⟩)
    all_goals (refine Go ?_)
    all_goals (refine WC.sub [(2, _)] ⟨rfl, trivial⟩ ?_)
    all_goals (refine WC.ret ?_)
    all_goals (repeat' (with_reducible first | refine thenP_r ?_ | refine blockP_r ?_))
    all_goals (refine retP_1 _ ⟨rfl, trivial⟩ ?_)
    all_goals (exact ⟨Own.nil _ _ _, .refl _ _, by simp [Value.ownBlock]⟩)
  | some a =>
    refine calls [(0, _)] Tryz.func45 rfl Tryz.ntmps45 rfl ⟨rfl, trivial⟩ ?_
    all_goals (refine WC.sr ?_)
    all_goals (refine Go ?_)
    all_goals (refine WC.seq ?_)
    all_goals (refine WC.sr ?_)
    all_goals (refine Go ?_)
    all_goals (refine WL.step (ok_eqlSn Tryz.underlying30 rfl rfl) rfl rfl rfl ?_)
    all_goals (refine Gn ?_)
    all_goals (refine goC 1 2 ?_ ?_ <;> first | exact ⟨⟩ | refine Hb.mk fun hb => ?_ | skip)
    all_goals (first | (fail_if_success refine goB 1 ?_) | (
    refine goB 1 ?_
    all_goals (refine WC.sr ?_)
    all_goals (refine Go ?_)
    all_goals (refine WC.ret ?_)
    all_goals (repeat' (with_reducible first | refine thenP_r ?_ | refine blockP_r ?_))
    all_goals (refine retP_1 _ ⟨rfl, trivial⟩ ?_)
    all_goals (exact ⟨by simpa using ho2, hx1.trans' hx2 (fun k hk e => by simp [Value.ownBlock] at e; omega), fresh_of hl2 (fun k hk => by simp [Value.ownBlock] at hk; omega) hx1.size⟩)
    skip))
    all_goals (first | (fail_if_success refine goB 2 ?_) | (
    refine goB 2 ?_
    all_goals (refine WC.skip ?_)
    skip))
    all_goals (refine Gn ?_)
    all_goals (refine WC.sr ?_)
    all_goals (refine WL.stepR (okE_buildSlice (vs := []) (cs := []) (fun _ => []) Tryz.underlying30 rfl rfl (by kernel_rfl)) rfl rfl rfl ?_
               rintro _ h1 ⟨b1, rfl, hg1, hb1, hx1⟩)
    all_goals (refine Go ?_)
    all_goals (have hr1 := hr.ext0 hx1)
    all_goals (refine WL.stepR (ok_append (sz := 2) (bytes := 24) rfl Tryz.underlying30 (show Tryz.prog.info? 54 = some Tryz.t54 by kernel_rfl) rfl rfl rfl rfl (by decide) rfl rfl (own_blk hb1 rfl (by simp [maxLen])) hr1 fld_one (by simp only [maxLen]; omega) (by omega)) rfl rfl rfl ?_
               rintro v2 h2 ⟨ho2, hx2, hl2⟩)
    all_goals (refine Go ?_)
    all_goals (refine WC.sub [(2, _)] ⟨rfl, trivial⟩ ?_)
    all_goals (refine WC.ret ?_)
    all_goals (repeat' (with_reducible first | refine thenP_r ?_ | refine blockP_r ?_))
    all_goals (refine retP_1 _ ⟨rfl, trivial⟩ ?_)
    all_goals (exact ⟨by simpa using ho2, hx1.trans' hx2 (fun k hk e => by simp [Value.ownBlock] at e; omega), fresh_of hl2 (fun k hk => by simp [Value.ownBlock] at hk; omega) hx1.size⟩)
/-- The first field of a code has another text. -/
def withF (c : Int) (t : List UInt8) (F : List FieldD) : List FieldD := if idxP (atP c) F < 0 then F else F.set (idxP (atP c) F).toNat ⟨c, t⟩
theorem withF_len (c : Int) (t : List UInt8) (F : List FieldD) : (withF c t F).length = F.length := by unfold withF; split <;> simp
end Go.Proofs.YtbahigffjclpdaaGreatDoor


/-
  RANGES OVER MAPS: an iterator, what has come out of it so far, in whatever order. No program is named here.
-/
namespace Go.RK
open Go Go.MapKept Go.ChangeMaps

/-- Block r goes over the map in block m, that holds es; ds has come out so far. -/
structure ItA {κ : Type} (enc : κ → Value) (h : Heap) (r m : Nat) (es ds : List (κ × Value)) (arr : Array MapEntry) (clock since c0 : Nat) (seen : Array Nat) : Prop where
  it : h[r]? = some (.mapIter (some m) since seen c0)
  mp : h[m]? = some (.map arr clock)
  st : Stamped arr clock
  kv : arr.toList.map (fun e => (e.key, e.val)) = es.map fun p => (enc p.1, p.2)
  old : ∀ x ∈ arr.toList, x.born < since
  le : since ≤ c0
  le2 : since ≤ clock
  seen : ∀ x ∈ arr.toList, (seen.contains x.born = true ↔ ∃ p ∈ ds, (x.key, x.val) = (enc p.1, p.2))
  sub : ∀ p ∈ ds, p ∈ es
  nd : ds.Nodup
def It {κ : Type} (enc : κ → Value) (h : Heap) (r m : Nat) (es ds : List (κ × Value)) : Prop := ∃ arr clock since c0 seen, ItA enc h r m es ds arr clock since c0 seen
/-- p came out last. -/
def ItL {κ : Type} (enc : κ → Value) (h : Heap) (r m : Nat) (p : κ × Value) : Prop := ∃ arr clock since seen e, h[r]? = some (.mapIter (some m) since (Array.push seen e.born) clock) ∧ h[m]? = some (.map arr clock) ∧ (arr.toList.map (·.born)).Nodup ∧ e ∈ arr.toList ∧ e.key = enc p.1 ∧ e.val = p.2
/-- An iterator over no map. -/
def ItN (h : Heap) (r : Nat) : Prop := ∃ a s c, h[r]? = some (.mapIter Option.none a s c)
section
variable {P : Program} {f : Fr} {h h' : Heap} {d : Option Tmp} {ty : TypeId} {pos : String} {af : Array Edge} {g : Option (Nat × Bool)}
variable {κ : Type} {dsc : TypeDesc} {enc : κ → Value} {r m : Nat} {es ds : List (κ × Value)}
theorem It.ext {S : Nat → Prop} (i : It enc h r m es ds) (a : Ext S h h') (hr : ¬ S r) (hm : ¬ S m) : It enc h' r m es ds := by
  obtain ⟨arr, clock, since, c0, seen, k⟩ := i
  exact ⟨arr, clock, since, c0, seen, ⟨a.obj k.it hr, a.obj k.mp hm, k.st, k.kv, k.old, k.le, k.le2, k.seen, k.sub, k.nd⟩⟩
theorem ItL.ext {S : Nat → Prop} {p : κ × Value} (i : ItL enc h r m p) (a : Ext S h h') (hr : ¬ S r) (hm : ¬ S m) : ItL enc h' r m p := by
  obtain ⟨arr, clock, since, seen, e, h1, h2, h3⟩ := i
  exact ⟨arr, clock, since, seen, e, a.obj h1 hr, a.obj h2 hm, h3⟩
theorem It.map (i : It enc h r m es ds) : Mp dsc enc h m es := by
  obtain ⟨arr, clock, since, c0, seen, k⟩ := i
  exact ⟨arr, clock, k.mp, k.st, k.kv⟩
theorem It.lt (i : It enc h r m es ds) : r < h.size := by
  obtain ⟨arr, clock, since, c0, seen, k⟩ := i
  exact lt_of_some k.it
theorem It.sub (i : It enc h r m es ds) : ∀ p ∈ ds, p ∈ es := by
  obtain ⟨arr, clock, since, c0, seen, k⟩ := i
  exact k.sub
theorem It.nd (i : It enc h r m es ds) : ds.Nodup := by
  obtain ⟨arr, clock, since, c0, seen, k⟩ := i
  exact k.nd
end
end Go.RK

/-
  LISTS SORTED BY A TEXT, AND MAPS, in plain Lean: what is set, let go and found is alike in both; names sorted.
-/
namespace Go.Proofs.YtbahigffjclpdaaGreatDoor
open Go Go.RK

theorem lt_tri {a b : List UInt8} (h1 : ¬ a < b) (h2 : ¬ b < a) : a = b := List.le_antisymm (List.not_lt.1 h2) (List.not_lt.1 h1)

section
variable {α β : Type}
/-- Rising, each key once. -/
def Rise (L : List (List UInt8 × α)) : Prop := L.Pairwise fun a b => a.1 < b.1
def setL : List (List UInt8 × α) → List UInt8 → α → List (List UInt8 × α)
  | [], n, v => [(n, v)]
  | (m, w) :: L, n, v => if m < n then (m, w) :: setL L n v else if m = n then (n, v) :: L else (n, v) :: (m, w) :: L
def delL (L : List (List UInt8 × α)) (n : List UInt8) : List (List UInt8 × α) := L.filter fun p => decide (p.1 ≠ n)
def getL (L : List (List UInt8 × α)) (n : List UInt8) : Option α := (L.find? fun p => decide (p.1 = n)).map (·.2)
theorem Rise.nd {L : List (List UInt8 × α)} (h : Rise L) : (L.map (·.1)).Nodup := by
  refine List.pairwise_map.2 (h.imp fun {a b} hab e => ?_)
  rw [e] at hab
  exact List.lt_irrefl _ hab
theorem mem_setL {L : List (List UInt8 × α)} {n : List UInt8} {v : α} {p : List UInt8 × α} (h : p ∈ setL L n v) : p = (n, v) ∨ p ∈ L := by
  induction L with
  | nil => simpa [setL] using h
  | cons a L ih =>
    obtain ⟨m, w⟩ := a
    unfold setL at h
    split at h
    · rcases List.mem_cons.1 h with rfl | h
      · exact .inr List.mem_cons_self
      · exact (ih h).imp id (List.mem_cons_of_mem _)
    · split at h
      · rcases List.mem_cons.1 h with rfl | h
        · exact .inl rfl
        · exact .inr (List.mem_cons_of_mem _ h)
      · rcases List.mem_cons.1 h with rfl | h
        · exact .inl rfl
        · exact .inr h
theorem Rise.set {L : List (List UInt8 × α)} (h : Rise L) (n : List UInt8) (v : α) : Rise (setL L n v) := by
  induction L with
  | nil => simp [setL, Rise]
  | cons a L ih =>
    obtain ⟨m, w⟩ := a
    obtain ⟨h1, h2⟩ := List.pairwise_cons.1 h
    unfold setL
    split
    · rename_i hlt
      refine List.pairwise_cons.2 ⟨fun p hp => ?_, ih h2⟩
      rcases mem_setL hp with rfl | hp
      · exact hlt
      · exact h1 p hp
    · rename_i hlt
      split
      · rename_i he
        subst he
        exact List.pairwise_cons.2 ⟨h1, h2⟩
      · rename_i hne
        have hnm : n < m := by
          rcases Decidable.em (n < m) with h | h
          · exact h
          · exact absurd (lt_tri hlt h) hne
        refine List.pairwise_cons.2 ⟨fun p hp => ?_, h⟩
        rcases List.mem_cons.1 hp with rfl | hp
        · exact hnm
        · exact List.lt_trans hnm (h1 p hp)
/-! ### maps -/
def encE (f : α → Value) (E : List (List UInt8 × α)) : List (List UInt8 × Value) := E.map fun p => (p.1, f p.2)
/-- What the map has behind a set. -/
def putE (E : List (List UInt8 × α)) (n : List UInt8) (v : α) : List (List UInt8 × α) := if (getL E n).isSome = true then E.map (fun p => if p.1 = n then (n, v) else p) else E ++ [(n, v)]
/-- The names of a list, sorted. -/
def srtS (l : List (List UInt8)) : List (List UInt8) := l.mergeSort fun x y => decide (x ≤ y)
end
end Go.Proofs.YtbahigffjclpdaaGreatDoor


/-
  LISTS RISING BY A TEXT: where one is set, let go; rows of structs: a cell set, a part taken.
-/
namespace Go.Proofs.YtbahigffjclpdaaGreatDoor
open Go Go.RK

theorem flat_set {α : Type} {F : α → List Value} {sz : Nat} (hF : ∀ a, (F a).length = sz) {x : Value} {q q' : α} {j : Nat} (hj : j < sz) (hq : (F q).set j x = F q') : ∀ {L : List α} {k : Nat}, L[k]? = some q → (L.flatMap F).set (k * sz + j) x = (L.set k q').flatMap F
  | [], k, h => by cases h
  | a :: L, 0, h => by
    simp only [List.getElem?_cons_zero, Option.some.injEq] at h
    subst h
    rw [List.flatMap_cons, Nat.zero_mul, Nat.zero_add, List.set_append_left _ _ (by rw [hF]; exact hj), hq]
    rfl
  | a :: L, k + 1, h => by
    have ih := flat_set hF hj hq (L := L) (k := k) (by simpa using h)
    rw [List.flatMap_cons, List.set_append_right _ _ (by rw [hF, Nat.succ_mul]; omega), hF, show (k + 1) * sz + j - sz = k * sz + j by rw [Nat.succ_mul]; omega, ih]
    rfl
section
variable {α : Type} {F : α → List Value} {sz : Nat} (hF : ∀ a, (F a).length = sz)
include hF
/-- One cell of a row of one's own is set. -/
theorem row_set {h : Heap} {A : Option Addr} {c : Nat} {T : TypeId} {L : List α} {k : Nat} {q : α} (ho : Own h (.slice A L.length c) T sz L.length (L.flatMap F)) (hk : L[k]? = some q) : ∃ g gs, A = some ⟨g, 0, none⟩ ∧ h[g]? = some (.cells ⟨gs⟩ T (0, 0)) ∧ L.length * sz ≤ gs.length ∧
    ∀ {h' : Heap} {x : Value} {q' : α} {j : Nat}, j < sz → (F q).set j x = F q' → h'[g]? = some (.cells ⟨gs.set (k * sz + j) x⟩ T (0, 0)) → Own h' (.slice A L.length c) T sz L.length ((L.set k q').flatMap F) := by
  have hkl := (List.getElem?_eq_some_iff.1 hk).1
  obtain ⟨hl, ⟨e1, e2⟩ | ⟨g, cap, ⟨gs⟩, e1, hg, hn, hm, hs, ht⟩⟩ := ho
  · omega
  · simp only [Value.slice.injEq] at e1
    obtain ⟨rfl, _, rfl⟩ := e1
    have hs' : gs.length = c * sz := by simpa using hs
    refine ⟨g, gs, rfl, hg, by rw [hs']; exact Nat.mul_le_mul_right _ hn, fun {h'} {x} {q'} {j} hj hq hb => ?_⟩
    have e : (gs.set (k * sz + j) x).take (L.length * sz) = (L.set k q').flatMap F := by
      rw [List.take_set, show gs.take (L.length * sz) = L.flatMap F from ht]
      exact flat_set hF hj hq hk
    have := Own.of_block hb hn hm (by rw [List.length_set]; exact hs') e
    simpa using this
end
end Go.Proofs.YtbahigffjclpdaaGreatDoor


/-
  package strings by the shelf's contracts: Split at one byte, Replace, Join of three.
-/
namespace Go.Proofs.YtbahigffjclpdaaGreatDoor
open Go Go.RK Go.RowKit

/-! ### a text cut at a byte, in plain Lean -/
def segStep (c : UInt8) (st : List (List UInt8) × List UInt8) (a : UInt8) : List (List UInt8) × List UInt8 := if a = c then (st.1 ++ [st.2], []) else (st.1, st.2 ++ [a])
def seg (c : UInt8) (s : List UInt8) : List (List UInt8) × List UInt8 := s.foldl (segStep c) ([], [])
/-- The pieces between bytes c. -/
def pieces (c : UInt8) (s : List UInt8) : List (List UInt8) := (seg c s).1 ++ [(seg c s).2]
/-! ### the contracts -/
/-- The library's own number lies where it lies. -/
def Ml (h : Heap) : Prop := ∃ m, cell h ⟨0, 0, none⟩ = some (In m)
theorem Ml.ext0 {h h' : Heap} (m : Ml h) (a : Ext No h h') : Ml h' := by
  obtain ⟨k, hk⟩ := m
  exact ⟨k, a.cell hk nos⟩
theorem below_calls {P : Program} {k : FuncId} {args : Array Value} {h : Heap} {v : Value} (hc : ∀ w : World, w.heap = h → Calls P k args w fun e w' => e = .returned v ∧ Below w.heap.size w w') : CallsH P k args h fun u h' => u = v ∧ Ext No h h' :=
  fun w hw => (hc w hw).mono fun e w' ⟨he, hb⟩ => ⟨⟨hb.tape, hb.os, hb.output, trivial⟩, v, he, rfl, by subst hw; exact ⟨hb.size, fun b hlt _ => hb.block b hlt⟩⟩
theorem join3 {h : Heap} {b : Nat} (a c d : List UInt8) (hb : h[b]? = some (.cells ⟨[St a, St c, St d]⟩ 9 (0, 0))) (hl : a.length + c.length + d.length ≤ 1000000) :
    CallsH Tryz.prog 58 ⟨[.slice (some ⟨b, 0, none⟩) 3 3, St [32]]⟩ h fun u h' => u = St (a ++ [32] ++ c ++ [32] ++ d) ∧ Ext No h h' := by
  have e : Lib.join ([ByteArray.mk ⟨a⟩, ⟨⟨c⟩⟩, ⟨⟨d⟩⟩].map (·.data.toList)) (ByteArray.mk ⟨[32]⟩).data.toList = a ++ [32] ++ c ++ [32] ++ d := by
    show Lib.join [a, c, d] [32] = _
    rw [Lib.join_cons]
    simp [Lib.joinTail]
  refine below_calls fun w hw => ?_
  subst hw
  have := Tryz.strings_Join b 0 3 [⟨⟨a⟩⟩, ⟨⟨c⟩⟩, ⟨⟨d⟩⟩] ⟨⟨[32]⟩⟩ w (fun j x hj => ?_) (lt_of_some hb) (by simp) (by simp) (by rw [e]; simp; omega)
  · rw [e] at this
    exact this
  · rw [cell_eq, cell_of hb, Nat.zero_add]
    rcases j with _ | _ | _ | j <;> simp at hj ⊢
    all_goals (subst hj; rfl)
theorem replace_any {h : Heap} (s old new : List UInt8) (hM : Ml h) (hs : s.length ≤ 100000) (ho : 1 ≤ old.length) (hn : new.length ≤ 100000) :
    CallsH Tryz.prog 63 ⟨[St s, St old, St new, In 1]⟩ h fun u h' => u = St (Lib.replace s old new 1) ∧ Ext No h h' := by
  obtain ⟨m, hm⟩ := hM
  refine below_calls fun w hw => ?_
  subst hw
  have hc : Lib.countB ⟨⟨s⟩⟩ ⟨⟨old⟩⟩ ≤ s.length := Lib.countB_le ⟨⟨old⟩⟩ ho s.length ⟨⟨s⟩⟩ (Nat.le_refl _)
  have hmul : Lib.countB ⟨⟨s⟩⟩ ⟨⟨old⟩⟩ * new.length ≤ 100000 * 100000 := Nat.mul_le_mul (by omega) hn
  exact Tryz.strings_Replace ⟨⟨s⟩⟩ ⟨⟨old⟩⟩ ⟨⟨new⟩⟩ 1 m w (show s.length < 4294967281 by omega) hm ho (show s.length + Lib.countB ⟨⟨s⟩⟩ ⟨⟨old⟩⟩ * new.length ≤ 140737488355328 by omega)
end Go.Proofs.YtbahigffjclpdaaGreatDoor


/-
  NUMBERS IN DIGITS: package digits' Text (with strings.Builder) and the document's.
-/
namespace Go.Proofs.YtbahigffjclpdaaGreatDoor
open Go Go.RK

/-- A number's digits, from the last one on. -/
def rdig (m : Nat) : List UInt8 := if m < 10 then [UInt8.ofNat (48 + m)] else UInt8.ofNat (48 + m % 10) :: rdig (m / 10)
/-- A number in digits. -/
def dig (m : Nat) : List UInt8 := (rdig m).reverse
def deci (n : Int) : List UInt8 := if n < 0 then 45 :: dig n.natAbs else dig n.natAbs
/-! ### package strings: Builder -/
/-- A builder that no text was asked of, with these bytes. -/
def Bl (h : Heap) (b : Nat) (v : Value) (bs : List UInt8) : Prop := (∃ p, h[b]? = some (.cells ⟨[p, v]⟩ 112 (0, 0)) ∧ (p = .pointer none ∨ p = .pointer (some ⟨b, 0, none⟩))) ∧ Own h v 5 1 bs.length (bys bs) ∧ (bs = [] → v = .slice none 0 0)
end Go.Proofs.YtbahigffjclpdaaGreatDoor


/-
  TELL (layer 9): what is said of names, and the document's words.
-/
namespace Go.Proofs.YtbahigffjclpdaaGreatDoor
open Go Go.RK

def quoteL (n : List UInt8) : List UInt8 := [34] ++ n ++ [34]
def saysL (t n w : List UInt8) : List UInt8 := t ++ [32] ++ quoteL n ++ [32] ++ w
def missL (n : List UInt8) : List UInt8 := if n = [] then ([117, 110, 110, 97, 109, 101, 100, 32, 112, 114, 101, 112, 97, 114, 101, 100, 32, 115, 116, 97, 116, 101, 109, 101, 110, 116, 32, 100, 111, 101, 115, 32, 110, 111, 116, 32, 101, 120, 105, 115, 116] : List UInt8) else saysL ([112, 114, 101, 112, 97, 114, 101, 100, 32, 115, 116, 97, 116, 101, 109, 101, 110, 116] : List UInt8) n ([100, 111, 101, 115, 32, 110, 111, 116, 32, 101, 120, 105, 115, 116] : List UInt8)
def exisL (n : List UInt8) : List UInt8 := saysL ([112, 114, 101, 112, 97, 114, 101, 100, 32, 115, 116, 97, 116, 101, 109, 101, 110, 116] : List UInt8) n ([97, 108, 114, 101, 97, 100, 121, 32, 101, 120, 105, 115, 116, 115] : List UInt8)
def needL (n : List UInt8) : List UInt8 := ([44, 32, 98, 117, 116, 32, 112, 114, 101, 112, 97, 114, 101, 100, 32, 115, 116, 97, 116, 101, 109, 101, 110, 116, 32] : List UInt8) ++ quoteL n ++ ([32, 114, 101, 113, 117, 105, 114, 101, 115, 32] : List UInt8)
def arityL (p : Int) (n : List UInt8) (w : Int) : List UInt8 := ([98, 105, 110, 100, 32, 109, 101, 115, 115, 97, 103, 101, 32, 115, 117, 112, 112, 108, 105, 101, 115, 32] : List UInt8) ++ deci p ++ ([32, 112, 97, 114, 97, 109, 101, 116, 101, 114, 115] : List UInt8) ++ needL n ++ deci w
theorem quote_len (n : List UInt8) : (quoteL n).length = n.length + 2 := by simp [quoteL]
theorem need_len (n : List UInt8) : (needL n).length = n.length + 37 := by simp [needL, quote_len]

set_option maxHeartbeats 2000000 in
set_option maxRecDepth 100000 in
theorem quote_any {h : Heap} (n : List UInt8) (hn : n.length ≤ 1000000) : CallsH Tryz.prog 59 ⟨[St n]⟩ h fun u h' => u = St (quoteL n) ∧ h' = h := by
  refine calls [(0, _)] Tryz.func59 rfl Tryz.ntmps59 rfl ⟨rfl, trivial⟩ ?_
  all_goals (refine WC.sr ?_)
  all_goals (refine Go ?_)
  all_goals (refine WC.sr ?_)
  all_goals (refine Go ?_)
  all_goals (refine WL.step (ok_catS rfl rfl (by first | (simp only [List.length_append, List.length_cons, List.length_nil]; omega) | (simp; omega))) rfl rfl rfl ?_)
  all_goals (refine WL.step (ok_catS rfl rfl (by first | (simp only [List.length_append, List.length_cons, List.length_nil]; omega) | (simp; omega))) rfl rfl rfl ?_)
  all_goals (refine Go ?_)
  all_goals (refine WC.sub [(2, _)] ⟨rfl, trivial⟩ ?_)
  all_goals (refine WC.ret ?_)
  all_goals (repeat' (with_reducible first | refine thenP_r ?_ | refine blockP_r ?_))
  all_goals (refine retP_1 _ ⟨rfl, trivial⟩ ?_)
  all_goals (exact ⟨rfl, rfl⟩)
set_option maxHeartbeats 2000000 in
set_option maxRecDepth 100000 in
theorem quote_ref {h : Heap} (n : List UInt8) (hn : n.length ≤ 1000000) : CallsH Tryz.prog 52 ⟨[St n]⟩ h fun u h' => u = St (quoteL n) ∧ Ext No h h' := by
  refine calls [(0, _)] Tryz.func52 rfl Tryz.ntmps52 rfl ⟨rfl, trivial⟩ ?_
  all_goals (refine WC.sr ?_)
  all_goals (refine Go ?_)
  all_goals (refine WC.sr ?_)
  all_goals (refine WL.stepR (okE_buildSlice (vs := [_]) (cs := [_]) (fun | [a0] => [a0] | _ => []) Tryz.underlying24 rfl rfl (by kernel_rfl)) rfl rfl rfl ?_
             rintro _ h1 ⟨b1, rfl, hg1, hb1, hx1⟩)
  all_goals (refine WL.step (ok_convBS Tryz.underlying24 Tryz.underlying5 Tryz.underlying9 rfl (show Rd h1 (.slice (some ⟨b1, 0, none⟩) 1 1) 1 ([34] : List UInt8).length (bys [34]) from rd_blk hb1 rfl)) rfl rfl rfl ?_)
  all_goals (refine Go ?_)
  all_goals (refine WL.step (ok_catS rfl rfl (by first | (simp only [List.length_append, List.length_cons, List.length_nil]; omega) | (simp; omega))) rfl rfl rfl ?_)
  all_goals (refine WL.stepR (okE_buildSlice (vs := [_]) (cs := [_]) (fun | [a0] => [a0] | _ => []) Tryz.underlying24 rfl rfl (by kernel_rfl)) rfl rfl rfl ?_
             rintro _ h2 ⟨b2, rfl, hg2, hb2, hx2⟩)
  all_goals (refine WL.step (ok_convBS Tryz.underlying24 Tryz.underlying5 Tryz.underlying9 rfl (show Rd h2 (.slice (some ⟨b2, 0, none⟩) 1 1) 1 ([34] : List UInt8).length (bys [34]) from rd_blk hb2 rfl)) rfl rfl rfl ?_)
  all_goals (refine WL.step (ok_catS rfl rfl (by first | (simp only [List.length_append, List.length_cons, List.length_nil]; omega) | (simp; omega))) rfl rfl rfl ?_)
  all_goals (refine Go ?_)
  all_goals (refine WC.sub [(2, _)] ⟨rfl, trivial⟩ ?_)
  all_goals (refine WC.ret ?_)
  all_goals (repeat' (with_reducible first | refine thenP_r ?_ | refine blockP_r ?_))
  all_goals (refine retP_1 _ ⟨rfl, trivial⟩ ?_)
  all_goals (exact ⟨rfl, hx1.trans hx2⟩)
set_option maxHeartbeats 2000000 in
set_option maxRecDepth 100000 in
theorem says_any {h : Heap} (t n w : List UInt8) (ht : t.length ≤ 100) (hn : n.length ≤ 100000) (hw : w.length ≤ 100) : CallsH Tryz.prog 41 ⟨[St t, St n, St w]⟩ h fun u h' => u = St (saysL t n w) ∧ Ext No h h' := by
  have hq := quote_len n
  refine calls [(0, _), (1, _), (2, _)] Tryz.func41 rfl Tryz.ntmps41 rfl ⟨rfl, rfl, rfl, trivial⟩ ?_
  all_goals (refine WC.sr ?_)
  all_goals (refine Go ?_)
  all_goals (refine WC.sr ?_)
  all_goals (refine Go ?_)
  all_goals (refine WL.call (vs := [_]) rfl (fun a w => Tryz.call59 a w) rfl (quote_any n (by omega)) rfl rfl rfl ?_
             rintro _ hz ⟨rfl, _⟩
             subst hz)
  all_goals (refine Go ?_)
  all_goals (refine WL.stepR (okE_buildSlice (vs := [_, _, _]) (cs := [_, _, _]) (fun | [a0, a1, a2] => [a0, a1, a2] | _ => []) Tryz.underlying92 rfl rfl (by kernel_rfl)) rfl rfl rfl ?_
             rintro _ h1 ⟨b1, rfl, hg1, hb1, hx1⟩)
  all_goals (refine WL.call (vs := [_, _]) rfl (fun a w => Tryz.call58 a w) rfl (join3 t (quoteL n) w hb1 (by omega)) rfl rfl rfl ?_
             rintro _ h2 ⟨rfl, hx2⟩)
  all_goals (refine Go ?_)
  all_goals (refine WC.sub [(6, _)] ⟨rfl, trivial⟩ ?_)
  all_goals (refine WC.ret ?_)
  all_goals (repeat' (with_reducible first | refine thenP_r ?_ | refine blockP_r ?_))
  all_goals (refine retP_1 _ ⟨rfl, trivial⟩ ?_)
  all_goals (exact ⟨rfl, hx1.trans hx2⟩)
set_option maxHeartbeats 2000000 in
set_option maxRecDepth 100000 in
theorem missing_any {h : Heap} (n : List UInt8) (hn : n.length ≤ 100000) : CallsH Tryz.prog 22 ⟨[St n]⟩ h fun u h' => u = St (missL n) ∧ Ext No h h' := by
  by_cases h0 : n = []
  · subst h0
    refine calls [(0, _)] Tryz.func22 rfl Tryz.ntmps22 rfl ⟨rfl, trivial⟩ ?_
    all_goals (refine WC.sr ?_)
    all_goals (refine Go ?_)
    all_goals (refine WC.seq ?_)
    all_goals (refine WC.sr ?_)
    all_goals (refine Go ?_)
    all_goals (refine goC 1 2 ?_ ?_ <;> first | exact ⟨⟩ | refine Hb.mk fun hb => ?_ | skip)
    all_goals (first | (fail_if_success refine goB 1 ?_) | (
    refine goB 1 ?_
    all_goals (refine WC.sr ?_)
    all_goals (refine Go ?_)
    all_goals (refine WC.ret ?_)
    all_goals (repeat' (with_reducible first | refine thenP_r ?_ | refine blockP_r ?_))
    all_goals (refine retP_1 _ ⟨rfl, trivial⟩ ?_)
    all_goals (exact ⟨rfl, .refl _ _⟩)
    skip))
    all_goals (first | (fail_if_success refine goB 2 ?_) | (
    refine goB 2 ?_
    all_goals (refine WC.skip ?_)
    skip))
    all_goals (refine Gn ?_)
    all_goals (refine WC.sr ?_)
    all_goals (refine Go ?_)
    all_goals (fail "no contract for call of remuda/tell.says at 3.1")
    all_goals (refine Go ?_)
    all_goals (refine WC.sub [(2, _)] ⟨rfl, trivial⟩ ?_)
    all_goals (refine WC.ret ?_)
    all_goals (repeat' (with_reducible first | refine thenP_r ?_ | refine blockP_r ?_))
    all_goals (refine retP_1 _ ⟨rfl, trivial⟩ ?_)
    all_goals (exact ⟨rfl, .refl _ _⟩)
  · rw [missL, if_neg h0]
    refine calls [(0, _)] Tryz.func22 rfl Tryz.ntmps22 rfl ⟨rfl, trivial⟩ ?_
    all_goals (refine WC.sr ?_)
    all_goals (refine Go ?_)
    all_goals (refine WC.seq ?_)
    all_goals (refine WC.sr ?_)
    all_goals (refine Go ?_)
    all_goals (refine goC 1 2 ?_ ?_ <;> first | exact ⟨⟩ | refine Hb.mk fun hb => ?_ | skip)
    all_goals (first | (fail_if_success refine goB 1 ?_) | (
    refine goB 1 ?_
    all_goals (refine WC.sr ?_)
    all_goals (refine Go ?_)
    all_goals (refine WC.ret ?_)
    all_goals (repeat' (with_reducible first | refine thenP_r ?_ | refine blockP_r ?_))
    all_goals (refine retP_1 _ ⟨rfl, trivial⟩ ?_)
    all_goals (exact ⟨rfl, hx2⟩)
    skip))
    all_goals (first | (fail_if_success refine goB 2 ?_) | (
    refine goB 2 ?_
    all_goals (refine WC.skip ?_)
    skip))
    all_goals (refine Gn ?_)
    all_goals (refine WC.sr ?_)
    all_goals (refine Go ?_)
    all_goals (refine WL.call (vs := [_, _, _]) rfl (fun a w => Tryz.call41 a w) rfl (says_any ([112, 114, 101, 112, 97, 114, 101, 100, 32, 115, 116, 97, 116, 101, 109, 101, 110, 116] : List UInt8) n ([100, 111, 101, 115, 32, 110, 111, 116, 32, 101, 120, 105, 115, 116] : List UInt8) (by simp) hn (by simp)) rfl rfl rfl ?_
               rintro _ h2 ⟨rfl, hx2⟩)
    all_goals (refine Go ?_)
    all_goals (refine WC.sub [(2, _)] ⟨rfl, trivial⟩ ?_)
    all_goals (refine WC.ret ?_)
    all_goals (repeat' (with_reducible first | refine thenP_r ?_ | refine blockP_r ?_))
    all_goals (refine retP_1 _ ⟨rfl, trivial⟩ ?_)
    all_goals (exact ⟨rfl, hx2⟩)
set_option maxHeartbeats 2000000 in
set_option maxRecDepth 100000 in
theorem exists_any {h : Heap} (n : List UInt8) (hn : n.length ≤ 100000) : CallsH Tryz.prog 62 ⟨[St n]⟩ h fun u h' => u = St (exisL n) ∧ Ext No h h' := by
  refine calls [(0, _)] Tryz.func62 rfl Tryz.ntmps62 rfl ⟨rfl, trivial⟩ ?_
  all_goals (refine WC.sr ?_)
  all_goals (refine Go ?_)
  all_goals (refine WC.sr ?_)
  all_goals (refine Go ?_)
  all_goals (refine WL.call (vs := [_, _, _]) rfl (fun a w => Tryz.call41 a w) rfl (says_any ([112, 114, 101, 112, 97, 114, 101, 100, 32, 115, 116, 97, 116, 101, 109, 101, 110, 116] : List UInt8) n ([97, 108, 114, 101, 97, 100, 121, 32, 101, 120, 105, 115, 116, 115] : List UInt8) (by simp) hn (by simp)) rfl rfl rfl ?_
             rintro _ h2 ⟨rfl, hx2⟩)
  all_goals (refine Go ?_)
  all_goals (refine WC.ret ?_)
  all_goals (repeat' (with_reducible first | refine thenP_r ?_ | refine blockP_r ?_))
  all_goals (refine retP_1 _ ⟨rfl, trivial⟩ ?_)
  all_goals (exact ⟨rfl, hx2⟩)
set_option maxHeartbeats 2000000 in
set_option maxRecDepth 100000 in
theorem needs_any {h : Heap} (n : List UInt8) (hn : n.length ≤ 100000) : CallsH Tryz.prog 64 ⟨[St n]⟩ h fun u h' => u = St (needL n) ∧ h' = h := by
  have hq := quote_len n
  refine calls [(0, _)] Tryz.func64 rfl Tryz.ntmps64 rfl ⟨rfl, trivial⟩ ?_
  all_goals (refine WC.sr ?_)
  all_goals (refine Go ?_)
  all_goals (refine WC.sr ?_)
  all_goals (refine Go ?_)
  all_goals (refine WL.call (vs := [_]) rfl (fun a w => Tryz.call59 a w) rfl (quote_any n (by omega)) rfl rfl rfl ?_
             rintro _ hz ⟨rfl, _⟩
             subst hz)
  all_goals (refine WL.step (ok_catS rfl rfl (by first | (simp only [List.length_append, List.length_cons, List.length_nil]; omega) | (simp; omega))) rfl rfl rfl ?_)
  all_goals (refine WL.step (ok_catS rfl rfl (by first | (simp only [List.length_append, List.length_cons, List.length_nil]; omega) | (simp; omega))) rfl rfl rfl ?_)
  all_goals (refine Go ?_)
  all_goals (refine WC.sub [(2, _)] ⟨rfl, trivial⟩ ?_)
  all_goals (refine WC.ret ?_)
  all_goals (repeat' (with_reducible first | refine thenP_r ?_ | refine blockP_r ?_))
  all_goals (refine retP_1 _ ⟨rfl, trivial⟩ ?_)
  all_goals (exact ⟨rfl, rfl⟩)
set_option maxHeartbeats 2000000 in
set_option maxRecDepth 100000 in
/-! ### the document's -/
theorem missing_ref {h : Heap} (n : List UInt8) (hn : n.length ≤ 100000) : CallsH Tryz.prog 50 ⟨[St n]⟩ h fun u h' => u = St (missL n) ∧ Ext No h h' := by
  have hq := quote_len n
  by_cases h0 : n = []
  · subst h0
    refine calls [(0, _)] Tryz.func50 rfl Tryz.ntmps50 rfl ⟨rfl, trivial⟩ ?_
    all_goals (refine WC.sr ?_)
    all_goals (refine Go ?_)
    all_goals (refine WC.seq ?_)
    all_goals (refine WC.sr ?_)
    all_goals (refine Go ?_)
    all_goals (refine goC 1 2 ?_ ?_ <;> first | exact ⟨⟩ | refine Hb.mk fun hb => ?_ | skip)
    all_goals (first | (fail_if_success refine goB 1 ?_) | (
    refine goB 1 ?_
    all_goals (refine WC.sr ?_)
    all_goals (refine Go ?_)
    all_goals (refine WC.ret ?_)
    all_goals (repeat' (with_reducible first | refine thenP_r ?_ | refine blockP_r ?_))
    all_goals (refine retP_1 _ ⟨rfl, trivial⟩ ?_)
    all_goals (exact ⟨rfl, .refl _ _⟩)
    skip))
    all_goals (first | (fail_if_success refine goB 2 ?_) | (
    refine goB 2 ?_
    all_goals (refine WC.skip ?_)
    skip))
    all_goals (refine Gn ?_)
    all_goals (refine WC.sr ?_)
    all_goals (refine Go ?_)
    all_goals (fail "no contract for call of remuda/remudaref02.Quote at 3.1")
    all_goals (refine WL.step (ok_catS rfl rfl (by first | (simp only [List.length_append, List.length_cons, List.length_nil]; omega) | (simp; omega))) rfl rfl rfl ?_)
    all_goals (refine WL.step (ok_catS rfl rfl (by first | (simp only [List.length_append, List.length_cons, List.length_nil]; omega) | (simp; omega))) rfl rfl rfl ?_)
    all_goals (refine Go ?_)
    all_goals (refine WC.sub [(2, _)] ⟨rfl, trivial⟩ ?_)
    all_goals (refine WC.ret ?_)
    all_goals (repeat' (with_reducible first | refine thenP_r ?_ | refine blockP_r ?_))
    all_goals (refine retP_1 _ ⟨rfl, trivial⟩ ?_)
    all_goals (exact ⟨rfl, .refl _ _⟩)
  · rw [missL, if_neg h0]
    refine calls [(0, _)] Tryz.func50 rfl Tryz.ntmps50 rfl ⟨rfl, trivial⟩ ?_
    all_goals (refine WC.sr ?_)
    all_goals (refine Go ?_)
    all_goals (refine WC.seq ?_)
    all_goals (refine WC.sr ?_)
    all_goals (refine Go ?_)
    all_goals (refine goC 1 2 ?_ ?_ <;> first | exact ⟨⟩ | refine Hb.mk fun hb => ?_ | skip)
    all_goals (first | (fail_if_success refine goB 1 ?_) | (
    refine goB 1 ?_
    all_goals (refine WC.sr ?_)
    all_goals (refine Go ?_)
    all_goals (refine WC.ret ?_)
    all_goals (repeat' (with_reducible first | refine thenP_r ?_ | refine blockP_r ?_))
    all_goals (refine retP_1 _ ⟨rfl, trivial⟩ ?_)
    all_goals (exact ⟨by simp [saysL], hx2⟩)
    skip))
    all_goals (first | (fail_if_success refine goB 2 ?_) | (
    refine goB 2 ?_
    all_goals (refine WC.skip ?_)
    skip))
    all_goals (refine Gn ?_)
    all_goals (refine WC.sr ?_)
    all_goals (refine Go ?_)
    all_goals (refine WL.call (vs := [_]) rfl (fun a w => Tryz.call52 a w) rfl (quote_ref n (by omega)) rfl rfl rfl ?_
               rintro _ h2 ⟨rfl, hx2⟩)
    all_goals (refine WL.step (ok_catS rfl rfl (by first | (simp only [List.length_append, List.length_cons, List.length_nil]; omega) | (simp; omega))) rfl rfl rfl ?_)
    all_goals (refine WL.step (ok_catS rfl rfl (by first | (simp only [List.length_append, List.length_cons, List.length_nil]; omega) | (simp; omega))) rfl rfl rfl ?_)
    all_goals (refine Go ?_)
    all_goals (refine WC.sub [(2, _)] ⟨rfl, trivial⟩ ?_)
    all_goals (refine WC.ret ?_)
    all_goals (repeat' (with_reducible first | refine thenP_r ?_ | refine blockP_r ?_))
    all_goals (refine retP_1 _ ⟨rfl, trivial⟩ ?_)
    all_goals (exact ⟨by simp [saysL], hx2⟩)
set_option maxHeartbeats 2000000 in
set_option maxRecDepth 100000 in
theorem exists_ref {h : Heap} (n : List UInt8) (hn : n.length ≤ 100000) : CallsH Tryz.prog 51 ⟨[St n]⟩ h fun u h' => u = St (exisL n) ∧ Ext No h h' := by
  have hq := quote_len n
  refine calls [(0, _)] Tryz.func51 rfl Tryz.ntmps51 rfl ⟨rfl, trivial⟩ ?_
  all_goals (refine WC.sr ?_)
  all_goals (refine Go ?_)
  all_goals (refine WC.sr ?_)
  all_goals (refine Go ?_)
  all_goals (refine WL.call (vs := [_]) rfl (fun a w => Tryz.call52 a w) rfl (quote_ref n (by omega)) rfl rfl rfl ?_
             rintro _ h2 ⟨rfl, hx2⟩)
  all_goals (refine WL.step (ok_catS rfl rfl (by first | (simp only [List.length_append, List.length_cons, List.length_nil]; omega) | (simp; omega))) rfl rfl rfl ?_)
  all_goals (refine WL.step (ok_catS rfl rfl (by first | (simp only [List.length_append, List.length_cons, List.length_nil]; omega) | (simp; omega))) rfl rfl rfl ?_)
  all_goals (refine Go ?_)
  all_goals (refine WC.sub [(2, _)] ⟨rfl, trivial⟩ ?_)
  all_goals (refine WC.ret ?_)
  all_goals (repeat' (with_reducible first | refine thenP_r ?_ | refine blockP_r ?_))
  all_goals (refine retP_1 _ ⟨rfl, trivial⟩ ?_)
  all_goals (exact ⟨by simp [exisL, saysL], hx2⟩)
end Go.Proofs.YtbahigffjclpdaaGreatDoor


/-
  A ROW THAT LISTS VARIABLES, THE WORLD's SHAPE KEPT: what the lift of such a row asks. No program is named here.
-/
namespace Go.RK
open Go
variable {H : Type} {enc : TypeId × Value → H}

theorem returnsInHanded_both {a : Assume} {C : Checked} {os : Os} {f : FuncId} {fn : Func} {s : ChangeSpec} {conds : List PathCond} {apart fresh handsOn again : Bool} {X : World → Array Value → Prop}
    (own : ownKnob C.prog.godebug = none) (started : os.Started) (noInit : C.prog.inits.idxOf? f = none) (hfn : C.prog.funcs[f]? = some fn)
    (witness : ∃ (w : World) (tape : Tape) (i : Input), w.os = os ∧ (w.forCall tape i).Shaped C.prog ∧ i.vars = [] ∧ Input.okWide C.prog (w.forCall tape i) .any w.heap.size f i ∧
      ((s.pre enc C.prog fn conds apart (w.forCall tape i).memory i.args ∧ X (w.forCall tape i).memory i.args) ∧ sizedMet enc C.prog fn (OpenSpec.ofChange s) apart (w.forCall tape i).memory i.args) ∧ a.holds C.prog (lone (Frame.enter C.prog f i.args .normal) [] (w.forCall tape i)))
    (contract : ∀ (W : World) (base : Nat) (args : Array Value) (ds gs : List (DataW H)) (before : List MemPlace),
      (∀ (j : Nat) t v, fn.params[j]? = some t → args[j]? = some v → Value.okWide C.prog W .any base t v) →
      DataW.Whole enc C.prog fn.params.toList s.vars apart W args.toList ds gs before →
      conds.all (PathCond.test C.prog ⟨fn.params.toList, ds, s.plain.varTypes C.prog, gs⟩) = true →
      (DataW.weightsEach C.prog (fn.params.toList ++ s.plain.varTypes C.prog) (ds ++ gs)).all (· ≤ reachBytes) = true →
      W.ShapedOpen C.prog →
      Calls C.prog f args W fun e W' => ∃ v, e = .returned v ∧ s.post enc C.prog fn apart fresh handsOn again W args v W') :
    ReturnsInHanded a C os f .any (fun w args => (s.pre enc C.prog fn conds apart w args ∧ X w args) ∧ sizedMet enc C.prog fn (OpenSpec.ofChange s) apart w args) (s.post enc C.prog fn apart fresh handsOn again) := by
  refine returnsInHanded_of_calls own started noInit witness ?_
  intro w tape i _ hsh _ hok hpre _
  obtain ⟨_, _, _, fn', hfn', _, _, _, _, hval⟩ := hok
  have e : fn' = fn := Option.some.inj (hfn'.symm.trans hfn)
  subst e
  obtain ⟨⟨⟨ds, gs, before, hw, hc⟩, _⟩, hz⟩ := hpre
  have hw' := DataW.Whole.of_heap (w' := w.forCall tape i) (by rfl) hw
  refine (contract (w.forCall tape i) w.heap.size i.args ds gs before hval hw' hc (hz.weights hw) hsh).mono fun e W' ⟨v, he, hp⟩ => ?_
  subst he
  exact ChangeSpec.post_blind hp

/-! ### a scope through which no goto goes -/
def scopeP (Q : Post) : Post
  | .goto _, _, _ => False
  | e, f, h => Q e f h
section
variable {P : Program} {n : Env} {Q : Post} {f : Fr} {h : Heap}
end
end Go.RK

/-
  TELL (layer 9): Rename, and awake.
-/
namespace Go.Proofs.YtbahigffjclpdaaGreatDoor
open Go Go.RK

/-! ### in plain Lean -/
theorem miss_len (n : List UInt8) : (missL n).length ≤ n.length + 41 := by
  unfold missL
  split
  · simp
  · simp [saysL, quote_len]
theorem exis_len (n : List UInt8) : (exisL n).length = n.length + 36 := by simp [exisL, saysL, quote_len]
def swapL (text f t : List UInt8) : List UInt8 := if text = f then t else text
def renL (code text f t : List UInt8) : List UInt8 :=
  if code = ([50, 54, 48, 48, 48] : List UInt8) then swapL text (missL f) (missL t) else if code = ([52, 50, 80, 48, 53] : List UInt8) then swapL text (exisL f) (exisL t) else if code = ([48, 56, 80, 48, 49] : List UInt8) then Lib.replace text (needL f) (needL t) 1 else text
theorem replace_miss {s old new : List UInt8} (h : Lib.index s old = -1) : Lib.replace s old new 1 = s := by
  have hc : Lib.count s old = 0 := Lib.count_miss h
  unfold Lib.replace
  split
  · rfl
  · rw [Lib.replaceNum, if_pos (.inr (by rw [hc]; decide)), hc]
    rfl
theorem replace_hit {s old new : List UInt8} {i : Nat} (ho : 1 ≤ old.length) (h : Lib.index s old = i) : Lib.replace s old new 1 = s.take i ++ new ++ s.drop (i + old.length) := by
  have hroom := Lib.index_room s old (by omega)
  rw [h] at hroom
  unfold Lib.replace
  split
  · rename_i e
    have e := eq_of_beq e
    subst e
    rcases Lib.index_spec s old with ⟨h1, _⟩ | ⟨j, h1, _, h3, _⟩
    · omega
    · have : j = i := by omega
      subst this
      have h4 : old <+: s.drop j := by simpa [Lib.occAt] using h3
      obtain ⟨r, hr⟩ := h4
      conv => lhs; rw [← List.take_append_drop j s, ← hr]
      rw [← List.drop_drop, ← hr]
      simp
  · have hc : ¬ Lib.count s old = 0 := by
      have hb := Lib.countB_hit ⟨⟨s⟩⟩ ⟨⟨old⟩⟩ i ho h
      have : Lib.countB ⟨⟨s⟩⟩ ⟨⟨old⟩⟩ = Lib.count s old := rfl
      omega
    rw [Lib.replaceNum, if_neg (by omega)]
    show Lib.replaceK old new 1 s = _
    rw [Lib.replaceK_hit old new 0 s i h]
    rfl

set_option maxHeartbeats 2000000 in
set_option maxRecDepth 100000 in
/-! ### the walks -/
theorem swap_any {h : Heap} (text f t : List UInt8) : CallsH Tryz.prog 61 ⟨[St text, St f, St t]⟩ h fun u h' => u = St (swapL text f t) ∧ h' = h := by
  by_cases e : text = f
  · rw [swapL, if_pos e]
    refine calls [(0, _), (1, _), (2, _)] Tryz.func61 rfl Tryz.ntmps61 rfl ⟨rfl, rfl, rfl, trivial⟩ ?_
    all_goals (refine WC.sr ?_)
    all_goals (refine Go ?_)
    all_goals (refine WC.seq ?_)
    all_goals (refine WC.sr ?_)
    all_goals (refine Go ?_)
    all_goals (refine WC.sub [(0, _), (2, _), (9, _)] ⟨rfl, rfl, rfl, trivial⟩ ?_)
    all_goals (refine goC 1 2 ?_ ?_ <;> first | exact ⟨⟩ | refine Hb.mk fun hb => ?_ | skip)
    all_goals (first | (fail_if_success refine goB 1 ?_) | (
    refine goB 1 ?_
    all_goals (refine WC.sr ?_)
    all_goals (refine Go ?_)
    all_goals (refine WC.sub [(6, _)] ⟨rfl, trivial⟩ ?_)
    all_goals (refine WC.ret ?_)
    all_goals (repeat' (with_reducible first | refine thenP_r ?_ | refine blockP_r ?_))
    all_goals (refine retP_1 _ ⟨rfl, trivial⟩ ?_)
    all_goals (exact ⟨rfl, rfl⟩)
    skip))
    all_goals (first | (fail_if_success refine goB 2 ?_) | (
    refine goB 2 ?_
    all_goals (refine WC.skip ?_)
    skip))
    all_goals (refine Gn ?_)
    all_goals (refine WC.sr ?_)
    all_goals (refine Go ?_)
    all_goals (refine WC.sub [(6, _)] ⟨rfl, trivial⟩ ?_)
    all_goals (refine WC.ret ?_)
    all_goals (repeat' (with_reducible first | refine thenP_r ?_ | refine blockP_r ?_))
    all_goals (refine retP_1 _ ⟨rfl, trivial⟩ ?_)
    all_goals (exact ⟨rfl, rfl⟩)
  · rw [swapL, if_neg e]
    refine calls [(0, _), (1, _), (2, _)] Tryz.func61 rfl Tryz.ntmps61 rfl ⟨rfl, rfl, rfl, trivial⟩ ?_
    all_goals (refine WC.sr ?_)
    all_goals (refine Go ?_)
    all_goals (refine WC.seq ?_)
    all_goals (refine WC.sr ?_)
    all_goals (refine Go ?_)
    all_goals (refine WC.sub [(0, _), (2, _), (9, _)] ⟨rfl, rfl, rfl, trivial⟩ ?_)
    all_goals (refine goC 1 2 ?_ ?_ <;> first | exact ⟨⟩ | refine Hb.mk fun hb => ?_ | skip)
    all_goals (first | (fail_if_success refine goB 1 ?_) | (
    refine goB 1 ?_
    all_goals (refine WC.sr ?_)
    all_goals (refine Go ?_)
    all_goals (refine WC.sub [(6, _)] ⟨rfl, trivial⟩ ?_)
    all_goals (refine WC.ret ?_)
    all_goals (repeat' (with_reducible first | refine thenP_r ?_ | refine blockP_r ?_))
    all_goals (refine retP_1 _ ⟨rfl, trivial⟩ ?_)
    all_goals (exact ⟨rfl, rfl⟩)
    skip))
    all_goals (first | (fail_if_success refine goB 2 ?_) | (
    refine goB 2 ?_
    all_goals (refine WC.skip ?_)
    skip))
    all_goals (refine Gn ?_)
    all_goals (refine WC.sr ?_)
    all_goals (refine Go ?_)
    all_goals (refine WC.sub [(6, _)] ⟨rfl, trivial⟩ ?_)
    all_goals (refine WC.ret ?_)
    all_goals (repeat' (with_reducible first | refine thenP_r ?_ | refine blockP_r ?_))
    all_goals (refine retP_1 _ ⟨rfl, trivial⟩ ?_)
    all_goals (exact ⟨rfl, rfl⟩)
set_option maxHeartbeats 2000000 in
set_option maxRecDepth 100000 in
theorem rename_any {h : Heap} (code text f t : List UInt8) (hM : Ml h) (ht : text.length ≤ 100000) (hf : f.length ≤ 10000) (hto : t.length ≤ 10000) :
    CallsH Tryz.prog 49 ⟨[St code, St text, St f, St t]⟩ h fun u h' => u = St (renL code text f t) ∧ Ext No h h' := by
  have n1 := need_len f
  have n2 := need_len t
  refine calls [(0, _), (1, _), (2, _), (3, _)] Tryz.func49 rfl Tryz.ntmps49 rfl ⟨rfl, rfl, rfl, rfl, trivial⟩ ?_
  all_goals (refine WC.sr ?_)
  all_goals (refine Go ?_)
  all_goals (refine WC.seq ?_)
  all_goals (refine WC.sr ?_)
  all_goals (refine Go ?_)
  all_goals (refine WC.block ?_)
  all_goals (refine WC.sr ?_)
  all_goals (refine Go ?_)
  all_goals (refine goC 1 2 ?_ ?_ <;> first | exact ⟨⟩ | refine Hb.mk fun hb => ?_ | skip)
  all_goals (first | (fail_if_success refine goB 1 ?_) | (
  refine goB 1 ?_
  all_goals (refine WC.sr ?_)
  all_goals (refine Go ?_)
  all_goals (refine WL.call (vs := [_]) rfl (fun a w => Tryz.call22 a w) rfl (missing_any f (by omega)) rfl rfl rfl ?_
             rintro _ h1 ⟨rfl, hx1⟩)
  all_goals (refine Go ?_)
  all_goals (refine WL.call (vs := [_]) rfl (fun a w => Tryz.call22 a w) rfl (missing_any t (by omega)) rfl rfl rfl ?_
             rintro _ h2 ⟨rfl, hx2⟩)
  all_goals (refine WL.call (vs := [_, _, _]) rfl (fun a w => Tryz.call61 a w) rfl (swap_any text (missL f) (missL t)) rfl rfl rfl ?_
             rintro _ hz ⟨rfl, _⟩
             subst hz)
  all_goals (refine Go ?_)
  all_goals (refine WC.sub [(8, _)] ⟨rfl, trivial⟩ ?_)
  all_goals (refine WC.ret ?_)
  all_goals (repeat' (with_reducible first | refine thenP_r ?_ | refine blockP_r ?_))
  all_goals (refine retP_1 _ ⟨rfl, trivial⟩ ?_)
  all_goals (first | exact ⟨by simp [renL, *], hx1.trans hx2⟩ | exact ⟨by simp [renL, *], hx3⟩ | exact ⟨by simp [renL, *], .refl _ _⟩)
  skip))
  all_goals (first | (fail_if_success refine goB 2 ?_) | (
  refine goB 2 ?_
  all_goals (refine WC.sr ?_)
  all_goals (refine Go ?_)
  all_goals (refine WC.sub [(1, _), (2, _), (3, _), (9, _), (18, _)] ⟨rfl, rfl, rfl, rfl, rfl, trivial⟩ ?_)
  all_goals (refine goC 3 4 ?_ ?_ <;> first | exact ⟨⟩ | refine Hb.mk fun hb => ?_ | skip)
  all_goals (first | (fail_if_success refine goB 3 ?_) | (
  refine goB 3 ?_
  all_goals (refine WC.sr ?_)
  all_goals (refine Go ?_)
  all_goals (refine WL.call (vs := [_]) rfl (fun a w => Tryz.call62 a w) rfl (exists_any f (by omega)) rfl rfl rfl ?_
             rintro _ h1 ⟨rfl, hx1⟩)
  all_goals (refine Go ?_)
  all_goals (refine WL.call (vs := [_]) rfl (fun a w => Tryz.call62 a w) rfl (exists_any t (by omega)) rfl rfl rfl ?_
             rintro _ h2 ⟨rfl, hx2⟩)
  all_goals (refine WL.call (vs := [_, _, _]) rfl (fun a w => Tryz.call61 a w) rfl (swap_any text (exisL f) (exisL t)) rfl rfl rfl ?_
             rintro _ hz ⟨rfl, _⟩
             subst hz)
  all_goals (refine Go ?_)
  all_goals (refine WC.sub [(8, _)] ⟨rfl, trivial⟩ ?_)
  all_goals (refine WC.ret ?_)
  all_goals (repeat' (with_reducible first | refine thenP_r ?_ | refine blockP_r ?_))
  all_goals (refine retP_1 _ ⟨rfl, trivial⟩ ?_)
  all_goals (first | exact ⟨by simp [renL, *], hx1.trans hx2⟩ | exact ⟨by simp [renL, *], hx3⟩ | exact ⟨by simp [renL, *], .refl _ _⟩)
  skip))
  all_goals (first | (fail_if_success refine goB 4 ?_) | (
  refine goB 4 ?_
  all_goals (refine WC.sr ?_)
  all_goals (refine Go ?_)
  all_goals (refine goC 5 6 ?_ ?_ <;> first | exact ⟨⟩ | refine Hb.mk fun hb => ?_ | skip)
  all_goals (first | (fail_if_success refine goB 5 ?_) | (
  refine goB 5 ?_
  all_goals (refine WC.sr ?_)
  all_goals (refine Go ?_)
  all_goals (refine WL.call (vs := [_]) rfl (fun a w => Tryz.call64 a w) rfl (needs_any f (by omega)) rfl rfl rfl ?_
             rintro _ hz ⟨rfl, _⟩
             subst hz)
  all_goals (refine Go ?_)
  all_goals (refine WL.call (vs := [_]) rfl (fun a w => Tryz.call64 a w) rfl (needs_any t (by omega)) rfl rfl rfl ?_
             rintro _ hz ⟨rfl, _⟩
             subst hz)
  all_goals (refine WL.call (vs := [_, _, _, _]) rfl (fun a w => Tryz.call63 a w) rfl (replace_any text (needL f) (needL t) hM ht (by omega) (by omega)) rfl rfl rfl ?_
             rintro _ h3 ⟨rfl, hx3⟩)
  all_goals (refine Go ?_)
  all_goals (refine WC.sub [(8, _)] ⟨rfl, trivial⟩ ?_)
  all_goals (refine WC.ret ?_)
  all_goals (repeat' (with_reducible first | refine thenP_r ?_ | refine blockP_r ?_))
  all_goals (refine retP_1 _ ⟨rfl, trivial⟩ ?_)
  all_goals (first | exact ⟨by simp [renL, *], hx1.trans hx2⟩ | exact ⟨by simp [renL, *], hx3⟩ | exact ⟨by simp [renL, *], .refl _ _⟩)
  skip))
  all_goals (first | (fail_if_success refine goB 6 ?_) | (
  refine goB 6 ?_
  all_goals (refine WC.skip ?_)
  skip))
  skip))
  skip))
  all_goals (refine Gn ?_)
  all_goals (refine WC.sub [(1, _)] ⟨rfl, trivial⟩ ?_)
  all_goals (refine WC.sr ?_)
  all_goals (refine Go ?_)
  all_goals (refine WC.ret ?_)
  all_goals (repeat' (with_reducible first | refine thenP_r ?_ | refine blockP_r ?_))
  all_goals (refine retP_1 _ ⟨rfl, trivial⟩ ?_)
  all_goals (first | exact ⟨by simp [renL, *], hx1.trans hx2⟩ | exact ⟨by simp [renL, *], hx3⟩ | exact ⟨by simp [renL, *], .refl _ _⟩)
theorem occ_eq (s old : List UInt8) (i : Nat) : Lib.occAt s old i = decide ((s.drop i).take old.length = old) := by
  unfold Lib.occAt
  by_cases e : (s.drop i).take old.length = old
  · rw [decide_eq_true e]
    exact List.isPrefixOf_iff_prefix.2 (by rw [← e]; exact List.take_prefix _ _)
  · rw [decide_eq_false e]
    cases h : old.isPrefixOf (s.drop i)
    · rfl
    · obtain ⟨r, hr⟩ := List.isPrefixOf_iff_prefix.1 h
      exact absurd (by rw [← hr]; simp) e
theorem index_no {s old : List UInt8} {k : Nat} (hk : s.length < k + old.length) (hn : ∀ j, j < k → Lib.occAt s old j = false) : Lib.index s old = -1 := by
  refine Lib.index_none fun j hj => ?_
  rcases Nat.lt_or_ge j k with h | h
  · exact hn j h
  · cases e : Lib.occAt s old j
    · rfl
    · obtain ⟨r, hr⟩ := List.isPrefixOf_iff_prefix.1 e
      have := congrArg List.length hr
      simp at this
      omega
set_option maxHeartbeats 2000000 in
set_option maxRecDepth 100000 in
theorem rename_ref {h : Heap} (code text f t : List UInt8) (ht : text.length ≤ 100000) (hf : f.length ≤ 10000) (hto : t.length ≤ 10000) :
    CallsH Tryz.prog 33 ⟨[St code, St text, St f, St t]⟩ h fun u h' => u = St (renL code text f t) ∧ Ext No h h' := by
  have n1 := need_len f
  have n2 := need_len t
  have q1 := quote_len f
  have q2 := quote_len t
  have h25 : (([44, 32, 98, 117, 116, 32, 112, 114, 101, 112, 97, 114, 101, 100, 32, 115, 116, 97, 116, 101, 109, 101, 110, 116, 32] : List UInt8)).length = 25 := rfl
  have h10 : (([32, 114, 101, 113, 117, 105, 114, 101, 115, 32] : List UInt8)).length = 10 := rfl
  have hnd : needL f = ([44, 32, 98, 117, 116, 32, 112, 114, 101, 112, 97, 114, 101, 100, 32, 115, 116, 97, 116, 101, 109, 101, 110, 116, 32] : List UInt8) ++ quoteL f ++ ([32, 114, 101, 113, 117, 105, 114, 101, 115, 32] : List UInt8) := rfl
  refine calls [(0, _), (1, _), (2, _), (3, _)] Tryz.func33 rfl Tryz.ntmps33 rfl ⟨rfl, rfl, rfl, rfl, trivial⟩ ?_
  all_goals (refine WC.sr ?_)
  all_goals (refine Go ?_)
  all_goals (refine WC.seq ?_)
  all_goals (refine WC.block ?_)
  all_goals (refine WC.sr ?_)
  all_goals (refine Go ?_)
  all_goals (refine goP 17 ?_ ?_ <;> first | exact ⟨⟩ | refine Hb.mk fun hb => ?_ | skip)
  all_goals (refine Gg ?_)
  all_goals (first
               | (refine WL.pass rfl rfl rfl ?_)
               | (refine WL.call (vs := [_]) rfl (fun a w => Tryz.call50 a w) rfl (missing_ref f (by omega)) rfl rfl rfl ?_
                  rintro _ h1 ⟨rfl, hx1⟩))
  all_goals (refine Gg ?_)
  all_goals (refine Go ?_)
  all_goals (refine WC.sub [(0, _), (1, _), (2, _), (3, _), (14, _)] ⟨rfl, rfl, rfl, rfl, rfl, trivial⟩ ?_)
  all_goals (refine goC 1 2 ?_ ?_ <;> first | exact ⟨⟩ | refine Hb.mk fun hb => ?_ | skip)
  all_goals (first | (fail_if_success refine goB 1 ?_) | (
  refine goB 1 ?_
  all_goals (refine WC.sr ?_)
  all_goals (refine Go ?_)
  all_goals (refine WL.call (vs := [_]) rfl (fun a w => Tryz.call50 a w) rfl (missing_ref t (by omega)) rfl rfl rfl ?_
             rintro _ h2 ⟨rfl, hx2⟩)
  all_goals (refine Go ?_)
  all_goals (refine WC.sub [(8, _)] ⟨rfl, trivial⟩ ?_)
  all_goals (refine WC.ret ?_)
  all_goals (repeat' (with_reducible first | refine thenP_r ?_ | refine blockP_r ?_))
  all_goals (refine retP_1 _ ⟨rfl, trivial⟩ ?_)
  all_goals (first
              | (exfalso; simp_all; done)
              | exact ⟨by simp [renL, swapL, *], hx1.trans hx2⟩
              | exact ⟨by simp [renL, swapL, *], hx1⟩
              | exact ⟨by simp [renL, swapL, *], .refl _ _⟩
              | exact ⟨by rw [show renL code text f t = Lib.replace text (needL f) (needL t) 1 by simp [renL, *], replace_miss (index_no (by omega) hn)], hx3⟩
              | exact ⟨by rw [show renL code text f t = Lib.replace text (needL f) (needL t) 1 by simp [renL, *], replace_hit (i := k) (by omega) (Lib.index_first (by omega) (by rw [occ_eq]; exact decide_eq_true hb) hn), show needL t = ([44, 32, 98, 117, 116, 32, 112, 114, 101, 112, 97, 114, 101, 100, 32, 115, 116, 97, 116, 101, 109, 101, 110, 116, 32] : List UInt8) ++ quoteL t ++ ([32, 114, 101, 113, 117, 105, 114, 101, 115, 32] : List UInt8) from rfl, show ((k : Int) + ((needL f).length : Nat)).toNat = k + (needL f).length by omega]; simp [List.append_assoc], hx3.trans hx4⟩)
  skip))
  all_goals (first | (fail_if_success refine goB 2 ?_) | (
  refine goB 2 ?_
  all_goals (refine WC.sr ?_)
  all_goals (refine Go ?_)
  all_goals (refine goP 28 ?_ ?_ <;> first | exact ⟨⟩ | refine Hb.mk fun hb => ?_ | skip)
  all_goals (refine Gg ?_)
  all_goals (first
               | (refine WL.pass rfl rfl rfl ?_)
               | (refine WL.call (vs := [_]) rfl (fun a w => Tryz.call51 a w) rfl (exists_ref f (by omega)) rfl rfl rfl ?_
                  rintro _ h1 ⟨rfl, hx1⟩))
  all_goals (refine Gg ?_)
  all_goals (refine Go ?_)
  all_goals (refine WC.sub [(0, _), (1, _), (2, _), (3, _), (25, _)] ⟨rfl, rfl, rfl, rfl, rfl, trivial⟩ ?_)
  all_goals (refine goC 3 4 ?_ ?_ <;> first | exact ⟨⟩ | refine Hb.mk fun hb => ?_ | skip)
  all_goals (first | (fail_if_success refine goB 3 ?_) | (
  refine goB 3 ?_
  all_goals (refine WC.sr ?_)
  all_goals (refine Go ?_)
  all_goals (refine WL.call (vs := [_]) rfl (fun a w => Tryz.call51 a w) rfl (exists_ref t (by omega)) rfl rfl rfl ?_
             rintro _ h2 ⟨rfl, hx2⟩)
  all_goals (refine Go ?_)
  all_goals (refine WC.sub [(8, _)] ⟨rfl, trivial⟩ ?_)
  all_goals (refine WC.ret ?_)
  all_goals (repeat' (with_reducible first | refine thenP_r ?_ | refine blockP_r ?_))
  all_goals (refine retP_1 _ ⟨rfl, trivial⟩ ?_)
  all_goals (first
              | (exfalso; simp_all; done)
              | exact ⟨by simp [renL, swapL, *], hx1.trans hx2⟩
              | exact ⟨by simp [renL, swapL, *], hx1⟩
              | exact ⟨by simp [renL, swapL, *], .refl _ _⟩
              | exact ⟨by rw [show renL code text f t = Lib.replace text (needL f) (needL t) 1 by simp [renL, *], replace_miss (index_no (by omega) hn)], hx3⟩
              | exact ⟨by rw [show renL code text f t = Lib.replace text (needL f) (needL t) 1 by simp [renL, *], replace_hit (i := k) (by omega) (Lib.index_first (by omega) (by rw [occ_eq]; exact decide_eq_true hb) hn), show needL t = ([44, 32, 98, 117, 116, 32, 112, 114, 101, 112, 97, 114, 101, 100, 32, 115, 116, 97, 116, 101, 109, 101, 110, 116, 32] : List UInt8) ++ quoteL t ++ ([32, 114, 101, 113, 117, 105, 114, 101, 115, 32] : List UInt8) from rfl, show ((k : Int) + ((needL f).length : Nat)).toNat = k + (needL f).length by omega]; simp [List.append_assoc], hx3.trans hx4⟩)
  skip))
  all_goals (first | (fail_if_success refine goB 4 ?_) | (
  refine goB 4 ?_
  all_goals (refine WC.sr ?_)
  all_goals (refine Go ?_)
  all_goals (refine WC.sub [(1, _), (2, _), (3, _), (36, _)] ⟨rfl, rfl, rfl, rfl, trivial⟩ ?_)
  all_goals (refine goC 5 6 ?_ ?_ <;> first | exact ⟨⟩ | refine Hb.mk fun hb => ?_ | skip)
  all_goals (first | (fail_if_success refine goB 5 ?_) | (
  refine goB 5 ?_
  all_goals (refine WC.sr ?_)
  all_goals (refine Go ?_)
  all_goals (refine WC.sub [(8, _)] ⟨rfl, trivial⟩ ?_)
  all_goals (refine WC.ret ?_)
  all_goals (repeat' (with_reducible first | refine thenP_r ?_ | refine blockP_r ?_))
  all_goals (refine retP_1 _ ⟨rfl, trivial⟩ ?_)
  all_goals (first
              | (exfalso; simp_all; done)
              | exact ⟨by simp [renL, swapL, *], hx1.trans hx2⟩
              | exact ⟨by simp [renL, swapL, *], hx1⟩
              | exact ⟨by simp [renL, swapL, *], .refl _ _⟩
              | exact ⟨by rw [show renL code text f t = Lib.replace text (needL f) (needL t) 1 by simp [renL, *], replace_miss (index_no (by omega) hn)], hx3⟩
              | exact ⟨by rw [show renL code text f t = Lib.replace text (needL f) (needL t) 1 by simp [renL, *], replace_hit (i := k) (by omega) (Lib.index_first (by omega) (by rw [occ_eq]; exact decide_eq_true hb) hn), show needL t = ([44, 32, 98, 117, 116, 32, 112, 114, 101, 112, 97, 114, 101, 100, 32, 115, 116, 97, 116, 101, 109, 101, 110, 116, 32] : List UInt8) ++ quoteL t ++ ([32, 114, 101, 113, 117, 105, 114, 101, 115, 32] : List UInt8) from rfl, show ((k : Int) + ((needL f).length : Nat)).toNat = k + (needL f).length by omega]; simp [List.append_assoc], hx3.trans hx4⟩)
  skip))
  all_goals (first | (fail_if_success refine goB 6 ?_) | (
  refine goB 6 ?_
  all_goals (refine WC.skip ?_)
  skip))
  skip))
  skip))
  all_goals (refine Gn ?_)
  all_goals (refine WC.sr ?_)
  all_goals (refine Go ?_)
  all_goals (refine WL.call (vs := [_]) rfl (fun a w => Tryz.call52 a w) rfl (quote_ref f (by omega)) rfl rfl rfl ?_
             rintro _ h3 ⟨rfl, hx3⟩)
  all_goals (refine Go ?_)
  all_goals (refine WC.sub [(1, _), (3, _), (9, _), (10, _), (11, _)] ⟨rfl, rfl, rfl, rfl, rfl, trivial⟩ ?_)
  all_goals (refine WC.sr ?_)
  all_goals (refine WL.step (ok_move rfl) rfl rfl rfl ?_)
  all_goals (refine WL.step (ok_lenS rfl Tryz.underlying9 rfl) rfl rfl rfl ?_)
  all_goals (refine WL.step (ok_move rfl) rfl rfl rfl ?_)
  all_goals (refine WL.step (ok_lenS rfl Tryz.underlying9 rfl) rfl rfl rfl ?_)
  all_goals (first | (refine WL.step (ok_addI rfl rfl (by omega)) rfl rfl rfl ?_) | (refine WL.step (ok_add rfl rfl) rfl rfl rfl ?_))
  all_goals (refine WL.step (ok_move rfl) rfl rfl rfl ?_)
  all_goals (refine WL.step (ok_lenS rfl Tryz.underlying9 rfl) rfl rfl rfl ?_)
  all_goals (first | (refine WL.step (ok_addI rfl rfl (by omega)) rfl rfl rfl ?_) | (refine WL.step (ok_add rfl rfl) rfl rfl rfl ?_))
  all_goals (have hnn : ((([44, 32, 98, 117, 116, 32, 112, 114, 101, 112, 97, 114, 101, 100, 32, 115, 116, 97, 116, 101, 109, 101, 110, 116, 32] : List UInt8).length : Int) + (quoteL f).length) + (([32, 114, 101, 113, 117, 105, 114, 101, 115, 32] : List UInt8).length : Int) = ((needL f).length : Nat) := (by rw [hnd]; simp; omega)
             rw [hnn])
  all_goals (refine WL.step (ok_assign rfl) rfl rfl rfl ?_)
  all_goals (refine Gn ?_)
  all_goals (refine WC.sub [(1, _), (3, _), (9, _), (10, _), (11, _), (12, _)] ⟨rfl, rfl, rfl, rfl, rfl, rfl, trivial⟩ ?_)
  all_goals (refine WC.seq ?_)
  all_goals (refine WC.sr ?_)
  all_goals (refine Go ?_)
  all_goals (refine WC.block ?_)
  -- loop 0: slots that turn [13], that stay [1, 3, 9, 10, 11, 12]
  all_goals (refine WC.loopG (X := Nat) (fun x => ([(13, In (x : Int))] : Fr)) [(1, _), (3, _), (9, _), (10, _), (11, _), (12, _)] (fun k h' => h' = h3 ∧ k ≤ text.length + 1 ∧ ∀ j, j < k → Lib.occAt text (needL f) j = false) (fun k => text.length + 1 - k) (0) ⟨rfl, rfl, rfl, rfl, rfl, rfl, rfl, trivial⟩ (by exact ⟨rfl, Nat.zero_le _, fun j hj => absurd hj (Nat.not_lt_zero _)⟩) ?_)
  all_goals (rintro k h9 ⟨hz, hk, hn⟩
             subst h9
             have e5 : ((k : Int) + ((needL f).length : Nat)).toNat - ((k : Int)).toNat = (needL f).length := by omega)
  all_goals (refine WC.sub [(13, _), (1, _), (3, _), (9, _), (10, _), (11, _), (12, _)] ⟨rfl, rfl, rfl, rfl, rfl, rfl, rfl, trivial⟩ ?_)
  all_goals (refine WC.seq ?_)
  all_goals (refine WC.sr ?_)
  all_goals (refine Go ?_)
  all_goals (refine WC.sub [(1, _), (3, _), (9, _), (10, _), (11, _), (12, _), (13, _), (55, _)] ⟨rfl, rfl, rfl, rfl, rfl, rfl, rfl, rfl, trivial⟩ ?_)
  all_goals (refine goC 7 8 ?_ ?_ <;> first | exact ⟨⟩ | refine Hb.mk fun hb => ?_ | skip)
  all_goals (first | (fail_if_success refine goB 7 ?_) | (
  refine goB 7 ?_
  all_goals (refine WC.skip ?_)
  skip))
  all_goals (first | (fail_if_success refine goB 8 ?_) | (
  refine goB 8 ?_
  all_goals (refine WC.exit ?_)
  all_goals (repeat' (with_reducible first | refine thenP_x ?_ | refine blockP_miss rfl ?_ | refine blockP_hit ?_ | refine blockP_n ?_ | refine thenP_n ?_))
  all_goals (refine Br.out (i := 1001) ?_)
  skip))
  all_goals (refine Gn ?_)
  all_goals (first | (refine Br.keep ?_) | (refine WC.seq ?_))
  all_goals (first | (refine Br.keep ?_) | (refine WC.block ?_))
  all_goals (first | (refine Br.keep ?_) | (refine WC.sr ?_))
  all_goals (refine Go ?_)
  all_goals (first | (refine Br.keep ?_) | (refine WL.step (ok_slice_slh Tryz.underlying9 rfl rfl rfl (by first | omega | (simp <;> omega))) rfl rfl rfl ?_))
  all_goals (refine Go ?_)
  all_goals (first | (refine Br.keep ?_) | (refine WL.step (ok_catS rfl rfl (by first | (simp only [List.length_append, List.length_cons, List.length_nil]; omega) | (simp; omega))) rfl rfl rfl ?_))
  all_goals (refine Go ?_)
  all_goals (first | (refine Br.keep ?_) | (refine WL.step (ok_catS rfl rfl (by first | (simp only [List.length_append, List.length_cons, List.length_nil]; omega) | (simp; omega))) rfl rfl rfl ?_))
  all_goals (first | (refine Br.keep ?_) | (rw [e5]))
  all_goals (first | (refine Br.keep ?_) | (first | (refine WL.step (OkP.bool_t (by first | rfl | assumption | decide) (ok_eqlS rfl rfl)) rfl rfl rfl ?_) | (refine WL.step (OkP.bool_f (by first | assumption | decide) (ok_eqlS rfl rfl)) rfl rfl rfl ?_) | (refine WL.step (ok_eqlS rfl rfl) rfl rfl rfl ?_)))
  all_goals (first | (refine Br.keep ?_) | (rw [← hnd]))
  all_goals (refine Gn ?_)
  all_goals (first | (refine Br.keep ?_) | (refine WC.sub [(1, _), (3, _), (9, _), (10, _), (11, _), (12, _), (13, _), (69, _)] ⟨rfl, rfl, rfl, rfl, rfl, rfl, rfl, rfl, trivial⟩ ?_))
  all_goals (first | (refine Br.keep ?_) | (refine goC 9 10 ?_ ?_ <;> first | exact ⟨⟩ | refine Hb.mk fun hb => ?_ | skip))
  all_goals (first | (fail_if_success refine goB 9 ?_) | (
  refine goB 9 ?_
  all_goals (refine WC.seq ?_)
  all_goals (refine WC.drawH (fun _ => True) 16 17 rfl fol ?_)
  all_goals (refine WH.tk 0 rfl (fun hq hC => ok_move rfl) rfl rfl rfl ?_ (hC := trivial))
  all_goals (refine WH.tk 1 rfl (fun hq hC => ok_move rfl) rfl rfl rfl ?_ (hC := trivial))
  all_goals (refine WH.tk 2 rfl (fun hq hC => ok_slice_sh Tryz.underlying9 rfl rfl (by first | omega | (simp <;> omega))) rfl rfl rfl ?_ (hC := trivial))
  all_goals (refine WH.tk 3 rfl (fun hq hC => ok_move rfl) rfl rfl rfl ?_ (hC := trivial))
  all_goals (refine WH.tk 4 rfl (fun hq hC => ok_catS rfl rfl (by first | (simp only [List.length_append, List.length_cons, List.length_nil]; omega) | (simp; omega))) rfl rfl rfl ?_ (hC := trivial))
  all_goals (refine WH.tk 5 rfl (fun hq hC => ok_move rfl) rfl rfl rfl ?_ (hC := trivial))
  all_goals (refine WH.tk 8 rfl (fun hq hC => ok_move rfl) rfl rfl rfl ?_ (hC := trivial))
  all_goals (refine WH.tk 10 rfl (fun hq hC => ok_move rfl) rfl rfl rfl ?_ (hC := trivial))
  all_goals (refine WH.tk 11 rfl (fun hq hC => ok_move rfl) rfl rfl rfl ?_ (hC := trivial))
  all_goals (refine WH.tk 12 rfl (fun hq hC => ok_move rfl) rfl rfl rfl ?_ (hC := trivial))
  all_goals (first | (refine WH.tk 13 rfl (fun hq hC => ok_addI rfl rfl (by omega)) rfl rfl rfl ?_ (hC := trivial)) | (refine WH.tk 13 rfl (fun hq hC => ok_add rfl rfl) rfl rfl rfl ?_ (hC := trivial)))
  all_goals (refine WH.tk 14 rfl (fun hq hC => ok_slice_sl Tryz.underlying9 rfl rfl (by first | omega | (simp <;> omega))) rfl rfl rfl ?_ (hC := trivial))
  all_goals (refine WH.one 6 (by kernel_rfl) ?_)
  all_goals (refine Comes1.call (vs := [_]) rfl rfl (fun a w => Tryz.call52 a w) rfl (quote_ref t (by omega)) rfl rfl rfl ?_ (fun _ => by kernel_rfl)
             rintro _ h4 ⟨rfl, hx4⟩)
  all_goals (refine ⟨fun _ => by first | assumption | trivial, ?_⟩)
  all_goals (refine WH.tk 7 rfl (fun hq hC => ok_catS rfl rfl (by first | (simp only [List.length_append, List.length_cons, List.length_nil]; omega) | (simp; omega))) rfl rfl rfl ?_ (hC := trivial))
  all_goals (refine WH.tk 9 rfl (fun hq hC => ok_catS rfl rfl (by first | (simp only [List.length_append, List.length_cons, List.length_nil]; omega) | (simp; omega))) rfl rfl rfl ?_ (hC := trivial))
  all_goals (refine WH.tk 15 rfl (fun hq hC => ok_catS rfl rfl (by first | (simp only [List.length_append, List.length_cons, List.length_nil]; omega) | (simp; omega))) rfl rfl rfl ?_ (hC := trivial))
  all_goals (refine WH.one 16 (by kernel_rfl) ?_)
  all_goals (refine Comes1.run rfl (OkP.r (ok_assign rfl)) rfl rfl rfl ?_ (fun _ => by kernel_rfl)
             rintro _ hz ⟨rfl, _⟩
             subst hz)
  all_goals (refine ⟨fun e => (by cases e), ?_⟩)
  all_goals (refine WH.done (by kernel_rfl) ?_)
  all_goals (refine Gn ?_)
  all_goals (refine WC.sub [(8, _)] ⟨rfl, trivial⟩ ?_)
  all_goals (refine WC.ret ?_)
  all_goals (repeat' (with_reducible first | refine thenP_r ?_ | refine blockP_r ?_))
  all_goals (refine retP_1 _ ⟨rfl, trivial⟩ ?_)
  all_goals (first
              | (exfalso; simp_all; done)
              | exact ⟨by simp [renL, swapL, *], hx1.trans hx2⟩
              | exact ⟨by simp [renL, swapL, *], hx1⟩
              | exact ⟨by simp [renL, swapL, *], .refl _ _⟩
              | exact ⟨by rw [show renL code text f t = Lib.replace text (needL f) (needL t) 1 by simp [renL, *], replace_miss (index_no (by omega) hn)], hx3⟩
              | exact ⟨by rw [show renL code text f t = Lib.replace text (needL f) (needL t) 1 by simp [renL, *], replace_hit (i := k) (by omega) (Lib.index_first (by omega) (by rw [occ_eq]; exact decide_eq_true hb) hn), show needL t = ([44, 32, 98, 117, 116, 32, 112, 114, 101, 112, 97, 114, 101, 100, 32, 115, 116, 97, 116, 101, 109, 101, 110, 116, 32] : List UInt8) ++ quoteL t ++ ([32, 114, 101, 113, 117, 105, 114, 101, 115, 32] : List UInt8) from rfl, show ((k : Int) + ((needL f).length : Nat)).toNat = k + (needL f).length by omega]; simp [List.append_assoc], hx3.trans hx4⟩)
  skip))
  all_goals (first | (fail_if_success refine goB 10 ?_) | (
  refine goB 10 ?_
  all_goals (refine WC.skip ?_)
  skip))
  all_goals (refine Gn ?_)
  all_goals (first | (refine Br.keep ?_) | (refine WC.region ?_))
  all_goals (refine Go ?_)
  all_goals (first | (refine Br.keep ?_) | (exact ⟨k + 1, ⟨rfl, rfl, rfl, rfl, rfl, rfl, rfl, trivial⟩, (by exact ⟨rfl, by omega, fun j hj => by rcases Nat.lt_succ_iff_lt_or_eq.1 hj with e | e; exact hn j e; subst e; rw [occ_eq]; exact decide_eq_false ‹¬ _ = needL f›⟩), (by omega)⟩))
  all_goals (try (refine Br.mk (i := 1001) ?_))
  all_goals (refine Gn ?_)
  all_goals (refine WC.sub [(1, _)] ⟨rfl, trivial⟩ ?_)
  all_goals (refine WC.sr ?_)
  all_goals (refine Go ?_)
  all_goals (refine WC.ret ?_)
  all_goals (repeat' (with_reducible first | refine thenP_r ?_ | refine blockP_r ?_))
  all_goals (refine retP_1 _ ⟨rfl, trivial⟩ ?_)
  all_goals (first
              | (exfalso; simp_all; done)
              | exact ⟨by simp [renL, swapL, *], hx1.trans hx2⟩
              | exact ⟨by simp [renL, swapL, *], hx1⟩
              | exact ⟨by simp [renL, swapL, *], .refl _ _⟩
              | exact ⟨by rw [show renL code text f t = Lib.replace text (needL f) (needL t) 1 by simp [renL, *], replace_miss (index_no (by omega) hn)], hx3⟩
              | exact ⟨by rw [show renL code text f t = Lib.replace text (needL f) (needL t) 1 by simp [renL, *], replace_hit (i := k) (by omega) (Lib.index_first (by omega) (by rw [occ_eq]; exact decide_eq_true hb) hn), show needL t = ([44, 32, 98, 117, 116, 32, 112, 114, 101, 112, 97, 114, 101, 100, 32, 115, 116, 97, 116, 101, 109, 101, 110, 116, 32] : List UInt8) ++ quoteL t ++ ([32, 114, 101, 113, 117, 105, 114, 101, 115, 32] : List UInt8) from rfl, show ((k : Int) + ((needL f).length : Nat)).toNat = k + (needL f).length by omega]; simp [List.append_assoc], hx3.trans hx4⟩)

end Go.Proofs.YtbahigffjclpdaaGreatDoor


