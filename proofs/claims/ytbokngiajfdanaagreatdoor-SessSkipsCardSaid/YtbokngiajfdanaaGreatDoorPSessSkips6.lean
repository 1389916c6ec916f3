/-
  SEVERAL TEXTS IN ONE: Dx22, Dp1, Dx23, Del, IxB, K17, BkChk, BkChk2, Ev, PlF, SeLk.
-/
import Derived.Test.YtbokngiajfdanaaGreatDoorPSessSkips5
import Derived.Lib.IndexAny
import Derived.Lib.IndexLaws
import Derived.ChangeKeysEq
import Derived.Test.YtbokngiajfdanaaGreatDoorRows
import Derived.Lay
import Derived.LaidLaws
import Derived.LaidHandle
import Derived.Stop.Joined
/-
  SESSIONS (layer 30), by the code: what is said of any message.
-/
namespace Go.Proofs.YtbokngiajfdanaaGreatDoor
open Go Go.RK

section
variable {h h' : Heap} {A : Ad} {st : Int} {sk ov : Bool} {cnt : Int} {L : List (List UInt8 × StD)} {P : List (List UInt8 × ItD)}
/-- What a call of Do gives. -/
def Did (h : Heap) (A : Ad) (P : List (List UInt8 × ItD)) (x : SP × List BkP) (u : Value) (h' : Heap) : Prop := (∃ B, Outs h h' u B ∧ B.map Bk.p = x.2) ∧ Sv h A P h' x.1
set_option maxHeartbeats 2000000 in
set_option maxRecDepth 100000 in
theorem do_a (k : Ss h A st sk ov cnt L P) (f : Fm) (hf : f.ok h) (hk : ov = true ∨ f.kind = 88 ∨ f.kind = 83 ∨ sk = true) :
    CallsH Tryz.prog 9 ⟨[.pointer (some ⟨A.bs, 0, none⟩), .agg ⟨f.cells⟩]⟩ h (Did h A P (doP (spO st sk ov cnt L P) f.p)) := by
  have kr := fun (g : Heap) (k : Ss g A st sk ov cnt L P) => ready_yes k.se.blk
  have hd : doP (spO st sk ov cnt L P) f.p = if ov = true then (spO st sk ov cnt L P, []) else if f.kind = 88 then (spO st sk true cnt L P, []) else if f.kind = 83 then ((syncP (spO st false ov cnt L P)).1, [{ kind := 90, status := st }]) else if sk = true then (spO st sk ov cnt L P, []) else restP f.p (dealP (spO st sk ov cnt L P) f.p) := rfl
  rw [hd]
  clear hd
  obtain ⟨⟨e1, _⟩, ⟨e2, _⟩, ⟨e3, _⟩, e4, _⟩ := hf
  obtain ⟨fk, w, n, p, t, vo, o, vf, fs, vs, rs, vp, ps, mx⟩ := f
  dsimp only at e1 e2 e3 e4 hk
  obtain ⟨_, _, rfl, _⟩ := e1
  obtain ⟨_, _, rfl, _⟩ := e2
  obtain ⟨_, _, rfl, _⟩ := e3
  obtain ⟨_, _, rfl, _⟩ := e4
  dsimp only [Fm.cells]
  by_cases e1 : ov = true
  · rw [if_pos e1]
    subst e1
    refine calls [(0, _), (1, _)] Tryz.func9 rfl Tryz.ntmps9 rfl ⟨rfl, rfl, trivial⟩ ?_
    all_goals (refine WC.sr ?_)
    all_goals (refine WL.stepR (okE_box rfl) rfl rfl rfl ?_
               rintro _ h1 ⟨b3, rfl, hg1, hb1, hx1⟩)
    all_goals (have k1 := k.ext0 hx1
               have hb := k1.se.blk
               have lb := lt_of_some k.se.blk
               have n3 : ¬ b3 = A.bs := by omega)
    all_goals (refine Go ?_)
    all_goals (refine WC.seq ?_)
    all_goals (refine WC.sr ?_)
    all_goals (refine Go ?_)
    all_goals (refine WL.call (vs := [_]) rfl (fun a w => Tryz.call21 a w) rfl (kr _ k1) rfl rfl rfl ?_
               rintro _ hz ⟨rfl, _⟩
               subst hz)
    all_goals (refine Go ?_)
    all_goals (refine Gs [(0, _), (3, _), (10, _)] ?_)
    all_goals (refine goC 1 2 ?_ ?_ <;> first | exact ⟨⟩ | refine Hb.mk fun hb => ?_ | skip)
    all_goals (first | (fail_if_success refine goB 1 ?_) | (
    refine goB 1 ?_
    all_goals (refine WC.sr ?_)
    all_goals (refine Go ?_)
    all_goals (refine Gt ?_)
    all_goals (exact ⟨⟨[], Outs.nil _ _, rfl⟩, .of k1 (Tn.no hx1)⟩)
    skip))
    all_goals (first | (fail_if_success refine goB 2 ?_) | (
    refine goB 2 ?_
    all_goals (refine WC.skip ?_)
    skip))
    all_goals (refine Gn ?_)
    all_goals (refine WC.seq ?_)
    all_goals (refine WC.block ?_)
    all_goals (refine WC.sr ?_)
    all_goals (refine Go ?_)
    all_goals (refine WL.ld rfl (by first | exact cell_blk hb1 rfl | assumption | exact cell_blk (by assumption) rfl) rfl rfl rfl ?_)
    all_goals (refine Go ?_)
    all_goals (refine Gs [(0, _), (3, _), (11, _)] ?_)
    all_goals (refine goC 3 4 ?_ ?_ <;> first | exact ⟨⟩ | refine Hb.mk fun hb => ?_ | skip)
    all_goals (first | (fail_if_success refine goB 3 ?_) | (
    refine goB 3 ?_
    all_goals (refine WC.sr ?_)
    all_goals (refine Go ?_)
    all_goals (refine WL.step (ok_nilCheck rfl) rfl rfl rfl ?_)
    all_goals (refine Go ?_)
    all_goals (refine WL.stepR0 (okE_store (fun w => Tryz.sizeOf4 w) rfl rfl (by assumption) (Nat.le_of_ble_eq_true rfl) rfl rfl) rfl rfl ?_
               rintro _ h1 ⟨hb1, hx1⟩)
    all_goals (refine Gn ?_)
    all_goals (refine Gs [] ?_)
    all_goals (refine WC.sr ?_)
    all_goals (refine Go ?_)
    all_goals (refine Gt ?_)
    all_goals (exact ⟨⟨[], Outs.nil _ _, rfl⟩, .of k1 (Tn.no hx1)⟩)
    skip))
    all_goals (first | (fail_if_success refine goB 4 ?_) | (
    refine goB 4 ?_
    all_goals (refine WC.sr ?_)
    all_goals (refine Go ?_)
    all_goals (refine WL.ld rfl (by first | exact cell_blk hb1 rfl | assumption | exact cell_blk (by assumption) rfl) rfl rfl rfl ?_)
    all_goals (refine Go ?_)
    all_goals (refine Gs [(0, _), (3, _), (18, _)] ?_)
    all_goals (refine goC 5 6 ?_ ?_ <;> first | exact ⟨⟩ | refine Hb.mk fun hb => ?_ | skip)
    all_goals (first | (fail_if_success refine goB 6 ?_) | (
    refine goB 6 ?_
    all_goals (refine WC.sr ?_)
    all_goals (refine Go ?_)
    all_goals (refine WL.step (ok_nilCheck rfl) rfl rfl rfl ?_)
    all_goals (refine Go ?_)
    all_goals (refine WL.ld rfl (by first | exact cell_blk hb rfl | assumption | exact cell_blk (by assumption) rfl) rfl rfl rfl ?_)
    all_goals (refine Go ?_)
    all_goals (refine Gs [(0, _), (3, _), (28, _)] ?_)
    all_goals (refine goC 7 8 ?_ ?_ <;> first | exact ⟨⟩ | refine Hb.mk fun hb => ?_ | skip)
    all_goals (first | (fail_if_success refine goB 7 ?_) | (
    refine goB 7 ?_
    all_goals (refine WC.sr ?_)
    all_goals (refine Go ?_)
    all_goals (refine Gt ?_)
    all_goals (exact ⟨⟨[], Outs.nil _ _, rfl⟩, .of k1 (Tn.no hx1)⟩)
    skip))
    all_goals (first | (fail_if_success refine goB 8 ?_) | (
    refine goB 8 ?_
    all_goals (refine WC.skip ?_)
    skip))
    skip))
    skip))
    all_goals (refine Gn ?_)
    all_goals (refine WC.sr ?_)
    all_goals (refine Go ?_)
    all_goals (refine WL.step (ok_loadN (fun w => Tryz.isAgg32 w) (fun w => Tryz.sizeOf32 w) rfl rfl (by assumption)) rfl rfl rfl ?_)
    all_goals (fail "no contract for call of (*remuda/sess.Session).deal at 11.2")
    all_goals (refine Go ?_)
    all_goals (refine Gs [(0, _), (3, _), (5, _), (6, _)] ?_)
    all_goals (refine WC.sr ?_)
    all_goals (refine WL.stepR (okE_alloc (fun w => Tryz.zeroValue69 w)) rfl rfl rfl ?_
               rintro _ h1 ⟨b1, rfl, hg1, hb1, hx1⟩)
    all_goals (refine Gn ?_)
    all_goals (refine WC.seq ?_)
    all_goals (refine WC.sr ?_)
    all_goals (refine Go ?_)
    all_goals (refine WL.step (ok_mkIface ⟨_, Tryz.underlying71, fun _ h => by cases h⟩ rfl) rfl rfl rfl ?_)
    all_goals (fail "no contract for call of errors.As at 13.2")
    all_goals (refine Gn ?_)
    all_goals (refine goC 9 10 ?_ ?_ <;> first | exact ⟨⟩ | refine Hb.mk fun hb => ?_ | skip)
    all_goals (first | (fail_if_success refine goB 10 ?_) | (
    refine goB 10 ?_
    all_goals (refine WC.skip ?_)
    skip))
    all_goals (refine Gn ?_)
    all_goals (refine WC.seq ?_)
    all_goals (refine WC.sr ?_)
    all_goals (refine Go ?_)
    all_goals (refine Ld ?_)
    all_goals (refine Go ?_)
    all_goals (refine Gs [(0, _), (5, _), (56, _)] ?_)
    all_goals (refine goC 11 12 ?_ ?_ <;> first | exact ⟨⟩ | refine Hb.mk fun hb => ?_ | skip)
    all_goals (first | (fail_if_success refine goB 12 ?_) | (
    refine goB 12 ?_
    all_goals (refine WC.skip ?_)
    skip))
    all_goals (refine Gn ?_)
    all_goals (refine WC.sr ?_)
    all_goals (refine Go ?_)
    all_goals (refine Gs [(4, _)] ?_)
    all_goals (refine Gt ?_)
    all_goals (exact ⟨⟨[], Outs.nil _ _, rfl⟩, .of k1 (Tn.no hx1)⟩)
  rw [if_neg e1]
  obtain rfl : ov = false := by simpa using e1
  by_cases e2 : fk = 88
  · rw [if_pos e2]
    refine calls [(0, _), (1, _)] Tryz.func9 rfl Tryz.ntmps9 rfl ⟨rfl, rfl, trivial⟩ ?_
    all_goals (refine WC.sr ?_)
    all_goals (refine WL.stepR (okE_box rfl) rfl rfl rfl ?_
               rintro _ h1 ⟨b3, rfl, hg1, hb1, hx1⟩)
    all_goals (have k1 := k.ext0 hx1
               have hb := k1.se.blk
               have lb := lt_of_some k.se.blk
               have n3 : ¬ b3 = A.bs := by omega)
    all_goals (refine Go ?_)
    all_goals (refine WC.seq ?_)
    all_goals (refine WC.sr ?_)
    all_goals (refine Go ?_)
    all_goals (refine WL.call (vs := [_]) rfl (fun a w => Tryz.call21 a w) rfl (kr _ k1) rfl rfl rfl ?_
               rintro _ hz ⟨rfl, _⟩
               subst hz)
    all_goals (refine Go ?_)
    all_goals (refine Gs [(0, _), (3, _), (10, _)] ?_)
    all_goals (refine goC 1 2 ?_ ?_ <;> first | exact ⟨⟩ | refine Hb.mk fun hb => ?_ | skip)
    all_goals (first | (fail_if_success refine goB 1 ?_) | (
    refine goB 1 ?_
    all_goals (refine WC.sr ?_)
    all_goals (refine Go ?_)
    all_goals (refine Gt ?_)
    all_goals (exact ⟨⟨[], Outs.nil _ _, rfl⟩, .of k2 ((Tn.no hx1).trans t2)⟩)
    skip))
    all_goals (first | (fail_if_success refine goB 2 ?_) | (
    refine goB 2 ?_
    all_goals (refine WC.skip ?_)
    skip))
    all_goals (refine Gn ?_)
    all_goals (refine WC.seq ?_)
    all_goals (refine WC.block ?_)
    all_goals (refine WC.sr ?_)
    all_goals (refine Go ?_)
    all_goals (refine WL.ld rfl (by first | exact cell_blk hb1 rfl | assumption | exact cell_blk (by assumption) rfl) rfl rfl rfl ?_)
    all_goals (refine Go ?_)
    all_goals (refine Gs [(0, _), (3, _), (11, _)] ?_)
    all_goals (refine goC 3 4 ?_ ?_ <;> first | exact ⟨⟩ | refine Hb.mk fun hb => ?_ | skip)
    all_goals (first | (fail_if_success refine goB 3 ?_) | (
    refine goB 3 ?_
    all_goals (refine WC.sr ?_)
    all_goals (refine Go ?_)
    all_goals (refine WL.step (ok_nilCheck rfl) rfl rfl rfl ?_)
    all_goals (refine Go ?_)
    all_goals (refine WL.stepR0 (okE_store (fun w => Tryz.sizeOf4 w) rfl rfl hb (Nat.le_of_ble_eq_true rfl) rfl rfl) rfl rfl ?_
               rintro _ h2 ⟨hb2, hx2⟩)
    all_goals (obtain ⟨k2, t2⟩ := k1.turnS hx2 hb2 k1.sto)
    all_goals (refine Gn ?_)
    all_goals (refine Gs [] ?_)
    all_goals (refine WC.sr ?_)
    all_goals (refine Go ?_)
    all_goals (refine Gt ?_)
    all_goals (exact ⟨⟨[], Outs.nil _ _, rfl⟩, .of k2 ((Tn.no hx1).trans t2)⟩)
    skip))
    all_goals (first | (fail_if_success refine goB 4 ?_) | (
    refine goB 4 ?_
    all_goals (refine WC.sr ?_)
    all_goals (refine Go ?_)
    all_goals (refine WL.ld rfl (by first | exact cell_blk hb1 rfl | assumption | exact cell_blk (by assumption) rfl) rfl rfl rfl ?_)
    all_goals (refine Go ?_)
    all_goals (refine Gs [(0, _), (3, _), (18, _)] ?_)
    all_goals (refine goC 5 6 ?_ ?_ <;> first | exact ⟨⟩ | refine Hb.mk fun hb => ?_ | skip)
    all_goals (first | (fail_if_success refine goB 6 ?_) | (
    refine goB 6 ?_
    all_goals (refine WC.sr ?_)
    all_goals (refine Go ?_)
    all_goals (refine WL.step (ok_nilCheck rfl) rfl rfl rfl ?_)
    all_goals (refine Go ?_)
    all_goals (refine WL.ld rfl (by first | exact cell_blk hb rfl | assumption | exact cell_blk (by assumption) rfl) rfl rfl rfl ?_)
    all_goals (refine Go ?_)
    all_goals (refine Gs [(0, _), (3, _), (28, _)] ?_)
    all_goals (refine goC 7 8 ?_ ?_ <;> first | exact ⟨⟩ | refine Hb.mk fun hb => ?_ | skip)
    all_goals (first | (fail_if_success refine goB 7 ?_) | (
    refine goB 7 ?_
    all_goals (refine WC.sr ?_)
    all_goals (refine Go ?_)
    all_goals (refine Gt ?_)
    all_goals (exact ⟨⟨[], Outs.nil _ _, rfl⟩, .of k2 ((Tn.no hx1).trans t2)⟩)
    skip))
    all_goals (first | (fail_if_success refine goB 8 ?_) | (
    refine goB 8 ?_
    all_goals (refine WC.skip ?_)
    skip))
    skip))
    skip))
    all_goals (refine Gn ?_)
    all_goals (refine WC.sr ?_)
    all_goals (refine Go ?_)
    all_goals (refine WL.step (ok_loadN (fun w => Tryz.isAgg32 w) (fun w => Tryz.sizeOf32 w) rfl rfl (by assumption)) rfl rfl rfl ?_)
    all_goals (fail "no contract for call of (*remuda/sess.Session).deal at 11.2")
    all_goals (refine Go ?_)
    all_goals (refine Gs [(0, _), (3, _), (5, _), (6, _)] ?_)
    all_goals (refine WC.sr ?_)
    all_goals (refine WL.stepR (okE_alloc (fun w => Tryz.zeroValue69 w)) rfl rfl rfl ?_
               rintro _ h1 ⟨b1, rfl, hg1, hb1, hx1⟩)
    all_goals (refine Gn ?_)
    all_goals (refine WC.seq ?_)
    all_goals (refine WC.sr ?_)
    all_goals (refine Go ?_)
    all_goals (refine WL.step (ok_mkIface ⟨_, Tryz.underlying71, fun _ h => by cases h⟩ rfl) rfl rfl rfl ?_)
    all_goals (fail "no contract for call of errors.As at 13.2")
    all_goals (refine Gn ?_)
    all_goals (refine goC 9 10 ?_ ?_ <;> first | exact ⟨⟩ | refine Hb.mk fun hb => ?_ | skip)
    all_goals (first | (fail_if_success refine goB 10 ?_) | (
    refine goB 10 ?_
    all_goals (refine WC.skip ?_)
    skip))
    all_goals (refine Gn ?_)
    all_goals (refine WC.seq ?_)
    all_goals (refine WC.sr ?_)
    all_goals (refine Go ?_)
    all_goals (refine Ld ?_)
    all_goals (refine Go ?_)
    all_goals (refine Gs [(0, _), (5, _), (56, _)] ?_)
    all_goals (refine goC 11 12 ?_ ?_ <;> first | exact ⟨⟩ | refine Hb.mk fun hb => ?_ | skip)
    all_goals (first | (fail_if_success refine goB 12 ?_) | (
    refine goB 12 ?_
    all_goals (refine WC.skip ?_)
    skip))
    all_goals (refine Gn ?_)
    all_goals (refine WC.sr ?_)
    all_goals (refine Go ?_)
    all_goals (refine Gs [(4, _)] ?_)
    all_goals (refine Gt ?_)
    all_goals (exact ⟨⟨[], Outs.nil _ _, rfl⟩, .of k2 ((Tn.no hx1).trans t2)⟩)
  rw [if_neg e2]
  by_cases e3 : fk = 83
  · rw [if_pos e3]
    have ks := fun (g : Heap) (k : Ss g A st false false cnt L P) => syncD_v k
    unfold bkC at ks
    refine calls [(0, _), (1, _)] Tryz.func9 rfl Tryz.ntmps9 rfl ⟨rfl, rfl, trivial⟩ ?_
    all_goals (refine WC.sr ?_)
    all_goals (refine WL.stepR (okE_box rfl) rfl rfl rfl ?_
               rintro _ h1 ⟨b3, rfl, hg1, hb1, hx1⟩)
    all_goals (have k1 := k.ext0 hx1
               have hb := k1.se.blk
               have lb := lt_of_some k.se.blk
               have n3 : ¬ b3 = A.bs := by omega)
    all_goals (refine Go ?_)
    all_goals (refine WC.seq ?_)
    all_goals (refine WC.sr ?_)
    all_goals (refine Go ?_)
    all_goals (refine WL.call (vs := [_]) rfl (fun a w => Tryz.call21 a w) rfl (kr _ k1) rfl rfl rfl ?_
               rintro _ hz ⟨rfl, _⟩
               subst hz)
    all_goals (refine Go ?_)
    all_goals (refine Gs [(0, _), (3, _), (10, _)] ?_)
    all_goals (refine goC 1 2 ?_ ?_ <;> first | exact ⟨⟩ | refine Hb.mk fun hb => ?_ | skip)
    all_goals (first | (fail_if_success refine goB 1 ?_) | (
    refine goB 1 ?_
    all_goals (refine WC.sr ?_)
    all_goals (refine Go ?_)
    all_goals (refine Gt ?_)
    all_goals (have T3 := ((Tn.no (A := A) (P := P) hx1).trans t2).trans t3
               exact ⟨⟨[bk0 90 st []], .tag hb4 (by have := T3.1.size; omega), rfl⟩, L3, P3, k3.ext0 hx4, eL3, eP3, T3.trans (Tn.no hx4)⟩)
    skip))
    all_goals (first | (fail_if_success refine goB 2 ?_) | (
    refine goB 2 ?_
    all_goals (refine WC.skip ?_)
    skip))
    all_goals (refine Gn ?_)
    all_goals (refine WC.seq ?_)
    all_goals (refine WC.block ?_)
    all_goals (refine WC.sr ?_)
    all_goals (refine Go ?_)
    all_goals (refine WL.ld rfl (by first | exact cell_blk hb1 rfl | assumption | exact cell_blk (by assumption) rfl) rfl rfl rfl ?_)
    all_goals (refine Go ?_)
    all_goals (refine Gs [(0, _), (3, _), (11, _)] ?_)
    all_goals (refine goC 3 4 ?_ ?_ <;> first | exact ⟨⟩ | refine Hb.mk fun hb => ?_ | skip)
    all_goals (first | (fail_if_success refine goB 3 ?_) | (
    refine goB 3 ?_
    all_goals (refine WC.sr ?_)
    all_goals (refine Go ?_)
    all_goals (refine WL.step (ok_nilCheck rfl) rfl rfl rfl ?_)
    all_goals (refine Go ?_)
    all_goals (refine WL.stepR0 (okE_store (fun w => Tryz.sizeOf4 w) rfl rfl (by assumption) (Nat.le_of_ble_eq_true rfl) rfl rfl) rfl rfl ?_
               rintro _ h1 ⟨hb1, hx1⟩)
    all_goals (refine Gn ?_)
    all_goals (refine Gs [] ?_)
    all_goals (refine WC.sr ?_)
    all_goals (refine Go ?_)
    all_goals (refine Gt ?_)
    all_goals (have T3 := ((Tn.no (A := A) (P := P) hx1).trans t2).trans t3
               exact ⟨⟨[bk0 90 st []], .tag hb4 (by have := T3.1.size; omega), rfl⟩, L3, P3, k3.ext0 hx4, eL3, eP3, T3.trans (Tn.no hx4)⟩)
    skip))
    all_goals (first | (fail_if_success refine goB 4 ?_) | (
    refine goB 4 ?_
    all_goals (refine WC.sr ?_)
    all_goals (refine Go ?_)
    all_goals (refine WL.ld rfl (by first | exact cell_blk hb1 rfl | assumption | exact cell_blk (by assumption) rfl) rfl rfl rfl ?_)
    all_goals (refine Go ?_)
    all_goals (refine Gs [(0, _), (3, _), (18, _)] ?_)
    all_goals (refine goC 5 6 ?_ ?_ <;> first | exact ⟨⟩ | refine Hb.mk fun hb => ?_ | skip)
    all_goals (first | (fail_if_success refine goB 5 ?_) | (
    refine goB 5 ?_
    all_goals (refine WC.sr ?_)
    all_goals (refine Go ?_)
    all_goals (refine WL.step (ok_nilCheck rfl) rfl rfl rfl ?_)
    all_goals (refine Go ?_)
    all_goals (refine WL.stepR0 (okE_store (fun w => Tryz.sizeOf4 w) rfl rfl hb (Nat.le_of_ble_eq_true rfl) rfl rfl) rfl rfl ?_
               rintro _ h2 ⟨hb2, hx2⟩)
    all_goals (obtain ⟨k2, t2⟩ := k1.turnS hx2 hb2 k1.sto)
    all_goals (refine Gn ?_)
    all_goals (refine Gs [(0, _)] ?_)
    all_goals (refine WC.sr ?_)
    all_goals (refine Go ?_)
    all_goals (refine WL.call (vs := [_]) rfl (fun a w => Tryz.call22 a w) rfl (ks _ k2) rfl rfl rfl ?_
               rintro _ h3 ⟨rfl, ⟨L3, P3, k3, eL3, eP3, t3⟩, hx3⟩)
    all_goals (refine WL.stepR (okE_buildSlice (vs := [_]) (cs := [_, _, _, _, _, _, _, _, _, _, _]) (fun | [.agg ⟨[a0, a1, a2, a3, a4, a5, a6, a7, a8, a9, a10]⟩] => [a0, a1, a2, a3, a4, a5, a6, a7, a8, a9, a10] | _ => []) Tryz.underlying33 rfl rfl (by kernel_rfl)) rfl rfl rfl ?_
               rintro _ h4 ⟨b4, rfl, hg4, hb4, hx4⟩)
    all_goals (refine Go ?_)
    all_goals (refine Gs [(4, _)] ?_)
    all_goals (refine Gt ?_)
    all_goals (have T3 := ((Tn.no (A := A) (P := P) hx1).trans t2).trans t3
               exact ⟨⟨[bk0 90 st []], .tag hb4 (by have := T3.1.size; omega), rfl⟩, L3, P3, k3.ext0 hx4, eL3, eP3, T3.trans (Tn.no hx4)⟩)
    skip))
    all_goals (first | (fail_if_success refine goB 6 ?_) | (
    refine goB 6 ?_
    all_goals (refine WC.sr ?_)
    all_goals (refine Go ?_)
    all_goals (refine WL.step (ok_nilCheck rfl) rfl rfl rfl ?_)
    all_goals (refine Go ?_)
    all_goals (refine WL.ld rfl (by first | exact cell_blk hb rfl | assumption | exact cell_blk (by assumption) rfl) rfl rfl rfl ?_)
    all_goals (refine Go ?_)
    all_goals (refine Gs [(0, _), (3, _), (28, _)] ?_)
    all_goals (refine goC 7 8 ?_ ?_ <;> first | exact ⟨⟩ | refine Hb.mk fun hb => ?_ | skip)
    all_goals (first | (fail_if_success refine goB 7 ?_) | (
    refine goB 7 ?_
    all_goals (refine WC.sr ?_)
    all_goals (refine Go ?_)
    all_goals (refine Gt ?_)
    all_goals (have T3 := ((Tn.no (A := A) (P := P) hx1).trans t2).trans t3
               exact ⟨⟨[bk0 90 st []], .tag hb4 (by have := T3.1.size; omega), rfl⟩, L3, P3, k3.ext0 hx4, eL3, eP3, T3.trans (Tn.no hx4)⟩)
    skip))
    all_goals (first | (fail_if_success refine goB 8 ?_) | (
    refine goB 8 ?_
    all_goals (refine WC.skip ?_)
    skip))
    skip))
    skip))
    all_goals (refine Gn ?_)
    all_goals (refine WC.sr ?_)
    all_goals (refine Go ?_)
    all_goals (refine WL.step (ok_loadN (fun w => Tryz.isAgg32 w) (fun w => Tryz.sizeOf32 w) rfl rfl (by assumption)) rfl rfl rfl ?_)
    all_goals (fail "no contract for call of (*remuda/sess.Session).deal at 11.2")
    all_goals (refine Go ?_)
    all_goals (refine Gs [(0, _), (3, _), (5, _), (6, _)] ?_)
    all_goals (refine WC.sr ?_)
    all_goals (refine WL.stepR (okE_alloc (fun w => Tryz.zeroValue69 w)) rfl rfl rfl ?_
               rintro _ h1 ⟨b1, rfl, hg1, hb1, hx1⟩)
    all_goals (refine Gn ?_)
    all_goals (refine WC.seq ?_)
    all_goals (refine WC.sr ?_)
    all_goals (refine Go ?_)
    all_goals (refine WL.step (ok_mkIface ⟨_, Tryz.underlying71, fun _ h => by cases h⟩ rfl) rfl rfl rfl ?_)
    all_goals (fail "no contract for call of errors.As at 13.2")
    all_goals (refine Gn ?_)
    all_goals (refine goC 9 10 ?_ ?_ <;> first | exact ⟨⟩ | refine Hb.mk fun hb => ?_ | skip)
    all_goals (first | (fail_if_success refine goB 10 ?_) | (
    refine goB 10 ?_
    all_goals (refine WC.skip ?_)
    skip))
    all_goals (refine Gn ?_)
    all_goals (refine WC.seq ?_)
    all_goals (refine WC.sr ?_)
    all_goals (refine Go ?_)
    all_goals (refine Ld ?_)
    all_goals (refine Go ?_)
    all_goals (refine Gs [(0, _), (5, _), (56, _)] ?_)
    all_goals (refine goC 11 12 ?_ ?_ <;> first | exact ⟨⟩ | refine Hb.mk fun hb => ?_ | skip)
    all_goals (first | (fail_if_success refine goB 12 ?_) | (
    refine goB 12 ?_
    all_goals (refine WC.skip ?_)
    skip))
    all_goals (refine Gn ?_)
    all_goals (refine WC.sr ?_)
    all_goals (refine Go ?_)
    all_goals (refine Gs [(4, _)] ?_)
    all_goals (refine Gt ?_)
    all_goals (have T3 := ((Tn.no (A := A) (P := P) hx1).trans t2).trans t3
               exact ⟨⟨[bk0 90 st []], .tag hb4 (by have := T3.1.size; omega), rfl⟩, L3, P3, k3.ext0 hx4, eL3, eP3, T3.trans (Tn.no hx4)⟩)
  rw [if_neg e3]
  obtain rfl : sk = true := by
    rcases hk with hk | hk | hk | hk
    · cases hk
    · exact absurd hk e2
    · exact absurd hk e3
    · exact hk
  rw [if_pos rfl]
  refine calls [(0, _), (1, _)] Tryz.func9 rfl Tryz.ntmps9 rfl ⟨rfl, rfl, trivial⟩ ?_
  all_goals (refine WC.sr ?_)
  all_goals (refine WL.stepR (okE_box rfl) rfl rfl rfl ?_
             rintro _ h1 ⟨b3, rfl, hg1, hb1, hx1⟩)
  all_goals (have k1 := k.ext0 hx1
             have hb := k1.se.blk
             have lb := lt_of_some k.se.blk
             have n3 : ¬ b3 = A.bs := by omega)
  all_goals (refine Go ?_)
  all_goals (refine WC.seq ?_)
  all_goals (refine WC.sr ?_)
  all_goals (refine Go ?_)
  all_goals (refine WL.call (vs := [_]) rfl (fun a w => Tryz.call21 a w) rfl (kr _ k1) rfl rfl rfl ?_
             rintro _ hz ⟨rfl, _⟩
             subst hz)
  all_goals (refine Go ?_)
  all_goals (refine Gs [(0, _), (3, _), (10, _)] ?_)
  all_goals (refine goC 1 2 ?_ ?_ <;> first | exact ⟨⟩ | refine Hb.mk fun hb => ?_ | skip)
  all_goals (first | (fail_if_success refine goB 1 ?_) | (
  refine goB 1 ?_
  all_goals (refine WC.sr ?_)
  all_goals (refine Go ?_)
  all_goals (refine Gt ?_)
  all_goals (exact ⟨⟨[], Outs.nil _ _, rfl⟩, .of k1 (Tn.no hx1)⟩)
  skip))
  all_goals (first | (fail_if_success refine goB 2 ?_) | (
  refine goB 2 ?_
  all_goals (refine WC.skip ?_)
  skip))
  all_goals (refine Gn ?_)
  all_goals (refine WC.seq ?_)
  all_goals (refine WC.block ?_)
  all_goals (refine WC.sr ?_)
  all_goals (refine Go ?_)
  all_goals (refine WL.ld rfl (by first | exact cell_blk hb1 rfl | assumption | exact cell_blk (by assumption) rfl) rfl rfl rfl ?_)
  all_goals (refine Go ?_)
  all_goals (refine Gs [(0, _), (3, _), (11, _)] ?_)
  all_goals (refine goC 3 4 ?_ ?_ <;> first | exact ⟨⟩ | refine Hb.mk fun hb => ?_ | skip)
  all_goals (first | (fail_if_success refine goB 3 ?_) | (
  refine goB 3 ?_
  all_goals (refine WC.sr ?_)
  all_goals (refine Go ?_)
  all_goals (refine WL.step (ok_nilCheck rfl) rfl rfl rfl ?_)
  all_goals (refine Go ?_)
  all_goals (refine WL.stepR0 (okE_store (fun w => Tryz.sizeOf4 w) rfl rfl (by assumption) (Nat.le_of_ble_eq_true rfl) rfl rfl) rfl rfl ?_
             rintro _ h1 ⟨hb1, hx1⟩)
  all_goals (refine Gn ?_)
  all_goals (refine Gs [] ?_)
  all_goals (refine WC.sr ?_)
  all_goals (refine Go ?_)
  all_goals (refine Gt ?_)
  all_goals (exact ⟨⟨[], Outs.nil _ _, rfl⟩, .of k1 (Tn.no hx1)⟩)
  skip))
  all_goals (first | (fail_if_success refine goB 4 ?_) | (
  refine goB 4 ?_
  all_goals (refine WC.sr ?_)
  all_goals (refine Go ?_)
  all_goals (refine WL.ld rfl (by first | exact cell_blk hb1 rfl | assumption | exact cell_blk (by assumption) rfl) rfl rfl rfl ?_)
  all_goals (refine Go ?_)
  all_goals (refine Gs [(0, _), (3, _), (18, _)] ?_)
  all_goals (refine goC 5 6 ?_ ?_ <;> first | exact ⟨⟩ | refine Hb.mk fun hb => ?_ | skip)
  all_goals (first | (fail_if_success refine goB 6 ?_) | (
  refine goB 6 ?_
  all_goals (refine WC.sr ?_)
  all_goals (refine Go ?_)
  all_goals (refine WL.step (ok_nilCheck rfl) rfl rfl rfl ?_)
  all_goals (refine Go ?_)
  all_goals (refine WL.ld rfl (by first | exact cell_blk hb rfl | assumption | exact cell_blk (by assumption) rfl) rfl rfl rfl ?_)
  all_goals (refine Go ?_)
  all_goals (refine Gs [(0, _), (3, _), (28, _)] ?_)
  all_goals (refine goC 7 8 ?_ ?_ <;> first | exact ⟨⟩ | refine Hb.mk fun hb => ?_ | skip)
  all_goals (first | (fail_if_success refine goB 7 ?_) | (
  refine goB 7 ?_
  all_goals (refine WC.sr ?_)
  all_goals (refine Go ?_)
  all_goals (refine Gt ?_)
  all_goals (exact ⟨⟨[], Outs.nil _ _, rfl⟩, .of k1 (Tn.no hx1)⟩)
  skip))
  all_goals (first | (fail_if_success refine goB 8 ?_) | (
  refine goB 8 ?_
  all_goals (refine WC.skip ?_)
  skip))
  skip))
  skip))
  all_goals (refine Gn ?_)
  all_goals (refine WC.sr ?_)
  all_goals (refine Go ?_)
  all_goals (refine WL.step (ok_loadN (fun w => Tryz.isAgg32 w) (fun w => Tryz.sizeOf32 w) rfl rfl (by assumption)) rfl rfl rfl ?_)
  all_goals (fail "no contract for call of (*remuda/sess.Session).deal at 11.2")
  all_goals (refine Go ?_)
  all_goals (refine Gs [(0, _), (3, _), (5, _), (6, _)] ?_)
  all_goals (refine WC.sr ?_)
  all_goals (refine WL.stepR (okE_alloc (fun w => Tryz.zeroValue69 w)) rfl rfl rfl ?_
             rintro _ h1 ⟨b1, rfl, hg1, hb1, hx1⟩)
  all_goals (refine Gn ?_)
  all_goals (refine WC.seq ?_)
  all_goals (refine WC.sr ?_)
  all_goals (refine Go ?_)
  all_goals (refine WL.step (ok_mkIface ⟨_, Tryz.underlying71, fun _ h => by cases h⟩ rfl) rfl rfl rfl ?_)
  all_goals (fail "no contract for call of errors.As at 13.2")
  all_goals (refine Gn ?_)
  all_goals (refine goC 9 10 ?_ ?_ <;> first | exact ⟨⟩ | refine Hb.mk fun hb => ?_ | skip)
  all_goals (first | (fail_if_success refine goB 10 ?_) | (
  refine goB 10 ?_
  all_goals (refine WC.skip ?_)
  skip))
  all_goals (refine Gn ?_)
  all_goals (refine WC.seq ?_)
  all_goals (refine WC.sr ?_)
  all_goals (refine Go ?_)
  all_goals (refine Ld ?_)
  all_goals (refine Go ?_)
  all_goals (refine Gs [(0, _), (5, _), (56, _)] ?_)
  all_goals (refine goC 11 12 ?_ ?_ <;> first | exact ⟨⟩ | refine Hb.mk fun hb => ?_ | skip)
  all_goals (first | (fail_if_success refine goB 12 ?_) | (
  refine goB 12 ?_
  all_goals (refine WC.skip ?_)
  skip))
  all_goals (refine Gn ?_)
  all_goals (refine WC.sr ?_)
  all_goals (refine Go ?_)
  all_goals (refine Gs [(4, _)] ?_)
  all_goals (refine Gt ?_)
  all_goals (exact ⟨⟨[], Outs.nil _ _, rfl⟩, .of k1 (Tn.no hx1)⟩)
/-- The same as syncD_v, with what is let go. -/
theorem syncD_s (k : Ss h A st sk ov cnt L P) : CallsH Tryz.prog 22 ⟨[.pointer (some ⟨A.bs, 0, none⟩)]⟩ h fun u h' => u = .agg ⟨bkC 90 st []⟩ ∧ (∃ P', (∀ q ∈ P', q ∈ P) ∧ Ss h' A st sk ov cnt L P' ∧ plP P' = (if st = 73 then [] else plP P) ∧ Tn A P h h' P') ∧ Ext (fun q => q = A.mp) h h' := by
  refine (syncD_v' k).mono fun u h' ⟨e, kk, tt, x⟩ => ⟨e, ⟨_, ?_, kk, ?_, tt⟩, x⟩
  · intro q hq
    split at hq
    · exact nomatch hq
    · exact hq
  · split <;> rfl
theorem Outs.none_nil {h0 h : Heap} {B : List Bk} (k : Outs h0 h nS B) : B = [] := by
  obtain ⟨_, _, e, _⟩ := k.own.slice
  simp only [nS, Value.slice.injEq] at e
  exact List.eq_nil_of_length_eq_zero (by omega)
theorem tuple2 {a b c d : Value} (h : Value.tuple ⟨[a, b]⟩ = .tuple ⟨[c, d]⟩) : a = c ∧ b = d := by simpa using h
/-- Blocks turned that are none of what was there: nothing of a session that made nothing since. -/
theorem Ss.extN {g g' : Heap} {S : Nat → Prop} {st' : Int} {sk' ov' : Bool} {cnt' : Int} {L' : List (List UInt8 × StD)} {P' : List (List UInt8 × ItD)} (k : Ss h A st sk ov cnt L P) (k' : Ss g A st' sk' ov' cnt' L' P') (sL : ∀ q ∈ L', q ∈ L) (sP : ∀ q ∈ P', q ∈ P) (x : Ext S g g') (hS : ∀ q, S q → h.size ≤ q) : Ss g' A st' sk' ov' cnt' L' P' := by
  have nS' : ∀ {q : Nat}, q < h.size → ¬ S q := fun hq e => by have := hS _ e; omega
  have e := k'.se
  refine ⟨⟨x.obj e.blk (nS' (lt_of_some k.se.blk)), e.stm.ext x (nS' k.se.stm.lt), x.obj e.pb (nS' (lt_of_some k.se.pb)), e.pm.ext x (nS' k.se.pm.lt), x.obj e.eb (nS' (lt_of_some k.se.eb)), e.em.ext x (nS' k.se.em.lt), e.ne⟩, fun q hq => ?_, fun q hq => ?_, k'.dis, k'.sto, k'.cok⟩
  · exact ⟨(k'.sok q hq).1.ext' x (fun z h0 hz => nS' ((k.sok q (sL q hq)).1.lt h0 hz)), (k'.sok q hq).2⟩
  · exact ⟨x.obj (k'.pok q hq).1 (nS' (lt_of_some (k.pok q (sP q hq)).1)), (k'.pok q hq).2.1.ext x (fun z hz => nS' ((k.pok q (sP q hq)).2.1.lt hz)), (k'.pok q hq).2.2⟩
set_option maxHeartbeats 2000000 in
set_option maxRecDepth 100000 in
/-- A message that is no query. -/
theorem do_b (er : Er h) (h0 : ¬ Mu A P 0) (k : Ss h A st false false cnt L P) (f : Fm) (hf : f.ok h) (hk : f.kind ≠ 88 ∧ f.kind ≠ 83 ∧ f.kind ≠ 81) {r : SayP}
    (kd : ∀ g, Ext No h g → CallsH Tryz.prog 23 ⟨[.pointer (some ⟨A.bs, 0, none⟩), .agg ⟨f.cells⟩]⟩ g (Two fun v e h' => Dealt g A P r (.tuple ⟨[v, e]⟩) h')) :
    CallsH Tryz.prog 9 ⟨[.pointer (some ⟨A.bs, 0, none⟩), .agg ⟨f.cells⟩]⟩ h (Did h A P (restP f.p r)) := by
  have kr := fun (g : Heap) (k : Ss g A st false false cnt L P) => ready_yes k.se.blk
  obtain ⟨⟨e1, _⟩, ⟨e2, _⟩, ⟨e3, _⟩, e4, _⟩ := hf
  obtain ⟨fk, w, n, p, t, vo, o, vf, fs, vs, rs, vp, ps, mx⟩ := f
  dsimp only at e1 e2 e3 e4 hk
  obtain ⟨_, _, rfl, _⟩ := e1
  obtain ⟨_, _, rfl, _⟩ := e2
  obtain ⟨_, _, rfl, _⟩ := e3
  obtain ⟨_, _, rfl, _⟩ := e4
  obtain ⟨k88, k83, e81⟩ := hk
  dsimp only [Fm.cells, Fm.p] at kd ⊢
  rcases r with ⟨⟨st1, sk1, ov1, cn1, LL1, PP1⟩, out, _ | ⟨ec, et⟩⟩
  · have hr : restP ⟨fk, w, n, p, t, o, ps.map Cel.pl, mx⟩ (⟨st1, sk1, ov1, cn1, LL1, PP1⟩, out, none) = (⟨st1, sk1, ov1, cn1, LL1, PP1⟩, out) := if_neg e81
    rw [hr]
    clear hr
    refine calls [(0, _), (1, _)] Tryz.func9 rfl Tryz.ntmps9 rfl ⟨rfl, rfl, trivial⟩ ?_
    all_goals (refine WC.sr ?_)
    all_goals (refine WL.stepR (okE_box rfl) rfl rfl rfl ?_
               rintro _ h1 ⟨b3, rfl, hg1, hb1, hx1⟩)
    all_goals (have k1 := k.ext0 hx1
               have hb := k1.se.blk
               have lb := lt_of_some k.se.blk
               have n3 : ¬ b3 = A.bs := by omega)
    all_goals (refine Go ?_)
    all_goals (refine WC.seq ?_)
    all_goals (refine WC.sr ?_)
    all_goals (refine Go ?_)
    all_goals (refine WL.call (vs := [_]) rfl (fun a w => Tryz.call21 a w) rfl (kr _ k1) rfl rfl rfl ?_
               rintro _ hz ⟨rfl, _⟩
               subst hz)
    all_goals (refine Go ?_)
    all_goals (refine Gs [(0, _), (3, _), (10, _)] ?_)
    all_goals (refine goC 1 2 ?_ ?_ <;> first | exact ⟨⟩ | refine Hb.mk fun hb => ?_ | skip)
    all_goals (first | (fail_if_success refine goB 1 ?_) | (
    refine goB 1 ?_
    all_goals (refine WC.sr ?_)
    all_goals (refine Go ?_)
    all_goals (refine Gt ?_)
    all_goals (exact ⟨⟨B2, OK, pB2⟩, L2, P2, kK, rfl, rfl, TK⟩)
    skip))
    all_goals (first | (fail_if_success refine goB 2 ?_) | (
    refine goB 2 ?_
    all_goals (refine WC.skip ?_)
    skip))
    all_goals (refine Gn ?_)
    all_goals (refine WC.seq ?_)
    all_goals (refine WC.block ?_)
    all_goals (refine WC.sr ?_)
    all_goals (refine Go ?_)
    all_goals (refine WL.ld rfl (by first | exact cell_blk hb1 rfl | assumption | exact cell_blk (by assumption) rfl) rfl rfl rfl ?_)
    all_goals (refine Go ?_)
    all_goals (refine Gs [(0, _), (3, _), (11, _)] ?_)
    all_goals (refine goC 3 4 ?_ ?_ <;> first | exact ⟨⟩ | refine Hb.mk fun hb => ?_ | skip)
    all_goals (first | (fail_if_success refine goB 3 ?_) | (
    refine goB 3 ?_
    all_goals (refine WC.sr ?_)
    all_goals (refine Go ?_)
    all_goals (refine WL.step (ok_nilCheck rfl) rfl rfl rfl ?_)
    all_goals (refine Go ?_)
    all_goals (refine WL.stepR0 (okE_store (fun w => Tryz.sizeOf4 w) rfl rfl (by assumption) (Nat.le_of_ble_eq_true rfl) rfl rfl) rfl rfl ?_
               rintro _ h1 ⟨hb1, hx1⟩)
    all_goals (refine Gn ?_)
    all_goals (refine Gs [] ?_)
    all_goals (refine WC.sr ?_)
    all_goals (refine Go ?_)
    all_goals (refine Gt ?_)
    all_goals (exact ⟨⟨B2, OK, pB2⟩, L2, P2, kK, rfl, rfl, TK⟩)
    skip))
    all_goals (first | (fail_if_success refine goB 4 ?_) | (
    refine goB 4 ?_
    all_goals (refine WC.sr ?_)
    all_goals (refine Go ?_)
    all_goals (refine WL.ld rfl (by first | exact cell_blk hb1 rfl | assumption | exact cell_blk (by assumption) rfl) rfl rfl rfl ?_)
    all_goals (refine Go ?_)
    all_goals (refine Gs [(0, _), (3, _), (18, _)] ?_)
    all_goals (refine goC 5 6 ?_ ?_ <;> first | exact ⟨⟩ | refine Hb.mk fun hb => ?_ | skip)
    all_goals (first | (fail_if_success refine goB 6 ?_) | (
    refine goB 6 ?_
    all_goals (refine WC.sr ?_)
    all_goals (refine Go ?_)
    all_goals (refine WL.step (ok_nilCheck rfl) rfl rfl rfl ?_)
    all_goals (refine Go ?_)
    all_goals (refine WL.ld rfl (by first | exact cell_blk hb rfl | assumption | exact cell_blk (by assumption) rfl) rfl rfl rfl ?_)
    all_goals (refine Go ?_)
    all_goals (refine Gs [(0, _), (3, _), (28, _)] ?_)
    all_goals (refine goC 7 8 ?_ ?_ <;> first | exact ⟨⟩ | refine Hb.mk fun hb => ?_ | skip)
    all_goals (first | (fail_if_success refine goB 7 ?_) | (
    refine goB 7 ?_
    all_goals (refine WC.sr ?_)
    all_goals (refine Go ?_)
    all_goals (refine Gt ?_)
    all_goals (exact ⟨⟨B2, OK, pB2⟩, L2, P2, kK, rfl, rfl, TK⟩)
    skip))
    all_goals (first | (fail_if_success refine goB 8 ?_) | (
    refine goB 8 ?_
    all_goals (refine WC.skip ?_)
    skip))
    skip))
    skip))
    all_goals (refine Gn ?_)
    all_goals (refine WC.sr ?_)
    all_goals (refine Go ?_)
    all_goals (refine WL.step (ok_loadN (fun w => Tryz.isAgg32 w) (fun w => Tryz.sizeOf32 w) rfl rfl (by exact At.of_block hb1)) rfl rfl rfl ?_)
    all_goals (refine WL.call (vs := [_, _]) rfl (fun a w => Tryz.call23 a w) rfl (kd _ hx1) rfl rfl rfl ?_
               rintro _ h2 ⟨u2, e2, rfl, v2, B2, c2, heq, O2, pB2, L2, P2, k2, eL2, eP2, t2⟩
               obtain ⟨q1, q2⟩ := tuple2 heq
               subst q1 q2
               dsimp only [erV] at pB2 k2 eL2 eP2 ⊢
               subst eL2
               subst eP2
               have hb12 := t2.1.obj hb1 (k1.not hb1 (by decide) (by decide) (by decide)))
    all_goals (refine Go ?_)
    all_goals (refine Gs [(0, _), (3, _), (5, _), (6, _)] ?_)
    all_goals (refine WC.sr ?_)
    all_goals (refine WL.stepR (okE_alloc (fun w => Tryz.zeroValue69 w)) rfl rfl rfl ?_
               rintro _ h3 ⟨b7, rfl, hg3, hb3, hx3⟩)
    all_goals (have hbK := hx3.obj hb12 nos
               have kK := k2.ext0 hx3
               have OK := (O2.mono hx1.size).ext0 hx3
               have TK := ((Tn.no (A := A) (P := P) hx1).trans t2).trans (Tn.no hx3))
    all_goals (refine Gn ?_)
    all_goals (refine WC.seq ?_)
    all_goals (refine WC.sr ?_)
    all_goals (refine Go ?_)
    all_goals (refine WL.step (ok_mkIface ⟨_, Tryz.underlying71, fun _ h => by cases h⟩ rfl) rfl rfl rfl ?_)
    all_goals (refine WL.call (vs := [_, _]) rfl (fun a w => Tryz.call24 a w) rfl (as_none _) rfl rfl rfl ?_
               rintro _ hz ⟨rfl, _⟩
               subst hz)
    all_goals (refine Gn ?_)
    all_goals (refine goC 9 10 ?_ ?_ <;> first | exact ⟨⟩ | refine Hb.mk fun hb => ?_ | skip)
    all_goals (first | (fail_if_success refine goB 10 ?_) | (
    refine goB 10 ?_
    all_goals (refine WC.skip ?_)
    skip))
    all_goals (refine Gn ?_)
    all_goals (refine WC.seq ?_)
    all_goals (refine WC.sr ?_)
    all_goals (refine Go ?_)
    all_goals (refine WL.ld rfl (by first | exact cell_blk hbK rfl | assumption | exact cell_blk (by assumption) rfl) rfl rfl rfl ?_)
    all_goals (refine Go ?_)
    all_goals (refine Gs [(0, _), (5, _), (56, _)] ?_)
    all_goals (refine goC 11 12 ?_ ?_ <;> first | exact ⟨⟩ | refine Hb.mk fun hb => ?_ | skip)
    all_goals (first | (fail_if_success refine goB 12 ?_) | (
    refine goB 12 ?_
    all_goals (refine WC.skip ?_)
    skip))
    all_goals (refine Gn ?_)
    all_goals (refine WC.sr ?_)
    all_goals (refine Go ?_)
    all_goals (refine Gs [(4, _)] ?_)
    all_goals (refine Gt ?_)
    all_goals (exact ⟨⟨B2, OK, pB2⟩, L2, P2, kK, rfl, rfl, TK⟩)
  · have hr : restP ⟨fk, w, n, p, t, o, ps.map Cel.pl, mx⟩ (⟨st1, sk1, ov1, cn1, LL1, PP1⟩, out, some (ec, et)) = (⟨failP st1, decide (fk ≠ 81), ov1, cn1, LL1, if failP st1 = 69 then [] else PP1⟩, out ++ [errP ec et]) := if_neg e81
    rw [hr]
    clear hr
    refine calls [(0, _), (1, _)] Tryz.func9 rfl Tryz.ntmps9 rfl ⟨rfl, rfl, trivial⟩ ?_
    all_goals (refine WC.sr ?_)
    all_goals (refine WL.stepR (okE_box rfl) rfl rfl rfl ?_
               rintro _ h1 ⟨b3, rfl, hg1, hb1, hx1⟩)
    all_goals (have k1 := k.ext0 hx1
               have hb := k1.se.blk
               have lb := lt_of_some k.se.blk
               have n3 : ¬ b3 = A.bs := by omega)
    all_goals (refine Go ?_)
    all_goals (refine WC.seq ?_)
    all_goals (refine WC.sr ?_)
    all_goals (refine Go ?_)
    all_goals (refine WL.call (vs := [_]) rfl (fun a w => Tryz.call21 a w) rfl (kr _ k1) rfl rfl rfl ?_
               rintro _ hz ⟨rfl, _⟩
               subst hz)
    all_goals (refine Go ?_)
    all_goals (refine Gs [(0, _), (3, _), (10, _)] ?_)
    all_goals (refine goC 1 2 ?_ ?_ <;> first | exact ⟨⟩ | refine Hb.mk fun hb => ?_ | skip)
    all_goals (first | (fail_if_success refine goB 1 ?_) | (
    refine goB 1 ?_
    all_goals (refine WC.sr ?_)
    all_goals (refine Go ?_)
    all_goals (refine Gt ?_)
    all_goals (exact ⟨⟨[] ++ [b6], OK, by simp [pb6]⟩, L2, P6, by show Ss h8 A (failP st1) (decide (fk ≠ 81)) ov1 cn1 L2 P6; rw [decide_eq_true e81]; exact kK, rfl, eP6, TK⟩)
    skip))
    all_goals (first | (fail_if_success refine goB 2 ?_) | (
    refine goB 2 ?_
    all_goals (refine WC.skip ?_)
    skip))
    all_goals (refine Gn ?_)
    all_goals (refine WC.seq ?_)
    all_goals (refine WC.block ?_)
    all_goals (refine WC.sr ?_)
    all_goals (refine Go ?_)
    all_goals (refine WL.ld rfl (by first | exact cell_blk hb1 rfl | assumption | exact cell_blk (by assumption) rfl) rfl rfl rfl ?_)
    all_goals (refine Go ?_)
    all_goals (refine Gs [(0, _), (3, _), (11, _)] ?_)
    all_goals (refine goC 3 4 ?_ ?_ <;> first | exact ⟨⟩ | refine Hb.mk fun hb => ?_ | skip)
    all_goals (first | (fail_if_success refine goB 3 ?_) | (
    refine goB 3 ?_
    all_goals (refine WC.sr ?_)
    all_goals (refine Go ?_)
    all_goals (refine WL.step (ok_nilCheck rfl) rfl rfl rfl ?_)
    all_goals (refine Go ?_)
    all_goals (refine WL.stepR0 (okE_store (fun w => Tryz.sizeOf4 w) rfl rfl (by assumption) (Nat.le_of_ble_eq_true rfl) rfl rfl) rfl rfl ?_
               rintro _ h1 ⟨hb1, hx1⟩)
    all_goals (refine Gn ?_)
    all_goals (refine Gs [] ?_)
    all_goals (refine WC.sr ?_)
    all_goals (refine Go ?_)
    all_goals (refine Gt ?_)
    all_goals (exact ⟨⟨[] ++ [b6], OK, by simp [pb6]⟩, L2, P6, by show Ss h8 A (failP st1) (decide (fk ≠ 81)) ov1 cn1 L2 P6; rw [decide_eq_true e81]; exact kK, rfl, eP6, TK⟩)
    skip))
    all_goals (first | (fail_if_success refine goB 4 ?_) | (
    refine goB 4 ?_
    all_goals (refine WC.sr ?_)
    all_goals (refine Go ?_)
    all_goals (refine WL.ld rfl (by first | exact cell_blk hb1 rfl | assumption | exact cell_blk (by assumption) rfl) rfl rfl rfl ?_)
    all_goals (refine Go ?_)
    all_goals (refine Gs [(0, _), (3, _), (18, _)] ?_)
    all_goals (refine goC 5 6 ?_ ?_ <;> first | exact ⟨⟩ | refine Hb.mk fun hb => ?_ | skip)
    all_goals (first | (fail_if_success refine goB 6 ?_) | (
    refine goB 6 ?_
    all_goals (refine WC.sr ?_)
    all_goals (refine Go ?_)
    all_goals (refine WL.step (ok_nilCheck rfl) rfl rfl rfl ?_)
    all_goals (refine Go ?_)
    all_goals (refine WL.ld rfl (by first | exact cell_blk hb rfl | assumption | exact cell_blk (by assumption) rfl) rfl rfl rfl ?_)
    all_goals (refine Go ?_)
    all_goals (refine Gs [(0, _), (3, _), (28, _)] ?_)
    all_goals (refine goC 7 8 ?_ ?_ <;> first | exact ⟨⟩ | refine Hb.mk fun hb => ?_ | skip)
    all_goals (first | (fail_if_success refine goB 7 ?_) | (
    refine goB 7 ?_
    all_goals (refine WC.sr ?_)
    all_goals (refine Go ?_)
    all_goals (refine Gt ?_)
    all_goals (exact ⟨⟨[] ++ [b6], OK, by simp [pb6]⟩, L2, P6, by show Ss h8 A (failP st1) (decide (fk ≠ 81)) ov1 cn1 L2 P6; rw [decide_eq_true e81]; exact kK, rfl, eP6, TK⟩)
    skip))
    all_goals (first | (fail_if_success refine goB 8 ?_) | (
    refine goB 8 ?_
    all_goals (refine WC.skip ?_)
    skip))
    skip))
    skip))
    all_goals (refine Gn ?_)
    all_goals (refine WC.sr ?_)
    all_goals (refine Go ?_)
    all_goals (refine WL.step (ok_loadN (fun w => Tryz.isAgg32 w) (fun w => Tryz.sizeOf32 w) rfl rfl (by exact At.of_block hb1)) rfl rfl rfl ?_)
    all_goals (refine WL.call (vs := [_, _]) rfl (fun a w => Tryz.call23 a w) rfl (kd _ hx1) rfl rfl rfl ?_
               rintro _ h2 ⟨u2, e2, rfl, v2, B2, c2, heq, O2, pB2, L2, P2, k2, eL2, eP2, t2⟩
               obtain ⟨q1, q2⟩ := tuple2 heq
               subst q1 q2
               dsimp only [erV] at pB2 k2 eL2 eP2 ⊢
               subst eL2
               subst eP2
               have hb12 := t2.1.obj hb1 (k1.not hb1 (by decide) (by decide) (by decide)))
    all_goals (refine Go ?_)
    all_goals (refine Gs [(0, _), (3, _), (5, _), (6, _)] ?_)
    all_goals (refine WC.sr ?_)
    all_goals (refine WL.stepR (okE_alloc (fun w => Tryz.zeroValue69 w)) rfl rfl rfl ?_
               rintro _ h3 ⟨b7, rfl, hg3, hb3, hx3⟩)
    all_goals (have hbK := hx3.obj hb12 nos
               have kK := k2.ext0 hx3
               have OK := (O2.mono hx1.size).ext0 hx3
               have TK := ((Tn.no (A := A) (P := P) hx1).trans t2).trans (Tn.no hx3))
    all_goals (refine Gn ?_)
    all_goals (refine WC.seq ?_)
    all_goals (refine WC.sr ?_)
    all_goals (refine Go ?_)
    all_goals (refine WL.step (ok_mkIface ⟨_, Tryz.underlying71, fun _ h => by cases h⟩ rfl) rfl rfl rfl ?_)
    all_goals (have er3 : Er h3 := ((er.ext0 hx1).ext t2.1 (fun e => h0 e)).ext0 hx3
               have hv := c2 (by simp)
               subst hv
               obtain rfl := O2.none_nil
               obtain rfl : out = [] := pB2.symm)
    all_goals (refine WL.call (vs := [_, _]) rfl (fun a w => Tryz.call24 a w) rfl (errAs_hit ec et er3 hb3) rfl rfl rfl ?_
               rintro _ h4 ⟨rfl, hb4, hx4⟩
               have X4 : Ext No h2 h4 := hx3.trans' hx4 (fun q hq e => by omega)
               have k4 := k2.ext0 X4
               have hb14 := X4.obj hb12 nos
               have nb7 : b7 ≠ A.bs := fun e => by have := lt_of_some k2.se.blk; omega)
    all_goals (refine Gn ?_)
    all_goals (refine goC 9 10 ?_ ?_ <;> first | exact ⟨⟩ | refine Hb.mk fun hb => ?_ | skip)
    all_goals (first | (fail_if_success refine goB 9 ?_) | (
    refine goB 9 ?_
    all_goals (refine WC.sr ?_)
    all_goals (refine Go ?_)
    all_goals (refine WL.ld rfl (by first | exact cell_blk hb14 rfl | assumption | exact cell_blk (by assumption) rfl) rfl rfl rfl ?_)
    all_goals (refine Go ?_)
    all_goals (refine WL.step (ok_nilCheck rfl) rfl rfl rfl ?_)
    all_goals (refine Go ?_)
    all_goals (refine WL.stepR0 (okE_store (fun w => Tryz.sizeOf4 w) rfl rfl k4.se.blk (Nat.le_of_ble_eq_true rfl) rfl rfl) rfl rfl ?_
               rintro _ h5 ⟨hb5, hx5⟩)
    all_goals (obtain ⟨k5, t5⟩ := k4.turnS hx5 hb5 k4.sto
               have hb15 := t5.1.obj hb14 (k4.not hb14 (by decide) (by decide) (by decide))
               have hb75 := hx5.obj hb4 nb7)
    all_goals (refine Gn ?_)
    all_goals (refine Gs [(0, _), (3, _), (5, _), (7, _)] ?_)
    all_goals (refine WC.region ?_)
    all_goals (refine Go ?_)
    all_goals (refine WL.step (ok_loadN (fun w => Tryz.isAgg69 w) (fun w => Tryz.sizeOf69 w) rfl rfl (by exact At.of_block hb75)) rfl rfl rfl ?_)
    all_goals (refine WL.call (vs := [_, _]) rfl (fun a w => Tryz.call25 a w) rfl (failed_v k5 ec et) rfl rfl rfl ?_
               rintro _ h6 ⟨⟨b6, rfl, okb6, pb6, fb6⟩, ⟨P6, sP6, k6, eP6, t6⟩, hx6⟩
               have hb16 := t6.1.obj hb15 (k5.not hb15 (by decide) (by decide) (by decide)))
    all_goals (refine WL.stepR (okE_buildSlice (vs := [_]) (cs := [_, _, _, _, _, _, _, _, _, _, _]) (fun | [.agg ⟨[a0, a1, a2, a3, a4, a5, a6, a7, a8, a9, a10]⟩] => [a0, a1, a2, a3, a4, a5, a6, a7, a8, a9, a10] | _ => []) Tryz.underlying33 rfl rfl (by kernel_rfl)) rfl rfl rfl ?_
               rintro _ h7 ⟨b8, rfl, hg7, hb7, hx7⟩)
    all_goals (refine WL.stepR (ok_append (sz := 11) (bytes := 168) rfl Tryz.underlying33 (show Tryz.prog.info? 42 = some Tryz.t42 by kernel_rfl) rfl rfl rfl rfl (by decide) rfl rfl (Own.nil _ _ 11) (rd_blk (len := 1) (sz := 11) hb7 rfl) okb6.one (by simp only [maxLen]; omega) (by omega)) rfl rfl rfl ?_
               rintro v8 h8 ⟨ho8, hx8, hl8⟩)
    all_goals (have X8 : Ext No h6 h8 := hx7.trans (hx8.mono fun _ _ e => by cases e)
               have hbK := X8.obj hb16 nos
               have kK := k6.ext0 X8
               have T4 := ((Tn.no (A := A) (P := P) hx1).trans t2).trans (Tn.no X4)
               have T5 := T4.trans t5
               have TK := (T5.trans t6).trans (Tn.no X8)
               have s5 := T5.1.size
               have s7 := hx7.size
               have s6 := t6.1.size
               have OK : Outs h h8 v8 ([] ++ [b6]) := (Outs.nil h h7).snoc (okb6.ext hx7 fun _ _ => nos) (fun z hz => by have := fb6 z hz; omega) (fun _ _ e => by cases e) (by omega) ho8 hx8 hl8)
    all_goals (refine Go ?_)
    skip))
    all_goals (first | (fail_if_success refine goB 10 ?_) | (
    refine goB 10 ?_
    all_goals (refine WC.skip ?_)
    skip))
    all_goals (refine Gn ?_)
    all_goals (refine WC.seq ?_)
    all_goals (refine WC.sr ?_)
    all_goals (refine Go ?_)
    all_goals (refine WL.ld rfl (by first | exact cell_blk hbK rfl | assumption | exact cell_blk (by assumption) rfl) rfl rfl rfl ?_)
    all_goals (refine Go ?_)
    all_goals (refine Gs [(0, _), (5, _), (56, _)] ?_)
    all_goals (refine goC 11 12 ?_ ?_ <;> first | exact ⟨⟩ | refine Hb.mk fun hb => ?_ | skip)
    all_goals (first | (fail_if_success refine goB 12 ?_) | (
    refine goB 12 ?_
    all_goals (refine WC.skip ?_)
    skip))
    all_goals (refine Gn ?_)
    all_goals (refine WC.sr ?_)
    all_goals (refine Go ?_)
    all_goals (refine Gs [(4, _)] ?_)
    all_goals (refine Gt ?_)
    all_goals (exact ⟨⟨[] ++ [b6], OK, by simp [pb6]⟩, L2, P6, by show Ss h8 A (failP st1) (decide (fk ≠ 81)) ov1 cn1 L2 P6; rw [decide_eq_true e81]; exact kK, rfl, eP6, TK⟩)
set_option maxHeartbeats 2000000 in
set_option maxRecDepth 100000 in
/-- A query. -/
theorem do_q (er : Er h) (h0 : ¬ Mu A P 0) (k : Ss h A st false false cnt L P) (f : Fm) (hf : f.ok h) (e81 : f.kind = 81) {r : SayP} (hlen : r.2.1.length ≤ 1000000)
    (kd : ∀ g, Ext No h g → CallsH Tryz.prog 23 ⟨[.pointer (some ⟨A.bs, 0, none⟩), .agg ⟨f.cells⟩]⟩ g (Two fun v e h' => DealtS g A L P r (.tuple ⟨[v, e]⟩) h')) :
    CallsH Tryz.prog 9 ⟨[.pointer (some ⟨A.bs, 0, none⟩), .agg ⟨f.cells⟩]⟩ h (Did h A P (restP f.p r)) := by
  have kr := fun (g : Heap) (k : Ss g A st false false cnt L P) => ready_yes k.se.blk
  have ks := fun (g : Heap) (st : Int) (sk ov : Bool) (cnt : Int) (L : List (List UInt8 × StD)) (P : List (List UInt8 × ItD)) (k : Ss g A st sk ov cnt L P) => syncD_s k
  obtain ⟨⟨e1, _⟩, ⟨e2, _⟩, ⟨e3, _⟩, e4, _⟩ := hf
  obtain ⟨fk, w, n, p, t, vo, o, vf, fs, vs, rs, vp, ps, mx⟩ := f
  dsimp only at e1 e2 e3 e4 e81
  obtain ⟨_, _, rfl, _⟩ := e1
  obtain ⟨_, _, rfl, _⟩ := e2
  obtain ⟨_, _, rfl, _⟩ := e3
  obtain ⟨_, _, rfl, _⟩ := e4
  subst e81
  unfold bkC at ks
  dsimp only [Fm.cells, Fm.p] at kd ⊢
  rcases r with ⟨⟨st1, sk1, ov1, cn1, LL1, PP1⟩, out, _ | ⟨ec, et⟩⟩
  · have hr : restP ⟨81, w, n, p, t, o, ps.map Cel.pl, mx⟩ (⟨st1, sk1, ov1, cn1, LL1, PP1⟩, out, none) = (⟨st1, sk1, ov1, cn1, LL1, if st1 = 73 then [] else PP1⟩, out ++ [{ kind := 90, status := st1 }]) := rfl
    rw [hr]
    clear hr
    refine calls [(0, _), (1, _)] Tryz.func9 rfl Tryz.ntmps9 rfl ⟨rfl, rfl, trivial⟩ ?_
    all_goals (refine WC.sr ?_)
    all_goals (refine WL.stepR (okE_box rfl) rfl rfl rfl ?_
               rintro _ h1 ⟨b3, rfl, hg1, hb1, hx1⟩)
    all_goals (have k1 := k.ext0 hx1
               have hb := k1.se.blk
               have lb := lt_of_some k.se.blk
               have n3 : ¬ b3 = A.bs := by omega)
    all_goals (refine Go ?_)
    all_goals (refine WC.seq ?_)
    all_goals (refine WC.sr ?_)
    all_goals (refine Go ?_)
    all_goals (refine WL.call (vs := [_]) rfl (fun a w => Tryz.call21 a w) rfl (kr _ k1) rfl rfl rfl ?_
               rintro _ hz ⟨rfl, _⟩
               subst hz)
    all_goals (refine Go ?_)
    all_goals (refine Gs [(0, _), (3, _), (10, _)] ?_)
    all_goals (refine goC 1 2 ?_ ?_ <;> first | exact ⟨⟩ | refine Hb.mk fun hb => ?_ | skip)
    all_goals (first | (fail_if_success refine goB 1 ?_) | (
    refine goB 1 ?_
    all_goals (refine WC.sr ?_)
    all_goals (refine Go ?_)
    all_goals (refine Gt ?_)
    all_goals (have X11 : Ext No h10 h10 := .refl _ _
               have k11 := k.extN k10 sL2 (fun q hq => sP2 q (sP9 q hq)) hx11 (fun q hq => O10.vf q hq)
               exact ⟨⟨B2 ++ [bk0 90 st1 []], O11, by rw [List.map_append, pB2]; rfl⟩, L2, P9, k11, rfl, eP9, T10.1.trans' hx11 (fun q hq e => by have := O10.vf q e; omega), T10.2⟩)
    skip))
    all_goals (first | (fail_if_success refine goB 2 ?_) | (
    refine goB 2 ?_
    all_goals (refine WC.skip ?_)
    skip))
    all_goals (refine Gn ?_)
    all_goals (refine WC.seq ?_)
    all_goals (refine WC.block ?_)
    all_goals (refine WC.sr ?_)
    all_goals (refine Go ?_)
    all_goals (refine WL.ld rfl (by first | exact cell_blk hb1 rfl | assumption | exact cell_blk (by assumption) rfl) rfl rfl rfl ?_)
    all_goals (refine Go ?_)
    all_goals (refine Gs [(0, _), (3, _), (11, _)] ?_)
    all_goals (refine goC 3 4 ?_ ?_ <;> first | exact ⟨⟩ | refine Hb.mk fun hb => ?_ | skip)
    all_goals (first | (fail_if_success refine goB 3 ?_) | (
    refine goB 3 ?_
    all_goals (refine WC.sr ?_)
    all_goals (refine Go ?_)
    all_goals (refine WL.step (ok_nilCheck rfl) rfl rfl rfl ?_)
    all_goals (refine Go ?_)
    all_goals (refine WL.stepR0 (okE_store (fun w => Tryz.sizeOf4 w) rfl rfl (by assumption) (Nat.le_of_ble_eq_true rfl) rfl rfl) rfl rfl ?_
               rintro _ h1 ⟨hb1, hx1⟩)
    all_goals (refine Gn ?_)
    all_goals (refine Gs [] ?_)
    all_goals (refine WC.sr ?_)
    all_goals (refine Go ?_)
    all_goals (refine Gt ?_)
    all_goals (have X11 : Ext No h10 h10 := .refl _ _
               have k11 := k.extN k10 sL2 (fun q hq => sP2 q (sP9 q hq)) hx11 (fun q hq => O10.vf q hq)
               exact ⟨⟨B2 ++ [bk0 90 st1 []], O11, by rw [List.map_append, pB2]; rfl⟩, L2, P9, k11, rfl, eP9, T10.1.trans' hx11 (fun q hq e => by have := O10.vf q e; omega), T10.2⟩)
    skip))
    all_goals (first | (fail_if_success refine goB 4 ?_) | (
    refine goB 4 ?_
    all_goals (refine WC.sr ?_)
    all_goals (refine Go ?_)
    all_goals (refine WL.ld rfl (by first | exact cell_blk hb1 rfl | assumption | exact cell_blk (by assumption) rfl) rfl rfl rfl ?_)
    all_goals (refine Go ?_)
    all_goals (refine Gs [(0, _), (3, _), (18, _)] ?_)
    all_goals (refine goC 5 6 ?_ ?_ <;> first | exact ⟨⟩ | refine Hb.mk fun hb => ?_ | skip)
    all_goals (first | (fail_if_success refine goB 6 ?_) | (
    refine goB 6 ?_
    all_goals (refine WC.sr ?_)
    all_goals (refine Go ?_)
    all_goals (refine WL.step (ok_nilCheck rfl) rfl rfl rfl ?_)
    all_goals (refine Go ?_)
    all_goals (refine WL.ld rfl (by first | exact cell_blk hb rfl | assumption | exact cell_blk (by assumption) rfl) rfl rfl rfl ?_)
    all_goals (refine Go ?_)
    all_goals (refine Gs [(0, _), (3, _), (28, _)] ?_)
    all_goals (refine goC 7 8 ?_ ?_ <;> first | exact ⟨⟩ | refine Hb.mk fun hb => ?_ | skip)
    all_goals (first | (fail_if_success refine goB 7 ?_) | (
    refine goB 7 ?_
    all_goals (refine WC.sr ?_)
    all_goals (refine Go ?_)
    all_goals (refine Gt ?_)
    all_goals (have X11 : Ext No h10 h10 := .refl _ _
               have k11 := k.extN k10 sL2 (fun q hq => sP2 q (sP9 q hq)) hx11 (fun q hq => O10.vf q hq)
               exact ⟨⟨B2 ++ [bk0 90 st1 []], O11, by rw [List.map_append, pB2]; rfl⟩, L2, P9, k11, rfl, eP9, T10.1.trans' hx11 (fun q hq e => by have := O10.vf q e; omega), T10.2⟩)
    skip))
    all_goals (first | (fail_if_success refine goB 8 ?_) | (
    refine goB 8 ?_
    all_goals (refine WC.skip ?_)
    skip))
    skip))
    skip))
    all_goals (refine Gn ?_)
    all_goals (refine WC.sr ?_)
    all_goals (refine Go ?_)
    all_goals (refine WL.step (ok_loadN (fun w => Tryz.isAgg32 w) (fun w => Tryz.sizeOf32 w) rfl rfl (by exact At.of_block hb1)) rfl rfl rfl ?_)
    all_goals (refine WL.call (vs := [_, _]) rfl (fun a w => Tryz.call23 a w) rfl (kd _ hx1) rfl rfl rfl ?_
               rintro _ h2 ⟨u2, e2, rfl, v2, B2, c2, heq, O2, pB2, L2, P2, sL2, sP2, k2, eL2, eP2, t2⟩
               obtain ⟨q1, q2⟩ := tuple2 heq
               subst q1 q2
               dsimp only [erV] at pB2 k2 eL2 eP2 ⊢
               subst eL2
               subst eP2
               have hb12 := t2.1.obj hb1 (k1.not hb1 (by decide) (by decide) (by decide)))
    all_goals (refine Go ?_)
    all_goals (refine Gs [(0, _), (3, _), (5, _), (6, _)] ?_)
    all_goals (refine WC.sr ?_)
    all_goals (refine WL.stepR (okE_alloc (fun w => Tryz.zeroValue69 w)) rfl rfl rfl ?_
               rintro _ h3 ⟨b7, rfl, hg3, hb3, hx3⟩)
    all_goals (have hbK := hx3.obj hb12 nos
               have kK := k2.ext0 hx3
               have OK := (O2.mono hx1.size).ext0 hx3
               have TK := ((Tn.no (A := A) (P := P) hx1).trans t2).trans (Tn.no hx3))
    all_goals (refine Gn ?_)
    all_goals (refine WC.seq ?_)
    all_goals (refine WC.sr ?_)
    all_goals (refine Go ?_)
    all_goals (refine WL.step (ok_mkIface ⟨_, Tryz.underlying71, fun _ h => by cases h⟩ rfl) rfl rfl rfl ?_)
    all_goals (have hlB : B2.length ≤ 1000000 := by rw [← pB2, List.length_map] at hlen; exact hlen
               replace hlen := hlB)
    all_goals (refine WL.call (vs := [_, _]) rfl (fun a w => Tryz.call24 a w) rfl (as_none _) rfl rfl rfl ?_
               rintro _ hz ⟨rfl, _⟩
               subst hz)
    all_goals (refine Gn ?_)
    all_goals (refine goC 9 10 ?_ ?_ <;> first | exact ⟨⟩ | refine Hb.mk fun hb => ?_ | skip)
    all_goals (first | (fail_if_success refine goB 10 ?_) | (
    refine goB 10 ?_
    all_goals (refine WC.skip ?_)
    skip))
    all_goals (refine Gn ?_)
    all_goals (refine WC.seq ?_)
    all_goals (refine WC.sr ?_)
    all_goals (refine Go ?_)
    all_goals (refine WL.ld rfl (by first | exact cell_blk hbK rfl | assumption | exact cell_blk (by assumption) rfl) rfl rfl rfl ?_)
    all_goals (refine Go ?_)
    all_goals (refine Gs [(0, _), (5, _), (56, _)] ?_)
    all_goals (refine goC 11 12 ?_ ?_ <;> first | exact ⟨⟩ | refine Hb.mk fun hb => ?_ | skip)
    all_goals (first | (fail_if_success refine goB 11 ?_) | (
    refine goB 11 ?_
    all_goals (refine WC.region ?_)
    all_goals (refine Go ?_)
    all_goals (refine WL.call (vs := [_]) rfl (fun a w => Tryz.call22 a w) rfl (ks _ _ _ _ _ _ _ kK) rfl rfl rfl ?_
               rintro _ h9 ⟨rfl, ⟨P9, sP9, k9, eP9, t9⟩, hx9⟩
               have O9 := OK.ext hx9 (fun q hq => by subst hq; exact k.se.pm.lt))
    all_goals (refine WL.stepR (okE_buildSlice (vs := [_]) (cs := [_, _, _, _, _, _, _, _, _, _, _]) (fun | [.agg ⟨[a0, a1, a2, a3, a4, a5, a6, a7, a8, a9, a10]⟩] => [a0, a1, a2, a3, a4, a5, a6, a7, a8, a9, a10] | _ => []) Tryz.underlying33 rfl rfl (by kernel_rfl)) rfl rfl rfl ?_
               rintro _ h10 ⟨b10, rfl, hg10, hb10, hx10⟩)
    all_goals (have O10 := O9.ext0 hx10
               have k10 := k9.ext0 hx10
               have T10 := (TK.trans t9).trans (Tn.no (A := A) (P := P9) hx10)
               obtain ⟨A10, c10, rfl, _⟩ := O10.own.slice)
    all_goals (refine WL.stepR (ok_append (sz := 11) (bytes := 168) rfl Tryz.underlying33 (show Tryz.prog.info? 42 = some Tryz.t42 by kernel_rfl) rfl rfl rfl rfl (by decide) rfl rfl O10.own (rd_blk (len := 1) (sz := 11) hb10 rfl) (by simp [Value.oneCell']) (by have := hlen; simp only [maxLen, List.length_append, List.length_singleton, List.nil_append] at *; omega) (by have := hlen; simp only [List.length_append, List.length_singleton, List.nil_append] at *; omega)) rfl rfl rfl ?_
               rintro v11 h11 ⟨ho11, hx11, hl11⟩)
    all_goals (have O11 := O10.snoc (b := bk0 90 st1 []) (bk0_ok _ _ _ _) (fun _ e => (bk0_F e).elim) (fun _ e => (bk0_F e).elim) T10.1.size ho11 hx11 hl11)
    all_goals (refine Go ?_)
    skip))
    all_goals (first | (fail_if_success refine goB 12 ?_) | (
    refine goB 12 ?_
    all_goals (refine WC.skip ?_)
    skip))
    all_goals (refine Gn ?_)
    all_goals (refine WC.sr ?_)
    all_goals (refine Go ?_)
    all_goals (refine Gs [(4, _)] ?_)
    all_goals (refine Gt ?_)
    all_goals (have X11 : Ext No h10 h10 := .refl _ _
               have k11 := k.extN k10 sL2 (fun q hq => sP2 q (sP9 q hq)) hx11 (fun q hq => O10.vf q hq)
               exact ⟨⟨B2 ++ [bk0 90 st1 []], O11, by rw [List.map_append, pB2]; rfl⟩, L2, P9, k11, rfl, eP9, T10.1.trans' hx11 (fun q hq e => by have := O10.vf q e; omega), T10.2⟩)
  · have hr : restP ⟨81, w, n, p, t, o, ps.map Cel.pl, mx⟩ (⟨st1, sk1, ov1, cn1, LL1, PP1⟩, out, some (ec, et)) = (⟨failP st1, false, ov1, cn1, LL1, if failP st1 = 73 then [] else (if failP st1 = 69 then [] else PP1)⟩, (out ++ [errP ec et]) ++ [{ kind := 90, status := failP st1 }]) := rfl
    rw [hr]
    clear hr
    refine calls [(0, _), (1, _)] Tryz.func9 rfl Tryz.ntmps9 rfl ⟨rfl, rfl, trivial⟩ ?_
    all_goals (refine WC.sr ?_)
    all_goals (refine WL.stepR (okE_box rfl) rfl rfl rfl ?_
               rintro _ h1 ⟨b3, rfl, hg1, hb1, hx1⟩)
    all_goals (have k1 := k.ext0 hx1
               have hb := k1.se.blk
               have lb := lt_of_some k.se.blk
               have n3 : ¬ b3 = A.bs := by omega)
    all_goals (refine Go ?_)
    all_goals (refine WC.seq ?_)
    all_goals (refine WC.sr ?_)
    all_goals (refine Go ?_)
    all_goals (refine WL.call (vs := [_]) rfl (fun a w => Tryz.call21 a w) rfl (kr _ k1) rfl rfl rfl ?_
               rintro _ hz ⟨rfl, _⟩
               subst hz)
    all_goals (refine Go ?_)
    all_goals (refine Gs [(0, _), (3, _), (10, _)] ?_)
    all_goals (refine goC 1 2 ?_ ?_ <;> first | exact ⟨⟩ | refine Hb.mk fun hb => ?_ | skip)
    all_goals (first | (fail_if_success refine goB 1 ?_) | (
    refine goB 1 ?_
    all_goals (refine WC.sr ?_)
    all_goals (refine Go ?_)
    all_goals (refine Gt ?_)
    all_goals (have k11 := k.extN k10 sL2 (fun q hq => sP2 q (sP6 q (sP9 q hq))) hx11 (fun q hq => O10.vf q hq)
               exact ⟨⟨([] ++ [b6]) ++ [bk0 90 (failP st1) []], O11, by rw [List.map_append, List.map_append, List.map_nil, List.map_singleton, pb6]; rfl⟩, L2, P9, k11, rfl, by rw [eP9, eP6], T10.1.trans' hx11 (fun q hq e => by have := O10.vf q e; omega), T10.2⟩)
    skip))
    all_goals (first | (fail_if_success refine goB 2 ?_) | (
    refine goB 2 ?_
    all_goals (refine WC.skip ?_)
    skip))
    all_goals (refine Gn ?_)
    all_goals (refine WC.seq ?_)
    all_goals (refine WC.block ?_)
    all_goals (refine WC.sr ?_)
    all_goals (refine Go ?_)
    all_goals (refine WL.ld rfl (by first | exact cell_blk hb1 rfl | assumption | exact cell_blk (by assumption) rfl) rfl rfl rfl ?_)
    all_goals (refine Go ?_)
    all_goals (refine Gs [(0, _), (3, _), (11, _)] ?_)
    all_goals (refine goC 3 4 ?_ ?_ <;> first | exact ⟨⟩ | refine Hb.mk fun hb => ?_ | skip)
    all_goals (first | (fail_if_success refine goB 3 ?_) | (
    refine goB 3 ?_
    all_goals (refine WC.sr ?_)
    all_goals (refine Go ?_)
    all_goals (refine WL.step (ok_nilCheck rfl) rfl rfl rfl ?_)
    all_goals (refine Go ?_)
    all_goals (refine WL.stepR0 (okE_store (fun w => Tryz.sizeOf4 w) rfl rfl (by assumption) (Nat.le_of_ble_eq_true rfl) rfl rfl) rfl rfl ?_
               rintro _ h1 ⟨hb1, hx1⟩)
    all_goals (refine Gn ?_)
    all_goals (refine Gs [] ?_)
    all_goals (refine WC.sr ?_)
    all_goals (refine Go ?_)
    all_goals (refine Gt ?_)
    all_goals (have k11 := k.extN k10 sL2 (fun q hq => sP2 q (sP6 q (sP9 q hq))) hx11 (fun q hq => O10.vf q hq)
               exact ⟨⟨([] ++ [b6]) ++ [bk0 90 (failP st1) []], O11, by rw [List.map_append, List.map_append, List.map_nil, List.map_singleton, pb6]; rfl⟩, L2, P9, k11, rfl, by rw [eP9, eP6], T10.1.trans' hx11 (fun q hq e => by have := O10.vf q e; omega), T10.2⟩)
    skip))
    all_goals (first | (fail_if_success refine goB 4 ?_) | (
    refine goB 4 ?_
    all_goals (refine WC.sr ?_)
    all_goals (refine Go ?_)
    all_goals (refine WL.ld rfl (by first | exact cell_blk hb1 rfl | assumption | exact cell_blk (by assumption) rfl) rfl rfl rfl ?_)
    all_goals (refine Go ?_)
    all_goals (refine Gs [(0, _), (3, _), (18, _)] ?_)
    all_goals (refine goC 5 6 ?_ ?_ <;> first | exact ⟨⟩ | refine Hb.mk fun hb => ?_ | skip)
    all_goals (first | (fail_if_success refine goB 6 ?_) | (
    refine goB 6 ?_
    all_goals (refine WC.sr ?_)
    all_goals (refine Go ?_)
    all_goals (refine WL.step (ok_nilCheck rfl) rfl rfl rfl ?_)
    all_goals (refine Go ?_)
    all_goals (refine WL.ld rfl (by first | exact cell_blk hb rfl | assumption | exact cell_blk (by assumption) rfl) rfl rfl rfl ?_)
    all_goals (refine Go ?_)
    all_goals (refine Gs [(0, _), (3, _), (28, _)] ?_)
    all_goals (refine goC 7 8 ?_ ?_ <;> first | exact ⟨⟩ | refine Hb.mk fun hb => ?_ | skip)
    all_goals (first | (fail_if_success refine goB 7 ?_) | (
    refine goB 7 ?_
    all_goals (refine WC.sr ?_)
    all_goals (refine Go ?_)
    all_goals (refine Gt ?_)
    all_goals (have k11 := k.extN k10 sL2 (fun q hq => sP2 q (sP6 q (sP9 q hq))) hx11 (fun q hq => O10.vf q hq)
               exact ⟨⟨([] ++ [b6]) ++ [bk0 90 (failP st1) []], O11, by rw [List.map_append, List.map_append, List.map_nil, List.map_singleton, pb6]; rfl⟩, L2, P9, k11, rfl, by rw [eP9, eP6], T10.1.trans' hx11 (fun q hq e => by have := O10.vf q e; omega), T10.2⟩)
    skip))
    all_goals (first | (fail_if_success refine goB 8 ?_) | (
    refine goB 8 ?_
    all_goals (refine WC.skip ?_)
    skip))
    skip))
    skip))
    all_goals (refine Gn ?_)
    all_goals (refine WC.sr ?_)
    all_goals (refine Go ?_)
    all_goals (refine WL.step (ok_loadN (fun w => Tryz.isAgg32 w) (fun w => Tryz.sizeOf32 w) rfl rfl (by exact At.of_block hb1)) rfl rfl rfl ?_)
    all_goals (refine WL.call (vs := [_, _]) rfl (fun a w => Tryz.call23 a w) rfl (kd _ hx1) rfl rfl rfl ?_
               rintro _ h2 ⟨u2, e2, rfl, v2, B2, c2, heq, O2, pB2, L2, P2, sL2, sP2, k2, eL2, eP2, t2⟩
               obtain ⟨q1, q2⟩ := tuple2 heq
               subst q1 q2
               dsimp only [erV] at pB2 k2 eL2 eP2 ⊢
               subst eL2
               subst eP2
               have hb12 := t2.1.obj hb1 (k1.not hb1 (by decide) (by decide) (by decide)))
    all_goals (refine Go ?_)
    all_goals (refine Gs [(0, _), (3, _), (5, _), (6, _)] ?_)
    all_goals (refine WC.sr ?_)
    all_goals (refine WL.stepR (okE_alloc (fun w => Tryz.zeroValue69 w)) rfl rfl rfl ?_
               rintro _ h3 ⟨b7, rfl, hg3, hb3, hx3⟩)
    all_goals (have hbK := hx3.obj hb12 nos
               have kK := k2.ext0 hx3
               have OK := (O2.mono hx1.size).ext0 hx3
               have TK := ((Tn.no (A := A) (P := P) hx1).trans t2).trans (Tn.no hx3))
    all_goals (refine Gn ?_)
    all_goals (refine WC.seq ?_)
    all_goals (refine WC.sr ?_)
    all_goals (refine Go ?_)
    all_goals (refine WL.step (ok_mkIface ⟨_, Tryz.underlying71, fun _ h => by cases h⟩ rfl) rfl rfl rfl ?_)
    all_goals (have er3 : Er h3 := ((er.ext0 hx1).ext t2.1 (fun e => h0 e)).ext0 hx3
               have hv := c2 (by simp)
               subst hv
               obtain rfl := O2.none_nil
               obtain rfl : out = [] := pB2.symm)
    all_goals (refine WL.call (vs := [_, _]) rfl (fun a w => Tryz.call24 a w) rfl (errAs_hit ec et er3 hb3) rfl rfl rfl ?_
               rintro _ h4 ⟨rfl, hb4, hx4⟩
               have X4 : Ext No h2 h4 := hx3.trans' hx4 (fun q hq e => by omega)
               have k4 := k2.ext0 X4
               have hb14 := X4.obj hb12 nos
               have nb7 : b7 ≠ A.bs := fun e => by have := lt_of_some k2.se.blk; omega)
    all_goals (refine Gn ?_)
    all_goals (refine goC 9 10 ?_ ?_ <;> first | exact ⟨⟩ | refine Hb.mk fun hb => ?_ | skip)
    all_goals (first | (fail_if_success refine goB 9 ?_) | (
    refine goB 9 ?_
    all_goals (refine WC.sr ?_)
    all_goals (refine Go ?_)
    all_goals (refine WL.ld rfl (by first | exact cell_blk hb14 rfl | assumption | exact cell_blk (by assumption) rfl) rfl rfl rfl ?_)
    all_goals (refine Go ?_)
    all_goals (refine WL.step (ok_nilCheck rfl) rfl rfl rfl ?_)
    all_goals (refine Go ?_)
    all_goals (refine WL.stepR0 (okE_store (fun w => Tryz.sizeOf4 w) rfl rfl k4.se.blk (Nat.le_of_ble_eq_true rfl) rfl rfl) rfl rfl ?_
               rintro _ h5 ⟨hb5, hx5⟩)
    all_goals (obtain ⟨k5, t5⟩ := k4.turnS hx5 hb5 k4.sto
               have hb15 := t5.1.obj hb14 (k4.not hb14 (by decide) (by decide) (by decide))
               have hb75 := hx5.obj hb4 nb7)
    all_goals (refine Gn ?_)
    all_goals (refine Gs [(0, _), (3, _), (5, _), (7, _)] ?_)
    all_goals (refine WC.region ?_)
    all_goals (refine Go ?_)
    all_goals (refine WL.step (ok_loadN (fun w => Tryz.isAgg69 w) (fun w => Tryz.sizeOf69 w) rfl rfl (by exact At.of_block hb75)) rfl rfl rfl ?_)
    all_goals (refine WL.call (vs := [_, _]) rfl (fun a w => Tryz.call25 a w) rfl (failed_v k5 ec et) rfl rfl rfl ?_
               rintro _ h6 ⟨⟨b6, rfl, okb6, pb6, fb6⟩, ⟨P6, sP6, k6, eP6, t6⟩, hx6⟩
               have hb16 := t6.1.obj hb15 (k5.not hb15 (by decide) (by decide) (by decide)))
    all_goals (refine WL.stepR (okE_buildSlice (vs := [_]) (cs := [_, _, _, _, _, _, _, _, _, _, _]) (fun | [.agg ⟨[a0, a1, a2, a3, a4, a5, a6, a7, a8, a9, a10]⟩] => [a0, a1, a2, a3, a4, a5, a6, a7, a8, a9, a10] | _ => []) Tryz.underlying33 rfl rfl (by kernel_rfl)) rfl rfl rfl ?_
               rintro _ h7 ⟨b8, rfl, hg7, hb7, hx7⟩)
    all_goals (refine WL.stepR (ok_append (sz := 11) (bytes := 168) rfl Tryz.underlying33 (show Tryz.prog.info? 42 = some Tryz.t42 by kernel_rfl) rfl rfl rfl rfl (by decide) rfl rfl (Own.nil _ _ 11) (rd_blk (len := 1) (sz := 11) hb7 rfl) okb6.one (by simp only [maxLen]; omega) (by omega)) rfl rfl rfl ?_
               rintro v8 h8 ⟨ho8, hx8, hl8⟩)
    all_goals (have X8 : Ext No h6 h8 := hx7.trans (hx8.mono fun _ _ e => by cases e)
               have hbK := X8.obj hb16 nos
               have kK := k6.ext0 X8
               have T4 := ((Tn.no (A := A) (P := P) hx1).trans t2).trans (Tn.no X4)
               have T5 := T4.trans t5
               have TK := (T5.trans t6).trans (Tn.no X8)
               have s5 := T5.1.size
               have s7 := hx7.size
               have s6 := t6.1.size
               have OK : Outs h h8 v8 ([] ++ [b6]) := (Outs.nil h h7).snoc (okb6.ext hx7 fun _ _ => nos) (fun z hz => by have := fb6 z hz; omega) (fun _ _ e => by cases e) (by omega) ho8 hx8 hl8)
    all_goals (refine Go ?_)
    skip))
    all_goals (first | (fail_if_success refine goB 10 ?_) | (
    refine goB 10 ?_
    all_goals (refine WC.skip ?_)
    skip))
    all_goals (refine Gn ?_)
    all_goals (refine WC.seq ?_)
    all_goals (refine WC.sr ?_)
    all_goals (refine Go ?_)
    all_goals (refine WL.ld rfl (by first | exact cell_blk hbK rfl | assumption | exact cell_blk (by assumption) rfl) rfl rfl rfl ?_)
    all_goals (refine Go ?_)
    all_goals (refine Gs [(0, _), (5, _), (56, _)] ?_)
    all_goals (refine goC 11 12 ?_ ?_ <;> first | exact ⟨⟩ | refine Hb.mk fun hb => ?_ | skip)
    all_goals (first | (fail_if_success refine goB 11 ?_) | (
    refine goB 11 ?_
    all_goals (refine WC.region ?_)
    all_goals (refine Go ?_)
    all_goals (refine WL.call (vs := [_]) rfl (fun a w => Tryz.call22 a w) rfl (ks _ _ _ _ _ _ _ kK) rfl rfl rfl ?_
               rintro _ h9 ⟨rfl, ⟨P9, sP9, k9, eP9, t9⟩, hx9⟩
               have O9 := OK.ext hx9 (fun q hq => by subst hq; exact k.se.pm.lt))
    all_goals (refine WL.stepR (okE_buildSlice (vs := [_]) (cs := [_, _, _, _, _, _, _, _, _, _, _]) (fun | [.agg ⟨[a0, a1, a2, a3, a4, a5, a6, a7, a8, a9, a10]⟩] => [a0, a1, a2, a3, a4, a5, a6, a7, a8, a9, a10] | _ => []) Tryz.underlying33 rfl rfl (by kernel_rfl)) rfl rfl rfl ?_
               rintro _ h10 ⟨b10, rfl, hg10, hb10, hx10⟩)
    all_goals (have O10 := O9.ext0 hx10
               have k10 := k9.ext0 hx10
               have T10 := (TK.trans t9).trans (Tn.no (A := A) (P := P9) hx10)
               obtain ⟨A10, c10, rfl, _⟩ := O10.own.slice)
    all_goals (refine WL.stepR (ok_append (sz := 11) (bytes := 168) rfl Tryz.underlying33 (show Tryz.prog.info? 42 = some Tryz.t42 by kernel_rfl) rfl rfl rfl rfl (by decide) rfl rfl O10.own (rd_blk (len := 1) (sz := 11) hb10 rfl) (by simp [Value.oneCell']) (by have := hlen; simp only [maxLen, List.length_append, List.length_singleton, List.nil_append] at *; omega) (by have := hlen; simp only [List.length_append, List.length_singleton, List.nil_append] at *; omega)) rfl rfl rfl ?_
               rintro v11 h11 ⟨ho11, hx11, hl11⟩)
    all_goals (have O11 := O10.snoc (b := bk0 90 (failP st1) []) (bk0_ok _ _ _ _) (fun _ e => (bk0_F e).elim) (fun _ e => (bk0_F e).elim) T10.1.size ho11 hx11 hl11)
    all_goals (refine Go ?_)
    skip))
    all_goals (first | (fail_if_success refine goB 12 ?_) | (
    refine goB 12 ?_
    all_goals (refine WC.skip ?_)
    skip))
    all_goals (refine Gn ?_)
    all_goals (refine WC.sr ?_)
    all_goals (refine Go ?_)
    all_goals (refine Gs [(4, _)] ?_)
    all_goals (refine Gt ?_)
    all_goals (have k11 := k.extN k10 sL2 (fun q hq => sP2 q (sP6 q (sP9 q hq))) hx11 (fun q hq => O10.vf q hq)
               exact ⟨⟨([] ++ [b6]) ++ [bk0 90 (failP st1) []], O11, by rw [List.map_append, List.map_append, List.map_nil, List.map_singleton, pb6]; rfl⟩, L2, P9, k11, rfl, by rw [eP9, eP6], T10.1.trans' hx11 (fun q hq e => by have := O10.vf q e; omega), T10.2⟩)
end
end Go.Proofs.YtbokngiajfdanaaGreatDoor


/-
  SESSIONS (layer 30), in plain Lean: what stays bounded, whatever is said; a session that skips.
-/
namespace Go.Proofs.YtbokngiajfdanaaGreatDoor
open Go Go.RK

structure FmpLim (f : FmP) : Prop where
  t : f.text.length ≤ 100000
  o : f.oids.length ≤ 20000
  m : f.params.length ≤ 100000
/-- A session behind n messages. -/
structure Lim (n : Nat) (s : SP) : Prop where
  l : ∀ q ∈ s.L, q.2.1.length ≤ 100000 ∧ q.2.2.length ≤ 20000
  p : ∀ q ∈ s.P, q.2.1.length ≤ 100000 ∧ q.2.2.1.length ≤ 20000 ∧ q.2.2.2.1.length ≤ 100000 ∧ RsLim q.2.2.2.2.1
  c : 0 ≤ s.cnt ∧ s.cnt ≤ n
  k : s.L.length ≤ n
theorem Lim.limP {n : Nat} {s : SP} (k : Lim n s) (hn : n < 1000000) : LimP s := ⟨fun q hq => (k.l q hq).1, fun q hq => k.p q hq, by have := k.c; omega⟩
theorem Lim.mono {n m : Nat} {s : SP} (k : Lim n s) (h : n ≤ m) : Lim m s := ⟨k.l, k.p, by have := k.c; omega, by have := k.k; omega⟩
theorem len_delK {κ α : Type} [DecidableEq κ] (E : List (κ × α)) (n : κ) : (delK E n).length ≤ E.length := by unfold delK; exact List.length_filter_le _ _
theorem len_putK {κ α : Type} [DecidableEq κ] (E : List (κ × α)) (n : κ) (v : α) : (putK E n v).length ≤ E.length + 1 := by
  unfold putK
  split
  · rw [List.length_map]; omega
  · simp
section
variable {n : Nat} {s : SP}
theorem Lim.delL (k : Lim n s) (x : List UInt8) : Lim n { s with L := delK s.L x } := ⟨fun q hq => k.l q (mem_delK hq).1, k.p, k.c, Nat.le_trans (len_delK _ _) k.k⟩
theorem Lim.delP (k : Lim n s) (x : List UInt8) : Lim n { s with P := delK s.P x } := ⟨k.l, fun q hq => k.p q (mem_delK hq).1, k.c, k.k⟩
theorem Lim.putL (k : Lim n s) (x : List UInt8) (v : StP) (h1 : v.1.length ≤ 100000) (h2 : v.2.length ≤ 20000) : Lim (n + 1) { s with L := putK s.L x v } :=
  ⟨fun q hq => by
    rcases mem_putK hq with rfl | ⟨hq, _⟩
    · exact ⟨h1, h2⟩
    · exact k.l q hq, k.p, ⟨k.c.1, by have := k.c; show s.cnt ≤ _; omega⟩, Nat.le_trans (len_putK _ _ _) (by have := k.k; omega)⟩
theorem Lim.putP (k : Lim n s) (x : List UInt8) (v : PdP) (h : v.1.length ≤ 100000 ∧ v.2.1.length ≤ 20000 ∧ v.2.2.1.length ≤ 100000 ∧ RsLim v.2.2.2.1) : Lim n { s with P := putK s.P x v } :=
  ⟨k.l, fun q hq => by
    rcases mem_putK hq with rfl | ⟨hq, _⟩
    · exact h
    · exact k.p q hq, k.c, k.k⟩
/-- The status, and whether it skips or is over, don't matter. -/
theorem Lim.of (k : Lim n s) {s' : SP} (h1 : s'.L = s.L) (h2 : s'.P = s.P ∨ s'.P = []) (h3 : s'.cnt = s.cnt) : Lim n s' :=
  ⟨h1 ▸ k.l, by rcases h2 with e | e <;> rw [e]; exact k.p; exact (fun _ h => nomatch h), h3 ▸ k.c, h1 ▸ k.k⟩
theorem getK_mem' {κ α : Type} [DecidableEq κ] {E : List (κ × α)} {n : κ} {v : α} (h : getK E n = some v) : (n, v) ∈ E := getK_mem h
theorem rsLim_nil : RsLim [] := ⟨Nat.zero_le _, (fun _ h => nomatch h)⟩
theorem engP_cnt (v : VeD) (ps : List CelP) (c : Int) : c ≤ (engP v ps c).2 ∧ (engP v ps c).2 ≤ c + 1 := by
  unfold engP
  split
  · exact ⟨Int.le_refl _, by dsimp only; omega⟩
  · split
    · exact ⟨Int.le_refl _, by dsimp only; omega⟩
    · split
      · exact ⟨by dsimp only; omega, Int.le_refl _⟩
      · exact ⟨Int.le_refl _, by dsimp only; omega⟩
theorem fetP_rest {rs : List (List CelP)} (ov : Bool) (m : Int) (h : RsLim rs) : RsLim (fetP rs ov m).2.1 := by
  unfold fetP
  split
  · exact h
  · exact ⟨by simp only [List.length_drop]; have := h.1; omega, fun r hr => h.2 r (List.mem_of_mem_drop hr)⟩
theorem parseP_lim (k : Lim n s) (f : FmP) (ff : FmpLim f) : Lim (n + 1) (parseP s f).1 := by
  have k1 : Lim n (if f.name = [] then { s with L := delK s.L [] } else s) := by
    split
    · exact k.delL _
    · exact k
  unfold parseP
  dsimp only
  generalize (if f.name = [] then { s with L := delK s.L [] } else s) = s1 at k1 ⊢
  split
  · exact k1.mono (by omega)
  · split
    · exact k1.mono (by omega)
    · exact k1.putL _ _ ff.t ff.o
theorem bindP_lim (k : Lim n s) (f : FmP) (ff : FmpLim f) : Lim (n + 1) (bindP s f).1 := by
  unfold bindP
  split
  · exact k.mono (by omega)
  · split
    · exact k.mono (by omega)
    · rename_i t ht
      have hm := k.l _ (getK_mem' ht)
      split
      · exact k.mono (by omega)
      · split
        · exact k.mono (by omega)
        · exact (k.putP _ _ ⟨hm.1, hm.2, ff.m, rsLim_nil⟩).mono (by omega)
theorem describeP_lim (k : Lim n s) (f : FmP) : Lim (n + 1) (describeP s f).1 := by
  have e : (describeP s f).1 = s := by
    unfold describeP
    split <;> split <;> (try split) <;> rfl
  rw [e]
  exact k.mono (by omega)
theorem turnP_lim (k : Lim n s) (v : VeD) : Lim n (turnP s v).1 := by
  unfold turnP
  split
  · exact k
  · split
    · exact k
    · refine k.of rfl ?_ rfl
      dsimp only
      split
      · exact .inr rfl
      · exact .inl rfl
theorem executeP_lim (k : Lim n s) (f : FmP) : Lim (n + 1) (executeP s f).1 := by
  unfold executeP
  split
  · exact k.mono (by omega)
  · split
    · exact k.mono (by omega)
    · rename_i t o ps rs ran ov hg
      have hm := k.p _ (getK_mem' hg)
      dsimp only at hm
      have hc := k.c
      split
      · have hrs : RsLim (if ran = true then (rs, s.cnt) else engP (verbP t) ps s.cnt).1 ∧ s.cnt ≤ (if ran = true then (rs, s.cnt) else engP (verbP t) ps s.cnt).2 ∧ (if ran = true then (rs, s.cnt) else engP (verbP t) ps s.cnt).2 ≤ s.cnt + 1 := by
          split
          · exact ⟨hm.2.2.2, Int.le_refl _, by dsimp only; omega⟩
          · exact ⟨engP_lim _ _ hm.2.2.1, engP_cnt _ _ _⟩
        dsimp only
        generalize (if ran = true then (rs, s.cnt) else engP (verbP t) ps s.cnt) = rc at hrs ⊢
        have k1 : Lim (n + 1) { s with cnt := rc.2 } := ⟨k.l, k.p, by dsimp only; omega, by have := k.k; dsimp only; omega⟩
        exact k1.putP _ _ ⟨hm.1, hm.2.1, hm.2.2.1, fetP_rest _ _ hrs.1⟩
      · split
        · exact k.mono (by omega)
        · have kt := turnP_lim k (verbP t)
          split
          · rename_i s1 out he
            rw [he] at kt
            dsimp only at kt ⊢
            split
            · exact kt.mono (by omega)
            · exact (kt.putP _ _ ⟨hm.1, hm.2.1, hm.2.2.1, rsLim_nil⟩).mono (by omega)
          · exact kt.mono (by omega)
theorem shutP_lim (k : Lim n s) (f : FmP) : Lim (n + 1) (shutP s f).1 := by
  unfold shutP
  split
  · exact (k.delL _).mono (by omega)
  · exact (k.delP _).mono (by omega)
theorem queryP_lim (k : Lim n s) (f : FmP) : Lim (n + 1) (queryP s f).1 := by
  have k1 : Lim n { s with L := delK s.L [], P := delK s.P [] } := (k.delL []).delP []
  have k2 : Lim (n + 1) { s with L := delK s.L [], P := delK s.P [], cnt := (engP (verbP f.text) [] s.cnt).2 } := ⟨k1.l, k1.p, by have := engP_cnt (verbP f.text) [] s.cnt; have hc := k.c; dsimp only; omega, by have := k1.k; dsimp only at this ⊢; omega⟩
  unfold queryP
  dsimp only
  split
  · exact k1.mono (by omega)
  · split
    · exact k2
    · exact (turnP_lim k1 _).mono (by omega)
theorem dealP_lim (k : Lim n s) (f : FmP) (ff : FmpLim f) : Lim (n + 1) (dealP s f).1 := by
  unfold dealP
  split
  · exact parseP_lim k f ff
  · split
    · exact bindP_lim k f ff
    · split
      · exact describeP_lim k f
      · split
        · exact executeP_lim k f
        · split
          · exact shutP_lim k f
          · split
            · exact queryP_lim k f
            · exact k.mono (by omega)
theorem syncP_lim (k : Lim n s) : Lim n (syncP s).1 := by
  refine k.of rfl ?_ rfl
  unfold syncP
  dsimp only
  split
  · exact .inr rfl
  · exact .inl rfl
theorem failedP_lim (k : Lim n s) (c t : List UInt8) : Lim n (failedP s c t).1 := by
  refine k.of rfl ?_ rfl
  unfold failedP
  dsimp only
  split
  · exact .inr rfl
  · exact .inl rfl
theorem restP_lim (f : FmP) {r : SayP} (k : Lim n r.1) : Lim n (restP f r).1 := by
  unfold restP
  rcases he : r.2.2 with _ | ⟨c, t⟩
  · dsimp only
    split
    · exact syncP_lim k
    · exact k
  · dsimp only
    have kf : Lim n (failedP { r.1 with sk := decide (f.kind ≠ 81) } c t).1 := failedP_lim (s := { r.1 with sk := decide (f.kind ≠ 81) }) (k.of rfl (.inl rfl) rfl) c t
    split
    · exact syncP_lim kf
    · exact kf
theorem doP_lim (k : Lim n s) (f : FmP) (ff : FmpLim f) : Lim (n + 1) (doP s f).1 := by
  have km : Lim (n + 1) s := k.mono (by omega)
  unfold doP
  split
  · exact km
  · split
    · exact km.of rfl (.inl rfl) rfl
    · split
      · exact syncP_lim (km.of rfl (.inl rfl) rfl)
      · split
        · exact km
        · exact restP_lim f (dealP_lim k f ff)
/-- A session that skips. -/
theorem doP_skip (f : FmP) (h1 : s.ov = false) (h2 : s.sk = true) (h3 : f.kind ≠ 88) (h4 : f.kind ≠ 83) : doP s f = (s, []) := by
  unfold doP
  rw [if_neg (by rw [h1]; decide), if_neg h3, if_neg h4, if_pos h2]
end
end Go.Proofs.YtbokngiajfdanaaGreatDoor


/-
  SESSIONS (layer 30), by the code: Do of any message, as a function of plain data; a session apart from all else.
-/
namespace Go.Proofs.YtbokngiajfdanaaGreatDoor
open Go Go.RK

theorem queryP_len (s : SP) (f : FmP) : (queryP s f).2.1.length ≤ 1000000 := by
  have ht : ∀ (s : SP) (v : VeD), (turnP s v).2.1.length ≤ 1 := fun s v => by unfold turnP; split <;> (try split) <;> simp
  unfold queryP
  dsimp only
  split
  · simp
  · split
    · have := (engP_lim (verbP f.text) s.cnt (ps := []) (by simp)).1
      simp [rowsRep]
      omega
    · exact Nat.le_trans (ht _ _) (by omega)
section
variable {h h' : Heap} {A : Ad} {st : Int} {sk ov : Bool} {cnt : Int} {L : List (List UInt8 × StD)} {P : List (List UInt8 × ItD)}
theorem do_v (er : Er h) (h0 : ¬ Mu A P 0) (k : Ss h A st sk ov cnt L P) (lm : LimP (spO st sk ov cnt L P)) (f : Fm) (hf : f.ok h) (hF : ∀ q, f.F q → ¬ Mu A P q) (fl : FmLim f) :
    CallsH Tryz.prog 9 ⟨[.pointer (some ⟨A.bs, 0, none⟩), .agg ⟨f.cells⟩]⟩ h (Did h A P (doP (spO st sk ov cnt L P) f.p)) := by
  by_cases ha : ov = true ∨ f.kind = 88 ∨ f.kind = 83 ∨ sk = true
  · exact do_a k f hf ha
  · simp only [not_or] at ha
    obtain ⟨a1, a2, a3, a4⟩ := ha
    obtain rfl : ov = false := by simpa using a1
    obtain rfl : sk = false := by simpa using a4
    have e : doP (spO st false false cnt L P) f.p = restP f.p (dealP (spO st false false cnt L P) f.p) := by
      unfold doP
      rw [if_neg (show ¬ (spO st false false cnt L P).ov = true from by simp [spO]), if_neg (show ¬ f.p.kind = 88 from a2), if_neg (show ¬ f.p.kind = 83 from a3), if_neg (show ¬ (spO st false false cnt L P).sk = true from by simp [spO])]
    rw [e]
    by_cases e81 : f.kind = 81
    · have eq : dealP (spO st false false cnt L P) f.p = queryP (spO st false false cnt L P) f.p := by
        unfold dealP
        rw [show f.p.kind = 81 from e81]
        rfl
      rw [eq]
      exact do_q er h0 k f hf e81 (queryP_len _ _) fun g x => deal_q (k.ext0 x) lm f (hf.ext0 x) fl e81
    · exact do_b er h0 k f hf ⟨a2, a3, e81⟩ fun g x => deal_v (k.ext0 x) lm f (hf.ext0 x) hF fl
end
/-- A session all of whose parts were made behind h0. -/
def SsI (h0 h : Heap) (A : Ad) (s : SP) : Prop := ∃ L P, Ss h A s.st s.sk s.ov s.cnt L P ∧ plL L = s.L ∧ plP P = s.P ∧ ∀ q, Mu A P q → h0.size ≤ q
/-- Blocks from h0 on that may be a session's. -/
def Bh (h0 h : Heap) (q : Nat) : Prop := h0.size ≤ q ∧ ∀ cs T, h[q]? = some (.cells cs T (0, 0)) → T = 54 ∨ T = 62 ∨ T = 147
theorem bh_own {h0 h : Heap} {v : Value} {T : TypeId} {sz n : Nat} {xs : List Value} (ho : Own h v T sz n xs) (hT : ¬ (T = 54 ∨ T = 62 ∨ T = 147)) : ∀ q, v.ownBlock = some q → ¬ Bh h0 h q := fun q hq e => by
  obtain ⟨_, ⟨rfl, _⟩ | ⟨g, cap, cur, rfl, hg, _⟩⟩ := ho
  · cases hq
  · simp only [Value.ownBlock, Option.some.injEq] at hq
    subst hq
    exact hT (e.2 _ _ hg)
theorem Fm.ok.lt {h : Heap} {f : Fm} (k : f.ok h) {q : Nat} (hq : f.F q) : q < h.size := by
  rcases hq with ⟨h1, h2⟩ | hq
  · exact k.oids.1.lt h1 h2
  · exact k.params.lt hq
theorem Er.pos {h : Heap} (e : Er h) : 0 < h.size := by
  have := e 0 _ rfl
  unfold cell at this
  rcases hq : h[0]? with _ | o
  · simp [hq] at this
  · exact lt_of_some hq
section
variable {h0 h h' : Heap} {A : Ad} {s : SP}
theorem SsI.ext0 (k : SsI h0 h A s) (x : Ext No h h') : SsI h0 h' A s := by
  obtain ⟨L, P, k, e1, e2, e3⟩ := k
  exact ⟨L, P, k.ext0 x, e1, e2, e3⟩
theorem do_i (k : SsI h0 h A s) {n : Nat} (lm : Lim n s) (hn : n < 1000000) (er : Er h0) (x : Ext No h0 h) (f : Fm) (hf : f.ok h0) (fl : FmLim f) :
    CallsH Tryz.prog 9 ⟨[.pointer (some ⟨A.bs, 0, none⟩), .agg ⟨f.cells⟩]⟩ h fun u h' => (∃ B, Outs h h' u B ∧ B.map Bk.p = (doP s f.p).2) ∧ SsI h0 h' A (doP s f.p).1 ∧ Ext (Bh h0 h) h h' := by
  obtain ⟨L, P, k, e1, e2, e3⟩ := k
  obtain ⟨st, sk, ov, cnt, LL, PP⟩ := s
  dsimp only at e1 e2 k
  subst e1 e2
  refine (do_v (er.ext0 x) (fun e => by have := e3 _ e; have := er.pos; omega) k (lm.limP hn) f (hf.ext0 x) (fun q hq e => by have := e3 _ e; have := hf.lt hq; omega) fl).mono fun u h' ⟨hB, L', P', k', p1, p2, t⟩ => ?_
  refine ⟨hB, ⟨L', P', k', p1, p2, fun q hq => ?_⟩, t.1.mono fun q _ e => ⟨e3 q e, fun cs T hq => Classical.byContradiction fun hT => k.not hq (fun z => hT (.inl z)) (fun z => hT (.inr (.inl z))) (fun z => hT (.inr (.inr z))) e⟩⟩
  by_cases hl : q < h.size
  · exact e3 q (t.2 q hl hq)
  · have := x.size; omega
theorem SsI.blk (k : SsI h0 h A s) : h[A.bs]? = some (.cells ⟨[.map (some A.ms), .pointer (some ⟨A.bp, 0, none⟩), .pointer (some ⟨A.be, 0, none⟩), .int .u8 s.st, .bool s.sk, .bool s.ov]⟩ 54 (0, 0)) := by
  obtain ⟨L, P, k, _⟩ := k
  exact k.se.blk
theorem srtS_perm {l m : List (List UInt8)} (hp : l.Perm m) : srtS l = srtS m := by
  have tr : ∀ a b c : List UInt8, decide (a ≤ b) = true → decide (b ≤ c) = true → decide (a ≤ c) = true := fun a b c h1 h2 => by simp only [decide_eq_true_eq] at *; exact List.le_trans h1 h2
  have hto : ∀ a b : List UInt8, (decide (a ≤ b) || decide (b ≤ a)) = true := fun a b => by simp only [Bool.or_eq_true, decide_eq_true_eq]; exact List.le_total a b
  refine List.Perm.eq_of_pairwise (le := fun a b => decide (a ≤ b) = true) (fun a b _ _ h1 h2 => ?_) (List.pairwise_mergeSort tr hto l) (List.pairwise_mergeSort tr hto m) ((List.mergeSort_perm l _).trans (hp.trans (List.mergeSort_perm m _).symm))
  simp only [decide_eq_true_eq] at h1 h2
  exact List.le_antisymm h1 h2
/-- The names of a session. -/
def namesP (s : SP) : List (List UInt8) := srtS (s.L.map (·.1))
theorem names_i (k : SsI h0 h A s) (hl : s.L.length ≤ 100000) : CallsH Tryz.prog 12 ⟨[.pointer (some ⟨A.bs, 0, none⟩)]⟩ h fun u h' => Own h' u 9 1 (namesP s).length ((namesP s).map St) ∧ Ext No h h' := by
  obtain ⟨L, P, k, e1, e2, e3⟩ := k
  have hk : (encK stE L).map (·.1) = s.L.map (·.1) := by rw [← e1]; simp [encK, plL, List.map_map, Function.comp_def]
  have hlen : (encK stE L).length ≤ 100000 := by rw [← e1] at hl; simpa [encK, plL] using hl
  refine (names_v k.se.blk k.se.stm hlen).mono fun u h' ⟨N, hN, ho, hx⟩ => ⟨?_, hx⟩
  have e : srtS N = namesP s := srtS_perm (hk ▸ hN)
  rw [e] at ho
  have hNl : N.length = (namesP s).length := by rw [← e]; unfold srtS; simp
  rw [hNl] at ho
  exact ho
/-- A session in which nothing was said. -/
abbrev sp0 : SP := ⟨73, false, false, 0, [], []⟩
theorem sp0_lim : Lim 0 sp0 := ⟨(fun _ h => nomatch h), (fun _ h => nomatch h), ⟨Int.le_refl _, Int.le_refl _⟩, Nat.le_refl _⟩
theorem new_i {be me : Nat} (hb : h[be]? = some (.cells ⟨[.map (some me), In 0]⟩ 62 (0, 0))) (hm : Mp .string St h me ([] : List (List UInt8 × Value))) (x : Ext No h0 h) (g1 : h0.size ≤ be) :
    CallsH Tryz.prog 7 ⟨[.pointer (some ⟨be, 0, none⟩)]⟩ h fun u h' => ∃ A : Ad, u = .pointer (some ⟨A.bs, 0, none⟩) ∧ SsI h0 h' A sp0 ∧ Ext No h h' := by
  refine (new_sess (some ⟨be, 0, none⟩)).mono fun u h' ⟨bs, ms, bp, mp, e, hbs, hms, hbp, hmp, l1, l2, l3, l4, hx⟩ => ?_
  have lm := hm.lt
  have s0 := x.size
  refine ⟨⟨bs, ms, bp, mp, be, me⟩, e, ⟨[], [], ⟨⟨hbs, hms, hbp, hmp, hx.obj hb nos, hm.ext hx nos, by dsimp only; omega, by dsimp only; omega, by dsimp only; omega⟩, (fun _ h => nomatch h), (fun _ h => nomatch h), (fun _ h => nomatch h), .inl rfl, by decide⟩, rfl, rfl, fun q hq => ?_⟩, hx⟩
  rcases hq with hq | hq | hq | hq | ⟨r, hr, _⟩
  · have : q = bs := hq
    omega
  · have : q = ms := hq
    omega
  · have : q = mp := hq
    omega
  · have : q = be := hq
    omega
  · exact nomatch hr
end
end Go.Proofs.YtbokngiajfdanaaGreatDoor


/-
  package slices at slices of numbers: IndexFunc, DeleteFunc, Contains.
-/
namespace Go.Proofs.YtbokngiajfdanaaGreatDoor
open Go Go.RK
end Go.Proofs.YtbokngiajfdanaaGreatDoor


/-
  BYTES LOOKED FOR; clean texts; numbers within bounds: packages bytes, strings, digits, front, back.
-/
namespace Go.Proofs.YtbokngiajfdanaaGreatDoor
open Go Go.RK

def cleanB (s : List UInt8) : Bool := !s.contains 0
def withinB (l : List Int) (lo hi : Int) : Bool := decide (l.length ≤ 65535) && !l.any fun n => decide (n < lo) || decide (hi < n)
def knownI (k : UInt8) : Int := if ([66, 67, 68, 69, 72, 80, 81, 83, 88] : List UInt8).contains k then 1 else if ([70, 99, 100, 102, 112] : List UInt8).contains k then 2 else 0
end Go.Proofs.YtbokngiajfdanaaGreatDoor


/-
  THE COMPARE OF ARRAYS OF TEXTS. No program is named here.
-/
namespace Go.RK
open Go

section
variable {P : Program}
variable {f : Fr} {h : Heap} {d : Option Tmp} {ty : TypeId} {pos : String} {af : Array Edge} {g : Option (Nat × Bool)}
end
end Go.RK

/-
  back.Check, of messages that may be.
-/
namespace Go.Proofs.YtbokngiajfdanaaGreatDoor
open Go Go.RK

/-- A bound. -/
structure BndD where
  n : Int
  lo : Int
  hi : Int
def BndD.cells (b : BndD) : List Value := [In b.n, In b.lo, In b.hi]
theorem BndD.len (b : BndD) : b.cells.length = 3 := rfl
def BndD.ok (b : BndD) : Prop := b.lo ≤ b.n ∧ b.n ≤ b.hi
set_option maxHeartbeats 2000000 in
set_option maxRecDepth 100000 in
theorem indexFunc_cel {h : Heap} {v : Value} (l : List Cel) (p : Cel → Bool) {fk : Nat} {fs us : List Value} (hcf : ∀ (args : Array Value) (w : World), (callFunc fk args).run Tryz.prog w = .ok (.enter fk args) w) (hr : Rd h v 2 l.length (l.flatMap Cel.cells)) (hm : l.length ≤ maxLen)
    (hp : ∀ x ∈ l, ∀ h', Ext No h h' → CallsH Tryz.prog fk ⟨fs ++ [.agg ⟨Cel.cells x⟩] ++ us⟩ h' fun u h'' => u = .bool (p x) ∧ Ext No h' h'') :
    CallsH Tryz.prog 75 ⟨[v, .func (.func fk) ⟨fs⟩ ⟨us⟩]⟩ h fun u h' => u = In (idxP p l) ∧ Ext No h h' := by
  obtain ⟨A, c, rfl, _⟩ := id hr
  unfold maxLen at hm
  refine calls [(0, _), (1, _)] Tryz.func75 rfl Tryz.ntmps75 rfl ⟨rfl, rfl, trivial⟩ ?_
  all_goals (refine WC.sr ?_)
  all_goals (refine Go ?_)
  all_goals (refine WC.seq ?_)
  all_goals (refine WC.sr ?_)
  all_goals (refine Go ?_)
  all_goals (refine WC.block ?_)
  -- loop 0: slots that turn [8], that stay [0, 1, 7]
  all_goals (refine WC.loopG (X := Nat) (fun x => ([(8, In (x : Int))] : Fr)) [(0, _), (1, _), (7, _)] (fun k h' => Ext No h h' ∧ k ≤ l.length ∧ ∀ x ∈ l.take k, p x = false) (fun k => l.length - k) (0) ⟨rfl, rfl, rfl, rfl, trivial⟩ (by exact ⟨.refl _ _, Nat.zero_le _, by simp⟩) ?_)
  all_goals (rintro k h1 ⟨hx1, hk, hn⟩)
  all_goals (refine WC.sub [(8, _), (0, _), (1, _), (7, _)] ⟨rfl, rfl, rfl, rfl, trivial⟩ ?_)
  all_goals (refine WC.sr ?_)
  all_goals (refine Go ?_)
  all_goals (refine WC.seq ?_)
  all_goals (refine goC 1 2 ?_ ?_ <;> first | exact ⟨⟩ | refine Hb.mk fun hb => ?_ | skip)
  all_goals (first | (fail_if_success refine goB 1 ?_) | (
  refine goB 1 ?_
  all_goals (refine WC.skip ?_)
  skip))
  all_goals (first | (fail_if_success refine goB 2 ?_) | (
  refine goB 2 ?_
  all_goals (refine WC.exit ?_)
  all_goals (repeat' (with_reducible first | refine thenP_x ?_ | refine blockP_miss rfl ?_ | refine blockP_hit ?_ | refine blockP_n ?_ | refine thenP_n ?_))
  all_goals (refine Br.out (i := 1000) ?_)
  skip))
  all_goals (refine Gn ?_)
  all_goals (first | (refine Br.keep ?_) | (refine WC.seq ?_))
  all_goals (first | (refine Br.keep ?_) | (refine WC.block ?_))
  all_goals (first | (refine Br.keep ?_) | (refine WC.sr ?_))
  all_goals (refine Go ?_)
  all_goals (first | (refine Br.keep ?_) | (refine WC.sr ?_))
  all_goals (first | (refine Br.keep ?_) | (refine WL.step (ok_move rfl) rfl rfl rfl ?_))
  all_goals (first | (refine Br.keep ?_) | (refine WL.step (ok_move rfl) rfl rfl rfl ?_))
  all_goals (first
               | (refine Br.keep ?_)
               | (obtain ⟨b, o, hA, hbL, hat⟩ := Rd.at_ (hr.ext0 hx1) (by omega)
                  obtain ⟨y, hy⟩ : ∃ y, l[k]? = some y := ⟨_, List.getElem?_eq_getElem (by omega)⟩
                  have hc : At h1 b (o + k * 2) (Cel.cells y) := At.elem Cel.len hat hy))
  all_goals (first | (refine Br.keep ?_) | (refine WL.step (ok_move rfl) rfl rfl rfl ?_))
  all_goals (first | (refine Br.keep ?_) | (refine WL.step (ok_idxAddrA Tryz.underlying30 (fun w => Tryz.sizeOf87 w) rfl rfl rfl (by omega) (by first | rfl | assumption)) rfl rfl rfl ?_))
  all_goals (first | (refine Br.keep ?_) | (refine WL.step (ok_loadN (fun w => Tryz.isAgg87 w) (fun w => Tryz.sizeOf87 w) rfl rfl (by assumption)) rfl rfl rfl ?_))
  all_goals (first
               | (refine Br.keep ?_)
               | (refine WL.callT (vs := [_]) rfl rfl hcf rfl (hp y (List.mem_of_getElem? hy) h1 hx1) rfl rfl rfl ?_
                  rintro _ h2 ⟨rfl, hx2⟩))
  all_goals (first | (refine Br.keep ?_) | (cases hpy : p y))
  all_goals (refine Gn ?_)
  all_goals (first | (refine Br.keep ?_) | (refine Gs [(0, _), (1, _), (5, _), (7, _), (8, _), (16, _)] ?_))
  all_goals (first | (refine Br.keep ?_) | (refine goC 3 4 ?_ ?_ <;> first | exact ⟨⟩ | refine Hb.mk fun hb => ?_ | skip))
  all_goals (first | (fail_if_success refine goB 3 ?_) | (
  refine goB 3 ?_
  all_goals (refine WC.sr ?_)
  all_goals (refine Go ?_)
  all_goals (refine Gs [(4, _)] ?_)
  all_goals (refine Gt ?_)
  all_goals (first | exact ⟨by rw [idxP_no (by rw [List.take_of_length_le (by omega)] at hn; exact hn)], hx1⟩ | exact ⟨by rw [idxP_at hy hpy hn], hx1.trans hx2⟩)
  skip))
  all_goals (first | (fail_if_success refine goB 4 ?_) | (
  refine goB 4 ?_
  all_goals (refine WC.skip ?_)
  skip))
  all_goals (refine Gn ?_)
  all_goals (first | (refine Br.keep ?_) | (refine WC.region ?_))
  all_goals (refine Go ?_)
  all_goals (first | (refine Br.keep ?_) | (exact ⟨k + 1, ⟨rfl, rfl, rfl, rfl, trivial⟩, (by exact ⟨hx1.trans hx2, by omega, take_snoc_p hn hy hpy⟩), (by omega)⟩))
  all_goals (try (refine Br.mk (i := 1000) ?_))
  all_goals (refine Gn ?_)
  all_goals (refine Gs [] ?_)
  all_goals (refine WC.sr ?_)
  all_goals (refine Go ?_)
  all_goals (refine Gt ?_)
  all_goals (first | exact ⟨by rw [idxP_no (by rw [List.take_of_length_le (by omega)] at hn; exact hn)], hx1⟩ | exact ⟨by rw [idxP_at hy hpy hn], hx1.trans hx2⟩)

/-- A column that may be. -/
def ColD.okB (c : ColD) : Prop := cleanB c.nm = true ∧ (0 ≤ c.t ∧ c.t ≤ 4294967295) ∧ (0 ≤ c.a ∧ c.a ≤ 65535) ∧ (0 ≤ c.o ∧ c.o ≤ 4294967295) ∧ (-32768 ≤ c.s ∧ c.s ≤ 32767) ∧ (-2147483648 ≤ c.m ∧ c.m ≤ 2147483647) ∧ (0 ≤ c.f ∧ c.f ≤ 65535)
def FieldD.okB (c : FieldD) : Prop := c.k ≠ 0 ∧ cleanB c.t = true
def Cel.okB (c : Cel) : Prop := (c.null = true → c.bytes.length = 0) ∧ c.bytes.length ≤ 1048576
end Go.Proofs.YtbokngiajfdanaaGreatDoor


/-
  back.Check, of messages that may be: the fields of a kind; all of it.
-/
namespace Go.Proofs.YtbokngiajfdanaaGreatDoor
open Go Go.RK

def zB (k : Int) : Bk := ⟨k, 0, [], [], [], 0, 0, .slice none 0 0, [], .slice none 0 0, [], .slice none 0 0, [], .slice none 0 0, []⟩
/-- A message with no fields but those that its body has. -/
def ofB (b : Bk) : Bk :=
  if b.kind = 83 then { zB b.kind with name := b.name, value := b.value }
  else if b.kind = 75 then { zB b.kind with n := b.n, m := b.m }
  else if b.kind = 90 then { zB b.kind with status := b.status }
  else if b.kind = 67 then { zB b.kind with tag := b.tag }
  else if b.kind = 68 then { zB b.kind with vr := b.vr, row := b.row }
  else if b.kind = 84 then { zB b.kind with vc := b.vc, cols := b.cols }
  else if b.kind = 116 then { zB b.kind with vo := b.vo, oids := b.oids }
  else if b.kind = 69 ∨ b.kind = 78 then { zB b.kind with vf := b.vf, fields := b.fields }
  else zB b.kind
/-! ### Check -/
def kindsB : List UInt8 := [82, 83, 75, 90, 49, 50, 51, 110, 115, 73, 67, 68, 84, 116, 69, 78]
def Bk.stOk (b : Bk) : Prop := b.kind ≠ 90 ∨ b.status = 73 ∨ b.status = 84 ∨ b.status = 69
/-- A message that may be. -/
structure Bk.may (b : Bk) : Prop where
  kind : ∃ k : UInt8, Value.int .u8 b.kind = By k ∧ kindsB.contains k = true
  tag : cleanB b.tag = true
  name : cleanB b.name = true
  value : cleanB b.value = true
  cols : b.cols.length ≤ 65535 ∧ ∀ c ∈ b.cols, c.okB
  fields : b.fields.length ≤ 65535 ∧ ∀ f ∈ b.fields, f.okB
  row : b.row.length ≤ 65535 ∧ ∀ c ∈ b.row, c.okB
  oids : b.oids.length ≤ 65535 ∧ ∀ n ∈ b.oids, 0 ≤ n ∧ n ≤ 4294967295
  n : 0 ≤ b.n ∧ b.n ≤ 4294967295
  m : 0 ≤ b.m ∧ b.m ≤ 4294967295
  st : b.stOk
  own : (ofB b).pl = b.pl
end Go.Proofs.YtbokngiajfdanaaGreatDoor


/-
  LISTS OF REPLIES (layer 7): whether all of a list may be, at any list.
-/
namespace Go.Proofs.YtbokngiajfdanaaGreatDoor
open Go Go.RK

set_option maxHeartbeats 2000000 in
set_option maxRecDepth 100000 in
theorem has_cel {h : Heap} {v : Value} (l : List Cel) (p : Cel → Bool) {fk : Nat} {fs us : List Value} (hcf : ∀ (args : Array Value) (w : World), (callFunc fk args).run Tryz.prog w = .ok (.enter fk args) w) (hr : Rd h v 2 l.length (l.flatMap Cel.cells)) (hm : l.length ≤ maxLen)
    (hp : ∀ x ∈ l, ∀ h', Ext No h h' → CallsH Tryz.prog fk ⟨fs ++ [.agg ⟨Cel.cells x⟩] ++ us⟩ h' fun u h'' => u = .bool (p x) ∧ Ext No h' h'') :
    CallsH Tryz.prog 40 ⟨[v, .func (.func fk) ⟨fs⟩ ⟨us⟩]⟩ h fun u h' => u = .bool (l.any p) ∧ Ext No h h' := by
  refine calls [(0, _), (1, _)] Tryz.func40 rfl Tryz.ntmps40 rfl ⟨rfl, rfl, trivial⟩ ?_
  all_goals (refine WC.sr ?_)
  all_goals (refine Go ?_)
  all_goals (refine WC.sr ?_)
  all_goals (refine Go ?_)
  all_goals (refine WL.call (vs := [_, _]) rfl (fun a w => Tryz.call75 a w) rfl (indexFunc_cel l p hcf hr hm hp) rfl rfl rfl ?_
             rintro _ h1 ⟨rfl, hx1⟩)
  all_goals (refine WL.step (ok_geq rfl rfl) rfl rfl rfl ?_)
  all_goals (refine Go ?_)
  all_goals (refine Gs [(4, _)] ?_)
  all_goals (refine Gt ?_)
  all_goals (exact ⟨by rw [idxP_geq], hx1⟩)

def BndD.okB (b : BndD) : Bool := decide (b.lo ≤ b.n) && decide (b.n ≤ b.hi)
instance (c : ColD) : Decidable c.okB := by unfold ColD.okB; exact inferInstance
instance (c : FieldD) : Decidable c.okB := by unfold FieldD.okB; exact inferInstance
instance (c : Cel) : Decidable c.okB := by unfold Cel.okB; exact inferInstance
def oidB (n : Int) : Bool := decide (0 ≤ n) && decide (n ≤ 4294967295)
end Go.Proofs.YtbokngiajfdanaaGreatDoor


/-
  MESSAGES as they come in: whether each is plain, and what that tells (RwG.w without the registry).
-/
namespace Go.Proofs.YtbokngiajfdanaaGreatDoor
open Go Go.RK

/-- Short enough to be tried. -/
structure Fm.few (b : Fm) : Prop where
  oids : b.oids.length ≤ 50
  formats : b.formats.length ≤ 50
  results : b.results.length ≤ 50
  params : b.params.length ≤ 50
  cells : ∀ c ∈ b.params, c.bytes.length ≤ 300
  name : b.name.length ≤ 300
  portal : b.portal.length ≤ 300
  text : b.text.length ≤ 1000
set_option maxHeartbeats 2000000 in
set_option maxRecDepth 100000 in
theorem pf1 {h h0 : Heap} (c : Cel) (hk : c.ok h0) : CallsH Tryz.prog 41 ⟨[.agg ⟨c.cells⟩]⟩ h fun u h' => u = .bool (decide (300 < c.bytes.length)) ∧ Ext No h h' := by
  obtain ⟨nl, v, bs⟩ := c
  obtain ⟨A, cc, e, _⟩ := hk.1
  simp only at e
  subst e
  dsimp only [Cel.cells]
  refine calls [(0, _)] Tryz.func41 rfl Tryz.ntmps41 rfl ⟨rfl, trivial⟩ ?_
  all_goals (refine WC.sr ?_)
  all_goals (refine WL.stepR (okE_box rfl) rfl rfl rfl ?_
             rintro _ h1 ⟨b1, rfl, hg1, hb1, hx1⟩)
  all_goals (refine Go ?_)
  all_goals (refine WC.sr ?_)
  all_goals (refine Go ?_)
  all_goals (refine Ld ?_)
  all_goals (refine Go ?_)
  all_goals (refine Gs [(2, _)] ?_)
  all_goals (refine Gt ?_)
  all_goals (exact ⟨congrArg Value.bool (decide_eq_decide.2 (by omega)), hx1⟩)
def plainB (b : Fm) : Bool := decide ((b.oids.length ≤ 50 ∧ b.formats.length ≤ 50 ∧ b.results.length ≤ 50 ∧ b.params.length ≤ 50) ∧ (b.params.any fun c => decide (300 < c.bytes.length)) = false ∧ b.name.length ≤ 300 ∧ b.portal.length ≤ 300 ∧ b.text.length ≤ 1000)
theorem plainB_few {b : Fm} (h : plainB b = true) : b.few := by
  obtain ⟨⟨h1, h2, h3, h4⟩, h5, h6, h7, h8⟩ := of_decide_eq_true h
  exact ⟨h1, h2, h3, h4, fun c hc => by simpa using List.any_eq_false.1 h5 c hc, h6, h7, h8⟩
set_option maxHeartbeats 4000000 in
set_option maxRecDepth 100000 in
theorem plain_frontB {h : Heap} (b : Fm) (hb : b.ok h) : CallsH Tryz.prog 16 ⟨[.agg ⟨b.cells⟩]⟩ h fun u h' => u = .bool (plainB b) ∧ Ext No h h' := by
  obtain ⟨⟨ho, _⟩, ⟨hf, _⟩, ⟨hs, _⟩, hr⟩ := hb
  obtain ⟨k, w, n, p, t, vo, lo, vf, lf, vs, ls, vp, lp, mx⟩ := b
  dsimp only at ho hf hs hr
  obtain ⟨hr0, hr1, hr2⟩ := hr
  have hrm : lp.length ≤ maxLen := by have := hr1.1; unfold reachBytes at this; unfold maxLen; omega
  obtain ⟨Ao, co, rfl, _⟩ := id ho
  obtain ⟨Af, cf, rfl, _⟩ := id hf
  obtain ⟨As, cs, rfl, _⟩ := id hs
  obtain ⟨Ap, cp, rfl, _⟩ := id hr0
  dsimp only [Fm.cells]
  refine calls [(0, _)] Tryz.func16 rfl Tryz.ntmps16 rfl ⟨rfl, trivial⟩ ?_
  all_goals (refine WC.sr ?_)
  all_goals (refine WL.stepR (okE_box rfl) rfl rfl rfl ?_
             rintro _ g1 ⟨b1, rfl, hg1, hb1, hX1⟩)
  all_goals (refine Go ?_)
  all_goals (refine WC.seq ?_)
  all_goals (refine WC.sr ?_)
  all_goals (refine Go ?_)
  all_goals (refine Ld ?_)
  all_goals (refine Go ?_)
  all_goals (refine goP 7 ?_ ?_ <;> first | exact ⟨⟩ | refine Hb.mk fun hb => ?_ | skip)
  all_goals (refine Gg ?_)
  all_goals (first | (refine WL.pass rfl rfl rfl ?_) | (refine Ld ?_))
  all_goals (refine Gg ?_)
  all_goals (refine Go ?_)
  all_goals (refine goP 13 ?_ ?_ <;> first | exact ⟨⟩ | refine Hb.mk fun hb => ?_ | skip)
  all_goals (refine Gg ?_)
  all_goals (first | (refine WL.pass rfl rfl rfl ?_) | (refine Ld ?_))
  all_goals (refine Gg ?_)
  all_goals (refine Go ?_)
  all_goals (refine goP 19 ?_ ?_ <;> first | exact ⟨⟩ | refine Hb.mk fun hb => ?_ | skip)
  all_goals (refine Gg ?_)
  all_goals (first | (refine WL.pass rfl rfl rfl ?_) | (refine Ld ?_))
  all_goals (refine Gg ?_)
  all_goals (refine Go ?_)
  all_goals (refine Gs [(1, _), (24, _)] ?_)
  all_goals (refine goC 1 2 ?_ ?_ <;> first | exact ⟨⟩ | refine Hb.mk fun hb => ?_ | skip)
  all_goals (first | (fail_if_success refine goB 1 ?_) | (
  refine goB 1 ?_
  all_goals (refine WC.sr ?_)
  all_goals (refine Go ?_)
  all_goals (refine Gt ?_)
  all_goals (first
              | (refine ⟨congrArg Value.bool (decide_eq_false fun z => ?_).symm, ?_⟩
                 · obtain ⟨⟨z1, z2, z3, z4⟩, z5, z6, z7, z8⟩ := z
                   dsimp only at z1 z2 z3 z4 z5 z6 z7 z8
                   first | omega | (rw [ha1] at z5; cases z5)
                 · first | exact hX2 | exact hX1)
              | (refine ⟨congrArg Value.bool (decide_eq_decide.2 ⟨fun z => ⟨⟨?_, ?_, ?_, ?_⟩, ha1, ?_, ?_, ?_⟩, fun z => ?_⟩), hX2⟩
                 all_goals first | (obtain ⟨⟨z1, z2, z3, z4⟩, z5, z6, z7, z8⟩ := z; dsimp only at z1 z2 z3 z4 z6 z7 z8; omega) | (show _ ≤ _; (try dsimp only); omega)))
  skip))
  all_goals (first | (fail_if_success refine goB 2 ?_) | (
  refine goB 2 ?_
  all_goals (refine WC.skip ?_)
  skip))
  all_goals (refine Gn ?_)
  all_goals (refine WC.seq ?_)
  all_goals (refine WC.sr ?_)
  all_goals (refine Go ?_)
  all_goals (refine WL.ld rfl (by first | exact cell_blk hb1 rfl | assumption | exact cell_blk (by assumption) rfl) rfl rfl rfl ?_)
  all_goals (refine WL.call (vs := [_, _]) rfl (fun a w => Tryz.call40 a w) rfl (has_cel lp (fun c => decide (300 < c.bytes.length)) (fun a w => Tryz.call41 a w) (fs := []) (us := []) (hr0.ext0 hX1) hrm (fun x hx h' hx' => pf1 x (hr2 x hx))) rfl rfl rfl ?_
             rintro _ g2 ⟨rfl, hx2⟩)
  all_goals (have hb2 := hx2.obj hb1 nos
             have hX2 := hX1.trans hx2
             cases ha1 : lp.any fun c => decide (300 < c.bytes.length))
  all_goals (refine Gn ?_)
  all_goals (refine goC 3 4 ?_ ?_ <;> first | exact ⟨⟩ | refine Hb.mk fun hb => ?_ | skip)
  all_goals (first | (fail_if_success refine goB 3 ?_) | (
  refine goB 3 ?_
  all_goals (refine WC.sr ?_)
  all_goals (refine Go ?_)
  all_goals (refine Gs [(2, _)] ?_)
  all_goals (refine Gt ?_)
  all_goals (first
              | (refine ⟨congrArg Value.bool (decide_eq_false fun z => ?_).symm, ?_⟩
                 · obtain ⟨⟨z1, z2, z3, z4⟩, z5, z6, z7, z8⟩ := z
                   dsimp only at z1 z2 z3 z4 z5 z6 z7 z8
                   first | omega | (rw [ha1] at z5; cases z5)
                 · first | exact hX2 | exact hX1)
              | (refine ⟨congrArg Value.bool (decide_eq_decide.2 ⟨fun z => ⟨⟨?_, ?_, ?_, ?_⟩, ha1, ?_, ?_, ?_⟩, fun z => ?_⟩), hX2⟩
                 all_goals first | (obtain ⟨⟨z1, z2, z3, z4⟩, z5, z6, z7, z8⟩ := z; dsimp only at z1 z2 z3 z4 z6 z7 z8; omega) | (show _ ≤ _; (try dsimp only); omega)))
  skip))
  all_goals (first | (fail_if_success refine goB 4 ?_) | (
  refine goB 4 ?_
  all_goals (refine WC.skip ?_)
  skip))
  all_goals (refine Gn ?_)
  all_goals (refine Gs [(1, _)] ?_)
  all_goals (refine WC.sr ?_)
  all_goals (refine Go ?_)
  all_goals (refine WL.ld rfl (by first | exact cell_blk hb2 rfl | assumption | exact cell_blk (by assumption) rfl) rfl rfl rfl ?_)
  all_goals (refine Go ?_)
  all_goals (refine goP 32 ?_ ?_ <;> first | exact ⟨⟩ | refine Hb.mk fun hb => ?_ | skip)
  all_goals (refine Gg ?_)
  all_goals (first | (refine WL.pass rfl rfl rfl ?_) | (refine WL.ld rfl (by first | exact cell_blk hb2 rfl | assumption | exact cell_blk (by assumption) rfl) rfl rfl rfl ?_))
  all_goals (refine Gg ?_)
  all_goals (refine Go ?_)
  all_goals (refine goP 38 ?_ ?_ <;> first | exact ⟨⟩ | refine Hb.mk fun hb => ?_ | skip)
  all_goals (refine Gg ?_)
  all_goals (first | (refine WL.pass rfl rfl rfl ?_) | (refine WL.ld rfl (by first | exact cell_blk hb2 rfl | assumption | exact cell_blk (by assumption) rfl) rfl rfl rfl ?_))
  all_goals (refine Gg ?_)
  all_goals (refine Go ?_)
  all_goals (refine Gs [(2, _)] ?_)
  all_goals (refine Gt ?_)
  all_goals (first
              | (refine ⟨congrArg Value.bool (decide_eq_false fun z => ?_).symm, ?_⟩
                 · obtain ⟨⟨z1, z2, z3, z4⟩, z5, z6, z7, z8⟩ := z
                   dsimp only at z1 z2 z3 z4 z5 z6 z7 z8
                   first | omega | (rw [ha1] at z5; cases z5)
                 · first | exact hX2 | exact hX1)
              | (refine ⟨congrArg Value.bool (decide_eq_decide.2 ⟨fun z => ⟨⟨?_, ?_, ?_, ?_⟩, ha1, ?_, ?_, ?_⟩, fun z => ?_⟩), hX2⟩
                 all_goals first | (obtain ⟨⟨z1, z2, z3, z4⟩, z5, z6, z7, z8⟩ := z; dsimp only at z1 z2 z3 z4 z6 z7 z8; omega) | (show _ ≤ _; (try dsimp only); omega)))
set_option maxHeartbeats 2000000 in
set_option maxRecDepth 100000 in
theorem pfs1 {h h0 : Heap} (f : Fm) (hf : f.ok h0) (x : Ext No h0 h) : CallsH Tryz.prog 19 ⟨[.agg ⟨f.cells⟩]⟩ h fun u h' => u = .bool (!plainB f) ∧ Ext No h h' := by
  have kp := fun h' (y : Ext No h h') => plain_frontB f ((hf.ext0 x).ext0 y)
  obtain ⟨⟨e1, _⟩, ⟨e2, _⟩, ⟨e3, _⟩, e4, _⟩ := hf
  obtain ⟨fk, w, n, p, t, vo, o, vf, fs, vs, rs, vp, ps, mx⟩ := f
  dsimp only at e1 e2 e3 e4
  obtain ⟨_, _, rfl, _⟩ := e1
  obtain ⟨_, _, rfl, _⟩ := e2
  obtain ⟨_, _, rfl, _⟩ := e3
  obtain ⟨_, _, rfl, _⟩ := e4
  dsimp only [Fm.cells] at kp ⊢
  refine calls [(0, _)] Tryz.func19 rfl Tryz.ntmps19 rfl ⟨rfl, trivial⟩ ?_
  all_goals (refine WC.sr ?_)
  all_goals (refine WL.stepR (okE_box rfl) rfl rfl rfl ?_
             rintro _ h1 ⟨b1, rfl, hg1, hb1, hx1⟩)
  all_goals (refine Go ?_)
  all_goals (refine WC.sr ?_)
  all_goals (refine WL.step (ok_loadN (fun w => Tryz.isAgg32 w) (fun w => Tryz.sizeOf32 w) rfl rfl (by exact At.of_block hb1)) rfl rfl rfl ?_)
  all_goals (refine WL.call (vs := [_]) rfl (fun a w => Tryz.call16 a w) rfl (kp _ hx1) rfl rfl rfl ?_
             rintro _ h2 ⟨rfl, hx2⟩)
  all_goals (refine Go ?_)
  all_goals (refine Gs [(2, _)] ?_)
  all_goals (refine Gt ?_)
  all_goals (exact ⟨rfl, hx1.trans hx2⟩)
set_option maxHeartbeats 2000000 in
set_option maxRecDepth 100000 in
theorem indexFunc_fm {h : Heap} {v : Value} (l : List Fm) (p : Fm → Bool) {fk : Nat} {fs us : List Value} (hcf : ∀ (args : Array Value) (w : World), (callFunc fk args).run Tryz.prog w = .ok (.enter fk args) w) (hr : Rd h v 10 l.length (l.flatMap Fm.cells)) (hm : l.length ≤ maxLen)
    (hp : ∀ x ∈ l, ∀ h', Ext No h h' → CallsH Tryz.prog fk ⟨fs ++ [.agg ⟨Fm.cells x⟩] ++ us⟩ h' fun u h'' => u = .bool (p x) ∧ Ext No h' h'') :
    CallsH Tryz.prog 44 ⟨[v, .func (.func fk) ⟨fs⟩ ⟨us⟩]⟩ h fun u h' => u = In (idxP p l) ∧ Ext No h h' := by
  obtain ⟨A, c, rfl, _⟩ := id hr
  unfold maxLen at hm
  refine calls [(0, _), (1, _)] Tryz.func44 rfl Tryz.ntmps44 rfl ⟨rfl, rfl, trivial⟩ ?_
  all_goals (refine WC.sr ?_)
  all_goals (refine Go ?_)
  all_goals (refine WC.seq ?_)
  all_goals (refine WC.sr ?_)
  all_goals (refine Go ?_)
  all_goals (refine WC.block ?_)
  -- loop 0: slots that turn [8], that stay [0, 1, 7]
  all_goals (refine WC.loopG (X := Nat) (fun x => ([(8, In (x : Int))] : Fr)) [(0, _), (1, _), (7, _)] (fun k h' => Ext No h h' ∧ k ≤ l.length ∧ ∀ x ∈ l.take k, p x = false) (fun k => l.length - k) (0) ⟨rfl, rfl, rfl, rfl, trivial⟩ (by exact ⟨.refl _ _, Nat.zero_le _, by simp⟩) ?_)
  all_goals (rintro k h1 ⟨hx1, hk, hn⟩)
  all_goals (refine WC.sub [(8, _), (0, _), (1, _), (7, _)] ⟨rfl, rfl, rfl, rfl, trivial⟩ ?_)
  all_goals (refine WC.sr ?_)
  all_goals (refine Go ?_)
  all_goals (refine WC.seq ?_)
  all_goals (refine goC 1 2 ?_ ?_ <;> first | exact ⟨⟩ | refine Hb.mk fun hb => ?_ | skip)
  all_goals (first | (fail_if_success refine goB 1 ?_) | (
  refine goB 1 ?_
  all_goals (refine WC.skip ?_)
  skip))
  all_goals (first | (fail_if_success refine goB 2 ?_) | (
  refine goB 2 ?_
  all_goals (refine WC.exit ?_)
  all_goals (repeat' (with_reducible first | refine thenP_x ?_ | refine blockP_miss rfl ?_ | refine blockP_hit ?_ | refine blockP_n ?_ | refine thenP_n ?_))
  all_goals (refine Br.out (i := 1000) ?_)
  skip))
  all_goals (refine Gn ?_)
  all_goals (first | (refine Br.keep ?_) | (refine WC.seq ?_))
  all_goals (first | (refine Br.keep ?_) | (refine WC.block ?_))
  all_goals (first | (refine Br.keep ?_) | (refine WC.sr ?_))
  all_goals (refine Go ?_)
  all_goals (first | (refine Br.keep ?_) | (refine WC.sr ?_))
  all_goals (first | (refine Br.keep ?_) | (refine WL.step (ok_move rfl) rfl rfl rfl ?_))
  all_goals (first | (refine Br.keep ?_) | (refine WL.step (ok_move rfl) rfl rfl rfl ?_))
  all_goals (first
               | (refine Br.keep ?_)
               | (obtain ⟨b, o, hA, hbL, hat⟩ := Rd.at_ (hr.ext0 hx1) (by omega)
                  obtain ⟨y, hy⟩ : ∃ y, l[k]? = some y := ⟨_, List.getElem?_eq_getElem (by omega)⟩
                  have hc : At h1 b (o + k * 10) (Fm.cells y) := At.elem Fm.len hat hy))
  all_goals (first | (refine Br.keep ?_) | (refine WL.step (ok_move rfl) rfl rfl rfl ?_))
  all_goals (first | (refine Br.keep ?_) | (refine WL.step (ok_idxAddrA Tryz.underlying22 (fun w => Tryz.sizeOf32 w) rfl rfl rfl (by omega) (by first | rfl | assumption)) rfl rfl rfl ?_))
  all_goals (first | (refine Br.keep ?_) | (refine WL.step (ok_loadN (fun w => Tryz.isAgg32 w) (fun w => Tryz.sizeOf32 w) rfl rfl (by assumption)) rfl rfl rfl ?_))
  all_goals (first
               | (refine Br.keep ?_)
               | (refine WL.callT (vs := [_]) rfl rfl hcf rfl (hp y (List.mem_of_getElem? hy) h1 hx1) rfl rfl rfl ?_
                  rintro _ h2 ⟨rfl, hx2⟩))
  all_goals (first | (refine Br.keep ?_) | (cases hpy : p y))
  all_goals (refine Gn ?_)
  all_goals (first | (refine Br.keep ?_) | (refine Gs [(0, _), (1, _), (5, _), (7, _), (8, _), (16, _)] ?_))
  all_goals (first | (refine Br.keep ?_) | (refine goC 3 4 ?_ ?_ <;> first | exact ⟨⟩ | refine Hb.mk fun hb => ?_ | skip))
  all_goals (first | (fail_if_success refine goB 3 ?_) | (
  refine goB 3 ?_
  all_goals (refine WC.sr ?_)
  all_goals (refine Go ?_)
  all_goals (refine Gs [(4, _)] ?_)
  all_goals (refine Gt ?_)
  all_goals (first | exact ⟨by rw [idxP_no (by rw [List.take_of_length_le (by omega)] at hn; exact hn)], hx1⟩ | exact ⟨by rw [idxP_at hy hpy hn], hx1.trans hx2⟩)
  skip))
  all_goals (first | (fail_if_success refine goB 4 ?_) | (
  refine goB 4 ?_
  all_goals (refine WC.skip ?_)
  skip))
  all_goals (refine Gn ?_)
  all_goals (first | (refine Br.keep ?_) | (refine WC.region ?_))
  all_goals (refine Go ?_)
  all_goals (first | (refine Br.keep ?_) | (exact ⟨k + 1, ⟨rfl, rfl, rfl, rfl, trivial⟩, (by exact ⟨hx1.trans hx2, by omega, take_snoc_p hn hy hpy⟩), (by omega)⟩))
  all_goals (try (refine Br.mk (i := 1000) ?_))
  all_goals (refine Gn ?_)
  all_goals (refine Gs [] ?_)
  all_goals (refine WC.sr ?_)
  all_goals (refine Go ?_)
  all_goals (refine Gt ?_)
  all_goals (first | exact ⟨by rw [idxP_no (by rw [List.take_of_length_le (by omega)] at hn; exact hn)], hx1⟩ | exact ⟨by rw [idxP_at hy hpy hn], hx1.trans hx2⟩)

set_option maxHeartbeats 2000000 in
set_option maxRecDepth 100000 in
theorem has_fm {h : Heap} {v : Value} (l : List Fm) (p : Fm → Bool) {fk : Nat} {fs us : List Value} (hcf : ∀ (args : Array Value) (w : World), (callFunc fk args).run Tryz.prog w = .ok (.enter fk args) w) (hr : Rd h v 10 l.length (l.flatMap Fm.cells)) (hm : l.length ≤ maxLen)
    (hp : ∀ x ∈ l, ∀ h', Ext No h h' → CallsH Tryz.prog fk ⟨fs ++ [.agg ⟨Fm.cells x⟩] ++ us⟩ h' fun u h'' => u = .bool (p x) ∧ Ext No h' h'') :
    CallsH Tryz.prog 18 ⟨[v, .func (.func fk) ⟨fs⟩ ⟨us⟩]⟩ h fun u h' => u = .bool (l.any p) ∧ Ext No h h' := by
  refine calls [(0, _), (1, _)] Tryz.func18 rfl Tryz.ntmps18 rfl ⟨rfl, rfl, trivial⟩ ?_
  all_goals (refine WC.sr ?_)
  all_goals (refine Go ?_)
  all_goals (refine WC.sr ?_)
  all_goals (refine Go ?_)
  all_goals (refine WL.call (vs := [_, _]) rfl (fun a w => Tryz.call44 a w) rfl (indexFunc_fm l p hcf hr hm hp) rfl rfl rfl ?_
             rintro _ h1 ⟨rfl, hx1⟩)
  all_goals (refine WL.step (ok_geq rfl rfl) rfl rfl rfl ?_)
  all_goals (refine Go ?_)
  all_goals (refine Gs [(4, _)] ?_)
  all_goals (refine Gt ?_)
  all_goals (exact ⟨by rw [idxP_geq], hx1⟩)

set_option maxHeartbeats 4000000 in
set_option maxRecDepth 100000 in
theorem plain_fronts {h : Heap} {v : Value} (L : List Fm) (k : Fms h v L) (many : Int) : CallsH Tryz.prog 5 ⟨[v, In many]⟩ h fun u h' => (∃ x, u = .bool x ∧ (x = true → (L.length : Int) ≤ many ∧ ∀ f ∈ L, f.few)) ∧ Ext No h h' := by
  obtain ⟨hr, hl, ok⟩ := k
  have kh := has_fm L (fun f => !plainB f) (fun a w => Tryz.call19 a w) (fs := []) (us := []) hr hl (fun x hx h' hx' => pfs1 x (ok x hx) hx')
  obtain ⟨A, c, rfl, _⟩ := id hr
  unfold maxLen at hl
  refine calls [(0, _), (1, _)] Tryz.func5 rfl Tryz.ntmps5 rfl ⟨rfl, rfl, trivial⟩ ?_
  all_goals (refine WC.sr ?_)
  all_goals (refine Go ?_)
  all_goals (refine WC.sr ?_)
  all_goals (refine Go ?_)
  all_goals (refine goP 9 ?_ ?_ <;> first | exact ⟨⟩ | refine Hb.mk fun hb => ?_ | skip)
  all_goals (refine Gg ?_)
  all_goals (first
               | (refine WL.pass rfl rfl rfl ?_)
               | (refine WL.call (vs := [_, _]) rfl (fun a w => Tryz.call18 a w) rfl (kh) rfl rfl rfl ?_
                  rintro _ h2 ⟨rfl, hx2⟩))
  all_goals (refine Gg ?_)
  all_goals (refine Go ?_)
  all_goals (refine Gs [(4, _)] ?_)
  all_goals (refine Gt ?_)
  all_goals (first
              | (refine ⟨⟨_, rfl, fun z => ?_⟩, hx2⟩
                 refine ⟨by omega, fun f hf => plainB_few ?_⟩
                 have z2 : (L.any fun f => !plainB f) = false := by simpa using z
                 simpa using List.any_eq_false.1 z2 f hf)
              | exact ⟨⟨false, rfl, fun z => by cases z⟩, .refl _ _⟩)
end Go.Proofs.YtbokngiajfdanaaGreatDoor


/-
  SESSIONS (layer 30): what the library's variables hold when a law is called.
-/
namespace Go.Proofs.YtbokngiajfdanaaGreatDoor
open Go Go.RK

def laidP : List (String × DataW Unit) := Rows.sessSkipsRow.laid.filter fun x => x.2.handleName?.isNone
/-- A world in which the one handle is laid. -/
noncomputable def handWorld (os : Os) : World :=
  let w0 := World.holding Tryz.prog os ⟨#[], #[], []⟩
  { w0 with heap := w0.heap.modify 0 fun
      | .cells _ t frozen => .cells #[.iface 164 (.agg #[.pointer (some ⟨4, 65, none⟩)])] t frozen
      | o => o }
noncomputable def laidWorld (os : Os) : World := (handWorld os).layVars Tryz.prog laidP
theorem laidWorld_os (os : Os) : (laidWorld os).os = os := World.layVars_os _ _ _
theorem laidWorld_met (os : Os) (args : Array Value) : laidMetH Tryz.prog Rows.sessSkipsRow.laid ((laidWorld os).forCall (fun _ _ => 0) ⟨#[], args, []⟩).memory := by
  have e1 : (laidP.filter fun x => (laidP.map (·.1)).contains x.1) = laidP := List.filter_eq_self.2 fun x hx => List.contains_iff_mem.2 (List.mem_map.2 ⟨x, hx, rfl⟩)
  have e2 : (laidP.filter fun x => !(laidP.map (·.1)).contains x.1) = [] := List.filter_eq_nil_iff.2 fun x hx => by rw [List.contains_iff_mem.2 (List.mem_map.2 ⟨x, hx, rfl⟩)]; simp
  have h : laidMet Tryz.prog laidP (laidWorld os) := laidMet_layVars (w0 := handWorld os) (laidP.map (·.1)) [] (by rw [e1]; rfl) (by rw [e1]; kernel_rfl) (by rw [e1]; kernel_rfl) (by rw [e2]; exact LaidIn.none)
  exact laidMetH_of_parts (h.of_heap (by simp [World.memory, World.forCall, Input.heap])) (by kernel_rfl)
/-- What the laid variable gives a walk. -/
theorem er_laid {W : World} (h : laidMetH Tryz.prog Rows.sessSkipsRow.laid W) : Er W.heap := by
  have h' : laidMet Tryz.prog laidP W ∧ handlesMet Tryz.prog (Rows.sessSkipsRow.laid.filter fun x => x.2.handleName?.isSome) W := h
  obtain ⟨name, u, ty, e1, e2, e3, e4, e5⟩ := h'.2 _ (List.mem_singleton.2 rfl)
  have en : name = [101, 114, 114, 111, 114] := (Option.some.inj e1).symm
  subst en
  obtain rfl := Option.some.inj (er_rt.symm.trans e2)
  have hm : ty ∈ (List.range 319).filter fun t => Tryz.prog.rowNamed t [101, 114, 114, 111, 114] := List.mem_filter.2 ⟨List.mem_range.2 (by rw [← er_size]; exact e3), e4⟩
  rw [er_one] at hm
  obtain rfl := List.mem_singleton.1 hm
  have hh : typeHandle Tryz.prog 65 = .pointer (some ⟨4, 65, none⟩) := by kernel_rfl
  rw [hh] at e5
  have hc : W.cell? ⟨0, 0, none⟩ = some (.iface 164 (.agg #[.pointer (some ⟨4, 65, none⟩)])) := by simpa using World.var?_cell er_et e5 0
  intro j v hj
  rcases j with _ | j
  · simp only [List.getElem?_cons_zero, Option.some.injEq] at hj
    subst hj
    exact hc
  · simp at hj
end Go.Proofs.YtbokngiajfdanaaGreatDoor


