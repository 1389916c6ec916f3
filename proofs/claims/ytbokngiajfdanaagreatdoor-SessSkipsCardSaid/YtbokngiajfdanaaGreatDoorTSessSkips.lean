/-
  SessSkips holds: behind a fault nothing is said up to the next sync, nor is anything done. No condition.
-/
import Derived.Test.YtbokngiajfdanaaGreatDoorPSessSkips6
import Derived.Test.YtbokngiajfdanaaGreatDoorCards
import Derived.Test.YtbokngiajfdanaaGreatDoorTie
import Derived.SevenTiedAt
namespace Go.Proofs.YtbokngiajfdanaaGreatDoor
open Go Go.RK

theorem equal_same {h : Heap} {v w : Value} (l : List (List UInt8)) (hr : Rd h v 1 l.length (l.map St)) (hs : Rd h w 1 l.length (l.map St)) (hm : l.length ≤ 1000000) :
    CallsH Tryz.prog 14 ⟨[v, w]⟩ h fun u h' => u = .bool true ∧ h' = h := (equal_str l l hr hs hm hm).mono fun u h' ⟨e, e2⟩ => ⟨by rw [e, decide_eq_true rfl], e2⟩
def fmSy : Fm := ⟨83, 0, [], [], [], .slice none 0 0, [], .slice none 0 0, [], .slice none 0 0, [], .slice none 0 0, [], 0⟩
theorem Fm.few.lim {f : Fm} (w : f.few) (x : -9223372036854775808 ≤ f.max ∧ f.max ≤ 9223372036854775807) : FmLim f := ⟨by have := w.name; omega, by have := w.portal; omega, by have := w.text; omega, by have := w.oids; omega, by have := w.params; omega, x⟩
theorem Fm.few.p {f : Fm} (w : f.few) : FmpLim f.p := ⟨by have := w.text; show f.text.length ≤ _; omega, by have := w.oids; show f.oids.length ≤ _; omega, by have := w.params; show (f.params.map Cel.pl).length ≤ _; rw [List.length_map]; omega⟩
def FmX (f : Fm) : Prop := -9223372036854775808 ≤ f.max ∧ f.max ≤ 9223372036854775807
theorem opens_fmx (w : World) : Opens Tryz.prog w 22 (fun p : Value × List Fm => [p.1]) (fun p => Fms w.heap p.1 p.2 ∧ ∀ f ∈ p.2, FmX f) :=
  (opens_slice Tryz.underlying22 (by kernel_rfl) (by decide) Fm.len (opens_fm w)).map id (fun _ => rfl) fun p q => ⟨⟨q.1, q.2.1, fun f hf => (q.2.2.2.1 f hf).1⟩, fun f hf => (q.2.2.2.1 f hf).2.2⟩
set_option maxHeartbeats 4000000 in
set_option maxRecDepth 100000 in
theorem skips30 {h : Heap} {vl vm : Value} (er : Er h) (L M : List Fm) (hL : Fms h vl L) (hM : Fms h vm M) (xL : ∀ f ∈ L, FmX f) (xM : ∀ f ∈ M, FmX f) :
    CallsH Tryz.prog 3 ⟨[vl, vm]⟩ h fun u h' => u = .bool true ∧ Ext No h h' := by
  have kpl := fun h' (x : Ext No h h') => plain_fronts L (hL.ext0 x) 40
  have kpm := fun h' (x : Ext No h h') => plain_fronts M (hM.ext0 x) 40
  have kS := fun (g : Heap) (A : Ad) (s : SP) (n : Nat) (k : SsI h g A s) (lm : Lim n s) (hn : n < 1000000) (x : Ext No h g) => do_i k lm hn er x fmSy (fm0_ok h) ⟨by decide, by decide, by decide, by decide, by decide, by decide⟩
  dsimp only [Fm.cells, fmSy] at kS
  obtain ⟨hrl, hll, okl⟩ := hL
  obtain ⟨hrm, hlm, okm⟩ := hM
  obtain ⟨A1, c1, rfl, _⟩ := id hrl
  obtain ⟨A2, c2, rfl, _⟩ := id hrm
  unfold maxLen at hll hlm
  refine calls [(0, _), (1, _)] Tryz.func3 rfl Tryz.ntmps3 rfl ⟨rfl, rfl, trivial⟩ ?_
  all_goals (refine WC.sr ?_)
  all_goals (refine Go ?_)
  all_goals (refine WC.seq ?_)
  all_goals (refine WC.sr ?_)
  all_goals (refine Go ?_)
  all_goals (refine WL.call (vs := [_, _]) rfl (fun a w => Tryz.call5 a w) rfl (kpl _ (.refl _ _)) rfl rfl rfl ?_
             rintro _ g1 ⟨⟨x1, rfl, few1⟩, hx1⟩
             have X := hx1
             cases x1)
  all_goals (refine Go ?_)
  all_goals (refine goP 16 ?_ ?_ <;> first | exact ⟨⟩ | refine Hb.mk fun hb => ?_ | skip)
  all_goals (refine Gg ?_)
  all_goals (first
               | (refine WL.pass rfl rfl rfl ?_)
               | (refine WL.call (vs := [_, _]) rfl (fun a w => Tryz.call5 a w) rfl (kpm _ X) rfl rfl rfl ?_
                  rintro _ g2 ⟨⟨x2, rfl, few2⟩, hx2⟩
                  replace X := hx1.trans hx2
                  cases x2))
  all_goals (refine Gg ?_)
  all_goals (refine Go ?_)
  all_goals (refine Gs [(0, _), (1, _), (20, _)] ?_)
  all_goals (refine goC 1 2 ?_ ?_ <;> first | exact ⟨⟩ | refine Hb.mk fun hb => ?_ | skip)
  all_goals (first | (fail_if_success refine goB 1 ?_) | (
  refine goB 1 ?_
  all_goals (refine WC.sr ?_)
  all_goals (refine WL.call (vs := []) rfl (fun a w => Tryz.call6 a w) rfl (awake30) rfl rfl rfl ?_
             rintro _ h4 ⟨rfl, hx4⟩)
  all_goals (refine Go ?_)
  all_goals (refine Gs [(4, _)] ?_)
  all_goals (refine Gt ?_)
  all_goals (first | exact ⟨rfl, X.trans hx4⟩ | exact ⟨rfl, X5.trans hx6⟩ | exact ⟨rfl, X12.trans hx13⟩ | (exfalso; clear kpl kpm kS; trace_state; omega))
  skip))
  all_goals (first | (fail_if_success refine goB 2 ?_) | (
  refine goB 2 ?_
  all_goals (refine WC.skip ?_)
  skip))
  all_goals (refine Gn ?_)
  all_goals (refine WC.sr ?_)
  all_goals (obtain ⟨hlL, few1⟩ := few1 rfl
             obtain ⟨hlM, few2⟩ := few2 rfl)
  all_goals (refine WL.call (vs := []) rfl (fun a w => Tryz.call8 a w) rfl (new_eng) rfl rfl rfl ?_
             rintro _ h3 ⟨be, me, rfl, hbe, hme, hge, hgm, hx3⟩)
  all_goals (refine WL.call (vs := [_]) rfl (fun a w => Tryz.call7 a w) rfl (new_i hbe hme (X.trans hx3) (by have := X.size; omega)) rfl rfl rfl ?_
             rintro _ h4 ⟨A, rfl, K4, hx4⟩)
  all_goals (refine Go ?_)
  all_goals (refine WC.seq ?_)
  all_goals (refine WC.sr ?_)
  all_goals (refine Go ?_)
  all_goals (refine WL.step (ok_eqlPn Tryz.underlying25 rfl rfl) rfl rfl rfl ?_)
  all_goals (refine Gn ?_)
  all_goals (refine Gs [(0, _), (1, _), (5, _), (25, _)] ?_)
  all_goals (refine goC 3 4 ?_ ?_ <;> first | exact ⟨⟩ | refine Hb.mk fun hb => ?_ | skip)
  all_goals (first | (fail_if_success refine goB 3 ?_) | (
  refine goB 3 ?_
  all_goals (refine WC.sr ?_)
  all_goals (refine Go ?_)
  all_goals (refine Gs [(4, _)] ?_)
  all_goals (refine Gt ?_)
  all_goals (first | exact ⟨rfl, X.trans hx4⟩ | exact ⟨rfl, X5.trans hx6⟩ | exact ⟨rfl, X12.trans hx13⟩ | (exfalso; clear kpl kpm kS; trace_state; omega))
  skip))
  all_goals (first | (fail_if_success refine goB 4 ?_) | (
  refine goB 4 ?_
  all_goals (refine WC.skip ?_)
  skip))
  all_goals (refine Gn ?_)
  all_goals (refine WC.seq ?_)
  all_goals (refine WC.sr ?_)
  all_goals (refine Go ?_)
  all_goals (refine WC.block ?_)
  -- loop 0: slots that turn [28], that stay [1, 5, 26, 27]
  all_goals (refine WC.loopG (X := Nat × SP) (fun x => ([(28, In (x.1 : Int))] : Fr)) [(1, _), (5, _), (26, _), (27, _)] (fun x h' => x.1 ≤ L.length ∧ SsI h h' A x.2 ∧ Lim x.1 x.2 ∧ Ext No h h') (fun x => L.length - x.1) ((0, sp0)) ⟨rfl, rfl, rfl, rfl, rfl, trivial⟩ (by exact ⟨Nat.zero_le _, K4, sp0_lim, (X.trans hx3).trans hx4⟩) ?_)
  all_goals (rintro ⟨k, s⟩ h5 ⟨hk, K5, lm, X5⟩
             dsimp only at hk K5 lm)
  all_goals (refine WC.sub [(28, _), (1, _), (5, _), (26, _), (27, _)] ⟨rfl, rfl, rfl, rfl, rfl, trivial⟩ ?_)
  all_goals (dsimp only)
  all_goals (refine WC.sr ?_)
  all_goals (refine Go ?_)
  all_goals (refine WC.seq ?_)
  all_goals (refine goC 5 6 ?_ ?_ <;> first | exact ⟨⟩ | refine Hb.mk fun hb => ?_ | skip)
  all_goals (first | (fail_if_success refine goB 5 ?_) | (
  refine goB 5 ?_
  all_goals (refine WC.skip ?_)
  skip))
  all_goals (first | (fail_if_success refine goB 6 ?_) | (
  refine goB 6 ?_
  all_goals (refine WC.exit ?_)
  all_goals (repeat' (with_reducible first | refine thenP_x ?_ | refine blockP_miss rfl ?_ | refine blockP_hit ?_ | refine blockP_n ?_ | refine thenP_n ?_))
  all_goals (refine Br.out (i := 1000) ?_)
  skip))
  all_goals (refine Gn ?_)
  all_goals (first | (refine Br.keep ?_) | (refine WC.seq ?_))
  all_goals (first | (refine Br.keep ?_) | (refine WC.block ?_))
  all_goals (first | (refine Br.keep ?_) | (refine WC.sr ?_))
  all_goals (first
               | (refine Br.keep ?_)
               | (obtain ⟨bF, iF, hFA, _, hat⟩ := Rd.at_ hrl (by omega)
                  obtain ⟨f, hfk⟩ : ∃ f, L[k]? = some f := ⟨_, List.getElem?_eq_getElem (by omega)⟩
                  have hmf := List.mem_of_getElem? hfk
                  have hd : At h5 bF (iF + k * 10) f.cells := At.elem Fm.len (hat.ext X5 nos) hfk
                  have okf := okl f hmf))
  all_goals (first | (refine Br.keep ?_) | (refine WL.step (ok_idxAddrA Tryz.underlying22 (fun w => Tryz.sizeOf32 w) rfl rfl rfl (by omega) (by first | rfl | assumption)) rfl rfl rfl ?_))
  all_goals (first | (refine Br.keep ?_) | (refine WL.step (ok_loadN (fun w => Tryz.isAgg32 w) (fun w => Tryz.sizeOf32 w) rfl rfl (by exact hd)) rfl rfl rfl ?_))
  all_goals (first
               | (refine Br.keep ?_)
               | (refine WL.stepR (okE_alloc (fun w => Tryz.zeroValue32 w)) rfl rfl rfl ?_
                  rintro _ h6 ⟨b7, rfl, hg6, hb6, hx6⟩))
  all_goals (first
               | (refine Br.keep ?_)
               | (refine WL.stepR0 (okE_storeW (fun w => Tryz.sizeOf32 w) rfl rfl rfl (by assumption) rfl okf.one) rfl rfl ?_
                  rintro _ h7 ⟨hb7, hx7⟩))
  all_goals (first | (refine Br.keep ?_) | (have X57 : Ext No h5 h7 := hx6.trans' hx7 (fun q hq e => by omega)))
  all_goals (refine Gn ?_)
  all_goals (first | (refine Br.keep ?_) | (refine WC.region ?_))
  all_goals (refine Go ?_)
  all_goals (first | (refine Br.keep ?_) | (refine WL.step (ok_loadN (fun w => Tryz.isAgg32 w) (fun w => Tryz.sizeOf32 w) rfl rfl (by exact At.of_block hb7)) rfl rfl rfl ?_))
  all_goals (first
               | (refine Br.keep ?_)
               | (refine WL.call (vs := [_, _]) rfl (fun a w => Tryz.call9 a w) rfl (do_i (K5.ext0 X57) lm (by omega) er (X5.trans X57) f okf ((few1 f hmf).lim (xL f hmf))) rfl rfl rfl ?_
                  rintro u8 h8 ⟨_, K8, x8⟩))
  all_goals (refine Gn ?_)
  all_goals (first | (refine Br.keep ?_) | (refine Gs [(1, _), (5, _), (26, _), (27, _), (28, _)] ?_))
  all_goals (first | (refine Br.keep ?_) | (refine WC.region ?_))
  all_goals (refine Go ?_)
  all_goals (first | (refine Br.keep ?_) | (exact ⟨(k + 1, (doP s f.p).1), ⟨rfl, rfl, rfl, rfl, rfl, trivial⟩, (by exact ⟨by dsimp only; omega, K8, doP_lim lm f.p (few1 f hmf).p, (X5.trans X57).trans' x8 (fun q hq e => by have := e.1; omega)⟩), (by (try simp only []); omega)⟩))
  all_goals (try (refine Br.mk (i := 1000) ?_))
  all_goals (refine Gn ?_)
  all_goals (refine Gs [(1, _), (5, _)] ?_)
  all_goals (refine WC.seq ?_)
  all_goals (refine WC.sr ?_)
  all_goals (obtain ⟨st, sk, ov, cn, LL, PP⟩ := s
             have hlL2 := lm.k
             dsimp only at hlL2)
  all_goals (refine WL.step (ok_move rfl) rfl rfl rfl ?_)
  all_goals (refine WL.call (vs := [_]) rfl (fun a w => Tryz.call10 a w) rfl (skips_v K5.blk) rfl rfl rfl ?_
             rintro _ hz ⟨rfl, _⟩
             subst hz)
  all_goals (cases sk)
  all_goals (refine Go ?_)
  all_goals (refine goP 39 ?_ ?_ <;> first | exact ⟨⟩ | refine Hb.mk fun hb => ?_ | skip)
  all_goals (refine Gg ?_)
  all_goals (first
               | (refine WL.pass rfl rfl rfl ?_)
               | (refine WL.call (vs := [_]) rfl (fun a w => Tryz.call11 a w) rfl (over_v K5.blk) rfl rfl rfl ?_
                  rintro _ hz ⟨rfl, _⟩
                  subst hz))
  all_goals (cases ov)
  all_goals (refine Go ?_)
  all_goals (refine Gs [(1, _), (5, _), (42, _)] ?_)
  all_goals (refine goC 7 8 ?_ ?_ <;> first | exact ⟨⟩ | refine Hb.mk fun hb => ?_ | skip)
  all_goals (first | (fail_if_success refine goB 7 ?_) | (
  refine goB 7 ?_
  all_goals (refine WC.sr ?_)
  all_goals (refine WL.call (vs := []) rfl (fun a w => Tryz.call6 a w) rfl (awake30) rfl rfl rfl ?_
             rintro _ h6 ⟨rfl, hx6⟩)
  all_goals (refine Go ?_)
  all_goals (refine Gs [(4, _)] ?_)
  all_goals (refine Gt ?_)
  all_goals (first | exact ⟨rfl, X.trans hx4⟩ | exact ⟨rfl, X5.trans hx6⟩ | exact ⟨rfl, X12.trans hx13⟩ | (exfalso; clear kpl kpm kS; trace_state; omega))
  skip))
  all_goals (first | (fail_if_success refine goB 8 ?_) | (
  refine goB 8 ?_
  all_goals (refine WC.skip ?_)
  skip))
  all_goals (refine Gn ?_)
  all_goals (refine WC.sr ?_)
  all_goals (refine Go ?_)
  all_goals (refine WL.call (vs := [_]) rfl (fun a w => Tryz.call12 a w) rfl (names_i K5 (by dsimp only; omega)) rfl rfl rfl ?_
             rintro vN h6 ⟨rN, hx6⟩
             have K6 := K5.ext0 hx6
             have X6 := X5.trans hx6
             have hnl : (namesP ⟨st, true, false, cn, LL, PP⟩).length ≤ 1000000 := by unfold namesP srtS; simp; omega)
  all_goals (refine Go ?_)
  all_goals (refine WL.call (vs := [_]) rfl (fun a w => Tryz.call13 a w) rfl (status_v K6.blk) rfl rfl rfl ?_
             rintro _ hz ⟨rfl, _⟩
             subst hz)
  all_goals (refine Go ?_)
  all_goals (refine Gs [(1, _), (5, _), (8, _), (9, _)] ?_)
  all_goals (refine WC.seq ?_)
  all_goals (refine WC.sr ?_)
  all_goals (refine Go ?_)
  all_goals (refine WC.block ?_)
  -- loop 1: slots that turn [50], that stay [5, 8, 9, 48, 49]
  all_goals (refine WC.loopG (X := Nat) (fun x => ([(50, In (x : Int))] : Fr)) [(5, _), (8, _), (9, _), (48, _), (49, _)] (fun x h' => x ≤ M.length ∧ SsI h h' A ⟨st, true, false, cn, LL, PP⟩ ∧ Own h' vN 9 1 (namesP ⟨st, true, false, cn, LL, PP⟩).length ((namesP ⟨st, true, false, cn, LL, PP⟩).map St) ∧ Ext No h h') (fun x => M.length - x) (0) ⟨rfl, rfl, rfl, rfl, rfl, rfl, trivial⟩ (by exact ⟨Nat.zero_le _, K6, rN, X6⟩) ?_)
  all_goals (rintro j h7 ⟨hj, K7, rN7, X7⟩
             have KZ := K7
             have XZ := X7)
  all_goals (refine WC.sub [(50, _), (5, _), (8, _), (9, _), (48, _), (49, _)] ⟨rfl, rfl, rfl, rfl, rfl, rfl, trivial⟩ ?_)
  all_goals (refine WC.sr ?_)
  all_goals (refine Go ?_)
  all_goals (refine WC.seq ?_)
  all_goals (refine goC 9 10 ?_ ?_ <;> first | exact ⟨⟩ | refine Hb.mk fun hb => ?_ | skip)
  all_goals (first | (fail_if_success refine goB 9 ?_) | (
  refine goB 9 ?_
  all_goals (refine WC.skip ?_)
  skip))
  all_goals (first | (fail_if_success refine goB 10 ?_) | (
  refine goB 10 ?_
  all_goals (refine WC.exit ?_)
  all_goals (repeat' (with_reducible first | refine thenP_x ?_ | refine blockP_miss rfl ?_ | refine blockP_hit ?_ | refine blockP_n ?_ | refine thenP_n ?_))
  all_goals (refine Br.out (i := 1002) ?_)
  skip))
  all_goals (refine Gn ?_)
  all_goals (first | (refine Br.keep ?_) | (refine WC.seq ?_))
  all_goals (first | (refine Br.keep ?_) | (refine WC.block ?_))
  all_goals (first | (refine Br.keep ?_) | (refine WC.sr ?_))
  all_goals (first
               | (refine Br.keep ?_)
               | (obtain ⟨bF, iF, hFA, _, hat⟩ := Rd.at_ hrm (by omega)
                  obtain ⟨f, hfk⟩ : ∃ f, M[j]? = some f := ⟨_, List.getElem?_eq_getElem (by omega)⟩
                  have hmf := List.mem_of_getElem? hfk
                  have hd : At h7 bF (iF + j * 10) f.cells := At.elem Fm.len (hat.ext X7 nos) hfk
                  have okf := okm f hmf))
  all_goals (first | (refine Br.keep ?_) | (refine WL.step (ok_idxAddrA Tryz.underlying22 (fun w => Tryz.sizeOf32 w) rfl rfl rfl (by omega) (by first | rfl | assumption)) rfl rfl rfl ?_))
  all_goals (first | (refine Br.keep ?_) | (refine WL.step (ok_loadN (fun w => Tryz.isAgg32 w) (fun w => Tryz.sizeOf32 w) rfl rfl (by exact hd)) rfl rfl rfl ?_))
  all_goals (first
               | (refine Br.keep ?_)
               | (refine WL.stepR (okE_alloc (fun w => Tryz.zeroValue32 w)) rfl rfl rfl ?_
                  rintro _ h8 ⟨b7, rfl, hg8, hb8, hx8⟩))
  all_goals (first
               | (refine Br.keep ?_)
               | (refine WL.stepR0 (okE_storeW (fun w => Tryz.sizeOf32 w) rfl rfl rfl (by assumption) rfl okf.one) rfl rfl ?_
                  rintro _ h9 ⟨hb9, hx9⟩))
  all_goals (first
               | (refine Br.keep ?_)
               | (have X79 : Ext No h7 h9 := hx8.trans' hx9 (fun q hq e => by omega)
                  have KZ := K7.ext0 X79
                  have XZ := X7.trans X79))
  all_goals (refine Gn ?_)
  all_goals (first | (refine Br.keep ?_) | (refine WC.seq ?_))
  all_goals (first | (refine Br.keep ?_) | (refine WC.sr ?_))
  all_goals (refine Go ?_)
  all_goals (first | (refine Br.keep ?_) | (refine WL.ld rfl (by first | exact cell_blk hb9 rfl | assumption | exact cell_blk (by assumption) rfl) rfl rfl rfl ?_))
  all_goals (refine Go ?_)
  all_goals (first | (refine Br.keep ?_) | (refine goP 57 ?_ ?_ <;> first | exact ⟨⟩ | refine Hb.mk fun hb => ?_ | skip))
  all_goals (refine Gg ?_)
  all_goals (first | (refine Br.keep ?_) | (first | (refine WL.pass rfl rfl rfl ?_) | (refine WL.ld rfl (by first | exact cell_blk hb9 rfl | assumption | exact cell_blk (by assumption) rfl) rfl rfl rfl ?_)))
  all_goals (refine Gg ?_)
  all_goals (refine Go ?_)
  all_goals (first | (refine Br.keep ?_) | (refine Gs [(5, _), (8, _), (9, _), (11, _), (48, _), (49, _), (50, _), (61, _)] ?_))
  all_goals (first | (refine Br.keep ?_) | (refine goC 11 12 ?_ ?_ <;> first | exact ⟨⟩ | refine Hb.mk fun hb => ?_ | skip))
  all_goals (first | (fail_if_success refine goB 11 ?_) | (
  refine goB 11 ?_
  all_goals (refine WC.exit ?_)
  all_goals (repeat' (with_reducible first | refine thenP_x ?_ | refine blockP_miss rfl ?_ | refine blockP_hit ?_ | refine blockP_n ?_ | refine thenP_n ?_))
  all_goals (refine Br.out (i := 1002) ?_)
  skip))
  all_goals (first | (fail_if_success refine goB 12 ?_) | (
  refine goB 12 ?_
  all_goals (refine WC.skip ?_)
  skip))
  all_goals (refine Gn ?_)
  all_goals (first | (refine Br.keep ?_) | (refine WC.sr ?_))
  all_goals (refine Go ?_)
  all_goals (first | (refine Br.keep ?_) | (refine WL.step (ok_loadN (fun w => Tryz.isAgg32 w) (fun w => Tryz.sizeOf32 w) rfl rfl (by exact At.of_block hb9)) rfl rfl rfl ?_))
  all_goals (first
               | (refine Br.keep ?_)
               | (refine WL.call (vs := [_, _]) rfl (fun a w => Tryz.call9 a w) rfl ((by have q := do_i (K7.ext0 X79) lm (by omega) er (X7.trans X79) f okf ((few2 f hmf).lim (xM f hmf)); rw [doP_skip f.p rfl rfl (show f.kind ≠ 88 by omega) (show f.kind ≠ 83 by omega)] at q; exact q)) rfl rfl rfl ?_
                  rintro u10 h10 ⟨⟨B, OB, pB⟩, K10, x10⟩
                  replace K10 : SsI h h10 A ⟨st, true, false, cn, LL, PP⟩ := K10
                  obtain rfl : B = [] := List.map_eq_nil_iff.1 pB
                  obtain ⟨A10, c10, rfl, _⟩ := OB.own.slice
                  have X10 : Ext No h h10 := (X7.trans X79).trans' x10 (fun q hq e => by have := e.1; omega)))
  all_goals (refine Go ?_)
  all_goals (first | (refine Br.keep ?_) | (refine goP 67 ?_ ?_ <;> first | exact ⟨⟩ | refine Hb.mk fun hb => ?_ | skip))
  all_goals (refine Gg ?_)
  all_goals (first
               | (refine Br.keep ?_)
               | (first
                    | (refine WL.pass rfl rfl rfl ?_)
                    | (refine WL.call (vs := [_]) rfl (fun a w => Tryz.call10 a w) rfl (skips_v K10.blk) rfl rfl rfl ?_
                       rintro _ hz ⟨rfl, _⟩
                       subst hz)))
  all_goals (refine Gg ?_)
  all_goals (refine Go ?_)
  all_goals (first | (refine Br.keep ?_) | (refine goP 72 ?_ ?_ <;> first | exact ⟨⟩ | refine Hb.mk fun hb => ?_ | skip))
  all_goals (refine Gg ?_)
  all_goals (first
               | (refine Br.keep ?_)
               | (first
                    | (refine WL.pass rfl rfl rfl ?_)
                    | (refine WL.call (vs := [_]) rfl (fun a w => Tryz.call12 a w) rfl (names_i K10 (by dsimp only; omega)) rfl rfl rfl ?_
                       rintro vM h11 ⟨rM, hx11⟩
                       have rN9 := rN7.ext X79 (fun _ _ => nos)
                       have rN11 := (rN9.ext x10 (bh_own rN9 (by decide))).ext hx11 (fun _ _ => nos))))
  all_goals (refine Gg ?_)
  all_goals (first
               | (refine Br.keep ?_)
               | (first
                    | (refine WL.pass rfl rfl rfl ?_)
                    | (refine WL.call (vs := [_, _]) rfl (fun a w => Tryz.call14 a w) rfl (equal_same _ rM.rd rN11.rd hnl) rfl rfl rfl ?_
                       rintro _ hq ⟨rfl, hz⟩
                       replace hz := hz.symm
                       subst hz)))
  all_goals (refine Gg ?_)
  all_goals (refine Go ?_)
  all_goals (first | (refine Br.keep ?_) | (refine goP 79 ?_ ?_ <;> first | exact ⟨⟩ | refine Hb.mk fun hb => ?_ | skip))
  all_goals (refine Gg ?_)
  all_goals (first
               | (refine Br.keep ?_)
               | (first
                    | (refine WL.pass rfl rfl rfl ?_)
                    | (refine WL.call (vs := [_]) rfl (fun a w => Tryz.call13 a w) rfl (status_v (K10.ext0 hx11).blk) rfl rfl rfl ?_
                       rintro _ hz ⟨rfl, _⟩
                       subst hz)))
  all_goals (refine Gg ?_)
  all_goals (refine Go ?_)
  all_goals (first | (refine Br.keep ?_) | (refine Gs [(5, _), (8, _), (9, _), (48, _), (49, _), (50, _), (84, _)] ?_))
  all_goals (first | (refine Br.keep ?_) | (refine goC 13 14 ?_ ?_ <;> first | exact ⟨⟩ | refine Hb.mk fun hb => ?_ | skip))
  all_goals (first | (fail_if_success refine goB 13 ?_) | (
  refine goB 13 ?_
  all_goals (refine WC.sr ?_)
  all_goals (refine Go ?_)
  all_goals (refine Gs [(4, _)] ?_)
  all_goals (refine Gt ?_)
  all_goals (first | exact ⟨rfl, X.trans hx4⟩ | exact ⟨rfl, X5.trans hx6⟩ | exact ⟨rfl, X12.trans hx13⟩ | (exfalso; clear kpl kpm kS; trace_state; omega))
  skip))
  all_goals (first | (fail_if_success refine goB 14 ?_) | (
  refine goB 14 ?_
  all_goals (refine WC.skip ?_)
  skip))
  all_goals (refine Gn ?_)
  all_goals (first | (refine Br.keep ?_) | (refine WC.region ?_))
  all_goals (refine Go ?_)
  all_goals (first | (refine Br.keep ?_) | (exact ⟨j + 1, ⟨rfl, rfl, rfl, rfl, rfl, rfl, trivial⟩, (by exact ⟨by omega, K10.ext0 hx11, rN11, X10.trans hx11⟩), (by omega)⟩))
  all_goals (try (refine Br.mk (i := 1002) ?_))
  all_goals (refine Gn ?_)
  all_goals (refine Gs [(5, _), (9, _)] ?_)
  all_goals (refine WC.sr ?_)
  all_goals (refine Go ?_)
  all_goals (refine WL.step (ok_buildF (vs := [_]) (cs := [_, _, _, _, _, _, _, _, _, _]) (fun | [a0] => [a0, (.int .u8 0), (St []), (St []), (St []), (.slice none 0 0), (.slice none 0 0), (.slice none 0 0), (.slice none 0 0), (.int .i64 0)] | _ => []) rfl rfl (by kernel_rfl)) rfl rfl rfl ?_)
  all_goals (refine WL.call (vs := [_, _]) rfl (fun a w => Tryz.call9 a w) rfl (kS _ A _ _ KZ lm (by omega) XZ) rfl rfl rfl ?_
             rintro u12 h12 ⟨⟨B, OB, pB⟩, K12, x12⟩
             replace pB : B.map Bk.p = [{ kind := 90, status := st }] := pB
             replace K12 : SsI h h12 A ⟨st, false, false, cn, LL, if st = 73 then [] else PP⟩ := K12
             have X12 : Ext No h h12 := XZ.trans' x12 (fun q hq e => by have := e.1; omega)
             obtain ⟨b, rfl⟩ : ∃ b, B = [b] := List.length_eq_one_iff.1 (by simpa using congrArg List.length pB)
             have pb : b.p = { kind := 90, status := st } := by simpa using pB
             have hbk : b.kind = 90 := congrArg BkP.kind pb
             have hbs : b.status = st := congrArg BkP.status pb
             obtain ⟨A12, c12, e12, _⟩ := OB.own.slice
             rw [List.length_singleton] at e12
             subst e12
             obtain ⟨bB, oB, rfl, hbB, hatB⟩ := Rd.at_ OB.own.rd (by decide))
  all_goals (refine Go ?_)
  all_goals (refine WC.sr ?_)
  all_goals (refine Go ?_)
  all_goals (refine goP 92 ?_ ?_ <;> first | exact ⟨⟩ | refine Hb.mk fun hb => ?_ | skip)
  all_goals (refine Gg ?_)
  all_goals (first | (refine WL.pass rfl rfl rfl ?_) | (refine WL.step (ok_idxAddrA Tryz.underlying33 (fun w => Tryz.sizeOf42 w) rfl rfl rfl (by first | omega | (simp <;> omega)) (by first | rfl | assumption) (k := 0)) rfl rfl rfl ?_))
  all_goals (refine Gg ?_)
  all_goals (first | (refine WL.pass rfl rfl rfl ?_) | (refine WL.ld rfl (by first | exact hatB.get 0 rfl (by omega) | assumption | exact cell_blk (by assumption) rfl) rfl rfl rfl ?_))
  all_goals (refine Gg ?_)
  all_goals (refine Go ?_)
  all_goals (refine goP 99 ?_ ?_ <;> first | exact ⟨⟩ | refine Hb.mk fun hb => ?_ | skip)
  all_goals (refine Gg ?_)
  all_goals (first | (refine WL.pass rfl rfl rfl ?_) | (refine WL.step (ok_idxAddrA Tryz.underlying33 (fun w => Tryz.sizeOf42 w) rfl rfl rfl (by first | omega | (simp <;> omega)) (by first | rfl | assumption) (k := 0)) rfl rfl rfl ?_))
  all_goals (refine Gg ?_)
  all_goals (first | (refine WL.pass rfl rfl rfl ?_) | (refine WL.ld rfl (by first | exact hatB.get 1 rfl (by omega) | assumption | exact cell_blk (by assumption) rfl) rfl rfl rfl ?_))
  all_goals (refine Gg ?_)
  all_goals (refine Go ?_)
  all_goals (refine goP 107 ?_ ?_ <;> first | exact ⟨⟩ | refine Hb.mk fun hb => ?_ | skip)
  all_goals (refine Gg ?_)
  all_goals (first
               | (refine WL.pass rfl rfl rfl ?_)
               | (refine WL.call (vs := [_]) rfl (fun a w => Tryz.call10 a w) rfl (skips_v K12.blk) rfl rfl rfl ?_
                  rintro _ hz ⟨rfl, _⟩
                  subst hz))
  all_goals (refine Gg ?_)
  all_goals (refine Go ?_)
  all_goals (refine goP 112 ?_ ?_ <;> first | exact ⟨⟩ | refine Hb.mk fun hb => ?_ | skip)
  all_goals (first
               | (refine WL.pass rfl rfl rfl ?_)
               | (refine WL.call (vs := []) rfl (fun a w => Tryz.call6 a w) rfl (awake30) rfl rfl rfl ?_
                  rintro _ h13 ⟨rfl, hx13⟩))
  all_goals (refine Go ?_)
  all_goals (refine Gs [(4, _)] ?_)
  all_goals (refine Gt ?_)
  all_goals (first | exact ⟨rfl, X.trans hx4⟩ | exact ⟨rfl, X5.trans hx6⟩ | exact ⟨rfl, X12.trans hx13⟩ | (exfalso; clear kpl kpm kS; trace_state; omega))
namespace LSessSkips
open Go.ChangeShapes Go.WideShapes Go.ChangeAt Go.RowKit
open Go.ChangeMaps (open_string shut_string)
theorem own : ownKnob Tryz.prog.godebug = none := by kernel_rfl
theorem laidOut : laidOutB Tryz.prog = true := by kernel_rfl
set_option maxRecDepth 100000 in
theorem lifted (os : Os) (started : os.Started) (H : Type) (enc : TypeId × Value → H) :
    ReturnsInHanded {} Tryz.checked os 3 .any (fun w args => (Rows.sessSkipsSpec.pre enc Tryz.prog Tryz.f3 [] false w args ∧ laidMetH Tryz.prog Rows.sessSkipsRow.laid w) ∧ sizedMet enc Tryz.prog Tryz.f3 (OpenSpec.ofChange Rows.sessSkipsSpec) false w args) (Rows.sessSkipsSpec.post enc Tryz.prog Tryz.f3 false true false false) := by
  refine returnsInHanded_of_change_and (C := Tryz.checked) (X := fun w _ => laidMetH Tryz.prog Rows.sessSkipsRow.laid w) (fun _ _ _ hh h => h.of_heap hh) own started (by kernel_rfl) Tryz.func3
    (ChangeSpec.witness_at (enc := enc) (C := Tryz.checked) (os := os) (X := fun w _ => laidMetH Tryz.prog Rows.sessSkipsRow.laid w) false (laidWorld os) #[.slice none 0 0, .slice none 0 0] 8 (laidWorld_os os) (by kernel_rfl) (by kernel_rfl) (by kernel_rfl) (by kernel_rfl) (by kernel_rfl) (laidWorld_met os _)) ?_
  intro W base args ds gs before hval0 hW hcnd hsz0 hL _
  have hval : ∀ (j : Nat) t v, Tryz.f3.params[j]? = some t → args[j]? = some v → Value.okWide Tryz.prog W .any base t v := hval0
  have hsz := hsz0
  rw [Tryz.params3] at hsz
  clear hsz0
  have hW' := hW
  obtain ⟨p, q, hA0, hV, rfl, hfz, hnd⟩ := hW
  have hA : DataW.TrodAll enc Tryz.prog W 0 (fun _ => true) true Tryz.f3.params.toList args.toList ds p := hA0
  rw [Tryz.params3] at hA hval
  obtain ⟨v0, vs0, d0, ds0, p0, q0, hargs, rfl, rfl, h0, r0⟩ := trodAll_cons hA
  obtain ⟨v1, vs1, d1, ds1, p1, q1, rfl, rfl, rfl, h1, r1⟩ := trodAll_cons r0
  obtain ⟨rfl, rfl, rfl⟩ := trodAll_nil r1
  obtain rfl : args = #[v0, v1] := by cases args; simp_all
  obtain ⟨rfl, rfl⟩ := trodVars_none hV
  have hz0 : ∀ n ∈ d0.weights Tryz.prog 22, n ≤ reachBytes := fun n hn => by simpa using List.all_eq_true.1 hsz n (DataW.weights_mem_each (j := 0) rfl rfl n hn)
  have k0 := h0
  have lt0 : ∀ x ∈ p0, x.block < W.heap.size := by obtain ⟨m, hm⟩ := k0; exact DataW.trod_lt m _ _ _ hm
  obtain ⟨A0, n0, c0, rfl⟩ := okWide_slice Tryz.underlying22 (hval 0 22 v0 rfl rfl)
  obtain ⟨fu0, hf0⟩ := h0
  obtain ⟨⟨v0, l0⟩, e0, w0⟩ := opens_fmx W _ _ _ _ _ _ _ _ hf0 hz0
  obtain rfl : .slice A0 n0 c0 = v0 := by simpa [Value.cells] using e0
  have hz1 : ∀ n ∈ d1.weights Tryz.prog 22, n ≤ reachBytes := fun n hn => by simpa using List.all_eq_true.1 hsz n (DataW.weights_mem_each (j := 1) rfl rfl n hn)
  have k1 := h1
  have lt1 : ∀ x ∈ p1, x.block < W.heap.size := by obtain ⟨m, hm⟩ := k1; exact DataW.trod_lt m _ _ _ hm
  obtain ⟨A1, n1, c1, rfl⟩ := okWide_slice Tryz.underlying22 (hval 1 22 v1 rfl rfl)
  obtain ⟨fu1, hf1⟩ := h1
  obtain ⟨⟨v1, l1⟩, e1, w1⟩ := opens_fmx W _ _ _ _ _ _ _ _ hf1 hz1
  obtain rfl : .slice A1 n1 c1 = v1 := by simpa [Value.cells] using e1
  clear hA0 hval0
  have er := er_laid hL
  refine (law_calls (skips30 er l0 l1 w0.1 w1.1 w0.2 w1.2)).mono fun e W' ⟨he, bel⟩ => ?_
  subst he
  exact ⟨_, rfl, _, _, _, [], _, [], hW', trodAll_mk1 (shut_bool Tryz.underlying4 _), (trodAll_cons_mk (Below.trod laidOut (by kernel_rfl) (of_decide_eq_true (by kernel_rfl)) k0 bel lt0) (trodAll_cons_mk (Below.trod laidOut (by kernel_rfl) (of_decide_eq_true (by kernel_rfl)) k1 bel lt1) trodAll_mk0)), rfl, bel.frame _, fun h => by cases h⟩
theorem over : Rows.sessSkipsRow.holds Tryz.pinned (OpenSpec.ofChange Rows.sessSkipsSpec) :=
  OpenClaim.holds_of_wide 3 Tryz.f3 rfl rfl rfl rfl rfl rfl rfl ⟨rfl, rfl, rfl, rfl, rfl⟩ rfl rfl rfl rfl rfl (by kernel_rfl) Tryz.func3 (by kernel_rfl)
    (of_decide_eq_true (by kernel_rfl)) (by unfold Func.isWrapper; first | (rw [if_pos (by decide +kernel)]; kernel_rfl) | (rw [if_neg (by decide +kernel)]; exact ⟨rfl, rfl⟩))
    (fun os started H enc _ => lifted os started H enc)
end LSessSkips
theorem sessSkips_card : Rows.SessSkipsCardSaid :=
  Claim7.holds_tied_plain_at .later [] Rows.sessSkipsCard.laidKinds true Rows.sessSkipsCard.stood.harness true
    LSessSkips.over (fun _ h => by cases h) (by kernel_rfl) (fun _ h => by cases h) sessSkips_row_tie rfl ⟨rfl, rfl⟩ (by kernel_rfl) rfl
    (fun f fn hf hfn => by
      obtain rfl : f = 3 := Option.some.inj ((show Tryz.prog.funcNamed Rows.sessSkipsRow.func = some 3 by kernel_rfl).symm.trans hf) |>.symm
      obtain rfl : fn = Tryz.f3 := (Option.some.inj (Tryz.func3.symm.trans hfn)).symm
      exact ⟨by kernel_rfl, fun j t ht => by
        rw [Tryz.params3] at ht
        have hm : t ∈ [22, 22] := by simpa using Array.mem_of_getElem? ht
        have hall : ([22, 22].all fun u => !Tryz.prog.wantsStandIn u) = true := by kernel_rfl
        exact (show Tryz.prog.wantsStandIn t = false by simpa using List.all_eq_true.1 hall t hm)⟩)
    (by kernel_rfl)
end Go.Proofs.YtbokngiajfdanaaGreatDoor

