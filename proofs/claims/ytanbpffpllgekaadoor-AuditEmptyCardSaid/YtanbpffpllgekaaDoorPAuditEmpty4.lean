/-
  SEVERAL TEXTS IN ONE: Aud8, Aud9, As, As2, As3, As4, As5, K22, AuE, AuE2, AuE3, AuE4, AuE5, VwOp, AuL.
-/
import Derived.Test.YtanbpffpllgekaaDoorPAuditEmpty3
import Derived.WalkKit
import Derived.LaidEql
import Derived.Stop.Asserts
import Derived.RowKitTokens
import Derived.Laws.MakeOwn
import Derived.Test.YtanbpffpllgekaaDoorRows
import Derived.LaidLaws
import Derived.LaidHandle
import Derived.Stop.Joined
/-
  AUDIT (layer 47): settings that may be (layer 35), the code's Check.
-/
namespace Go.Proofs.YtanbpffpllgekaaDoor
open Go Go.RK

def limB (c : Cf) : Bool := (bndL c).all bdB && !(decide (c.bf = c.ms) || c.ps.any fun p => !fairB p)
def errN (b : Bool) : Value := In (if b then 0 else 1)
theorem all_hit {α : Type} {l : List α} {k : Nat} {x : α} {p : α → Bool} (h : l[k]? = some x) (hx : p x = false) : l.all p = false := List.all_eq_false.2 ⟨x, List.mem_of_getElem? h, by simp [hx]⟩
theorem all_no {α : Type} {l : List α} {k : Nat} {p : α → Bool} (h : ∀ x ∈ l.take k, p x = true) (hk : l.length ≤ k) : l.all p = true := by
  rw [List.take_of_length_le hk] at h
  exact List.all_eq_true.2 h
set_option maxRecDepth 100000 in
theorem limit_check {h : Heap} (c : Cf) (oc : c.ok h) : CallsH Tryd.prog 18 ⟨[.agg ⟨c.cells⟩]⟩ h fun u h' => u = errN (limB c) ∧ Ext No h h' := by
  have k1 := fun h' (hx : Ext No h h') => bounds_v c (oc.ext0 hx)
  have hps := oc.p
  have hpl := oc.pl
  obtain ⟨A5, c5, e5, _⟩ := id oc.p
  unfold Cf.cells at k1 ⊢
  rw [e5] at k1 hps ⊢
  have hlen : (bndL c).length = 7 := rfl
  refine calls [(0, _)] Tryd.func18 rfl Tryd.ntmps18 rfl ⟨rfl, trivial⟩ ?_
  all_goals (refine WC.seq ?_)
  all_goals (refine WC.region ?_)
  all_goals (refine WL.stepR (okE_box rfl) rfl rfl rfl ?_
             rintro _ h1 ⟨b1, rfl, hg1, hb1, hx1⟩)
  all_goals (refine WL.step (ok_assign rfl) rfl rfl rfl ?_)
  all_goals (refine WL.nil ?_)
  all_goals (repeat' (with_reducible first | refine thenP_n ?_ | refine blockP_n ?_))
  all_goals (refine WC.seq ?_)
  all_goals (refine WC.seq ?_)
  all_goals (refine WC.region ?_)
  all_goals (refine WL.step (ok_loadN (fun w => Tryd.isAgg24 w) (fun w => Tryd.sizeOf24 w) rfl rfl (by exact At.of_block hb1)) rfl rfl rfl ?_)
  all_goals (refine WL.call (vs := [_]) rfl (fun a w => Tryd.call33 a w) rfl (k1 _ hx1) rfl rfl rfl ?_
             rintro v2 h2 ⟨hr2, hx2⟩)
  all_goals (obtain ⟨A2, c2, rfl, _⟩ := id hr2
             have hb12 := hx2.obj hb1 nos
             have hX2 := hx1.trans hx2)
  all_goals (refine WL.step (ok_lenL rfl Tryd.underlying66 rfl) rfl rfl rfl ?_)
  all_goals (refine WL.step (ok_move rfl) rfl rfl rfl ?_)
  all_goals (refine WL.nil ?_)
  all_goals (repeat' (with_reducible first | refine thenP_n ?_ | refine blockP_n ?_))
  all_goals (refine WC.block ?_)
  -- loop 0: slots that turn [8], that stay [1, 6, 7]
  all_goals (refine WC.loopG (X := Nat) (fun x => ([(8, In (x : Int))] : Fr)) [(1, _), (6, _), (7, _)] (fun k h' => Ext No h2 h' ∧ k ≤ (bndL c).length ∧ ∀ x ∈ (bndL c).take k, bdB x = true) (fun k => (bndL c).length - k) (0) ⟨rfl, rfl, rfl, rfl, trivial⟩ (by exact ⟨.refl _ _, Nat.zero_le _, fun x hx => by cases hx⟩) ?_)
  all_goals (rintro k h3 ⟨hx3, hk, hn⟩
             have hb13 := hx3.obj hb12 nos)
  all_goals (refine WC.sub [(8, _), (1, _), (6, _), (7, _)] ⟨rfl, rfl, rfl, rfl, trivial⟩ ?_)
  all_goals (refine WC.seq ?_)
  all_goals (refine WC.region ?_)
  all_goals (first | (refine WL.step (OkP.bool_t (by omega) (ok_lss rfl rfl)) rfl rfl rfl ?_) | (refine WL.step (OkP.bool_f (by omega) (ok_lss rfl rfl)) rfl rfl rfl ?_) | (refine WL.step (ok_lss rfl rfl) rfl rfl rfl ?_))
  all_goals (refine WL.nil ?_)
  all_goals (repeat' (with_reducible first | refine thenP_n ?_ | refine blockP_n ?_))
  all_goals (refine WC.seq ?_)
  all_goals (first | refine WC.condB_t 1 rfl ?_ | refine WC.condB_f 2 rfl ?_ | (refine WC.condB 1 2 rfl (fun hb => ?_) (fun hb => ?_) <;> (first | replace hb := of_decide_eq_true hb | replace hb := of_decide_eq_false hb | replace hb := of_decide_eq_false (nt hb) | replace hb := of_decide_eq_true (nf hb) | skip)))
  all_goals (first
    | (fail_if_success (refine Br.mk (i := 1) ?_))
    | (refine Br.mk (i := 1) ?_
       all_goals (refine WC.skip ?_)
       skip))
  all_goals (first
    | (fail_if_success (refine Br.mk (i := 2) ?_))
    | (refine Br.mk (i := 2) ?_
       all_goals (refine WC.exit ?_)
       all_goals (repeat' (with_reducible first | refine thenP_x ?_ | refine blockP_miss rfl ?_ | refine blockP_hit ?_ | refine blockP_n ?_ | refine thenP_n ?_))
       all_goals (refine Br.out (i := 1000) ?_)
       skip))
  all_goals (first | (refine Br.keep ?_) | (repeat' (with_reducible first | refine thenP_n ?_ | refine blockP_n ?_)))
  all_goals (first | (refine Br.keep ?_) | (refine WC.seq ?_))
  all_goals (first | (refine Br.keep ?_) | (refine WC.block ?_))
  all_goals (first | (refine Br.keep ?_) | (refine WC.seq ?_))
  all_goals (first
               | (refine Br.keep ?_)
               | (obtain ⟨bW, oW, rfl, hbW, hatW⟩ := Rd.at_ (hr2.ext0 hx3) (by omega)
                  obtain ⟨⟨n, lo, hi⟩, hy⟩ : ∃ y, (bndL c)[k]? = some y := ⟨_, List.getElem?_eq_getElem (by omega)⟩
                  have hay : At h3 bW (oW + k * 3) [In n, In lo, In hi] := At.elem bdC_len hatW hy))
  all_goals (first | (refine Br.keep ?_) | (refine WC.region ?_))
  all_goals (first | (refine Br.keep ?_) | (refine WL.step (ok_idxAddrA Tryd.underlying66 (fun w => Tryd.sizeOf69 w) rfl rfl rfl (by omega) (by first | rfl | assumption)) rfl rfl rfl ?_))
  all_goals (first | (refine Br.keep ?_) | (refine WL.step (ok_loadN (fun w => Tryd.isAgg69 w) (fun w => Tryd.sizeOf69 w) rfl rfl (by exact hay)) rfl rfl rfl ?_))
  all_goals (first
               | (refine Br.keep ?_)
               | (refine WL.stepR (okE_alloc (fun w => Tryd.zeroValue69 w)) rfl rfl rfl ?_
                  rintro _ h4 ⟨b4, rfl, hg4, hb4, hx4⟩))
  all_goals (first
               | (refine Br.keep ?_)
               | (refine WL.stepR0 (okE_storeW (fun w => Tryd.sizeOf69 w) rfl rfl rfl hb4 rfl (by simp [Value.oneCell'])) rfl rfl ?_
                  rintro _ h5 ⟨hb5, hx5⟩))
  all_goals (first | (refine Br.keep ?_) | (refine WL.nil ?_))
  all_goals (first | (refine Br.keep ?_) | (repeat' (with_reducible first | refine thenP_n ?_ | refine blockP_n ?_)))
  all_goals (first | (refine Br.keep ?_) | (refine WC.seq ?_))
  all_goals (first | (refine Br.keep ?_) | (refine WC.region ?_))
  all_goals (first | (refine Br.keep ?_) | (refine WL.step (ok_loadN (fun w => Tryd.isAgg69 w) (fun w => Tryd.sizeOf69 w) rfl rfl (by exact At.of_block hb5)) rfl rfl rfl ?_))
  all_goals (first
               | (refine Br.keep ?_)
               | (refine WL.call (vs := [_]) rfl (fun a w => Tryd.call34 a w) rfl (ok_bound (n, lo, hi)) rfl rfl rfl ?_
                  rintro _ h6 ⟨rfl, hx6⟩))
  all_goals (first
               | (refine Br.keep ?_)
               | (have hX6 : Ext No h2 h6 := ((hx3.trans hx4).trans' hx5 (fun q hq e => by have := hx3.size; have := hx4.size; omega)).trans hx6
                  rcases hq : bdB (n, lo, hi)))
  all_goals (first | (refine Br.keep ?_) | (refine WL.step (ok_not rfl) rfl rfl rfl ?_))
  all_goals (first | (refine Br.keep ?_) | (refine WL.nil ?_))
  all_goals (first | (refine Br.keep ?_) | (repeat' (with_reducible first | refine thenP_n ?_ | refine blockP_n ?_)))
  all_goals (first | (refine Br.keep ?_) | (refine WC.sub [(1, _), (6, _), (7, _), (8, _), (14, _)] ⟨rfl, rfl, rfl, rfl, rfl, trivial⟩ ?_))
  all_goals (first | (refine Br.keep ?_) | (first | refine WC.condB_t 3 rfl ?_ | refine WC.condB_f 4 rfl ?_ | (refine WC.condB 3 4 rfl (fun hb => ?_) (fun hb => ?_) <;> (first | replace hb := of_decide_eq_true hb | replace hb := of_decide_eq_false hb | replace hb := of_decide_eq_false (nt hb) | replace hb := of_decide_eq_true (nf hb) | skip))))
  all_goals (first
    | (fail_if_success (refine Br.mk (i := 3) ?_))
    | (refine Br.mk (i := 3) ?_
       all_goals (refine WC.seq ?_)
       all_goals (refine WC.region ?_)
       all_goals (refine WL.step (ok_assign rfl) rfl rfl rfl ?_)
       all_goals (refine WL.nil ?_)
       all_goals (repeat' (with_reducible first | refine thenP_n ?_ | refine blockP_n ?_))
       all_goals (refine WC.sub [(2, _)] ⟨rfl, trivial⟩ ?_)
       all_goals (refine WC.ret ?_)
       all_goals (repeat' (with_reducible first | refine thenP_r ?_ | refine blockP_r ?_))
       all_goals (refine retP_1 _ ⟨rfl, trivial⟩ ?_)
       all_goals (first
                   | exact ⟨by unfold errN limB; rw [all_hit hy hq]; rfl, hX2.trans hX6⟩
                   | exact ⟨by unfold errN limB; rw [hp, Bool.or_true, Bool.not_true, Bool.and_false]; rfl, (hX2.trans hx3).trans hx7⟩
                   | exact ⟨by unfold errN limB; rw [hp, all_no hn (by omega), decide_eq_false (by assumption)]; rfl, (hX2.trans hx3).trans hx7⟩
                   | exact ⟨by unfold errN limB; rw [decide_eq_true (by assumption), Bool.true_or, Bool.not_true, Bool.and_false]; rfl, hX2.trans hx3⟩)
       skip))
  all_goals (first
    | (fail_if_success (refine Br.mk (i := 4) ?_))
    | (refine Br.mk (i := 4) ?_
       all_goals (refine WC.skip ?_)
       skip))
  all_goals (first | (refine Br.keep ?_) | (repeat' (with_reducible first | refine thenP_n ?_ | refine blockP_n ?_)))
  all_goals (first | (refine Br.keep ?_) | (refine WC.region ?_))
  all_goals (first | (refine Br.keep ?_) | (first | (refine WL.step (ok_addI rfl rfl (by omega)) rfl rfl rfl ?_) | (refine WL.step (ok_add rfl rfl) rfl rfl rfl ?_)))
  all_goals (first | (refine Br.keep ?_) | (refine WL.step (ok_move rfl) rfl rfl rfl ?_))
  all_goals (first | (refine Br.keep ?_) | (refine WL.nil ?_))
  all_goals (first | (refine Br.keep ?_) | (repeat' (with_reducible first | refine thenP_n ?_ | refine blockP_n ?_)))
  all_goals (first | (refine Br.keep ?_) | (exact ⟨k + 1, ⟨rfl, rfl, rfl, rfl, trivial⟩, (by exact ⟨hX6, by omega, mem_take_snoc hy hn hq⟩), (by omega)⟩))
  all_goals (try (refine Br.mk (i := 1000) ?_))
  all_goals (repeat' (with_reducible first | refine thenP_n ?_ | refine blockP_n ?_))
  all_goals (refine WC.sub [(1, _)] ⟨rfl, trivial⟩ ?_)
  all_goals (refine WC.seq ?_)
  all_goals (refine WC.seq ?_)
  all_goals (refine WC.region ?_)
  all_goals (refine WL.step (ok_fieldAddr rfl Tryd.underlying24 rfl (fun w => Tryd.sizeOf3 w)) rfl rfl rfl ?_)
  all_goals (refine WL.step (ok_load (fun w => Tryd.isAgg3 w) rfl (by first | assumption | exact cell_blk (by assumption) rfl)) rfl rfl rfl ?_)
  all_goals (refine WL.step (ok_fieldAddr rfl Tryd.underlying24 rfl (fun w => Tryd.sizeOf3 w)) rfl rfl rfl ?_)
  all_goals (refine WL.step (ok_load (fun w => Tryd.isAgg3 w) rfl (by first | assumption | exact cell_blk (by assumption) rfl)) rfl rfl rfl ?_)
  all_goals (first | (refine WL.step (OkP.bool_t (by omega) (ok_eql rfl rfl)) rfl rfl rfl ?_) | (refine WL.step (OkP.bool_f (by omega) (ok_eql rfl rfl)) rfl rfl rfl ?_) | (refine WL.step (ok_eql rfl rfl) rfl rfl rfl ?_))
  all_goals (refine WL.step (ok_move rfl) rfl rfl rfl ?_)
  all_goals (try ((fail_if_success (refine WL.part 21 (b := true) rfl (fun _ => ?_) (fun _ => ?_))); (fail_if_success (refine WL.part 21 (b := false) rfl (fun _ => ?_) (fun _ => ?_))); (refine WL.part 21 rfl (fun hb => ?_) (fun hb => ?_) <;> (first | replace hb := of_decide_eq_true hb | replace hb := of_decide_eq_false hb | replace hb := of_decide_eq_false (nt hb) | replace hb := of_decide_eq_true (nf hb) | skip))))
  all_goals (first | (refine WL.pass rfl rfl rfl ?_) | (refine WL.step (ok_fieldAddr rfl Tryd.underlying24 rfl (fun w => Tryd.sizeOf22 w)) rfl rfl rfl ?_))
  all_goals (first | (refine WL.pass rfl rfl rfl ?_) | (refine WL.step (ok_load (fun w => Tryd.isAgg22 w) rfl (by first | assumption | exact cell_blk (by assumption) rfl)) rfl rfl rfl ?_))
  all_goals (first
               | (refine WL.pass rfl rfl rfl ?_)
               | (refine WL.call (vs := [_, _]) rfl (fun a w => Tryd.call35 a w) rfl (contains_pr c.ps (fun p => !fairB p) (fun a w => Tryd.call36 a w) (fs := []) (us := []) ((hps.ext0 hX2).ext0 hx3) hpl (fun x hx h' hx' => fair_fn x)) rfl rfl rfl ?_
                  rintro _ h7 ⟨rfl, hx7⟩))
  all_goals (rcases hp : c.ps.any fun p => !fairB p)
  all_goals (first | (refine WL.step (ok_pick_t rfl rfl) rfl rfl rfl ?_) | (refine WL.step (ok_pick_f rfl rfl) rfl rfl rfl ?_))
  all_goals (refine WL.nil ?_)
  all_goals (repeat' (with_reducible first | refine thenP_n ?_ | refine blockP_n ?_))
  all_goals (refine WC.sub [(25, _)] ⟨rfl, trivial⟩ ?_)
  all_goals (first | refine WC.condB_t 5 rfl ?_ | refine WC.condB_f 6 rfl ?_ | (refine WC.condB 5 6 rfl (fun hb => ?_) (fun hb => ?_) <;> (first | replace hb := of_decide_eq_true hb | replace hb := of_decide_eq_false hb | replace hb := of_decide_eq_false (nt hb) | replace hb := of_decide_eq_true (nf hb) | skip)))
  all_goals (first
    | (fail_if_success (refine Br.mk (i := 5) ?_))
    | (refine Br.mk (i := 5) ?_
       all_goals (refine WC.seq ?_)
       all_goals (refine WC.region ?_)
       all_goals (refine WL.step (ok_assign rfl) rfl rfl rfl ?_)
       all_goals (refine WL.nil ?_)
       all_goals (repeat' (with_reducible first | refine thenP_n ?_ | refine blockP_n ?_))
       all_goals (refine WC.ret ?_)
       all_goals (repeat' (with_reducible first | refine thenP_r ?_ | refine blockP_r ?_))
       all_goals (refine retP_1 _ ⟨rfl, trivial⟩ ?_)
       all_goals (first
                   | exact ⟨by unfold errN limB; rw [all_hit hy hq]; rfl, hX2.trans hX6⟩
                   | exact ⟨by unfold errN limB; rw [hp, Bool.or_true, Bool.not_true, Bool.and_false]; rfl, (hX2.trans hx3).trans hx7⟩
                   | exact ⟨by unfold errN limB; rw [hp, all_no hn (by omega), decide_eq_false (by assumption)]; rfl, (hX2.trans hx3).trans hx7⟩
                   | exact ⟨by unfold errN limB; rw [decide_eq_true (by assumption), Bool.true_or, Bool.not_true, Bool.and_false]; rfl, hX2.trans hx3⟩)
       skip))
  all_goals (first
    | (fail_if_success (refine Br.mk (i := 6) ?_))
    | (refine Br.mk (i := 6) ?_
       all_goals (refine WC.skip ?_)
       skip))
  all_goals (repeat' (with_reducible first | refine thenP_n ?_ | refine blockP_n ?_))
  all_goals (refine WC.seq ?_)
  all_goals (refine WC.region ?_)
  all_goals (refine WL.step (ok_assign rfl) rfl rfl rfl ?_)
  all_goals (refine WL.nil ?_)
  all_goals (repeat' (with_reducible first | refine thenP_n ?_ | refine blockP_n ?_))
  all_goals (refine WC.ret ?_)
  all_goals (repeat' (with_reducible first | refine thenP_r ?_ | refine blockP_r ?_))
  all_goals (refine retP_1 _ ⟨rfl, trivial⟩ ?_)
  all_goals (first
              | exact ⟨by unfold errN limB; rw [all_hit hy hq]; rfl, hX2.trans hX6⟩
              | exact ⟨by unfold errN limB; rw [hp, Bool.or_true, Bool.not_true, Bool.and_false]; rfl, (hX2.trans hx3).trans hx7⟩
              | exact ⟨by unfold errN limB; rw [hp, all_no hn (by omega), decide_eq_false (by assumption)]; rfl, (hX2.trans hx3).trans hx7⟩
              | exact ⟨by unfold errN limB; rw [decide_eq_true (by assumption), Bool.true_or, Bool.not_true, Bool.and_false]; rfl, hX2.trans hx3⟩)
end Go.Proofs.YtanbpffpllgekaaDoor

/-
  AUDIT (layer 47): settings that may be (layer 35), the document's Check.
-/
namespace Go.Proofs.YtanbpffpllgekaaDoor
open Go Go.RK

theorem lim_eq (c : Cf) : limB c = (bdB (c.sv, 1, 8) && bdB (c.ca, 1, 64) && bdB (c.tb, 1, 64) && bdB (c.ms, 64, 65536) && bdB (c.bf, c.ms + 1, 131072) && bdB (c.qu, 6, 256) && decide ((c.ps.length : Int) ≤ 16) && c.ps.all fairB) := by
  have e1 : bdB (c.bf, c.ms + 1, 131072) = (bdB (c.bf, c.ms, 131072) && !decide (c.bf = c.ms)) := by
    unfold bdB
    rw [Bool.eq_iff_iff]
    simp only [Bool.and_eq_true, decide_eq_true_eq, Bool.not_eq_true', decide_eq_false_iff_not]
    omega
  have e2 : bdB ((c.ps.length : Int), 0, 16) = decide ((c.ps.length : Int) ≤ 16) := by
    unfold bdB
    rw [Bool.eq_iff_iff]
    simp only [Bool.and_eq_true, decide_eq_true_eq]
    omega
  have e3 : (c.ps.any fun p => !fairB p) = !(c.ps.all fairB) := by
    rw [List.all_eq_not_any_not, Bool.not_not]
  unfold limB
  rw [e3, e1, ← e2]
  simp only [bndL, List.all_cons, List.all_nil]
  cases bdB (c.sv, 1, 8) <;> cases bdB (c.ca, 1, 64) <;> cases bdB (c.tb, 1, 64) <;> cases bdB (c.ms, 64, 65536) <;> cases bdB (c.bf, c.ms, 131072) <;> cases bdB (c.qu, 6, 256) <;> cases bdB ((c.ps.length : Int), 0, 16) <;> cases decide (c.bf = c.ms) <;> cases c.ps.all fairB <;> rfl
theorem err_f {b : Bool} (h : b = false) : (.int .i64 1 : Value) = errN b := by rw [h]; rfl
theorem err_t {b : Bool} (h : b = true) : (.int .i64 0 : Value) = errN b := by rw [h]; rfl
set_option maxRecDepth 100000 in
theorem in35 {h : Heap} (n lo hi : Int) : CallsH Tryd.prog 27 ⟨[In n, In lo, In hi]⟩ h fun u h' => u = .bool (bdB (n, lo, hi)) ∧ h' = h := by
  by_cases q1 : lo ≤ n
  all_goals
    refine calls [(0, _), (1, _), (2, _)] Tryd.func27 rfl Tryd.ntmps27 rfl ⟨rfl, rfl, rfl, trivial⟩ ?_
    all_goals (refine WC.seq ?_)
    all_goals (refine WC.region ?_)
    all_goals (refine WL.step (ok_assign rfl) rfl rfl rfl ?_)
    all_goals (refine WL.nil ?_)
    all_goals (repeat' (with_reducible first | refine thenP_n ?_ | refine blockP_n ?_))
    all_goals (refine WC.seq ?_)
    all_goals (refine WC.region ?_)
    all_goals (refine WL.step (ok_move rfl) rfl rfl rfl ?_)
    all_goals (refine WL.step (ok_move rfl) rfl rfl rfl ?_)
    all_goals (first | (refine WL.step (OkP.bool_t (by omega) (ok_geq rfl rfl)) rfl rfl rfl ?_) | (refine WL.step (OkP.bool_f (by omega) (ok_geq rfl rfl)) rfl rfl rfl ?_) | (refine WL.step (ok_geq rfl rfl) rfl rfl rfl ?_))
    all_goals (refine WL.step (ok_move rfl) rfl rfl rfl ?_)
    all_goals (try ((fail_if_success (refine WL.part 10 (b := true) rfl (fun _ => ?_) (fun _ => ?_))); (fail_if_success (refine WL.part 10 (b := false) rfl (fun _ => ?_) (fun _ => ?_))); (refine WL.part 10 rfl (fun hb => ?_) (fun hb => ?_) <;> (first | replace hb := of_decide_eq_true hb | replace hb := of_decide_eq_false hb | replace hb := of_decide_eq_false (nt hb) | replace hb := of_decide_eq_true (nf hb) | skip))))
    all_goals (first | (refine WL.pass rfl rfl rfl ?_) | (refine WL.step (ok_move rfl) rfl rfl rfl ?_))
    all_goals (first | (refine WL.pass rfl rfl rfl ?_) | (refine WL.step (ok_move rfl) rfl rfl rfl ?_))
    all_goals (first | (refine WL.pass rfl rfl rfl ?_) | (first | (refine WL.step (OkP.bool_t (by omega) (ok_leq rfl rfl)) rfl rfl rfl ?_) | (refine WL.step (OkP.bool_f (by omega) (ok_leq rfl rfl)) rfl rfl rfl ?_) | (refine WL.step (ok_leq rfl rfl) rfl rfl rfl ?_)))
    all_goals (first | (refine WL.step (ok_pick_t rfl rfl) rfl rfl rfl ?_) | (refine WL.step (ok_pick_f rfl rfl) rfl rfl rfl ?_))
    all_goals (refine WL.step (ok_assign rfl) rfl rfl rfl ?_)
    all_goals (refine WL.nil ?_)
    all_goals (repeat' (with_reducible first | refine thenP_n ?_ | refine blockP_n ?_))
    all_goals (refine WC.sub [(6, _)] ⟨rfl, trivial⟩ ?_)
    all_goals (refine WC.ret ?_)
    all_goals (repeat' (with_reducible first | refine thenP_r ?_ | refine blockP_r ?_))
    all_goals (refine retP_1 _ ⟨rfl, trivial⟩ ?_)
    all_goals (refine ⟨congrArg Value.bool ?_, rfl⟩
               unfold bdB
               simp_all <;> omega)
set_option maxRecDepth 100000 in
theorem check35 {h : Heap} (c : Cf) (oc : c.ok h) : CallsH Tryd.prog 14 ⟨[.agg ⟨c.cells⟩]⟩ h fun u h' => u = errN (limB c) ∧ Ext No h h' := by
  have hlim := lim_eq c
  generalize limB c = LB at hlim ⊢
  have hps := oc.p
  obtain ⟨sv, ca, tb, ms, bf, qu, pv, ps⟩ := c
  simp only at hlim hps
  obtain ⟨A5, c5, rfl, _⟩ := id hps
  dsimp only [Cf.cells]
  refine calls [(0, _)] Tryd.func14 rfl Tryd.ntmps14 rfl ⟨rfl, trivial⟩ ?_
  all_goals (refine WC.seq ?_)
  all_goals (refine WC.region ?_)
  all_goals (refine WL.stepR (okE_box rfl) rfl rfl rfl ?_
             rintro _ h1 ⟨b1, rfl, hg1, hb1, hx1⟩)
  all_goals (refine WL.step (ok_assign rfl) rfl rfl rfl ?_)
  all_goals (refine WL.nil ?_)
  all_goals (repeat' (with_reducible first | refine thenP_n ?_ | refine blockP_n ?_))
  all_goals (refine WC.seq ?_)
  all_goals (refine WC.seq ?_)
  all_goals (refine WC.region ?_)
  all_goals (refine WL.step (ok_fieldAddr rfl Tryd.underlying24 rfl (fun w => Tryd.sizeOf3 w)) rfl rfl rfl ?_)
  all_goals (refine WL.step (ok_load (fun w => Tryd.isAgg3 w) rfl (by first | assumption | exact cell_blk (by assumption) rfl)) rfl rfl rfl ?_)
  all_goals (refine WL.call (vs := [_, _, _]) rfl (fun a w => Tryd.call27 a w) rfl (in35 sv 1 8) rfl rfl rfl ?_
             rintro _ hz ⟨rfl, _⟩
             subst hz)
  all_goals (rcases q1 : bdB (sv, 1, 8))
  all_goals (refine WL.step (ok_not rfl) rfl rfl rfl ?_)
  all_goals (refine WL.step (ok_move rfl) rfl rfl rfl ?_)
  all_goals (try ((fail_if_success (refine WL.part 9 (b := true) rfl (fun _ => ?_) (fun _ => ?_))); (fail_if_success (refine WL.part 9 (b := false) rfl (fun _ => ?_) (fun _ => ?_))); (refine WL.part 9 rfl (fun hb => ?_) (fun hb => ?_) <;> (first | replace hb := of_decide_eq_true hb | replace hb := of_decide_eq_false hb | replace hb := of_decide_eq_false (nt hb) | replace hb := of_decide_eq_true (nf hb) | skip))))
  all_goals (first | (refine WL.pass rfl rfl rfl ?_) | (refine WL.step (ok_fieldAddr rfl Tryd.underlying24 rfl (fun w => Tryd.sizeOf3 w)) rfl rfl rfl ?_))
  all_goals (first | (refine WL.pass rfl rfl rfl ?_) | (refine WL.step (ok_load (fun w => Tryd.isAgg3 w) rfl (by first | assumption | exact cell_blk (by assumption) rfl)) rfl rfl rfl ?_))
  all_goals (first
               | (refine WL.pass rfl rfl rfl ?_)
               | (refine WL.call (vs := [_, _, _]) rfl (fun a w => Tryd.call27 a w) rfl (in35 ca 1 64) rfl rfl rfl ?_
                  rintro _ hz ⟨rfl, _⟩
                  subst hz))
  all_goals (rcases q2 : bdB (ca, 1, 64))
  all_goals (first | (refine WL.pass rfl rfl rfl ?_) | (refine WL.step (ok_not rfl) rfl rfl rfl ?_))
  all_goals (first | (refine WL.step (ok_pick_t rfl rfl) rfl rfl rfl ?_) | (refine WL.step (ok_pick_f rfl rfl) rfl rfl rfl ?_))
  all_goals (refine WL.step (ok_move rfl) rfl rfl rfl ?_)
  all_goals (try ((fail_if_success (refine WL.part 15 (b := true) rfl (fun _ => ?_) (fun _ => ?_))); (fail_if_success (refine WL.part 15 (b := false) rfl (fun _ => ?_) (fun _ => ?_))); (refine WL.part 15 rfl (fun hb => ?_) (fun hb => ?_) <;> (first | replace hb := of_decide_eq_true hb | replace hb := of_decide_eq_false hb | replace hb := of_decide_eq_false (nt hb) | replace hb := of_decide_eq_true (nf hb) | skip))))
  all_goals (first | (refine WL.pass rfl rfl rfl ?_) | (refine WL.step (ok_fieldAddr rfl Tryd.underlying24 rfl (fun w => Tryd.sizeOf3 w)) rfl rfl rfl ?_))
  all_goals (skip)
  all_goals (first | (refine WL.pass rfl rfl rfl ?_) | (refine WL.step (ok_load (fun w => Tryd.isAgg3 w) rfl (by first | assumption | exact cell_blk (by assumption) rfl)) rfl rfl rfl ?_))
  all_goals (first
               | (refine WL.pass rfl rfl rfl ?_)
               | (refine WL.call (vs := [_, _, _]) rfl (fun a w => Tryd.call27 a w) rfl (in35 tb 1 64) rfl rfl rfl ?_
                  rintro _ hz ⟨rfl, _⟩
                  subst hz))
  all_goals (rcases q3 : bdB (tb, 1, 64))
  all_goals (first | (refine WL.pass rfl rfl rfl ?_) | (refine WL.step (ok_not rfl) rfl rfl rfl ?_))
  all_goals (first | (refine WL.step (ok_pick_t rfl rfl) rfl rfl rfl ?_) | (refine WL.step (ok_pick_f rfl rfl) rfl rfl rfl ?_))
  all_goals (refine WL.step (ok_move rfl) rfl rfl rfl ?_)
  all_goals (try ((fail_if_success (refine WL.part 21 (b := true) rfl (fun _ => ?_) (fun _ => ?_))); (fail_if_success (refine WL.part 21 (b := false) rfl (fun _ => ?_) (fun _ => ?_))); (refine WL.part 21 rfl (fun hb => ?_) (fun hb => ?_) <;> (first | replace hb := of_decide_eq_true hb | replace hb := of_decide_eq_false hb | replace hb := of_decide_eq_false (nt hb) | replace hb := of_decide_eq_true (nf hb) | skip))))
  all_goals (first | (refine WL.pass rfl rfl rfl ?_) | (refine WL.step (ok_fieldAddr rfl Tryd.underlying24 rfl (fun w => Tryd.sizeOf3 w)) rfl rfl rfl ?_))
  all_goals (first | (refine WL.pass rfl rfl rfl ?_) | (refine WL.step (ok_load (fun w => Tryd.isAgg3 w) rfl (by first | assumption | exact cell_blk (by assumption) rfl)) rfl rfl rfl ?_))
  all_goals (first
               | (refine WL.pass rfl rfl rfl ?_)
               | (refine WL.call (vs := [_, _, _]) rfl (fun a w => Tryd.call27 a w) rfl (in35 ms 64 65536) rfl rfl rfl ?_
                  rintro _ hz ⟨rfl, _⟩
                  subst hz))
  all_goals (rcases q4 : bdB (ms, 64, 65536))
  all_goals (first | (refine WL.pass rfl rfl rfl ?_) | (refine WL.step (ok_not rfl) rfl rfl rfl ?_))
  all_goals (first | (refine WL.step (ok_pick_t rfl rfl) rfl rfl rfl ?_) | (refine WL.step (ok_pick_f rfl rfl) rfl rfl rfl ?_))
  all_goals (refine WL.nil ?_)
  all_goals (repeat' (with_reducible first | refine thenP_n ?_ | refine blockP_n ?_))
  all_goals (refine WC.sub [(1, _), (26, _)] ⟨rfl, rfl, trivial⟩ ?_)
  all_goals (first | refine WC.condB_t 1 rfl ?_ | refine WC.condB_f 2 rfl ?_ | (refine WC.condB 1 2 rfl (fun hb => ?_) (fun hb => ?_) <;> (first | replace hb := of_decide_eq_true hb | replace hb := of_decide_eq_false hb | replace hb := of_decide_eq_false (nt hb) | replace hb := of_decide_eq_true (nf hb) | skip)))
  all_goals (first
    | (fail_if_success (refine Br.mk (i := 1) ?_))
    | (refine Br.mk (i := 1) ?_
       all_goals (refine WC.seq ?_)
       all_goals (refine WC.region ?_)
       all_goals (refine WL.step (ok_assign rfl) rfl rfl rfl ?_)
       all_goals (refine WL.nil ?_)
       all_goals (repeat' (with_reducible first | refine thenP_n ?_ | refine blockP_n ?_))
       all_goals (refine WC.ret ?_)
       all_goals (repeat' (with_reducible first | refine thenP_r ?_ | refine blockP_r ?_))
       all_goals (refine retP_1 _ ⟨rfl, trivial⟩ ?_)
       all_goals (first
                   | exact ⟨err_f (by rw [hlim, q1, q2, q3, q4, q5, q6, all_hit (l := ps) hy (by unfold fairB; simp_all <;> omega)]; simp), hx1.trans (by assumption)⟩
                   | exact ⟨err_t (by rw [hlim, q1, q2, q3, q4, q5, q6, all_no hn (by omega), decide_eq_true (by omega)]; rfl), hX2⟩
                   | exact ⟨err_f (by rw [hlim, q1, q2, q3, q4, q5, q6, decide_eq_false (by omega)]; simp), hx1⟩
                   | exact ⟨err_f (by rw [hlim, q1, q2, q3, q4, q5, q6]; simp), hx1⟩
                   | exact ⟨err_f (by rw [hlim, q1, q2, q3, q4, q5]; simp), hx1⟩
                   | exact ⟨err_f (by rw [hlim, q1, q2, q3, q4]; simp), hx1⟩
                   | exact ⟨err_f (by rw [hlim, q1, q2, q3]; simp), hx1⟩
                   | exact ⟨err_f (by rw [hlim, q1, q2]; simp), hx1⟩
                   | exact ⟨err_f (by rw [hlim, q1]; simp), hx1⟩)
       skip))
  all_goals (first
    | (fail_if_success (refine Br.mk (i := 2) ?_))
    | (refine Br.mk (i := 2) ?_
       all_goals (refine WC.skip ?_)
       skip))
  all_goals (repeat' (with_reducible first | refine thenP_n ?_ | refine blockP_n ?_))
  all_goals (refine WC.seq ?_)
  all_goals (refine WC.seq ?_)
  all_goals (have q4' := q4
             simp only [bdB, Bool.and_eq_true, decide_eq_true_eq] at q4')
  all_goals (refine WC.region ?_)
  all_goals (refine WL.step (ok_fieldAddr rfl Tryd.underlying24 rfl (fun w => Tryd.sizeOf3 w)) rfl rfl rfl ?_)
  all_goals (refine WL.step (ok_load (fun w => Tryd.isAgg3 w) rfl (by first | assumption | exact cell_blk (by assumption) rfl)) rfl rfl rfl ?_)
  all_goals (refine WL.step (ok_fieldAddr rfl Tryd.underlying24 rfl (fun w => Tryd.sizeOf3 w)) rfl rfl rfl ?_)
  all_goals (refine WL.step (ok_load (fun w => Tryd.isAgg3 w) rfl (by first | assumption | exact cell_blk (by assumption) rfl)) rfl rfl rfl ?_)
  all_goals (first | (refine WL.step (ok_addI rfl rfl (by omega)) rfl rfl rfl ?_) | (refine WL.step (ok_add rfl rfl) rfl rfl rfl ?_))
  all_goals (refine WL.call (vs := [_, _, _]) rfl (fun a w => Tryd.call27 a w) rfl (in35 bf (ms + 1) 131072) rfl rfl rfl ?_
             rintro _ hz ⟨rfl, _⟩
             subst hz)
  all_goals (rcases q5 : bdB (bf, ms + 1, 131072))
  all_goals (refine WL.step (ok_not rfl) rfl rfl rfl ?_)
  all_goals (refine WL.step (ok_move rfl) rfl rfl rfl ?_)
  all_goals (try ((fail_if_success (refine WL.part 34 (b := true) rfl (fun _ => ?_) (fun _ => ?_))); (fail_if_success (refine WL.part 34 (b := false) rfl (fun _ => ?_) (fun _ => ?_))); (refine WL.part 34 rfl (fun hb => ?_) (fun hb => ?_) <;> (first | replace hb := of_decide_eq_true hb | replace hb := of_decide_eq_false hb | replace hb := of_decide_eq_false (nt hb) | replace hb := of_decide_eq_true (nf hb) | skip))))
  all_goals (first | (refine WL.pass rfl rfl rfl ?_) | (refine WL.step (ok_fieldAddr rfl Tryd.underlying24 rfl (fun w => Tryd.sizeOf3 w)) rfl rfl rfl ?_))
  all_goals (first | (refine WL.pass rfl rfl rfl ?_) | (refine WL.step (ok_load (fun w => Tryd.isAgg3 w) rfl (by first | assumption | exact cell_blk (by assumption) rfl)) rfl rfl rfl ?_))
  all_goals (first
               | (refine WL.pass rfl rfl rfl ?_)
               | (refine WL.call (vs := [_, _, _]) rfl (fun a w => Tryd.call27 a w) rfl (in35 qu 6 256) rfl rfl rfl ?_
                  rintro _ hz ⟨rfl, _⟩
                  subst hz))
  all_goals (rcases q6 : bdB (qu, 6, 256))
  all_goals (first | (refine WL.pass rfl rfl rfl ?_) | (refine WL.step (ok_not rfl) rfl rfl rfl ?_))
  all_goals (first | (refine WL.step (ok_pick_t rfl rfl) rfl rfl rfl ?_) | (refine WL.step (ok_pick_f rfl rfl) rfl rfl rfl ?_))
  all_goals (refine WL.step (ok_move rfl) rfl rfl rfl ?_)
  all_goals (try ((fail_if_success (refine WL.part 40 (b := true) rfl (fun _ => ?_) (fun _ => ?_))); (fail_if_success (refine WL.part 40 (b := false) rfl (fun _ => ?_) (fun _ => ?_))); (refine WL.part 40 rfl (fun hb => ?_) (fun hb => ?_) <;> (first | replace hb := of_decide_eq_true hb | replace hb := of_decide_eq_false hb | replace hb := of_decide_eq_false (nt hb) | replace hb := of_decide_eq_true (nf hb) | skip))))
  all_goals (first | (refine WL.pass rfl rfl rfl ?_) | (refine WL.step (ok_fieldAddr rfl Tryd.underlying24 rfl (fun w => Tryd.sizeOf22 w)) rfl rfl rfl ?_))
  all_goals (first | (refine WL.pass rfl rfl rfl ?_) | (refine WL.step (ok_load (fun w => Tryd.isAgg22 w) rfl (by first | assumption | exact cell_blk (by assumption) rfl)) rfl rfl rfl ?_))
  all_goals (first | (refine WL.pass rfl rfl rfl ?_) | (refine WL.step (ok_lenL rfl Tryd.underlying22 rfl) rfl rfl rfl ?_))
  all_goals (first | (refine WL.pass rfl rfl rfl ?_) | (first | (refine WL.step (OkP.bool_t (by omega) (ok_gtr rfl rfl)) rfl rfl rfl ?_) | (refine WL.step (OkP.bool_f (by omega) (ok_gtr rfl rfl)) rfl rfl rfl ?_) | (refine WL.step (ok_gtr rfl rfl) rfl rfl rfl ?_)))
  all_goals (first | (refine WL.step (ok_pick_t rfl rfl) rfl rfl rfl ?_) | (refine WL.step (ok_pick_f rfl rfl) rfl rfl rfl ?_))
  all_goals (refine WL.nil ?_)
  all_goals (repeat' (with_reducible first | refine thenP_n ?_ | refine blockP_n ?_))
  all_goals (refine WC.sub [(1, _), (45, _)] ⟨rfl, rfl, trivial⟩ ?_)
  all_goals (first | refine WC.condB_t 3 rfl ?_ | refine WC.condB_f 4 rfl ?_ | (refine WC.condB 3 4 rfl (fun hb => ?_) (fun hb => ?_) <;> (first | replace hb := of_decide_eq_true hb | replace hb := of_decide_eq_false hb | replace hb := of_decide_eq_false (nt hb) | replace hb := of_decide_eq_true (nf hb) | skip)))
  all_goals (first
    | (fail_if_success (refine Br.mk (i := 3) ?_))
    | (refine Br.mk (i := 3) ?_
       all_goals (refine WC.seq ?_)
       all_goals (refine WC.region ?_)
       all_goals (refine WL.step (ok_assign rfl) rfl rfl rfl ?_)
       all_goals (refine WL.nil ?_)
       all_goals (repeat' (with_reducible first | refine thenP_n ?_ | refine blockP_n ?_))
       all_goals (refine WC.ret ?_)
       all_goals (repeat' (with_reducible first | refine thenP_r ?_ | refine blockP_r ?_))
       all_goals (refine retP_1 _ ⟨rfl, trivial⟩ ?_)
       all_goals (first
                   | exact ⟨err_f (by rw [hlim, q1, q2, q3, q4, q5, q6, all_hit (l := ps) hy (by unfold fairB; simp_all <;> omega)]; simp), hx1.trans (by assumption)⟩
                   | exact ⟨err_t (by rw [hlim, q1, q2, q3, q4, q5, q6, all_no hn (by omega), decide_eq_true (by omega)]; rfl), hX2⟩
                   | exact ⟨err_f (by rw [hlim, q1, q2, q3, q4, q5, q6, decide_eq_false (by omega)]; simp), hx1⟩
                   | exact ⟨err_f (by rw [hlim, q1, q2, q3, q4, q5, q6]; simp), hx1⟩
                   | exact ⟨err_f (by rw [hlim, q1, q2, q3, q4, q5]; simp), hx1⟩
                   | exact ⟨err_f (by rw [hlim, q1, q2, q3, q4]; simp), hx1⟩
                   | exact ⟨err_f (by rw [hlim, q1, q2, q3]; simp), hx1⟩
                   | exact ⟨err_f (by rw [hlim, q1, q2]; simp), hx1⟩
                   | exact ⟨err_f (by rw [hlim, q1]; simp), hx1⟩)
       skip))
  all_goals (first
    | (fail_if_success (refine Br.mk (i := 4) ?_))
    | (refine Br.mk (i := 4) ?_
       all_goals (refine WC.skip ?_)
       skip))
  all_goals (repeat' (with_reducible first | refine thenP_n ?_ | refine blockP_n ?_))
  all_goals (refine WC.seq ?_)
  all_goals (refine WC.seq ?_)
  all_goals (refine WC.region ?_)
  all_goals (refine WL.step (ok_assign rfl) rfl rfl rfl ?_)
  all_goals (refine WL.nil ?_)
  all_goals (repeat' (with_reducible first | refine thenP_n ?_ | refine blockP_n ?_))
  all_goals (refine WC.block ?_)
  -- loop 0: slots that turn [3], that stay [1]
  all_goals (refine WC.loopG (X := Nat) (fun x => ([(3, In (x : Int))] : Fr)) [(1, _)] (fun k h' => Ext No h1 h' ∧ k ≤ ps.length ∧ ∀ x ∈ ps.take k, fairB x = true) (fun k => ps.length - k) (0) ⟨rfl, rfl, trivial⟩ (by exact ⟨.refl _ _, Nat.zero_le _, fun x hx => by cases hx⟩) ?_)
  all_goals (rintro k h2 ⟨hx2, hk, hn⟩
             have hb12 := hx2.obj hb1 nos
             have hX2 := hx1.trans hx2)
  all_goals (refine WC.sub [(3, _), (1, _)] ⟨rfl, rfl, trivial⟩ ?_)
  all_goals (refine WC.seq ?_)
  all_goals (refine WC.seq ?_)
  all_goals (refine WC.region ?_)
  all_goals (refine WL.step (ok_move rfl) rfl rfl rfl ?_)
  all_goals (refine WL.step (ok_fieldAddr rfl Tryd.underlying24 rfl (fun w => Tryd.sizeOf22 w)) rfl rfl rfl ?_)
  all_goals (refine WL.step (ok_load (fun w => Tryd.isAgg22 w) rfl (by first | assumption | exact cell_blk (by assumption) rfl)) rfl rfl rfl ?_)
  all_goals (refine WL.step (ok_lenL rfl Tryd.underlying22 rfl) rfl rfl rfl ?_)
  all_goals (first | (refine WL.step (OkP.bool_t (by omega) (ok_lss rfl rfl)) rfl rfl rfl ?_) | (refine WL.step (OkP.bool_f (by omega) (ok_lss rfl rfl)) rfl rfl rfl ?_) | (refine WL.step (ok_lss rfl rfl) rfl rfl rfl ?_))
  all_goals (refine WL.nil ?_)
  all_goals (repeat' (with_reducible first | refine thenP_n ?_ | refine blockP_n ?_))
  all_goals (refine WC.sub [(1, _), (3, _), (50, _)] ⟨rfl, rfl, rfl, trivial⟩ ?_)
  all_goals (first | refine WC.condB_t 5 rfl ?_ | refine WC.condB_f 6 rfl ?_ | (refine WC.condB 5 6 rfl (fun hb => ?_) (fun hb => ?_) <;> (first | replace hb := of_decide_eq_true hb | replace hb := of_decide_eq_false hb | replace hb := of_decide_eq_false (nt hb) | replace hb := of_decide_eq_true (nf hb) | skip)))
  all_goals (first
    | (fail_if_success (refine Br.mk (i := 5) ?_))
    | (refine Br.mk (i := 5) ?_
       all_goals (refine WC.skip ?_)
       skip))
  all_goals (first
    | (fail_if_success (refine Br.mk (i := 6) ?_))
    | (refine Br.mk (i := 6) ?_
       all_goals (refine WC.exit ?_)
       all_goals (repeat' (with_reducible first | refine thenP_x ?_ | refine blockP_miss rfl ?_ | refine blockP_hit ?_ | refine blockP_n ?_ | refine thenP_n ?_))
       all_goals (refine Br.out (i := 1000) ?_)
       skip))
  all_goals (first | (refine Br.keep ?_) | (repeat' (with_reducible first | refine thenP_n ?_ | refine blockP_n ?_)))
  all_goals (first | (refine Br.keep ?_) | (refine WC.seq ?_))
  all_goals (first | (refine Br.keep ?_) | (refine WC.block ?_))
  all_goals (first | (refine Br.keep ?_) | (refine WC.seq ?_))
  all_goals (first
               | (refine Br.keep ?_)
               | (obtain ⟨bW, oW, hA, hbW, hatW⟩ := Rd.at_ (hps.ext0 hX2) (by omega)
                  obtain ⟨⟨n, v⟩, hy⟩ : ∃ y, ps[k]? = some y := ⟨_, List.getElem?_eq_getElem (by omega)⟩
                  have hay : At h2 bW (oW + k * 2) [St n, St v] := At.elem prC_len hatW hy))
  all_goals (first | (refine Br.keep ?_) | (refine WC.region ?_))
  all_goals (first | (refine Br.keep ?_) | (refine WL.step (ok_fieldAddr rfl Tryd.underlying24 rfl (fun w => Tryd.sizeOf22 w)) rfl rfl rfl ?_))
  all_goals (first | (refine Br.keep ?_) | (refine WL.step (ok_load (fun w => Tryd.isAgg22 w) rfl (by first | assumption | exact cell_blk (by assumption) rfl)) rfl rfl rfl ?_))
  all_goals (first | (refine Br.keep ?_) | (refine WL.step (ok_move rfl) rfl rfl rfl ?_))
  all_goals (first | (refine Br.keep ?_) | (refine WL.step (ok_idxAddrA Tryd.underlying22 (fun w => Tryd.sizeOf59 w) rfl rfl rfl (by omega) (by first | rfl | assumption)) rfl rfl rfl ?_))
  all_goals (first | (refine Br.keep ?_) | (refine WL.step (ok_loadN (fun w => Tryd.isAgg59 w) (fun w => Tryd.sizeOf59 w) rfl rfl (by exact hay)) rfl rfl rfl ?_))
  all_goals (first
               | (refine Br.keep ?_)
               | (refine WL.stepR (okE_alloc (fun w => Tryd.zeroValue59 w)) rfl rfl rfl ?_
                  rintro _ h4 ⟨b4, rfl, hg4, hb4, hx4⟩))
  all_goals (first
               | (refine Br.keep ?_)
               | (refine WL.stepR0 (okE_storeW (fun w => Tryd.sizeOf59 w) rfl rfl rfl hb4 rfl (by simp [Value.oneCell'])) rfl rfl ?_
                  rintro _ h5 ⟨hb5, hx5⟩))
  all_goals (first | (refine Br.keep ?_) | (have hX5 : Ext No h1 h5 := (hx2.trans hx4).trans' hx5 (fun q hq e => by have := hx2.size; omega)))
  all_goals (first | (refine Br.keep ?_) | (refine WL.nil ?_))
  all_goals (first | (refine Br.keep ?_) | (repeat' (with_reducible first | refine thenP_n ?_ | refine blockP_n ?_)))
  all_goals (first | (refine Br.keep ?_) | (refine WC.sub [(1, _), (3, _), (4, _)] ⟨rfl, rfl, rfl, trivial⟩ ?_))
  all_goals (first | (refine Br.keep ?_) | (refine WC.seq ?_))
  all_goals (first | (refine Br.keep ?_) | (refine WC.region ?_))
  all_goals (first | (refine Br.keep ?_) | (refine WL.step (ok_fieldAddr rfl Tryd.underlying59 rfl (fun w => Tryd.sizeOf9 w)) rfl rfl rfl ?_))
  all_goals (first | (refine Br.keep ?_) | (refine WL.step (ok_load (fun w => Tryd.isAgg9 w) rfl (by first | assumption | exact cell_blk (by assumption) rfl)) rfl rfl rfl ?_))
  all_goals (first | (refine Br.keep ?_) | (first | (refine WL.step (OkP.bool_t (by first | rfl | assumption | decide) (ok_eqlS rfl rfl)) rfl rfl rfl ?_) | (refine WL.step (OkP.bool_f (by first | assumption | decide) (ok_eqlS rfl rfl)) rfl rfl rfl ?_) | (refine WL.step (ok_eqlS rfl rfl) rfl rfl rfl ?_)))
  all_goals (first | (refine Br.keep ?_) | (refine WL.step (ok_move rfl) rfl rfl rfl ?_))
  all_goals (first | (refine Br.keep ?_) | (try ((fail_if_success (refine WL.part 61 (b := true) rfl (fun _ => ?_) (fun _ => ?_))); (fail_if_success (refine WL.part 61 (b := false) rfl (fun _ => ?_) (fun _ => ?_))); (refine WL.part 61 rfl (fun hb => ?_) (fun hb => ?_) <;> (first | replace hb := of_decide_eq_true hb | replace hb := of_decide_eq_false hb | replace hb := of_decide_eq_false (nt hb) | replace hb := of_decide_eq_true (nf hb) | skip)))))
  all_goals (first | (refine Br.keep ?_) | (first | (refine WL.pass rfl rfl rfl ?_) | (refine WL.step (ok_fieldAddr rfl Tryd.underlying59 rfl (fun w => Tryd.sizeOf9 w)) rfl rfl rfl ?_)))
  all_goals (first | (refine Br.keep ?_) | (first | (refine WL.pass rfl rfl rfl ?_) | (refine WL.step (ok_load (fun w => Tryd.isAgg9 w) rfl (by first | assumption | exact cell_blk (by assumption) rfl)) rfl rfl rfl ?_)))
  all_goals (first | (refine Br.keep ?_) | (first | (refine WL.pass rfl rfl rfl ?_) | (refine WL.step (ok_lenS rfl Tryd.underlying9 rfl) rfl rfl rfl ?_)))
  all_goals (first | (refine Br.keep ?_) | (first | (refine WL.pass rfl rfl rfl ?_) | (first | (refine WL.step (OkP.bool_t (by omega) (ok_gtr rfl rfl)) rfl rfl rfl ?_) | (refine WL.step (OkP.bool_f (by omega) (ok_gtr rfl rfl)) rfl rfl rfl ?_) | (refine WL.step (ok_gtr rfl rfl) rfl rfl rfl ?_))))
  all_goals (first | (refine Br.keep ?_) | (first | (refine WL.step (ok_pick_t rfl rfl) rfl rfl rfl ?_) | (refine WL.step (ok_pick_f rfl rfl) rfl rfl rfl ?_)))
  all_goals (first | (refine Br.keep ?_) | (refine WL.step (ok_move rfl) rfl rfl rfl ?_))
  all_goals (first | (refine Br.keep ?_) | (try ((fail_if_success (refine WL.part 67 (b := true) rfl (fun _ => ?_) (fun _ => ?_))); (fail_if_success (refine WL.part 67 (b := false) rfl (fun _ => ?_) (fun _ => ?_))); (refine WL.part 67 rfl (fun hb => ?_) (fun hb => ?_) <;> (first | replace hb := of_decide_eq_true hb | replace hb := of_decide_eq_false hb | replace hb := of_decide_eq_false (nt hb) | replace hb := of_decide_eq_true (nf hb) | skip)))))
  all_goals (first | (refine Br.keep ?_) | (first | (refine WL.pass rfl rfl rfl ?_) | (refine WL.step (ok_fieldAddr rfl Tryd.underlying59 rfl (fun w => Tryd.sizeOf9 w)) rfl rfl rfl ?_)))
  all_goals (first | (refine Br.keep ?_) | (first | (refine WL.pass rfl rfl rfl ?_) | (refine WL.step (ok_load (fun w => Tryd.isAgg9 w) rfl (by first | assumption | exact cell_blk (by assumption) rfl)) rfl rfl rfl ?_)))
  all_goals (first | (refine Br.keep ?_) | (first | (refine WL.pass rfl rfl rfl ?_) | (refine WL.step (ok_lenS rfl Tryd.underlying9 rfl) rfl rfl rfl ?_)))
  all_goals (first | (refine Br.keep ?_) | (first | (refine WL.pass rfl rfl rfl ?_) | (first | (refine WL.step (OkP.bool_t (by omega) (ok_gtr rfl rfl)) rfl rfl rfl ?_) | (refine WL.step (OkP.bool_f (by omega) (ok_gtr rfl rfl)) rfl rfl rfl ?_) | (refine WL.step (ok_gtr rfl rfl) rfl rfl rfl ?_))))
  all_goals (first | (refine Br.keep ?_) | (first | (refine WL.step (ok_pick_t rfl rfl) rfl rfl rfl ?_) | (refine WL.step (ok_pick_f rfl rfl) rfl rfl rfl ?_)))
  all_goals (first | (refine Br.keep ?_) | (refine WL.step (ok_move rfl) rfl rfl rfl ?_))
  all_goals (first | (refine Br.keep ?_) | (try ((fail_if_success (refine WL.part 73 (b := true) rfl (fun _ => ?_) (fun _ => ?_))); (fail_if_success (refine WL.part 73 (b := false) rfl (fun _ => ?_) (fun _ => ?_))); (refine WL.part 73 rfl (fun hb => ?_) (fun hb => ?_) <;> (first | replace hb := of_decide_eq_true hb | replace hb := of_decide_eq_false hb | replace hb := of_decide_eq_false (nt hb) | replace hb := of_decide_eq_true (nf hb) | skip)))))
  all_goals (first | (refine Br.keep ?_) | (first | (refine WL.pass rfl rfl rfl ?_) | (refine WL.step (ok_fieldAddr rfl Tryd.underlying59 rfl (fun w => Tryd.sizeOf9 w)) rfl rfl rfl ?_)))
  all_goals (first | (refine Br.keep ?_) | (first | (refine WL.pass rfl rfl rfl ?_) | (refine WL.step (ok_load (fun w => Tryd.isAgg9 w) rfl (by first | assumption | exact cell_blk (by assumption) rfl)) rfl rfl rfl ?_)))
  all_goals (first
               | (refine Br.keep ?_)
               | (first
                    | (refine WL.pass rfl rfl rfl ?_)
                    | (refine WL.call (vs := [_]) rfl (fun a w => Tryd.call28 a w) rfl (clean02 n (by omega)) rfl rfl rfl ?_
                       rintro _ hz ⟨rfl, _⟩
                       subst hz)))
  all_goals (first | (refine Br.keep ?_) | (rcases q7 : cleanB n))
  all_goals (first | (refine Br.keep ?_) | (first | (refine WL.pass rfl rfl rfl ?_) | (refine WL.step (ok_not rfl) rfl rfl rfl ?_)))
  all_goals (first | (refine Br.keep ?_) | (first | (refine WL.step (ok_pick_t rfl rfl) rfl rfl rfl ?_) | (refine WL.step (ok_pick_f rfl rfl) rfl rfl rfl ?_)))
  all_goals (first | (refine Br.keep ?_) | (refine WL.step (ok_move rfl) rfl rfl rfl ?_))
  all_goals (first | (refine Br.keep ?_) | (try ((fail_if_success (refine WL.part 79 (b := true) rfl (fun _ => ?_) (fun _ => ?_))); (fail_if_success (refine WL.part 79 (b := false) rfl (fun _ => ?_) (fun _ => ?_))); (refine WL.part 79 rfl (fun hb => ?_) (fun hb => ?_) <;> (first | replace hb := of_decide_eq_true hb | replace hb := of_decide_eq_false hb | replace hb := of_decide_eq_false (nt hb) | replace hb := of_decide_eq_true (nf hb) | skip)))))
  all_goals (first | (refine Br.keep ?_) | (first | (refine WL.pass rfl rfl rfl ?_) | (refine WL.step (ok_fieldAddr rfl Tryd.underlying59 rfl (fun w => Tryd.sizeOf9 w)) rfl rfl rfl ?_)))
  all_goals (first | (refine Br.keep ?_) | (first | (refine WL.pass rfl rfl rfl ?_) | (refine WL.step (ok_load (fun w => Tryd.isAgg9 w) rfl (by first | assumption | exact cell_blk (by assumption) rfl)) rfl rfl rfl ?_)))
  all_goals (first
               | (refine Br.keep ?_)
               | (first
                    | (refine WL.pass rfl rfl rfl ?_)
                    | (refine WL.call (vs := [_]) rfl (fun a w => Tryd.call28 a w) rfl (clean02 v (by omega)) rfl rfl rfl ?_
                       rintro _ hz ⟨rfl, _⟩
                       subst hz)))
  all_goals (first | (refine Br.keep ?_) | (rcases q8 : cleanB v))
  all_goals (first | (refine Br.keep ?_) | (first | (refine WL.pass rfl rfl rfl ?_) | (refine WL.step (ok_not rfl) rfl rfl rfl ?_)))
  all_goals (first | (refine Br.keep ?_) | (first | (refine WL.step (ok_pick_t rfl rfl) rfl rfl rfl ?_) | (refine WL.step (ok_pick_f rfl rfl) rfl rfl rfl ?_)))
  all_goals (first | (refine Br.keep ?_) | (refine WL.nil ?_))
  all_goals (first | (refine Br.keep ?_) | (repeat' (with_reducible first | refine thenP_n ?_ | refine blockP_n ?_)))
  all_goals (first | (refine Br.keep ?_) | (refine WC.sub [(1, _), (3, _), (84, _)] ⟨rfl, rfl, rfl, trivial⟩ ?_))
  all_goals (first | (refine Br.keep ?_) | (first | refine WC.condB_t 7 rfl ?_ | refine WC.condB_f 8 rfl ?_ | (refine WC.condB 7 8 rfl (fun hb => ?_) (fun hb => ?_) <;> (first | replace hb := of_decide_eq_true hb | replace hb := of_decide_eq_false hb | replace hb := of_decide_eq_false (nt hb) | replace hb := of_decide_eq_true (nf hb) | skip))))
  all_goals (first
    | (fail_if_success (refine Br.mk (i := 7) ?_))
    | (refine Br.mk (i := 7) ?_
       all_goals (refine WC.seq ?_)
       all_goals (refine WC.region ?_)
       all_goals (refine WL.step (ok_assign rfl) rfl rfl rfl ?_)
       all_goals (refine WL.nil ?_)
       all_goals (repeat' (with_reducible first | refine thenP_n ?_ | refine blockP_n ?_))
       all_goals (refine WC.ret ?_)
       all_goals (repeat' (with_reducible first | refine thenP_r ?_ | refine blockP_r ?_))
       all_goals (refine retP_1 _ ⟨rfl, trivial⟩ ?_)
       all_goals (first
                   | exact ⟨err_f (by rw [hlim, q1, q2, q3, q4, q5, q6, all_hit (l := ps) hy (by unfold fairB; simp_all <;> omega)]; simp), hx1.trans (by assumption)⟩
                   | exact ⟨err_t (by rw [hlim, q1, q2, q3, q4, q5, q6, all_no hn (by omega), decide_eq_true (by omega)]; rfl), hX2⟩
                   | exact ⟨err_f (by rw [hlim, q1, q2, q3, q4, q5, q6, decide_eq_false (by omega)]; simp), hx1⟩
                   | exact ⟨err_f (by rw [hlim, q1, q2, q3, q4, q5, q6]; simp), hx1⟩
                   | exact ⟨err_f (by rw [hlim, q1, q2, q3, q4, q5]; simp), hx1⟩
                   | exact ⟨err_f (by rw [hlim, q1, q2, q3, q4]; simp), hx1⟩
                   | exact ⟨err_f (by rw [hlim, q1, q2, q3]; simp), hx1⟩
                   | exact ⟨err_f (by rw [hlim, q1, q2]; simp), hx1⟩
                   | exact ⟨err_f (by rw [hlim, q1]; simp), hx1⟩)
       skip))
  all_goals (first
    | (fail_if_success (refine Br.mk (i := 8) ?_))
    | (refine Br.mk (i := 8) ?_
       all_goals (refine WC.skip ?_)
       skip))
  all_goals (first | (refine Br.keep ?_) | (repeat' (with_reducible first | refine thenP_n ?_ | refine blockP_n ?_)))
  all_goals (first | (refine Br.keep ?_) | (refine WC.region ?_))
  all_goals (first | (refine Br.keep ?_) | (refine WL.step (ok_move rfl) rfl rfl rfl ?_))
  all_goals (first | (refine Br.keep ?_) | (first | (refine WL.step (ok_addI rfl rfl (by omega)) rfl rfl rfl ?_) | (refine WL.step (ok_add rfl rfl) rfl rfl rfl ?_)))
  all_goals (first | (refine Br.keep ?_) | (refine WL.step (ok_assign rfl) rfl rfl rfl ?_))
  all_goals (first | (refine Br.keep ?_) | (refine WL.nil ?_))
  all_goals (first | (refine Br.keep ?_) | (repeat' (with_reducible first | refine thenP_n ?_ | refine blockP_n ?_)))
  all_goals (first | (refine Br.keep ?_) | (exact ⟨k + 1, ⟨rfl, rfl, trivial⟩, (by exact ⟨hX5, by omega, mem_take_snoc hy hn (by unfold fairB; simp_all <;> omega)⟩), (by omega)⟩))
  all_goals (try (refine Br.mk (i := 1000) ?_))
  all_goals (repeat' (with_reducible first | refine thenP_n ?_ | refine blockP_n ?_))
  all_goals (refine WC.seq ?_)
  all_goals (refine WC.region ?_)
  all_goals (refine WL.step (ok_assign rfl) rfl rfl rfl ?_)
  all_goals (refine WL.nil ?_)
  all_goals (repeat' (with_reducible first | refine thenP_n ?_ | refine blockP_n ?_))
  all_goals (refine WC.ret ?_)
  all_goals (repeat' (with_reducible first | refine thenP_r ?_ | refine blockP_r ?_))
  all_goals (refine retP_1 _ ⟨rfl, trivial⟩ ?_)
  all_goals (first
              | exact ⟨err_f (by rw [hlim, q1, q2, q3, q4, q5, q6, all_hit (l := ps) hy (by unfold fairB; simp_all <;> omega)]; simp), hx1.trans (by assumption)⟩
              | exact ⟨err_t (by rw [hlim, q1, q2, q3, q4, q5, q6, all_no hn (by omega), decide_eq_true (by omega)]; rfl), hX2⟩
              | exact ⟨err_f (by rw [hlim, q1, q2, q3, q4, q5, q6, decide_eq_false (by omega)]; simp), hx1⟩
              | exact ⟨err_f (by rw [hlim, q1, q2, q3, q4, q5, q6]; simp), hx1⟩
              | exact ⟨err_f (by rw [hlim, q1, q2, q3, q4, q5]; simp), hx1⟩
              | exact ⟨err_f (by rw [hlim, q1, q2, q3, q4]; simp), hx1⟩
              | exact ⟨err_f (by rw [hlim, q1, q2, q3]; simp), hx1⟩
              | exact ⟨err_f (by rw [hlim, q1, q2]; simp), hx1⟩
              | exact ⟨err_f (by rw [hlim, q1]; simp), hx1⟩)
end Go.Proofs.YtanbpffpllgekaaDoor

/-
  AUDIT (layer 47): errors.As at a target of type *breach, turned from the kit's worked text (ToyasAs) to this seat's types.
-/
namespace Go.Proofs.YtanbpffpllgekaaDoor
open Go Go.RowKit Go.Extern.Stop Go.Stop Go.Extern

theorem as_nil (t : Value) (w : World) :
    Calls Tryd.prog 19 #[.nilIface, t] w fun e w' => e = .returned (.bool false) ∧ w' = w := by
  go_enter Tryd.func19, Tryd.ntmps19
  go_wp2
  go_ret
  exact ⟨rfl, rfl⟩

theorem Rf.valueOf27 (t : Addr) (w : World) : (ReflectliteValue.unpack (.iface 55 (.pointer (some t)))).run Tryd.prog w
    = .ok (.agg #[.pointer (some ⟨2, 55, none⟩), .pointer (some ⟨w.heap.size, 0, none⟩), .int .u64 150]) (w.alloc (.cells #[.pointer (some t)] 55)) := by kernel_rfl
theorem Rf.type27 (a : Addr) (w : World) : (ReflectliteValue.methodAny (ReflectliteValue.valueError "reflectlite.Value.Type" 0) (fun t _ _ _ => ReflectliteType.toType t) #[.agg #[.pointer (some ⟨2, 55, none⟩), .pointer (some a), .int .u64 150]]).run Tryd.prog w
    = .ok (.iface 92 (.agg #[.pointer (some ⟨2, 55, none⟩)])) w := by kernel_rfl
theorem Rf.methodKind (h : Value) (w : World) : (Go.method 264 92 (.agg #[h]) "Kind").run Tryd.prog w = .ok (103, h) w := by kernel_rfl
theorem Rf.kind27 (w : World) : ((ReflectliteType.abiMethod fun t => (fun a : Nat => Value.int IntKind.u8 (a : Int)) <$> Rtype.kind t) #[.pointer (some ⟨2, 55, none⟩)]).run Tryd.prog w = .ok (.int .u8 22) w := by kernel_rfl
theorem Rf.kind25 (w : World) : ((ReflectliteType.abiMethod fun t => (fun a : Nat => Value.int IntKind.u8 (a : Int)) <$> Rtype.kind t) #[.pointer (some ⟨2, 50, none⟩)]).run Tryd.prog w = .ok (.int .u8 2) w := by kernel_rfl

theorem rlm (z : Sem Value) (f : TypeId → Addr → Nat → Nat → Sem Value) (v : Value) :
    ReflectliteValue.method z f #[v] = (do match ← ReflectliteValue.parts v with | none => z | some (t, a, fl) => f t a fl (fl % 32)) := rfl
theorem Rf.parts27 (a : Addr) (w : World) : (ReflectliteValue.parts (.agg #[.pointer (some ⟨2, 55, none⟩), .pointer (some a), .int .u64 150])).run Tryd.prog w = .ok (some (55, a, 150)) w := by kernel_rfl
theorem Rf.isNil27 (a p : Addr) (W : World) (ha : W.cell? a = some (.pointer (some p))) :
    (ReflectliteValue.method (ReflectliteValue.valueError "reflectlite.Value.IsNil" 0) ReflectliteValue.isNil #[.agg #[.pointer (some ⟨2, 55, none⟩), .pointer (some a), .int .u64 150]]).run Tryd.prog W = .ok (.bool false) W := by
  rw [rlm]
  simp only [Sem.run_bind, Rf.parts27, Result.andThen]
  simp [ReflectliteValue.isNil, loadVar, isAgg, underlying, Tryd.underlying55, ha, Result.andThen]

theorem Rf.methodElem (h : Value) (w : World) : (Go.method 264 92 (.agg #[h]) "Elem").run Tryd.prog w = .ok (113, .agg #[h]) w := by kernel_rfl
theorem Rf.methodImplements (h : Value) (w : World) : (Go.method 264 92 (.agg #[h]) "Implements").run Tryd.prog w = .ok (114, .agg #[h]) w := by kernel_rfl
theorem Rf.methodAssignableTo (h : Value) (w : World) : (Go.method 264 92 (.agg #[h]) "AssignableTo").run Tryd.prog w = .ok (111, .agg #[h]) w := by kernel_rfl
theorem Rf.elem27 (w : World) : (ReflectliteType.method ReflectliteType.elem #[.agg #[.pointer (some ⟨2, 55, none⟩)]]).run Tryd.prog w = .ok (.iface 92 (.agg #[.pointer (some ⟨2, 50, none⟩)])) w := by kernel_rfl
theorem Rf.implements25 (w : World) : (ReflectliteType.relation "Implements" ReflectliteType.implements_ #[.agg #[.pointer (some ⟨2, 50, none⟩)], .iface 92 (.agg #[.pointer (some ⟨2, 53, none⟩)])]).run Tryd.prog w = .ok (.bool true) w := by kernel_rfl
theorem Rf.typeOf25 (v : Value) (w : World) : (ReflectliteType.typeOf #[.iface 50 v]).run Tryd.prog w = .ok (.iface 92 (.agg #[.pointer (some ⟨2, 50, none⟩)])) w := by kernel_rfl
theorem Rf.assignable25 (w : World) : (ReflectliteType.relation "AssignableTo" ReflectliteType.assignableTo #[.agg #[.pointer (some ⟨2, 50, none⟩)], .iface 92 (.agg #[.pointer (some ⟨2, 50, none⟩)])]).run Tryd.prog w = .ok (.bool true) w := by kernel_rfl
theorem Rf.valueOf25 (n : Int) (w : World) : (ReflectliteValue.unpack (.iface 50 (.int .i64 n))).run Tryd.prog w
    = .ok (.agg #[.pointer (some ⟨2, 50, none⟩), .pointer (some ⟨w.heap.size, 0, none⟩), .int .u64 130]) (w.alloc (.cells #[.int .i64 n] 50)) := by kernel_rfl

theorem Rf.elemOf27 (w : World) : (Rtype.elem? 55).run Tryd.prog w = .ok (some 50) w := by kernel_rfl
theorem Rf.mk25 (p : Addr) (w : World) : (ReflectliteValue.mk 50 p ReflectliteValue.flagAddr).run Tryd.prog w = .ok (.agg #[.pointer (some ⟨2, 50, none⟩), .pointer (some p), .int .u64 386]) w := by kernel_rfl
theorem Rf.elemV27 (a p : Addr) (W : World) (ha : W.cell? a = some (.pointer (some p))) :
    (ReflectliteValue.method (ReflectliteValue.valueError "reflectlite.Value.Elem" 0) ReflectliteValue.elem #[.agg #[.pointer (some ⟨2, 55, none⟩), .pointer (some a), .int .u64 150]]).run Tryd.prog W
      = .ok (.agg #[.pointer (some ⟨2, 50, none⟩), .pointer (some p), .int .u64 386]) W := by
  rw [rlm]
  simp only [Sem.run_bind, Rf.parts27, Result.andThen]
  simp [ReflectliteValue.elem, loadVar, isAgg, underlying, Tryd.underlying55, ha, Result.andThen, Rf.elemOf27, Rf.mk25]
theorem rls (v x : Value) : ReflectliteValue.set #[v, x] = (do
    let (some (dst, a, fl), some (src, b, _)) := (← ReflectliteValue.parts v, ← ReflectliteValue.parts x)
      | unsupported (.noEntry "extern/(internal/reflectlite.Value).Set.zeroValue")
    if fl / ReflectliteValue.flagAddr % 2 == 0 then unsupported (.noEntry "extern/(internal/reflectlite.Value).Set.unaddressable")
    let val ← loadVar src b
    if ← Rtype.directlyAssignable dst src then storeVar dst a val
    else if ← Rtype.implements dst src then
      if (← Rtype.kind src) == 20 then
        match val with
        | .nilIface => unsupported (.noEntry "extern/reflectlite: a nil value of one interface type handed on as a value of another")
        | _ => storeVar dst a val
      else storeVar dst a (.iface src val)
    else panicString ("reflectlite.Set: value of type " ++ (← Rtype.spelt src) ++ " is not assignable to type " ++ (← Rtype.spelt dst))
    pure (.tuple #[])) := rfl
theorem Rf.parts25a (a : Addr) (w : World) : (ReflectliteValue.parts (.agg #[.pointer (some ⟨2, 50, none⟩), .pointer (some a), .int .u64 386])).run Tryd.prog w = .ok (some (50, a, 386)) w := by kernel_rfl
theorem Rf.parts25 (a : Addr) (w : World) : (ReflectliteValue.parts (.agg #[.pointer (some ⟨2, 50, none⟩), .pointer (some a), .int .u64 130])).run Tryd.prog w = .ok (some (50, a, 130)) w := by kernel_rfl
theorem Rf.direct25 (w : World) : (Rtype.directlyAssignable 50 50).run Tryd.prog w = .ok true w := by kernel_rfl
theorem Rf.size25 (w : World) : (sizeOf 50).run Tryd.prog w = .ok 1 w := by kernel_rfl
theorem Rf.set25 (n : Int) (ta b : Addr) (old : Value) (W : World) (hb : W.cell? b = some (.int .i64 n)) (ht : W.cell? ta = some old) (hf : W.frozen? ta = false) :
    (ReflectliteValue.set #[.agg #[.pointer (some ⟨2, 50, none⟩), .pointer (some ta), .int .u64 386], .agg #[.pointer (some ⟨2, 50, none⟩), .pointer (some b), .int .u64 130]]).run Tryd.prog W
      = .ok (.tuple #[]) (W.setCell ta (.int .i64 n)) := by
  rw [rls]
  simp only [Sem.run_bind, Rf.parts25a, Rf.parts25, Result.andThen]
  simp [ReflectliteValue.flagAddr, loadVar, isAgg, underlying, Tryd.underlying50, hb, Result.andThen, Rf.direct25, storeVar, Value.cells, storeCells, Addr.add]
  rw [run_store Tryd.prog W ta _ _ (by rfl)]
  simp [ht, hf]

set_option maxHeartbeats 4000000 in
theorem as_hit (n : Int) (t : Addr) (old : Value) (w : World) (hg : w.cell? ⟨0, 0, none⟩ = some (.iface 92 (.agg #[.pointer (some ⟨2, 53, none⟩)]))) (ht0 : w.cell? t = some old) (hf0 : w.frozen? t = false) :
    Calls Tryd.prog 19 #[.iface 50 (.int .i64 n), .iface 55 (.pointer (some t))] w fun ev w' => ev = .returned (.bool true) ∧ w' = ((((w.alloc (.cells #[.pointer (some t)] 55)).alloc (.cells #[.pointer (some ⟨2, 55, none⟩), .pointer (some ⟨w.heap.size, 0, none⟩), .int .u64 150] 75)).alloc (.cells #[.pointer (some ⟨2, 55, none⟩), .pointer (some ⟨w.heap.size, 0, none⟩), .int .u64 150] 75)).alloc (.cells #[.int .i64 n] 50)).setCell t (.int .i64 n) := by
  have h6 := @run_callFunc_extern Tryd.prog 38 _ (fun args => ReflectliteValue.unpack (args.getD 0 (.tuple #[]))) Tryd.func38 (by kernel_rfl) (by kernel_rfl) (by kernel_rfl) (by kernel_rfl)
  have h7 := @run_callFunc_extern Tryd.prog 39 _ (ReflectliteValue.methodAny (ReflectliteValue.valueError "reflectlite.Value.Type" 0) (fun t _ _ _ => ReflectliteType.toType t)) Tryd.func39 (by kernel_rfl) (by kernel_rfl) (by kernel_rfl) (by kernel_rfl)
  have h8 := @run_callFunc_extern Tryd.prog 40 _ (ReflectliteValue.method (ReflectliteValue.valueError "reflectlite.Value.IsNil" 0) ReflectliteValue.isNil) Tryd.func40 (by kernel_rfl) (by kernel_rfl) (by kernel_rfl) (by kernel_rfl)
  have h27 := @run_callFunc_extern Tryd.prog 103 _ (ReflectliteType.abiMethod fun t => do pure (.int .u8 (← Rtype.kind t))) Tryd.func103 (by kernel_rfl) (by kernel_rfl) (by kernel_rfl) (by kernel_rfl)
  have h37 := @run_callFunc_extern Tryd.prog 113 _ (ReflectliteType.method ReflectliteType.elem) Tryd.func113 (by kernel_rfl) (by kernel_rfl) (by kernel_rfl) (by kernel_rfl)
  have h38 := @run_callFunc_extern Tryd.prog 114 _ (ReflectliteType.relation "Implements" ReflectliteType.implements_) Tryd.func114 (by kernel_rfl) (by kernel_rfl) (by kernel_rfl) (by kernel_rfl)
  have h10 := @run_callFunc_extern Tryd.prog 56 _ ReflectliteType.typeOf Tryd.func56 (by kernel_rfl) (by kernel_rfl) (by kernel_rfl) (by kernel_rfl)
  have h35 := @run_callFunc_extern Tryd.prog 111 _ (ReflectliteType.relation "AssignableTo" ReflectliteType.assignableTo) Tryd.func111 (by kernel_rfl) (by kernel_rfl) (by kernel_rfl) (by kernel_rfl)
  have h11 := @run_callFunc_extern Tryd.prog 57 _ (ReflectliteValue.method (ReflectliteValue.valueError "reflectlite.Value.Elem" 0) ReflectliteValue.elem) Tryd.func57 (by kernel_rfl) (by kernel_rfl) (by kernel_rfl) (by kernel_rfl)
  have h12 := @run_callFunc_extern Tryd.prog 58 _ ReflectliteValue.set Tryd.func58 (by kernel_rfl) (by kernel_rfl) (by kernel_rfl) (by kernel_rfl)
  have tO := Rf.typeOf25
  have mA := Rf.methodAssignableTo
  have a25 := Rf.assignable25
  have v25 := Rf.valueOf25
  have f6 := Rf.valueOf27
  have f7 := Rf.type27
  have mK := Rf.methodKind
  have mE := Rf.methodElem
  have mI := Rf.methodImplements
  have k27 := Rf.kind27
  have k25 := Rf.kind25
  have e27 := Rf.elem27
  have i25 := Rf.implements25
  have n8 := Rf.isNil27 ⟨w.heap.size, 0, none⟩ t ((w.alloc (.cells #[.pointer (some t)] 55)).alloc (.cells #[.pointer (some ⟨2, 55, none⟩), .pointer (some ⟨w.heap.size, 0, none⟩), .int .u64 150] 75)) (by simp)
  have hlt : 0 < w.heap.size := by
    rcases Nat.eq_zero_or_pos w.heap.size with h0 | h
    · simp [World.cell?, h0] at hg
    · exact h
  have hg2 : ((w.alloc (.cells #[.pointer (some t)] 55)).alloc (.cells #[.pointer (some ⟨2, 55, none⟩), .pointer (some ⟨w.heap.size, 0, none⟩), .int .u64 150] 75)).cell? ⟨0, 0, none⟩ = some (.iface 92 (.agg #[.pointer (some ⟨2, 53, none⟩)])) := by
    rw [World.cell?_alloc_lt _ _ ⟨0, 0, none⟩ (by simp), World.cell?_alloc_lt _ _ ⟨0, 0, none⟩ hlt]; exact hg
  have htl : t.block < w.heap.size := by
    rcases Nat.lt_or_ge t.block w.heap.size with h | h
    · exact h
    · simp [World.cell?, Array.getElem?_eq_none h] at ht0
  have el := Rf.elemV27 ⟨w.heap.size, 0, none⟩ t (((w.alloc (.cells #[.pointer (some t)] 55)).alloc (.cells #[.pointer (some ⟨2, 55, none⟩), .pointer (some ⟨w.heap.size, 0, none⟩), .int .u64 150] 75)).alloc (.cells #[.pointer (some ⟨2, 55, none⟩), .pointer (some ⟨w.heap.size, 0, none⟩), .int .u64 150] 75)) (by rw [World.cell?_alloc_lt _ _ ⟨w.heap.size, 0, none⟩ (by simp; omega)]; simp)
  have st := Rf.set25 n t ⟨w.heap.size + 1 + 1 + 1, 0, none⟩ old ((((w.alloc (.cells #[.pointer (some t)] 55)).alloc (.cells #[.pointer (some ⟨2, 55, none⟩), .pointer (some ⟨w.heap.size, 0, none⟩), .int .u64 150] 75)).alloc (.cells #[.pointer (some ⟨2, 55, none⟩), .pointer (some ⟨w.heap.size, 0, none⟩), .int .u64 150] 75)).alloc (.cells #[.int .i64 n] 50))
    (by rw [World.cell?_alloc_at _ _ _ _ (by simp)]; rfl)
    (by rw [World.cell?_alloc_lt _ _ t (by simp; omega), World.cell?_alloc_lt _ _ t (by simp; omega), World.cell?_alloc_lt _ _ t (by simp; omega), World.cell?_alloc_lt _ _ t htl]; exact ht0)
    (by rw [World.frozen?_alloc_old _ _ t (by simp; omega), World.frozen?_alloc_old _ _ t (by simp; omega), World.frozen?_alloc_old _ _ t (by simp; omega), World.frozen?_alloc_old _ _ t (Nat.ne_of_lt htl)]; exact hf0)
  go_enter Tryd.func19, Tryd.ntmps19
  go_wp2
  refine wp_loop_rounds 1 ?_
  rw [rounds_succ]
  go_wp2
  go_ret
  exact ⟨rfl, rfl⟩
end Go.Proofs.YtanbpffpllgekaaDoor

/-
  AUDIT (layer 47): errors.As at a target of type *breach, by heaps.
-/
namespace Go.Proofs.YtanbpffpllgekaaDoor
open Go Go.RK

/-- What the library's one variable holds. -/
def Er (h : Heap) : Prop := At h 0 0 [.iface 92 (.agg #[.pointer (some ⟨2, 53, none⟩)])]
theorem Er.ext0 {h h' : Heap} (e : Er h) (a : Ext No h h') : Er h' := At.ext e a nos
theorem push_old (h : Heap) (o : Obj) {k : Nat} (hk : k < h.size) : (h.push o)[k]? = h[k]? := by simp [Array.getElem?_push, Nat.ne_of_lt hk]
theorem errAs_nil {h : Heap} (t : Value) : CallsH Tryd.prog 19 ⟨[errV 0, t]⟩ h fun u h' => u = .bool false ∧ h' = h := fun w hw =>
  (as_nil t w).mono fun e w' ⟨he, hw'⟩ => by
    subst hw'
    exact ⟨Same.refl _, _, he, rfl, hw⟩
theorem errAs_hit {h : Heap} {bt : Nat} {n old : Int} (er : Er h) (hn : n ≠ 0) (hb : h[bt]? = some (.cells ⟨[In old]⟩ 50 (0, 0))) : CallsH Tryd.prog 19 ⟨[errV n, .iface 55 (.pointer (some ⟨bt, 0, none⟩))]⟩ h fun u h' => u = .bool true ∧ h'[bt]? = some (.cells ⟨[In n]⟩ 50 (0, 0)) ∧ Ext (fun q => q = bt) h h' := fun w hw => by
  subst hw
  have e1 : errV n = .iface 50 (In n) := if_neg hn
  rw [e1]
  have hlt := lt_of_some hb
  refine (as_hit n ⟨bt, 0, none⟩ (In old) w (er 0 _ rfl) (by simp [World.cell?, hb]) (by simp [World.frozen?, hb])).mono fun e w' ⟨he, hw'⟩ => ?_
  subst hw'
  refine ⟨⟨rfl, rfl, rfl, Nat.le_refl _⟩, _, he, rfl, ?_, ?_, ?_⟩
  · rw [World.setCell]
    simp only [World.alloc, Array.getElem?_modify, ↓reduceIte]
    rw [push_old _ _ (by simp; omega), push_old _ _ (by simp; omega), push_old _ _ (by simp; omega), push_old _ _ hlt, hb]
    rfl
  · simp only [World.setCell, World.alloc, Array.size_modify, Array.size_push]
    omega
  · intro b hbl hS
    simp only [World.setCell, World.alloc, Array.getElem?_modify]
    rw [if_neg (fun e => hS e.symm), push_old _ _ (by simp; omega), push_old _ _ (by simp; omega), push_old _ _ (by simp; omega), push_old _ _ hbl]
end Go.Proofs.YtanbpffpllgekaaDoor

/-
  AUDIT (layer 47): the code's Check.
-/
namespace Go.Proofs.YtanbpffpllgekaaDoor
open Go Go.RK

def crowdB (c : Cf) (V : VW) : Bool := V.s.any (fullS c) || V.c.any (fullC c)
open Classical in
/-- The first that is wrong behind the settings. -/
noncomputable def auT (c : Cf) (V : VW) : Int :=
  if V.c.length = 16 ∧ (V.s.length : Int) = c.sv then
    if HoldP V then
      if (∀ s ∈ V.s, idleB s = true) then
        if crowdB c V = false then
          if IsCnt (idsV V) V.r then
            if WaitP V then 0 else 8
          else 10
        else 6
      else 10
    else 8
  else 1
noncomputable def auR (c : Cf) (V : VW) : Int := if limB c = true then auT c V else 1
theorem errV_ne {n R : Int} (hn : n ≠ 0) (h : R = n) : (.iface 50 (In n) : Value) = errV R := by subst h; exact (if_neg hn).symm
theorem ite01n {p : Prop} [Decidable p] (h : (if p then 0 else 1 : Int) = 1) : ¬ p := fun e => by rw [if_pos e] at h; cases h
theorem ite01p {p : Prop} [Decidable p] (h : (if p then 0 else 1 : Int) = 0) : p := by
  by_cases e : p
  · exact e
  · rw [if_neg e] at h; cases h
theorem err_cases {u : Value} {r n : Int} (e : u = errV r) (hn : n ≠ 0) (hr : r = 0 ∨ r = n) : (u = .nilIface ∧ r = 0) ∨ (u = .iface 50 (In n) ∧ r = n) := by
  rcases hr with rfl | rfl
  · exact .inl ⟨e, rfl⟩
  · exact .inr ⟨e.trans (if_neg hn), rfl⟩
theorem errAs_any {h : Heap} {bt : Nat} {n old : Int} (er : Er h) (hb : h[bt]? = some (.cells ⟨[In old]⟩ 50 (0, 0))) : CallsH Tryd.prog 19 ⟨[errV n, .iface 55 (.pointer (some ⟨bt, 0, none⟩))]⟩ h fun u h' => u = .bool (decide (n ≠ 0)) ∧ (∃ m, h'[bt]? = some (.cells ⟨[In m]⟩ 50 (0, 0)) ∧ (n ≠ 0 → m = n)) ∧ Ext (fun q => q = bt) h h' := by
  by_cases hn : n = 0
  · subst hn
    exact (errAs_nil _).mono fun v h' ⟨e, eh⟩ => by subst eh; exact ⟨e.trans rfl, ⟨old, hb, fun e => absurd rfl e⟩, .refl _ _⟩
  · exact (errAs_hit er hn hb).mono fun v h' ⟨e, e2, e3⟩ => ⟨by rw [e, decide_eq_true hn], ⟨n, e2, fun _ => rfl⟩, e3⟩
set_option maxRecDepth 100000 in
theorem all_v {h : Heap} (c : Cf) (V : VW) (oc : c.ok h) (ok : V.ok h) (f : Few V) : CallsH Tryd.prog 20 ⟨[.agg ⟨c.cells⟩, .agg ⟨V.cells⟩]⟩ h fun u h' => u = errV (auT c V) ∧ Ext No h h' := by
  generalize hau : auT c V = R
  unfold auT at hau
  have k1 := fun h' (hx : Ext No h h') => sizes_v c V (oc.ext0 hx) (ok.ext0 hx)
  have k2 := fun h' (hx : Ext No h h') => holders_e c V (oc.ext0 hx) (ok.ext0 hx)
  have k3 := fun h' (hx : Ext No h h') => idle_e c V (oc.ext0 hx) (ok.ext0 hx)
  have k4 := fun h' (hx : Ext No h h') => bounds_e c V (oc.ext0 hx) (ok.ext0 hx)
  have k5 := fun h' (hx : Ext No h h') => counts_e c V (oc.ext0 hx) (ok.ext0 hx) f
  have k6 := fun h' (hx : Ext No h h') => waits_e c V (oc.ext0 hx) (ok.ext0 hx)
  obtain ⟨A1, c1, A2, c2, A3, c3, A4, c4, e1, e2, e3, e4⟩ := ok.slices
  obtain ⟨A5, c5, e5, _⟩ := id oc.p
  unfold VW.cells Cf.cells at k1 k2 k3 k4 k5 k6 ⊢
  rw [e1, e2, e3, e4, e5] at k1 k2 k3 k4 k5 k6 ⊢
  refine calls [(0, _), (1, _)] Tryd.func20 rfl Tryd.ntmps20 rfl ⟨rfl, rfl, trivial⟩ ?_
  all_goals (refine WC.seq ?_)
  all_goals (refine WC.region ?_)
  all_goals (refine WL.stepR (okE_box rfl) rfl rfl rfl ?_
             rintro _ h1 ⟨b1, rfl, hg1, hb1, hx1⟩)
  all_goals (refine WL.stepR (okE_box rfl) rfl rfl rfl ?_
             rintro _ h2 ⟨b2, rfl, hg2, hb2, hx2⟩)
  all_goals (have hX2 := hx1.trans hx2
             have hb12 := hx2.obj hb1 nos
             clear hb1)
  all_goals (refine WL.step (ok_assign rfl) rfl rfl rfl ?_)
  all_goals (refine WL.nil ?_)
  all_goals (repeat' (with_reducible first | refine thenP_n ?_ | refine blockP_n ?_))
  all_goals (refine WC.seq ?_)
  all_goals (refine WC.seq ?_)
  all_goals (refine WC.region ?_)
  all_goals (refine WL.step (ok_loadN (fun w => Tryd.isAgg24 w) (fun w => Tryd.sizeOf24 w) rfl rfl (by exact At.of_block hb12)) rfl rfl rfl ?_)
  all_goals (refine WL.step (ok_loadN (fun w => Tryd.isAgg30 w) (fun w => Tryd.sizeOf30 w) rfl rfl (by exact At.of_block hb2)) rfl rfl rfl ?_)
  all_goals (refine WL.call (vs := [_, _]) rfl (fun a w => Tryd.call42 a w) rfl (k1 _ hX2) rfl rfl rfl ?_
             rintro u3 h3 ⟨g3, hx3⟩)
  all_goals (have hX3 := hX2.trans hx3
             have hb13 := hx3.obj hb12 nos
             have hb23 := hx3.obj hb2 nos
             rcases err_cases (n := 1) g3 (by decide) (by split <;> simp) with ⟨rfl, hr3⟩ | ⟨rfl, hr3⟩)
  all_goals (refine WL.step (ok_assign rfl) rfl rfl rfl ?_)
  all_goals (refine WL.nil ?_)
  all_goals (repeat' (with_reducible first | refine thenP_n ?_ | refine blockP_n ?_))
  all_goals (refine WC.sub [(2, _), (3, _), (5, _)] ⟨rfl, rfl, rfl, trivial⟩ ?_)
  all_goals (refine WC.seq ?_)
  all_goals (refine WC.region ?_)
  all_goals (refine WL.step (ok_move rfl) rfl rfl rfl ?_)
  all_goals (first | (refine WL.step (ok_neqIh (by kernel_rfl) rfl rfl) rfl rfl rfl ?_) | (refine WL.step (ok_neqIn (by kernel_rfl) rfl rfl) rfl rfl rfl ?_))
  all_goals (refine WL.nil ?_)
  all_goals (repeat' (with_reducible first | refine thenP_n ?_ | refine blockP_n ?_))
  all_goals (first | refine WC.condB_t 1 rfl ?_ | refine WC.condB_f 2 rfl ?_ | (refine WC.condB 1 2 rfl (fun hb => ?_) (fun hb => ?_) <;> (first | replace hb := of_decide_eq_true hb | replace hb := of_decide_eq_false hb | replace hb := of_decide_eq_false (nt hb) | replace hb := of_decide_eq_true (nf hb) | skip)))
  all_goals (first
    | (fail_if_success (refine Br.mk (i := 1) ?_))
    | (refine Br.mk (i := 1) ?_
       all_goals (refine WC.seq ?_)
       all_goals (refine WC.region ?_)
       all_goals (refine WL.step (ok_move rfl) rfl rfl rfl ?_)
       all_goals (refine WL.step (ok_assign rfl) rfl rfl rfl ?_)
       all_goals (refine WL.nil ?_)
       all_goals (repeat' (with_reducible first | refine thenP_n ?_ | refine blockP_n ?_))
       all_goals (refine WC.sub [(4, _)] ⟨rfl, trivial⟩ ?_)
       all_goals (refine WC.ret ?_)
       all_goals (repeat' (with_reducible first | refine thenP_r ?_ | refine blockP_r ?_))
       all_goals (refine retP_1 _ ⟨rfl, trivial⟩ ?_)
       all_goals (first
                   | (refine ⟨errV_ne (by decide) ?_, hX3⟩; rw [← hau, if_neg (ite01n hr3)])
                   | (refine ⟨errV_ne (by decide) ?_, hX4⟩; rw [← hau, if_pos (ite01p hr3), if_neg (fun e => absurd (hi4.2 e) (by decide))])
                   | (refine ⟨errV_ne (by decide) ?_, hX5⟩; rw [← hau, if_pos (ite01p hr3), if_pos (hi4.1 rfl), if_neg (fun e => absurd (hi5.2 e) (by decide))])
                   | (refine ⟨errV_ne (by decide) ?_, hX6⟩; rw [← hau, if_pos (ite01p hr3), if_pos (hi4.1 rfl), if_pos (hi5.1 rfl), if_neg (show ¬ crowdB c V = false from fun e => absurd (hi6.2 e) (by decide))])
                   | (refine ⟨errV_ne (by decide) ?_, hX7⟩; rw [← hau, if_pos (ite01p hr3), if_pos (hi4.1 rfl), if_pos (hi5.1 rfl), if_pos (show crowdB c V = false from hi6.1 rfl), if_neg (fun e => absurd (hi7.2 e) (by decide))])
                   | (refine ⟨?_, hX7.trans hx8⟩; rw [g8, ← hau, if_pos (ite01p hr3), if_pos (hi4.1 rfl), if_pos (hi5.1 rfl), if_pos (show crowdB c V = false from hi6.1 rfl), if_pos (hi7.1 rfl)]; rcases hr8 with rfl | rfl; rw [if_pos (hi8.1 rfl)]; rw [if_neg (fun e => absurd (hi8.2 e) (by decide))]))
       skip))
  all_goals (first
    | (fail_if_success (refine Br.mk (i := 2) ?_))
    | (refine Br.mk (i := 2) ?_
       all_goals (refine WC.skip ?_)
       skip))
  all_goals (repeat' (with_reducible first | refine thenP_n ?_ | refine blockP_n ?_))
  all_goals (refine WC.seq ?_)
  all_goals (refine WC.seq ?_)
  all_goals (refine WC.region ?_)
  all_goals (refine WL.step (ok_loadN (fun w => Tryd.isAgg24 w) (fun w => Tryd.sizeOf24 w) rfl rfl (by exact At.of_block hb13)) rfl rfl rfl ?_)
  all_goals (refine WL.step (ok_loadN (fun w => Tryd.isAgg30 w) (fun w => Tryd.sizeOf30 w) rfl rfl (by exact At.of_block hb23)) rfl rfl rfl ?_)
  all_goals (refine WL.call (vs := [_, _]) rfl (fun a w => Tryd.call43 a w) rfl (k2 _ hX3) rfl rfl rfl ?_
             rintro u4 h4 ⟨⟨r4, g4, hr4, hi4⟩, hx4⟩)
  all_goals (have hX4 := hX3.trans hx4
             have hb14 := hx4.obj hb13 nos
             have hb24 := hx4.obj hb23 nos
             rcases err_cases g4 (by decide) hr4 with ⟨rfl, rfl⟩ | ⟨rfl, rfl⟩)
  all_goals (refine WL.step (ok_assign rfl) rfl rfl rfl ?_)
  all_goals (refine WL.nil ?_)
  all_goals (repeat' (with_reducible first | refine thenP_n ?_ | refine blockP_n ?_))
  all_goals (refine WC.sub [(2, _), (3, _), (6, _)] ⟨rfl, rfl, rfl, trivial⟩ ?_)
  all_goals (refine WC.seq ?_)
  all_goals (refine WC.region ?_)
  all_goals (refine WL.step (ok_move rfl) rfl rfl rfl ?_)
  all_goals (first | (refine WL.step (ok_neqIh (by kernel_rfl) rfl rfl) rfl rfl rfl ?_) | (refine WL.step (ok_neqIn (by kernel_rfl) rfl rfl) rfl rfl rfl ?_))
  all_goals (refine WL.nil ?_)
  all_goals (repeat' (with_reducible first | refine thenP_n ?_ | refine blockP_n ?_))
  all_goals (first | refine WC.condB_t 3 rfl ?_ | refine WC.condB_f 4 rfl ?_ | (refine WC.condB 3 4 rfl (fun hb => ?_) (fun hb => ?_) <;> (first | replace hb := of_decide_eq_true hb | replace hb := of_decide_eq_false hb | replace hb := of_decide_eq_false (nt hb) | replace hb := of_decide_eq_true (nf hb) | skip)))
  all_goals (first
    | (fail_if_success (refine Br.mk (i := 3) ?_))
    | (refine Br.mk (i := 3) ?_
       all_goals (refine WC.seq ?_)
       all_goals (refine WC.region ?_)
       all_goals (refine WL.step (ok_move rfl) rfl rfl rfl ?_)
       all_goals (refine WL.step (ok_assign rfl) rfl rfl rfl ?_)
       all_goals (refine WL.nil ?_)
       all_goals (repeat' (with_reducible first | refine thenP_n ?_ | refine blockP_n ?_))
       all_goals (refine WC.sub [(4, _)] ⟨rfl, trivial⟩ ?_)
       all_goals (refine WC.ret ?_)
       all_goals (repeat' (with_reducible first | refine thenP_r ?_ | refine blockP_r ?_))
       all_goals (refine retP_1 _ ⟨rfl, trivial⟩ ?_)
       all_goals (first
                   | (refine ⟨errV_ne (by decide) ?_, hX3⟩; rw [← hau, if_neg (ite01n hr3)])
                   | (refine ⟨errV_ne (by decide) ?_, hX4⟩; rw [← hau, if_pos (ite01p hr3), if_neg (fun e => absurd (hi4.2 e) (by decide))])
                   | (refine ⟨errV_ne (by decide) ?_, hX5⟩; rw [← hau, if_pos (ite01p hr3), if_pos (hi4.1 rfl), if_neg (fun e => absurd (hi5.2 e) (by decide))])
                   | (refine ⟨errV_ne (by decide) ?_, hX6⟩; rw [← hau, if_pos (ite01p hr3), if_pos (hi4.1 rfl), if_pos (hi5.1 rfl), if_neg (show ¬ crowdB c V = false from fun e => absurd (hi6.2 e) (by decide))])
                   | (refine ⟨errV_ne (by decide) ?_, hX7⟩; rw [← hau, if_pos (ite01p hr3), if_pos (hi4.1 rfl), if_pos (hi5.1 rfl), if_pos (show crowdB c V = false from hi6.1 rfl), if_neg (fun e => absurd (hi7.2 e) (by decide))])
                   | (refine ⟨?_, hX7.trans hx8⟩; rw [g8, ← hau, if_pos (ite01p hr3), if_pos (hi4.1 rfl), if_pos (hi5.1 rfl), if_pos (show crowdB c V = false from hi6.1 rfl), if_pos (hi7.1 rfl)]; rcases hr8 with rfl | rfl; rw [if_pos (hi8.1 rfl)]; rw [if_neg (fun e => absurd (hi8.2 e) (by decide))]))
       skip))
  all_goals (first
    | (fail_if_success (refine Br.mk (i := 4) ?_))
    | (refine Br.mk (i := 4) ?_
       all_goals (refine WC.skip ?_)
       skip))
  all_goals (repeat' (with_reducible first | refine thenP_n ?_ | refine blockP_n ?_))
  all_goals (refine WC.seq ?_)
  all_goals (refine WC.seq ?_)
  all_goals (refine WC.region ?_)
  all_goals (refine WL.step (ok_loadN (fun w => Tryd.isAgg24 w) (fun w => Tryd.sizeOf24 w) rfl rfl (by exact At.of_block hb14)) rfl rfl rfl ?_)
  all_goals (refine WL.step (ok_loadN (fun w => Tryd.isAgg30 w) (fun w => Tryd.sizeOf30 w) rfl rfl (by exact At.of_block hb24)) rfl rfl rfl ?_)
  all_goals (refine WL.call (vs := [_, _]) rfl (fun a w => Tryd.call44 a w) rfl (k3 _ hX4) rfl rfl rfl ?_
             rintro u5 h5 ⟨⟨r5, g5, hr5, hi5⟩, hx5⟩)
  all_goals (have hX5 := hX4.trans hx5
             have hb15 := hx5.obj hb14 nos
             have hb25 := hx5.obj hb24 nos
             rcases err_cases g5 (by decide) hr5 with ⟨rfl, rfl⟩ | ⟨rfl, rfl⟩)
  all_goals (refine WL.step (ok_assign rfl) rfl rfl rfl ?_)
  all_goals (refine WL.nil ?_)
  all_goals (repeat' (with_reducible first | refine thenP_n ?_ | refine blockP_n ?_))
  all_goals (refine WC.sub [(2, _), (3, _), (7, _)] ⟨rfl, rfl, rfl, trivial⟩ ?_)
  all_goals (refine WC.seq ?_)
  all_goals (refine WC.region ?_)
  all_goals (refine WL.step (ok_move rfl) rfl rfl rfl ?_)
  all_goals (first | (refine WL.step (ok_neqIh (by kernel_rfl) rfl rfl) rfl rfl rfl ?_) | (refine WL.step (ok_neqIn (by kernel_rfl) rfl rfl) rfl rfl rfl ?_))
  all_goals (refine WL.nil ?_)
  all_goals (repeat' (with_reducible first | refine thenP_n ?_ | refine blockP_n ?_))
  all_goals (first | refine WC.condB_t 5 rfl ?_ | refine WC.condB_f 6 rfl ?_ | (refine WC.condB 5 6 rfl (fun hb => ?_) (fun hb => ?_) <;> (first | replace hb := of_decide_eq_true hb | replace hb := of_decide_eq_false hb | replace hb := of_decide_eq_false (nt hb) | replace hb := of_decide_eq_true (nf hb) | skip)))
  all_goals (first
    | (fail_if_success (refine Br.mk (i := 5) ?_))
    | (refine Br.mk (i := 5) ?_
       all_goals (refine WC.seq ?_)
       all_goals (refine WC.region ?_)
       all_goals (refine WL.step (ok_move rfl) rfl rfl rfl ?_)
       all_goals (refine WL.step (ok_assign rfl) rfl rfl rfl ?_)
       all_goals (refine WL.nil ?_)
       all_goals (repeat' (with_reducible first | refine thenP_n ?_ | refine blockP_n ?_))
       all_goals (refine WC.sub [(4, _)] ⟨rfl, trivial⟩ ?_)
       all_goals (refine WC.ret ?_)
       all_goals (repeat' (with_reducible first | refine thenP_r ?_ | refine blockP_r ?_))
       all_goals (refine retP_1 _ ⟨rfl, trivial⟩ ?_)
       all_goals (first
                   | (refine ⟨errV_ne (by decide) ?_, hX3⟩; rw [← hau, if_neg (ite01n hr3)])
                   | (refine ⟨errV_ne (by decide) ?_, hX4⟩; rw [← hau, if_pos (ite01p hr3), if_neg (fun e => absurd (hi4.2 e) (by decide))])
                   | (refine ⟨errV_ne (by decide) ?_, hX5⟩; rw [← hau, if_pos (ite01p hr3), if_pos (hi4.1 rfl), if_neg (fun e => absurd (hi5.2 e) (by decide))])
                   | (refine ⟨errV_ne (by decide) ?_, hX6⟩; rw [← hau, if_pos (ite01p hr3), if_pos (hi4.1 rfl), if_pos (hi5.1 rfl), if_neg (show ¬ crowdB c V = false from fun e => absurd (hi6.2 e) (by decide))])
                   | (refine ⟨errV_ne (by decide) ?_, hX7⟩; rw [← hau, if_pos (ite01p hr3), if_pos (hi4.1 rfl), if_pos (hi5.1 rfl), if_pos (show crowdB c V = false from hi6.1 rfl), if_neg (fun e => absurd (hi7.2 e) (by decide))])
                   | (refine ⟨?_, hX7.trans hx8⟩; rw [g8, ← hau, if_pos (ite01p hr3), if_pos (hi4.1 rfl), if_pos (hi5.1 rfl), if_pos (show crowdB c V = false from hi6.1 rfl), if_pos (hi7.1 rfl)]; rcases hr8 with rfl | rfl; rw [if_pos (hi8.1 rfl)]; rw [if_neg (fun e => absurd (hi8.2 e) (by decide))]))
       skip))
  all_goals (first
    | (fail_if_success (refine Br.mk (i := 6) ?_))
    | (refine Br.mk (i := 6) ?_
       all_goals (refine WC.skip ?_)
       skip))
  all_goals (repeat' (with_reducible first | refine thenP_n ?_ | refine blockP_n ?_))
  all_goals (refine WC.seq ?_)
  all_goals (refine WC.seq ?_)
  all_goals (refine WC.region ?_)
  all_goals (refine WL.step (ok_loadN (fun w => Tryd.isAgg24 w) (fun w => Tryd.sizeOf24 w) rfl rfl (by exact At.of_block hb15)) rfl rfl rfl ?_)
  all_goals (refine WL.step (ok_loadN (fun w => Tryd.isAgg30 w) (fun w => Tryd.sizeOf30 w) rfl rfl (by exact At.of_block hb25)) rfl rfl rfl ?_)
  all_goals (refine WL.call (vs := [_, _]) rfl (fun a w => Tryd.call45 a w) rfl (k4 _ hX5) rfl rfl rfl ?_
             rintro u6 h6 ⟨⟨r6, g6, hr6, hi6⟩, hx6⟩)
  all_goals (have hX6 := hX5.trans hx6
             have hb16 := hx6.obj hb15 nos
             have hb26 := hx6.obj hb25 nos
             rcases err_cases g6 (by decide) hr6 with ⟨rfl, rfl⟩ | ⟨rfl, rfl⟩)
  all_goals (refine WL.step (ok_assign rfl) rfl rfl rfl ?_)
  all_goals (refine WL.nil ?_)
  all_goals (repeat' (with_reducible first | refine thenP_n ?_ | refine blockP_n ?_))
  all_goals (refine WC.sub [(2, _), (3, _), (8, _)] ⟨rfl, rfl, rfl, trivial⟩ ?_)
  all_goals (refine WC.seq ?_)
  all_goals (refine WC.region ?_)
  all_goals (refine WL.step (ok_move rfl) rfl rfl rfl ?_)
  all_goals (first | (refine WL.step (ok_neqIh (by kernel_rfl) rfl rfl) rfl rfl rfl ?_) | (refine WL.step (ok_neqIn (by kernel_rfl) rfl rfl) rfl rfl rfl ?_))
  all_goals (refine WL.nil ?_)
  all_goals (repeat' (with_reducible first | refine thenP_n ?_ | refine blockP_n ?_))
  all_goals (first | refine WC.condB_t 7 rfl ?_ | refine WC.condB_f 8 rfl ?_ | (refine WC.condB 7 8 rfl (fun hb => ?_) (fun hb => ?_) <;> (first | replace hb := of_decide_eq_true hb | replace hb := of_decide_eq_false hb | replace hb := of_decide_eq_false (nt hb) | replace hb := of_decide_eq_true (nf hb) | skip)))
  all_goals (first
    | (fail_if_success (refine Br.mk (i := 7) ?_))
    | (refine Br.mk (i := 7) ?_
       all_goals (refine WC.seq ?_)
       all_goals (refine WC.region ?_)
       all_goals (refine WL.step (ok_move rfl) rfl rfl rfl ?_)
       all_goals (refine WL.step (ok_assign rfl) rfl rfl rfl ?_)
       all_goals (refine WL.nil ?_)
       all_goals (repeat' (with_reducible first | refine thenP_n ?_ | refine blockP_n ?_))
       all_goals (refine WC.sub [(4, _)] ⟨rfl, trivial⟩ ?_)
       all_goals (refine WC.ret ?_)
       all_goals (repeat' (with_reducible first | refine thenP_r ?_ | refine blockP_r ?_))
       all_goals (refine retP_1 _ ⟨rfl, trivial⟩ ?_)
       all_goals (first
                   | (refine ⟨errV_ne (by decide) ?_, hX3⟩; rw [← hau, if_neg (ite01n hr3)])
                   | (refine ⟨errV_ne (by decide) ?_, hX4⟩; rw [← hau, if_pos (ite01p hr3), if_neg (fun e => absurd (hi4.2 e) (by decide))])
                   | (refine ⟨errV_ne (by decide) ?_, hX5⟩; rw [← hau, if_pos (ite01p hr3), if_pos (hi4.1 rfl), if_neg (fun e => absurd (hi5.2 e) (by decide))])
                   | (refine ⟨errV_ne (by decide) ?_, hX6⟩; rw [← hau, if_pos (ite01p hr3), if_pos (hi4.1 rfl), if_pos (hi5.1 rfl), if_neg (show ¬ crowdB c V = false from fun e => absurd (hi6.2 e) (by decide))])
                   | (refine ⟨errV_ne (by decide) ?_, hX7⟩; rw [← hau, if_pos (ite01p hr3), if_pos (hi4.1 rfl), if_pos (hi5.1 rfl), if_pos (show crowdB c V = false from hi6.1 rfl), if_neg (fun e => absurd (hi7.2 e) (by decide))])
                   | (refine ⟨?_, hX7.trans hx8⟩; rw [g8, ← hau, if_pos (ite01p hr3), if_pos (hi4.1 rfl), if_pos (hi5.1 rfl), if_pos (show crowdB c V = false from hi6.1 rfl), if_pos (hi7.1 rfl)]; rcases hr8 with rfl | rfl; rw [if_pos (hi8.1 rfl)]; rw [if_neg (fun e => absurd (hi8.2 e) (by decide))]))
       skip))
  all_goals (first
    | (fail_if_success (refine Br.mk (i := 8) ?_))
    | (refine Br.mk (i := 8) ?_
       all_goals (refine WC.skip ?_)
       skip))
  all_goals (repeat' (with_reducible first | refine thenP_n ?_ | refine blockP_n ?_))
  all_goals (refine WC.seq ?_)
  all_goals (refine WC.seq ?_)
  all_goals (refine WC.region ?_)
  all_goals (refine WL.step (ok_loadN (fun w => Tryd.isAgg24 w) (fun w => Tryd.sizeOf24 w) rfl rfl (by exact At.of_block hb16)) rfl rfl rfl ?_)
  all_goals (refine WL.step (ok_loadN (fun w => Tryd.isAgg30 w) (fun w => Tryd.sizeOf30 w) rfl rfl (by exact At.of_block hb26)) rfl rfl rfl ?_)
  all_goals (refine WL.call (vs := [_, _]) rfl (fun a w => Tryd.call46 a w) rfl (k5 _ hX6) rfl rfl rfl ?_
             rintro u7 h7 ⟨⟨r7, g7, hr7, hi7⟩, hx7⟩)
  all_goals (have hX7 := hX6.trans hx7
             have hb17 := hx7.obj hb16 nos
             have hb27 := hx7.obj hb26 nos
             rcases err_cases g7 (by decide) hr7 with ⟨rfl, rfl⟩ | ⟨rfl, rfl⟩)
  all_goals (refine WL.step (ok_assign rfl) rfl rfl rfl ?_)
  all_goals (refine WL.nil ?_)
  all_goals (repeat' (with_reducible first | refine thenP_n ?_ | refine blockP_n ?_))
  all_goals (refine WC.sub [(2, _), (3, _), (9, _)] ⟨rfl, rfl, rfl, trivial⟩ ?_)
  all_goals (refine WC.seq ?_)
  all_goals (refine WC.region ?_)
  all_goals (refine WL.step (ok_move rfl) rfl rfl rfl ?_)
  all_goals (first | (refine WL.step (ok_neqIh (by kernel_rfl) rfl rfl) rfl rfl rfl ?_) | (refine WL.step (ok_neqIn (by kernel_rfl) rfl rfl) rfl rfl rfl ?_))
  all_goals (refine WL.nil ?_)
  all_goals (repeat' (with_reducible first | refine thenP_n ?_ | refine blockP_n ?_))
  all_goals (first | refine WC.condB_t 9 rfl ?_ | refine WC.condB_f 10 rfl ?_ | (refine WC.condB 9 10 rfl (fun hb => ?_) (fun hb => ?_) <;> (first | replace hb := of_decide_eq_true hb | replace hb := of_decide_eq_false hb | replace hb := of_decide_eq_false (nt hb) | replace hb := of_decide_eq_true (nf hb) | skip)))
  all_goals (first
    | (fail_if_success (refine Br.mk (i := 9) ?_))
    | (refine Br.mk (i := 9) ?_
       all_goals (refine WC.seq ?_)
       all_goals (refine WC.region ?_)
       all_goals (refine WL.step (ok_move rfl) rfl rfl rfl ?_)
       all_goals (refine WL.step (ok_assign rfl) rfl rfl rfl ?_)
       all_goals (refine WL.nil ?_)
       all_goals (repeat' (with_reducible first | refine thenP_n ?_ | refine blockP_n ?_))
       all_goals (refine WC.sub [(4, _)] ⟨rfl, trivial⟩ ?_)
       all_goals (refine WC.ret ?_)
       all_goals (repeat' (with_reducible first | refine thenP_r ?_ | refine blockP_r ?_))
       all_goals (refine retP_1 _ ⟨rfl, trivial⟩ ?_)
       all_goals (first
                   | (refine ⟨errV_ne (by decide) ?_, hX3⟩; rw [← hau, if_neg (ite01n hr3)])
                   | (refine ⟨errV_ne (by decide) ?_, hX4⟩; rw [← hau, if_pos (ite01p hr3), if_neg (fun e => absurd (hi4.2 e) (by decide))])
                   | (refine ⟨errV_ne (by decide) ?_, hX5⟩; rw [← hau, if_pos (ite01p hr3), if_pos (hi4.1 rfl), if_neg (fun e => absurd (hi5.2 e) (by decide))])
                   | (refine ⟨errV_ne (by decide) ?_, hX6⟩; rw [← hau, if_pos (ite01p hr3), if_pos (hi4.1 rfl), if_pos (hi5.1 rfl), if_neg (show ¬ crowdB c V = false from fun e => absurd (hi6.2 e) (by decide))])
                   | (refine ⟨errV_ne (by decide) ?_, hX7⟩; rw [← hau, if_pos (ite01p hr3), if_pos (hi4.1 rfl), if_pos (hi5.1 rfl), if_pos (show crowdB c V = false from hi6.1 rfl), if_neg (fun e => absurd (hi7.2 e) (by decide))])
                   | (refine ⟨?_, hX7.trans hx8⟩; rw [g8, ← hau, if_pos (ite01p hr3), if_pos (hi4.1 rfl), if_pos (hi5.1 rfl), if_pos (show crowdB c V = false from hi6.1 rfl), if_pos (hi7.1 rfl)]; rcases hr8 with rfl | rfl; rw [if_pos (hi8.1 rfl)]; rw [if_neg (fun e => absurd (hi8.2 e) (by decide))]))
       skip))
  all_goals (first
    | (fail_if_success (refine Br.mk (i := 10) ?_))
    | (refine Br.mk (i := 10) ?_
       all_goals (refine WC.skip ?_)
       skip))
  all_goals (repeat' (with_reducible first | refine thenP_n ?_ | refine blockP_n ?_))
  all_goals (refine WC.seq ?_)
  all_goals (refine WC.region ?_)
  all_goals (refine WL.step (ok_loadN (fun w => Tryd.isAgg24 w) (fun w => Tryd.sizeOf24 w) rfl rfl (by exact At.of_block hb17)) rfl rfl rfl ?_)
  all_goals (refine WL.step (ok_loadN (fun w => Tryd.isAgg30 w) (fun w => Tryd.sizeOf30 w) rfl rfl (by exact At.of_block hb27)) rfl rfl rfl ?_)
  all_goals (refine WL.call (vs := [_, _]) rfl (fun a w => Tryd.call47 a w) rfl (k6 _ hX7) rfl rfl rfl ?_
             rintro u8 h8 ⟨⟨r8, g8, hr8, hi8⟩, hx8⟩)
  all_goals (refine WL.step (ok_assign rfl) rfl rfl rfl ?_)
  all_goals (refine WL.nil ?_)
  all_goals (repeat' (with_reducible first | refine thenP_n ?_ | refine blockP_n ?_))
  all_goals (refine WC.sub [(4, _)] ⟨rfl, trivial⟩ ?_)
  all_goals (refine WC.ret ?_)
  all_goals (repeat' (with_reducible first | refine thenP_r ?_ | refine blockP_r ?_))
  all_goals (refine retP_1 _ ⟨rfl, trivial⟩ ?_)
  all_goals (first
              | (refine ⟨errV_ne (by decide) ?_, hX3⟩; rw [← hau, if_neg (ite01n hr3)])
              | (refine ⟨errV_ne (by decide) ?_, hX4⟩; rw [← hau, if_pos (ite01p hr3), if_neg (fun e => absurd (hi4.2 e) (by decide))])
              | (refine ⟨errV_ne (by decide) ?_, hX5⟩; rw [← hau, if_pos (ite01p hr3), if_pos (hi4.1 rfl), if_neg (fun e => absurd (hi5.2 e) (by decide))])
              | (refine ⟨errV_ne (by decide) ?_, hX6⟩; rw [← hau, if_pos (ite01p hr3), if_pos (hi4.1 rfl), if_pos (hi5.1 rfl), if_neg (show ¬ crowdB c V = false from fun e => absurd (hi6.2 e) (by decide))])
              | (refine ⟨errV_ne (by decide) ?_, hX7⟩; rw [← hau, if_pos (ite01p hr3), if_pos (hi4.1 rfl), if_pos (hi5.1 rfl), if_pos (show crowdB c V = false from hi6.1 rfl), if_neg (fun e => absurd (hi7.2 e) (by decide))])
              | (refine ⟨?_, hX7.trans hx8⟩; rw [g8, ← hau, if_pos (ite01p hr3), if_pos (hi4.1 rfl), if_pos (hi5.1 rfl), if_pos (show crowdB c V = false from hi6.1 rfl), if_pos (hi7.1 rfl)]; rcases hr8 with rfl | rfl; rw [if_pos (hi8.1 rfl)]; rw [if_neg (fun e => absurd (hi8.2 e) (by decide))]))
end Go.Proofs.YtanbpffpllgekaaDoor

/-
  AUDIT (layer 47): both Checks.
-/
namespace Go.Proofs.YtanbpffpllgekaaDoor
open Go Go.RK

set_option maxRecDepth 100000 in
theorem check_v {h : Heap} (c : Cf) (V : VW) (oc : c.ok h) (ok : V.ok h) (f : Few V) (er : Er h) : CallsH Tryd.prog 8 ⟨[.agg ⟨c.cells⟩, .agg ⟨V.cells⟩]⟩ h fun u h' => u = In (auR c V) ∧ Ext No h h' := by
  generalize hau : auR c V = R
  unfold auR at hau
  have k1 := fun h' (hx : Ext No h h') => limit_check c (oc.ext0 hx)
  have k2 := fun h' (hx : Ext No h h') => all_v c V (oc.ext0 hx) (ok.ext0 hx) f
  obtain ⟨A1, c1, A2, c2, A3, c3, A4, c4, e1, e2, e3, e4⟩ := ok.slices
  obtain ⟨A5, c5, e5, _⟩ := id oc.p
  unfold VW.cells Cf.cells at *
  rw [e1, e2, e3, e4, e5] at k2 ⊢
  rw [e5] at k1
  refine calls [(0, _), (1, _)] Tryd.func8 rfl Tryd.ntmps8 rfl ⟨rfl, rfl, trivial⟩ ?_
  all_goals (refine WC.seq ?_)
  all_goals (refine WC.region ?_)
  all_goals (refine WL.stepR (okE_box rfl) rfl rfl rfl ?_
             rintro _ h1 ⟨b1, rfl, hg1, hb1, hx1⟩)
  all_goals (refine WL.stepR (okE_box rfl) rfl rfl rfl ?_
             rintro _ h2 ⟨b2, rfl, hg2, hb2, hx2⟩)
  all_goals (have hX2 := hx1.trans hx2
             have hb12 := hx2.obj hb1 nos
             clear hb1)
  all_goals (refine WL.step (ok_assign rfl) rfl rfl rfl ?_)
  all_goals (refine WL.nil ?_)
  all_goals (repeat' (with_reducible first | refine thenP_n ?_ | refine blockP_n ?_))
  all_goals (refine WC.seq ?_)
  all_goals (refine WC.seq ?_)
  all_goals (refine WC.region ?_)
  all_goals (refine WL.step (ok_loadN (fun w => Tryd.isAgg24 w) (fun w => Tryd.sizeOf24 w) rfl rfl (by exact At.of_block hb12)) rfl rfl rfl ?_)
  all_goals (refine WL.call (vs := [_]) rfl (fun a w => Tryd.call18 a w) rfl (k1 _ hX2) rfl rfl rfl ?_
             rintro _ h3 ⟨rfl, hx3⟩)
  all_goals (have hX3 := hX2.trans hx3
             have hb13 := hx3.obj hb12 nos
             have hb23 := hx3.obj hb2 nos
             rcases hq : limB c)
  all_goals (refine WL.step (ok_assign rfl) rfl rfl rfl ?_)
  all_goals (refine WL.nil ?_)
  all_goals (repeat' (with_reducible first | refine thenP_n ?_ | refine blockP_n ?_))
  all_goals (refine WC.sub [(2, _), (3, _), (5, _)] ⟨rfl, rfl, rfl, trivial⟩ ?_)
  all_goals (refine WC.seq ?_)
  all_goals (refine WC.region ?_)
  all_goals (refine WL.step (ok_move rfl) rfl rfl rfl ?_)
  all_goals (first | (refine WL.step (OkP.nbool_t (by omega) (ok_neq rfl rfl)) rfl rfl rfl ?_) | (refine WL.step (OkP.nbool_f (by omega) (ok_neq rfl rfl)) rfl rfl rfl ?_) | (refine WL.step (ok_neq rfl rfl) rfl rfl rfl ?_))
  all_goals (refine WL.nil ?_)
  all_goals (repeat' (with_reducible first | refine thenP_n ?_ | refine blockP_n ?_))
  all_goals (first | refine WC.condB_t 1 rfl ?_ | refine WC.condB_f 2 rfl ?_ | (refine WC.condB 1 2 rfl (fun hb => ?_) (fun hb => ?_) <;> (first | replace hb := of_decide_eq_true hb | replace hb := of_decide_eq_false hb | replace hb := of_decide_eq_false (nt hb) | replace hb := of_decide_eq_true (nf hb) | skip)))
  all_goals (first
    | (fail_if_success (refine Br.mk (i := 1) ?_))
    | (refine Br.mk (i := 1) ?_
       all_goals (refine WC.seq ?_)
       all_goals (refine WC.region ?_)
       all_goals (refine WL.step (ok_move rfl) rfl rfl rfl ?_)
       all_goals (refine WL.step (ok_assign rfl) rfl rfl rfl ?_)
       all_goals (refine WL.nil ?_)
       all_goals (repeat' (with_reducible first | refine thenP_n ?_ | refine blockP_n ?_))
       all_goals (refine WC.sub [(4, _)] ⟨rfl, trivial⟩ ?_)
       all_goals (refine WC.ret ?_)
       all_goals (repeat' (with_reducible first | refine thenP_r ?_ | refine blockP_r ?_))
       all_goals (refine retP_1 _ ⟨rfl, trivial⟩ ?_)
       all_goals (first
                   | (refine ⟨?_, hX3⟩; rw [← hau, hq]; rfl)
                   | (refine ⟨?_, hX6⟩; rw [← hau, hq, if_pos rfl, hm (by assumption)])
                   | (refine ⟨?_, hX6⟩; rw [← hau, hq, if_pos rfl, Decidable.not_not.1 (by assumption : ¬ (auT c V ≠ 0))]))
       skip))
  all_goals (first
    | (fail_if_success (refine Br.mk (i := 2) ?_))
    | (refine Br.mk (i := 2) ?_
       all_goals (refine WC.skip ?_)
       skip))
  all_goals (repeat' (with_reducible first | refine thenP_n ?_ | refine blockP_n ?_))
  all_goals (refine WC.seq ?_)
  all_goals (refine WC.region ?_)
  all_goals (refine WL.stepR (okE_alloc (fun w => Tryd.zeroValue50 w)) rfl rfl rfl ?_
             rintro _ h4 ⟨b4, rfl, hg4, hb4, hx4⟩)
  all_goals (have hb14 := hx4.obj hb13 nos
             have hb24 := hx4.obj hb23 nos
             have hX4 := hX3.trans hx4)
  all_goals (refine WL.nil ?_)
  all_goals (repeat' (with_reducible first | refine thenP_n ?_ | refine blockP_n ?_))
  all_goals (refine WC.seq ?_)
  all_goals (refine WC.seq ?_)
  all_goals (refine WC.region ?_)
  all_goals (refine WL.step (ok_loadN (fun w => Tryd.isAgg24 w) (fun w => Tryd.sizeOf24 w) rfl rfl (by exact At.of_block hb14)) rfl rfl rfl ?_)
  all_goals (refine WL.step (ok_loadN (fun w => Tryd.isAgg30 w) (fun w => Tryd.sizeOf30 w) rfl rfl (by exact At.of_block hb24)) rfl rfl rfl ?_)
  all_goals (refine WL.call (vs := [_, _]) rfl (fun a w => Tryd.call20 a w) rfl (k2 _ hX4) rfl rfl rfl ?_
             rintro _ h5 ⟨rfl, hx5⟩)
  all_goals (have hb45 := hx5.obj hb4 nos
             have hX5 := hX4.trans hx5)
  all_goals (refine WL.step (ok_mkIface ⟨_, Tryd.underlying55, fun _ h => by cases h⟩ rfl) rfl rfl rfl ?_)
  all_goals (refine WL.call (vs := [_, _]) rfl (fun a w => Tryd.call19 a w) rfl (errAs_any (er.ext0 hX5) hb45) rfl rfl rfl ?_
             rintro _ h6 ⟨rfl, ⟨m, hb6, hm⟩, hx6⟩)
  all_goals (have hX6 : Ext No h h6 := hX5.trans' hx6 (fun q hq e => by have := hX3.size; omega))
  all_goals (refine WL.nil ?_)
  all_goals (repeat' (with_reducible first | refine thenP_n ?_ | refine blockP_n ?_))
  all_goals (refine WC.sub [(6, _), (16, _)] ⟨rfl, rfl, trivial⟩ ?_)
  all_goals (first | refine WC.condB_t 3 rfl ?_ | refine WC.condB_f 4 rfl ?_ | (refine WC.condB 3 4 rfl (fun hb => ?_) (fun hb => ?_) <;> (first | replace hb := of_decide_eq_true hb | replace hb := of_decide_eq_false hb | replace hb := of_decide_eq_false (nt hb) | replace hb := of_decide_eq_true (nf hb) | skip)))
  all_goals (first
    | (fail_if_success (refine Br.mk (i := 3) ?_))
    | (refine Br.mk (i := 3) ?_
       all_goals (refine WC.seq ?_)
       all_goals (refine WC.region ?_)
       all_goals (refine WL.step (ok_load (fun w => Tryd.isAgg50 w) rfl (by first | assumption | exact cell_blk (by assumption) rfl)) rfl rfl rfl ?_)
       all_goals (refine WL.step (ok_assign rfl) rfl rfl rfl ?_)
       all_goals (refine WL.nil ?_)
       all_goals (repeat' (with_reducible first | refine thenP_n ?_ | refine blockP_n ?_))
       all_goals (refine WC.ret ?_)
       all_goals (repeat' (with_reducible first | refine thenP_r ?_ | refine blockP_r ?_))
       all_goals (refine retP_1 _ ⟨rfl, trivial⟩ ?_)
       all_goals (first
                   | (refine ⟨?_, hX3⟩; rw [← hau, hq]; rfl)
                   | (refine ⟨?_, hX6⟩; rw [← hau, hq, if_pos rfl, hm (by assumption)])
                   | (refine ⟨?_, hX6⟩; rw [← hau, hq, if_pos rfl, Decidable.not_not.1 (by assumption : ¬ (auT c V ≠ 0))]))
       skip))
  all_goals (first
    | (fail_if_success (refine Br.mk (i := 4) ?_))
    | (refine Br.mk (i := 4) ?_
       all_goals (refine WC.skip ?_)
       skip))
  all_goals (repeat' (with_reducible first | refine thenP_n ?_ | refine blockP_n ?_))
  all_goals (refine WC.seq ?_)
  all_goals (refine WC.region ?_)
  all_goals (refine WL.step (ok_assign rfl) rfl rfl rfl ?_)
  all_goals (refine WL.nil ?_)
  all_goals (repeat' (with_reducible first | refine thenP_n ?_ | refine blockP_n ?_))
  all_goals (refine WC.ret ?_)
  all_goals (repeat' (with_reducible first | refine thenP_r ?_ | refine blockP_r ?_))
  all_goals (refine retP_1 _ ⟨rfl, trivial⟩ ?_)
  all_goals (first
              | (refine ⟨?_, hX3⟩; rw [← hau, hq]; rfl)
              | (refine ⟨?_, hX6⟩; rw [← hau, hq, if_pos rfl, hm (by assumption)])
              | (refine ⟨?_, hX6⟩; rw [← hau, hq, if_pos rfl, Decidable.not_not.1 (by assumption : ¬ (auT c V ≠ 0))]))
end Go.Proofs.YtanbpffpllgekaaDoor

/-
  AUDIT (layer 47): the document's Check.
-/
namespace Go.Proofs.YtanbpffpllgekaaDoor
open Go Go.RK

set_option maxRecDepth 100000 in
theorem check47 {h : Heap} (c : Cf) (V : VW) (oc : c.ok h) (ok : V.ok h) (f : Few V) : CallsH Tryd.prog 9 ⟨[.agg ⟨c.cells⟩, .agg ⟨V.cells⟩]⟩ h fun u h' => u = In (auR c V) ∧ Ext No h h' := by
  generalize hau : auR c V = R
  have hau' : auR c V = if limB c = true then auT c V else 1 := rfl
  have hat' : auT c V = auT c V := rfl
  conv at hat' => rhs; unfold auT
  rw [hat', hau] at hau'
  clear hat' hau
  have k1 := fun h' (hx : Ext No h h') => check35 c (oc.ext0 hx)
  have k2 := fun h' (hx : Ext No h h') => holders47 V (ok.ext0 hx)
  have k3 := fun h' (hx : Ext No h h') => crowd47 c V (oc.ext0 hx) (ok.ext0 hx)
  have k4 := fun h' (hx : Ext No h h') => counted46 V (ok.ext0 hx) f
  have k5 := fun h' (hx : Ext No h h') => waits47 V (ok.ext0 hx)
  have hso := ok.so
  have hss := ok.s
  have hsl := f.s
  have hrr := ok.r
  have hrl := f.r
  obtain ⟨A1, c1, A2, c2, A3, c3, A4, c4, e1, e2, e3, e4⟩ := ok.slices
  obtain ⟨A5, c5, e5, _⟩ := id oc.p
  rw [e2] at hss
  rw [e3] at hrr
  unfold VW.cells Cf.cells at *
  rw [e1, e2, e3, e4, e5] at k3 ⊢
  rw [e5] at k1
  rw [e1, e2, e3, e4] at k2 k4 k5
  refine calls [(0, _), (1, _)] Tryd.func9 rfl Tryd.ntmps9 rfl ⟨rfl, rfl, trivial⟩ ?_
  all_goals (refine WC.seq ?_)
  all_goals (refine WC.region ?_)
  all_goals (refine WL.stepR (okE_box rfl) rfl rfl rfl ?_
             rintro _ h1 ⟨b1, rfl, hg1, hb1, hx1⟩)
  all_goals (refine WL.stepR (okE_box rfl) rfl rfl rfl ?_
             rintro _ h2 ⟨b2, rfl, hg2, hb2, hx2⟩)
  all_goals (have hX2 := hx1.trans hx2
             have hb12 := hx2.obj hb1 nos
             clear hb1)
  all_goals (refine WL.step (ok_assign rfl) rfl rfl rfl ?_)
  all_goals (refine WL.nil ?_)
  all_goals (repeat' (with_reducible first | refine thenP_n ?_ | refine blockP_n ?_))
  all_goals (refine WC.seq ?_)
  all_goals (refine WC.seq ?_)
  all_goals (refine WC.region ?_)
  all_goals (refine WL.step (ok_loadN (fun w => Tryd.isAgg24 w) (fun w => Tryd.sizeOf24 w) rfl rfl (by exact At.of_block hb12)) rfl rfl rfl ?_)
  all_goals (refine WL.call (vs := [_]) rfl (fun a w => Tryd.call14 a w) rfl (k1 _ hX2) rfl rfl rfl ?_
             rintro _ h3 ⟨rfl, hx3⟩)
  all_goals (have hX3 := hX2.trans hx3
             have hb13 := hx3.obj hb12 nos
             have hb23 := hx3.obj hb2 nos
             rcases hq : limB c)
  all_goals (refine WL.step (ok_assign rfl) rfl rfl rfl ?_)
  all_goals (refine WL.nil ?_)
  all_goals (repeat' (with_reducible first | refine thenP_n ?_ | refine blockP_n ?_))
  all_goals (refine WC.sub [(2, _), (3, _), (5, _)] ⟨rfl, rfl, rfl, trivial⟩ ?_)
  all_goals (refine WC.seq ?_)
  all_goals (refine WC.region ?_)
  all_goals (refine WL.step (ok_move rfl) rfl rfl rfl ?_)
  all_goals (first | (refine WL.step (OkP.nbool_t (by omega) (ok_neq rfl rfl)) rfl rfl rfl ?_) | (refine WL.step (OkP.nbool_f (by omega) (ok_neq rfl rfl)) rfl rfl rfl ?_) | (refine WL.step (ok_neq rfl rfl) rfl rfl rfl ?_))
  all_goals (refine WL.nil ?_)
  all_goals (repeat' (with_reducible first | refine thenP_n ?_ | refine blockP_n ?_))
  all_goals (first | refine WC.condB_t 1 rfl ?_ | refine WC.condB_f 2 rfl ?_ | (refine WC.condB 1 2 rfl (fun hb => ?_) (fun hb => ?_) <;> (first | replace hb := of_decide_eq_true hb | replace hb := of_decide_eq_false hb | replace hb := of_decide_eq_false (nt hb) | replace hb := of_decide_eq_true (nf hb) | skip)))
  all_goals (first
    | (fail_if_success (refine Br.mk (i := 1) ?_))
    | (refine Br.mk (i := 1) ?_
       all_goals (refine WC.seq ?_)
       all_goals (refine WC.region ?_)
       all_goals (refine WL.step (ok_move rfl) rfl rfl rfl ?_)
       all_goals (refine WL.step (ok_assign rfl) rfl rfl rfl ?_)
       all_goals (refine WL.nil ?_)
       all_goals (repeat' (with_reducible first | refine thenP_n ?_ | refine blockP_n ?_))
       all_goals (refine WC.sub [(4, _)] ⟨rfl, trivial⟩ ?_)
       all_goals (refine WC.ret ?_)
       all_goals (repeat' (with_reducible first | refine thenP_r ?_ | refine blockP_r ?_))
       all_goals (refine retP_1 _ ⟨rfl, trivial⟩ ?_)
       all_goals (first
                   | (refine ⟨?_, hX3⟩; rw [hau', hq]; rfl)
                   | (refine ⟨congrArg In ?_, hX3⟩; rw [hau', if_pos hq, if_neg (by omega)])
                   | (refine ⟨congrArg In ?_, hX4⟩; rw [hau', if_pos hq, if_pos (show V.c.length = 16 ∧ (V.s.length : Int) = c.sv by omega), if_neg (fun e => absurd (hi4.2 e) (by decide))])
                   | (refine ⟨congrArg In ?_, hX6⟩; rw [hau', if_pos hq, if_pos (show V.c.length = 16 ∧ (V.s.length : Int) = c.sv by omega), if_pos (hi4.1 rfl), if_neg (fun e => by have := e y (List.mem_of_getElem? hy); rw [hqi] at this; cases this)])
                   | (refine ⟨congrArg In ?_, hX7⟩; rw [hau', if_pos hq, if_pos (show V.c.length = 16 ∧ (V.s.length : Int) = c.sv by omega), if_pos (hi4.1 rfl), if_pos (show ∀ s ∈ V.s, idleB s = true by rw [List.take_of_length_le (by omega)] at hn; exact hn), if_neg (show ¬ crowdB c V = false by rw [hcb, hqc]; decide)])
                   | (refine ⟨congrArg In ?_, hX8⟩; rw [hau', if_pos hq, if_pos (show V.c.length = 16 ∧ (V.s.length : Int) = c.sv by omega), if_pos (hi4.1 rfl), if_pos (show ∀ s ∈ V.s, idleB s = true by rw [List.take_of_length_le (by omega)] at hn; exact hn), if_pos (show crowdB c V = false by rw [hcb, hqc]), if_neg (fun e => absurd (e.eq hL) (by assumption))])
                   | (refine ⟨congrArg In ?_, hX9⟩; rw [hau', if_pos hq, if_pos (show V.c.length = 16 ∧ (V.s.length : Int) = c.sv by omega), if_pos (hi4.1 rfl), if_pos (show ∀ s ∈ V.s, idleB s = true by rw [List.take_of_length_le (by omega)] at hn; exact hn), if_pos (show crowdB c V = false by rw [hcb, hqc]), if_pos (show IsCnt (idsV V) V.r by rw [‹V.r = L›]; exact hL), if_neg (fun e => absurd (hi9.2 e) (by decide))])
                   | (refine ⟨congrArg In ?_, hX9⟩; rw [hau', if_pos hq, if_pos (show V.c.length = 16 ∧ (V.s.length : Int) = c.sv by omega), if_pos (hi4.1 rfl), if_pos (show ∀ s ∈ V.s, idleB s = true by rw [List.take_of_length_le (by omega)] at hn; exact hn), if_pos (show crowdB c V = false by rw [hcb, hqc]), if_pos (show IsCnt (idsV V) V.r by rw [‹V.r = L›]; exact hL), if_pos (hi9.1 rfl)]))
       skip))
  all_goals (first
    | (fail_if_success (refine Br.mk (i := 2) ?_))
    | (refine Br.mk (i := 2) ?_
       all_goals (refine WC.skip ?_)
       skip))
  all_goals (repeat' (with_reducible first | refine thenP_n ?_ | refine blockP_n ?_))
  all_goals (refine WC.seq ?_)
  all_goals (refine WC.seq ?_)
  all_goals (refine WC.region ?_)
  all_goals (refine WL.step (ok_fieldAddr rfl Tryd.underlying30 rfl (fun w => Tryd.sizeOf25 w)) rfl rfl rfl ?_)
  all_goals (refine WL.step (ok_load (fun w => Tryd.isAgg25 w) rfl (by first | assumption | exact cell_blk (by assumption) rfl)) rfl rfl rfl ?_)
  all_goals (refine WL.step (ok_lenL rfl Tryd.underlying25 rfl) rfl rfl rfl ?_)
  all_goals (first | (refine WL.step (OkP.nbool_t (by omega) (ok_neq rfl rfl)) rfl rfl rfl ?_) | (refine WL.step (OkP.nbool_f (by omega) (ok_neq rfl rfl)) rfl rfl rfl ?_) | (refine WL.step (ok_neq rfl rfl) rfl rfl rfl ?_))
  all_goals (refine WL.step (ok_move rfl) rfl rfl rfl ?_)
  all_goals (try ((fail_if_success (refine WL.part 16 (b := true) rfl (fun _ => ?_) (fun _ => ?_))); (fail_if_success (refine WL.part 16 (b := false) rfl (fun _ => ?_) (fun _ => ?_))); (refine WL.part 16 rfl (fun hb => ?_) (fun hb => ?_) <;> (first | replace hb := of_decide_eq_true hb | replace hb := of_decide_eq_false hb | replace hb := of_decide_eq_false (nt hb) | replace hb := of_decide_eq_true (nf hb) | skip))))
  all_goals (first | (refine WL.pass rfl rfl rfl ?_) | (refine WL.step (ok_fieldAddr rfl Tryd.underlying30 rfl (fun w => Tryd.sizeOf26 w)) rfl rfl rfl ?_))
  all_goals (first | (refine WL.pass rfl rfl rfl ?_) | (refine WL.step (ok_load (fun w => Tryd.isAgg26 w) rfl (by first | assumption | exact cell_blk (by assumption) rfl)) rfl rfl rfl ?_))
  all_goals (first | (refine WL.pass rfl rfl rfl ?_) | (refine WL.step (ok_lenL rfl Tryd.underlying26 rfl) rfl rfl rfl ?_))
  all_goals (first | (refine WL.pass rfl rfl rfl ?_) | (refine WL.step (ok_fieldAddr rfl Tryd.underlying24 rfl (fun w => Tryd.sizeOf3 w)) rfl rfl rfl ?_))
  all_goals (first | (refine WL.pass rfl rfl rfl ?_) | (refine WL.step (ok_load (fun w => Tryd.isAgg3 w) rfl (by first | assumption | exact cell_blk (by assumption) rfl)) rfl rfl rfl ?_))
  all_goals (first | (refine WL.pass rfl rfl rfl ?_) | (first | (refine WL.step (OkP.nbool_t (by omega) (ok_neq rfl rfl)) rfl rfl rfl ?_) | (refine WL.step (OkP.nbool_f (by omega) (ok_neq rfl rfl)) rfl rfl rfl ?_) | (refine WL.step (ok_neq rfl rfl) rfl rfl rfl ?_)))
  all_goals (first | (refine WL.step (ok_pick_t rfl rfl) rfl rfl rfl ?_) | (refine WL.step (ok_pick_f rfl rfl) rfl rfl rfl ?_))
  all_goals (refine WL.nil ?_)
  all_goals (repeat' (with_reducible first | refine thenP_n ?_ | refine blockP_n ?_))
  all_goals (refine WC.sub [(2, _), (3, _), (23, _)] ⟨rfl, rfl, rfl, trivial⟩ ?_)
  all_goals (first | refine WC.condB_t 3 rfl ?_ | refine WC.condB_f 4 rfl ?_ | (refine WC.condB 3 4 rfl (fun hb => ?_) (fun hb => ?_) <;> (first | replace hb := of_decide_eq_true hb | replace hb := of_decide_eq_false hb | replace hb := of_decide_eq_false (nt hb) | replace hb := of_decide_eq_true (nf hb) | skip)))
  all_goals (first
    | (fail_if_success (refine Br.mk (i := 3) ?_))
    | (refine Br.mk (i := 3) ?_
       all_goals (refine WC.seq ?_)
       all_goals (refine WC.region ?_)
       all_goals (refine WL.step (ok_assign rfl) rfl rfl rfl ?_)
       all_goals (refine WL.nil ?_)
       all_goals (repeat' (with_reducible first | refine thenP_n ?_ | refine blockP_n ?_))
       all_goals (refine WC.ret ?_)
       all_goals (repeat' (with_reducible first | refine thenP_r ?_ | refine blockP_r ?_))
       all_goals (refine retP_1 _ ⟨rfl, trivial⟩ ?_)
       all_goals (first
                   | (refine ⟨?_, hX3⟩; rw [hau', hq]; rfl)
                   | (refine ⟨congrArg In ?_, hX3⟩; rw [hau', if_pos hq, if_neg (by omega)])
                   | (refine ⟨congrArg In ?_, hX4⟩; rw [hau', if_pos hq, if_pos (show V.c.length = 16 ∧ (V.s.length : Int) = c.sv by omega), if_neg (fun e => absurd (hi4.2 e) (by decide))])
                   | (refine ⟨congrArg In ?_, hX6⟩; rw [hau', if_pos hq, if_pos (show V.c.length = 16 ∧ (V.s.length : Int) = c.sv by omega), if_pos (hi4.1 rfl), if_neg (fun e => by have := e y (List.mem_of_getElem? hy); rw [hqi] at this; cases this)])
                   | (refine ⟨congrArg In ?_, hX7⟩; rw [hau', if_pos hq, if_pos (show V.c.length = 16 ∧ (V.s.length : Int) = c.sv by omega), if_pos (hi4.1 rfl), if_pos (show ∀ s ∈ V.s, idleB s = true by rw [List.take_of_length_le (by omega)] at hn; exact hn), if_neg (show ¬ crowdB c V = false by rw [hcb, hqc]; decide)])
                   | (refine ⟨congrArg In ?_, hX8⟩; rw [hau', if_pos hq, if_pos (show V.c.length = 16 ∧ (V.s.length : Int) = c.sv by omega), if_pos (hi4.1 rfl), if_pos (show ∀ s ∈ V.s, idleB s = true by rw [List.take_of_length_le (by omega)] at hn; exact hn), if_pos (show crowdB c V = false by rw [hcb, hqc]), if_neg (fun e => absurd (e.eq hL) (by assumption))])
                   | (refine ⟨congrArg In ?_, hX9⟩; rw [hau', if_pos hq, if_pos (show V.c.length = 16 ∧ (V.s.length : Int) = c.sv by omega), if_pos (hi4.1 rfl), if_pos (show ∀ s ∈ V.s, idleB s = true by rw [List.take_of_length_le (by omega)] at hn; exact hn), if_pos (show crowdB c V = false by rw [hcb, hqc]), if_pos (show IsCnt (idsV V) V.r by rw [‹V.r = L›]; exact hL), if_neg (fun e => absurd (hi9.2 e) (by decide))])
                   | (refine ⟨congrArg In ?_, hX9⟩; rw [hau', if_pos hq, if_pos (show V.c.length = 16 ∧ (V.s.length : Int) = c.sv by omega), if_pos (hi4.1 rfl), if_pos (show ∀ s ∈ V.s, idleB s = true by rw [List.take_of_length_le (by omega)] at hn; exact hn), if_pos (show crowdB c V = false by rw [hcb, hqc]), if_pos (show IsCnt (idsV V) V.r by rw [‹V.r = L›]; exact hL), if_pos (hi9.1 rfl)]))
       skip))
  all_goals (first
    | (fail_if_success (refine Br.mk (i := 4) ?_))
    | (refine Br.mk (i := 4) ?_
       all_goals (refine WC.skip ?_)
       skip))
  all_goals (repeat' (with_reducible first | refine thenP_n ?_ | refine blockP_n ?_))
  all_goals (refine WC.seq ?_)
  all_goals (refine WC.seq ?_)
  all_goals (refine WC.region ?_)
  all_goals (refine WL.step (ok_loadN (fun w => Tryd.isAgg30 w) (fun w => Tryd.sizeOf30 w) rfl rfl (by exact At.of_block hb23)) rfl rfl rfl ?_)
  all_goals (refine WL.call (vs := [_]) rfl (fun a w => Tryd.call11 a w) rfl (k2 _ hX3) rfl rfl rfl ?_
             rintro _ h4 ⟨⟨r4, rfl, hi4⟩, hx4⟩)
  all_goals (have hX4 := hX3.trans hx4
             have hb14 := hx4.obj hb13 nos
             have hb24 := hx4.obj hb23 nos
             cases r4)
  all_goals (refine WL.step (ok_not rfl) rfl rfl rfl ?_)
  all_goals (refine WL.nil ?_)
  all_goals (repeat' (with_reducible first | refine thenP_n ?_ | refine blockP_n ?_))
  all_goals (first | refine WC.condB_t 5 rfl ?_ | refine WC.condB_f 6 rfl ?_ | (refine WC.condB 5 6 rfl (fun hb => ?_) (fun hb => ?_) <;> (first | replace hb := of_decide_eq_true hb | replace hb := of_decide_eq_false hb | replace hb := of_decide_eq_false (nt hb) | replace hb := of_decide_eq_true (nf hb) | skip)))
  all_goals (first
    | (fail_if_success (refine Br.mk (i := 5) ?_))
    | (refine Br.mk (i := 5) ?_
       all_goals (refine WC.seq ?_)
       all_goals (refine WC.region ?_)
       all_goals (refine WL.step (ok_assign rfl) rfl rfl rfl ?_)
       all_goals (refine WL.nil ?_)
       all_goals (repeat' (with_reducible first | refine thenP_n ?_ | refine blockP_n ?_))
       all_goals (refine WC.sub [(4, _)] ⟨rfl, trivial⟩ ?_)
       all_goals (refine WC.ret ?_)
       all_goals (repeat' (with_reducible first | refine thenP_r ?_ | refine blockP_r ?_))
       all_goals (refine retP_1 _ ⟨rfl, trivial⟩ ?_)
       all_goals (first
                   | (refine ⟨?_, hX3⟩; rw [hau', hq]; rfl)
                   | (refine ⟨congrArg In ?_, hX3⟩; rw [hau', if_pos hq, if_neg (by omega)])
                   | (refine ⟨congrArg In ?_, hX4⟩; rw [hau', if_pos hq, if_pos (show V.c.length = 16 ∧ (V.s.length : Int) = c.sv by omega), if_neg (fun e => absurd (hi4.2 e) (by decide))])
                   | (refine ⟨congrArg In ?_, hX6⟩; rw [hau', if_pos hq, if_pos (show V.c.length = 16 ∧ (V.s.length : Int) = c.sv by omega), if_pos (hi4.1 rfl), if_neg (fun e => by have := e y (List.mem_of_getElem? hy); rw [hqi] at this; cases this)])
                   | (refine ⟨congrArg In ?_, hX7⟩; rw [hau', if_pos hq, if_pos (show V.c.length = 16 ∧ (V.s.length : Int) = c.sv by omega), if_pos (hi4.1 rfl), if_pos (show ∀ s ∈ V.s, idleB s = true by rw [List.take_of_length_le (by omega)] at hn; exact hn), if_neg (show ¬ crowdB c V = false by rw [hcb, hqc]; decide)])
                   | (refine ⟨congrArg In ?_, hX8⟩; rw [hau', if_pos hq, if_pos (show V.c.length = 16 ∧ (V.s.length : Int) = c.sv by omega), if_pos (hi4.1 rfl), if_pos (show ∀ s ∈ V.s, idleB s = true by rw [List.take_of_length_le (by omega)] at hn; exact hn), if_pos (show crowdB c V = false by rw [hcb, hqc]), if_neg (fun e => absurd (e.eq hL) (by assumption))])
                   | (refine ⟨congrArg In ?_, hX9⟩; rw [hau', if_pos hq, if_pos (show V.c.length = 16 ∧ (V.s.length : Int) = c.sv by omega), if_pos (hi4.1 rfl), if_pos (show ∀ s ∈ V.s, idleB s = true by rw [List.take_of_length_le (by omega)] at hn; exact hn), if_pos (show crowdB c V = false by rw [hcb, hqc]), if_pos (show IsCnt (idsV V) V.r by rw [‹V.r = L›]; exact hL), if_neg (fun e => absurd (hi9.2 e) (by decide))])
                   | (refine ⟨congrArg In ?_, hX9⟩; rw [hau', if_pos hq, if_pos (show V.c.length = 16 ∧ (V.s.length : Int) = c.sv by omega), if_pos (hi4.1 rfl), if_pos (show ∀ s ∈ V.s, idleB s = true by rw [List.take_of_length_le (by omega)] at hn; exact hn), if_pos (show crowdB c V = false by rw [hcb, hqc]), if_pos (show IsCnt (idsV V) V.r by rw [‹V.r = L›]; exact hL), if_pos (hi9.1 rfl)]))
       skip))
  all_goals (first
    | (fail_if_success (refine Br.mk (i := 6) ?_))
    | (refine Br.mk (i := 6) ?_
       all_goals (refine WC.skip ?_)
       skip))
  all_goals (repeat' (with_reducible first | refine thenP_n ?_ | refine blockP_n ?_))
  all_goals (refine WC.sub [(2, _), (3, _)] ⟨rfl, rfl, trivial⟩ ?_)
  all_goals (refine WC.seq ?_)
  all_goals (refine WC.seq ?_)
  all_goals (refine WC.region ?_)
  all_goals (refine WL.step (ok_assign rfl) rfl rfl rfl ?_)
  all_goals (refine WL.nil ?_)
  all_goals (repeat' (with_reducible first | refine thenP_n ?_ | refine blockP_n ?_))
  all_goals (refine WC.block ?_)
  -- loop 0: slots that turn [6], that stay [2, 3]
  all_goals (refine WC.loopG (X := Nat) (fun x => ([(6, In (x : Int))] : Fr)) [(2, _), (3, _)] (fun k h' => Ext No h4 h' ∧ k ≤ V.s.length ∧ ∀ s ∈ V.s.take k, idleB s = true) (fun k => V.s.length - k) (0) ⟨rfl, rfl, rfl, trivial⟩ (by exact ⟨.refl _ _, Nat.zero_le _, fun s hs => by cases hs⟩) ?_)
  all_goals (rintro k h5 ⟨hx5, hk, hn⟩
             have hX5 := hX4.trans hx5
             have hb15 := hx5.obj hb14 nos
             have hb25 := hx5.obj hb24 nos)
  all_goals (refine WC.sub [(6, _), (2, _), (3, _)] ⟨rfl, rfl, rfl, trivial⟩ ?_)
  all_goals (refine WC.seq ?_)
  all_goals (refine WC.seq ?_)
  all_goals (refine WC.region ?_)
  all_goals (refine WL.step (ok_move rfl) rfl rfl rfl ?_)
  all_goals (refine WL.step (ok_fieldAddr rfl Tryd.underlying30 rfl (fun w => Tryd.sizeOf26 w)) rfl rfl rfl ?_)
  all_goals (refine WL.step (ok_load (fun w => Tryd.isAgg26 w) rfl (by first | assumption | exact cell_blk (by assumption) rfl)) rfl rfl rfl ?_)
  all_goals (refine WL.step (ok_lenL rfl Tryd.underlying26 rfl) rfl rfl rfl ?_)
  all_goals (first | (refine WL.step (OkP.bool_t (by omega) (ok_lss rfl rfl)) rfl rfl rfl ?_) | (refine WL.step (OkP.bool_f (by omega) (ok_lss rfl rfl)) rfl rfl rfl ?_) | (refine WL.step (ok_lss rfl rfl) rfl rfl rfl ?_))
  all_goals (refine WL.nil ?_)
  all_goals (repeat' (with_reducible first | refine thenP_n ?_ | refine blockP_n ?_))
  all_goals (refine WC.sub [(2, _), (3, _), (6, _), (31, _)] ⟨rfl, rfl, rfl, rfl, trivial⟩ ?_)
  all_goals (first | refine WC.condB_t 7 rfl ?_ | refine WC.condB_f 8 rfl ?_ | (refine WC.condB 7 8 rfl (fun hb => ?_) (fun hb => ?_) <;> (first | replace hb := of_decide_eq_true hb | replace hb := of_decide_eq_false hb | replace hb := of_decide_eq_false (nt hb) | replace hb := of_decide_eq_true (nf hb) | skip)))
  all_goals (first
    | (fail_if_success (refine Br.mk (i := 7) ?_))
    | (refine Br.mk (i := 7) ?_
       all_goals (refine WC.skip ?_)
       skip))
  all_goals (first
    | (fail_if_success (refine Br.mk (i := 8) ?_))
    | (refine Br.mk (i := 8) ?_
       all_goals (refine WC.exit ?_)
       all_goals (repeat' (with_reducible first | refine thenP_x ?_ | refine blockP_miss rfl ?_ | refine blockP_hit ?_ | refine blockP_n ?_ | refine thenP_n ?_))
       all_goals (refine Br.out (i := 1000) ?_)
       skip))
  all_goals (first | (refine Br.keep ?_) | (repeat' (with_reducible first | refine thenP_n ?_ | refine blockP_n ?_)))
  all_goals (first | (refine Br.keep ?_) | (refine WC.seq ?_))
  all_goals (first | (refine Br.keep ?_) | (refine WC.block ?_))
  all_goals (first | (refine Br.keep ?_) | (refine WC.seq ?_))
  all_goals (first
               | (refine Br.keep ?_)
               | (obtain ⟨bL, oL, hA, hbL, hat⟩ := Rd.at_ (hss.ext0 hX5) (by omega)
                  obtain ⟨y, hy⟩ : ∃ y, V.s[k]? = some y := ⟨_, List.getElem?_eq_getElem (by omega)⟩
                  have hcd : At h5 bL (oL + k * 6) y.cells := At.elem SV.len hat hy))
  all_goals (first | (refine Br.keep ?_) | (refine WC.region ?_))
  all_goals (first | (refine Br.keep ?_) | (refine WL.step (ok_fieldAddr rfl Tryd.underlying30 rfl (fun w => Tryd.sizeOf26 w)) rfl rfl rfl ?_))
  all_goals (first | (refine Br.keep ?_) | (refine WL.step (ok_load (fun w => Tryd.isAgg26 w) rfl (by first | assumption | exact cell_blk (by assumption) rfl)) rfl rfl rfl ?_))
  all_goals (first | (refine Br.keep ?_) | (refine WL.step (ok_move rfl) rfl rfl rfl ?_))
  all_goals (first | (refine Br.keep ?_) | (refine WL.step (ok_idxAddrA Tryd.underlying26 (fun w => Tryd.sizeOf32 w) rfl rfl rfl (by omega) (by first | rfl | assumption)) rfl rfl rfl ?_))
  all_goals (first | (refine Br.keep ?_) | (refine WL.step (ok_loadN (fun w => Tryd.isAgg32 w) (fun w => Tryd.sizeOf32 w) rfl rfl (by exact hcd)) rfl rfl rfl ?_))
  all_goals (first
               | (refine Br.keep ?_)
               | (refine WL.call (vs := [_]) rfl (fun a w => Tryd.call13 a w) rfl (idle47 y (((hso y (List.mem_of_getElem? hy)).ext0 hX5))) rfl rfl rfl ?_
                  rintro _ h6 ⟨rfl, hx6⟩))
  all_goals (first
               | (refine Br.keep ?_)
               | (have hX6 := hX5.trans hx6
                  rcases hqi : idleB y))
  all_goals (first | (refine Br.keep ?_) | (refine WL.step (ok_not rfl) rfl rfl rfl ?_))
  all_goals (first | (refine Br.keep ?_) | (refine WL.nil ?_))
  all_goals (first | (refine Br.keep ?_) | (repeat' (with_reducible first | refine thenP_n ?_ | refine blockP_n ?_)))
  all_goals (first | (refine Br.keep ?_) | (refine WC.sub [(2, _), (3, _), (6, _), (40, _)] ⟨rfl, rfl, rfl, rfl, trivial⟩ ?_))
  all_goals (first | (refine Br.keep ?_) | (first | refine WC.condB_t 9 rfl ?_ | refine WC.condB_f 10 rfl ?_ | (refine WC.condB 9 10 rfl (fun hb => ?_) (fun hb => ?_) <;> (first | replace hb := of_decide_eq_true hb | replace hb := of_decide_eq_false hb | replace hb := of_decide_eq_false (nt hb) | replace hb := of_decide_eq_true (nf hb) | skip))))
  all_goals (first
    | (fail_if_success (refine Br.mk (i := 9) ?_))
    | (refine Br.mk (i := 9) ?_
       all_goals (refine WC.seq ?_)
       all_goals (refine WC.region ?_)
       all_goals (refine WL.step (ok_assign rfl) rfl rfl rfl ?_)
       all_goals (refine WL.nil ?_)
       all_goals (repeat' (with_reducible first | refine thenP_n ?_ | refine blockP_n ?_))
       all_goals (refine WC.sub [(4, _)] ⟨rfl, trivial⟩ ?_)
       all_goals (refine WC.ret ?_)
       all_goals (repeat' (with_reducible first | refine thenP_r ?_ | refine blockP_r ?_))
       all_goals (refine retP_1 _ ⟨rfl, trivial⟩ ?_)
       all_goals (first
                   | (refine ⟨?_, hX3⟩; rw [hau', hq]; rfl)
                   | (refine ⟨congrArg In ?_, hX3⟩; rw [hau', if_pos hq, if_neg (by omega)])
                   | (refine ⟨congrArg In ?_, hX4⟩; rw [hau', if_pos hq, if_pos (show V.c.length = 16 ∧ (V.s.length : Int) = c.sv by omega), if_neg (fun e => absurd (hi4.2 e) (by decide))])
                   | (refine ⟨congrArg In ?_, hX6⟩; rw [hau', if_pos hq, if_pos (show V.c.length = 16 ∧ (V.s.length : Int) = c.sv by omega), if_pos (hi4.1 rfl), if_neg (fun e => by have := e y (List.mem_of_getElem? hy); rw [hqi] at this; cases this)])
                   | (refine ⟨congrArg In ?_, hX7⟩; rw [hau', if_pos hq, if_pos (show V.c.length = 16 ∧ (V.s.length : Int) = c.sv by omega), if_pos (hi4.1 rfl), if_pos (show ∀ s ∈ V.s, idleB s = true by rw [List.take_of_length_le (by omega)] at hn; exact hn), if_neg (show ¬ crowdB c V = false by rw [hcb, hqc]; decide)])
                   | (refine ⟨congrArg In ?_, hX8⟩; rw [hau', if_pos hq, if_pos (show V.c.length = 16 ∧ (V.s.length : Int) = c.sv by omega), if_pos (hi4.1 rfl), if_pos (show ∀ s ∈ V.s, idleB s = true by rw [List.take_of_length_le (by omega)] at hn; exact hn), if_pos (show crowdB c V = false by rw [hcb, hqc]), if_neg (fun e => absurd (e.eq hL) (by assumption))])
                   | (refine ⟨congrArg In ?_, hX9⟩; rw [hau', if_pos hq, if_pos (show V.c.length = 16 ∧ (V.s.length : Int) = c.sv by omega), if_pos (hi4.1 rfl), if_pos (show ∀ s ∈ V.s, idleB s = true by rw [List.take_of_length_le (by omega)] at hn; exact hn), if_pos (show crowdB c V = false by rw [hcb, hqc]), if_pos (show IsCnt (idsV V) V.r by rw [‹V.r = L›]; exact hL), if_neg (fun e => absurd (hi9.2 e) (by decide))])
                   | (refine ⟨congrArg In ?_, hX9⟩; rw [hau', if_pos hq, if_pos (show V.c.length = 16 ∧ (V.s.length : Int) = c.sv by omega), if_pos (hi4.1 rfl), if_pos (show ∀ s ∈ V.s, idleB s = true by rw [List.take_of_length_le (by omega)] at hn; exact hn), if_pos (show crowdB c V = false by rw [hcb, hqc]), if_pos (show IsCnt (idsV V) V.r by rw [‹V.r = L›]; exact hL), if_pos (hi9.1 rfl)]))
       skip))
  all_goals (first
    | (fail_if_success (refine Br.mk (i := 10) ?_))
    | (refine Br.mk (i := 10) ?_
       all_goals (refine WC.skip ?_)
       skip))
  all_goals (first | (refine Br.keep ?_) | (repeat' (with_reducible first | refine thenP_n ?_ | refine blockP_n ?_)))
  all_goals (first | (refine Br.keep ?_) | (refine WC.region ?_))
  all_goals (first | (refine Br.keep ?_) | (refine WL.step (ok_move rfl) rfl rfl rfl ?_))
  all_goals (first | (refine Br.keep ?_) | (first | (refine WL.step (ok_addI rfl rfl (by omega)) rfl rfl rfl ?_) | (refine WL.step (ok_add rfl rfl) rfl rfl rfl ?_)))
  all_goals (first | (refine Br.keep ?_) | (refine WL.step (ok_assign rfl) rfl rfl rfl ?_))
  all_goals (first | (refine Br.keep ?_) | (refine WL.nil ?_))
  all_goals (first | (refine Br.keep ?_) | (repeat' (with_reducible first | refine thenP_n ?_ | refine blockP_n ?_)))
  all_goals (first | (refine Br.keep ?_) | (exact ⟨k + 1, ⟨rfl, rfl, rfl, trivial⟩, (by exact ⟨hx5.trans hx6, by omega, mem_take_snoc hy hn hqi⟩), (by omega)⟩))
  all_goals (try (refine Br.mk (i := 1000) ?_))
  all_goals (repeat' (with_reducible first | refine thenP_n ?_ | refine blockP_n ?_))
  all_goals (refine WC.seq ?_)
  all_goals (refine WC.seq ?_)
  all_goals (refine WC.region ?_)
  all_goals (refine WL.step (ok_loadN (fun w => Tryd.isAgg24 w) (fun w => Tryd.sizeOf24 w) rfl rfl (by exact At.of_block hb15)) rfl rfl rfl ?_)
  all_goals (refine WL.step (ok_loadN (fun w => Tryd.isAgg30 w) (fun w => Tryd.sizeOf30 w) rfl rfl (by exact At.of_block hb25)) rfl rfl rfl ?_)
  all_goals (refine WL.call (vs := [_, _]) rfl (fun a w => Tryd.call21 a w) rfl (k3 _ hX5) rfl rfl rfl ?_
             rintro _ h7 ⟨rfl, hx7⟩)
  all_goals (have hX7 := hX5.trans hx7
             have hb27 := hx7.obj hb25 nos
             have hcb : crowdB c V = (V.s.any (fullS c) || V.c.any (fullC c)) := rfl
             rcases hqc : (V.s.any (fullS c) || V.c.any (fullC c)))
  all_goals (refine WL.nil ?_)
  all_goals (repeat' (with_reducible first | refine thenP_n ?_ | refine blockP_n ?_))
  all_goals (refine WC.sub [(3, _), (43, _)] ⟨rfl, rfl, trivial⟩ ?_)
  all_goals (first | refine WC.condB_t 11 rfl ?_ | refine WC.condB_f 12 rfl ?_ | (refine WC.condB 11 12 rfl (fun hb => ?_) (fun hb => ?_) <;> (first | replace hb := of_decide_eq_true hb | replace hb := of_decide_eq_false hb | replace hb := of_decide_eq_false (nt hb) | replace hb := of_decide_eq_true (nf hb) | skip)))
  all_goals (first
    | (fail_if_success (refine Br.mk (i := 11) ?_))
    | (refine Br.mk (i := 11) ?_
       all_goals (refine WC.seq ?_)
       all_goals (refine WC.region ?_)
       all_goals (refine WL.step (ok_assign rfl) rfl rfl rfl ?_)
       all_goals (refine WL.nil ?_)
       all_goals (repeat' (with_reducible first | refine thenP_n ?_ | refine blockP_n ?_))
       all_goals (refine WC.ret ?_)
       all_goals (repeat' (with_reducible first | refine thenP_r ?_ | refine blockP_r ?_))
       all_goals (refine retP_1 _ ⟨rfl, trivial⟩ ?_)
       all_goals (first
                   | (refine ⟨?_, hX3⟩; rw [hau', hq]; rfl)
                   | (refine ⟨congrArg In ?_, hX3⟩; rw [hau', if_pos hq, if_neg (by omega)])
                   | (refine ⟨congrArg In ?_, hX4⟩; rw [hau', if_pos hq, if_pos (show V.c.length = 16 ∧ (V.s.length : Int) = c.sv by omega), if_neg (fun e => absurd (hi4.2 e) (by decide))])
                   | (refine ⟨congrArg In ?_, hX6⟩; rw [hau', if_pos hq, if_pos (show V.c.length = 16 ∧ (V.s.length : Int) = c.sv by omega), if_pos (hi4.1 rfl), if_neg (fun e => by have := e y (List.mem_of_getElem? hy); rw [hqi] at this; cases this)])
                   | (refine ⟨congrArg In ?_, hX7⟩; rw [hau', if_pos hq, if_pos (show V.c.length = 16 ∧ (V.s.length : Int) = c.sv by omega), if_pos (hi4.1 rfl), if_pos (show ∀ s ∈ V.s, idleB s = true by rw [List.take_of_length_le (by omega)] at hn; exact hn), if_neg (show ¬ crowdB c V = false by rw [hcb, hqc]; decide)])
                   | (refine ⟨congrArg In ?_, hX8⟩; rw [hau', if_pos hq, if_pos (show V.c.length = 16 ∧ (V.s.length : Int) = c.sv by omega), if_pos (hi4.1 rfl), if_pos (show ∀ s ∈ V.s, idleB s = true by rw [List.take_of_length_le (by omega)] at hn; exact hn), if_pos (show crowdB c V = false by rw [hcb, hqc]), if_neg (fun e => absurd (e.eq hL) (by assumption))])
                   | (refine ⟨congrArg In ?_, hX9⟩; rw [hau', if_pos hq, if_pos (show V.c.length = 16 ∧ (V.s.length : Int) = c.sv by omega), if_pos (hi4.1 rfl), if_pos (show ∀ s ∈ V.s, idleB s = true by rw [List.take_of_length_le (by omega)] at hn; exact hn), if_pos (show crowdB c V = false by rw [hcb, hqc]), if_pos (show IsCnt (idsV V) V.r by rw [‹V.r = L›]; exact hL), if_neg (fun e => absurd (hi9.2 e) (by decide))])
                   | (refine ⟨congrArg In ?_, hX9⟩; rw [hau', if_pos hq, if_pos (show V.c.length = 16 ∧ (V.s.length : Int) = c.sv by omega), if_pos (hi4.1 rfl), if_pos (show ∀ s ∈ V.s, idleB s = true by rw [List.take_of_length_le (by omega)] at hn; exact hn), if_pos (show crowdB c V = false by rw [hcb, hqc]), if_pos (show IsCnt (idsV V) V.r by rw [‹V.r = L›]; exact hL), if_pos (hi9.1 rfl)]))
       skip))
  all_goals (first
    | (fail_if_success (refine Br.mk (i := 12) ?_))
    | (refine Br.mk (i := 12) ?_
       all_goals (refine WC.skip ?_)
       skip))
  all_goals (repeat' (with_reducible first | refine thenP_n ?_ | refine blockP_n ?_))
  all_goals (refine WC.seq ?_)
  all_goals (refine WC.seq ?_)
  all_goals (refine WC.drawH (fun h' => Ext No h7 h') 6 6 rfl fol ?_)
  all_goals (refine WH.take 0 rfl (by kernel_rfl) (by kernel_rfl) (by kernel_rfl) (by kernel_rfl) rfl (by first | exact Ext.refl _ _ | assumption) (fun hq hC => ok_fieldAddr rfl Tryd.underlying30 rfl (fun w => Tryd.sizeOf27 w)) rfl rfl rfl ?_)
  all_goals (refine WH.take 1 rfl (by kernel_rfl) (by kernel_rfl) (by kernel_rfl) (by kernel_rfl) rfl (by first | exact Ext.refl _ _ | assumption) (fun hq hC => ok_load (fun w => Tryd.isAgg27 w) rfl (by first | exact hC.cell (by first | exact (At.of_block (hC.obj hb27 nos)).get 2 rfl rfl | assumption | exact cell_blk (by assumption) rfl) nos)) rfl rfl rfl ?_)
  all_goals (refine WH.take 2 rfl (by kernel_rfl) (by kernel_rfl) (by kernel_rfl) (by kernel_rfl) rfl (by first | exact Ext.refl _ _ | assumption) (fun hq hC => ok_loadN (fun w => Tryd.isAgg30 w) (fun w => Tryd.sizeOf30 w) rfl rfl (by exact At.of_block (hC.obj hb27 nos))) rfl rfl rfl ?_)
  all_goals (refine WH.one 3 (by kernel_rfl) ?_)
  all_goals (refine Comes1.call (vs := [_]) rfl rfl (fun a w => Tryd.call22 a w) rfl (k4 _ hX7) rfl rfl rfl ?_ (fun _ => by kernel_rfl)
             rintro v8 h8 ⟨L, hL, hLl, ho8, hx8, hf8⟩)
  all_goals (refine ⟨fun _ => by first | assumption | trivial, ?_⟩)
  all_goals (have hb28 := hx8.obj hb27 nos
             have hX8 := hX7.trans hx8
             obtain ⟨A, cA, rfl, _⟩ := ho8.slice)
  all_goals (refine WH.one 4 (by kernel_rfl) ?_)
  all_goals (refine Comes1.call (vs := [_, _]) rfl rfl (fun a w => Tryd.call15 a w) rfl (counts46 V.r L (hrr.ext0 hX8) ho8.rd (by omega)) rfl rfl rfl ?_ (fun _ => by kernel_rfl)
             rintro _ _ ⟨rfl, rfl⟩)
  all_goals (refine ⟨fun _ => by first | assumption | trivial, ?_⟩)
  all_goals (refine WH.take 5 rfl (by kernel_rfl) (by kernel_rfl) (by kernel_rfl) (by kernel_rfl) rfl (by first | exact Ext.refl _ _ | assumption) (fun hq hC => ok_not rfl) rfl rfl rfl ?_)
  all_goals (refine WH.done (by kernel_rfl) ?_)
  all_goals (repeat' (with_reducible first | refine thenP_n ?_ | refine blockP_n ?_))
  all_goals (refine WC.sub [(3, _), (49, _)] ⟨rfl, rfl, trivial⟩ ?_)
  all_goals (first | refine WC.condB_t 13 rfl ?_ | refine WC.condB_f 14 rfl ?_ | (refine WC.condB 13 14 rfl (fun hb => ?_) (fun hb => ?_) <;> (first | replace hb := of_decide_eq_true hb | replace hb := of_decide_eq_false hb | replace hb := of_decide_eq_false (nt hb) | replace hb := of_decide_eq_true (nf hb) | skip)))
  all_goals (first
    | (fail_if_success (refine Br.mk (i := 13) ?_))
    | (refine Br.mk (i := 13) ?_
       all_goals (refine WC.seq ?_)
       all_goals (refine WC.region ?_)
       all_goals (refine WL.step (ok_assign rfl) rfl rfl rfl ?_)
       all_goals (refine WL.nil ?_)
       all_goals (repeat' (with_reducible first | refine thenP_n ?_ | refine blockP_n ?_))
       all_goals (refine WC.ret ?_)
       all_goals (repeat' (with_reducible first | refine thenP_r ?_ | refine blockP_r ?_))
       all_goals (refine retP_1 _ ⟨rfl, trivial⟩ ?_)
       all_goals (first
                   | (refine ⟨?_, hX3⟩; rw [hau', hq]; rfl)
                   | (refine ⟨congrArg In ?_, hX3⟩; rw [hau', if_pos hq, if_neg (by omega)])
                   | (refine ⟨congrArg In ?_, hX4⟩; rw [hau', if_pos hq, if_pos (show V.c.length = 16 ∧ (V.s.length : Int) = c.sv by omega), if_neg (fun e => absurd (hi4.2 e) (by decide))])
                   | (refine ⟨congrArg In ?_, hX6⟩; rw [hau', if_pos hq, if_pos (show V.c.length = 16 ∧ (V.s.length : Int) = c.sv by omega), if_pos (hi4.1 rfl), if_neg (fun e => by have := e y (List.mem_of_getElem? hy); rw [hqi] at this; cases this)])
                   | (refine ⟨congrArg In ?_, hX7⟩; rw [hau', if_pos hq, if_pos (show V.c.length = 16 ∧ (V.s.length : Int) = c.sv by omega), if_pos (hi4.1 rfl), if_pos (show ∀ s ∈ V.s, idleB s = true by rw [List.take_of_length_le (by omega)] at hn; exact hn), if_neg (show ¬ crowdB c V = false by rw [hcb, hqc]; decide)])
                   | (refine ⟨congrArg In ?_, hX8⟩; rw [hau', if_pos hq, if_pos (show V.c.length = 16 ∧ (V.s.length : Int) = c.sv by omega), if_pos (hi4.1 rfl), if_pos (show ∀ s ∈ V.s, idleB s = true by rw [List.take_of_length_le (by omega)] at hn; exact hn), if_pos (show crowdB c V = false by rw [hcb, hqc]), if_neg (fun e => absurd (e.eq hL) (by assumption))])
                   | (refine ⟨congrArg In ?_, hX9⟩; rw [hau', if_pos hq, if_pos (show V.c.length = 16 ∧ (V.s.length : Int) = c.sv by omega), if_pos (hi4.1 rfl), if_pos (show ∀ s ∈ V.s, idleB s = true by rw [List.take_of_length_le (by omega)] at hn; exact hn), if_pos (show crowdB c V = false by rw [hcb, hqc]), if_pos (show IsCnt (idsV V) V.r by rw [‹V.r = L›]; exact hL), if_neg (fun e => absurd (hi9.2 e) (by decide))])
                   | (refine ⟨congrArg In ?_, hX9⟩; rw [hau', if_pos hq, if_pos (show V.c.length = 16 ∧ (V.s.length : Int) = c.sv by omega), if_pos (hi4.1 rfl), if_pos (show ∀ s ∈ V.s, idleB s = true by rw [List.take_of_length_le (by omega)] at hn; exact hn), if_pos (show crowdB c V = false by rw [hcb, hqc]), if_pos (show IsCnt (idsV V) V.r by rw [‹V.r = L›]; exact hL), if_pos (hi9.1 rfl)]))
       skip))
  all_goals (first
    | (fail_if_success (refine Br.mk (i := 14) ?_))
    | (refine Br.mk (i := 14) ?_
       all_goals (refine WC.skip ?_)
       skip))
  all_goals (repeat' (with_reducible first | refine thenP_n ?_ | refine blockP_n ?_))
  all_goals (refine WC.seq ?_)
  all_goals (refine WC.seq ?_)
  all_goals (refine WC.region ?_)
  all_goals (refine WL.step (ok_loadN (fun w => Tryd.isAgg30 w) (fun w => Tryd.sizeOf30 w) rfl rfl (by exact At.of_block hb28)) rfl rfl rfl ?_)
  all_goals (refine WL.call (vs := [_]) rfl (fun a w => Tryd.call23 a w) rfl (k5 _ hX8) rfl rfl rfl ?_
             rintro _ h9 ⟨⟨r9, rfl, hi9⟩, hx9⟩)
  all_goals (have hX9 := hX8.trans hx9
             cases r9)
  all_goals (refine WL.step (ok_not rfl) rfl rfl rfl ?_)
  all_goals (refine WL.nil ?_)
  all_goals (repeat' (with_reducible first | refine thenP_n ?_ | refine blockP_n ?_))
  all_goals (refine WC.sub [(52, _)] ⟨rfl, trivial⟩ ?_)
  all_goals (first | refine WC.condB_t 15 rfl ?_ | refine WC.condB_f 16 rfl ?_ | (refine WC.condB 15 16 rfl (fun hb => ?_) (fun hb => ?_) <;> (first | replace hb := of_decide_eq_true hb | replace hb := of_decide_eq_false hb | replace hb := of_decide_eq_false (nt hb) | replace hb := of_decide_eq_true (nf hb) | skip)))
  all_goals (first
    | (fail_if_success (refine Br.mk (i := 15) ?_))
    | (refine Br.mk (i := 15) ?_
       all_goals (refine WC.seq ?_)
       all_goals (refine WC.region ?_)
       all_goals (refine WL.step (ok_assign rfl) rfl rfl rfl ?_)
       all_goals (refine WL.nil ?_)
       all_goals (repeat' (with_reducible first | refine thenP_n ?_ | refine blockP_n ?_))
       all_goals (refine WC.ret ?_)
       all_goals (repeat' (with_reducible first | refine thenP_r ?_ | refine blockP_r ?_))
       all_goals (refine retP_1 _ ⟨rfl, trivial⟩ ?_)
       all_goals (first
                   | (refine ⟨?_, hX3⟩; rw [hau', hq]; rfl)
                   | (refine ⟨congrArg In ?_, hX3⟩; rw [hau', if_pos hq, if_neg (by omega)])
                   | (refine ⟨congrArg In ?_, hX4⟩; rw [hau', if_pos hq, if_pos (show V.c.length = 16 ∧ (V.s.length : Int) = c.sv by omega), if_neg (fun e => absurd (hi4.2 e) (by decide))])
                   | (refine ⟨congrArg In ?_, hX6⟩; rw [hau', if_pos hq, if_pos (show V.c.length = 16 ∧ (V.s.length : Int) = c.sv by omega), if_pos (hi4.1 rfl), if_neg (fun e => by have := e y (List.mem_of_getElem? hy); rw [hqi] at this; cases this)])
                   | (refine ⟨congrArg In ?_, hX7⟩; rw [hau', if_pos hq, if_pos (show V.c.length = 16 ∧ (V.s.length : Int) = c.sv by omega), if_pos (hi4.1 rfl), if_pos (show ∀ s ∈ V.s, idleB s = true by rw [List.take_of_length_le (by omega)] at hn; exact hn), if_neg (show ¬ crowdB c V = false by rw [hcb, hqc]; decide)])
                   | (refine ⟨congrArg In ?_, hX8⟩; rw [hau', if_pos hq, if_pos (show V.c.length = 16 ∧ (V.s.length : Int) = c.sv by omega), if_pos (hi4.1 rfl), if_pos (show ∀ s ∈ V.s, idleB s = true by rw [List.take_of_length_le (by omega)] at hn; exact hn), if_pos (show crowdB c V = false by rw [hcb, hqc]), if_neg (fun e => absurd (e.eq hL) (by assumption))])
                   | (refine ⟨congrArg In ?_, hX9⟩; rw [hau', if_pos hq, if_pos (show V.c.length = 16 ∧ (V.s.length : Int) = c.sv by omega), if_pos (hi4.1 rfl), if_pos (show ∀ s ∈ V.s, idleB s = true by rw [List.take_of_length_le (by omega)] at hn; exact hn), if_pos (show crowdB c V = false by rw [hcb, hqc]), if_pos (show IsCnt (idsV V) V.r by rw [‹V.r = L›]; exact hL), if_neg (fun e => absurd (hi9.2 e) (by decide))])
                   | (refine ⟨congrArg In ?_, hX9⟩; rw [hau', if_pos hq, if_pos (show V.c.length = 16 ∧ (V.s.length : Int) = c.sv by omega), if_pos (hi4.1 rfl), if_pos (show ∀ s ∈ V.s, idleB s = true by rw [List.take_of_length_le (by omega)] at hn; exact hn), if_pos (show crowdB c V = false by rw [hcb, hqc]), if_pos (show IsCnt (idsV V) V.r by rw [‹V.r = L›]; exact hL), if_pos (hi9.1 rfl)]))
       skip))
  all_goals (first
    | (fail_if_success (refine Br.mk (i := 16) ?_))
    | (refine Br.mk (i := 16) ?_
       all_goals (refine WC.skip ?_)
       skip))
  all_goals (repeat' (with_reducible first | refine thenP_n ?_ | refine blockP_n ?_))
  all_goals (refine WC.seq ?_)
  all_goals (refine WC.region ?_)
  all_goals (refine WL.step (ok_assign rfl) rfl rfl rfl ?_)
  all_goals (refine WL.nil ?_)
  all_goals (repeat' (with_reducible first | refine thenP_n ?_ | refine blockP_n ?_))
  all_goals (refine WC.ret ?_)
  all_goals (repeat' (with_reducible first | refine thenP_r ?_ | refine blockP_r ?_))
  all_goals (refine retP_1 _ ⟨rfl, trivial⟩ ?_)
  all_goals (first
              | (refine ⟨?_, hX3⟩; rw [hau', hq]; rfl)
              | (refine ⟨congrArg In ?_, hX3⟩; rw [hau', if_pos hq, if_neg (by omega)])
              | (refine ⟨congrArg In ?_, hX4⟩; rw [hau', if_pos hq, if_pos (show V.c.length = 16 ∧ (V.s.length : Int) = c.sv by omega), if_neg (fun e => absurd (hi4.2 e) (by decide))])
              | (refine ⟨congrArg In ?_, hX6⟩; rw [hau', if_pos hq, if_pos (show V.c.length = 16 ∧ (V.s.length : Int) = c.sv by omega), if_pos (hi4.1 rfl), if_neg (fun e => by have := e y (List.mem_of_getElem? hy); rw [hqi] at this; cases this)])
              | (refine ⟨congrArg In ?_, hX7⟩; rw [hau', if_pos hq, if_pos (show V.c.length = 16 ∧ (V.s.length : Int) = c.sv by omega), if_pos (hi4.1 rfl), if_pos (show ∀ s ∈ V.s, idleB s = true by rw [List.take_of_length_le (by omega)] at hn; exact hn), if_neg (show ¬ crowdB c V = false by rw [hcb, hqc]; decide)])
              | (refine ⟨congrArg In ?_, hX8⟩; rw [hau', if_pos hq, if_pos (show V.c.length = 16 ∧ (V.s.length : Int) = c.sv by omega), if_pos (hi4.1 rfl), if_pos (show ∀ s ∈ V.s, idleB s = true by rw [List.take_of_length_le (by omega)] at hn; exact hn), if_pos (show crowdB c V = false by rw [hcb, hqc]), if_neg (fun e => absurd (e.eq hL) (by assumption))])
              | (refine ⟨congrArg In ?_, hX9⟩; rw [hau', if_pos hq, if_pos (show V.c.length = 16 ∧ (V.s.length : Int) = c.sv by omega), if_pos (hi4.1 rfl), if_pos (show ∀ s ∈ V.s, idleB s = true by rw [List.take_of_length_le (by omega)] at hn; exact hn), if_pos (show crowdB c V = false by rw [hcb, hqc]), if_pos (show IsCnt (idsV V) V.r by rw [‹V.r = L›]; exact hL), if_neg (fun e => absurd (hi9.2 e) (by decide))])
              | (refine ⟨congrArg In ?_, hX9⟩; rw [hau', if_pos hq, if_pos (show V.c.length = 16 ∧ (V.s.length : Int) = c.sv by omega), if_pos (hi4.1 rfl), if_pos (show ∀ s ∈ V.s, idleB s = true by rw [List.take_of_length_le (by omega)] at hn; exact hn), if_pos (show crowdB c V = false by rw [hcb, hqc]), if_pos (show IsCnt (idsV V) V.r by rw [‹V.r = L›]; exact hL), if_pos (hi9.1 rfl)]))
end Go.Proofs.YtanbpffpllgekaaDoor

/-
  DRAWN REGIONS IN WHICH THREE MAY COME UP NEXT. No program is named here.
-/
namespace Go.RK
open Go
section
variable {P : Program} {n : Env} {Q : Post} {f : Fr} {h : Heap} {l : List Oper} {C : Heap → Prop} {k fuel : Nat} {L : Array Bool}
theorem WH.three (i j m : Nat) (hr : Region.ready .any l.toArray L = [i, j, m]) (h1 : Comes1 P n l Q C k fuel L f h i) (h2 : Comes1 P n l Q C k fuel L f h j) (h3 : Comes1 P n l Q C k fuel L f h m) : WH P n l Q C k (fuel + 1) L f h :=
  fun w0 a w hs ha hw => ⟨fun e => (by rw [hr] at e; cases e), fun q hj => by
    rw [hr] at hj
    simp at hj
    rcases hj with rfl | rfl | rfl
    · exact h1 w0 a w hs ha hw
    · exact h2 w0 a w hs ha hw
    · exact h3 w0 a w hs ha hw⟩
end
end Go.RK
/-
  AUDIT (layer 47): blank views, and what is wrong with them.
-/
namespace Go.Proofs.YtanbpffpllgekaaDoor
open Go Go.RK

/-! ### rows that are filled from their front -/
theorem flat_set {α : Type} {F : α → List Value} {sz : Nat} (hF : ∀ a, (F a).length = sz) {x : Value} {q q' : α} {j : Nat} (hj : j < sz) (hq : (F q).set j x = F q') : ∀ {L : List α} {k : Nat}, L[k]? = some q → (L.flatMap F).set (k * sz + j) x = (L.set k q').flatMap F
  | [], k, h => by simp at h
  | b :: L, 0, h => by
    obtain rfl : b = q := by simpa using h
    rw [List.flatMap_cons, Nat.zero_mul, Nat.zero_add, List.set_append_left _ _ (by rw [hF]; exact hj), hq]
    rfl
  | b :: L, k + 1, h => by
    have ih := flat_set hF hj hq (L := L) (k := k) (by simpa using h)
    rw [List.flatMap_cons, List.set_append_right _ _ (by rw [hF, Nat.succ_mul]; omega), hF, show (k + 1) * sz + j - sz = k * sz + j by rw [Nat.succ_mul]; omega, ih]
    rfl
def fillL {α : Type} (n k : Nat) (a b : α) : List α := List.replicate k a ++ List.replicate (n - k) b
theorem fill_len {α : Type} {n k : Nat} {a b : α} (h : k ≤ n) : (fillL n k a b).length = n := by simp [fillL]; omega
theorem fill_get {α : Type} {n k : Nat} {a b : α} (h : k < n) : (fillL n k a b)[k]? = some b := by
  unfold fillL
  rw [List.getElem?_append_right (by simp), List.length_replicate, Nat.sub_self, List.getElem?_replicate, if_pos (by omega)]
theorem fill_set {α : Type} {n k : Nat} {a b : α} (h : k < n) : (fillL n k a b).set k a = fillL n (k + 1) a b := by
  unfold fillL
  rw [List.set_append_right _ _ (by simp), List.length_replicate, Nat.sub_self]
  obtain ⟨m, hm⟩ : ∃ m, n - k = m + 1 := ⟨n - k - 1, by omega⟩
  rw [hm, List.replicate_succ, List.set_cons_zero, show n - (k + 1) = m by omega, List.replicate_succ', List.append_assoc]
  rfl
theorem fill_all {α : Type} {n k : Nat} {a b : α} (h : n ≤ k) (hk : k ≤ n) : fillL n k a b = List.replicate n a := by
  obtain rfl : n = k := by omega
  simp [fillL]
theorem made_map (z : Array Value) (N : Nat) : (madeCells z N).toList = (List.range N).map fun i => z[i % z.size]! := by
  unfold madeCells
  simp [Array.toList_range]
theorem made_flat (z : Array Value) (hz : 0 < z.size) : ∀ n, (madeCells z (n * z.size)).toList = (List.replicate n z.toList).flatten
  | 0 => by rw [made_map]; simp
  | n + 1 => by
    have ih := made_flat z hz n
    rw [made_map] at ih ⊢
    rw [show (n + 1) * z.size = z.size + n * z.size by rw [Nat.succ_mul]; omega, List.range_add, List.map_append, List.map_map, List.replicate_succ, List.flatten_cons, ← ih]
    congr 1
    · apply List.ext_getElem?
      intro i
      rw [List.getElem?_map]
      rcases Nat.lt_or_ge i z.size with h | h
      · rw [List.getElem?_range h, Option.map_some, Nat.mod_eq_of_lt h]
        simp [h]
      · rw [List.getElem?_eq_none (by simpa using h), List.getElem?_eq_none (by simpa using h)]
        rfl
    · apply List.map_congr_left
      intro i _
      show z[(z.size + i) % z.size]! = _
      rw [Nat.add_mod_left]
def cvz (ph sv : Int) : CV := ⟨ph, sv, 0, .slice none 0 0, []⟩
def svz (st ho qu : Int) : SV := ⟨st, ho, qu, 0, .slice none 0 0, [], .slice none 0 0, []⟩
theorem rep_flat {α : Type} (F : α → List Value) (a : α) (n : Nat) : (List.replicate n (F a)).flatten = (List.replicate n a).flatMap F := by
  rw [List.flatMap_def, List.map_replicate]
theorem made_cv (n : Nat) : (madeCells (Value.agg #[In 0, In 0, In 0, .slice none 0 0]).cells (n * 4)).toList = (List.replicate n (cvz 0 0)).flatMap CV.cells := by
  rw [← rep_flat]; exact made_flat _ (by decide) n
theorem made_sv (n : Nat) : (madeCells (Value.agg #[In 0, In 0, In 0, .int .u8 0, .slice none 0 0, .slice none 0 0]).cells (n * 6)).toList = (List.replicate n (svz 0 0 0)).flatMap SV.cells := by
  rw [← rep_flat]; exact made_flat _ (by decide) n
theorem cvz_ok (h : Heap) (ph sv : Int) : (cvz ph sv).ok h := ⟨Rd.nil _ _, by simp [cvz, maxLen]⟩
theorem svz_ok (h : Heap) (st ho qu : Int) : (svz st ho qu).ok h := ⟨Rd.nil _ _, by simp [svz, maxLen], Rd.nil _ _, by simp [svz, maxLen]⟩
end Go.Proofs.YtanbpffpllgekaaDoor

/-
  AUDIT (layer 47): what Check tells of blank views.
-/
namespace Go.Proofs.YtanbpffpllgekaaDoor
open Go Go.RK

theorem lim_facts {c : Cf} (h : limB c = true) : 1 ≤ c.sv ∧ c.sv ≤ 8 ∧ 1 ≤ c.ca ∧ 1 ≤ c.tb ∧ 6 ≤ c.qu ∧ (c.ps.length : Int) ≤ 16 := by
  rw [lim_eq] at h
  simp only [bdB, Bool.and_eq_true, decide_eq_true_eq] at h
  omega
theorem cnt_nil : IsCnt [] [] := ⟨by simp, List.Pairwise.nil⟩
theorem cnt_one : IsCnt [1] [(1, 1)] := by
  refine ⟨?_, ?_⟩
  · rintro ⟨a, b⟩
    simp only [List.mem_singleton, Prod.mk.injEq]
    constructor
    · rintro ⟨rfl, rfl⟩; simp
    · rintro ⟨h1, h2, h3⟩
      simp_all
  · simp
theorem cnt_no : ¬ IsCnt [] [(1, 1)] := fun h => by
  have := h.eq cnt_nil
  cases this
theorem idsV_blank {V : VW} (hC : ∀ x ∈ V.c, x.t = []) (hS : ∀ s ∈ V.s, s.c = [] ∧ s.p = []) : idsV V = [] := by
  unfold idsV idsC idsS
  rw [List.append_eq_nil_iff]
  constructor
  · rw [List.flatMap_eq_nil_iff]
    intro x hx
    rw [hC x hx]
    rfl
  · rw [List.flatMap_eq_nil_iff]
    intro s hs
    rw [(hS s hs).1, (hS s hs).2]
    rfl
theorem blank_facts {c : Cf} {V : VW} (hl : limB c = true) (hC : ∀ x ∈ V.c, x.sv = -1 ∧ x.t = []) (hS : ∀ s ∈ V.s, s.st = 0 ∧ s.ho = -1 ∧ s.qu = 0 ∧ s.c.length ≤ 1) (hw : V.w = []) :
    HoldP V ∧ (∀ s ∈ V.s, idleB s = true) ∧ crowdB c V = false ∧ WaitP V := by
  obtain ⟨l1, l2, l3, l4, l5, l6⟩ := lim_facts hl
  refine ⟨⟨fun k s hk => ?_, fun k x hk => ?_⟩, fun s hs => ?_, ?_, fun k z hk => ?_⟩
  · obtain ⟨e1, e2, e3, e4⟩ := hS s (List.mem_of_getElem? hk)
    unfold heldB
    rw [e1, e2]
    rfl
  · obtain ⟨e1, e2⟩ := hC x (List.mem_of_getElem? hk)
    unfold holdsB
    rw [e1]
    rfl
  · obtain ⟨e1, e2, e3, e4⟩ := hS s hs
    unfold idleB
    rw [e1]
    rfl
  · unfold crowdB
    rw [Bool.or_eq_false_iff]
    constructor
    · rw [List.any_eq_false]
      intro s hs
      obtain ⟨e1, e2, e3, e4⟩ := hS s hs
      unfold fullS
      rw [e3, decide_eq_false (by omega), decide_eq_false (by omega)]
      simp
    · rw [List.any_eq_false]
      intro x hx
      obtain ⟨e1, e2⟩ := hC x hx
      unfold fullC
      rw [e2, decide_eq_false (by simp; omega)]
      simp
  · rw [hw] at hk
    cases hk
open Classical in
theorem au_blank {c : Cf} {V : VW} (hl : limB c = true) (hC : ∀ x ∈ V.c, x.sv = -1 ∧ x.t = []) (hS : ∀ s ∈ V.s, s.st = 0 ∧ s.ho = -1 ∧ s.qu = 0 ∧ s.c.length ≤ 1) (hw : V.w = []) (h1 : V.c.length = 16) (h2 : (V.s.length : Int) = c.sv) :
    auR c V = if IsCnt (idsV V) V.r then 0 else 10 := by
  obtain ⟨a1, a2, a3, a4⟩ := blank_facts hl hC hS hw
  unfold auR auT
  rw [if_pos hl, if_pos ⟨h1, h2⟩, if_pos a1, if_pos a2, if_pos a3, if_pos a4]
theorem au_hold {c : Cf} {V : VW} (hl : limB c = true) (h1 : V.c.length = 16) (h2 : (V.s.length : Int) = c.sv) (hh : ¬ HoldP V) : auR c V = 8 := by
  unfold auR auT
  rw [if_pos hl, if_pos ⟨h1, h2⟩, if_neg hh]
/-- What is told of a view that may be. -/
theorem au_zero {c : Cf} {V : VW} (h : auR c V = 0) : V.c.length = 16 ∧ (V.s.length : Int) = c.sv ∧ HoldP V := by
  unfold auR auT at h
  by_cases e1 : limB c = true
  · rw [if_pos e1] at h
    by_cases e2 : V.c.length = 16 ∧ (V.s.length : Int) = c.sv
    · rw [if_pos e2] at h
      by_cases e3 : HoldP V
      · exact ⟨e2.1, e2.2, e3⟩
      · rw [if_neg e3] at h
        cases h
    · rw [if_neg e2] at h
      cases h
  · rw [if_neg e1] at h
    cases h
/-- The settings that Base makes. -/
def cfB (v : Value) : Cf := ⟨2, 4, 8, 4096, 8192, 32, v, [(([115, 101, 114, 118, 101, 114, 95, 118, 101, 114, 115, 105, 111, 110] : List UInt8), ([49, 54] : List UInt8))]⟩
theorem cfB_lim (v : Value) : limB (cfB v) = true := by
  rw [lim_eq]
  rfl
set_option maxRecDepth 100000 in
theorem base35 {h : Heap} : CallsH Tryd.prog 17 ⟨[]⟩ h fun u h' => ∃ v, u = .agg ⟨(cfB v).cells⟩ ∧ (cfB v).ok h' ∧ Ext No h h' := by
  refine calls [] Tryd.func17 rfl Tryd.ntmps17 rfl trivial ?_
  all_goals (refine WC.seq ?_)
  all_goals (refine WC.region ?_)
  all_goals (refine WL.stepR (okE_alloc (fun w => Tryd.zeroValue24 w)) rfl rfl rfl ?_
             rintro _ h1 ⟨b1, rfl, hg1, hb1, hx1⟩)
  all_goals (refine WL.nil ?_)
  all_goals (repeat' (with_reducible first | refine thenP_n ?_ | refine blockP_n ?_))
  all_goals (refine WC.seq ?_)
  all_goals (refine WC.region ?_)
  all_goals (refine WL.step (ok_buildF (vs := [_, _]) (cs := [_, _]) (fun | [a0, a1] => [a0, a1] | _ => []) rfl rfl (by kernel_rfl)) rfl rfl rfl ?_)
  all_goals (refine WL.stepR (okE_buildSlice (vs := [_]) (cs := [_, _]) (fun | [.agg ⟨[a0, a1]⟩] => [a0, a1] | _ => []) Tryd.underlying22 rfl rfl (by kernel_rfl)) rfl rfl rfl ?_
             rintro _ h2 ⟨b2, rfl, hg2, hb2, hx2⟩)
  all_goals (have hb12 := hx2.obj hb1 nos)
  all_goals (refine WL.step (ok_buildF (vs := [_, _, _, _, _, _, _]) (cs := [_, _, _, _, _, _, _]) (fun | [a0, a1, a2, a3, a4, a5, a6] => [a0, a1, a2, a3, a4, a5, a6] | _ => []) rfl rfl (by kernel_rfl)) rfl rfl rfl ?_)
  all_goals (refine WL.stepR0 (okE_storeW (fun w => Tryd.sizeOf24 w) rfl rfl rfl hb12 rfl (by simp [Value.oneCell'])) rfl rfl ?_
             rintro _ h3 ⟨hb3, hx3⟩)
  all_goals (refine WL.nil ?_)
  all_goals (repeat' (with_reducible first | refine thenP_n ?_ | refine blockP_n ?_))
  all_goals (refine WC.ret ?_)
  all_goals (repeat' (with_reducible first | refine thenP_r ?_ | refine blockP_r ?_))
  all_goals (refine retP_1 _ ⟨⟨_, rfl, ld_blk (fun w => Tryd.isAgg24 w) (fun w => Tryd.sizeOf24 w) (by assumption) rfl⟩, trivial⟩ ?_)
  all_goals (exact ⟨_, rfl, ⟨rd_blk (hx3.obj hb2 (fun e => by have := lt_of_some hb1; omega)) rfl, show 1 ≤ maxLen by decide⟩, (hx1.trans hx2).trans' hx3 (fun q hq e => by omega)⟩)
end Go.Proofs.YtanbpffpllgekaaDoor

/-
  AUDIT (layer 47): the law's own look at itself.
-/
namespace Go.Proofs.YtanbpffpllgekaaDoor
open Go Go.RK

theorem flat_length {α : Type} {F : α → List Value} {sz : Nat} (hF : ∀ a, (F a).length = sz) : ∀ (l : List α), (l.flatMap F).length = l.length * sz
  | [] => by simp
  | a :: l => by rw [List.flatMap_cons, List.length_append, hF, flat_length hF l, List.length_cons, Nat.succ_mul]; omega
/-- A view's rows, in memory. -/
structure Vm (h : Heap) (bV bC bS : Nat) (vr vw : Value) (nC : Nat) (C : List CV) (nS : Nat) (S : List SV) : Prop where
  v : h[bV]? = some (.cells ⟨[.slice (some ⟨bC, 0, none⟩) nC nC, .slice (some ⟨bS, 0, none⟩) nS nS, vr, vw]⟩ 30 (0, 0))
  c : h[bC]? = some (.cells ⟨C.flatMap CV.cells⟩ 42 (0, 0))
  s : h[bS]? = some (.cells ⟨S.flatMap SV.cells⟩ 32 (0, 0))
  lc : C.length = nC
  ls : S.length = nS
theorem Vm.ne {h : Heap} {bV bC bS nC nS : Nat} {vr vw : Value} {C : List CV} {S : List SV} (k : Vm h bV bC bS vr vw nC C nS S) : bV ≠ bC ∧ bV ≠ bS ∧ bC ≠ bS := by
  refine ⟨fun e => ?_, fun e => ?_, fun e => ?_⟩
  · subst e; have := k.v.symm.trans k.c; simp at this
  · subst e; have := k.v.symm.trans k.s; simp at this
  · subst e; have := k.c.symm.trans k.s; simp at this
theorem Vm.ext {h h' : Heap} {bV bC bS nC nS : Nat} {vr vw : Value} {C : List CV} {S : List SV} {Z : Nat → Prop} (k : Vm h bV bC bS vr vw nC C nS S) (a : Ext Z h h') (h1 : ¬ Z bV) (h2 : ¬ Z bC) (h3 : ¬ Z bS) : Vm h' bV bC bS vr vw nC C nS S :=
  ⟨a.obj k.v h1, a.obj k.c h2, a.obj k.s h3, k.lc, k.ls⟩
theorem Vm.setC {h h' : Heap} {bV bC bS nC nS : Nat} {vr vw : Value} {C : List CV} {S : List SV} (k : Vm h bV bC bS vr vw nC C nS S) {C' : List CV} {x : List Value} (hb : h'[bC]? = some (.cells ⟨x⟩ 42 (0, 0))) (hx : x = C'.flatMap CV.cells) (hl : C'.length = nC) (a : Ext (fun q => q = bC) h h') : Vm h' bV bC bS vr vw nC C' nS S :=
  ⟨a.obj k.v k.ne.1, hx ▸ hb, a.obj k.s (fun e => k.ne.2.2 e.symm), hl, k.ls⟩
theorem Vm.setS {h h' : Heap} {bV bC bS nC nS : Nat} {vr vw : Value} {C : List CV} {S : List SV} (k : Vm h bV bC bS vr vw nC C nS S) {S' : List SV} {x : List Value} (hb : h'[bS]? = some (.cells ⟨x⟩ 32 (0, 0))) (hx : x = S'.flatMap SV.cells) (hl : S'.length = nS) (a : Ext (fun q => q = bS) h h') : Vm h' bV bC bS vr vw nC C nS S' :=
  ⟨a.obj k.v k.ne.2.1, a.obj k.c k.ne.2.2, hx ▸ hb, k.lc, hl⟩
/-- It as a view. -/
def vwOf (bC bS : Nat) (vr vw : Value) (nC : Nat) (C : List CV) (nS : Nat) (S : List SV) (R : List Cn) : VW := ⟨.slice (some ⟨bC, 0, none⟩) nC nC, C, .slice (some ⟨bS, 0, none⟩) nS nS, S, vr, R, vw, []⟩
theorem Vm.ok {h : Heap} {bV bC bS nC nS : Nat} {vr : Value} {C : List CV} {S : List SV} {R : List Cn} (k : Vm h bV bC bS vr (.slice none 0 0) nC C nS S) (hC : ∀ c ∈ C, c.ok h) (hS : ∀ s ∈ S, s.ok h) (hl : nC ≤ maxLen) (hl2 : nS ≤ maxLen)
    (hr : Rd h vr 2 R.length (R.flatMap cnC)) (hrl : R.length ≤ maxLen) : (vwOf bC bS vr (.slice none 0 0) nC C nS S R).ok h := by
  have e1 := k.lc
  have e2 := k.ls
  subst e1
  subst e2
  exact ⟨rd_blk k.c (flat_length CV.len _), hl, hC, rd_blk k.s (flat_length SV.len _), hl2, hS, hr, hrl, Rd.nil _ _, Nat.zero_le _⟩
theorem cvz_all {h : Heap} {C : List CV} (hC : ∀ c ∈ C, c.v = .slice none 0 0 ∧ c.t = []) : ∀ c ∈ C, c.ok h := fun c hc => by
  obtain ⟨h1, h2⟩ := hC c hc
  refine ⟨?_, by rw [h2]; exact Nat.zero_le _⟩
  rw [h1, h2]
  exact Rd.nil _ _
theorem svz_all {h : Heap} {S : List SV} (hS : ∀ s ∈ S, ∃ a b c, s = svz a b c) : ∀ s ∈ S, s.ok h := fun s hs => by
  obtain ⟨a, b, c, rfl⟩ := hS s hs
  exact svz_ok h _ _ _
theorem rep_all {α : Type} {p : α → Prop} {a : α} {n : Nat} (hp : p a) : ∀ x ∈ List.replicate n a, p x := fun x hx => by
  rw [List.eq_of_mem_replicate hx]; exact hp
end Go.Proofs.YtanbpffpllgekaaDoor

/-
  AUDIT (layer 47): the law's own look at itself, walked.
-/
namespace Go.Proofs.YtanbpffpllgekaaDoor
open Go Go.RK

theorem few_vw {bC bS nC nS : Nat} {vr vw : Value} {C : List CV} {S : List SV} {R : List Cn} (h1 : C.length ≤ 40) (h2 : S.length ≤ 20) (h3 : R.length ≤ 100) (h4 : ∀ c ∈ C, c.t.length ≤ 40) (h5 : ∀ s ∈ S, s.c.length ≤ 60 ∧ s.p.length ≤ 60) : Few (vwOf bC bS vr vw nC C nS S R) :=
  ⟨h1, h2, h3, Nat.zero_le _, h4, h5⟩
def C0 (k : Nat) : List CV := fillL 16 k (cvz 0 (-1)) (cvz 0 0)
def S0 (k : Nat) : List SV := fillL 2 k (svz 0 (-1) 0) (svz 0 0 0)
def C1 : List CV := (C0 16).set 1 (cvz 0 0)
def S1 : List SV := [svz 3 1 0, svz 3 1 0]
theorem C0_ok {h : Heap} (k : Nat) : ∀ c ∈ C0 k, c.ok h := fun c hc => by
  rcases List.mem_append.1 hc with e | e <;> rw [List.eq_of_mem_replicate e] <;> exact cvz_ok _ _ _
theorem S0_ok {h : Heap} (k : Nat) : ∀ s ∈ S0 k, s.ok h := fun c hc => by
  rcases List.mem_append.1 hc with e | e <;> rw [List.eq_of_mem_replicate e] <;> exact svz_ok _ _ _ _
theorem C1_ok {h : Heap} : ∀ c ∈ C1, c.ok h := fun c hc => by
  rcases List.mem_or_eq_of_mem_set hc with e | e
  · exact C0_ok 16 c e
  · rw [e]; exact cvz_ok _ _ _
theorem S1_ok {h : Heap} : ∀ s ∈ S1, s.ok h := fun s hs => by
  simp only [S1, List.mem_cons, List.not_mem_nil, or_false] at hs
  rcases hs with rfl | rfl <;> exact svz_ok _ _ _ _
theorem C0_t (k : Nat) : ∀ c ∈ C0 k, c.t.length ≤ 40 := fun c hc => by
  rcases List.mem_append.1 hc with e | e <;> rw [List.eq_of_mem_replicate e] <;> exact Nat.zero_le _
theorem C1_t : ∀ c ∈ C1, c.t.length ≤ 40 := fun c hc => by
  rcases List.mem_or_eq_of_mem_set hc with e | e
  · exact C0_t 16 c e
  · rw [e]; exact Nat.zero_le _
theorem S0_t (k : Nat) : ∀ s ∈ S0 k, s.c.length ≤ 60 ∧ s.p.length ≤ 60 := fun c hc => by
  rcases List.mem_append.1 hc with e | e <;> rw [List.eq_of_mem_replicate e] <;> exact ⟨Nat.zero_le _, Nat.zero_le _⟩
theorem S1_t : ∀ s ∈ S1, s.c.length ≤ 60 ∧ s.p.length ≤ 60 := fun s hs => by
  simp only [S1, List.mem_cons, List.not_mem_nil, or_false] at hs
  rcases hs with rfl | rfl <;> exact ⟨Nat.zero_le _, Nat.zero_le _⟩
theorem C0_set {k : Nat} (h : k < 16) : ((C0 k).flatMap CV.cells).set (k * 4 + 1) (In (-1)) = (C0 (k + 1)).flatMap CV.cells := by
  unfold C0
  rw [flat_set (F := CV.cells) CV.len (x := In (-1)) (q := cvz 0 0) (q' := cvz 0 (-1)) (j := 1) (by decide) rfl (fill_get h)]
  rw [fill_set h]
theorem S0_set {k : Nat} (h : k < 2) : ((S0 k).flatMap SV.cells).set (k * 6 + 1) (In (-1)) = (S0 (k + 1)).flatMap SV.cells := by
  unfold S0
  rw [flat_set (F := SV.cells) SV.len (x := In (-1)) (q := svz 0 0 0) (q' := svz 0 (-1) 0) (j := 1) (by decide) rfl (fill_get h)]
  rw [fill_set h]
theorem au_base {v : Value} {bC bS : Nat} : auR (cfB v) (vwOf bC bS (.slice none 0 0) (.slice none 0 0) 16 (C0 16) 2 (S0 2) []) = 0 := by
  rw [au_blank (cfB_lim v) (fun x hx => ?_) (fun s hs => ?_) rfl rfl rfl]
  · rw [if_pos]
    rw [idsV_blank (fun x hx => ?_) (fun s hs => ?_)]
    · exact cnt_nil
    · have := List.eq_of_mem_replicate (show x ∈ List.replicate 16 (cvz 0 (-1)) from hx)
      rw [this]; rfl
    · have := List.eq_of_mem_replicate (show s ∈ List.replicate 2 (svz 0 (-1) 0) from hs)
      rw [this]; exact ⟨rfl, rfl⟩
  · have := List.eq_of_mem_replicate (show x ∈ List.replicate 16 (cvz 0 (-1)) from hx)
    rw [this]; exact ⟨rfl, rfl⟩
  · have := List.eq_of_mem_replicate (show s ∈ List.replicate 2 (svz 0 (-1) 0) from hs)
    rw [this]; exact ⟨rfl, rfl, rfl, by decide⟩
theorem hold_base {v : Value} {bC bS : Nat} : HoldP (vwOf bC bS (.slice none 0 0) (.slice none 0 0) 16 (C0 16) 2 (S0 2) []) :=
  (au_zero (au_base (v := v))).2.2
theorem au_two {v : Value} {bC bS : Nat} : auR (cfB v) (vwOf bC bS (.slice none 0 0) (.slice none 0 0) 16 C1 2 S1 []) = 8 := by
  refine au_hold (cfB_lim v) rfl rfl fun hh => ?_
  have := hh.1 1 (svz 3 1 0) rfl
  exact absurd this (by rw [show heldB (vwOf bC bS (.slice none 0 0) (.slice none 0 0) 16 C1 2 S1 []) 1 (svz 3 1 0) = false from rfl]; decide)
end Go.Proofs.YtanbpffpllgekaaDoor

/-
  AUDIT (layer 47): awake.
-/
namespace Go.Proofs.YtanbpffpllgekaaDoor
open Go Go.RK

set_option maxHeartbeats 4000000 in
set_option maxRecDepth 100000 in
theorem awake47 {h : Heap} (er : Er h) : CallsH Tryd.prog 7 ⟨[]⟩ h fun u h' => u = .bool true ∧ Ext No h h' := by
  have eC : (madeCells (Value.agg #[In 0, In 0, In 0, .slice none 0 0]).cells (16 * 4)).toList = (C0 0).flatMap CV.cells := made_cv 16
  have eS : (madeCells (Value.agg #[In 0, In 0, In 0, .int .u8 0, .slice none 0 0, .slice none 0 0]).cells (2 * 6)).toList = (S0 0).flatMap SV.cells := made_sv 2
  refine calls [] Tryd.func7 rfl Tryd.ntmps7 rfl trivial ?_
  all_goals (refine WC.seq ?_)
  all_goals (refine WC.region ?_)
  all_goals (refine WL.step (ok_assign rfl) rfl rfl rfl ?_)
  all_goals (refine WL.nil ?_)
  all_goals (repeat' (with_reducible first | refine thenP_n ?_ | refine blockP_n ?_))
  all_goals (refine WC.seq ?_)
  all_goals (refine WC.region ?_)
  all_goals (refine WL.call (vs := []) rfl (fun a w => Tryd.call17 a w) rfl (base35) rfl rfl rfl ?_
             rintro _ h0 ⟨bp, rfl, okb, hx0⟩)
  all_goals (obtain ⟨A5, c5, rfl, _⟩ := (show Rd h0 bp 2 1 _ from okb.p)
             dsimp only [cfB, Cf.cells])
  all_goals (refine WL.stepR (okE_alloc (fun w => Tryd.zeroValue24 w)) rfl rfl rfl ?_
             rintro _ h1 ⟨b1, rfl, hg1, hb1, hx1⟩)
  all_goals (refine WL.stepR0 (okE_storeW (fun w => Tryd.sizeOf24 w) rfl rfl rfl hb1 rfl (by simp [Value.oneCell'])) rfl rfl ?_
             rintro _ h2 ⟨hb2, hx2⟩)
  all_goals (have hX2 : Ext No h h2 := (hx0.trans hx1).trans' hx2 (fun q hq e => by have := hx0.size; omega)
             have hlt1 := lt_of_some hb2
             have hX2s := hX2.size
             have okb2 : (cfB (.slice A5 1 c5)).ok h2 := okb.ext0 (hx1.trans' hx2 (fun q hq e => by omega)))
  all_goals (refine WL.nil ?_)
  all_goals (repeat' (with_reducible first | refine thenP_n ?_ | refine blockP_n ?_))
  refine WC.cut (X := Nat × Nat × Nat) (fun z => [(0, .bool false), (1, .pointer (some ⟨b1, 0, none⟩)), (2, .pointer (some ⟨z.1, 0, none⟩))]) (fun z h' => Vm h' z.1 z.2.1 z.2.2 (.slice none 0 0) (.slice none 0 0) 16 (C0 0) 2 (S0 0) ∧ Ext No h2 h' ∧ h2.size ≤ z.1 ∧ h2.size ≤ z.2.1 ∧ h2.size ≤ z.2.2) ?_ ?_
  ·
    all_goals (have hX := Ext.refl No h2)
    all_goals (refine WC.drawH (fun h' => Ext No h2 h') 4 5 rfl fol ?_)
    all_goals (refine WH.three 0 1 3 (by kernel_rfl) (Br.out (i := 5012) ?_) (Br.out (i := 5013) ?_) (Br.out (i := 5014) ?_))
    all_goals (first
      | (fail_if_success (refine Br.mk (i := 5012) ?_))
      | (refine Br.mk (i := 5012) ?_
         all_goals (refine Comes1.run rfl (okE_makeSlice 48 4 Tryd.underlying25 (show Tryd.prog.info? 42 = some Tryd.t42 by kernel_rfl) rfl rfl rfl rfl rfl (by decide) (by decide)) rfl rfl rfl ?_ (fun _ => by kernel_rfl)
                    rintro _ hA ⟨bC, zC, rfl, hgC, hbC, _, heC, hxA⟩)
         all_goals (refine ⟨fun _ => hX.trans hxA, ?_⟩)
         all_goals (replace hgC := Nat.le_trans hX.size hgC
                    replace hX := hX.trans hxA
                    try replace hbS := hxA.obj hbS nos
                    try replace hbV := hxA.obj hbV nos)
         all_goals (refine WH.two 1 3 (by kernel_rfl) (Br.out (i := 5006) ?_) (Br.out (i := 5007) ?_))
         all_goals (first
           | (fail_if_success (refine Br.mk (i := 5006) ?_))
           | (refine Br.mk (i := 5006) ?_
              all_goals (refine Comes1.run rfl (okE_makeSlice 80 6 Tryd.underlying26 (show Tryd.prog.info? 32 = some Tryd.t32 by kernel_rfl) rfl rfl rfl rfl rfl (by decide) (by decide)) rfl rfl rfl ?_ (fun _ => by kernel_rfl)
                         rintro _ hB ⟨bS, zS, rfl, hgS, hbS, _, heS, hxB⟩)
              all_goals (refine ⟨fun _ => hX.trans hxB, ?_⟩)
              all_goals (replace hgS := Nat.le_trans hX.size hgS
                         replace hX := hX.trans hxB
                         try replace hbC := hxB.obj hbC nos
                         try replace hbV := hxB.obj hbV nos)
              all_goals (refine WH.take 2 rfl (by kernel_rfl) (by kernel_rfl) (by kernel_rfl) (by kernel_rfl) rfl (by first | exact Ext.refl _ _ | assumption) (fun hq hC => ok_buildF (vs := [_, _]) (cs := [_, _, _, _]) (fun | [a0, a1] => [a0, a1, (.slice none 0 0), (.slice none 0 0)] | _ => []) rfl rfl (by kernel_rfl)) rfl rfl rfl ?_)
              all_goals (refine WH.one 3 (by kernel_rfl) ?_)
              all_goals (refine Comes1.run rfl (okE_alloc (fun w => Tryd.zeroValue30 w)) rfl rfl rfl ?_ (fun _ => by kernel_rfl)
                         rintro _ hD ⟨bV, rfl, hgV, hbV, hxD⟩)
              all_goals (refine ⟨fun _ => hX.trans hxD, ?_⟩)
              all_goals (replace hgV := Nat.le_trans hX.size hgV
                         replace hX := hX.trans hxD
                         try replace hbC := hxD.obj hbC nos
                         try replace hbS := hxD.obj hbS nos)
              all_goals (refine WH.one 4 (by kernel_rfl) ?_)
              all_goals (refine Comes1.run0 rfl (okE_storeW (fun w => Tryd.sizeOf30 w) rfl rfl rfl hbV rfl (by simp [Value.oneCell'])) rfl rfl ?_ (fun _ => by kernel_rfl)
                         rintro _ hE ⟨hbE, hxE⟩)
              all_goals (refine ⟨fun e => (by cases e), ?_⟩)
              all_goals (have nVC : ¬ bC = bV := fun e => by rw [e, hbV] at hbC; simp at hbC
                         have nVS : ¬ bS = bV := fun e => by rw [e, hbV] at hbS; simp at hbS)
              all_goals (refine WH.done (by kernel_rfl) ?_)
              skip))
         all_goals (first
           | (fail_if_success (refine Br.mk (i := 5007) ?_))
           | (refine Br.mk (i := 5007) ?_
              all_goals (refine Comes1.run rfl (okE_alloc (fun w => Tryd.zeroValue30 w)) rfl rfl rfl ?_ (fun _ => by kernel_rfl)
                         rintro _ hD ⟨bV, rfl, hgV, hbV, hxD⟩)
              all_goals (refine ⟨fun _ => hX.trans hxD, ?_⟩)
              all_goals (replace hgV := Nat.le_trans hX.size hgV
                         replace hX := hX.trans hxD
                         try replace hbC := hxD.obj hbC nos
                         try replace hbS := hxD.obj hbS nos)
              all_goals (refine WH.one 1 (by kernel_rfl) ?_)
              all_goals (refine Comes1.run rfl (okE_makeSlice 80 6 Tryd.underlying26 (show Tryd.prog.info? 32 = some Tryd.t32 by kernel_rfl) rfl rfl rfl rfl rfl (by decide) (by decide)) rfl rfl rfl ?_ (fun _ => by kernel_rfl)
                         rintro _ hB ⟨bS, zS, rfl, hgS, hbS, _, heS, hxB⟩)
              all_goals (refine ⟨fun _ => hX.trans hxB, ?_⟩)
              all_goals (replace hgS := Nat.le_trans hX.size hgS
                         replace hX := hX.trans hxB
                         try replace hbC := hxB.obj hbC nos
                         try replace hbV := hxB.obj hbV nos)
              all_goals (refine WH.take 2 rfl (by kernel_rfl) (by kernel_rfl) (by kernel_rfl) (by kernel_rfl) rfl (by first | exact Ext.refl _ _ | assumption) (fun hq hC => ok_buildF (vs := [_, _]) (cs := [_, _, _, _]) (fun | [a0, a1] => [a0, a1, (.slice none 0 0), (.slice none 0 0)] | _ => []) rfl rfl (by kernel_rfl)) rfl rfl rfl ?_)
              all_goals (refine WH.one 4 (by kernel_rfl) ?_)
              all_goals (refine Comes1.run0 rfl (okE_storeW (fun w => Tryd.sizeOf30 w) rfl rfl rfl hbV rfl (by simp [Value.oneCell'])) rfl rfl ?_ (fun _ => by kernel_rfl)
                         rintro _ hE ⟨hbE, hxE⟩)
              all_goals (refine ⟨fun e => (by cases e), ?_⟩)
              all_goals (have nVC : ¬ bC = bV := fun e => by rw [e, hbV] at hbC; simp at hbC
                         have nVS : ¬ bS = bV := fun e => by rw [e, hbV] at hbS; simp at hbS)
              all_goals (refine WH.done (by kernel_rfl) ?_)
              skip))
         skip))
    all_goals (first
      | (fail_if_success (refine Br.mk (i := 5013) ?_))
      | (refine Br.mk (i := 5013) ?_
         all_goals (refine Comes1.run rfl (okE_makeSlice 80 6 Tryd.underlying26 (show Tryd.prog.info? 32 = some Tryd.t32 by kernel_rfl) rfl rfl rfl rfl rfl (by decide) (by decide)) rfl rfl rfl ?_ (fun _ => by kernel_rfl)
                    rintro _ hB ⟨bS, zS, rfl, hgS, hbS, _, heS, hxB⟩)
         all_goals (refine ⟨fun _ => hX.trans hxB, ?_⟩)
         all_goals (replace hgS := Nat.le_trans hX.size hgS
                    replace hX := hX.trans hxB
                    try replace hbC := hxB.obj hbC nos
                    try replace hbV := hxB.obj hbV nos)
         all_goals (refine WH.two 0 3 (by kernel_rfl) (Br.out (i := 5009) ?_) (Br.out (i := 5010) ?_))
         all_goals (first
           | (fail_if_success (refine Br.mk (i := 5009) ?_))
           | (refine Br.mk (i := 5009) ?_
              all_goals (refine Comes1.run rfl (okE_makeSlice 48 4 Tryd.underlying25 (show Tryd.prog.info? 42 = some Tryd.t42 by kernel_rfl) rfl rfl rfl rfl rfl (by decide) (by decide)) rfl rfl rfl ?_ (fun _ => by kernel_rfl)
                         rintro _ hA ⟨bC, zC, rfl, hgC, hbC, _, heC, hxA⟩)
              all_goals (refine ⟨fun _ => hX.trans hxA, ?_⟩)
              all_goals (replace hgC := Nat.le_trans hX.size hgC
                         replace hX := hX.trans hxA
                         try replace hbS := hxA.obj hbS nos
                         try replace hbV := hxA.obj hbV nos)
              all_goals (refine WH.take 2 rfl (by kernel_rfl) (by kernel_rfl) (by kernel_rfl) (by kernel_rfl) rfl (by first | exact Ext.refl _ _ | assumption) (fun hq hC => ok_buildF (vs := [_, _]) (cs := [_, _, _, _]) (fun | [a0, a1] => [a0, a1, (.slice none 0 0), (.slice none 0 0)] | _ => []) rfl rfl (by kernel_rfl)) rfl rfl rfl ?_)
              all_goals (refine WH.one 3 (by kernel_rfl) ?_)
              all_goals (refine Comes1.run rfl (okE_alloc (fun w => Tryd.zeroValue30 w)) rfl rfl rfl ?_ (fun _ => by kernel_rfl)
                         rintro _ hD ⟨bV, rfl, hgV, hbV, hxD⟩)
              all_goals (refine ⟨fun _ => hX.trans hxD, ?_⟩)
              all_goals (replace hgV := Nat.le_trans hX.size hgV
                         replace hX := hX.trans hxD
                         try replace hbC := hxD.obj hbC nos
                         try replace hbS := hxD.obj hbS nos)
              all_goals (refine WH.one 4 (by kernel_rfl) ?_)
              all_goals (refine Comes1.run0 rfl (okE_storeW (fun w => Tryd.sizeOf30 w) rfl rfl rfl hbV rfl (by simp [Value.oneCell'])) rfl rfl ?_ (fun _ => by kernel_rfl)
                         rintro _ hE ⟨hbE, hxE⟩)
              all_goals (refine ⟨fun e => (by cases e), ?_⟩)
              all_goals (have nVC : ¬ bC = bV := fun e => by rw [e, hbV] at hbC; simp at hbC
                         have nVS : ¬ bS = bV := fun e => by rw [e, hbV] at hbS; simp at hbS)
              all_goals (refine WH.done (by kernel_rfl) ?_)
              skip))
         all_goals (first
           | (fail_if_success (refine Br.mk (i := 5010) ?_))
           | (refine Br.mk (i := 5010) ?_
              all_goals (refine Comes1.run rfl (okE_alloc (fun w => Tryd.zeroValue30 w)) rfl rfl rfl ?_ (fun _ => by kernel_rfl)
                         rintro _ hD ⟨bV, rfl, hgV, hbV, hxD⟩)
              all_goals (refine ⟨fun _ => hX.trans hxD, ?_⟩)
              all_goals (replace hgV := Nat.le_trans hX.size hgV
                         replace hX := hX.trans hxD
                         try replace hbC := hxD.obj hbC nos
                         try replace hbS := hxD.obj hbS nos)
              all_goals (refine WH.one 0 (by kernel_rfl) ?_)
              all_goals (refine Comes1.run rfl (okE_makeSlice 48 4 Tryd.underlying25 (show Tryd.prog.info? 42 = some Tryd.t42 by kernel_rfl) rfl rfl rfl rfl rfl (by decide) (by decide)) rfl rfl rfl ?_ (fun _ => by kernel_rfl)
                         rintro _ hA ⟨bC, zC, rfl, hgC, hbC, _, heC, hxA⟩)
              all_goals (refine ⟨fun _ => hX.trans hxA, ?_⟩)
              all_goals (replace hgC := Nat.le_trans hX.size hgC
                         replace hX := hX.trans hxA
                         try replace hbS := hxA.obj hbS nos
                         try replace hbV := hxA.obj hbV nos)
              all_goals (refine WH.take 2 rfl (by kernel_rfl) (by kernel_rfl) (by kernel_rfl) (by kernel_rfl) rfl (by first | exact Ext.refl _ _ | assumption) (fun hq hC => ok_buildF (vs := [_, _]) (cs := [_, _, _, _]) (fun | [a0, a1] => [a0, a1, (.slice none 0 0), (.slice none 0 0)] | _ => []) rfl rfl (by kernel_rfl)) rfl rfl rfl ?_)
              all_goals (refine WH.one 4 (by kernel_rfl) ?_)
              all_goals (refine Comes1.run0 rfl (okE_storeW (fun w => Tryd.sizeOf30 w) rfl rfl rfl hbV rfl (by simp [Value.oneCell'])) rfl rfl ?_ (fun _ => by kernel_rfl)
                         rintro _ hE ⟨hbE, hxE⟩)
              all_goals (refine ⟨fun e => (by cases e), ?_⟩)
              all_goals (have nVC : ¬ bC = bV := fun e => by rw [e, hbV] at hbC; simp at hbC
                         have nVS : ¬ bS = bV := fun e => by rw [e, hbV] at hbS; simp at hbS)
              all_goals (refine WH.done (by kernel_rfl) ?_)
              skip))
         skip))
    all_goals (first
      | (fail_if_success (refine Br.mk (i := 5014) ?_))
      | (refine Br.mk (i := 5014) ?_
         all_goals (refine Comes1.run rfl (okE_alloc (fun w => Tryd.zeroValue30 w)) rfl rfl rfl ?_ (fun _ => by kernel_rfl)
                    rintro _ hD ⟨bV, rfl, hgV, hbV, hxD⟩)
         all_goals (refine ⟨fun _ => hX.trans hxD, ?_⟩)
         all_goals (replace hgV := Nat.le_trans hX.size hgV
                    replace hX := hX.trans hxD
                    try replace hbC := hxD.obj hbC nos
                    try replace hbS := hxD.obj hbS nos)
         all_goals (refine WH.two 0 1 (by kernel_rfl) (Br.out (i := 5012) ?_) (Br.out (i := 5013) ?_))
         all_goals (first
           | (fail_if_success (refine Br.mk (i := 5012) ?_))
           | (refine Br.mk (i := 5012) ?_
              all_goals (refine Comes1.run rfl (okE_makeSlice 48 4 Tryd.underlying25 (show Tryd.prog.info? 42 = some Tryd.t42 by kernel_rfl) rfl rfl rfl rfl rfl (by decide) (by decide)) rfl rfl rfl ?_ (fun _ => by kernel_rfl)
                         rintro _ hA ⟨bC, zC, rfl, hgC, hbC, _, heC, hxA⟩)
              all_goals (refine ⟨fun _ => hX.trans hxA, ?_⟩)
              all_goals (replace hgC := Nat.le_trans hX.size hgC
                         replace hX := hX.trans hxA
                         try replace hbS := hxA.obj hbS nos
                         try replace hbV := hxA.obj hbV nos)
              all_goals (refine WH.one 1 (by kernel_rfl) ?_)
              all_goals (refine Comes1.run rfl (okE_makeSlice 80 6 Tryd.underlying26 (show Tryd.prog.info? 32 = some Tryd.t32 by kernel_rfl) rfl rfl rfl rfl rfl (by decide) (by decide)) rfl rfl rfl ?_ (fun _ => by kernel_rfl)
                         rintro _ hB ⟨bS, zS, rfl, hgS, hbS, _, heS, hxB⟩)
              all_goals (refine ⟨fun _ => hX.trans hxB, ?_⟩)
              all_goals (replace hgS := Nat.le_trans hX.size hgS
                         replace hX := hX.trans hxB
                         try replace hbC := hxB.obj hbC nos
                         try replace hbV := hxB.obj hbV nos)
              all_goals (refine WH.take 2 rfl (by kernel_rfl) (by kernel_rfl) (by kernel_rfl) (by kernel_rfl) rfl (by first | exact Ext.refl _ _ | assumption) (fun hq hC => ok_buildF (vs := [_, _]) (cs := [_, _, _, _]) (fun | [a0, a1] => [a0, a1, (.slice none 0 0), (.slice none 0 0)] | _ => []) rfl rfl (by kernel_rfl)) rfl rfl rfl ?_)
              all_goals (refine WH.one 4 (by kernel_rfl) ?_)
              all_goals (refine Comes1.run0 rfl (okE_storeW (fun w => Tryd.sizeOf30 w) rfl rfl rfl hbV rfl (by simp [Value.oneCell'])) rfl rfl ?_ (fun _ => by kernel_rfl)
                         rintro _ hE ⟨hbE, hxE⟩)
              all_goals (refine ⟨fun e => (by cases e), ?_⟩)
              all_goals (have nVC : ¬ bC = bV := fun e => by rw [e, hbV] at hbC; simp at hbC
                         have nVS : ¬ bS = bV := fun e => by rw [e, hbV] at hbS; simp at hbS)
              all_goals (refine WH.done (by kernel_rfl) ?_)
              skip))
         all_goals (first
           | (fail_if_success (refine Br.mk (i := 5013) ?_))
           | (refine Br.mk (i := 5013) ?_
              all_goals (refine Comes1.run rfl (okE_makeSlice 80 6 Tryd.underlying26 (show Tryd.prog.info? 32 = some Tryd.t32 by kernel_rfl) rfl rfl rfl rfl rfl (by decide) (by decide)) rfl rfl rfl ?_ (fun _ => by kernel_rfl)
                         rintro _ hB ⟨bS, zS, rfl, hgS, hbS, _, heS, hxB⟩)
              all_goals (refine ⟨fun _ => hX.trans hxB, ?_⟩)
              all_goals (replace hgS := Nat.le_trans hX.size hgS
                         replace hX := hX.trans hxB
                         try replace hbC := hxB.obj hbC nos
                         try replace hbV := hxB.obj hbV nos)
              all_goals (refine WH.one 0 (by kernel_rfl) ?_)
              all_goals (refine Comes1.run rfl (okE_makeSlice 48 4 Tryd.underlying25 (show Tryd.prog.info? 42 = some Tryd.t42 by kernel_rfl) rfl rfl rfl rfl rfl (by decide) (by decide)) rfl rfl rfl ?_ (fun _ => by kernel_rfl)
                         rintro _ hA ⟨bC, zC, rfl, hgC, hbC, _, heC, hxA⟩)
              all_goals (refine ⟨fun _ => hX.trans hxA, ?_⟩)
              all_goals (replace hgC := Nat.le_trans hX.size hgC
                         replace hX := hX.trans hxA
                         try replace hbS := hxA.obj hbS nos
                         try replace hbV := hxA.obj hbV nos)
              all_goals (refine WH.take 2 rfl (by kernel_rfl) (by kernel_rfl) (by kernel_rfl) (by kernel_rfl) rfl (by first | exact Ext.refl _ _ | assumption) (fun hq hC => ok_buildF (vs := [_, _]) (cs := [_, _, _, _]) (fun | [a0, a1] => [a0, a1, (.slice none 0 0), (.slice none 0 0)] | _ => []) rfl rfl (by kernel_rfl)) rfl rfl rfl ?_)
              all_goals (refine WH.one 4 (by kernel_rfl) ?_)
              all_goals (refine Comes1.run0 rfl (okE_storeW (fun w => Tryd.sizeOf30 w) rfl rfl rfl hbV rfl (by simp [Value.oneCell'])) rfl rfl ?_ (fun _ => by kernel_rfl)
                         rintro _ hE ⟨hbE, hxE⟩)
              all_goals (refine ⟨fun e => (by cases e), ?_⟩)
              all_goals (have nVC : ¬ bC = bV := fun e => by rw [e, hbV] at hbC; simp at hbC
                         have nVS : ¬ bS = bV := fun e => by rw [e, hbV] at hbS; simp at hbS)
              all_goals (refine WH.done (by kernel_rfl) ?_)
              skip))
         skip))
    all_goals (repeat' (with_reducible first | refine thenP_n ?_ | refine blockP_n ?_))
    all_goals (refine ⟨(bV, bC, bS), ⟨rfl, rfl, rfl, trivial⟩, ?_⟩)
    all_goals (exact ⟨⟨hbE, (heC.trans eC) ▸ hxE.obj hbC nVC, (heS.trans eS) ▸ hxE.obj hbS nVS, rfl, rfl⟩, hX.trans' hxE (fun q hq e => by omega), hgV, hgC, hgS⟩)
  rintro ⟨bV, bC, bS⟩ h3 ⟨vm3, hx3, gV, gC, gS⟩
  dsimp only at vm3 gV gC gS ⊢
  all_goals (refine WC.seq ?_)
  all_goals (refine WC.seq ?_)
  all_goals (refine WC.region ?_)
  all_goals (refine WL.step (ok_fieldAddr rfl Tryd.underlying30 rfl (fun w => Tryd.sizeOf25 w)) rfl rfl rfl ?_)
  all_goals (refine WL.step (ok_load (fun w => Tryd.isAgg25 w) rfl (by first | exact cell_blk vm3.v rfl | assumption | exact cell_blk (by assumption) rfl)) rfl rfl rfl ?_)
  all_goals (refine WL.step (ok_lenL rfl Tryd.underlying25 rfl) rfl rfl rfl ?_)
  all_goals (refine WL.step (ok_move rfl) rfl rfl rfl ?_)
  all_goals (refine WL.nil ?_)
  all_goals (repeat' (with_reducible first | refine thenP_n ?_ | refine blockP_n ?_))
  all_goals (refine WC.block ?_)
  -- loop 0: slots that turn [12], that stay [1, 2, 11]
  all_goals (refine WC.loopG (X := Nat) (fun k => ([(12, In (k : Int))] : Fr)) [(1, _), (2, _), (11, _)] (fun k h' => Vm h' bV bC bS (.slice none 0 0) (.slice none 0 0) 16 (C0 k) 2 (S0 0) ∧ Ext No h2 h' ∧ k ≤ 16) (fun k => 16 - k) (0) ⟨rfl, rfl, rfl, rfl, trivial⟩ (by exact ⟨vm3, hx3, Nat.zero_le _⟩) ?_)
  all_goals (rintro k h4 ⟨vm4, hx4, hk⟩)
  all_goals (refine WC.sub [(12, _), (1, _), (2, _), (11, _)] ⟨rfl, rfl, rfl, rfl, trivial⟩ ?_)
  all_goals (refine WC.seq ?_)
  all_goals (refine WC.region ?_)
  all_goals (first | (refine WL.step (OkP.bool_t (by omega) (ok_lss rfl rfl)) rfl rfl rfl ?_) | (refine WL.step (OkP.bool_f (by omega) (ok_lss rfl rfl)) rfl rfl rfl ?_) | (refine WL.step (ok_lss rfl rfl) rfl rfl rfl ?_))
  all_goals (refine WL.nil ?_)
  all_goals (repeat' (with_reducible first | refine thenP_n ?_ | refine blockP_n ?_))
  all_goals (refine WC.seq ?_)
  all_goals (first | refine WC.condB_t 1 rfl ?_ | refine WC.condB_f 2 rfl ?_ | (refine WC.condB 1 2 rfl (fun hb => ?_) (fun hb => ?_) <;> (first | replace hb := of_decide_eq_true hb | replace hb := of_decide_eq_false hb | replace hb := of_decide_eq_false (nt hb) | replace hb := of_decide_eq_true (nf hb) | skip)))
  all_goals (first
    | (fail_if_success (refine Br.mk (i := 1) ?_))
    | (refine Br.mk (i := 1) ?_
       all_goals (refine WC.skip ?_)
       skip))
  all_goals (first
    | (fail_if_success (refine Br.mk (i := 2) ?_))
    | (refine Br.mk (i := 2) ?_
       all_goals (refine WC.exit ?_)
       all_goals (repeat' (with_reducible first | refine thenP_x ?_ | refine blockP_miss rfl ?_ | refine blockP_hit ?_ | refine blockP_n ?_ | refine thenP_n ?_))
       all_goals (refine Br.out (i := 1000) ?_)
       skip))
  all_goals (first | (refine Br.keep ?_) | (repeat' (with_reducible first | refine thenP_n ?_ | refine blockP_n ?_)))
  all_goals (first | (refine Br.keep ?_) | (refine WC.seq ?_))
  all_goals (first | (refine Br.keep ?_) | (refine WC.block ?_))
  all_goals (first | (refine Br.keep ?_) | (refine WC.seq ?_))
  all_goals (first | (refine Br.keep ?_) | (refine WC.region ?_))
  all_goals (first | (refine Br.keep ?_) | (refine WL.step (ok_move rfl) rfl rfl rfl ?_))
  all_goals (first | (refine Br.keep ?_) | (refine WL.step (ok_assign rfl) rfl rfl rfl ?_))
  all_goals (first | (refine Br.keep ?_) | (refine WL.nil ?_))
  all_goals (first | (refine Br.keep ?_) | (repeat' (with_reducible first | refine thenP_n ?_ | refine blockP_n ?_)))
  all_goals (first | (refine Br.keep ?_) | (refine WC.region ?_))
  all_goals (first | (refine Br.keep ?_) | (refine WL.step (ok_fieldAddr rfl Tryd.underlying30 rfl (fun w => Tryd.sizeOf25 w)) rfl rfl rfl ?_))
  all_goals (first | (refine Br.keep ?_) | (refine WL.step (ok_load (fun w => Tryd.isAgg25 w) rfl (by first | exact cell_blk vm4.v rfl | assumption | exact cell_blk (by assumption) rfl)) rfl rfl rfl ?_))
  all_goals (first | (refine Br.keep ?_) | (refine WL.step (ok_move rfl) rfl rfl rfl ?_))
  all_goals (first | (refine Br.keep ?_) | (refine WL.step (ok_idxAddrA Tryd.underlying25 (fun w => Tryd.sizeOf42 w) rfl rfl rfl (by omega) (by first | rfl | assumption)) rfl rfl rfl ?_))
  all_goals (first | (refine Br.keep ?_) | (refine WL.step (ok_fieldAddr rfl Tryd.underlying42 rfl (fun w => Tryd.sizeOf3 w)) rfl rfl rfl ?_))
  all_goals (first
               | (refine Br.keep ?_)
               | (refine WL.stepR0 (okE_store (fun w => Tryd.sizeOf3 w) rfl rfl vm4.c (by rw [flat_length CV.len, vm4.lc]; show 0 + k * 4 + 1 < 16 * 4; omega) rfl rfl) rfl rfl ?_
                  rintro _ h5 ⟨hb5, hx5⟩))
  all_goals (first
               | (refine Br.keep ?_)
               | (have vm5 := vm4.setC (C' := C0 (k + 1)) hb5 (by rw [← C0_set (by omega : k < 16)]; simp) (fill_len (by omega)) hx5
                  have hx45 : Ext No h2 h5 := hx4.trans' hx5 (fun q hq e => by omega)))
  all_goals (first | (refine Br.keep ?_) | (refine WL.nil ?_))
  all_goals (first | (refine Br.keep ?_) | (repeat' (with_reducible first | refine thenP_n ?_ | refine blockP_n ?_)))
  all_goals (first | (refine Br.keep ?_) | (refine WC.sub [(1, _), (2, _), (11, _), (12, _)] ⟨rfl, rfl, rfl, rfl, trivial⟩ ?_))
  all_goals (first | (refine Br.keep ?_) | (refine WC.region ?_))
  all_goals (first | (refine Br.keep ?_) | (first | (refine WL.step (ok_addI rfl rfl (by omega)) rfl rfl rfl ?_) | (refine WL.step (ok_add rfl rfl) rfl rfl rfl ?_)))
  all_goals (first | (refine Br.keep ?_) | (refine WL.step (ok_move rfl) rfl rfl rfl ?_))
  all_goals (first | (refine Br.keep ?_) | (refine WL.nil ?_))
  all_goals (first | (refine Br.keep ?_) | (repeat' (with_reducible first | refine thenP_n ?_ | refine blockP_n ?_)))
  all_goals (first | (refine Br.keep ?_) | (exact ⟨k + 1, ⟨rfl, rfl, rfl, rfl, trivial⟩, (by exact ⟨vm5, hx45, by omega⟩), (by omega)⟩))
  all_goals (try (refine Br.mk (i := 1000) ?_))
  all_goals (repeat' (with_reducible first | refine thenP_n ?_ | refine blockP_n ?_))
  all_goals (refine WC.seq ?_)
  all_goals (refine WC.seq ?_)
  all_goals (refine WC.region ?_)
  all_goals (obtain rfl : k = 16 := by omega)
  all_goals (refine WL.step (ok_fieldAddr rfl Tryd.underlying30 rfl (fun w => Tryd.sizeOf26 w)) rfl rfl rfl ?_)
  all_goals (refine WL.step (ok_load (fun w => Tryd.isAgg26 w) rfl (by first | exact cell_blk vm4.v rfl | assumption | exact cell_blk (by assumption) rfl)) rfl rfl rfl ?_)
  all_goals (refine WL.step (ok_lenL rfl Tryd.underlying26 rfl) rfl rfl rfl ?_)
  all_goals (refine WL.step (ok_move rfl) rfl rfl rfl ?_)
  all_goals (refine WL.nil ?_)
  all_goals (repeat' (with_reducible first | refine thenP_n ?_ | refine blockP_n ?_))
  all_goals (refine WC.sub [(1, _), (2, _), (23, _), (24, _)] ⟨rfl, rfl, rfl, rfl, trivial⟩ ?_)
  all_goals (refine WC.block ?_)
  -- loop 1: slots that turn [24], that stay [1, 2, 23]
  all_goals (refine WC.loopG (X := Nat) (fun k => ([(24, In (k : Int))] : Fr)) [(1, _), (2, _), (23, _)] (fun k h' => Vm h' bV bC bS (.slice none 0 0) (.slice none 0 0) 16 (C0 16) 2 (S0 k) ∧ Ext No h2 h' ∧ k ≤ 2) (fun k => 2 - k) (0) ⟨rfl, rfl, rfl, rfl, trivial⟩ (by exact ⟨vm4, hx4, Nat.zero_le _⟩) ?_)
  all_goals (rintro j h6 ⟨vm6, hx6, hj⟩)
  all_goals (refine WC.sub [(24, _), (1, _), (2, _), (23, _)] ⟨rfl, rfl, rfl, rfl, trivial⟩ ?_)
  all_goals (refine WC.seq ?_)
  all_goals (refine WC.region ?_)
  all_goals (first | (refine WL.step (OkP.bool_t (by omega) (ok_lss rfl rfl)) rfl rfl rfl ?_) | (refine WL.step (OkP.bool_f (by omega) (ok_lss rfl rfl)) rfl rfl rfl ?_) | (refine WL.step (ok_lss rfl rfl) rfl rfl rfl ?_))
  all_goals (refine WL.nil ?_)
  all_goals (repeat' (with_reducible first | refine thenP_n ?_ | refine blockP_n ?_))
  all_goals (refine WC.seq ?_)
  all_goals (first | refine WC.condB_t 3 rfl ?_ | refine WC.condB_f 4 rfl ?_ | (refine WC.condB 3 4 rfl (fun hb => ?_) (fun hb => ?_) <;> (first | replace hb := of_decide_eq_true hb | replace hb := of_decide_eq_false hb | replace hb := of_decide_eq_false (nt hb) | replace hb := of_decide_eq_true (nf hb) | skip)))
  all_goals (first
    | (fail_if_success (refine Br.mk (i := 3) ?_))
    | (refine Br.mk (i := 3) ?_
       all_goals (refine WC.skip ?_)
       skip))
  all_goals (first
    | (fail_if_success (refine Br.mk (i := 4) ?_))
    | (refine Br.mk (i := 4) ?_
       all_goals (refine WC.exit ?_)
       all_goals (repeat' (with_reducible first | refine thenP_x ?_ | refine blockP_miss rfl ?_ | refine blockP_hit ?_ | refine blockP_n ?_ | refine thenP_n ?_))
       all_goals (refine Br.out (i := 1002) ?_)
       skip))
  all_goals (first | (refine Br.keep ?_) | (repeat' (with_reducible first | refine thenP_n ?_ | refine blockP_n ?_)))
  all_goals (first | (refine Br.keep ?_) | (refine WC.seq ?_))
  all_goals (first | (refine Br.keep ?_) | (refine WC.block ?_))
  all_goals (first | (refine Br.keep ?_) | (refine WC.seq ?_))
  all_goals (first | (refine Br.keep ?_) | (refine WC.region ?_))
  all_goals (first | (refine Br.keep ?_) | (refine WL.step (ok_move rfl) rfl rfl rfl ?_))
  all_goals (first | (refine Br.keep ?_) | (refine WL.step (ok_assign rfl) rfl rfl rfl ?_))
  all_goals (first | (refine Br.keep ?_) | (refine WL.nil ?_))
  all_goals (first | (refine Br.keep ?_) | (repeat' (with_reducible first | refine thenP_n ?_ | refine blockP_n ?_)))
  all_goals (first | (refine Br.keep ?_) | (refine WC.region ?_))
  all_goals (first | (refine Br.keep ?_) | (refine WL.step (ok_fieldAddr rfl Tryd.underlying30 rfl (fun w => Tryd.sizeOf26 w)) rfl rfl rfl ?_))
  all_goals (first | (refine Br.keep ?_) | (refine WL.step (ok_load (fun w => Tryd.isAgg26 w) rfl (by first | exact cell_blk vm6.v rfl | assumption | exact cell_blk (by assumption) rfl)) rfl rfl rfl ?_))
  all_goals (first | (refine Br.keep ?_) | (refine WL.step (ok_move rfl) rfl rfl rfl ?_))
  all_goals (first | (refine Br.keep ?_) | (refine WL.step (ok_idxAddrA Tryd.underlying26 (fun w => Tryd.sizeOf32 w) rfl rfl rfl (by omega) (by first | rfl | assumption)) rfl rfl rfl ?_))
  all_goals (first | (refine Br.keep ?_) | (refine WL.step (ok_fieldAddr rfl Tryd.underlying32 rfl (fun w => Tryd.sizeOf3 w)) rfl rfl rfl ?_))
  all_goals (first
               | (refine Br.keep ?_)
               | (refine WL.stepR0 (okE_store (fun w => Tryd.sizeOf3 w) rfl rfl vm6.s (by rw [flat_length SV.len, vm6.ls]; show 0 + j * 6 + 1 < 2 * 6; omega) rfl rfl) rfl rfl ?_
                  rintro _ h7 ⟨hb7, hx7⟩))
  all_goals (first
               | (refine Br.keep ?_)
               | (have vm7 := vm6.setS (S' := S0 (j + 1)) hb7 (by rw [← S0_set (by omega : j < 2)]; simp) (fill_len (by omega)) hx7
                  have hx67 : Ext No h2 h7 := hx6.trans' hx7 (fun q hq e => by omega)))
  all_goals (first | (refine Br.keep ?_) | (refine WL.nil ?_))
  all_goals (first | (refine Br.keep ?_) | (repeat' (with_reducible first | refine thenP_n ?_ | refine blockP_n ?_)))
  all_goals (first | (refine Br.keep ?_) | (refine WC.sub [(1, _), (2, _), (23, _), (24, _)] ⟨rfl, rfl, rfl, rfl, trivial⟩ ?_))
  all_goals (first | (refine Br.keep ?_) | (refine WC.region ?_))
  all_goals (first | (refine Br.keep ?_) | (first | (refine WL.step (ok_addI rfl rfl (by omega)) rfl rfl rfl ?_) | (refine WL.step (ok_add rfl rfl) rfl rfl rfl ?_)))
  all_goals (first | (refine Br.keep ?_) | (refine WL.step (ok_move rfl) rfl rfl rfl ?_))
  all_goals (first | (refine Br.keep ?_) | (refine WL.nil ?_))
  all_goals (first | (refine Br.keep ?_) | (repeat' (with_reducible first | refine thenP_n ?_ | refine blockP_n ?_)))
  all_goals (first | (refine Br.keep ?_) | (exact ⟨j + 1, ⟨rfl, rfl, rfl, rfl, trivial⟩, (by exact ⟨vm7, hx67, by omega⟩), (by omega)⟩))
  all_goals (try (refine Br.mk (i := 1002) ?_))
  all_goals (repeat' (with_reducible first | refine thenP_n ?_ | refine blockP_n ?_))
  all_goals (refine WC.seq ?_)
  all_goals (refine WC.seq ?_)
  all_goals (refine WC.region ?_)
  all_goals (obtain rfl : j = 2 := by omega
             have hb26 := hx6.obj hb2 nos)
  all_goals (refine WL.step (ok_loadN (fun w => Tryd.isAgg24 w) (fun w => Tryd.sizeOf24 w) rfl rfl (by exact At.of_block hb26)) rfl rfl rfl ?_)
  all_goals (refine WL.step (ok_loadN (fun w => Tryd.isAgg30 w) (fun w => Tryd.sizeOf30 w) rfl rfl (by exact At.of_block vm6.v)) rfl rfl rfl ?_)
  all_goals (refine WL.call (vs := [_, _]) rfl (fun a w => Tryd.call8 a w) rfl (check_v (cfB (.slice A5 1 c5)) (vwOf bC bS (.slice none 0 0) (.slice none 0 0) 16 (C0 16) 2 (S0 2) []) (okb2.ext0 hx6) (vm6.ok (C0_ok 16) (S0_ok 2) (by decide) (by decide) (Rd.nil _ _) (by decide)) (few_vw (by decide) (by decide) (by decide) (C0_t 16) (S0_t 2)) (er.ext0 (hX2.trans hx6))) rfl rfl rfl ?_
             rintro _ h8 ⟨rfl, hx8⟩)
  all_goals (rw [au_base]
             have vm8 := vm6.ext hx8 nos nos nos)
  all_goals (first | (refine WL.step (OkP.nbool_t (by omega) (ok_neq rfl rfl)) rfl rfl rfl ?_) | (refine WL.step (OkP.nbool_f (by omega) (ok_neq rfl rfl)) rfl rfl rfl ?_) | (refine WL.step (ok_neq rfl rfl) rfl rfl rfl ?_))
  all_goals (refine WL.step (ok_move rfl) rfl rfl rfl ?_)
  all_goals (try ((fail_if_success (refine WL.part 37 (b := true) rfl (fun _ => ?_) (fun _ => ?_))); (fail_if_success (refine WL.part 37 (b := false) rfl (fun _ => ?_) (fun _ => ?_))); (refine WL.part 37 rfl (fun hb => ?_) (fun hb => ?_) <;> (first | replace hb := of_decide_eq_true hb | replace hb := of_decide_eq_false hb | replace hb := of_decide_eq_false (nt hb) | replace hb := of_decide_eq_true (nf hb) | skip))))
  all_goals (first | (refine WL.pass rfl rfl rfl ?_) | (refine WL.step (ok_loadN (fun w => Tryd.isAgg30 w) (fun w => Tryd.sizeOf30 w) rfl rfl (by exact At.of_block vm8.v)) rfl rfl rfl ?_))
  all_goals (first
               | (refine WL.pass rfl rfl rfl ?_)
               | (refine WL.call (vs := [_]) rfl (fun a w => Tryd.call10 a w) rfl (holders_v (vwOf bC bS (.slice none 0 0) (.slice none 0 0) 16 (C0 16) 2 (S0 2) []) (vm8.ok (C0_ok 16) (S0_ok 2) (by decide) (by decide) (Rd.nil _ _) (by decide))) rfl rfl rfl ?_
                  rintro _ h9 ⟨⟨r9, rfl, hr9⟩, hx9⟩))
  all_goals (obtain rfl := hr9.2 (hold_base (v := .nilIface))
             have vm9 := vm8.ext hx9 nos nos nos)
  all_goals (first | (refine WL.pass rfl rfl rfl ?_) | (refine WL.step (ok_not rfl) rfl rfl rfl ?_))
  all_goals (first | (refine WL.step (ok_pick_t rfl rfl) rfl rfl rfl ?_) | (refine WL.step (ok_pick_f rfl rfl) rfl rfl rfl ?_))
  all_goals (refine WL.nil ?_)
  all_goals (repeat' (with_reducible first | refine thenP_n ?_ | refine blockP_n ?_))
  all_goals (refine WC.sub [(1, _), (2, _), (41, _)] ⟨rfl, rfl, rfl, trivial⟩ ?_)
  all_goals (first | refine WC.condB_t 5 rfl ?_ | refine WC.condB_f 6 rfl ?_ | (refine WC.condB 5 6 rfl (fun hb => ?_) (fun hb => ?_) <;> (first | replace hb := of_decide_eq_true hb | replace hb := of_decide_eq_false hb | replace hb := of_decide_eq_false (nt hb) | replace hb := of_decide_eq_true (nf hb) | skip)))
  all_goals (first
    | (fail_if_success (refine Br.mk (i := 5) ?_))
    | (refine Br.mk (i := 5) ?_
       all_goals (refine WC.seq ?_)
       all_goals (refine WC.region ?_)
       all_goals (refine WL.step (ok_assign rfl) rfl rfl rfl ?_)
       all_goals (refine WL.nil ?_)
       all_goals (repeat' (with_reducible first | refine thenP_n ?_ | refine blockP_n ?_))
       all_goals (refine WC.ret ?_)
       all_goals (repeat' (with_reducible first | refine thenP_r ?_ | refine blockP_r ?_))
       all_goals (refine retP_1 _ ⟨rfl, trivial⟩ ?_)
       all_goals (exact ⟨rfl, hXB.trans (hx11.trans hx12)⟩)
       skip))
  all_goals (first
    | (fail_if_success (refine Br.mk (i := 6) ?_))
    | (refine Br.mk (i := 6) ?_
       all_goals (refine WC.skip ?_)
       skip))
  all_goals (repeat' (with_reducible first | refine thenP_n ?_ | refine blockP_n ?_))
  all_goals (refine WC.seq ?_)
  all_goals (refine WC.region ?_)
  all_goals (refine WL.step (ok_fieldAddr rfl Tryd.underlying30 rfl (fun w => Tryd.sizeOf25 w)) rfl rfl rfl ?_)
  all_goals (refine WL.step (ok_load (fun w => Tryd.isAgg25 w) rfl (by first | exact cell_blk vm9.v rfl | assumption | exact cell_blk (by assumption) rfl)) rfl rfl rfl ?_)
  all_goals (refine WL.step (ok_idxAddrA Tryd.underlying25 (fun w => Tryd.sizeOf42 w) rfl rfl rfl (by first | omega | (simp <;> omega)) (by first | rfl | assumption) (k := 1)) rfl rfl rfl ?_)
  all_goals (refine WL.step (ok_fieldAddr rfl Tryd.underlying42 rfl (fun w => Tryd.sizeOf3 w)) rfl rfl rfl ?_)
  all_goals (refine WL.stepR0 (okE_store (fun w => Tryd.sizeOf3 w) rfl rfl vm9.c (by rw [flat_length CV.len, vm9.lc]; decide) rfl rfl) rfl rfl ?_
             rintro _ h10 ⟨hb10, hx10⟩)
  all_goals (have vm10 := vm9.setC (C' := C1) hb10 (by rfl) rfl hx10)
  all_goals (refine WL.nil ?_)
  all_goals (repeat' (with_reducible first | refine thenP_n ?_ | refine blockP_n ?_))
  all_goals (refine WC.sub [(1, _), (2, _)] ⟨rfl, rfl, trivial⟩ ?_)
  all_goals (refine WC.seq ?_)
  all_goals (refine WC.drawH (fun h' => Ext (fun q => q = bS) h10 h') 9 10 rfl fol ?_)
  all_goals (refine WH.take 0 rfl (by kernel_rfl) (by kernel_rfl) (by kernel_rfl) (by kernel_rfl) rfl (by first | exact Ext.refl _ _ | assumption) (fun hq hC => ok_fieldAddr rfl Tryd.underlying30 rfl (fun w => Tryd.sizeOf26 w)) rfl rfl rfl ?_)
  all_goals (refine WH.take 1 rfl (by kernel_rfl) (by kernel_rfl) (by kernel_rfl) (by kernel_rfl) rfl (by first | exact Ext.refl _ _ | assumption) (fun hq hC => ok_load (fun w => Tryd.isAgg26 w) rfl (by first | exact hC.cell (by first | exact cell_blk vm10.v rfl | assumption | exact cell_blk (by assumption) rfl) vm10.ne.2.1)) rfl rfl rfl ?_)
  all_goals (refine WH.take 2 rfl (by kernel_rfl) (by kernel_rfl) (by kernel_rfl) (by kernel_rfl) rfl (by first | exact Ext.refl _ _ | assumption) (fun hq hC => ok_fieldAddr rfl Tryd.underlying30 rfl (fun w => Tryd.sizeOf26 w)) rfl rfl rfl ?_)
  all_goals (refine WH.take 3 rfl (by kernel_rfl) (by kernel_rfl) (by kernel_rfl) (by kernel_rfl) rfl (by first | exact Ext.refl _ _ | assumption) (fun hq hC => ok_load (fun w => Tryd.isAgg26 w) rfl (by first | exact hC.cell (by first | exact cell_blk vm10.v rfl | assumption | exact cell_blk (by assumption) rfl) vm10.ne.2.1)) rfl rfl rfl ?_)
  all_goals (refine WH.take 4 rfl (by kernel_rfl) (by kernel_rfl) (by kernel_rfl) (by kernel_rfl) rfl (by first | exact Ext.refl _ _ | assumption) (fun hq hC => ok_buildF (vs := [_, _]) (cs := [_, _, _, _, _, _]) (fun | [a0, a1] => [a0, a1, (.int .i64 0), (.int .u8 0), (.slice none 0 0), (.slice none 0 0)] | _ => []) rfl rfl (by kernel_rfl)) rfl rfl rfl ?_)
  all_goals (refine WH.take 5 rfl (by kernel_rfl) (by kernel_rfl) (by kernel_rfl) (by kernel_rfl) rfl (by first | exact Ext.refl _ _ | assumption) (fun hq hC => ok_buildF (vs := [_, _]) (cs := [_, _, _, _, _, _]) (fun | [a0, a1] => [a0, a1, (.int .i64 0), (.int .u8 0), (.slice none 0 0), (.slice none 0 0)] | _ => []) rfl rfl (by kernel_rfl)) rfl rfl rfl ?_)
  all_goals (refine WH.take 6 rfl (by kernel_rfl) (by kernel_rfl) (by kernel_rfl) (by kernel_rfl) rfl (by first | exact Ext.refl _ _ | assumption) (fun hq hC => ok_idxAddrA Tryd.underlying26 (fun w => Tryd.sizeOf32 w) rfl rfl rfl (by first | omega | (simp <;> omega)) (by first | rfl | assumption) (k := 0)) rfl rfl rfl ?_)
  all_goals (refine WH.one 7 (by kernel_rfl) ?_)
  all_goals (refine Comes1.run0 rfl (okE_storeN (fun w => Tryd.sizeOf32 w) rfl rfl rfl vm10.s (Nat.le_of_ble_eq_true rfl) (by simp [Value.oneCell'])) rfl rfl ?_ (fun _ => by kernel_rfl)
             rintro _ hA ⟨hbA, hxA⟩)
  all_goals (refine ⟨fun _ => hxA, ?_⟩)
  all_goals (have vmA := vm10.setS (S' := [svz 3 1 0, svz 0 (-1) 0]) hbA rfl rfl hxA)
  all_goals (refine WH.take 8 rfl (by kernel_rfl) (by kernel_rfl) (by kernel_rfl) (by kernel_rfl) rfl (by first | exact Ext.refl _ _ | assumption) (fun hq hC => ok_idxAddrA Tryd.underlying26 (fun w => Tryd.sizeOf32 w) rfl rfl rfl (by first | omega | (simp <;> omega)) (by first | rfl | assumption) (k := 1)) rfl rfl rfl ?_)
  all_goals (refine WH.one 9 (by kernel_rfl) ?_)
  all_goals (refine Comes1.run0 rfl (okE_storeN (fun w => Tryd.sizeOf32 w) rfl rfl rfl vmA.s (Nat.le_of_ble_eq_true rfl) (by simp [Value.oneCell'])) rfl rfl ?_ (fun _ => by kernel_rfl)
             rintro _ hB ⟨hbB, hxB⟩)
  all_goals (refine ⟨fun e => (by cases e), ?_⟩)
  all_goals (have vmB := vmA.setS (S' := S1) hbB rfl rfl hxB)
  all_goals (refine WH.done (by kernel_rfl) ?_)
  all_goals (repeat' (with_reducible first | refine thenP_n ?_ | refine blockP_n ?_))
  all_goals (refine WC.sub [(1, _), (2, _)] ⟨rfl, rfl, trivial⟩ ?_)
  all_goals (refine WC.seq ?_)
  all_goals (refine WC.region ?_)
  all_goals (have hX9 : Ext No h h9 := hX2.trans (hx6.trans (hx8.trans hx9))
             have hX10 : Ext No h h10 := hX9.trans' hx10 (fun q hq e => by omega)
             have hXB : Ext No h hB := hX10.trans' (hxA.trans hxB) (fun q hq e => by omega)
             have hx2B : Ext No h2 hB := ((hx6.trans (hx8.trans hx9)).trans' hx10 (fun q hq e => by omega)).trans' (hxA.trans hxB) (fun q hq e => by omega))
  all_goals (refine WL.step (ok_loadN (fun w => Tryd.isAgg24 w) (fun w => Tryd.sizeOf24 w) rfl rfl (by exact At.of_block (hx2B.obj hb2 nos))) rfl rfl rfl ?_)
  all_goals (refine WL.step (ok_loadN (fun w => Tryd.isAgg30 w) (fun w => Tryd.sizeOf30 w) rfl rfl (by exact At.of_block vmB.v)) rfl rfl rfl ?_)
  all_goals (refine WL.call (vs := [_, _]) rfl (fun a w => Tryd.call8 a w) rfl (check_v (cfB (.slice A5 1 c5)) (vwOf bC bS (.slice none 0 0) (.slice none 0 0) 16 C1 2 S1 []) (okb2.ext0 hx2B) (vmB.ok C1_ok S1_ok (by decide) (by decide) (Rd.nil _ _) (by decide)) (few_vw (by decide) (by decide) (by decide) C1_t S1_t) (er.ext0 hXB)) rfl rfl rfl ?_
             rintro _ h11 ⟨rfl, hx11⟩)
  all_goals (rw [au_two])
  all_goals (first | (refine WL.step (OkP.bool_t (by omega) (ok_eql rfl rfl)) rfl rfl rfl ?_) | (refine WL.step (OkP.bool_f (by omega) (ok_eql rfl rfl)) rfl rfl rfl ?_) | (refine WL.step (ok_eql rfl rfl) rfl rfl rfl ?_))
  all_goals (refine WL.step (ok_move rfl) rfl rfl rfl ?_)
  all_goals (try ((fail_if_success (refine WL.part 58 (b := true) rfl (fun _ => ?_) (fun _ => ?_))); (fail_if_success (refine WL.part 58 (b := false) rfl (fun _ => ?_) (fun _ => ?_))); (refine WL.part 58 rfl (fun hb => ?_) (fun hb => ?_) <;> (first | replace hb := of_decide_eq_true hb | replace hb := of_decide_eq_false hb | replace hb := of_decide_eq_false (nt hb) | replace hb := of_decide_eq_true (nf hb) | skip))))
  all_goals (first | (refine WL.pass rfl rfl rfl ?_) | (refine WL.step (ok_buildF (vs := [_, _]) (cs := [_, _, _, _, _, _]) (fun | [a0, a2] => [a0, (.int .i64 0), a2, (.int .u8 0), (.slice none 0 0), (.slice none 0 0)] | _ => []) rfl rfl (by kernel_rfl)) rfl rfl rfl ?_))
  all_goals (first
               | (refine WL.pass rfl rfl rfl ?_)
               | (refine WL.call (vs := [_]) rfl (fun a w => Tryd.call12 a w) rfl (idle_v (svz 2 0 1) (svz_ok _ _ _ _)) rfl rfl rfl ?_
                  rintro _ h12 ⟨rfl, hx12⟩))
  all_goals (rw [show idleB (svz 2 0 1) = false from rfl])
  all_goals (first | (refine WL.pass rfl rfl rfl ?_) | (refine WL.step (ok_not rfl) rfl rfl rfl ?_))
  all_goals (first | (refine WL.step (ok_pick_t rfl rfl) rfl rfl rfl ?_) | (refine WL.step (ok_pick_f rfl rfl) rfl rfl rfl ?_))
  all_goals (refine WL.step (ok_assign rfl) rfl rfl rfl ?_)
  all_goals (refine WL.nil ?_)
  all_goals (repeat' (with_reducible first | refine thenP_n ?_ | refine blockP_n ?_))
  all_goals (refine WC.sub [(0, _)] ⟨rfl, trivial⟩ ?_)
  all_goals (refine WC.ret ?_)
  all_goals (repeat' (with_reducible first | refine thenP_r ?_ | refine blockP_r ?_))
  all_goals (refine retP_1 _ ⟨rfl, trivial⟩ ?_)
  all_goals (exact ⟨rfl, hXB.trans (hx11.trans hx12)⟩)
end Go.Proofs.YtanbpffpllgekaaDoor

/-
  VIEWS AS ARGUMENTS: how a view, and what it is made of, is read as plain data.
-/
namespace Go.Proofs.YtanbpffpllgekaaDoor
open Go Go.RK

theorem opens_ints46 (w : World) : Opens Tryd.prog w 28 (fun p : Value × List Int => [p.1]) (fun p => Rd w.heap p.1 1 p.2.length (ints p.2) ∧ p.2.length ≤ maxLen) :=
  (opens_slice (sz := 1) (F := fun n : Int => [In n]) Tryd.underlying28 (by kernel_rfl) (by decide) (fun _ => rfl) (opens_int Tryd.underlying3)).map id (fun _ => rfl) fun p q => ⟨by have := q.1; rw [flat_one] at this; exact this, q.2.1⟩
theorem opens_nm (w : World) : Opens Tryd.prog w 110 nmC (fun _ => True) := by
  have h1 := opensF_cons (P := Tryd.prog) (w := w) (o := 1) (f := ⟨ "ID", 3, 1, false, "", "", 16⟩) rfl (opens_int Tryd.underlying3) (by kernel_rfl) (fun _ => rfl) opensF_nil
  have h2 := opensF_cons (P := Tryd.prog) (w := w) (o := 0) (f := ⟨ "Name", 9, 0, false, "", "", 0⟩) rfl (opens_string Tryd.underlying9) (by kernel_rfl) (fun _ => rfl) h1
  exact (opens_struct Tryd.underlying110 (by kernel_rfl) h2).map (fun p => ((p.1, p.2.1) : Nm)) (fun _ => rfl) (fun _ _ => trivial)
theorem opens_nms (w : World) : Opens Tryd.prog w 40 (fun p : Value × List Nm => [p.1]) (fun p => Rd w.heap p.1 2 p.2.length (p.2.flatMap nmC) ∧ p.2.length ≤ maxLen) :=
  (opens_slice Tryd.underlying40 (by kernel_rfl) (by decide) nmC_len (opens_nm w)).map id (fun _ => rfl) fun p q => ⟨q.1, q.2.1⟩
theorem opens_cn (w : World) : Opens Tryd.prog w 44 cnC (fun _ => True) := by
  have h1 := opensF_cons (P := Tryd.prog) (w := w) (o := 1) (f := ⟨ "Refs", 3, 1, false, "", "", 8⟩) rfl (opens_int Tryd.underlying3) (by kernel_rfl) (fun _ => rfl) opensF_nil
  have h2 := opensF_cons (P := Tryd.prog) (w := w) (o := 0) (f := ⟨ "ID", 3, 0, false, "", "", 0⟩) rfl (opens_int Tryd.underlying3) (by kernel_rfl) (fun _ => rfl) h1
  exact (opens_struct Tryd.underlying44 (by kernel_rfl) h2).map (fun p => ((p.1, p.2.1) : Cn)) (fun _ => rfl) (fun _ _ => trivial)
theorem opens_cns (w : World) : Opens Tryd.prog w 27 (fun p : Value × List Cn => [p.1]) (fun p => Rd w.heap p.1 2 p.2.length (p.2.flatMap cnC) ∧ p.2.length ≤ maxLen) :=
  (opens_slice Tryd.underlying27 (by kernel_rfl) (by decide) cnC_len (opens_cn w)).map id (fun _ => rfl) fun p q => ⟨q.1, q.2.1⟩
theorem opens_cv (w : World) : Opens Tryd.prog w 42 CV.cells (fun c => c.ok w.heap) := by
  have h1 := opensF_cons (P := Tryd.prog) (w := w) (o := 3) (f := ⟨ "Table", 40, 3, false, "", "", 24⟩) rfl (opens_nms w) (by kernel_rfl) (fun _ => rfl) opensF_nil
  have h2 := opensF_cons (P := Tryd.prog) (w := w) (o := 2) (f := ⟨ "Done", 3, 2, false, "", "", 16⟩) rfl (opens_int Tryd.underlying3) (by kernel_rfl) (fun _ => rfl) h1
  have h3 := opensF_cons (P := Tryd.prog) (w := w) (o := 1) (f := ⟨ "Server", 3, 1, false, "", "", 8⟩) rfl (opens_int Tryd.underlying3) (by kernel_rfl) (fun _ => rfl) h2
  have h4 := opensF_cons (P := Tryd.prog) (w := w) (o := 0) (f := ⟨ "Phase", 3, 0, false, "", "", 0⟩) rfl (opens_int Tryd.underlying3) (by kernel_rfl) (fun _ => rfl) h3
  exact (opens_struct Tryd.underlying42 (by kernel_rfl) h4).map (fun p => (⟨p.1, p.2.1, p.2.2.1, p.2.2.2.1.1, p.2.2.2.1.2⟩ : CV)) (fun _ => rfl) (fun p q => q.2.2.2.1)
theorem opens_cvs (w : World) : Opens Tryd.prog w 25 (fun p : Value × List CV => [p.1]) (fun p => Rd w.heap p.1 4 p.2.length (p.2.flatMap CV.cells) ∧ p.2.length ≤ maxLen ∧ ∀ c ∈ p.2, c.ok w.heap) :=
  (opens_slice Tryd.underlying25 (by kernel_rfl) (by decide) CV.len (opens_cv w)).map id (fun _ => rfl) fun p q => ⟨q.1, q.2.1, q.2.2.2.1⟩
theorem opens_sv (w : World) : Opens Tryd.prog w 32 SV.cells (fun c => c.ok w.heap) := by
  have h1 := opensF_cons (P := Tryd.prog) (w := w) (o := 5) (f := ⟨ "Pending", 28, 5, false, "", "", 56⟩) rfl (opens_ints46 w) (by kernel_rfl) (fun _ => rfl) opensF_nil
  have h2 := opensF_cons (P := Tryd.prog) (w := w) (o := 4) (f := ⟨ "Cache", 28, 4, false, "", "", 32⟩) rfl (opens_ints46 w) (by kernel_rfl) (fun _ => rfl) h1
  have h3 := opensF_cons (P := Tryd.prog) (w := w) (o := 3) (f := ⟨ "Status", 5, 3, false, "", "", 24⟩) rfl (opens_byte Tryd.underlying5) (by kernel_rfl) (fun _ => rfl) h2
  have h4 := opensF_cons (P := Tryd.prog) (w := w) (o := 2) (f := ⟨ "Queue", 3, 2, false, "", "", 16⟩) rfl (opens_int Tryd.underlying3) (by kernel_rfl) (fun _ => rfl) h3
  have h5 := opensF_cons (P := Tryd.prog) (w := w) (o := 1) (f := ⟨ "Holder", 3, 1, false, "", "", 8⟩) rfl (opens_int Tryd.underlying3) (by kernel_rfl) (fun _ => rfl) h4
  have h6 := opensF_cons (P := Tryd.prog) (w := w) (o := 0) (f := ⟨ "State", 3, 0, false, "", "", 0⟩) rfl (opens_int Tryd.underlying3) (by kernel_rfl) (fun _ => rfl) h5
  exact (opens_struct Tryd.underlying32 (by kernel_rfl) h6).map (fun p => (⟨p.1, p.2.1, p.2.2.1, p.2.2.2.1, p.2.2.2.2.1.1, p.2.2.2.2.1.2, p.2.2.2.2.2.1.1, p.2.2.2.2.2.1.2⟩ : SV)) (fun _ => rfl) (fun p q => ⟨q.2.2.2.2.1.1, q.2.2.2.2.1.2, q.2.2.2.2.2.1.1, q.2.2.2.2.2.1.2⟩)
theorem opens_svs (w : World) : Opens Tryd.prog w 26 (fun p : Value × List SV => [p.1]) (fun p => Rd w.heap p.1 6 p.2.length (p.2.flatMap SV.cells) ∧ p.2.length ≤ maxLen ∧ ∀ c ∈ p.2, c.ok w.heap) :=
  (opens_slice Tryd.underlying26 (by kernel_rfl) (by decide) SV.len (opens_sv w)).map id (fun _ => rfl) fun p q => ⟨q.1, q.2.1, q.2.2.2.1⟩
theorem opens_view (w : World) : Opens Tryd.prog w 30 VW.cells (fun V => V.ok w.heap) := by
  have h1 := opensF_cons (P := Tryd.prog) (w := w) (o := 3) (f := ⟨ "Waiting", 28, 3, false, "", "", 72⟩) rfl (opens_ints46 w) (by kernel_rfl) (fun _ => rfl) opensF_nil
  have h2 := opensF_cons (P := Tryd.prog) (w := w) (o := 2) (f := ⟨ "Registry", 27, 2, false, "", "", 48⟩) rfl (opens_cns w) (by kernel_rfl) (fun _ => rfl) h1
  have h3 := opensF_cons (P := Tryd.prog) (w := w) (o := 1) (f := ⟨ "Servers", 26, 1, false, "", "", 24⟩) rfl (opens_svs w) (by kernel_rfl) (fun _ => rfl) h2
  have h4 := opensF_cons (P := Tryd.prog) (w := w) (o := 0) (f := ⟨ "Clients", 25, 0, false, "", "", 0⟩) rfl (opens_cvs w) (by kernel_rfl) (fun _ => rfl) h3
  exact (opens_struct Tryd.underlying30 (by kernel_rfl) h4).map (fun p => (⟨p.1.1, p.1.2, p.2.1.1, p.2.1.2, p.2.2.1.1, p.2.2.1.2, p.2.2.2.1.1, p.2.2.2.1.2⟩ : VW)) (fun _ => rfl) (fun p q => ⟨q.1.1, q.1.2.1, q.1.2.2, q.2.1.1, q.2.1.2.1, q.2.1.2.2, q.2.2.1.1, q.2.2.1.2, q.2.2.2.1.1, q.2.2.2.1.2⟩)
end Go.Proofs.YtanbpffpllgekaaDoor

/-
  AUDIT (layer 47): settings as arguments; the library's one variable, as it is laid.
-/
namespace Go.Proofs.YtanbpffpllgekaaDoor
open Go Go.RK

theorem opens_prA (w : World) : Opens Tryd.prog w 59 prC (fun _ => True) := by
  have h1 := opensF_cons (P := Tryd.prog) (w := w) (o := 1) (f := ⟨ "Value", 9, 1, false, "", "", 16⟩) rfl (opens_string Tryd.underlying9) (by kernel_rfl) (fun _ => rfl) opensF_nil
  have h2 := opensF_cons (P := Tryd.prog) (w := w) (o := 0) (f := ⟨ "Name", 9, 0, false, "", "", 0⟩) rfl (opens_string Tryd.underlying9) (by kernel_rfl) (fun _ => rfl) h1
  exact (opens_struct Tryd.underlying59 (by kernel_rfl) h2).map (fun p => ((p.1, p.2.1) : Pr)) (fun _ => rfl) (fun _ _ => trivial)
theorem opens_prsA (w : World) : Opens Tryd.prog w 22 (fun p : Value × List Pr => [p.1]) (fun p => Rd w.heap p.1 2 p.2.length (p.2.flatMap prC) ∧ p.2.length ≤ maxLen) :=
  (opens_slice Tryd.underlying22 (by kernel_rfl) (by decide) prC_len (opens_prA w)).map id (fun _ => rfl) fun p q => ⟨q.1, q.2.1⟩
theorem opens_cfg (w : World) : Opens Tryd.prog w 24 Cf.cells (fun c => c.ok w.heap) := by
  have h1 := opensF_cons (P := Tryd.prog) (w := w) (o := 6) (f := ⟨ "Params", 22, 6, false, "", "", 48⟩) rfl (opens_prsA w) (by kernel_rfl) (fun _ => rfl) opensF_nil
  have h2 := opensF_cons (P := Tryd.prog) (w := w) (o := 5) (f := ⟨ "Queue", 3, 5, false, "", "", 40⟩) rfl (opens_int Tryd.underlying3) (by kernel_rfl) (fun _ => rfl) h1
  have h3 := opensF_cons (P := Tryd.prog) (w := w) (o := 4) (f := ⟨ "Buffer", 3, 4, false, "", "", 32⟩) rfl (opens_int Tryd.underlying3) (by kernel_rfl) (fun _ => rfl) h2
  have h4 := opensF_cons (P := Tryd.prog) (w := w) (o := 3) (f := ⟨ "Message", 3, 3, false, "", "", 24⟩) rfl (opens_int Tryd.underlying3) (by kernel_rfl) (fun _ => rfl) h3
  have h5 := opensF_cons (P := Tryd.prog) (w := w) (o := 2) (f := ⟨ "Table", 3, 2, false, "", "", 16⟩) rfl (opens_int Tryd.underlying3) (by kernel_rfl) (fun _ => rfl) h4
  have h6 := opensF_cons (P := Tryd.prog) (w := w) (o := 1) (f := ⟨ "Cache", 3, 1, false, "", "", 8⟩) rfl (opens_int Tryd.underlying3) (by kernel_rfl) (fun _ => rfl) h5
  have h7 := opensF_cons (P := Tryd.prog) (w := w) (o := 0) (f := ⟨ "Servers", 3, 0, false, "", "", 0⟩) rfl (opens_int Tryd.underlying3) (by kernel_rfl) (fun _ => rfl) h6
  exact (opens_struct Tryd.underlying24 (by kernel_rfl) h7).map (fun p => (⟨p.1, p.2.1, p.2.2.1, p.2.2.2.1, p.2.2.2.2.1, p.2.2.2.2.2.1, p.2.2.2.2.2.2.1.1, p.2.2.2.2.2.2.1.2⟩ : Cf)) (fun _ => rfl) (fun p q => ⟨q.2.2.2.2.2.2.1.1, q.2.2.2.2.2.2.1.2⟩)
theorem er_et : Tryd.prog.globalNamed "errors.errorType" = some 0 := by kernel_rfl
theorem er_rt : (Tryd.prog.cutTypes.find? (·.1 == "internal/reflectlite.rtype")).map (·.2) = some 92 := by kernel_rfl
theorem er_one : ((List.range 164).filter fun t => Tryd.prog.rowNamed t [101, 114, 114, 111, 114]) = [53] := by kernel_rfl
theorem er_size : Tryd.prog.types.size = 164 := by kernel_rfl
/-- What the laid variable gives a walk. -/
theorem er_laid {W : World} (h : laidMetH Tryd.prog Rows.auditChecksRow.laid W) : Er W.heap := by
  have h' : laidMet Tryd.prog [] W ∧ handlesMet Tryd.prog Rows.auditChecksRow.laid W := h
  obtain ⟨name, u, ty, e1, e2, e3, e4, e5⟩ := h'.2 _ (List.mem_singleton.2 rfl)
  have en : name = [101, 114, 114, 111, 114] := (Option.some.inj e1).symm
  subst en
  obtain rfl := Option.some.inj (er_rt.symm.trans e2)
  have hm : ty ∈ (List.range 164).filter fun t => Tryd.prog.rowNamed t [101, 114, 114, 111, 114] := List.mem_filter.2 ⟨List.mem_range.2 (by rw [← er_size]; exact e3), e4⟩
  rw [er_one] at hm
  obtain rfl := List.mem_singleton.1 hm
  have hh : typeHandle Tryd.prog 53 = .pointer (some ⟨2, 53, none⟩) := by kernel_rfl
  rw [hh] at e5
  have hc : W.cell? ⟨0, 0, none⟩ = some (.iface 92 (.agg #[.pointer (some ⟨2, 53, none⟩)])) := by simpa using World.var?_cell er_et e5 0
  intro j v hj
  rcases j with _ | j
  · simp only [List.getElem?_cons_zero, Option.some.injEq] at hj
    subst hj
    exact hc
  · simp at hj
/-- A world in which it is laid. -/
noncomputable def laidWorld (os : Os) : World :=
  let w0 := World.holding Tryd.prog os ⟨#[], #[], []⟩
  { w0 with heap := w0.heap.modify 0 fun
      | .cells _ t frozen => .cells #[.iface 92 (.agg #[.pointer (some ⟨2, 53, none⟩)])] t frozen
      | o => o }
theorem laidWorld_met (os : Os) (args : Array Value) : laidMetH Tryd.prog Rows.auditChecksRow.laid ((laidWorld os).forCall (fun _ _ => 0) ⟨#[], args, []⟩).memory :=
  laidMetH_of_parts (laidMet_nil _ _) (by kernel_rfl)
end Go.Proofs.YtanbpffpllgekaaDoor

