/-
  AuditEmpty holds: what has nothing may be, of any settings that may be.
-/
import Derived.Test.YtanbpffpllgekaaDoorPAuditEmpty4
import Derived.Test.YtanbpffpllgekaaDoorCards
import Derived.Test.YtanbpffpllgekaaDoorTie
import Derived.SevenTiedAt
namespace Go.Proofs.YtanbpffpllgekaaDoor
open Go Go.RK

def C2 (ph : Int) (k : Nat) : List CV := fillL 16 k (cvz ph (-1)) (cvz 0 0)
def S2 (n k : Nat) : List SV := fillL n k (svz 0 (-1) 0) (svz 0 0 0)
theorem C2_mem {ph : Int} {k : Nat} : ∀ c ∈ C2 ph k, c = cvz ph (-1) ∨ c = cvz 0 0 := fun c hc => (List.mem_append.1 hc).imp List.eq_of_mem_replicate List.eq_of_mem_replicate
theorem S2_mem {n k : Nat} : ∀ s ∈ S2 n k, s = svz 0 (-1) 0 ∨ s = svz 0 0 0 := fun c hc => (List.mem_append.1 hc).imp List.eq_of_mem_replicate List.eq_of_mem_replicate
theorem C2_ok {h : Heap} {ph : Int} {k : Nat} : ∀ c ∈ C2 ph k, c.ok h := fun c hc => by rcases C2_mem c hc with rfl | rfl <;> exact cvz_ok _ _ _
theorem S2_ok {h : Heap} {n k : Nat} : ∀ s ∈ S2 n k, s.ok h := fun c hc => by rcases S2_mem c hc with rfl | rfl <;> exact svz_ok _ _ _ _
theorem C2_t {ph : Int} {k : Nat} : ∀ c ∈ C2 ph k, c.t = [] := fun c hc => by rcases C2_mem c hc with rfl | rfl <;> rfl
theorem S2_t {n k : Nat} : ∀ s ∈ S2 n k, s.c = [] ∧ s.p = [] := fun c hc => by rcases S2_mem c hc with rfl | rfl <;> exact ⟨rfl, rfl⟩
theorem C2_all {ph : Int} : ∀ c ∈ C2 ph 16, c.sv = -1 ∧ c.t = [] := fun c hc => by
  rw [List.eq_of_mem_replicate (show c ∈ List.replicate 16 (cvz ph (-1)) by simpa [C2, fillL] using hc)]; exact ⟨rfl, rfl⟩
theorem S2_all {n : Nat} : ∀ s ∈ S2 n n, s.st = 0 ∧ s.ho = -1 ∧ s.qu = 0 ∧ s.c.length ≤ 1 := fun s hs => by
  rw [List.eq_of_mem_replicate (show s ∈ List.replicate n (svz 0 (-1) 0) by simpa [S2, fillL] using hs)]; exact ⟨rfl, rfl, rfl, Nat.zero_le _⟩
theorem C2_set {ph : Int} {k : Nat} (h : k < 16) : (((C2 ph k).flatMap CV.cells).set (0 + k * 4 + 1) (In (-1))).set (0 + k * 4 + 0) (In ph) = (C2 ph (k + 1)).flatMap CV.cells := by
  unfold C2
  simp only [Nat.zero_add]
  rw [flat_set (F := CV.cells) CV.len (x := In (-1)) (q := cvz 0 0) (q' := cvz 0 (-1)) (j := 1) (by decide) rfl (fill_get h)]
  rw [flat_set (F := CV.cells) CV.len (x := In ph) (q := cvz 0 (-1)) (q' := cvz ph (-1)) (j := 0) (by decide) rfl (by rw [List.getElem?_set_self (by rw [fill_len (by omega)]; exact h)])]
  rw [List.set_set, fill_set h]
theorem S2_set {n k : Nat} (h : k < n) : ((S2 n k).flatMap SV.cells).set (0 + k * 6 + 1) (In (-1)) = (S2 n (k + 1)).flatMap SV.cells := by
  unfold S2
  simp only [Nat.zero_add]
  rw [flat_set (F := SV.cells) SV.len (x := In (-1)) (q := svz 0 0 0) (q' := svz 0 (-1) 0) (j := 1) (by decide) rfl (fill_get h)]
  rw [fill_set h]
/-- A server whose cache has one statement. -/
def sv1 (v : Value) : SV := ⟨0, -1, 0, 0, v, [1], .slice none 0 0, []⟩
def S3 (n : Nat) (v : Value) : List SV := (S2 n n).set 0 (sv1 v)
theorem S3_mem {n : Nat} {v : Value} : ∀ s ∈ S3 n v, s = sv1 v ∨ s ∈ S2 n n := fun s hs => (List.mem_or_eq_of_mem_set hs).symm
theorem S3_set {n : Nat} {v : Value} (h : 0 < n) : ((S2 n n).flatMap SV.cells).set (0 + 0 * 6 + 4) v = (S3 n v).flatMap SV.cells := by
  unfold S3
  rw [← flat_set (F := SV.cells) SV.len (x := v) (q := svz 0 (-1) 0) (q' := sv1 v) (j := 4) (by decide) rfl (by unfold S2 fillL; rw [List.getElem?_append_left (by simpa using h), List.getElem?_replicate, if_pos h])]
theorem S3_ids {n : Nat} {v : Value} (h : 0 < n) : idsS (S3 n v) = [1] := by
  obtain ⟨m, rfl⟩ : ∃ m, n = m + 1 := ⟨n - 1, by omega⟩
  have e : S3 (m + 1) v = sv1 v :: List.replicate m (svz 0 (-1) 0) := by
    unfold S3 S2 fillL
    simp [List.replicate_succ]
  unfold idsS
  rw [e, List.flatMap_cons, List.flatMap_eq_nil_iff.2 (fun s hs => by rw [List.eq_of_mem_replicate hs]; rfl)]
  rfl
theorem few_bl {bC bS nC nS : Nat} {vr vw : Value} {C : List CV} {S : List SV} {R : List Cn} (h1 : C.length ≤ 40) (h2 : S.length ≤ 20) (h3 : R.length ≤ 100) (h4 : ∀ c ∈ C, c.t = []) (h5 : ∀ s ∈ S, s.c.length ≤ 1 ∧ s.p = []) : Few (vwOf bC bS vr vw nC C nS S R) :=
  ⟨h1, h2, h3, Nat.zero_le _, fun c hc => by rw [h4 c hc]; exact Nat.zero_le _, fun s hs => ⟨Nat.le_trans (h5 s hs).1 (by decide), by rw [(h5 s hs).2]; exact Nat.zero_le _⟩⟩
set_option maxHeartbeats 4000000 in
set_option maxRecDepth 100000 in
theorem empty_law {h : Heap} (c : Cf) (ph : Int) (oc : c.ok h) (er : Er h) : CallsH Tryd.prog 4 ⟨[.agg ⟨c.cells⟩, In ph]⟩ h fun u h' => u = .bool true ∧ Ext No h h' := by
  have kc := fun h' (hx : Ext No h h') => check35 c (oc.ext0 hx)
  rcases hlim : limB c with _ | _
  ·
    rw [hlim] at kc
    obtain ⟨A5, c5, e5, _⟩ := id oc.p
    unfold Cf.cells at *
    rw [e5] at kc ⊢
    rw [show errN false = In 1 from rfl] at kc
    refine calls [(0, _), (1, _)] Tryd.func4 rfl Tryd.ntmps4 rfl ⟨rfl, rfl, trivial⟩ ?_
    all_goals (refine WC.seq ?_)
    all_goals (refine WC.region ?_)
    all_goals (refine WL.stepR (okE_box rfl) rfl rfl rfl ?_
               rintro _ h1 ⟨b2, rfl, hg2, hb2, hx1⟩)
    all_goals (refine WL.step (ok_assign rfl) rfl rfl rfl ?_)
    all_goals (refine WL.nil ?_)
    all_goals (repeat' (with_reducible first | refine thenP_n ?_ | refine blockP_n ?_))
    all_goals (refine WC.seq ?_)
    all_goals (refine WC.seq ?_)
    all_goals (refine WC.region ?_)
    all_goals (refine WL.step (ok_loadN (fun w => Tryd.isAgg24 w) (fun w => Tryd.sizeOf24 w) rfl rfl (by exact At.of_block hb2)) rfl rfl rfl ?_)
    all_goals (refine WL.call (vs := [_]) rfl (fun a w => Tryd.call14 a w) rfl (kc _ hx1) rfl rfl rfl ?_
               rintro _ h2 ⟨rfl, hx2⟩)
    all_goals (first | (refine WL.step (OkP.nbool_t (by omega) (ok_neq rfl rfl)) rfl rfl rfl ?_) | (refine WL.step (OkP.nbool_f (by omega) (ok_neq rfl rfl)) rfl rfl rfl ?_) | (refine WL.step (ok_neq rfl rfl) rfl rfl rfl ?_))
    all_goals (refine WL.nil ?_)
    all_goals (repeat' (with_reducible first | refine thenP_n ?_ | refine blockP_n ?_))
    all_goals (refine WC.sub [(1, _), (2, _), (10, _)] ⟨rfl, rfl, rfl, trivial⟩ ?_)
    all_goals (first | refine WC.condB_t 1 rfl ?_ | refine WC.condB_f 2 rfl ?_ | (refine WC.condB 1 2 rfl (fun hb => ?_) (fun hb => ?_) <;> (first | replace hb := of_decide_eq_true hb | replace hb := of_decide_eq_false hb | replace hb := of_decide_eq_false (nt hb) | replace hb := of_decide_eq_true (nf hb) | skip)))
    all_goals (first
      | (fail_if_success (refine Br.mk (i := 1) ?_))
      | (refine Br.mk (i := 1) ?_
         all_goals (refine WC.seq ?_)
         all_goals (refine WC.region ?_)
         all_goals (refine WL.call (vs := []) rfl (fun a w => Tryd.call7 a w) rfl (awake47 (er.ext0 (hx1.trans hx2))) rfl rfl rfl ?_
                    rintro _ h3 ⟨rfl, hx3⟩)
         all_goals (refine WL.step (ok_assign rfl) rfl rfl rfl ?_)
         all_goals (refine WL.nil ?_)
         all_goals (repeat' (with_reducible first | refine thenP_n ?_ | refine blockP_n ?_))
         all_goals (refine WC.sub [(4, _)] ⟨rfl, trivial⟩ ?_)
         all_goals (refine WC.ret ?_)
         all_goals (repeat' (with_reducible first | refine thenP_r ?_ | refine blockP_r ?_))
         all_goals (refine retP_1 _ ⟨rfl, trivial⟩ ?_)
         all_goals (exact ⟨rfl, (hx1.trans hx2).trans hx3⟩)
         skip))
    all_goals (first
      | (fail_if_success (refine Br.mk (i := 2) ?_))
      | (refine Br.mk (i := 2) ?_
         all_goals (refine WC.skip ?_)
         skip))
    all_goals (repeat' (with_reducible first | refine thenP_n ?_ | refine blockP_n ?_))
    all_goals (refine WC.seq ?_)
    all_goals (refine WC.drawE fol (by kernel_rfl) ?_)
    all_goals (refine WL.stepR (okE_makeSlice 48 4 Tryd.underlying25 (show Tryd.prog.info? 42 = some Tryd.t42 by kernel_rfl) rfl rfl rfl rfl rfl (by omega) (by unfold maxLen; omega)) rfl rfl rfl ?_
               rintro _ h1 ⟨b1, zs1, rfl, hg1, hb1, hz1, _, hx1⟩)
    all_goals (refine WQ.stepE (ok_fieldAddr rfl Tryd.underlying24 rfl (fun w => Tryd.sizeOf3 w)) rfl rfl rfl ?_)
    all_goals (refine WQ.stepE (ok_load (fun w => Tryd.isAgg3 w) rfl (by first | assumption | exact cell_blk (by assumption) rfl)) rfl rfl rfl ?_)
    all_goals (refine WL.stepR (okE_makeSlice 80 6 Tryd.underlying26 (show Tryd.prog.info? 32 = some Tryd.t32 by kernel_rfl) rfl rfl rfl rfl rfl (by omega) (by unfold maxLen; omega)) rfl rfl rfl ?_
               rintro _ h1 ⟨b1, zs1, rfl, hg1, hb1, hz1, _, hx1⟩)
    all_goals (refine WQ.stepE (ok_buildF (vs := [_, _]) (cs := [_, _, _, _]) (fun | [a0, a1] => [a0, a1, (.slice none 0 0), (.slice none 0 0)] | _ => []) rfl rfl (by kernel_rfl)) rfl rfl rfl ?_)
    all_goals (refine WL.stepR (okE_alloc (fun w => Tryd.zeroValue30 w)) rfl rfl rfl ?_
               rintro _ h1 ⟨b1, rfl, hg1, hb1, hx1⟩)
    all_goals (refine WL.stepR0 (okE_storeW (fun w => Tryd.sizeOf30 w) rfl rfl rfl (by assumption) rfl (by simp [Value.oneCell'])) rfl rfl ?_
               rintro _ h1 ⟨hb1, hx1⟩)
    all_goals (refine WQ.nil ?_)
    all_goals (repeat' (with_reducible first | refine thenP_n ?_ | refine blockP_n ?_))
    all_goals (refine WC.sub [(1, _), (2, _), (5, _)] ⟨rfl, rfl, rfl, trivial⟩ ?_)
    all_goals (refine WC.seq ?_)
    all_goals (refine WC.seq ?_)
    all_goals (refine WC.region ?_)
    all_goals (refine WL.step (ok_fieldAddr rfl Tryd.underlying30 rfl (fun w => Tryd.sizeOf25 w)) rfl rfl rfl ?_)
    all_goals (refine WL.step (ok_load (fun w => Tryd.isAgg25 w) rfl (by first | assumption | exact cell_blk (by assumption) rfl)) rfl rfl rfl ?_)
    all_goals (refine WL.step (ok_lenL rfl Tryd.underlying25 rfl) rfl rfl rfl ?_)
    all_goals (refine WL.step (ok_move rfl) rfl rfl rfl ?_)
    all_goals (refine WL.nil ?_)
    all_goals (repeat' (with_reducible first | refine thenP_n ?_ | refine blockP_n ?_))
    all_goals (refine WC.block ?_)
    -- loop 0: slots that turn [20], that stay [1, 2, 5, 19]
    all_goals (refine WC.loopG (fun x => (None : Fr)) [(1, _), (2, _), (5, _), (19, _)] (None) (None) (None) ⟨rfl, rfl, rfl, rfl, rfl, trivial⟩ (by exact ⟨⟩) ?_)
    all_goals (rintro x h1 hI)
    all_goals (refine WC.sub [(20, _), (1, _), (2, _), (5, _), (19, _)] ⟨rfl, rfl, rfl, rfl, rfl, trivial⟩ ?_)
    all_goals (refine WC.seq ?_)
    all_goals (refine WC.region ?_)
    all_goals (first | (refine WL.step (OkP.bool_t (by omega) (ok_lss rfl rfl)) rfl rfl rfl ?_) | (refine WL.step (OkP.bool_f (by omega) (ok_lss rfl rfl)) rfl rfl rfl ?_) | (refine WL.step (ok_lss rfl rfl) rfl rfl rfl ?_))
    all_goals (refine WL.nil ?_)
    all_goals (repeat' (with_reducible first | refine thenP_n ?_ | refine blockP_n ?_))
    all_goals (refine WC.seq ?_)
    all_goals (first | refine WC.condB_t 3 rfl ?_ | refine WC.condB_f 4 rfl ?_ | (refine WC.condB 3 4 rfl (fun hb => ?_) (fun hb => ?_) <;> (first | replace hb := of_decide_eq_true hb | replace hb := of_decide_eq_false hb | replace hb := of_decide_eq_false (nt hb) | replace hb := of_decide_eq_true (nf hb) | skip)))
    all_goals (first
      | (fail_if_success (refine Br.mk (i := 3) ?_))
      | (refine Br.mk (i := 3) ?_
         all_goals (refine WC.skip ?_)
         skip))
    all_goals (first
      | (fail_if_success (refine Br.mk (i := 4) ?_))
      | (refine Br.mk (i := 4) ?_
         all_goals (refine WC.exit ?_)
         all_goals (repeat' (with_reducible first | refine thenP_x ?_ | refine blockP_miss rfl ?_ | refine blockP_hit ?_ | refine blockP_n ?_ | refine thenP_n ?_))
         all_goals (refine Br.out (i := 1000) ?_)
         skip))
    all_goals (first | (refine Br.keep ?_) | (repeat' (with_reducible first | refine thenP_n ?_ | refine blockP_n ?_)))
    all_goals (first | (refine Br.keep ?_) | (refine WC.seq ?_))
    all_goals (first | (refine Br.keep ?_) | (refine WC.block ?_))
    all_goals (first | (refine Br.keep ?_) | (refine WC.seq ?_))
    all_goals (first | (refine Br.keep ?_) | (refine WC.region ?_))
    all_goals (first | (refine Br.keep ?_) | (refine WL.step (ok_move rfl) rfl rfl rfl ?_))
    all_goals (first | (refine Br.keep ?_) | (refine WL.step (ok_assign rfl) rfl rfl rfl ?_))
    all_goals (first | (refine Br.keep ?_) | (refine WL.nil ?_))
    all_goals (first | (refine Br.keep ?_) | (repeat' (with_reducible first | refine thenP_n ?_ | refine blockP_n ?_)))
    all_goals (first | (refine Br.keep ?_) | (refine WC.drawE fol (by kernel_rfl) ?_))
    all_goals (first | (refine Br.keep ?_) | (refine WQ.stepE (ok_fieldAddr rfl Tryd.underlying30 rfl (fun w => Tryd.sizeOf25 w)) rfl rfl rfl ?_))
    all_goals (first | (refine Br.keep ?_) | (refine WQ.stepE (ok_load (fun w => Tryd.isAgg25 w) rfl (by first | assumption | exact cell_blk (by assumption) rfl)) rfl rfl rfl ?_))
    all_goals (first | (refine Br.keep ?_) | (refine WQ.stepE (ok_move rfl) rfl rfl rfl ?_))
    all_goals (first | (refine Br.keep ?_) | (refine WQ.stepE (ok_fieldAddr rfl Tryd.underlying30 rfl (fun w => Tryd.sizeOf25 w)) rfl rfl rfl ?_))
    all_goals (first | (refine Br.keep ?_) | (refine WQ.stepE (ok_load (fun w => Tryd.isAgg25 w) rfl (by first | assumption | exact cell_blk (by assumption) rfl)) rfl rfl rfl ?_))
    all_goals (first | (refine Br.keep ?_) | (refine WQ.stepE (ok_move rfl) rfl rfl rfl ?_))
    all_goals (first | (refine Br.keep ?_) | (refine WQ.stepE (ok_move rfl) rfl rfl rfl ?_))
    all_goals (first | (refine Br.keep ?_) | (refine WQ.stepE (ok_idxAddrA Tryd.underlying25 (fun w => Tryd.sizeOf42 w) rfl rfl rfl (by omega) (by first | rfl | assumption)) rfl rfl rfl ?_))
    all_goals (first | (refine Br.keep ?_) | (refine WQ.stepE (ok_fieldAddr rfl Tryd.underlying42 rfl (fun w => Tryd.sizeOf3 w)) rfl rfl rfl ?_))
    all_goals (first
                 | (refine Br.keep ?_)
                 | (refine WL.stepR0 (okE_store (fun w => Tryd.sizeOf3 w) rfl rfl (by assumption) (Nat.le_of_ble_eq_true rfl) rfl rfl) rfl rfl ?_
                    rintro _ h1 ⟨hb1, hx1⟩))
    all_goals (first | (refine Br.keep ?_) | (refine WQ.stepE (ok_idxAddrA Tryd.underlying25 (fun w => Tryd.sizeOf42 w) rfl rfl rfl (by omega) (by first | rfl | assumption)) rfl rfl rfl ?_))
    all_goals (first | (refine Br.keep ?_) | (refine WQ.stepE (ok_fieldAddr rfl Tryd.underlying42 rfl (fun w => Tryd.sizeOf3 w)) rfl rfl rfl ?_))
    all_goals (first
                 | (refine Br.keep ?_)
                 | (refine WL.stepR0 (okE_store (fun w => Tryd.sizeOf3 w) rfl rfl (by assumption) (Nat.le_of_ble_eq_true rfl) rfl rfl) rfl rfl ?_
                    rintro _ h1 ⟨hb1, hx1⟩))
    all_goals (first | (refine Br.keep ?_) | (refine WQ.nil ?_))
    all_goals (first | (refine Br.keep ?_) | (repeat' (with_reducible first | refine thenP_n ?_ | refine blockP_n ?_)))
    all_goals (first | (refine Br.keep ?_) | (refine WC.sub [(1, _), (2, _), (5, _), (19, _), (20, _)] ⟨rfl, rfl, rfl, rfl, rfl, trivial⟩ ?_))
    all_goals (first | (refine Br.keep ?_) | (refine WC.region ?_))
    all_goals (first | (refine Br.keep ?_) | (first | (refine WL.step (ok_addI rfl rfl (by omega)) rfl rfl rfl ?_) | (refine WL.step (ok_add rfl rfl) rfl rfl rfl ?_)))
    all_goals (first | (refine Br.keep ?_) | (refine WL.step (ok_move rfl) rfl rfl rfl ?_))
    all_goals (first | (refine Br.keep ?_) | (refine WL.nil ?_))
    all_goals (first | (refine Br.keep ?_) | (repeat' (with_reducible first | refine thenP_n ?_ | refine blockP_n ?_)))
    all_goals (first | (refine Br.keep ?_) | (exact ⟨None, ⟨rfl, rfl, rfl, rfl, rfl, trivial⟩, (by exact ⟨⟩), (by simp; omega)⟩))
    all_goals (try (refine Br.mk (i := 1000) ?_))
    all_goals (repeat' (with_reducible first | refine thenP_n ?_ | refine blockP_n ?_))
    all_goals (refine WC.sub [(2, _), (5, _)] ⟨rfl, rfl, trivial⟩ ?_)
    all_goals (refine WC.seq ?_)
    all_goals (refine WC.seq ?_)
    all_goals (refine WC.region ?_)
    all_goals (refine WL.step (ok_fieldAddr rfl Tryd.underlying30 rfl (fun w => Tryd.sizeOf26 w)) rfl rfl rfl ?_)
    all_goals (refine WL.step (ok_load (fun w => Tryd.isAgg26 w) rfl (by first | assumption | exact cell_blk (by assumption) rfl)) rfl rfl rfl ?_)
    all_goals (refine WL.step (ok_lenL rfl Tryd.underlying26 rfl) rfl rfl rfl ?_)
    all_goals (refine WL.step (ok_move rfl) rfl rfl rfl ?_)
    all_goals (refine WL.nil ?_)
    all_goals (repeat' (with_reducible first | refine thenP_n ?_ | refine blockP_n ?_))
    all_goals (refine WC.block ?_)
    -- loop 1: slots that turn [38], that stay [2, 5, 37]
    all_goals (refine WC.loopG (fun x => (None : Fr)) [(2, _), (5, _), (37, _)] (None) (None) (None) ⟨rfl, rfl, rfl, rfl, trivial⟩ (by exact ⟨⟩) ?_)
    all_goals (rintro x h1 hI)
    all_goals (refine WC.sub [(38, _), (2, _), (5, _), (37, _)] ⟨rfl, rfl, rfl, rfl, trivial⟩ ?_)
    all_goals (refine WC.seq ?_)
    all_goals (refine WC.region ?_)
    all_goals (first | (refine WL.step (OkP.bool_t (by omega) (ok_lss rfl rfl)) rfl rfl rfl ?_) | (refine WL.step (OkP.bool_f (by omega) (ok_lss rfl rfl)) rfl rfl rfl ?_) | (refine WL.step (ok_lss rfl rfl) rfl rfl rfl ?_))
    all_goals (refine WL.nil ?_)
    all_goals (repeat' (with_reducible first | refine thenP_n ?_ | refine blockP_n ?_))
    all_goals (refine WC.seq ?_)
    all_goals (first | refine WC.condB_t 5 rfl ?_ | refine WC.condB_f 6 rfl ?_ | (refine WC.condB 5 6 rfl (fun hb => ?_) (fun hb => ?_) <;> (first | replace hb := of_decide_eq_true hb | replace hb := of_decide_eq_false hb | replace hb := of_decide_eq_false (nt hb) | replace hb := of_decide_eq_true (nf hb) | skip)))
    all_goals (first
      | (fail_if_success (refine Br.mk (i := 5) ?_))
      | (refine Br.mk (i := 5) ?_
         all_goals (refine WC.skip ?_)
         skip))
    all_goals (first
      | (fail_if_success (refine Br.mk (i := 6) ?_))
      | (refine Br.mk (i := 6) ?_
         all_goals (refine WC.exit ?_)
         all_goals (repeat' (with_reducible first | refine thenP_x ?_ | refine blockP_miss rfl ?_ | refine blockP_hit ?_ | refine blockP_n ?_ | refine thenP_n ?_))
         all_goals (refine Br.out (i := 1002) ?_)
         skip))
    all_goals (first | (refine Br.keep ?_) | (repeat' (with_reducible first | refine thenP_n ?_ | refine blockP_n ?_)))
    all_goals (first | (refine Br.keep ?_) | (refine WC.seq ?_))
    all_goals (first | (refine Br.keep ?_) | (refine WC.block ?_))
    all_goals (first | (refine Br.keep ?_) | (refine WC.seq ?_))
    all_goals (first | (refine Br.keep ?_) | (refine WC.region ?_))
    all_goals (first | (refine Br.keep ?_) | (refine WL.step (ok_move rfl) rfl rfl rfl ?_))
    all_goals (first | (refine Br.keep ?_) | (refine WL.step (ok_assign rfl) rfl rfl rfl ?_))
    all_goals (first | (refine Br.keep ?_) | (refine WL.nil ?_))
    all_goals (first | (refine Br.keep ?_) | (repeat' (with_reducible first | refine thenP_n ?_ | refine blockP_n ?_)))
    all_goals (first | (refine Br.keep ?_) | (refine WC.region ?_))
    all_goals (first | (refine Br.keep ?_) | (refine WL.step (ok_fieldAddr rfl Tryd.underlying30 rfl (fun w => Tryd.sizeOf26 w)) rfl rfl rfl ?_))
    all_goals (first | (refine Br.keep ?_) | (refine WL.step (ok_load (fun w => Tryd.isAgg26 w) rfl (by first | assumption | exact cell_blk (by assumption) rfl)) rfl rfl rfl ?_))
    all_goals (first | (refine Br.keep ?_) | (refine WL.step (ok_move rfl) rfl rfl rfl ?_))
    all_goals (first | (refine Br.keep ?_) | (refine WL.step (ok_idxAddrA Tryd.underlying26 (fun w => Tryd.sizeOf32 w) rfl rfl rfl (by omega) (by first | rfl | assumption)) rfl rfl rfl ?_))
    all_goals (first | (refine Br.keep ?_) | (refine WL.step (ok_fieldAddr rfl Tryd.underlying32 rfl (fun w => Tryd.sizeOf3 w)) rfl rfl rfl ?_))
    all_goals (first
                 | (refine Br.keep ?_)
                 | (refine WL.stepR0 (okE_store (fun w => Tryd.sizeOf3 w) rfl rfl (by assumption) (Nat.le_of_ble_eq_true rfl) rfl rfl) rfl rfl ?_
                    rintro _ h1 ⟨hb1, hx1⟩))
    all_goals (first | (refine Br.keep ?_) | (refine WL.nil ?_))
    all_goals (first | (refine Br.keep ?_) | (repeat' (with_reducible first | refine thenP_n ?_ | refine blockP_n ?_)))
    all_goals (first | (refine Br.keep ?_) | (refine WC.sub [(2, _), (5, _), (37, _), (38, _)] ⟨rfl, rfl, rfl, rfl, trivial⟩ ?_))
    all_goals (first | (refine Br.keep ?_) | (refine WC.region ?_))
    all_goals (first | (refine Br.keep ?_) | (first | (refine WL.step (ok_addI rfl rfl (by omega)) rfl rfl rfl ?_) | (refine WL.step (ok_add rfl rfl) rfl rfl rfl ?_)))
    all_goals (first | (refine Br.keep ?_) | (refine WL.step (ok_move rfl) rfl rfl rfl ?_))
    all_goals (first | (refine Br.keep ?_) | (refine WL.nil ?_))
    all_goals (first | (refine Br.keep ?_) | (repeat' (with_reducible first | refine thenP_n ?_ | refine blockP_n ?_)))
    all_goals (first | (refine Br.keep ?_) | (exact ⟨None, ⟨rfl, rfl, rfl, rfl, trivial⟩, (by exact ⟨⟩), (by simp; omega)⟩))
    all_goals (try (refine Br.mk (i := 1002) ?_))
    all_goals (repeat' (with_reducible first | refine thenP_n ?_ | refine blockP_n ?_))
    all_goals (refine WC.seq ?_)
    all_goals (refine WC.seq ?_)
    all_goals (refine WC.region ?_)
    all_goals (refine WL.step (ok_loadN (fun w => Tryd.isAgg24 w) (fun w => Tryd.sizeOf24 w) rfl rfl (by assumption)) rfl rfl rfl ?_)
    all_goals (refine WL.step (ok_loadN (fun w => Tryd.isAgg30 w) (fun w => Tryd.sizeOf30 w) rfl rfl (by assumption)) rfl rfl rfl ?_)
    all_goals (fail "no contract for call of remuda/audit.Check at 14.2")
    all_goals (first | (refine WL.step (OkP.nbool_t (by omega) (ok_neq rfl rfl)) rfl rfl rfl ?_) | (refine WL.step (OkP.nbool_f (by omega) (ok_neq rfl rfl)) rfl rfl rfl ?_) | (refine WL.step (ok_neq rfl rfl) rfl rfl rfl ?_))
    all_goals (refine WL.nil ?_)
    all_goals (repeat' (with_reducible first | refine thenP_n ?_ | refine blockP_n ?_))
    all_goals (refine WC.sub [(2, _), (5, _), (50, _)] ⟨rfl, rfl, rfl, trivial⟩ ?_)
    all_goals (first | refine WC.condB_t 7 rfl ?_ | refine WC.condB_f 8 rfl ?_ | (refine WC.condB 7 8 rfl (fun hb => ?_) (fun hb => ?_) <;> (first | replace hb := of_decide_eq_true hb | replace hb := of_decide_eq_false hb | replace hb := of_decide_eq_false (nt hb) | replace hb := of_decide_eq_true (nf hb) | skip)))
    all_goals (first
      | (fail_if_success (refine Br.mk (i := 7) ?_))
      | (refine Br.mk (i := 7) ?_
         all_goals (refine WC.seq ?_)
         all_goals (refine WC.region ?_)
         all_goals (refine WL.step (ok_assign rfl) rfl rfl rfl ?_)
         all_goals (refine WL.nil ?_)
         all_goals (repeat' (with_reducible first | refine thenP_n ?_ | refine blockP_n ?_))
         all_goals (refine WC.ret ?_)
         all_goals (repeat' (with_reducible first | refine thenP_r ?_ | refine blockP_r ?_))
         all_goals (refine retP_1 _ ⟨rfl, trivial⟩ ?_)
         all_goals (exact ⟨rfl, (hx1.trans hx2).trans hx3⟩)
         skip))
    all_goals (first
      | (fail_if_success (refine Br.mk (i := 8) ?_))
      | (refine Br.mk (i := 8) ?_
         all_goals (refine WC.skip ?_)
         skip))
    all_goals (repeat' (with_reducible first | refine thenP_n ?_ | refine blockP_n ?_))
    all_goals (refine WC.seq ?_)
    all_goals (refine WC.region ?_)
    all_goals (refine WL.step (ok_buildF (vs := [_, _]) (cs := [_, _]) (fun | [a0, a1] => [a0, a1] | _ => []) rfl rfl (by kernel_rfl)) rfl rfl rfl ?_)
    all_goals (refine WL.stepR (okE_buildSlice (vs := [_]) (cs := [_, _]) (fun | [.agg ⟨[a0, a1]⟩] => [a0, a1] | _ => []) Tryd.underlying27 rfl rfl (by kernel_rfl)) rfl rfl rfl ?_
               rintro _ h1 ⟨b1, rfl, hg1, hb1, hx1⟩)
    all_goals (refine WL.step (ok_fieldAddr rfl Tryd.underlying30 rfl (fun w => Tryd.sizeOf27 w)) rfl rfl rfl ?_)
    all_goals (refine WL.stepR0 (okE_store (fun w => Tryd.sizeOf27 w) rfl rfl (by assumption) (Nat.le_of_ble_eq_true rfl) rfl rfl) rfl rfl ?_
               rintro _ h1 ⟨hb1, hx1⟩)
    all_goals (refine WL.nil ?_)
    all_goals (repeat' (with_reducible first | refine thenP_n ?_ | refine blockP_n ?_))
    all_goals (refine WC.sub [(2, _), (5, _)] ⟨rfl, rfl, trivial⟩ ?_)
    all_goals (refine WC.seq ?_)
    all_goals (refine WC.seq ?_)
    all_goals (refine WC.region ?_)
    all_goals (refine WL.step (ok_loadN (fun w => Tryd.isAgg24 w) (fun w => Tryd.sizeOf24 w) rfl rfl (by assumption)) rfl rfl rfl ?_)
    all_goals (refine WL.step (ok_loadN (fun w => Tryd.isAgg30 w) (fun w => Tryd.sizeOf30 w) rfl rfl (by assumption)) rfl rfl rfl ?_)
    all_goals (fail "no contract for call of remuda/audit.Check at 17.2")
    all_goals (first | (refine WL.step (OkP.nbool_t (by omega) (ok_neq rfl rfl)) rfl rfl rfl ?_) | (refine WL.step (OkP.nbool_f (by omega) (ok_neq rfl rfl)) rfl rfl rfl ?_) | (refine WL.step (ok_neq rfl rfl) rfl rfl rfl ?_))
    all_goals (refine WL.nil ?_)
    all_goals (repeat' (with_reducible first | refine thenP_n ?_ | refine blockP_n ?_))
    all_goals (first | refine WC.condB_t 9 rfl ?_ | refine WC.condB_f 10 rfl ?_ | (refine WC.condB 9 10 rfl (fun hb => ?_) (fun hb => ?_) <;> (first | replace hb := of_decide_eq_true hb | replace hb := of_decide_eq_false hb | replace hb := of_decide_eq_false (nt hb) | replace hb := of_decide_eq_true (nf hb) | skip)))
    all_goals (first
      | (fail_if_success (refine Br.mk (i := 9) ?_))
      | (refine Br.mk (i := 9) ?_
         all_goals (refine WC.seq ?_)
         all_goals (refine WC.region ?_)
         all_goals (refine WL.step (ok_assign rfl) rfl rfl rfl ?_)
         all_goals (refine WL.nil ?_)
         all_goals (repeat' (with_reducible first | refine thenP_n ?_ | refine blockP_n ?_))
         all_goals (refine WC.sub [(4, _)] ⟨rfl, trivial⟩ ?_)
         all_goals (refine WC.ret ?_)
         all_goals (repeat' (with_reducible first | refine thenP_r ?_ | refine blockP_r ?_))
         all_goals (refine retP_1 _ ⟨rfl, trivial⟩ ?_)
         all_goals (exact ⟨rfl, (hx1.trans hx2).trans hx3⟩)
         skip))
    all_goals (first
      | (fail_if_success (refine Br.mk (i := 10) ?_))
      | (refine Br.mk (i := 10) ?_
         all_goals (refine WC.skip ?_)
         skip))
    all_goals (repeat' (with_reducible first | refine thenP_n ?_ | refine blockP_n ?_))
    all_goals (refine WC.sub [(2, _), (5, _)] ⟨rfl, rfl, trivial⟩ ?_)
    all_goals (refine WC.seq ?_)
    all_goals (refine WC.region ?_)
    all_goals (refine WL.step (ok_fieldAddr rfl Tryd.underlying30 rfl (fun w => Tryd.sizeOf26 w)) rfl rfl rfl ?_)
    all_goals (refine WL.step (ok_load (fun w => Tryd.isAgg26 w) rfl (by first | assumption | exact cell_blk (by assumption) rfl)) rfl rfl rfl ?_)
    all_goals (refine WL.stepR (okE_buildSlice (vs := [_]) (cs := [_]) (fun | [a0] => [a0] | _ => []) Tryd.underlying28 rfl rfl (by kernel_rfl)) rfl rfl rfl ?_
               rintro _ h1 ⟨b1, rfl, hg1, hb1, hx1⟩)
    all_goals (refine WL.step (ok_idxAddrA Tryd.underlying26 (fun w => Tryd.sizeOf32 w) rfl rfl rfl (by first | omega | (simp <;> omega)) (by first | rfl | assumption) (k := 0)) rfl rfl rfl ?_)
    all_goals (refine WL.step (ok_fieldAddr rfl Tryd.underlying32 rfl (fun w => Tryd.sizeOf28 w)) rfl rfl rfl ?_)
    all_goals (refine WL.stepR0 (okE_store (fun w => Tryd.sizeOf28 w) rfl rfl (by assumption) (Nat.le_of_ble_eq_true rfl) rfl rfl) rfl rfl ?_
               rintro _ h1 ⟨hb1, hx1⟩)
    all_goals (refine WL.nil ?_)
    all_goals (repeat' (with_reducible first | refine thenP_n ?_ | refine blockP_n ?_))
    all_goals (refine WC.sub [(2, _), (5, _)] ⟨rfl, rfl, trivial⟩ ?_)
    all_goals (refine WC.seq ?_)
    all_goals (refine WC.drawE fol (by kernel_rfl) ?_)
    all_goals (refine WQ.stepE (ok_loadN (fun w => Tryd.isAgg24 w) (fun w => Tryd.sizeOf24 w) rfl rfl (by assumption)) rfl rfl rfl ?_)
    all_goals (refine WQ.stepE (ok_loadN (fun w => Tryd.isAgg30 w) (fun w => Tryd.sizeOf30 w) rfl rfl (by assumption)) rfl rfl rfl ?_)
    all_goals (fail "no contract for call of remuda/audit.Check at 20.2")
    all_goals (first | (refine WQ.stepE (OkP.bool_t (by omega) (ok_eql rfl rfl)) rfl rfl rfl ?_) | (refine WQ.stepE (OkP.bool_f (by omega) (ok_eql rfl rfl)) rfl rfl rfl ?_) | (refine WQ.stepE (ok_eql rfl rfl) rfl rfl rfl ?_))
    all_goals (refine WQ.stepE (ok_move rfl) rfl rfl rfl ?_)
    all_goals (try ((fail_if_success (refine WQ.part 67 (b := true) rfl (fun _ => ?_) (fun _ => ?_))); (fail_if_success (refine WQ.part 67 (b := false) rfl (fun _ => ?_) (fun _ => ?_))); (refine WQ.part 67 rfl (fun hb => ?_) (fun hb => ?_) <;> (first | replace hb := of_decide_eq_true hb | replace hb := of_decide_eq_false hb | replace hb := of_decide_eq_false (nt hb) | replace hb := of_decide_eq_true (nf hb) | skip))))
    all_goals (first | (refine WQ.pass rfl rfl rfl ?_) | (refine WQ.stepE (ok_loadN (fun w => Tryd.isAgg30 w) (fun w => Tryd.sizeOf30 w) rfl rfl (by assumption)) rfl rfl rfl ?_))
    all_goals (first | (refine WQ.pass rfl rfl rfl ?_) | (fail "no contract for call of remuda/view.Counted at 20.6"))
    all_goals (first | (refine WQ.pass rfl rfl rfl ?_) | (refine WQ.stepE (ok_fieldAddr rfl Tryd.underlying30 rfl (fun w => Tryd.sizeOf27 w)) rfl rfl rfl ?_))
    all_goals (first | (refine WQ.pass rfl rfl rfl ?_) | (refine WQ.stepE (ok_load (fun w => Tryd.isAgg27 w) rfl (by first | assumption | exact cell_blk (by assumption) rfl)) rfl rfl rfl ?_))
    all_goals (first | (refine WQ.pass rfl rfl rfl ?_) | (fail "no contract for call of remuda/remudaref46.Counts at 20.9"))
    all_goals (first | (refine WQ.stepE (ok_pick_t rfl rfl) rfl rfl rfl ?_) | (refine WQ.stepE (ok_pick_f rfl rfl) rfl rfl rfl ?_))
    all_goals (refine WQ.stepE (ok_move rfl) rfl rfl rfl ?_)
    all_goals (try ((fail_if_success (refine WQ.part 74 (b := true) rfl (fun _ => ?_) (fun _ => ?_))); (fail_if_success (refine WQ.part 74 (b := false) rfl (fun _ => ?_) (fun _ => ?_))); (refine WQ.part 74 rfl (fun hb => ?_) (fun hb => ?_) <;> (first | replace hb := of_decide_eq_true hb | replace hb := of_decide_eq_false hb | replace hb := of_decide_eq_false (nt hb) | replace hb := of_decide_eq_true (nf hb) | skip))))
    all_goals (first | (refine WQ.pass rfl rfl rfl ?_) | (fail "no contract for call of remuda/remudalaw47.awake at 20.12"))
    all_goals (first | (refine WQ.stepE (ok_pick_t rfl rfl) rfl rfl rfl ?_) | (refine WQ.stepE (ok_pick_f rfl rfl) rfl rfl rfl ?_))
    all_goals (refine WQ.stepE (ok_assign rfl) rfl rfl rfl ?_)
    all_goals (refine WQ.nil ?_)
    all_goals (repeat' (with_reducible first | refine thenP_n ?_ | refine blockP_n ?_))
    all_goals (refine WC.sub [(4, _)] ⟨rfl, trivial⟩ ?_)
    all_goals (refine WC.ret ?_)
    all_goals (repeat' (with_reducible first | refine thenP_r ?_ | refine blockP_r ?_))
    all_goals (refine retP_1 _ ⟨rfl, trivial⟩ ?_)
    all_goals (exact ⟨rfl, (hx1.trans hx2).trans hx3⟩)
  ·
    rw [hlim, show errN true = In 0 from rfl] at kc
    obtain ⟨l1, l2, _⟩ := lim_facts hlim
    obtain ⟨nS, hnS⟩ : ∃ n : Nat, c.sv = (n : Int) := ⟨c.sv.toNat, by omega⟩
    have hn1 : 1 ≤ nS := by omega
    have hn8 : nS ≤ 8 := by omega
    have hlim0 := hlim
    have kv := fun h' (hx : Ext No h h') V (ok : VW.ok h' V) f => check_v c V (oc.ext0 hx) ok f (er.ext0 hx)
    have b0 : ∀ bC bS, auR c (vwOf bC bS (.slice none 0 0) (.slice none 0 0) 16 (C2 ph 16) nS (S2 nS nS) []) = 0 := fun bC bS => by
      rw [au_blank hlim C2_all S2_all rfl (fill_len (Nat.le_refl 16)) (by rw [hnS]; exact congrArg Int.ofNat (fill_len (Nat.le_refl nS)))]
      rw [idsV_blank C2_t S2_t]; exact if_pos cnt_nil
    have b1 : ∀ bC bS vr, auR c (vwOf bC bS vr (.slice none 0 0) 16 (C2 ph 16) nS (S2 nS nS) [(1, 1)]) = 10 := fun bC bS vr => by
      rw [au_blank hlim C2_all S2_all rfl (fill_len (Nat.le_refl 16)) (by rw [hnS]; exact congrArg Int.ofNat (fill_len (Nat.le_refl nS)))]
      rw [idsV_blank C2_t S2_t]; exact if_neg cnt_no
    have i3 : ∀ bC bS vr v, idsV (vwOf bC bS vr (.slice none 0 0) 16 (C2 ph 16) nS (S3 nS v) [(1, 1)]) = [1] := fun bC bS vr v => by
      show idsC (C2 ph 16) ++ idsS (S3 nS v) = [1]
      rw [S3_ids (by omega)]
      unfold idsC
      rw [List.flatMap_eq_nil_iff.2 (fun x hx => by rw [C2_t x hx]; rfl)]
      rfl
    have hl3 : ∀ v, (S3 nS v).length = nS := fun v => by unfold S3; rw [List.length_set]; exact fill_len (Nat.le_refl nS)
    have a3 : ∀ v, ∀ s ∈ S3 nS v, s.st = 0 ∧ s.ho = -1 ∧ s.qu = 0 ∧ s.c.length ≤ 1 := fun v s hs => by
      rcases S3_mem s hs with rfl | hs
      · exact ⟨rfl, rfl, rfl, Nat.le_refl _⟩
      · exact S2_all s hs
    have b3 : ∀ bC bS vr v, auR c (vwOf bC bS vr (.slice none 0 0) 16 (C2 ph 16) nS (S3 nS v) [(1, 1)]) = 0 := fun bC bS vr v => by
      rw [au_blank hlim C2_all (a3 v) rfl (fill_len (Nat.le_refl 16)) (by rw [hnS]; exact congrArg Int.ofNat (hl3 v))]
      rw [i3]; exact if_pos cnt_one
    obtain ⟨A5, c5, e5, _⟩ := id oc.p
    unfold Cf.cells at *
    rw [e5, hnS] at kc kv
    rw [e5, hnS]
    have eC : (madeCells (Value.agg #[In 0, In 0, In 0, .slice none 0 0]).cells (16 * 4)).toList = (C2 ph 0).flatMap CV.cells := made_cv 16
    have eS : (madeCells (Value.agg #[In 0, In 0, In 0, .int .u8 0, .slice none 0 0, .slice none 0 0]).cells (nS * 6)).toList = (S2 nS 0).flatMap SV.cells := made_sv nS
    refine calls [(0, _), (1, _)] Tryd.func4 rfl Tryd.ntmps4 rfl ⟨rfl, rfl, trivial⟩ ?_
    all_goals (refine WC.seq ?_)
    all_goals (refine WC.region ?_)
    all_goals (refine WL.stepR (okE_box rfl) rfl rfl rfl ?_
               rintro _ h1 ⟨b2, rfl, hg2, hb2, hx1⟩)
    all_goals (refine WL.step (ok_assign rfl) rfl rfl rfl ?_)
    all_goals (refine WL.nil ?_)
    all_goals (repeat' (with_reducible first | refine thenP_n ?_ | refine blockP_n ?_))
    all_goals (refine WC.seq ?_)
    all_goals (refine WC.seq ?_)
    all_goals (refine WC.region ?_)
    all_goals (refine WL.step (ok_loadN (fun w => Tryd.isAgg24 w) (fun w => Tryd.sizeOf24 w) rfl rfl (by exact At.of_block hb2)) rfl rfl rfl ?_)
    all_goals (refine WL.call (vs := [_]) rfl (fun a w => Tryd.call14 a w) rfl (kc _ hx1) rfl rfl rfl ?_
               rintro _ h2 ⟨rfl, hx2⟩)
    all_goals (have hX2 := hx1.trans hx2
               have hb22 := hx2.obj hb2 nos
               have hX2s := hX2.size)
    all_goals (first | (refine WL.step (OkP.nbool_t (by omega) (ok_neq rfl rfl)) rfl rfl rfl ?_) | (refine WL.step (OkP.nbool_f (by omega) (ok_neq rfl rfl)) rfl rfl rfl ?_) | (refine WL.step (ok_neq rfl rfl) rfl rfl rfl ?_))
    all_goals (refine WL.nil ?_)
    all_goals (repeat' (with_reducible first | refine thenP_n ?_ | refine blockP_n ?_))
    all_goals (refine WC.sub [(1, _), (2, _), (10, _)] ⟨rfl, rfl, rfl, trivial⟩ ?_)
    all_goals (first | refine WC.condB_t 1 rfl ?_ | refine WC.condB_f 2 rfl ?_ | (refine WC.condB 1 2 rfl (fun hb => ?_) (fun hb => ?_) <;> (first | replace hb := of_decide_eq_true hb | replace hb := of_decide_eq_false hb | replace hb := of_decide_eq_false (nt hb) | replace hb := of_decide_eq_true (nf hb) | skip)))
    all_goals (first
      | (fail_if_success (refine Br.mk (i := 1) ?_))
      | (refine Br.mk (i := 1) ?_
         all_goals (refine WC.seq ?_)
         all_goals (refine WC.region ?_)
         all_goals (fail "no contract for call of remuda/remudalaw47.awake at 2.0")
         all_goals (refine WL.step (ok_assign rfl) rfl rfl rfl ?_)
         all_goals (refine WL.nil ?_)
         all_goals (repeat' (with_reducible first | refine thenP_n ?_ | refine blockP_n ?_))
         all_goals (refine WC.sub [(4, _)] ⟨rfl, trivial⟩ ?_)
         all_goals (refine WC.ret ?_)
         all_goals (repeat' (with_reducible first | refine thenP_r ?_ | refine blockP_r ?_))
         all_goals (refine retP_1 _ ⟨rfl, trivial⟩ ?_)
         all_goals (exact ⟨rfl, hX13.trans hY16⟩)
         skip))
    all_goals (first
      | (fail_if_success (refine Br.mk (i := 2) ?_))
      | (refine Br.mk (i := 2) ?_
         all_goals (refine WC.skip ?_)
         skip))
    all_goals (repeat' (with_reducible first | refine thenP_n ?_ | refine blockP_n ?_))
    refine WC.cut (X := Nat × Nat × Nat) (fun z => [(1, In ph), (2, .pointer (some ⟨b2, 0, none⟩)), (5, .pointer (some ⟨z.1, 0, none⟩))]) (fun z h' => Vm h' z.1 z.2.1 z.2.2 (.slice none 0 0) (.slice none 0 0) 16 (C2 ph 0) nS (S2 nS 0) ∧ Ext No h2 h' ∧ h2.size ≤ z.1 ∧ h2.size ≤ z.2.1 ∧ h2.size ≤ z.2.2) ?_ ?_
    ·
      all_goals (have hX := Ext.refl No h2)
      all_goals (refine WC.drawH (fun h' => Ext No h2 h') 6 7 rfl fol ?_)
      all_goals (refine WH.take 1 rfl (by kernel_rfl) (by kernel_rfl) (by kernel_rfl) (by kernel_rfl) rfl (by first | exact Ext.refl _ _ | assumption) (fun hq hC => ok_fieldAddr rfl Tryd.underlying24 rfl (fun w => Tryd.sizeOf3 w)) rfl rfl rfl ?_)
      all_goals (refine WH.take 2 rfl (by kernel_rfl) (by kernel_rfl) (by kernel_rfl) (by kernel_rfl) rfl (by first | exact Ext.refl _ _ | assumption) (fun hq hC => ok_load (fun w => Tryd.isAgg3 w) rfl (by first | exact hC.cell (by first | exact cell_blk hb22 rfl | assumption | exact cell_blk (by assumption) rfl) nos)) rfl rfl rfl ?_)
      all_goals (refine WH.three 0 3 5 (by kernel_rfl) (Br.out (i := 5012) ?_) (Br.out (i := 5013) ?_) (Br.out (i := 5014) ?_))
      all_goals (first
        | (fail_if_success (refine Br.mk (i := 5012) ?_))
        | (refine Br.mk (i := 5012) ?_
           all_goals (refine Comes1.run rfl (okE_makeSlice 48 4 Tryd.underlying25 (show Tryd.prog.info? 42 = some Tryd.t42 by kernel_rfl) rfl rfl rfl rfl rfl (by decide) (by decide)) rfl rfl rfl ?_ (fun _ => by kernel_rfl)
                      rintro _ hA ⟨bC, zC, rfl, hgC, hbC, _, heC, hxA⟩)
           all_goals (refine ⟨fun _ => hX.trans hxA, ?_⟩)
           all_goals (replace hgC := Nat.le_trans hX.size hgC
                      replace hX := hX.trans hxA
                      try replace hbS := hxA.obj hbS nos
                      try replace hbV := hxA.obj hbV nos)
           all_goals (refine WH.two 3 5 (by kernel_rfl) (Br.out (i := 5006) ?_) (Br.out (i := 5007) ?_))
           all_goals (first
             | (fail_if_success (refine Br.mk (i := 5006) ?_))
             | (refine Br.mk (i := 5006) ?_
                all_goals (refine Comes1.run rfl (okE_makeSlice 80 6 Tryd.underlying26 (show Tryd.prog.info? 32 = some Tryd.t32 by kernel_rfl) rfl rfl rfl rfl rfl (by omega) (by unfold maxLen; omega)) rfl rfl rfl ?_ (fun _ => by kernel_rfl)
                           rintro _ hB ⟨bS, zS, rfl, hgS, hbS, _, heS, hxB⟩)
                all_goals (refine ⟨fun _ => hX.trans hxB, ?_⟩)
                all_goals (replace hgS := Nat.le_trans hX.size hgS
                           replace hX := hX.trans hxB
                           try replace hbC := hxB.obj hbC nos
                           try replace hbV := hxB.obj hbV nos)
                all_goals (refine WH.take 4 rfl (by kernel_rfl) (by kernel_rfl) (by kernel_rfl) (by kernel_rfl) rfl (by first | exact Ext.refl _ _ | assumption) (fun hq hC => ok_buildF (vs := [_, _]) (cs := [_, _, _, _]) (fun | [a0, a1] => [a0, a1, (.slice none 0 0), (.slice none 0 0)] | _ => []) rfl rfl (by kernel_rfl)) rfl rfl rfl ?_)
                all_goals (refine WH.one 5 (by kernel_rfl) ?_)
                all_goals (refine Comes1.run rfl (okE_alloc (fun w => Tryd.zeroValue30 w)) rfl rfl rfl ?_ (fun _ => by kernel_rfl)
                           rintro _ hD ⟨bV, rfl, hgV, hbV, hxD⟩)
                all_goals (refine ⟨fun _ => hX.trans hxD, ?_⟩)
                all_goals (replace hgV := Nat.le_trans hX.size hgV
                           replace hX := hX.trans hxD
                           try replace hbC := hxD.obj hbC nos
                           try replace hbS := hxD.obj hbS nos)
                all_goals (refine WH.one 6 (by kernel_rfl) ?_)
                all_goals (refine Comes1.run0 rfl (okE_storeW (fun w => Tryd.sizeOf30 w) rfl rfl rfl hbV rfl (by simp [Value.oneCell'])) rfl rfl ?_ (fun _ => by kernel_rfl)
                           rintro _ hE ⟨hbE, hxE⟩)
                all_goals (refine ⟨fun e => (by cases e), ?_⟩)
                all_goals (have nVC : ¬ bC = bV := fun e => by rw [e, hbV] at hbC; simp at hbC
                           have nVS : ¬ bS = bV := fun e => by rw [e, hbV] at hbS; simp at hbS)
                all_goals (refine WH.done (by kernel_rfl) ?_)
                skip))
           all_goals (first
             | (fail_if_success (refine Br.mk (i := 5007) ?_))
             | (refine Br.mk (i := 5007) ?_
                all_goals (refine Comes1.run rfl (okE_alloc (fun w => Tryd.zeroValue30 w)) rfl rfl rfl ?_ (fun _ => by kernel_rfl)
                           rintro _ hD ⟨bV, rfl, hgV, hbV, hxD⟩)
                all_goals (refine ⟨fun _ => hX.trans hxD, ?_⟩)
                all_goals (replace hgV := Nat.le_trans hX.size hgV
                           replace hX := hX.trans hxD
                           try replace hbC := hxD.obj hbC nos
                           try replace hbS := hxD.obj hbS nos)
                all_goals (refine WH.one 3 (by kernel_rfl) ?_)
                all_goals (refine Comes1.run rfl (okE_makeSlice 80 6 Tryd.underlying26 (show Tryd.prog.info? 32 = some Tryd.t32 by kernel_rfl) rfl rfl rfl rfl rfl (by omega) (by unfold maxLen; omega)) rfl rfl rfl ?_ (fun _ => by kernel_rfl)
                           rintro _ hB ⟨bS, zS, rfl, hgS, hbS, _, heS, hxB⟩)
                all_goals (refine ⟨fun _ => hX.trans hxB, ?_⟩)
                all_goals (replace hgS := Nat.le_trans hX.size hgS
                           replace hX := hX.trans hxB
                           try replace hbC := hxB.obj hbC nos
                           try replace hbV := hxB.obj hbV nos)
                all_goals (refine WH.take 4 rfl (by kernel_rfl) (by kernel_rfl) (by kernel_rfl) (by kernel_rfl) rfl (by first | exact Ext.refl _ _ | assumption) (fun hq hC => ok_buildF (vs := [_, _]) (cs := [_, _, _, _]) (fun | [a0, a1] => [a0, a1, (.slice none 0 0), (.slice none 0 0)] | _ => []) rfl rfl (by kernel_rfl)) rfl rfl rfl ?_)
                all_goals (refine WH.one 6 (by kernel_rfl) ?_)
                all_goals (refine Comes1.run0 rfl (okE_storeW (fun w => Tryd.sizeOf30 w) rfl rfl rfl hbV rfl (by simp [Value.oneCell'])) rfl rfl ?_ (fun _ => by kernel_rfl)
                           rintro _ hE ⟨hbE, hxE⟩)
                all_goals (refine ⟨fun e => (by cases e), ?_⟩)
                all_goals (have nVC : ¬ bC = bV := fun e => by rw [e, hbV] at hbC; simp at hbC
                           have nVS : ¬ bS = bV := fun e => by rw [e, hbV] at hbS; simp at hbS)
                all_goals (refine WH.done (by kernel_rfl) ?_)
                skip))
           skip))
      all_goals (first
        | (fail_if_success (refine Br.mk (i := 5013) ?_))
        | (refine Br.mk (i := 5013) ?_
           all_goals (refine Comes1.run rfl (okE_makeSlice 80 6 Tryd.underlying26 (show Tryd.prog.info? 32 = some Tryd.t32 by kernel_rfl) rfl rfl rfl rfl rfl (by omega) (by unfold maxLen; omega)) rfl rfl rfl ?_ (fun _ => by kernel_rfl)
                      rintro _ hB ⟨bS, zS, rfl, hgS, hbS, _, heS, hxB⟩)
           all_goals (refine ⟨fun _ => hX.trans hxB, ?_⟩)
           all_goals (replace hgS := Nat.le_trans hX.size hgS
                      replace hX := hX.trans hxB
                      try replace hbC := hxB.obj hbC nos
                      try replace hbV := hxB.obj hbV nos)
           all_goals (refine WH.two 0 5 (by kernel_rfl) (Br.out (i := 5009) ?_) (Br.out (i := 5010) ?_))
           all_goals (first
             | (fail_if_success (refine Br.mk (i := 5009) ?_))
             | (refine Br.mk (i := 5009) ?_
                all_goals (refine Comes1.run rfl (okE_makeSlice 48 4 Tryd.underlying25 (show Tryd.prog.info? 42 = some Tryd.t42 by kernel_rfl) rfl rfl rfl rfl rfl (by decide) (by decide)) rfl rfl rfl ?_ (fun _ => by kernel_rfl)
                           rintro _ hA ⟨bC, zC, rfl, hgC, hbC, _, heC, hxA⟩)
                all_goals (refine ⟨fun _ => hX.trans hxA, ?_⟩)
                all_goals (replace hgC := Nat.le_trans hX.size hgC
                           replace hX := hX.trans hxA
                           try replace hbS := hxA.obj hbS nos
                           try replace hbV := hxA.obj hbV nos)
                all_goals (refine WH.take 4 rfl (by kernel_rfl) (by kernel_rfl) (by kernel_rfl) (by kernel_rfl) rfl (by first | exact Ext.refl _ _ | assumption) (fun hq hC => ok_buildF (vs := [_, _]) (cs := [_, _, _, _]) (fun | [a0, a1] => [a0, a1, (.slice none 0 0), (.slice none 0 0)] | _ => []) rfl rfl (by kernel_rfl)) rfl rfl rfl ?_)
                all_goals (refine WH.one 5 (by kernel_rfl) ?_)
                all_goals (refine Comes1.run rfl (okE_alloc (fun w => Tryd.zeroValue30 w)) rfl rfl rfl ?_ (fun _ => by kernel_rfl)
                           rintro _ hD ⟨bV, rfl, hgV, hbV, hxD⟩)
                all_goals (refine ⟨fun _ => hX.trans hxD, ?_⟩)
                all_goals (replace hgV := Nat.le_trans hX.size hgV
                           replace hX := hX.trans hxD
                           try replace hbC := hxD.obj hbC nos
                           try replace hbS := hxD.obj hbS nos)
                all_goals (refine WH.one 6 (by kernel_rfl) ?_)
                all_goals (refine Comes1.run0 rfl (okE_storeW (fun w => Tryd.sizeOf30 w) rfl rfl rfl hbV rfl (by simp [Value.oneCell'])) rfl rfl ?_ (fun _ => by kernel_rfl)
                           rintro _ hE ⟨hbE, hxE⟩)
                all_goals (refine ⟨fun e => (by cases e), ?_⟩)
                all_goals (have nVC : ¬ bC = bV := fun e => by rw [e, hbV] at hbC; simp at hbC
                           have nVS : ¬ bS = bV := fun e => by rw [e, hbV] at hbS; simp at hbS)
                all_goals (refine WH.done (by kernel_rfl) ?_)
                skip))
           all_goals (first
             | (fail_if_success (refine Br.mk (i := 5010) ?_))
             | (refine Br.mk (i := 5010) ?_
                all_goals (refine Comes1.run rfl (okE_alloc (fun w => Tryd.zeroValue30 w)) rfl rfl rfl ?_ (fun _ => by kernel_rfl)
                           rintro _ hD ⟨bV, rfl, hgV, hbV, hxD⟩)
                all_goals (refine ⟨fun _ => hX.trans hxD, ?_⟩)
                all_goals (replace hgV := Nat.le_trans hX.size hgV
                           replace hX := hX.trans hxD
                           try replace hbC := hxD.obj hbC nos
                           try replace hbS := hxD.obj hbS nos)
                all_goals (refine WH.one 0 (by kernel_rfl) ?_)
                all_goals (refine Comes1.run rfl (okE_makeSlice 48 4 Tryd.underlying25 (show Tryd.prog.info? 42 = some Tryd.t42 by kernel_rfl) rfl rfl rfl rfl rfl (by decide) (by decide)) rfl rfl rfl ?_ (fun _ => by kernel_rfl)
                           rintro _ hA ⟨bC, zC, rfl, hgC, hbC, _, heC, hxA⟩)
                all_goals (refine ⟨fun _ => hX.trans hxA, ?_⟩)
                all_goals (replace hgC := Nat.le_trans hX.size hgC
                           replace hX := hX.trans hxA
                           try replace hbS := hxA.obj hbS nos
                           try replace hbV := hxA.obj hbV nos)
                all_goals (refine WH.take 4 rfl (by kernel_rfl) (by kernel_rfl) (by kernel_rfl) (by kernel_rfl) rfl (by first | exact Ext.refl _ _ | assumption) (fun hq hC => ok_buildF (vs := [_, _]) (cs := [_, _, _, _]) (fun | [a0, a1] => [a0, a1, (.slice none 0 0), (.slice none 0 0)] | _ => []) rfl rfl (by kernel_rfl)) rfl rfl rfl ?_)
                all_goals (refine WH.one 6 (by kernel_rfl) ?_)
                all_goals (refine Comes1.run0 rfl (okE_storeW (fun w => Tryd.sizeOf30 w) rfl rfl rfl hbV rfl (by simp [Value.oneCell'])) rfl rfl ?_ (fun _ => by kernel_rfl)
                           rintro _ hE ⟨hbE, hxE⟩)
                all_goals (refine ⟨fun e => (by cases e), ?_⟩)
                all_goals (have nVC : ¬ bC = bV := fun e => by rw [e, hbV] at hbC; simp at hbC
                           have nVS : ¬ bS = bV := fun e => by rw [e, hbV] at hbS; simp at hbS)
                all_goals (refine WH.done (by kernel_rfl) ?_)
                skip))
           skip))
      all_goals (first
        | (fail_if_success (refine Br.mk (i := 5014) ?_))
        | (refine Br.mk (i := 5014) ?_
           all_goals (refine Comes1.run rfl (okE_alloc (fun w => Tryd.zeroValue30 w)) rfl rfl rfl ?_ (fun _ => by kernel_rfl)
                      rintro _ hD ⟨bV, rfl, hgV, hbV, hxD⟩)
           all_goals (refine ⟨fun _ => hX.trans hxD, ?_⟩)
           all_goals (replace hgV := Nat.le_trans hX.size hgV
                      replace hX := hX.trans hxD
                      try replace hbC := hxD.obj hbC nos
                      try replace hbS := hxD.obj hbS nos)
           all_goals (refine WH.two 0 3 (by kernel_rfl) (Br.out (i := 5012) ?_) (Br.out (i := 5013) ?_))
           all_goals (first
             | (fail_if_success (refine Br.mk (i := 5012) ?_))
             | (refine Br.mk (i := 5012) ?_
                all_goals (refine Comes1.run rfl (okE_makeSlice 48 4 Tryd.underlying25 (show Tryd.prog.info? 42 = some Tryd.t42 by kernel_rfl) rfl rfl rfl rfl rfl (by decide) (by decide)) rfl rfl rfl ?_ (fun _ => by kernel_rfl)
                           rintro _ hA ⟨bC, zC, rfl, hgC, hbC, _, heC, hxA⟩)
                all_goals (refine ⟨fun _ => hX.trans hxA, ?_⟩)
                all_goals (replace hgC := Nat.le_trans hX.size hgC
                           replace hX := hX.trans hxA
                           try replace hbS := hxA.obj hbS nos
                           try replace hbV := hxA.obj hbV nos)
                all_goals (refine WH.one 3 (by kernel_rfl) ?_)
                all_goals (refine Comes1.run rfl (okE_makeSlice 80 6 Tryd.underlying26 (show Tryd.prog.info? 32 = some Tryd.t32 by kernel_rfl) rfl rfl rfl rfl rfl (by omega) (by unfold maxLen; omega)) rfl rfl rfl ?_ (fun _ => by kernel_rfl)
                           rintro _ hB ⟨bS, zS, rfl, hgS, hbS, _, heS, hxB⟩)
                all_goals (refine ⟨fun _ => hX.trans hxB, ?_⟩)
                all_goals (replace hgS := Nat.le_trans hX.size hgS
                           replace hX := hX.trans hxB
                           try replace hbC := hxB.obj hbC nos
                           try replace hbV := hxB.obj hbV nos)
                all_goals (refine WH.take 4 rfl (by kernel_rfl) (by kernel_rfl) (by kernel_rfl) (by kernel_rfl) rfl (by first | exact Ext.refl _ _ | assumption) (fun hq hC => ok_buildF (vs := [_, _]) (cs := [_, _, _, _]) (fun | [a0, a1] => [a0, a1, (.slice none 0 0), (.slice none 0 0)] | _ => []) rfl rfl (by kernel_rfl)) rfl rfl rfl ?_)
                all_goals (refine WH.one 6 (by kernel_rfl) ?_)
                all_goals (refine Comes1.run0 rfl (okE_storeW (fun w => Tryd.sizeOf30 w) rfl rfl rfl hbV rfl (by simp [Value.oneCell'])) rfl rfl ?_ (fun _ => by kernel_rfl)
                           rintro _ hE ⟨hbE, hxE⟩)
                all_goals (refine ⟨fun e => (by cases e), ?_⟩)
                all_goals (have nVC : ¬ bC = bV := fun e => by rw [e, hbV] at hbC; simp at hbC
                           have nVS : ¬ bS = bV := fun e => by rw [e, hbV] at hbS; simp at hbS)
                all_goals (refine WH.done (by kernel_rfl) ?_)
                skip))
           all_goals (first
             | (fail_if_success (refine Br.mk (i := 5013) ?_))
             | (refine Br.mk (i := 5013) ?_
                all_goals (refine Comes1.run rfl (okE_makeSlice 80 6 Tryd.underlying26 (show Tryd.prog.info? 32 = some Tryd.t32 by kernel_rfl) rfl rfl rfl rfl rfl (by omega) (by unfold maxLen; omega)) rfl rfl rfl ?_ (fun _ => by kernel_rfl)
                           rintro _ hB ⟨bS, zS, rfl, hgS, hbS, _, heS, hxB⟩)
                all_goals (refine ⟨fun _ => hX.trans hxB, ?_⟩)
                all_goals (replace hgS := Nat.le_trans hX.size hgS
                           replace hX := hX.trans hxB
                           try replace hbC := hxB.obj hbC nos
                           try replace hbV := hxB.obj hbV nos)
                all_goals (refine WH.one 0 (by kernel_rfl) ?_)
                all_goals (refine Comes1.run rfl (okE_makeSlice 48 4 Tryd.underlying25 (show Tryd.prog.info? 42 = some Tryd.t42 by kernel_rfl) rfl rfl rfl rfl rfl (by decide) (by decide)) rfl rfl rfl ?_ (fun _ => by kernel_rfl)
                           rintro _ hA ⟨bC, zC, rfl, hgC, hbC, _, heC, hxA⟩)
                all_goals (refine ⟨fun _ => hX.trans hxA, ?_⟩)
                all_goals (replace hgC := Nat.le_trans hX.size hgC
                           replace hX := hX.trans hxA
                           try replace hbS := hxA.obj hbS nos
                           try replace hbV := hxA.obj hbV nos)
                all_goals (refine WH.take 4 rfl (by kernel_rfl) (by kernel_rfl) (by kernel_rfl) (by kernel_rfl) rfl (by first | exact Ext.refl _ _ | assumption) (fun hq hC => ok_buildF (vs := [_, _]) (cs := [_, _, _, _]) (fun | [a0, a1] => [a0, a1, (.slice none 0 0), (.slice none 0 0)] | _ => []) rfl rfl (by kernel_rfl)) rfl rfl rfl ?_)
                all_goals (refine WH.one 6 (by kernel_rfl) ?_)
                all_goals (refine Comes1.run0 rfl (okE_storeW (fun w => Tryd.sizeOf30 w) rfl rfl rfl hbV rfl (by simp [Value.oneCell'])) rfl rfl ?_ (fun _ => by kernel_rfl)
                           rintro _ hE ⟨hbE, hxE⟩)
                all_goals (refine ⟨fun e => (by cases e), ?_⟩)
                all_goals (have nVC : ¬ bC = bV := fun e => by rw [e, hbV] at hbC; simp at hbC
                           have nVS : ¬ bS = bV := fun e => by rw [e, hbV] at hbS; simp at hbS)
                all_goals (refine WH.done (by kernel_rfl) ?_)
                skip))
           skip))
      all_goals (repeat' (with_reducible first | refine thenP_n ?_ | refine blockP_n ?_))
      all_goals (refine ⟨(bV, bC, bS), ⟨rfl, rfl, rfl, trivial⟩, ?_⟩)
      all_goals (exact ⟨⟨hbE, (heC.trans eC) ▸ hxE.obj hbC nVC, (heS.trans eS) ▸ hxE.obj hbS nVS, rfl, fill_len (Nat.zero_le _)⟩, hX.trans' hxE (fun q hq e => by omega), hgV, hgC, hgS⟩)
    rintro ⟨bV, bC, bS⟩ h3 ⟨vm3, hx3, gV, gC, gS⟩
    dsimp only at vm3 gV gC gS ⊢
    all_goals (refine WC.seq ?_)
    all_goals (refine WC.seq ?_)
    all_goals (refine WC.region ?_)
    all_goals (refine WL.step (ok_fieldAddr rfl Tryd.underlying30 rfl (fun w => Tryd.sizeOf25 w)) rfl rfl rfl ?_)
    all_goals (refine WL.step (ok_load (fun w => Tryd.isAgg25 w) rfl (by first | exact cell_blk vm3.v rfl | assumption | exact cell_blk (by assumption) rfl)) rfl rfl rfl ?_)
    all_goals (refine WL.step (ok_lenL rfl Tryd.underlying25 rfl) rfl rfl rfl ?_)
    all_goals (refine WL.step (ok_move rfl) rfl rfl rfl ?_)
    all_goals (refine WL.nil ?_)
    all_goals (repeat' (with_reducible first | refine thenP_n ?_ | refine blockP_n ?_))
    all_goals (refine WC.block ?_)
    -- loop 0: slots that turn [20], that stay [1, 2, 5, 19]
    all_goals (refine WC.loopG (X := Nat) (fun k => ([(20, In (k : Int))] : Fr)) [(1, _), (2, _), (5, _), (19, _)] (fun k h' => Vm h' bV bC bS (.slice none 0 0) (.slice none 0 0) 16 (C2 ph k) nS (S2 nS 0) ∧ Ext No h2 h' ∧ k ≤ 16) (fun k => 16 - k) (0) ⟨rfl, rfl, rfl, rfl, rfl, trivial⟩ (by exact ⟨vm3, hx3, Nat.zero_le _⟩) ?_)
    all_goals (rintro k h4 ⟨vm4, hx4, hk⟩)
    all_goals (refine WC.sub [(20, _), (1, _), (2, _), (5, _), (19, _)] ⟨rfl, rfl, rfl, rfl, rfl, trivial⟩ ?_)
    all_goals (refine WC.seq ?_)
    all_goals (refine WC.region ?_)
    all_goals (first | (refine WL.step (OkP.bool_t (by omega) (ok_lss rfl rfl)) rfl rfl rfl ?_) | (refine WL.step (OkP.bool_f (by omega) (ok_lss rfl rfl)) rfl rfl rfl ?_) | (refine WL.step (ok_lss rfl rfl) rfl rfl rfl ?_))
    all_goals (refine WL.nil ?_)
    all_goals (repeat' (with_reducible first | refine thenP_n ?_ | refine blockP_n ?_))
    all_goals (refine WC.seq ?_)
    all_goals (first | refine WC.condB_t 3 rfl ?_ | refine WC.condB_f 4 rfl ?_ | (refine WC.condB 3 4 rfl (fun hb => ?_) (fun hb => ?_) <;> (first | replace hb := of_decide_eq_true hb | replace hb := of_decide_eq_false hb | replace hb := of_decide_eq_false (nt hb) | replace hb := of_decide_eq_true (nf hb) | skip)))
    all_goals (first
      | (fail_if_success (refine Br.mk (i := 3) ?_))
      | (refine Br.mk (i := 3) ?_
         all_goals (refine WC.skip ?_)
         skip))
    all_goals (first
      | (fail_if_success (refine Br.mk (i := 4) ?_))
      | (refine Br.mk (i := 4) ?_
         all_goals (refine WC.exit ?_)
         all_goals (repeat' (with_reducible first | refine thenP_x ?_ | refine blockP_miss rfl ?_ | refine blockP_hit ?_ | refine blockP_n ?_ | refine thenP_n ?_))
         all_goals (refine Br.out (i := 1000) ?_)
         skip))
    all_goals (first | (refine Br.keep ?_) | (repeat' (with_reducible first | refine thenP_n ?_ | refine blockP_n ?_)))
    all_goals (first | (refine Br.keep ?_) | (refine WC.seq ?_))
    all_goals (first | (refine Br.keep ?_) | (refine WC.block ?_))
    all_goals (first | (refine Br.keep ?_) | (refine WC.seq ?_))
    all_goals (first | (refine Br.keep ?_) | (refine WC.region ?_))
    all_goals (first | (refine Br.keep ?_) | (refine WL.step (ok_move rfl) rfl rfl rfl ?_))
    all_goals (first | (refine Br.keep ?_) | (refine WL.step (ok_assign rfl) rfl rfl rfl ?_))
    all_goals (first | (refine Br.keep ?_) | (refine WL.nil ?_))
    all_goals (first | (refine Br.keep ?_) | (repeat' (with_reducible first | refine thenP_n ?_ | refine blockP_n ?_)))
    all_goals (first | (refine Br.keep ?_) | (refine WC.drawH (fun h' => Ext (fun q => q = bC) h4 h') 13 13 rfl fol ?_))
    all_goals (first | (refine Br.keep ?_) | (refine WH.take 0 rfl (by kernel_rfl) (by kernel_rfl) (by kernel_rfl) (by kernel_rfl) rfl (by first | exact Ext.refl _ _ | assumption) (fun hq hC => ok_fieldAddr rfl Tryd.underlying30 rfl (fun w => Tryd.sizeOf25 w)) rfl rfl rfl ?_))
    all_goals (first | (refine Br.keep ?_) | (refine WH.take 1 rfl (by kernel_rfl) (by kernel_rfl) (by kernel_rfl) (by kernel_rfl) rfl (by first | exact Ext.refl _ _ | assumption) (fun hq hC => ok_load (fun w => Tryd.isAgg25 w) rfl (by first | exact hC.cell (by first | exact cell_blk vm4.v rfl | assumption | exact cell_blk (by assumption) rfl) vm4.ne.1)) rfl rfl rfl ?_))
    all_goals (first | (refine Br.keep ?_) | (refine WH.take 2 rfl (by kernel_rfl) (by kernel_rfl) (by kernel_rfl) (by kernel_rfl) rfl (by first | exact Ext.refl _ _ | assumption) (fun hq hC => ok_move rfl) rfl rfl rfl ?_))
    all_goals (first | (refine Br.keep ?_) | (refine WH.take 3 rfl (by kernel_rfl) (by kernel_rfl) (by kernel_rfl) (by kernel_rfl) rfl (by first | exact Ext.refl _ _ | assumption) (fun hq hC => ok_fieldAddr rfl Tryd.underlying30 rfl (fun w => Tryd.sizeOf25 w)) rfl rfl rfl ?_))
    all_goals (first | (refine Br.keep ?_) | (refine WH.take 4 rfl (by kernel_rfl) (by kernel_rfl) (by kernel_rfl) (by kernel_rfl) rfl (by first | exact Ext.refl _ _ | assumption) (fun hq hC => ok_load (fun w => Tryd.isAgg25 w) rfl (by first | exact hC.cell (by first | exact cell_blk vm4.v rfl | assumption | exact cell_blk (by assumption) rfl) vm4.ne.1)) rfl rfl rfl ?_))
    all_goals (first | (refine Br.keep ?_) | (refine WH.take 5 rfl (by kernel_rfl) (by kernel_rfl) (by kernel_rfl) (by kernel_rfl) rfl (by first | exact Ext.refl _ _ | assumption) (fun hq hC => ok_move rfl) rfl rfl rfl ?_))
    all_goals (first | (refine Br.keep ?_) | (refine WH.take 6 rfl (by kernel_rfl) (by kernel_rfl) (by kernel_rfl) (by kernel_rfl) rfl (by first | exact Ext.refl _ _ | assumption) (fun hq hC => ok_move rfl) rfl rfl rfl ?_))
    all_goals (first | (refine Br.keep ?_) | (refine WH.take 7 rfl (by kernel_rfl) (by kernel_rfl) (by kernel_rfl) (by kernel_rfl) rfl (by first | exact Ext.refl _ _ | assumption) (fun hq hC => ok_idxAddrA Tryd.underlying25 (fun w => Tryd.sizeOf42 w) rfl rfl rfl (by omega) (by first | rfl | assumption)) rfl rfl rfl ?_))
    all_goals (first | (refine Br.keep ?_) | (refine WH.take 8 rfl (by kernel_rfl) (by kernel_rfl) (by kernel_rfl) (by kernel_rfl) rfl (by first | exact Ext.refl _ _ | assumption) (fun hq hC => ok_fieldAddr rfl Tryd.underlying42 rfl (fun w => Tryd.sizeOf3 w)) rfl rfl rfl ?_))
    all_goals (first | (refine Br.keep ?_) | (refine WH.one 9 (by kernel_rfl) ?_))
    all_goals (first
                 | (refine Br.keep ?_)
                 | (refine Comes1.run0 rfl (okE_store (fun w => Tryd.sizeOf3 w) rfl rfl vm4.c (by rw [flat_length CV.len, vm4.lc]; show 0 + k * 4 + 1 < 16 * 4; omega) rfl rfl) rfl rfl ?_ (fun _ => by kernel_rfl)
                    rintro _ h9 ⟨hb9, hx9⟩))
    all_goals (first | (refine Br.keep ?_) | (refine ⟨fun _ => hx9, ?_⟩))
    all_goals (first | (refine Br.keep ?_) | (refine WH.take 10 rfl (by kernel_rfl) (by kernel_rfl) (by kernel_rfl) (by kernel_rfl) rfl (by first | exact Ext.refl _ _ | assumption) (fun hq hC => ok_idxAddrA Tryd.underlying25 (fun w => Tryd.sizeOf42 w) rfl rfl rfl (by omega) (by first | rfl | assumption)) rfl rfl rfl ?_))
    all_goals (first | (refine Br.keep ?_) | (refine WH.take 11 rfl (by kernel_rfl) (by kernel_rfl) (by kernel_rfl) (by kernel_rfl) rfl (by first | exact Ext.refl _ _ | assumption) (fun hq hC => ok_fieldAddr rfl Tryd.underlying42 rfl (fun w => Tryd.sizeOf3 w)) rfl rfl rfl ?_))
    all_goals (first | (refine Br.keep ?_) | (refine WH.one 12 (by kernel_rfl) ?_))
    all_goals (first
                 | (refine Br.keep ?_)
                 | (refine Comes1.run0 rfl (okE_store (fun w => Tryd.sizeOf3 w) rfl rfl hb9 (by rw [List.length_set, flat_length CV.len, vm4.lc]; show 0 + k * 4 + 0 < 16 * 4; omega) rfl rfl) rfl rfl ?_ (fun _ => by kernel_rfl)
                    rintro _ h12 ⟨hb12, hx12⟩))
    all_goals (first | (refine Br.keep ?_) | (refine ⟨fun _ => hx9.trans hx12, ?_⟩))
    all_goals (first
                 | (refine Br.keep ?_)
                 | (have vm5 := vm4.setC (C' := C2 ph (k + 1)) hb12 (C2_set (by omega : k < 16)) (fill_len (by omega)) (hx9.trans hx12)
                    have hx45 : Ext No h2 h12 := hx4.trans' (hx9.trans hx12) (fun q hq e => by omega)))
    all_goals (first | (refine Br.keep ?_) | (refine WH.done (by kernel_rfl) ?_))
    all_goals (first | (refine Br.keep ?_) | (repeat' (with_reducible first | refine thenP_n ?_ | refine blockP_n ?_)))
    all_goals (first | (refine Br.keep ?_) | (refine WC.sub [(1, _), (2, _), (5, _), (19, _), (20, _)] ⟨rfl, rfl, rfl, rfl, rfl, trivial⟩ ?_))
    all_goals (first | (refine Br.keep ?_) | (refine WC.region ?_))
    all_goals (first | (refine Br.keep ?_) | (first | (refine WL.step (ok_addI rfl rfl (by omega)) rfl rfl rfl ?_) | (refine WL.step (ok_add rfl rfl) rfl rfl rfl ?_)))
    all_goals (first | (refine Br.keep ?_) | (refine WL.step (ok_move rfl) rfl rfl rfl ?_))
    all_goals (first | (refine Br.keep ?_) | (refine WL.nil ?_))
    all_goals (first | (refine Br.keep ?_) | (repeat' (with_reducible first | refine thenP_n ?_ | refine blockP_n ?_)))
    all_goals (first | (refine Br.keep ?_) | (exact ⟨k + 1, ⟨rfl, rfl, rfl, rfl, rfl, trivial⟩, (by exact ⟨vm5, hx45, by omega⟩), (by omega)⟩))
    all_goals (try (refine Br.mk (i := 1000) ?_))
    all_goals (repeat' (with_reducible first | refine thenP_n ?_ | refine blockP_n ?_))
    all_goals (refine WC.sub [(2, _), (5, _)] ⟨rfl, rfl, trivial⟩ ?_)
    all_goals (refine WC.seq ?_)
    all_goals (refine WC.seq ?_)
    all_goals (refine WC.region ?_)
    all_goals (obtain rfl : k = 16 := by omega)
    all_goals (refine WL.step (ok_fieldAddr rfl Tryd.underlying30 rfl (fun w => Tryd.sizeOf26 w)) rfl rfl rfl ?_)
    all_goals (refine WL.step (ok_load (fun w => Tryd.isAgg26 w) rfl (by first | exact cell_blk vm4.v rfl | assumption | exact cell_blk (by assumption) rfl)) rfl rfl rfl ?_)
    all_goals (refine WL.step (ok_lenL rfl Tryd.underlying26 rfl) rfl rfl rfl ?_)
    all_goals (refine WL.step (ok_move rfl) rfl rfl rfl ?_)
    all_goals (refine WL.nil ?_)
    all_goals (repeat' (with_reducible first | refine thenP_n ?_ | refine blockP_n ?_))
    all_goals (refine WC.block ?_)
    -- loop 1: slots that turn [38], that stay [2, 5, 37]
    all_goals (refine WC.loopG (X := Nat) (fun k => ([(38, In (k : Int))] : Fr)) [(2, _), (5, _), (37, _)] (fun k h' => Vm h' bV bC bS (.slice none 0 0) (.slice none 0 0) 16 (C2 ph 16) nS (S2 nS k) ∧ Ext No h2 h' ∧ k ≤ nS) (fun k => nS - k) (0) ⟨rfl, rfl, rfl, rfl, trivial⟩ (by exact ⟨vm4, hx4, Nat.zero_le _⟩) ?_)
    all_goals (rintro j h6 ⟨vm6, hx6, hj⟩)
    all_goals (refine WC.sub [(38, _), (2, _), (5, _), (37, _)] ⟨rfl, rfl, rfl, rfl, trivial⟩ ?_)
    all_goals (refine WC.seq ?_)
    all_goals (refine WC.region ?_)
    all_goals (first | (refine WL.step (OkP.bool_t (by omega) (ok_lss rfl rfl)) rfl rfl rfl ?_) | (refine WL.step (OkP.bool_f (by omega) (ok_lss rfl rfl)) rfl rfl rfl ?_) | (refine WL.step (ok_lss rfl rfl) rfl rfl rfl ?_))
    all_goals (refine WL.nil ?_)
    all_goals (repeat' (with_reducible first | refine thenP_n ?_ | refine blockP_n ?_))
    all_goals (refine WC.seq ?_)
    all_goals (first | refine WC.condB_t 5 rfl ?_ | refine WC.condB_f 6 rfl ?_ | (refine WC.condB 5 6 rfl (fun hb => ?_) (fun hb => ?_) <;> (first | replace hb := of_decide_eq_true hb | replace hb := of_decide_eq_false hb | replace hb := of_decide_eq_false (nt hb) | replace hb := of_decide_eq_true (nf hb) | skip)))
    all_goals (first
      | (fail_if_success (refine Br.mk (i := 5) ?_))
      | (refine Br.mk (i := 5) ?_
         all_goals (refine WC.skip ?_)
         skip))
    all_goals (first
      | (fail_if_success (refine Br.mk (i := 6) ?_))
      | (refine Br.mk (i := 6) ?_
         all_goals (refine WC.exit ?_)
         all_goals (repeat' (with_reducible first | refine thenP_x ?_ | refine blockP_miss rfl ?_ | refine blockP_hit ?_ | refine blockP_n ?_ | refine thenP_n ?_))
         all_goals (refine Br.out (i := 1002) ?_)
         skip))
    all_goals (first | (refine Br.keep ?_) | (repeat' (with_reducible first | refine thenP_n ?_ | refine blockP_n ?_)))
    all_goals (first | (refine Br.keep ?_) | (refine WC.seq ?_))
    all_goals (first | (refine Br.keep ?_) | (refine WC.block ?_))
    all_goals (first | (refine Br.keep ?_) | (refine WC.seq ?_))
    all_goals (first | (refine Br.keep ?_) | (refine WC.region ?_))
    all_goals (first | (refine Br.keep ?_) | (refine WL.step (ok_move rfl) rfl rfl rfl ?_))
    all_goals (first | (refine Br.keep ?_) | (refine WL.step (ok_assign rfl) rfl rfl rfl ?_))
    all_goals (first | (refine Br.keep ?_) | (refine WL.nil ?_))
    all_goals (first | (refine Br.keep ?_) | (repeat' (with_reducible first | refine thenP_n ?_ | refine blockP_n ?_)))
    all_goals (first | (refine Br.keep ?_) | (refine WC.region ?_))
    all_goals (first | (refine Br.keep ?_) | (refine WL.step (ok_fieldAddr rfl Tryd.underlying30 rfl (fun w => Tryd.sizeOf26 w)) rfl rfl rfl ?_))
    all_goals (first | (refine Br.keep ?_) | (refine WL.step (ok_load (fun w => Tryd.isAgg26 w) rfl (by first | exact cell_blk vm6.v rfl | assumption | exact cell_blk (by assumption) rfl)) rfl rfl rfl ?_))
    all_goals (first | (refine Br.keep ?_) | (refine WL.step (ok_move rfl) rfl rfl rfl ?_))
    all_goals (first | (refine Br.keep ?_) | (refine WL.step (ok_idxAddrA Tryd.underlying26 (fun w => Tryd.sizeOf32 w) rfl rfl rfl (by omega) (by first | rfl | assumption)) rfl rfl rfl ?_))
    all_goals (first | (refine Br.keep ?_) | (refine WL.step (ok_fieldAddr rfl Tryd.underlying32 rfl (fun w => Tryd.sizeOf3 w)) rfl rfl rfl ?_))
    all_goals (first
                 | (refine Br.keep ?_)
                 | (refine WL.stepR0 (okE_store (fun w => Tryd.sizeOf3 w) rfl rfl vm6.s (by rw [flat_length SV.len, vm6.ls]; show 0 + j * 6 + 1 < nS * 6; omega) rfl rfl) rfl rfl ?_
                    rintro _ h7 ⟨hb7, hx7⟩))
    all_goals (first
                 | (refine Br.keep ?_)
                 | (have vm7 := vm6.setS (S' := S2 nS (j + 1)) hb7 (S2_set (by omega : j < nS)) (fill_len (by omega)) hx7
                    have hx67 : Ext No h2 h7 := hx6.trans' hx7 (fun q hq e => by omega)))
    all_goals (first | (refine Br.keep ?_) | (refine WL.nil ?_))
    all_goals (first | (refine Br.keep ?_) | (repeat' (with_reducible first | refine thenP_n ?_ | refine blockP_n ?_)))
    all_goals (first | (refine Br.keep ?_) | (refine WC.sub [(2, _), (5, _), (37, _), (38, _)] ⟨rfl, rfl, rfl, rfl, trivial⟩ ?_))
    all_goals (first | (refine Br.keep ?_) | (refine WC.region ?_))
    all_goals (first | (refine Br.keep ?_) | (first | (refine WL.step (ok_addI rfl rfl (by omega)) rfl rfl rfl ?_) | (refine WL.step (ok_add rfl rfl) rfl rfl rfl ?_)))
    all_goals (first | (refine Br.keep ?_) | (refine WL.step (ok_move rfl) rfl rfl rfl ?_))
    all_goals (first | (refine Br.keep ?_) | (refine WL.nil ?_))
    all_goals (first | (refine Br.keep ?_) | (repeat' (with_reducible first | refine thenP_n ?_ | refine blockP_n ?_)))
    all_goals (first | (refine Br.keep ?_) | (exact ⟨j + 1, ⟨rfl, rfl, rfl, rfl, trivial⟩, (by exact ⟨vm7, hx67, by omega⟩), (by omega)⟩))
    all_goals (try (refine Br.mk (i := 1002) ?_))
    all_goals (repeat' (with_reducible first | refine thenP_n ?_ | refine blockP_n ?_))
    all_goals (refine WC.seq ?_)
    all_goals (refine WC.seq ?_)
    all_goals (refine WC.region ?_)
    all_goals (have hjn : j = nS := by omega
               rw [hjn] at vm6
               clear hjn hj
               have hX6 := hX2.trans hx6)
    all_goals (refine WL.step (ok_loadN (fun w => Tryd.isAgg24 w) (fun w => Tryd.sizeOf24 w) rfl rfl (by exact At.of_block (hx6.obj hb22 nos))) rfl rfl rfl ?_)
    all_goals (refine WL.step (ok_loadN (fun w => Tryd.isAgg30 w) (fun w => Tryd.sizeOf30 w) rfl rfl (by exact At.of_block vm6.v)) rfl rfl rfl ?_)
    all_goals (refine WL.call (vs := [_, _]) rfl (fun a w => Tryd.call8 a w) rfl (kv _ hX6 (vwOf bC bS (.slice none 0 0) (.slice none 0 0) 16 (C2 ph 16) nS (S2 nS nS) []) (vm6.ok C2_ok S2_ok (by decide) (by unfold maxLen; omega) (Rd.nil _ _) (by decide)) (few_bl (by rw [vm6.lc]; decide) (by rw [vm6.ls]; omega) (by decide) C2_t (fun s hs => ⟨(S2_all s hs).2.2.2, (S2_t s hs).2⟩))) rfl rfl rfl ?_
               rintro _ h8 ⟨rfl, hx8⟩)
    all_goals (rw [b0]
               have vm8 := vm6.ext hx8 nos nos nos
               have hX8 := hX6.trans hx8)
    all_goals (first | (refine WL.step (OkP.nbool_t (by omega) (ok_neq rfl rfl)) rfl rfl rfl ?_) | (refine WL.step (OkP.nbool_f (by omega) (ok_neq rfl rfl)) rfl rfl rfl ?_) | (refine WL.step (ok_neq rfl rfl) rfl rfl rfl ?_))
    all_goals (refine WL.nil ?_)
    all_goals (repeat' (with_reducible first | refine thenP_n ?_ | refine blockP_n ?_))
    all_goals (refine WC.sub [(2, _), (5, _), (50, _)] ⟨rfl, rfl, rfl, trivial⟩ ?_)
    all_goals (first | refine WC.condB_t 7 rfl ?_ | refine WC.condB_f 8 rfl ?_ | (refine WC.condB 7 8 rfl (fun hb => ?_) (fun hb => ?_) <;> (first | replace hb := of_decide_eq_true hb | replace hb := of_decide_eq_false hb | replace hb := of_decide_eq_false (nt hb) | replace hb := of_decide_eq_true (nf hb) | skip)))
    all_goals (first
      | (fail_if_success (refine Br.mk (i := 7) ?_))
      | (refine Br.mk (i := 7) ?_
         all_goals (refine WC.seq ?_)
         all_goals (refine WC.region ?_)
         all_goals (refine WL.step (ok_assign rfl) rfl rfl rfl ?_)
         all_goals (refine WL.nil ?_)
         all_goals (repeat' (with_reducible first | refine thenP_n ?_ | refine blockP_n ?_))
         all_goals (refine WC.ret ?_)
         all_goals (repeat' (with_reducible first | refine thenP_r ?_ | refine blockP_r ?_))
         all_goals (refine retP_1 _ ⟨rfl, trivial⟩ ?_)
         all_goals (exact ⟨rfl, hX13.trans hY16⟩)
         skip))
    all_goals (first
      | (fail_if_success (refine Br.mk (i := 8) ?_))
      | (refine Br.mk (i := 8) ?_
         all_goals (refine WC.skip ?_)
         skip))
    all_goals (repeat' (with_reducible first | refine thenP_n ?_ | refine blockP_n ?_))
    all_goals (refine WC.seq ?_)
    all_goals (refine WC.region ?_)
    all_goals (refine WL.step (ok_buildF (vs := [_, _]) (cs := [_, _]) (fun | [a0, a1] => [a0, a1] | _ => []) rfl rfl (by kernel_rfl)) rfl rfl rfl ?_)
    all_goals (refine WL.stepR (okE_buildSlice (vs := [_]) (cs := [_, _]) (fun | [.agg ⟨[a0, a1]⟩] => [a0, a1] | _ => []) Tryd.underlying27 rfl rfl (by kernel_rfl)) rfl rfl rfl ?_
               rintro _ h9 ⟨bR, rfl, hgR, hbR, hx9⟩)
    all_goals (have vm9 := vm8.ext hx9 nos nos nos
               have hX9 := hX8.trans hx9)
    all_goals (refine WL.step (ok_fieldAddr rfl Tryd.underlying30 rfl (fun w => Tryd.sizeOf27 w)) rfl rfl rfl ?_)
    all_goals (refine WL.stepR0 (okE_store (fun w => Tryd.sizeOf27 w) rfl rfl vm9.v (Nat.le_of_ble_eq_true rfl) rfl rfl) rfl rfl ?_
               rintro _ h10 ⟨hb10, hx10⟩)
    all_goals (have hlV := lt_of_some vm8.v
               have vm10 : Vm h10 bV bC bS (.slice (some ⟨bR, 0, none⟩) 1 1) (.slice none 0 0) 16 (C2 ph 16) nS (S2 nS nS) := ⟨hb10, hx10.obj vm9.c (fun e => vm9.ne.1 e.symm), hx10.obj vm9.s (fun e => vm9.ne.2.1 e.symm), vm9.lc, vm9.ls⟩
               have hbR10 := hx10.obj hbR (fun e => by omega)
               have hX10 : Ext No h h10 := hX9.trans' hx10 (fun q hq e => by omega)
               have hx2A : Ext No h2 h10 := ((hx6.trans hx8).trans hx9).trans' hx10 (fun q hq e => by omega))
    all_goals (refine WL.nil ?_)
    all_goals (repeat' (with_reducible first | refine thenP_n ?_ | refine blockP_n ?_))
    all_goals (refine WC.sub [(2, _), (5, _)] ⟨rfl, rfl, trivial⟩ ?_)
    all_goals (refine WC.seq ?_)
    all_goals (refine WC.seq ?_)
    all_goals (refine WC.region ?_)
    all_goals (refine WL.step (ok_loadN (fun w => Tryd.isAgg24 w) (fun w => Tryd.sizeOf24 w) rfl rfl (by exact At.of_block (hx2A.obj hb22 nos))) rfl rfl rfl ?_)
    all_goals (refine WL.step (ok_loadN (fun w => Tryd.isAgg30 w) (fun w => Tryd.sizeOf30 w) rfl rfl (by exact At.of_block vm10.v)) rfl rfl rfl ?_)
    all_goals (refine WL.call (vs := [_, _]) rfl (fun a w => Tryd.call8 a w) rfl (kv _ hX10 (vwOf bC bS (.slice (some ⟨bR, 0, none⟩) 1 1) (.slice none 0 0) 16 (C2 ph 16) nS (S2 nS nS) [(1, 1)]) (vm10.ok C2_ok S2_ok (by decide) (by unfold maxLen; omega) (rd_blk hbR10 rfl) (by decide)) (few_bl (by rw [vm10.lc]; decide) (by rw [vm10.ls]; omega) (by decide) C2_t (fun s hs => ⟨(S2_all s hs).2.2.2, (S2_t s hs).2⟩))) rfl rfl rfl ?_
               rintro _ h11 ⟨rfl, hx11⟩)
    all_goals (rw [b1]
               have vm11 := vm10.ext hx11 nos nos nos
               have hbR11 := hx11.obj hbR10 nos
               have hX11 := hX10.trans hx11
               have hx2B := hx2A.trans hx11)
    all_goals (first | (refine WL.step (OkP.nbool_t (by omega) (ok_neq rfl rfl)) rfl rfl rfl ?_) | (refine WL.step (OkP.nbool_f (by omega) (ok_neq rfl rfl)) rfl rfl rfl ?_) | (refine WL.step (ok_neq rfl rfl) rfl rfl rfl ?_))
    all_goals (refine WL.nil ?_)
    all_goals (repeat' (with_reducible first | refine thenP_n ?_ | refine blockP_n ?_))
    all_goals (first | refine WC.condB_t 9 rfl ?_ | refine WC.condB_f 10 rfl ?_ | (refine WC.condB 9 10 rfl (fun hb => ?_) (fun hb => ?_) <;> (first | replace hb := of_decide_eq_true hb | replace hb := of_decide_eq_false hb | replace hb := of_decide_eq_false (nt hb) | replace hb := of_decide_eq_true (nf hb) | skip)))
    all_goals (first
      | (fail_if_success (refine Br.mk (i := 9) ?_))
      | (refine Br.mk (i := 9) ?_
         all_goals (refine WC.seq ?_)
         all_goals (refine WC.region ?_)
         all_goals (refine WL.step (ok_assign rfl) rfl rfl rfl ?_)
         all_goals (refine WL.nil ?_)
         all_goals (repeat' (with_reducible first | refine thenP_n ?_ | refine blockP_n ?_))
         all_goals (refine WC.sub [(4, _)] ⟨rfl, trivial⟩ ?_)
         all_goals (refine WC.ret ?_)
         all_goals (repeat' (with_reducible first | refine thenP_r ?_ | refine blockP_r ?_))
         all_goals (refine retP_1 _ ⟨rfl, trivial⟩ ?_)
         all_goals (exact ⟨rfl, hX13.trans hY16⟩)
         skip))
    all_goals (first
      | (fail_if_success (refine Br.mk (i := 10) ?_))
      | (refine Br.mk (i := 10) ?_
         all_goals (refine WC.skip ?_)
         skip))
    all_goals (repeat' (with_reducible first | refine thenP_n ?_ | refine blockP_n ?_))
    all_goals (refine WC.sub [(2, _), (5, _)] ⟨rfl, rfl, trivial⟩ ?_)
    all_goals (refine WC.seq ?_)
    all_goals (refine WC.region ?_)
    all_goals (refine WL.step (ok_fieldAddr rfl Tryd.underlying30 rfl (fun w => Tryd.sizeOf26 w)) rfl rfl rfl ?_)
    all_goals (refine WL.step (ok_load (fun w => Tryd.isAgg26 w) rfl (by first | exact cell_blk vm11.v rfl | assumption | exact cell_blk (by assumption) rfl)) rfl rfl rfl ?_)
    all_goals (refine WL.stepR (okE_buildSlice (vs := [_]) (cs := [_]) (fun | [a0] => [a0] | _ => []) Tryd.underlying28 rfl rfl (by kernel_rfl)) rfl rfl rfl ?_
               rintro _ h12 ⟨bQ, rfl, hgQ, hbQ, hx12⟩)
    all_goals (have vm12 := vm11.ext hx12 nos nos nos
               have hbR12 := hx12.obj hbR11 nos
               have hX12 := hX11.trans hx12
               have hlS := lt_of_some vm11.s)
    all_goals (refine WL.step (ok_idxAddrA Tryd.underlying26 (fun w => Tryd.sizeOf32 w) rfl rfl rfl (by first | omega | (simp <;> omega)) (by first | rfl | assumption) (k := 0)) rfl rfl rfl ?_)
    all_goals (refine WL.step (ok_fieldAddr rfl Tryd.underlying32 rfl (fun w => Tryd.sizeOf28 w)) rfl rfl rfl ?_)
    all_goals (refine WL.stepR0 (okE_store (fun w => Tryd.sizeOf28 w) rfl rfl vm12.s (by rw [flat_length SV.len, vm12.ls]; show 0 + 0 * 6 + 4 < nS * 6; omega) rfl rfl) rfl rfl ?_
               rintro _ h13 ⟨hb13, hx13⟩)
    all_goals (have vm13 := vm12.setS (S' := S3 nS (.slice (some ⟨bQ, 0, none⟩) 1 1)) hb13 (S3_set (by omega)) (hl3 _) hx13
               have hbR13 := hx13.obj hbR12 (fun e => by rw [e, vm12.s] at hbR12; simp at hbR12)
               have hbQ13 := hx13.obj hbQ (fun e => by omega)
               have hX13 : Ext No h h13 := hX12.trans' hx13 (fun q hq e => by omega)
               have hx2C : Ext No h2 h13 := (hx2B.trans hx12).trans' hx13 (fun q hq e => by omega)
               have ok3 : ∀ s ∈ S3 nS (.slice (some ⟨bQ, 0, none⟩) 1 1), s.ok h13 := fun s hs => by rcases S3_mem s hs with rfl | hs; exact ⟨rd_blk hbQ13 rfl, by simp [sv1, maxLen], Rd.nil _ _, by simp [sv1, maxLen]⟩; exact S2_ok s hs
               have okv := vm13.ok (R := [(1, 1)]) C2_ok ok3 (by decide) (by unfold maxLen; omega) (rd_blk hbR13 rfl) (by decide)
               have fw := few_bl (bC := bC) (bS := bS) (nC := 16) (nS := nS) (vr := (.slice (some ⟨bR, 0, none⟩) 1 1)) (vw := .slice none 0 0) (R := [(1, 1)]) (by rw [vm13.lc]; decide) (by rw [vm13.ls]; omega) (by decide) (C2_t (ph := ph) (k := 16)) (fun s hs => ⟨(a3 (.slice (some ⟨bQ, 0, none⟩) 1 1) s hs).2.2.2, by rcases S3_mem s hs with rfl | hs; rfl; exact (S2_t s hs).2⟩))
    all_goals (refine WL.nil ?_)
    all_goals (repeat' (with_reducible first | refine thenP_n ?_ | refine blockP_n ?_))
    all_goals (refine WC.sub [(2, _), (5, _)] ⟨rfl, rfl, trivial⟩ ?_)
    all_goals (refine WC.seq ?_)
    all_goals (refine WC.drawH (fun h' => Ext No h13 h') 14 15 rfl fol ?_)
    all_goals (refine WH.take 0 rfl (by kernel_rfl) (by kernel_rfl) (by kernel_rfl) (by kernel_rfl) rfl (by first | exact Ext.refl _ _ | assumption) (fun hq hC => ok_loadN (fun w => Tryd.isAgg24 w) (fun w => Tryd.sizeOf24 w) rfl rfl (by exact At.of_block (hC.obj (hx2C.obj hb22 nos) nos))) rfl rfl rfl ?_)
    all_goals (refine WH.take 1 rfl (by kernel_rfl) (by kernel_rfl) (by kernel_rfl) (by kernel_rfl) rfl (by first | exact Ext.refl _ _ | assumption) (fun hq hC => ok_loadN (fun w => Tryd.isAgg30 w) (fun w => Tryd.sizeOf30 w) rfl rfl (by exact At.of_block (hC.obj vm13.v nos))) rfl rfl rfl ?_)
    all_goals (refine WH.one 2 (by kernel_rfl) ?_)
    all_goals (refine Comes1.call (vs := [_, _]) rfl rfl (fun a w => Tryd.call8 a w) rfl (kv _ hX13 _ okv fw) rfl rfl rfl ?_ (fun _ => by kernel_rfl)
               rintro _ h14 ⟨rfl, hx14⟩)
    all_goals (refine ⟨fun _ => hx14, ?_⟩)
    all_goals (rw [b3])
    all_goals (first | (refine WH.take 3 rfl (by kernel_rfl) (by kernel_rfl) (by kernel_rfl) (by kernel_rfl) rfl (by first | exact Ext.refl _ _ | assumption) (fun hq hC => OkP.bool_t (by omega) (ok_eql rfl rfl)) rfl rfl rfl ?_) | (refine WH.take 3 rfl (by kernel_rfl) (by kernel_rfl) (by kernel_rfl) (by kernel_rfl) rfl (by first | exact Ext.refl _ _ | assumption) (fun hq hC => OkP.bool_f (by omega) (ok_eql rfl rfl)) rfl rfl rfl ?_) | (refine WH.take 3 rfl (by kernel_rfl) (by kernel_rfl) (by kernel_rfl) (by kernel_rfl) rfl (by first | exact Ext.refl _ _ | assumption) (fun hq hC => ok_eql rfl rfl) rfl rfl rfl ?_))
    all_goals (refine WH.take 4 rfl (by kernel_rfl) (by kernel_rfl) (by kernel_rfl) (by kernel_rfl) rfl (by first | exact Ext.refl _ _ | assumption) (fun hq hC => ok_move rfl) rfl rfl rfl ?_)
    all_goals (try ((fail_if_success (refine WH.part 67 (b := true) rfl (fun _ => ?_) (fun _ => ?_))); (fail_if_success (refine WH.part 67 (b := false) rfl (fun _ => ?_) (fun _ => ?_))); (refine WH.part 67 rfl (fun hb => ?_) (fun hb => ?_))))
    all_goals (first | (refine WH.pass 5 rfl (by kernel_rfl) (by kernel_rfl) (by kernel_rfl) (by kernel_rfl) rfl (by first | exact Ext.refl _ _ | assumption) rfl rfl rfl ?_) | (refine WH.take 5 rfl (by kernel_rfl) (by kernel_rfl) (by kernel_rfl) (by kernel_rfl) rfl (by first | exact Ext.refl _ _ | assumption) (fun hq hC => ok_loadN (fun w => Tryd.isAgg30 w) (fun w => Tryd.sizeOf30 w) rfl rfl (by exact At.of_block (hC.obj vm13.v nos))) rfl rfl rfl ?_))
    all_goals (first | (refine WH.pass 7 rfl (by kernel_rfl) (by kernel_rfl) (by kernel_rfl) (by kernel_rfl) rfl (by first | exact Ext.refl _ _ | assumption) rfl rfl rfl ?_) | (refine WH.take 7 rfl (by kernel_rfl) (by kernel_rfl) (by kernel_rfl) (by kernel_rfl) rfl (by first | exact Ext.refl _ _ | assumption) (fun hq hC => ok_fieldAddr rfl Tryd.underlying30 rfl (fun w => Tryd.sizeOf27 w)) rfl rfl rfl ?_))
    all_goals (first | (refine WH.pass 8 rfl (by kernel_rfl) (by kernel_rfl) (by kernel_rfl) (by kernel_rfl) rfl (by first | exact Ext.refl _ _ | assumption) rfl rfl rfl ?_) | (refine WH.take 8 rfl (by kernel_rfl) (by kernel_rfl) (by kernel_rfl) (by kernel_rfl) rfl (by first | exact Ext.refl _ _ | assumption) (fun hq hC => ok_load (fun w => Tryd.isAgg27 w) rfl (by first | exact hC.cell (by first | exact cell_blk vm13.v rfl | assumption | exact cell_blk (by assumption) rfl) nos)) rfl rfl rfl ?_))
    all_goals (refine WH.one 6 (by kernel_rfl) ?_)
    all_goals (refine Comes1.call (vs := [_]) rfl rfl (fun a w => Tryd.call16 a w) rfl (counted_v _ (okv.ext0 hx14) fw) rfl rfl rfl ?_ (fun _ => by kernel_rfl)
               rintro v15 h15 ⟨L15, hL15, hl15, ho15, hx15, hf15⟩)
    all_goals (refine ⟨fun _ => hx14.trans hx15, ?_⟩)
    all_goals (have hY15 := hx14.trans hx15
               rw [i3] at hL15
               obtain rfl := hL15.eq cnt_one
               obtain ⟨A15, c15, rfl, _⟩ := ho15.slice)
    all_goals (refine WH.one 9 (by kernel_rfl) ?_)
    all_goals (refine Comes1.call (vs := [_, _]) rfl rfl (fun a w => Tryd.call15 a w) rfl ((counts46 [(1, 1)] [(1, 1)] ho15.rd (rd_blk (hY15.obj hbR13 nos) rfl) (by decide)).as (congrArg Value.bool (decide_eq_true rfl))) rfl rfl rfl ?_ (fun _ => by kernel_rfl)
               rintro _ hz ⟨rfl, _⟩
               subst hz)
    all_goals (refine ⟨fun _ => hY15, ?_⟩)
    all_goals (first | (refine WH.take 10 rfl (by kernel_rfl) (by kernel_rfl) (by kernel_rfl) (by kernel_rfl) rfl (by first | exact Ext.refl _ _ | assumption) (fun hq hC => ok_pick_t rfl rfl) rfl rfl rfl ?_) | (refine WH.take 10 rfl (by kernel_rfl) (by kernel_rfl) (by kernel_rfl) (by kernel_rfl) rfl (by first | exact Ext.refl _ _ | assumption) (fun hq hC => ok_pick_f rfl rfl) rfl rfl rfl ?_))
    all_goals (refine WH.take 11 rfl (by kernel_rfl) (by kernel_rfl) (by kernel_rfl) (by kernel_rfl) rfl (by first | exact Ext.refl _ _ | assumption) (fun hq hC => ok_move rfl) rfl rfl rfl ?_)
    all_goals (refine WH.one 12 (by kernel_rfl) ?_)
    all_goals (refine Comes1.call (vs := []) rfl rfl (fun a w => Tryd.call7 a w) rfl (awake47 (er.ext0 (hX13.trans hY15))) rfl rfl rfl ?_ (fun _ => by kernel_rfl)
               rintro _ h16 ⟨rfl, hx16⟩)
    all_goals (refine ⟨fun _ => hY15.trans hx16, ?_⟩)
    all_goals (have hY16 := hY15.trans hx16)
    all_goals (first | (refine WH.take 13 rfl (by kernel_rfl) (by kernel_rfl) (by kernel_rfl) (by kernel_rfl) rfl (by first | exact Ext.refl _ _ | assumption) (fun hq hC => ok_pick_t rfl rfl) rfl rfl rfl ?_) | (refine WH.take 13 rfl (by kernel_rfl) (by kernel_rfl) (by kernel_rfl) (by kernel_rfl) rfl (by first | exact Ext.refl _ _ | assumption) (fun hq hC => ok_pick_f rfl rfl) rfl rfl rfl ?_))
    all_goals (refine WH.one 14 (by kernel_rfl) ?_)
    all_goals (refine Comes1.run rfl (OkP.r (ok_assign rfl)) rfl rfl rfl ?_ (fun _ => by kernel_rfl)
               rintro _ hz ⟨rfl, _⟩
               subst hz)
    all_goals (refine ⟨fun e => (by cases e), ?_⟩)
    all_goals (refine WH.done (by kernel_rfl) ?_)
    all_goals (repeat' (with_reducible first | refine thenP_n ?_ | refine blockP_n ?_))
    all_goals (refine WC.sub [(4, _)] ⟨rfl, trivial⟩ ?_)
    all_goals (refine WC.ret ?_)
    all_goals (repeat' (with_reducible first | refine thenP_r ?_ | refine blockP_r ?_))
    all_goals (refine retP_1 _ ⟨rfl, trivial⟩ ?_)
    all_goals (exact ⟨rfl, hX13.trans hY16⟩)

namespace LAuditEmpty
open Go.ChangeShapes Go.WideShapes Go.ChangeAt Go.RowKit
open Go.ChangeMaps (open_string shut_string)
theorem own : ownKnob Tryd.prog.godebug = none := by kernel_rfl
theorem laidOut : laidOutB Tryd.prog = true := by kernel_rfl
set_option maxRecDepth 100000 in
theorem lifted (os : Os) (started : os.Started) (H : Type) (enc : TypeId × Value → H) :
    ReturnsInHanded {} Tryd.checked os 4 .any (fun w args => (Rows.auditEmptySpec.pre enc Tryd.prog Tryd.f4 [] false w args ∧ laidMetH Tryd.prog Rows.auditEmptyRow.laid w) ∧ sizedMet enc Tryd.prog Tryd.f4 (OpenSpec.ofChange Rows.auditEmptySpec) false w args) (Rows.auditEmptySpec.post enc Tryd.prog Tryd.f4 false true false false) := by
  refine returnsInHanded_of_change_and (C := Tryd.checked) (X := fun w _ => laidMetH Tryd.prog Rows.auditEmptyRow.laid w) (fun _ _ _ hh h => h.of_heap hh) own started (by kernel_rfl) Tryd.func4
    (ChangeSpec.witness_at (enc := enc) (C := Tryd.checked) (os := os) (X := fun w _ => laidMetH Tryd.prog Rows.auditEmptyRow.laid w) false (laidWorld os) #[.agg #[(.int .i64 0), (.int .i64 0), (.int .i64 0), (.int .i64 0), (.int .i64 0), (.int .i64 0), (.slice none 0 0)], .int .i64 0] 8 rfl (by kernel_rfl) (by kernel_rfl) (by kernel_rfl) (by kernel_rfl) (by kernel_rfl) (laidWorld_met os _)) ?_
  intro W base args ds gs before hval0 hW hcnd hsz0 hL _
  have hval : ∀ (j : Nat) t v, Tryd.f4.params[j]? = some t → args[j]? = some v → Value.okWide Tryd.prog W .any base t v := hval0
  have hsz := hsz0
  rw [Tryd.params4] at hsz
  clear hsz0
  have hW' := hW
  obtain ⟨p, q, hA0, hV, rfl, hfz, hnd⟩ := hW
  have hA : DataW.TrodAll enc Tryd.prog W 0 (fun _ => true) true Tryd.f4.params.toList args.toList ds p := hA0
  rw [Tryd.params4] at hA hval
  obtain ⟨v0, vs0, d0, ds0, p0, q0, hargs, rfl, rfl, h0, r0⟩ := trodAll_cons hA
  obtain ⟨v1, vs1, d1, ds1, p1, q1, rfl, rfl, rfl, h1, r1⟩ := trodAll_cons r0
  obtain ⟨rfl, rfl, rfl⟩ := trodAll_nil r1
  obtain rfl : args = #[v0, v1] := by cases args; simp_all
  obtain ⟨rfl, rfl⟩ := trodVars_none hV
  have hz0 : ∀ n ∈ d0.weights Tryd.prog 24, n ≤ reachBytes := fun n hn => by simpa using List.all_eq_true.1 hsz n (DataW.weights_mem_each (j := 0) rfl rfl n hn)
  have k0 := h0
  have lt0 : ∀ x ∈ p0, x.block < W.heap.size := by obtain ⟨m, hm⟩ := k0; exact DataW.trod_lt m _ _ _ hm
  obtain ⟨cs0, rfl, hsz0⟩ := okWide_struct Tryd.underlying24 (hval 0 24 v0 rfl rfl)
  obtain ⟨fu0, hf0⟩ := h0
  obtain ⟨a0, e0, w0⟩ := opens_cfg W _ _ _ _ _ _ _ _ hf0 hz0
  obtain ⟨cs0⟩ := cs0
  obtain rfl := (show cs0 = _ from e0)
  have hz1 : ∀ n ∈ d1.weights Tryd.prog 3, n ≤ reachBytes := fun n hn => by simpa using List.all_eq_true.1 hsz n (DataW.weights_mem_each (j := 1) rfl rfl n hn)
  have k1 := h1
  have lt1 : ∀ x ∈ p1, x.block < W.heap.size := by obtain ⟨m, hm⟩ := k1; exact DataW.trod_lt m _ _ _ hm
  obtain ⟨a1, rfl, e1, _, w1⟩ := open_int Tryd.underlying3 (hval 1 3 v1 rfl rfl) h1
  clear hA0 hval0
  refine (law_calls (empty_law a0 a1 w0 (er_laid hL))).mono fun e W' ⟨he, bel⟩ => ?_
  subst he
  exact ⟨_, rfl, _, _, _, [], _, [], hW', trodAll_mk1 (shut_bool Tryd.underlying4 _), (trodAll_cons_mk (Below.trod laidOut (by kernel_rfl) (of_decide_eq_true (by kernel_rfl)) k0 bel lt0) (trodAll_cons_mk (Below.trod laidOut (by kernel_rfl) (of_decide_eq_true (by kernel_rfl)) k1 bel lt1) trodAll_mk0)), rfl, bel.frame _, fun h => by cases h⟩
theorem over : Rows.auditEmptyRow.holds Tryd.pinned (OpenSpec.ofChange Rows.auditEmptySpec) :=
  OpenClaim.holds_of_wide 4 Tryd.f4 rfl rfl rfl rfl rfl rfl rfl ⟨rfl, rfl, rfl, rfl, rfl⟩ rfl rfl rfl rfl rfl (by kernel_rfl) Tryd.func4 (by kernel_rfl)
    (of_decide_eq_true (by kernel_rfl)) (by unfold Func.isWrapper; first | (rw [if_pos (by decide +kernel)]; kernel_rfl) | (rw [if_neg (by decide +kernel)]; exact ⟨rfl, rfl⟩))
    (fun os started H enc _ => lifted os started H enc)
end LAuditEmpty
theorem auditEmpty_card : Rows.AuditEmptyCardSaid :=
  Claim7.holds_tied_plain_at .later [] Rows.auditEmptyCard.laidKinds true Rows.auditEmptyCard.stood.harness true
    LAuditEmpty.over (fun _ h => by cases h) (by kernel_rfl) (fun _ h => by cases h) auditEmpty_row_tie rfl ⟨rfl, rfl⟩ (by kernel_rfl) rfl
    (fun f fn hf hfn => by
      obtain rfl : f = 4 := Option.some.inj ((show Tryd.prog.funcNamed Rows.auditEmptyRow.func = some 4 by kernel_rfl).symm.trans hf) |>.symm
      obtain rfl : fn = Tryd.f4 := (Option.some.inj (Tryd.func4.symm.trans hfn)).symm
      exact ⟨by kernel_rfl, fun j t ht => by
        rw [Tryd.params4] at ht
        have hm : t ∈ [24, 3] := by simpa using Array.mem_of_getElem? ht
        have hall : ([24, 3].all fun u => !Tryd.prog.wantsStandIn u) = true := by kernel_rfl
        exact (show Tryd.prog.wantsStandIn t = false by simpa using List.all_eq_true.1 hall t hm)⟩)
    (by kernel_rfl)
#print axioms auditEmpty_card
end Go.Proofs.YtanbpffpllgekaaDoor

