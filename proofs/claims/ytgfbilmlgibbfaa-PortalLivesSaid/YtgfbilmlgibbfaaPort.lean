/-
  PORTAL (layer 28): lists that are copied: rows of their own.
-/
import Derived.Test.YtgfbilmlgibbfaaCell
import Derived.Test.YtgfbilmlgibbfaaSl
namespace Go.Proofs.Ytgfbilmlgibbfaa
open Go Go.RK

set_option maxRecDepth 100000 in
theorem clone_cells {h : Heap} {A : Option Addr} {n c : Nat} {xs : List Value} (hr : Rd h (.slice A n c) 2 n xs) (h1 : ∀ v ∈ xs, v.oneCell' = true) (hm : n * 32 ≤ reachBytes) :
    CallsH Try.prog 143 ⟨[.slice A n c]⟩ h fun u h' => Own h' u 86 2 n xs ∧ Ext No h h' ∧ (∀ k, u.ownBlock = some k → h.size ≤ k) := by
  unfold reachBytes at hm
  cases A with
  | none =>
    have h0 : n = 0 := by
      apply Classical.byContradiction
      intro hn
      obtain ⟨b, o, e, _⟩ := Rd.at_ hr (by omega)
      cases e
    subst h0
    have hx : xs = [] := List.eq_nil_of_length_eq_zero (by obtain ⟨_, _, _, _, hl, _⟩ := hr; simpa using hl)
    subst hx
    refine calls [(0, _)] Try.func143 rfl Try.ntmps143 rfl ⟨rfl, trivial⟩ ?_
    all_goals (refine WC.seq ?_)
    all_goals (refine WC.region ?_)
    all_goals (refine WL.step (ok_assign rfl) rfl rfl rfl ?_)
    all_goals (refine WL.nil ?_)
    all_goals (repeat' (with_reducible first | refine thenP_n ?_ | refine blockP_n ?_))
    all_goals (refine WC.seq ?_)
    all_goals (refine WC.seq ?_)
    all_goals (refine WC.region ?_)
    all_goals (refine WL.step (ok_move rfl) rfl rfl rfl ?_)
    all_goals (refine WL.step (ok_eqlSn Try.underlying36 rfl rfl) rfl rfl rfl ?_)
    all_goals (refine WL.nil ?_)
    all_goals (repeat' (with_reducible first | refine thenP_n ?_ | refine blockP_n ?_))
    all_goals (first | refine WC.condB_t 1 rfl ?_ | refine WC.condB_f 2 rfl ?_ | (refine WC.condB 1 2 rfl (fun hb => ?_) (fun hb => ?_) <;> (first | replace hb := of_decide_eq_true hb | replace hb := of_decide_eq_false hb | replace hb := of_decide_eq_false (nt hb) | replace hb := of_decide_eq_true (nf hb) | skip)))
    all_goals (first
      | (fail_if_success (refine Br.mk (i := 1) ?_))
      | (refine Br.mk (i := 1) ?_
         all_goals (refine WC.seq ?_)
         all_goals (refine WC.region ?_)
         all_goals (refine WL.step (ok_assign rfl) rfl rfl rfl ?_)
         all_goals (refine WL.nil ?_)
         all_goals (repeat' (with_reducible first | refine thenP_n ?_ | refine blockP_n ?_))
         all_goals (refine WC.ret ?_)
         all_goals (repeat' (with_reducible first | refine thenP_r ?_ | refine blockP_r ?_))
         all_goals (refine retP_1 _ ⟨rfl, trivial⟩ ?_)
         all_goals (exact ⟨Own.nil _ _ _, .refl _ _, by simp [Value.ownBlock]⟩)
         skip))
    all_goals (first
      | (fail_if_success (refine Br.mk (i := 2) ?_))
      | (refine Br.mk (i := 2) ?_
         all_goals (refine WC.skip ?_)
         skip))
    all_goals (repeat' (with_reducible first | refine thenP_n ?_ | refine blockP_n ?_))
    all_goals (refine WC.seq ?_)
    all_goals (refine WC.region ?_)
    all_goals (refine WL.stepR (okE_buildSlice (vs := []) (cs := []) (fun _ => []) Try.underlying36 rfl rfl (by kernel_rfl)) rfl rfl rfl ?_
               rintro _ h1 ⟨b1, rfl, hg1, hb1, hx1⟩)
    all_goals (refine WL.step (ok_move rfl) rfl rfl rfl ?_)
    all_goals (refine WL.stepR (ok_append (sz := 2) (bytes := 32) rfl Try.underlying36 (show Try.prog.info? 86 = some Try.t86 by kernel_rfl) rfl rfl rfl rfl (by decide) rfl rfl (by assumption) (by first | assumption | exact rd_blk (by assumption) rfl) (by simp [Value.oneCell']) (by simp only [maxLen]; omega) (by omega)) rfl rfl rfl ?_
               rintro v1 h1 ⟨ho1, hx1, hl1⟩)
    all_goals (refine WL.step (ok_assign rfl) rfl rfl rfl ?_)
    all_goals (refine WL.nil ?_)
    all_goals (repeat' (with_reducible first | refine thenP_n ?_ | refine blockP_n ?_))
    all_goals (refine WC.sub [(2, _)] ⟨rfl, trivial⟩ ?_)
    all_goals (refine WC.ret ?_)
    all_goals (repeat' (with_reducible first | refine thenP_r ?_ | refine blockP_r ?_))
    all_goals (refine retP_1 _ ⟨rfl, trivial⟩ ?_)
    all_goals (exact ⟨Own.nil _ _ _, .refl _ _, by simp [Value.ownBlock]⟩)
  | some a =>
    refine calls [(0, _)] Try.func143 rfl Try.ntmps143 rfl ⟨rfl, trivial⟩ ?_
    all_goals (refine WC.seq ?_)
    all_goals (refine WC.region ?_)
    all_goals (refine WL.step (ok_assign rfl) rfl rfl rfl ?_)
    all_goals (refine WL.nil ?_)
    all_goals (repeat' (with_reducible first | refine thenP_n ?_ | refine blockP_n ?_))
    all_goals (refine WC.seq ?_)
    all_goals (refine WC.seq ?_)
    all_goals (refine WC.region ?_)
    all_goals (refine WL.step (ok_move rfl) rfl rfl rfl ?_)
    all_goals (refine WL.step (ok_eqlSn Try.underlying36 rfl rfl) rfl rfl rfl ?_)
    all_goals (refine WL.nil ?_)
    all_goals (repeat' (with_reducible first | refine thenP_n ?_ | refine blockP_n ?_))
    all_goals (first | refine WC.condB_t 1 rfl ?_ | refine WC.condB_f 2 rfl ?_ | (refine WC.condB 1 2 rfl (fun hb => ?_) (fun hb => ?_) <;> (first | replace hb := of_decide_eq_true hb | replace hb := of_decide_eq_false hb | replace hb := of_decide_eq_false (nt hb) | replace hb := of_decide_eq_true (nf hb) | skip)))
    all_goals (first
      | (fail_if_success (refine Br.mk (i := 1) ?_))
      | (refine Br.mk (i := 1) ?_
         all_goals (refine WC.seq ?_)
         all_goals (refine WC.region ?_)
         all_goals (refine WL.step (ok_assign rfl) rfl rfl rfl ?_)
         all_goals (refine WL.nil ?_)
         all_goals (repeat' (with_reducible first | refine thenP_n ?_ | refine blockP_n ?_))
         all_goals (refine WC.ret ?_)
         all_goals (repeat' (with_reducible first | refine thenP_r ?_ | refine blockP_r ?_))
         all_goals (refine retP_1 _ ⟨rfl, trivial⟩ ?_)
         all_goals (exact ⟨by simpa using ho2, hx1.trans' hx2 (fun k hk e => by simp [Value.ownBlock] at e; omega), fresh_of hl2 (fun k hk => by simp [Value.ownBlock] at hk; omega) hx1.size⟩)
         skip))
    all_goals (first
      | (fail_if_success (refine Br.mk (i := 2) ?_))
      | (refine Br.mk (i := 2) ?_
         all_goals (refine WC.skip ?_)
         skip))
    all_goals (repeat' (with_reducible first | refine thenP_n ?_ | refine blockP_n ?_))
    all_goals (refine WC.seq ?_)
    all_goals (refine WC.region ?_)
    all_goals (refine WL.stepR (okE_buildSlice (vs := []) (cs := []) (fun _ => []) Try.underlying36 rfl rfl (by kernel_rfl)) rfl rfl rfl ?_
               rintro _ h3 ⟨b1, rfl, hg1, hb1, hx1⟩)
    all_goals (refine WL.step (ok_move rfl) rfl rfl rfl ?_)
    all_goals (have hr1 := hr.ext0 hx1)
    all_goals (refine WL.stepR (ok_append (sz := 2) (bytes := 32) rfl Try.underlying36 (show Try.prog.info? 86 = some Try.t86 by kernel_rfl) rfl rfl rfl rfl (by decide) rfl rfl (own_blk hb1 rfl (by simp [maxLen])) hr1 h1 (by simp only [maxLen]; omega) (by omega)) rfl rfl rfl ?_
               rintro v2 h2 ⟨ho2, hx2, hl2⟩)
    all_goals (refine WL.step (ok_assign rfl) rfl rfl rfl ?_)
    all_goals (refine WL.nil ?_)
    all_goals (repeat' (with_reducible first | refine thenP_n ?_ | refine blockP_n ?_))
    all_goals (refine WC.sub [(2, _)] ⟨rfl, trivial⟩ ?_)
    all_goals (refine WC.ret ?_)
    all_goals (repeat' (with_reducible first | refine thenP_r ?_ | refine blockP_r ?_))
    all_goals (refine retP_1 _ ⟨rfl, trivial⟩ ?_)
    all_goals (exact ⟨by simpa using ho2, hx1.trans' hx2 (fun k hk e => by simp [Value.ownBlock] at e; omega), fresh_of hl2 (fun k hk => by simp [Value.ownBlock] at hk; omega) hx1.size⟩)
set_option maxRecDepth 100000 in
theorem clone_rows {h : Heap} {A : Option Addr} {n c : Nat} {xs : List Value} (hr : Rd h (.slice A n c) 1 n xs) (h1 : ∀ v ∈ xs, v.oneCell' = true) (hm : n * 24 ≤ reachBytes) :
    CallsH Try.prog 113 ⟨[.slice A n c]⟩ h fun u h' => Own h' u 36 1 n xs ∧ Ext No h h' ∧ (∀ k, u.ownBlock = some k → h.size ≤ k) := by
  unfold reachBytes at hm
  cases A with
  | none =>
    have h0 : n = 0 := by
      apply Classical.byContradiction
      intro hn
      obtain ⟨b, o, e, _⟩ := Rd.at_ hr (by omega)
      cases e
    subst h0
    have hx : xs = [] := List.eq_nil_of_length_eq_zero (by obtain ⟨_, _, _, _, hl, _⟩ := hr; simpa using hl)
    subst hx
    refine calls [(0, _)] Try.func113 rfl Try.ntmps113 rfl ⟨rfl, trivial⟩ ?_
    all_goals (refine WC.seq ?_)
    all_goals (refine WC.region ?_)
    all_goals (refine WL.step (ok_assign rfl) rfl rfl rfl ?_)
    all_goals (refine WL.nil ?_)
    all_goals (repeat' (with_reducible first | refine thenP_n ?_ | refine blockP_n ?_))
    all_goals (refine WC.seq ?_)
    all_goals (refine WC.seq ?_)
    all_goals (refine WC.region ?_)
    all_goals (refine WL.step (ok_move rfl) rfl rfl rfl ?_)
    all_goals (refine WL.step (ok_eqlSn Try.underlying37 rfl rfl) rfl rfl rfl ?_)
    all_goals (refine WL.nil ?_)
    all_goals (repeat' (with_reducible first | refine thenP_n ?_ | refine blockP_n ?_))
    all_goals (first | refine WC.condB_t 1 rfl ?_ | refine WC.condB_f 2 rfl ?_ | (refine WC.condB 1 2 rfl (fun hb => ?_) (fun hb => ?_) <;> (first | replace hb := of_decide_eq_true hb | replace hb := of_decide_eq_false hb | replace hb := of_decide_eq_false (nt hb) | replace hb := of_decide_eq_true (nf hb) | skip)))
    all_goals (first
      | (fail_if_success (refine Br.mk (i := 1) ?_))
      | (refine Br.mk (i := 1) ?_
         all_goals (refine WC.seq ?_)
         all_goals (refine WC.region ?_)
         all_goals (refine WL.step (ok_assign rfl) rfl rfl rfl ?_)
         all_goals (refine WL.nil ?_)
         all_goals (repeat' (with_reducible first | refine thenP_n ?_ | refine blockP_n ?_))
         all_goals (refine WC.ret ?_)
         all_goals (repeat' (with_reducible first | refine thenP_r ?_ | refine blockP_r ?_))
         all_goals (refine retP_1 _ ⟨rfl, trivial⟩ ?_)
         all_goals (exact ⟨Own.nil _ _ _, .refl _ _, by simp [Value.ownBlock]⟩)
         skip))
    all_goals (first
      | (fail_if_success (refine Br.mk (i := 2) ?_))
      | (refine Br.mk (i := 2) ?_
         all_goals (refine WC.skip ?_)
         skip))
    all_goals (repeat' (with_reducible first | refine thenP_n ?_ | refine blockP_n ?_))
    all_goals (refine WC.seq ?_)
    all_goals (refine WC.region ?_)
    all_goals (refine WL.stepR (okE_buildSlice (vs := []) (cs := []) (fun _ => []) Try.underlying37 rfl rfl (by kernel_rfl)) rfl rfl rfl ?_
               rintro _ h1 ⟨b1, rfl, hg1, hb1, hx1⟩)
    all_goals (refine WL.step (ok_move rfl) rfl rfl rfl ?_)
    all_goals (refine WL.stepR (ok_append (sz := 1) (bytes := 24) rfl Try.underlying37 (show Try.prog.info? 36 = some Try.t36 by kernel_rfl) rfl rfl rfl rfl (by decide) rfl rfl (by assumption) (by first | assumption | exact rd_blk (by assumption) rfl) (by simp [Value.oneCell']) (by simp only [maxLen]; omega) (by omega)) rfl rfl rfl ?_
               rintro v1 h1 ⟨ho1, hx1, hl1⟩)
    all_goals (refine WL.step (ok_assign rfl) rfl rfl rfl ?_)
    all_goals (refine WL.nil ?_)
    all_goals (repeat' (with_reducible first | refine thenP_n ?_ | refine blockP_n ?_))
    all_goals (refine WC.sub [(2, _)] ⟨rfl, trivial⟩ ?_)
    all_goals (refine WC.ret ?_)
    all_goals (repeat' (with_reducible first | refine thenP_r ?_ | refine blockP_r ?_))
    all_goals (refine retP_1 _ ⟨rfl, trivial⟩ ?_)
    all_goals (exact ⟨Own.nil _ _ _, .refl _ _, by simp [Value.ownBlock]⟩)
  | some a =>
    refine calls [(0, _)] Try.func113 rfl Try.ntmps113 rfl ⟨rfl, trivial⟩ ?_
    all_goals (refine WC.seq ?_)
    all_goals (refine WC.region ?_)
    all_goals (refine WL.step (ok_assign rfl) rfl rfl rfl ?_)
    all_goals (refine WL.nil ?_)
    all_goals (repeat' (with_reducible first | refine thenP_n ?_ | refine blockP_n ?_))
    all_goals (refine WC.seq ?_)
    all_goals (refine WC.seq ?_)
    all_goals (refine WC.region ?_)
    all_goals (refine WL.step (ok_move rfl) rfl rfl rfl ?_)
    all_goals (refine WL.step (ok_eqlSn Try.underlying37 rfl rfl) rfl rfl rfl ?_)
    all_goals (refine WL.nil ?_)
    all_goals (repeat' (with_reducible first | refine thenP_n ?_ | refine blockP_n ?_))
    all_goals (first | refine WC.condB_t 1 rfl ?_ | refine WC.condB_f 2 rfl ?_ | (refine WC.condB 1 2 rfl (fun hb => ?_) (fun hb => ?_) <;> (first | replace hb := of_decide_eq_true hb | replace hb := of_decide_eq_false hb | replace hb := of_decide_eq_false (nt hb) | replace hb := of_decide_eq_true (nf hb) | skip)))
    all_goals (first
      | (fail_if_success (refine Br.mk (i := 1) ?_))
      | (refine Br.mk (i := 1) ?_
         all_goals (refine WC.seq ?_)
         all_goals (refine WC.region ?_)
         all_goals (refine WL.step (ok_assign rfl) rfl rfl rfl ?_)
         all_goals (refine WL.nil ?_)
         all_goals (repeat' (with_reducible first | refine thenP_n ?_ | refine blockP_n ?_))
         all_goals (refine WC.ret ?_)
         all_goals (repeat' (with_reducible first | refine thenP_r ?_ | refine blockP_r ?_))
         all_goals (refine retP_1 _ ⟨rfl, trivial⟩ ?_)
         all_goals (exact ⟨by simpa using ho2, hx1.trans' hx2 (fun k hk e => by simp [Value.ownBlock] at e; omega), fresh_of hl2 (fun k hk => by simp [Value.ownBlock] at hk; omega) hx1.size⟩)
         skip))
    all_goals (first
      | (fail_if_success (refine Br.mk (i := 2) ?_))
      | (refine Br.mk (i := 2) ?_
         all_goals (refine WC.skip ?_)
         skip))
    all_goals (repeat' (with_reducible first | refine thenP_n ?_ | refine blockP_n ?_))
    all_goals (refine WC.seq ?_)
    all_goals (refine WC.region ?_)
    all_goals (refine WL.stepR (okE_buildSlice (vs := []) (cs := []) (fun _ => []) Try.underlying37 rfl rfl (by kernel_rfl)) rfl rfl rfl ?_
               rintro _ h3 ⟨b1, rfl, hg1, hb1, hx1⟩)
    all_goals (refine WL.step (ok_move rfl) rfl rfl rfl ?_)
    all_goals (have hr1 := hr.ext0 hx1)
    all_goals (refine WL.stepR (ok_append (sz := 1) (bytes := 24) rfl Try.underlying37 (show Try.prog.info? 36 = some Try.t36 by kernel_rfl) rfl rfl rfl rfl (by decide) rfl rfl (own_blk hb1 rfl (by simp [maxLen])) hr1 h1 (by simp only [maxLen]; omega) (by omega)) rfl rfl rfl ?_
               rintro v2 h2 ⟨ho2, hx2, hl2⟩)
    all_goals (refine WL.step (ok_assign rfl) rfl rfl rfl ?_)
    all_goals (refine WL.nil ?_)
    all_goals (repeat' (with_reducible first | refine thenP_n ?_ | refine blockP_n ?_))
    all_goals (refine WC.sub [(2, _)] ⟨rfl, trivial⟩ ?_)
    all_goals (refine WC.ret ?_)
    all_goals (repeat' (with_reducible first | refine thenP_r ?_ | refine blockP_r ?_))
    all_goals (refine retP_1 _ ⟨rfl, trivial⟩ ?_)
    all_goals (exact ⟨by simpa using ho2, hx1.trans' hx2 (fun k hk e => by simp [Value.ownBlock] at e; omega), fresh_of hl2 (fun k hk => by simp [Value.ownBlock] at hk; omega) hx1.size⟩)
set_option maxRecDepth 100000 in
theorem clone_bytes {h : Heap} {A : Option Addr} {c : Nat} (l : List UInt8) (hr : Rd h (.slice A l.length c) 1 l.length (bys l)) (hm : l.length ≤ reachBytes) :
    CallsH Try.prog 144 ⟨[.slice A l.length c]⟩ h fun u h' => Own h' u 5 1 l.length (bys l) ∧ Ext No h h' ∧ (∀ k, u.ownBlock = some k → h.size ≤ k) := by
  unfold reachBytes at hm
  cases A with
  | none =>
    have h0 : l = [] := by
      cases l with
      | nil => rfl
      | cons a l => obtain ⟨b, o, e, _⟩ := Rd.at_ hr (by simp); cases e
    subst h0
    refine calls [(0, _)] Try.func144 rfl Try.ntmps144 rfl ⟨rfl, trivial⟩ ?_
    all_goals (refine WC.seq ?_)
    all_goals (refine WC.region ?_)
    all_goals (refine WL.step (ok_assign rfl) rfl rfl rfl ?_)
    all_goals (refine WL.nil ?_)
    all_goals (repeat' (with_reducible first | refine thenP_n ?_ | refine blockP_n ?_))
    all_goals (refine WC.seq ?_)
    all_goals (refine WC.seq ?_)
    all_goals (refine WC.region ?_)
    all_goals (refine WL.step (ok_move rfl) rfl rfl rfl ?_)
    all_goals (refine WL.step (ok_eqlSn Try.underlying51 rfl rfl) rfl rfl rfl ?_)
    all_goals (refine WL.nil ?_)
    all_goals (repeat' (with_reducible first | refine thenP_n ?_ | refine blockP_n ?_))
    all_goals (first | refine WC.condB_t 1 rfl ?_ | refine WC.condB_f 2 rfl ?_ | (refine WC.condB 1 2 rfl (fun hb => ?_) (fun hb => ?_) <;> (first | replace hb := of_decide_eq_true hb | replace hb := of_decide_eq_false hb | replace hb := of_decide_eq_false (nt hb) | replace hb := of_decide_eq_true (nf hb) | skip)))
    all_goals (first
      | (fail_if_success (refine Br.mk (i := 1) ?_))
      | (refine Br.mk (i := 1) ?_
         all_goals (refine WC.seq ?_)
         all_goals (refine WC.region ?_)
         all_goals (refine WL.step (ok_assign rfl) rfl rfl rfl ?_)
         all_goals (refine WL.nil ?_)
         all_goals (repeat' (with_reducible first | refine thenP_n ?_ | refine blockP_n ?_))
         all_goals (refine WC.ret ?_)
         all_goals (repeat' (with_reducible first | refine thenP_r ?_ | refine blockP_r ?_))
         all_goals (refine retP_1 _ ⟨rfl, trivial⟩ ?_)
         all_goals (exact ⟨Own.nil _ _ _, .refl _ _, by simp [Value.ownBlock]⟩)
         skip))
    all_goals (first
      | (fail_if_success (refine Br.mk (i := 2) ?_))
      | (refine Br.mk (i := 2) ?_
         all_goals (refine WC.skip ?_)
         skip))
    all_goals (repeat' (with_reducible first | refine thenP_n ?_ | refine blockP_n ?_))
    all_goals (refine WC.seq ?_)
    all_goals (refine WC.region ?_)
    all_goals (refine WL.stepR (okE_buildSlice (vs := []) (cs := []) (fun _ => []) Try.underlying51 rfl rfl (by kernel_rfl)) rfl rfl rfl ?_
               rintro _ h1 ⟨b1, rfl, hg1, hb1, hx1⟩)
    all_goals (refine WL.step (ok_move rfl) rfl rfl rfl ?_)
    all_goals (refine WL.stepR (ok_append (sz := 1) (bytes := 1) rfl Try.underlying51 (show Try.prog.info? 5 = some Try.t5 by kernel_rfl) rfl rfl rfl rfl (by decide) rfl rfl (by assumption) (by first | assumption | exact rd_blk (by assumption) rfl) (by simp [Value.oneCell']) (by simp only [maxLen]; omega) (by omega)) rfl rfl rfl ?_
               rintro v1 h1 ⟨ho1, hx1, hl1⟩)
    all_goals (refine WL.step (ok_assign rfl) rfl rfl rfl ?_)
    all_goals (refine WL.nil ?_)
    all_goals (repeat' (with_reducible first | refine thenP_n ?_ | refine blockP_n ?_))
    all_goals (refine WC.sub [(2, _)] ⟨rfl, trivial⟩ ?_)
    all_goals (refine WC.ret ?_)
    all_goals (repeat' (with_reducible first | refine thenP_r ?_ | refine blockP_r ?_))
    all_goals (refine retP_1 _ ⟨rfl, trivial⟩ ?_)
    all_goals (exact ⟨Own.nil _ _ _, .refl _ _, by simp [Value.ownBlock]⟩)
  | some a =>
    refine calls [(0, _)] Try.func144 rfl Try.ntmps144 rfl ⟨rfl, trivial⟩ ?_
    all_goals (refine WC.seq ?_)
    all_goals (refine WC.region ?_)
    all_goals (refine WL.step (ok_assign rfl) rfl rfl rfl ?_)
    all_goals (refine WL.nil ?_)
    all_goals (repeat' (with_reducible first | refine thenP_n ?_ | refine blockP_n ?_))
    all_goals (refine WC.seq ?_)
    all_goals (refine WC.seq ?_)
    all_goals (refine WC.region ?_)
    all_goals (refine WL.step (ok_move rfl) rfl rfl rfl ?_)
    all_goals (refine WL.step (ok_eqlSn Try.underlying51 rfl rfl) rfl rfl rfl ?_)
    all_goals (refine WL.nil ?_)
    all_goals (repeat' (with_reducible first | refine thenP_n ?_ | refine blockP_n ?_))
    all_goals (first | refine WC.condB_t 1 rfl ?_ | refine WC.condB_f 2 rfl ?_ | (refine WC.condB 1 2 rfl (fun hb => ?_) (fun hb => ?_) <;> (first | replace hb := of_decide_eq_true hb | replace hb := of_decide_eq_false hb | replace hb := of_decide_eq_false (nt hb) | replace hb := of_decide_eq_true (nf hb) | skip)))
    all_goals (first
      | (fail_if_success (refine Br.mk (i := 1) ?_))
      | (refine Br.mk (i := 1) ?_
         all_goals (refine WC.seq ?_)
         all_goals (refine WC.region ?_)
         all_goals (refine WL.step (ok_assign rfl) rfl rfl rfl ?_)
         all_goals (refine WL.nil ?_)
         all_goals (repeat' (with_reducible first | refine thenP_n ?_ | refine blockP_n ?_))
         all_goals (refine WC.ret ?_)
         all_goals (repeat' (with_reducible first | refine thenP_r ?_ | refine blockP_r ?_))
         all_goals (refine retP_1 _ ⟨rfl, trivial⟩ ?_)
         all_goals (exact ⟨by simpa using ho2, hx1.trans' hx2 (fun k hk e => by simp [Value.ownBlock] at e; omega), fresh_of hl2 (fun k hk => by simp [Value.ownBlock] at hk; omega) hx1.size⟩)
         skip))
    all_goals (first
      | (fail_if_success (refine Br.mk (i := 2) ?_))
      | (refine Br.mk (i := 2) ?_
         all_goals (refine WC.skip ?_)
         skip))
    all_goals (repeat' (with_reducible first | refine thenP_n ?_ | refine blockP_n ?_))
    all_goals (refine WC.seq ?_)
    all_goals (refine WC.region ?_)
    all_goals (refine WL.stepR (okE_buildSlice (vs := []) (cs := []) (fun _ => []) Try.underlying51 rfl rfl (by kernel_rfl)) rfl rfl rfl ?_
               rintro _ h3 ⟨b1, rfl, hg1, hb1, hx1⟩)
    all_goals (refine WL.step (ok_move rfl) rfl rfl rfl ?_)
    all_goals (have hr1 := hr.ext0 hx1)
    all_goals (refine WL.stepR (ok_append (sz := 1) (bytes := 1) rfl Try.underlying51 (show Try.prog.info? 5 = some Try.t5 by kernel_rfl) rfl rfl rfl rfl (by decide) rfl rfl (own_blk hb1 rfl (by simp [maxLen])) hr1 (one_bys l) (by simp only [maxLen]; omega) (by omega)) rfl rfl rfl ?_
               rintro v2 h2 ⟨ho2, hx2, hl2⟩)
    all_goals (refine WL.step (ok_assign rfl) rfl rfl rfl ?_)
    all_goals (refine WL.nil ?_)
    all_goals (repeat' (with_reducible first | refine thenP_n ?_ | refine blockP_n ?_))
    all_goals (refine WC.sub [(2, _)] ⟨rfl, trivial⟩ ?_)
    all_goals (refine WC.ret ?_)
    all_goals (repeat' (with_reducible first | refine thenP_r ?_ | refine blockP_r ?_))
    all_goals (refine retP_1 _ ⟨rfl, trivial⟩ ?_)
    all_goals (exact ⟨by simpa using ho2, hx1.trans' hx2 (fun k hk e => by simp [Value.ownBlock] at e; omega), fresh_of hl2 (fun k hk => by simp [Value.ownBlock] at hk; omega) hx1.size⟩)
theorem one_cels {h : Heap} {l : List Cel} (hl : ∀ c ∈ l, c.ok h) : ∀ v ∈ l.flatMap Cel.cells, v.oneCell' = true := by
  intro v hv
  obtain ⟨c, hc, hv⟩ := List.mem_flatMap.1 hv
  obtain ⟨_, _, e, _⟩ := (hl c hc).1
  simp only [Cel.cells, List.mem_cons, List.not_mem_nil, or_false] at hv
  rcases hv with rfl | rfl
  · rfl
  · rw [e]; rfl
/-- A cell that has got bytes of its own, in its place. -/
theorem set_cell {out rest : List Cel} {c : Cel} {spare : List Value} {k o : Nat} (v : Value) (hk : out.length = k) (ho : o = 0 + k * 2 + 1) :
    ((out ++ c :: rest).flatMap Cel.cells ++ spare).set o v = (out ++ [(⟨c.null, v, c.bytes⟩ : Cel)] ++ rest).flatMap Cel.cells ++ spare := by
  have hfl : (out.flatMap Cel.cells).length = k * 2 := by rw [length_flat Cel.len, hk]
  subst ho
  simp only [List.flatMap_append, List.flatMap_cons, List.append_assoc, List.flatMap_nil, List.append_nil, Cel.cells, List.cons_append, List.nil_append]
  rw [List.set_append_right _ _ (by omega), hfl]
  have : 0 + k * 2 + 1 - k * 2 = 1 := by omega
  rw [this]
  rfl
theorem drop_cons {α : Type} {l : List α} {k : Nat} {x : α} (h : l[k]? = some x) : l.drop k = x :: l.drop (k + 1) := by
  rw [List.drop_eq_getElem?_toList_append, h]
  rfl
theorem get_mid {α : Type} {l out : List α} {k : Nat} {x : α} (h : l[k]? = some x) (hk : out.length = k) : (out ++ l.drop k)[k]? = some x := by
  subst hk
  rw [List.getElem?_append_right (Nat.le_refl _), List.getElem?_drop]
  simpa using h
/-- A list whose cells have got bytes of their own up to number k. -/
structure RowI (h2 h : Heap) (b1 : Nat) (l : List Cel) (k : Nat) (out : List Cel) : Prop where
  le : k ≤ l.length
  len : out.length = k
  pl : out.map Cel.pl = (l.take k).map Cel.pl
  blk : ∃ spare, h[b1]? = some (.cells ⟨(out ++ l.drop k).flatMap Cel.cells ++ spare⟩ 86 (0, 0))
  own : ∀ q ∈ out, q.ok h ∧ ∀ b, q.v.ownBlock = some b → h2.size ≤ b
  ext : Ext (fun b => b = b1) h2 h
theorem RowI.next {h2 h h3 h4 : Heap} {b1 k : Nat} {l out : List Cel} {c : Cel} {v : Value} {cs : List Value} (r : RowI h2 h b1 l k out) (hc : l[k]? = some c) (x3 : Ext No h h3) (o3 : Own h3 v 5 1 c.bytes.length (bys c.bytes)) (f3 : ∀ b, v.ownBlock = some b → h.size ≤ b)
    (hcs : ∀ spare, h3[b1]? = some (.cells ⟨(out ++ l.drop k).flatMap Cel.cells ++ spare⟩ 86 (0, 0)) → cs = ((out ++ l.drop k).flatMap Cel.cells ++ spare).set (0 + k * 2 + 1) v) (hb4 : h4[b1]? = some (.cells ⟨cs⟩ 86 (0, 0))) (x4 : Ext (fun b => b = b1) h3 h4) (hb : b1 < h2.size) (hz : c.bytes.length ≤ reachBytes) :
    RowI h2 h4 b1 l (k + 1) (out ++ [⟨c.null, v, c.bytes⟩]) := by
  have s0 := r.ext.size
  have s3 := x3.size
  have hkl : k < l.length := (List.getElem?_eq_some_iff.1 hc).1
  obtain ⟨spare, hblk⟩ := r.blk
  refine ⟨hkl, by simp [r.len], ?_, ⟨spare, ?_⟩, fun q hq => ?_, (r.ext.trans' x3 fun _ _ e => e.elim).trans x4⟩
  · rw [List.map_append, r.pl, List.take_add_one, hc, List.map_append]
    rfl
  · rw [hb4, hcs spare (x3.obj hblk nos), drop_cons hc, set_cell v r.len rfl]
  · rcases List.mem_append.1 hq with hq | hq
    · obtain ⟨q1, q2⟩ := r.own q hq
      exact ⟨⟨(q1.1.ext0 x3).ext' x4 fun b _ e eb => by have := q2 b e; omega, q1.2⟩, q2⟩
    · simp only [List.mem_singleton] at hq
      subst hq
      exact ⟨⟨o3.rd.ext' x4 fun b _ e eb => by have := f3 b e; omega, hz⟩, fun b e => by have := f3 b e; omega⟩
theorem RowI.done {h0 h2 h : Heap} {b1 c1 : Nat} {l out : List Cel} (r : RowI h2 h b1 l l.length out) (x2 : Ext No h0 h2) (hg : h0.size ≤ b1) (hlt : b1 < h2.size) (hn : l.length ≤ c1) (hc : c1 ≤ maxLen) (hl : l.length * 32 ≤ reachBytes) :
    ∃ l', Cels h (.slice (some ⟨b1, 0, none⟩) l.length c1) l' ∧ l'.map Cel.pl = l.map Cel.pl ∧ Ext No h0 h ∧ ∀ b, CelsF (.slice (some ⟨b1, 0, none⟩) l.length c1) l' b → h0.size ≤ b := by
  obtain ⟨spare, hb⟩ := r.blk
  rw [List.drop_length, List.append_nil] at hb
  have s2 := x2.size
  have e := r.len
  refine ⟨out, ?_, by rw [r.pl, List.take_length], x2.trans' r.ext fun b hb e => by omega, ?_⟩
  · rw [← e]
    exact ⟨⟨_, _, rfl, by omega, length_flat Cel.len out, fun _ => ⟨b1, 0, rfl, lt_of_some hb, (At.of_block hb).pre⟩⟩, ⟨by omega, _, _, rfl, hc⟩, fun q hq => (r.own q hq).1⟩
  · rintro b (⟨_, e⟩ | ⟨q, hq, _, e⟩)
    · simp only [Value.ownBlock, Option.some.injEq] at e; omega
    · have := (r.own q hq).2 b e; omega
set_option maxRecDepth 100000 in
theorem row_port {h : Heap} {v : Value} (l : List Cel) (hc : Cels h v l) :
    CallsH Try.prog 112 ⟨[v]⟩ h fun u h' => ∃ l', Cels h' u l' ∧ l'.map Cel.pl = l.map Cel.pl ∧ Ext No h h' ∧ ∀ b, CelsF u l' b → h.size ≤ b := by
  obtain ⟨hr, ⟨hlm, A, c, rfl, hcap⟩, hok⟩ := hc
  have hlm' := hlm
  unfold reachBytes at hlm'
  have h1 := one_cels hok
  by_cases h0 : l = []
  · subst h0
    refine calls [(0, _)] Try.func112 rfl Try.ntmps112 rfl ⟨rfl, trivial⟩ ?_
    all_goals (refine WC.seq ?_)
    all_goals (refine WC.region ?_)
    all_goals (refine WL.step (ok_assign rfl) rfl rfl rfl ?_)
    all_goals (refine WL.nil ?_)
    all_goals (repeat' (with_reducible first | refine thenP_n ?_ | refine blockP_n ?_))
    all_goals (refine WC.seq ?_)
    all_goals (refine WC.region ?_)
    all_goals (refine WL.step (ok_move rfl) rfl rfl rfl ?_)
    all_goals (refine WL.call (vs := [_]) rfl (fun a w => Try.call143 a w) rfl (clone_cells hr h1 hlm) rfl rfl rfl ?_
               rintro v2 h2 ⟨ho2, hx2, hf2⟩)
    all_goals (obtain ⟨A2, c2, rfl, hc2⟩ := ho2.cap')
    all_goals (refine WL.step (ok_assign rfl) rfl rfl rfl ?_)
    all_goals (refine WL.nil ?_)
    all_goals (repeat' (with_reducible first | refine thenP_n ?_ | refine blockP_n ?_))
    all_goals (refine WC.sub [(3, _)] ⟨rfl, trivial⟩ ?_)
    all_goals (refine WC.seq ?_)
    all_goals (refine WC.seq ?_)
    all_goals (refine WC.region ?_)
    all_goals (refine WL.step (ok_move rfl) rfl rfl rfl ?_)
    all_goals (refine WL.step (ok_lenL rfl Try.underlying36 rfl) rfl rfl rfl ?_)
    all_goals (refine WL.step (ok_move rfl) rfl rfl rfl ?_)
    all_goals (refine WL.nil ?_)
    all_goals (repeat' (with_reducible first | refine thenP_n ?_ | refine blockP_n ?_))
    all_goals (refine WC.block ?_)
    -- loop 0: slots that turn [9], that stay [3, 8]
    all_goals (refine WC.loopG (X := Unit) (fun x => ([(9, In (0 : Int))] : Fr)) [(3, _), (8, _)] (fun _ h' => h' = h2) (fun _ => 0) (()) ⟨rfl, rfl, rfl, trivial⟩ (by exact rfl) ?_)
    all_goals (rintro _ h9 hz
               subst h9)
    all_goals (refine WC.sub [(9, _), (3, _), (8, _)] ⟨rfl, rfl, rfl, trivial⟩ ?_)
    all_goals (refine WC.seq ?_)
    all_goals (refine WC.region ?_)
    all_goals (first | (refine WL.step (OkP.bool_t (by omega) (ok_lss rfl rfl)) rfl rfl rfl ?_) | (refine WL.step (OkP.bool_f (by omega) (ok_lss rfl rfl)) rfl rfl rfl ?_) | (refine WL.step (ok_lss rfl rfl) rfl rfl rfl ?_))
    all_goals (refine WL.nil ?_)
    all_goals (repeat' (with_reducible first | refine thenP_n ?_ | refine blockP_n ?_))
    all_goals (refine WC.seq ?_)
    all_goals (first | refine WC.condB_t 1 rfl ?_ | refine WC.condB_f 2 rfl ?_ | (refine WC.condB 1 2 rfl (fun hb => ?_) (fun hb => ?_) <;> (first | replace hb := of_decide_eq_true hb | replace hb := of_decide_eq_false hb | replace hb := of_decide_eq_false (nt hb) | replace hb := of_decide_eq_true (nf hb) | skip)))
    all_goals (first
      | (fail_if_success (refine Br.mk (i := 1) ?_))
      | (refine Br.mk (i := 1) ?_
         all_goals (refine WC.skip ?_)
         skip))
    all_goals (first
      | (fail_if_success (refine Br.mk (i := 2) ?_))
      | (refine Br.mk (i := 2) ?_
         all_goals (refine WC.exit ?_)
         all_goals (repeat' (with_reducible first | refine thenP_x ?_ | refine blockP_miss rfl ?_ | refine blockP_hit ?_ | refine blockP_n ?_ | refine thenP_n ?_))
         all_goals (refine Br.out (i := 1000) ?_)
         skip))
    all_goals (first | (refine Br.keep ?_) | (repeat' (with_reducible first | refine thenP_n ?_ | refine blockP_n ?_)))
    all_goals (first | (refine Br.keep ?_) | (refine WC.seq ?_))
    all_goals (first | (refine Br.keep ?_) | (refine WC.block ?_))
    all_goals (first | (refine Br.keep ?_) | (refine WC.seq ?_))
    all_goals (first | (refine Br.keep ?_) | (refine WC.region ?_))
    all_goals (first | (refine Br.keep ?_) | (refine WL.step (ok_move rfl) rfl rfl rfl ?_))
    all_goals (first | (refine Br.keep ?_) | (refine WL.step (ok_assign rfl) rfl rfl rfl ?_))
    all_goals (first | (refine Br.keep ?_) | (refine WL.nil ?_))
    all_goals (first | (refine Br.keep ?_) | (repeat' (with_reducible first | refine thenP_n ?_ | refine blockP_n ?_)))
    all_goals (first | (refine Br.keep ?_) | (refine WC.region ?_))
    all_goals (first | (refine Br.keep ?_) | (refine WL.step (ok_move rfl) rfl rfl rfl ?_))
    all_goals (first | (refine Br.keep ?_) | (refine WL.step (ok_move rfl) rfl rfl rfl ?_))
    all_goals (first | (refine Br.keep ?_) | (refine WL.step (ok_move rfl) rfl rfl rfl ?_))
    all_goals (first | (refine Br.keep ?_) | (refine WL.step (ok_move rfl) rfl rfl rfl ?_))
    all_goals (first | (refine Br.keep ?_) | (refine WL.step (ok_idxAddrA Try.underlying36 (fun w => Try.sizeOf86 w) rfl rfl rfl (by omega) (by first | rfl | assumption)) rfl rfl rfl ?_))
    all_goals (first | (refine Br.keep ?_) | (refine WL.step (ok_fieldAddr rfl Try.underlying86 rfl (fun w => Try.sizeOf51 w)) rfl rfl rfl ?_))
    all_goals (first | (refine Br.keep ?_) | (refine WL.step (ok_load (fun w => Try.isAgg51 w) rfl (by first | assumption | exact cell_blk (by assumption) rfl)) rfl rfl rfl ?_))
    all_goals (first | (refine Br.keep ?_) | (fail "no contract for call of slices.Clone[[]byte,byte] at 5.7"))
    all_goals (first | (refine Br.keep ?_) | (refine WL.step (ok_idxAddrA Try.underlying36 (fun w => Try.sizeOf86 w) rfl rfl rfl (by omega) (by first | rfl | assumption)) rfl rfl rfl ?_))
    all_goals (first | (refine Br.keep ?_) | (refine WL.step (ok_fieldAddr rfl Try.underlying86 rfl (fun w => Try.sizeOf51 w)) rfl rfl rfl ?_))
    all_goals (first
                 | (refine Br.keep ?_)
                 | (refine WL.stepR0 (okE_store (fun w => Try.sizeOf51 w) rfl rfl (by assumption) (Nat.le_of_ble_eq_true rfl) rfl rfl) rfl rfl ?_
                    rintro _ h1 ⟨hb1, hx1⟩))
    all_goals (first | (refine Br.keep ?_) | (refine WL.nil ?_))
    all_goals (first | (refine Br.keep ?_) | (repeat' (with_reducible first | refine thenP_n ?_ | refine blockP_n ?_)))
    all_goals (first | (refine Br.keep ?_) | (refine WC.sub [(3, _), (8, _), (9, _)] ⟨rfl, rfl, rfl, trivial⟩ ?_))
    all_goals (first | (refine Br.keep ?_) | (refine WC.region ?_))
    all_goals (first | (refine Br.keep ?_) | (first | (refine WL.step (ok_addI rfl rfl (by omega)) rfl rfl rfl ?_) | (refine WL.step (ok_add rfl rfl) rfl rfl rfl ?_)))
    all_goals (first | (refine Br.keep ?_) | (refine WL.step (ok_move rfl) rfl rfl rfl ?_))
    all_goals (first | (refine Br.keep ?_) | (refine WL.nil ?_))
    all_goals (first | (refine Br.keep ?_) | (repeat' (with_reducible first | refine thenP_n ?_ | refine blockP_n ?_)))
    all_goals (first | (refine Br.keep ?_) | (exact ⟨(), ⟨rfl, rfl, rfl, trivial⟩, (by exact ⟨⟩), (by simp; omega)⟩))
    all_goals (try (refine Br.mk (i := 1000) ?_))
    all_goals (repeat' (with_reducible first | refine thenP_n ?_ | refine blockP_n ?_))
    all_goals (refine WC.seq ?_)
    all_goals (refine WC.region ?_)
    all_goals (refine WL.step (ok_move rfl) rfl rfl rfl ?_)
    all_goals (refine WL.step (ok_assign rfl) rfl rfl rfl ?_)
    all_goals (refine WL.nil ?_)
    all_goals (repeat' (with_reducible first | refine thenP_n ?_ | refine blockP_n ?_))
    all_goals (refine WC.sub [(2, _)] ⟨rfl, trivial⟩ ?_)
    all_goals (refine WC.ret ?_)
    all_goals (repeat' (with_reducible first | refine thenP_r ?_ | refine blockP_r ?_))
    all_goals (refine retP_1 _ ⟨rfl, trivial⟩ ?_)
    all_goals (exact ⟨[], ⟨ho2.rd, ⟨by simp, _, _, rfl, hc2⟩, by simp⟩, rfl, hx2, by rintro b (⟨e, _⟩ | ⟨_, e, _⟩); (simp at e); (simp at e)⟩)
  · have hpos : 0 < l.length := List.length_pos_iff.2 h0
    refine calls [(0, _)] Try.func112 rfl Try.ntmps112 rfl ⟨rfl, trivial⟩ ?_
    all_goals (refine WC.seq ?_)
    all_goals (refine WC.region ?_)
    all_goals (refine WL.step (ok_assign rfl) rfl rfl rfl ?_)
    all_goals (refine WL.nil ?_)
    all_goals (repeat' (with_reducible first | refine thenP_n ?_ | refine blockP_n ?_))
    all_goals (refine WC.seq ?_)
    all_goals (refine WC.region ?_)
    all_goals (refine WL.step (ok_move rfl) rfl rfl rfl ?_)
    all_goals (refine WL.call (vs := [_]) rfl (fun a w => Try.call143 a w) rfl (clone_cells hr h1 hlm) rfl rfl rfl ?_
               rintro v2 h2 ⟨ho2, hx2, hf2⟩)
    all_goals (obtain ⟨b1, c1, cs, rfl, hb1, hnc, hcm, hcl, hct⟩ := ho2.block hpos
               have hlt1 := lt_of_some hb1
               have hg1 := hf2 b1 rfl
               have hi0 : RowI h2 h2 b1 l 0 [] := ⟨Nat.zero_le _, rfl, rfl, ⟨cs.drop (l.length * 2), by rw [List.nil_append, List.drop_zero, ← hct, List.take_append_drop]; exact hb1⟩, by simp, .refl _ _⟩)
    all_goals (refine WL.step (ok_assign rfl) rfl rfl rfl ?_)
    all_goals (refine WL.nil ?_)
    all_goals (repeat' (with_reducible first | refine thenP_n ?_ | refine blockP_n ?_))
    all_goals (refine WC.sub [(3, _)] ⟨rfl, trivial⟩ ?_)
    all_goals (refine WC.seq ?_)
    all_goals (refine WC.seq ?_)
    all_goals (refine WC.region ?_)
    all_goals (refine WL.step (ok_move rfl) rfl rfl rfl ?_)
    all_goals (refine WL.step (ok_lenL rfl Try.underlying36 rfl) rfl rfl rfl ?_)
    all_goals (refine WL.step (ok_move rfl) rfl rfl rfl ?_)
    all_goals (refine WL.nil ?_)
    all_goals (repeat' (with_reducible first | refine thenP_n ?_ | refine blockP_n ?_))
    all_goals (refine WC.block ?_)
    -- loop 0: slots that turn [9], that stay [3, 8]
    all_goals (refine WC.loopG (X := Nat × List Cel) (fun x => ([(9, In (x.1 : Int))] : Fr)) [(3, _), (8, _)] (fun x h' => RowI h2 h' b1 l x.1 x.2) (fun x => l.length - x.1) ((0, [])) ⟨rfl, rfl, rfl, trivial⟩ (by exact hi0) ?_)
    all_goals (rintro ⟨k, out⟩ h3 ri
               simp only at ri
               have hk := ri.le)
    all_goals (refine WC.sub [(9, _), (3, _), (8, _)] ⟨rfl, rfl, rfl, trivial⟩ ?_)
    all_goals (dsimp only)
    all_goals (refine WC.seq ?_)
    all_goals (refine WC.region ?_)
    all_goals (first | (refine WL.step (OkP.bool_t (by omega) (ok_lss rfl rfl)) rfl rfl rfl ?_) | (refine WL.step (OkP.bool_f (by omega) (ok_lss rfl rfl)) rfl rfl rfl ?_) | (refine WL.step (ok_lss rfl rfl) rfl rfl rfl ?_))
    all_goals (refine WL.nil ?_)
    all_goals (repeat' (with_reducible first | refine thenP_n ?_ | refine blockP_n ?_))
    all_goals (refine WC.seq ?_)
    all_goals (first | refine WC.condB_t 1 rfl ?_ | refine WC.condB_f 2 rfl ?_ | (refine WC.condB 1 2 rfl (fun hb => ?_) (fun hb => ?_) <;> (first | replace hb := of_decide_eq_true hb | replace hb := of_decide_eq_false hb | replace hb := of_decide_eq_false (nt hb) | replace hb := of_decide_eq_true (nf hb) | skip)))
    all_goals (first
      | (fail_if_success (refine Br.mk (i := 1) ?_))
      | (refine Br.mk (i := 1) ?_
         all_goals (refine WC.skip ?_)
         skip))
    all_goals (first
      | (fail_if_success (refine Br.mk (i := 2) ?_))
      | (refine Br.mk (i := 2) ?_
         all_goals (refine WC.exit ?_)
         all_goals (repeat' (with_reducible first | refine thenP_x ?_ | refine blockP_miss rfl ?_ | refine blockP_hit ?_ | refine blockP_n ?_ | refine thenP_n ?_))
         all_goals (refine Br.out (i := 1000) ?_)
         skip))
    all_goals (first | (refine Br.keep ?_) | (repeat' (with_reducible first | refine thenP_n ?_ | refine blockP_n ?_)))
    all_goals (first | (refine Br.keep ?_) | (refine WC.seq ?_))
    all_goals (first | (refine Br.keep ?_) | (refine WC.block ?_))
    all_goals (first | (refine Br.keep ?_) | (refine WC.seq ?_))
    all_goals (first | (refine Br.keep ?_) | (refine WC.region ?_))
    all_goals (first | (refine Br.keep ?_) | (refine WL.step (ok_move rfl) rfl rfl rfl ?_))
    all_goals (first | (refine Br.keep ?_) | (refine WL.step (ok_assign rfl) rfl rfl rfl ?_))
    all_goals (first | (refine Br.keep ?_) | (refine WL.nil ?_))
    all_goals (first | (refine Br.keep ?_) | (repeat' (with_reducible first | refine thenP_n ?_ | refine blockP_n ?_)))
    all_goals (first
                 | (refine Br.keep ?_)
                 | (obtain ⟨⟨n1, v1, s1⟩, hc1⟩ : ∃ y, l[k]? = some y := ⟨_, List.getElem?_eq_getElem (by omega)⟩
                    have hx23 := ri.ext
                    obtain ⟨spare, hblk⟩ := ri.blk
                    obtain ⟨ok1, hsl⟩ := hok _ (List.mem_of_getElem? hc1)
                    simp only at ok1 hsl
                    obtain ⟨A1, k1, rfl, _⟩ := id ok1
                    have E3 : Ext No h h3 := hx2.trans' hx23 (fun b hb e => by omega)
                    have atb : At h3 b1 (0 + k * 2) [.bool n1, .slice A1 s1.length k1] := At.elem (xs := out ++ l.drop k) Cel.len ((At.of_block hblk).pre) (get_mid hc1 ri.len)))
    all_goals (first | (refine Br.keep ?_) | (refine WC.region ?_))
    all_goals (first | (refine Br.keep ?_) | (refine WL.step (ok_move rfl) rfl rfl rfl ?_))
    all_goals (first | (refine Br.keep ?_) | (refine WL.step (ok_move rfl) rfl rfl rfl ?_))
    all_goals (first | (refine Br.keep ?_) | (refine WL.step (ok_move rfl) rfl rfl rfl ?_))
    all_goals (first | (refine Br.keep ?_) | (refine WL.step (ok_move rfl) rfl rfl rfl ?_))
    all_goals (first | (refine Br.keep ?_) | (refine WL.step (ok_idxAddrA Try.underlying36 (fun w => Try.sizeOf86 w) rfl rfl rfl (by omega) (by first | rfl | assumption)) rfl rfl rfl ?_))
    all_goals (first | (refine Br.keep ?_) | (refine WL.step (ok_fieldAddr rfl Try.underlying86 rfl (fun w => Try.sizeOf51 w)) rfl rfl rfl ?_))
    all_goals (first | (refine Br.keep ?_) | (refine WL.step (ok_load (fun w => Try.isAgg51 w) rfl (by first | exact atb.get 1 rfl rfl | assumption | exact cell_blk (by assumption) rfl)) rfl rfl rfl ?_))
    all_goals (first
                 | (refine Br.keep ?_)
                 | (refine WL.call (vs := [_]) rfl (fun a w => Try.call144 a w) rfl (clone_bytes s1 (ok1.ext0 E3) hsl) rfl rfl rfl ?_
                    rintro v6 h6 ⟨ho6, hx6, hf6⟩))
    all_goals (first | (refine Br.keep ?_) | (obtain ⟨A6, c6, rfl, _⟩ := ho6.slice))
    all_goals (first | (refine Br.keep ?_) | (refine WL.step (ok_idxAddrA Try.underlying36 (fun w => Try.sizeOf86 w) rfl rfl rfl (by omega) (by first | rfl | assumption)) rfl rfl rfl ?_))
    all_goals (first | (refine Br.keep ?_) | (refine WL.step (ok_fieldAddr rfl Try.underlying86 rfl (fun w => Try.sizeOf51 w)) rfl rfl rfl ?_))
    all_goals (first
                 | (refine Br.keep ?_)
                 | (refine WL.stepR0 (okE_store (fun w => Try.sizeOf51 w) rfl rfl (hx6.obj hblk nos) (by simp [length_flat Cel.len, ri.len]; omega) rfl rfl) rfl rfl ?_
                    rintro _ h7 ⟨hb7, hx7⟩))
    all_goals (first | (refine Br.keep ?_) | (refine WL.nil ?_))
    all_goals (first | (refine Br.keep ?_) | (repeat' (with_reducible first | refine thenP_n ?_ | refine blockP_n ?_)))
    all_goals (first | (refine Br.keep ?_) | (refine WC.sub [(3, _), (8, _), (9, _)] ⟨rfl, rfl, rfl, trivial⟩ ?_))
    all_goals (first | (refine Br.keep ?_) | (refine WC.region ?_))
    all_goals (first | (refine Br.keep ?_) | (first | (refine WL.step (ok_addI rfl rfl (by omega)) rfl rfl rfl ?_) | (refine WL.step (ok_add rfl rfl) rfl rfl rfl ?_)))
    all_goals (first | (refine Br.keep ?_) | (refine WL.step (ok_move rfl) rfl rfl rfl ?_))
    all_goals (first | (refine Br.keep ?_) | (refine WL.nil ?_))
    all_goals (first | (refine Br.keep ?_) | (repeat' (with_reducible first | refine thenP_n ?_ | refine blockP_n ?_)))
    all_goals (first | (refine Br.keep ?_) | (exact ⟨(k + 1, out ++ [_]), ⟨rfl, rfl, rfl, trivial⟩, (by exact ri.next hc1 hx6 ho6 hf6 (fun sp e => by rw [hx6.obj hblk nos] at e; simp only [Option.some.injEq, Obj.cells.injEq, Array.mk.injEq] at e; obtain rfl := List.append_cancel_left e.1; rfl) hb7 hx7 hlt1 hsl), (by simp; omega)⟩))
    all_goals (try (refine Br.mk (i := 1000) ?_))
    all_goals (repeat' (with_reducible first | refine thenP_n ?_ | refine blockP_n ?_))
    all_goals (refine WC.seq ?_)
    all_goals (refine WC.region ?_)
    all_goals (refine WL.step (ok_move rfl) rfl rfl rfl ?_)
    all_goals (refine WL.step (ok_assign rfl) rfl rfl rfl ?_)
    all_goals (refine WL.nil ?_)
    all_goals (repeat' (with_reducible first | refine thenP_n ?_ | refine blockP_n ?_))
    all_goals (refine WC.sub [(2, _)] ⟨rfl, trivial⟩ ?_)
    all_goals (refine WC.ret ?_)
    all_goals (repeat' (with_reducible first | refine thenP_r ?_ | refine blockP_r ?_))
    all_goals (refine retP_1 _ ⟨rfl, trivial⟩ ?_)
    all_goals (obtain rfl : k = l.length := by omega
               exact ri.done hx2 hg1 hlt1 hnc hcm hlm)
theorem set_rw {out rest : List Rw} {r : Rw} {spare : List Value} {k o : Nat} (u : Rw) (hk : out.length = k) (ho : o = 0 + k * 1) :
    ((out ++ r :: rest).map Rw.v ++ spare).set o u.v = (out ++ [u] ++ rest).map Rw.v ++ spare := by
  have hfl : (out.map Rw.v).length = k := by simp [hk]
  subst ho
  simp only [List.map_append, List.map_cons, List.append_assoc, List.map_nil, List.cons_append, List.nil_append]
  rw [List.set_append_right _ _ (by omega), hfl]
  have : 0 + k * 1 - k = 0 := by omega
  rw [this]
  rfl
structure TabI (h2 h : Heap) (b1 : Nat) (L : List Rw) (k : Nat) (out : List Rw) : Prop where
  le : k ≤ L.length
  len : out.length = k
  pl : out.map Rw.pl = (L.take k).map Rw.pl
  blk : ∃ spare, h[b1]? = some (.cells ⟨(out ++ L.drop k).map Rw.v ++ spare⟩ 36 (0, 0))
  own : ∀ r ∈ out, Cels h r.v r.l ∧ ∀ b, CelsF r.v r.l b → h2.size ≤ b
  ext : Ext (fun b => b = b1) h2 h
theorem TabI.next {h2 h h3 h4 : Heap} {b1 k : Nat} {L out : List Rw} {r : Rw} {v : Value} {l' : List Cel} {cs : List Value} (i : TabI h2 h b1 L k out) (hc : L[k]? = some r) (x3 : Ext No h h3) (c3 : Cels h3 v l') (p3 : l'.map Cel.pl = r.l.map Cel.pl) (f3 : ∀ b, CelsF v l' b → h.size ≤ b)
    (hcs : ∀ spare, h3[b1]? = some (.cells ⟨(out ++ L.drop k).map Rw.v ++ spare⟩ 36 (0, 0)) → cs = ((out ++ L.drop k).map Rw.v ++ spare).set (0 + k * 1) v) (hb4 : h4[b1]? = some (.cells ⟨cs⟩ 36 (0, 0))) (x4 : Ext (fun b => b = b1) h3 h4) (hb : b1 < h2.size) :
    TabI h2 h4 b1 L (k + 1) (out ++ [⟨v, l'⟩]) := by
  have s0 := i.ext.size
  have s3 := x3.size
  have hkl : k < L.length := (List.getElem?_eq_some_iff.1 hc).1
  obtain ⟨spare, hblk⟩ := i.blk
  refine ⟨hkl, by simp [i.len], ?_, ⟨spare, ?_⟩, fun q hq => ?_, (i.ext.trans' x3 fun _ _ e => e.elim).trans x4⟩
  · rw [List.map_append, i.pl, List.take_add_one, hc, List.map_append]
    simp [Rw.pl, p3]
  · rw [hb4, hcs spare (x3.obj hblk nos), drop_cons hc, set_rw (⟨v, l'⟩ : Rw) i.len rfl]
  · rcases List.mem_append.1 hq with hq | hq
    · obtain ⟨q1, q2⟩ := i.own q hq
      exact ⟨(q1.ext0 x3).ext x4 fun b e eb => by have := q2 b e; omega, q2⟩
    · simp only [List.mem_singleton] at hq
      subst hq
      exact ⟨c3.ext x4 fun b e eb => by have := f3 b e; omega, fun b e => by have := f3 b e; omega⟩
theorem TabI.done {h0 h2 h : Heap} {b1 c1 : Nat} {L out : List Rw} (r : TabI h2 h b1 L L.length out) (x2 : Ext No h0 h2) (hg : h0.size ≤ b1) (hlt : b1 < h2.size) (hn : L.length ≤ c1) (hc : c1 ≤ maxLen) (hl : L.length * 24 ≤ reachBytes) :
    ∃ L', Rws h (.slice (some ⟨b1, 0, none⟩) L.length c1) L' ∧ L'.map Rw.pl = L.map Rw.pl ∧ Ext No h0 h ∧ ∀ b, RwsF (.slice (some ⟨b1, 0, none⟩) L.length c1) L' b → h0.size ≤ b := by
  obtain ⟨spare, hb⟩ := r.blk
  rw [List.drop_length, List.append_nil] at hb
  have s2 := x2.size
  have e := r.len
  refine ⟨out, ?_, by rw [r.pl, List.take_length], x2.trans' r.ext fun b hb e => by omega, ?_⟩
  · rw [← e]
    exact ⟨⟨_, _, rfl, by omega, by simp, fun _ => ⟨b1, 0, rfl, lt_of_some hb, (At.of_block hb).pre⟩⟩, ⟨by omega, _, _, rfl, hc⟩, fun q hq => (r.own q hq).1⟩
  · rintro b (⟨_, e⟩ | ⟨q, hq, e⟩)
    · simp only [Value.ownBlock, Option.some.injEq] at e; omega
    · have := (r.own q hq).2 b e; omega
theorem one_rws {h : Heap} {L : List Rw} (hl : ∀ r ∈ L, Cels h r.v r.l) : ∀ v ∈ L.map Rw.v, v.oneCell' = true := by
  intro v hv
  obtain ⟨r, hr, rfl⟩ := List.mem_map.1 hv
  obtain ⟨_, ⟨_, _, _, e, _⟩, _⟩ := hl r hr
  rw [e]; rfl
set_option maxRecDepth 100000 in
theorem table_port {h : Heap} {v : Value} (L : List Rw) (hc : Rws h v L) :
    CallsH Try.prog 83 ⟨[v]⟩ h fun u h' => ∃ L', Rws h' u L' ∧ L'.map Rw.pl = L.map Rw.pl ∧ Ext No h h' ∧ ∀ b, RwsF u L' b → h.size ≤ b := by
  obtain ⟨hr, ⟨hlm, A, c, rfl, hcap⟩, hok⟩ := hc
  have hlm' := hlm
  unfold reachBytes at hlm'
  have h1 := one_rws hok
  by_cases h0 : L = []
  · subst h0
    refine calls [(0, _)] Try.func83 rfl Try.ntmps83 rfl ⟨rfl, trivial⟩ ?_
    all_goals (refine WC.seq ?_)
    all_goals (refine WC.region ?_)
    all_goals (refine WL.step (ok_assign rfl) rfl rfl rfl ?_)
    all_goals (refine WL.nil ?_)
    all_goals (repeat' (with_reducible first | refine thenP_n ?_ | refine blockP_n ?_))
    all_goals (refine WC.seq ?_)
    all_goals (refine WC.region ?_)
    all_goals (refine WL.step (ok_move rfl) rfl rfl rfl ?_)
    all_goals (refine WL.call (vs := [_]) rfl (fun a w => Try.call113 a w) rfl (clone_rows hr h1 hlm) rfl rfl rfl ?_
               rintro v2 h2 ⟨ho2, hx2, hf2⟩)
    all_goals (obtain ⟨A2, c2, rfl, hc2⟩ := ho2.cap')
    all_goals (refine WL.step (ok_assign rfl) rfl rfl rfl ?_)
    all_goals (refine WL.nil ?_)
    all_goals (repeat' (with_reducible first | refine thenP_n ?_ | refine blockP_n ?_))
    all_goals (refine WC.sub [(3, _)] ⟨rfl, trivial⟩ ?_)
    all_goals (refine WC.seq ?_)
    all_goals (refine WC.seq ?_)
    all_goals (refine WC.region ?_)
    all_goals (refine WL.step (ok_move rfl) rfl rfl rfl ?_)
    all_goals (refine WL.step (ok_lenL rfl Try.underlying37 rfl) rfl rfl rfl ?_)
    all_goals (refine WL.step (ok_move rfl) rfl rfl rfl ?_)
    all_goals (refine WL.nil ?_)
    all_goals (repeat' (with_reducible first | refine thenP_n ?_ | refine blockP_n ?_))
    all_goals (refine WC.block ?_)
    -- loop 0: slots that turn [9], that stay [3, 8]
    all_goals (refine WC.loopG (X := Unit) (fun x => ([(9, In (0 : Int))] : Fr)) [(3, _), (8, _)] (fun _ h' => h' = h2) (fun _ => 0) (()) ⟨rfl, rfl, rfl, trivial⟩ (by exact rfl) ?_)
    all_goals (rintro _ h9 hz
               subst h9)
    all_goals (refine WC.sub [(9, _), (3, _), (8, _)] ⟨rfl, rfl, rfl, trivial⟩ ?_)
    all_goals (refine WC.seq ?_)
    all_goals (refine WC.region ?_)
    all_goals (first | (refine WL.step (OkP.bool_t (by omega) (ok_lss rfl rfl)) rfl rfl rfl ?_) | (refine WL.step (OkP.bool_f (by omega) (ok_lss rfl rfl)) rfl rfl rfl ?_) | (refine WL.step (ok_lss rfl rfl) rfl rfl rfl ?_))
    all_goals (refine WL.nil ?_)
    all_goals (repeat' (with_reducible first | refine thenP_n ?_ | refine blockP_n ?_))
    all_goals (refine WC.seq ?_)
    all_goals (first | refine WC.condB_t 1 rfl ?_ | refine WC.condB_f 2 rfl ?_ | (refine WC.condB 1 2 rfl (fun hb => ?_) (fun hb => ?_) <;> (first | replace hb := of_decide_eq_true hb | replace hb := of_decide_eq_false hb | replace hb := of_decide_eq_false (nt hb) | replace hb := of_decide_eq_true (nf hb) | skip)))
    all_goals (first
      | (fail_if_success (refine Br.mk (i := 1) ?_))
      | (refine Br.mk (i := 1) ?_
         all_goals (refine WC.skip ?_)
         skip))
    all_goals (first
      | (fail_if_success (refine Br.mk (i := 2) ?_))
      | (refine Br.mk (i := 2) ?_
         all_goals (refine WC.exit ?_)
         all_goals (repeat' (with_reducible first | refine thenP_x ?_ | refine blockP_miss rfl ?_ | refine blockP_hit ?_ | refine blockP_n ?_ | refine thenP_n ?_))
         all_goals (refine Br.out (i := 1000) ?_)
         skip))
    all_goals (first | (refine Br.keep ?_) | (repeat' (with_reducible first | refine thenP_n ?_ | refine blockP_n ?_)))
    all_goals (first | (refine Br.keep ?_) | (refine WC.seq ?_))
    all_goals (first | (refine Br.keep ?_) | (refine WC.block ?_))
    all_goals (first | (refine Br.keep ?_) | (refine WC.seq ?_))
    all_goals (first | (refine Br.keep ?_) | (refine WC.region ?_))
    all_goals (first | (refine Br.keep ?_) | (refine WL.step (ok_move rfl) rfl rfl rfl ?_))
    all_goals (first | (refine Br.keep ?_) | (refine WL.step (ok_assign rfl) rfl rfl rfl ?_))
    all_goals (first | (refine Br.keep ?_) | (refine WL.nil ?_))
    all_goals (first | (refine Br.keep ?_) | (repeat' (with_reducible first | refine thenP_n ?_ | refine blockP_n ?_)))
    all_goals (first | (refine Br.keep ?_) | (refine WC.region ?_))
    all_goals (first | (refine Br.keep ?_) | (refine WL.step (ok_move rfl) rfl rfl rfl ?_))
    all_goals (first | (refine Br.keep ?_) | (refine WL.step (ok_move rfl) rfl rfl rfl ?_))
    all_goals (first | (refine Br.keep ?_) | (refine WL.step (ok_move rfl) rfl rfl rfl ?_))
    all_goals (first | (refine Br.keep ?_) | (refine WL.step (ok_move rfl) rfl rfl rfl ?_))
    all_goals (first | (refine Br.keep ?_) | (refine WL.step (ok_idxAddrA Try.underlying37 (fun w => Try.sizeOf36 w) rfl rfl rfl (by omega) (by first | rfl | assumption)) rfl rfl rfl ?_))
    all_goals (first | (refine Br.keep ?_) | (refine WL.step (ok_load (fun w => Try.isAgg36 w) rfl (by first | assumption | exact cell_blk (by assumption) rfl)) rfl rfl rfl ?_))
    all_goals (first | (refine Br.keep ?_) | (fail "no contract for call of remuda/portal.row at 5.6"))
    all_goals (first | (refine Br.keep ?_) | (refine WL.step (ok_idxAddrA Try.underlying37 (fun w => Try.sizeOf36 w) rfl rfl rfl (by omega) (by first | rfl | assumption)) rfl rfl rfl ?_))
    all_goals (first
                 | (refine Br.keep ?_)
                 | (refine WL.stepR0 (okE_store (fun w => Try.sizeOf36 w) rfl rfl (by assumption) (Nat.le_of_ble_eq_true rfl) rfl rfl) rfl rfl ?_
                    rintro _ h1 ⟨hb1, hx1⟩))
    all_goals (first | (refine Br.keep ?_) | (refine WL.nil ?_))
    all_goals (first | (refine Br.keep ?_) | (repeat' (with_reducible first | refine thenP_n ?_ | refine blockP_n ?_)))
    all_goals (first | (refine Br.keep ?_) | (refine WC.sub [(3, _), (8, _), (9, _)] ⟨rfl, rfl, rfl, trivial⟩ ?_))
    all_goals (first | (refine Br.keep ?_) | (refine WC.region ?_))
    all_goals (first | (refine Br.keep ?_) | (first | (refine WL.step (ok_addI rfl rfl (by omega)) rfl rfl rfl ?_) | (refine WL.step (ok_add rfl rfl) rfl rfl rfl ?_)))
    all_goals (first | (refine Br.keep ?_) | (refine WL.step (ok_move rfl) rfl rfl rfl ?_))
    all_goals (first | (refine Br.keep ?_) | (refine WL.nil ?_))
    all_goals (first | (refine Br.keep ?_) | (repeat' (with_reducible first | refine thenP_n ?_ | refine blockP_n ?_)))
    all_goals (first | (refine Br.keep ?_) | (exact ⟨(), ⟨rfl, rfl, rfl, trivial⟩, (by exact ⟨⟩), (by simp; omega)⟩))
    all_goals (try (refine Br.mk (i := 1000) ?_))
    all_goals (repeat' (with_reducible first | refine thenP_n ?_ | refine blockP_n ?_))
    all_goals (refine WC.seq ?_)
    all_goals (refine WC.region ?_)
    all_goals (refine WL.step (ok_move rfl) rfl rfl rfl ?_)
    all_goals (refine WL.step (ok_assign rfl) rfl rfl rfl ?_)
    all_goals (refine WL.nil ?_)
    all_goals (repeat' (with_reducible first | refine thenP_n ?_ | refine blockP_n ?_))
    all_goals (refine WC.sub [(2, _)] ⟨rfl, trivial⟩ ?_)
    all_goals (refine WC.ret ?_)
    all_goals (repeat' (with_reducible first | refine thenP_r ?_ | refine blockP_r ?_))
    all_goals (refine retP_1 _ ⟨rfl, trivial⟩ ?_)
    all_goals (exact ⟨[], ⟨ho2.rd, ⟨by simp, _, _, rfl, hc2⟩, by simp⟩, rfl, hx2, by rintro b (⟨e, _⟩ | ⟨_, e, _⟩); (simp at e); (simp at e)⟩)
  · have hpos : 0 < L.length := List.length_pos_iff.2 h0
    refine calls [(0, _)] Try.func83 rfl Try.ntmps83 rfl ⟨rfl, trivial⟩ ?_
    all_goals (refine WC.seq ?_)
    all_goals (refine WC.region ?_)
    all_goals (refine WL.step (ok_assign rfl) rfl rfl rfl ?_)
    all_goals (refine WL.nil ?_)
    all_goals (repeat' (with_reducible first | refine thenP_n ?_ | refine blockP_n ?_))
    all_goals (refine WC.seq ?_)
    all_goals (refine WC.region ?_)
    all_goals (refine WL.step (ok_move rfl) rfl rfl rfl ?_)
    all_goals (refine WL.call (vs := [_]) rfl (fun a w => Try.call113 a w) rfl (clone_rows hr h1 hlm) rfl rfl rfl ?_
               rintro v2 h2 ⟨ho2, hx2, hf2⟩)
    all_goals (obtain ⟨b1, c1, cs, rfl, hb1, hnc, hcm, hcl, hct⟩ := ho2.block hpos
               have hlt1 := lt_of_some hb1
               have hg1 := hf2 b1 rfl
               have hi0 : TabI h2 h2 b1 L 0 [] := ⟨Nat.zero_le _, rfl, rfl, ⟨cs.drop (L.length * 1), by rw [List.nil_append, List.drop_zero, ← hct, List.take_append_drop]; exact hb1⟩, by simp, .refl _ _⟩)
    all_goals (refine WL.step (ok_assign rfl) rfl rfl rfl ?_)
    all_goals (refine WL.nil ?_)
    all_goals (repeat' (with_reducible first | refine thenP_n ?_ | refine blockP_n ?_))
    all_goals (refine WC.sub [(3, _)] ⟨rfl, trivial⟩ ?_)
    all_goals (refine WC.seq ?_)
    all_goals (refine WC.seq ?_)
    all_goals (refine WC.region ?_)
    all_goals (refine WL.step (ok_move rfl) rfl rfl rfl ?_)
    all_goals (refine WL.step (ok_lenL rfl Try.underlying37 rfl) rfl rfl rfl ?_)
    all_goals (refine WL.step (ok_move rfl) rfl rfl rfl ?_)
    all_goals (refine WL.nil ?_)
    all_goals (repeat' (with_reducible first | refine thenP_n ?_ | refine blockP_n ?_))
    all_goals (refine WC.block ?_)
    -- loop 0: slots that turn [9], that stay [3, 8]
    all_goals (refine WC.loopG (X := Nat × List Rw) (fun x => ([(9, In (x.1 : Int))] : Fr)) [(3, _), (8, _)] (fun x h' => TabI h2 h' b1 L x.1 x.2) (fun x => L.length - x.1) ((0, [])) ⟨rfl, rfl, rfl, trivial⟩ (by exact hi0) ?_)
    all_goals (rintro ⟨k, out⟩ h3 ri
               simp only at ri
               have hk := ri.le)
    all_goals (refine WC.sub [(9, _), (3, _), (8, _)] ⟨rfl, rfl, rfl, trivial⟩ ?_)
    all_goals (dsimp only)
    all_goals (refine WC.seq ?_)
    all_goals (refine WC.region ?_)
    all_goals (first | (refine WL.step (OkP.bool_t (by omega) (ok_lss rfl rfl)) rfl rfl rfl ?_) | (refine WL.step (OkP.bool_f (by omega) (ok_lss rfl rfl)) rfl rfl rfl ?_) | (refine WL.step (ok_lss rfl rfl) rfl rfl rfl ?_))
    all_goals (refine WL.nil ?_)
    all_goals (repeat' (with_reducible first | refine thenP_n ?_ | refine blockP_n ?_))
    all_goals (refine WC.seq ?_)
    all_goals (first | refine WC.condB_t 1 rfl ?_ | refine WC.condB_f 2 rfl ?_ | (refine WC.condB 1 2 rfl (fun hb => ?_) (fun hb => ?_) <;> (first | replace hb := of_decide_eq_true hb | replace hb := of_decide_eq_false hb | replace hb := of_decide_eq_false (nt hb) | replace hb := of_decide_eq_true (nf hb) | skip)))
    all_goals (first
      | (fail_if_success (refine Br.mk (i := 1) ?_))
      | (refine Br.mk (i := 1) ?_
         all_goals (refine WC.skip ?_)
         skip))
    all_goals (first
      | (fail_if_success (refine Br.mk (i := 2) ?_))
      | (refine Br.mk (i := 2) ?_
         all_goals (refine WC.exit ?_)
         all_goals (repeat' (with_reducible first | refine thenP_x ?_ | refine blockP_miss rfl ?_ | refine blockP_hit ?_ | refine blockP_n ?_ | refine thenP_n ?_))
         all_goals (refine Br.out (i := 1000) ?_)
         skip))
    all_goals (first | (refine Br.keep ?_) | (repeat' (with_reducible first | refine thenP_n ?_ | refine blockP_n ?_)))
    all_goals (first | (refine Br.keep ?_) | (refine WC.seq ?_))
    all_goals (first | (refine Br.keep ?_) | (refine WC.block ?_))
    all_goals (first | (refine Br.keep ?_) | (refine WC.seq ?_))
    all_goals (first | (refine Br.keep ?_) | (refine WC.region ?_))
    all_goals (first | (refine Br.keep ?_) | (refine WL.step (ok_move rfl) rfl rfl rfl ?_))
    all_goals (first | (refine Br.keep ?_) | (refine WL.step (ok_assign rfl) rfl rfl rfl ?_))
    all_goals (first | (refine Br.keep ?_) | (refine WL.nil ?_))
    all_goals (first | (refine Br.keep ?_) | (repeat' (with_reducible first | refine thenP_n ?_ | refine blockP_n ?_)))
    all_goals (first
                 | (refine Br.keep ?_)
                 | (obtain ⟨⟨v1, l1⟩, hc1⟩ : ∃ y, L[k]? = some y := ⟨_, List.getElem?_eq_getElem (by omega)⟩
                    have hx23 := ri.ext
                    obtain ⟨spare, hblk⟩ := ri.blk
                    have ok1 := hok _ (List.mem_of_getElem? hc1)
                    simp only at ok1
                    have E3 : Ext No h h3 := hx2.trans' hx23 (fun b hb e => by omega)
                    have atb : cell h3 ⟨b1, 0 + k * 1, none⟩ = some v1 := ((At.of_block hblk).pre).get k (by rw [List.getElem?_map, get_mid hc1 ri.len]; exact rfl) (by omega)))
    all_goals (first | (refine Br.keep ?_) | (refine WC.region ?_))
    all_goals (first | (refine Br.keep ?_) | (refine WL.step (ok_move rfl) rfl rfl rfl ?_))
    all_goals (first | (refine Br.keep ?_) | (refine WL.step (ok_move rfl) rfl rfl rfl ?_))
    all_goals (first | (refine Br.keep ?_) | (refine WL.step (ok_move rfl) rfl rfl rfl ?_))
    all_goals (first | (refine Br.keep ?_) | (refine WL.step (ok_move rfl) rfl rfl rfl ?_))
    all_goals (first | (refine Br.keep ?_) | (refine WL.step (ok_idxAddrA Try.underlying37 (fun w => Try.sizeOf36 w) rfl rfl rfl (by omega) (by first | rfl | assumption)) rfl rfl rfl ?_))
    all_goals (first | (refine Br.keep ?_) | (refine WL.step (ok_load (fun w => Try.isAgg36 w) rfl (by first | exact atb | assumption | exact cell_blk (by assumption) rfl)) rfl rfl rfl ?_))
    all_goals (first
                 | (refine Br.keep ?_)
                 | (refine WL.call (vs := [_]) rfl (fun a w => Try.call112 a w) rfl (row_port l1 (ok1.ext0 E3)) rfl rfl rfl ?_
                    rintro v6 h6 ⟨l6, hc6, hp6, hx6, hf6⟩))
    all_goals (first | (refine Br.keep ?_) | (obtain ⟨A6, c6, rfl⟩ : ∃ A c, v6 = .slice A l6.length c := (by obtain ⟨_, ⟨_, A, c, e, _⟩, _⟩ := hc6; exact ⟨A, c, e⟩)))
    all_goals (first | (refine Br.keep ?_) | (refine WL.step (ok_idxAddrA Try.underlying37 (fun w => Try.sizeOf36 w) rfl rfl rfl (by omega) (by first | rfl | assumption)) rfl rfl rfl ?_))
    all_goals (first
                 | (refine Br.keep ?_)
                 | (refine WL.stepR0 (okE_store (fun w => Try.sizeOf36 w) rfl rfl (hx6.obj hblk nos) (by simp [ri.len]; omega) rfl rfl) rfl rfl ?_
                    rintro _ h7 ⟨hb7, hx7⟩))
    all_goals (first | (refine Br.keep ?_) | (refine WL.nil ?_))
    all_goals (first | (refine Br.keep ?_) | (repeat' (with_reducible first | refine thenP_n ?_ | refine blockP_n ?_)))
    all_goals (first | (refine Br.keep ?_) | (refine WC.sub [(3, _), (8, _), (9, _)] ⟨rfl, rfl, rfl, trivial⟩ ?_))
    all_goals (first | (refine Br.keep ?_) | (refine WC.region ?_))
    all_goals (first | (refine Br.keep ?_) | (first | (refine WL.step (ok_addI rfl rfl (by omega)) rfl rfl rfl ?_) | (refine WL.step (ok_add rfl rfl) rfl rfl rfl ?_)))
    all_goals (first | (refine Br.keep ?_) | (refine WL.step (ok_move rfl) rfl rfl rfl ?_))
    all_goals (first | (refine Br.keep ?_) | (refine WL.nil ?_))
    all_goals (first | (refine Br.keep ?_) | (repeat' (with_reducible first | refine thenP_n ?_ | refine blockP_n ?_)))
    all_goals (first | (refine Br.keep ?_) | (exact ⟨(k + 1, out ++ [_]), ⟨rfl, rfl, rfl, trivial⟩, (by exact ri.next hc1 hx6 hc6 hp6 hf6 (fun sp e => by rw [hx6.obj hblk nos] at e; simp only [Option.some.injEq, Obj.cells.injEq, Array.mk.injEq] at e; obtain rfl := List.append_cancel_left e.1; rfl) hb7 hx7 hlt1), (by simp; omega)⟩))
    all_goals (try (refine Br.mk (i := 1000) ?_))
    all_goals (repeat' (with_reducible first | refine thenP_n ?_ | refine blockP_n ?_))
    all_goals (refine WC.seq ?_)
    all_goals (refine WC.region ?_)
    all_goals (refine WL.step (ok_move rfl) rfl rfl rfl ?_)
    all_goals (refine WL.step (ok_assign rfl) rfl rfl rfl ?_)
    all_goals (refine WL.nil ?_)
    all_goals (repeat' (with_reducible first | refine thenP_n ?_ | refine blockP_n ?_))
    all_goals (refine WC.sub [(2, _)] ⟨rfl, trivial⟩ ?_)
    all_goals (refine WC.ret ?_)
    all_goals (repeat' (with_reducible first | refine thenP_r ?_ | refine blockP_r ?_))
    all_goals (refine retP_1 _ ⟨rfl, trivial⟩ ?_)
    all_goals (obtain rfl : k = L.length := by omega
               exact ri.done hx2 hg1 hlt1 hnc hcm hlm)
end Go.Proofs.Ytgfbilmlgibbfaa

