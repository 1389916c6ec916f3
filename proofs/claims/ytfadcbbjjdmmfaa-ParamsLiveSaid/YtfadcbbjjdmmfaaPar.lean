/-
  PARAMS (layer 53): names with their values, in a map, and as the document has them: rising.
-/
import Derived.Test.YtfadcbbjjdmmfaaSrl
import Derived.Test.YtfadcbbjjdmmfaaShelf
import Derived.Test.YtfadcbbjjdmmfaaPred
import Derived.Test.YtfadcbbjjdmmfaaK15
namespace Go.Proofs.Ytfadcbbjjdmmfaa
open Go Go.RK

abbrev Pr := List UInt8 × List UInt8
def prC (p : Pr) : List Value := [St p.1, St p.2]
def prS (p : Pr) : List Sca := [.s p.1, .s p.2]
theorem prC_len (p : Pr) : (prC p).length = 2 := rfl
theorem prS_inj (p q : Pr) : prS p = prS q ↔ p = q := by obtain ⟨a, b⟩ := p; obtain ⟨c, d⟩ := q; simp [prS]
theorem prC_one (p : Pr) : ∀ v ∈ prC p, v.oneCell' = true := by
  intro v hv
  simp only [prC, List.mem_cons, List.not_mem_nil, or_false] at hv
  rcases hv with rfl | rfl <;> rfl
theorem prs_one (l : List Pr) : ∀ v ∈ l.flatMap prC, v.oneCell' = true := fun v hv => by
  obtain ⟨p, _, hp⟩ := List.mem_flatMap.1 hv
  exact prC_one p v hp
set_option maxRecDepth 100000 in
theorem indexFunc_pr {h : Heap} {v : Value} (l : List Pr) (p : Pr → Bool) {fk : Nat} {fs us : List Value} (hcf : ∀ (args : Array Value) (w : World), (callFunc fk args).run Try.prog w = .ok (.enter fk args) w) (hr : Rd h v 2 l.length (l.flatMap prC)) (hm : l.length ≤ maxLen)
    (hp : ∀ x ∈ l, ∀ h', Ext No h h' → CallsH Try.prog fk ⟨fs ++ [.agg ⟨prC x⟩] ++ us⟩ h' fun u h'' => u = .bool (p x) ∧ Ext No h' h'') :
    CallsH Try.prog 73 ⟨[v, .func (.func fk) ⟨fs⟩ ⟨us⟩]⟩ h fun u h' => u = In (idxP p l) ∧ Ext No h h' := by
  obtain ⟨A, c, rfl, _⟩ := id hr
  unfold maxLen at hm
  refine calls [(0, _), (1, _)] Try.func73 rfl Try.ntmps73 rfl ⟨rfl, rfl, trivial⟩ ?_
  all_goals (refine WC.seq ?_)
  all_goals (refine WC.region ?_)
  all_goals (refine WL.step (ok_assign rfl) rfl rfl rfl ?_)
  all_goals (refine WL.nil ?_)
  all_goals (repeat' (with_reducible first | refine thenP_n ?_ | refine blockP_n ?_))
  all_goals (refine WC.seq ?_)
  all_goals (refine WC.seq ?_)
  all_goals (refine WC.region ?_)
  all_goals (refine WL.step (ok_move rfl) rfl rfl rfl ?_)
  all_goals (refine WL.step (ok_lenL rfl Try.underlying56 rfl) rfl rfl rfl ?_)
  all_goals (refine WL.step (ok_move rfl) rfl rfl rfl ?_)
  all_goals (refine WL.nil ?_)
  all_goals (repeat' (with_reducible first | refine thenP_n ?_ | refine blockP_n ?_))
  all_goals (refine WC.block ?_)
  -- loop 0: slots that turn [8], that stay [0, 1, 7]
  all_goals (refine WC.loopG (X := Nat) (fun x => ([(8, In (x : Int))] : Fr)) [(0, _), (1, _), (7, _)] (fun k h' => Ext No h h' ∧ k ≤ l.length ∧ ∀ x ∈ l.take k, p x = false) (fun k => l.length - k) (0) ⟨rfl, rfl, rfl, rfl, trivial⟩ (by exact ⟨.refl _ _, Nat.zero_le _, by simp⟩) ?_)
  all_goals (rintro k h1 ⟨hx1, hk, hn⟩)
  all_goals (refine WC.sub [(8, _), (0, _), (1, _), (7, _)] ⟨rfl, rfl, rfl, rfl, trivial⟩ ?_)
  all_goals (refine WC.seq ?_)
  all_goals (refine WC.region ?_)
  all_goals (first | (refine WL.step (OkP.bool_t (by omega) (ok_lss rfl rfl)) rfl rfl rfl ?_) | (refine WL.step (OkP.bool_f (by omega) (ok_lss rfl rfl)) rfl rfl rfl ?_) | (refine WL.step (ok_lss rfl rfl) rfl rfl rfl ?_))
  all_goals (refine WL.nil ?_)
  all_goals (repeat' (with_reducible first | refine thenP_n ?_ | refine blockP_n ?_))
  all_goals (refine WC.seq ?_)
  all_goals (first | refine WC.condB_t 1 rfl ?_ | refine WC.condB_f 2 rfl ?_ | (refine WC.condB 1 2 rfl (fun hb => ?_) (fun hb => ?_) <;> (first | replace hb := of_decide_eq_true hb | replace hb := of_decide_eq_false hb | replace hb := of_decide_eq_false (nt hb) | replace hb := of_decide_eq_true (nf hb) | skip)))
  all_goals (first
    | (fail_if_success (refine Br.mk (i := 1) ?_))
    | (refine Br.mk (i := 1) ?_
       all_goals (refine WC.skip ?_)
       skip))
  all_goals (first
    | (fail_if_success (refine Br.mk (i := 2) ?_))
    | (refine Br.mk (i := 2) ?_
       all_goals (refine WC.exit ?_)
       all_goals (repeat' (with_reducible first | refine thenP_x ?_ | refine blockP_miss rfl ?_ | refine blockP_hit ?_ | refine blockP_n ?_ | refine thenP_n ?_))
       all_goals (refine Br.out (i := 1000) ?_)
       skip))
  all_goals (first | (refine Br.keep ?_) | (repeat' (with_reducible first | refine thenP_n ?_ | refine blockP_n ?_)))
  all_goals (first | (refine Br.keep ?_) | (refine WC.seq ?_))
  all_goals (first | (refine Br.keep ?_) | (refine WC.block ?_))
  all_goals (first | (refine Br.keep ?_) | (refine WC.seq ?_))
  all_goals (first | (refine Br.keep ?_) | (refine WC.region ?_))
  all_goals (first | (refine Br.keep ?_) | (refine WL.step (ok_move rfl) rfl rfl rfl ?_))
  all_goals (first | (refine Br.keep ?_) | (refine WL.step (ok_assign rfl) rfl rfl rfl ?_))
  all_goals (first | (refine Br.keep ?_) | (refine WL.nil ?_))
  all_goals (first | (refine Br.keep ?_) | (repeat' (with_reducible first | refine thenP_n ?_ | refine blockP_n ?_)))
  all_goals (first | (refine Br.keep ?_) | (refine WC.seq ?_))
  all_goals (first | (refine Br.keep ?_) | (refine WC.region ?_))
  all_goals (first | (refine Br.keep ?_) | (refine WL.step (ok_move rfl) rfl rfl rfl ?_))
  all_goals (first | (refine Br.keep ?_) | (refine WL.step (ok_move rfl) rfl rfl rfl ?_))
  all_goals (first
               | (refine Br.keep ?_)
               | (obtain ⟨b, o, hA, hbL, hat⟩ := Rd.at_ (hr.ext0 hx1) (by omega)
                  obtain ⟨y, hy⟩ : ∃ y, l[k]? = some y := ⟨_, List.getElem?_eq_getElem (by omega)⟩
                  have hc : At h1 b (o + k * 2) (prC y) := At.elem prC_len hat hy))
  all_goals (first | (refine Br.keep ?_) | (refine WL.step (ok_move rfl) rfl rfl rfl ?_))
  all_goals (first | (refine Br.keep ?_) | (refine WL.step (ok_idxAddrA Try.underlying56 (fun w => Try.sizeOf63 w) rfl rfl rfl (by omega) (by first | rfl | assumption)) rfl rfl rfl ?_))
  all_goals (first | (refine Br.keep ?_) | (refine WL.step (ok_loadN (fun w => Try.isAgg63 w) (fun w => Try.sizeOf63 w) rfl rfl (by assumption)) rfl rfl rfl ?_))
  all_goals (first
               | (refine Br.keep ?_)
               | (refine WL.callT (vs := [_]) rfl rfl hcf rfl (hp y (List.mem_of_getElem? hy) h1 hx1) rfl rfl rfl ?_
                  rintro _ h2 ⟨rfl, hx2⟩))
  all_goals (first | (refine Br.keep ?_) | (cases hpy : p y))
  all_goals (first | (refine Br.keep ?_) | (refine WL.nil ?_))
  all_goals (first | (refine Br.keep ?_) | (repeat' (with_reducible first | refine thenP_n ?_ | refine blockP_n ?_)))
  all_goals (first | (refine Br.keep ?_) | (refine WC.sub [(0, _), (1, _), (5, _), (7, _), (8, _), (16, _)] ⟨rfl, rfl, rfl, rfl, rfl, rfl, trivial⟩ ?_))
  all_goals (first | (refine Br.keep ?_) | (first | refine WC.condB_t 3 rfl ?_ | refine WC.condB_f 4 rfl ?_ | (refine WC.condB 3 4 rfl (fun hb => ?_) (fun hb => ?_) <;> (first | replace hb := of_decide_eq_true hb | replace hb := of_decide_eq_false hb | replace hb := of_decide_eq_false (nt hb) | replace hb := of_decide_eq_true (nf hb) | skip))))
  all_goals (first
    | (fail_if_success (refine Br.mk (i := 3) ?_))
    | (refine Br.mk (i := 3) ?_
       all_goals (refine WC.seq ?_)
       all_goals (refine WC.region ?_)
       all_goals (refine WL.step (ok_move rfl) rfl rfl rfl ?_)
       all_goals (refine WL.step (ok_assign rfl) rfl rfl rfl ?_)
       all_goals (refine WL.nil ?_)
       all_goals (repeat' (with_reducible first | refine thenP_n ?_ | refine blockP_n ?_))
       all_goals (refine WC.sub [(4, _)] ⟨rfl, trivial⟩ ?_)
       all_goals (refine WC.ret ?_)
       all_goals (repeat' (with_reducible first | refine thenP_r ?_ | refine blockP_r ?_))
       all_goals (refine retP_1 _ ⟨rfl, trivial⟩ ?_)
       all_goals (first | exact ⟨by rw [idxP_no (by rw [List.take_of_length_le (by omega)] at hn; exact hn)], hx1⟩ | exact ⟨by rw [idxP_at hy hpy hn], hx1.trans hx2⟩)
       skip))
  all_goals (first
    | (fail_if_success (refine Br.mk (i := 4) ?_))
    | (refine Br.mk (i := 4) ?_
       all_goals (refine WC.skip ?_)
       skip))
  all_goals (first | (refine Br.keep ?_) | (repeat' (with_reducible first | refine thenP_n ?_ | refine blockP_n ?_)))
  all_goals (first | (refine Br.keep ?_) | (refine WC.region ?_))
  all_goals (first | (refine Br.keep ?_) | (first | (refine WL.step (ok_addI rfl rfl (by omega)) rfl rfl rfl ?_) | (refine WL.step (ok_add rfl rfl) rfl rfl rfl ?_)))
  all_goals (first | (refine Br.keep ?_) | (refine WL.step (ok_move rfl) rfl rfl rfl ?_))
  all_goals (first | (refine Br.keep ?_) | (refine WL.nil ?_))
  all_goals (first | (refine Br.keep ?_) | (repeat' (with_reducible first | refine thenP_n ?_ | refine blockP_n ?_)))
  all_goals (first | (refine Br.keep ?_) | (exact ⟨k + 1, ⟨rfl, rfl, rfl, rfl, trivial⟩, (by exact ⟨hx1.trans hx2, by omega, take_snoc_p hn hy hpy⟩), (by omega)⟩))
  all_goals (try (refine Br.mk (i := 1000) ?_))
  all_goals (repeat' (with_reducible first | refine thenP_n ?_ | refine blockP_n ?_))
  all_goals (refine WC.sub [] trivial ?_)
  all_goals (refine WC.seq ?_)
  all_goals (refine WC.region ?_)
  all_goals (refine WL.step (ok_assign rfl) rfl rfl rfl ?_)
  all_goals (refine WL.nil ?_)
  all_goals (repeat' (with_reducible first | refine thenP_n ?_ | refine blockP_n ?_))
  all_goals (refine WC.ret ?_)
  all_goals (repeat' (with_reducible first | refine thenP_r ?_ | refine blockP_r ?_))
  all_goals (refine retP_1 _ ⟨rfl, trivial⟩ ?_)
  all_goals (first | exact ⟨by rw [idxP_no (by rw [List.take_of_length_le (by omega)] at hn; exact hn)], hx1⟩ | exact ⟨by rw [idxP_at hy hpy hn], hx1.trans hx2⟩)

set_option maxRecDepth 100000 in
theorem deleteFunc_pr {h : Heap} {A : Option Addr} {c : Nat} (l : List Pr) (p : Pr → Bool) {fk : Nat} {fs us : List Value} (hcf : ∀ (args : Array Value) (w : World), (callFunc fk args).run Try.prog w = .ok (.enter fk args) w) (ho : Own h (.slice A l.length c) 63 2 l.length (l.flatMap prC)) (hm : l.length ≤ 1000000) (hone : ∀ x ∈ l, ∀ v ∈ prC x, v.oneCell' = true)
    (hp : ∀ x ∈ l, ∀ h', Ext (fun b => A.map (·.block) = some b) h h' → CallsH Try.prog fk ⟨fs ++ [.agg ⟨prC x⟩] ++ us⟩ h' fun u h'' => u = .bool (p x) ∧ Ext No h' h'') :
    CallsH Try.prog 65 ⟨[.slice A l.length c, .func (.func fk) ⟨fs⟩ ⟨us⟩]⟩ h fun u h' => Own h' u 63 2 (l.filter fun x => !p x).length ((l.filter fun x => !p x).flatMap prC) ∧ Ext (fun b => A.map (·.block) = some b) h h' ∧ u.ownBlock = A.map (·.block) := by
  have hif := indexFunc_pr l p hcf ho.rd (by unfold maxLen; omega) fun x hx h' hx' => hp x hx h' (hx'.mono fun _ _ e => e.elim)
  rcases idxP_cases p l with ⟨e, hn⟩ | ⟨k, x0, e, hk, hx0, hkn⟩
  · rw [e] at hif
    refine calls [(0, _), (1, _)] Try.func65 rfl Try.ntmps65 rfl ⟨rfl, rfl, trivial⟩ ?_
    all_goals (refine WC.seq ?_)
    all_goals (refine WC.region ?_)
    all_goals (refine WL.step (ok_assign rfl) rfl rfl rfl ?_)
    all_goals (refine WL.nil ?_)
    all_goals (repeat' (with_reducible first | refine thenP_n ?_ | refine blockP_n ?_))
    all_goals (refine WC.seq ?_)
    all_goals (refine WC.region ?_)
    all_goals (refine WL.step (ok_move rfl) rfl rfl rfl ?_)
    all_goals (refine WL.step (ok_move rfl) rfl rfl rfl ?_)
    all_goals (refine WL.call (vs := [_, _]) rfl (fun a w => Try.call73 a w) rfl (hif) rfl rfl rfl ?_
               rintro _ h1 ⟨rfl, hx1⟩)
    all_goals (refine WL.step (ok_assign rfl) rfl rfl rfl ?_)
    all_goals (refine WL.nil ?_)
    all_goals (repeat' (with_reducible first | refine thenP_n ?_ | refine blockP_n ?_))
    all_goals (refine WC.sub [(0, _), (1, _), (5, _)] ⟨rfl, rfl, rfl, trivial⟩ ?_)
    all_goals (refine WC.seq ?_)
    all_goals (refine WC.seq ?_)
    all_goals (refine WC.region ?_)
    all_goals (refine WL.step (ok_move rfl) rfl rfl rfl ?_)
    all_goals (first | (refine WL.step (OkP.bool_t (by omega) (ok_eql rfl rfl)) rfl rfl rfl ?_) | (refine WL.step (OkP.bool_f (by omega) (ok_eql rfl rfl)) rfl rfl rfl ?_) | (refine WL.step (ok_eql rfl rfl) rfl rfl rfl ?_))
    all_goals (refine WL.nil ?_)
    all_goals (repeat' (with_reducible first | refine thenP_n ?_ | refine blockP_n ?_))
    all_goals (first | refine WC.condB_t 1 rfl ?_ | refine WC.condB_f 2 rfl ?_ | (refine WC.condB 1 2 rfl (fun hb => ?_) (fun hb => ?_) <;> (first | replace hb := of_decide_eq_true hb | replace hb := of_decide_eq_false hb | replace hb := of_decide_eq_false (nt hb) | replace hb := of_decide_eq_true (nf hb) | skip)))
    all_goals (first
      | (fail_if_success (refine Br.mk (i := 1) ?_))
      | (refine Br.mk (i := 1) ?_
         all_goals (refine WC.seq ?_)
         all_goals (refine WC.region ?_)
         all_goals (refine WL.step (ok_move rfl) rfl rfl rfl ?_)
         all_goals (refine WL.step (ok_assign rfl) rfl rfl rfl ?_)
         all_goals (refine WL.nil ?_)
         all_goals (repeat' (with_reducible first | refine thenP_n ?_ | refine blockP_n ?_))
         all_goals (refine WC.sub [(4, _)] ⟨rfl, trivial⟩ ?_)
         all_goals (refine WC.ret ?_)
         all_goals (repeat' (with_reducible first | refine thenP_r ?_ | refine blockP_r ?_))
         all_goals (refine retP_1 _ ⟨rfl, trivial⟩ ?_)
         all_goals (exact ⟨by rw [filter_none hn]; exact ho.ext hx1 (fun _ _ => nos), hx1.mono fun _ _ e => e.elim, by cases A <;> rfl⟩)
         skip))
    all_goals (first
      | (fail_if_success (refine Br.mk (i := 2) ?_))
      | (refine Br.mk (i := 2) ?_
         all_goals (refine WC.skip ?_)
         skip))
    all_goals (repeat' (with_reducible first | refine thenP_n ?_ | refine blockP_n ?_))
    all_goals (refine WC.seq ?_)
    all_goals (refine WC.seq ?_)
    all_goals (refine WC.region ?_)
    all_goals (refine WL.step (ok_move rfl) rfl rfl rfl ?_)
    all_goals (first | (refine WL.step (ok_addI rfl rfl (by omega)) rfl rfl rfl ?_) | (refine WL.step (ok_add rfl rfl) rfl rfl rfl ?_))
    all_goals (refine WL.step (ok_assign rfl) rfl rfl rfl ?_)
    all_goals (refine WL.nil ?_)
    all_goals (repeat' (with_reducible first | refine thenP_n ?_ | refine blockP_n ?_))
    all_goals (refine WC.sub [(0, _), (1, _), (5, _), (6, _)] ⟨rfl, rfl, rfl, rfl, trivial⟩ ?_)
    all_goals (refine WC.block ?_)
    -- loop 0: slots that turn [5, 6], that stay [0, 1]
    all_goals (refine WC.loopG (fun x => (None : Fr)) [(0, _), (1, _)] (None) (None) (None) ⟨rfl, rfl, rfl, rfl, trivial⟩ (by exact ⟨⟩) ?_)
    all_goals (rintro x h1 hI)
    all_goals (refine WC.sub [(5, _), (6, _), (0, _), (1, _)] ⟨rfl, rfl, rfl, rfl, trivial⟩ ?_)
    all_goals (refine WC.seq ?_)
    all_goals (refine WC.seq ?_)
    all_goals (refine WC.region ?_)
    all_goals (refine WL.step (ok_move rfl) rfl rfl rfl ?_)
    all_goals (refine WL.step (ok_move rfl) rfl rfl rfl ?_)
    all_goals (refine WL.step (ok_lenL rfl Try.underlying56 rfl) rfl rfl rfl ?_)
    all_goals (first | (refine WL.step (OkP.bool_t (by omega) (ok_lss rfl rfl)) rfl rfl rfl ?_) | (refine WL.step (OkP.bool_f (by omega) (ok_lss rfl rfl)) rfl rfl rfl ?_) | (refine WL.step (ok_lss rfl rfl) rfl rfl rfl ?_))
    all_goals (refine WL.nil ?_)
    all_goals (repeat' (with_reducible first | refine thenP_n ?_ | refine blockP_n ?_))
    all_goals (first | refine WC.condB_t 3 rfl ?_ | refine WC.condB_f 4 rfl ?_ | (refine WC.condB 3 4 rfl (fun hb => ?_) (fun hb => ?_) <;> (first | replace hb := of_decide_eq_true hb | replace hb := of_decide_eq_false hb | replace hb := of_decide_eq_false (nt hb) | replace hb := of_decide_eq_true (nf hb) | skip)))
    all_goals (first
      | (fail_if_success (refine Br.mk (i := 3) ?_))
      | (refine Br.mk (i := 3) ?_
         all_goals (refine WC.skip ?_)
         skip))
    all_goals (first
      | (fail_if_success (refine Br.mk (i := 4) ?_))
      | (refine Br.mk (i := 4) ?_
         all_goals (refine WC.exit ?_)
         all_goals (repeat' (with_reducible first | refine thenP_x ?_ | refine blockP_miss rfl ?_ | refine blockP_hit ?_ | refine blockP_n ?_ | refine thenP_n ?_))
         all_goals (refine Br.out (i := 1000) ?_)
         skip))
    all_goals (first | (refine Br.keep ?_) | (repeat' (with_reducible first | refine thenP_n ?_ | refine blockP_n ?_)))
    all_goals (first | (refine Br.keep ?_) | (refine WC.sub [(0, _), (1, _), (5, _), (6, _)] ⟨rfl, rfl, rfl, rfl, trivial⟩ ?_))
    all_goals (first | (refine Br.keep ?_) | (refine WC.seq ?_))
    all_goals (first | (refine Br.keep ?_) | (refine WC.block ?_))
    all_goals (first | (refine Br.keep ?_) | (refine WC.seq ?_))
    all_goals (first | (refine Br.keep ?_) | (refine WC.region ?_))
    all_goals (first | (refine Br.keep ?_) | (refine WL.step (ok_move rfl) rfl rfl rfl ?_))
    all_goals (first | (refine Br.keep ?_) | (refine WL.step (ok_move rfl) rfl rfl rfl ?_))
    all_goals (first | (refine Br.keep ?_) | (refine WL.step (ok_idxAddrA Try.underlying56 (fun w => Try.sizeOf63 w) rfl rfl rfl (by omega) (by first | rfl | assumption)) rfl rfl rfl ?_))
    all_goals (first | (refine Br.keep ?_) | (refine WL.step (ok_loadN (fun w => Try.isAgg63 w) (fun w => Try.sizeOf63 w) rfl rfl (by assumption)) rfl rfl rfl ?_))
    all_goals (first
                 | (refine Br.keep ?_)
                 | (refine WL.stepR (okE_alloc (fun w => Try.zeroValue63 w)) rfl rfl rfl ?_
                    rintro _ h1 ⟨b1, rfl, hg1, hb1, hx1⟩))
    all_goals (first
                 | (refine Br.keep ?_)
                 | (refine WL.stepR0 (okE_storeW (fun w => Try.sizeOf63 w) rfl rfl rfl (by assumption) rfl (by simp [Value.oneCell'])) rfl rfl ?_
                    rintro _ h1 ⟨hb1, hx1⟩))
    all_goals (first | (refine Br.keep ?_) | (refine WL.nil ?_))
    all_goals (first | (refine Br.keep ?_) | (repeat' (with_reducible first | refine thenP_n ?_ | refine blockP_n ?_)))
    all_goals (first | (refine Br.keep ?_) | (refine WC.sub [(0, _), (1, _), (5, _), (6, _), (7, _)] ⟨rfl, rfl, rfl, rfl, rfl, trivial⟩ ?_))
    all_goals (first | (refine Br.keep ?_) | (refine WC.seq ?_))
    all_goals (first | (refine Br.keep ?_) | (refine WC.region ?_))
    all_goals (first | (refine Br.keep ?_) | (refine WL.step (ok_move rfl) rfl rfl rfl ?_))
    all_goals (first | (refine Br.keep ?_) | (refine WL.step (ok_loadN (fun w => Try.isAgg63 w) (fun w => Try.sizeOf63 w) rfl rfl (by assumption)) rfl rfl rfl ?_))
    all_goals (first | (refine Br.keep ?_) | (fail "no contract for the call at 8.2"))
    all_goals (first | (refine Br.keep ?_) | (refine WL.step (ok_not rfl) rfl rfl rfl ?_))
    all_goals (first | (refine Br.keep ?_) | (refine WL.nil ?_))
    all_goals (first | (refine Br.keep ?_) | (repeat' (with_reducible first | refine thenP_n ?_ | refine blockP_n ?_)))
    all_goals (first | (refine Br.keep ?_) | (first | refine WC.condB_t 5 rfl ?_ | refine WC.condB_f 6 rfl ?_ | (refine WC.condB 5 6 rfl (fun hb => ?_) (fun hb => ?_) <;> (first | replace hb := of_decide_eq_true hb | replace hb := of_decide_eq_false hb | replace hb := of_decide_eq_false (nt hb) | replace hb := of_decide_eq_true (nf hb) | skip))))
    all_goals (first
      | (fail_if_success (refine Br.mk (i := 5) ?_))
      | (refine Br.mk (i := 5) ?_
         all_goals (refine WC.seq ?_)
         all_goals (refine WC.region ?_)
         all_goals (refine WL.step (ok_move rfl) rfl rfl rfl ?_)
         all_goals (refine WL.step (ok_move rfl) rfl rfl rfl ?_)
         all_goals (refine WL.step (ok_loadN (fun w => Try.isAgg63 w) (fun w => Try.sizeOf63 w) rfl rfl (by assumption)) rfl rfl rfl ?_)
         all_goals (refine WL.step (ok_idxAddrA Try.underlying56 (fun w => Try.sizeOf63 w) rfl rfl rfl (by omega) (by first | rfl | assumption)) rfl rfl rfl ?_)
         all_goals (refine WL.stepR0 (okE_storeW (fun w => Try.sizeOf63 w) rfl rfl rfl (by assumption) rfl (by simp [Value.oneCell'])) rfl rfl ?_
                    rintro _ h1 ⟨hb1, hx1⟩)
         all_goals (refine WL.nil ?_)
         all_goals (repeat' (with_reducible first | refine thenP_n ?_ | refine blockP_n ?_))
         all_goals (refine WC.sub [(0, _), (1, _), (5, _), (6, _)] ⟨rfl, rfl, rfl, rfl, trivial⟩ ?_)
         all_goals (refine WC.region ?_)
         all_goals (refine WL.step (ok_move rfl) rfl rfl rfl ?_)
         all_goals (first | (refine WL.step (ok_addI rfl rfl (by omega)) rfl rfl rfl ?_) | (refine WL.step (ok_add rfl rfl) rfl rfl rfl ?_))
         all_goals (refine WL.step (ok_assign rfl) rfl rfl rfl ?_)
         all_goals (refine WL.nil ?_)
         skip))
    all_goals (first
      | (fail_if_success (refine Br.mk (i := 6) ?_))
      | (refine Br.mk (i := 6) ?_
         all_goals (refine WC.skip ?_)
         skip))
    all_goals (first | (refine Br.keep ?_) | (repeat' (with_reducible first | refine thenP_n ?_ | refine blockP_n ?_)))
    all_goals (first | (refine Br.keep ?_) | (refine WC.region ?_))
    all_goals (first | (refine Br.keep ?_) | (refine WL.step (ok_move rfl) rfl rfl rfl ?_))
    all_goals (first | (refine Br.keep ?_) | (first | (refine WL.step (ok_addI rfl rfl (by omega)) rfl rfl rfl ?_) | (refine WL.step (ok_add rfl rfl) rfl rfl rfl ?_)))
    all_goals (first | (refine Br.keep ?_) | (refine WL.step (ok_assign rfl) rfl rfl rfl ?_))
    all_goals (first | (refine Br.keep ?_) | (refine WL.nil ?_))
    all_goals (first | (refine Br.keep ?_) | (repeat' (with_reducible first | refine thenP_n ?_ | refine blockP_n ?_)))
    all_goals (first | (refine Br.keep ?_) | (exact ⟨None, ⟨rfl, rfl, rfl, rfl, trivial⟩, (by exact ⟨⟩), (by simp; omega)⟩))
    all_goals (try (refine Br.mk (i := 1000) ?_))
    all_goals (repeat' (with_reducible first | refine thenP_n ?_ | refine blockP_n ?_))
    all_goals (refine WC.sub [(0, _), (5, _)] ⟨rfl, rfl, trivial⟩ ?_)
    all_goals (refine WC.seq ?_)
    all_goals (refine WC.region ?_)
    all_goals (refine WL.step (ok_move rfl) rfl rfl rfl ?_)
    all_goals (refine WL.step (ok_move rfl) rfl rfl rfl ?_)
    all_goals (first | (refine WL.step (ok_slice_lN Try.underlying56 (fun w => Try.sizeOf63 w) rfl rfl (by omega)) rfl rfl rfl ?_) | (refine WL.step (ok_slice_lS Try.underlying56 (fun w => Try.sizeOf63 w) rfl rfl (by omega)) rfl rfl rfl ?_) | (refine WL.step (ok_slice_l Try.underlying56 (fun w => Try.sizeOf63 w) rfl rfl (by omega)) rfl rfl rfl ?_))
    all_goals (refine WL.stepR0 (okE_clear rfl Try.underlying56 (fun w => Try.zeroValue63 w) rfl (by first | rfl | assumption | exact (if_neg (by omega)).trans (congrArg some (Addr.add_lit _ _ _))) (by omega) (by assumption) (by simp; omega) (by simp [Value.cells, Value.oneCell'])) rfl rfl ?_
               rintro _ h1 ⟨cs1, hb1, hl1, ht1, hx1⟩)
    all_goals (refine WL.nil ?_)
    all_goals (repeat' (with_reducible first | refine thenP_n ?_ | refine blockP_n ?_))
    all_goals (refine WC.seq ?_)
    all_goals (refine WC.region ?_)
    all_goals (refine WL.step (ok_move rfl) rfl rfl rfl ?_)
    all_goals (refine WL.step (ok_move rfl) rfl rfl rfl ?_)
    all_goals (first | (refine WL.step (ok_slice_hN Try.underlying56 (fun w => Try.sizeOf63 w) rfl rfl (by omega)) rfl rfl rfl ?_) | (refine WL.step (ok_slice_h Try.underlying56 (fun w => Try.sizeOf63 w) rfl rfl (by omega)) rfl rfl rfl ?_))
    all_goals (refine WL.step (ok_assign rfl) rfl rfl rfl ?_)
    all_goals (refine WL.nil ?_)
    all_goals (repeat' (with_reducible first | refine thenP_n ?_ | refine blockP_n ?_))
    all_goals (refine WC.sub [(4, _)] ⟨rfl, trivial⟩ ?_)
    all_goals (refine WC.ret ?_)
    all_goals (repeat' (with_reducible first | refine thenP_r ?_ | refine blockP_r ?_))
    all_goals (refine retP_1 _ ⟨rfl, trivial⟩ ?_)
    all_goals (exact ⟨by rw [filter_none hn]; exact ho.ext hx1 (fun _ _ => nos), hx1.mono fun _ _ e => e.elim, by cases A <;> rfl⟩)
  · rw [e] at hif
    have hkl : k < l.length := (List.getElem?_eq_some_iff.1 hk).1
    obtain ⟨b, c', cs, hv, hbB, hnc, hcm, hcl, hct⟩ := ho.block (by omega)
    simp only [Value.slice.injEq] at hv
    obtain ⟨rfl, _, rfl⟩ := hv
    unfold maxLen at hcm
    have hat0 : At h b 0 (l.flatMap prC) := by
      obtain ⟨b0, o0, e0, _, hat⟩ := Rd.at_ ho.rd (by omega)
      simp only [Option.some.injEq, Addr.mk.injEq] at e0
      obtain ⟨rfl, rfl, _⟩ := e0
      exact hat
    have hfl : ∀ m : List Pr, (m.flatMap prC).length = m.length * 2 := fun m => by
      induction m with
      | nil => rfl
      | cons a m ih => rw [List.flatMap_cons, List.length_append, ih, prC_len a, List.length_cons]; omega
    have htake : ∀ j, j ≤ l.length → cs.take (j * 2) = (l.take j).flatMap prC := fun j hj => by
      have h1 : (l.flatMap prC).take (j * 2) = (l.take j).flatMap prC := by
        conv => lhs; rw [← List.take_append_drop j l, List.flatMap_append]
        rw [List.take_append_of_le_length (by rw [hfl, List.length_take]; omega), List.take_of_length_le (by rw [hfl, List.length_take]; omega)]
      rw [← h1, ← hct, List.take_take, Nat.min_eq_left (by omega)]
    have e0 : ((l.take k).filter fun x => !p x).length = k := by rw [filter_none hkn, List.length_take]; omega
    have e2 : (l.take (k + 1)).filter (fun x => !p x) = (l.take k).filter fun x => !p x := by rw [filter_take hk, hx0]; simp
    refine calls [(0, _), (1, _)] Try.func65 rfl Try.ntmps65 rfl ⟨rfl, rfl, trivial⟩ ?_
    all_goals (refine WC.seq ?_)
    all_goals (refine WC.region ?_)
    all_goals (refine WL.step (ok_assign rfl) rfl rfl rfl ?_)
    all_goals (refine WL.nil ?_)
    all_goals (repeat' (with_reducible first | refine thenP_n ?_ | refine blockP_n ?_))
    all_goals (refine WC.seq ?_)
    all_goals (refine WC.region ?_)
    all_goals (refine WL.step (ok_move rfl) rfl rfl rfl ?_)
    all_goals (refine WL.step (ok_move rfl) rfl rfl rfl ?_)
    all_goals (refine WL.call (vs := [_, _]) rfl (fun a w => Try.call73 a w) rfl (hif) rfl rfl rfl ?_
               rintro _ h0 ⟨rfl, hx0'⟩)
    all_goals (have hb0 := hx0'.obj hbB nos)
    all_goals (refine WL.step (ok_assign rfl) rfl rfl rfl ?_)
    all_goals (refine WL.nil ?_)
    all_goals (repeat' (with_reducible first | refine thenP_n ?_ | refine blockP_n ?_))
    all_goals (refine WC.sub [(0, _), (1, _), (5, _)] ⟨rfl, rfl, rfl, trivial⟩ ?_)
    all_goals (refine WC.seq ?_)
    all_goals (refine WC.seq ?_)
    all_goals (refine WC.region ?_)
    all_goals (refine WL.step (ok_move rfl) rfl rfl rfl ?_)
    all_goals (first | (refine WL.step (OkP.bool_t (by omega) (ok_eql rfl rfl)) rfl rfl rfl ?_) | (refine WL.step (OkP.bool_f (by omega) (ok_eql rfl rfl)) rfl rfl rfl ?_) | (refine WL.step (ok_eql rfl rfl) rfl rfl rfl ?_))
    all_goals (refine WL.nil ?_)
    all_goals (repeat' (with_reducible first | refine thenP_n ?_ | refine blockP_n ?_))
    all_goals (first | refine WC.condB_t 1 rfl ?_ | refine WC.condB_f 2 rfl ?_ | (refine WC.condB 1 2 rfl (fun hb => ?_) (fun hb => ?_) <;> (first | replace hb := of_decide_eq_true hb | replace hb := of_decide_eq_false hb | replace hb := of_decide_eq_false (nt hb) | replace hb := of_decide_eq_true (nf hb) | skip)))
    all_goals (first
      | (fail_if_success (refine Br.mk (i := 1) ?_))
      | (refine Br.mk (i := 1) ?_
         all_goals (refine WC.seq ?_)
         all_goals (refine WC.region ?_)
         all_goals (refine WL.step (ok_move rfl) rfl rfl rfl ?_)
         all_goals (refine WL.step (ok_assign rfl) rfl rfl rfl ?_)
         all_goals (refine WL.nil ?_)
         all_goals (repeat' (with_reducible first | refine thenP_n ?_ | refine blockP_n ?_))
         all_goals (refine WC.sub [(4, _)] ⟨rfl, trivial⟩ ?_)
         all_goals (refine WC.ret ?_)
         all_goals (repeat' (with_reducible first | refine thenP_r ?_ | refine blockP_r ?_))
         all_goals (refine retP_1 _ ⟨rfl, trivial⟩ ?_)
         all_goals (exact ⟨by rw [← hi1]; exact Own.of_block hb3 (by omega) (by unfold maxLen; omega) (by omega) (by rw [ht3 _ (by omega), ht1]), (hx1.trans hx3).mono (fun q _ e => by simp [e]), rfl⟩)
         skip))
    all_goals (first
      | (fail_if_success (refine Br.mk (i := 2) ?_))
      | (refine Br.mk (i := 2) ?_
         all_goals (refine WC.skip ?_)
         skip))
    all_goals (repeat' (with_reducible first | refine thenP_n ?_ | refine blockP_n ?_))
    all_goals (refine WC.seq ?_)
    all_goals (refine WC.seq ?_)
    all_goals (refine WC.region ?_)
    all_goals (refine WL.step (ok_move rfl) rfl rfl rfl ?_)
    all_goals (first | (refine WL.step (ok_addI rfl rfl (by omega)) rfl rfl rfl ?_) | (refine WL.step (ok_add rfl rfl) rfl rfl rfl ?_))
    all_goals (refine WL.step (ok_assign rfl) rfl rfl rfl ?_)
    all_goals (refine WL.nil ?_)
    all_goals (repeat' (with_reducible first | refine thenP_n ?_ | refine blockP_n ?_))
    all_goals (refine WC.sub [(0, _), (1, _), (5, _), (6, _)] ⟨rfl, rfl, rfl, rfl, trivial⟩ ?_)
    all_goals (refine WC.block ?_)
    -- loop 0: slots that turn [5, 6], that stay [0, 1]
    all_goals (refine WC.loopG (X := Nat × Nat) (fun x => ([(6, In (x.2 : Int)), (5, In (x.1 : Int))] : Fr)) [(0, _), (1, _)] (fun x h' => ∃ cs' : List Value, h'[b]? = some (.cells ⟨cs'⟩ 63 (0, 0)) ∧ cs'.length = c * 2 ∧ x.1 = ((l.take x.2).filter fun x => !p x).length ∧ cs'.take (x.1 * 2) = ((l.take x.2).filter fun x => !p x).flatMap prC ∧ (∀ t, x.2 * 2 ≤ t → cs'[t]? = cs[t]?) ∧ x.1 < x.2 ∧ x.2 ≤ l.length ∧ Ext (fun k => k = b) h h') (fun x => l.length - x.2) ((k, k + 1)) ⟨rfl, rfl, rfl, rfl, trivial⟩ (by exact ⟨cs, hb0, hcl, (by show k = _; rw [e2, e0]), (by show cs.take (k * 2) = _; rw [e2, filter_none hkn, htake k (by omega)]), fun _ _ => rfl, Nat.lt_succ_self k, hkl, hx0'.mono fun _ _ e => e.elim⟩) ?_)
    all_goals (rintro ⟨i, j⟩ h1 ⟨cs1, hb1, hl1, hi1, ht1, hr1, hij, hjl, hx1⟩
               simp only at hi1 ht1 hr1 hij hjl)
    all_goals (refine WC.sub [(5, _), (6, _), (0, _), (1, _)] ⟨rfl, rfl, rfl, rfl, trivial⟩ ?_)
    all_goals (dsimp only)
    all_goals (refine WC.seq ?_)
    all_goals (refine WC.seq ?_)
    all_goals (refine WC.region ?_)
    all_goals (refine WL.step (ok_move rfl) rfl rfl rfl ?_)
    all_goals (refine WL.step (ok_move rfl) rfl rfl rfl ?_)
    all_goals (refine WL.step (ok_lenL rfl Try.underlying56 rfl) rfl rfl rfl ?_)
    all_goals (first | (refine WL.step (OkP.bool_t (by omega) (ok_lss rfl rfl)) rfl rfl rfl ?_) | (refine WL.step (OkP.bool_f (by omega) (ok_lss rfl rfl)) rfl rfl rfl ?_) | (refine WL.step (ok_lss rfl rfl) rfl rfl rfl ?_))
    all_goals (refine WL.nil ?_)
    all_goals (repeat' (with_reducible first | refine thenP_n ?_ | refine blockP_n ?_))
    all_goals (first | refine WC.condB_t 3 rfl ?_ | refine WC.condB_f 4 rfl ?_ | (refine WC.condB 3 4 rfl (fun hb => ?_) (fun hb => ?_) <;> (first | replace hb := of_decide_eq_true hb | replace hb := of_decide_eq_false hb | replace hb := of_decide_eq_false (nt hb) | replace hb := of_decide_eq_true (nf hb) | skip)))
    all_goals (first
      | (fail_if_success (refine Br.mk (i := 3) ?_))
      | (refine Br.mk (i := 3) ?_
         all_goals (refine WC.skip ?_)
         skip))
    all_goals (first
      | (fail_if_success (refine Br.mk (i := 4) ?_))
      | (refine Br.mk (i := 4) ?_
         all_goals (refine WC.exit ?_)
         all_goals (repeat' (with_reducible first | refine thenP_x ?_ | refine blockP_miss rfl ?_ | refine blockP_hit ?_ | refine blockP_n ?_ | refine thenP_n ?_))
         all_goals (refine Br.out (i := 1000) ?_)
         skip))
    all_goals (first | (refine Br.keep ?_) | (repeat' (with_reducible first | refine thenP_n ?_ | refine blockP_n ?_)))
    all_goals (first | (refine Br.keep ?_) | (refine WC.sub [(0, _), (1, _), (5, _), (6, _)] ⟨rfl, rfl, rfl, rfl, trivial⟩ ?_))
    all_goals (first | (refine Br.keep ?_) | (refine WC.seq ?_))
    all_goals (first | (refine Br.keep ?_) | (refine WC.block ?_))
    all_goals (first | (refine Br.keep ?_) | (refine WC.seq ?_))
    all_goals (first | (refine Br.keep ?_) | (refine WC.region ?_))
    all_goals (first
                 | (refine Br.keep ?_)
                 | (obtain ⟨y, hy⟩ : ∃ y, l[j]? = some y := ⟨_, List.getElem?_eq_getElem (by omega)⟩
                    have hc1 : At h1 b (0 + j * 2) (prC y) := fun t v ht => by have h2 := At.elem prC_len hat0 hy t v ht; rw [cell_of hbB] at h2; rw [cell_of hb1]; have h3 : cs[0 + j * 2 + t]? = some v := (by simpa using h2); simpa using (hr1 (0 + j * 2 + t) (by omega)).trans h3
                    have hf1 := filter_take (q := fun x => !p x) hy
                    have hy1 := hone y (List.mem_of_getElem? hy)))
    all_goals (first | (refine Br.keep ?_) | (refine WL.step (ok_move rfl) rfl rfl rfl ?_))
    all_goals (first | (refine Br.keep ?_) | (refine WL.step (ok_move rfl) rfl rfl rfl ?_))
    all_goals (first | (refine Br.keep ?_) | (refine WL.step (ok_idxAddrA Try.underlying56 (fun w => Try.sizeOf63 w) rfl rfl rfl (by omega) (by first | rfl | assumption)) rfl rfl rfl ?_))
    all_goals (first | (refine Br.keep ?_) | (refine WL.step (ok_loadN (fun w => Try.isAgg63 w) (fun w => Try.sizeOf63 w) rfl rfl (by assumption)) rfl rfl rfl ?_))
    all_goals (first
                 | (refine Br.keep ?_)
                 | (refine WL.stepR (okE_alloc (fun w => Try.zeroValue63 w)) rfl rfl rfl ?_
                    rintro _ h2 ⟨b2, rfl, hg2, hb2, hx2⟩))
    all_goals (first
                 | (refine Br.keep ?_)
                 | (refine WL.stepR0 (okE_storeW (fun w => Try.sizeOf63 w) rfl rfl rfl (by assumption) rfl hy1) rfl rfl ?_
                    rintro _ h3 ⟨hb3, hx3⟩))
    all_goals (first
                 | (refine Br.keep ?_)
                 | (have hx13 : Ext No h1 h3 := hx2.trans' hx3 (fun q hq e => by omega)
                    have hX3 : Ext (fun k => k = b) h h3 := hx1.trans (hx13.mono fun _ _ e => e.elim)))
    all_goals (first | (refine Br.keep ?_) | (refine WL.nil ?_))
    all_goals (first | (refine Br.keep ?_) | (repeat' (with_reducible first | refine thenP_n ?_ | refine blockP_n ?_)))
    all_goals (first | (refine Br.keep ?_) | (refine WC.sub [(0, _), (1, _), (5, _), (6, _), (7, _)] ⟨rfl, rfl, rfl, rfl, rfl, trivial⟩ ?_))
    all_goals (first | (refine Br.keep ?_) | (refine WC.seq ?_))
    all_goals (first | (refine Br.keep ?_) | (refine WC.region ?_))
    all_goals (first | (refine Br.keep ?_) | (refine WL.step (ok_move rfl) rfl rfl rfl ?_))
    all_goals (first | (refine Br.keep ?_) | (refine WL.step (ok_loadN (fun w => Try.isAgg63 w) (fun w => Try.sizeOf63 w) rfl rfl (by exact At.of_block hb3)) rfl rfl rfl ?_))
    all_goals (first
                 | (refine Br.keep ?_)
                 | (refine WL.callT (vs := [_]) rfl rfl hcf rfl (hp y (List.mem_of_getElem? hy) h3 (hX3.mono fun q _ e => by simp [e])) rfl rfl rfl ?_
                    rintro _ h4 ⟨rfl, hx4⟩))
    all_goals (first
                 | (refine Br.keep ?_)
                 | (cases hpy : p y
                    all_goals have hb4 := (hx13.trans hx4).obj hb1 nos
                    all_goals have hb3' := hx4.obj hb3 nos
                    all_goals have hX4 : Ext (fun k => k = b) h h4 := hX3.trans (hx4.mono fun _ _ e => e.elim)))
    all_goals (first | (refine Br.keep ?_) | (refine WL.step (ok_not rfl) rfl rfl rfl ?_))
    all_goals (first | (refine Br.keep ?_) | (refine WL.nil ?_))
    all_goals (first | (refine Br.keep ?_) | (repeat' (with_reducible first | refine thenP_n ?_ | refine blockP_n ?_)))
    all_goals (first | (refine Br.keep ?_) | (first | refine WC.condB_t 5 rfl ?_ | refine WC.condB_f 6 rfl ?_ | (refine WC.condB 5 6 rfl (fun hb => ?_) (fun hb => ?_) <;> (first | replace hb := of_decide_eq_true hb | replace hb := of_decide_eq_false hb | replace hb := of_decide_eq_false (nt hb) | replace hb := of_decide_eq_true (nf hb) | skip))))
    all_goals (first
      | (fail_if_success (refine Br.mk (i := 5) ?_))
      | (refine Br.mk (i := 5) ?_
         all_goals (refine WC.seq ?_)
         all_goals (refine WC.region ?_)
         all_goals (refine WL.step (ok_move rfl) rfl rfl rfl ?_)
         all_goals (refine WL.step (ok_move rfl) rfl rfl rfl ?_)
         all_goals (refine WL.step (ok_loadN (fun w => Try.isAgg63 w) (fun w => Try.sizeOf63 w) rfl rfl (by exact At.of_block hb3')) rfl rfl rfl ?_)
         all_goals (refine WL.step (ok_idxAddrA Try.underlying56 (fun w => Try.sizeOf63 w) rfl rfl rfl (by omega) (by first | rfl | assumption)) rfl rfl rfl ?_)
         all_goals (refine WL.stepR0 (okE_storeN (vs := prC y) (fun w => Try.sizeOf63 w) rfl rfl rfl hb4 (by rw [prC_len y]; omega) hy1) rfl rfl ?_
                    rintro _ h5 ⟨hb5, hx5⟩
                    rw [prC_len y, show 0 + i * 2 = i * 2 by omega] at hb5)
         all_goals (refine WL.nil ?_)
         all_goals (repeat' (with_reducible first | refine thenP_n ?_ | refine blockP_n ?_))
         all_goals (refine WC.sub [(0, _), (1, _), (5, _), (6, _)] ⟨rfl, rfl, rfl, rfl, trivial⟩ ?_)
         all_goals (refine WC.region ?_)
         all_goals (refine WL.step (ok_move rfl) rfl rfl rfl ?_)
         all_goals (first | (refine WL.step (ok_addI rfl rfl (by omega)) rfl rfl rfl ?_) | (refine WL.step (ok_add rfl rfl) rfl rfl rfl ?_))
         all_goals (rw [show ((i : Int) + 1) = ((i + 1 : Nat) : Int) from rfl])
         all_goals (refine WL.step (ok_assign rfl) rfl rfl rfl ?_)
         all_goals (refine WL.nil ?_)
         skip))
    all_goals (first
      | (fail_if_success (refine Br.mk (i := 6) ?_))
      | (refine Br.mk (i := 6) ?_
         all_goals (refine WC.skip ?_)
         skip))
    all_goals (first | (refine Br.keep ?_) | (repeat' (with_reducible first | refine thenP_n ?_ | refine blockP_n ?_)))
    all_goals (first | (refine Br.keep ?_) | (refine WC.region ?_))
    all_goals (first | (refine Br.keep ?_) | (refine WL.step (ok_move rfl) rfl rfl rfl ?_))
    all_goals (first | (refine Br.keep ?_) | (first | (refine WL.step (ok_addI rfl rfl (by omega)) rfl rfl rfl ?_) | (refine WL.step (ok_add rfl rfl) rfl rfl rfl ?_)))
    all_goals (first | (refine Br.keep ?_) | (refine WL.step (ok_assign rfl) rfl rfl rfl ?_))
    all_goals (first | (refine Br.keep ?_) | (refine WL.nil ?_))
    all_goals (first | (refine Br.keep ?_) | (repeat' (with_reducible first | refine thenP_n ?_ | refine blockP_n ?_)))
    all_goals (first | (refine Br.keep ?_) | (exact ⟨(_, j + 1), ⟨rfl, rfl, rfl, rfl, trivial⟩, (by first | exact ⟨_, hb5, (by simp [prC_len y]; omega), (by rw [hf1, hpy]; simp [hi1]), (by rw [hf1, hpy]; simp only [Bool.not_false, if_true, List.flatMap_append, List.flatMap_cons, List.flatMap_nil, List.append_nil]; rw [show (i + 1) * 2 = (cs1.take (i * 2) ++ prC y).length by rw [List.length_append, List.length_take, prC_len y]; omega, List.take_left', ← ht1]; rfl), (fun t ht => by rw [List.getElem?_append_right (by rw [List.length_append, List.length_take, prC_len y]; omega), List.getElem?_drop]; rw [← hr1 t (by omega)]; congr 1; rw [List.length_append, List.length_take, prC_len y]; omega), (by omega), (by omega), hX4.trans hx5⟩ | exact ⟨cs1, hb4, hl1, (by rw [hf1, hpy]; simp [hi1]), (by rw [hf1, hpy]; simp [ht1]), (fun t ht => hr1 t (by omega)), (by omega), (by omega), hX4⟩), (by simp; omega)⟩))
    all_goals (try (refine Br.mk (i := 1000) ?_))
    all_goals (repeat' (with_reducible first | refine thenP_n ?_ | refine blockP_n ?_))
    all_goals (refine WC.sub [(0, _), (5, _)] ⟨rfl, rfl, trivial⟩ ?_)
    all_goals (refine WC.seq ?_)
    all_goals (refine WC.region ?_)
    all_goals (refine WL.step (ok_move rfl) rfl rfl rfl ?_)
    all_goals (refine WL.step (ok_move rfl) rfl rfl rfl ?_)
    all_goals (first | (refine WL.step (ok_slice_lN Try.underlying56 (fun w => Try.sizeOf63 w) rfl rfl (by omega)) rfl rfl rfl ?_) | (refine WL.step (ok_slice_lS Try.underlying56 (fun w => Try.sizeOf63 w) rfl rfl (by omega)) rfl rfl rfl ?_) | (refine WL.step (ok_slice_l Try.underlying56 (fun w => Try.sizeOf63 w) rfl rfl (by omega)) rfl rfl rfl ?_))
    all_goals (rw [List.take_of_length_le (show l.length ≤ j by omega)] at hi1 ht1)
    all_goals (refine WL.stepR0 (okE_clear rfl Try.underlying56 (fun w => Try.zeroValue63 w) rfl (by first | rfl | assumption | exact (if_neg (by omega)).trans (congrArg some (Addr.add_lit _ _ _))) (by omega) hb1 (by show 0 + i * 2 + (l.length - i) * 2 ≤ _; omega) (by simp [Value.cells, Value.oneCell'])) rfl rfl ?_
               rintro _ h3 ⟨cs3, hb3, hl3, ht3, hx3⟩)
    all_goals (refine WL.nil ?_)
    all_goals (repeat' (with_reducible first | refine thenP_n ?_ | refine blockP_n ?_))
    all_goals (refine WC.seq ?_)
    all_goals (refine WC.region ?_)
    all_goals (refine WL.step (ok_move rfl) rfl rfl rfl ?_)
    all_goals (refine WL.step (ok_move rfl) rfl rfl rfl ?_)
    all_goals (first | (refine WL.step (ok_slice_hN Try.underlying56 (fun w => Try.sizeOf63 w) rfl rfl (by omega)) rfl rfl rfl ?_) | (refine WL.step (ok_slice_h Try.underlying56 (fun w => Try.sizeOf63 w) rfl rfl (by omega)) rfl rfl rfl ?_))
    all_goals (refine WL.step (ok_assign rfl) rfl rfl rfl ?_)
    all_goals (refine WL.nil ?_)
    all_goals (repeat' (with_reducible first | refine thenP_n ?_ | refine blockP_n ?_))
    all_goals (refine WC.sub [(4, _)] ⟨rfl, trivial⟩ ?_)
    all_goals (refine WC.ret ?_)
    all_goals (repeat' (with_reducible first | refine thenP_r ?_ | refine blockP_r ?_))
    all_goals (refine retP_1 _ ⟨rfl, trivial⟩ ?_)
    all_goals (exact ⟨by rw [← hi1]; exact Own.of_block hb3 (by omega) (by unfold maxLen; omega) (by omega) (by rw [ht3 _ (by omega), ht1]), (hx1.trans hx3).mono (fun q _ e => by simp [e]), rfl⟩)

/-! ### names sorted -/
theorem sort_str {h : Heap} {v : Value} (l : List (List UInt8)) (ho : Own h v 9 1 l.length (l.map St)) (hm : l.length ≤ 1000000) :
    CallsH Try.prog 66 ⟨[v]⟩ h fun u h' => u = .tuple ⟨[]⟩ ∧ Own h' v 9 1 l.length ((srtS l).map St) ∧ Ext (fun k => v.ownBlock = some k) h h' := by
  rcases ho.slice' with ⟨rfl, h0⟩ | ⟨g, cap, rfl⟩
  · obtain rfl := List.eq_nil_of_length_eq_zero h0
    exact fun w hw => (Try.slices_Sort_string_none none 0 w).mono fun e w' ⟨he, hb⟩ => ⟨⟨by rw [hb], by rw [hb], by rw [hb]⟩, _, he, rfl, by rw [hb, hw]; simpa [srtS] using ho, by rw [hb, hw]; exact .refl _ _⟩
  · intro w hw
    subst hw
    refine (Try.slices_Sort_string g 0 cap l w (Own.holds St ho) (ho.lt rfl) (by omega)).mono fun e w' ⟨he, n, os, hb⟩ => ?_
    subst hb
    have := sorted_heap St (q := n) (os := os) ho (by unfold srtS; simp : (srtS l).length = l.length)
    exact ⟨⟨rfl, rfl, rfl⟩, _, he, rfl, this.1, this.2.mono fun k _ e => by rw [e]; rfl⟩

/-! ### package params -/
/-- Parameters at block b, their map at m. -/
structure Pa (h : Heap) (b m : Nat) (L : List Pr) : Prop where
  blk : h[b]? = some (.cells ⟨[.map (some m)]⟩ 76 (0, 0))
  map : ∃ E, Mp .string St h m (encE St E) ∧ E.Perm L
  rise : Rise L
theorem Pa.ne {h : Heap} {b m : Nat} {L : List Pr} (r : Pa h b m L) : b ≠ m := by
  rintro rfl
  obtain ⟨_, ⟨_, _, e, _⟩, _⟩ := r.map
  rw [r.blk] at e
  cases e
theorem Pa.lt {h : Heap} {b m : Nat} {L : List Pr} (r : Pa h b m L) : b < h.size ∧ m < h.size := by
  obtain ⟨_, hm, _⟩ := r.map
  exact ⟨lt_of_some r.blk, hm.lt⟩
theorem Pa.ext {h h' : Heap} {S : Nat → Prop} {b m : Nat} {L : List Pr} (r : Pa h b m L) (a : Ext S h h') (h1 : ¬ S b) (h2 : ¬ S m) : Pa h' b m L := by
  obtain ⟨E, hm, hp⟩ := r.map
  exact ⟨a.obj r.blk h1, ⟨E, hm.ext a h2, hp⟩, r.rise⟩
theorem Pa.ext0 {h h' : Heap} {b m : Nat} {L : List Pr} (r : Pa h b m L) (a : Ext No h h') : Pa h' b m L := r.ext a nos nos
set_option maxRecDepth 100000 in
theorem ready_pa {h : Heap} {b m : Nat} {L : List Pr} (r : Pa h b m L) : CallsH Try.prog 63 ⟨[.pointer (some ⟨b, 0, none⟩)]⟩ h fun u h' => u = .bool true ∧ h' = h := by
  have hb := r.blk
  refine calls [(0, _)] Try.func63 rfl Try.ntmps63 rfl ⟨rfl, trivial⟩ ?_
  all_goals (refine WC.seq ?_)
  all_goals (refine WC.region ?_)
  all_goals (refine WL.step (ok_assign rfl) rfl rfl rfl ?_)
  all_goals (refine WL.nil ?_)
  all_goals (repeat' (with_reducible first | refine thenP_n ?_ | refine blockP_n ?_))
  all_goals (refine WC.seq ?_)
  all_goals (refine WC.region ?_)
  all_goals (refine WL.step (ok_move rfl) rfl rfl rfl ?_)
  all_goals (refine WL.step (ok_neqPn Try.underlying58 rfl rfl) rfl rfl rfl ?_)
  all_goals (refine WL.step (ok_move rfl) rfl rfl rfl ?_)
  all_goals (try ((fail_if_success (refine WL.part 5 (b := true) rfl (fun _ => ?_) (fun _ => ?_))); (fail_if_success (refine WL.part 5 (b := false) rfl (fun _ => ?_) (fun _ => ?_))); (refine WL.part 5 rfl (fun hb => ?_) (fun hb => ?_) <;> (first | replace hb := of_decide_eq_true hb | replace hb := of_decide_eq_false hb | replace hb := of_decide_eq_false (nt hb) | replace hb := of_decide_eq_true (nf hb) | skip))))
  all_goals (first | (refine WL.pass rfl rfl rfl ?_) | (refine WL.step (ok_move rfl) rfl rfl rfl ?_))
  all_goals (first | (refine WL.pass rfl rfl rfl ?_) | (refine WL.step (ok_nilCheck rfl) rfl rfl rfl ?_))
  all_goals (first | (refine WL.pass rfl rfl rfl ?_) | (refine WL.step (ok_fieldAddr rfl Try.underlying76 rfl (fun w => Try.sizeOf74 w)) rfl rfl rfl ?_))
  all_goals (first | (refine WL.pass rfl rfl rfl ?_) | (refine WL.step (ok_load (fun w => Try.isAgg74 w) rfl (by first | assumption | exact cell_blk (by assumption) rfl)) rfl rfl rfl ?_))
  all_goals (first | (refine WL.pass rfl rfl rfl ?_) | (refine WL.step (ok_neqMn Try.underlying74 rfl rfl) rfl rfl rfl ?_))
  all_goals (first | (refine WL.step (ok_pick_t rfl rfl) rfl rfl rfl ?_) | (refine WL.step (ok_pick_f rfl rfl) rfl rfl rfl ?_))
  all_goals (refine WL.step (ok_assign rfl) rfl rfl rfl ?_)
  all_goals (refine WL.nil ?_)
  all_goals (repeat' (with_reducible first | refine thenP_n ?_ | refine blockP_n ?_))
  all_goals (refine WC.sub [(2, _)] ⟨rfl, trivial⟩ ?_)
  all_goals (refine WC.ret ?_)
  all_goals (repeat' (with_reducible first | refine thenP_r ?_ | refine blockP_r ?_))
  all_goals (refine retP_1 _ ⟨rfl, trivial⟩ ?_)
  all_goals (exact ⟨rfl, rfl⟩)
def getV : Option (List UInt8) → Value
  | none => .tuple ⟨[St [], .bool false]⟩
  | some v => .tuple ⟨[St v, .bool true]⟩
set_option maxRecDepth 100000 in
theorem get_pa {h : Heap} {b m : Nat} {L : List Pr} (r : Pa h b m L) (n : List UInt8) : CallsH Try.prog 39 ⟨[.pointer (some ⟨b, 0, none⟩), St n]⟩ h fun u h' => u = getV (getL L n) ∧ h' = h := by
  have r0 := r
  obtain ⟨hb, ⟨E, hm, hp⟩, hri⟩ := r
  have hl := alook_enc St E n
  rw [getL_perm hp hri.nd] at hl
  rcases hg : getL L n with _ | v
  all_goals
    rw [hg] at hl
    simp only [Option.map_none, Option.map_some] at hl
    refine calls [(0, _), (1, _)] Try.func39 rfl Try.ntmps39 rfl ⟨rfl, rfl, trivial⟩ ?_
    all_goals (refine WC.seq ?_)
    all_goals (refine WC.region ?_)
    all_goals (refine WL.step (ok_assign rfl) rfl rfl rfl ?_)
    all_goals (refine WL.step (ok_assign rfl) rfl rfl rfl ?_)
    all_goals (refine WL.nil ?_)
    all_goals (repeat' (with_reducible first | refine thenP_n ?_ | refine blockP_n ?_))
    all_goals (refine WC.seq ?_)
    all_goals (refine WC.seq ?_)
    all_goals (refine WC.region ?_)
    all_goals (refine WL.step (ok_move rfl) rfl rfl rfl ?_)
    all_goals (refine WL.call (vs := [_]) rfl (fun a w => Try.call63 a w) rfl (ready_pa r0) rfl rfl rfl ?_
               rintro _ hz ⟨rfl, _⟩
               subst hz)
    all_goals (refine WL.step (ok_not rfl) rfl rfl rfl ?_)
    all_goals (refine WL.nil ?_)
    all_goals (repeat' (with_reducible first | refine thenP_n ?_ | refine blockP_n ?_))
    all_goals (refine WC.sub [(0, _), (1, _), (10, _)] ⟨rfl, rfl, rfl, trivial⟩ ?_)
    all_goals (first | refine WC.condB_t 1 rfl ?_ | refine WC.condB_f 2 rfl ?_ | (refine WC.condB 1 2 rfl (fun hb => ?_) (fun hb => ?_) <;> (first | replace hb := of_decide_eq_true hb | replace hb := of_decide_eq_false hb | replace hb := of_decide_eq_false (nt hb) | replace hb := of_decide_eq_true (nf hb) | skip)))
    all_goals (first
      | (fail_if_success (refine Br.mk (i := 1) ?_))
      | (refine Br.mk (i := 1) ?_
         all_goals (refine WC.seq ?_)
         all_goals (refine WC.region ?_)
         all_goals (refine WL.step (ok_assign rfl) rfl rfl rfl ?_)
         all_goals (refine WL.step (ok_assign rfl) rfl rfl rfl ?_)
         all_goals (refine WL.nil ?_)
         all_goals (repeat' (with_reducible first | refine thenP_n ?_ | refine blockP_n ?_))
         all_goals (refine WC.ret ?_)
         all_goals (repeat' (with_reducible first | refine thenP_r ?_ | refine blockP_r ?_))
         all_goals (refine retP_2 _ _ ⟨rfl, rfl, trivial⟩ ?_)
         all_goals (exact ⟨rfl, rfl⟩)
         skip))
    all_goals (first
      | (fail_if_success (refine Br.mk (i := 2) ?_))
      | (refine Br.mk (i := 2) ?_
         all_goals (refine WC.skip ?_)
         skip))
    all_goals (repeat' (with_reducible first | refine thenP_n ?_ | refine blockP_n ?_))
    all_goals (refine WC.seq ?_)
    all_goals (refine WC.region ?_)
    all_goals (refine WL.step (ok_move rfl) rfl rfl rfl ?_)
    all_goals (refine WL.step (ok_nilCheck rfl) rfl rfl rfl ?_)
    all_goals (refine WL.step (ok_fieldAddr rfl Try.underlying76 rfl (fun w => Try.sizeOf74 w)) rfl rfl rfl ?_)
    all_goals (refine WL.step (ok_load (fun w => Try.isAgg74 w) rfl (by first | assumption | exact cell_blk (by assumption) rfl)) rfl rfl rfl ?_)
    all_goals (refine WL.step (ok_move rfl) rfl rfl rfl ?_)
    all_goals (first | (refine WL.step ((ok_lookup keyS Try.underlying74 Try.underlying9 rfl rfl (by assumption) (by assumption)).1) rfl rfl rfl ?_) | (refine WL.step ((ok_lookup_no keyS Try.underlying74 Try.underlying9 (fun w => Try.zeroValue9 w) rfl rfl (by assumption) (by assumption)).1) rfl rfl rfl ?_) | (refine WL.step ((ok_lookup_nil keyS Try.underlying74 Try.underlying9 (fun w => Try.zeroValue9 w) rfl rfl).1) rfl rfl rfl ?_))
    all_goals (refine WL.step (ok_move rfl) rfl rfl rfl ?_)
    all_goals (refine WL.step (ok_extract rfl rfl) rfl rfl rfl ?_)
    all_goals (refine WL.step (ok_extract rfl rfl) rfl rfl rfl ?_)
    all_goals (refine WL.step (ok_assign rfl) rfl rfl rfl ?_)
    all_goals (refine WL.step (ok_assign rfl) rfl rfl rfl ?_)
    all_goals (refine WL.nil ?_)
    all_goals (repeat' (with_reducible first | refine thenP_n ?_ | refine blockP_n ?_))
    all_goals (refine WC.sub [(6, _), (7, _)] ⟨rfl, rfl, trivial⟩ ?_)
    all_goals (refine WC.seq ?_)
    all_goals (refine WC.region ?_)
    all_goals (refine WL.step (ok_move rfl) rfl rfl rfl ?_)
    all_goals (refine WL.step (ok_move rfl) rfl rfl rfl ?_)
    all_goals (refine WL.step (ok_assign rfl) rfl rfl rfl ?_)
    all_goals (refine WL.step (ok_assign rfl) rfl rfl rfl ?_)
    all_goals (refine WL.nil ?_)
    all_goals (repeat' (with_reducible first | refine thenP_n ?_ | refine blockP_n ?_))
    all_goals (refine WC.sub [(4, _), (5, _)] ⟨rfl, rfl, trivial⟩ ?_)
    all_goals (refine WC.ret ?_)
    all_goals (repeat' (with_reducible first | refine thenP_r ?_ | refine blockP_r ?_))
    all_goals (refine retP_2 _ _ ⟨rfl, rfl, trivial⟩ ?_)
    all_goals (exact ⟨rfl, rfl⟩)
def setB (L : List Pr) (n v : List UInt8) : Bool := match getL L n with | none => true | some w => !decide (w = v)
set_option maxRecDepth 100000 in
theorem set_pa {h : Heap} {b m : Nat} {L : List Pr} (r : Pa h b m L) (n v : List UInt8) : CallsH Try.prog 37 ⟨[.pointer (some ⟨b, 0, none⟩), St n, St v]⟩ h fun u h' => u = .bool (setB L n v) ∧ Pa h' b m (setL L n v) ∧ Ext (fun k => k = m) h h' := by
  have r0 := r
  have hbm := r.ne
  obtain ⟨hb, ⟨E, hm, hp⟩, hri⟩ := r
  have hl := alook_enc St E n
  rw [getL_perm hp hri.nd] at hl
  rcases hg : getL L n with _ | w
  all_goals
    rw [hg] at hl
    simp only [Option.map_none, Option.map_some] at hl
    refine calls [(0, _), (1, _), (2, _)] Try.func37 rfl Try.ntmps37 rfl ⟨rfl, rfl, rfl, trivial⟩ ?_
    all_goals (refine WC.seq ?_)
    all_goals (refine WC.region ?_)
    all_goals (refine WL.step (ok_assign rfl) rfl rfl rfl ?_)
    all_goals (refine WL.nil ?_)
    all_goals (repeat' (with_reducible first | refine thenP_n ?_ | refine blockP_n ?_))
    all_goals (refine WC.seq ?_)
    all_goals (refine WC.seq ?_)
    all_goals (refine WC.region ?_)
    all_goals (refine WL.step (ok_move rfl) rfl rfl rfl ?_)
    all_goals (refine WL.call (vs := [_]) rfl (fun a w => Try.call63 a w) rfl (ready_pa r0) rfl rfl rfl ?_
               rintro _ hz ⟨rfl, _⟩
               subst hz)
    all_goals (refine WL.step (ok_not rfl) rfl rfl rfl ?_)
    all_goals (refine WL.nil ?_)
    all_goals (repeat' (with_reducible first | refine thenP_n ?_ | refine blockP_n ?_))
    all_goals (first | refine WC.condB_t 1 rfl ?_ | refine WC.condB_f 2 rfl ?_ | (refine WC.condB 1 2 rfl (fun hb => ?_) (fun hb => ?_) <;> (first | replace hb := of_decide_eq_true hb | replace hb := of_decide_eq_false hb | replace hb := of_decide_eq_false (nt hb) | replace hb := of_decide_eq_true (nf hb) | skip)))
    all_goals (first
      | (fail_if_success (refine Br.mk (i := 1) ?_))
      | (refine Br.mk (i := 1) ?_
         all_goals (refine WC.seq ?_)
         all_goals (refine WC.region ?_)
         all_goals (refine WL.step (ok_assign rfl) rfl rfl rfl ?_)
         all_goals (refine WL.nil ?_)
         all_goals (repeat' (with_reducible first | refine thenP_n ?_ | refine blockP_n ?_))
         all_goals (refine WC.sub [(6, _)] ⟨rfl, trivial⟩ ?_)
         all_goals (refine WC.ret ?_)
         all_goals (repeat' (with_reducible first | refine thenP_r ?_ | refine blockP_r ?_))
         all_goals (refine retP_1 _ ⟨rfl, trivial⟩ ?_)
         all_goals (refine ⟨?_, ⟨hx1.obj hb hbm, ⟨_, hm1, put_perm hp hri n v⟩, hri.set n v⟩, hx1⟩
                    first | (unfold setB; rw [hg]; done) | (unfold setB; rw [hg]; simp_all; done))
         skip))
    all_goals (first
      | (fail_if_success (refine Br.mk (i := 2) ?_))
      | (refine Br.mk (i := 2) ?_
         all_goals (refine WC.skip ?_)
         skip))
    all_goals (repeat' (with_reducible first | refine thenP_n ?_ | refine blockP_n ?_))
    all_goals (refine WC.sub [(0, _), (1, _), (2, _)] ⟨rfl, rfl, rfl, trivial⟩ ?_)
    all_goals (refine WC.seq ?_)
    all_goals (refine WC.region ?_)
    all_goals (refine WL.step (ok_move rfl) rfl rfl rfl ?_)
    all_goals (refine WL.step (ok_nilCheck rfl) rfl rfl rfl ?_)
    all_goals (refine WL.step (ok_fieldAddr rfl Try.underlying76 rfl (fun w => Try.sizeOf74 w)) rfl rfl rfl ?_)
    all_goals (refine WL.step (ok_load (fun w => Try.isAgg74 w) rfl (by first | assumption | exact cell_blk (by assumption) rfl)) rfl rfl rfl ?_)
    all_goals (refine WL.step (ok_move rfl) rfl rfl rfl ?_)
    all_goals (first | (refine WL.step ((ok_lookup keyS Try.underlying74 Try.underlying9 rfl rfl (by assumption) (by assumption)).1) rfl rfl rfl ?_) | (refine WL.step ((ok_lookup_no keyS Try.underlying74 Try.underlying9 (fun w => Try.zeroValue9 w) rfl rfl (by assumption) (by assumption)).1) rfl rfl rfl ?_) | (refine WL.step ((ok_lookup_nil keyS Try.underlying74 Try.underlying9 (fun w => Try.zeroValue9 w) rfl rfl).1) rfl rfl rfl ?_))
    all_goals (refine WL.step (ok_move rfl) rfl rfl rfl ?_)
    all_goals (refine WL.step (ok_extract rfl rfl) rfl rfl rfl ?_)
    all_goals (refine WL.step (ok_extract rfl rfl) rfl rfl rfl ?_)
    all_goals (refine WL.step (ok_assign rfl) rfl rfl rfl ?_)
    all_goals (refine WL.step (ok_assign rfl) rfl rfl rfl ?_)
    all_goals (refine WL.nil ?_)
    all_goals (repeat' (with_reducible first | refine thenP_n ?_ | refine blockP_n ?_))
    all_goals (refine WC.sub [(0, _), (1, _), (2, _), (7, _), (8, _)] ⟨rfl, rfl, rfl, rfl, rfl, trivial⟩ ?_)
    all_goals (refine WC.seq ?_)
    all_goals (refine WC.region ?_)
    all_goals (refine WL.step (ok_move rfl) rfl rfl rfl ?_)
    all_goals (refine WL.step (ok_nilCheck rfl) rfl rfl rfl ?_)
    all_goals (refine WL.step (ok_fieldAddr rfl Try.underlying76 rfl (fun w => Try.sizeOf74 w)) rfl rfl rfl ?_)
    all_goals (refine WL.step (ok_load (fun w => Try.isAgg74 w) rfl (by first | assumption | exact cell_blk (by assumption) rfl)) rfl rfl rfl ?_)
    all_goals (refine WL.step (ok_move rfl) rfl rfl rfl ?_)
    all_goals (refine WL.step (ok_move rfl) rfl rfl rfl ?_)
    all_goals (refine WL.stepR0 (ok_mapUpdate keyS Try.underlying74 Try.underlying9 rfl rfl rfl (by assumption)) rfl rfl ?_
               rintro _ h1 ⟨hm1, hx1⟩)
    all_goals (rw [aput_enc] at hm1)
    all_goals (refine WL.nil ?_)
    all_goals (repeat' (with_reducible first | refine thenP_n ?_ | refine blockP_n ?_))
    all_goals (refine WC.sub [(2, _), (7, _), (8, _)] ⟨rfl, rfl, rfl, trivial⟩ ?_)
    all_goals (refine WC.seq ?_)
    all_goals (refine WC.region ?_)
    all_goals (refine WL.step (ok_move rfl) rfl rfl rfl ?_)
    all_goals (refine WL.step (ok_not rfl) rfl rfl rfl ?_)
    all_goals (refine WL.step (ok_move rfl) rfl rfl rfl ?_)
    all_goals (try ((fail_if_success (refine WL.part 29 (b := true) rfl (fun _ => ?_) (fun _ => ?_))); (fail_if_success (refine WL.part 29 (b := false) rfl (fun _ => ?_) (fun _ => ?_))); (refine WL.part 29 rfl (fun hb => ?_) (fun hb => ?_) <;> (first | replace hb := of_decide_eq_true hb | replace hb := of_decide_eq_false hb | replace hb := of_decide_eq_false (nt hb) | replace hb := of_decide_eq_true (nf hb) | skip))))
    all_goals (first | (refine WL.pass rfl rfl rfl ?_) | (refine WL.step (ok_move rfl) rfl rfl rfl ?_))
    all_goals (first | (refine WL.pass rfl rfl rfl ?_) | (refine WL.step (ok_move rfl) rfl rfl rfl ?_))
    all_goals (first | (refine WL.pass rfl rfl rfl ?_) | (first | (refine WL.step (OkP.nbool_f (by first | rfl | assumption | decide) (ok_neqS rfl rfl)) rfl rfl rfl ?_) | (refine WL.step (OkP.nbool_t (by first | assumption | decide) (ok_neqS rfl rfl)) rfl rfl rfl ?_) | (refine WL.step (ok_neqS rfl rfl) rfl rfl rfl ?_)))
    all_goals (first | (refine WL.step (ok_pick_t rfl rfl) rfl rfl rfl ?_) | (refine WL.step (ok_pick_f rfl rfl) rfl rfl rfl ?_))
    all_goals (refine WL.step (ok_assign rfl) rfl rfl rfl ?_)
    all_goals (refine WL.nil ?_)
    all_goals (repeat' (with_reducible first | refine thenP_n ?_ | refine blockP_n ?_))
    all_goals (refine WC.sub [(6, _)] ⟨rfl, trivial⟩ ?_)
    all_goals (refine WC.ret ?_)
    all_goals (repeat' (with_reducible first | refine thenP_r ?_ | refine blockP_r ?_))
    all_goals (refine retP_1 _ ⟨rfl, trivial⟩ ?_)
    all_goals (refine ⟨?_, ⟨hx1.obj hb hbm, ⟨_, hm1, put_perm hp hri n v⟩, hri.set n v⟩, hx1⟩
               first | (unfold setB; rw [hg]; done) | (unfold setB; rw [hg]; simp_all; done))
set_option maxRecDepth 100000 in
theorem len_pa {h : Heap} {b m : Nat} {L : List Pr} (r : Pa h b m L) : CallsH Try.prog 45 ⟨[.pointer (some ⟨b, 0, none⟩)]⟩ h fun u h' => u = In L.length ∧ h' = h := by
  have r0 := r
  obtain ⟨hb, ⟨E, hm, hp⟩, hri⟩ := r
  refine calls [(0, _)] Try.func45 rfl Try.ntmps45 rfl ⟨rfl, trivial⟩ ?_
  all_goals (refine WC.seq ?_)
  all_goals (refine WC.region ?_)
  all_goals (refine WL.step (ok_assign rfl) rfl rfl rfl ?_)
  all_goals (refine WL.nil ?_)
  all_goals (repeat' (with_reducible first | refine thenP_n ?_ | refine blockP_n ?_))
  all_goals (refine WC.seq ?_)
  all_goals (refine WC.seq ?_)
  all_goals (refine WC.region ?_)
  all_goals (refine WL.step (ok_move rfl) rfl rfl rfl ?_)
  all_goals (refine WL.call (vs := [_]) rfl (fun a w => Try.call63 a w) rfl (ready_pa r0) rfl rfl rfl ?_
             rintro _ hz ⟨rfl, _⟩
             subst hz)
  all_goals (refine WL.step (ok_not rfl) rfl rfl rfl ?_)
  all_goals (refine WL.nil ?_)
  all_goals (repeat' (with_reducible first | refine thenP_n ?_ | refine blockP_n ?_))
  all_goals (first | refine WC.condB_t 1 rfl ?_ | refine WC.condB_f 2 rfl ?_ | (refine WC.condB 1 2 rfl (fun hb => ?_) (fun hb => ?_) <;> (first | replace hb := of_decide_eq_true hb | replace hb := of_decide_eq_false hb | replace hb := of_decide_eq_false (nt hb) | replace hb := of_decide_eq_true (nf hb) | skip)))
  all_goals (first
    | (fail_if_success (refine Br.mk (i := 1) ?_))
    | (refine Br.mk (i := 1) ?_
       all_goals (refine WC.seq ?_)
       all_goals (refine WC.region ?_)
       all_goals (refine WL.step (ok_assign rfl) rfl rfl rfl ?_)
       all_goals (refine WL.nil ?_)
       all_goals (repeat' (with_reducible first | refine thenP_n ?_ | refine blockP_n ?_))
       all_goals (refine WC.sub [(2, _)] ⟨rfl, trivial⟩ ?_)
       all_goals (refine WC.ret ?_)
       all_goals (repeat' (with_reducible first | refine thenP_r ?_ | refine blockP_r ?_))
       all_goals (refine retP_1 _ ⟨rfl, trivial⟩ ?_)
       all_goals (exact ⟨by rw [enc_len, hp.length_eq], rfl⟩)
       skip))
  all_goals (first
    | (fail_if_success (refine Br.mk (i := 2) ?_))
    | (refine Br.mk (i := 2) ?_
       all_goals (refine WC.skip ?_)
       skip))
  all_goals (repeat' (with_reducible first | refine thenP_n ?_ | refine blockP_n ?_))
  all_goals (refine WC.sub [(0, _)] ⟨rfl, trivial⟩ ?_)
  all_goals (refine WC.seq ?_)
  all_goals (refine WC.region ?_)
  all_goals (refine WL.step (ok_move rfl) rfl rfl rfl ?_)
  all_goals (refine WL.step (ok_nilCheck rfl) rfl rfl rfl ?_)
  all_goals (refine WL.step (ok_fieldAddr rfl Try.underlying76 rfl (fun w => Try.sizeOf74 w)) rfl rfl rfl ?_)
  all_goals (refine WL.step (ok_load (fun w => Try.isAgg74 w) rfl (by first | assumption | exact cell_blk (by assumption) rfl)) rfl rfl rfl ?_)
  all_goals (first | (refine WL.step (ok_lenM rfl Try.underlying74 rfl (by assumption)) rfl rfl rfl ?_) | (refine WL.step (ok_lenM0 rfl Try.underlying74 rfl) rfl rfl rfl ?_))
  all_goals (refine WL.step (ok_assign rfl) rfl rfl rfl ?_)
  all_goals (refine WL.nil ?_)
  all_goals (repeat' (with_reducible first | refine thenP_n ?_ | refine blockP_n ?_))
  all_goals (refine WC.sub [(2, _)] ⟨rfl, trivial⟩ ?_)
  all_goals (refine WC.ret ?_)
  all_goals (repeat' (with_reducible first | refine thenP_r ?_ | refine blockP_r ?_))
  all_goals (refine retP_1 _ ⟨rfl, trivial⟩ ?_)
  all_goals (exact ⟨by rw [enc_len, hp.length_eq], rfl⟩)
def newL (l : List Pr) : List Pr := l.foldl (fun L p => setL L p.1 p.2) []
theorem newL_snoc {l : List Pr} {k : Nat} {y : Pr} (h : l[k]? = some y) : newL (l.take (k + 1)) = setL (newL (l.take k)) y.1 y.2 := by
  unfold newL
  rw [List.take_add_one, h, List.foldl_append]
  rfl
theorem newL_len (l : List Pr) : ∀ k, (newL (l.take k)).length ≤ k := by
  intro k
  induction k with
  | zero => simp [newL]
  | succ k ih =>
    rcases h : l[k]? with _ | y
    · rw [List.take_of_length_le (by have := List.getElem?_eq_none_iff.1 h; omega)] at ih ⊢
      omega
    · rw [newL_snoc h]
      have : ∀ (L : List Pr) n v, (setL L n v).length ≤ L.length + 1 := by
        intro L n v
        induction L with
        | nil => simp [setL]
        | cons a L ih =>
          obtain ⟨m, w⟩ := a
          unfold setL
          split
          · simp; exact ih
          · split <;> simp
      have := this (newL (l.take k)) y.1 y.2
      omega
set_option maxRecDepth 100000 in
theorem new_pa {h : Heap} {v : Value} (l : List Pr) (hr : Rd h v 2 l.length (l.flatMap prC)) (hl : l.length ≤ 1000000) :
    CallsH Try.prog 35 ⟨[v]⟩ h fun u h' => ∃ b m, u = .pointer (some ⟨b, 0, none⟩) ∧ Pa h' b m (newL l) ∧ h.size ≤ b ∧ h.size ≤ m ∧ Ext No h h' := by
  obtain ⟨A, c, rfl, _⟩ := id hr
  refine calls [(0, _)] Try.func35 rfl Try.ntmps35 rfl ⟨rfl, trivial⟩ ?_
  all_goals (refine WC.seq ?_)
  all_goals (refine WC.region ?_)
  all_goals (refine WL.step (ok_assign rfl) rfl rfl rfl ?_)
  all_goals (refine WL.nil ?_)
  all_goals (repeat' (with_reducible first | refine thenP_n ?_ | refine blockP_n ?_))
  all_goals (refine WC.seq ?_)
  all_goals (refine WC.region ?_)
  all_goals (refine WL.stepR okE_makeMap rfl rfl rfl ?_
             rintro _ h1 ⟨m1, rfl, hgm, hm1, hxm⟩)
  all_goals (refine WL.step (ok_buildF (vs := [_]) (cs := [_]) (fun | [a0] => [a0] | _ => []) rfl rfl (by kernel_rfl)) rfl rfl rfl ?_)
  all_goals (refine WL.stepR (okE_box rfl) rfl rfl rfl ?_
             rintro _ h2 ⟨b1, rfl, hgb, hb1, hxb⟩)
  all_goals (have hMp : Mp .string St h2 m1 (encE St ([] : List Pr)) := ⟨_, _, hxb.obj hm1 id, MapKept.stamped_empty 0, rfl⟩
             have hx2 := hxm.trans hxb
             have hsm := hxm.size)
  all_goals (refine WL.step (ok_assign rfl) rfl rfl rfl ?_)
  all_goals (refine WL.nil ?_)
  all_goals (repeat' (with_reducible first | refine thenP_n ?_ | refine blockP_n ?_))
  all_goals (refine WC.sub [(0, _), (3, _)] ⟨rfl, rfl, trivial⟩ ?_)
  all_goals (refine WC.seq ?_)
  all_goals (refine WC.seq ?_)
  all_goals (refine WC.region ?_)
  all_goals (refine WL.step (ok_move rfl) rfl rfl rfl ?_)
  all_goals (refine WL.step (ok_lenL rfl Try.underlying56 rfl) rfl rfl rfl ?_)
  all_goals (refine WL.step (ok_move rfl) rfl rfl rfl ?_)
  all_goals (refine WL.nil ?_)
  all_goals (repeat' (with_reducible first | refine thenP_n ?_ | refine blockP_n ?_))
  all_goals (refine WC.block ?_)
  -- loop 0: slots that turn [11], that stay [3, 9, 10]
  all_goals (refine WC.loopG (X := Nat) (fun x => ([(11, In (x : Int))] : Fr)) [(3, _), (9, _), (10, _)] (fun k h' => k ≤ l.length ∧ Pa h' b1 m1 (newL (l.take k)) ∧ Ext No h h') (fun k => l.length - k) (0) ⟨rfl, rfl, rfl, rfl, trivial⟩ (by exact ⟨Nat.zero_le _, ⟨hb1, ⟨_, hMp, .refl _⟩, List.Pairwise.nil⟩, hx2⟩) ?_)
  all_goals (rintro k h3 ⟨hk, r3, hx3⟩)
  all_goals (refine WC.sub [(11, _), (3, _), (9, _), (10, _)] ⟨rfl, rfl, rfl, rfl, trivial⟩ ?_)
  all_goals (refine WC.seq ?_)
  all_goals (refine WC.region ?_)
  all_goals (first | (refine WL.step (OkP.bool_t (by omega) (ok_lss rfl rfl)) rfl rfl rfl ?_) | (refine WL.step (OkP.bool_f (by omega) (ok_lss rfl rfl)) rfl rfl rfl ?_) | (refine WL.step (ok_lss rfl rfl) rfl rfl rfl ?_))
  all_goals (refine WL.nil ?_)
  all_goals (repeat' (with_reducible first | refine thenP_n ?_ | refine blockP_n ?_))
  all_goals (refine WC.seq ?_)
  all_goals (first | refine WC.condB_t 1 rfl ?_ | refine WC.condB_f 2 rfl ?_ | (refine WC.condB 1 2 rfl (fun hb => ?_) (fun hb => ?_) <;> (first | replace hb := of_decide_eq_true hb | replace hb := of_decide_eq_false hb | replace hb := of_decide_eq_false (nt hb) | replace hb := of_decide_eq_true (nf hb) | skip)))
  all_goals (first
    | (fail_if_success (refine Br.mk (i := 1) ?_))
    | (refine Br.mk (i := 1) ?_
       all_goals (refine WC.skip ?_)
       skip))
  all_goals (first
    | (fail_if_success (refine Br.mk (i := 2) ?_))
    | (refine Br.mk (i := 2) ?_
       all_goals (refine WC.exit ?_)
       all_goals (repeat' (with_reducible first | refine thenP_x ?_ | refine blockP_miss rfl ?_ | refine blockP_hit ?_ | refine blockP_n ?_ | refine thenP_n ?_))
       all_goals (refine Br.out (i := 1000) ?_)
       skip))
  all_goals (first | (refine Br.keep ?_) | (repeat' (with_reducible first | refine thenP_n ?_ | refine blockP_n ?_)))
  all_goals (first | (refine Br.keep ?_) | (refine WC.seq ?_))
  all_goals (first | (refine Br.keep ?_) | (refine WC.block ?_))
  all_goals (first | (refine Br.keep ?_) | (refine WC.seq ?_))
  all_goals (first | (refine Br.keep ?_) | (refine WC.region ?_))
  all_goals (first
               | (refine Br.keep ?_)
               | (obtain ⟨bL, oL, hA, hbL, hat⟩ := Rd.at_ (hr.ext0 hx3) (by omega)
                  obtain ⟨⟨yn, yv⟩, hy⟩ : ∃ y, l[k]? = some y := ⟨_, List.getElem?_eq_getElem (by omega)⟩
                  have hc : At h3 bL (oL + k * 2) [St yn, St yv] := At.elem prC_len hat hy))
  all_goals (first | (refine Br.keep ?_) | (refine WL.step (ok_idxAddrA Try.underlying56 (fun w => Try.sizeOf63 w) rfl rfl rfl (by omega) (by first | rfl | assumption)) rfl rfl rfl ?_))
  all_goals (first | (refine Br.keep ?_) | (refine WL.step (ok_loadN (fun w => Try.isAgg63 w) (fun w => Try.sizeOf63 w) rfl rfl (by assumption)) rfl rfl rfl ?_))
  all_goals (first
               | (refine Br.keep ?_)
               | (refine WL.stepR (okE_alloc (fun w => Try.zeroValue63 w)) rfl rfl rfl ?_
                  rintro _ h4 ⟨b4, rfl, hg4, hb4, hx4⟩))
  all_goals (first
               | (refine Br.keep ?_)
               | (refine WL.stepR0 (okE_storeW (fun w => Try.sizeOf63 w) rfl rfl rfl (by assumption) rfl (by simp [Value.oneCell'])) rfl rfl ?_
                  rintro _ h5 ⟨hb5, hx5⟩))
  all_goals (first
               | (refine Br.keep ?_)
               | (have hx35 : Ext No h3 h5 := hx4.trans' hx5 (fun q hq e => by omega)
                  have r5 := r3.ext0 hx35
                  have hbm := r5.ne
                  obtain ⟨hb5', ⟨E5, hm5, hp5⟩, hri5⟩ := id r5))
  all_goals (first | (refine Br.keep ?_) | (refine WL.nil ?_))
  all_goals (first | (refine Br.keep ?_) | (repeat' (with_reducible first | refine thenP_n ?_ | refine blockP_n ?_)))
  all_goals (first | (refine Br.keep ?_) | (refine WC.drawT 8 fol (by kernel_rfl) ?_))
  all_goals (first | (refine Br.keep ?_) | (show WS _ _ _ [_, _, _, _, _, _, _, _] _ _ _))
  all_goals (first | (refine Br.keep ?_) | (refine WS.step (ok_move rfl) rfl rfl rfl ?_))
  all_goals (first | (refine Br.keep ?_) | (refine WS.step (ok_nilCheck rfl) rfl rfl rfl ?_))
  all_goals (first | (refine Br.keep ?_) | (refine WS.step (ok_fieldAddr rfl Try.underlying76 rfl (fun w => Try.sizeOf74 w)) rfl rfl rfl ?_))
  all_goals (first | (refine Br.keep ?_) | (refine WS.step (ok_load (fun w => Try.isAgg74 w) rfl (by first | assumption | exact cell_blk (by assumption) rfl)) rfl rfl rfl ?_))
  all_goals (first | (refine Br.keep ?_) | (refine WS.step (ok_fieldAddr rfl Try.underlying63 rfl (fun w => Try.sizeOf9 w)) rfl rfl rfl ?_))
  all_goals (first | (refine Br.keep ?_) | (refine WS.step (ok_load (fun w => Try.isAgg9 w) rfl (by first | assumption | exact cell_blk (by assumption) rfl)) rfl rfl rfl ?_))
  all_goals (first | (refine Br.keep ?_) | (refine WS.step (ok_fieldAddr rfl Try.underlying63 rfl (fun w => Try.sizeOf9 w)) rfl rfl rfl ?_))
  all_goals (first | (refine Br.keep ?_) | (refine WS.step (ok_load (fun w => Try.isAgg9 w) rfl (by first | assumption | exact cell_blk (by assumption) rfl)) rfl rfl rfl ?_))
  all_goals (first | (refine Br.keep ?_) | (refine WS.nil ?_))
  all_goals (first | (refine Br.keep ?_) | (show WL _ _ _ [_] _ _ _))
  all_goals (first
               | (refine Br.keep ?_)
               | (refine WL.stepR0 (ok_mapUpdate keyS Try.underlying74 Try.underlying9 rfl rfl rfl (by assumption)) rfl rfl ?_
                  rintro _ h6 ⟨hm6, hx6⟩))
  all_goals (first | (refine Br.keep ?_) | (rw [aput_enc] at hm6))
  all_goals (first | (refine Br.keep ?_) | (refine WL.nil ?_))
  all_goals (first | (refine Br.keep ?_) | (repeat' (with_reducible first | refine thenP_n ?_ | refine blockP_n ?_)))
  all_goals (first | (refine Br.keep ?_) | (refine WC.sub [(3, _), (9, _), (10, _), (11, _)] ⟨rfl, rfl, rfl, rfl, trivial⟩ ?_))
  all_goals (first | (refine Br.keep ?_) | (refine WC.region ?_))
  all_goals (first | (refine Br.keep ?_) | (first | (refine WL.step (ok_addI rfl rfl (by omega)) rfl rfl rfl ?_) | (refine WL.step (ok_add rfl rfl) rfl rfl rfl ?_)))
  all_goals (first | (refine Br.keep ?_) | (refine WL.step (ok_move rfl) rfl rfl rfl ?_))
  all_goals (first | (refine Br.keep ?_) | (refine WL.nil ?_))
  all_goals (first | (refine Br.keep ?_) | (repeat' (with_reducible first | refine thenP_n ?_ | refine blockP_n ?_)))
  all_goals (first | (refine Br.keep ?_) | (exact ⟨k + 1, ⟨rfl, rfl, rfl, rfl, trivial⟩, (by exact ⟨by omega, by rw [newL_snoc hy]; exact ⟨hx6.obj hb5' hbm, ⟨_, hm6, put_perm hp5 hri5 yn yv⟩, hri5.set yn yv⟩, (hx3.trans hx35).trans' hx6 (fun q hq e => by omega)⟩), (by omega)⟩))
  all_goals (try (refine Br.mk (i := 1000) ?_))
  all_goals (repeat' (with_reducible first | refine thenP_n ?_ | refine blockP_n ?_))
  all_goals (refine WC.sub [(3, _)] ⟨rfl, trivial⟩ ?_)
  all_goals (refine WC.seq ?_)
  all_goals (refine WC.region ?_)
  all_goals (refine WL.step (ok_move rfl) rfl rfl rfl ?_)
  all_goals (refine WL.step (ok_assign rfl) rfl rfl rfl ?_)
  all_goals (refine WL.nil ?_)
  all_goals (repeat' (with_reducible first | refine thenP_n ?_ | refine blockP_n ?_))
  all_goals (refine WC.ret ?_)
  all_goals (repeat' (with_reducible first | refine thenP_r ?_ | refine blockP_r ?_))
  all_goals (refine retP_1 _ ⟨rfl, trivial⟩ ?_)
  all_goals (rw [List.take_of_length_le (by omega)] at r3
             exact ⟨_, _, rfl, r3, by omega, hgm, hx3⟩)
/-- Pairs of one's own. -/
def NewP (h : Heap) (u : Value) (L : List Pr) (h' : Heap) : Prop := Own h' u 63 2 L.length (L.flatMap prC) ∧ Ext No h h' ∧ ∀ k, u.ownBlock = some k → h.size ≤ k
set_option maxHeartbeats 1000000 in
set_option maxRecDepth 100000 in
theorem all_pa {h : Heap} {b m : Nat} {L : List Pr} (r : Pa h b m L) (hl : L.length ≤ 100000) : CallsH Try.prog 44 ⟨[.pointer (some ⟨b, 0, none⟩)]⟩ h fun u h' => NewP h u L h' := by
  have r0 := r
  obtain ⟨hb, ⟨E, hm, hp⟩, hri⟩ := r
  have hEl := hp.length_eq
  have hbm := r0.ne
  have hlt := r0.lt
  refine calls [(0, _)] Try.func44 rfl Try.ntmps44 rfl ⟨rfl, trivial⟩ ?_
  all_goals (refine WC.seq ?_)
  all_goals (refine WC.region ?_)
  all_goals (refine WL.step (ok_assign rfl) rfl rfl rfl ?_)
  all_goals (refine WL.nil ?_)
  all_goals (repeat' (with_reducible first | refine thenP_n ?_ | refine blockP_n ?_))
  all_goals (refine WC.seq ?_)
  all_goals (refine WC.seq ?_)
  all_goals (refine WC.region ?_)
  all_goals (refine WL.step (ok_move rfl) rfl rfl rfl ?_)
  all_goals (refine WL.call (vs := [_]) rfl (fun a w => Try.call63 a w) rfl (ready_pa r0) rfl rfl rfl ?_
             rintro _ hz ⟨rfl, _⟩
             subst hz)
  all_goals (refine WL.step (ok_not rfl) rfl rfl rfl ?_)
  all_goals (refine WL.nil ?_)
  all_goals (repeat' (with_reducible first | refine thenP_n ?_ | refine blockP_n ?_))
  all_goals (first | refine WC.condB_t 1 rfl ?_ | refine WC.condB_f 2 rfl ?_ | (refine WC.condB 1 2 rfl (fun hb => ?_) (fun hb => ?_) <;> (first | replace hb := of_decide_eq_true hb | replace hb := of_decide_eq_false hb | replace hb := of_decide_eq_false (nt hb) | replace hb := of_decide_eq_true (nf hb) | skip)))
  all_goals (first
    | (fail_if_success (refine Br.mk (i := 1) ?_))
    | (refine Br.mk (i := 1) ?_
       all_goals (refine WC.seq ?_)
       all_goals (refine WC.region ?_)
       all_goals (refine WL.step (ok_assign rfl) rfl rfl rfl ?_)
       all_goals (refine WL.nil ?_)
       all_goals (repeat' (with_reducible first | refine thenP_n ?_ | refine blockP_n ?_))
       all_goals (refine WC.sub [(2, _)] ⟨rfl, trivial⟩ ?_)
       all_goals (refine WC.ret ?_)
       all_goals (repeat' (with_reducible first | refine thenP_r ?_ | refine blockP_r ?_))
       all_goals (refine retP_1 _ ⟨rfl, trivial⟩ ?_)
       all_goals (rw [List.take_of_length_le (by omega)] at ho5
                  exact ⟨ho5, hX4.trans hx5, fun q hq => Nat.le_trans hs4 (hf5 q hq)⟩)
       skip))
  all_goals (first
    | (fail_if_success (refine Br.mk (i := 2) ?_))
    | (refine Br.mk (i := 2) ?_
       all_goals (refine WC.skip ?_)
       skip))
  all_goals (repeat' (with_reducible first | refine thenP_n ?_ | refine blockP_n ?_))
  all_goals (refine WC.sub [(0, _)] ⟨rfl, trivial⟩ ?_)
  all_goals (refine WC.seq ?_)
  all_goals (refine WC.region ?_)
  all_goals (refine WL.step (ok_assign rfl) rfl rfl rfl ?_)
  all_goals (refine WL.nil ?_)
  all_goals (repeat' (with_reducible first | refine thenP_n ?_ | refine blockP_n ?_))
  all_goals (refine WC.seq ?_)
  all_goals (refine WC.seq ?_)
  all_goals (refine WC.region ?_)
  all_goals (refine WL.step (ok_move rfl) rfl rfl rfl ?_)
  all_goals (refine WL.step (ok_nilCheck rfl) rfl rfl rfl ?_)
  all_goals (refine WL.step (ok_fieldAddr rfl Try.underlying76 rfl (fun w => Try.sizeOf74 w)) rfl rfl rfl ?_)
  all_goals (refine WL.step (ok_load (fun w => Try.isAgg74 w) rfl (by first | assumption | exact cell_blk (by assumption) rfl)) rfl rfl rfl ?_)
  all_goals (refine WL.stepR (okE_range Try.underlying74 rfl (by assumption)) rfl rfl rfl ?_
             rintro _ h1 ⟨r1, rfl, hgr1, hit1, hx1⟩)
  all_goals (refine WL.nil ?_)
  all_goals (repeat' (with_reducible first | refine thenP_n ?_ | refine blockP_n ?_))
  all_goals (refine WC.sub [(0, _), (3, _), (15, _)] ⟨rfl, rfl, rfl, trivial⟩ ?_)
  all_goals (refine WC.block ?_)
  -- loop 0: slots that turn [3], that stay [0, 15]
  all_goals (refine WC.loopG (X := Value × List (List UInt8 × Value)) (fun x => ([(3, x.1)] : Fr)) [(0, _), (15, _)] (fun x h' => It St h' r1 m (encE St E) x.2 ∧ Own h' x.1 9 1 (x.2.map (·.1)).length ((x.2.map (·.1)).map St) ∧ Ext (fun k => k = r1) h1 h' ∧ ∀ k, x.1.ownBlock = some k → h1.size ≤ k) (fun x => E.length - x.2.length) ((.slice none 0 0, [])) ⟨rfl, rfl, rfl, trivial⟩ (by exact ⟨hit1, Own.nil _ _ _, .refl _ _, by simp [Value.ownBlock]⟩) ?_)
  all_goals (rintro ⟨v2, ds⟩ h2 ⟨hit2, ho2, hx2, hf2⟩
             simp only at hit2 ho2 hf2
             have hdl := sub_len hit2.nd hit2.sub
             rw [enc_len] at hdl
             have hml : (ds.map (·.1)).length = ds.length := List.length_map ..
             have hs2 := hx2.size
             have hrlt := hit1.lt
             have hs1 := hx1.size)
  all_goals (refine WC.sub [(3, _), (0, _), (15, _)] ⟨rfl, rfl, rfl, trivial⟩ ?_)
  all_goals (dsimp only)
  all_goals (refine WC.seq ?_)
  all_goals (refine WC.region ?_)
  all_goals (refine WL.stepR (okE_next keyS rfl hit2) rfl rfl rfl ?_
             rintro v h3 (⟨rfl, hz, hperm⟩ | ⟨p, rfl, hp3, hnp, hit3, hil3, hx3⟩))
  all_goals (try subst h3)
  all_goals (refine WL.step (ok_extract rfl rfl) rfl rfl rfl ?_)
  all_goals (refine WL.nil ?_)
  all_goals (repeat' (with_reducible first | refine thenP_n ?_ | refine blockP_n ?_))
  all_goals (refine WC.seq ?_)
  all_goals (first | refine WC.condB_t 3 rfl ?_ | refine WC.condB_f 4 rfl ?_ | (refine WC.condB 3 4 rfl (fun hb => ?_) (fun hb => ?_) <;> (first | replace hb := of_decide_eq_true hb | replace hb := of_decide_eq_false hb | replace hb := of_decide_eq_false (nt hb) | replace hb := of_decide_eq_true (nf hb) | skip)))
  all_goals (first
    | (fail_if_success (refine Br.mk (i := 3) ?_))
    | (refine Br.mk (i := 3) ?_
       all_goals (refine WC.skip ?_)
       skip))
  all_goals (first
    | (fail_if_success (refine Br.mk (i := 4) ?_))
    | (refine Br.mk (i := 4) ?_
       all_goals (refine WC.exit ?_)
       all_goals (repeat' (with_reducible first | refine thenP_x ?_ | refine blockP_miss rfl ?_ | refine blockP_hit ?_ | refine blockP_n ?_ | refine thenP_n ?_))
       all_goals (refine Br.out (i := 1000) ?_)
       skip))
  all_goals (first | (refine Br.keep ?_) | (repeat' (with_reducible first | refine thenP_n ?_ | refine blockP_n ?_)))
  all_goals (first | (refine Br.keep ?_) | (refine WC.block ?_))
  all_goals (first | (refine Br.keep ?_) | (refine WC.seq ?_))
  all_goals (first | (refine Br.keep ?_) | (refine WC.region ?_))
  all_goals (first | (refine Br.keep ?_) | (refine WL.step (ok_entry rfl hil3) rfl rfl rfl ?_))
  all_goals (first | (refine Br.keep ?_) | (refine WL.step (ok_extract rfl rfl) rfl rfl rfl ?_))
  all_goals (first | (refine Br.keep ?_) | (refine WL.step (ok_assign rfl) rfl rfl rfl ?_))
  all_goals (first | (refine Br.keep ?_) | (refine WL.nil ?_))
  all_goals (first | (refine Br.keep ?_) | (repeat' (with_reducible first | refine thenP_n ?_ | refine blockP_n ?_)))
  all_goals (first | (refine Br.keep ?_) | (refine WC.sub [(0, _), (3, _), (4, _), (15, _)] ⟨rfl, rfl, rfl, rfl, trivial⟩ ?_))
  all_goals (first | (refine Br.keep ?_) | (refine WC.region ?_))
  all_goals (first | (refine Br.keep ?_) | (refine WL.step (ok_move rfl) rfl rfl rfl ?_))
  all_goals (first | (refine Br.keep ?_) | (refine WL.step (ok_move rfl) rfl rfl rfl ?_))
  all_goals (first
               | (refine Br.keep ?_)
               | (refine WL.stepR (okE_buildSlice (vs := [_]) (cs := [_]) (fun | [a0] => [a0] | _ => []) Try.underlying98 rfl rfl (by kernel_rfl)) rfl rfl rfl ?_
                  rintro _ h4 ⟨b4, rfl, hg4, hb4, hx4⟩))
  all_goals (first
               | (refine Br.keep ?_)
               | (refine WL.stepR (ok_append (sz := 1) (bytes := 16) rfl Try.underlying98 (show Try.prog.info? 9 = some Try.t9 by kernel_rfl) rfl rfl rfl rfl (by decide) rfl rfl ((ho2.ext hx3 (fun k hk e => by have := hf2 k hk; omega)).ext hx4 (fun _ _ => nos)) (rd_blk hb4 rfl) (by simp [Value.oneCell']) (by simp only [maxLen]; omega) (by omega)) rfl rfl rfl ?_
                  rintro v5 h5 ⟨ho5, hx5, hl5⟩))
  all_goals (first | (refine Br.keep ?_) | (refine WL.step (ok_assign rfl) rfl rfl rfl ?_))
  all_goals (first | (refine Br.keep ?_) | (refine WL.nil ?_))
  all_goals (first | (refine Br.keep ?_) | (repeat' (with_reducible first | refine thenP_n ?_ | refine blockP_n ?_)))
  all_goals (first | (refine Br.keep ?_) | (exact ⟨(_, ds ++ [p]), ⟨rfl, rfl, rfl, trivial⟩, (by exact ⟨hit3.ext ((hx4.mono fun _ _ e => e.elim).trans hx5) (fun e => by have := hf2 _ e; omega) (fun e => by have := hf2 _ e; omega), by simpa using ho5, (hx2.trans (hx3.trans' hx4 fun _ _ e => e.elim)).trans' hx5 (fun q hq e => by have := hf2 q e; omega), fresh_of hl5 hf2 (by have := hx3.size; have := hx4.size; omega)⟩), (by have hd3 := sub_len hit3.nd hit3.sub; rw [enc_len] at hd3; simp at hd3 ⊢; omega)⟩))
  all_goals (try (refine Br.mk (i := 1000) ?_))
  all_goals (repeat' (with_reducible first | refine thenP_n ?_ | refine blockP_n ?_))
  all_goals (refine WC.seq ?_)
  all_goals (refine WC.region ?_)
  all_goals (refine WL.step (ok_move rfl) rfl rfl rfl ?_)
  all_goals (refine WL.call (vs := [_]) rfl (fun a w => Try.call66 a w) rfl (sort_str (ds.map (·.1)) ho2 (by omega)) rfl rfl rfl ?_
             rintro _ h4 ⟨rfl, ho4, hx4⟩)
  all_goals (have hpk : (ds.map (·.1)).Perm (L.map (·.1)) := by have := (hperm.map (·.1)).trans (.of_eq (enc_keys St E)); exact this.trans (hp.map _)
             have hdl2 : (ds.map (·.1)).length = L.length := by rw [hpk.length_eq, List.length_map]
             rw [srtS_rise hri hpk] at ho4
             rw [hdl2] at ho4
             obtain ⟨A2, c2, rfl, _⟩ := ho4.slice
             have hX4 : Ext No h h4 := (hx1.trans' hx2 (fun q hq e => by omega)).trans' hx4 (fun q hq e => by have := hf2 q e; omega)
             have hb4 := hX4.obj hb nos
             have hm4 := hm.ext hX4 nos
             have hs4 := hX4.size)
  all_goals (refine WL.nil ?_)
  all_goals (repeat' (with_reducible first | refine thenP_n ?_ | refine blockP_n ?_))
  all_goals (refine WC.sub [(0, _), (3, _)] ⟨rfl, rfl, trivial⟩ ?_)
  all_goals (refine WC.seq ?_)
  all_goals (refine WC.region ?_)
  all_goals (refine WL.step (ok_assign rfl) rfl rfl rfl ?_)
  all_goals (refine WL.nil ?_)
  all_goals (repeat' (with_reducible first | refine thenP_n ?_ | refine blockP_n ?_))
  all_goals (refine WC.seq ?_)
  all_goals (refine WC.seq ?_)
  all_goals (refine WC.region ?_)
  all_goals (refine WL.step (ok_move rfl) rfl rfl rfl ?_)
  all_goals (refine WL.step (ok_lenL rfl Try.underlying98 rfl) rfl rfl rfl ?_)
  all_goals (refine WL.step (ok_move rfl) rfl rfl rfl ?_)
  all_goals (refine WL.nil ?_)
  all_goals (repeat' (with_reducible first | refine thenP_n ?_ | refine blockP_n ?_))
  all_goals (refine WC.block ?_)
  -- loop 1: slots that turn [5, 28], that stay [0, 26, 27]
  all_goals (refine WC.loopG (X := Nat × Value) (fun x => ([(28, In (x.1 : Int)), (5, x.2)] : Fr)) [(0, _), (26, _), (27, _)] (fun x h' => x.1 ≤ L.length ∧ Own h' x.2 63 2 (L.take x.1).length ((L.take x.1).flatMap prC) ∧ Ext No h4 h' ∧ ∀ k, x.2.ownBlock = some k → h4.size ≤ k) (fun x => L.length - x.1) ((0, .slice none 0 0)) ⟨rfl, rfl, rfl, rfl, rfl, trivial⟩ (by exact ⟨Nat.zero_le _, Own.nil _ _ _, .refl _ _, by simp [Value.ownBlock]⟩) ?_)
  all_goals (rintro ⟨k, v5⟩ h5 ⟨hk, ho5, hx5, hf5⟩
             simp only at hk ho5 hf5
             have hlt5 : (L.take k).length = k := by rw [List.length_take]; omega)
  all_goals (refine WC.sub [(5, _), (28, _), (0, _), (26, _), (27, _)] ⟨rfl, rfl, rfl, rfl, rfl, trivial⟩ ?_)
  all_goals (dsimp only)
  all_goals (refine WC.seq ?_)
  all_goals (refine WC.region ?_)
  all_goals (first | (refine WL.step (OkP.bool_t (by omega) (ok_lss rfl rfl)) rfl rfl rfl ?_) | (refine WL.step (OkP.bool_f (by omega) (ok_lss rfl rfl)) rfl rfl rfl ?_) | (refine WL.step (ok_lss rfl rfl) rfl rfl rfl ?_))
  all_goals (refine WL.nil ?_)
  all_goals (repeat' (with_reducible first | refine thenP_n ?_ | refine blockP_n ?_))
  all_goals (refine WC.seq ?_)
  all_goals (first | refine WC.condB_t 5 rfl ?_ | refine WC.condB_f 6 rfl ?_ | (refine WC.condB 5 6 rfl (fun hb => ?_) (fun hb => ?_) <;> (first | replace hb := of_decide_eq_true hb | replace hb := of_decide_eq_false hb | replace hb := of_decide_eq_false (nt hb) | replace hb := of_decide_eq_true (nf hb) | skip)))
  all_goals (first
    | (fail_if_success (refine Br.mk (i := 5) ?_))
    | (refine Br.mk (i := 5) ?_
       all_goals (refine WC.skip ?_)
       skip))
  all_goals (first
    | (fail_if_success (refine Br.mk (i := 6) ?_))
    | (refine Br.mk (i := 6) ?_
       all_goals (refine WC.exit ?_)
       all_goals (repeat' (with_reducible first | refine thenP_x ?_ | refine blockP_miss rfl ?_ | refine blockP_hit ?_ | refine blockP_n ?_ | refine thenP_n ?_))
       all_goals (refine Br.out (i := 1002) ?_)
       skip))
  all_goals (first | (refine Br.keep ?_) | (repeat' (with_reducible first | refine thenP_n ?_ | refine blockP_n ?_)))
  all_goals (first | (refine Br.keep ?_) | (refine WC.seq ?_))
  all_goals (first | (refine Br.keep ?_) | (refine WC.block ?_))
  all_goals (first | (refine Br.keep ?_) | (refine WC.seq ?_))
  all_goals (first | (refine Br.keep ?_) | (refine WC.region ?_))
  all_goals (first
               | (refine Br.keep ?_)
               | (obtain ⟨bN, oN, hAN, hbN, hatN⟩ := Rd.at_ (ho4.rd.ext0 hx5) (by omega)
                  obtain ⟨⟨yn, yv⟩, hy⟩ : ∃ y, L[k]? = some y := ⟨_, List.getElem?_eq_getElem (by omega)⟩
                  have hcn := hatN.get (p := oN + k * 1) (v := St yn) k (by rw [List.getElem?_map, List.getElem?_map, hy]; exact rfl) (by omega)
                  have hb5 := hx5.obj hb4 nos
                  have hm5 := hm4.ext hx5 nos
                  have hlk : alook (encE St E) yn = some (St yv) := by rw [alook_enc, getL_perm hp hri.nd, getL_of hri.nd (List.mem_of_getElem? hy)]; rfl))
  all_goals (first | (refine Br.keep ?_) | (refine WL.step (ok_idxAddrA Try.underlying98 (fun w => Try.sizeOf9 w) rfl rfl rfl (by omega) (by first | rfl | assumption)) rfl rfl rfl ?_))
  all_goals (first | (refine Br.keep ?_) | (refine WL.step (ok_load (fun w => Try.isAgg9 w) rfl (by first | assumption | exact cell_blk (by assumption) rfl)) rfl rfl rfl ?_))
  all_goals (first | (refine Br.keep ?_) | (refine WL.step (ok_assign rfl) rfl rfl rfl ?_))
  all_goals (first | (refine Br.keep ?_) | (refine WL.nil ?_))
  all_goals (first | (refine Br.keep ?_) | (repeat' (with_reducible first | refine thenP_n ?_ | refine blockP_n ?_)))
  all_goals (first | (refine Br.keep ?_) | (refine WC.region ?_))
  all_goals (first | (refine Br.keep ?_) | (refine WL.step (ok_move rfl) rfl rfl rfl ?_))
  all_goals (first | (refine Br.keep ?_) | (refine WL.step (ok_move rfl) rfl rfl rfl ?_))
  all_goals (first | (refine Br.keep ?_) | (refine WL.step (ok_move rfl) rfl rfl rfl ?_))
  all_goals (first | (refine Br.keep ?_) | (refine WL.step (ok_nilCheck rfl) rfl rfl rfl ?_))
  all_goals (first | (refine Br.keep ?_) | (refine WL.step (ok_fieldAddr rfl Try.underlying76 rfl (fun w => Try.sizeOf74 w)) rfl rfl rfl ?_))
  all_goals (first | (refine Br.keep ?_) | (refine WL.step (ok_load (fun w => Try.isAgg74 w) rfl (by first | exact cell_blk hb5 rfl | assumption | exact cell_blk (by assumption) rfl)) rfl rfl rfl ?_))
  all_goals (first | (refine Br.keep ?_) | (refine WL.step (ok_move rfl) rfl rfl rfl ?_))
  all_goals (first | (refine Br.keep ?_) | (first | (refine WL.step ((ok_lookup keyS Try.underlying74 Try.underlying9 rfl rfl (by assumption) (by assumption)).2) rfl rfl rfl ?_) | (refine WL.step ((ok_lookup_no keyS Try.underlying74 Try.underlying9 (fun w => Try.zeroValue9 w) rfl rfl (by assumption) (by assumption)).2) rfl rfl rfl ?_) | (refine WL.step ((ok_lookup_nil keyS Try.underlying74 Try.underlying9 (fun w => Try.zeroValue9 w) rfl rfl).2) rfl rfl rfl ?_)))
  all_goals (first | (refine Br.keep ?_) | (refine WL.step (ok_buildF (vs := [_, _]) (cs := [_, _]) (fun | [a0, a1] => [a0, a1] | _ => []) rfl rfl (by kernel_rfl)) rfl rfl rfl ?_))
  all_goals (first
               | (refine Br.keep ?_)
               | (refine WL.stepR (okE_buildSlice (vs := [_]) (cs := [_, _]) (fun | [.agg ⟨[a0, a1]⟩] => [a0, a1] | _ => []) Try.underlying56 rfl rfl (by kernel_rfl)) rfl rfl rfl ?_
                  rintro _ h6 ⟨b6, rfl, hg6, hb6, hx6⟩))
  all_goals (first
               | (refine Br.keep ?_)
               | (refine WL.stepR (ok_append (sz := 2) (bytes := 32) rfl Try.underlying56 (show Try.prog.info? 63 = some Try.t63 by kernel_rfl) rfl rfl rfl rfl (by decide) rfl rfl (ho5.ext hx6 (fun _ _ => nos)) (rd_blk hb6 rfl) (by simp [Value.oneCell']) (by simp only [maxLen]; omega) (by omega)) rfl rfl rfl ?_
                  rintro v7 h7 ⟨ho7, hx7, hl7⟩))
  all_goals (first | (refine Br.keep ?_) | (refine WL.step (ok_assign rfl) rfl rfl rfl ?_))
  all_goals (first | (refine Br.keep ?_) | (refine WL.nil ?_))
  all_goals (first | (refine Br.keep ?_) | (repeat' (with_reducible first | refine thenP_n ?_ | refine blockP_n ?_)))
  all_goals (first | (refine Br.keep ?_) | (refine WC.sub [(0, _), (5, _), (26, _), (27, _), (28, _)] ⟨rfl, rfl, rfl, rfl, rfl, trivial⟩ ?_))
  all_goals (first | (refine Br.keep ?_) | (refine WC.region ?_))
  all_goals (first | (refine Br.keep ?_) | (first | (refine WL.step (ok_addI rfl rfl (by omega)) rfl rfl rfl ?_) | (refine WL.step (ok_add rfl rfl) rfl rfl rfl ?_)))
  all_goals (first | (refine Br.keep ?_) | (refine WL.step (ok_move rfl) rfl rfl rfl ?_))
  all_goals (first | (refine Br.keep ?_) | (refine WL.nil ?_))
  all_goals (first | (refine Br.keep ?_) | (repeat' (with_reducible first | refine thenP_n ?_ | refine blockP_n ?_)))
  all_goals (first | (refine Br.keep ?_) | (exact ⟨(k + 1, _), ⟨rfl, rfl, rfl, rfl, rfl, trivial⟩, (by exact ⟨by simp; omega, by rw [List.take_add_one, hy]; simpa [prC] using ho7, (hx5.trans hx6).trans' hx7 (fun q hq e => by have := hf5 q e; omega), fresh_of hl7 hf5 (by have := hx5.size; have := hx6.size; omega)⟩), (by simp; omega)⟩))
  all_goals (try (refine Br.mk (i := 1002) ?_))
  all_goals (repeat' (with_reducible first | refine thenP_n ?_ | refine blockP_n ?_))
  all_goals (refine WC.sub [(5, _)] ⟨rfl, trivial⟩ ?_)
  all_goals (refine WC.seq ?_)
  all_goals (refine WC.region ?_)
  all_goals (refine WL.step (ok_move rfl) rfl rfl rfl ?_)
  all_goals (refine WL.step (ok_assign rfl) rfl rfl rfl ?_)
  all_goals (refine WL.nil ?_)
  all_goals (repeat' (with_reducible first | refine thenP_n ?_ | refine blockP_n ?_))
  all_goals (refine WC.ret ?_)
  all_goals (repeat' (with_reducible first | refine thenP_r ?_ | refine blockP_r ?_))
  all_goals (refine retP_1 _ ⟨rfl, trivial⟩ ?_)
  all_goals (rw [List.take_of_length_le (by omega)] at ho5
             exact ⟨ho5, hX4.trans hx5, fun q hq => Nat.le_trans hs4 (hf5 q hq)⟩)
/-- What must be set. -/
def diffL (L M : List Pr) : List Pr := M.filter fun p => !decide (getL L p.1 = some p.2)
set_option maxRecDepth 100000 in
theorem diff_fn {h : Heap} {b m bp : Nat} {L : List Pr} {t : TypeId} (r : Pa h b m L) (hb : h[bp]? = some (.cells ⟨[.pointer (some ⟨b, 0, none⟩)]⟩ t (0, 0))) (x : Pr) :
    CallsH Try.prog 64 ⟨[.agg ⟨prC x⟩, .pointer (some ⟨bp, 0, none⟩)]⟩ h fun u h' => u = .bool (decide (getL L x.1 = some x.2)) ∧ Ext No h h' := by
  obtain ⟨n, v⟩ := x
  dsimp only [prC]
  rcases hg : getL L n with _ | w
  all_goals
    refine calls [(0, _), (1, _)] Try.func64 rfl Try.ntmps64 rfl ⟨rfl, rfl, trivial⟩ ?_
    all_goals (refine WC.seq ?_)
    all_goals (refine WC.region ?_)
    all_goals (refine WL.stepR (okE_box rfl) rfl rfl rfl ?_
               rintro _ h1 ⟨b1, rfl, hg1, hb1, hx1⟩)
    all_goals (refine WL.step (ok_assign rfl) rfl rfl rfl ?_)
    all_goals (refine WL.nil ?_)
    all_goals (repeat' (with_reducible first | refine thenP_n ?_ | refine blockP_n ?_))
    all_goals (refine WC.seq ?_)
    all_goals (refine WC.region ?_)
    all_goals (refine WL.step (ok_load (fun w => Try.isAgg58 w) rfl (by first | exact cell_blk (hx1.obj hb nos) rfl | assumption | exact cell_blk (by assumption) rfl)) rfl rfl rfl ?_)
    all_goals (refine WL.step (ok_fieldAddr rfl Try.underlying63 rfl (fun w => Try.sizeOf9 w)) rfl rfl rfl ?_)
    all_goals (refine WL.step (ok_load (fun w => Try.isAgg9 w) rfl (by first | assumption | exact cell_blk (by assumption) rfl)) rfl rfl rfl ?_)
    all_goals (refine WL.call (vs := [_, _]) rfl (fun a w => Try.call39 a w) rfl (get_pa (r.ext0 hx1) n) rfl rfl rfl ?_
               rintro _ hz ⟨rfl, _⟩
               subst hz)
    all_goals (rw [hg, getV])
    all_goals (refine WL.step (ok_move rfl) rfl rfl rfl ?_)
    all_goals (refine WL.step (ok_extract rfl rfl) rfl rfl rfl ?_)
    all_goals (refine WL.step (ok_extract rfl rfl) rfl rfl rfl ?_)
    all_goals (refine WL.step (ok_assign rfl) rfl rfl rfl ?_)
    all_goals (refine WL.step (ok_assign rfl) rfl rfl rfl ?_)
    all_goals (refine WL.nil ?_)
    all_goals (repeat' (with_reducible first | refine thenP_n ?_ | refine blockP_n ?_))
    all_goals (refine WC.sub [(2, _), (4, _), (5, _)] ⟨rfl, rfl, rfl, trivial⟩ ?_)
    all_goals (refine WC.seq ?_)
    all_goals (refine WC.region ?_)
    all_goals (refine WL.step (ok_move rfl) rfl rfl rfl ?_)
    all_goals (refine WL.step (ok_move rfl) rfl rfl rfl ?_)
    all_goals (try ((fail_if_success (refine WL.part 14 (b := true) rfl (fun _ => ?_) (fun _ => ?_))); (fail_if_success (refine WL.part 14 (b := false) rfl (fun _ => ?_) (fun _ => ?_))); (refine WL.part 14 rfl (fun hb => ?_) (fun hb => ?_) <;> (first | replace hb := of_decide_eq_true hb | replace hb := of_decide_eq_false hb | replace hb := of_decide_eq_false (nt hb) | replace hb := of_decide_eq_true (nf hb) | skip))))
    all_goals (first | (refine WL.pass rfl rfl rfl ?_) | (refine WL.step (ok_move rfl) rfl rfl rfl ?_))
    all_goals (first | (refine WL.pass rfl rfl rfl ?_) | (refine WL.step (ok_fieldAddr rfl Try.underlying63 rfl (fun w => Try.sizeOf9 w)) rfl rfl rfl ?_))
    all_goals (first | (refine WL.pass rfl rfl rfl ?_) | (refine WL.step (ok_load (fun w => Try.isAgg9 w) rfl (by first | assumption | exact cell_blk (by assumption) rfl)) rfl rfl rfl ?_))
    all_goals (first | (refine WL.pass rfl rfl rfl ?_) | (first | (refine WL.step (OkP.bool_t (by first | rfl | assumption | decide) (ok_eqlS rfl rfl)) rfl rfl rfl ?_) | (refine WL.step (OkP.bool_f (by first | assumption | decide) (ok_eqlS rfl rfl)) rfl rfl rfl ?_) | (refine WL.step (ok_eqlS rfl rfl) rfl rfl rfl ?_)))
    all_goals (first | (refine WL.step (ok_pick_t rfl rfl) rfl rfl rfl ?_) | (refine WL.step (ok_pick_f rfl rfl) rfl rfl rfl ?_))
    all_goals (refine WL.step (ok_assign rfl) rfl rfl rfl ?_)
    all_goals (refine WL.nil ?_)
    all_goals (repeat' (with_reducible first | refine thenP_n ?_ | refine blockP_n ?_))
    all_goals (refine WC.sub [(3, _)] ⟨rfl, trivial⟩ ?_)
    all_goals (refine WC.ret ?_)
    all_goals (repeat' (with_reducible first | refine thenP_r ?_ | refine blockP_r ?_))
    all_goals (refine retP_1 _ ⟨rfl, trivial⟩ ?_)
    all_goals (exact ⟨by simp_all, hx1⟩)
set_option maxRecDepth 100000 in
theorem diff_pa {h : Heap} {b m b2 m2 : Nat} {L M : List Pr} (r : Pa h b m L) (q : Pa h b2 m2 M) (hl : M.length ≤ 100000) :
    CallsH Try.prog 42 ⟨[.pointer (some ⟨b, 0, none⟩), .pointer (some ⟨b2, 0, none⟩)]⟩ h fun u h' => NewP h u (diffL L M) h' := by
  refine calls [(0, _), (1, _)] Try.func42 rfl Try.ntmps42 rfl ⟨rfl, rfl, trivial⟩ ?_
  all_goals (refine WC.seq ?_)
  all_goals (refine WC.region ?_)
  all_goals (refine WL.stepR (okE_box rfl) rfl rfl rfl ?_
             rintro _ h1 ⟨b1, rfl, hg1, hb1, hx1⟩)
  all_goals (have hlt := r.lt)
  all_goals (refine WL.step (ok_assign rfl) rfl rfl rfl ?_)
  all_goals (refine WL.nil ?_)
  all_goals (repeat' (with_reducible first | refine thenP_n ?_ | refine blockP_n ?_))
  all_goals (refine WC.seq ?_)
  all_goals (refine WC.seq ?_)
  all_goals (refine WC.region ?_)
  all_goals (refine WL.step (ok_load (fun w => Try.isAgg58 w) rfl (by first | assumption | exact cell_blk (by assumption) rfl)) rfl rfl rfl ?_)
  all_goals (refine WL.call (vs := [_]) rfl (fun a w => Try.call63 a w) rfl (ready_pa (r.ext0 hx1)) rfl rfl rfl ?_
             rintro _ hz ⟨rfl, _⟩
             subst hz)
  all_goals (refine WL.step (ok_not rfl) rfl rfl rfl ?_)
  all_goals (refine WL.nil ?_)
  all_goals (repeat' (with_reducible first | refine thenP_n ?_ | refine blockP_n ?_))
  all_goals (refine WC.sub [(1, _), (2, _), (8, _)] ⟨rfl, rfl, rfl, trivial⟩ ?_)
  all_goals (first | refine WC.condB_t 1 rfl ?_ | refine WC.condB_f 2 rfl ?_ | (refine WC.condB 1 2 rfl (fun hb => ?_) (fun hb => ?_) <;> (first | replace hb := of_decide_eq_true hb | replace hb := of_decide_eq_false hb | replace hb := of_decide_eq_false (nt hb) | replace hb := of_decide_eq_true (nf hb) | skip)))
  all_goals (first
    | (fail_if_success (refine Br.mk (i := 1) ?_))
    | (refine Br.mk (i := 1) ?_
       all_goals (refine WC.seq ?_)
       all_goals (refine WC.region ?_)
       all_goals (refine WL.step (ok_assign rfl) rfl rfl rfl ?_)
       all_goals (refine WL.nil ?_)
       all_goals (repeat' (with_reducible first | refine thenP_n ?_ | refine blockP_n ?_))
       all_goals (refine WC.ret ?_)
       all_goals (repeat' (with_reducible first | refine thenP_r ?_ | refine blockP_r ?_))
       all_goals (refine retP_1 _ ⟨rfl, trivial⟩ ?_)
       all_goals (exact ⟨ho3, hX2.trans' hx3 (fun q hq e => by have := hfa q e; omega), fun k hk => by have := hfa k (hl3 ▸ hk); omega⟩)
       skip))
  all_goals (first
    | (fail_if_success (refine Br.mk (i := 2) ?_))
    | (refine Br.mk (i := 2) ?_
       all_goals (refine WC.skip ?_)
       skip))
  all_goals (repeat' (with_reducible first | refine thenP_n ?_ | refine blockP_n ?_))
  all_goals (refine WC.seq ?_)
  all_goals (refine WC.region ?_)
  all_goals (refine WL.step (ok_makeFunc (vs := []) (us := [_]) rfl rfl) rfl rfl rfl ?_)
  all_goals (refine WL.step (ok_assign rfl) rfl rfl rfl ?_)
  all_goals (refine WL.nil ?_)
  all_goals (repeat' (with_reducible first | refine thenP_n ?_ | refine blockP_n ?_))
  all_goals (refine WC.seq ?_)
  all_goals (refine WC.region ?_)
  all_goals (refine WL.step (ok_move rfl) rfl rfl rfl ?_)
  all_goals (refine WL.call (vs := [_]) rfl (fun a w => Try.call44 a w) rfl (all_pa (q.ext0 hx1) hl) rfl rfl rfl ?_
             rintro v2 h2 ⟨ho2, hx2, hf2⟩)
  all_goals (obtain ⟨A2, c2, rfl, _⟩ := ho2.slice
             have hX2 := hx1.trans hx2
             have hs1 := hx1.size
             have hfa : ∀ k, A2.map (·.block) = some k → h1.size ≤ k := fun k e => hf2 k (by cases A2 <;> simp_all [Value.ownBlock])
             have hb1l := lt_of_some hb1)
  all_goals (refine WL.step (ok_move rfl) rfl rfl rfl ?_)
  all_goals (refine WL.call (vs := [_, _]) rfl (fun a w => Try.call65 a w) rfl (deleteFunc_pr M (fun p => decide (getL L p.1 = some p.2)) (fun a w => Try.call64 a w) (fs := []) (us := [.pointer (some ⟨b1, 0, none⟩)]) ho2 (by omega) (fun x _ => prC_one x) (fun x _ h' hx' => diff_fn ((r.ext0 hX2).ext hx' (fun e => by have := hfa _ e; omega) (fun e => by have := hfa _ e; omega)) (hx'.obj (hx2.obj hb1 nos) (fun e => by have := hfa _ e; omega)) x)) rfl rfl rfl ?_
             rintro v3 h3 ⟨ho3, hx3, hl3⟩)
  all_goals (refine WL.step (ok_assign rfl) rfl rfl rfl ?_)
  all_goals (refine WL.nil ?_)
  all_goals (repeat' (with_reducible first | refine thenP_n ?_ | refine blockP_n ?_))
  all_goals (refine WC.sub [(4, _)] ⟨rfl, trivial⟩ ?_)
  all_goals (refine WC.ret ?_)
  all_goals (repeat' (with_reducible first | refine thenP_r ?_ | refine blockP_r ?_))
  all_goals (refine retP_1 _ ⟨rfl, trivial⟩ ?_)
  all_goals (exact ⟨ho3, hX2.trans' hx3 (fun q hq e => by have := hfa q e; omega), fun k hk => by have := hfa k (hl3 ▸ hk); omega⟩)
end Go.Proofs.Ytfadcbbjjdmmfaa

