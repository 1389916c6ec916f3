/-
  SEVERAL TEXTS IN ONE: BkChk, BkChk2, B3, RwJ5, RwJ6, RwJ7, RwF, RwN, RwA, RwG, RwD, RwD2.
-/
import Derived.Test.YtggmocdbfbhklaaGreatPRewriteDoes4
/-
  back.Check, of messages that may be.
-/
namespace Go.Proofs.YtggmocdbfbhklaaGreat
open Go Go.RK

/-- A bound. -/
structure BndD where
  n : Int
  lo : Int
  hi : Int
def BndD.cells (b : BndD) : List Value := [In b.n, In b.lo, In b.hi]
theorem BndD.len (b : BndD) : b.cells.length = 3 := rfl
def BndD.ok (b : BndD) : Prop := b.lo ≤ b.n ∧ b.n ≤ b.hi
set_option maxHeartbeats 2000000 in
set_option maxRecDepth 100000 in
theorem indexFunc_bnd {h : Heap} {v : Value} (l : List BndD) (p : BndD → Bool) {fk : Nat} {fs us : List Value} (hcf : ∀ (args : Array Value) (w : World), (callFunc fk args).run Tryz.prog w = .ok (.enter fk args) w) (hr : Rd h v 3 l.length (l.flatMap BndD.cells)) (hm : l.length ≤ maxLen)
    (hp : ∀ x ∈ l, ∀ h', Ext No h h' → CallsH Tryz.prog fk ⟨fs ++ [.agg ⟨BndD.cells x⟩] ++ us⟩ h' fun u h'' => u = .bool (p x) ∧ Ext No h' h'') :
    CallsH Tryz.prog 177 ⟨[v, .func (.func fk) ⟨fs⟩ ⟨us⟩]⟩ h fun u h' => u = In (idxP p l) ∧ Ext No h h' := by
  obtain ⟨A, c, rfl, _⟩ := id hr
  unfold maxLen at hm
  refine calls [(0, _), (1, _)] Tryz.func177 rfl Tryz.ntmps177 rfl ⟨rfl, rfl, trivial⟩ ?_
  all_goals (refine WC.sr ?_; refine Go ?_; refine WC.seq ?_; refine WC.sr ?_; refine Go ?_; refine WC.block ?_)
  -- loop 0: slots that turn [8], that stay [0, 1, 7]
  all_goals (refine WC.loopG (X := Nat) (fun x => ([(8, In (x : Int))] : Fr)) [(0, _), (1, _), (7, _)] (fun k h' => Ext No h h' ∧ k ≤ l.length ∧ ∀ x ∈ l.take k, p x = false) (fun k => l.length - k) (0) ⟨rfl, rfl, rfl, rfl, trivial⟩ (by exact ⟨.refl _ _, Nat.zero_le _, by simp⟩) ?_; rintro k h1 ⟨hx1, hk, hn⟩; refine WC.sub [(8, _), (0, _), (1, _), (7, _)] ⟨rfl, rfl, rfl, rfl, trivial⟩ ?_; refine WC.sr ?_; refine Go ?_; refine WC.seq ?_; refine goC 1 2 (Hb.mk fun hb => ?_) (Hb.mk fun hb => ?_))
  all_goals (first | (fail_if_success refine goB 1 ?_) | (
  refine goB 1 ?_
  all_goals (refine WC.skip ?_)
  skip))
  all_goals (first | (fail_if_success refine goB 2 ?_) | (
  refine goB 2 ?_
  all_goals (refine WC.exit ?_; repeat' (with_reducible first | refine thenP_x ?_ | refine blockP_miss rfl ?_ | refine blockP_hit ?_ | refine blockP_n ?_ | refine thenP_n ?_))
  all_goals (refine Br.out (i := 1000) ?_)
  skip))
  all_goals (refine Gn ?_; first | (refine Br.keep ?_) | (refine WC.seq ?_))
  all_goals (first | (refine Br.keep ?_) | (refine WC.block ?_))
  all_goals (first | (refine Br.keep ?_) | (refine WC.sr ?_))
  all_goals (refine Go ?_; first | (refine Br.keep ?_) | (refine WC.sr ?_))
  all_goals (first | (refine Br.keep ?_) | (refine WL.step (ok_move rfl) rfl rfl rfl ?_))
  all_goals (first | (refine Br.keep ?_) | (refine WL.step (ok_move rfl) rfl rfl rfl ?_))
  all_goals (first
               | (refine Br.keep ?_)
               | (obtain ⟨b, o, hA, hbL, hat⟩ := Rd.at_ (hr.ext0 hx1) (by omega)
                  obtain ⟨y, hy⟩ : ∃ y, l[k]? = some y := ⟨_, List.getElem?_eq_getElem (by omega)⟩
                  have hc : At h1 b (o + k * 3) (BndD.cells y) := At.elem BndD.len hat hy))
  all_goals (first | (refine Br.keep ?_) | (refine WL.step (ok_move rfl) rfl rfl rfl ?_))
  all_goals (first | (refine Br.keep ?_) | (refine WL.step (ok_idxAddrA Tryz.underlying210 (fun w => Tryz.sizeOf203 w) rfl rfl rfl (by omega) (by first | rfl | assumption)) rfl rfl rfl ?_))
  all_goals (first | (refine Br.keep ?_) | (refine WL.step (ok_loadN (fun w => Tryz.isAgg203 w) (fun w => Tryz.sizeOf203 w) rfl rfl (by assumption)) rfl rfl rfl ?_))
  all_goals (first
               | (refine Br.keep ?_)
               | (refine WL.callT (vs := [_]) rfl rfl hcf rfl (hp y (List.mem_of_getElem? hy) h1 hx1) rfl rfl rfl ?_
                  rintro _ h2 ⟨rfl, hx2⟩))
  all_goals (first | (refine Br.keep ?_) | (cases hpy : p y))
  all_goals (refine Gn ?_; first | (refine Br.keep ?_) | (refine Gs [(0, _), (1, _), (5, _), (7, _), (8, _), (16, _)] ?_))
  all_goals (first | (refine Br.keep ?_) | (refine goC 3 4 ?_ TT.mk))
  all_goals (first | (fail_if_success refine goB 3 ?_) | (
  refine goB 3 ?_
  all_goals (refine WC.sr ?_; refine Go ?_; refine Gs [(4, _)] ?_; refine Gt ?_; first | exact ⟨by rw [idxP_no (by rw [List.take_of_length_le (by omega)] at hn; exact hn)], hx1⟩ | exact ⟨by rw [idxP_at hy hpy hn], hx1.trans hx2⟩)
  skip))
  all_goals (first | (fail_if_success refine goB 4 ?_) | (
  refine goB 4 ?_
  all_goals (refine WC.skip ?_)
  skip))
  all_goals (refine Gn ?_; first | (refine Br.keep ?_) | (refine WC.region ?_))
  all_goals (refine Go ?_; first | (refine Br.keep ?_) | (exact ⟨k + 1, ⟨rfl, rfl, rfl, rfl, trivial⟩, (by exact ⟨hx1.trans hx2, by omega, take_snoc_p hn hy hpy⟩), (by omega)⟩))
  all_goals (try (refine Br.mk (i := 1000) ?_))
  all_goals (refine Gn ?_; refine Gs [] ?_; refine WC.sr ?_; refine Go ?_; refine Gt ?_; first | exact ⟨by rw [idxP_no (by rw [List.take_of_length_le (by omega)] at hn; exact hn)], hx1⟩ | exact ⟨by rw [idxP_at hy hpy hn], hx1.trans hx2⟩)

set_option maxHeartbeats 2000000 in
set_option maxRecDepth 100000 in
theorem indexFunc_col {h : Heap} {v : Value} (l : List ColD) (p : ColD → Bool) {fk : Nat} {fs us : List Value} (hcf : ∀ (args : Array Value) (w : World), (callFunc fk args).run Tryz.prog w = .ok (.enter fk args) w) (hr : Rd h v 7 l.length (l.flatMap ColD.cells)) (hm : l.length ≤ maxLen)
    (hp : ∀ x ∈ l, ∀ h', Ext No h h' → CallsH Tryz.prog fk ⟨fs ++ [.agg ⟨ColD.cells x⟩] ++ us⟩ h' fun u h'' => u = .bool (p x) ∧ Ext No h' h'') :
    CallsH Tryz.prog 171 ⟨[v, .func (.func fk) ⟨fs⟩ ⟨us⟩]⟩ h fun u h' => u = In (idxP p l) ∧ Ext No h h' := by
  obtain ⟨A, c, rfl, _⟩ := id hr
  unfold maxLen at hm
  refine calls [(0, _), (1, _)] Tryz.func171 rfl Tryz.ntmps171 rfl ⟨rfl, rfl, trivial⟩ ?_
  all_goals (refine WC.sr ?_; refine Go ?_; refine WC.seq ?_; refine WC.sr ?_; refine Go ?_; refine WC.block ?_)
  -- loop 0: slots that turn [8], that stay [0, 1, 7]
  all_goals (refine WC.loopG (X := Nat) (fun x => ([(8, In (x : Int))] : Fr)) [(0, _), (1, _), (7, _)] (fun k h' => Ext No h h' ∧ k ≤ l.length ∧ ∀ x ∈ l.take k, p x = false) (fun k => l.length - k) (0) ⟨rfl, rfl, rfl, rfl, trivial⟩ (by exact ⟨.refl _ _, Nat.zero_le _, by simp⟩) ?_; rintro k h1 ⟨hx1, hk, hn⟩; refine WC.sub [(8, _), (0, _), (1, _), (7, _)] ⟨rfl, rfl, rfl, rfl, trivial⟩ ?_; refine WC.sr ?_; refine Go ?_; refine WC.seq ?_; refine goC 1 2 (Hb.mk fun hb => ?_) (Hb.mk fun hb => ?_))
  all_goals (first | (fail_if_success refine goB 1 ?_) | (
  refine goB 1 ?_
  all_goals (refine WC.skip ?_)
  skip))
  all_goals (first | (fail_if_success refine goB 2 ?_) | (
  refine goB 2 ?_
  all_goals (refine WC.exit ?_; repeat' (with_reducible first | refine thenP_x ?_ | refine blockP_miss rfl ?_ | refine blockP_hit ?_ | refine blockP_n ?_ | refine thenP_n ?_))
  all_goals (refine Br.out (i := 1000) ?_)
  skip))
  all_goals (refine Gn ?_; first | (refine Br.keep ?_) | (refine WC.seq ?_))
  all_goals (first | (refine Br.keep ?_) | (refine WC.block ?_))
  all_goals (first | (refine Br.keep ?_) | (refine WC.sr ?_))
  all_goals (refine Go ?_; first | (refine Br.keep ?_) | (refine WC.sr ?_))
  all_goals (first | (refine Br.keep ?_) | (refine WL.step (ok_move rfl) rfl rfl rfl ?_))
  all_goals (first | (refine Br.keep ?_) | (refine WL.step (ok_move rfl) rfl rfl rfl ?_))
  all_goals (first
               | (refine Br.keep ?_)
               | (obtain ⟨b, o, hA, hbL, hat⟩ := Rd.at_ (hr.ext0 hx1) (by omega)
                  obtain ⟨y, hy⟩ : ∃ y, l[k]? = some y := ⟨_, List.getElem?_eq_getElem (by omega)⟩
                  have hc : At h1 b (o + k * 7) (ColD.cells y) := At.elem ColD.len hat hy))
  all_goals (first | (refine Br.keep ?_) | (refine WL.step (ok_move rfl) rfl rfl rfl ?_))
  all_goals (first | (refine Br.keep ?_) | (refine WL.step (ok_idxAddrA Tryz.underlying83 (fun w => Tryz.sizeOf173 w) rfl rfl rfl (by omega) (by first | rfl | assumption)) rfl rfl rfl ?_))
  all_goals (first | (refine Br.keep ?_) | (refine WL.step (ok_loadN (fun w => Tryz.isAgg173 w) (fun w => Tryz.sizeOf173 w) rfl rfl (by assumption)) rfl rfl rfl ?_))
  all_goals (first
               | (refine Br.keep ?_)
               | (refine WL.callT (vs := [_]) rfl rfl hcf rfl (hp y (List.mem_of_getElem? hy) h1 hx1) rfl rfl rfl ?_
                  rintro _ h2 ⟨rfl, hx2⟩))
  all_goals (first | (refine Br.keep ?_) | (cases hpy : p y))
  all_goals (refine Gn ?_; first | (refine Br.keep ?_) | (refine Gs [(0, _), (1, _), (5, _), (7, _), (8, _), (16, _)] ?_))
  all_goals (first | (refine Br.keep ?_) | (refine goC 3 4 ?_ TT.mk))
  all_goals (first | (fail_if_success refine goB 3 ?_) | (
  refine goB 3 ?_
  all_goals (refine WC.sr ?_; refine Go ?_; refine Gs [(4, _)] ?_; refine Gt ?_; first | exact ⟨by rw [idxP_no (by rw [List.take_of_length_le (by omega)] at hn; exact hn)], hx1⟩ | exact ⟨by rw [idxP_at hy hpy hn], hx1.trans hx2⟩)
  skip))
  all_goals (first | (fail_if_success refine goB 4 ?_) | (
  refine goB 4 ?_
  all_goals (refine WC.skip ?_)
  skip))
  all_goals (refine Gn ?_; first | (refine Br.keep ?_) | (refine WC.region ?_))
  all_goals (refine Go ?_; first | (refine Br.keep ?_) | (exact ⟨k + 1, ⟨rfl, rfl, rfl, rfl, trivial⟩, (by exact ⟨hx1.trans hx2, by omega, take_snoc_p hn hy hpy⟩), (by omega)⟩))
  all_goals (try (refine Br.mk (i := 1000) ?_))
  all_goals (refine Gn ?_; refine Gs [] ?_; refine WC.sr ?_; refine Go ?_; refine Gt ?_; first | exact ⟨by rw [idxP_no (by rw [List.take_of_length_le (by omega)] at hn; exact hn)], hx1⟩ | exact ⟨by rw [idxP_at hy hpy hn], hx1.trans hx2⟩)

set_option maxHeartbeats 2000000 in
set_option maxRecDepth 100000 in
theorem indexFunc_fld {h : Heap} {v : Value} (l : List FieldD) (p : FieldD → Bool) {fk : Nat} {fs us : List Value} (hcf : ∀ (args : Array Value) (w : World), (callFunc fk args).run Tryz.prog w = .ok (.enter fk args) w) (hr : Rd h v 2 l.length (l.flatMap FieldD.cells)) (hm : l.length ≤ maxLen)
    (hp : ∀ x ∈ l, ∀ h', Ext No h h' → CallsH Tryz.prog fk ⟨fs ++ [.agg ⟨FieldD.cells x⟩] ++ us⟩ h' fun u h'' => u = .bool (p x) ∧ Ext No h' h'') :
    CallsH Tryz.prog 174 ⟨[v, .func (.func fk) ⟨fs⟩ ⟨us⟩]⟩ h fun u h' => u = In (idxP p l) ∧ Ext No h h' := by
  obtain ⟨A, c, rfl, _⟩ := id hr
  unfold maxLen at hm
  refine calls [(0, _), (1, _)] Tryz.func174 rfl Tryz.ntmps174 rfl ⟨rfl, rfl, trivial⟩ ?_
  all_goals (refine WC.sr ?_; refine Go ?_; refine WC.seq ?_; refine WC.sr ?_; refine Go ?_; refine WC.block ?_)
  -- loop 0: slots that turn [8], that stay [0, 1, 7]
  all_goals (refine WC.loopG (X := Nat) (fun x => ([(8, In (x : Int))] : Fr)) [(0, _), (1, _), (7, _)] (fun k h' => Ext No h h' ∧ k ≤ l.length ∧ ∀ x ∈ l.take k, p x = false) (fun k => l.length - k) (0) ⟨rfl, rfl, rfl, rfl, trivial⟩ (by exact ⟨.refl _ _, Nat.zero_le _, by simp⟩) ?_; rintro k h1 ⟨hx1, hk, hn⟩; refine WC.sub [(8, _), (0, _), (1, _), (7, _)] ⟨rfl, rfl, rfl, rfl, trivial⟩ ?_; refine WC.sr ?_; refine Go ?_; refine WC.seq ?_; refine goC 1 2 (Hb.mk fun hb => ?_) (Hb.mk fun hb => ?_))
  all_goals (first | (fail_if_success refine goB 1 ?_) | (
  refine goB 1 ?_
  all_goals (refine WC.skip ?_)
  skip))
  all_goals (first | (fail_if_success refine goB 2 ?_) | (
  refine goB 2 ?_
  all_goals (refine WC.exit ?_; repeat' (with_reducible first | refine thenP_x ?_ | refine blockP_miss rfl ?_ | refine blockP_hit ?_ | refine blockP_n ?_ | refine thenP_n ?_))
  all_goals (refine Br.out (i := 1000) ?_)
  skip))
  all_goals (refine Gn ?_; first | (refine Br.keep ?_) | (refine WC.seq ?_))
  all_goals (first | (refine Br.keep ?_) | (refine WC.block ?_))
  all_goals (first | (refine Br.keep ?_) | (refine WC.sr ?_))
  all_goals (refine Go ?_; first | (refine Br.keep ?_) | (refine WC.sr ?_))
  all_goals (first | (refine Br.keep ?_) | (refine WL.step (ok_move rfl) rfl rfl rfl ?_))
  all_goals (first | (refine Br.keep ?_) | (refine WL.step (ok_move rfl) rfl rfl rfl ?_))
  all_goals (first
               | (refine Br.keep ?_)
               | (obtain ⟨b, o, hA, hbL, hat⟩ := Rd.at_ (hr.ext0 hx1) (by omega)
                  obtain ⟨y, hy⟩ : ∃ y, l[k]? = some y := ⟨_, List.getElem?_eq_getElem (by omega)⟩
                  have hc : At h1 b (o + k * 2) (FieldD.cells y) := At.elem FieldD.len hat hy))
  all_goals (first | (refine Br.keep ?_) | (refine WL.step (ok_move rfl) rfl rfl rfl ?_))
  all_goals (first | (refine Br.keep ?_) | (refine WL.step (ok_idxAddrA Tryz.underlying84 (fun w => Tryz.sizeOf175 w) rfl rfl rfl (by omega) (by first | rfl | assumption)) rfl rfl rfl ?_))
  all_goals (first | (refine Br.keep ?_) | (refine WL.step (ok_loadN (fun w => Tryz.isAgg175 w) (fun w => Tryz.sizeOf175 w) rfl rfl (by assumption)) rfl rfl rfl ?_))
  all_goals (first
               | (refine Br.keep ?_)
               | (refine WL.callT (vs := [_]) rfl rfl hcf rfl (hp y (List.mem_of_getElem? hy) h1 hx1) rfl rfl rfl ?_
                  rintro _ h2 ⟨rfl, hx2⟩))
  all_goals (first | (refine Br.keep ?_) | (cases hpy : p y))
  all_goals (refine Gn ?_; first | (refine Br.keep ?_) | (refine Gs [(0, _), (1, _), (5, _), (7, _), (8, _), (16, _)] ?_))
  all_goals (first | (refine Br.keep ?_) | (refine goC 3 4 ?_ TT.mk))
  all_goals (first | (fail_if_success refine goB 3 ?_) | (
  refine goB 3 ?_
  all_goals (refine WC.sr ?_; refine Go ?_; refine Gs [(4, _)] ?_; refine Gt ?_; first | exact ⟨by rw [idxP_no (by rw [List.take_of_length_le (by omega)] at hn; exact hn)], hx1⟩ | exact ⟨by rw [idxP_at hy hpy hn], hx1.trans hx2⟩)
  skip))
  all_goals (first | (fail_if_success refine goB 4 ?_) | (
  refine goB 4 ?_
  all_goals (refine WC.skip ?_)
  skip))
  all_goals (refine Gn ?_; first | (refine Br.keep ?_) | (refine WC.region ?_))
  all_goals (refine Go ?_; first | (refine Br.keep ?_) | (exact ⟨k + 1, ⟨rfl, rfl, rfl, rfl, trivial⟩, (by exact ⟨hx1.trans hx2, by omega, take_snoc_p hn hy hpy⟩), (by omega)⟩))
  all_goals (try (refine Br.mk (i := 1000) ?_))
  all_goals (refine Gn ?_; refine Gs [] ?_; refine WC.sr ?_; refine Go ?_; refine Gt ?_; first | exact ⟨by rw [idxP_no (by rw [List.take_of_length_le (by omega)] at hn; exact hn)], hx1⟩ | exact ⟨by rw [idxP_at hy hpy hn], hx1.trans hx2⟩)

set_option maxHeartbeats 2000000 in
set_option maxRecDepth 100000 in
theorem indexFunc_cel {h : Heap} {v : Value} (l : List Cel) (p : Cel → Bool) {fk : Nat} {fs us : List Value} (hcf : ∀ (args : Array Value) (w : World), (callFunc fk args).run Tryz.prog w = .ok (.enter fk args) w) (hr : Rd h v 2 l.length (l.flatMap Cel.cells)) (hm : l.length ≤ maxLen)
    (hp : ∀ x ∈ l, ∀ h', Ext No h h' → CallsH Tryz.prog fk ⟨fs ++ [.agg ⟨Cel.cells x⟩] ++ us⟩ h' fun u h'' => u = .bool (p x) ∧ Ext No h' h'') :
    CallsH Tryz.prog 51 ⟨[v, .func (.func fk) ⟨fs⟩ ⟨us⟩]⟩ h fun u h' => u = In (idxP p l) ∧ Ext No h h' := by
  obtain ⟨A, c, rfl, _⟩ := id hr
  unfold maxLen at hm
  refine calls [(0, _), (1, _)] Tryz.func51 rfl Tryz.ntmps51 rfl ⟨rfl, rfl, trivial⟩ ?_
  all_goals (refine WC.sr ?_; refine Go ?_; refine WC.seq ?_; refine WC.sr ?_; refine Go ?_; refine WC.block ?_)
  -- loop 0: slots that turn [8], that stay [0, 1, 7]
  all_goals (refine WC.loopG (X := Nat) (fun x => ([(8, In (x : Int))] : Fr)) [(0, _), (1, _), (7, _)] (fun k h' => Ext No h h' ∧ k ≤ l.length ∧ ∀ x ∈ l.take k, p x = false) (fun k => l.length - k) (0) ⟨rfl, rfl, rfl, rfl, trivial⟩ (by exact ⟨.refl _ _, Nat.zero_le _, by simp⟩) ?_; rintro k h1 ⟨hx1, hk, hn⟩; refine WC.sub [(8, _), (0, _), (1, _), (7, _)] ⟨rfl, rfl, rfl, rfl, trivial⟩ ?_; refine WC.sr ?_; refine Go ?_; refine WC.seq ?_; refine goC 1 2 (Hb.mk fun hb => ?_) (Hb.mk fun hb => ?_))
  all_goals (first | (fail_if_success refine goB 1 ?_) | (
  refine goB 1 ?_
  all_goals (refine WC.skip ?_)
  skip))
  all_goals (first | (fail_if_success refine goB 2 ?_) | (
  refine goB 2 ?_
  all_goals (refine WC.exit ?_; repeat' (with_reducible first | refine thenP_x ?_ | refine blockP_miss rfl ?_ | refine blockP_hit ?_ | refine blockP_n ?_ | refine thenP_n ?_))
  all_goals (refine Br.out (i := 1000) ?_)
  skip))
  all_goals (refine Gn ?_; first | (refine Br.keep ?_) | (refine WC.seq ?_))
  all_goals (first | (refine Br.keep ?_) | (refine WC.block ?_))
  all_goals (first | (refine Br.keep ?_) | (refine WC.sr ?_))
  all_goals (refine Go ?_; first | (refine Br.keep ?_) | (refine WC.sr ?_))
  all_goals (first | (refine Br.keep ?_) | (refine WL.step (ok_move rfl) rfl rfl rfl ?_))
  all_goals (first | (refine Br.keep ?_) | (refine WL.step (ok_move rfl) rfl rfl rfl ?_))
  all_goals (first
               | (refine Br.keep ?_)
               | (obtain ⟨b, o, hA, hbL, hat⟩ := Rd.at_ (hr.ext0 hx1) (by omega)
                  obtain ⟨y, hy⟩ : ∃ y, l[k]? = some y := ⟨_, List.getElem?_eq_getElem (by omega)⟩
                  have hc : At h1 b (o + k * 2) (Cel.cells y) := At.elem Cel.len hat hy))
  all_goals (first | (refine Br.keep ?_) | (refine WL.step (ok_move rfl) rfl rfl rfl ?_))
  all_goals (first | (refine Br.keep ?_) | (refine WL.step (ok_idxAddrA Tryz.underlying25 (fun w => Tryz.sizeOf69 w) rfl rfl rfl (by omega) (by first | rfl | assumption)) rfl rfl rfl ?_))
  all_goals (first | (refine Br.keep ?_) | (refine WL.step (ok_loadN (fun w => Tryz.isAgg69 w) (fun w => Tryz.sizeOf69 w) rfl rfl (by assumption)) rfl rfl rfl ?_))
  all_goals (first
               | (refine Br.keep ?_)
               | (refine WL.callT (vs := [_]) rfl rfl hcf rfl (hp y (List.mem_of_getElem? hy) h1 hx1) rfl rfl rfl ?_
                  rintro _ h2 ⟨rfl, hx2⟩))
  all_goals (first | (refine Br.keep ?_) | (cases hpy : p y))
  all_goals (refine Gn ?_; first | (refine Br.keep ?_) | (refine Gs [(0, _), (1, _), (5, _), (7, _), (8, _), (16, _)] ?_))
  all_goals (first | (refine Br.keep ?_) | (refine goC 3 4 ?_ TT.mk))
  all_goals (first | (fail_if_success refine goB 3 ?_) | (
  refine goB 3 ?_
  all_goals (refine WC.sr ?_; refine Go ?_; refine Gs [(4, _)] ?_; refine Gt ?_; first | exact ⟨by rw [idxP_no (by rw [List.take_of_length_le (by omega)] at hn; exact hn)], hx1⟩ | exact ⟨by rw [idxP_at hy hpy hn], hx1.trans hx2⟩)
  skip))
  all_goals (first | (fail_if_success refine goB 4 ?_) | (
  refine goB 4 ?_
  all_goals (refine WC.skip ?_)
  skip))
  all_goals (refine Gn ?_; first | (refine Br.keep ?_) | (refine WC.region ?_))
  all_goals (refine Go ?_; first | (refine Br.keep ?_) | (exact ⟨k + 1, ⟨rfl, rfl, rfl, rfl, trivial⟩, (by exact ⟨hx1.trans hx2, by omega, take_snoc_p hn hy hpy⟩), (by omega)⟩))
  all_goals (try (refine Br.mk (i := 1000) ?_))
  all_goals (refine Gn ?_; refine Gs [] ?_; refine WC.sr ?_; refine Go ?_; refine Gt ?_; first | exact ⟨by rw [idxP_no (by rw [List.take_of_length_le (by omega)] at hn; exact hn)], hx1⟩ | exact ⟨by rw [idxP_at hy hpy hn], hx1.trans hx2⟩)

set_option maxHeartbeats 2000000 in
set_option maxRecDepth 100000 in
theorem everyf_col {h : Heap} {b : Nat} {t : TypeId} (x : ColD) {fk : Nat} (hcf : ∀ (args : Array Value) (w : World), (callFunc fk args).run Tryz.prog w = .ok (.enter fk args) w) (hb : h[b]? = some (.cells ⟨[.func (.func fk) ⟨[]⟩ ⟨[]⟩]⟩ t (0, 0)))
    (hp : ∀ h', Ext No h h' → CallsH Tryz.prog fk ⟨[.agg ⟨ColD.cells x⟩]⟩ h' fun u h'' => u = .bool true ∧ Ext No h' h'') :
    CallsH Tryz.prog 159 ⟨[.agg ⟨ColD.cells x⟩, .pointer (some ⟨b, 0, none⟩)]⟩ h fun u h' => u = .bool false ∧ Ext No h h' := by
  refine calls [(0, _), (1, _)] Tryz.func159 rfl Tryz.ntmps159 rfl ⟨rfl, rfl, trivial⟩ ?_
  all_goals (refine WC.sr ?_; refine WL.stepR (okE_box rfl) rfl rfl rfl ?_; rintro _ h1 ⟨b1, rfl, hg1, hb1, hx1⟩; refine Go ?_; refine WC.sr ?_; refine WL.ld rfl (by first | exact cell_blk (hx1.obj hb nos) rfl | assumption | exact cell_blk (by assumption) rfl) rfl rfl rfl ?_; refine WL.step (ok_loadN (fun w => Tryz.isAgg173 w) (fun w => Tryz.sizeOf173 w) rfl rfl (by exact At.of_block hb1)) rfl rfl rfl ?_; refine WL.callT (vs := [_]) rfl rfl hcf rfl (hp _ hx1) rfl rfl rfl ?_; rintro _ h2 ⟨rfl, hx2⟩; refine Go ?_; refine Gs [(3, _)] ?_; refine Gt ?_; exact ⟨rfl, hx1.trans hx2⟩)
set_option maxHeartbeats 2000000 in
set_option maxRecDepth 100000 in
theorem every_col {h : Heap} {v : Value} (l : List ColD) (hr : Rd h v 7 l.length (l.flatMap ColD.cells)) (hl : l.length ≤ 65535) {fk : Nat} (hcf : ∀ (args : Array Value) (w : World), (callFunc fk args).run Tryz.prog w = .ok (.enter fk args) w)
    (hp : ∀ x ∈ l, ∀ h', Ext No h h' → CallsH Tryz.prog fk ⟨[.agg ⟨ColD.cells x⟩]⟩ h' fun u h'' => u = .bool true ∧ Ext No h' h'') :
    CallsH Tryz.prog 145 ⟨[v, .func (.func fk) ⟨[]⟩ ⟨[]⟩]⟩ h fun u h' => u = .bool true ∧ Ext No h h' := by
  have hcon : ∀ {h' : Heap} {b : Nat} {t : TypeId}, Ext No h h' → h'[b]? = some (.cells ⟨[.func (.func fk) ⟨[]⟩ ⟨[]⟩]⟩ t (0, 0)) → CallsH Tryz.prog 158 ⟨[v, .func (.func 159) ⟨[]⟩ ⟨[.pointer (some ⟨b, 0, none⟩)]⟩]⟩ h' fun u h'' => u = .bool false ∧ Ext No h' h'' := by
    intro h' b t hx hb
    refine calls [(0, _), (1, _)] Tryz.func158 rfl Tryz.ntmps158 rfl ⟨rfl, rfl, trivial⟩ ?_
    all_goals (refine WC.sr ?_; refine Go ?_; refine WC.sr ?_; refine Go ?_; refine WL.call (vs := [_, _]) rfl (fun a w => Tryz.call171 a w) rfl (indexFunc_col l (fun _ => false) (fun a w => Tryz.call159 a w) (fs := []) (us := [.pointer (some ⟨b, 0, none⟩)]) (hr.ext0 hx) (by unfold maxLen; omega) (fun x hxl h2 hx2 => everyf_col x hcf (hx2.obj hb nos) (fun h3 hx3 => hp x hxl h3 ((hx.trans hx2).trans hx3)))) rfl rfl rfl ?_; rintro _ h1 ⟨rfl, hx1⟩; rw [idxP_no (fun _ _ => rfl)])
    all_goals (refine Go ?_; refine Gs [(4, _)] ?_; refine Gt ?_; exact ⟨rfl, hx1⟩)
  obtain ⟨A, c, rfl, _⟩ := id hr
  refine calls [(0, _), (1, _)] Tryz.func145 rfl Tryz.ntmps145 rfl ⟨rfl, rfl, trivial⟩ ?_
  all_goals (refine WC.sr ?_; refine WL.stepR (okE_box rfl) rfl rfl rfl ?_; rintro _ h1 ⟨b1, rfl, hg1, hb1, hx1⟩; refine Go ?_; refine WC.sr ?_; refine Go ?_; refine goP 8 ?_ TT.mk; refine Gg ?_; refine WL.step (ok_makeFunc (vs := []) (us := [_]) rfl rfl) rfl rfl rfl ?_; refine WL.call (vs := [_, _]) rfl (fun a w => Tryz.call158 a w) rfl (hcon hx1 hb1) rfl rfl rfl ?_; rintro _ h2 ⟨rfl, hx2⟩; refine Gg ?_; refine Go ?_; refine Gs [(4, _)] ?_; refine Gt ?_; exact ⟨rfl, hx1.trans hx2⟩)

set_option maxHeartbeats 2000000 in
set_option maxRecDepth 100000 in
theorem everyf_fld {h : Heap} {b : Nat} {t : TypeId} (x : FieldD) {fk : Nat} (hcf : ∀ (args : Array Value) (w : World), (callFunc fk args).run Tryz.prog w = .ok (.enter fk args) w) (hb : h[b]? = some (.cells ⟨[.func (.func fk) ⟨[]⟩ ⟨[]⟩]⟩ t (0, 0)))
    (hp : ∀ h', Ext No h h' → CallsH Tryz.prog fk ⟨[.agg ⟨FieldD.cells x⟩]⟩ h' fun u h'' => u = .bool true ∧ Ext No h' h'') :
    CallsH Tryz.prog 162 ⟨[.agg ⟨FieldD.cells x⟩, .pointer (some ⟨b, 0, none⟩)]⟩ h fun u h' => u = .bool false ∧ Ext No h h' := by
  refine calls [(0, _), (1, _)] Tryz.func162 rfl Tryz.ntmps162 rfl ⟨rfl, rfl, trivial⟩ ?_
  all_goals (refine WC.sr ?_; refine WL.stepR (okE_box rfl) rfl rfl rfl ?_; rintro _ h1 ⟨b1, rfl, hg1, hb1, hx1⟩; refine Go ?_; refine WC.sr ?_; refine WL.ld rfl (by first | exact cell_blk (hx1.obj hb nos) rfl | assumption | exact cell_blk (by assumption) rfl) rfl rfl rfl ?_; refine WL.step (ok_loadN (fun w => Tryz.isAgg175 w) (fun w => Tryz.sizeOf175 w) rfl rfl (by exact At.of_block hb1)) rfl rfl rfl ?_; refine WL.callT (vs := [_]) rfl rfl hcf rfl (hp _ hx1) rfl rfl rfl ?_; rintro _ h2 ⟨rfl, hx2⟩; refine Go ?_; refine Gs [(3, _)] ?_; refine Gt ?_; exact ⟨rfl, hx1.trans hx2⟩)
set_option maxHeartbeats 2000000 in
set_option maxRecDepth 100000 in
theorem every_fld {h : Heap} {v : Value} (l : List FieldD) (hr : Rd h v 2 l.length (l.flatMap FieldD.cells)) (hl : l.length ≤ 65535) {fk : Nat} (hcf : ∀ (args : Array Value) (w : World), (callFunc fk args).run Tryz.prog w = .ok (.enter fk args) w)
    (hp : ∀ x ∈ l, ∀ h', Ext No h h' → CallsH Tryz.prog fk ⟨[.agg ⟨FieldD.cells x⟩]⟩ h' fun u h'' => u = .bool true ∧ Ext No h' h'') :
    CallsH Tryz.prog 147 ⟨[v, .func (.func fk) ⟨[]⟩ ⟨[]⟩]⟩ h fun u h' => u = .bool true ∧ Ext No h h' := by
  have hcon : ∀ {h' : Heap} {b : Nat} {t : TypeId}, Ext No h h' → h'[b]? = some (.cells ⟨[.func (.func fk) ⟨[]⟩ ⟨[]⟩]⟩ t (0, 0)) → CallsH Tryz.prog 161 ⟨[v, .func (.func 162) ⟨[]⟩ ⟨[.pointer (some ⟨b, 0, none⟩)]⟩]⟩ h' fun u h'' => u = .bool false ∧ Ext No h' h'' := by
    intro h' b t hx hb
    refine calls [(0, _), (1, _)] Tryz.func161 rfl Tryz.ntmps161 rfl ⟨rfl, rfl, trivial⟩ ?_
    all_goals (refine WC.sr ?_; refine Go ?_; refine WC.sr ?_; refine Go ?_; refine WL.call (vs := [_, _]) rfl (fun a w => Tryz.call174 a w) rfl (indexFunc_fld l (fun _ => false) (fun a w => Tryz.call162 a w) (fs := []) (us := [.pointer (some ⟨b, 0, none⟩)]) (hr.ext0 hx) (by unfold maxLen; omega) (fun x hxl h2 hx2 => everyf_fld x hcf (hx2.obj hb nos) (fun h3 hx3 => hp x hxl h3 ((hx.trans hx2).trans hx3)))) rfl rfl rfl ?_; rintro _ h1 ⟨rfl, hx1⟩; rw [idxP_no (fun _ _ => rfl)])
    all_goals (refine Go ?_; refine Gs [(4, _)] ?_; refine Gt ?_; exact ⟨rfl, hx1⟩)
  obtain ⟨A, c, rfl, _⟩ := id hr
  refine calls [(0, _), (1, _)] Tryz.func147 rfl Tryz.ntmps147 rfl ⟨rfl, rfl, trivial⟩ ?_
  all_goals (refine WC.sr ?_; refine WL.stepR (okE_box rfl) rfl rfl rfl ?_; rintro _ h1 ⟨b1, rfl, hg1, hb1, hx1⟩; refine Go ?_; refine WC.sr ?_; refine Go ?_; refine goP 8 ?_ TT.mk; refine Gg ?_; refine WL.step (ok_makeFunc (vs := []) (us := [_]) rfl rfl) rfl rfl rfl ?_; refine WL.call (vs := [_, _]) rfl (fun a w => Tryz.call161 a w) rfl (hcon hx1 hb1) rfl rfl rfl ?_; rintro _ h2 ⟨rfl, hx2⟩; refine Gg ?_; refine Go ?_; refine Gs [(4, _)] ?_; refine Gt ?_; exact ⟨rfl, hx1.trans hx2⟩)

set_option maxHeartbeats 2000000 in
set_option maxRecDepth 100000 in
theorem everyf_cel {h : Heap} {b : Nat} {t : TypeId} (x : Cel) {fk : Nat} (hcf : ∀ (args : Array Value) (w : World), (callFunc fk args).run Tryz.prog w = .ok (.enter fk args) w) (hb : h[b]? = some (.cells ⟨[.func (.func fk) ⟨[]⟩ ⟨[]⟩]⟩ t (0, 0)))
    (hp : ∀ h', Ext No h h' → CallsH Tryz.prog fk ⟨[.agg ⟨Cel.cells x⟩]⟩ h' fun u h'' => u = .bool true ∧ Ext No h' h'') :
    CallsH Tryz.prog 163 ⟨[.agg ⟨Cel.cells x⟩, .pointer (some ⟨b, 0, none⟩)]⟩ h fun u h' => u = .bool false ∧ Ext No h h' := by
  refine calls [(0, _), (1, _)] Tryz.func163 rfl Tryz.ntmps163 rfl ⟨rfl, rfl, trivial⟩ ?_
  all_goals (refine WC.sr ?_; refine WL.stepR (okE_box rfl) rfl rfl rfl ?_; rintro _ h1 ⟨b1, rfl, hg1, hb1, hx1⟩; refine Go ?_; refine WC.sr ?_; refine WL.ld rfl (by first | exact cell_blk (hx1.obj hb nos) rfl | assumption | exact cell_blk (by assumption) rfl) rfl rfl rfl ?_; refine WL.step (ok_loadN (fun w => Tryz.isAgg69 w) (fun w => Tryz.sizeOf69 w) rfl rfl (by exact At.of_block hb1)) rfl rfl rfl ?_; refine WL.callT (vs := [_]) rfl rfl hcf rfl (hp _ hx1) rfl rfl rfl ?_; rintro _ h2 ⟨rfl, hx2⟩; refine Go ?_; refine Gs [(3, _)] ?_; refine Gt ?_; exact ⟨rfl, hx1.trans hx2⟩)
set_option maxHeartbeats 2000000 in
set_option maxRecDepth 100000 in
theorem every_cel {h : Heap} {v : Value} (l : List Cel) (hr : Rd h v 2 l.length (l.flatMap Cel.cells)) (hl : l.length ≤ 65535) {fk : Nat} (hcf : ∀ (args : Array Value) (w : World), (callFunc fk args).run Tryz.prog w = .ok (.enter fk args) w)
    (hp : ∀ x ∈ l, ∀ h', Ext No h h' → CallsH Tryz.prog fk ⟨[.agg ⟨Cel.cells x⟩]⟩ h' fun u h'' => u = .bool true ∧ Ext No h' h'') :
    CallsH Tryz.prog 149 ⟨[v, .func (.func fk) ⟨[]⟩ ⟨[]⟩]⟩ h fun u h' => u = .bool true ∧ Ext No h h' := by
  have hcon : ∀ {h' : Heap} {b : Nat} {t : TypeId}, Ext No h h' → h'[b]? = some (.cells ⟨[.func (.func fk) ⟨[]⟩ ⟨[]⟩]⟩ t (0, 0)) → CallsH Tryz.prog 25 ⟨[v, .func (.func 163) ⟨[]⟩ ⟨[.pointer (some ⟨b, 0, none⟩)]⟩]⟩ h' fun u h'' => u = .bool false ∧ Ext No h' h'' := by
    intro h' b t hx hb
    refine calls [(0, _), (1, _)] Tryz.func25 rfl Tryz.ntmps25 rfl ⟨rfl, rfl, trivial⟩ ?_
    all_goals (refine WC.sr ?_; refine Go ?_; refine WC.sr ?_; refine Go ?_; refine WL.call (vs := [_, _]) rfl (fun a w => Tryz.call51 a w) rfl (indexFunc_cel l (fun _ => false) (fun a w => Tryz.call163 a w) (fs := []) (us := [.pointer (some ⟨b, 0, none⟩)]) (hr.ext0 hx) (by unfold maxLen; omega) (fun x hxl h2 hx2 => everyf_cel x hcf (hx2.obj hb nos) (fun h3 hx3 => hp x hxl h3 ((hx.trans hx2).trans hx3)))) rfl rfl rfl ?_; rintro _ h1 ⟨rfl, hx1⟩; rw [idxP_no (fun _ _ => rfl)])
    all_goals (refine Go ?_; refine Gs [(4, _)] ?_; refine Gt ?_; exact ⟨rfl, hx1⟩)
  obtain ⟨A, c, rfl, _⟩ := id hr
  refine calls [(0, _), (1, _)] Tryz.func149 rfl Tryz.ntmps149 rfl ⟨rfl, rfl, trivial⟩ ?_
  all_goals (refine WC.sr ?_; refine WL.stepR (okE_box rfl) rfl rfl rfl ?_; rintro _ h1 ⟨b1, rfl, hg1, hb1, hx1⟩; refine Go ?_; refine WC.sr ?_; refine Go ?_; refine goP 8 ?_ TT.mk; refine Gg ?_; refine WL.step (ok_makeFunc (vs := []) (us := [_]) rfl rfl) rfl rfl rfl ?_; refine WL.call (vs := [_, _]) rfl (fun a w => Tryz.call25 a w) rfl (hcon hx1 hb1) rfl rfl rfl ?_; rintro _ h2 ⟨rfl, hx2⟩; refine Gg ?_; refine Go ?_; refine Gs [(4, _)] ?_; refine Gt ?_; exact ⟨rfl, hx1.trans hx2⟩)

set_option maxHeartbeats 2000000 in
set_option maxRecDepth 100000 in
theorem equal_col {h : Heap} {v w : Value} (l : List ColD) (hr : Rd h v 7 l.length (l.flatMap ColD.cells)) (hs : Rd h w 7 l.length (l.flatMap ColD.cells)) (hm : l.length ≤ maxLen) :
    CallsH Tryz.prog 166 ⟨[v, w]⟩ h fun u h' => u = .bool true ∧ h' = h := by
  obtain ⟨A, c, rfl, _⟩ := id hr
  obtain ⟨B, d, rfl, _⟩ := id hs
  unfold maxLen at hm
  refine calls [(0, _), (1, _)] Tryz.func166 rfl Tryz.ntmps166 rfl ⟨rfl, rfl, trivial⟩ ?_
  all_goals (refine WC.sr ?_; refine Go ?_; refine WC.seq ?_; refine WC.sr ?_; refine Go ?_; refine Gs [(0, _), (1, _), (10, _)] ?_; refine goC 1 2 ?_ TT.mk; refine goB 2 ?_; refine WC.skip ?_; refine Gn ?_; refine WC.seq ?_; refine WC.sr ?_; refine Go ?_; refine WC.block ?_)
  -- loop 0: slots that turn [13], that stay [0, 1, 12]
  all_goals (refine WC.loopG (X := Nat) (fun x => ([(13, In (x : Int))] : Fr)) [(0, _), (1, _), (12, _)] (fun k h' => h' = h ∧ k ≤ l.length) (fun k => l.length - k) (0) ⟨rfl, rfl, rfl, rfl, trivial⟩ (by exact ⟨rfl, Nat.zero_le _⟩) ?_; rintro k h9 ⟨hz, hk⟩; subst h9; refine WC.sub [(13, _), (0, _), (1, _), (12, _)] ⟨rfl, rfl, rfl, rfl, trivial⟩ ?_; refine WC.sr ?_; refine Go ?_; refine WC.seq ?_; refine goC 3 4 (Hb.mk fun hb => ?_) (Hb.mk fun hb => ?_))
  all_goals (first | (fail_if_success refine goB 3 ?_) | (
  refine goB 3 ?_
  all_goals (refine WC.skip ?_)
  skip))
  all_goals (first | (fail_if_success refine goB 4 ?_) | (
  refine goB 4 ?_
  all_goals (refine WC.exit ?_; repeat' (with_reducible first | refine thenP_x ?_ | refine blockP_miss rfl ?_ | refine blockP_hit ?_ | refine blockP_n ?_ | refine thenP_n ?_))
  all_goals (refine Br.out (i := 1000) ?_)
  skip))
  all_goals (refine Gn ?_; first | (refine Br.keep ?_) | (refine WC.seq ?_))
  all_goals (first | (refine Br.keep ?_) | (refine WC.block ?_))
  all_goals (first | (refine Br.keep ?_) | (refine WC.sr ?_))
  all_goals (first
               | (refine Br.keep ?_)
               | (obtain ⟨bL, oL, hA, hbL, hat⟩ := Rd.at_ hr (by omega)
                  obtain ⟨bM, oM, hB, hbM, hbt⟩ := Rd.at_ hs (by omega)
                  obtain ⟨y, hy⟩ : ∃ y, l[k]? = some y := ⟨_, List.getElem?_eq_getElem (by omega)⟩
                  have at1 : At h bL (oL + k * 7) (ColD.cells y) := At.elem ColD.len hat hy
                  have at2 : At h bM (oM + k * 7) (ColD.cells y) := At.elem ColD.len hbt hy))
  all_goals (first | (refine Br.keep ?_) | (refine WL.step (ok_move rfl) rfl rfl rfl ?_))
  all_goals (refine Go ?_; first | (refine Br.keep ?_) | (refine WC.seq ?_))
  all_goals (first | (refine Br.keep ?_) | (refine WC.drawE fol (by kernel_rfl) ?_))
  all_goals (first | (refine Br.keep ?_) | (refine WQ.stepE (ok_move rfl) rfl rfl rfl ?_))
  all_goals (first | (refine Br.keep ?_) | (refine WQ.stepE (ok_move rfl) rfl rfl rfl ?_))
  all_goals (first | (refine Br.keep ?_) | (refine WQ.stepE (ok_idxAddrA Tryz.underlying83 (fun w => Tryz.sizeOf173 w) rfl rfl rfl (by omega) (by first | rfl | assumption)) rfl rfl rfl ?_))
  all_goals (first | (refine Br.keep ?_) | (refine WQ.stepE (ok_loadN (fun w => Tryz.isAgg173 w) (fun w => Tryz.sizeOf173 w) rfl rfl (by assumption)) rfl rfl rfl ?_))
  all_goals (first | (refine Br.keep ?_) | (refine WQ.stepE (ok_move rfl) rfl rfl rfl ?_))
  all_goals (first | (refine Br.keep ?_) | (refine WQ.stepE (ok_move rfl) rfl rfl rfl ?_))
  all_goals (first | (refine Br.keep ?_) | (refine WQ.stepE (ok_idxAddrA Tryz.underlying83 (fun w => Tryz.sizeOf173 w) rfl rfl rfl (by omega) (by first | rfl | assumption)) rfl rfl rfl ?_))
  all_goals (first | (refine Br.keep ?_) | (refine WQ.stepE (ok_loadN (fun w => Tryz.isAgg173 w) (fun w => Tryz.sizeOf173 w) rfl rfl (by assumption)) rfl rfl rfl ?_))
  all_goals (first | (refine Br.keep ?_) | (refine WQ.stepE (OkP.nbool_f rfl (ok_neqF (us := y.sca) (vs := y.sca) ([.s, .i .i64, .i .i64, .i .i64, .i .i64, .i .i64, .i .i64]) (by kernel_rfl) rfl rfl rfl rfl)) rfl rfl rfl ?_))
  all_goals (first | (refine Br.keep ?_) | (refine WQ.nil ?_))
  all_goals (refine Gn ?_; first | (refine Br.keep ?_) | (refine Gs [(0, _), (1, _), (12, _), (13, _), (24, _)] ?_))
  all_goals (first | (refine Br.keep ?_) | (refine goC 5 6 ?_ TT.mk))
  all_goals (first | (fail_if_success refine goB 6 ?_) | (
  refine goB 6 ?_
  all_goals (refine WC.skip ?_)
  skip))
  all_goals (refine Gn ?_; first | (refine Br.keep ?_) | (refine WC.region ?_))
  all_goals (refine Go ?_; first | (refine Br.keep ?_) | (exact ⟨k + 1, ⟨rfl, rfl, rfl, rfl, trivial⟩, (by exact ⟨rfl, by omega⟩), (by omega)⟩))
  all_goals (try (refine Br.mk (i := 1000) ?_))
  all_goals (refine Gn ?_; refine Gs [] ?_; refine WC.sr ?_; refine Go ?_; refine Gt ?_; exact ⟨rfl, rfl⟩)

set_option maxHeartbeats 2000000 in
set_option maxRecDepth 100000 in
theorem equal_fld {h : Heap} {v w : Value} (l : List FieldD) (hr : Rd h v 2 l.length (l.flatMap FieldD.cells)) (hs : Rd h w 2 l.length (l.flatMap FieldD.cells)) (hm : l.length ≤ maxLen) :
    CallsH Tryz.prog 167 ⟨[v, w]⟩ h fun u h' => u = .bool true ∧ h' = h := by
  obtain ⟨A, c, rfl, _⟩ := id hr
  obtain ⟨B, d, rfl, _⟩ := id hs
  unfold maxLen at hm
  refine calls [(0, _), (1, _)] Tryz.func167 rfl Tryz.ntmps167 rfl ⟨rfl, rfl, trivial⟩ ?_
  all_goals (refine WC.sr ?_; refine Go ?_; refine WC.seq ?_; refine WC.sr ?_; refine Go ?_; refine Gs [(0, _), (1, _), (10, _)] ?_; refine goC 1 2 ?_ TT.mk; refine goB 2 ?_; refine WC.skip ?_; refine Gn ?_; refine WC.seq ?_; refine WC.sr ?_; refine Go ?_; refine WC.block ?_)
  -- loop 0: slots that turn [13], that stay [0, 1, 12]
  all_goals (refine WC.loopG (X := Nat) (fun x => ([(13, In (x : Int))] : Fr)) [(0, _), (1, _), (12, _)] (fun k h' => h' = h ∧ k ≤ l.length) (fun k => l.length - k) (0) ⟨rfl, rfl, rfl, rfl, trivial⟩ (by exact ⟨rfl, Nat.zero_le _⟩) ?_; rintro k h9 ⟨hz, hk⟩; subst h9; refine WC.sub [(13, _), (0, _), (1, _), (12, _)] ⟨rfl, rfl, rfl, rfl, trivial⟩ ?_; refine WC.sr ?_; refine Go ?_; refine WC.seq ?_; refine goC 3 4 (Hb.mk fun hb => ?_) (Hb.mk fun hb => ?_))
  all_goals (first | (fail_if_success refine goB 3 ?_) | (
  refine goB 3 ?_
  all_goals (refine WC.skip ?_)
  skip))
  all_goals (first | (fail_if_success refine goB 4 ?_) | (
  refine goB 4 ?_
  all_goals (refine WC.exit ?_; repeat' (with_reducible first | refine thenP_x ?_ | refine blockP_miss rfl ?_ | refine blockP_hit ?_ | refine blockP_n ?_ | refine thenP_n ?_))
  all_goals (refine Br.out (i := 1000) ?_)
  skip))
  all_goals (refine Gn ?_; first | (refine Br.keep ?_) | (refine WC.seq ?_))
  all_goals (first | (refine Br.keep ?_) | (refine WC.block ?_))
  all_goals (first | (refine Br.keep ?_) | (refine WC.sr ?_))
  all_goals (first
               | (refine Br.keep ?_)
               | (obtain ⟨bL, oL, hA, hbL, hat⟩ := Rd.at_ hr (by omega)
                  obtain ⟨bM, oM, hB, hbM, hbt⟩ := Rd.at_ hs (by omega)
                  obtain ⟨y, hy⟩ : ∃ y, l[k]? = some y := ⟨_, List.getElem?_eq_getElem (by omega)⟩
                  have at1 : At h bL (oL + k * 2) (FieldD.cells y) := At.elem FieldD.len hat hy
                  have at2 : At h bM (oM + k * 2) (FieldD.cells y) := At.elem FieldD.len hbt hy))
  all_goals (first | (refine Br.keep ?_) | (refine WL.step (ok_move rfl) rfl rfl rfl ?_))
  all_goals (refine Go ?_; first | (refine Br.keep ?_) | (refine WC.seq ?_))
  all_goals (first | (refine Br.keep ?_) | (refine WC.drawE fol (by kernel_rfl) ?_))
  all_goals (first | (refine Br.keep ?_) | (refine WQ.stepE (ok_move rfl) rfl rfl rfl ?_))
  all_goals (first | (refine Br.keep ?_) | (refine WQ.stepE (ok_move rfl) rfl rfl rfl ?_))
  all_goals (first | (refine Br.keep ?_) | (refine WQ.stepE (ok_idxAddrA Tryz.underlying84 (fun w => Tryz.sizeOf175 w) rfl rfl rfl (by omega) (by first | rfl | assumption)) rfl rfl rfl ?_))
  all_goals (first | (refine Br.keep ?_) | (refine WQ.stepE (ok_loadN (fun w => Tryz.isAgg175 w) (fun w => Tryz.sizeOf175 w) rfl rfl (by assumption)) rfl rfl rfl ?_))
  all_goals (first | (refine Br.keep ?_) | (refine WQ.stepE (ok_move rfl) rfl rfl rfl ?_))
  all_goals (first | (refine Br.keep ?_) | (refine WQ.stepE (ok_move rfl) rfl rfl rfl ?_))
  all_goals (first | (refine Br.keep ?_) | (refine WQ.stepE (ok_idxAddrA Tryz.underlying84 (fun w => Tryz.sizeOf175 w) rfl rfl rfl (by omega) (by first | rfl | assumption)) rfl rfl rfl ?_))
  all_goals (first | (refine Br.keep ?_) | (refine WQ.stepE (ok_loadN (fun w => Tryz.isAgg175 w) (fun w => Tryz.sizeOf175 w) rfl rfl (by assumption)) rfl rfl rfl ?_))
  all_goals (first | (refine Br.keep ?_) | (refine WQ.stepE (OkP.nbool_f rfl (ok_neqF (us := y.sca) (vs := y.sca) ([.i .u8, .s]) (by kernel_rfl) rfl rfl rfl rfl)) rfl rfl rfl ?_))
  all_goals (first | (refine Br.keep ?_) | (refine WQ.nil ?_))
  all_goals (refine Gn ?_; first | (refine Br.keep ?_) | (refine Gs [(0, _), (1, _), (12, _), (13, _), (24, _)] ?_))
  all_goals (first | (refine Br.keep ?_) | (refine goC 5 6 ?_ TT.mk))
  all_goals (first | (fail_if_success refine goB 6 ?_) | (
  refine goB 6 ?_
  all_goals (refine WC.skip ?_)
  skip))
  all_goals (refine Gn ?_; first | (refine Br.keep ?_) | (refine WC.region ?_))
  all_goals (refine Go ?_; first | (refine Br.keep ?_) | (exact ⟨k + 1, ⟨rfl, rfl, rfl, rfl, trivial⟩, (by exact ⟨rfl, by omega⟩), (by omega)⟩))
  all_goals (try (refine Br.mk (i := 1000) ?_))
  all_goals (refine Gn ?_; refine Gs [] ?_; refine WC.sr ?_; refine Go ?_; refine Gt ?_; exact ⟨rfl, rfl⟩)

set_option maxHeartbeats 2000000 in
set_option maxRecDepth 100000 in
theorem allf_ok {h : Heap} (b : BndD) (hb : b.ok) : CallsH Tryz.prog 173 ⟨[.agg ⟨b.cells⟩]⟩ h fun u h' => u = .bool false ∧ Ext No h h' := by
  obtain ⟨n, lo, hi⟩ := b
  obtain ⟨h1, h2⟩ := hb
  simp only at h1 h2
  dsimp only [BndD.cells]
  refine calls [(0, _)] Tryz.func173 rfl Tryz.ntmps173 rfl ⟨rfl, trivial⟩ ?_
  all_goals (refine WC.sr ?_; refine WL.stepR (okE_box rfl) rfl rfl rfl ?_; rintro _ h3 ⟨b3, rfl, hg3, hb3, hx3⟩; refine Go ?_; refine WC.sr ?_; refine Go ?_; refine Ld ?_; refine Go ?_; refine Ld ?_; refine Go ?_; refine goP 8 ?_ TT.mk; refine Gg ?_; refine Ld ?_; refine Gg ?_; refine Ld ?_; refine Gg ?_; refine Go ?_; refine Gs [(2, _)] ?_; refine Gt ?_; exact ⟨rfl, hx3⟩)
set_option maxHeartbeats 2000000 in
set_option maxRecDepth 100000 in
theorem all_ok {h : Heap} {v : Value} (l : List BndD) (hr : Rd h v 3 l.length (l.flatMap BndD.cells)) (hm : l.length ≤ maxLen) (hl : ∀ b ∈ l, b.ok) : CallsH Tryz.prog 160 ⟨[v]⟩ h fun u h' => u = .bool true ∧ Ext No h h' := by
  have hcon : CallsH Tryz.prog 172 ⟨[v, .func (.func 173) ⟨[]⟩ ⟨[]⟩]⟩ h fun u h' => u = .bool false ∧ Ext No h h' := by
    refine calls [(0, _), (1, _)] Tryz.func172 rfl Tryz.ntmps172 rfl ⟨rfl, rfl, trivial⟩ ?_
    all_goals (refine WC.sr ?_; refine Go ?_; refine WC.sr ?_; refine Go ?_; refine WL.call (vs := [_, _]) rfl (fun a w => Tryz.call177 a w) rfl (indexFunc_bnd l (fun _ => false) (fun a w => Tryz.call173 a w) (fs := []) (us := []) hr hm (fun x hx h' hx' => allf_ok x (hl x hx))) rfl rfl rfl ?_; rintro _ h1 ⟨rfl, hx1⟩; rw [idxP_no (fun _ _ => rfl)])
    all_goals (refine Go ?_; refine Gs [(4, _)] ?_; refine Gt ?_; exact ⟨rfl, hx1⟩)
  refine calls [(0, _)] Tryz.func160 rfl Tryz.ntmps160 rfl ⟨rfl, trivial⟩ ?_
  all_goals (refine WC.sr ?_; refine Go ?_; refine WC.sr ?_; refine Go ?_; refine WL.call (vs := [_, _]) rfl (fun a w => Tryz.call172 a w) rfl (hcon) rfl rfl rfl ?_; rintro _ h1 ⟨rfl, hx1⟩; refine Go ?_; refine Gs [(2, _)] ?_; refine Gt ?_; exact ⟨rfl, hx1⟩)
/-- A column that may be. -/
def ColD.okB (c : ColD) : Prop := cleanB c.nm = true ∧ (0 ≤ c.t ∧ c.t ≤ 4294967295) ∧ (0 ≤ c.a ∧ c.a ≤ 65535) ∧ (0 ≤ c.o ∧ c.o ≤ 4294967295) ∧ (-32768 ≤ c.s ∧ c.s ≤ 32767) ∧ (-2147483648 ≤ c.m ∧ c.m ≤ 2147483647) ∧ (0 ≤ c.f ∧ c.f ≤ 65535)
set_option maxHeartbeats 2000000 in
set_option maxRecDepth 100000 in
theorem column_ok {h : Heap} (c : ColD) (hc : c.okB) : CallsH Tryz.prog 146 ⟨[.agg ⟨c.cells⟩]⟩ h fun u h' => u = .bool true ∧ Ext No h h' := by
  obtain ⟨nm, t, a, o, s, m, f⟩ := c
  obtain ⟨h1, h2, h3, h4, h5, h6, h7⟩ := hc
  simp only at h1 h2 h3 h4 h5 h6 h7
  dsimp only [ColD.cells]
  refine calls [(0, _)] Tryz.func146 rfl Tryz.ntmps146 rfl ⟨rfl, trivial⟩ ?_
  all_goals (refine WC.sr ?_; refine WL.stepR (okE_box rfl) rfl rfl rfl ?_; rintro _ g1 ⟨b1, rfl, hg1, hb1, hx1⟩; refine Go ?_; refine WC.sr ?_; refine Go ?_; refine Ld ?_; refine WL.call (vs := [_]) rfl (fun a w => Tryz.call144 a w) rfl ((clean_any nm).as (congrArg Value.bool h1)) rfl rfl rfl ?_; rintro _ hz ⟨rfl, _⟩; subst hz; refine Go ?_; refine goP 6 ?_ TT.mk; refine Gg ?_; refine Ld ?_; refine WL.step (ok_buildF (vs := [_, _, _]) (cs := [_, _, _]) (fun | [a0, a1, a2] => [a0, a1, a2] | _ => []) rfl rfl (by kernel_rfl)) rfl rfl rfl ?_; refine Gg ?_; refine Ld ?_; refine WL.step (ok_buildF (vs := [_, _, _]) (cs := [_, _, _]) (fun | [a0, a1, a2] => [a0, a1, a2] | _ => []) rfl rfl (by kernel_rfl)) rfl rfl rfl ?_; refine Gg ?_; refine Ld ?_; refine WL.step (ok_buildF (vs := [_, _, _]) (cs := [_, _, _]) (fun | [a0, a1, a2] => [a0, a1, a2] | _ => []) rfl rfl (by kernel_rfl)) rfl rfl rfl ?_; refine Gg ?_; refine Ld ?_; refine WL.step (ok_buildF (vs := [_, _, _]) (cs := [_, _, _]) (fun | [a0, a1, a2] => [a0, a1, a2] | _ => []) rfl rfl (by kernel_rfl)) rfl rfl rfl ?_; refine Gg ?_; refine Ld ?_; refine WL.step (ok_buildF (vs := [_, _, _]) (cs := [_, _, _]) (fun | [a0, a1, a2] => [a0, a1, a2] | _ => []) rfl rfl (by kernel_rfl)) rfl rfl rfl ?_; refine Gg ?_; refine Ld ?_; refine WL.step (ok_buildF (vs := [_, _, _]) (cs := [_, _, _]) (fun | [a0, a1, a2] => [a0, a1, a2] | _ => []) rfl rfl (by kernel_rfl)) rfl rfl rfl ?_; refine WL.stepR (okE_buildSlice (vs := [_, _, _, _, _, _]) (cs := [_, _, _, _, _, _, _, _, _, _, _, _, _, _, _, _, _, _]) (fun | [.agg ⟨[a0, a1, a2]⟩, .agg ⟨[a3, a4, a5]⟩, .agg ⟨[a6, a7, a8]⟩, .agg ⟨[a9, a10, a11]⟩, .agg ⟨[a12, a13, a14]⟩, .agg ⟨[a15, a16, a17]⟩] => [a0, a1, a2, a3, a4, a5, a6, a7, a8, a9, a10, a11, a12, a13, a14, a15, a16, a17] | _ => []) Tryz.underlying210 rfl rfl (by kernel_rfl)) rfl rfl rfl ?_; rintro _ g2 ⟨b2, rfl, hg2, hb2, hx2⟩; refine WL.call (vs := [_]) rfl (fun a w => Tryz.call160 a w) rfl (all_ok [⟨t, 0, 4294967295⟩, ⟨a, 0, 65535⟩, ⟨o, 0, 4294967295⟩, ⟨s, -32768, 32767⟩, ⟨m, -2147483648, 2147483647⟩, ⟨f, 0, 65535⟩] (rd_blk hb2 rfl) (by simp [maxLen]) (by intro b hb; simp only [List.mem_cons, List.not_mem_nil, or_false] at hb; rcases hb with rfl | rfl | rfl | rfl | rfl | rfl <;> assumption)) rfl rfl rfl ?_; rintro _ g3 ⟨rfl, hx3⟩; refine Go ?_; refine Gs [(2, _)] ?_; refine Gt ?_; exact ⟨rfl, (hx1.trans hx2).trans hx3⟩)
def FieldD.okB (c : FieldD) : Prop := c.k ≠ 0 ∧ cleanB c.t = true
set_option maxHeartbeats 2000000 in
set_option maxRecDepth 100000 in
theorem field_ok {h : Heap} (c : FieldD) (hc : c.okB) : CallsH Tryz.prog 148 ⟨[.agg ⟨c.cells⟩]⟩ h fun u h' => u = .bool true ∧ Ext No h h' := by
  obtain ⟨k, t⟩ := c
  obtain ⟨h1, h2⟩ := hc
  simp only at h1 h2
  dsimp only [FieldD.cells]
  refine calls [(0, _)] Tryz.func148 rfl Tryz.ntmps148 rfl ⟨rfl, trivial⟩ ?_
  all_goals (refine WC.sr ?_; refine WL.stepR (okE_box rfl) rfl rfl rfl ?_; rintro _ g1 ⟨b1, rfl, hg1, hb1, hx1⟩; refine Go ?_; refine WC.sr ?_; refine Go ?_; refine Ld ?_; refine Go ?_; refine goP 6 ?_ TT.mk; refine Gg ?_; refine Ld ?_; refine WL.call (vs := [_]) rfl (fun a w => Tryz.call144 a w) rfl ((clean_any t).as (congrArg Value.bool h2)) rfl rfl rfl ?_; rintro _ hz ⟨rfl, _⟩; subst hz; refine Go ?_; refine Gs [(2, _)] ?_; refine Gt ?_; exact ⟨rfl, hx1⟩)
def Cel.okB (c : Cel) : Prop := (c.null = true → c.bytes.length = 0) ∧ c.bytes.length ≤ 1048576
set_option maxHeartbeats 2000000 in
set_option maxRecDepth 100000 in
theorem cell_ok {h h0 : Heap} (c : Cel) (hk : c.ok h0) (hc : c.okB) : CallsH Tryz.prog 150 ⟨[.agg ⟨c.cells⟩]⟩ h fun u h' => u = .bool true ∧ Ext No h h' := by
  obtain ⟨nl, v, bs⟩ := c
  obtain ⟨h1, h2⟩ := hc
  simp only at h1 h2
  obtain ⟨A, cc, e, _⟩ := hk.1
  simp only at e
  subst e
  dsimp only [Cel.cells]
  cases nl
  all_goals try have h3 := h1 rfl
  all_goals
    refine calls [(0, _)] Tryz.func150 rfl Tryz.ntmps150 rfl ⟨rfl, trivial⟩ ?_
    all_goals (refine WC.sr ?_; refine WL.stepR (okE_box rfl) rfl rfl rfl ?_; rintro _ g1 ⟨b1, rfl, hg1, hb1, hx1⟩; refine Go ?_; refine WC.sr ?_; refine Go ?_; refine Ld ?_; refine Go ?_; refine goP 5 ?_ TT.mk; refine Gg ?_; first | (refine WL.pass rfl rfl rfl ?_) | (refine Ld ?_))
    all_goals (refine Gg ?_; refine Go ?_; refine goP 12 ?_ TT.mk; refine Gg ?_; refine Ld ?_; refine Gg ?_; refine Go ?_; refine Gs [(2, _)] ?_; refine Gt ?_; exact ⟨rfl, hx1⟩)
set_option maxHeartbeats 2000000 in
set_option maxRecDepth 100000 in
theorem oid_ok {h : Heap} (n : Int) (h0 : 0 ≤ n) (h1 : n ≤ 4294967295) : CallsH Tryz.prog 152 ⟨[In n]⟩ h fun u h' => u = .bool true ∧ h' = h := by
  refine calls [(0, _)] Tryz.func152 rfl Tryz.ntmps152 rfl ⟨rfl, trivial⟩ ?_
  all_goals (refine WC.sr ?_; refine Go ?_; refine WC.sr ?_; refine Go ?_; refine goP 5 ?_ TT.mk; refine Gg ?_; refine Go ?_; refine Gs [(2, _)] ?_; refine Gt ?_; exact ⟨rfl, rfl⟩)
set_option maxHeartbeats 2000000 in
set_option maxRecDepth 100000 in
theorem every_int {h : Heap} {v : Value} (l : List Int) (hr : Rd h v 1 l.length (ints l)) (hl : l.length ≤ 65535) (hp : ∀ n ∈ l, 0 ≤ n ∧ n ≤ 4294967295) :
    CallsH Tryz.prog 151 ⟨[v, .func (.func 152) ⟨[]⟩ ⟨[]⟩]⟩ h fun u h' => u = .bool true ∧ Ext No h h' := by
  have hf : ∀ {h : Heap} {b : Nat} {t : TypeId} (x : Int), x ∈ l → h[b]? = some (.cells ⟨[.func (.func 152) ⟨[]⟩ ⟨[]⟩]⟩ t (0, 0)) → CallsH Tryz.prog 164 ⟨[In x, .pointer (some ⟨b, 0, none⟩)]⟩ h fun u h' => u = .bool false ∧ h' = h := by
    intro h b t x hx hb
    refine calls [(0, _), (1, _)] Tryz.func164 rfl Tryz.ntmps164 rfl ⟨rfl, rfl, trivial⟩ ?_
    all_goals (refine WC.sr ?_; refine Go ?_; refine WC.sr ?_; refine Ld ?_; refine Go ?_; refine WL.callT (vs := [_]) rfl rfl (fun a w => Tryz.call152 a w) rfl (oid_ok x (hp x hx).1 (hp x hx).2) rfl rfl rfl ?_; rintro _ hz ⟨rfl, _⟩; subst hz; refine Go ?_; refine Gs [(3, _)] ?_; refine Gt ?_; exact ⟨rfl, rfl⟩)
  obtain ⟨A, c, rfl, _⟩ := id hr
  have hcon : ∀ {h' : Heap} {b : Nat} {t : TypeId}, Ext No h h' → h'[b]? = some (.cells ⟨[.func (.func 152) ⟨[]⟩ ⟨[]⟩]⟩ t (0, 0)) → CallsH Tryz.prog 108 ⟨[.slice A l.length c, .func (.func 164) ⟨[]⟩ ⟨[.pointer (some ⟨b, 0, none⟩)]⟩]⟩ h' fun u h'' => u = .bool false ∧ h'' = h' := by
    intro h' b t hx hb
    refine calls [(0, _), (1, _)] Tryz.func108 rfl Tryz.ntmps108 rfl ⟨rfl, rfl, trivial⟩ ?_
    all_goals (refine WC.sr ?_; refine Go ?_; refine WC.sr ?_; refine Go ?_; refine WL.call (vs := [_, _]) rfl (fun a w => Tryz.call129 a w) rfl (indexFunc_int l (fun _ => false) (fun a w => Tryz.call164 a w) (fs := []) (us := [.pointer (some ⟨b, 0, none⟩)]) (hr.ext0 hx) (by unfold maxLen; omega) (fun x hxl => hf x hxl hb)) rfl rfl rfl ?_; rintro _ hz ⟨rfl, _⟩; subst hz; rw [idxP_no (fun _ _ => rfl)])
    all_goals (refine Go ?_; refine Gs [(4, _)] ?_; refine Gt ?_; exact ⟨rfl, rfl⟩)
  refine calls [(0, _), (1, _)] Tryz.func151 rfl Tryz.ntmps151 rfl ⟨rfl, rfl, trivial⟩ ?_
  all_goals (refine WC.sr ?_; refine WL.stepR (okE_box rfl) rfl rfl rfl ?_; rintro _ h1 ⟨b1, rfl, hg1, hb1, hx1⟩; refine Go ?_; refine WC.sr ?_; refine Go ?_; refine goP 8 ?_ TT.mk; refine Gg ?_; refine WL.step (ok_makeFunc (vs := []) (us := [_]) rfl rfl) rfl rfl rfl ?_; refine WL.call (vs := [_, _]) rfl (fun a w => Tryz.call108 a w) rfl (hcon hx1 hb1) rfl rfl rfl ?_; rintro _ hz ⟨rfl, _⟩; subst hz; refine Gg ?_; refine Go ?_; refine Gs [(4, _)] ?_; refine Gt ?_; exact ⟨rfl, hx1⟩)
set_option maxHeartbeats 2000000 in
set_option maxRecDepth 100000 in
theorem bytes_equal {h : Heap} {v w : Value} (l m : List UInt8) (hr : Rd h v 1 l.length (bys l)) (hs : Rd h w 1 m.length (bys m)) :
    CallsH Tryz.prog 175 ⟨[v, w]⟩ h fun u h' => u = .bool (decide (l = m)) ∧ h' = h := by
  obtain ⟨A, c, rfl, _⟩ := id hr
  obtain ⟨B, d, rfl, _⟩ := id hs
  by_cases e : l = m
  all_goals
    refine calls [(0, _), (1, _)] Tryz.func175 rfl Tryz.ntmps175 rfl ⟨rfl, rfl, trivial⟩ ?_
    all_goals (refine WC.sr ?_; refine Go ?_; refine WC.sr ?_; refine Go ?_; refine WL.step (ok_convBS Tryz.underlying42 Tryz.underlying5 Tryz.underlying9 rfl hr) rfl rfl rfl ?_; refine Go ?_; refine WL.step (ok_convBS Tryz.underlying42 Tryz.underlying5 Tryz.underlying9 rfl hs) rfl rfl rfl ?_; refine Go ?_; refine Gs [(4, _)] ?_; refine Gt ?_; exact ⟨by simp [e], rfl⟩)
set_option maxHeartbeats 2000000 in
set_option maxRecDepth 100000 in
theorem alike_back {h : Heap} (a b : Cel) (ha : a.ok h) (hb : b.ok h) (e : a.pl = b.pl) :
    CallsH Tryz.prog 169 ⟨[.agg ⟨a.cells⟩, .agg ⟨b.cells⟩]⟩ h fun u h' => u = .bool true ∧ Ext No h h' := by
  obtain ⟨n1, v1, l1⟩ := a
  obtain ⟨n2, v2, l2⟩ := b
  simp only [Cel.pl, Prod.mk.injEq] at e
  obtain ⟨rfl, rfl⟩ := e
  obtain ⟨ha, _⟩ := ha
  obtain ⟨hb, _⟩ := hb
  simp only at ha hb
  obtain ⟨A, c, rfl, _⟩ := id ha
  obtain ⟨B, d, rfl, _⟩ := id hb
  dsimp only [Cel.cells]
  cases n1
  all_goals
    refine calls [(0, _), (1, _)] Tryz.func169 rfl Tryz.ntmps169 rfl ⟨rfl, rfl, trivial⟩ ?_
    all_goals (refine WC.sr ?_; refine WL.stepR (okE_box rfl) rfl rfl rfl ?_; rintro _ h1 ⟨b1, rfl, hg1, hb1, hx1⟩; refine WL.stepR (okE_box rfl) rfl rfl rfl ?_; rintro _ h2 ⟨b2, rfl, hg2, hb2, hx2⟩; have hb1' := hx2.obj hb1 nos; have hx := hx1.trans hx2; refine Go ?_; refine WC.sr ?_; refine Go ?_; refine Ld ?_; refine Go ?_; refine Ld ?_; refine WL.step (OkP.bool_t (by rfl) (ok_eqlB Tryz.underlying4 rfl rfl)) rfl rfl rfl ?_; refine Go ?_; refine goP 10 ?_ TT.mk; refine Gg ?_; refine Ld ?_; refine Gg ?_; refine Ld ?_; refine WL.call (vs := [_, _]) rfl (fun a w => Tryz.call175 a w) rfl ((bytes_equal l1 l1 (ha.ext0 hx) (hb.ext0 hx)).as (congrArg Value.bool (decide_eq_true rfl))) rfl rfl rfl ?_; rintro _ hz ⟨rfl, _⟩; subst hz; refine Go ?_; refine Gs [(4, _)] ?_; refine Gt ?_; exact ⟨rfl, hx⟩)
theorem pl_get {α β : Type} {F : α → β} {l m : List α} {k : Nat} {a b : α} (e : l.map F = m.map F) (ha : l[k]? = some a) (hb : m[k]? = some b) : F a = F b := by
  have := congrArg (·[k]?) e
  simpa [ha, hb] using this
set_option maxHeartbeats 2000000 in
set_option maxRecDepth 100000 in
theorem equalF_cel {h : Heap} {v w : Value} (l m : List Cel) (hl : Cels h v l) (hm : Cels h w m) (e : l.map Cel.pl = m.map Cel.pl) :
    CallsH Tryz.prog 168 ⟨[v, w, .func (.func 169) ⟨[]⟩ ⟨[]⟩]⟩ h fun u h' => u = .bool true ∧ Ext No h h' := by
  obtain ⟨hr, ⟨hlm, A, c, rfl, _⟩, ho⟩ := hl
  obtain ⟨hs, ⟨hmm, B, d, rfl, _⟩, hp⟩ := hm
  have hlen : m.length = l.length := by simpa using (congrArg List.length e).symm
  unfold reachBytes at hlm
  refine calls [(0, _), (1, _), (2, _)] Tryz.func168 rfl Tryz.ntmps168 rfl ⟨rfl, rfl, rfl, trivial⟩ ?_
  all_goals (refine WC.sr ?_; refine Go ?_; refine WC.seq ?_; refine WC.sr ?_; refine Go ?_; refine Gs [(0, _), (1, _), (2, _), (14, _)] ?_; refine goC 1 2 ?_ TT.mk; refine goB 2 ?_; refine WC.skip ?_; refine Gn ?_; refine WC.seq ?_; refine WC.sr ?_; refine Go ?_; refine WC.block ?_)
  -- loop 0: slots that turn [17], that stay [1, 2, 15, 16]
  all_goals (refine WC.loopG (X := Nat) (fun x => ([(17, In (x : Int))] : Fr)) [(1, _), (2, _), (15, _), (16, _)] (fun k h' => Ext No h h' ∧ k ≤ l.length) (fun k => l.length - k) (0) ⟨rfl, rfl, rfl, rfl, rfl, trivial⟩ (by exact ⟨.refl _ _, Nat.zero_le _⟩) ?_; rintro k h1 ⟨hx1, hk⟩; refine WC.sub [(17, _), (1, _), (2, _), (15, _), (16, _)] ⟨rfl, rfl, rfl, rfl, rfl, trivial⟩ ?_; refine WC.sr ?_; refine Go ?_; refine WC.seq ?_; refine goC 3 4 (Hb.mk fun hb => ?_) (Hb.mk fun hb => ?_))
  all_goals (first | (fail_if_success refine goB 3 ?_) | (
  refine goB 3 ?_
  all_goals (refine WC.skip ?_)
  skip))
  all_goals (first | (fail_if_success refine goB 4 ?_) | (
  refine goB 4 ?_
  all_goals (refine WC.exit ?_; repeat' (with_reducible first | refine thenP_x ?_ | refine blockP_miss rfl ?_ | refine blockP_hit ?_ | refine blockP_n ?_ | refine thenP_n ?_))
  all_goals (refine Br.out (i := 1000) ?_)
  skip))
  all_goals (refine Gn ?_; first | (refine Br.keep ?_) | (refine WC.seq ?_))
  all_goals (first | (refine Br.keep ?_) | (refine WC.block ?_))
  all_goals (first | (refine Br.keep ?_) | (refine WC.sr ?_))
  all_goals (first
               | (refine Br.keep ?_)
               | (obtain ⟨bL, oL, hA, hbL, hat⟩ := Rd.at_ (hr.ext0 hx1) (by omega)
                  obtain ⟨bM, oM, hB, hbM, hbt⟩ := Rd.at_ (hs.ext0 hx1) (by omega)
                  obtain ⟨y, hy⟩ : ∃ y, l[k]? = some y := ⟨_, List.getElem?_eq_getElem (by omega)⟩
                  obtain ⟨z, hz⟩ : ∃ y, m[k]? = some y := ⟨_, List.getElem?_eq_getElem (by omega)⟩
                  have hyo := ho y (List.mem_of_getElem? hy)
                  have hzo := hp z (List.mem_of_getElem? hz)
                  have at1 : At h1 bL (oL + k * 2) y.cells := At.elem Cel.len hat hy
                  have at2 : At h1 bM (oM + k * 2) z.cells := At.elem Cel.len hbt hz
                  have one1 : ∀ v ∈ y.cells, v.oneCell' = true := by obtain ⟨A1, c1, e1, _⟩ := hyo.1; simp [Cel.cells, Value.oneCell', e1]
                  have one2 : ∀ v ∈ z.cells, v.oneCell' = true := by obtain ⟨A1, c1, e1, _⟩ := hzo.1; simp [Cel.cells, Value.oneCell', e1]))
  all_goals (first | (refine Br.keep ?_) | (refine WL.step (ok_move rfl) rfl rfl rfl ?_))
  all_goals (first | (refine Br.keep ?_) | (refine WL.step (ok_idxAddrA Tryz.underlying25 (fun w => Tryz.sizeOf69 w) rfl rfl rfl (by omega) (by first | rfl | assumption)) rfl rfl rfl ?_))
  all_goals (first | (refine Br.keep ?_) | (refine WL.step (ok_loadN (fun w => Tryz.isAgg69 w) (fun w => Tryz.sizeOf69 w) rfl rfl (by assumption)) rfl rfl rfl ?_))
  all_goals (first
               | (refine Br.keep ?_)
               | (refine WL.stepR (okE_alloc (fun w => Tryz.zeroValue69 w)) rfl rfl rfl ?_
                  rintro _ h2 ⟨b2, rfl, hg2, hb2, hx2⟩))
  all_goals (refine Go ?_)
  all_goals (first
               | (refine Br.keep ?_)
               | (refine WL.stepR0 (okE_storeW (fun w => Tryz.sizeOf69 w) rfl rfl rfl (by assumption) rfl one1) rfl rfl ?_
                  rintro _ h3 ⟨hb3, hx3⟩))
  all_goals (first | (refine Br.keep ?_) | (have hx13 : Ext No h1 h3 := hx2.trans' hx3 (fun q hq e => by omega)))
  all_goals (refine Gn ?_; first | (refine Br.keep ?_) | (refine Gs [(1, _), (2, _), (7, _), (8, _), (15, _), (16, _), (17, _)] ?_))
  all_goals (first | (refine Br.keep ?_) | (refine WC.sr ?_))
  all_goals (refine Go ?_; first | (refine Br.keep ?_) | (refine WL.step (ok_idxAddrA Tryz.underlying25 (fun w => Tryz.sizeOf69 w) rfl rfl rfl (by omega) (by first | rfl | assumption)) rfl rfl rfl ?_))
  all_goals (first | (refine Br.keep ?_) | (refine WL.step (ok_loadN (fun w => Tryz.isAgg69 w) (fun w => Tryz.sizeOf69 w) rfl rfl (by exact at2.ext hx13 nos)) rfl rfl rfl ?_))
  all_goals (first
               | (refine Br.keep ?_)
               | (refine WL.stepR (okE_alloc (fun w => Tryz.zeroValue69 w)) rfl rfl rfl ?_
                  rintro _ h4 ⟨b4, rfl, hg4, hb4, hx4⟩))
  all_goals (first
               | (refine Br.keep ?_)
               | (refine WL.stepR0 (okE_storeW (fun w => Tryz.sizeOf69 w) rfl rfl rfl (by assumption) rfl one2) rfl rfl ?_
                  rintro _ h5 ⟨hb5, hx5⟩))
  all_goals (first
               | (refine Br.keep ?_)
               | (have hx35 : Ext No h3 h5 := hx4.trans' hx5 (fun q hq e => by omega)
                  have hb3' := hx35.obj hb3 nos
                  have hX5 := hx1.trans (hx13.trans hx35)))
  all_goals (refine Gn ?_; first | (refine Br.keep ?_) | (refine Gs [(1, _), (2, _), (8, _), (9, _), (15, _), (16, _), (17, _)] ?_))
  all_goals (first | (refine Br.keep ?_) | (refine WC.sr ?_))
  all_goals (refine Go ?_; first | (refine Br.keep ?_) | (refine WL.step (ok_loadN (fun w => Tryz.isAgg69 w) (fun w => Tryz.sizeOf69 w) rfl rfl (by exact At.of_block hb3')) rfl rfl rfl ?_))
  all_goals (first | (refine Br.keep ?_) | (refine WL.step (ok_loadN (fun w => Tryz.isAgg69 w) (fun w => Tryz.sizeOf69 w) rfl rfl (by exact At.of_block hb5)) rfl rfl rfl ?_))
  all_goals (first
               | (refine Br.keep ?_)
               | (refine WL.callT (vs := [_, _]) rfl rfl (fun a w => Tryz.call169 a w) rfl (alike_back y z (hyo.ext0 hX5) (hzo.ext0 hX5) (pl_get e hy hz)) rfl rfl rfl ?_
                  rintro _ h6 ⟨rfl, hx6⟩))
  all_goals (refine Go ?_; first | (refine Br.keep ?_) | (refine Gs [(1, _), (2, _), (15, _), (16, _), (17, _), (30, _)] ?_))
  all_goals (first | (refine Br.keep ?_) | (refine goC 5 6 ?_ TT.mk))
  all_goals (first | (fail_if_success refine goB 6 ?_) | (
  refine goB 6 ?_
  all_goals (refine WC.skip ?_)
  skip))
  all_goals (refine Gn ?_; first | (refine Br.keep ?_) | (refine WC.region ?_))
  all_goals (refine Go ?_; first | (refine Br.keep ?_) | (exact ⟨k + 1, ⟨rfl, rfl, rfl, rfl, rfl, trivial⟩, (by exact ⟨hX5.trans hx6, by omega⟩), (by omega)⟩))
  all_goals (try (refine Br.mk (i := 1000) ?_))
  all_goals (refine Gn ?_; refine Gs [] ?_; refine WC.sr ?_; refine Go ?_; refine Gt ?_; exact ⟨rfl, hx1⟩)
set_option maxHeartbeats 4000000 in
set_option maxRecDepth 100000 in
theorem same_back {h : Heap} (a b : Bk) (ha : a.ok h) (hb : b.ok h) (e : a.pl = b.pl) :
    CallsH Tryz.prog 154 ⟨[.agg ⟨a.cells⟩, .agg ⟨b.cells⟩]⟩ h fun u h' => u = .bool true ∧ Ext No h h' := by
  obtain ⟨k1, s1, t1, n1, v1, x1, y1, vo1, l1, vc1, c1, vr1, r1, vf1, f1⟩ := a
  obtain ⟨k2, s2, t2, n2, v2, x2, y2, vo2, l2, vc2, c2, vr2, r2, vf2, f2⟩ := b
  simp only [Bk.pl, Prod.mk.injEq] at e
  obtain ⟨rfl, rfl, rfl, rfl, rfl, rfl, rfl, rfl, rfl, er, rfl⟩ := e
  obtain ⟨⟨ao, hlo⟩, ⟨ac, hlc⟩, ar, af, hlf⟩ := ha
  obtain ⟨⟨bo, _⟩, ⟨bc, _⟩, br, bf, _⟩ := hb
  simp only at ao ac ar af bo bc br bf hlo hlc hlf
  obtain ⟨Ao, co, rfl, _⟩ := id ao
  obtain ⟨Bo, do_, rfl, _⟩ := id bo
  dsimp only [Bk.cells]
  refine calls [(0, _), (1, _)] Tryz.func154 rfl Tryz.ntmps154 rfl ⟨rfl, rfl, trivial⟩ ?_
  all_goals (refine WC.sr ?_; refine WL.stepR (okE_box rfl) rfl rfl rfl ?_; rintro _ h1 ⟨b1, rfl, hg1, hb1, hx1⟩; refine WL.stepR (okE_box rfl) rfl rfl rfl ?_; rintro _ h2 ⟨b2, rfl, hg2, hb2, hx2⟩; have hb1' := hx2.obj hb1 nos; have hx := hx1.trans hx2; refine Go ?_; refine WC.sr ?_; refine Go ?_; refine Ld ?_; refine Go ?_; refine Ld ?_; refine Go ?_; refine Ld ?_; refine WL.step (ok_buildF (vs := [_, _, _]) (cs := [_, _, _]) (fun | [a0, a1, a2] => [a0, a1, a2] | _ => []) rfl rfl (by kernel_rfl)) rfl rfl rfl ?_; refine Go ?_; refine Ld ?_; refine Go ?_; refine Ld ?_; refine Go ?_; refine Ld ?_; refine WL.step (ok_buildF (vs := [_, _, _]) (cs := [_, _, _]) (fun | [a0, a1, a2] => [a0, a1, a2] | _ => []) rfl rfl (by kernel_rfl)) rfl rfl rfl ?_; refine WL.step (OkP.bool_t rfl (ok_eqlA (us := [t1, n1, v1]) (vs := [t1, n1, v1]) Tryz.underlying204 (show Tryz.prog.info? 9 = some Tryz.t9 by kernel_rfl) Tryz.underlying9 (by kernel_rfl) (by kernel_rfl) (by kernel_rfl) rfl rfl rfl rfl)) rfl rfl rfl ?_; refine Go ?_; refine Gs [(2, _), (3, _), (5, _)] ?_; refine WC.sr ?_; refine Go ?_; refine Ld ?_; refine Go ?_; refine Ld ?_; refine Go ?_; refine goP 28 ?_ TT.mk; refine Gg ?_; refine Ld ?_; refine Gg ?_; refine Ld ?_; refine Gg ?_; refine Go ?_; refine goP 35 ?_ TT.mk; refine Gg ?_; refine Ld ?_; refine Gg ?_; refine Ld ?_; refine Gg ?_; refine Go ?_; refine goP 42 ?_ TT.mk; refine Gg ?_; refine Ld ?_; refine Gg ?_; refine Ld ?_; refine Gg ?_; refine Go ?_; refine Gs [(2, _), (3, _), (5, _), (6, _)] ?_; refine WC.sr ?_; refine Go ?_; refine Ld ?_; refine Go ?_; refine Ld ?_; refine WL.call (vs := [_, _]) rfl (fun a w => Tryz.call165 a w) rfl ((equal_int _ _ (ao.ext0 hx) (bo.ext0 hx) hlo).as (congrArg Value.bool (decide_eq_true rfl))) rfl rfl rfl ?_; rintro _ hz ⟨rfl, _⟩; subst hz; refine Go ?_; refine goP 54 ?_ TT.mk; refine Gg ?_; refine Ld ?_; refine Gg ?_; refine Ld ?_; refine WL.call (vs := [_, _]) rfl (fun a w => Tryz.call166 a w) rfl (equal_col _ (ac.ext0 hx) (bc.ext0 hx) hlc) rfl rfl rfl ?_; rintro _ hz ⟨rfl, _⟩; subst hz; refine Go ?_; refine goP 61 ?_ TT.mk; refine Gg ?_; refine Ld ?_; refine Gg ?_; refine Ld ?_; refine WL.call (vs := [_, _]) rfl (fun a w => Tryz.call167 a w) rfl (equal_fld _ (af.ext0 hx) (bf.ext0 hx) hlf) rfl rfl rfl ?_; rintro _ hz ⟨rfl, _⟩; subst hz; refine Go ?_; refine Gs [(2, _), (3, _), (5, _), (6, _), (7, _)] ?_; refine WC.sr ?_; refine Go ?_; refine goP 69 ?_ TT.mk; refine Gg ?_; refine Go ?_; refine goP 72 ?_ TT.mk; refine Gg ?_; refine Go ?_; refine goP 75 ?_ TT.mk; refine Gg ?_; refine Ld ?_; refine Gg ?_; refine Ld ?_; refine WL.call (vs := [_, _, _]) rfl (fun a w => Tryz.call168 a w) rfl (equalF_cel _ _ (ar.ext0 hx) (br.ext0 hx) er) rfl rfl rfl ?_; rintro _ h3 ⟨rfl, hx3⟩; refine Go ?_; refine Gs [(4, _)] ?_; refine Gt ?_; exact ⟨rfl, hx.trans hx3⟩)
end Go.Proofs.YtggmocdbfbhklaaGreat


/-
  back.Check, of messages that may be: the fields of a kind; all of it.
-/
namespace Go.Proofs.YtggmocdbfbhklaaGreat
open Go Go.RK

def zB (k : Int) : Bk := ⟨k, 0, [], [], [], 0, 0, .slice none 0 0, [], .slice none 0 0, [], .slice none 0 0, [], .slice none 0 0, []⟩
/-- A message with no fields but those that its body has. -/
def ofB (b : Bk) : Bk :=
  if b.kind = 83 then { zB b.kind with name := b.name, value := b.value }
  else if b.kind = 75 then { zB b.kind with n := b.n, m := b.m }
  else if b.kind = 90 then { zB b.kind with status := b.status }
  else if b.kind = 67 then { zB b.kind with tag := b.tag }
  else if b.kind = 68 then { zB b.kind with vr := b.vr, row := b.row }
  else if b.kind = 84 then { zB b.kind with vc := b.vc, cols := b.cols }
  else if b.kind = 116 then { zB b.kind with vo := b.vo, oids := b.oids }
  else if b.kind = 69 ∨ b.kind = 78 then { zB b.kind with vf := b.vf, fields := b.fields }
  else zB b.kind
theorem cels_no (h : Heap) : Cels h (.slice none 0 0) [] := ⟨Rd.nil _ _, ⟨by simp, _, _, rfl, by decide⟩, by simp⟩
theorem zB_ok (h : Heap) (k : Int) : (zB k).ok h := ⟨⟨Rd.nil _ _, by simp [zB]⟩, ⟨Rd.nil _ _, by simp [zB]⟩, cels_no h, ⟨Rd.nil _ _, by simp [zB]⟩⟩
theorem ofB_ok {h : Heap} {b : Bk} (k : b.ok h) : (ofB b).ok h := by
  obtain ⟨k1, k2, k3, k4⟩ := k
  obtain ⟨z1, z2, z3, z4⟩ := zB_ok h b.kind
  unfold ofB
  repeat' split
  all_goals first | exact ⟨z1, z2, z3, z4⟩ | exact ⟨z1, z2, k3, z4⟩ | exact ⟨z1, k2, z3, z4⟩ | exact ⟨k1, z2, z3, z4⟩ | exact ⟨z1, z2, z3, k4⟩
set_option maxHeartbeats 4000000 in
set_option maxRecDepth 100000 in
theorem of_back {h : Heap} (b : Bk) (hb : b.ok h) : CallsH Tryz.prog 155 ⟨[.agg ⟨b.cells⟩]⟩ h fun u h' => u = .agg ⟨(ofB b).cells⟩ ∧ Ext No h h' := by
  obtain ⟨k, st, t, n, v, x, y, vo, lo, vc, lc, vr, lr, vf, lf⟩ := b
  obtain ⟨⟨ho, _⟩, ⟨hc, _⟩, hr, hf, _⟩ := hb
  simp only at ho hc hr hf
  obtain ⟨A1, c1, rfl, _⟩ := id ho
  obtain ⟨A2, c2, rfl, _⟩ := id hc
  obtain ⟨_, ⟨_, A3, c3, rfl, _⟩, _⟩ := id hr
  obtain ⟨A4, c4, rfl, _⟩ := id hf
  dsimp only [Bk.cells]
  refine calls [(0, _)] Tryz.func155 rfl Tryz.ntmps155 rfl ⟨rfl, trivial⟩ ?_
  all_goals (refine WC.sr ?_; refine WL.stepR (okE_box rfl) rfl rfl rfl ?_; rintro _ h1 ⟨b1, rfl, hg1, hb1, hx1⟩; refine WL.stepR (okE_alloc (fun w => Tryz.zeroValue86 w)) rfl rfl rfl ?_; rintro _ h2 ⟨b2, rfl, hg2, hb2, hx2⟩; have hb1a := hx2.obj hb1 nos; refine Gn ?_; refine WC.sr ?_; refine Go ?_; refine Ld ?_; refine WL.step (ok_buildF (vs := [_]) (cs := [_, _, _, _, _, _, _, _, _, _, _]) (fun | [a0] => [a0, (.int .u8 0), (St []), (St []), (St []), (.int .i64 0), (.int .i64 0), (.slice none 0 0), (.slice none 0 0), (.slice none 0 0), (.slice none 0 0)] | _ => []) rfl rfl (by kernel_rfl)) rfl rfl rfl ?_; refine WL.stepR (okE_alloc (fun w => Tryz.zeroValue86 w)) rfl rfl rfl ?_; rintro _ h3 ⟨b3, rfl, hg3, hb3, hx3⟩; have hb1b := hx3.obj hb1a nos; have hb2b := hx3.obj hb2 nos; (have n13 : ¬ b1 = b3 := by have := lt_of_some hb1a; omega); (have n23 : ¬ b2 = b3 := by have := lt_of_some hb2; omega); refine WL.stepR0 (okE_storeW (fun w => Tryz.sizeOf86 w) rfl rfl rfl (by assumption) rfl (by simp [Value.oneCell'])) rfl rfl ?_; rintro _ h4 ⟨hb4, hx4⟩; have hb1c := hx4.obj hb1b n13; have hb2c := hx4.obj hb2b n23; have hX4 : Ext No h h4 := ((hx1.trans hx2).trans hx3).trans' hx4 (fun q hq e => by have := hx1.size; have := hx2.size; omega); refine Gn ?_; refine Gs [(1, _), (2, _), (3, _)] ?_; refine WC.seq ?_; refine WC.sr ?_; refine Go ?_; refine Ld ?_; refine Gn ?_; refine WC.block ?_; refine WC.sr ?_; refine Go ?_; refine goC 1 2 (Hb.mk fun hb => ?_) (Hb.mk fun hb => ?_))
  all_goals (first | (fail_if_success refine goB 1 ?_) | (
  refine goB 1 ?_
  all_goals (refine WC.drawH (fun h' => Ext (fun q => q = b3) h4 h') 7 8 rfl fol ?_; refine WH.tk 0 rfl (fun hq hC => ok_fieldAddr rfl Tryz.underlying86 rfl (fun w => Tryz.sizeOf9 w)) rfl rfl rfl ?_ (hC := (by first | exact Ext.refl _ _ | assumption | exact hx5.trans hx6)); refine WH.tk 1 rfl (fun hq hC => ok_load (fun w => Tryz.isAgg9 w) rfl (by first | exact hC.cell (by first | exact cell_blk hb1c rfl | assumption | exact cell_blk (by assumption) rfl) n13)) rfl rfl rfl ?_ (hC := (by first | exact Ext.refl _ _ | assumption | exact hx5.trans hx6)); refine WH.tk 2 rfl (fun hq hC => ok_fieldAddr rfl Tryz.underlying86 rfl (fun w => Tryz.sizeOf9 w)) rfl rfl rfl ?_ (hC := (by first | exact Ext.refl _ _ | assumption | exact hx5.trans hx6)); refine WH.tk 3 rfl (fun hq hC => ok_load (fun w => Tryz.isAgg9 w) rfl (by first | exact hC.cell (by first | exact cell_blk hb1c rfl | assumption | exact cell_blk (by assumption) rfl) n13)) rfl rfl rfl ?_ (hC := (by first | exact Ext.refl _ _ | assumption | exact hx5.trans hx6)); refine WH.tk 4 rfl (fun hq hC => ok_fieldAddr rfl Tryz.underlying86 rfl (fun w => Tryz.sizeOf9 w)) rfl rfl rfl ?_ (hC := (by first | exact Ext.refl _ _ | assumption | exact hx5.trans hx6)); refine WH.one 5 (by kernel_rfl) ?_; refine Comes1.run0 rfl (okE_store (fun w => Tryz.sizeOf9 w) rfl rfl (by assumption) (Nat.le_of_ble_eq_true rfl) rfl rfl) rfl rfl ?_ (fun _ => by kernel_rfl); rintro _ h5 ⟨hb5, hx5⟩; refine ⟨fun _ => hx5, ?_⟩; refine WH.tk 6 rfl (fun hq hC => ok_fieldAddr rfl Tryz.underlying86 rfl (fun w => Tryz.sizeOf9 w)) rfl rfl rfl ?_ (hC := (by first | exact Ext.refl _ _ | assumption | exact hx5.trans hx6)); refine WH.one 7 (by kernel_rfl) ?_; refine Comes1.run0 rfl (okE_store (fun w => Tryz.sizeOf9 w) rfl rfl (by assumption) (Nat.le_of_ble_eq_true rfl) rfl rfl) rfl rfl ?_ (fun _ => by kernel_rfl); rintro _ h6 ⟨hb6, hx6⟩; refine ⟨fun _ => hx5.trans hx6, ?_⟩; have hE := hx5.trans hx6; have hb2z := hE.obj hb2c n23; refine WH.done (by kernel_rfl) ?_)
  skip))
  all_goals (first | (fail_if_success refine goB 2 ?_) | (
  refine goB 2 ?_
  all_goals (refine WC.sr ?_; refine Go ?_; refine Gs [(1, _), (2, _), (3, _), (8, _), (17, _)] ?_; refine goC 3 4 (Hb.mk fun hb => ?_) (Hb.mk fun hb => ?_))
  all_goals (first | (fail_if_success refine goB 3 ?_) | (
  refine goB 3 ?_
  all_goals (refine WC.drawH (fun h' => Ext (fun q => q = b3) h4 h') 7 8 rfl fol ?_; refine WH.tk 0 rfl (fun hq hC => ok_fieldAddr rfl Tryz.underlying86 rfl (fun w => Tryz.sizeOf3 w)) rfl rfl rfl ?_ (hC := (by first | exact Ext.refl _ _ | assumption | exact hx5.trans hx6)); refine WH.tk 1 rfl (fun hq hC => ok_load (fun w => Tryz.isAgg3 w) rfl (by first | exact hC.cell (by first | exact cell_blk hb1c rfl | assumption | exact cell_blk (by assumption) rfl) n13)) rfl rfl rfl ?_ (hC := (by first | exact Ext.refl _ _ | assumption | exact hx5.trans hx6)); refine WH.tk 2 rfl (fun hq hC => ok_fieldAddr rfl Tryz.underlying86 rfl (fun w => Tryz.sizeOf3 w)) rfl rfl rfl ?_ (hC := (by first | exact Ext.refl _ _ | assumption | exact hx5.trans hx6)); refine WH.tk 3 rfl (fun hq hC => ok_load (fun w => Tryz.isAgg3 w) rfl (by first | exact hC.cell (by first | exact cell_blk hb1c rfl | assumption | exact cell_blk (by assumption) rfl) n13)) rfl rfl rfl ?_ (hC := (by first | exact Ext.refl _ _ | assumption | exact hx5.trans hx6)); refine WH.tk 4 rfl (fun hq hC => ok_fieldAddr rfl Tryz.underlying86 rfl (fun w => Tryz.sizeOf3 w)) rfl rfl rfl ?_ (hC := (by first | exact Ext.refl _ _ | assumption | exact hx5.trans hx6)); refine WH.one 5 (by kernel_rfl) ?_; refine Comes1.run0 rfl (okE_store (fun w => Tryz.sizeOf3 w) rfl rfl (by assumption) (Nat.le_of_ble_eq_true rfl) rfl rfl) rfl rfl ?_ (fun _ => by kernel_rfl); rintro _ h5 ⟨hb5, hx5⟩; refine ⟨fun _ => hx5, ?_⟩; refine WH.tk 6 rfl (fun hq hC => ok_fieldAddr rfl Tryz.underlying86 rfl (fun w => Tryz.sizeOf3 w)) rfl rfl rfl ?_ (hC := (by first | exact Ext.refl _ _ | assumption | exact hx5.trans hx6)); refine WH.one 7 (by kernel_rfl) ?_; refine Comes1.run0 rfl (okE_store (fun w => Tryz.sizeOf3 w) rfl rfl (by assumption) (Nat.le_of_ble_eq_true rfl) rfl rfl) rfl rfl ?_ (fun _ => by kernel_rfl); rintro _ h6 ⟨hb6, hx6⟩; refine ⟨fun _ => hx5.trans hx6, ?_⟩; have hE := hx5.trans hx6; have hb2z := hE.obj hb2c n23; refine WH.done (by kernel_rfl) ?_)
  skip))
  all_goals (first | (fail_if_success refine goB 4 ?_) | (
  refine goB 4 ?_
  all_goals (refine WC.sr ?_; refine Go ?_; refine goC 5 6 (Hb.mk fun hb => ?_) (Hb.mk fun hb => ?_))
  all_goals (first | (fail_if_success refine goB 5 ?_) | (
  refine goB 5 ?_
  all_goals (refine WC.region ?_; refine Go ?_; refine Ld ?_; refine Go ?_; refine WL.stepR0 (okE_store (fun w => Tryz.sizeOf5 w) rfl rfl (by assumption) (Nat.le_of_ble_eq_true rfl) rfl rfl) rfl rfl ?_; rintro _ h5 ⟨hb5, hE⟩; have hb2z := hE.obj hb2c n23; refine Gn ?_)
  skip))
  all_goals (first | (fail_if_success refine goB 6 ?_) | (
  refine goB 6 ?_
  all_goals (refine WC.sr ?_; refine Go ?_; refine Gs [(1, _), (2, _), (3, _), (8, _), (30, _)] ?_; refine goC 7 8 (Hb.mk fun hb => ?_) (Hb.mk fun hb => ?_))
  all_goals (first | (fail_if_success refine goB 7 ?_) | (
  refine goB 7 ?_
  all_goals (refine WC.region ?_; refine Go ?_; refine Ld ?_; refine Go ?_; refine WL.stepR0 (okE_store (fun w => Tryz.sizeOf9 w) rfl rfl (by assumption) (Nat.le_of_ble_eq_true rfl) rfl rfl) rfl rfl ?_; rintro _ h5 ⟨hb5, hE⟩; have hb2z := hE.obj hb2c n23; refine Gn ?_)
  skip))
  all_goals (first | (fail_if_success refine goB 8 ?_) | (
  refine goB 8 ?_
  all_goals (refine WC.sr ?_; refine Go ?_; refine goC 9 10 (Hb.mk fun hb => ?_) (Hb.mk fun hb => ?_))
  all_goals (first | (fail_if_success refine goB 9 ?_) | (
  refine goB 9 ?_
  all_goals (refine WC.region ?_; refine Go ?_; refine Ld ?_; refine Go ?_; refine WL.stepR0 (okE_store (fun w => Tryz.sizeOf25 w) rfl rfl (by assumption) (Nat.le_of_ble_eq_true rfl) rfl rfl) rfl rfl ?_; rintro _ h5 ⟨hb5, hE⟩; have hb2z := hE.obj hb2c n23; refine Gn ?_)
  skip))
  all_goals (first | (fail_if_success refine goB 10 ?_) | (
  refine goB 10 ?_
  all_goals (refine WC.sr ?_; refine Go ?_; refine Gs [(1, _), (2, _), (3, _), (8, _), (40, _)] ?_; refine goC 11 12 (Hb.mk fun hb => ?_) (Hb.mk fun hb => ?_))
  all_goals (first | (fail_if_success refine goB 11 ?_) | (
  refine goB 11 ?_
  all_goals (refine WC.region ?_; refine Go ?_; refine Ld ?_; refine Go ?_; refine WL.stepR0 (okE_store (fun w => Tryz.sizeOf83 w) rfl rfl (by assumption) (Nat.le_of_ble_eq_true rfl) rfl rfl) rfl rfl ?_; rintro _ h5 ⟨hb5, hE⟩; have hb2z := hE.obj hb2c n23; refine Gn ?_)
  skip))
  all_goals (first | (fail_if_success refine goB 12 ?_) | (
  refine goB 12 ?_
  all_goals (refine WC.sr ?_; refine Go ?_; refine goC 13 14 (Hb.mk fun hb => ?_) (Hb.mk fun hb => ?_))
  all_goals (first | (fail_if_success refine goB 13 ?_) | (
  refine goB 13 ?_
  all_goals (refine WC.region ?_; refine Go ?_; refine Ld ?_; refine Go ?_; refine WL.stepR0 (okE_store (fun w => Tryz.sizeOf24 w) rfl rfl (by assumption) (Nat.le_of_ble_eq_true rfl) rfl rfl) rfl rfl ?_; rintro _ h5 ⟨hb5, hE⟩; have hb2z := hE.obj hb2c n23; refine Gn ?_)
  skip))
  all_goals (first | (fail_if_success refine goB 14 ?_) | (
  refine goB 14 ?_
  all_goals (refine WC.seq ?_; refine WC.sr ?_; refine Go ?_; refine Gs [(1, _), (2, _), (3, _), (8, _), (50, _)] ?_; refine goC 15 16 (Hb.mk fun hb => ?_) (Hb.mk fun hb => ?_))
  all_goals (first | (fail_if_success refine goB 15 ?_) | (
  refine goB 15 ?_
  all_goals (refine WC.skip ?_)
  skip))
  all_goals (first | (fail_if_success refine goB 16 ?_) | (
  refine goB 16 ?_
  all_goals (refine WC.region ?_; refine Go ?_)
  skip))
  all_goals (refine Gn ?_; refine goC 17 18 (Hb.mk fun hb => ?_) (Hb.mk fun hb => ?_))
  all_goals (first | (fail_if_success refine goB 17 ?_) | (
  refine goB 17 ?_
  all_goals (refine WC.region ?_; refine Go ?_; refine Ld ?_; refine Go ?_; refine WL.stepR0 (okE_store (fun w => Tryz.sizeOf84 w) rfl rfl (by assumption) (Nat.le_of_ble_eq_true rfl) rfl rfl) rfl rfl ?_; rintro _ h5 ⟨hb5, hE⟩; have hb2z := hE.obj hb2c n23; refine Gn ?_)
  skip))
  all_goals (first | (fail_if_success refine goB 18 ?_) | (
  refine goB 18 ?_
  all_goals (refine WC.skip ?_)
  skip))
  skip))
  skip))
  skip))
  skip))
  skip))
  skip))
  skip))
  all_goals (refine Gn ?_; refine WC.sr ?_; refine WL.step (ok_loadN (fun w => Tryz.isAgg86 w) (fun w => Tryz.sizeOf86 w) rfl rfl (by exact (by first | exact At.of_block hb6 | exact At.of_block hb5 | exact At.of_block hb4))) rfl rfl rfl ?_; refine WL.stepR0 (okE_storeW (fun w => Tryz.sizeOf86 w) rfl rfl rfl (by first | exact hb2z | exact hb2c) rfl (by simp [Value.oneCell'])) rfl rfl ?_; rintro _ h9 ⟨hb9, hx9⟩; refine Gn ?_; refine Gs [(2, _)] ?_; refine WC.ret ?_; repeat' (with_reducible first | refine thenP_r ?_ | refine blockP_r ?_))
  all_goals (refine retP_1 _ ⟨⟨_, rfl, ld_blk (fun w => Tryz.isAgg86 w) (fun w => Tryz.sizeOf86 w) (by assumption) rfl⟩, trivial⟩ ?_)
  all_goals (have hs1 := hx1.size
             have hs2 := hx2.size
             refine ⟨?_, by first | exact (hX4.trans' hE (fun q hq e => by omega)).trans' hx9 (fun q hq e => by omega) | exact hX4.trans' hx9 (fun q hq e => by omega)⟩
             first
              | (exfalso; omega)
              | (simp only [ofB, if_pos, *]; rfl)
              | (simp [ofB, zB, Bk.cells, *]; done))
/-! ### Check -/
def kindsB : List UInt8 := [82, 83, 75, 90, 49, 50, 51, 110, 115, 73, 67, 68, 84, 116, 69, 78]
set_option maxHeartbeats 2000000 in
set_option maxRecDepth 100000 in
theorem known_back {h : Heap} (k : UInt8) (hk : kindsB.contains k = true) : CallsH Tryz.prog 143 ⟨[By k]⟩ h fun u h' => u = .bool true ∧ Ext No h h' := by
  have e1 := Lib.contains_iff_indexByte [82, 83, 75, 90, 49, 50, 51, 110, 115, 73, 67, 68, 84, 116, 69, 78] k
  rw [show ([82, 83, 75, 90, 49, 50, 51, 110, 115, 73, 67, 68, 84, 116, 69, 78] : List UInt8).contains k = true from hk] at e1
  refine calls [(0, _)] Tryz.func143 rfl Tryz.ntmps143 rfl ⟨rfl, trivial⟩ ?_
  all_goals (refine WC.sr ?_; refine Go ?_; refine WC.sr ?_; refine WL.stepR (okE_buildSlice (vs := [_, _, _, _, _, _, _, _, _, _, _, _, _, _, _, _]) (cs := [_, _, _, _, _, _, _, _, _, _, _, _, _, _, _, _]) (fun | [a0, a1, a2, a3, a4, a5, a6, a7, a8, a9, a10, a11, a12, a13, a14, a15] => [a0, a1, a2, a3, a4, a5, a6, a7, a8, a9, a10, a11, a12, a13, a14, a15] | _ => []) Tryz.underlying42 rfl rfl (by kernel_rfl)) rfl rfl rfl ?_; rintro _ h1 ⟨b1, rfl, hg1, hb1, hx1⟩; refine WL.stepR (okE_convSS Tryz.underlying42 Tryz.underlying5 rfl (by assumption)) rfl rfl rfl ?_; rintro _ h2 ⟨rfl, ⟨z2, hb2⟩, hx2⟩; refine Go ?_; refine WL.call (vs := [_, _]) rfl (fun a w => Tryz.call76 a w) rfl (indexByte_bys [82, 83, 75, 90, 49, 50, 51, 110, 115, 73, 67, 68, 84, 116, 69, 78] k (rd_blk hb2 rfl) (by simp)) rfl rfl rfl ?_; rintro _ hz ⟨rfl, _⟩; subst hz; refine WL.step (OkP.bool_t (of_decide_eq_true e1.symm) (ok_geq rfl rfl)) rfl rfl rfl ?_; refine Go ?_; refine Gs [(2, _)] ?_; refine Gt ?_; exact ⟨rfl, hx1.trans' hx2 (fun q hq e => by omega)⟩)
def Bk.stOk (b : Bk) : Prop := b.kind ≠ 90 ∨ b.status = 73 ∨ b.status = 84 ∨ b.status = 69
set_option maxHeartbeats 2000000 in
set_option maxRecDepth 100000 in
theorem status_ok {h : Heap} (b : Bk) (hb : b.ok h) (hs : b.stOk) : CallsH Tryz.prog 153 ⟨[.agg ⟨b.cells⟩]⟩ h fun u h' => u = .bool true ∧ Ext No h h' := by
  obtain ⟨k, st, t, n, v, x, y, vo, lo, vc, lc, vr, lr, vf, lf⟩ := b
  simp only [Bk.stOk] at hs
  dsimp only [Bk.cells]
  by_cases hk : k = 90
  · subst hk
    simp only [ne_eq, not_true_eq_false, false_or] at hs
    rcases hs with rfl | rfl | rfl
    all_goals
      refine calls [(0, _)] Tryz.func153 rfl Tryz.ntmps153 rfl ⟨rfl, trivial⟩ ?_
      all_goals (refine WC.sr ?_; refine WL.stepR (okE_box rfl) rfl rfl rfl ?_; rintro _ h1 ⟨b1, rfl, hg1, hb1, hx1⟩; refine Go ?_; refine WC.sr ?_; refine Go ?_; refine Ld ?_; refine Go ?_; refine goP 6 ?_ TT.mk; refine Gg ?_; refine Ld ?_; refine Gg ?_; refine Go ?_; refine goP 11 ?_ TT.mk; refine Gg ?_; first | (refine WL.pass rfl rfl rfl ?_) | (refine Ld ?_))
      all_goals (refine Gg ?_; refine Go ?_; refine goP 16 ?_ TT.mk; refine Gg ?_; first | (refine WL.pass rfl rfl rfl ?_) | (refine Ld ?_))
      all_goals (refine Gg ?_; refine Go ?_; refine Gs [(2, _)] ?_; refine Gt ?_; exact ⟨rfl, hx1⟩)
  ·
    refine calls [(0, _)] Tryz.func153 rfl Tryz.ntmps153 rfl ⟨rfl, trivial⟩ ?_
    all_goals (refine WC.sr ?_; refine WL.stepR (okE_box rfl) rfl rfl rfl ?_; rintro _ h1 ⟨b1, rfl, hg1, hb1, hx1⟩; refine Go ?_; refine WC.sr ?_; refine Go ?_; refine Ld ?_; refine Go ?_; refine goP 6 ?_ TT.mk; refine Gg ?_; refine WL.pass rfl rfl rfl ?_; refine Gg ?_; refine Go ?_; refine goP 11 ?_ TT.mk; refine Gg ?_; refine WL.pass rfl rfl rfl ?_; refine Gg ?_; refine Go ?_; refine goP 16 ?_ TT.mk; refine Gg ?_; refine WL.pass rfl rfl rfl ?_; refine Gg ?_; refine Go ?_; refine Gs [(2, _)] ?_; refine Gt ?_; exact ⟨rfl, hx1⟩)
/-- A message that may be. -/
structure Bk.may (b : Bk) : Prop where
  kind : ∃ k : UInt8, Value.int .u8 b.kind = By k ∧ kindsB.contains k = true
  tag : cleanB b.tag = true
  name : cleanB b.name = true
  value : cleanB b.value = true
  cols : b.cols.length ≤ 65535 ∧ ∀ c ∈ b.cols, c.okB
  fields : b.fields.length ≤ 65535 ∧ ∀ f ∈ b.fields, f.okB
  row : b.row.length ≤ 65535 ∧ ∀ c ∈ b.row, c.okB
  oids : b.oids.length ≤ 65535 ∧ ∀ n ∈ b.oids, 0 ≤ n ∧ n ≤ 4294967295
  n : 0 ≤ b.n ∧ b.n ≤ 4294967295
  m : 0 ≤ b.m ∧ b.m ≤ 4294967295
  st : b.stOk
  own : (ofB b).pl = b.pl
set_option maxHeartbeats 4000000 in
set_option maxRecDepth 100000 in
theorem check_back {h : Heap} (b : Bk) (hb : b.ok h) (hm : b.may) : CallsH Tryz.prog 136 ⟨[.agg ⟨b.cells⟩]⟩ h fun u h' => u = In 0 ∧ Ext No h h' := by
  have hof := fun {h' : Heap} (hx : Ext No h h') => of_back (h := h') b (hb.ext0 hx)
  have hst := fun {h' : Heap} (hx : Ext No h h') => status_ok (h := h') b (hb.ext0 hx) hm.st
  have hsa := fun {h' : Heap} (hx : Ext No h h') => same_back (h := h') b (ofB b) (hb.ext0 hx) (ofB_ok (hb.ext0 hx)) hm.own.symm
  obtain ⟨⟨k8, hk8, hkc⟩, h1, h2, h3, h4, h5, h6, h7, h8, h9, _, _⟩ := hm
  generalize ofB b = ob at hof hsa
  obtain ⟨ho, hc, hr, hf⟩ := hb
  obtain ⟨k, st, t, n, v, x, y, vo, lo, vc, lc, vr, lr, vf, lf⟩ := b
  simp only at hk8 h1 h2 h3 h4 h5 h6 h7 h8 h9 ho hc hr hf
  dsimp only [Bk.cells] at hof hst hsa ⊢
  have hkn : ∀ {h : Heap}, CallsH Tryz.prog 143 ⟨[.int .u8 k]⟩ h fun u h' => u = .bool true ∧ Ext No h h' := by rw [hk8]; exact known_back k8 hkc
  refine calls [(0, _)] Tryz.func136 rfl Tryz.ntmps136 rfl ⟨rfl, trivial⟩ ?_
  all_goals (refine WC.sr ?_; refine WL.stepR (okE_box rfl) rfl rfl rfl ?_; rintro _ g1 ⟨b1, rfl, hg1, hb1, hx1⟩; refine Go ?_; refine WC.seq ?_; refine WC.sr ?_; refine Go ?_; refine Ld ?_; refine WL.call (vs := [_]) rfl (fun a w => Tryz.call143 a w) rfl (hkn) rfl rfl rfl ?_; rintro _ g2 ⟨rfl, hx2⟩; have hb2 := hx2.obj hb1 nos; have hX2 := hx1.trans hx2; refine Go ?_; refine Gs [(1, _), (8, _)] ?_; refine goC 1 2 ?_ TT.mk; refine goB 2 ?_; refine WC.skip ?_; refine Gn ?_; refine WC.sr ?_; refine Go ?_; refine Ld ?_; refine WL.call (vs := [_]) rfl (fun a w => Tryz.call144 a w) rfl ((clean_any t).as (congrArg Value.bool h1)) rfl rfl rfl ?_; rintro _ hz ⟨rfl, _⟩; subst hz; refine Go ?_; refine goP 12 ?_ TT.mk; refine Gg ?_; refine Ld ?_; refine WL.call (vs := [_]) rfl (fun a w => Tryz.call144 a w) rfl ((clean_any n).as (congrArg Value.bool h2)) rfl rfl rfl ?_; rintro _ hz ⟨rfl, _⟩; subst hz; refine Go ?_; refine goP 17 ?_ TT.mk; refine Gg ?_; refine Ld ?_; refine WL.call (vs := [_]) rfl (fun a w => Tryz.call144 a w) rfl ((clean_any v).as (congrArg Value.bool h3)) rfl rfl rfl ?_; rintro _ hz ⟨rfl, _⟩; subst hz; refine Go ?_; refine Gs [(1, _), (3, _)] ?_; refine WC.sr ?_; refine Go ?_; refine Ld ?_; refine WL.call (vs := [_, _]) rfl (fun a w => Tryz.call145 a w) rfl (every_col lc (hc.1.ext0 hX2) h4.1 (fun a w => Tryz.call146 a w) (fun c hc _ _ => column_ok c (h4.2 c hc))) rfl rfl rfl ?_; rintro _ g3 ⟨rfl, hx3⟩; have hb3 := hx3.obj hb2 nos; have hX3 := hX2.trans hx3; refine Go ?_; refine goP 25 ?_ TT.mk; refine Gg ?_; refine Ld ?_; refine WL.call (vs := [_, _]) rfl (fun a w => Tryz.call147 a w) rfl (every_fld lf (hf.1.ext0 hX3) h5.1 (fun a w => Tryz.call148 a w) (fun c hc _ _ => field_ok c (h5.2 c hc))) rfl rfl rfl ?_; rintro _ g4 ⟨rfl, hx4⟩; have hb4 := hx4.obj hb3 nos; have hX4 := hX3.trans hx4; refine Go ?_; refine goP 30 ?_ TT.mk; refine Gg ?_; refine Ld ?_; refine WL.call (vs := [_, _]) rfl (fun a w => Tryz.call149 a w) rfl (every_cel lr (hr.1.ext0 hX4) h6.1 (fun a w => Tryz.call150 a w) (fun c hc _ _ => cell_ok c (hr.2.2 c hc) (h6.2 c hc))) rfl rfl rfl ?_; rintro _ g5 ⟨rfl, hx5⟩; have hb5 := hx5.obj hb4 nos; have hX5 := hX4.trans hx5; refine Go ?_; refine goP 35 ?_ TT.mk; refine Gg ?_; refine Ld ?_; refine WL.call (vs := [_, _]) rfl (fun a w => Tryz.call151 a w) rfl (every_int lo (ho.1.ext0 hX5) h7.1 h7.2) rfl rfl rfl ?_; rintro _ g6 ⟨rfl, hx6⟩; have hb6 := hx6.obj hb5 nos; have hX6 := hX5.trans hx6; refine Go ?_; refine Gs [(1, _), (3, _), (4, _)] ?_; refine WC.seq ?_; refine WC.seq ?_; refine WC.drawH (fun h' => h'[b1]? = some (.cells ⟨[.int .u8 k, .int .u8 st, St t, St n, St v, In x, In y, vo, vc, vr, vf]⟩ 86 (0, 0))) 30 30 rfl fol ?_; refine WH.tk 0 rfl (fun hq hC => ok_move rfl) rfl rfl rfl ?_ (hC := (by first | exact hb6 | exact hb7 | exact hb8 | exact hb9)); refine WH.tk 1 rfl (fun hq hC => ok_not rfl) rfl rfl rfl ?_ (hC := (by first | exact hb6 | exact hb7 | exact hb8 | exact hb9)); refine WH.tk 2 rfl (fun hq hC => ok_move rfl) rfl rfl rfl ?_ (hC := (by first | exact hb6 | exact hb7 | exact hb8 | exact hb9)); try ((fail_if_success (refine WH.part 42 (b := true) rfl (fun _ => ?_) (fun _ => ?_))); (fail_if_success (refine WH.part 42 (b := false) rfl (fun _ => ?_) (fun _ => ?_))); (refine WH.part 42 rfl (fun hb => ?_) (fun hb => ?_))))
  all_goals (refine WH.tk 3 rfl (fun hq hC => ok_move rfl) rfl rfl rfl ?_ (hC := (by first | exact hb6 | exact hb7 | exact hb8 | exact hb9)); refine WH.tk 4 rfl (fun hq hC => ok_not rfl) rfl rfl rfl ?_ (hC := (by first | exact hb6 | exact hb7 | exact hb8 | exact hb9)); refine WH.tk 5 rfl (fun hq hC => ok_pick_f rfl rfl) rfl rfl rfl ?_ (hC := (by first | exact hb6 | exact hb7 | exact hb8 | exact hb9)); refine WH.tk 6 rfl (fun hq hC => ok_move rfl) rfl rfl rfl ?_ (hC := (by first | exact hb6 | exact hb7 | exact hb8 | exact hb9)); try ((fail_if_success (refine WH.part 46 (b := true) rfl (fun _ => ?_) (fun _ => ?_))); (fail_if_success (refine WH.part 46 (b := false) rfl (fun _ => ?_) (fun _ => ?_))); (refine WH.part 46 rfl (fun hb => ?_) (fun hb => ?_))))
  all_goals (refine WH.tk 7 rfl (fun hq hC => ok_fieldAddr rfl Tryz.underlying86 rfl (fun w => Tryz.sizeOf3 w)) rfl rfl rfl ?_ (hC := (by first | exact hb6 | exact hb7 | exact hb8 | exact hb9)); refine WH.tk 8 rfl (fun hq hC => ok_load (fun w => Tryz.isAgg3 w) rfl (cell_blk hC rfl)) rfl rfl rfl ?_ (hC := (by first | exact hb6 | exact hb7 | exact hb8 | exact hb9)); refine WH.one 9 (by kernel_rfl) ?_; refine Comes1.call (vs := [_]) rfl rfl (fun a w => Tryz.call152 a w) rfl (oid_ok x h8.1 h8.2) rfl rfl rfl ?_ (fun _ => by kernel_rfl); rintro _ hz ⟨rfl, _⟩; subst hz; refine ⟨fun _ => by first | assumption | trivial, ?_⟩; refine WH.tk 10 rfl (fun hq hC => ok_not rfl) rfl rfl rfl ?_ (hC := (by first | exact hb6 | exact hb7 | exact hb8 | exact hb9)); refine WH.tk 11 rfl (fun hq hC => ok_pick_f rfl rfl) rfl rfl rfl ?_ (hC := (by first | exact hb6 | exact hb7 | exact hb8 | exact hb9)); refine WH.tk 12 rfl (fun hq hC => ok_move rfl) rfl rfl rfl ?_ (hC := (by first | exact hb6 | exact hb7 | exact hb8 | exact hb9)); try ((fail_if_success (refine WH.part 52 (b := true) rfl (fun _ => ?_) (fun _ => ?_))); (fail_if_success (refine WH.part 52 (b := false) rfl (fun _ => ?_) (fun _ => ?_))); (refine WH.part 52 rfl (fun hb => ?_) (fun hb => ?_))))
  all_goals (refine WH.tk 13 rfl (fun hq hC => ok_fieldAddr rfl Tryz.underlying86 rfl (fun w => Tryz.sizeOf3 w)) rfl rfl rfl ?_ (hC := (by first | exact hb6 | exact hb7 | exact hb8 | exact hb9)); refine WH.tk 14 rfl (fun hq hC => ok_load (fun w => Tryz.isAgg3 w) rfl (cell_blk hC rfl)) rfl rfl rfl ?_ (hC := (by first | exact hb6 | exact hb7 | exact hb8 | exact hb9)); refine WH.one 15 (by kernel_rfl) ?_; refine Comes1.call (vs := [_]) rfl rfl (fun a w => Tryz.call152 a w) rfl (oid_ok y h9.1 h9.2) rfl rfl rfl ?_ (fun _ => by kernel_rfl); rintro _ hz ⟨rfl, _⟩; subst hz; refine ⟨fun _ => by first | assumption | trivial, ?_⟩; refine WH.tk 16 rfl (fun hq hC => ok_not rfl) rfl rfl rfl ?_ (hC := (by first | exact hb6 | exact hb7 | exact hb8 | exact hb9)); refine WH.tk 17 rfl (fun hq hC => ok_pick_f rfl rfl) rfl rfl rfl ?_ (hC := (by first | exact hb6 | exact hb7 | exact hb8 | exact hb9)); refine WH.tk 18 rfl (fun hq hC => ok_move rfl) rfl rfl rfl ?_ (hC := (by first | exact hb6 | exact hb7 | exact hb8 | exact hb9)); try ((fail_if_success (refine WH.part 58 (b := true) rfl (fun _ => ?_) (fun _ => ?_))); (fail_if_success (refine WH.part 58 (b := false) rfl (fun _ => ?_) (fun _ => ?_))); (refine WH.part 58 rfl (fun hb => ?_) (fun hb => ?_))))
  all_goals (refine WH.tk 19 rfl (fun hq hC => ok_loadN (fun w => Tryz.isAgg86 w) (fun w => Tryz.sizeOf86 w) rfl rfl (by exact At.of_block hC)) rfl rfl rfl ?_ (hC := (by first | exact hb6 | exact hb7 | exact hb8 | exact hb9)); refine WH.one 20 (by kernel_rfl) ?_; refine Comes1.call (vs := [_]) rfl rfl (fun a w => Tryz.call153 a w) rfl (hst hX6) rfl rfl rfl ?_ (fun _ => by kernel_rfl); rintro _ g7 ⟨rfl, hx7⟩; refine ⟨fun _ => hx7.obj hb6 nos, ?_⟩; have hb7 := hx7.obj hb6 nos; have hX7 := hX6.trans hx7; refine WH.tk 21 rfl (fun hq hC => ok_not rfl) rfl rfl rfl ?_ (hC := (by first | exact hb6 | exact hb7 | exact hb8 | exact hb9)); refine WH.tk 22 rfl (fun hq hC => ok_pick_f rfl rfl) rfl rfl rfl ?_ (hC := (by first | exact hb6 | exact hb7 | exact hb8 | exact hb9)); refine WH.tk 23 rfl (fun hq hC => ok_move rfl) rfl rfl rfl ?_ (hC := (by first | exact hb6 | exact hb7 | exact hb8 | exact hb9)); try ((fail_if_success (refine WH.part 63 (b := true) rfl (fun _ => ?_) (fun _ => ?_))); (fail_if_success (refine WH.part 63 (b := false) rfl (fun _ => ?_) (fun _ => ?_))); (refine WH.part 63 rfl (fun hb => ?_) (fun hb => ?_))))
  all_goals (refine WH.tk 24 rfl (fun hq hC => ok_loadN (fun w => Tryz.isAgg86 w) (fun w => Tryz.sizeOf86 w) rfl rfl (by exact At.of_block hC)) rfl rfl rfl ?_ (hC := (by first | exact hb6 | exact hb7 | exact hb8 | exact hb9)); refine WH.tk 25 rfl (fun hq hC => ok_loadN (fun w => Tryz.isAgg86 w) (fun w => Tryz.sizeOf86 w) rfl rfl (by exact At.of_block hC)) rfl rfl rfl ?_ (hC := (by first | exact hb6 | exact hb7 | exact hb8 | exact hb9)); refine WH.one 26 (by kernel_rfl) ?_; refine Comes1.call (vs := [_]) rfl rfl (fun a w => Tryz.call155 a w) rfl (hof hX7) rfl rfl rfl ?_ (fun _ => by kernel_rfl); rintro _ g8 ⟨rfl, hx8⟩; refine ⟨fun _ => hx8.obj hb7 nos, ?_⟩; have hb8 := hx8.obj hb7 nos; have hX8 := hX7.trans hx8; refine WH.one 27 (by kernel_rfl) ?_; refine Comes1.call (vs := [_, _]) rfl rfl (fun a w => Tryz.call154 a w) rfl (hsa hX8) rfl rfl rfl ?_ (fun _ => by kernel_rfl); rintro _ g9 ⟨rfl, hx9⟩; refine ⟨fun _ => hx9.obj hb8 nos, ?_⟩; have hb9 := hx9.obj hb8 nos; refine WH.tk 28 rfl (fun hq hC => ok_not rfl) rfl rfl rfl ?_ (hC := (by first | exact hb6 | exact hb7 | exact hb8 | exact hb9)); refine WH.tk 29 rfl (fun hq hC => ok_pick_f rfl rfl) rfl rfl rfl ?_ (hC := (by first | exact hb6 | exact hb7 | exact hb8 | exact hb9)); refine WH.done (by kernel_rfl) ?_; refine Gn ?_; refine Gs [(69, _)] ?_; refine goC 3 4 ?_ TT.mk; refine goB 4 ?_; refine WC.skip ?_; refine Gn ?_; refine WC.sr ?_; refine Go ?_; refine Gt ?_; exact ⟨rfl, hX8.trans hx9⟩)
end Go.Proofs.YtggmocdbfbhklaaGreat


/-
  REPLIES (layer 7): the bytes of a 3, as the code writes them.
-/
namespace Go.Proofs.YtggmocdbfbhklaaGreat
open Go Go.RK

def z3C : List Value := [.int .u8 51, .int .u8 0, St [], St [], St [], In 0, In 0, .slice none 0 0, .slice none 0 0, .slice none 0 0, .slice none 0 0]
theorem zB_okA (k : Int) (h : Heap) : (zB k).ok h := ⟨⟨Rd.nil _ _, by simp [zB, maxLen]⟩, ⟨Rd.nil _ _, by simp [zB, maxLen]⟩, ⟨Rd.nil _ _, ⟨by simp [zB], _, _, rfl, by decide⟩, by simp [zB]⟩, ⟨Rd.nil _ _, by simp [zB, maxLen]⟩⟩
theorem z3_may : (zB 51).may := ⟨⟨51, rfl, by decide⟩, by decide, by decide, by decide, ⟨by simp [zB], by simp [zB]⟩, ⟨by simp [zB], by simp [zB]⟩, ⟨by simp [zB], by simp [zB]⟩, ⟨by simp [zB], by simp [zB]⟩, by decide, by decide, .inl (by decide), by simp [ofB, zB]⟩
def three : List UInt8 := [51, 0, 0, 0, 4]
theorem three_fr : frB 51 [] = three := by decide
set_option maxHeartbeats 2000000 in
set_option maxRecDepth 100000 in
theorem enc3 {h : Heap} : CallsH Tryz.prog 117 ⟨[.agg ⟨z3C⟩]⟩ h fun u h' => u = .tuple ⟨[.agg ⟨[.int .u8 51, .slice none 0 0]⟩, In 0]⟩ ∧ Ext No h h' := by
  have kc := fun h' => check_back (h := h') (zB 51) (zB_okA _ _) z3_may
  dsimp only [Bk.cells, zB, z3C] at kc ⊢
  refine calls [(0, _)] Tryz.func117 rfl Tryz.ntmps117 rfl ⟨rfl, trivial⟩ ?_
  all_goals (refine WC.sr ?_; refine WL.stepR (okE_box rfl) rfl rfl rfl ?_; rintro _ h1 ⟨b1, rfl, hg1, hb1, hx1⟩; refine WL.stepR (okE_alloc (fun w => Tryz.zeroValue136 w)) rfl rfl rfl ?_; rintro _ h2 ⟨b2, rfl, hg2, hb2, hx2⟩; have hX2 := hx1.trans hx2; have hb12 := hx2.obj hb1 nos; refine Go ?_; refine WC.seq ?_; refine WC.sr ?_; refine WL.step (ok_loadN (fun w => Tryz.isAgg86 w) (fun w => Tryz.sizeOf86 w) rfl rfl (by exact At.of_block hb12)) rfl rfl rfl ?_; refine WL.call (vs := [_]) rfl (fun a w => Tryz.call136 a w) rfl (kc _) rfl rfl rfl ?_; rintro _ h3 ⟨rfl, hx3⟩; have hb13 := hx3.obj hb12 nos; have hb23 := hx3.obj hb2 nos; have hX3 := hX2.trans hx3; refine Go ?_; refine Gs [(1, _), (2, _), (4, _)] ?_; refine WC.sr ?_; refine Go ?_; refine goC 1 2 ?_ TT.mk; refine goB 2 ?_; refine WC.skip ?_; refine Gn ?_; refine WC.sr ?_; refine WL.step (ok_buildF (vs := []) (cs := [_]) (fun | [] => [(.slice none 0 0)] | _ => []) rfl rfl (by kernel_rfl)) rfl rfl rfl ?_; refine WL.stepR (okE_box rfl) rfl rfl rfl ?_; rintro _ h4 ⟨b5, rfl, hg5, hb5, hx4⟩; have hb14 := hx4.obj hb13 nos; have hb24 := hx4.obj hb23 nos; have l1 := lt_of_some hb13; have l2 := lt_of_some hb23; refine Go ?_; refine Gs [(1, _), (2, _), (5, _)] ?_; refine WC.seq ?_; refine WC.sr ?_; refine Go ?_; refine WL.ld rfl (by first | exact cell_blk hb14 rfl | assumption | exact cell_blk (by assumption) rfl) rfl rfl rfl ?_; refine Gn ?_; refine WC.block ?_; refine WC.sr ?_; refine Go ?_; refine goC 3 4 ?_ TT.mk; refine goB 4 ?_; refine WC.sr ?_; refine Go ?_; refine Gs [(1, _), (2, _), (5, _), (19, _), (24, _)] ?_; refine goC 5 6 ?_ TT.mk; refine goB 6 ?_; refine WC.sr ?_; refine Go ?_; refine goC 7 8 ?_ TT.mk; refine goB 8 ?_; refine WC.sr ?_; refine Go ?_; refine Gs [(1, _), (2, _), (5, _), (19, _), (44, _)] ?_; refine goC 9 10 ?_ TT.mk; refine goB 10 ?_; refine WC.sr ?_; refine Go ?_; refine goC 11 12 ?_ TT.mk; refine goB 12 ?_; refine WC.sr ?_; refine Go ?_; refine Gs [(1, _), (2, _), (5, _), (19, _), (58, _)] ?_; refine goC 13 14 ?_ TT.mk; refine goB 14 ?_; refine WC.sr ?_; refine Go ?_; refine goC 15 16 ?_ TT.mk; refine goB 16 ?_; refine WC.sr ?_; refine Go ?_; refine Gs [(1, _), (2, _), (5, _), (19, _), (82, _)] ?_; refine goC 19 20 ?_ TT.mk; refine goB 20 ?_; refine WC.seq ?_; refine WC.sr ?_; refine Go ?_; refine goC 23 24 ?_ TT.mk; refine goB 24 ?_; refine WC.region ?_; refine Go ?_; refine Gn ?_; refine goC 25 26 ?_ TT.mk; refine goB 26 ?_; refine WC.skip ?_; refine Gn ?_; refine WC.seq ?_; refine WC.drawH (fun h' => Ext No h4 h') 7 9 rfl fol ?_; refine WH.tk 0 rfl (fun hq hC => ok_fieldAddr rfl Tryz.underlying86 rfl (fun w => Tryz.sizeOf5 w)) rfl rfl rfl ?_; refine WH.tk 1 rfl (fun hq hC => ok_load (fun w => Tryz.isAgg5 w) rfl (by first | exact hC.cell (by first | exact cell_blk hb14 rfl | assumption | exact cell_blk (by assumption) rfl) nos)) rfl rfl rfl ?_; refine WH.tk 2 rfl (fun hq hC => ok_move rfl) rfl rfl rfl ?_; refine WH.tk 3 rfl (fun hq hC => ok_nilCheck rfl) rfl rfl rfl ?_; refine WH.tk 4 rfl (fun hq hC => ok_fieldAddr rfl Tryz.underlying186 rfl (fun w => Tryz.sizeOf42 w)) rfl rfl rfl ?_; refine WH.tk 5 rfl (fun hq hC => ok_load (fun w => Tryz.isAgg42 w) rfl (by first | exact hC.cell (by first | exact cell_blk hb5 rfl | assumption | exact cell_blk (by assumption) rfl) nos)) rfl rfl rfl ?_)
  all_goals (refine WH.tk 6 rfl (fun hq hC => ok_buildF (vs := [_, _]) (cs := [_, _]) (fun | [a0, a1] => [a0, a1] | _ => []) rfl rfl (by kernel_rfl)) rfl rfl rfl ?_; refine WH.one 7 (by kernel_rfl) ?_; refine Comes1.run0 rfl (okE_storeW (fun w => Tryz.sizeOf136 w) rfl rfl rfl hb24 rfl (by simp [Value.oneCell'])) rfl rfl ?_ (fun _ => by kernel_rfl); rintro _ h7 ⟨hb7, hx7⟩; refine ⟨fun e => (by cases e), ?_⟩; refine WH.one 8 (by kernel_rfl) ?_; refine Comes1.run rfl (OkP.r (ok_assign rfl)) rfl rfl rfl ?_ (fun _ => by kernel_rfl); rintro _ hz ⟨rfl, _⟩; subst hz; refine ⟨fun e => (by cases e), ?_⟩; refine WH.done (by kernel_rfl) ?_; refine Gn ?_; refine Gs [(2, _), (3, _)] ?_; refine WC.ret ?_; repeat' (with_reducible first | refine thenP_r ?_ | refine blockP_r ?_))
  all_goals (refine retP_2 _ _ ⟨⟨_, rfl, ld_blk (fun w => Tryz.isAgg136 w) (fun w => Tryz.sizeOf136 w) hb7 rfl⟩, rfl, trivial⟩ ?_; exact ⟨rfl, (hX3.trans hx4).trans' hx7 (fun q hq e => by have := hx1.size; omega)⟩)
set_option maxHeartbeats 2000000 in
set_option maxRecDepth 100000 in
theorem three_code {h : Heap} {p : Nat} (hb0 : h[p]? = some (.cells ⟨z3C⟩ 86 (0, 0))) : CallsH Tryz.prog 94 ⟨[.slice (some ⟨p, 0, none⟩) 1 1]⟩ h fun u h' => Own h' u 5 1 three.length (bys three) ∧ Ext No h h' ∧ ∀ k, u.ownBlock = some k → h.size ≤ k := by
  unfold z3C at hb0
  have ke := fun h' => enc3 (h := h')
  unfold z3C at ke
  refine calls [(0, _)] Tryz.func94 rfl Tryz.ntmps94 rfl ⟨rfl, trivial⟩ ?_
  all_goals (refine WC.sr ?_; refine Go ?_; refine WC.sr ?_; refine Go ?_; refine WC.seq ?_; refine WC.sr ?_; refine Go ?_; refine WC.block ?_)
  -- loop 0: slots that turn [3, 10], that stay [8, 9]
  all_goals (refine WC.loopG (X := Nat × Value) (fun x => ([(10, In (x.1 : Int)), (3, x.2)] : Fr)) [(8, _), (9, _)] (fun y h' => Ext No h h' ∧ ((y.1 = 0 ∧ y.2 = .slice none 0 0) ∨ (y.1 = 1 ∧ Own h' y.2 5 1 three.length (bys three) ∧ ∀ k, y.2.ownBlock = some k → h.size ≤ k))) (fun y => 1 - y.1) ((0, .slice none 0 0)) ⟨rfl, rfl, rfl, rfl, trivial⟩ (by exact ⟨.refl _ _, .inl ⟨rfl, rfl⟩⟩) ?_; rintro ⟨k, w⟩ h1 ⟨hx1, hI⟩; dsimp only at hI)
  all_goals (refine WC.sub [(3, _), (10, _), (8, _), (9, _)] ⟨rfl, rfl, rfl, rfl, trivial⟩ ?_; dsimp only)
  all_goals (refine WC.sr ?_; refine Go ?_; refine WC.seq ?_; refine goC 1 2 (Hb.mk fun hb => ?_) (Hb.mk fun hb => ?_))
  all_goals (first | (fail_if_success refine goB 1 ?_) | (
  refine goB 1 ?_
  all_goals (refine WC.skip ?_)
  skip))
  all_goals (first | (fail_if_success refine goB 2 ?_) | (
  refine goB 2 ?_
  all_goals (refine WC.exit ?_; repeat' (with_reducible first | refine thenP_x ?_ | refine blockP_miss rfl ?_ | refine blockP_hit ?_ | refine blockP_n ?_ | refine thenP_n ?_))
  all_goals (refine Br.out (i := 1000) ?_)
  skip))
  all_goals (refine Gn ?_; first | (refine Br.keep ?_) | (refine WC.seq ?_))
  all_goals (first | (refine Br.keep ?_) | (refine WC.block ?_))
  all_goals (first | (refine Br.keep ?_) | (refine WC.sr ?_))
  all_goals (first | (refine Br.keep ?_) | (obtain ⟨rfl, rfl⟩ : k = 0 ∧ w = .slice none 0 0 := by rcases hI with h | ⟨h, _⟩; exact h; exfalso; omega))
  all_goals (first | (refine Br.keep ?_) | (refine WL.step (ok_idxAddrA Tryz.underlying87 (fun w => Tryz.sizeOf86 w) rfl rfl rfl (by omega) (by first | rfl | assumption)) rfl rfl rfl ?_))
  all_goals (first | (refine Br.keep ?_) | (refine WL.step (ok_loadN (fun w => Tryz.isAgg86 w) (fun w => Tryz.sizeOf86 w) rfl rfl (by exact At.of_block (hx1.obj hb0 nos))) rfl rfl rfl ?_))
  all_goals (first
               | (refine Br.keep ?_)
               | (refine WL.stepR (okE_alloc (fun w => Tryz.zeroValue86 w)) rfl rfl rfl ?_
                  rintro _ h2 ⟨b2, rfl, hg2, hb2, hx2⟩))
  all_goals (first
               | (refine Br.keep ?_)
               | (refine WL.stepR0 (okE_storeW (fun w => Tryz.sizeOf86 w) rfl rfl rfl hb2 rfl (by simp [Value.oneCell'])) rfl rfl ?_
                  rintro _ h3 ⟨hb3, hx3⟩))
  all_goals (first | (refine Br.keep ?_) | (have hX3 := hx1.trans (hx2.trans' hx3 (fun q hq e => by omega))))
  all_goals (refine Gn ?_; first | (refine Br.keep ?_) | (refine WC.sr ?_))
  all_goals (first | (refine Br.keep ?_) | (refine WL.step (ok_loadN (fun w => Tryz.isAgg86 w) (fun w => Tryz.sizeOf86 w) rfl rfl (by exact At.of_block hb3)) rfl rfl rfl ?_))
  all_goals (first
               | (refine Br.keep ?_)
               | (refine WL.call (vs := [_]) rfl (fun a w => Tryz.call117 a w) rfl (ke _) rfl rfl rfl ?_
                  rintro _ h4 ⟨rfl, hx4⟩))
  all_goals (refine Go ?_)
  all_goals (first
               | (refine Br.keep ?_)
               | (refine WL.stepR (okE_alloc (fun w => Tryz.zeroValue136 w)) rfl rfl rfl ?_
                  rintro _ h5 ⟨b6, rfl, hg6, hb6, hx5⟩))
  all_goals (first
               | (refine Br.keep ?_)
               | (refine WL.stepR0 (okE_storeW (fun w => Tryz.sizeOf136 w) rfl rfl rfl hb6 rfl (by simp [Value.oneCell'])) rfl rfl ?_
                  rintro _ h6 ⟨hb66, hx6⟩))
  all_goals (first
               | (refine Br.keep ?_)
               | (have hX46 : Ext No h4 h6 := hx5.trans' hx6 (fun q hq e => by omega)
                  have hX6 := (hX3.trans hx4).trans hX46))
  all_goals (refine Go ?_; first | (refine Br.keep ?_) | (refine Gs [(3, _), (6, _), (7, _), (8, _), (9, _), (10, _)] ?_))
  all_goals (first | (refine Br.keep ?_) | (refine WC.seq ?_))
  all_goals (first | (refine Br.keep ?_) | (refine WC.sr ?_))
  all_goals (refine Go ?_; first | (refine Br.keep ?_) | (refine goC 3 4 ?_ TT.mk))
  all_goals (first | (fail_if_success refine goB 4 ?_) | (
  refine goB 4 ?_
  all_goals (refine WC.skip ?_)
  skip))
  all_goals (refine Gn ?_; first | (refine Br.keep ?_) | (refine WC.region ?_))
  all_goals (refine Go ?_; first | (refine Br.keep ?_) | (refine WL.step (ok_loadN (fun w => Tryz.isAgg136 w) (fun w => Tryz.sizeOf136 w) rfl rfl (by exact At.of_block hb66)) rfl rfl rfl ?_))
  all_goals (first
               | (refine Br.keep ?_)
               | (refine WL.call (vs := [_]) rfl (fun a w => Tryz.call118 a w) rfl (frame_v 51 (by decide) [] (Rd.nil _ _) (by decide)) rfl rfl rfl ?_
                  rintro v7 h7 ⟨ho7, hx7⟩
                  rw [three_fr] at ho7
                  obtain ⟨A7, c7, rfl, _⟩ := id ho7.slice))
  all_goals (first
               | (refine Br.keep ?_)
               | (refine WL.stepR (ok_append (sz := 1) (bytes := 1) rfl Tryz.underlying42 (show Tryz.prog.info? 5 = some Tryz.t5 by kernel_rfl) rfl rfl rfl rfl (by decide) rfl rfl (Own.nil _ 5 1) ho7.rd (by intro c hc; obtain ⟨b, _, rfl⟩ := List.mem_map.1 hc; rfl) (by simp [maxLen, three]) (by simp [three])) rfl rfl rfl ?_
                  rintro v8 h8 ⟨ho8, hx8, hl8⟩))
  all_goals (first
               | (refine Br.keep ?_)
               | (have hX7 := hX6.trans hx7
                  have hX8 := hX7.trans (hx8.mono fun _ _ e => by simp [Value.ownBlock] at e)))
  all_goals (refine Go ?_; try (refine Br.mk (i := 1001) ?_))
  all_goals (refine Gn ?_; first | (refine Br.keep ?_) | (refine Gs [(3, _), (8, _), (9, _), (10, _)] ?_))
  all_goals (first | (refine Br.keep ?_) | (refine WC.region ?_))
  all_goals (refine Go ?_; first | (refine Br.keep ?_) | (exact ⟨(0 + 1, _), ⟨rfl, rfl, rfl, rfl, trivial⟩, (by exact ⟨hX8, .inr ⟨rfl, by simpa using ho8, fresh_of hl8 (fun k hk => by simp [Value.ownBlock] at hk) hX7.size⟩⟩), (by first | omega | (dsimp only; omega) | simp)⟩))
  all_goals (try (refine Br.mk (i := 1000) ?_))
  all_goals (refine Gn ?_; refine Gs [(3, _)] ?_; refine WC.sr ?_; refine Go ?_; refine Gt ?_)
  all_goals (rcases hI with ⟨h, _⟩ | ⟨_, hB, hf⟩
             · exfalso; omega
             · exact ⟨hB, hx1, hf⟩)
end Go.Proofs.YtggmocdbfbhklaaGreat


/-
  REWRITE (layer 24): the code's C of a statement, and all of Do.
-/
namespace Go.Proofs.YtggmocdbfbhklaaGreat
open Go Go.RK

/-- What is told of a message that may be told. -/
def doA (s : RS) (lk : Int × Bool) (spec : List Int) (most : Int) (p : FmP) : RS × List FmP × List EnP :=
  if p.1 = 80 then (if p.2.2.1 ≠ [] ∧ lk.2 = true then (s, [asP p dupL], [(zE 2 dupL p.2.2.1).pl]) else preA s spec most p)
  else if p.1 = 66 ∨ (p.1 = 68 ∧ p.2.1 = 83) then useA s lk spec most p
  else if p.1 = 67 ∧ p.2.1 = 83 then (s, [], [(10, false, [], [], [(false, p.2.2.1, 0, ())], [], [], three)])
  else if p.1 = 72 then (s, [p], [])
  else if p.1 = 81 then (s, [p], [(9, false, [], [], [(false, [], 0, ())], [], [], [])])
  else (s, [p], [(zE (entK p.1 p.2.1) [] []).pl])
section
variable {h0 h h1 h' : Heap} {B : Nat} {c : Int} {b m1 m2 bt : Nat} {s : RS} {f : Fm} {v : Value} {ss : Option Addr} {sn sc : Nat} {spec : List Int} {most jd : Int} {kn : Bool}
set_option maxHeartbeats 2000000 in
set_option maxRecDepth 100000 in
theorem stmt24 (hf : f.ok h0) : CallsH Tryz.prog 59 ⟨[.agg ⟨jC f b (.slice ss sn sc) most jd kn⟩]⟩ h fun u h' => u = .bool (decide (f.what = 83)) ∧ Ext No h h' := by
  obtain ⟨⟨e1, _⟩, ⟨e2, _⟩, ⟨e3, _⟩, e4, _⟩ := hf
  obtain ⟨k, w, n, p, t, vo, o, vf, fs, vs, rs, vp, ps, mx⟩ := f
  dsimp only at e1 e2 e3 e4
  obtain ⟨_, _, rfl, _⟩ := e1
  obtain ⟨_, _, rfl, _⟩ := e2
  obtain ⟨_, _, rfl, _⟩ := e3
  obtain ⟨_, _, rfl, _⟩ := e4
  dsimp only [jC, Fm.cells, List.cons_append, List.nil_append, ptE]
  by_cases hw : w = 83
  all_goals
    refine calls [(0, _)] Tryz.func59 rfl Tryz.ntmps59 rfl ⟨rfl, trivial⟩ ?_
    all_goals (refine WC.sr ?_; refine WL.stepR (okE_box rfl) rfl rfl rfl ?_; rintro _ h1 ⟨b1, rfl, hg1, hb1, hx1⟩; refine Go ?_; refine WC.sr ?_; refine Go ?_; refine Ld ?_; refine Go ?_; refine Gs [(2, _)] ?_; refine Gt ?_; exact ⟨by simp [hw], hx1⟩)
set_option maxHeartbeats 2000000 in
set_option maxRecDepth 100000 in
theorem forget24 (hf : f.ok h0) : CallsH Tryz.prog 60 ⟨[.agg ⟨jC f b (.slice ss sn sc) most jd kn⟩]⟩ h fun u h' => ∃ e : En, Own h' u 44 8 1 e.cells ∧ (∀ g0, Lst g0 h' fun g => e.ok g) ∧ e.pl = (10, false, [], [], [(false, f.name, 0, ())], [], [], three) ∧ Ext No h h' ∧ ∀ k, u.ownBlock = some k → h.size ≤ k := by
  obtain ⟨⟨e1, _⟩, ⟨e2, _⟩, ⟨e3, _⟩, e4, _⟩ := hf
  obtain ⟨k, w, n, p, t, vo, o, vf, fs, vs, rs, vp, ps, mx⟩ := f
  dsimp only at e1 e2 e3 e4
  obtain ⟨_, _, rfl, _⟩ := e1
  obtain ⟨_, _, rfl, _⟩ := e2
  obtain ⟨_, _, rfl, _⟩ := e3
  obtain ⟨_, _, rfl, _⟩ := e4
  dsimp only [jC, Fm.cells, List.cons_append, List.nil_append, ptE]
  refine calls [(0, _)] Tryz.func60 rfl Tryz.ntmps60 rfl ⟨rfl, trivial⟩ ?_
  all_goals (refine WC.sr ?_; refine WL.stepR (okE_box rfl) rfl rfl rfl ?_; rintro _ h1 ⟨b1, rfl, hg1, hb1, hx1⟩; refine Go ?_; refine WC.sr ?_; refine WL.step (ok_buildF (vs := [_]) (cs := [_, _, _, _, _, _, _, _, _, _, _]) (fun | [a0] => [a0, (.int .u8 0), (St []), (St []), (St []), (.int .i64 0), (.int .i64 0), (.slice none 0 0), (.slice none 0 0), (.slice none 0 0), (.slice none 0 0)] | _ => []) rfl rfl (by kernel_rfl)) rfl rfl rfl ?_; refine WL.stepR (okE_buildSlice (vs := [_]) (cs := [_, _, _, _, _, _, _, _, _, _, _]) (fun | [.agg ⟨[a0, a1, a2, a3, a4, a5, a6, a7, a8, a9, a10]⟩] => [a0, a1, a2, a3, a4, a5, a6, a7, a8, a9, a10] | _ => []) Tryz.underlying87 rfl rfl (by kernel_rfl)) rfl rfl rfl ?_; rintro _ h2 ⟨b2, rfl, hg2, hb2, hx2⟩; refine WL.call (vs := [_]) rfl (fun a w => Tryz.call94 a w) rfl (three_code hb2) rfl rfl rfl ?_; rintro v3 h3 ⟨ho3, hx3, hf3⟩; obtain ⟨A3, c3, rfl, _⟩ := id ho3.slice; have X3 := (hx1.trans hx2).trans hx3; refine Go ?_; refine Gs [(1, _), (3, _)] ?_; refine WC.sr ?_; refine Go ?_; refine WL.ld rfl (by first | exact cell_blk ((hx2.trans hx3).obj hb1 nos) rfl | assumption | exact cell_blk (by assumption) rfl) rfl rfl rfl ?_; refine WL.step (ok_buildF (vs := [_]) (cs := [_, _, _]) (fun | [a1] => [(.bool false), a1, (.int .i64 0)] | _ => []) rfl rfl (by kernel_rfl)) rfl rfl rfl ?_; refine WL.stepR (okE_buildSlice (vs := [_]) (cs := [_, _, _]) (fun | [.agg ⟨[a0, a1, a2]⟩] => [a0, a1, a2] | _ => []) Tryz.underlying40 rfl rfl (by kernel_rfl)) rfl rfl rfl ?_; rintro _ h4 ⟨b4, rfl, hg4, hb4, hx4⟩; refine WL.step (ok_buildF (vs := [_, _, _]) (cs := [_, _, _, _, _, _, _, _]) (fun | [a0, a7, a4] => [a0, (.bool false), (St []), (St []), a4, (.slice none 0 0), (.slice none 0 0), a7] | _ => []) rfl rfl (by kernel_rfl)) rfl rfl rfl ?_; refine WL.stepR (okE_buildSlice (vs := [_]) (cs := [_, _, _, _, _, _, _, _]) (fun | [.agg ⟨[a0, a1, a2, a3, a4, a5, a6, a7]⟩] => [a0, a1, a2, a3, a4, a5, a6, a7] | _ => []) Tryz.underlying37 rfl rfl (by kernel_rfl)) rfl rfl rfl ?_; rintro _ h5 ⟨b5, rfl, hg5, hb5, hx5⟩; refine Go ?_; refine Gs [(2, _)] ?_; refine Gt ?_; have X5 := (X3.trans hx4).trans hx5; have ho5 := (ho3.ext hx4 (fun _ _ => nos)).ext hx5 (fun _ _ => nos); refine ⟨⟨10, false, [], [], .slice (some ⟨b4, 0, none⟩) 1 1, [(false, n, 0, ())], .slice none 0 0, [], .slice none 0 0, [], .slice A3 three.length c3, three⟩, own_one hb5 rfl, fun g0 S h6 x6 s6 => ⟨(lst_blk (h0 := g0) (hx5.obj hb4 nos) (by decide) |>.mono fun _ z => tops_one z) S h6 x6 s6, tops_nil _, ops_nil _, ⟨((lst_own (h0 := g0) ho5 (by decide)) S h6 x6 s6).rd, by simp [three, reachBytes]⟩⟩, rfl, X5, fun k z => by simp [Value.ownBlock] at z; have := X3.size; have := hx4.size; omega⟩)
end
end Go.Proofs.YtggmocdbfbhklaaGreat


/-
  REWRITE (layer 24): what the code does of a message that may be told.
-/
namespace Go.Proofs.YtggmocdbfbhklaaGreat
open Go Go.RK

section
variable {h0 h h1 h' : Heap} {B : Nat} {c : Int} {b m1 m2 bt : Nat} {s : RS} {f : Fm} {v : Value} {ss : Option Addr} {sn sc : Nat} {spec : List Int} {most jd : Int} {kn : Bool}
def DoR (h0 h : Heap) (B : Nat) (c : Int) (b m1 m2 : Nat) (r : RS × List FmP × List EnP) (u : Value) (h' : Heap) : Prop := Gives h0 h r.2.1 r.2.2 u h' ∧ Cst h0 h' B (c + 2) b m1 m2 r.1 ∧ Ext (CS h0 m1 m2 h) h h'
theorem DoR.from {g : Heap} {r : RS × List FmP × List EnP} {u : Value} (k : DoR h0 g B c b m1 m2 r u h') (x : Ext No h g) : DoR h0 h B c b m1 m2 r u h' := ⟨k.1.from x.size, k.2.1, (fs_no x).trans' k.2.2 fun _ hq e => fs_no_back x hq e⟩
theorem gives_u {F : List FmP} {E : List EnP} {u : Value} (k : Gives h0 h F E u h') : ∃ vF vE, u = .tuple ⟨[vF, vE]⟩ := by
  obtain ⟨vF, vE, _, _, e, _⟩ := k
  exact ⟨vF, vE, e⟩
set_option maxHeartbeats 2000000 in
set_option maxRecDepth 100000 in
theorem do_80a (k : JH h0 h B c b m1 m2 s f (.slice ss sn sc) spec) (hk : f.kind = 80) (hn : ¬ f.name = []) : CallsH Tryz.prog 30 ⟨[.agg ⟨jC f b (.slice ss sn sc) most jd true⟩]⟩ h (DoR h0 h B c b m1 m2 (s, [asP f.pl dupL], [(zE 2 dupL f.name).pl])) := by
  have kx := fun g (x : Ext No h g) => again24 (most := most) (jd := jd) (kn := true) (k.ext0 x) hk
  obtain ⟨⟨e1, _⟩, ⟨e2, _⟩, ⟨e3, _⟩, e4, _⟩ := k.f.now
  have hd := k.d
  have hcc := k.cc
  clear k
  generalize hP : f.pl = P at *
  obtain ⟨fk, w, n, p, t, vo, o, vf, fs, vs, rs, vp, ps, mx⟩ := f
  dsimp only at e1 e2 e3 e4 hk hn
  subst hk
  obtain ⟨_, _, rfl, _⟩ := e1
  obtain ⟨_, _, rfl, _⟩ := e2
  obtain ⟨_, _, rfl, _⟩ := e3
  obtain ⟨_, _, rfl, _⟩ := e4
  dsimp only [jC, Fm.cells, List.cons_append, List.nil_append, ptE] at kx ⊢
  refine calls [(0, _)] Tryz.func30 rfl Tryz.ntmps30 rfl ⟨rfl, trivial⟩ ?_
  all_goals (refine WC.sr ?_; refine WL.stepR (okE_box rfl) rfl rfl rfl ?_; rintro _ h1 ⟨b1, rfl, hg1, hb1, hx1⟩; refine Go ?_; refine WC.seq ?_; refine WC.sr ?_; refine Go ?_; refine Ld ?_; refine Gn ?_; refine Gs [(1, _), (7, _)] ?_; refine WC.block ?_; refine WC.sr ?_; refine Go ?_; refine goC 1 2 ?_ TT.mk; refine goB 1 ?_; refine WC.seq ?_; refine WC.sr ?_; refine Go ?_; refine Ld ?_; refine Go ?_; refine goP 14 ?_ TT.mk; refine Gg ?_; refine Ld ?_; refine Go ?_; refine Gs [(1, _), (17, _)] ?_; refine goC 3 4 ?_ TT.mk; refine goB 3 ?_; refine WC.sr ?_; refine WL.step (ok_loadN (fun w => Tryz.isAgg74 w) (fun w => Tryz.sizeOf74 w) rfl rfl (by exact At.of_block hb1)) rfl rfl rfl ?_; refine WL.call (vs := [_]) rfl (fun a w => Tryz.call56 a w) rfl (kx _ hx1) rfl rfl rfl ?_; rintro _ h2 ⟨hgv, hx2⟩; obtain ⟨vF, vE, rfl⟩ := gives_u hgv; refine Go ?_; refine Gs [(2, _), (3, _)] ?_; refine Gt ?_; exact DoR.from ⟨hgv, (hd.ext0 (hx1.trans hx2)).up (by omega) (by omega), fs_no hx2⟩ hx1)
set_option maxHeartbeats 2000000 in
set_option maxRecDepth 100000 in
theorem do_80b (k : JH h0 h B c b m1 m2 s f (.slice ss sn sc) spec) (hk : f.kind = 80) (hn : f.name = [] ∨ kn = false) : CallsH Tryz.prog 30 ⟨[.agg ⟨jC f b (.slice ss sn sc) most jd kn⟩]⟩ h (DoR h0 h B c b m1 m2 (preA s spec most f.pl)) := by
  have kx := fun g (x : Ext No h g) => prep24 (most := most) (jd := jd) (kn := kn) (k.ext0 x) hk
  have hn2 : f.name = [] ∨ ¬ f.name = [] := Classical.em _
  obtain ⟨⟨e1, _⟩, ⟨e2, _⟩, ⟨e3, _⟩, e4, _⟩ := k.f.now
  clear k
  generalize hP : preA s spec most f.pl = P at *
  clear hP
  obtain ⟨fk, w, n, p, t, vo, o, vf, fs, vs, rs, vp, ps, mx⟩ := f
  dsimp only at e1 e2 e3 e4 hk hn hn2
  subst hk
  obtain ⟨_, _, rfl, _⟩ := e1
  obtain ⟨_, _, rfl, _⟩ := e2
  obtain ⟨_, _, rfl, _⟩ := e3
  obtain ⟨_, _, rfl, _⟩ := e4
  dsimp only [jC, Fm.cells, List.cons_append, List.nil_append, ptE] at kx ⊢
  rcases hn2 with rfl | hn2
  all_goals cases kn
  all_goals first | (exfalso; rcases hn with hn | hn; exact hn2 hn; cases hn; done) | skip
  all_goals
    refine calls [(0, _)] Tryz.func30 rfl Tryz.ntmps30 rfl ⟨rfl, trivial⟩ ?_
    all_goals (refine WC.sr ?_; refine WL.stepR (okE_box rfl) rfl rfl rfl ?_; rintro _ h1 ⟨b1, rfl, hg1, hb1, hx1⟩; refine Go ?_; refine WC.seq ?_; refine WC.sr ?_; refine Go ?_; refine Ld ?_; refine Gn ?_; refine Gs [(1, _), (7, _)] ?_; refine WC.block ?_; refine WC.sr ?_; refine Go ?_; refine goC 1 2 ?_ TT.mk; refine goB 1 ?_; refine WC.seq ?_; refine WC.sr ?_; refine Go ?_; refine Ld ?_; refine Go ?_; refine goP 14 ?_ TT.mk; refine Gg ?_; first | (refine WL.pass rfl rfl rfl ?_) | (refine Ld ?_))
    all_goals (refine Go ?_; refine Gs [(1, _), (17, _)] ?_; refine goC 3 4 ?_ TT.mk; refine goB 4 ?_; refine WC.skip ?_; refine Gn ?_; refine WC.sr ?_; refine WL.step (ok_loadN (fun w => Tryz.isAgg74 w) (fun w => Tryz.sizeOf74 w) rfl rfl (by exact At.of_block hb1)) rfl rfl rfl ?_; refine WL.call (vs := [_]) rfl (fun a w => Tryz.call57 a w) rfl (kx _ hx1) rfl rfl rfl ?_; rintro _ h2 ⟨hgv, hd2, hx2⟩; obtain ⟨vF, vE, rfl⟩ := gives_u hgv; refine Go ?_; refine Gs [(2, _), (3, _)] ?_; refine Gt ?_; exact DoR.from ⟨hgv, hd2, hx2⟩ hx1)
set_option maxHeartbeats 2000000 in
set_option maxRecDepth 100000 in
theorem do_use (k : JH h0 h B c b m1 m2 s f (.slice ss sn sc) spec) (hk : f.kind = 66 ∨ (f.kind = 68 ∧ f.what = 83)) : CallsH Tryz.prog 30 ⟨[.agg ⟨jC f b (.slice ss sn sc) most jd kn⟩]⟩ h (DoR h0 h B c b m1 m2 (useA s (jd, kn) spec most f.pl)) := by
  have kx := fun g (x : Ext No h g) => use24 (most := most) (jd := jd) (kn := kn) (k.ext0 x)
  have ks := fun g => stmt24 (h := g) (b := b) (ss := ss) (sn := sn) (sc := sc) (most := most) (jd := jd) (kn := kn) k.f.now
  obtain ⟨⟨e1, _⟩, ⟨e2, _⟩, ⟨e3, _⟩, e4, _⟩ := k.f.now
  clear k
  generalize hP : useA s (jd, kn) spec most f.pl = P at *
  clear hP
  obtain ⟨fk, w, n, p, t, vo, o, vf, fs, vs, rs, vp, ps, mx⟩ := f
  dsimp only at e1 e2 e3 e4 hk ks
  obtain ⟨_, _, rfl, _⟩ := e1
  obtain ⟨_, _, rfl, _⟩ := e2
  obtain ⟨_, _, rfl, _⟩ := e3
  obtain ⟨_, _, rfl, _⟩ := e4
  dsimp only [jC, Fm.cells, List.cons_append, List.nil_append, ptE] at kx ks ⊢
  rcases hk with rfl | ⟨rfl, rfl⟩
  all_goals
    refine calls [(0, _)] Tryz.func30 rfl Tryz.ntmps30 rfl ⟨rfl, trivial⟩ ?_
    all_goals (refine WC.sr ?_; refine WL.stepR (okE_box rfl) rfl rfl rfl ?_; rintro _ h1 ⟨b1, rfl, hg1, hb1, hx1⟩; refine Go ?_; refine WC.seq ?_; refine WC.sr ?_; refine Go ?_; refine Ld ?_; refine Gn ?_; refine Gs [(1, _), (7, _)] ?_; refine WC.block ?_; refine WC.sr ?_; refine Go ?_; refine goC 1 2 ?_ TT.mk; refine goB 2 ?_; refine WC.sr ?_; refine Go ?_; refine goC 5 6 ?_ TT.mk)
    all_goals (first | (fail_if_success refine goB 5 ?_) | (
    refine goB 5 ?_
    all_goals (refine WC.sr ?_; refine WL.step (ok_loadN (fun w => Tryz.isAgg74 w) (fun w => Tryz.sizeOf74 w) rfl rfl (by exact At.of_block hb1)) rfl rfl rfl ?_; refine WL.call (vs := [_]) rfl (fun a w => Tryz.call58 a w) rfl (kx _ hx1) rfl rfl rfl ?_; rintro _ h2 ⟨hgv, hd2, hx2⟩; obtain ⟨vF, vE, rfl⟩ := gives_u hgv; refine Go ?_; refine Gs [(2, _), (3, _)] ?_; refine Gt ?_; first | exact DoR.from ⟨hgv, hd2, hx2⟩ hx1 | exact DoR.from ⟨hgv, hd2, hx3⟩ hX2)
    skip))
    all_goals (refine goB 6 ?_; refine WC.seq ?_; refine WC.sr ?_; refine Go ?_; refine Gs [(1, _), (7, _), (32, _)] ?_; refine goC 7 8 ?_ TT.mk; refine goB 8 ?_; refine WC.region ?_; refine Go ?_; refine Gn ?_; refine goC 9 10 ?_ TT.mk; refine goB 9 ?_; refine WC.seq ?_; refine WC.sr ?_; refine WL.step (ok_loadN (fun w => Tryz.isAgg74 w) (fun w => Tryz.sizeOf74 w) rfl rfl (by exact At.of_block hb1)) rfl rfl rfl ?_; refine WL.call (vs := [_]) rfl (fun a w => Tryz.call59 a w) rfl (ks _) rfl rfl rfl ?_; rintro _ h2 ⟨rfl, hx2⟩; have hb12 := hx2.obj hb1 nos; have hX2 := hx1.trans hx2; refine Go ?_; refine Gs [(1, _), (37, _)] ?_; refine goC 11 12 ?_ TT.mk; refine goB 12 ?_; refine WC.skip ?_; refine Gn ?_; refine WC.seq ?_; refine WC.sr ?_; refine Go ?_; refine WL.ld rfl (by first | exact cell_blk hb12 rfl | assumption | exact cell_blk (by assumption) rfl) rfl rfl rfl ?_; refine Go ?_; refine Gs [(1, _), (41, _)] ?_; refine goC 13 14 ?_ TT.mk; refine goB 14 ?_; refine WC.skip ?_; refine Gn ?_; refine WC.sr ?_; refine WL.step (ok_loadN (fun w => Tryz.isAgg74 w) (fun w => Tryz.sizeOf74 w) rfl rfl (by exact At.of_block hb12)) rfl rfl rfl ?_; refine WL.call (vs := [_]) rfl (fun a w => Tryz.call58 a w) rfl (kx _ hX2) rfl rfl rfl ?_; rintro _ h3 ⟨hgv, hd2, hx3⟩; obtain ⟨vF, vE, rfl⟩ := gives_u hgv; refine Go ?_; refine Gs [(2, _), (3, _)] ?_; refine Gt ?_; first | exact DoR.from ⟨hgv, hd2, hx2⟩ hx1 | exact DoR.from ⟨hgv, hd2, hx3⟩ hX2)
set_option maxHeartbeats 2000000 in
set_option maxRecDepth 100000 in
theorem do_67 (k : JH h0 h B c b m1 m2 s f (.slice ss sn sc) spec) (hk : f.kind = 67 ∧ f.what = 83) : CallsH Tryz.prog 30 ⟨[.agg ⟨jC f b (.slice ss sn sc) most jd kn⟩]⟩ h (DoR h0 h B c b m1 m2 (s, [], [(10, false, [], [], [(false, f.name, 0, ())], [], [], three)])) := by
  have kx := fun g => forget24 (h := g) (b := b) (ss := ss) (sn := sn) (sc := sc) (most := most) (jd := jd) (kn := kn) k.f.now
  have ks := fun g => stmt24 (h := g) (b := b) (ss := ss) (sn := sn) (sc := sc) (most := most) (jd := jd) (kn := kn) k.f.now
  obtain ⟨⟨e1, _⟩, ⟨e2, _⟩, ⟨e3, _⟩, e4, _⟩ := k.f.now
  have hd := k.d
  have hcc := k.cc
  clear k
  obtain ⟨fk, w, n, p, t, vo, o, vf, fs, vs, rs, vp, ps, mx⟩ := f
  dsimp only at e1 e2 e3 e4 hk ks kx
  obtain ⟨rfl, rfl⟩ := hk
  obtain ⟨_, _, rfl, _⟩ := e1
  obtain ⟨_, _, rfl, _⟩ := e2
  obtain ⟨_, _, rfl, _⟩ := e3
  obtain ⟨_, _, rfl, _⟩ := e4
  dsimp only [jC, Fm.cells, List.cons_append, List.nil_append, ptE] at kx ks ⊢
  refine calls [(0, _)] Tryz.func30 rfl Tryz.ntmps30 rfl ⟨rfl, trivial⟩ ?_
  all_goals (refine WC.sr ?_; refine WL.stepR (okE_box rfl) rfl rfl rfl ?_; rintro _ h1 ⟨b1, rfl, hg1, hb1, hx1⟩; refine Go ?_; refine WC.seq ?_; refine WC.sr ?_; refine Go ?_; refine Ld ?_; refine Gn ?_; refine Gs [(1, _), (7, _)] ?_; refine WC.block ?_; refine WC.sr ?_; refine Go ?_; refine goC 1 2 ?_ TT.mk; refine goB 2 ?_; refine WC.sr ?_; refine Go ?_; refine goC 5 6 ?_ TT.mk; refine goB 6 ?_; refine WC.seq ?_; refine WC.sr ?_; refine Go ?_; refine Gs [(1, _), (7, _), (32, _)] ?_; refine goC 7 8 ?_ TT.mk; refine goB 7 ?_; refine WC.skip ?_; refine Gn ?_; refine goC 9 10 ?_ TT.mk; refine goB 9 ?_; refine WC.seq ?_; refine WC.sr ?_; refine WL.step (ok_loadN (fun w => Tryz.isAgg74 w) (fun w => Tryz.sizeOf74 w) rfl rfl (by exact At.of_block hb1)) rfl rfl rfl ?_; refine WL.call (vs := [_]) rfl (fun a w => Tryz.call59 a w) rfl (ks _) rfl rfl rfl ?_; rintro _ h2 ⟨rfl, hx2⟩; have hb12 := hx2.obj hb1 nos; have hX2 := hx1.trans hx2; refine Go ?_; refine Gs [(1, _), (37, _)] ?_; refine goC 11 12 ?_ TT.mk; refine goB 12 ?_; refine WC.skip ?_; refine Gn ?_; refine WC.seq ?_; refine WC.sr ?_; refine Go ?_; refine WL.ld rfl (by first | exact cell_blk hb12 rfl | assumption | exact cell_blk (by assumption) rfl) rfl rfl rfl ?_; refine Go ?_; refine Gs [(1, _), (41, _)] ?_; refine goC 13 14 ?_ TT.mk; refine goB 13 ?_; refine WC.sr ?_; refine WL.step (ok_loadN (fun w => Tryz.isAgg74 w) (fun w => Tryz.sizeOf74 w) rfl rfl (by exact At.of_block hb12)) rfl rfl rfl ?_; refine WL.call (vs := [_]) rfl (fun a w => Tryz.call60 a w) rfl (kx _) rfl rfl rfl ?_; rintro v3 h3 ⟨e, ho3, hok, hpl, hx3, hf3⟩; refine Go ?_; refine Gs [(2, _), (3, _)] ?_; refine Gt ?_; exact DoR.from ⟨⟨_, _, [], [e], rfl, ⟨Own.nil _ _ _, by simpa using ho3, by simp, by simp, by simp, fun x hx => by obtain rfl := List.mem_singleton.1 hx; exact hok h0, by simp [Value.ownBlock], hf3⟩, rfl, by simp [hpl]⟩, (hd.ext0 (hX2.trans hx3)).up (by omega) (by omega), fs_no hx3⟩ hX2)
set_option maxHeartbeats 2000000 in
set_option maxRecDepth 100000 in
theorem do_72 (k : JH h0 h B c b m1 m2 s f (.slice ss sn sc) spec) (hk : f.kind = 72) : CallsH Tryz.prog 30 ⟨[.agg ⟨jC f b (.slice ss sn sc) most jd kn⟩]⟩ h (DoR h0 h B c b m1 m2 (s, [f.pl], [])) := by
  have hf := k.f
  have hd := k.d
  have hcc := k.cc
  obtain ⟨⟨e1, _⟩, ⟨e2, _⟩, ⟨e3, _⟩, e4, _⟩ := k.f.now
  have hfc : ∀ (q : Nat) (g : Heap), g[q]? = some (.cells ⟨f.cells⟩ 27 (0, 0)) → Own g (.slice (some ⟨q, 0, none⟩) 1 1) 27 10 [f].length ([f].flatMap Fm.cells) := fun q g hb => by simpa using own_one hb (Fm.len _)
  have hpl1 : [f].map Fm.pl = [f.pl] := rfl
  obtain ⟨L, hL⟩ : ∃ L, L = [f] := ⟨_, rfl⟩
  rw [← hL] at hfc hpl1
  have hLo : ∀ (g : Heap), (Lst h0 g fun z => f.ok z) → ∀ x ∈ L, Lst h0 g fun z => x.ok z := fun g hg x hx => by rw [hL] at hx; obtain rfl := List.mem_singleton.1 hx; exact hg
  have hLl : L.length ≤ 3 := by rw [hL]; simp
  have hLe : L.length = 1 := by rw [hL]; rfl
  clear k hL
  generalize hP : f.pl = P at *
  clear hP
  obtain ⟨fk, w, n, p, t, vo, o, vf, fs, vs, rs, vp, ps, mx⟩ := f
  dsimp only at e1 e2 e3 e4 hk
  subst hk
  obtain ⟨_, _, rfl, _⟩ := e1
  obtain ⟨_, _, rfl, _⟩ := e2
  obtain ⟨_, _, rfl, _⟩ := e3
  obtain ⟨_, _, rfl, _⟩ := e4
  dsimp only [jC, Fm.cells, List.cons_append, List.nil_append, ptE] at hfc ⊢
  refine calls [(0, _)] Tryz.func30 rfl Tryz.ntmps30 rfl ⟨rfl, trivial⟩ ?_
  all_goals (refine WC.sr ?_; refine WL.stepR (okE_box rfl) rfl rfl rfl ?_; rintro _ h1 ⟨b1, rfl, hg1, hb1, hx1⟩; refine Go ?_; refine WC.seq ?_; refine WC.sr ?_; refine Go ?_; refine Ld ?_; refine Gn ?_; refine Gs [(1, _), (7, _)] ?_; refine WC.block ?_; refine WC.sr ?_; refine Go ?_; refine goC 1 2 ?_ TT.mk; refine goB 2 ?_; refine WC.sr ?_; refine Go ?_; refine goC 5 6 ?_ TT.mk; refine goB 6 ?_; refine WC.seq ?_; refine WC.sr ?_; refine Go ?_; refine Gs [(1, _), (7, _), (32, _)] ?_; refine goC 7 8 ?_ TT.mk; refine goB 8 ?_; refine WC.region ?_; refine Go ?_; refine Gn ?_; refine goC 9 10 ?_ TT.mk; refine goB 10 ?_; refine WC.sr ?_; refine Go ?_; refine goC 15 16 ?_ TT.mk; refine goB 15 ?_; refine WC.sr ?_; refine Go ?_; refine WL.step (ok_loadN (fun w => Tryz.isAgg27 w) (fun w => Tryz.sizeOf27 w) rfl rfl (by exact At.pre (xs := [_, _, _, _, _, _, _, _, _, _]) (ys := [_, _, _, _, _]) (At.of_block hb1))) rfl rfl rfl ?_; refine WL.stepR (okE_buildSlice (vs := [_]) (cs := [_, _, _, _, _, _, _, _, _, _]) (fun | [.agg ⟨[a0, a1, a2, a3, a4, a5, a6, a7, a8, a9]⟩] => [a0, a1, a2, a3, a4, a5, a6, a7, a8, a9] | _ => []) Tryz.underlying36 rfl rfl (by kernel_rfl)) rfl rfl rfl ?_; rintro _ h2 ⟨b2, rfl, hg2, hb2, hx2⟩; refine Go ?_; refine Gs [(2, _), (3, _)] ?_; refine Gt ?_; exact DoR.from ⟨⟨_, _, L, [], rfl, ⟨hfc b2 h2 hb2, Own.nil _ _ _, hLl, by simp, hLo h2 (hf.ext0 (hx1.trans hx2)), by simp, fun k z => by simp [Value.ownBlock] at z; omega, by simp [Value.ownBlock]⟩, hpl1, rfl⟩, (hd.ext0 (hx1.trans hx2)).up (by omega) (by omega), fs_no hx2⟩ hx1)
set_option maxHeartbeats 2000000 in
set_option maxRecDepth 100000 in
theorem do_81 (k : JH h0 h B c b m1 m2 s f (.slice ss sn sc) spec) (hk : f.kind = 81) : CallsH Tryz.prog 30 ⟨[.agg ⟨jC f b (.slice ss sn sc) most jd kn⟩]⟩ h (DoR h0 h B c b m1 m2 (s, [f.pl], [(9, false, [], [], [(false, [], 0, ())], [], [], [])])) := by
  have hf := k.f
  have hd := k.d
  have hcc := k.cc
  have ke := fun h' => entry24 (h := h') (b := b) (ss := ss) (sn := sn) (sc := sc) (most := most) (id := jd) (kn := kn) hf.now
  have kl := fun (g : Heap) (e : En) (l : Lst h0 g fun z => f.ok z) (le : Lst h0 g fun z => e.ok z) (x : h.size ≤ g.size) => alone24 (h0 := h0) (f := f) (e := e) (g := h) l le x
  obtain ⟨⟨e1, _⟩, ⟨e2, _⟩, ⟨e3, _⟩, e4, _⟩ := k.f.now
  clear k
  rw [show entK f.kind f.what = 9 by rw [hk]; rfl] at ke
  generalize hP : f.pl = P at *
  clear hP
  obtain ⟨fk, w, n, p, t, vo, o, vf, fs, vs, rs, vp, ps, mx⟩ := f
  dsimp only at e1 e2 e3 e4 hk
  subst hk
  obtain ⟨_, _, rfl, _⟩ := e1
  obtain ⟨_, _, rfl, _⟩ := e2
  obtain ⟨_, _, rfl, _⟩ := e3
  obtain ⟨_, _, rfl, _⟩ := e4
  dsimp only [jC, Fm.cells, List.cons_append, List.nil_append, ptE, zE, En.cells] at ke kl ⊢
  refine calls [(0, _)] Tryz.func30 rfl Tryz.ntmps30 rfl ⟨rfl, trivial⟩ ?_
  all_goals (refine WC.sr ?_; refine WL.stepR (okE_box rfl) rfl rfl rfl ?_; rintro _ h1 ⟨b1, rfl, hg1, hb1, hx1⟩; refine Go ?_; refine WC.seq ?_; refine WC.sr ?_; refine Go ?_; refine Ld ?_; refine Gn ?_; refine Gs [(1, _), (7, _)] ?_; refine WC.block ?_; refine WC.sr ?_; refine Go ?_; refine goC 1 2 ?_ TT.mk; refine goB 2 ?_; refine WC.sr ?_; refine Go ?_; refine goC 5 6 ?_ TT.mk; refine goB 6 ?_; refine WC.seq ?_; refine WC.sr ?_; refine Go ?_; refine Gs [(1, _), (7, _), (32, _)] ?_; refine goC 7 8 ?_ TT.mk; refine goB 8 ?_; refine WC.region ?_; refine Go ?_; refine Gn ?_; refine goC 9 10 ?_ TT.mk; refine goB 10 ?_; refine WC.sr ?_; refine Go ?_; refine goC 15 16 ?_ TT.mk; refine goB 16 ?_; refine WC.sr ?_; refine Go ?_; refine Gs [(1, _), (53, _)] ?_; refine goC 17 18 ?_ TT.mk; refine goB 17 ?_; refine WC.sr ?_; refine WL.step (ok_loadN (fun w => Tryz.isAgg74 w) (fun w => Tryz.sizeOf74 w) rfl rfl (by exact At.of_block hb1)) rfl rfl rfl ?_; refine WL.call (vs := [_]) rfl (fun a w => Tryz.call61 a w) rfl (ke _) rfl rfl rfl ?_; rintro _ h2 ⟨rfl, hx2⟩; refine WL.stepR (okE_alloc (fun w => Tryz.zeroValue44 w)) rfl rfl rfl ?_; rintro _ h3 ⟨b4, rfl, hg4, hb4, hx3⟩; refine WL.stepR0 (okE_storeW (fun w => Tryz.sizeOf44 w) rfl rfl rfl hb4 rfl (by simp [Value.oneCell'])) rfl rfl ?_; rintro _ h4 ⟨hb44, hx4⟩; have l1 := lt_of_some hb1; have hs1 := hx1.size; have hs2 := hx2.size; have hs3 := hx3.size; (have n14 : ¬ b1 = b4 := by omega); have hb14 := hx4.obj ((hx2.trans hx3).obj hb1 nos) n14; have X4 : Ext No h h4 := ((hx1.trans hx2).trans hx3).trans' hx4 (fun q hq e => by omega); have l4 := lt_of_some hb44; refine Gn ?_; refine WC.sr ?_; refine WL.step (ok_buildF (vs := [_]) (cs := [_, _, _]) (fun | [a1] => [(.bool false), a1, (.int .i64 0)] | _ => []) rfl rfl (by kernel_rfl)) rfl rfl rfl ?_; refine WL.stepR (okE_buildSlice (vs := [_]) (cs := [_, _, _]) (fun | [.agg ⟨[a0, a1, a2]⟩] => [a0, a1, a2] | _ => []) Tryz.underlying40 rfl rfl (by kernel_rfl)) rfl rfl rfl ?_; rintro _ h5 ⟨b5, rfl, hg5, hb5, hx5⟩; refine Go ?_; refine WL.stepR0 (okE_store (fun w => Tryz.sizeOf40 w) rfl rfl (hx5.obj hb44 nos) (Nat.le_of_ble_eq_true rfl) rfl rfl) rfl rfl ?_; rintro _ h6 ⟨hb46, hx6⟩; have hb16 := hx6.obj (hx5.obj hb14 nos) n14; have hb56 := hx6.obj hb5 (fun e => by omega); have X6 : Ext No h h6 := (X4.trans hx5).trans' hx6 (fun q hq e => by omega); refine Gn ?_; refine Gs [(1, _), (4, _)] ?_; refine WC.sr ?_; refine Go ?_; refine WL.step (ok_loadN (fun w => Tryz.isAgg27 w) (fun w => Tryz.sizeOf27 w) rfl rfl (by exact At.pre (xs := [_, _, _, _, _, _, _, _, _, _]) (ys := [_, _, _, _, _]) (At.of_block hb16))) rfl rfl rfl ?_; refine WL.step (ok_loadN (fun w => Tryz.isAgg44 w) (fun w => Tryz.sizeOf44 w) rfl rfl (by exact At.of_block hb46)) rfl rfl rfl ?_; refine WL.call (vs := [_, _]) rfl (fun a w => Tryz.call62 a w) rfl (kl _ (rE 9 [] [] _ [(false, [], 0, ())] _ [] _ []) (hf.ext0 X6) (rE_ok ((lst_blk hb56 (by decide)).mono fun _ z => tops_one z) (lst_all tops_nil) (lst_all ops_nil)) X6.size) rfl rfl rfl ?_; rintro _ h7 ⟨hgv, hx7⟩; obtain ⟨vF, vE, rfl⟩ := gives_u hgv; refine Go ?_; refine Gs [(2, _), (3, _)] ?_; refine Gt ?_; exact ⟨hgv, (hd.ext0 (X6.trans hx7)).up (by omega) (by omega), fs_no (X6.trans hx7)⟩)
set_option maxHeartbeats 2000000 in
set_option maxRecDepth 100000 in
theorem do_else (k : JH h0 h B c b m1 m2 s f (.slice ss sn sc) spec) (hk : ((f.kind = 67 ∨ f.kind = 68) ∧ ¬ f.what = 83) ∨ f.kind = 69 ∨ f.kind = 83) : CallsH Tryz.prog 30 ⟨[.agg ⟨jC f b (.slice ss sn sc) most jd kn⟩]⟩ h (DoR h0 h B c b m1 m2 (s, [f.pl], [(zE (entK f.kind f.what) [] []).pl])) := by
  have hf := k.f
  have hd := k.d
  have hcc := k.cc
  have ke := fun h' => entry24 (h := h') (b := b) (ss := ss) (sn := sn) (sc := sc) (most := most) (id := jd) (kn := kn) hf.now
  have ks := fun g => stmt24 (h := g) (b := b) (ss := ss) (sn := sn) (sc := sc) (most := most) (jd := jd) (kn := kn) k.f.now
  have kl := fun (g : Heap) (e : En) (l : Lst h0 g fun z => f.ok z) (le : Lst h0 g fun z => e.ok z) (x : h.size ≤ g.size) => alone24 (h0 := h0) (f := f) (e := e) (g := h) l le x
  obtain ⟨⟨e1, _⟩, ⟨e2, _⟩, ⟨e3, _⟩, e4, _⟩ := k.f.now
  clear k
  generalize hK : entK f.kind f.what = K at *
  clear hK
  generalize hP : f.pl = P at *
  clear hP
  obtain ⟨fk, w, n, p, t, vo, o, vf, fs, vs, rs, vp, ps, mx⟩ := f
  dsimp only at e1 e2 e3 e4 hk ks
  obtain ⟨_, _, rfl, _⟩ := e1
  obtain ⟨_, _, rfl, _⟩ := e2
  obtain ⟨_, _, rfl, _⟩ := e3
  obtain ⟨_, _, rfl, _⟩ := e4
  dsimp only [jC, Fm.cells, List.cons_append, List.nil_append, ptE, zE, En.cells] at ke kl ks ⊢
  rcases hk with ⟨rfl | rfl, hw⟩ | rfl | rfl
  all_goals try rw [decide_eq_false hw] at ks
  all_goals
    refine calls [(0, _)] Tryz.func30 rfl Tryz.ntmps30 rfl ⟨rfl, trivial⟩ ?_
    all_goals (refine WC.sr ?_; refine WL.stepR (okE_box rfl) rfl rfl rfl ?_; rintro _ h1 ⟨b1, rfl, hg1, hb1, hx1⟩; refine Go ?_; refine WC.seq ?_; refine WC.sr ?_; refine Go ?_; refine Ld ?_; refine Gn ?_; refine Gs [(1, _), (7, _)] ?_; refine WC.block ?_; refine WC.sr ?_; refine Go ?_; refine goC 1 2 ?_ TT.mk; refine goB 2 ?_; refine WC.sr ?_; refine Go ?_; refine goC 5 6 ?_ TT.mk; refine goB 6 ?_; refine WC.seq ?_; refine WC.sr ?_; refine Go ?_; refine Gs [(1, _), (7, _), (32, _)] ?_; refine goC 7 8 ?_ TT.mk)
    all_goals (first | (fail_if_success refine goB 7 ?_) | (
    refine goB 7 ?_
    all_goals (refine WC.skip ?_)
    skip))
    all_goals (first | (fail_if_success refine goB 8 ?_) | (
    refine goB 8 ?_
    all_goals (refine WC.region ?_; refine Go ?_)
    skip))
    all_goals (refine Gn ?_; refine goC 9 10 ?_ TT.mk)
    all_goals (first | (fail_if_success refine goB 9 ?_) | (
    refine goB 9 ?_
    all_goals (refine WC.seq ?_; refine WC.sr ?_; refine WL.step (ok_loadN (fun w => Tryz.isAgg74 w) (fun w => Tryz.sizeOf74 w) rfl rfl (by exact At.of_block hb1)) rfl rfl rfl ?_; refine WL.call (vs := [_]) rfl (fun a w => Tryz.call59 a w) rfl (ks _) rfl rfl rfl ?_; rintro _ h2 ⟨rfl, hx2⟩; refine Go ?_; refine Gs [(1, _), (37, _)] ?_; refine goC 11 12 ?_ TT.mk; refine goB 11 ?_; refine WC.exit ?_; repeat' (with_reducible first | refine thenP_x ?_ | refine blockP_miss rfl ?_ | refine blockP_hit ?_ | refine blockP_n ?_ | refine thenP_n ?_))
    all_goals (refine Br.out (i := 1000) ?_; refine Gn ?_; refine Br.keep ?_; refine Br.keep ?_; refine Go ?_; refine Br.keep ?_; refine Go ?_; refine Br.keep ?_; refine Br.keep ?_; refine Gn ?_; refine Br.keep ?_; refine Br.keep ?_; refine Br.keep ?_; refine Go ?_; refine Br.keep ?_; refine Br.keep ?_; refine Br.keep ?_)
    skip))
    all_goals (first | (fail_if_success refine goB 10 ?_) | (
    refine goB 10 ?_
    all_goals (refine WC.sr ?_; refine Go ?_; refine goC 15 16 ?_ TT.mk; refine goB 16 ?_; refine WC.sr ?_; refine Go ?_; refine Gs [(1, _), (53, _)] ?_; refine goC 17 18 ?_ TT.mk; refine goB 18 ?_; refine WC.skip ?_)
    skip))
    all_goals (refine Gn ?_; try (refine Br.mk (i := 1000) ?_))
    all_goals (refine Gn ?_; refine WC.seq ?_)
    all_goals (first
                | (have HJ := hx2.obj hb1 nos; have HX := hx1.trans hx2)
                | (obtain ⟨h2, rfl⟩ : ∃ g, g = h1 := ⟨h1, rfl⟩; have HJ := hb1; have HX := hx1))
    all_goals (refine WC.drawH (fun h' => Ext No h2 h') 7 9 rfl fol ?_; refine WH.tk 0 rfl (fun hq hC => ok_fieldAddr rfl Tryz.underlying74 rfl (fun w => Tryz.sizeOf27 w)) rfl rfl rfl ?_; refine WH.tk 1 rfl (fun hq hC => ok_loadN (fun w => Tryz.isAgg27 w) (fun w => Tryz.sizeOf27 w) rfl rfl (by exact ((At.pre (xs := [_, _, _, _, _, _, _, _, _, _]) (ys := [_, _, _, _, _]) (At.of_block HJ)).ext hC nos))) rfl rfl rfl ?_; refine WH.tk 2 rfl (fun hq hC => ok_loadN (fun w => Tryz.isAgg74 w) (fun w => Tryz.sizeOf74 w) rfl rfl (by exact ((At.of_block HJ).ext hC nos))) rfl rfl rfl ?_; refine WH.one 3 (by kernel_rfl) ?_; refine Comes1.call (vs := [_]) rfl rfl (fun a w => Tryz.call61 a w) rfl (ke _) rfl rfl rfl ?_ (fun _ => by kernel_rfl); rintro _ h3 ⟨rfl, hx3⟩; refine ⟨fun _ => hx3, ?_⟩; refine WH.one 4 (by kernel_rfl) ?_; refine Comes1.call (vs := [_, _]) rfl rfl (fun a w => Tryz.call62 a w) rfl (kl _ (zE K [] []) (hf.ext0 (HX.trans hx3)) (lst_all (zE_ok _ _ _)) (HX.trans hx3).size) rfl rfl rfl ?_ (fun _ => by kernel_rfl); rintro _ h4 ⟨hgv, hx4⟩; obtain ⟨vF, vE, rfl⟩ := gives_u hgv; refine ⟨fun _ => hx3.trans hx4, ?_⟩; have hX34 := hx3.trans hx4; refine WH.tk 5 rfl (fun hq hC => ok_extract rfl rfl) rfl rfl rfl ?_; refine WH.tk 6 rfl (fun hq hC => ok_extract rfl rfl) rfl rfl rfl ?_; refine WH.one 7 (by kernel_rfl) ?_; refine Comes1.run rfl (OkP.r (ok_assign rfl)) rfl rfl rfl ?_ (fun _ => by kernel_rfl); rintro _ hz ⟨rfl, _⟩; subst hz; refine ⟨fun e => (by cases e), ?_⟩; refine WH.one 8 (by kernel_rfl) ?_; refine Comes1.run rfl (OkP.r (ok_assign rfl)) rfl rfl rfl ?_ (fun _ => by kernel_rfl); rintro _ hz ⟨rfl, _⟩; subst hz; refine ⟨fun e => (by cases e), ?_⟩; refine WH.done (by kernel_rfl) ?_; refine Gn ?_; refine Gs [(2, _), (3, _)] ?_; refine Gt ?_; exact ⟨hgv, (hd.ext0 (HX.trans hX34)).up (by omega) (by omega), fs_no (HX.trans hX34)⟩)
end
end Go.Proofs.YtggmocdbfbhklaaGreat


/-
  REWRITE (layer 24): Do, by the code.
-/
namespace Go.Proofs.YtggmocdbfbhklaaGreat
open Go Go.RK

section
variable {h0 h h1 h' : Heap} {B : Nat} {c : Int} {b m1 m2 bt : Nat} {s : RS} {f : Fm} {v : Value} {ss : Option Addr} {sn sc : Nat} {spec : List Int} {most jd : Int} {kn : Bool}
theorem do_any (k : JH h0 h B c b m1 m2 s f (.slice ss sn sc) spec) (hk : NeedK f.kind) : CallsH Tryz.prog 30 ⟨[.agg ⟨jC f b (.slice ss sn sc) most jd kn⟩]⟩ h (DoR h0 h B c b m1 m2 (doA s (jd, kn) spec most f.pl)) := by
  have hdo : doA s (jd, kn) spec most f.pl = (if f.kind = 80 then (if f.name ≠ [] ∧ kn = true then (s, [asP f.pl dupL], [(zE 2 dupL f.name).pl]) else preA s spec most f.pl)
    else if f.kind = 66 ∨ (f.kind = 68 ∧ f.what = 83) then useA s (jd, kn) spec most f.pl
    else if f.kind = 67 ∧ f.what = 83 then (s, [], [(10, false, [], [], [(false, f.name, 0, ())], [], [], three)])
    else if f.kind = 72 then (s, [f.pl], [])
    else if f.kind = 81 then (s, [f.pl], [(9, false, [], [], [(false, [], 0, ())], [], [], [])])
    else (s, [f.pl], [(zE (entK f.kind f.what) [] []).pl])) := rfl
  rw [hdo]
  by_cases h80 : f.kind = 80
  · rw [if_pos h80]
    by_cases hn : f.name ≠ [] ∧ kn = true
    · rw [if_pos hn]
      obtain ⟨hn1, rfl⟩ := hn
      exact do_80a k h80 hn1
    · rw [if_neg hn]
      refine do_80b k h80 ?_
      by_cases h1 : f.name = []
      · exact .inl h1
      · right
        cases kn
        · rfl
        · exact absurd ⟨h1, rfl⟩ hn
  · rw [if_neg h80]
    by_cases h1 : f.kind = 66 ∨ (f.kind = 68 ∧ f.what = 83)
    · rw [if_pos h1]; exact do_use k h1
    · rw [if_neg h1]
      by_cases h2 : f.kind = 67 ∧ f.what = 83
      · rw [if_pos h2]; exact do_67 k h2
      · rw [if_neg h2]
        by_cases h3 : f.kind = 72
        · rw [if_pos h3]; exact do_72 k h3
        · rw [if_neg h3]
          by_cases h4 : f.kind = 81
          · rw [if_pos h4]; exact do_81 k h4
          · rw [if_neg h4]
            refine do_else k ?_
            unfold NeedK at hk
            omega
set_option maxHeartbeats 4000000 in
set_option maxRecDepth 100000 in
theorem Do24g {tb : Nat} {va : Value} {s0 : Int × Bool} {A : List En} (d : Cst h0 h B c b m1 m2 s) (x0 : Ext No h0 h) (hf : f.ok h0) (hw : 0 ≤ f.kind ∧ f.kind ≤ 255) (hm : f.oids.length ≤ 1000000 ∧ f.formats.length ≤ 1000000 ∧ f.results.length ≤ 1000000 ∧ f.params.length ≤ 1000000)
    (hsp : Lst h0 h fun g => Rd g (.slice ss sn sc) 1 spec.length (ints spec)) (hsl : spec.length ≤ 40) (hcc : 0 ≤ c ∧ c + 2 ≤ 1000000) (kg : ∀ h', Ext No h h' → CallsH Tryz.prog 54 ⟨[.pointer (some ⟨tb, 0, none⟩), St f.name]⟩ h' fun u h1 => u = .tuple ⟨[In s0.1, .bool s0.2]⟩ ∧ h1 = h') (g : Gds h va A) :
    CallsH Tryz.prog 8 ⟨[ptE b, .pointer (some ⟨tb, 0, none⟩), va, .slice ss sn sc, In most, .agg ⟨f.cells⟩]⟩ h
      (DoR h0 h B c b m1 m2 (if NeedK f.kind then doA s (lookT f.name s0 (opsE A)) spec most f.pl else (s, [], []))) := by
  have kn := fun h' => needs_code (h := h') f hw
  have hfh : ∀ h', Ext No h0 h' → f.ok h' := fun h' x => hf.ext0 x
  have klk := fun h' (x : Ext No h h') => look_code0 f.name (fun g' y => kg g' (x.trans y)) (g.ext0 x)
  have kdo := fun (g : Heap) (f' : Fm) (jd : Int) (kn : Bool) (k : JH h0 g B c b m1 m2 s f' (.slice ss sn sc) spec) (hk : NeedK f'.kind) => do_any (most := most) (jd := jd) (kn := kn) k hk
  clear kg
  have hDo : ∀ u h' (f' : Fm) g, f'.pl = f.pl → NeedK f.kind → Ext No h g → DoR h0 g B c b m1 m2 (doA s ((lookT f.name s0 (opsE A)).1, (lookT f.name s0 (opsE A)).2) spec most f'.pl) u h' → DoR h0 h B c b m1 m2 (if NeedK f.kind then doA s (lookT f.name s0 (opsE A)) spec most f.pl else (s, [], [])) u h' := fun u h' f' g e hk x r => by
    rw [if_pos hk, ← e]
    exact r.from x
  have hNo : ¬ NeedK f.kind → ∀ h', Ext No h h' → DoR h0 h B c b m1 m2 (if NeedK f.kind then doA s (lookT f.name s0 (opsE A)) spec most f.pl else (s, [], [])) (.tuple ⟨[.slice none 0 0, .slice none 0 0]⟩) h' := fun hn h' x => by
    rw [if_neg hn]
    exact ⟨.nil, (d.ext0 x).up (by omega) (by omega), fs_no x⟩
  generalize (if NeedK f.kind then doA s (lookT f.name s0 (opsE A)) spec most f.pl else (s, [], [])) = RES at *
  generalize hlk : lookT f.name s0 (opsE A) = lk at *
  clear hlk
  obtain ⟨⟨e1, _⟩, ⟨e2, _⟩, ⟨e3, _⟩, e4⟩ := hf
  have e5 := e4.1
  generalize hP : f.pl = P at *
  obtain ⟨fk, w, n, p, t, vo, o, vf, fs, vs, rs, vp, ps, mx⟩ := f
  dsimp only at e1 e2 e3 e4 e5 hw hm
  obtain ⟨AA, ca, rfl, _⟩ := id g.row
  obtain ⟨_, _, rfl, _⟩ := id e1
  obtain ⟨_, _, rfl, _⟩ := id e2
  obtain ⟨_, _, rfl, _⟩ := id e3
  obtain ⟨_, _, rfl, _⟩ := id e5
  dsimp only [Fm.cells] at kn klk hDo hNo ⊢
  unfold ptE
  by_cases hnk : NeedK fk
  · rw [decide_eq_true hnk] at kn
    clear hNo
    refine calls [(0, _), (1, _), (2, _), (3, _), (4, _), (5, _)] Tryz.func8 rfl Tryz.ntmps8 rfl ⟨rfl, rfl, rfl, rfl, rfl, rfl, trivial⟩ ?_
    all_goals (refine WC.sr ?_; refine WL.stepR (okE_box rfl) rfl rfl rfl ?_; rintro _ h1 ⟨b11, rfl, hg1, hb1, hx1⟩; refine Go ?_; refine WC.seq ?_; refine WC.sr ?_; refine WL.step (ok_loadN (fun w => Tryz.isAgg27 w) (fun w => Tryz.sizeOf27 w) rfl rfl (by exact At.of_block hb1)) rfl rfl rfl ?_; refine WL.call (vs := [_]) rfl (fun a w => Tryz.call13 a w) rfl (kn _) rfl rfl rfl ?_; rintro _ h2 ⟨rfl, hx2⟩; have hb12 := hx2.obj hb1 nos; have hX2 := hx1.trans hx2; have x02 := x0.trans hX2; have l1 := lt_of_some hb1; have hs2 := hx2.size; refine Go ?_; refine Gs [(0, _), (1, _), (2, _), (3, _), (4, _), (11, _), (17, _)] ?_; refine goC 1 2 ?_ TT.mk; refine goB 2 ?_; refine WC.skip ?_; refine Gn ?_; refine WC.seq ?_; refine WC.drawH (fun h' => Ext No h2 h') 10 15 rfl fol ?_; refine WH.tk 0 rfl (fun hq hC => ok_fieldAddr rfl Tryz.underlying27 rfl (fun w => Tryz.sizeOf24 w)) rfl rfl rfl ?_; refine WH.tk 1 rfl (fun hq hC => ok_load (fun w => Tryz.isAgg24 w) rfl (by first | exact hC.cell (by first | exact cell_blk hb12 rfl | assumption | exact cell_blk (by assumption) rfl) nos)) rfl rfl rfl ?_; refine WH.tk 3 rfl (fun hq hC => ok_fieldAddr rfl Tryz.underlying27 rfl (fun w => Tryz.sizeOf24 w)) rfl rfl rfl ?_; refine WH.tk 4 rfl (fun hq hC => ok_load (fun w => Tryz.isAgg24 w) rfl (by first | exact hC.cell (by first | exact cell_blk hb12 rfl | assumption | exact cell_blk (by assumption) rfl) nos)) rfl rfl rfl ?_; refine WH.tk 6 rfl (fun hq hC => ok_fieldAddr rfl Tryz.underlying27 rfl (fun w => Tryz.sizeOf24 w)) rfl rfl rfl ?_; refine WH.tk 7 rfl (fun hq hC => ok_load (fun w => Tryz.isAgg24 w) rfl (by first | exact hC.cell (by first | exact cell_blk hb12 rfl | assumption | exact cell_blk (by assumption) rfl) nos)) rfl rfl rfl ?_; refine WH.one 2 (by kernel_rfl) ?_; refine Comes1.call (vs := [_]) rfl rfl (fun a w => Tryz.call27 a w) rfl (clone_int o (e1.ext0 x02) hm.1) rfl rfl rfl ?_ (fun _ => by kernel_rfl); rintro vo2 g1 ⟨oo1, hy1, _⟩; obtain ⟨Ao2, co2, rfl, _⟩ := oo1.slice; refine ⟨fun _ => hy1, ?_⟩; refine WH.tk 9 rfl (fun hq hC => ok_fieldAddr rfl Tryz.underlying27 rfl (fun w => Tryz.sizeOf24 w)) rfl rfl rfl ?_; refine WH.one 5 (by kernel_rfl) ?_; refine Comes1.call (vs := [_]) rfl rfl (fun a w => Tryz.call27 a w) rfl (clone_int fs (e2.ext0 (x02.trans hy1)) hm.2.1) rfl rfl rfl ?_ (fun _ => by kernel_rfl); rintro vf2 g2 ⟨of2, hy2, _⟩; obtain ⟨Af2, cf2, rfl, _⟩ := of2.slice; refine ⟨fun _ => hy1.trans hy2, ?_⟩; have hY2 := hy1.trans hy2; refine WH.one 8 (by kernel_rfl) ?_; refine Comes1.call (vs := [_]) rfl rfl (fun a w => Tryz.call27 a w) rfl (clone_int rs (e3.ext0 (x02.trans hY2)) hm.2.2.1) rfl rfl rfl ?_ (fun _ => by kernel_rfl); rintro vs2 g3 ⟨os3, hy3, _⟩; obtain ⟨As2, cs2, rfl, _⟩ := os3.slice; refine ⟨fun _ => hY2.trans hy3, ?_⟩; have hY3 := hY2.trans hy3; refine WH.one 10 (by kernel_rfl) ?_; refine Comes1.run0 rfl (okE_store (fun w => Tryz.sizeOf24 w) rfl rfl (hY3.obj hb12 nos) (Nat.le_of_ble_eq_true rfl) rfl rfl) rfl rfl ?_ (fun _ => by kernel_rfl); rintro _ h10 ⟨hb10, hx10⟩; refine ⟨fun e => (by cases e), ?_⟩; refine WH.one 11 (by kernel_rfl) ?_; refine Comes1.run rfl (OkP.r (ok_fieldAddr rfl Tryz.underlying27 rfl (fun w => Tryz.sizeOf24 w))) rfl rfl rfl ?_ (fun _ => by kernel_rfl); rintro _ hz ⟨rfl, _⟩; subst hz)
    all_goals (refine ⟨fun e => (by cases e), ?_⟩; refine WH.one 12 (by kernel_rfl) ?_; refine Comes1.run0 rfl (okE_store (fun w => Tryz.sizeOf24 w) rfl rfl hb10 (Nat.le_of_ble_eq_true rfl) rfl rfl) rfl rfl ?_ (fun _ => by kernel_rfl); rintro _ h12 ⟨hb12', hx12⟩; refine ⟨fun e => (by cases e), ?_⟩; refine WH.one 13 (by kernel_rfl) ?_; refine Comes1.run rfl (OkP.r (ok_fieldAddr rfl Tryz.underlying27 rfl (fun w => Tryz.sizeOf24 w))) rfl rfl rfl ?_ (fun _ => by kernel_rfl); rintro _ hz ⟨rfl, _⟩; subst hz; refine ⟨fun e => (by cases e), ?_⟩; refine WH.one 14 (by kernel_rfl) ?_; refine Comes1.run0 rfl (okE_store (fun w => Tryz.sizeOf24 w) rfl rfl hb12' (Nat.le_of_ble_eq_true rfl) rfl rfl) rfl rfl ?_ (fun _ => by kernel_rfl); rintro _ h14 ⟨hb14, hx14⟩; refine ⟨fun e => (by cases e), ?_⟩; have hZ : Ext (fun q => q = b11) g3 h14 := (hx10.trans hx12).trans hx14; have X14 : Ext No h h14 := (hX2.trans hY3).trans' hZ (fun q hq e => by omega); have x014 := x0.trans X14; (have tyZ : ∀ {w : Value} {k : Nat} {xs : List Value}, Own g3 w 3 1 k xs → Own h14 w 3 1 k xs := fun ho => ho.ext hZ (fun q hq e => by obtain ⟨_, y⟩ := own_ty ho hq; rw [show q = b11 from e, hY3.obj hb12 nos] at y; simp at y)); have LO := (lst_own (h0 := h0) (tyZ ((oo1.ext hy2 (fun _ _ => nos)).ext hy3 (fun _ _ => nos))) (by decide)); have LF := (lst_own (h0 := h0) (tyZ (of2.ext hy3 (fun _ _ => nos))) (by decide)); have LS := (lst_own (h0 := h0) (tyZ os3) (by decide)); clear hb10 hb12'; have l14 := lt_of_some hb14; refine WH.done (by kernel_rfl) ?_; refine Gn ?_; refine Gs [(0, _), (1, _), (2, _), (3, _), (4, _), (11, _)] ?_; refine WC.sr ?_; refine Go ?_; refine WL.ld rfl (by first | exact cell_blk hb14 rfl | assumption | exact cell_blk (by assumption) rfl) rfl rfl rfl ?_; refine WL.call (vs := [_]) rfl (fun a w => Tryz.call28 a w) rfl (cells24 ps (e4.ext0 x014) hm.2.2.2) rfl rfl rfl ?_; rintro v15' h15 ⟨R, oR, hRp, hRo, hx15, hf15⟩; obtain ⟨Ar, cr, rfl, _⟩ := oR.slice; refine Go ?_; refine WL.stepR0 (okE_store (fun w => Tryz.sizeOf25 w) rfl rfl (hx15.obj hb14 nos) (Nat.le_of_ble_eq_true rfl) rfl rfl) rfl rfl ?_; rintro _ h16 ⟨hb16, hx16⟩)
    all_goals (have X16 : Ext No h h16 := (X14.trans hx15).trans' hx16 (fun q hq e => by omega)
               have hs15 := hx15.size
               have s16 : Sf h0 h15 (fun q => q = b11) := fun q e => ⟨by have := x0.size; rw [show q = b11 from e]; omega, fun ty => absurd (ty_one (hx15.obj hb14 nos) (e ▸ ty)) (by decide)⟩
               have LR : Lst h0 h16 fun z => Own z (.slice Ar R.length cr) 69 2 R.length (R.flatMap Cel.cells) := (lst_own oR (by decide)).step hx16 s16
               have LC : ∀ x ∈ R, Lst h0 h16 fun z => x.ok z := fun x hx => ((lst_own (h0 := h0) (hRo x hx).1 (by decide)).mono fun _ z => (⟨z.rd, (hRo x hx).2⟩ : x.ok _)).step hx16 s16
               have hRl : R.length = ps.length := by have := congrArg List.length hRp; simpa using this
               obtain ⟨_, _, ecap, hcap⟩ := oR.cap
               simp only [Value.slice.injEq] at ecap
               have LFm : Lst h0 h16 fun z => (⟨fk, w, n, p, t, .slice Ao2 o.length co2, o, .slice Af2 fs.length cf2, fs, .slice As2 rs.length cs2, rs, .slice Ar R.length cr, R, mx⟩ : Fm).ok z := fun S g9 x9 s9 => ⟨⟨(((LO.ext0 hx15).step hx16 s16) S g9 x9 s9).rd, by show o.length ≤ maxLen; unfold maxLen; omega⟩, ⟨(((LF.ext0 hx15).step hx16 s16) S g9 x9 s9).rd, by show fs.length ≤ maxLen; unfold maxLen; omega⟩, ⟨(((LS.ext0 hx15).step hx16 s16) S g9 x9 s9).rd, by show rs.length ≤ maxLen; unfold maxLen; omega⟩, ⟨(LR S g9 x9 s9).rd, ⟨by have := e4.2.1.1; rw [hRl]; exact this, Ar, cr, rfl, by rw [ecap.2.2]; exact hcap⟩, fun x hx => LC x hx S g9 x9 s9⟩⟩)
    all_goals (refine Gn ?_; refine Gs [(0, _), (1, _), (2, _), (3, _), (4, _), (11, _)] ?_; refine WC.sr ?_; refine WL.step (ok_loadN (fun w => Tryz.isAgg27 w) (fun w => Tryz.sizeOf27 w) rfl rfl (by exact At.of_block hb16)) rfl rfl rfl ?_; refine Go ?_; refine WL.step (ok_buildF (vs := [_, _, _, _]) (cs := [_, _, _, _, _, _, _, _, _, _, _, _, _, _, _]) (fun | [.agg ⟨[a0, a1, a2, a3, a4, a5, a6, a7, a8, a9]⟩, a10, a11, a12] => [a0, a1, a2, a3, a4, a5, a6, a7, a8, a9, a10, a11, a12, (.int .i64 0), (.bool false)] | _ => []) rfl rfl (by kernel_rfl)) rfl rfl rfl ?_; refine WL.stepR (okE_alloc (fun w => Tryz.zeroValue74 w)) rfl rfl rfl ?_; rintro _ h17 ⟨b14, rfl, hg17, hb17, hx17⟩; refine WL.stepR0 (okE_storeW (fun w => Tryz.sizeOf74 w) rfl rfl rfl hb17 rfl (by simp [Value.oneCell'])) rfl rfl ?_; rintro _ h18 ⟨hb18, hx18⟩; have hb1618 := hx18.obj (hx17.obj hb16 nos) (fun e => by have := lt_of_some hb16; omega); have x1618 : Ext No h16 h18 := hx17.trans' hx18 (fun q hq e => by omega); have X18 := X16.trans x1618; have l18 := lt_of_some hb18; refine Gn ?_; refine Gs [(1, _), (2, _), (11, _), (14, _)] ?_; refine WC.sr ?_; refine Go ?_; refine WL.ld rfl (by first | exact cell_blk hb1618 rfl | assumption | exact cell_blk (by assumption) rfl) rfl rfl rfl ?_; refine WL.call (vs := [_, _, _]) rfl (fun a w => Tryz.call29 a w) rfl (klk _ X18) rfl rfl rfl ?_; rintro _ h19 ⟨rfl, hx19⟩; refine Go ?_; refine WL.stepR0 (okE_store (fun w => Tryz.sizeOf3 w) rfl rfl (hx19.obj hb18 nos) (Nat.le_of_ble_eq_true rfl) rfl rfl) rfl rfl ?_; rintro _ h20 ⟨hb20, hx20⟩; refine Go ?_; refine WL.stepR0 (okE_store (fun w => Tryz.sizeOf4 w) rfl rfl hb20 (Nat.le_of_ble_eq_true rfl) rfl rfl) rfl rfl ?_; rintro _ h21 ⟨hb21, hx21⟩; have hs16 := hx16.size; have x1921 : Ext (fun q => q = b14) h19 h21 := hx20.trans hx21; have X19 := X18.trans hx19; have hs19 := X16.size; have X21 : Ext No h h21 := X19.trans' x1921 (fun q hq e => by omega); have hx1621 : Ext No h16 h21 := (x1618.trans hx19).trans' x1921 (fun q hq e => by omega); refine Gn ?_; refine Gs [(14, _)] ?_; refine WC.sr ?_; refine WL.step (ok_loadN (fun w => Tryz.isAgg74 w) (fun w => Tryz.sizeOf74 w) rfl rfl (by exact At.of_block hb21)) rfl rfl rfl ?_; refine WL.call (vs := [_]) rfl (fun a w => Tryz.call30 a w) rfl (kdo _ (⟨fk, w, n, p, t, .slice Ao2 o.length co2, o, .slice Af2 fs.length cf2, fs, .slice As2 rs.length cs2, rs, .slice Ar R.length cr, R, mx⟩ : Fm) _ _ ⟨d.ext0 X21, x0.trans X21, LFm.ext0 hx1621, hsp.ext0 X21, hsl, hcc⟩ hnk) rfl rfl rfl ?_; rintro _ h22 hr; obtain ⟨vF, vE, rfl⟩ := gives_u hr.1; refine Go ?_; refine Gs [(12, _), (13, _)] ?_; refine Gt ?_; exact hDo _ _ _ _ (by rw [← hP]; simp only [Fm.pl, hRp]) hnk X21 hr)
  · rw [decide_eq_false hnk] at kn
    refine calls [(0, _), (1, _), (2, _), (3, _), (4, _), (5, _)] Tryz.func8 rfl Tryz.ntmps8 rfl ⟨rfl, rfl, rfl, rfl, rfl, rfl, trivial⟩ ?_
    all_goals (refine WC.sr ?_; refine WL.stepR (okE_box rfl) rfl rfl rfl ?_; rintro _ h1 ⟨b11, rfl, hg1, hb1, hx1⟩; refine Go ?_; refine WC.seq ?_; refine WC.sr ?_; refine WL.step (ok_loadN (fun w => Tryz.isAgg27 w) (fun w => Tryz.sizeOf27 w) rfl rfl (by exact At.of_block hb1)) rfl rfl rfl ?_; refine WL.call (vs := [_]) rfl (fun a w => Tryz.call13 a w) rfl (kn _) rfl rfl rfl ?_; rintro _ h2 ⟨rfl, hx2⟩; refine Go ?_; refine Gs [(0, _), (1, _), (2, _), (3, _), (4, _), (11, _), (17, _)] ?_; refine goC 1 2 ?_ TT.mk; refine goB 1 ?_; refine WC.sr ?_; refine Go ?_; refine Gs [(12, _), (13, _)] ?_; refine Gt ?_; exact hNo hnk _ (hx1.trans hx2))
theorem Do24 {hT : Heap} {tb tm bt' : Nat} {v15 va : Value} {most15 : Int} {T : List NI} {A : List En} (d : Cst h0 h B c b m1 m2 s) (x0 : Ext No h0 h) (hf : f.ok h0) (hw : 0 ≤ f.kind ∧ f.kind ≤ 255) (hm : f.oids.length ≤ 1000000 ∧ f.formats.length ≤ 1000000 ∧ f.results.length ≤ 1000000 ∧ f.params.length ≤ 1000000)
    (hsp : Rd h0 (.slice ss sn sc) 1 spec.length (ints spec)) (hsl : spec.length ≤ 40) (hcc : 0 ≤ c ∧ c + 2 ≤ 1000000) (dT : T15 hT h tb tm bt' v15 most15 T) (g : Gds h va A) :
    CallsH Tryz.prog 8 ⟨[ptE b, .pointer (some ⟨tb, 0, none⟩), va, .slice ss sn sc, In most, .agg ⟨f.cells⟩]⟩ h
      (DoR h0 h B c b m1 m2 (if NeedK f.kind then doA s (lookT f.name ((getL T f.name).getD 0, (getL T f.name).isSome) (opsE A)) spec most f.pl else (s, [], []))) :=
  Do24g d x0 hf hw hm (lst_old x0 fun _ x => hsp.ext0 x) hsl hcc (fun _ hx => (tget_both (dT.stay hx (fun _ _ => nos)) f.name).1) g
end
end Go.Proofs.YtggmocdbfbhklaaGreat


/-
  What the laws of layer 24 are given: statements, names, numbers, a message.
-/
namespace Go.Proofs.YtggmocdbfbhklaaGreat
open Go Go.RK

set_option maxHeartbeats 2000000 in
set_option maxRecDepth 100000 in
theorem has_cel {h : Heap} {v : Value} (l : List Cel) (p : Cel → Bool) {fk : Nat} {fs us : List Value} (hcf : ∀ (args : Array Value) (w : World), (callFunc fk args).run Tryz.prog w = .ok (.enter fk args) w) (hr : Rd h v 2 l.length (l.flatMap Cel.cells)) (hm : l.length ≤ maxLen)
    (hp : ∀ x ∈ l, ∀ h', Ext No h h' → CallsH Tryz.prog fk ⟨fs ++ [.agg ⟨Cel.cells x⟩] ++ us⟩ h' fun u h'' => u = .bool (p x) ∧ Ext No h' h'') :
    CallsH Tryz.prog 25 ⟨[v, .func (.func fk) ⟨fs⟩ ⟨us⟩]⟩ h fun u h' => u = .bool (l.any p) ∧ Ext No h h' := by
  refine calls [(0, _), (1, _)] Tryz.func25 rfl Tryz.ntmps25 rfl ⟨rfl, rfl, trivial⟩ ?_
  all_goals (refine WC.sr ?_; refine Go ?_; refine WC.sr ?_; refine Go ?_; refine WL.call (vs := [_, _]) rfl (fun a w => Tryz.call51 a w) rfl (indexFunc_cel l p hcf hr hm hp) rfl rfl rfl ?_; rintro _ h1 ⟨rfl, hx1⟩; refine WL.step (ok_geq rfl rfl) rfl rfl rfl ?_; refine Go ?_; refine Gs [(4, _)] ?_; refine Gt ?_; exact ⟨by rw [idxP_geq], hx1⟩)

theorem wf_u8 {n : Int} (h : (Lit.int .u8 n).wf = true) : 0 ≤ n ∧ n ≤ 255 := by simpa [Lit.wf, IntKind.min, IntKind.max, IntKind.signed, IntKind.bits] using h
theorem opens_fm (w : World) : Opens Tryz.prog w 27 Fm.cells (fun b => b.ok w.heap ∧ 0 ≤ b.kind ∧ b.kind ≤ 255) := by
  have hi : ∀ {v : Value} {l : List Int}, Rd w.heap v 1 l.length (l.flatMap fun n : Int => [In n]) → Rd w.heap v 1 l.length (ints l) := fun h => by rwa [flat_one] at h
  have h10 := opensF_cons (P := Tryz.prog) (w := w) (o := 9) (f := ⟨ "Max", 3, 9, false, "", "", 152⟩) rfl (opens_int Tryz.underlying3) (by kernel_rfl) (fun _ => rfl) opensF_nil
  have h9 := opensF_cons (P := Tryz.prog) (w := w) (o := 8) (f := ⟨ "Params", 25, 8, false, "", "", 128⟩) rfl (opens_cells w) (by kernel_rfl) (fun _ => rfl) h10
  have h8 := opensF_cons (P := Tryz.prog) (w := w) (o := 7) (f := ⟨ "Results", 24, 7, false, "", "", 104⟩) rfl (opens_slice (sz := 1) (F := fun n : Int => [In n]) Tryz.underlying24 (by kernel_rfl) (by decide) (fun _ => rfl) (opens_int Tryz.underlying3)) (by kernel_rfl) (fun _ => rfl) h9
  have h7 := opensF_cons (P := Tryz.prog) (w := w) (o := 6) (f := ⟨ "Formats", 24, 6, false, "", "", 80⟩) rfl (opens_slice (sz := 1) (F := fun n : Int => [In n]) Tryz.underlying24 (by kernel_rfl) (by decide) (fun _ => rfl) (opens_int Tryz.underlying3)) (by kernel_rfl) (fun _ => rfl) h8
  have h6 := opensF_cons (P := Tryz.prog) (w := w) (o := 5) (f := ⟨ "OIDs", 24, 5, false, "", "", 56⟩) rfl (opens_slice (sz := 1) (F := fun n : Int => [In n]) Tryz.underlying24 (by kernel_rfl) (by decide) (fun _ => rfl) (opens_int Tryz.underlying3)) (by kernel_rfl) (fun _ => rfl) h7
  have h5 := opensF_cons (P := Tryz.prog) (w := w) (o := 4) (f := ⟨ "Text", 9, 4, false, "", "", 40⟩) rfl (opens_string Tryz.underlying9) (by kernel_rfl) (fun _ => rfl) h6
  have h4 := opensF_cons (P := Tryz.prog) (w := w) (o := 3) (f := ⟨ "Portal", 9, 3, false, "", "", 24⟩) rfl (opens_string Tryz.underlying9) (by kernel_rfl) (fun _ => rfl) h5
  have h3 := opensF_cons (P := Tryz.prog) (w := w) (o := 2) (f := ⟨ "Name", 9, 2, false, "", "", 8⟩) rfl (opens_string Tryz.underlying9) (by kernel_rfl) (fun _ => rfl) h4
  have h2 := opensF_cons (P := Tryz.prog) (w := w) (o := 1) (f := ⟨ "What", 5, 1, false, "", "", 1⟩) rfl (opens_int Tryz.underlying5) (by kernel_rfl) (fun _ => rfl) h3
  have h1 := opensF_cons (P := Tryz.prog) (w := w) (o := 0) (f := ⟨ "Kind", 5, 0, false, "", "", 0⟩) rfl (opens_int Tryz.underlying5) (by kernel_rfl) (fun _ => rfl) h2
  have h0 := opens_struct Tryz.underlying27 (by kernel_rfl) h1
  refine h0.map (fun p => (⟨p.1, p.2.1, p.2.2.1, p.2.2.2.1, p.2.2.2.2.1, p.2.2.2.2.2.1.1, p.2.2.2.2.2.1.2, p.2.2.2.2.2.2.1.1, p.2.2.2.2.2.2.1.2, p.2.2.2.2.2.2.2.1.1, p.2.2.2.2.2.2.2.1.2, p.2.2.2.2.2.2.2.2.1.1, p.2.2.2.2.2.2.2.2.1.2, p.2.2.2.2.2.2.2.2.2.1⟩ : Fm)) (fun _ => rfl) (fun p q => ?_)
  obtain ⟨q1, q2, q3, q4, q5, q6, q7, q8, q9, q10, _⟩ := q
  exact ⟨⟨⟨hi q6.1, q6.2.1⟩, ⟨hi q7.1, q7.2.1⟩, ⟨hi q8.1, q8.2.1⟩, q9⟩, wf_u8 q1⟩
theorem opens_texts (w : World) : Opens Tryz.prog w 23 (fun p : Value × List (List UInt8) => [p.1]) (fun p => Rd w.heap p.1 1 p.2.length (p.2.map St) ∧ p.2.length ≤ maxLen) :=
  (opens_slice (sz := 1) (F := fun l : List UInt8 => [St l]) Tryz.underlying23 (by kernel_rfl) (by decide) (fun _ => rfl) (opens_string Tryz.underlying9)).map id (fun _ => rfl) fun p q => ⟨by have := q.1; rw [flat_one] at this; exact this, q.2.1⟩
theorem opens_stms (w : World) : Opens Tryz.prog w 22 (fun p : Value × List Stm => [p.1]) (fun p => Rd w.heap p.1 2 p.2.length (p.2.flatMap stC) ∧ p.2.length ≤ maxLen ∧ ∀ d ∈ p.2, stOk w.heap d) :=
  (opens_slice Tryz.underlying22 (by kernel_rfl) (by decide) stC_len (opens_stm w)).map id (fun _ => rfl) fun p q => ⟨q.1, q.2.1, q.2.2.2.1⟩

/-! ### few -/
structure Fm.few (b : Fm) : Prop where
  oids : b.oids.length ≤ 50
  formats : b.formats.length ≤ 50
  results : b.results.length ≤ 50
  params : b.params.length ≤ 50
set_option maxHeartbeats 2000000 in
set_option maxRecDepth 100000 in
theorem pf1 {h h0 : Heap} (c : Cel) (hk : c.ok h0) : CallsH Tryz.prog 26 ⟨[.agg ⟨c.cells⟩]⟩ h fun u h' => u = .bool (decide (300 < c.bytes.length)) ∧ Ext No h h' := by
  obtain ⟨nl, v, bs⟩ := c
  obtain ⟨A, cc, e, _⟩ := hk.1
  simp only at e
  subst e
  dsimp only [Cel.cells]
  refine calls [(0, _)] Tryz.func26 rfl Tryz.ntmps26 rfl ⟨rfl, trivial⟩ ?_
  all_goals (refine WC.sr ?_; refine WL.stepR (okE_box rfl) rfl rfl rfl ?_; rintro _ h1 ⟨b1, rfl, hg1, hb1, hx1⟩; refine Go ?_; refine WC.sr ?_; refine Go ?_; refine Ld ?_; refine Go ?_; refine Gs [(2, _)] ?_; refine Gt ?_; exact ⟨congrArg Value.bool (decide_eq_decide.2 (by omega)), hx1⟩)
end Go.Proofs.YtggmocdbfbhklaaGreat


/-
  KNOWN (layer 24): a registry and a table, of the code and of the document, that hold what the law was given.
-/
namespace Go.Proofs.YtggmocdbfbhklaaGreat
open Go Go.RK

theorem retP_4 {P : Program} {h : Heap} {f : Fr} {fn : Func} {R : Value → Heap → Prop} (v u x y : Value) (hr : ResL P h f fn.results.toList [v, u, x, y]) (hR : R (.tuple ⟨[v, u, x, y]⟩) h) : retP P fn R .ret f h := ⟨[v, u, x, y], hr, hR⟩
/-! ### they keep out of each other's way -/
theorem ty_not {l l' : List TypeId} {h : Heap} {q : Nat} (hd : ∀ T ∈ l, T ∉ l') (k : Ty l h q) : ¬ Ty l' h q := fun k' => by
  obtain ⟨cs, T, e1, e2⟩ := k
  exact hd T e2 (ty_one e1 k')
section
variable {h0 hT h h1 h' : Heap} {B B' : Nat} {c : Int} {b m1 m2 bt tb tm tr : Nat} {v15 : Value} {most : Int} {s s' : RS} {T : List NI} {S : Nat → Prop}
theorem T15.turn (d : T15 hT h tb tm tr v15 most T) (e : Ext S h h1) (hS : ∀ k, S k → hT.size ≤ k ∧ k ≠ tm ∧ ¬ Ty [107, 110, 115] h k) : T15 hT h1 tb tm tr v15 most T := by
  obtain ⟨E, t, hp⟩ := d.tb
  exact ⟨⟨E, t.ext e (fun z => (hS _ z).2.2 ⟨_, _, t.cells, by simp⟩) (fun z => (hS _ z).2.1 rfl), hp⟩, d.rf.ext e (fun z => (hS _ z).2.2 ⟨_, _, d.rf.blk, by simp⟩) (fun q hq z => by obtain ⟨_, e2⟩ := own_kd d.rf.own hq; exact (hS _ z).2.2 ⟨_, _, e2, by simp⟩), d.rise, d.ext.trans' e (fun k hk z => absurd hk (by have := (hS k z).1; omega)), d.lo, d.le, d.most⟩
theorem T15.map (d : T15 hT h tb tm tr v15 most T) : ∃ es ck, h[tm]? = some (.map es ck) := by
  obtain ⟨E, t, _⟩ := d.tb
  obtain ⟨_, _, e, _⟩ := t.map
  exact ⟨_, _, e⟩
theorem dst_cs (d : Dst h0 h B bt s) (cm : Cst h0 h B' c b m1 m2 s') (x : Ext (CS h0 m1 m2 h) h h1) : Dst h0 h1 B bt s := by
  obtain ⟨⟨es, ck, e1⟩, es2, ck2, e2⟩ := cm.maps
  refine d.ext x fun q hq => hq.2.elim (fun z => ?_) (ty_not (by decide))
  simp only [List.mem_cons, List.not_mem_nil, or_false] at z
  rcases z with rfl | rfl
  · exact ty_map e1
  · exact ty_map e2
theorem cst_ds (d : Cst h0 h B c b m1 m2 s) (x : Ext (DS h0 h) h h1) : Cst h0 h1 B c b m1 m2 s := by
  obtain ⟨⟨es, ck, e1⟩, es2, ck2, e2⟩ := d.maps
  refine d.ext x fun q hq => hq.2.elim (fun z => by cases z) fun ty => ⟨?_, ?_, ty_not (by decide) ty⟩
  · rintro rfl; exact ty_map e1 ty
  · rintro rfl; exact ty_map e2 ty
theorem t15_cs (d : T15 hT h tb tm tr v15 most T) (hTz : hT.size ≤ h0.size) (cm : Cst h0 h B' c b m1 m2 s') (ne : tm ≠ m1 ∧ tm ≠ m2) (x : Ext (CS h0 m1 m2 h) h h1) : T15 hT h1 tb tm tr v15 most T := by
  obtain ⟨⟨es, ck, e1⟩, es2, ck2, e2⟩ := cm.maps
  obtain ⟨es3, ck3, e3⟩ := d.map
  refine d.turn x fun q hq => ⟨Nat.le_trans hTz hq.1, ?_⟩
  rcases hq.2 with z | ty
  · simp only [List.mem_cons, List.not_mem_nil, or_false] at z
    rcases z with rfl | rfl
    · exact ⟨fun e => ne.1 e.symm, ty_map e1⟩
    · exact ⟨fun e => ne.2 e.symm, ty_map e2⟩
  · exact ⟨by rintro rfl; exact ty_map e3 ty, ty_not (by decide) ty⟩
theorem t15_ds (d : T15 hT h tb tm tr v15 most T) (hTz : hT.size ≤ h0.size) (x : Ext (DS h0 h) h h1) : T15 hT h1 tb tm tr v15 most T := by
  obtain ⟨es3, ck3, e3⟩ := d.map
  refine d.turn x fun q hq => ⟨Nat.le_trans hTz hq.1, ?_⟩
  rcases hq.2 with z | ty
  · cases z
  · exact ⟨by rintro rfl; exact ty_map e3 ty, ty_not (by decide) ty⟩
theorem m15_ty (d : T15 hT h tb tm tr v15 most T) {q : Nat} (hq : M15 tm tr v15 q) : q = tm ∨ Ty [110, 115] h q := by
  rcases hq with rfl | rfl | e
  · exact .inl rfl
  · exact .inr ⟨_, _, d.rf.blk, by simp⟩
  · obtain ⟨_, e2⟩ := own_kd d.rf.own e
    exact .inr ⟨_, _, e2, by simp⟩
theorem cst_15 (d : Cst h0 h B c b m1 m2 s) (t : T15 hT h tb tm tr v15 most T) (ne : tm ≠ m1 ∧ tm ≠ m2) (x : Ext (M15 tm tr v15) h h1) : Cst h0 h1 B c b m1 m2 s := by
  obtain ⟨⟨es, ck, e1⟩, es2, ck2, e2⟩ := d.maps
  obtain ⟨es3, ck3, e3⟩ := t.map
  refine d.ext x fun q hq => ?_
  rcases m15_ty t hq with rfl | ty
  · exact ⟨ne.1, ne.2, ty_map e3⟩
  · exact ⟨by rintro rfl; exact ty_map e1 ty, by rintro rfl; exact ty_map e2 ty, ty_not (by decide) ty⟩
theorem dst_15 (d : Dst h0 h B bt s) (t : T15 hT h tb tm tr v15 most T) (x : Ext (M15 tm tr v15) h h1) : Dst h0 h1 B bt s := by
  obtain ⟨es3, ck3, e3⟩ := t.map
  refine d.ext x fun q hq => ?_
  rcases m15_ty t hq with rfl | ty
  · exact ty_map e3
  · exact ty_not (by decide) ty
end
/-- A registry and a table, of the code and of the document. -/
structure Kn (h0 h : Heap) (c : Int) (b m1 m2 bt tb tm tr : Nat) (v15 : Value) (s : RS) (T : List NI) : Prop where
  cst : Cst h0 h h0.size c b m1 m2 s
  dst : Dst h0 h h0.size bt s
  tab : T15 h0 h tb tm tr v15 40 T
  ne : tm ≠ m1 ∧ tm ≠ m2
  ext : Ext No h0 h
section
variable {h0 h h1 h2 : Heap} {c c' : Int} {b m1 m2 bt tb tm tr : Nat} {v15 v15' : Value} {s s' : RS} {T T' : List NI}
theorem Kn.ext0 (k : Kn h0 h c b m1 m2 bt tb tm tr v15 s T) (x : Ext No h h1) : Kn h0 h1 c b m1 m2 bt tb tm tr v15 s T := ⟨k.cst.ext0 x, k.dst.ext0 x, k.tab.stay x (fun _ _ => nos), k.ne, k.ext.trans x⟩
theorem Kn.up (k : Kn h0 h c b m1 m2 bt tb tm tr v15 s T) (k1 : c ≤ c') (k2 : c' ≤ 1000000) : Kn h0 h c' b m1 m2 bt tb tm tr v15 s T := ⟨k.cst.up k1 k2, k.dst, k.tab, k.ne, k.ext⟩
/-- Both registries have taken one in. -/
theorem Kn.two (k : Kn h0 h c b m1 m2 bt tb tm tr v15 s T) (x : Ext (CS h0 m1 m2 h) h h1) (cm : Cst h0 h1 h0.size c' b m1 m2 s') (y : Ext (DS h0 h1) h1 h2) (dm : Dst h0 h2 h0.size bt s') : Kn h0 h2 c' b m1 m2 bt tb tm tr v15 s' T :=
  ⟨cst_ds cm y, dm, t15_ds (t15_cs k.tab (Nat.le_refl _) k.cst k.ne x) (Nat.le_refl _) y, k.ne, fs_old (fs_old k.ext x) y⟩
/-- Both tables have. -/
theorem Kn.set (k : Kn h0 h c b m1 m2 bt tb tm tr v15 s T) (x : Ext (M15 tm tr v15) h h1) (t : T15 h0 h1 tb tm tr v15' 40 T') : Kn h0 h1 c b m1 m2 bt tb tm tr v15' s T' :=
  ⟨cst_15 k.cst k.tab k.ne x, dst_15 k.dst k.tab x, t, k.ne, t.ext⟩
end
set_option maxHeartbeats 4000000 in
set_option maxRecDepth 100000 in
theorem known24 {h0 h : Heap} {vl vn : Value} (l : List Stm) (N : List (List UInt8)) (X0 : Ext No h0 h) (hr : Rd h0 vl 2 l.length (l.flatMap stC)) (hl : l.length ≤ maxLen) (ok : ∀ d ∈ l, stOk h0 d) (hrn : Rd h0 vn 1 N.length (N.map St)) (hN : N.length ≤ maxLen) :
    CallsH Tryz.prog 5 ⟨[vl, vn]⟩ h fun u h' => ∃ b m1 m2 bt tb tm tr v15 s T, u = .tuple ⟨[ptE b, .pointer (some ⟨tb, 0, none⟩), ptE bt, .pointer (some ⟨tr, 0, none⟩)]⟩ ∧ Kn h h' 20 b m1 m2 bt tb tm tr v15 s T := by
  obtain ⟨A, c, rfl, _⟩ := id hr
  obtain ⟨An, cn, rfl, _⟩ := id hrn
  unfold maxLen at hl hN
  have kput := fun (g : Heap) (c : Int) (b m1 m2 : Nat) (s : RS) (d : Cst h g h.size c b m1 m2 s) (t : List UInt8) (v : Value) (o : List Int) (ok : stOk h0 (t, v, o)) (x : Ext No h g) (hc : c + 1 ≤ 1000000) => c_put (v := v) d t o (fun h' x' => ok.1.ext0 (X0.trans (fs_old x x'))) ok.le hc
  have kdput := fun (g : Heap) (c : Int) (bt : Nat) (s : RS) (d : Dst h g h.size bt s) (sv : Sv c s) (t : List UInt8) (v : Value) (o : List Int) (ok : stOk h0 (t, v, o)) (x : Ext No h g) (hc : c + 1 ≤ 1000000) => d_put (w := v) d sv hc x t o ⟨ok.1.ext0 X0, ok.2⟩
  unfold ptE at *
  refine calls [(0, _), (1, _)] Tryz.func5 rfl Tryz.ntmps5 rfl ⟨rfl, rfl, trivial⟩ ?_
  all_goals (refine WC.sr ?_; refine Go ?_; refine Gs [(0, _), (1, _)] ?_; refine WC.sr ?_; refine WL.call (vs := []) rfl (fun a w => Tryz.call18 a w) rfl (rg_new h.size (Nat.le_refl _)) rfl rfl rfl ?_; rintro _ h1 ⟨b, m1, m2, rfl, r1, hx1⟩; unfold ptE; refine WL.step (ok_buildF (vs := []) (cs := [_, _]) (fun | [] => [(.slice none 0 0), (.int .i64 0)] | _ => []) rfl rfl (by kernel_rfl)) rfl rfl rfl ?_; refine WL.stepR (okE_box rfl) rfl rfl rfl ?_; rintro _ h2 ⟨bt, rfl, hgt, hbt, hx2⟩; refine Go ?_; refine WC.sr ?_; refine WL.call (vs := [_]) rfl (fun a w => Tryz.call19 a w) rfl (new_yes 40 (by decide) (by decide)) rfl rfl rfl ?_; rintro _ h3 ⟨tb, tm, rfl, t3, htb, htm, hx3⟩; refine Go ?_; refine Gs [(0, _), (1, _), (8, _), (9, _), (10, _)] ?_; refine WC.sr ?_; refine WL.call (vs := [_]) rfl (fun a w => Tryz.call20 a w) rfl (new15_yes (by decide) (by decide)) rfl rfl rfl ?_; rintro _ h4 ⟨tr, rfl, t4, htr, hx4⟩)
  all_goals (have s1 := hx1.size
             have s2 := hx2.size
             have s3 := hx3.size
             have s4 := hx4.size
             have X4 : Ext No h h4 := ((hx1.trans hx2).trans hx3).trans hx4
             have C1 : Cst h h1 h.size 0 b m1 m2 (0, []) := ⟨⟨[], r1, rfl⟩, Nat.le_refl _⟩
             have hne : tm ≠ m1 ∧ tm ≠ m2 := by
              obtain ⟨⟨es, ck, e1⟩, es2, ck2, e2⟩ := C1.maps
              have := lt_of_some e1
              have := lt_of_some e2
              exact ⟨by omega, by omega⟩
             have K4 : Kn h h4 0 b m1 m2 bt tb tm tr (.slice none 0 0) (0, []) [] := ⟨C1.ext0 ((hx2.trans hx3).trans hx4), ⟨⟨_, [], ⟨((hx3.trans hx4)).obj hbt nos, Own.nil _ _ _, (fun _ e => by cases e), ⟨by omega, by simp [Value.ownBlock], fun _ e => by cases e⟩, ⟨by decide, fun _ e => by cases e⟩⟩, rfl⟩, Nat.le_refl _⟩, ⟨⟨[], t3.ext hx4 nos nos, .refl _⟩, t4, .nil, X4, ⟨by omega, by omega, by omega, fun _ e => by simp [Value.ownBlock] at e⟩, by simp, by decide⟩, hne, X4⟩
             clear t3 t4 hbt C1 r1)
  all_goals (refine Go ?_; refine Gs [(0, _), (1, _), (8, _), (9, _), (10, _), (12, _)] ?_; refine WC.seq ?_; refine WC.sr ?_; refine Go ?_; refine WC.block ?_)
  -- loop 0: slots that turn [30], that stay [1, 8, 9, 10, 12, 28, 29]
  all_goals (refine WC.loopG (X := Nat × Value × RS × List NI) (fun x => ([(30, In (x.1 : Int))] : Fr)) [(1, _), (8, _), (9, _), (10, _), (12, _), (28, _), (29, _)] (fun x h' => x.1 ≤ l.length ∧ x.1 ≤ 20 ∧ Kn h h' (x.1 : Int) b m1 m2 bt tb tm tr x.2.1 x.2.2.1 x.2.2.2) (fun x => l.length - x.1) ((0, .slice none 0 0, (0, []), [])) ⟨rfl, rfl, rfl, rfl, rfl, rfl, rfl, rfl, trivial⟩ (by exact ⟨Nat.zero_le _, Nat.zero_le _, K4⟩) ?_; rintro ⟨k, w, s, T⟩ h4' ⟨hk, hk20, d4⟩; dsimp only at hk hk20 d4)
  all_goals (refine WC.sub [(30, _), (1, _), (8, _), (9, _), (10, _), (12, _), (28, _), (29, _)] ⟨rfl, rfl, rfl, rfl, rfl, rfl, rfl, rfl, trivial⟩ ?_; dsimp only)
  all_goals (refine WC.sr ?_; refine Go ?_; refine WC.seq ?_; refine goC 1 2 (Hb.mk fun hb => ?_) (Hb.mk fun hb => ?_))
  all_goals (first | (fail_if_success refine goB 1 ?_) | (
  refine goB 1 ?_
  all_goals (refine WC.skip ?_)
  skip))
  all_goals (first | (fail_if_success refine goB 2 ?_) | (
  refine goB 2 ?_
  all_goals (refine WC.exit ?_; repeat' (with_reducible first | refine thenP_x ?_ | refine blockP_miss rfl ?_ | refine blockP_hit ?_ | refine blockP_n ?_ | refine thenP_n ?_))
  all_goals (refine Br.out (i := 1000) ?_)
  skip))
  all_goals (refine Gn ?_; first | (refine Br.keep ?_) | (refine WC.seq ?_))
  all_goals (first | (refine Br.keep ?_) | (refine WC.block ?_))
  all_goals (first | (refine Br.keep ?_) | (refine WC.sr ?_))
  all_goals (first
               | (refine Br.keep ?_)
               | (obtain ⟨bL, oL, hA, hbL, hat⟩ := Rd.at_ hr (by omega)
                  obtain ⟨⟨t, v, o⟩, hdk⟩ : ∃ d, l[k]? = some d := ⟨_, List.getElem?_eq_getElem (by omega)⟩
                  have X4' := X0.trans d4.ext
                  have hd : At h4' bL (oL + k * 2) [St t, v] := At.elem stC_len (hat.ext X4' nos) hdk
                  have okd := ok _ (List.mem_of_getElem? hdk)
                  have okr := okd.1
                  have okl : o.length ≤ maxLen := okd.le
                  dsimp only at okr
                  obtain ⟨Av, cv, hv, _⟩ := okr
                  subst hv
                  unfold maxLen at okl))
  all_goals (first | (refine Br.keep ?_) | (refine WL.step (ok_move rfl) rfl rfl rfl ?_))
  all_goals (first | (refine Br.keep ?_) | (refine WL.step (ok_idxAddrA Tryz.underlying22 (fun w => Tryz.sizeOf63 w) rfl rfl rfl (by omega) (by first | rfl | assumption)) rfl rfl rfl ?_))
  all_goals (first | (refine Br.keep ?_) | (refine WL.step (ok_loadN (fun w => Tryz.isAgg63 w) (fun w => Tryz.sizeOf63 w) rfl rfl (by exact hd)) rfl rfl rfl ?_))
  all_goals (first
               | (refine Br.keep ?_)
               | (refine WL.stepR (okE_alloc (fun w => Tryz.zeroValue63 w)) rfl rfl rfl ?_
                  rintro _ h5 ⟨b6, rfl, hg6, hb6, hx5⟩))
  all_goals (refine Go ?_)
  all_goals (first
               | (refine Br.keep ?_)
               | (refine WL.stepR0 (okE_storeW (fun w => Tryz.sizeOf63 w) rfl rfl rfl hb6 rfl (by simp [Value.oneCell'])) rfl rfl ?_
                  rintro _ h6 ⟨hb66, hx6⟩))
  all_goals (first
               | (refine Br.keep ?_)
               | (have hx46 : Ext No h4' h6 := hx5.trans' hx6 (fun q hq e => by omega)
                  have d6 := d4.ext0 hx46
                  have l6 := lt_of_some hb66))
  all_goals (refine Gn ?_; first | (refine Br.keep ?_) | (refine Gs [(1, _), (8, _), (9, _), (10, _), (12, _), (14, _), (15, _), (28, _), (29, _), (30, _)] ?_))
  all_goals (first | (refine Br.keep ?_) | (refine WC.seq ?_))
  all_goals (first | (refine Br.keep ?_) | (refine WC.sr ?_))
  all_goals (refine Go ?_; first | (refine Br.keep ?_) | (refine goP 37 (Hb.mk fun hb => ?_) (Hb.mk fun hb => ?_)))
  all_goals (refine Gg ?_; first | (refine Br.keep ?_) | (first | (refine WL.pass rfl rfl rfl ?_) | (refine WL.ld rfl (by first | exact cell_blk hb66 rfl | assumption | exact cell_blk (by assumption) rfl) rfl rfl rfl ?_)))
  all_goals (refine Gg ?_; refine Go ?_; first | (refine Br.keep ?_) | (first | (refine goP 43 ?_ TT.mk) | (refine goP 43 (Hb.mk fun hb => ?_) (Hb.mk fun hb => ?_))))
  all_goals (refine Gg ?_; first | (refine Br.keep ?_) | (first | (refine WL.pass rfl rfl rfl ?_) | (refine WL.ld rfl (by first | exact cell_blk hb66 rfl | assumption | exact cell_blk (by assumption) rfl) rfl rfl rfl ?_)))
  all_goals (refine Gg ?_; refine Go ?_; first | (refine Br.keep ?_) | (first | (refine goP 49 ?_ TT.mk) | (refine goP 49 (Hb.mk fun hb => ?_) (Hb.mk fun hb => ?_))))
  all_goals (first | (refine Br.keep ?_) | (first | (refine WL.pass rfl rfl rfl ?_) | (refine WL.step (ok_move rfl) rfl rfl rfl ?_)))
  all_goals (first | (refine Br.keep ?_) | (first | (refine WL.pass rfl rfl rfl ?_) | (refine WL.step (ok_eqlPn Tryz.underlying29 rfl rfl) rfl rfl rfl ?_)))
  all_goals (refine Go ?_; first | (refine Br.keep ?_) | (refine goP 53 ?_ TT.mk))
  all_goals (first | (refine Br.keep ?_) | (first | (refine WL.pass rfl rfl rfl ?_) | (refine WL.step (ok_move rfl) rfl rfl rfl ?_)))
  all_goals (first | (refine Br.keep ?_) | (first | (refine WL.pass rfl rfl rfl ?_) | (refine WL.step (ok_eqlPn Tryz.underlying28 rfl rfl) rfl rfl rfl ?_)))
  all_goals (refine Go ?_; first | (refine Br.keep ?_) | (refine Gs [(1, _), (8, _), (9, _), (10, _), (12, _), (14, _), (15, _), (28, _), (29, _), (30, _), (56, _)] ?_))
  all_goals (first | (refine Br.keep ?_) | (refine goC 3 4 ?_ TT.mk))
  all_goals (first | (fail_if_success refine goB 3 ?_) | (
  refine goB 3 ?_
  all_goals (refine WC.exit ?_; repeat' (with_reducible first | refine thenP_x ?_ | refine blockP_miss rfl ?_ | refine blockP_hit ?_ | refine blockP_n ?_ | refine thenP_n ?_))
  all_goals (refine Br.out (i := 1000) ?_)
  skip))
  all_goals (first | (fail_if_success refine goB 4 ?_) | (
  refine goB 4 ?_
  all_goals (refine WC.skip ?_)
  skip))
  all_goals (refine Gn ?_; first | (refine Br.keep ?_) | (refine WC.sr ?_))
  all_goals (refine Go ?_; first | (refine Br.keep ?_) | (refine WL.step (ok_loadN (fun w => Tryz.isAgg63 w) (fun w => Tryz.sizeOf63 w) rfl rfl (by exact At.of_block hb66)) rfl rfl rfl ?_))
  all_goals (first
               | (refine Br.keep ?_)
               | (refine WL.call (vs := [_, _]) rfl (fun a w => Tryz.call21 a w) rfl (kput _ _ _ _ _ _ d6.cst t _ o okd d6.ext (by omega)) rfl rfl rfl ?_
                  rintro _ h7 ⟨rfl, c7, hx7⟩))
  all_goals (first
               | (refine Br.keep ?_)
               | (have hb67 := hx7.obj hb66 (fun e => by
                   rcases e.2 with z | ty
                   · simp only [List.mem_cons, List.not_mem_nil, or_false] at z
                     obtain ⟨⟨es, ck, e1⟩, es2, ck2, e2⟩ := d6.cst.maps
                     rcases z with rfl | rfl
                     · rw [hb66] at e1; cases e1
                     · rw [hb66] at e2; cases e2
                   · exact absurd (ty_one hb66 ty) (by decide))
                  have d7 := dst_cs d6.dst d6.cst hx7
                  have x7 := fs_old d6.ext hx7))
  all_goals (refine Go ?_; first | (refine Br.keep ?_) | (refine Gs [(1, _), (8, _), (9, _), (10, _), (12, _), (14, _), (15, _), (16, _), (28, _), (29, _), (30, _)] ?_))
  all_goals (first | (refine Br.keep ?_) | (refine WC.sr ?_))
  all_goals (refine Go ?_; first | (refine Br.keep ?_) | (refine WL.step (ok_loadN (fun w => Tryz.isAgg63 w) (fun w => Tryz.sizeOf63 w) rfl rfl (by exact At.of_block hb67)) rfl rfl rfl ?_))
  all_goals (first
               | (refine Br.keep ?_)
               | (refine WL.call (vs := [_, _]) rfl (fun a w => Tryz.call22 a w) rfl (kdput _ _ _ _ d7 d6.cst.sv t _ o okd x7 (by omega)) rfl rfl rfl ?_
                  rintro _ h8 ⟨rfl, d8, hx8⟩))
  all_goals (first
               | (refine Br.keep ?_)
               | (have K8 := d6.two hx7 c7 hx8 d8
                  clear d7 c7 d8 hb67))
  all_goals (refine Gn ?_; first | (refine Br.keep ?_) | (refine Gs [(1, _), (8, _), (9, _), (10, _), (12, _), (14, _), (16, _), (28, _), (29, _), (30, _)] ?_))
  all_goals (first | (refine Br.keep ?_) | (refine WC.sr ?_))
  all_goals (first
               | (refine Br.keep ?_)
               | (have hnm : (N.length ≤ k) ∨ ∃ bn on nm, An = some ⟨bn, on, none⟩ ∧ k < N.length ∧ ∀ g, Ext No h g → cell g ⟨bn, on + k * 1, none⟩ = some (St nm) := by
                   by_cases hkn : k < N.length
                   · obtain ⟨bn, on, hAn, _, hatn⟩ := Rd.at_ hrn (by omega)
                     exact .inr ⟨bn, on, N[k], hAn, hkn, fun g x => (hatn.ext (X0.trans x) nos).get k (by simp [hkn]) (by omega)⟩
                   · exact .inl (by omega)
                  rcases hnm with hnm | ⟨bn, on, nm, rfl, hkn, hnm⟩))
  all_goals (first | (refine Br.keep ?_) | (refine WL.step (ok_move rfl) rfl rfl rfl ?_))
  all_goals (refine Go ?_; first | (refine Br.keep ?_) | (refine goP 67 ?_ TT.mk))
  all_goals (refine Gg ?_; first | (refine Br.keep ?_) | (first | (refine WL.pass rfl rfl rfl ?_) | (refine WL.step (ok_idxAddrA Tryz.underlying23 (fun w => Tryz.sizeOf9 w) rfl rfl rfl (by omega) (by first | rfl | assumption)) rfl rfl rfl ?_)))
  all_goals (first | (refine Br.keep ?_) | (first | (refine WL.pass rfl rfl rfl ?_) | (refine WL.ld rfl (by first | exact hnm _ K8.ext | assumption | exact cell_blk (by assumption) rfl) rfl rfl rfl ?_)))
  all_goals (refine Gg ?_; refine Go ?_; first | (refine Br.keep ?_) | (refine Gs [(1, _), (8, _), (9, _), (10, _), (12, _), (14, _), (16, _), (28, _), (29, _), (30, _), (74, _)] ?_))
  all_goals (first | (refine Br.keep ?_) | (first | (refine goC 5 6 ?_ TT.mk) | (refine goC 5 6 (Hb.mk fun hb => ?_) (Hb.mk fun hb => ?_))))
  all_goals (first | (fail_if_success refine goB 5 ?_) | (
  refine goB 5 ?_
  all_goals (refine WC.sr ?_; refine Go ?_; refine WL.step (ok_idxAddrA Tryz.underlying23 (fun w => Tryz.sizeOf9 w) rfl rfl rfl (by omega) (by first | rfl | assumption)) rfl rfl rfl ?_; refine WL.ld rfl (by first | exact hnm _ K8.ext | assumption | exact cell_blk (by assumption) rfl) rfl rfl rfl ?_; refine Go ?_; refine WL.call (vs := [_, _, _]) rfl (fun a w => Tryz.call23 a w) rfl (tset_both K8.tab nm _) rfl rfl rfl ?_; rintro _ h9 ⟨x9, e9, rfl, hx9, c9⟩)
  all_goals (have y9 : Ext No h h9 := K8.ext.trans' hx9 (fun q hq e => absurd e (fun e => by
              rcases e with rfl | rfl | e
              · have := K8.tab.lo.2.1; omega
              · have := K8.tab.lo.2.2.1; omega
              · have := K8.tab.lo.2.2.2 q e; omega)))
  all_goals (refine Gn ?_; refine Gs [(1, _), (8, _), (9, _), (10, _), (12, _), (14, _), (16, _), (28, _), (29, _), (30, _)] ?_; refine WC.region ?_; refine Go ?_; refine WL.step (ok_idxAddrA Tryz.underlying23 (fun w => Tryz.sizeOf9 w) rfl rfl rfl (by omega) (by first | rfl | assumption)) rfl rfl rfl ?_; refine WL.ld rfl (by first | exact hnm _ y9 | assumption | exact cell_blk (by assumption) rfl) rfl rfl rfl ?_; refine Go ?_; refine WL.call (vs := [_, _, _]) rfl (fun a w => Tryz.call24 a w) rfl (c9) rfl rfl rfl ?_; rintro _ h10 ⟨rfl, hx10, v10, T10, t10⟩; have K10 := K8.set (hx9.trans' hx10 fun _ _ e => e) t10; refine Gn ?_)
  skip))
  all_goals (first | (fail_if_success refine goB 6 ?_) | (
  refine goB 6 ?_
  all_goals (refine WC.skip ?_)
  skip))
  all_goals (refine Gn ?_; first | (refine Br.keep ?_) | (refine WC.region ?_))
  all_goals (refine Go ?_; first | (refine Br.keep ?_) | (exact ⟨(k + 1, _, _, _), ⟨rfl, rfl, rfl, rfl, rfl, rfl, rfl, rfl, trivial⟩, (by first | exact ⟨by omega, by omega, K10⟩ | exact ⟨by omega, by omega, K8⟩), (by simp; omega)⟩))
  all_goals (try (refine Br.mk (i := 1000) ?_))
  all_goals (refine Gn ?_; refine Gs [(8, _), (9, _), (10, _), (12, _)] ?_; refine WC.sr ?_; refine Go ?_; refine Gs [(4, _), (5, _), (6, _), (7, _)] ?_; refine WC.ret ?_; repeat' (with_reducible first | refine thenP_r ?_ | refine blockP_r ?_))
  all_goals (refine retP_4 _ _ _ _ ⟨rfl, rfl, rfl, rfl, trivial⟩ ?_; first | exact ⟨_, _, _, _, _, _, _, _, _, _, rfl, d6.up (by omega) (by decide)⟩ | exact ⟨_, _, _, _, _, _, _, _, _, _, rfl, d4.up (by omega) (by decide)⟩)
end Go.Proofs.YtggmocdbfbhklaaGreat


/-
  AWAKE (layer 24): the law's own try.
-/
namespace Go.Proofs.YtggmocdbfbhklaaGreat
open Go Go.RK

def aw1 : Fm := ⟨80, 0, ([97] : List UInt8), [], ([98, 101, 103, 105, 110] : List UInt8), .slice none 0 0, [], .slice none 0 0, [], .slice none 0 0, [], .slice none 0 0, [], 0⟩
def aw2 : Fm := ⟨66, 0, ([97] : List UInt8), [], [], .slice none 0 0, [], .slice none 0 0, [], .slice none 0 0, [], .slice none 0 0, [], 0⟩
theorem nil_ok {k w : Int} {n p t : List UInt8} {mx : Int} (h : Heap) : (⟨k, w, n, p, t, .slice none 0 0, [], .slice none 0 0, [], .slice none 0 0, [], .slice none 0 0, [], mx⟩ : Fm).ok h := ⟨⟨Rd.nil _ _, by simp [maxLen]⟩, ⟨Rd.nil _ _, by simp [maxLen]⟩, ⟨Rd.nil _ _, by simp [maxLen]⟩, ⟨Rd.nil _ _, ⟨by simp, _, _, rfl, by decide⟩, by simp⟩⟩
theorem srv1 : srvL 1 = ([95, 112, 49] : List UInt8) := by
  unfold srvL
  rw [if_neg (by decide)]
  unfold deci
  rw [if_neg (by decide), dig_lt (by decide)]
  rfl
theorem do_aw1 : doA (0, []) (lookT aw1.name (0, false) (opsE [])) [] 2 aw1.pl = ((1, [(1, 2, ([98, 101, 103, 105, 110] : List UInt8), [])]), [asP aw1.pl (srvL 1)], [(2, false, [], [], [(true, ([97] : List UInt8), 1, ())], [], [(1, 1, ())], [])]) := rfl
theorem do_aw2 : doA (1, [(1, 2, ([98, 101, 103, 105, 110] : List UInt8), [])]) (1, true) [1] 2 aw2.pl = ((1, [(1, 2, ([98, 101, 103, 105, 110] : List UInt8), [])]), [asP aw2.pl (srvL 1)], [(3, false, srvL 1, ([97] : List UInt8), [], [], [(3, 1, ())], [])]) := rfl
theorem map_one {α β : Type} {f : α → β} {l : List α} {y : β} (e : l.map f = [y]) : ∃ x, l = [x] ∧ f x = y := by
  cases l with
  | nil => cases e
  | cons a l =>
    cases l with
    | nil => exact ⟨a, rfl, by simpa using e⟩
    | cons b l => simp at e
section
variable {h0 h h' : Heap} {B : Nat} {c : Int} {b m1 m2 : Nat} {s : RS} {P : FmP} {Q : EnP}
theorem dor_one {u : Value} (k : DoR h0 h B c b m1 m2 (s, [P], [Q]) u h') : ∃ vF vE, ∃ (f : Fm) (e : En), u = .tuple ⟨[vF, vE]⟩ ∧ Own h' vF 27 10 1 f.cells ∧ Own h' vE 44 8 1 e.cells ∧ f.pl = P ∧ e.pl = Q ∧ e.ok h' ∧ f.ok h' ∧ Cst h0 h' B (c + 2) b m1 m2 s ∧ Ext (CS h0 m1 m2 h) h h' := by
  obtain ⟨⟨vF, vE, L, M, rfl, g, pF, pE⟩, d, x⟩ := k
  obtain ⟨f, rfl, hf⟩ := map_one pF
  obtain ⟨e, rfl, he⟩ := map_one pE
  refine ⟨vF, vE, f, e, rfl, ?_, ?_, hf, he, (g.okE e (by simp)).now, (g.okF f (by simp)).now, d, x⟩
  · have := g.F; simpa using this
  · have := g.E; simpa using this
end
set_option maxHeartbeats 4000000 in
set_option maxRecDepth 100000 in
theorem awake24 {h : Heap} : CallsH Tryz.prog 7 ⟨[]⟩ h fun u h' => u = .bool true ∧ Ext No h h' := by
  have kdo1 := fun (g : Heap) (b m1 m2 tb tm : Nat) (d : Cst h g h.size 0 b m1 m2 (0, [])) (x0 : Ext No h g) (t : Tb g tb tm 4 []) =>
    (Do24g (f := aw1) (spec := []) (ss := none) (sn := 0) (sc := 0) (most := 2) (s0 := (0, false)) d x0 (nil_ok h) (by decide) (by decide) (lst_all fun g => Rd.nil g 1) (by decide) (by decide) (fun g' y => get_no (t.ext y nos nos) _ rfl) (⟨Rd.nil g 8, by decide, by simp, by simp, by simp⟩ : Gds g (.slice none 0 0) [])).mono fun u h' k => dor_one (by rw [if_pos (by decide), do_aw1] at k; exact k)
  have kdo2 := fun (g : Heap) (b m1 m2 tb tm : Nat) (va : Value) (e : En) (bs : Nat) (d : Cst h g h.size 2 b m1 m2 (1, [(1, 2, ([98, 101, 103, 105, 110] : List UInt8), [])])) (x0 : Ext No h g) (t : Tb g tb tm 4 []) (hv : Rd g va 8 1 e.cells) (ok : e.ok g) (he : e.good = [(true, ([97] : List UInt8), 1, ())]) (hb : g[bs]? = some (.cells ⟨[In 1]⟩ 3 (0, 0))) =>
    (Do24g (f := aw2) (spec := [1]) (ss := some ⟨bs, 0, none⟩) (sn := 1) (sc := 1) (most := 2) (s0 := (0, false)) (A := [e]) d x0 (nil_ok h) (by decide) (by decide) ((lst_blk hb (by decide)).mono fun _ z => rd_blk z rfl) (by decide) (by decide) (fun g' y => get_no (t.ext y nos nos) _ rfl)
      (⟨by simpa using hv, by simp, fun x hx => by obtain rfl := List.mem_singleton.1 hx; exact ok.one, fun x hx => by obtain rfl := List.mem_singleton.1 hx; exact ok.good.1, fun x hx => by obtain rfl := List.mem_singleton.1 hx; rw [he]; decide⟩ : Gds g va [e])).mono fun u h' k => dor_one (by
        rw [if_pos (by decide), show lookT aw2.name (0, false) (opsE [e]) = (1, true) by simp only [opsE, List.flatMap_cons, List.flatMap_nil, List.append_nil, he]; rfl, do_aw2] at k; exact k)
  dsimp only [Fm.cells, aw1] at kdo1
  dsimp only [Fm.cells, aw2] at kdo2
  rw [srv1] at kdo1 kdo2
  unfold ptE at *
  refine calls [] Tryz.func7 rfl Tryz.ntmps7 rfl trivial ?_
  all_goals (refine WC.sr ?_; refine Go ?_; refine WC.sr ?_; refine WL.call (vs := []) rfl (fun a w => Tryz.call18 a w) rfl (rg_new h.size (Nat.le_refl _)) rfl rfl rfl ?_; rintro _ h1 ⟨b, m1, m2, rfl, r1, hx1⟩; unfold ptE; refine Go ?_; refine WC.sr ?_; refine WL.call (vs := [_]) rfl (fun a w => Tryz.call19 a w) rfl (new_yes 4 (by decide) (by decide)) rfl rfl rfl ?_; rintro _ h2 ⟨tb, tm, rfl, t2, htb, htm, hx2⟩)
  all_goals (have C1 : Cst h h1 h.size 0 b m1 m2 (0, []) := ⟨⟨[], r1, rfl⟩, Nat.le_refl _⟩
             have hne : tm ≠ m1 ∧ tm ≠ m2 := by
              obtain ⟨⟨es, ck, e1⟩, es2, ck2, e2⟩ := C1.maps
              have := lt_of_some e1
              have := lt_of_some e2
              exact ⟨by omega, by omega⟩
             have hX2 := hx1.trans hx2
             have C2 := C1.ext0 hx2
             clear C1 r1)
  all_goals (refine Go ?_; refine Gs [(1, _), (2, _), (3, _)] ?_; refine WC.seq ?_; refine WC.sr ?_; refine Go ?_; refine WL.step (ok_eqlPn Tryz.underlying28 rfl rfl) rfl rfl rfl ?_; refine Go ?_; refine goP 15 ?_ TT.mk; refine WL.step (ok_move rfl) rfl rfl rfl ?_; refine WL.step (ok_eqlPn Tryz.underlying29 rfl rfl) rfl rfl rfl ?_; refine Go ?_; refine goP 19 ?_ TT.mk; refine Gg ?_; refine Go ?_; refine Gs [(1, _), (2, _), (22, _)] ?_; refine goC 1 2 ?_ TT.mk; refine goB 2 ?_; refine WC.skip ?_; refine Gn ?_; refine WC.sr ?_; refine Go ?_; refine WL.step (ok_buildF (vs := [_, _, _]) (cs := [_, _, _, _, _, _, _, _, _, _]) (fun | [a0, a2, a4] => [a0, (.int .u8 0), a2, (St []), a4, (.slice none 0 0), (.slice none 0 0), (.slice none 0 0), (.slice none 0 0), (.int .i64 0)] | _ => []) rfl rfl (by kernel_rfl)) rfl rfl rfl ?_; refine WL.call (vs := [_, _, _, _, _, _]) rfl (fun a w => Tryz.call8 a w) rfl (kdo1 _ _ _ _ _ _ C2 hX2 t2) rfl rfl rfl ?_; rintro _ h3 ⟨vF, vE, f, e, rfl, oF, oE, pf, pe, ok, okf, C3, hx3⟩; obtain ⟨AF, cF, rfl, _⟩ := id oF.rd; obtain ⟨AE, cE, rfl, _⟩ := id oE.rd)
  all_goals (have hX3 := fs_old hX2 hx3
             have t3 := t2.ext hx3 (C2.off t2.cells (by decide)) (fun z => by
              obtain ⟨_, _, e3, _⟩ := t2.map
              rcases z.2 with z | ty
              · simp only [List.mem_cons, List.not_mem_nil, or_false] at z
                exact z.elim hne.1 hne.2
              · exact ty_map e3 ty)
             clear C2 t2 kdo1)
  all_goals (refine Go ?_; refine Gs [(1, _), (2, _), (4, _), (5, _)] ?_; refine WC.sr ?_; refine Go ?_; refine WL.stepR (okE_buildSlice (vs := [_]) (cs := [_]) (fun | [a0] => [a0] | _ => []) Tryz.underlying24 rfl rfl (by kernel_rfl)) rfl rfl rfl ?_; rintro _ h4 ⟨bs, rfl, hgs, hbs, hx4⟩; refine WL.step (ok_buildF (vs := [_, _]) (cs := [_, _, _, _, _, _, _, _, _, _]) (fun | [a0, a2] => [a0, (.int .u8 0), a2, (St []), (St []), (.slice none 0 0), (.slice none 0 0), (.slice none 0 0), (.slice none 0 0), (.int .i64 0)] | _ => []) rfl rfl (by kernel_rfl)) rfl rfl rfl ?_; refine WL.call (vs := [_, _, _, _, _, _]) rfl (fun a w => Tryz.call8 a w) rfl (kdo2 _ _ _ _ _ _ _ e bs (C3.ext0 hx4) (hX3.trans hx4) (t3.ext hx4 nos nos) (oE.rd.ext0 hx4) (ok.ext0 hx4) (by simp only [En.pl, Prod.mk.injEq] at pe; exact pe.2.2.2.2.1) hbs) rfl rfl rfl ?_; rintro _ h5 ⟨vF2, vE2, f2, e2, rfl, oF2, oE2, pf2, pe2, ok2, okf2, C5, hx5⟩; obtain ⟨AF2, cF2, rfl, _⟩ := id oF2.rd; obtain ⟨AE2, cE2, rfl, _⟩ := id oE2.rd; have hX5 := fs_old (hX3.trans hx4) hx5; have C4 := C3.ext0 hx4; have oF5 : Own h5 _ _ _ _ _ := (oF.ext hx4 (fun _ _ => nos)).ext hx5 (fun q hq z => by obtain ⟨_, y⟩ := own_ty (oF.ext hx4 (fun _ _ => nos)) hq; exact C4.off y (by decide) z); obtain ⟨bF, iF, rfl, _, hF⟩ := Rd.at_ oF5.rd (by decide); obtain ⟨bF2, iF2, rfl, _, hF2⟩ := Rd.at_ oF2.rd (by decide); obtain ⟨bE2, iE2, rfl, _, hE2⟩ := Rd.at_ oE2.rd (by decide); (have n1 : f.name = ([95, 112, 49] : List UInt8) := by simp only [Fm.pl, asP, Prod.mk.injEq] at pf; exact pf.2.2.1); (have n2 : f2.name = ([95, 112, 49] : List UInt8) := by simp only [Fm.pl, asP, Prod.mk.injEq] at pf2; exact pf2.2.2.1); (have n3 : e2.dst = ([97] : List UInt8) := by simp only [En.pl, Prod.mk.injEq] at pe2; exact pe2.2.2.2.1); (have g1 : ∀ p, p = iF + 2 → cell h5 ⟨bF, p, none⟩ = some (St ([95, 112, 49] : List UInt8)) := fun p hp => by rw [← n1]; exact hF.get 2 rfl hp); (have g2 : ∀ p, p = iF2 + 2 → cell h5 ⟨bF2, p, none⟩ = some (St ([95, 112, 49] : List UInt8)) := fun p hp => by rw [← n2]; exact hF2.get 2 rfl hp); (have g3 : ∀ p, p = iE2 + 3 → cell h5 ⟨bE2, p, none⟩ = some (St ([97] : List UInt8)) := fun p hp => by rw [← n3]; exact hE2.get 3 rfl hp); clear kdo2 n1 n2 n3 pf pf2 pe pe2 hF hF2 hE2 oF oF5 oF2 oE oE2; refine Go ?_; refine Gs [(1, _), (4, _), (5, _), (6, _), (7, _)] ?_; refine WC.sr ?_; refine Go ?_; refine goP 42 ?_ TT.mk; refine Gg ?_; refine WL.step (ok_idxAddrA Tryz.underlying36 (fun w => Tryz.sizeOf27 w) rfl rfl rfl (by first | omega | (simp <;> omega)) (by first | rfl | assumption) (k := 0)) rfl rfl rfl ?_; refine Gg ?_; refine WL.ld rfl (by first | exact g1 _ (by omega) | assumption | exact cell_blk (by assumption) rfl) rfl rfl rfl ?_; refine Gg ?_; refine Go ?_; refine goP 49 ?_ TT.mk; refine Gg ?_; refine Go ?_; refine goP 54 ?_ TT.mk; refine Gg ?_; refine Go ?_; refine goP 59 ?_ TT.mk; refine Gg ?_; refine WL.step (ok_idxAddrA Tryz.underlying36 (fun w => Tryz.sizeOf27 w) rfl rfl rfl (by first | omega | (simp <;> omega)) (by first | rfl | assumption) (k := 0)) rfl rfl rfl ?_; refine Gg ?_; refine WL.ld rfl (by first | exact g2 _ (by omega) | assumption | exact cell_blk (by assumption) rfl) rfl rfl rfl ?_)
  all_goals (refine Gg ?_; refine Go ?_; refine goP 66 ?_ TT.mk; refine Gg ?_; refine Go ?_; refine goP 71 ?_ TT.mk; refine Gg ?_; refine WL.step (ok_idxAddrA Tryz.underlying37 (fun w => Tryz.sizeOf44 w) rfl rfl rfl (by first | omega | (simp <;> omega)) (by first | rfl | assumption) (k := 0)) rfl rfl rfl ?_; refine Gg ?_; refine WL.ld rfl (by first | exact g3 _ (by omega) | assumption | exact cell_blk (by assumption) rfl) rfl rfl rfl ?_; refine Gg ?_; refine Go ?_; refine goP 78 ?_ TT.mk; refine Gg ?_; refine WL.call (vs := [_, _]) rfl (fun a w => Tryz.call15 a w) rfl (c_refs C5 1) rfl rfl rfl ?_; rintro _ hz ⟨rfl, ez⟩; subst ez; refine Gg ?_; refine Go ?_; refine Gs [(0, _)] ?_; refine Gt ?_; first | exact ⟨rfl, hX5⟩ | (exfalso; simp_all))
end Go.Proofs.YtggmocdbfbhklaaGreat


/-
  Lists of messages as they come in: whether each is plain, and what that tells.
-/
namespace Go.Proofs.YtggmocdbfbhklaaGreat
open Go Go.RK

def plainB (b : Fm) : Bool := decide ((b.oids.length ≤ 50 ∧ b.formats.length ≤ 50 ∧ b.results.length ≤ 50 ∧ b.params.length ≤ 50) ∧ (b.params.any fun c => decide (300 < c.bytes.length)) = false ∧ b.name.length ≤ 300 ∧ b.portal.length ≤ 300 ∧ b.text.length ≤ 1000)
theorem plainB_few {b : Fm} (h : plainB b = true) : b.few := by
  obtain ⟨⟨h1, h2, h3, h4⟩, _⟩ := of_decide_eq_true h
  exact ⟨h1, h2, h3, h4⟩
set_option maxHeartbeats 4000000 in
set_option maxRecDepth 100000 in
theorem plain_frontB {h : Heap} (b : Fm) (hb : b.ok h) : CallsH Tryz.prog 6 ⟨[.agg ⟨b.cells⟩]⟩ h fun u h' => u = .bool (plainB b) ∧ Ext No h h' := by
  obtain ⟨⟨ho, _⟩, ⟨hf, _⟩, ⟨hs, _⟩, hr⟩ := hb
  obtain ⟨k, w, n, p, t, vo, lo, vf, lf, vs, ls, vp, lp, mx⟩ := b
  dsimp only at ho hf hs hr
  obtain ⟨hr0, hr1, hr2⟩ := hr
  have hrm : lp.length ≤ maxLen := by have := hr1.1; unfold reachBytes at this; unfold maxLen; omega
  obtain ⟨Ao, co, rfl, _⟩ := id ho
  obtain ⟨Af, cf, rfl, _⟩ := id hf
  obtain ⟨As, cs, rfl, _⟩ := id hs
  obtain ⟨Ap, cp, rfl, _⟩ := id hr0
  dsimp only [Fm.cells]
  refine calls [(0, _)] Tryz.func6 rfl Tryz.ntmps6 rfl ⟨rfl, trivial⟩ ?_
  all_goals (refine WC.sr ?_; refine WL.stepR (okE_box rfl) rfl rfl rfl ?_; rintro _ g1 ⟨b1, rfl, hg1, hb1, hX1⟩; refine Go ?_; refine WC.seq ?_; refine WC.sr ?_; refine Go ?_; refine Ld ?_; refine Go ?_; refine goP 7 (Hb.mk fun hb => ?_) (Hb.mk fun hb => ?_))
  all_goals (refine Gg ?_; first | (refine WL.pass rfl rfl rfl ?_) | (refine Ld ?_))
  all_goals (refine Gg ?_; refine Go ?_; first | (refine goP 13 ?_ TT.mk) | (refine goP 13 (Hb.mk fun hb => ?_) (Hb.mk fun hb => ?_)))
  all_goals (refine Gg ?_; first | (refine WL.pass rfl rfl rfl ?_) | (refine Ld ?_))
  all_goals (refine Gg ?_; refine Go ?_; first | (refine goP 19 ?_ TT.mk) | (refine goP 19 (Hb.mk fun hb => ?_) (Hb.mk fun hb => ?_)))
  all_goals (refine Gg ?_; first | (refine WL.pass rfl rfl rfl ?_) | (refine Ld ?_))
  all_goals (refine Gg ?_; refine Go ?_; refine Gs [(1, _), (24, _)] ?_; first | (refine goC 1 2 ?_ TT.mk) | (refine goC 1 2 (Hb.mk fun hb => ?_) (Hb.mk fun hb => ?_)))
  all_goals (first | (fail_if_success refine goB 1 ?_) | (
  refine goB 1 ?_
  all_goals (refine WC.sr ?_; refine Go ?_; refine Gt ?_)
  all_goals (first
              | (refine ⟨congrArg Value.bool (decide_eq_false fun z => ?_).symm, ?_⟩
                 · obtain ⟨⟨z1, z2, z3, z4⟩, z5, z6, z7, z8⟩ := z
                   dsimp only at z1 z2 z3 z4 z5 z6 z7 z8
                   first | omega | (rw [ha1] at z5; cases z5)
                 · first | exact hX2 | exact hX1)
              | (refine ⟨congrArg Value.bool (decide_eq_decide.2 ⟨fun z => ⟨⟨?_, ?_, ?_, ?_⟩, ha1, ?_, ?_, ?_⟩, fun z => ?_⟩), hX2⟩
                 all_goals first | (obtain ⟨⟨z1, z2, z3, z4⟩, z5, z6, z7, z8⟩ := z; dsimp only at z1 z2 z3 z4 z6 z7 z8; omega) | (show _ ≤ _; (try dsimp only); omega)))
  skip))
  all_goals (refine goB 2 ?_; refine WC.skip ?_; refine Gn ?_; refine WC.seq ?_; refine WC.sr ?_; refine Go ?_; refine WL.ld rfl (by first | exact cell_blk hb1 rfl | assumption | exact cell_blk (by assumption) rfl) rfl rfl rfl ?_; refine WL.call (vs := [_, _]) rfl (fun a w => Tryz.call25 a w) rfl (has_cel lp (fun c => decide (300 < c.bytes.length)) (fun a w => Tryz.call26 a w) (fs := []) (us := []) (hr0.ext0 hX1) hrm (fun x hx h' hx' => pf1 x (hr2 x hx))) rfl rfl rfl ?_; rintro _ g2 ⟨rfl, hx2⟩; have hb2 := hx2.obj hb1 nos; have hX2 := hX1.trans hx2; cases ha1 : lp.any fun c => decide (300 < c.bytes.length))
  all_goals (refine Gn ?_; refine goC 3 4 ?_ TT.mk)
  all_goals (first | (fail_if_success refine goB 3 ?_) | (
  refine goB 3 ?_
  all_goals (refine WC.sr ?_; refine Go ?_; refine Gs [(2, _)] ?_; refine Gt ?_)
  all_goals (first
              | (refine ⟨congrArg Value.bool (decide_eq_false fun z => ?_).symm, ?_⟩
                 · obtain ⟨⟨z1, z2, z3, z4⟩, z5, z6, z7, z8⟩ := z
                   dsimp only at z1 z2 z3 z4 z5 z6 z7 z8
                   first | omega | (rw [ha1] at z5; cases z5)
                 · first | exact hX2 | exact hX1)
              | (refine ⟨congrArg Value.bool (decide_eq_decide.2 ⟨fun z => ⟨⟨?_, ?_, ?_, ?_⟩, ha1, ?_, ?_, ?_⟩, fun z => ?_⟩), hX2⟩
                 all_goals first | (obtain ⟨⟨z1, z2, z3, z4⟩, z5, z6, z7, z8⟩ := z; dsimp only at z1 z2 z3 z4 z6 z7 z8; omega) | (show _ ≤ _; (try dsimp only); omega)))
  skip))
  all_goals (refine goB 4 ?_; refine WC.skip ?_; refine Gn ?_; refine Gs [(1, _)] ?_; refine WC.sr ?_; refine Go ?_; refine WL.ld rfl (by first | exact cell_blk hb2 rfl | assumption | exact cell_blk (by assumption) rfl) rfl rfl rfl ?_; refine Go ?_; refine goP 32 (Hb.mk fun hb => ?_) (Hb.mk fun hb => ?_))
  all_goals (refine Gg ?_; first | (refine WL.pass rfl rfl rfl ?_) | (refine WL.ld rfl (by first | exact cell_blk hb2 rfl | assumption | exact cell_blk (by assumption) rfl) rfl rfl rfl ?_))
  all_goals (refine Gg ?_; refine Go ?_; first | (refine goP 38 ?_ TT.mk) | (refine goP 38 (Hb.mk fun hb => ?_) (Hb.mk fun hb => ?_)))
  all_goals (refine Gg ?_; first | (refine WL.pass rfl rfl rfl ?_) | (refine WL.ld rfl (by first | exact cell_blk hb2 rfl | assumption | exact cell_blk (by assumption) rfl) rfl rfl rfl ?_))
  all_goals (refine Gg ?_; refine Go ?_; refine Gs [(2, _)] ?_; refine Gt ?_)
  all_goals (first
              | (refine ⟨congrArg Value.bool (decide_eq_false fun z => ?_).symm, ?_⟩
                 · obtain ⟨⟨z1, z2, z3, z4⟩, z5, z6, z7, z8⟩ := z
                   dsimp only at z1 z2 z3 z4 z5 z6 z7 z8
                   first | omega | (rw [ha1] at z5; cases z5)
                 · first | exact hX2 | exact hX1)
              | (refine ⟨congrArg Value.bool (decide_eq_decide.2 ⟨fun z => ⟨⟨?_, ?_, ?_, ?_⟩, ha1, ?_, ?_, ?_⟩, fun z => ?_⟩), hX2⟩
                 all_goals first | (obtain ⟨⟨z1, z2, z3, z4⟩, z5, z6, z7, z8⟩ := z; dsimp only at z1 z2 z3 z4 z6 z7 z8; omega) | (show _ ≤ _; (try dsimp only); omega)))
set_option maxHeartbeats 2000000 in
set_option maxRecDepth 100000 in
theorem pfs1 {h h0 : Heap} (f : Fm) (hf : f.ok h0) (x : Ext No h0 h) : CallsH Tryz.prog 32 ⟨[.agg ⟨f.cells⟩]⟩ h fun u h' => u = .bool (!plainB f) ∧ Ext No h h' := by
  have kp := fun h' (y : Ext No h h') => plain_frontB f ((hf.ext0 x).ext0 y)
  obtain ⟨⟨e1, _⟩, ⟨e2, _⟩, ⟨e3, _⟩, e4, _⟩ := hf
  obtain ⟨fk, w, n, p, t, vo, o, vf, fs, vs, rs, vp, ps, mx⟩ := f
  dsimp only at e1 e2 e3 e4
  obtain ⟨_, _, rfl, _⟩ := e1
  obtain ⟨_, _, rfl, _⟩ := e2
  obtain ⟨_, _, rfl, _⟩ := e3
  obtain ⟨_, _, rfl, _⟩ := e4
  dsimp only [Fm.cells] at kp ⊢
  refine calls [(0, _)] Tryz.func32 rfl Tryz.ntmps32 rfl ⟨rfl, trivial⟩ ?_
  all_goals (refine WC.sr ?_; refine WL.stepR (okE_box rfl) rfl rfl rfl ?_; rintro _ h1 ⟨b1, rfl, hg1, hb1, hx1⟩; refine Go ?_; refine WC.sr ?_; refine WL.step (ok_loadN (fun w => Tryz.isAgg27 w) (fun w => Tryz.sizeOf27 w) rfl rfl (by exact At.of_block hb1)) rfl rfl rfl ?_; refine WL.call (vs := [_]) rfl (fun a w => Tryz.call6 a w) rfl (kp _ hx1) rfl rfl rfl ?_; rintro _ h2 ⟨rfl, hx2⟩; refine Go ?_; refine Gs [(2, _)] ?_; refine Gt ?_; exact ⟨rfl, hx1.trans hx2⟩)
set_option maxHeartbeats 2000000 in
set_option maxRecDepth 100000 in
theorem indexFunc_fm {h : Heap} {v : Value} (l : List Fm) (p : Fm → Bool) {fk : Nat} {fs us : List Value} (hcf : ∀ (args : Array Value) (w : World), (callFunc fk args).run Tryz.prog w = .ok (.enter fk args) w) (hr : Rd h v 10 l.length (l.flatMap Fm.cells)) (hm : l.length ≤ maxLen)
    (hp : ∀ x ∈ l, ∀ h', Ext No h h' → CallsH Tryz.prog fk ⟨fs ++ [.agg ⟨Fm.cells x⟩] ++ us⟩ h' fun u h'' => u = .bool (p x) ∧ Ext No h' h'') :
    CallsH Tryz.prog 63 ⟨[v, .func (.func fk) ⟨fs⟩ ⟨us⟩]⟩ h fun u h' => u = In (idxP p l) ∧ Ext No h h' := by
  obtain ⟨A, c, rfl, _⟩ := id hr
  unfold maxLen at hm
  refine calls [(0, _), (1, _)] Tryz.func63 rfl Tryz.ntmps63 rfl ⟨rfl, rfl, trivial⟩ ?_
  all_goals (refine WC.sr ?_; refine Go ?_; refine WC.seq ?_; refine WC.sr ?_; refine Go ?_; refine WC.block ?_)
  -- loop 0: slots that turn [8], that stay [0, 1, 7]
  all_goals (refine WC.loopG (X := Nat) (fun x => ([(8, In (x : Int))] : Fr)) [(0, _), (1, _), (7, _)] (fun k h' => Ext No h h' ∧ k ≤ l.length ∧ ∀ x ∈ l.take k, p x = false) (fun k => l.length - k) (0) ⟨rfl, rfl, rfl, rfl, trivial⟩ (by exact ⟨.refl _ _, Nat.zero_le _, by simp⟩) ?_; rintro k h1 ⟨hx1, hk, hn⟩; refine WC.sub [(8, _), (0, _), (1, _), (7, _)] ⟨rfl, rfl, rfl, rfl, trivial⟩ ?_; refine WC.sr ?_; refine Go ?_; refine WC.seq ?_; refine goC 1 2 (Hb.mk fun hb => ?_) (Hb.mk fun hb => ?_))
  all_goals (first | (fail_if_success refine goB 1 ?_) | (
  refine goB 1 ?_
  all_goals (refine WC.skip ?_)
  skip))
  all_goals (first | (fail_if_success refine goB 2 ?_) | (
  refine goB 2 ?_
  all_goals (refine WC.exit ?_; repeat' (with_reducible first | refine thenP_x ?_ | refine blockP_miss rfl ?_ | refine blockP_hit ?_ | refine blockP_n ?_ | refine thenP_n ?_))
  all_goals (refine Br.out (i := 1000) ?_)
  skip))
  all_goals (refine Gn ?_; first | (refine Br.keep ?_) | (refine WC.seq ?_))
  all_goals (first | (refine Br.keep ?_) | (refine WC.block ?_))
  all_goals (first | (refine Br.keep ?_) | (refine WC.sr ?_))
  all_goals (refine Go ?_; first | (refine Br.keep ?_) | (refine WC.sr ?_))
  all_goals (first | (refine Br.keep ?_) | (refine WL.step (ok_move rfl) rfl rfl rfl ?_))
  all_goals (first | (refine Br.keep ?_) | (refine WL.step (ok_move rfl) rfl rfl rfl ?_))
  all_goals (first
               | (refine Br.keep ?_)
               | (obtain ⟨b, o, hA, hbL, hat⟩ := Rd.at_ (hr.ext0 hx1) (by omega)
                  obtain ⟨y, hy⟩ : ∃ y, l[k]? = some y := ⟨_, List.getElem?_eq_getElem (by omega)⟩
                  have hc : At h1 b (o + k * 10) (Fm.cells y) := At.elem Fm.len hat hy))
  all_goals (first | (refine Br.keep ?_) | (refine WL.step (ok_move rfl) rfl rfl rfl ?_))
  all_goals (first | (refine Br.keep ?_) | (refine WL.step (ok_idxAddrA Tryz.underlying36 (fun w => Tryz.sizeOf27 w) rfl rfl rfl (by omega) (by first | rfl | assumption)) rfl rfl rfl ?_))
  all_goals (first | (refine Br.keep ?_) | (refine WL.step (ok_loadN (fun w => Tryz.isAgg27 w) (fun w => Tryz.sizeOf27 w) rfl rfl (by assumption)) rfl rfl rfl ?_))
  all_goals (first
               | (refine Br.keep ?_)
               | (refine WL.callT (vs := [_]) rfl rfl hcf rfl (hp y (List.mem_of_getElem? hy) h1 hx1) rfl rfl rfl ?_
                  rintro _ h2 ⟨rfl, hx2⟩))
  all_goals (first | (refine Br.keep ?_) | (cases hpy : p y))
  all_goals (refine Gn ?_; first | (refine Br.keep ?_) | (refine Gs [(0, _), (1, _), (5, _), (7, _), (8, _), (16, _)] ?_))
  all_goals (first | (refine Br.keep ?_) | (refine goC 3 4 ?_ TT.mk))
  all_goals (first | (fail_if_success refine goB 3 ?_) | (
  refine goB 3 ?_
  all_goals (refine WC.sr ?_; refine Go ?_; refine Gs [(4, _)] ?_; refine Gt ?_; first | exact ⟨by rw [idxP_no (by rw [List.take_of_length_le (by omega)] at hn; exact hn)], hx1⟩ | exact ⟨by rw [idxP_at hy hpy hn], hx1.trans hx2⟩)
  skip))
  all_goals (first | (fail_if_success refine goB 4 ?_) | (
  refine goB 4 ?_
  all_goals (refine WC.skip ?_)
  skip))
  all_goals (refine Gn ?_; first | (refine Br.keep ?_) | (refine WC.region ?_))
  all_goals (refine Go ?_; first | (refine Br.keep ?_) | (exact ⟨k + 1, ⟨rfl, rfl, rfl, rfl, trivial⟩, (by exact ⟨hx1.trans hx2, by omega, take_snoc_p hn hy hpy⟩), (by omega)⟩))
  all_goals (try (refine Br.mk (i := 1000) ?_))
  all_goals (refine Gn ?_; refine Gs [] ?_; refine WC.sr ?_; refine Go ?_; refine Gt ?_; first | exact ⟨by rw [idxP_no (by rw [List.take_of_length_le (by omega)] at hn; exact hn)], hx1⟩ | exact ⟨by rw [idxP_at hy hpy hn], hx1.trans hx2⟩)

set_option maxHeartbeats 2000000 in
set_option maxRecDepth 100000 in
theorem has_fm {h : Heap} {v : Value} (l : List Fm) (p : Fm → Bool) {fk : Nat} {fs us : List Value} (hcf : ∀ (args : Array Value) (w : World), (callFunc fk args).run Tryz.prog w = .ok (.enter fk args) w) (hr : Rd h v 10 l.length (l.flatMap Fm.cells)) (hm : l.length ≤ maxLen)
    (hp : ∀ x ∈ l, ∀ h', Ext No h h' → CallsH Tryz.prog fk ⟨fs ++ [.agg ⟨Fm.cells x⟩] ++ us⟩ h' fun u h'' => u = .bool (p x) ∧ Ext No h' h'') :
    CallsH Tryz.prog 31 ⟨[v, .func (.func fk) ⟨fs⟩ ⟨us⟩]⟩ h fun u h' => u = .bool (l.any p) ∧ Ext No h h' := by
  refine calls [(0, _), (1, _)] Tryz.func31 rfl Tryz.ntmps31 rfl ⟨rfl, rfl, trivial⟩ ?_
  all_goals (refine WC.sr ?_; refine Go ?_; refine WC.sr ?_; refine Go ?_; refine WL.call (vs := [_, _]) rfl (fun a w => Tryz.call63 a w) rfl (indexFunc_fm l p hcf hr hm hp) rfl rfl rfl ?_; rintro _ h1 ⟨rfl, hx1⟩; refine WL.step (ok_geq rfl rfl) rfl rfl rfl ?_; refine Go ?_; refine Gs [(4, _)] ?_; refine Gt ?_; exact ⟨by rw [idxP_geq], hx1⟩)

set_option maxHeartbeats 4000000 in
set_option maxRecDepth 100000 in
theorem plain_fronts {h : Heap} {v : Value} (L : List Fm) (k : Fms h v L) (many : Int) : CallsH Tryz.prog 9 ⟨[v, In many]⟩ h fun u h' => (∃ x, u = .bool x ∧ (x = true → (L.length : Int) ≤ many ∧ ∀ f ∈ L, f.few)) ∧ Ext No h h' := by
  obtain ⟨hr, hl, ok⟩ := k
  have kh := has_fm L (fun f => !plainB f) (fun a w => Tryz.call32 a w) (fs := []) (us := []) hr hl (fun x hx h' hx' => pfs1 x (ok x hx) hx')
  obtain ⟨A, c, rfl, _⟩ := id hr
  unfold maxLen at hl
  refine calls [(0, _), (1, _)] Tryz.func9 rfl Tryz.ntmps9 rfl ⟨rfl, rfl, trivial⟩ ?_
  all_goals (refine WC.sr ?_; refine Go ?_; refine WC.sr ?_; refine Go ?_; refine goP 9 (Hb.mk fun hb => ?_) (Hb.mk fun hb => ?_))
  all_goals (refine Gg ?_)
  all_goals (first
               | (refine WL.pass rfl rfl rfl ?_)
               | (refine WL.call (vs := [_, _]) rfl (fun a w => Tryz.call31 a w) rfl (kh) rfl rfl rfl ?_
                  rintro _ h2 ⟨rfl, hx2⟩))
  all_goals (refine Gg ?_; refine Go ?_; refine Gs [(4, _)] ?_; refine Gt ?_)
  all_goals (first
              | (refine ⟨⟨_, rfl, fun z => ?_⟩, hx2⟩
                 refine ⟨by omega, fun f hf => plainB_few ?_⟩
                 have z2 : (L.any fun f => !plainB f) = false := by simpa using z
                 simpa using List.any_eq_false.1 z2 f hf)
              | exact ⟨⟨false, rfl, fun z => by cases z⟩, .refl _ _⟩)
end Go.Proofs.YtggmocdbfbhklaaGreat


/-
  REWRITE (layer 24), by the document: a P.
-/
namespace Go.Proofs.YtggmocdbfbhklaaGreat
open Go Go.RK

/-- What the document's Do gives, by the same plain result as the code's. -/
def DoD (h0 h : Heap) (B bt : Nat) (r : RS × List FmP × List EnP) (u : Value) (h' : Heap) : Prop := Gives h0 h r.2.1 r.2.2 u h' ∧ Dst h0 h' B bt r.1 ∧ Ext (DS h0 h) h h'
section
variable {h0 h h1 h' : Heap} {B : Nat} {c : Int} {bt : Nat} {s : RS} {f : Fm} {v : Value} {ss : Option Addr} {sn sc : Nat} {spec : List Int} {most jd : Int} {kn : Bool}
theorem ds_off {q : Nat} {cs : Array Value} {T : TypeId} (hb : h[q]? = some (.cells cs T (0, 0))) (hT : T ∉ docT) : ¬ DS h0 h q := fun e => e.2.elim (fun z => by cases z) fun ty => hT (ty_one hb ty)
set_option maxHeartbeats 2000000 in
set_option maxRecDepth 100000 in
theorem parse_dup (d : Dst h0 h B bt s) (x0 : Ext No h0 h) (hf : f.ok h0) (hk : f.kind = 80) (hn : ¬ f.name = []) : CallsH Tryz.prog 34 ⟨[ptE bt, .bool true, .slice ss sn sc, In most, .agg ⟨f.cells⟩]⟩ h (DoD h0 h B bt (s, [asP f.pl dupL], [(zE 2 dupL f.name).pl])) := by
  have kk := fun p q h' => gives_one (h0 := h0) (h := h) (h' := h') (p := p) (q := q) (f := { f with name := dupL }) (e := zE 2 dupL f.name)
  have hfl := (lst_old (h0 := h0) (h := h) x0 fun h' x => (hf.ext0 x).named dupL)
  have hel := fun h' => (lst_all (h0 := h0) (h := h') (zE_ok 2 dupL f.name))
  obtain ⟨⟨e1, _⟩, ⟨e2, _⟩, ⟨e3, _⟩, e4, _⟩ := hf
  obtain ⟨fk, w, n, p, t, vo, o, vf, fs, vs, rs, vp, ps, mx⟩ := f
  dsimp only at e1 e2 e3 e4 hk hn
  subst hk
  obtain ⟨_, _, rfl, _⟩ := e1
  obtain ⟨_, _, rfl, _⟩ := e2
  obtain ⟨_, _, rfl, _⟩ := e3
  obtain ⟨_, _, rfl, _⟩ := e4
  dsimp only [Fm.cells, zE, En.cells, ptE] at kk hfl hel ⊢
  refine calls [(0, _), (1, _), (2, _), (3, _), (4, _)] Tryz.func34 rfl Tryz.ntmps34 rfl ⟨rfl, rfl, rfl, rfl, rfl, trivial⟩ ?_
  all_goals (refine WC.sr ?_; refine WL.stepR (okE_box rfl) rfl rfl rfl ?_; rintro _ h1 ⟨b9, rfl, hg1, hb1, hx1⟩; refine Go ?_; refine WC.seq ?_; refine WC.sr ?_; refine Go ?_; refine Ld ?_; refine Go ?_; refine goP 20 ?_ TT.mk; refine Gg ?_; refine Go ?_; refine Gs [(0, _), (2, _), (3, _), (9, _), (22, _)] ?_; refine goC 1 2 ?_ TT.mk; refine goB 1 ?_; refine WC.sr ?_; refine Go ?_; refine WL.ld rfl (by first | exact cell_blk hb1 rfl | assumption | exact cell_blk (by assumption) rfl) rfl rfl rfl ?_; refine WL.step (ok_buildF (vs := [_, _, _]) (cs := [_, _, _, _, _, _, _, _]) (fun | [a0, a2, a3] => [a0, (.bool false), a2, a3, (.slice none 0 0), (.slice none 0 0), (.slice none 0 0), (.slice none 0 0)] | _ => []) rfl rfl (by kernel_rfl)) rfl rfl rfl ?_; refine WL.stepR (okE_alloc (fun w => Tryz.zeroValue44 w)) rfl rfl rfl ?_; rintro _ h2 ⟨b12, rfl, hg2, hb2, hx2⟩; refine WL.stepR0 (okE_storeW (fun w => Tryz.sizeOf44 w) rfl rfl rfl hb2 rfl (by simp [Value.oneCell'])) rfl rfl ?_; rintro _ h3 ⟨hb3, hx3⟩; have l1 := lt_of_some hb1; have s1 := hx1.size; have s2 := hx2.size; have hb13 := hx3.obj (hx2.obj hb1 nos) (fun e => by omega); refine Gn ?_; refine Gs [(9, _), (12, _)] ?_; refine WC.sr ?_; refine Go ?_; refine WL.stepR0 (okE_store (fun w => Tryz.sizeOf9 w) rfl rfl hb13 (Nat.le_of_ble_eq_true rfl) rfl rfl) rfl rfl ?_; rintro _ h4 ⟨hb4, hx4⟩; have hb34 := hx4.obj hb3 (fun e => by omega); have X4 : Ext No h h4 := ((hx1.trans hx2).trans' hx3 (fun q hq e => by omega)).trans' hx4 (fun q hq e => by omega); have s4 := X4.size; refine Gn ?_; refine WC.seq ?_; refine WC.drawH (fun h' => Ext No h4 h') 6 6 rfl fol ?_; refine WH.tk 0 rfl (fun hq hC => ok_loadN (fun w => Tryz.isAgg27 w) (fun w => Tryz.sizeOf27 w) rfl rfl (by exact (At.of_block hb4).ext hC nos)) rfl rfl rfl ?_; refine WH.tk 2 rfl (fun hq hC => ok_loadN (fun w => Tryz.isAgg44 w) (fun w => Tryz.sizeOf44 w) rfl rfl (by exact (At.of_block hb34).ext hC nos)) rfl rfl rfl ?_; refine WH.two 1 3 (by kernel_rfl) (Br.out (i := 5003) ?_) (Br.out (i := 5004) ?_))
  all_goals (first | (fail_if_success refine goB 5003 ?_) | (
  refine goB 5003 ?_
  all_goals (refine Comes1.run rfl (okE_buildSlice (vs := [_]) (cs := [_, _, _, _, _, _, _, _, _, _]) (fun | [.agg ⟨[a0, a1, a2, a3, a4, a5, a6, a7, a8, a9]⟩] => [a0, a1, a2, a3, a4, a5, a6, a7, a8, a9] | _ => []) Tryz.underlying36 rfl rfl (by kernel_rfl)) rfl rfl rfl ?_ (fun _ => by kernel_rfl); rintro _ g1 ⟨q1, rfl, hgq1, hq1, y1⟩; refine ⟨fun _ => by first | exact y1 | exact y2.trans y1, ?_⟩; have hY1 : Ext No h4 g1 := by first | exact y1 | exact y2.trans y1)
  all_goals (refine WH.tk 4 rfl (fun hq hC => ok_assign rfl) rfl rfl rfl ?_; refine WH.one 3 (by kernel_rfl) ?_; refine Comes1.run rfl (okE_buildSlice (vs := [_]) (cs := [_, _, _, _, _, _, _, _]) (fun | [.agg ⟨[a0, a1, a2, a3, a4, a5, a6, a7]⟩] => [a0, a1, a2, a3, a4, a5, a6, a7] | _ => []) Tryz.underlying37 rfl rfl (by kernel_rfl)) rfl rfl rfl ?_ (fun _ => by kernel_rfl); rintro _ g2 ⟨q2, rfl, hgq2, hq2, y2⟩; refine ⟨fun _ => by first | exact y2 | exact y1.trans y2, ?_⟩; have hY2 : Ext No h4 g2 := by first | exact y2 | exact y1.trans y2)
  all_goals (refine WH.tk 5 rfl (fun hq hC => ok_assign rfl) rfl rfl rfl ?_; refine WH.done (by kernel_rfl) ?_)
  skip))
  all_goals (first | (fail_if_success refine goB 5004 ?_) | (
  refine goB 5004 ?_
  all_goals (refine Comes1.run rfl (okE_buildSlice (vs := [_]) (cs := [_, _, _, _, _, _, _, _]) (fun | [.agg ⟨[a0, a1, a2, a3, a4, a5, a6, a7]⟩] => [a0, a1, a2, a3, a4, a5, a6, a7] | _ => []) Tryz.underlying37 rfl rfl (by kernel_rfl)) rfl rfl rfl ?_ (fun _ => by kernel_rfl); rintro _ g2 ⟨q2, rfl, hgq2, hq2, y2⟩; refine ⟨fun _ => by first | exact y2 | exact y1.trans y2, ?_⟩; have hY2 : Ext No h4 g2 := by first | exact y2 | exact y1.trans y2)
  all_goals (refine WH.one 1 (by kernel_rfl) ?_; refine Comes1.run rfl (okE_buildSlice (vs := [_]) (cs := [_, _, _, _, _, _, _, _, _, _]) (fun | [.agg ⟨[a0, a1, a2, a3, a4, a5, a6, a7, a8, a9]⟩] => [a0, a1, a2, a3, a4, a5, a6, a7, a8, a9] | _ => []) Tryz.underlying36 rfl rfl (by kernel_rfl)) rfl rfl rfl ?_ (fun _ => by kernel_rfl); rintro _ g1 ⟨q1, rfl, hgq1, hq1, y1⟩; refine ⟨fun _ => by first | exact y1 | exact y2.trans y1, ?_⟩; have hY1 : Ext No h4 g1 := by first | exact y1 | exact y2.trans y1)
  all_goals (refine WH.tk 4 rfl (fun hq hC => ok_assign rfl) rfl rfl rfl ?_; refine WH.tk 5 rfl (fun hq hC => ok_assign rfl) rfl rfl rfl ?_; refine WH.done (by kernel_rfl) ?_)
  skip))
  all_goals (refine Gn ?_; refine Gs [(10, _), (11, _)] ?_; refine Gt ?_)
  all_goals (first
              | exact ⟨kk _ _ _ (y2.obj hq1 nos) hq2 (hfl.ext0 (X4.trans hY2)) (hel _) (by omega) (by have := y1.size; omega), d.ext0 (X4.trans hY2), fs_no (X4.trans hY2)⟩
              | exact ⟨kk _ _ _ hq1 (y1.obj hq2 nos) (hfl.ext0 (X4.trans hY1)) (hel _) (by have := y2.size; omega) (by omega), d.ext0 (X4.trans hY1), fs_no (X4.trans hY1)⟩)
end
end Go.Proofs.YtggmocdbfbhklaaGreat


/-
  REWRITE (layer 24), by the document: a P of a name that isn't there.
-/
namespace Go.Proofs.YtggmocdbfbhklaaGreat
open Go Go.RK

section
variable {h0 h h1 h' : Heap} {B : Nat} {c : Int} {bt : Nat} {s : RS} {f : Fm} {v : Value} {ss : Option Addr} {sn sc : Nat} {spec : List Int} {most jd : Int} {kn : Bool}
theorem Dst.keep {S : Nat → Prop} (d : Dst h0 h B bt s) (x : Ext S h h1) (hS : ∀ q, S q → ∃ cs T, h[q]? = some (.cells cs T (0, 0)) ∧ T ∉ (3 :: docT)) : Dst h0 h1 B bt s := d.ext x fun q e => by
  obtain ⟨cs, T, hb, hT⟩ := hS q e
  exact fun ty => hT (ty_one hb ty)
set_option maxHeartbeats 4000000 in
set_option maxRecDepth 100000 in
theorem parse_new (d : Dst h0 h B bt s) (sv : Sv c s) (x0 : Ext No h0 h) (hf : f.ok h0) (hk : f.kind = 80) (hn : f.name = [] ∨ kn = false) (hol : f.oids.length ≤ 50) (hsp : Rd h0 (.slice ss sn sc) 1 spec.length (ints spec)) (hsl : spec.length ≤ 40) (hcc : 0 ≤ c ∧ c + 2 ≤ 1000000) :
    CallsH Tryz.prog 34 ⟨[ptE bt, .bool kn, .slice ss sn sc, In most, .agg ⟨f.cells⟩]⟩ h (DoD h0 h B bt (preA s spec most f.pl)) := by
  obtain ⟨_, _, hvs, _⟩ := id hsp
  simp only [Value.slice.injEq] at hvs
  obtain ⟨rfl, rfl, rfl⟩ := hvs
  have kput := fun g (x : Ext No h g) => d_put (d.ext0 x) sv (by omega) (x0.trans x) f.text f.oids (w := f.vo) ⟨hf.oids.1, by dsimp only; unfold reachBytes; omega⟩
  have hpl : ∀ n, ({ f with name := n } : Fm).pl = asP f.pl n := fun _ => rfl
  have hfl := fun (g : Heap) (x : Ext No h0 g) n => (lst_old (h0 := h0) (h := g) x fun h' x => (hf.ext0 x).named n)
  have kk := fun n p q h' (e : En) => gives_one (h0 := h0) (h := h) (h' := h') (p := p) (q := q) (f := { f with name := n }) (e := e)
  obtain ⟨s1, id1, hr⟩ : ∃ s1 id1, putS s f.text f.oids = (s1, id1) := ⟨_, _, rfl⟩
  have sv1 : Sv (c + 1) s1 := by have := sv.put f.text f.oids; rwa [hr] at this
  have hpre : preA s spec most f.pl = (if id1 = 0 then (s1, [], []) else if id1 ∈ spec then (s1, [asP f.pl []], [(2, false, [], [], [(true, f.name, id1, ())], preBad f.name, [(3, id1, ())], [])]) else (refS s1 id1, roomF spec most ++ [asP f.pl (srvL id1)], roomE spec most ++ [(2, false, [], [], [(true, f.name, id1, ())], preBad f.name, [(1, id1, ())], [])])) := by
    show (let r := putS s f.text f.oids; if r.2 = 0 then (r.1, [], []) else if r.2 ∈ spec then (r.1, [asP f.pl []], [(2, false, [], [], preGood f.pl r.2, preBad f.name, [(3, r.2, ())], [])]) else (refS r.1 r.2, roomF spec most ++ [asP f.pl (srvL r.2)], roomE spec most ++ [(2, false, [], [], preGood f.pl r.2, preBad f.name, [(1, r.2, ())], [])])) = _
    rw [hr]
    rfl
  rw [hpre]
  rw [hr] at kput
  clear hpre hr
  have kc := fun h' (x : Ext No h0 h') => has18 (h := h') spec id1 (hsp.ext0 x) (by unfold maxLen; omega)
  have kroom := fun h' (x : Ext No h0 h') => room_any_ref (h := h') spec most (hsp.ext0 x) (by omega)
  have kref := fun h' (d : Dst h0 h' B bt s1) => d_ref d sv1 (by omega) id1
  obtain ⟨⟨e1, _⟩, ⟨e2, _⟩, ⟨e3, _⟩, e4, _⟩ := hf
  generalize hP : f.pl = P at *
  obtain ⟨fk, w, n, p, t, vo, o, vf, fs, vs, rs, vp, ps, mx⟩ := f
  dsimp only at e1 e2 e3 e4 hk hn
  subst hk
  obtain ⟨_, _, rfl, _⟩ := e1
  obtain ⟨_, _, rfl, _⟩ := e2
  obtain ⟨_, _, rfl, _⟩ := e3
  obtain ⟨_, _, rfl, _⟩ := e4
  dsimp only [Fm.cells, ptE] at kput kk hfl hpl kref ⊢
  have hn' : n = [] ∨ (¬ n = [] ∧ kn = false) := by
    by_cases h1 : n = []
    · exact .inl h1
    · exact .inr ⟨h1, hn.resolve_left h1⟩
  clear hn
  by_cases hid : id1 = 0
  · rw [if_pos hid]
    rcases hn' with rfl | ⟨hn0, rfl⟩
    all_goals
      refine calls [(0, _), (1, _), (2, _), (3, _), (4, _)] Tryz.func34 rfl Tryz.ntmps34 rfl ⟨rfl, rfl, rfl, rfl, rfl, trivial⟩ ?_
      all_goals (refine WC.sr ?_; refine WL.stepR (okE_box rfl) rfl rfl rfl ?_; rintro _ h1 ⟨b9, rfl, hg1, hb1, hx1⟩; refine Go ?_; refine WC.seq ?_; refine WC.sr ?_; refine Go ?_; refine Ld ?_; refine Go ?_; refine goP 20 ?_ TT.mk; refine Gg ?_; refine Go ?_; refine Gs [(0, _), (2, _), (3, _), (9, _), (22, _)] ?_; refine goC 1 2 ?_ TT.mk; refine goB 2 ?_; refine WC.skip ?_; refine Gn ?_; refine WC.sr ?_; refine Go ?_; refine WL.ld rfl (by first | exact cell_blk hb1 rfl | assumption | exact cell_blk (by assumption) rfl) rfl rfl rfl ?_; refine Go ?_; refine WL.ld rfl (by first | exact cell_blk hb1 rfl | assumption | exact cell_blk (by assumption) rfl) rfl rfl rfl ?_; refine WL.step (ok_buildF (vs := [_, _]) (cs := [_, _]) (fun | [a0, a1] => [a0, a1] | _ => []) rfl rfl (by kernel_rfl)) rfl rfl rfl ?_; refine WL.call (vs := [_, _]) rfl (fun a w => Tryz.call22 a w) rfl (kput _ hx1) rfl rfl rfl ?_; rintro _ h2 ⟨rfl, d2, x2⟩; refine Go ?_; refine Gs [(0, _), (2, _), (3, _), (9, _), (13, _)] ?_; refine WC.seq ?_; refine WC.sr ?_; refine Go ?_; refine goC 3 4 ?_ TT.mk; refine goB 3 ?_; refine WC.sr ?_; refine Go ?_; refine Gs [(10, _), (11, _)] ?_; refine Gt ?_; exact ⟨.nil, d2, (fs_no hx1).trans' x2 (fun q hq e => fs_no_back hx1 hq e)⟩)
  · rw [if_neg hid]
    rcases hn' with rfl | ⟨hn0, rfl⟩
    all_goals by_cases hin : id1 ∈ spec
    all_goals first | rw [if_pos hin] | rw [if_neg hin]
    all_goals
      refine calls [(0, _), (1, _), (2, _), (3, _), (4, _)] Tryz.func34 rfl Tryz.ntmps34 rfl ⟨rfl, rfl, rfl, rfl, rfl, trivial⟩ ?_
      all_goals (refine WC.sr ?_; refine WL.stepR (okE_box rfl) rfl rfl rfl ?_; rintro _ h1 ⟨b9, rfl, hg1, hb1, hx1⟩; refine Go ?_; refine WC.seq ?_; refine WC.sr ?_; refine Go ?_; refine Ld ?_; refine Go ?_; refine goP 20 ?_ TT.mk; refine Gg ?_; refine Go ?_; refine Gs [(0, _), (2, _), (3, _), (9, _), (22, _)] ?_; refine goC 1 2 ?_ TT.mk; refine goB 2 ?_; refine WC.skip ?_; refine Gn ?_; refine WC.sr ?_; refine Go ?_; refine WL.ld rfl (by first | exact cell_blk hb1 rfl | assumption | exact cell_blk (by assumption) rfl) rfl rfl rfl ?_; refine Go ?_; refine WL.ld rfl (by first | exact cell_blk hb1 rfl | assumption | exact cell_blk (by assumption) rfl) rfl rfl rfl ?_; refine WL.step (ok_buildF (vs := [_, _]) (cs := [_, _]) (fun | [a0, a1] => [a0, a1] | _ => []) rfl rfl (by kernel_rfl)) rfl rfl rfl ?_; refine WL.call (vs := [_, _]) rfl (fun a w => Tryz.call22 a w) rfl (kput _ hx1) rfl rfl rfl ?_; rintro _ h2 ⟨rfl, d2, x2⟩; have hb12 := x2.obj hb1 (ds_off hb1 (by decide)); have X2 : Ext (DS h0 h) h h2 := (fs_no hx1).trans' x2 (fun q hq e => fs_no_back hx1 hq e); have x02 := fs_old x0 X2; have hs2 := X2.size; have l1 := lt_of_some hb12; refine Go ?_; refine Gs [(0, _), (2, _), (3, _), (9, _), (13, _)] ?_; refine WC.seq ?_; refine WC.sr ?_; refine Go ?_; refine goC 3 4 ?_ TT.mk; refine goB 4 ?_; refine WC.skip ?_; refine Gn ?_; refine WC.sr ?_; refine Go ?_; refine WL.ld rfl (by first | exact cell_blk hb12 rfl | assumption | exact cell_blk (by assumption) rfl) rfl rfl rfl ?_; refine Go ?_; refine WL.step (ok_buildF (vs := [_, _, _]) (cs := [_, _, _]) (fun | [a0, a1, a2] => [a0, a1, a2] | _ => []) rfl rfl (by kernel_rfl)) rfl rfl rfl ?_; refine WL.stepR (okE_buildSlice (vs := [_]) (cs := [_, _, _]) (fun | [.agg ⟨[a0, a1, a2]⟩] => [a0, a1, a2] | _ => []) Tryz.underlying40 rfl rfl (by kernel_rfl)) rfl rfl rfl ?_; rintro _ h3 ⟨b44, rfl, hg3, hb3, hx3⟩; refine WL.step (ok_buildF (vs := [_, _]) (cs := [_, _, _, _, _, _, _, _]) (fun | [a0, a4] => [a0, (.bool false), (St []), (St []), a4, (.slice none 0 0), (.slice none 0 0), (.slice none 0 0)] | _ => []) rfl rfl (by kernel_rfl)) rfl rfl rfl ?_; refine WL.stepR (okE_alloc (fun w => Tryz.zeroValue44 w)) rfl rfl rfl ?_; rintro _ h4 ⟨b14, rfl, hg4, hb4, hx4⟩; refine WL.stepR0 (okE_storeW (fun w => Tryz.sizeOf44 w) rfl rfl rfl hb4 rfl (by simp [Value.oneCell'])) rfl rfl ?_; rintro _ h5 ⟨hb5, hx5⟩; have hs3 := hx3.size; have l3 := lt_of_some hb3; have hb15 := hx5.obj ((hx3.trans hx4).obj hb12 nos) (fun e => by omega); have hb35 := hx5.obj (hx4.obj hb3 nos) (fun e => by omega); have l5 := lt_of_some hb5; have X5 : Ext No h2 h5 := (hx3.trans hx4).trans' hx5 (fun q hq e => by omega); refine Gn ?_; refine Gs [(0, _), (2, _), (3, _), (9, _), (13, _), (14, _)] ?_; refine WC.seq ?_; refine WC.sr ?_; refine Go ?_; refine WL.ld rfl (by first | exact cell_blk hb15 rfl | assumption | exact cell_blk (by assumption) rfl) rfl rfl rfl ?_; refine Go ?_; refine goC 5 6 ?_ TT.mk)
      all_goals (first | (fail_if_success refine goB 5 ?_) | (
      refine goB 5 ?_
      all_goals (refine WC.region ?_; refine WL.step (ok_buildF (vs := []) (cs := [_, _, _]) (fun | [] => [(.bool false), (St []), (.int .i64 0)] | _ => []) rfl rfl (by kernel_rfl)) rfl rfl rfl ?_; refine WL.stepR (okE_buildSlice (vs := [_]) (cs := [_, _, _]) (fun | [.agg ⟨[a0, a1, a2]⟩] => [a0, a1, a2] | _ => []) Tryz.underlying40 rfl rfl (by kernel_rfl)) rfl rfl rfl ?_; rintro _ h8 ⟨b8, rfl, hg8, hb8, hx8⟩; refine Go ?_; refine WL.stepR0 (okE_store (fun w => Tryz.sizeOf40 w) rfl rfl (hx8.obj hb5 nos) (Nat.le_of_ble_eq_true rfl) rfl rfl) rfl rfl ?_; rintro _ h9 ⟨hb9, hx9⟩; refine Gn ?_)
      skip))
      all_goals (first | (fail_if_success refine goB 6 ?_) | (
      refine goB 6 ?_
      all_goals (refine WC.skip ?_)
      skip))
      all_goals (refine Gn ?_; refine WC.seq ?_; refine WC.sr ?_; refine Go ?_)
      all_goals (first
                  | ((fail_if_success (have := hx9)); have HJ := hb15; have HG := hb35; have HE := hb5; have HX := X5; have HB : Lst h0 h5 fun z => Tops z (.slice none 0 0) (preBad n) := (by rw [preBad, if_neg hn0]; exact lst_all tops_nil))
                  | (have HJ := hx9.obj (hx8.obj hb15 nos) (fun e => by omega)
                     have HG := hx9.obj (hx8.obj hb35 nos) (fun e => by omega)
                     have HE := hb9
                     have HX : Ext No h2 h9 := (X5.trans hx8).trans' hx9 (fun q hq e => by omega)
                     have hb89 := hx9.obj hb8 (fun e => by omega)
                     have HB := (lst_blk (h0 := h0) hb89 (by decide)).mono fun _ z => tops_one z)
                 have HT := (lst_blk (h0 := h0) HG (by decide)).mono fun _ z => tops_one z
                 have hsX := HX.size
                 have lE := lt_of_some HE
                 have dX := d2.ext0 HX
                 have x0X := x02.trans HX)
      all_goals (refine WL.call (vs := [_, _]) rfl (fun a w => Tryz.call66 a w) rfl (kc _ x0X) rfl rfl rfl ?_; rintro _ hz ⟨rfl, _⟩; subst hz; first | rw [decide_eq_true hin] | rw [decide_eq_false hin])
      all_goals (refine Gn ?_; refine Gs [(0, _), (2, _), (3, _), (9, _), (13, _), (14, _), (54, _)] ?_; refine goC 7 8 ?_ TT.mk)
      all_goals (first | (fail_if_success refine goB 7 ?_) | (
      refine goB 7 ?_
      all_goals (refine WC.sr ?_; refine Go ?_; refine WL.stepR0 (okE_store (fun w => Tryz.sizeOf9 w) rfl rfl HJ (Nat.le_of_ble_eq_true rfl) rfl rfl) rfl rfl ?_; rintro _ h10 ⟨HJ10, hx10⟩; have HE10 := hx10.obj HE (fun e => by omega); refine Gn ?_; refine Gs [(9, _), (13, _), (14, _)] ?_; refine WC.sr ?_; refine Go ?_; refine WL.step (ok_buildF (vs := [_, _]) (cs := [_, _]) (fun | [a0, a1] => [a0, a1] | _ => []) rfl rfl (by kernel_rfl)) rfl rfl rfl ?_; refine WL.stepR (okE_buildSlice (vs := [_]) (cs := [_, _]) (fun | [.agg ⟨[a0, a1]⟩] => [a0, a1] | _ => []) Tryz.underlying41 rfl rfl (by kernel_rfl)) rfl rfl rfl ?_; rintro _ h11 ⟨b11, rfl, hg11, hb11, hx11⟩; refine Go ?_; refine WL.stepR0 (okE_store (fun w => Tryz.sizeOf41 w) rfl rfl (hx11.obj HE10 nos) (Nat.le_of_ble_eq_true rfl) rfl rfl) rfl rfl ?_; rintro _ h12 ⟨HE12, hx12⟩; have HJ12 := hx12.obj (hx11.obj HJ10 nos) (fun e => by omega); have X12 : Ext (DS h0 h) h h12 := (((X2.trans' HX (fun _ _ e => e.elim)).trans' hx10 (fun q hq e => by omega)).trans' hx11 (fun _ _ e => e.elim)).trans' hx12 (fun q hq e => by omega); have d12 := ((dX.keep hx10 (fun q e => ⟨_, _, e ▸ HJ, by decide⟩)).ext0 hx11).keep hx12 (fun q e => ⟨_, _, e ▸ hx11.obj HE10 nos, by decide⟩); have hb1112 := hx12.obj hb11 (fun e => by have := lt_of_some HE10; omega); (have sJ : Sf h0 _ (fun q => q = b9) := fun q e => ⟨by have := x0.size; have := hx1.size; omega, fun ty => absurd (ty_one HJ (e ▸ ty)) (by decide)⟩); (have sE : Sf h0 h11 (fun q => q = b14) := fun q e => ⟨by have := x02.size; omega, fun ty => absurd (ty_one (hx11.obj HE10 nos) (e ▸ ty)) (by decide)⟩); have HT12 := ((HT.step hx10 sJ).ext0 hx11).step hx12 sE; have HB12 := ((HB.step hx10 sJ).ext0 hx11).step hx12 sE; (have HC12 := (lst_blk (h0 := h0) hb1112 (by decide)).mono fun _ z => one_op z); have s12 := X12.size; refine Gn ?_; refine Gs [(9, _), (14, _)] ?_; refine WC.seq ?_; refine WC.drawH (fun h' => Ext No h12 h') 6 6 rfl fol ?_; refine WH.tk 0 rfl (fun hq hC => ok_loadN (fun w => Tryz.isAgg27 w) (fun w => Tryz.sizeOf27 w) rfl rfl (by exact (At.of_block HJ12).ext hC nos)) rfl rfl rfl ?_; refine WH.tk 2 rfl (fun hq hC => ok_loadN (fun w => Tryz.isAgg44 w) (fun w => Tryz.sizeOf44 w) rfl rfl (by exact (At.of_block HE12).ext hC nos)) rfl rfl rfl ?_; refine WH.two 1 3 (by kernel_rfl) (Br.out (i := 5003) ?_) (Br.out (i := 5004) ?_))
      all_goals (first | (fail_if_success refine goB 5003 ?_) | (
      refine goB 5003 ?_
      all_goals (refine Comes1.run rfl (okE_buildSlice (vs := [_]) (cs := [_, _, _, _, _, _, _, _, _, _]) (fun | [.agg ⟨[a0, a1, a2, a3, a4, a5, a6, a7, a8, a9]⟩] => [a0, a1, a2, a3, a4, a5, a6, a7, a8, a9] | _ => []) Tryz.underlying36 rfl rfl (by kernel_rfl)) rfl rfl rfl ?_ (fun _ => by kernel_rfl); rintro _ g1 ⟨q1, rfl, hgq1, hq1, y1⟩; refine ⟨fun _ => by first | exact y1 | exact y2.trans y1, ?_⟩; have hY1 : Ext No h12 g1 := by first | exact y1 | exact y2.trans y1)
      all_goals (refine WH.tk 4 rfl (fun hq hC => ok_assign rfl) rfl rfl rfl ?_; refine WH.one 3 (by kernel_rfl) ?_; refine Comes1.run rfl (okE_buildSlice (vs := [_]) (cs := [_, _, _, _, _, _, _, _]) (fun | [.agg ⟨[a0, a1, a2, a3, a4, a5, a6, a7]⟩] => [a0, a1, a2, a3, a4, a5, a6, a7] | _ => []) Tryz.underlying37 rfl rfl (by kernel_rfl)) rfl rfl rfl ?_ (fun _ => by kernel_rfl); rintro _ g2 ⟨q2, rfl, hgq2, hq2, y2⟩; refine ⟨fun _ => by first | exact y2 | exact y1.trans y2, ?_⟩; have hY2 : Ext No h12 g2 := by first | exact y2 | exact y1.trans y2)
      all_goals (refine WH.tk 5 rfl (fun hq hC => ok_assign rfl) rfl rfl rfl ?_; refine WH.done (by kernel_rfl) ?_)
      skip))
      all_goals (first | (fail_if_success refine goB 5004 ?_) | (
      refine goB 5004 ?_
      all_goals (refine Comes1.run rfl (okE_buildSlice (vs := [_]) (cs := [_, _, _, _, _, _, _, _]) (fun | [.agg ⟨[a0, a1, a2, a3, a4, a5, a6, a7]⟩] => [a0, a1, a2, a3, a4, a5, a6, a7] | _ => []) Tryz.underlying37 rfl rfl (by kernel_rfl)) rfl rfl rfl ?_ (fun _ => by kernel_rfl); rintro _ g2 ⟨q2, rfl, hgq2, hq2, y2⟩; refine ⟨fun _ => by first | exact y2 | exact y1.trans y2, ?_⟩; have hY2 : Ext No h12 g2 := by first | exact y2 | exact y1.trans y2)
      all_goals (refine WH.one 1 (by kernel_rfl) ?_; refine Comes1.run rfl (okE_buildSlice (vs := [_]) (cs := [_, _, _, _, _, _, _, _, _, _]) (fun | [.agg ⟨[a0, a1, a2, a3, a4, a5, a6, a7, a8, a9]⟩] => [a0, a1, a2, a3, a4, a5, a6, a7, a8, a9] | _ => []) Tryz.underlying36 rfl rfl (by kernel_rfl)) rfl rfl rfl ?_ (fun _ => by kernel_rfl); rintro _ g1 ⟨q1, rfl, hgq1, hq1, y1⟩; refine ⟨fun _ => by first | exact y1 | exact y2.trans y1, ?_⟩; have hY1 : Ext No h12 g1 := by first | exact y1 | exact y2.trans y1)
      all_goals (refine WH.tk 4 rfl (fun hq hC => ok_assign rfl) rfl rfl rfl ?_; refine WH.tk 5 rfl (fun hq hC => ok_assign rfl) rfl rfl rfl ?_; refine WH.done (by kernel_rfl) ?_)
      skip))
      all_goals (refine Gn ?_; refine Gs [(10, _), (11, _)] ?_; refine Gt ?_)
      all_goals (try rw [show preBad [] = [(false, [], 0, ())] from if_pos rfl]
                 first
                  | (have hg := kk [] _ _ _ (rE 2 [] [] _ _ _ _ _ _) (y2.obj hq1 nos) hq2 (hfl _ ((fs_old x0 X12).trans hY2) []) (rE_ok (HT12.ext0 hY2) (HB12.ext0 hY2) (HC12.ext0 hY2)) (by omega) (by have := y1.size; omega)
                     rw [hpl []] at hg
                     exact ⟨hg, d12.ext0 hY2, X12.trans' hY2 (fun _ _ e => e.elim)⟩)
                  | (have hg := kk [] _ _ _ (rE 2 [] [] _ _ _ _ _ _) hq1 (y1.obj hq2 nos) (hfl _ ((fs_old x0 X12).trans hY1) []) (rE_ok (HT12.ext0 hY1) (HB12.ext0 hY1) (HC12.ext0 hY1)) (by have := y2.size; omega) (by omega)
                     rw [hpl []] at hg
                     exact ⟨hg, d12.ext0 hY1, X12.trans' hY1 (fun _ _ e => e.elim)⟩)
                  | (have hdf := d18.keep hE (fun q e => e.elim (fun z => (own_ty kF z).elim fun _ y => ⟨_, _, y, by decide⟩) (fun z => (own_ty kE z).elim fun _ y => ⟨_, _, y, by decide⟩))
                     have hg := gives_snoc (h := h13) hoF6 hoE10 (by omega) (by omega) (fun x hx => lst_all (f1 x hx)) (okE_hi f2) hF (rE_ok hT hB hC') hgF hgE
                     rw [p1, p2, hpl] at hg
                     exact ⟨hg.from sh13, hdf, X18.trans' hE (fun q hq e => absurd (Nat.lt_of_lt_of_le hq sh13) (Nat.not_lt.2 (e.elim (fF q) (fE q))))⟩))
      skip))
      all_goals (refine goB 8 ?_; refine WC.skip ?_; refine Gn ?_; refine WC.sr ?_; refine Go ?_; refine WL.call (vs := [_, _]) rfl (fun a w => Tryz.call49 a w) rfl (kref _ dX) rfl rfl rfl ?_; rintro _ h13 ⟨⟨xr, rfl⟩, d3, x13⟩; have HJ13 := x13.obj HJ (ds_off HJ (by decide)); have HE13 := x13.obj HE (ds_off HE (by decide)); have HT13 := HT.step x13 ds_sf; have HB13 := HB.step x13 ds_sf; have X13 : Ext (DS h0 h2) h2 h13 := (fs_no HX).trans' x13 (fun q hq e => fs_no_back HX hq e); have XX13 := fs_trans X2 X13; have x013 := fs_old x0 XX13; have hs13 := x13.size; have lJ13 := lt_of_some HJ13; have lE13 := lt_of_some HE13; refine Gn ?_; refine Gs [(2, _), (3, _), (9, _), (13, _), (14, _)] ?_; refine WC.sr ?_; refine Go ?_; refine WL.call (vs := [_, _]) rfl (fun a w => Tryz.call67 a w) rfl (kroom _ x013) rfl rfl rfl ?_; rintro _ h15 ⟨vF, vE, L, M, rfl, hoF, hoE, hL1, hM1, f1, f2, p1, p2, hx15, fF, fE⟩; have HJ15 := hx15.obj HJ13 nos; have HE15 := hx15.obj HE13 nos; have HT15 := HT13.ext0 hx15; have HB15 := HB13.ext0 hx15; have hs15 := hx15.size; refine Go ?_; refine Gs [(9, _), (13, _), (14, _), (15, _), (16, _)] ?_; refine WC.sr ?_; refine Go ?_; refine WL.call (vs := [_]) rfl (fun a w => Tryz.call68 a w) rfl (srv_ref id1) rfl rfl rfl ?_; rintro _ hz ⟨rfl, _⟩; subst hz; refine Go ?_; refine WL.stepR0 (okE_store (fun w => Tryz.sizeOf9 w) rfl rfl HJ15 (Nat.le_of_ble_eq_true rfl) rfl rfl) rfl rfl ?_; rintro _ h16 ⟨HJ16, hx16⟩; have HE16 := hx16.obj HE15 (fun e => by omega); (have nF : ∀ q, vF.ownBlock = some q → q ≠ b9 ∧ q ≠ b14 := fun q hq => by have := fF q hq; omega); (have nE : ∀ q, vE.ownBlock = some q → q ≠ b9 ∧ q ≠ b14 := fun q hq => by have := fE q hq; omega); (have sJ : Sf h0 h15 (fun q => q = b9) := fun q e => ⟨by have := x0.size; have := hx1.size; omega, fun ty => absurd (ty_one HJ15 (e ▸ ty)) (by decide)⟩); have HT16 := HT15.step hx16 sJ; have HB16 := HB15.step hx16 sJ; have hoF16 := hoF.ext hx16 (fun q hq e => (nF q hq).1 e); have hoE16 := hoE.ext hx16 (fun q hq e => (nE q hq).1 e); have f216 := f2_ext f2 hx16 (fun b cs hb e => by rw [show b = b9 from e, HJ15] at hb; simp at hb); refine Gn ?_; refine WC.sr ?_; refine Go ?_; refine WL.step (ok_buildF (vs := [_, _]) (cs := [_, _]) (fun | [a0, a1] => [a0, a1] | _ => []) rfl rfl (by kernel_rfl)) rfl rfl rfl ?_; refine WL.stepR (okE_buildSlice (vs := [_]) (cs := [_, _]) (fun | [.agg ⟨[a0, a1]⟩] => [a0, a1] | _ => []) Tryz.underlying41 rfl rfl (by kernel_rfl)) rfl rfl rfl ?_; rintro _ h17 ⟨b18, rfl, hg18, hb18, hx17⟩; refine Go ?_; refine WL.stepR0 (okE_store (fun w => Tryz.sizeOf41 w) rfl rfl (hx17.obj HE16 nos) (Nat.le_of_ble_eq_true rfl) rfl rfl) rfl rfl ?_; rintro _ h18 ⟨HE18, hx18⟩; have HJ18 := hx18.obj (hx17.obj HJ16 nos) (fun e => by omega); have hb188 := hx18.obj hb18 (fun e => by have := hx16.size; omega); (have sE : Sf h0 h17 (fun q => q = b14) := fun q e => ⟨by have := x02.size; omega, fun ty => absurd (ty_one (hx17.obj HE16 nos) (e ▸ ty)) (by decide)⟩); have hT := (HT16.ext0 hx17).step hx18 sE; have hB := (HB16.ext0 hx17).step hx18 sE; (have hC' : Lst h0 h18 fun z => Ops z (.slice (some ⟨b18, 0, none⟩) 1 1) [(1, id1, ())] := (lst_blk hb188 (by decide)).mono fun _ z => one_op z); replace hoF := (hoF16.ext hx17 (fun _ _ => nos)).ext hx18 (fun q hq e => (nF q hq).2 e); replace hoE := (hoE16.ext hx17 (fun _ _ => nos)).ext hx18 (fun q hq e => (nE q hq).2 e); replace f2 := f2_ext (f2_ext f216 hx17 (fun _ _ _ => nos)) hx18 (fun b cs hb e => by rw [show b = b14 from e, hx17.obj HE16 nos] at hb; simp at hb); have X18 : Ext (DS h0 h) h h18 := (((XX13.trans' hx15 (fun _ _ e => e.elim)).trans' hx16 (fun q hq e => by omega)).trans' hx17 (fun _ _ e => e.elim)).trans' hx18 (fun q hq e => by omega); have d18 := (((d3.ext0 hx15).keep hx16 (fun q e => ⟨_, _, e ▸ HJ15, by decide⟩)).ext0 hx17).keep hx18 (fun q e => ⟨_, _, e ▸ hx17.obj HE16 nos, by decide⟩); have x018 := fs_old x0 X18; have s1318 : h13.size ≤ h18.size := Nat.le_trans hx15.size (Nat.le_trans hx16.size (Nat.le_trans hx17.size hx18.size)); have sh13 : h.size ≤ h13.size := XX13.size; have hF := hfl _ x018 (srvL id1); have hE : Ext (fun q => vF.ownBlock = some q ∨ vE.ownBlock = some q) h18 h18 := .refl _ _; have kF := hoF; have kE := hoE; (have hsf : ∀ {g : Heap} {S : Nat → Prop}, (∀ q, S q → vF.ownBlock = some q ∨ vE.ownBlock = some q) → Own g vF 27 10 L.length (L.flatMap Fm.cells) → Own g vE 44 8 M.length (M.flatMap En.cells) → Sf h0 g S := fun hS oF oE q e => ⟨by have := x013.size; rcases hS q e with z | z; exact Nat.le_trans this (fF q z); exact Nat.le_trans this (fE q z), fun ty => by rcases hS q e with z | z; (obtain ⟨_, y⟩ := own_ty oF z; exact absurd (ty_one y ty) (by decide)); (obtain ⟨_, y⟩ := own_ty oE z; exact absurd (ty_one y ty) (by decide))⟩); clear kput kk kref kc kroom; clear HT15 HT16 HB15 HB16 HT13 HB13 hoF16 hoE16 f216)
      all_goals (refine Gn ?_; refine Gs [(9, _), (14, _), (15, _), (16, _)] ?_; refine WC.seq ?_; refine WC.drawH (fun h' => Ext (fun q => vF.ownBlock = some q ∨ vE.ownBlock = some q) h18 h') 10 10 rfl fol ?_; refine WH.tk 0 rfl (fun hq hC => ok_move rfl) rfl rfl rfl ?_; refine WH.tk 1 rfl (fun hq hC => ok_loadN (fun w => Tryz.isAgg27 w) (fun w => Tryz.sizeOf27 w) rfl rfl (by exact ((At.of_block HJ18).ext hC (fun e => e.elim (fun z => (nF _ z).1 rfl) (fun z => (nE _ z).1 rfl))))) rfl rfl rfl ?_; refine WH.tk 4 rfl (fun hq hC => ok_move rfl) rfl rfl rfl ?_; refine WH.tk 5 rfl (fun hq hC => ok_loadN (fun w => Tryz.isAgg44 w) (fun w => Tryz.sizeOf44 w) rfl rfl (by exact ((At.of_block HE18).ext hC (fun e => e.elim (fun z => (nF _ z).2 rfl) (fun z => (nE _ z).2 rfl))))) rfl rfl rfl ?_; refine WH.two 2 6 (by kernel_rfl) (Br.out (i := 5009) ?_) (Br.out (i := 5010) ?_))
      all_goals (first | (fail_if_success refine goB 5009 ?_) | (
      refine goB 5009 ?_
      all_goals (refine Comes1.run rfl (okE_buildSlice (vs := [_]) (cs := [_, _, _, _, _, _, _, _, _, _]) (fun | [.agg ⟨[a0, a1, a2, a3, a4, a5, a6, a7, a8, a9]⟩] => [a0, a1, a2, a3, a4, a5, a6, a7, a8, a9] | _ => []) Tryz.underlying36 rfl rfl (by kernel_rfl)) rfl rfl rfl ?_ (fun _ => by kernel_rfl); rintro _ g3 ⟨q3, rfl, hgq3, hb3e, y3⟩; refine ⟨fun _ => hE.trans (y3.mono fun _ _ e => e.elim), ?_⟩; replace hE := hE.trans (y3.mono (S' := fun q => vF.ownBlock = some q ∨ vE.ownBlock = some q) fun _ _ e => e.elim); replace hoF := hoF.ext y3 (fun _ _ => nos); replace hoE := hoE.ext y3 (fun _ _ => nos); replace f2 := f2_ext f2 y3 (fun _ _ _ => nos); replace hT := hT.ext0 y3; replace hB := hB.ext0 y3; replace hC' := hC'.ext0 y3; replace hF := hF.ext0 y3; try replace hb9e := y3.obj hb9e nos)
      all_goals (refine WH.two 3 6 (by kernel_rfl) (Br.out (i := 5009) ?_) (Br.out (i := 5010) ?_))
      all_goals (first | (fail_if_success refine goB 5009 ?_) | (
      refine goB 5009 ?_
      all_goals (refine Comes1.run rfl (ok_append (sz := 10) (bytes := 160) rfl Tryz.underlying36 (show Tryz.prog.info? 27 = some Tryz.t27 by kernel_rfl) rfl rfl rfl rfl (by decide) rfl rfl hoF (rd_blk hb3e rfl) (by simp [Value.oneCell']) (by simp only [maxLen]; omega) (by omega)) rfl rfl rfl ?_ (fun _ => by kernel_rfl); rintro v6 g4 ⟨hoF6, y4, hl6⟩; refine ⟨fun _ => hE.trans (y4.mono fun _ _ e => .inl e), ?_⟩; have hsz6 := y4.size; have hs4f := hsf (S := fun q => vF.ownBlock = some q) (fun q e => .inl e) hoF hoE; have hgF := fresh_of hl6 fF (Nat.le_trans s1318 hE.size); replace hE := hE.trans (y4.mono (S' := fun q => vF.ownBlock = some q ∨ vE.ownBlock = some q) fun _ _ e => .inl e); replace hoE := hoE.ext y4 (fun q hq e => own_apart hoF hoE (by decide) q hq e); replace f2 := f2_ext f2 y4 (fun b cs hb q => own_ne hoF hb (by decide) q); replace hT := hT.step y4 hs4f; replace hB := hB.step y4 hs4f; replace hC' := hC'.step y4 hs4f; replace hF := hF.step y4 hs4f; try replace hb9e := y4.obj hb9e (fun q => own_ne hoF hb9e (by decide) q))
      all_goals (refine WH.one 6 (by kernel_rfl) ?_; refine Comes1.run rfl (okE_buildSlice (vs := [_]) (cs := [_, _, _, _, _, _, _, _]) (fun | [.agg ⟨[a0, a1, a2, a3, a4, a5, a6, a7]⟩] => [a0, a1, a2, a3, a4, a5, a6, a7] | _ => []) Tryz.underlying37 rfl rfl (by kernel_rfl)) rfl rfl rfl ?_ (fun _ => by kernel_rfl); rintro _ g5 ⟨q9, rfl, hgq9, hb9e, y5⟩; refine ⟨fun _ => hE.trans (y5.mono fun _ _ e => e.elim), ?_⟩)
      all_goals (replace hE := hE.trans (y5.mono (S' := fun q => vF.ownBlock = some q ∨ vE.ownBlock = some q) fun _ _ e => e.elim)
                 try replace hoF := hoF.ext y5 (fun _ _ => nos)
                 try replace hoF6 := hoF6.ext y5 (fun _ _ => nos)
                 try replace hb3e := y5.obj hb3e nos
                 replace hoE := hoE.ext y5 (fun _ _ => nos)
                 replace f2 := f2_ext f2 y5 (fun _ _ _ => nos)
                 replace hT := hT.ext0 y5
                 replace hB := hB.ext0 y5
                 replace hC' := hC'.ext0 y5
                 replace hF := hF.ext0 y5)
      all_goals (refine WH.one 7 (by kernel_rfl) ?_; refine Comes1.run rfl (ok_append (sz := 8) (bytes := 144) rfl Tryz.underlying37 (show Tryz.prog.info? 44 = some Tryz.t44 by kernel_rfl) rfl rfl rfl rfl (by decide) rfl rfl hoE (rd_blk hb9e rfl) (by simp [Value.oneCell']) (by simp only [maxLen]; omega) (by omega)) rfl rfl rfl ?_ (fun _ => by kernel_rfl); rintro v10 g6 ⟨hoE10, y6, hl10⟩; refine ⟨fun _ => hE.trans (y6.mono fun _ _ e => .inr e), ?_⟩; have hgE := fresh_of hl10 fE (Nat.le_trans s1318 hE.size); (have hs6f : Sf h0 _ (fun q => vE.ownBlock = some q) := fun q e => ⟨Nat.le_trans x013.size (fE q e), fun ty => by obtain ⟨_, y⟩ := own_ty hoE e; exact absurd (ty_one y ty) (by decide)⟩); replace hE := hE.trans (y6.mono (S' := fun q => vF.ownBlock = some q ∨ vE.ownBlock = some q) fun _ _ e => .inr e); replace hoF6 := hoF6.ext y6 (fun q hq e => own_apart hoE hoF6 (by decide) q hq e); replace f2 := f2_ext f2 y6 (fun b cs hb q => own_ne hoE hb (by decide) q); replace hT := hT.step y6 hs6f; replace hB := hB.step y6 hs6f; replace hC' := hC'.step y6 hs6f; replace hF := hF.step y6 hs6f; refine WH.tk 8 rfl (fun hq hC => ok_assign rfl) rfl rfl rfl ?_; refine WH.tk 9 rfl (fun hq hC => ok_assign rfl) rfl rfl rfl ?_; refine WH.done (by kernel_rfl) ?_)
      skip))
      all_goals (first | (fail_if_success refine goB 5010 ?_) | (
      refine goB 5010 ?_
      all_goals (refine Comes1.run rfl (okE_buildSlice (vs := [_]) (cs := [_, _, _, _, _, _, _, _]) (fun | [.agg ⟨[a0, a1, a2, a3, a4, a5, a6, a7]⟩] => [a0, a1, a2, a3, a4, a5, a6, a7] | _ => []) Tryz.underlying37 rfl rfl (by kernel_rfl)) rfl rfl rfl ?_ (fun _ => by kernel_rfl); rintro _ g5 ⟨q9, rfl, hgq9, hb9e, y5⟩; refine ⟨fun _ => hE.trans (y5.mono fun _ _ e => e.elim), ?_⟩)
      all_goals (replace hE := hE.trans (y5.mono (S' := fun q => vF.ownBlock = some q ∨ vE.ownBlock = some q) fun _ _ e => e.elim)
                 try replace hoF := hoF.ext y5 (fun _ _ => nos)
                 try replace hoF6 := hoF6.ext y5 (fun _ _ => nos)
                 try replace hb3e := y5.obj hb3e nos
                 replace hoE := hoE.ext y5 (fun _ _ => nos)
                 replace f2 := f2_ext f2 y5 (fun _ _ _ => nos)
                 replace hT := hT.ext0 y5
                 replace hB := hB.ext0 y5
                 replace hC' := hC'.ext0 y5
                 replace hF := hF.ext0 y5)
      all_goals (refine WH.one 3 (by kernel_rfl) ?_; refine Comes1.run rfl (ok_append (sz := 10) (bytes := 160) rfl Tryz.underlying36 (show Tryz.prog.info? 27 = some Tryz.t27 by kernel_rfl) rfl rfl rfl rfl (by decide) rfl rfl hoF (rd_blk hb3e rfl) (by simp [Value.oneCell']) (by simp only [maxLen]; omega) (by omega)) rfl rfl rfl ?_ (fun _ => by kernel_rfl); rintro v6 g4 ⟨hoF6, y4, hl6⟩; refine ⟨fun _ => hE.trans (y4.mono fun _ _ e => .inl e), ?_⟩; have hsz6 := y4.size; have hs4f := hsf (S := fun q => vF.ownBlock = some q) (fun q e => .inl e) hoF hoE; have hgF := fresh_of hl6 fF (Nat.le_trans s1318 hE.size); replace hE := hE.trans (y4.mono (S' := fun q => vF.ownBlock = some q ∨ vE.ownBlock = some q) fun _ _ e => .inl e); replace hoE := hoE.ext y4 (fun q hq e => own_apart hoF hoE (by decide) q hq e); replace f2 := f2_ext f2 y4 (fun b cs hb q => own_ne hoF hb (by decide) q); replace hT := hT.step y4 hs4f; replace hB := hB.step y4 hs4f; replace hC' := hC'.step y4 hs4f; replace hF := hF.step y4 hs4f; try replace hb9e := y4.obj hb9e (fun q => own_ne hoF hb9e (by decide) q))
      all_goals (refine WH.one 7 (by kernel_rfl) ?_; refine Comes1.run rfl (ok_append (sz := 8) (bytes := 144) rfl Tryz.underlying37 (show Tryz.prog.info? 44 = some Tryz.t44 by kernel_rfl) rfl rfl rfl rfl (by decide) rfl rfl hoE (rd_blk hb9e rfl) (by simp [Value.oneCell']) (by simp only [maxLen]; omega) (by omega)) rfl rfl rfl ?_ (fun _ => by kernel_rfl); rintro v10 g6 ⟨hoE10, y6, hl10⟩; refine ⟨fun _ => hE.trans (y6.mono fun _ _ e => .inr e), ?_⟩; have hgE := fresh_of hl10 fE (Nat.le_trans s1318 hE.size); (have hs6f : Sf h0 _ (fun q => vE.ownBlock = some q) := fun q e => ⟨Nat.le_trans x013.size (fE q e), fun ty => by obtain ⟨_, y⟩ := own_ty hoE e; exact absurd (ty_one y ty) (by decide)⟩); replace hE := hE.trans (y6.mono (S' := fun q => vF.ownBlock = some q ∨ vE.ownBlock = some q) fun _ _ e => .inr e); replace hoF6 := hoF6.ext y6 (fun q hq e => own_apart hoE hoF6 (by decide) q hq e); replace f2 := f2_ext f2 y6 (fun b cs hb q => own_ne hoE hb (by decide) q); replace hT := hT.step y6 hs6f; replace hB := hB.step y6 hs6f; replace hC' := hC'.step y6 hs6f; replace hF := hF.step y6 hs6f; refine WH.tk 8 rfl (fun hq hC => ok_assign rfl) rfl rfl rfl ?_; refine WH.tk 9 rfl (fun hq hC => ok_assign rfl) rfl rfl rfl ?_; refine WH.done (by kernel_rfl) ?_)
      skip))
      skip))
      all_goals (first | (fail_if_success refine goB 5010 ?_) | (
      refine goB 5010 ?_
      all_goals (refine Comes1.run rfl (okE_buildSlice (vs := [_]) (cs := [_, _, _, _, _, _, _, _]) (fun | [.agg ⟨[a0, a1, a2, a3, a4, a5, a6, a7]⟩] => [a0, a1, a2, a3, a4, a5, a6, a7] | _ => []) Tryz.underlying37 rfl rfl (by kernel_rfl)) rfl rfl rfl ?_ (fun _ => by kernel_rfl); rintro _ g5 ⟨q9, rfl, hgq9, hb9e, y5⟩; refine ⟨fun _ => hE.trans (y5.mono fun _ _ e => e.elim), ?_⟩)
      all_goals (replace hE := hE.trans (y5.mono (S' := fun q => vF.ownBlock = some q ∨ vE.ownBlock = some q) fun _ _ e => e.elim)
                 try replace hoF := hoF.ext y5 (fun _ _ => nos)
                 try replace hoF6 := hoF6.ext y5 (fun _ _ => nos)
                 try replace hb3e := y5.obj hb3e nos
                 replace hoE := hoE.ext y5 (fun _ _ => nos)
                 replace f2 := f2_ext f2 y5 (fun _ _ _ => nos)
                 replace hT := hT.ext0 y5
                 replace hB := hB.ext0 y5
                 replace hC' := hC'.ext0 y5
                 replace hF := hF.ext0 y5)
      all_goals (refine WH.one 2 (by kernel_rfl) ?_; refine Comes1.run rfl (okE_buildSlice (vs := [_]) (cs := [_, _, _, _, _, _, _, _, _, _]) (fun | [.agg ⟨[a0, a1, a2, a3, a4, a5, a6, a7, a8, a9]⟩] => [a0, a1, a2, a3, a4, a5, a6, a7, a8, a9] | _ => []) Tryz.underlying36 rfl rfl (by kernel_rfl)) rfl rfl rfl ?_ (fun _ => by kernel_rfl); rintro _ g3 ⟨q3, rfl, hgq3, hb3e, y3⟩; refine ⟨fun _ => hE.trans (y3.mono fun _ _ e => e.elim), ?_⟩; replace hE := hE.trans (y3.mono (S' := fun q => vF.ownBlock = some q ∨ vE.ownBlock = some q) fun _ _ e => e.elim); replace hoF := hoF.ext y3 (fun _ _ => nos); replace hoE := hoE.ext y3 (fun _ _ => nos); replace f2 := f2_ext f2 y3 (fun _ _ _ => nos); replace hT := hT.ext0 y3; replace hB := hB.ext0 y3; replace hC' := hC'.ext0 y3; replace hF := hF.ext0 y3; try replace hb9e := y3.obj hb9e nos)
      all_goals (refine WH.one 3 (by kernel_rfl) ?_; refine Comes1.run rfl (ok_append (sz := 10) (bytes := 160) rfl Tryz.underlying36 (show Tryz.prog.info? 27 = some Tryz.t27 by kernel_rfl) rfl rfl rfl rfl (by decide) rfl rfl hoF (rd_blk hb3e rfl) (by simp [Value.oneCell']) (by simp only [maxLen]; omega) (by omega)) rfl rfl rfl ?_ (fun _ => by kernel_rfl); rintro v6 g4 ⟨hoF6, y4, hl6⟩; refine ⟨fun _ => hE.trans (y4.mono fun _ _ e => .inl e), ?_⟩; have hsz6 := y4.size; have hs4f := hsf (S := fun q => vF.ownBlock = some q) (fun q e => .inl e) hoF hoE; have hgF := fresh_of hl6 fF (Nat.le_trans s1318 hE.size); replace hE := hE.trans (y4.mono (S' := fun q => vF.ownBlock = some q ∨ vE.ownBlock = some q) fun _ _ e => .inl e); replace hoE := hoE.ext y4 (fun q hq e => own_apart hoF hoE (by decide) q hq e); replace f2 := f2_ext f2 y4 (fun b cs hb q => own_ne hoF hb (by decide) q); replace hT := hT.step y4 hs4f; replace hB := hB.step y4 hs4f; replace hC' := hC'.step y4 hs4f; replace hF := hF.step y4 hs4f; try replace hb9e := y4.obj hb9e (fun q => own_ne hoF hb9e (by decide) q))
      all_goals (refine WH.one 7 (by kernel_rfl) ?_; refine Comes1.run rfl (ok_append (sz := 8) (bytes := 144) rfl Tryz.underlying37 (show Tryz.prog.info? 44 = some Tryz.t44 by kernel_rfl) rfl rfl rfl rfl (by decide) rfl rfl hoE (rd_blk hb9e rfl) (by simp [Value.oneCell']) (by simp only [maxLen]; omega) (by omega)) rfl rfl rfl ?_ (fun _ => by kernel_rfl); rintro v10 g6 ⟨hoE10, y6, hl10⟩; refine ⟨fun _ => hE.trans (y6.mono fun _ _ e => .inr e), ?_⟩; have hgE := fresh_of hl10 fE (Nat.le_trans s1318 hE.size); (have hs6f : Sf h0 _ (fun q => vE.ownBlock = some q) := fun q e => ⟨Nat.le_trans x013.size (fE q e), fun ty => by obtain ⟨_, y⟩ := own_ty hoE e; exact absurd (ty_one y ty) (by decide)⟩); replace hE := hE.trans (y6.mono (S' := fun q => vF.ownBlock = some q ∨ vE.ownBlock = some q) fun _ _ e => .inr e); replace hoF6 := hoF6.ext y6 (fun q hq e => own_apart hoE hoF6 (by decide) q hq e); replace f2 := f2_ext f2 y6 (fun b cs hb q => own_ne hoE hb (by decide) q); replace hT := hT.step y6 hs6f; replace hB := hB.step y6 hs6f; replace hC' := hC'.step y6 hs6f; replace hF := hF.step y6 hs6f; refine WH.tk 8 rfl (fun hq hC => ok_assign rfl) rfl rfl rfl ?_; refine WH.tk 9 rfl (fun hq hC => ok_assign rfl) rfl rfl rfl ?_; refine WH.done (by kernel_rfl) ?_)
      skip))
      all_goals (refine Gn ?_; refine Gs [(10, _), (11, _)] ?_; refine Gt ?_)
      all_goals (try rw [show preBad [] = [(false, [], 0, ())] from if_pos rfl]
                 first
                  | (have hg := kk [] _ _ _ (rE 2 [] [] _ _ _ _ _ _) (y2.obj hq1 nos) hq2 (hfl _ ((fs_old x0 X12).trans hY2) []) (rE_ok (HT12.ext0 hY2) (HB12.ext0 hY2) (HC12.ext0 hY2)) (by omega) (by have := y1.size; omega)
                     rw [hpl []] at hg
                     exact ⟨hg, d12.ext0 hY2, X12.trans' hY2 (fun _ _ e => e.elim)⟩)
                  | (have hg := kk [] _ _ _ (rE 2 [] [] _ _ _ _ _ _) hq1 (y1.obj hq2 nos) (hfl _ ((fs_old x0 X12).trans hY1) []) (rE_ok (HT12.ext0 hY1) (HB12.ext0 hY1) (HC12.ext0 hY1)) (by have := y2.size; omega) (by omega)
                     rw [hpl []] at hg
                     exact ⟨hg, d12.ext0 hY1, X12.trans' hY1 (fun _ _ e => e.elim)⟩)
                  | (have hdf := d18.keep hE (fun q e => e.elim (fun z => (own_ty kF z).elim fun _ y => ⟨_, _, y, by decide⟩) (fun z => (own_ty kE z).elim fun _ y => ⟨_, _, y, by decide⟩))
                     have hg := gives_snoc (h := h13) hoF6 hoE10 (by omega) (by omega) (fun x hx => lst_all (f1 x hx)) (okE_hi f2) hF (rE_ok hT hB hC') hgF hgE
                     rw [p1, p2, hpl] at hg
                     exact ⟨hg.from sh13, hdf, X18.trans' hE (fun q hq e => absurd (Nat.lt_of_lt_of_le hq sh13) (Nat.not_lt.2 (e.elim (fF q) (fE q))))⟩))
end
end Go.Proofs.YtggmocdbfbhklaaGreat


