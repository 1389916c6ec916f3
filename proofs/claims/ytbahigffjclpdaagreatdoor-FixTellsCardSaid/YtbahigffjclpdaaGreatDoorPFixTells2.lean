/-
  SEVERAL TEXTS IN ONE: BkChk, BkChk2, Ev, EntO, BkO, BkS.
-/
import Derived.Test.YtbahigffjclpdaaGreatDoorPFixTells1
/-
  back.Check, of messages that may be.
-/
namespace Go.Proofs.YtbahigffjclpdaaGreatDoor
open Go Go.RK

/-- A bound. -/
structure BndD where
  n : Int
  lo : Int
  hi : Int
def BndD.cells (b : BndD) : List Value := [In b.n, In b.lo, In b.hi]
theorem BndD.len (b : BndD) : b.cells.length = 3 := rfl
def BndD.ok (b : BndD) : Prop := b.lo ≤ b.n ∧ b.n ≤ b.hi
set_option maxHeartbeats 2000000 in
set_option maxRecDepth 100000 in
theorem indexFunc_bnd {h : Heap} {v : Value} (l : List BndD) (p : BndD → Bool) {fk : Nat} {fs us : List Value} (hcf : ∀ (args : Array Value) (w : World), (callFunc fk args).run Tryz.prog w = .ok (.enter fk args) w) (hr : Rd h v 3 l.length (l.flatMap BndD.cells)) (hm : l.length ≤ maxLen)
    (hp : ∀ x ∈ l, ∀ h', Ext No h h' → CallsH Tryz.prog fk ⟨fs ++ [.agg ⟨BndD.cells x⟩] ++ us⟩ h' fun u h'' => u = .bool (p x) ∧ Ext No h' h'') :
    CallsH Tryz.prog 140 ⟨[v, .func (.func fk) ⟨fs⟩ ⟨us⟩]⟩ h fun u h' => u = In (idxP p l) ∧ Ext No h h' := by
  obtain ⟨A, c, rfl, _⟩ := id hr
  unfold maxLen at hm
  refine calls [(0, _), (1, _)] Tryz.func140 rfl Tryz.ntmps140 rfl ⟨rfl, rfl, trivial⟩ ?_
  all_goals (refine WC.sr ?_)
  all_goals (refine Go ?_)
  all_goals (refine WC.seq ?_)
  all_goals (refine WC.sr ?_)
  all_goals (refine Go ?_)
  all_goals (refine WC.block ?_)
  -- loop 0: slots that turn [8], that stay [0, 1, 7]
  all_goals (refine WC.loopG (X := Nat) (fun x => ([(8, In (x : Int))] : Fr)) [(0, _), (1, _), (7, _)] (fun k h' => Ext No h h' ∧ k ≤ l.length ∧ ∀ x ∈ l.take k, p x = false) (fun k => l.length - k) (0) ⟨rfl, rfl, rfl, rfl, trivial⟩ (by exact ⟨.refl _ _, Nat.zero_le _, by simp⟩) ?_)
  all_goals (rintro k h1 ⟨hx1, hk, hn⟩)
  all_goals (refine WC.sub [(8, _), (0, _), (1, _), (7, _)] ⟨rfl, rfl, rfl, rfl, trivial⟩ ?_)
  all_goals (refine WC.sr ?_)
  all_goals (refine Go ?_)
  all_goals (refine WC.seq ?_)
  all_goals (refine goC 1 2 ?_ ?_ <;> first | exact ⟨⟩ | refine Hb.mk fun hb => ?_ | skip)
  all_goals (first | (fail_if_success refine goB 1 ?_) | (
  refine goB 1 ?_
  all_goals (refine WC.skip ?_)
  skip))
  all_goals (first | (fail_if_success refine goB 2 ?_) | (
  refine goB 2 ?_
  all_goals (refine WC.exit ?_)
  all_goals (repeat' (with_reducible first | refine thenP_x ?_ | refine blockP_miss rfl ?_ | refine blockP_hit ?_ | refine blockP_n ?_ | refine thenP_n ?_))
  all_goals (refine Br.out (i := 1000) ?_)
  skip))
  all_goals (refine Gn ?_)
  all_goals (first | (refine Br.keep ?_) | (refine WC.seq ?_))
  all_goals (first | (refine Br.keep ?_) | (refine WC.block ?_))
  all_goals (first | (refine Br.keep ?_) | (refine WC.sr ?_))
  all_goals (refine Go ?_)
  all_goals (first | (refine Br.keep ?_) | (refine WC.sr ?_))
  all_goals (first | (refine Br.keep ?_) | (refine WL.step (ok_move rfl) rfl rfl rfl ?_))
  all_goals (first | (refine Br.keep ?_) | (refine WL.step (ok_move rfl) rfl rfl rfl ?_))
  all_goals (first
               | (refine Br.keep ?_)
               | (obtain ⟨b, o, hA, hbL, hat⟩ := Rd.at_ (hr.ext0 hx1) (by omega)
                  obtain ⟨y, hy⟩ : ∃ y, l[k]? = some y := ⟨_, List.getElem?_eq_getElem (by omega)⟩
                  have hc : At h1 b (o + k * 3) (BndD.cells y) := At.elem BndD.len hat hy))
  all_goals (first | (refine Br.keep ?_) | (refine WL.step (ok_move rfl) rfl rfl rfl ?_))
  all_goals (first | (refine Br.keep ?_) | (refine WL.step (ok_idxAddrA Tryz.underlying149 (fun w => Tryz.sizeOf139 w) rfl rfl rfl (by omega) (by first | rfl | assumption)) rfl rfl rfl ?_))
  all_goals (first | (refine Br.keep ?_) | (refine WL.step (ok_loadN (fun w => Tryz.isAgg139 w) (fun w => Tryz.sizeOf139 w) rfl rfl (by assumption)) rfl rfl rfl ?_))
  all_goals (first
               | (refine Br.keep ?_)
               | (refine WL.callT (vs := [_]) rfl rfl hcf rfl (hp y (List.mem_of_getElem? hy) h1 hx1) rfl rfl rfl ?_
                  rintro _ h2 ⟨rfl, hx2⟩))
  all_goals (first | (refine Br.keep ?_) | (cases hpy : p y))
  all_goals (refine Gn ?_)
  all_goals (first | (refine Br.keep ?_) | (refine WC.sub [(0, _), (1, _), (5, _), (7, _), (8, _), (16, _)] ⟨rfl, rfl, rfl, rfl, rfl, rfl, trivial⟩ ?_))
  all_goals (first | (refine Br.keep ?_) | (refine goC 3 4 ?_ ?_ <;> first | exact ⟨⟩ | refine Hb.mk fun hb => ?_ | skip))
  all_goals (first | (fail_if_success refine goB 3 ?_) | (
  refine goB 3 ?_
  all_goals (refine WC.sr ?_)
  all_goals (refine Go ?_)
  all_goals (refine WC.sub [(4, _)] ⟨rfl, trivial⟩ ?_)
  all_goals (refine WC.ret ?_)
  all_goals (repeat' (with_reducible first | refine thenP_r ?_ | refine blockP_r ?_))
  all_goals (refine retP_1 _ ⟨rfl, trivial⟩ ?_)
  all_goals (first | exact ⟨by rw [idxP_no (by rw [List.take_of_length_le (by omega)] at hn; exact hn)], hx1⟩ | exact ⟨by rw [idxP_at hy hpy hn], hx1.trans hx2⟩)
  skip))
  all_goals (first | (fail_if_success refine goB 4 ?_) | (
  refine goB 4 ?_
  all_goals (refine WC.skip ?_)
  skip))
  all_goals (refine Gn ?_)
  all_goals (first | (refine Br.keep ?_) | (refine WC.region ?_))
  all_goals (refine Go ?_)
  all_goals (first | (refine Br.keep ?_) | (exact ⟨k + 1, ⟨rfl, rfl, rfl, rfl, trivial⟩, (by exact ⟨hx1.trans hx2, by omega, take_snoc_p hn hy hpy⟩), (by omega)⟩))
  all_goals (try (refine Br.mk (i := 1000) ?_))
  all_goals (refine Gn ?_)
  all_goals (refine WC.sub [] trivial ?_)
  all_goals (refine WC.sr ?_)
  all_goals (refine Go ?_)
  all_goals (refine WC.ret ?_)
  all_goals (repeat' (with_reducible first | refine thenP_r ?_ | refine blockP_r ?_))
  all_goals (refine retP_1 _ ⟨rfl, trivial⟩ ?_)
  all_goals (first | exact ⟨by rw [idxP_no (by rw [List.take_of_length_le (by omega)] at hn; exact hn)], hx1⟩ | exact ⟨by rw [idxP_at hy hpy hn], hx1.trans hx2⟩)

set_option maxHeartbeats 2000000 in
set_option maxRecDepth 100000 in
theorem indexFunc_col {h : Heap} {v : Value} (l : List ColD) (p : ColD → Bool) {fk : Nat} {fs us : List Value} (hcf : ∀ (args : Array Value) (w : World), (callFunc fk args).run Tryz.prog w = .ok (.enter fk args) w) (hr : Rd h v 7 l.length (l.flatMap ColD.cells)) (hm : l.length ≤ maxLen)
    (hp : ∀ x ∈ l, ∀ h', Ext No h h' → CallsH Tryz.prog fk ⟨fs ++ [.agg ⟨ColD.cells x⟩] ++ us⟩ h' fun u h'' => u = .bool (p x) ∧ Ext No h' h'') :
    CallsH Tryz.prog 37 ⟨[v, .func (.func fk) ⟨fs⟩ ⟨us⟩]⟩ h fun u h' => u = In (idxP p l) ∧ Ext No h h' := by
  obtain ⟨A, c, rfl, _⟩ := id hr
  unfold maxLen at hm
  refine calls [(0, _), (1, _)] Tryz.func37 rfl Tryz.ntmps37 rfl ⟨rfl, rfl, trivial⟩ ?_
  all_goals (refine WC.sr ?_)
  all_goals (refine Go ?_)
  all_goals (refine WC.seq ?_)
  all_goals (refine WC.sr ?_)
  all_goals (refine Go ?_)
  all_goals (refine WC.block ?_)
  -- loop 0: slots that turn [8], that stay [0, 1, 7]
  all_goals (refine WC.loopG (X := Nat) (fun x => ([(8, In (x : Int))] : Fr)) [(0, _), (1, _), (7, _)] (fun k h' => Ext No h h' ∧ k ≤ l.length ∧ ∀ x ∈ l.take k, p x = false) (fun k => l.length - k) (0) ⟨rfl, rfl, rfl, rfl, trivial⟩ (by exact ⟨.refl _ _, Nat.zero_le _, by simp⟩) ?_)
  all_goals (rintro k h1 ⟨hx1, hk, hn⟩)
  all_goals (refine WC.sub [(8, _), (0, _), (1, _), (7, _)] ⟨rfl, rfl, rfl, rfl, trivial⟩ ?_)
  all_goals (refine WC.sr ?_)
  all_goals (refine Go ?_)
  all_goals (refine WC.seq ?_)
  all_goals (refine goC 1 2 ?_ ?_ <;> first | exact ⟨⟩ | refine Hb.mk fun hb => ?_ | skip)
  all_goals (first | (fail_if_success refine goB 1 ?_) | (
  refine goB 1 ?_
  all_goals (refine WC.skip ?_)
  skip))
  all_goals (first | (fail_if_success refine goB 2 ?_) | (
  refine goB 2 ?_
  all_goals (refine WC.exit ?_)
  all_goals (repeat' (with_reducible first | refine thenP_x ?_ | refine blockP_miss rfl ?_ | refine blockP_hit ?_ | refine blockP_n ?_ | refine thenP_n ?_))
  all_goals (refine Br.out (i := 1000) ?_)
  skip))
  all_goals (refine Gn ?_)
  all_goals (first | (refine Br.keep ?_) | (refine WC.seq ?_))
  all_goals (first | (refine Br.keep ?_) | (refine WC.block ?_))
  all_goals (first | (refine Br.keep ?_) | (refine WC.sr ?_))
  all_goals (refine Go ?_)
  all_goals (first | (refine Br.keep ?_) | (refine WC.sr ?_))
  all_goals (first | (refine Br.keep ?_) | (refine WL.step (ok_move rfl) rfl rfl rfl ?_))
  all_goals (first | (refine Br.keep ?_) | (refine WL.step (ok_move rfl) rfl rfl rfl ?_))
  all_goals (first
               | (refine Br.keep ?_)
               | (obtain ⟨b, o, hA, hbL, hat⟩ := Rd.at_ (hr.ext0 hx1) (by omega)
                  obtain ⟨y, hy⟩ : ∃ y, l[k]? = some y := ⟨_, List.getElem?_eq_getElem (by omega)⟩
                  have hc : At h1 b (o + k * 7) (ColD.cells y) := At.elem ColD.len hat hy))
  all_goals (first | (refine Br.keep ?_) | (refine WL.step (ok_move rfl) rfl rfl rfl ?_))
  all_goals (first | (refine Br.keep ?_) | (refine WL.step (ok_idxAddrA Tryz.underlying28 (fun w => Tryz.sizeOf46 w) rfl rfl rfl (by omega) (by first | rfl | assumption)) rfl rfl rfl ?_))
  all_goals (first | (refine Br.keep ?_) | (refine WL.step (ok_loadN (fun w => Tryz.isAgg46 w) (fun w => Tryz.sizeOf46 w) rfl rfl (by assumption)) rfl rfl rfl ?_))
  all_goals (first
               | (refine Br.keep ?_)
               | (refine WL.callT (vs := [_]) rfl rfl hcf rfl (hp y (List.mem_of_getElem? hy) h1 hx1) rfl rfl rfl ?_
                  rintro _ h2 ⟨rfl, hx2⟩))
  all_goals (first | (refine Br.keep ?_) | (cases hpy : p y))
  all_goals (refine Gn ?_)
  all_goals (first | (refine Br.keep ?_) | (refine WC.sub [(0, _), (1, _), (5, _), (7, _), (8, _), (16, _)] ⟨rfl, rfl, rfl, rfl, rfl, rfl, trivial⟩ ?_))
  all_goals (first | (refine Br.keep ?_) | (refine goC 3 4 ?_ ?_ <;> first | exact ⟨⟩ | refine Hb.mk fun hb => ?_ | skip))
  all_goals (first | (fail_if_success refine goB 3 ?_) | (
  refine goB 3 ?_
  all_goals (refine WC.sr ?_)
  all_goals (refine Go ?_)
  all_goals (refine WC.sub [(4, _)] ⟨rfl, trivial⟩ ?_)
  all_goals (refine WC.ret ?_)
  all_goals (repeat' (with_reducible first | refine thenP_r ?_ | refine blockP_r ?_))
  all_goals (refine retP_1 _ ⟨rfl, trivial⟩ ?_)
  all_goals (first | exact ⟨by rw [idxP_no (by rw [List.take_of_length_le (by omega)] at hn; exact hn)], hx1⟩ | exact ⟨by rw [idxP_at hy hpy hn], hx1.trans hx2⟩)
  skip))
  all_goals (first | (fail_if_success refine goB 4 ?_) | (
  refine goB 4 ?_
  all_goals (refine WC.skip ?_)
  skip))
  all_goals (refine Gn ?_)
  all_goals (first | (refine Br.keep ?_) | (refine WC.region ?_))
  all_goals (refine Go ?_)
  all_goals (first | (refine Br.keep ?_) | (exact ⟨k + 1, ⟨rfl, rfl, rfl, rfl, trivial⟩, (by exact ⟨hx1.trans hx2, by omega, take_snoc_p hn hy hpy⟩), (by omega)⟩))
  all_goals (try (refine Br.mk (i := 1000) ?_))
  all_goals (refine Gn ?_)
  all_goals (refine WC.sub [] trivial ?_)
  all_goals (refine WC.sr ?_)
  all_goals (refine Go ?_)
  all_goals (refine WC.ret ?_)
  all_goals (repeat' (with_reducible first | refine thenP_r ?_ | refine blockP_r ?_))
  all_goals (refine retP_1 _ ⟨rfl, trivial⟩ ?_)
  all_goals (first | exact ⟨by rw [idxP_no (by rw [List.take_of_length_le (by omega)] at hn; exact hn)], hx1⟩ | exact ⟨by rw [idxP_at hy hpy hn], hx1.trans hx2⟩)

set_option maxHeartbeats 2000000 in
set_option maxRecDepth 100000 in
theorem indexFunc_fld {h : Heap} {v : Value} (l : List FieldD) (p : FieldD → Bool) {fk : Nat} {fs us : List Value} (hcf : ∀ (args : Array Value) (w : World), (callFunc fk args).run Tryz.prog w = .ok (.enter fk args) w) (hr : Rd h v 2 l.length (l.flatMap FieldD.cells)) (hm : l.length ≤ maxLen)
    (hp : ∀ x ∈ l, ∀ h', Ext No h h' → CallsH Tryz.prog fk ⟨fs ++ [.agg ⟨FieldD.cells x⟩] ++ us⟩ h' fun u h'' => u = .bool (p x) ∧ Ext No h' h'') :
    CallsH Tryz.prog 39 ⟨[v, .func (.func fk) ⟨fs⟩ ⟨us⟩]⟩ h fun u h' => u = In (idxP p l) ∧ Ext No h h' := by
  obtain ⟨A, c, rfl, _⟩ := id hr
  unfold maxLen at hm
  refine calls [(0, _), (1, _)] Tryz.func39 rfl Tryz.ntmps39 rfl ⟨rfl, rfl, trivial⟩ ?_
  all_goals (refine WC.sr ?_)
  all_goals (refine Go ?_)
  all_goals (refine WC.seq ?_)
  all_goals (refine WC.sr ?_)
  all_goals (refine Go ?_)
  all_goals (refine WC.block ?_)
  -- loop 0: slots that turn [8], that stay [0, 1, 7]
  all_goals (refine WC.loopG (X := Nat) (fun x => ([(8, In (x : Int))] : Fr)) [(0, _), (1, _), (7, _)] (fun k h' => Ext No h h' ∧ k ≤ l.length ∧ ∀ x ∈ l.take k, p x = false) (fun k => l.length - k) (0) ⟨rfl, rfl, rfl, rfl, trivial⟩ (by exact ⟨.refl _ _, Nat.zero_le _, by simp⟩) ?_)
  all_goals (rintro k h1 ⟨hx1, hk, hn⟩)
  all_goals (refine WC.sub [(8, _), (0, _), (1, _), (7, _)] ⟨rfl, rfl, rfl, rfl, trivial⟩ ?_)
  all_goals (refine WC.sr ?_)
  all_goals (refine Go ?_)
  all_goals (refine WC.seq ?_)
  all_goals (refine goC 1 2 ?_ ?_ <;> first | exact ⟨⟩ | refine Hb.mk fun hb => ?_ | skip)
  all_goals (first | (fail_if_success refine goB 1 ?_) | (
  refine goB 1 ?_
  all_goals (refine WC.skip ?_)
  skip))
  all_goals (first | (fail_if_success refine goB 2 ?_) | (
  refine goB 2 ?_
  all_goals (refine WC.exit ?_)
  all_goals (repeat' (with_reducible first | refine thenP_x ?_ | refine blockP_miss rfl ?_ | refine blockP_hit ?_ | refine blockP_n ?_ | refine thenP_n ?_))
  all_goals (refine Br.out (i := 1000) ?_)
  skip))
  all_goals (refine Gn ?_)
  all_goals (first | (refine Br.keep ?_) | (refine WC.seq ?_))
  all_goals (first | (refine Br.keep ?_) | (refine WC.block ?_))
  all_goals (first | (refine Br.keep ?_) | (refine WC.sr ?_))
  all_goals (refine Go ?_)
  all_goals (first | (refine Br.keep ?_) | (refine WC.sr ?_))
  all_goals (first | (refine Br.keep ?_) | (refine WL.step (ok_move rfl) rfl rfl rfl ?_))
  all_goals (first | (refine Br.keep ?_) | (refine WL.step (ok_move rfl) rfl rfl rfl ?_))
  all_goals (first
               | (refine Br.keep ?_)
               | (obtain ⟨b, o, hA, hbL, hat⟩ := Rd.at_ (hr.ext0 hx1) (by omega)
                  obtain ⟨y, hy⟩ : ∃ y, l[k]? = some y := ⟨_, List.getElem?_eq_getElem (by omega)⟩
                  have hc : At h1 b (o + k * 2) (FieldD.cells y) := At.elem FieldD.len hat hy))
  all_goals (first | (refine Br.keep ?_) | (refine WL.step (ok_move rfl) rfl rfl rfl ?_))
  all_goals (first | (refine Br.keep ?_) | (refine WL.step (ok_idxAddrA Tryz.underlying30 (fun w => Tryz.sizeOf54 w) rfl rfl rfl (by omega) (by first | rfl | assumption)) rfl rfl rfl ?_))
  all_goals (first | (refine Br.keep ?_) | (refine WL.step (ok_loadN (fun w => Tryz.isAgg54 w) (fun w => Tryz.sizeOf54 w) rfl rfl (by assumption)) rfl rfl rfl ?_))
  all_goals (first
               | (refine Br.keep ?_)
               | (refine WL.callT (vs := [_]) rfl rfl hcf rfl (hp y (List.mem_of_getElem? hy) h1 hx1) rfl rfl rfl ?_
                  rintro _ h2 ⟨rfl, hx2⟩))
  all_goals (first | (refine Br.keep ?_) | (cases hpy : p y))
  all_goals (refine Gn ?_)
  all_goals (first | (refine Br.keep ?_) | (refine WC.sub [(0, _), (1, _), (5, _), (7, _), (8, _), (16, _)] ⟨rfl, rfl, rfl, rfl, rfl, rfl, trivial⟩ ?_))
  all_goals (first | (refine Br.keep ?_) | (refine goC 3 4 ?_ ?_ <;> first | exact ⟨⟩ | refine Hb.mk fun hb => ?_ | skip))
  all_goals (first | (fail_if_success refine goB 3 ?_) | (
  refine goB 3 ?_
  all_goals (refine WC.sr ?_)
  all_goals (refine Go ?_)
  all_goals (refine WC.sub [(4, _)] ⟨rfl, trivial⟩ ?_)
  all_goals (refine WC.ret ?_)
  all_goals (repeat' (with_reducible first | refine thenP_r ?_ | refine blockP_r ?_))
  all_goals (refine retP_1 _ ⟨rfl, trivial⟩ ?_)
  all_goals (first | exact ⟨by rw [idxP_no (by rw [List.take_of_length_le (by omega)] at hn; exact hn)], hx1⟩ | exact ⟨by rw [idxP_at hy hpy hn], hx1.trans hx2⟩)
  skip))
  all_goals (first | (fail_if_success refine goB 4 ?_) | (
  refine goB 4 ?_
  all_goals (refine WC.skip ?_)
  skip))
  all_goals (refine Gn ?_)
  all_goals (first | (refine Br.keep ?_) | (refine WC.region ?_))
  all_goals (refine Go ?_)
  all_goals (first | (refine Br.keep ?_) | (exact ⟨k + 1, ⟨rfl, rfl, rfl, rfl, trivial⟩, (by exact ⟨hx1.trans hx2, by omega, take_snoc_p hn hy hpy⟩), (by omega)⟩))
  all_goals (try (refine Br.mk (i := 1000) ?_))
  all_goals (refine Gn ?_)
  all_goals (refine WC.sub [] trivial ?_)
  all_goals (refine WC.sr ?_)
  all_goals (refine Go ?_)
  all_goals (refine WC.ret ?_)
  all_goals (repeat' (with_reducible first | refine thenP_r ?_ | refine blockP_r ?_))
  all_goals (refine retP_1 _ ⟨rfl, trivial⟩ ?_)
  all_goals (first | exact ⟨by rw [idxP_no (by rw [List.take_of_length_le (by omega)] at hn; exact hn)], hx1⟩ | exact ⟨by rw [idxP_at hy hpy hn], hx1.trans hx2⟩)

set_option maxHeartbeats 2000000 in
set_option maxRecDepth 100000 in
theorem indexFunc_cel {h : Heap} {v : Value} (l : List Cel) (p : Cel → Bool) {fk : Nat} {fs us : List Value} (hcf : ∀ (args : Array Value) (w : World), (callFunc fk args).run Tryz.prog w = .ok (.enter fk args) w) (hr : Rd h v 2 l.length (l.flatMap Cel.cells)) (hm : l.length ≤ maxLen)
    (hp : ∀ x ∈ l, ∀ h', Ext No h h' → CallsH Tryz.prog fk ⟨fs ++ [.agg ⟨Cel.cells x⟩] ++ us⟩ h' fun u h'' => u = .bool (p x) ∧ Ext No h' h'') :
    CallsH Tryz.prog 38 ⟨[v, .func (.func fk) ⟨fs⟩ ⟨us⟩]⟩ h fun u h' => u = In (idxP p l) ∧ Ext No h h' := by
  obtain ⟨A, c, rfl, _⟩ := id hr
  unfold maxLen at hm
  refine calls [(0, _), (1, _)] Tryz.func38 rfl Tryz.ntmps38 rfl ⟨rfl, rfl, trivial⟩ ?_
  all_goals (refine WC.sr ?_)
  all_goals (refine Go ?_)
  all_goals (refine WC.seq ?_)
  all_goals (refine WC.sr ?_)
  all_goals (refine Go ?_)
  all_goals (refine WC.block ?_)
  -- loop 0: slots that turn [8], that stay [0, 1, 7]
  all_goals (refine WC.loopG (X := Nat) (fun x => ([(8, In (x : Int))] : Fr)) [(0, _), (1, _), (7, _)] (fun k h' => Ext No h h' ∧ k ≤ l.length ∧ ∀ x ∈ l.take k, p x = false) (fun k => l.length - k) (0) ⟨rfl, rfl, rfl, rfl, trivial⟩ (by exact ⟨.refl _ _, Nat.zero_le _, by simp⟩) ?_)
  all_goals (rintro k h1 ⟨hx1, hk, hn⟩)
  all_goals (refine WC.sub [(8, _), (0, _), (1, _), (7, _)] ⟨rfl, rfl, rfl, rfl, trivial⟩ ?_)
  all_goals (refine WC.sr ?_)
  all_goals (refine Go ?_)
  all_goals (refine WC.seq ?_)
  all_goals (refine goC 1 2 ?_ ?_ <;> first | exact ⟨⟩ | refine Hb.mk fun hb => ?_ | skip)
  all_goals (first | (fail_if_success refine goB 1 ?_) | (
  refine goB 1 ?_
  all_goals (refine WC.skip ?_)
  skip))
  all_goals (first | (fail_if_success refine goB 2 ?_) | (
  refine goB 2 ?_
  all_goals (refine WC.exit ?_)
  all_goals (repeat' (with_reducible first | refine thenP_x ?_ | refine blockP_miss rfl ?_ | refine blockP_hit ?_ | refine blockP_n ?_ | refine thenP_n ?_))
  all_goals (refine Br.out (i := 1000) ?_)
  skip))
  all_goals (refine Gn ?_)
  all_goals (first | (refine Br.keep ?_) | (refine WC.seq ?_))
  all_goals (first | (refine Br.keep ?_) | (refine WC.block ?_))
  all_goals (first | (refine Br.keep ?_) | (refine WC.sr ?_))
  all_goals (refine Go ?_)
  all_goals (first | (refine Br.keep ?_) | (refine WC.sr ?_))
  all_goals (first | (refine Br.keep ?_) | (refine WL.step (ok_move rfl) rfl rfl rfl ?_))
  all_goals (first | (refine Br.keep ?_) | (refine WL.step (ok_move rfl) rfl rfl rfl ?_))
  all_goals (first
               | (refine Br.keep ?_)
               | (obtain ⟨b, o, hA, hbL, hat⟩ := Rd.at_ (hr.ext0 hx1) (by omega)
                  obtain ⟨y, hy⟩ : ∃ y, l[k]? = some y := ⟨_, List.getElem?_eq_getElem (by omega)⟩
                  have hc : At h1 b (o + k * 2) (Cel.cells y) := At.elem Cel.len hat hy))
  all_goals (first | (refine Br.keep ?_) | (refine WL.step (ok_move rfl) rfl rfl rfl ?_))
  all_goals (first | (refine Br.keep ?_) | (refine WL.step (ok_idxAddrA Tryz.underlying29 (fun w => Tryz.sizeOf50 w) rfl rfl rfl (by omega) (by first | rfl | assumption)) rfl rfl rfl ?_))
  all_goals (first | (refine Br.keep ?_) | (refine WL.step (ok_loadN (fun w => Tryz.isAgg50 w) (fun w => Tryz.sizeOf50 w) rfl rfl (by assumption)) rfl rfl rfl ?_))
  all_goals (first
               | (refine Br.keep ?_)
               | (refine WL.callT (vs := [_]) rfl rfl hcf rfl (hp y (List.mem_of_getElem? hy) h1 hx1) rfl rfl rfl ?_
                  rintro _ h2 ⟨rfl, hx2⟩))
  all_goals (first | (refine Br.keep ?_) | (cases hpy : p y))
  all_goals (refine Gn ?_)
  all_goals (first | (refine Br.keep ?_) | (refine WC.sub [(0, _), (1, _), (5, _), (7, _), (8, _), (16, _)] ⟨rfl, rfl, rfl, rfl, rfl, rfl, trivial⟩ ?_))
  all_goals (first | (refine Br.keep ?_) | (refine goC 3 4 ?_ ?_ <;> first | exact ⟨⟩ | refine Hb.mk fun hb => ?_ | skip))
  all_goals (first | (fail_if_success refine goB 3 ?_) | (
  refine goB 3 ?_
  all_goals (refine WC.sr ?_)
  all_goals (refine Go ?_)
  all_goals (refine WC.sub [(4, _)] ⟨rfl, trivial⟩ ?_)
  all_goals (refine WC.ret ?_)
  all_goals (repeat' (with_reducible first | refine thenP_r ?_ | refine blockP_r ?_))
  all_goals (refine retP_1 _ ⟨rfl, trivial⟩ ?_)
  all_goals (first | exact ⟨by rw [idxP_no (by rw [List.take_of_length_le (by omega)] at hn; exact hn)], hx1⟩ | exact ⟨by rw [idxP_at hy hpy hn], hx1.trans hx2⟩)
  skip))
  all_goals (first | (fail_if_success refine goB 4 ?_) | (
  refine goB 4 ?_
  all_goals (refine WC.skip ?_)
  skip))
  all_goals (refine Gn ?_)
  all_goals (first | (refine Br.keep ?_) | (refine WC.region ?_))
  all_goals (refine Go ?_)
  all_goals (first | (refine Br.keep ?_) | (exact ⟨k + 1, ⟨rfl, rfl, rfl, rfl, trivial⟩, (by exact ⟨hx1.trans hx2, by omega, take_snoc_p hn hy hpy⟩), (by omega)⟩))
  all_goals (try (refine Br.mk (i := 1000) ?_))
  all_goals (refine Gn ?_)
  all_goals (refine WC.sub [] trivial ?_)
  all_goals (refine WC.sr ?_)
  all_goals (refine Go ?_)
  all_goals (refine WC.ret ?_)
  all_goals (repeat' (with_reducible first | refine thenP_r ?_ | refine blockP_r ?_))
  all_goals (refine retP_1 _ ⟨rfl, trivial⟩ ?_)
  all_goals (first | exact ⟨by rw [idxP_no (by rw [List.take_of_length_le (by omega)] at hn; exact hn)], hx1⟩ | exact ⟨by rw [idxP_at hy hpy hn], hx1.trans hx2⟩)

set_option maxHeartbeats 2000000 in
set_option maxRecDepth 100000 in
theorem everyf_col {h : Heap} {b : Nat} {t : TypeId} (x : ColD) {fk : Nat} (hcf : ∀ (args : Array Value) (w : World), (callFunc fk args).run Tryz.prog w = .ok (.enter fk args) w) (hb : h[b]? = some (.cells ⟨[.func (.func fk) ⟨[]⟩ ⟨[]⟩]⟩ t (0, 0)))
    (hp : ∀ h', Ext No h h' → CallsH Tryz.prog fk ⟨[.agg ⟨ColD.cells x⟩]⟩ h' fun u h'' => u = .bool true ∧ Ext No h' h'') :
    CallsH Tryz.prog 117 ⟨[.agg ⟨ColD.cells x⟩, .pointer (some ⟨b, 0, none⟩)]⟩ h fun u h' => u = .bool false ∧ Ext No h h' := by
  refine calls [(0, _), (1, _)] Tryz.func117 rfl Tryz.ntmps117 rfl ⟨rfl, rfl, trivial⟩ ?_
  all_goals (refine WC.sr ?_)
  all_goals (refine WL.stepR (okE_box rfl) rfl rfl rfl ?_
             rintro _ h1 ⟨b1, rfl, hg1, hb1, hx1⟩)
  all_goals (refine Go ?_)
  all_goals (refine WC.sr ?_)
  all_goals (refine WL.step (ok_load (fun w => Tryz.isAgg47 w) rfl (by first | exact cell_blk (hx1.obj hb nos) rfl | assumption | exact cell_blk (by assumption) rfl)) rfl rfl rfl ?_)
  all_goals (refine WL.step (ok_loadN (fun w => Tryz.isAgg46 w) (fun w => Tryz.sizeOf46 w) rfl rfl (by exact At.of_block hb1)) rfl rfl rfl ?_)
  all_goals (refine WL.callT (vs := [_]) rfl rfl hcf rfl (hp _ hx1) rfl rfl rfl ?_
             rintro _ h2 ⟨rfl, hx2⟩)
  all_goals (refine Go ?_)
  all_goals (refine WC.sub [(3, _)] ⟨rfl, trivial⟩ ?_)
  all_goals (refine WC.ret ?_)
  all_goals (repeat' (with_reducible first | refine thenP_r ?_ | refine blockP_r ?_))
  all_goals (refine retP_1 _ ⟨rfl, trivial⟩ ?_)
  all_goals (exact ⟨rfl, hx1.trans hx2⟩)
set_option maxHeartbeats 2000000 in
set_option maxRecDepth 100000 in
theorem every_col {h : Heap} {v : Value} (l : List ColD) (hr : Rd h v 7 l.length (l.flatMap ColD.cells)) (hl : l.length ≤ 65535) {fk : Nat} (hcf : ∀ (args : Array Value) (w : World), (callFunc fk args).run Tryz.prog w = .ok (.enter fk args) w)
    (hp : ∀ x ∈ l, ∀ h', Ext No h h' → CallsH Tryz.prog fk ⟨[.agg ⟨ColD.cells x⟩]⟩ h' fun u h'' => u = .bool true ∧ Ext No h' h'') :
    CallsH Tryz.prog 87 ⟨[v, .func (.func fk) ⟨[]⟩ ⟨[]⟩]⟩ h fun u h' => u = .bool true ∧ Ext No h h' := by
  have hcon : ∀ {h' : Heap} {b : Nat} {t : TypeId}, Ext No h h' → h'[b]? = some (.cells ⟨[.func (.func fk) ⟨[]⟩ ⟨[]⟩]⟩ t (0, 0)) → CallsH Tryz.prog 15 ⟨[v, .func (.func 117) ⟨[]⟩ ⟨[.pointer (some ⟨b, 0, none⟩)]⟩]⟩ h' fun u h'' => u = .bool false ∧ Ext No h' h'' := by
    intro h' b t hx hb
    refine calls [(0, _), (1, _)] Tryz.func15 rfl Tryz.ntmps15 rfl ⟨rfl, rfl, trivial⟩ ?_
    all_goals (refine WC.sr ?_)
    all_goals (refine Go ?_)
    all_goals (refine WC.sr ?_)
    all_goals (refine Go ?_)
    all_goals (refine WL.call (vs := [_, _]) rfl (fun a w => Tryz.call37 a w) rfl (indexFunc_col l (fun _ => false) (fun a w => Tryz.call117 a w) (fs := []) (us := [.pointer (some ⟨b, 0, none⟩)]) (hr.ext0 hx) (by unfold maxLen; omega) (fun x hxl h2 hx2 => everyf_col x hcf (hx2.obj hb nos) (fun h3 hx3 => hp x hxl h3 ((hx.trans hx2).trans hx3)))) rfl rfl rfl ?_
               rintro _ h1 ⟨rfl, hx1⟩)
    all_goals (rw [idxP_no (fun _ _ => rfl)])
    all_goals (refine Go ?_)
    all_goals (refine WC.sub [(4, _)] ⟨rfl, trivial⟩ ?_)
    all_goals (refine WC.ret ?_)
    all_goals (repeat' (with_reducible first | refine thenP_r ?_ | refine blockP_r ?_))
    all_goals (refine retP_1 _ ⟨rfl, trivial⟩ ?_)
    all_goals (exact ⟨rfl, hx1⟩)
  obtain ⟨A, c, rfl, _⟩ := id hr
  refine calls [(0, _), (1, _)] Tryz.func87 rfl Tryz.ntmps87 rfl ⟨rfl, rfl, trivial⟩ ?_
  all_goals (refine WC.sr ?_)
  all_goals (refine WL.stepR (okE_box rfl) rfl rfl rfl ?_
             rintro _ h1 ⟨b1, rfl, hg1, hb1, hx1⟩)
  all_goals (refine Go ?_)
  all_goals (refine WC.sr ?_)
  all_goals (refine Go ?_)
  all_goals (refine goP 8 ?_ ?_ <;> first | exact ⟨⟩ | refine Hb.mk fun hb => ?_ | skip)
  all_goals (refine Gg ?_)
  all_goals (first | (refine WL.pass rfl rfl rfl ?_) | (refine WL.step (ok_makeFunc (vs := []) (us := [_]) rfl rfl) rfl rfl rfl ?_))
  all_goals (first
               | (refine WL.pass rfl rfl rfl ?_)
               | (refine WL.call (vs := [_, _]) rfl (fun a w => Tryz.call15 a w) rfl (hcon hx1 hb1) rfl rfl rfl ?_
                  rintro _ h2 ⟨rfl, hx2⟩))
  all_goals (refine Gg ?_)
  all_goals (refine Go ?_)
  all_goals (refine WC.sub [(4, _)] ⟨rfl, trivial⟩ ?_)
  all_goals (refine WC.ret ?_)
  all_goals (repeat' (with_reducible first | refine thenP_r ?_ | refine blockP_r ?_))
  all_goals (refine retP_1 _ ⟨rfl, trivial⟩ ?_)
  all_goals (exact ⟨rfl, hx1.trans hx2⟩)

set_option maxHeartbeats 2000000 in
set_option maxRecDepth 100000 in
theorem everyf_fld {h : Heap} {b : Nat} {t : TypeId} (x : FieldD) {fk : Nat} (hcf : ∀ (args : Array Value) (w : World), (callFunc fk args).run Tryz.prog w = .ok (.enter fk args) w) (hb : h[b]? = some (.cells ⟨[.func (.func fk) ⟨[]⟩ ⟨[]⟩]⟩ t (0, 0)))
    (hp : ∀ h', Ext No h h' → CallsH Tryz.prog fk ⟨[.agg ⟨FieldD.cells x⟩]⟩ h' fun u h'' => u = .bool true ∧ Ext No h' h'') :
    CallsH Tryz.prog 119 ⟨[.agg ⟨FieldD.cells x⟩, .pointer (some ⟨b, 0, none⟩)]⟩ h fun u h' => u = .bool false ∧ Ext No h h' := by
  refine calls [(0, _), (1, _)] Tryz.func119 rfl Tryz.ntmps119 rfl ⟨rfl, rfl, trivial⟩ ?_
  all_goals (refine WC.sr ?_)
  all_goals (refine WL.stepR (okE_box rfl) rfl rfl rfl ?_
             rintro _ h1 ⟨b1, rfl, hg1, hb1, hx1⟩)
  all_goals (refine Go ?_)
  all_goals (refine WC.sr ?_)
  all_goals (refine WL.step (ok_load (fun w => Tryz.isAgg55 w) rfl (by first | exact cell_blk (hx1.obj hb nos) rfl | assumption | exact cell_blk (by assumption) rfl)) rfl rfl rfl ?_)
  all_goals (refine WL.step (ok_loadN (fun w => Tryz.isAgg54 w) (fun w => Tryz.sizeOf54 w) rfl rfl (by exact At.of_block hb1)) rfl rfl rfl ?_)
  all_goals (refine WL.callT (vs := [_]) rfl rfl hcf rfl (hp _ hx1) rfl rfl rfl ?_
             rintro _ h2 ⟨rfl, hx2⟩)
  all_goals (refine Go ?_)
  all_goals (refine WC.sub [(3, _)] ⟨rfl, trivial⟩ ?_)
  all_goals (refine WC.ret ?_)
  all_goals (repeat' (with_reducible first | refine thenP_r ?_ | refine blockP_r ?_))
  all_goals (refine retP_1 _ ⟨rfl, trivial⟩ ?_)
  all_goals (exact ⟨rfl, hx1.trans hx2⟩)
set_option maxHeartbeats 2000000 in
set_option maxRecDepth 100000 in
theorem every_fld {h : Heap} {v : Value} (l : List FieldD) (hr : Rd h v 2 l.length (l.flatMap FieldD.cells)) (hl : l.length ≤ 65535) {fk : Nat} (hcf : ∀ (args : Array Value) (w : World), (callFunc fk args).run Tryz.prog w = .ok (.enter fk args) w)
    (hp : ∀ x ∈ l, ∀ h', Ext No h h' → CallsH Tryz.prog fk ⟨[.agg ⟨FieldD.cells x⟩]⟩ h' fun u h'' => u = .bool true ∧ Ext No h' h'') :
    CallsH Tryz.prog 89 ⟨[v, .func (.func fk) ⟨[]⟩ ⟨[]⟩]⟩ h fun u h' => u = .bool true ∧ Ext No h h' := by
  have hcon : ∀ {h' : Heap} {b : Nat} {t : TypeId}, Ext No h h' → h'[b]? = some (.cells ⟨[.func (.func fk) ⟨[]⟩ ⟨[]⟩]⟩ t (0, 0)) → CallsH Tryz.prog 19 ⟨[v, .func (.func 119) ⟨[]⟩ ⟨[.pointer (some ⟨b, 0, none⟩)]⟩]⟩ h' fun u h'' => u = .bool false ∧ Ext No h' h'' := by
    intro h' b t hx hb
    refine calls [(0, _), (1, _)] Tryz.func19 rfl Tryz.ntmps19 rfl ⟨rfl, rfl, trivial⟩ ?_
    all_goals (refine WC.sr ?_)
    all_goals (refine Go ?_)
    all_goals (refine WC.sr ?_)
    all_goals (refine Go ?_)
    all_goals (refine WL.call (vs := [_, _]) rfl (fun a w => Tryz.call39 a w) rfl (indexFunc_fld l (fun _ => false) (fun a w => Tryz.call119 a w) (fs := []) (us := [.pointer (some ⟨b, 0, none⟩)]) (hr.ext0 hx) (by unfold maxLen; omega) (fun x hxl h2 hx2 => everyf_fld x hcf (hx2.obj hb nos) (fun h3 hx3 => hp x hxl h3 ((hx.trans hx2).trans hx3)))) rfl rfl rfl ?_
               rintro _ h1 ⟨rfl, hx1⟩)
    all_goals (rw [idxP_no (fun _ _ => rfl)])
    all_goals (refine Go ?_)
    all_goals (refine WC.sub [(4, _)] ⟨rfl, trivial⟩ ?_)
    all_goals (refine WC.ret ?_)
    all_goals (repeat' (with_reducible first | refine thenP_r ?_ | refine blockP_r ?_))
    all_goals (refine retP_1 _ ⟨rfl, trivial⟩ ?_)
    all_goals (exact ⟨rfl, hx1⟩)
  obtain ⟨A, c, rfl, _⟩ := id hr
  refine calls [(0, _), (1, _)] Tryz.func89 rfl Tryz.ntmps89 rfl ⟨rfl, rfl, trivial⟩ ?_
  all_goals (refine WC.sr ?_)
  all_goals (refine WL.stepR (okE_box rfl) rfl rfl rfl ?_
             rintro _ h1 ⟨b1, rfl, hg1, hb1, hx1⟩)
  all_goals (refine Go ?_)
  all_goals (refine WC.sr ?_)
  all_goals (refine Go ?_)
  all_goals (refine goP 8 ?_ ?_ <;> first | exact ⟨⟩ | refine Hb.mk fun hb => ?_ | skip)
  all_goals (refine Gg ?_)
  all_goals (first | (refine WL.pass rfl rfl rfl ?_) | (refine WL.step (ok_makeFunc (vs := []) (us := [_]) rfl rfl) rfl rfl rfl ?_))
  all_goals (first
               | (refine WL.pass rfl rfl rfl ?_)
               | (refine WL.call (vs := [_, _]) rfl (fun a w => Tryz.call19 a w) rfl (hcon hx1 hb1) rfl rfl rfl ?_
                  rintro _ h2 ⟨rfl, hx2⟩))
  all_goals (refine Gg ?_)
  all_goals (refine Go ?_)
  all_goals (refine WC.sub [(4, _)] ⟨rfl, trivial⟩ ?_)
  all_goals (refine WC.ret ?_)
  all_goals (repeat' (with_reducible first | refine thenP_r ?_ | refine blockP_r ?_))
  all_goals (refine retP_1 _ ⟨rfl, trivial⟩ ?_)
  all_goals (exact ⟨rfl, hx1.trans hx2⟩)

set_option maxHeartbeats 2000000 in
set_option maxRecDepth 100000 in
theorem everyf_cel {h : Heap} {b : Nat} {t : TypeId} (x : Cel) {fk : Nat} (hcf : ∀ (args : Array Value) (w : World), (callFunc fk args).run Tryz.prog w = .ok (.enter fk args) w) (hb : h[b]? = some (.cells ⟨[.func (.func fk) ⟨[]⟩ ⟨[]⟩]⟩ t (0, 0)))
    (hp : ∀ h', Ext No h h' → CallsH Tryz.prog fk ⟨[.agg ⟨Cel.cells x⟩]⟩ h' fun u h'' => u = .bool true ∧ Ext No h' h'') :
    CallsH Tryz.prog 120 ⟨[.agg ⟨Cel.cells x⟩, .pointer (some ⟨b, 0, none⟩)]⟩ h fun u h' => u = .bool false ∧ Ext No h h' := by
  refine calls [(0, _), (1, _)] Tryz.func120 rfl Tryz.ntmps120 rfl ⟨rfl, rfl, trivial⟩ ?_
  all_goals (refine WC.sr ?_)
  all_goals (refine WL.stepR (okE_box rfl) rfl rfl rfl ?_
             rintro _ h1 ⟨b1, rfl, hg1, hb1, hx1⟩)
  all_goals (refine Go ?_)
  all_goals (refine WC.sr ?_)
  all_goals (refine WL.step (ok_load (fun w => Tryz.isAgg51 w) rfl (by first | exact cell_blk (hx1.obj hb nos) rfl | assumption | exact cell_blk (by assumption) rfl)) rfl rfl rfl ?_)
  all_goals (refine WL.step (ok_loadN (fun w => Tryz.isAgg50 w) (fun w => Tryz.sizeOf50 w) rfl rfl (by exact At.of_block hb1)) rfl rfl rfl ?_)
  all_goals (refine WL.callT (vs := [_]) rfl rfl hcf rfl (hp _ hx1) rfl rfl rfl ?_
             rintro _ h2 ⟨rfl, hx2⟩)
  all_goals (refine Go ?_)
  all_goals (refine WC.sub [(3, _)] ⟨rfl, trivial⟩ ?_)
  all_goals (refine WC.ret ?_)
  all_goals (repeat' (with_reducible first | refine thenP_r ?_ | refine blockP_r ?_))
  all_goals (refine retP_1 _ ⟨rfl, trivial⟩ ?_)
  all_goals (exact ⟨rfl, hx1.trans hx2⟩)
set_option maxHeartbeats 2000000 in
set_option maxRecDepth 100000 in
theorem every_cel {h : Heap} {v : Value} (l : List Cel) (hr : Rd h v 2 l.length (l.flatMap Cel.cells)) (hl : l.length ≤ 65535) {fk : Nat} (hcf : ∀ (args : Array Value) (w : World), (callFunc fk args).run Tryz.prog w = .ok (.enter fk args) w)
    (hp : ∀ x ∈ l, ∀ h', Ext No h h' → CallsH Tryz.prog fk ⟨[.agg ⟨Cel.cells x⟩]⟩ h' fun u h'' => u = .bool true ∧ Ext No h' h'') :
    CallsH Tryz.prog 91 ⟨[v, .func (.func fk) ⟨[]⟩ ⟨[]⟩]⟩ h fun u h' => u = .bool true ∧ Ext No h h' := by
  have hcon : ∀ {h' : Heap} {b : Nat} {t : TypeId}, Ext No h h' → h'[b]? = some (.cells ⟨[.func (.func fk) ⟨[]⟩ ⟨[]⟩]⟩ t (0, 0)) → CallsH Tryz.prog 17 ⟨[v, .func (.func 120) ⟨[]⟩ ⟨[.pointer (some ⟨b, 0, none⟩)]⟩]⟩ h' fun u h'' => u = .bool false ∧ Ext No h' h'' := by
    intro h' b t hx hb
    refine calls [(0, _), (1, _)] Tryz.func17 rfl Tryz.ntmps17 rfl ⟨rfl, rfl, trivial⟩ ?_
    all_goals (refine WC.sr ?_)
    all_goals (refine Go ?_)
    all_goals (refine WC.sr ?_)
    all_goals (refine Go ?_)
    all_goals (refine WL.call (vs := [_, _]) rfl (fun a w => Tryz.call38 a w) rfl (indexFunc_cel l (fun _ => false) (fun a w => Tryz.call120 a w) (fs := []) (us := [.pointer (some ⟨b, 0, none⟩)]) (hr.ext0 hx) (by unfold maxLen; omega) (fun x hxl h2 hx2 => everyf_cel x hcf (hx2.obj hb nos) (fun h3 hx3 => hp x hxl h3 ((hx.trans hx2).trans hx3)))) rfl rfl rfl ?_
               rintro _ h1 ⟨rfl, hx1⟩)
    all_goals (rw [idxP_no (fun _ _ => rfl)])
    all_goals (refine Go ?_)
    all_goals (refine WC.sub [(4, _)] ⟨rfl, trivial⟩ ?_)
    all_goals (refine WC.ret ?_)
    all_goals (repeat' (with_reducible first | refine thenP_r ?_ | refine blockP_r ?_))
    all_goals (refine retP_1 _ ⟨rfl, trivial⟩ ?_)
    all_goals (exact ⟨rfl, hx1⟩)
  obtain ⟨A, c, rfl, _⟩ := id hr
  refine calls [(0, _), (1, _)] Tryz.func91 rfl Tryz.ntmps91 rfl ⟨rfl, rfl, trivial⟩ ?_
  all_goals (refine WC.sr ?_)
  all_goals (refine WL.stepR (okE_box rfl) rfl rfl rfl ?_
             rintro _ h1 ⟨b1, rfl, hg1, hb1, hx1⟩)
  all_goals (refine Go ?_)
  all_goals (refine WC.sr ?_)
  all_goals (refine Go ?_)
  all_goals (refine goP 8 ?_ ?_ <;> first | exact ⟨⟩ | refine Hb.mk fun hb => ?_ | skip)
  all_goals (refine Gg ?_)
  all_goals (first | (refine WL.pass rfl rfl rfl ?_) | (refine WL.step (ok_makeFunc (vs := []) (us := [_]) rfl rfl) rfl rfl rfl ?_))
  all_goals (first
               | (refine WL.pass rfl rfl rfl ?_)
               | (refine WL.call (vs := [_, _]) rfl (fun a w => Tryz.call17 a w) rfl (hcon hx1 hb1) rfl rfl rfl ?_
                  rintro _ h2 ⟨rfl, hx2⟩))
  all_goals (refine Gg ?_)
  all_goals (refine Go ?_)
  all_goals (refine WC.sub [(4, _)] ⟨rfl, trivial⟩ ?_)
  all_goals (refine WC.ret ?_)
  all_goals (repeat' (with_reducible first | refine thenP_r ?_ | refine blockP_r ?_))
  all_goals (refine retP_1 _ ⟨rfl, trivial⟩ ?_)
  all_goals (exact ⟨rfl, hx1.trans hx2⟩)

set_option maxHeartbeats 2000000 in
set_option maxRecDepth 100000 in
theorem equal_col {h : Heap} {v w : Value} (l : List ColD) (hr : Rd h v 7 l.length (l.flatMap ColD.cells)) (hs : Rd h w 7 l.length (l.flatMap ColD.cells)) (hm : l.length ≤ maxLen) :
    CallsH Tryz.prog 25 ⟨[v, w]⟩ h fun u h' => u = .bool true ∧ h' = h := by
  obtain ⟨A, c, rfl, _⟩ := id hr
  obtain ⟨B, d, rfl, _⟩ := id hs
  unfold maxLen at hm
  refine calls [(0, _), (1, _)] Tryz.func25 rfl Tryz.ntmps25 rfl ⟨rfl, rfl, trivial⟩ ?_
  all_goals (refine WC.sr ?_)
  all_goals (refine Go ?_)
  all_goals (refine WC.seq ?_)
  all_goals (refine WC.sr ?_)
  all_goals (refine Go ?_)
  all_goals (refine WC.sub [(0, _), (1, _), (10, _)] ⟨rfl, rfl, rfl, trivial⟩ ?_)
  all_goals (refine goC 1 2 ?_ ?_ <;> first | exact ⟨⟩ | refine Hb.mk fun hb => ?_ | skip)
  all_goals (first | (fail_if_success refine goB 1 ?_) | (
  refine goB 1 ?_
  all_goals (refine WC.sr ?_)
  all_goals (refine Go ?_)
  all_goals (refine WC.ret ?_)
  all_goals (repeat' (with_reducible first | refine thenP_r ?_ | refine blockP_r ?_))
  all_goals (refine retP_1 _ ⟨rfl, trivial⟩ ?_)
  all_goals (exact ⟨rfl, rfl⟩)
  skip))
  all_goals (first | (fail_if_success refine goB 2 ?_) | (
  refine goB 2 ?_
  all_goals (refine WC.skip ?_)
  skip))
  all_goals (refine Gn ?_)
  all_goals (refine WC.seq ?_)
  all_goals (refine WC.sr ?_)
  all_goals (refine Go ?_)
  all_goals (refine WC.block ?_)
  -- loop 0: slots that turn [13], that stay [0, 1, 12]
  all_goals (refine WC.loopG (X := Nat) (fun x => ([(13, In (x : Int))] : Fr)) [(0, _), (1, _), (12, _)] (fun k h' => h' = h ∧ k ≤ l.length) (fun k => l.length - k) (0) ⟨rfl, rfl, rfl, rfl, trivial⟩ (by exact ⟨rfl, Nat.zero_le _⟩) ?_)
  all_goals (rintro k h9 ⟨hz, hk⟩
             subst h9)
  all_goals (refine WC.sub [(13, _), (0, _), (1, _), (12, _)] ⟨rfl, rfl, rfl, rfl, trivial⟩ ?_)
  all_goals (refine WC.sr ?_)
  all_goals (refine Go ?_)
  all_goals (refine WC.seq ?_)
  all_goals (refine goC 3 4 ?_ ?_ <;> first | exact ⟨⟩ | refine Hb.mk fun hb => ?_ | skip)
  all_goals (first | (fail_if_success refine goB 3 ?_) | (
  refine goB 3 ?_
  all_goals (refine WC.skip ?_)
  skip))
  all_goals (first | (fail_if_success refine goB 4 ?_) | (
  refine goB 4 ?_
  all_goals (refine WC.exit ?_)
  all_goals (repeat' (with_reducible first | refine thenP_x ?_ | refine blockP_miss rfl ?_ | refine blockP_hit ?_ | refine blockP_n ?_ | refine thenP_n ?_))
  all_goals (refine Br.out (i := 1000) ?_)
  skip))
  all_goals (refine Gn ?_)
  all_goals (first | (refine Br.keep ?_) | (refine WC.seq ?_))
  all_goals (first | (refine Br.keep ?_) | (refine WC.block ?_))
  all_goals (first | (refine Br.keep ?_) | (refine WC.sr ?_))
  all_goals (first
               | (refine Br.keep ?_)
               | (obtain ⟨bL, oL, hA, hbL, hat⟩ := Rd.at_ hr (by omega)
                  obtain ⟨bM, oM, hB, hbM, hbt⟩ := Rd.at_ hs (by omega)
                  obtain ⟨y, hy⟩ : ∃ y, l[k]? = some y := ⟨_, List.getElem?_eq_getElem (by omega)⟩
                  have at1 : At h bL (oL + k * 7) (ColD.cells y) := At.elem ColD.len hat hy
                  have at2 : At h bM (oM + k * 7) (ColD.cells y) := At.elem ColD.len hbt hy))
  all_goals (first | (refine Br.keep ?_) | (refine WL.step (ok_move rfl) rfl rfl rfl ?_))
  all_goals (refine Go ?_)
  all_goals (first | (refine Br.keep ?_) | (refine WC.seq ?_))
  all_goals (first | (refine Br.keep ?_) | (refine WC.drawE fol (by kernel_rfl) ?_))
  all_goals (first | (refine Br.keep ?_) | (refine WQ.stepE (ok_move rfl) rfl rfl rfl ?_))
  all_goals (first | (refine Br.keep ?_) | (refine WQ.stepE (ok_move rfl) rfl rfl rfl ?_))
  all_goals (first | (refine Br.keep ?_) | (refine WQ.stepE (ok_idxAddrA Tryz.underlying28 (fun w => Tryz.sizeOf46 w) rfl rfl rfl (by omega) (by first | rfl | assumption)) rfl rfl rfl ?_))
  all_goals (first | (refine Br.keep ?_) | (refine WQ.stepE (ok_loadN (fun w => Tryz.isAgg46 w) (fun w => Tryz.sizeOf46 w) rfl rfl (by assumption)) rfl rfl rfl ?_))
  all_goals (first | (refine Br.keep ?_) | (refine WQ.stepE (ok_move rfl) rfl rfl rfl ?_))
  all_goals (first | (refine Br.keep ?_) | (refine WQ.stepE (ok_move rfl) rfl rfl rfl ?_))
  all_goals (first | (refine Br.keep ?_) | (refine WQ.stepE (ok_idxAddrA Tryz.underlying28 (fun w => Tryz.sizeOf46 w) rfl rfl rfl (by omega) (by first | rfl | assumption)) rfl rfl rfl ?_))
  all_goals (first | (refine Br.keep ?_) | (refine WQ.stepE (ok_loadN (fun w => Tryz.isAgg46 w) (fun w => Tryz.sizeOf46 w) rfl rfl (by assumption)) rfl rfl rfl ?_))
  all_goals (first | (refine Br.keep ?_) | (refine WQ.stepE (OkP.nbool_f rfl (ok_neqF (us := y.sca) (vs := y.sca) ([.s, .i .i64, .i .i64, .i .i64, .i .i64, .i .i64, .i .i64]) (by kernel_rfl) rfl rfl rfl rfl)) rfl rfl rfl ?_))
  all_goals (first | (refine Br.keep ?_) | (refine WQ.nil ?_))
  all_goals (refine Gn ?_)
  all_goals (first | (refine Br.keep ?_) | (refine WC.sub [(0, _), (1, _), (12, _), (13, _), (24, _)] ⟨rfl, rfl, rfl, rfl, rfl, trivial⟩ ?_))
  all_goals (first | (refine Br.keep ?_) | (refine goC 5 6 ?_ ?_ <;> first | exact ⟨⟩ | refine Hb.mk fun hb => ?_ | skip))
  all_goals (first | (fail_if_success refine goB 5 ?_) | (
  refine goB 5 ?_
  all_goals (refine WC.sr ?_)
  all_goals (refine Go ?_)
  all_goals (refine WC.sub [(4, _)] ⟨rfl, trivial⟩ ?_)
  all_goals (refine WC.ret ?_)
  all_goals (repeat' (with_reducible first | refine thenP_r ?_ | refine blockP_r ?_))
  all_goals (refine retP_1 _ ⟨rfl, trivial⟩ ?_)
  all_goals (exact ⟨rfl, rfl⟩)
  skip))
  all_goals (first | (fail_if_success refine goB 6 ?_) | (
  refine goB 6 ?_
  all_goals (refine WC.skip ?_)
  skip))
  all_goals (refine Gn ?_)
  all_goals (first | (refine Br.keep ?_) | (refine WC.region ?_))
  all_goals (refine Go ?_)
  all_goals (first | (refine Br.keep ?_) | (exact ⟨k + 1, ⟨rfl, rfl, rfl, rfl, trivial⟩, (by exact ⟨rfl, by omega⟩), (by omega)⟩))
  all_goals (try (refine Br.mk (i := 1000) ?_))
  all_goals (refine Gn ?_)
  all_goals (refine WC.sub [] trivial ?_)
  all_goals (refine WC.sr ?_)
  all_goals (refine Go ?_)
  all_goals (refine WC.ret ?_)
  all_goals (repeat' (with_reducible first | refine thenP_r ?_ | refine blockP_r ?_))
  all_goals (refine retP_1 _ ⟨rfl, trivial⟩ ?_)
  all_goals (exact ⟨rfl, rfl⟩)

set_option maxHeartbeats 2000000 in
set_option maxRecDepth 100000 in
theorem equal_fld {h : Heap} {v w : Value} (l : List FieldD) (hr : Rd h v 2 l.length (l.flatMap FieldD.cells)) (hs : Rd h w 2 l.length (l.flatMap FieldD.cells)) (hm : l.length ≤ maxLen) :
    CallsH Tryz.prog 26 ⟨[v, w]⟩ h fun u h' => u = .bool true ∧ h' = h := by
  obtain ⟨A, c, rfl, _⟩ := id hr
  obtain ⟨B, d, rfl, _⟩ := id hs
  unfold maxLen at hm
  refine calls [(0, _), (1, _)] Tryz.func26 rfl Tryz.ntmps26 rfl ⟨rfl, rfl, trivial⟩ ?_
  all_goals (refine WC.sr ?_)
  all_goals (refine Go ?_)
  all_goals (refine WC.seq ?_)
  all_goals (refine WC.sr ?_)
  all_goals (refine Go ?_)
  all_goals (refine WC.sub [(0, _), (1, _), (10, _)] ⟨rfl, rfl, rfl, trivial⟩ ?_)
  all_goals (refine goC 1 2 ?_ ?_ <;> first | exact ⟨⟩ | refine Hb.mk fun hb => ?_ | skip)
  all_goals (first | (fail_if_success refine goB 1 ?_) | (
  refine goB 1 ?_
  all_goals (refine WC.sr ?_)
  all_goals (refine Go ?_)
  all_goals (refine WC.ret ?_)
  all_goals (repeat' (with_reducible first | refine thenP_r ?_ | refine blockP_r ?_))
  all_goals (refine retP_1 _ ⟨rfl, trivial⟩ ?_)
  all_goals (exact ⟨rfl, rfl⟩)
  skip))
  all_goals (first | (fail_if_success refine goB 2 ?_) | (
  refine goB 2 ?_
  all_goals (refine WC.skip ?_)
  skip))
  all_goals (refine Gn ?_)
  all_goals (refine WC.seq ?_)
  all_goals (refine WC.sr ?_)
  all_goals (refine Go ?_)
  all_goals (refine WC.block ?_)
  -- loop 0: slots that turn [13], that stay [0, 1, 12]
  all_goals (refine WC.loopG (X := Nat) (fun x => ([(13, In (x : Int))] : Fr)) [(0, _), (1, _), (12, _)] (fun k h' => h' = h ∧ k ≤ l.length) (fun k => l.length - k) (0) ⟨rfl, rfl, rfl, rfl, trivial⟩ (by exact ⟨rfl, Nat.zero_le _⟩) ?_)
  all_goals (rintro k h9 ⟨hz, hk⟩
             subst h9)
  all_goals (refine WC.sub [(13, _), (0, _), (1, _), (12, _)] ⟨rfl, rfl, rfl, rfl, trivial⟩ ?_)
  all_goals (refine WC.sr ?_)
  all_goals (refine Go ?_)
  all_goals (refine WC.seq ?_)
  all_goals (refine goC 3 4 ?_ ?_ <;> first | exact ⟨⟩ | refine Hb.mk fun hb => ?_ | skip)
  all_goals (first | (fail_if_success refine goB 3 ?_) | (
  refine goB 3 ?_
  all_goals (refine WC.skip ?_)
  skip))
  all_goals (first | (fail_if_success refine goB 4 ?_) | (
  refine goB 4 ?_
  all_goals (refine WC.exit ?_)
  all_goals (repeat' (with_reducible first | refine thenP_x ?_ | refine blockP_miss rfl ?_ | refine blockP_hit ?_ | refine blockP_n ?_ | refine thenP_n ?_))
  all_goals (refine Br.out (i := 1000) ?_)
  skip))
  all_goals (refine Gn ?_)
  all_goals (first | (refine Br.keep ?_) | (refine WC.seq ?_))
  all_goals (first | (refine Br.keep ?_) | (refine WC.block ?_))
  all_goals (first | (refine Br.keep ?_) | (refine WC.sr ?_))
  all_goals (first
               | (refine Br.keep ?_)
               | (obtain ⟨bL, oL, hA, hbL, hat⟩ := Rd.at_ hr (by omega)
                  obtain ⟨bM, oM, hB, hbM, hbt⟩ := Rd.at_ hs (by omega)
                  obtain ⟨y, hy⟩ : ∃ y, l[k]? = some y := ⟨_, List.getElem?_eq_getElem (by omega)⟩
                  have at1 : At h bL (oL + k * 2) (FieldD.cells y) := At.elem FieldD.len hat hy
                  have at2 : At h bM (oM + k * 2) (FieldD.cells y) := At.elem FieldD.len hbt hy))
  all_goals (first | (refine Br.keep ?_) | (refine WL.step (ok_move rfl) rfl rfl rfl ?_))
  all_goals (refine Go ?_)
  all_goals (first | (refine Br.keep ?_) | (refine WC.seq ?_))
  all_goals (first | (refine Br.keep ?_) | (refine WC.drawE fol (by kernel_rfl) ?_))
  all_goals (first | (refine Br.keep ?_) | (refine WQ.stepE (ok_move rfl) rfl rfl rfl ?_))
  all_goals (first | (refine Br.keep ?_) | (refine WQ.stepE (ok_move rfl) rfl rfl rfl ?_))
  all_goals (first | (refine Br.keep ?_) | (refine WQ.stepE (ok_idxAddrA Tryz.underlying30 (fun w => Tryz.sizeOf54 w) rfl rfl rfl (by omega) (by first | rfl | assumption)) rfl rfl rfl ?_))
  all_goals (first | (refine Br.keep ?_) | (refine WQ.stepE (ok_loadN (fun w => Tryz.isAgg54 w) (fun w => Tryz.sizeOf54 w) rfl rfl (by assumption)) rfl rfl rfl ?_))
  all_goals (first | (refine Br.keep ?_) | (refine WQ.stepE (ok_move rfl) rfl rfl rfl ?_))
  all_goals (first | (refine Br.keep ?_) | (refine WQ.stepE (ok_move rfl) rfl rfl rfl ?_))
  all_goals (first | (refine Br.keep ?_) | (refine WQ.stepE (ok_idxAddrA Tryz.underlying30 (fun w => Tryz.sizeOf54 w) rfl rfl rfl (by omega) (by first | rfl | assumption)) rfl rfl rfl ?_))
  all_goals (first | (refine Br.keep ?_) | (refine WQ.stepE (ok_loadN (fun w => Tryz.isAgg54 w) (fun w => Tryz.sizeOf54 w) rfl rfl (by assumption)) rfl rfl rfl ?_))
  all_goals (first | (refine Br.keep ?_) | (refine WQ.stepE (OkP.nbool_f rfl (ok_neqF (us := y.sca) (vs := y.sca) ([.i .u8, .s]) (by kernel_rfl) rfl rfl rfl rfl)) rfl rfl rfl ?_))
  all_goals (first | (refine Br.keep ?_) | (refine WQ.nil ?_))
  all_goals (refine Gn ?_)
  all_goals (first | (refine Br.keep ?_) | (refine WC.sub [(0, _), (1, _), (12, _), (13, _), (24, _)] ⟨rfl, rfl, rfl, rfl, rfl, trivial⟩ ?_))
  all_goals (first | (refine Br.keep ?_) | (refine goC 5 6 ?_ ?_ <;> first | exact ⟨⟩ | refine Hb.mk fun hb => ?_ | skip))
  all_goals (first | (fail_if_success refine goB 5 ?_) | (
  refine goB 5 ?_
  all_goals (refine WC.sr ?_)
  all_goals (refine Go ?_)
  all_goals (refine WC.sub [(4, _)] ⟨rfl, trivial⟩ ?_)
  all_goals (refine WC.ret ?_)
  all_goals (repeat' (with_reducible first | refine thenP_r ?_ | refine blockP_r ?_))
  all_goals (refine retP_1 _ ⟨rfl, trivial⟩ ?_)
  all_goals (exact ⟨rfl, rfl⟩)
  skip))
  all_goals (first | (fail_if_success refine goB 6 ?_) | (
  refine goB 6 ?_
  all_goals (refine WC.skip ?_)
  skip))
  all_goals (refine Gn ?_)
  all_goals (first | (refine Br.keep ?_) | (refine WC.region ?_))
  all_goals (refine Go ?_)
  all_goals (first | (refine Br.keep ?_) | (exact ⟨k + 1, ⟨rfl, rfl, rfl, rfl, trivial⟩, (by exact ⟨rfl, by omega⟩), (by omega)⟩))
  all_goals (try (refine Br.mk (i := 1000) ?_))
  all_goals (refine Gn ?_)
  all_goals (refine WC.sub [] trivial ?_)
  all_goals (refine WC.sr ?_)
  all_goals (refine Go ?_)
  all_goals (refine WC.ret ?_)
  all_goals (repeat' (with_reducible first | refine thenP_r ?_ | refine blockP_r ?_))
  all_goals (refine retP_1 _ ⟨rfl, trivial⟩ ?_)
  all_goals (exact ⟨rfl, rfl⟩)

set_option maxHeartbeats 2000000 in
set_option maxRecDepth 100000 in
theorem allf_ok {h : Heap} (b : BndD) (hb : b.ok) : CallsH Tryz.prog 136 ⟨[.agg ⟨b.cells⟩]⟩ h fun u h' => u = .bool false ∧ Ext No h h' := by
  obtain ⟨n, lo, hi⟩ := b
  obtain ⟨h1, h2⟩ := hb
  simp only at h1 h2
  dsimp only [BndD.cells]
  refine calls [(0, _)] Tryz.func136 rfl Tryz.ntmps136 rfl ⟨rfl, trivial⟩ ?_
  all_goals (refine WC.sr ?_)
  all_goals (refine WL.stepR (okE_box rfl) rfl rfl rfl ?_
             rintro _ h3 ⟨b3, rfl, hg3, hb3, hx3⟩)
  all_goals (refine Go ?_)
  all_goals (refine WC.sr ?_)
  all_goals (refine Go ?_)
  all_goals (refine WL.step (ok_load (fun w => Tryz.isAgg3 w) rfl (by first | assumption | exact cell_blk (by assumption) rfl)) rfl rfl rfl ?_)
  all_goals (refine Go ?_)
  all_goals (refine WL.step (ok_load (fun w => Tryz.isAgg3 w) rfl (by first | assumption | exact cell_blk (by assumption) rfl)) rfl rfl rfl ?_)
  all_goals (refine Go ?_)
  all_goals (refine goP 8 ?_ ?_ <;> first | exact ⟨⟩ | refine Hb.mk fun hb => ?_ | skip)
  all_goals (refine Gg ?_)
  all_goals (first | (refine WL.pass rfl rfl rfl ?_) | (refine WL.step (ok_load (fun w => Tryz.isAgg3 w) rfl (by first | assumption | exact cell_blk (by assumption) rfl)) rfl rfl rfl ?_))
  all_goals (refine Gg ?_)
  all_goals (first | (refine WL.pass rfl rfl rfl ?_) | (refine WL.step (ok_load (fun w => Tryz.isAgg3 w) rfl (by first | assumption | exact cell_blk (by assumption) rfl)) rfl rfl rfl ?_))
  all_goals (refine Gg ?_)
  all_goals (refine Go ?_)
  all_goals (refine WC.sub [(2, _)] ⟨rfl, trivial⟩ ?_)
  all_goals (refine WC.ret ?_)
  all_goals (repeat' (with_reducible first | refine thenP_r ?_ | refine blockP_r ?_))
  all_goals (refine retP_1 _ ⟨rfl, trivial⟩ ?_)
  all_goals (exact ⟨rfl, hx3⟩)
set_option maxHeartbeats 2000000 in
set_option maxRecDepth 100000 in
theorem all_ok {h : Heap} {v : Value} (l : List BndD) (hr : Rd h v 3 l.length (l.flatMap BndD.cells)) (hm : l.length ≤ maxLen) (hl : ∀ b ∈ l, b.ok) : CallsH Tryz.prog 118 ⟨[v]⟩ h fun u h' => u = .bool true ∧ Ext No h h' := by
  have hcon : CallsH Tryz.prog 135 ⟨[v, .func (.func 136) ⟨[]⟩ ⟨[]⟩]⟩ h fun u h' => u = .bool false ∧ Ext No h h' := by
    refine calls [(0, _), (1, _)] Tryz.func135 rfl Tryz.ntmps135 rfl ⟨rfl, rfl, trivial⟩ ?_
    all_goals (refine WC.sr ?_)
    all_goals (refine Go ?_)
    all_goals (refine WC.sr ?_)
    all_goals (refine Go ?_)
    all_goals (refine WL.call (vs := [_, _]) rfl (fun a w => Tryz.call140 a w) rfl (indexFunc_bnd l (fun _ => false) (fun a w => Tryz.call136 a w) (fs := []) (us := []) hr hm (fun x hx h' hx' => allf_ok x (hl x hx))) rfl rfl rfl ?_
               rintro _ h1 ⟨rfl, hx1⟩)
    all_goals (rw [idxP_no (fun _ _ => rfl)])
    all_goals (refine Go ?_)
    all_goals (refine WC.sub [(4, _)] ⟨rfl, trivial⟩ ?_)
    all_goals (refine WC.ret ?_)
    all_goals (repeat' (with_reducible first | refine thenP_r ?_ | refine blockP_r ?_))
    all_goals (refine retP_1 _ ⟨rfl, trivial⟩ ?_)
    all_goals (exact ⟨rfl, hx1⟩)
  refine calls [(0, _)] Tryz.func118 rfl Tryz.ntmps118 rfl ⟨rfl, trivial⟩ ?_
  all_goals (refine WC.sr ?_)
  all_goals (refine Go ?_)
  all_goals (refine WC.sr ?_)
  all_goals (refine Go ?_)
  all_goals (refine WL.call (vs := [_, _]) rfl (fun a w => Tryz.call135 a w) rfl (hcon) rfl rfl rfl ?_
             rintro _ h1 ⟨rfl, hx1⟩)
  all_goals (refine Go ?_)
  all_goals (refine WC.sub [(2, _)] ⟨rfl, trivial⟩ ?_)
  all_goals (refine WC.ret ?_)
  all_goals (repeat' (with_reducible first | refine thenP_r ?_ | refine blockP_r ?_))
  all_goals (refine retP_1 _ ⟨rfl, trivial⟩ ?_)
  all_goals (exact ⟨rfl, hx1⟩)
/-- A column that may be. -/
def ColD.okB (c : ColD) : Prop := cleanB c.nm = true ∧ (0 ≤ c.t ∧ c.t ≤ 4294967295) ∧ (0 ≤ c.a ∧ c.a ≤ 65535) ∧ (0 ≤ c.o ∧ c.o ≤ 4294967295) ∧ (-32768 ≤ c.s ∧ c.s ≤ 32767) ∧ (-2147483648 ≤ c.m ∧ c.m ≤ 2147483647) ∧ (0 ≤ c.f ∧ c.f ≤ 65535)
set_option maxHeartbeats 2000000 in
set_option maxRecDepth 100000 in
theorem column_ok {h : Heap} (c : ColD) (hc : c.okB) : CallsH Tryz.prog 88 ⟨[.agg ⟨c.cells⟩]⟩ h fun u h' => u = .bool true ∧ Ext No h h' := by
  obtain ⟨nm, t, a, o, s, m, f⟩ := c
  obtain ⟨h1, h2, h3, h4, h5, h6, h7⟩ := hc
  simp only at h1 h2 h3 h4 h5 h6 h7
  dsimp only [ColD.cells]
  refine calls [(0, _)] Tryz.func88 rfl Tryz.ntmps88 rfl ⟨rfl, trivial⟩ ?_
  all_goals (refine WC.sr ?_)
  all_goals (refine WL.stepR (okE_box rfl) rfl rfl rfl ?_
             rintro _ g1 ⟨b1, rfl, hg1, hb1, hx1⟩)
  all_goals (refine Go ?_)
  all_goals (refine WC.sr ?_)
  all_goals (refine Go ?_)
  all_goals (refine WL.step (ok_load (fun w => Tryz.isAgg9 w) rfl (by first | assumption | exact cell_blk (by assumption) rfl)) rfl rfl rfl ?_)
  all_goals (refine WL.call (vs := [_]) rfl (fun a w => Tryz.call86 a w) rfl ((clean_any nm).as (congrArg Value.bool h1)) rfl rfl rfl ?_
             rintro _ hz ⟨rfl, _⟩
             subst hz)
  all_goals (refine Go ?_)
  all_goals (refine goP 6 ?_ ?_ <;> first | exact ⟨⟩ | refine Hb.mk fun hb => ?_ | skip)
  all_goals (refine Gg ?_)
  all_goals (first | (refine WL.pass rfl rfl rfl ?_) | (refine WL.step (ok_load (fun w => Tryz.isAgg3 w) rfl (by first | assumption | exact cell_blk (by assumption) rfl)) rfl rfl rfl ?_))
  all_goals (first | (refine WL.pass rfl rfl rfl ?_) | (refine WL.step (ok_buildF (vs := [_, _, _]) (cs := [_, _, _]) (fun | [a0, a1, a2] => [a0, a1, a2] | _ => []) rfl rfl (by kernel_rfl)) rfl rfl rfl ?_))
  all_goals (refine Gg ?_)
  all_goals (first | (refine WL.pass rfl rfl rfl ?_) | (refine WL.step (ok_load (fun w => Tryz.isAgg3 w) rfl (by first | assumption | exact cell_blk (by assumption) rfl)) rfl rfl rfl ?_))
  all_goals (first | (refine WL.pass rfl rfl rfl ?_) | (refine WL.step (ok_buildF (vs := [_, _, _]) (cs := [_, _, _]) (fun | [a0, a1, a2] => [a0, a1, a2] | _ => []) rfl rfl (by kernel_rfl)) rfl rfl rfl ?_))
  all_goals (refine Gg ?_)
  all_goals (first | (refine WL.pass rfl rfl rfl ?_) | (refine WL.step (ok_load (fun w => Tryz.isAgg3 w) rfl (by first | assumption | exact cell_blk (by assumption) rfl)) rfl rfl rfl ?_))
  all_goals (first | (refine WL.pass rfl rfl rfl ?_) | (refine WL.step (ok_buildF (vs := [_, _, _]) (cs := [_, _, _]) (fun | [a0, a1, a2] => [a0, a1, a2] | _ => []) rfl rfl (by kernel_rfl)) rfl rfl rfl ?_))
  all_goals (refine Gg ?_)
  all_goals (first | (refine WL.pass rfl rfl rfl ?_) | (refine WL.step (ok_load (fun w => Tryz.isAgg3 w) rfl (by first | assumption | exact cell_blk (by assumption) rfl)) rfl rfl rfl ?_))
  all_goals (first | (refine WL.pass rfl rfl rfl ?_) | (refine WL.step (ok_buildF (vs := [_, _, _]) (cs := [_, _, _]) (fun | [a0, a1, a2] => [a0, a1, a2] | _ => []) rfl rfl (by kernel_rfl)) rfl rfl rfl ?_))
  all_goals (refine Gg ?_)
  all_goals (first | (refine WL.pass rfl rfl rfl ?_) | (refine WL.step (ok_load (fun w => Tryz.isAgg3 w) rfl (by first | assumption | exact cell_blk (by assumption) rfl)) rfl rfl rfl ?_))
  all_goals (first | (refine WL.pass rfl rfl rfl ?_) | (refine WL.step (ok_buildF (vs := [_, _, _]) (cs := [_, _, _]) (fun | [a0, a1, a2] => [a0, a1, a2] | _ => []) rfl rfl (by kernel_rfl)) rfl rfl rfl ?_))
  all_goals (refine Gg ?_)
  all_goals (first | (refine WL.pass rfl rfl rfl ?_) | (refine WL.step (ok_load (fun w => Tryz.isAgg3 w) rfl (by first | assumption | exact cell_blk (by assumption) rfl)) rfl rfl rfl ?_))
  all_goals (first | (refine WL.pass rfl rfl rfl ?_) | (refine WL.step (ok_buildF (vs := [_, _, _]) (cs := [_, _, _]) (fun | [a0, a1, a2] => [a0, a1, a2] | _ => []) rfl rfl (by kernel_rfl)) rfl rfl rfl ?_))
  all_goals (first
               | (refine WL.pass rfl rfl rfl ?_)
               | (refine WL.stepR (okE_buildSlice (vs := [_, _, _, _, _, _]) (cs := [_, _, _, _, _, _, _, _, _, _, _, _, _, _, _, _, _, _]) (fun | [.agg ⟨[a0, a1, a2]⟩, .agg ⟨[a3, a4, a5]⟩, .agg ⟨[a6, a7, a8]⟩, .agg ⟨[a9, a10, a11]⟩, .agg ⟨[a12, a13, a14]⟩, .agg ⟨[a15, a16, a17]⟩] => [a0, a1, a2, a3, a4, a5, a6, a7, a8, a9, a10, a11, a12, a13, a14, a15, a16, a17] | _ => []) Tryz.underlying149 rfl rfl (by kernel_rfl)) rfl rfl rfl ?_
                  rintro _ g2 ⟨b2, rfl, hg2, hb2, hx2⟩))
  all_goals (first
               | (refine WL.pass rfl rfl rfl ?_)
               | (refine WL.call (vs := [_]) rfl (fun a w => Tryz.call118 a w) rfl (all_ok [⟨t, 0, 4294967295⟩, ⟨a, 0, 65535⟩, ⟨o, 0, 4294967295⟩, ⟨s, -32768, 32767⟩, ⟨m, -2147483648, 2147483647⟩, ⟨f, 0, 65535⟩] (rd_blk hb2 rfl) (by simp [maxLen]) (by intro b hb; simp only [List.mem_cons, List.not_mem_nil, or_false] at hb; rcases hb with rfl | rfl | rfl | rfl | rfl | rfl <;> assumption)) rfl rfl rfl ?_
                  rintro _ g3 ⟨rfl, hx3⟩))
  all_goals (refine Go ?_)
  all_goals (refine WC.sub [(2, _)] ⟨rfl, trivial⟩ ?_)
  all_goals (refine WC.ret ?_)
  all_goals (repeat' (with_reducible first | refine thenP_r ?_ | refine blockP_r ?_))
  all_goals (refine retP_1 _ ⟨rfl, trivial⟩ ?_)
  all_goals (exact ⟨rfl, (hx1.trans hx2).trans hx3⟩)
def FieldD.okB (c : FieldD) : Prop := c.k ≠ 0 ∧ cleanB c.t = true
set_option maxHeartbeats 2000000 in
set_option maxRecDepth 100000 in
theorem field_ok {h : Heap} (c : FieldD) (hc : c.okB) : CallsH Tryz.prog 90 ⟨[.agg ⟨c.cells⟩]⟩ h fun u h' => u = .bool true ∧ Ext No h h' := by
  obtain ⟨k, t⟩ := c
  obtain ⟨h1, h2⟩ := hc
  simp only at h1 h2
  dsimp only [FieldD.cells]
  refine calls [(0, _)] Tryz.func90 rfl Tryz.ntmps90 rfl ⟨rfl, trivial⟩ ?_
  all_goals (refine WC.sr ?_)
  all_goals (refine WL.stepR (okE_box rfl) rfl rfl rfl ?_
             rintro _ g1 ⟨b1, rfl, hg1, hb1, hx1⟩)
  all_goals (refine Go ?_)
  all_goals (refine WC.sr ?_)
  all_goals (refine Go ?_)
  all_goals (refine WL.step (ok_load (fun w => Tryz.isAgg5 w) rfl (by first | assumption | exact cell_blk (by assumption) rfl)) rfl rfl rfl ?_)
  all_goals (refine Go ?_)
  all_goals (refine goP 6 ?_ ?_ <;> first | exact ⟨⟩ | refine Hb.mk fun hb => ?_ | skip)
  all_goals (refine Gg ?_)
  all_goals (first | (refine WL.pass rfl rfl rfl ?_) | (refine WL.step (ok_load (fun w => Tryz.isAgg9 w) rfl (by first | assumption | exact cell_blk (by assumption) rfl)) rfl rfl rfl ?_))
  all_goals (first
               | (refine WL.pass rfl rfl rfl ?_)
               | (refine WL.call (vs := [_]) rfl (fun a w => Tryz.call86 a w) rfl ((clean_any t).as (congrArg Value.bool h2)) rfl rfl rfl ?_
                  rintro _ hz ⟨rfl, _⟩
                  subst hz))
  all_goals (refine Go ?_)
  all_goals (refine WC.sub [(2, _)] ⟨rfl, trivial⟩ ?_)
  all_goals (refine WC.ret ?_)
  all_goals (repeat' (with_reducible first | refine thenP_r ?_ | refine blockP_r ?_))
  all_goals (refine retP_1 _ ⟨rfl, trivial⟩ ?_)
  all_goals (exact ⟨rfl, hx1⟩)
def Cel.okB (c : Cel) : Prop := (c.null = true → c.bytes.length = 0) ∧ c.bytes.length ≤ 1048576
set_option maxHeartbeats 2000000 in
set_option maxRecDepth 100000 in
theorem cell_ok {h h0 : Heap} (c : Cel) (hk : c.ok h0) (hc : c.okB) : CallsH Tryz.prog 92 ⟨[.agg ⟨c.cells⟩]⟩ h fun u h' => u = .bool true ∧ Ext No h h' := by
  obtain ⟨nl, v, bs⟩ := c
  obtain ⟨h1, h2⟩ := hc
  simp only at h1 h2
  obtain ⟨A, cc, e, _⟩ := hk.1
  simp only at e
  subst e
  dsimp only [Cel.cells]
  cases nl
  all_goals try have h3 := h1 rfl
  all_goals
    refine calls [(0, _)] Tryz.func92 rfl Tryz.ntmps92 rfl ⟨rfl, trivial⟩ ?_
    all_goals (refine WC.sr ?_)
    all_goals (refine WL.stepR (okE_box rfl) rfl rfl rfl ?_
               rintro _ g1 ⟨b1, rfl, hg1, hb1, hx1⟩)
    all_goals (refine Go ?_)
    all_goals (refine WC.sr ?_)
    all_goals (refine Go ?_)
    all_goals (refine WL.step (ok_load (fun w => Tryz.isAgg4 w) rfl (by first | assumption | exact cell_blk (by assumption) rfl)) rfl rfl rfl ?_)
    all_goals (refine Go ?_)
    all_goals (refine goP 5 ?_ ?_ <;> first | exact ⟨⟩ | refine Hb.mk fun hb => ?_ | skip)
    all_goals (refine Gg ?_)
    all_goals (first | (refine WL.pass rfl rfl rfl ?_) | (refine WL.step (ok_load (fun w => Tryz.isAgg24 w) rfl (by first | assumption | exact cell_blk (by assumption) rfl)) rfl rfl rfl ?_))
    all_goals (refine Gg ?_)
    all_goals (refine Go ?_)
    all_goals (refine goP 12 ?_ ?_ <;> first | exact ⟨⟩ | refine Hb.mk fun hb => ?_ | skip)
    all_goals (refine Gg ?_)
    all_goals (first | (refine WL.pass rfl rfl rfl ?_) | (refine WL.step (ok_load (fun w => Tryz.isAgg24 w) rfl (by first | assumption | exact cell_blk (by assumption) rfl)) rfl rfl rfl ?_))
    all_goals (refine Gg ?_)
    all_goals (refine Go ?_)
    all_goals (refine WC.sub [(2, _)] ⟨rfl, trivial⟩ ?_)
    all_goals (refine WC.ret ?_)
    all_goals (repeat' (with_reducible first | refine thenP_r ?_ | refine blockP_r ?_))
    all_goals (refine retP_1 _ ⟨rfl, trivial⟩ ?_)
    all_goals (exact ⟨rfl, hx1⟩)
set_option maxHeartbeats 2000000 in
set_option maxRecDepth 100000 in
theorem oid_ok {h : Heap} (n : Int) (h0 : 0 ≤ n) (h1 : n ≤ 4294967295) : CallsH Tryz.prog 94 ⟨[In n]⟩ h fun u h' => u = .bool true ∧ h' = h := by
  refine calls [(0, _)] Tryz.func94 rfl Tryz.ntmps94 rfl ⟨rfl, trivial⟩ ?_
  all_goals (refine WC.sr ?_)
  all_goals (refine Go ?_)
  all_goals (refine WC.sr ?_)
  all_goals (refine Go ?_)
  all_goals (refine goP 5 ?_ ?_ <;> first | exact ⟨⟩ | refine Hb.mk fun hb => ?_ | skip)
  all_goals (refine Gg ?_)
  all_goals (refine Go ?_)
  all_goals (refine WC.sub [(2, _)] ⟨rfl, trivial⟩ ?_)
  all_goals (refine WC.ret ?_)
  all_goals (repeat' (with_reducible first | refine thenP_r ?_ | refine blockP_r ?_))
  all_goals (refine retP_1 _ ⟨rfl, trivial⟩ ?_)
  all_goals (exact ⟨rfl, rfl⟩)
set_option maxHeartbeats 2000000 in
set_option maxRecDepth 100000 in
theorem every_int {h : Heap} {v : Value} (l : List Int) (hr : Rd h v 1 l.length (ints l)) (hl : l.length ≤ 65535) (hp : ∀ n ∈ l, 0 ≤ n ∧ n ≤ 4294967295) :
    CallsH Tryz.prog 93 ⟨[v, .func (.func 94) ⟨[]⟩ ⟨[]⟩]⟩ h fun u h' => u = .bool true ∧ Ext No h h' := by
  have hf : ∀ {h : Heap} {b : Nat} {t : TypeId} (x : Int), x ∈ l → h[b]? = some (.cells ⟨[.func (.func 94) ⟨[]⟩ ⟨[]⟩]⟩ t (0, 0)) → CallsH Tryz.prog 122 ⟨[In x, .pointer (some ⟨b, 0, none⟩)]⟩ h fun u h' => u = .bool false ∧ h' = h := by
    intro h b t x hx hb
    refine calls [(0, _), (1, _)] Tryz.func122 rfl Tryz.ntmps122 rfl ⟨rfl, rfl, trivial⟩ ?_
    all_goals (refine WC.sr ?_)
    all_goals (refine Go ?_)
    all_goals (refine WC.sr ?_)
    all_goals (refine WL.step (ok_load (fun w => Tryz.isAgg125 w) rfl (by first | assumption | exact cell_blk (by assumption) rfl)) rfl rfl rfl ?_)
    all_goals (refine Go ?_)
    all_goals (refine WL.callT (vs := [_]) rfl rfl (fun a w => Tryz.call94 a w) rfl (oid_ok x (hp x hx).1 (hp x hx).2) rfl rfl rfl ?_
               rintro _ hz ⟨rfl, _⟩
               subst hz)
    all_goals (refine Go ?_)
    all_goals (refine WC.sub [(3, _)] ⟨rfl, trivial⟩ ?_)
    all_goals (refine WC.ret ?_)
    all_goals (repeat' (with_reducible first | refine thenP_r ?_ | refine blockP_r ?_))
    all_goals (refine retP_1 _ ⟨rfl, trivial⟩ ?_)
    all_goals (exact ⟨rfl, rfl⟩)
  obtain ⟨A, c, rfl, _⟩ := id hr
  have hcon : ∀ {h' : Heap} {b : Nat} {t : TypeId}, Ext No h h' → h'[b]? = some (.cells ⟨[.func (.func 94) ⟨[]⟩ ⟨[]⟩]⟩ t (0, 0)) → CallsH Tryz.prog 121 ⟨[.slice A l.length c, .func (.func 122) ⟨[]⟩ ⟨[.pointer (some ⟨b, 0, none⟩)]⟩]⟩ h' fun u h'' => u = .bool false ∧ h'' = h' := by
    intro h' b t hx hb
    refine calls [(0, _), (1, _)] Tryz.func121 rfl Tryz.ntmps121 rfl ⟨rfl, rfl, trivial⟩ ?_
    all_goals (refine WC.sr ?_)
    all_goals (refine Go ?_)
    all_goals (refine WC.sr ?_)
    all_goals (refine Go ?_)
    all_goals (refine WL.call (vs := [_, _]) rfl (fun a w => Tryz.call137 a w) rfl (indexFunc_int l (fun _ => false) (fun a w => Tryz.call122 a w) (fs := []) (us := [.pointer (some ⟨b, 0, none⟩)]) (hr.ext0 hx) (by unfold maxLen; omega) (fun x hxl => hf x hxl hb)) rfl rfl rfl ?_
               rintro _ hz ⟨rfl, _⟩
               subst hz)
    all_goals (rw [idxP_no (fun _ _ => rfl)])
    all_goals (refine Go ?_)
    all_goals (refine WC.sub [(4, _)] ⟨rfl, trivial⟩ ?_)
    all_goals (refine WC.ret ?_)
    all_goals (repeat' (with_reducible first | refine thenP_r ?_ | refine blockP_r ?_))
    all_goals (refine retP_1 _ ⟨rfl, trivial⟩ ?_)
    all_goals (exact ⟨rfl, rfl⟩)
  refine calls [(0, _), (1, _)] Tryz.func93 rfl Tryz.ntmps93 rfl ⟨rfl, rfl, trivial⟩ ?_
  all_goals (refine WC.sr ?_)
  all_goals (refine WL.stepR (okE_box rfl) rfl rfl rfl ?_
             rintro _ h1 ⟨b1, rfl, hg1, hb1, hx1⟩)
  all_goals (refine Go ?_)
  all_goals (refine WC.sr ?_)
  all_goals (refine Go ?_)
  all_goals (refine goP 8 ?_ ?_ <;> first | exact ⟨⟩ | refine Hb.mk fun hb => ?_ | skip)
  all_goals (refine Gg ?_)
  all_goals (first | (refine WL.pass rfl rfl rfl ?_) | (refine WL.step (ok_makeFunc (vs := []) (us := [_]) rfl rfl) rfl rfl rfl ?_))
  all_goals (first
               | (refine WL.pass rfl rfl rfl ?_)
               | (refine WL.call (vs := [_, _]) rfl (fun a w => Tryz.call121 a w) rfl (hcon hx1 hb1) rfl rfl rfl ?_
                  rintro _ hz ⟨rfl, _⟩
                  subst hz))
  all_goals (refine Gg ?_)
  all_goals (refine Go ?_)
  all_goals (refine WC.sub [(4, _)] ⟨rfl, trivial⟩ ?_)
  all_goals (refine WC.ret ?_)
  all_goals (repeat' (with_reducible first | refine thenP_r ?_ | refine blockP_r ?_))
  all_goals (refine retP_1 _ ⟨rfl, trivial⟩ ?_)
  all_goals (exact ⟨rfl, hx1⟩)
set_option maxHeartbeats 2000000 in
set_option maxRecDepth 100000 in
theorem bytes_equal {h : Heap} {v w : Value} (l m : List UInt8) (hr : Rd h v 1 l.length (bys l)) (hs : Rd h w 1 m.length (bys m)) :
    CallsH Tryz.prog 10 ⟨[v, w]⟩ h fun u h' => u = .bool (decide (l = m)) ∧ h' = h := by
  obtain ⟨A, c, rfl, _⟩ := id hr
  obtain ⟨B, d, rfl, _⟩ := id hs
  by_cases e : l = m
  all_goals
    refine calls [(0, _), (1, _)] Tryz.func10 rfl Tryz.ntmps10 rfl ⟨rfl, rfl, trivial⟩ ?_
    all_goals (refine WC.sr ?_)
    all_goals (refine Go ?_)
    all_goals (refine WC.sr ?_)
    all_goals (refine Go ?_)
    all_goals (refine WL.step (ok_convBS Tryz.underlying24 Tryz.underlying5 Tryz.underlying9 rfl hr) rfl rfl rfl ?_)
    all_goals (refine Go ?_)
    all_goals (refine WL.step (ok_convBS Tryz.underlying24 Tryz.underlying5 Tryz.underlying9 rfl hs) rfl rfl rfl ?_)
    all_goals (refine Go ?_)
    all_goals (refine WC.sub [(4, _)] ⟨rfl, trivial⟩ ?_)
    all_goals (refine WC.ret ?_)
    all_goals (repeat' (with_reducible first | refine thenP_r ?_ | refine blockP_r ?_))
    all_goals (refine retP_1 _ ⟨rfl, trivial⟩ ?_)
    all_goals (exact ⟨by simp [e], rfl⟩)
set_option maxHeartbeats 2000000 in
set_option maxRecDepth 100000 in
theorem alike_back {h : Heap} (a b : Cel) (ha : a.ok h) (hb : b.ok h) (e : a.pl = b.pl) :
    CallsH Tryz.prog 28 ⟨[.agg ⟨a.cells⟩, .agg ⟨b.cells⟩]⟩ h fun u h' => u = .bool true ∧ Ext No h h' := by
  obtain ⟨n1, v1, l1⟩ := a
  obtain ⟨n2, v2, l2⟩ := b
  simp only [Cel.pl, Prod.mk.injEq] at e
  obtain ⟨rfl, rfl⟩ := e
  obtain ⟨ha, _⟩ := ha
  obtain ⟨hb, _⟩ := hb
  simp only at ha hb
  obtain ⟨A, c, rfl, _⟩ := id ha
  obtain ⟨B, d, rfl, _⟩ := id hb
  dsimp only [Cel.cells]
  cases n1
  all_goals
    refine calls [(0, _), (1, _)] Tryz.func28 rfl Tryz.ntmps28 rfl ⟨rfl, rfl, trivial⟩ ?_
    all_goals (refine WC.sr ?_)
    all_goals (refine WL.stepR (okE_box rfl) rfl rfl rfl ?_
               rintro _ h1 ⟨b1, rfl, hg1, hb1, hx1⟩)
    all_goals (refine WL.stepR (okE_box rfl) rfl rfl rfl ?_
               rintro _ h2 ⟨b2, rfl, hg2, hb2, hx2⟩)
    all_goals (have hb1' := hx2.obj hb1 nos
               have hx := hx1.trans hx2)
    all_goals (refine Go ?_)
    all_goals (refine WC.sr ?_)
    all_goals (refine Go ?_)
    all_goals (refine WL.step (ok_load (fun w => Tryz.isAgg4 w) rfl (by first | assumption | exact cell_blk (by assumption) rfl)) rfl rfl rfl ?_)
    all_goals (refine Go ?_)
    all_goals (refine WL.step (ok_load (fun w => Tryz.isAgg4 w) rfl (by first | assumption | exact cell_blk (by assumption) rfl)) rfl rfl rfl ?_)
    all_goals (first | (refine WL.step (OkP.bool_t (by rfl) (ok_eqlB Tryz.underlying4 rfl rfl)) rfl rfl rfl ?_) | (refine WL.step (OkP.bool_f (by decide) (ok_eqlB Tryz.underlying4 rfl rfl)) rfl rfl rfl ?_) | (refine WL.step (ok_eqlB Tryz.underlying4 rfl rfl) rfl rfl rfl ?_))
    all_goals (refine Go ?_)
    all_goals (refine goP 10 ?_ ?_ <;> first | exact ⟨⟩ | refine Hb.mk fun hb => ?_ | skip)
    all_goals (refine Gg ?_)
    all_goals (first | (refine WL.pass rfl rfl rfl ?_) | (refine WL.step (ok_load (fun w => Tryz.isAgg24 w) rfl (by first | assumption | exact cell_blk (by assumption) rfl)) rfl rfl rfl ?_))
    all_goals (refine Gg ?_)
    all_goals (first | (refine WL.pass rfl rfl rfl ?_) | (refine WL.step (ok_load (fun w => Tryz.isAgg24 w) rfl (by first | assumption | exact cell_blk (by assumption) rfl)) rfl rfl rfl ?_))
    all_goals (first
                 | (refine WL.pass rfl rfl rfl ?_)
                 | (refine WL.call (vs := [_, _]) rfl (fun a w => Tryz.call10 a w) rfl ((bytes_equal l1 l1 (ha.ext0 hx) (hb.ext0 hx)).as (congrArg Value.bool (decide_eq_true rfl))) rfl rfl rfl ?_
                    rintro _ hz ⟨rfl, _⟩
                    subst hz))
    all_goals (refine Go ?_)
    all_goals (refine WC.sub [(4, _)] ⟨rfl, trivial⟩ ?_)
    all_goals (refine WC.ret ?_)
    all_goals (repeat' (with_reducible first | refine thenP_r ?_ | refine blockP_r ?_))
    all_goals (refine retP_1 _ ⟨rfl, trivial⟩ ?_)
    all_goals (exact ⟨rfl, hx⟩)
theorem pl_get {α β : Type} {F : α → β} {l m : List α} {k : Nat} {a b : α} (e : l.map F = m.map F) (ha : l[k]? = some a) (hb : m[k]? = some b) : F a = F b := by
  have := congrArg (·[k]?) e
  simpa [ha, hb] using this
set_option maxHeartbeats 2000000 in
set_option maxRecDepth 100000 in
theorem equalF_cel {h : Heap} {v w : Value} (l m : List Cel) (hl : Cels h v l) (hm : Cels h w m) (e : l.map Cel.pl = m.map Cel.pl) :
    CallsH Tryz.prog 27 ⟨[v, w, .func (.func 28) ⟨[]⟩ ⟨[]⟩]⟩ h fun u h' => u = .bool true ∧ Ext No h h' := by
  obtain ⟨hr, ⟨hlm, A, c, rfl, _⟩, ho⟩ := hl
  obtain ⟨hs, ⟨hmm, B, d, rfl, _⟩, hp⟩ := hm
  have hlen : m.length = l.length := by simpa using (congrArg List.length e).symm
  unfold reachBytes at hlm
  refine calls [(0, _), (1, _), (2, _)] Tryz.func27 rfl Tryz.ntmps27 rfl ⟨rfl, rfl, rfl, trivial⟩ ?_
  all_goals (refine WC.sr ?_)
  all_goals (refine Go ?_)
  all_goals (refine WC.seq ?_)
  all_goals (refine WC.sr ?_)
  all_goals (refine Go ?_)
  all_goals (refine WC.sub [(0, _), (1, _), (2, _), (14, _)] ⟨rfl, rfl, rfl, rfl, trivial⟩ ?_)
  all_goals (refine goC 1 2 ?_ ?_ <;> first | exact ⟨⟩ | refine Hb.mk fun hb => ?_ | skip)
  all_goals (first | (fail_if_success refine goB 1 ?_) | (
  refine goB 1 ?_
  all_goals (refine WC.sr ?_)
  all_goals (refine Go ?_)
  all_goals (refine WC.sub [(6, _)] ⟨rfl, trivial⟩ ?_)
  all_goals (refine WC.ret ?_)
  all_goals (repeat' (with_reducible first | refine thenP_r ?_ | refine blockP_r ?_))
  all_goals (refine retP_1 _ ⟨rfl, trivial⟩ ?_)
  all_goals (exact ⟨rfl, hx1⟩)
  skip))
  all_goals (first | (fail_if_success refine goB 2 ?_) | (
  refine goB 2 ?_
  all_goals (refine WC.skip ?_)
  skip))
  all_goals (refine Gn ?_)
  all_goals (refine WC.seq ?_)
  all_goals (refine WC.sr ?_)
  all_goals (refine Go ?_)
  all_goals (refine WC.block ?_)
  -- loop 0: slots that turn [17], that stay [1, 2, 15, 16]
  all_goals (refine WC.loopG (X := Nat) (fun x => ([(17, In (x : Int))] : Fr)) [(1, _), (2, _), (15, _), (16, _)] (fun k h' => Ext No h h' ∧ k ≤ l.length) (fun k => l.length - k) (0) ⟨rfl, rfl, rfl, rfl, rfl, trivial⟩ (by exact ⟨.refl _ _, Nat.zero_le _⟩) ?_)
  all_goals (rintro k h1 ⟨hx1, hk⟩)
  all_goals (refine WC.sub [(17, _), (1, _), (2, _), (15, _), (16, _)] ⟨rfl, rfl, rfl, rfl, rfl, trivial⟩ ?_)
  all_goals (refine WC.sr ?_)
  all_goals (refine Go ?_)
  all_goals (refine WC.seq ?_)
  all_goals (refine goC 3 4 ?_ ?_ <;> first | exact ⟨⟩ | refine Hb.mk fun hb => ?_ | skip)
  all_goals (first | (fail_if_success refine goB 3 ?_) | (
  refine goB 3 ?_
  all_goals (refine WC.skip ?_)
  skip))
  all_goals (first | (fail_if_success refine goB 4 ?_) | (
  refine goB 4 ?_
  all_goals (refine WC.exit ?_)
  all_goals (repeat' (with_reducible first | refine thenP_x ?_ | refine blockP_miss rfl ?_ | refine blockP_hit ?_ | refine blockP_n ?_ | refine thenP_n ?_))
  all_goals (refine Br.out (i := 1000) ?_)
  skip))
  all_goals (refine Gn ?_)
  all_goals (first | (refine Br.keep ?_) | (refine WC.seq ?_))
  all_goals (first | (refine Br.keep ?_) | (refine WC.block ?_))
  all_goals (first | (refine Br.keep ?_) | (refine WC.sr ?_))
  all_goals (first
               | (refine Br.keep ?_)
               | (obtain ⟨bL, oL, hA, hbL, hat⟩ := Rd.at_ (hr.ext0 hx1) (by omega)
                  obtain ⟨bM, oM, hB, hbM, hbt⟩ := Rd.at_ (hs.ext0 hx1) (by omega)
                  obtain ⟨y, hy⟩ : ∃ y, l[k]? = some y := ⟨_, List.getElem?_eq_getElem (by omega)⟩
                  obtain ⟨z, hz⟩ : ∃ y, m[k]? = some y := ⟨_, List.getElem?_eq_getElem (by omega)⟩
                  have hyo := ho y (List.mem_of_getElem? hy)
                  have hzo := hp z (List.mem_of_getElem? hz)
                  have at1 : At h1 bL (oL + k * 2) y.cells := At.elem Cel.len hat hy
                  have at2 : At h1 bM (oM + k * 2) z.cells := At.elem Cel.len hbt hz
                  have one1 : ∀ v ∈ y.cells, v.oneCell' = true := by obtain ⟨A1, c1, e1, _⟩ := hyo.1; simp [Cel.cells, Value.oneCell', e1]
                  have one2 : ∀ v ∈ z.cells, v.oneCell' = true := by obtain ⟨A1, c1, e1, _⟩ := hzo.1; simp [Cel.cells, Value.oneCell', e1]))
  all_goals (first | (refine Br.keep ?_) | (refine WL.step (ok_move rfl) rfl rfl rfl ?_))
  all_goals (first | (refine Br.keep ?_) | (refine WL.step (ok_idxAddrA Tryz.underlying29 (fun w => Tryz.sizeOf50 w) rfl rfl rfl (by omega) (by first | rfl | assumption)) rfl rfl rfl ?_))
  all_goals (first | (refine Br.keep ?_) | (refine WL.step (ok_loadN (fun w => Tryz.isAgg50 w) (fun w => Tryz.sizeOf50 w) rfl rfl (by assumption)) rfl rfl rfl ?_))
  all_goals (first
               | (refine Br.keep ?_)
               | (refine WL.stepR (okE_alloc (fun w => Tryz.zeroValue50 w)) rfl rfl rfl ?_
                  rintro _ h2 ⟨b2, rfl, hg2, hb2, hx2⟩))
  all_goals (refine Go ?_)
  all_goals (first
               | (refine Br.keep ?_)
               | (refine WL.stepR0 (okE_storeW (fun w => Tryz.sizeOf50 w) rfl rfl rfl (by assumption) rfl one1) rfl rfl ?_
                  rintro _ h3 ⟨hb3, hx3⟩))
  all_goals (first | (refine Br.keep ?_) | (have hx13 : Ext No h1 h3 := hx2.trans' hx3 (fun q hq e => by omega)))
  all_goals (refine Gn ?_)
  all_goals (first | (refine Br.keep ?_) | (refine WC.sub [(1, _), (2, _), (7, _), (8, _), (15, _), (16, _), (17, _)] ⟨rfl, rfl, rfl, rfl, rfl, rfl, rfl, trivial⟩ ?_))
  all_goals (first | (refine Br.keep ?_) | (refine WC.sr ?_))
  all_goals (refine Go ?_)
  all_goals (first | (refine Br.keep ?_) | (refine WL.step (ok_idxAddrA Tryz.underlying29 (fun w => Tryz.sizeOf50 w) rfl rfl rfl (by omega) (by first | rfl | assumption)) rfl rfl rfl ?_))
  all_goals (first | (refine Br.keep ?_) | (refine WL.step (ok_loadN (fun w => Tryz.isAgg50 w) (fun w => Tryz.sizeOf50 w) rfl rfl (by exact at2.ext hx13 nos)) rfl rfl rfl ?_))
  all_goals (first
               | (refine Br.keep ?_)
               | (refine WL.stepR (okE_alloc (fun w => Tryz.zeroValue50 w)) rfl rfl rfl ?_
                  rintro _ h4 ⟨b4, rfl, hg4, hb4, hx4⟩))
  all_goals (first
               | (refine Br.keep ?_)
               | (refine WL.stepR0 (okE_storeW (fun w => Tryz.sizeOf50 w) rfl rfl rfl (by assumption) rfl one2) rfl rfl ?_
                  rintro _ h5 ⟨hb5, hx5⟩))
  all_goals (first
               | (refine Br.keep ?_)
               | (have hx35 : Ext No h3 h5 := hx4.trans' hx5 (fun q hq e => by omega)
                  have hb3' := hx35.obj hb3 nos
                  have hX5 := hx1.trans (hx13.trans hx35)))
  all_goals (refine Gn ?_)
  all_goals (first | (refine Br.keep ?_) | (refine WC.sub [(1, _), (2, _), (8, _), (9, _), (15, _), (16, _), (17, _)] ⟨rfl, rfl, rfl, rfl, rfl, rfl, rfl, trivial⟩ ?_))
  all_goals (first | (refine Br.keep ?_) | (refine WC.sr ?_))
  all_goals (refine Go ?_)
  all_goals (first | (refine Br.keep ?_) | (refine WL.step (ok_loadN (fun w => Tryz.isAgg50 w) (fun w => Tryz.sizeOf50 w) rfl rfl (by exact At.of_block hb3')) rfl rfl rfl ?_))
  all_goals (first | (refine Br.keep ?_) | (refine WL.step (ok_loadN (fun w => Tryz.isAgg50 w) (fun w => Tryz.sizeOf50 w) rfl rfl (by exact At.of_block hb5)) rfl rfl rfl ?_))
  all_goals (first
               | (refine Br.keep ?_)
               | (refine WL.callT (vs := [_, _]) rfl rfl (fun a w => Tryz.call28 a w) rfl (alike_back y z (hyo.ext0 hX5) (hzo.ext0 hX5) (pl_get e hy hz)) rfl rfl rfl ?_
                  rintro _ h6 ⟨rfl, hx6⟩))
  all_goals (refine Go ?_)
  all_goals (first | (refine Br.keep ?_) | (refine WC.sub [(1, _), (2, _), (15, _), (16, _), (17, _), (30, _)] ⟨rfl, rfl, rfl, rfl, rfl, rfl, trivial⟩ ?_))
  all_goals (first | (refine Br.keep ?_) | (refine goC 5 6 ?_ ?_ <;> first | exact ⟨⟩ | refine Hb.mk fun hb => ?_ | skip))
  all_goals (first | (fail_if_success refine goB 5 ?_) | (
  refine goB 5 ?_
  all_goals (refine WC.sr ?_)
  all_goals (refine Go ?_)
  all_goals (refine WC.sub [(6, _)] ⟨rfl, trivial⟩ ?_)
  all_goals (refine WC.ret ?_)
  all_goals (repeat' (with_reducible first | refine thenP_r ?_ | refine blockP_r ?_))
  all_goals (refine retP_1 _ ⟨rfl, trivial⟩ ?_)
  all_goals (exact ⟨rfl, hx1⟩)
  skip))
  all_goals (first | (fail_if_success refine goB 6 ?_) | (
  refine goB 6 ?_
  all_goals (refine WC.skip ?_)
  skip))
  all_goals (refine Gn ?_)
  all_goals (first | (refine Br.keep ?_) | (refine WC.region ?_))
  all_goals (refine Go ?_)
  all_goals (first | (refine Br.keep ?_) | (exact ⟨k + 1, ⟨rfl, rfl, rfl, rfl, rfl, trivial⟩, (by exact ⟨hX5.trans hx6, by omega⟩), (by omega)⟩))
  all_goals (try (refine Br.mk (i := 1000) ?_))
  all_goals (refine Gn ?_)
  all_goals (refine WC.sub [] trivial ?_)
  all_goals (refine WC.sr ?_)
  all_goals (refine Go ?_)
  all_goals (refine WC.ret ?_)
  all_goals (repeat' (with_reducible first | refine thenP_r ?_ | refine blockP_r ?_))
  all_goals (refine retP_1 _ ⟨rfl, trivial⟩ ?_)
  all_goals (exact ⟨rfl, hx1⟩)
set_option maxHeartbeats 4000000 in
set_option maxRecDepth 100000 in
theorem same_back {h : Heap} (a b : Bk) (ha : a.ok h) (hb : b.ok h) (e : a.pl = b.pl) :
    CallsH Tryz.prog 7 ⟨[.agg ⟨a.cells⟩, .agg ⟨b.cells⟩]⟩ h fun u h' => u = .bool true ∧ Ext No h h' := by
  obtain ⟨k1, s1, t1, n1, v1, x1, y1, vo1, l1, vc1, c1, vr1, r1, vf1, f1⟩ := a
  obtain ⟨k2, s2, t2, n2, v2, x2, y2, vo2, l2, vc2, c2, vr2, r2, vf2, f2⟩ := b
  simp only [Bk.pl, Prod.mk.injEq] at e
  obtain ⟨rfl, rfl, rfl, rfl, rfl, rfl, rfl, rfl, rfl, er, rfl⟩ := e
  obtain ⟨⟨ao, hlo⟩, ⟨ac, hlc⟩, ar, af, hlf⟩ := ha
  obtain ⟨⟨bo, _⟩, ⟨bc, _⟩, br, bf, _⟩ := hb
  simp only at ao ac ar af bo bc br bf hlo hlc hlf
  obtain ⟨Ao, co, rfl, _⟩ := id ao
  obtain ⟨Bo, do_, rfl, _⟩ := id bo
  dsimp only [Bk.cells]
  refine calls [(0, _), (1, _)] Tryz.func7 rfl Tryz.ntmps7 rfl ⟨rfl, rfl, trivial⟩ ?_
  all_goals (refine WC.sr ?_)
  all_goals (refine WL.stepR (okE_box rfl) rfl rfl rfl ?_
             rintro _ h1 ⟨b1, rfl, hg1, hb1, hx1⟩)
  all_goals (refine WL.stepR (okE_box rfl) rfl rfl rfl ?_
             rintro _ h2 ⟨b2, rfl, hg2, hb2, hx2⟩)
  all_goals (have hb1' := hx2.obj hb1 nos
             have hx := hx1.trans hx2)
  all_goals (refine Go ?_)
  all_goals (refine WC.sr ?_)
  all_goals (refine Go ?_)
  all_goals (refine WL.step (ok_load (fun w => Tryz.isAgg9 w) rfl (by first | assumption | exact cell_blk (by assumption) rfl)) rfl rfl rfl ?_)
  all_goals (refine Go ?_)
  all_goals (refine WL.step (ok_load (fun w => Tryz.isAgg9 w) rfl (by first | assumption | exact cell_blk (by assumption) rfl)) rfl rfl rfl ?_)
  all_goals (refine Go ?_)
  all_goals (refine WL.step (ok_load (fun w => Tryz.isAgg9 w) rfl (by first | assumption | exact cell_blk (by assumption) rfl)) rfl rfl rfl ?_)
  all_goals (refine WL.step (ok_buildF (vs := [_, _, _]) (cs := [_, _, _]) (fun | [a0, a1, a2] => [a0, a1, a2] | _ => []) rfl rfl (by kernel_rfl)) rfl rfl rfl ?_)
  all_goals (refine Go ?_)
  all_goals (refine WL.step (ok_load (fun w => Tryz.isAgg9 w) rfl (by first | assumption | exact cell_blk (by assumption) rfl)) rfl rfl rfl ?_)
  all_goals (refine Go ?_)
  all_goals (refine WL.step (ok_load (fun w => Tryz.isAgg9 w) rfl (by first | assumption | exact cell_blk (by assumption) rfl)) rfl rfl rfl ?_)
  all_goals (refine Go ?_)
  all_goals (refine WL.step (ok_load (fun w => Tryz.isAgg9 w) rfl (by first | assumption | exact cell_blk (by assumption) rfl)) rfl rfl rfl ?_)
  all_goals (refine WL.step (ok_buildF (vs := [_, _, _]) (cs := [_, _, _]) (fun | [a0, a1, a2] => [a0, a1, a2] | _ => []) rfl rfl (by kernel_rfl)) rfl rfl rfl ?_)
  all_goals (refine WL.step (OkP.bool_t rfl (ok_eqlA (us := [t1, n1, v1]) (vs := [t1, n1, v1]) Tryz.underlying60 (show Tryz.prog.info? 9 = some Tryz.t9 by kernel_rfl) Tryz.underlying9 (by kernel_rfl) (by kernel_rfl) (by kernel_rfl) rfl rfl rfl rfl)) rfl rfl rfl ?_)
  all_goals (refine Go ?_)
  all_goals (refine WC.sub [(2, _), (3, _), (5, _)] ⟨rfl, rfl, rfl, trivial⟩ ?_)
  all_goals (refine WC.sr ?_)
  all_goals (refine Go ?_)
  all_goals (refine WL.step (ok_load (fun w => Tryz.isAgg5 w) rfl (by first | assumption | exact cell_blk (by assumption) rfl)) rfl rfl rfl ?_)
  all_goals (refine Go ?_)
  all_goals (refine WL.step (ok_load (fun w => Tryz.isAgg5 w) rfl (by first | assumption | exact cell_blk (by assumption) rfl)) rfl rfl rfl ?_)
  all_goals (refine Go ?_)
  all_goals (refine goP 28 ?_ ?_ <;> first | exact ⟨⟩ | refine Hb.mk fun hb => ?_ | skip)
  all_goals (refine Gg ?_)
  all_goals (first | (refine WL.pass rfl rfl rfl ?_) | (refine WL.step (ok_load (fun w => Tryz.isAgg5 w) rfl (by first | assumption | exact cell_blk (by assumption) rfl)) rfl rfl rfl ?_))
  all_goals (refine Gg ?_)
  all_goals (first | (refine WL.pass rfl rfl rfl ?_) | (refine WL.step (ok_load (fun w => Tryz.isAgg5 w) rfl (by first | assumption | exact cell_blk (by assumption) rfl)) rfl rfl rfl ?_))
  all_goals (refine Gg ?_)
  all_goals (refine Go ?_)
  all_goals (refine goP 35 ?_ ?_ <;> first | exact ⟨⟩ | refine Hb.mk fun hb => ?_ | skip)
  all_goals (refine Gg ?_)
  all_goals (first | (refine WL.pass rfl rfl rfl ?_) | (refine WL.step (ok_load (fun w => Tryz.isAgg3 w) rfl (by first | assumption | exact cell_blk (by assumption) rfl)) rfl rfl rfl ?_))
  all_goals (refine Gg ?_)
  all_goals (first | (refine WL.pass rfl rfl rfl ?_) | (refine WL.step (ok_load (fun w => Tryz.isAgg3 w) rfl (by first | assumption | exact cell_blk (by assumption) rfl)) rfl rfl rfl ?_))
  all_goals (refine Gg ?_)
  all_goals (refine Go ?_)
  all_goals (refine goP 42 ?_ ?_ <;> first | exact ⟨⟩ | refine Hb.mk fun hb => ?_ | skip)
  all_goals (refine Gg ?_)
  all_goals (first | (refine WL.pass rfl rfl rfl ?_) | (refine WL.step (ok_load (fun w => Tryz.isAgg3 w) rfl (by first | assumption | exact cell_blk (by assumption) rfl)) rfl rfl rfl ?_))
  all_goals (refine Gg ?_)
  all_goals (first | (refine WL.pass rfl rfl rfl ?_) | (refine WL.step (ok_load (fun w => Tryz.isAgg3 w) rfl (by first | assumption | exact cell_blk (by assumption) rfl)) rfl rfl rfl ?_))
  all_goals (refine Gg ?_)
  all_goals (refine Go ?_)
  all_goals (refine WC.sub [(2, _), (3, _), (5, _), (6, _)] ⟨rfl, rfl, rfl, rfl, trivial⟩ ?_)
  all_goals (refine WC.sr ?_)
  all_goals (refine Go ?_)
  all_goals (refine WL.step (ok_load (fun w => Tryz.isAgg27 w) rfl (by first | assumption | exact cell_blk (by assumption) rfl)) rfl rfl rfl ?_)
  all_goals (refine Go ?_)
  all_goals (refine WL.step (ok_load (fun w => Tryz.isAgg27 w) rfl (by first | assumption | exact cell_blk (by assumption) rfl)) rfl rfl rfl ?_)
  all_goals (refine WL.call (vs := [_, _]) rfl (fun a w => Tryz.call24 a w) rfl ((equal_int _ _ (ao.ext0 hx) (bo.ext0 hx) hlo).as (congrArg Value.bool (decide_eq_true rfl))) rfl rfl rfl ?_
             rintro _ hz ⟨rfl, _⟩
             subst hz)
  all_goals (refine Go ?_)
  all_goals (refine goP 54 ?_ ?_ <;> first | exact ⟨⟩ | refine Hb.mk fun hb => ?_ | skip)
  all_goals (refine Gg ?_)
  all_goals (first | (refine WL.pass rfl rfl rfl ?_) | (refine WL.step (ok_load (fun w => Tryz.isAgg28 w) rfl (by first | assumption | exact cell_blk (by assumption) rfl)) rfl rfl rfl ?_))
  all_goals (refine Gg ?_)
  all_goals (first | (refine WL.pass rfl rfl rfl ?_) | (refine WL.step (ok_load (fun w => Tryz.isAgg28 w) rfl (by first | assumption | exact cell_blk (by assumption) rfl)) rfl rfl rfl ?_))
  all_goals (first
               | (refine WL.pass rfl rfl rfl ?_)
               | (refine WL.call (vs := [_, _]) rfl (fun a w => Tryz.call25 a w) rfl (equal_col _ (ac.ext0 hx) (bc.ext0 hx) hlc) rfl rfl rfl ?_
                  rintro _ hz ⟨rfl, _⟩
                  subst hz))
  all_goals (refine Go ?_)
  all_goals (refine goP 61 ?_ ?_ <;> first | exact ⟨⟩ | refine Hb.mk fun hb => ?_ | skip)
  all_goals (refine Gg ?_)
  all_goals (first | (refine WL.pass rfl rfl rfl ?_) | (refine WL.step (ok_load (fun w => Tryz.isAgg30 w) rfl (by first | assumption | exact cell_blk (by assumption) rfl)) rfl rfl rfl ?_))
  all_goals (refine Gg ?_)
  all_goals (first | (refine WL.pass rfl rfl rfl ?_) | (refine WL.step (ok_load (fun w => Tryz.isAgg30 w) rfl (by first | assumption | exact cell_blk (by assumption) rfl)) rfl rfl rfl ?_))
  all_goals (first
               | (refine WL.pass rfl rfl rfl ?_)
               | (refine WL.call (vs := [_, _]) rfl (fun a w => Tryz.call26 a w) rfl (equal_fld _ (af.ext0 hx) (bf.ext0 hx) hlf) rfl rfl rfl ?_
                  rintro _ hz ⟨rfl, _⟩
                  subst hz))
  all_goals (refine Go ?_)
  all_goals (refine WC.sub [(2, _), (3, _), (5, _), (6, _), (7, _)] ⟨rfl, rfl, rfl, rfl, rfl, trivial⟩ ?_)
  all_goals (refine WC.sr ?_)
  all_goals (refine Go ?_)
  all_goals (refine goP 69 ?_ ?_ <;> first | exact ⟨⟩ | refine Hb.mk fun hb => ?_ | skip)
  all_goals (refine Gg ?_)
  all_goals (refine Go ?_)
  all_goals (refine goP 72 ?_ ?_ <;> first | exact ⟨⟩ | refine Hb.mk fun hb => ?_ | skip)
  all_goals (refine Gg ?_)
  all_goals (refine Go ?_)
  all_goals (refine goP 75 ?_ ?_ <;> first | exact ⟨⟩ | refine Hb.mk fun hb => ?_ | skip)
  all_goals (refine Gg ?_)
  all_goals (first | (refine WL.pass rfl rfl rfl ?_) | (refine WL.step (ok_load (fun w => Tryz.isAgg29 w) rfl (by first | assumption | exact cell_blk (by assumption) rfl)) rfl rfl rfl ?_))
  all_goals (refine Gg ?_)
  all_goals (first | (refine WL.pass rfl rfl rfl ?_) | (refine WL.step (ok_load (fun w => Tryz.isAgg29 w) rfl (by first | assumption | exact cell_blk (by assumption) rfl)) rfl rfl rfl ?_))
  all_goals (first
               | (refine WL.pass rfl rfl rfl ?_)
               | (refine WL.call (vs := [_, _, _]) rfl (fun a w => Tryz.call27 a w) rfl (equalF_cel _ _ (ar.ext0 hx) (br.ext0 hx) er) rfl rfl rfl ?_
                  rintro _ h3 ⟨rfl, hx3⟩))
  all_goals (refine Go ?_)
  all_goals (refine WC.sub [(4, _)] ⟨rfl, trivial⟩ ?_)
  all_goals (refine WC.ret ?_)
  all_goals (repeat' (with_reducible first | refine thenP_r ?_ | refine blockP_r ?_))
  all_goals (refine retP_1 _ ⟨rfl, trivial⟩ ?_)
  all_goals (exact ⟨rfl, hx.trans hx3⟩)
end Go.Proofs.YtbahigffjclpdaaGreatDoor


/-
  back.Check, of messages that may be: the fields of a kind; all of it.
-/
namespace Go.Proofs.YtbahigffjclpdaaGreatDoor
open Go Go.RK

def zB (k : Int) : Bk := ⟨k, 0, [], [], [], 0, 0, .slice none 0 0, [], .slice none 0 0, [], .slice none 0 0, [], .slice none 0 0, []⟩
/-- A message with no fields but those that its body has. -/
def ofB (b : Bk) : Bk :=
  if b.kind = 83 then { zB b.kind with name := b.name, value := b.value }
  else if b.kind = 75 then { zB b.kind with n := b.n, m := b.m }
  else if b.kind = 90 then { zB b.kind with status := b.status }
  else if b.kind = 67 then { zB b.kind with tag := b.tag }
  else if b.kind = 68 then { zB b.kind with vr := b.vr, row := b.row }
  else if b.kind = 84 then { zB b.kind with vc := b.vc, cols := b.cols }
  else if b.kind = 116 then { zB b.kind with vo := b.vo, oids := b.oids }
  else if b.kind = 69 ∨ b.kind = 78 then { zB b.kind with vf := b.vf, fields := b.fields }
  else zB b.kind
theorem cels_no (h : Heap) : Cels h (.slice none 0 0) [] := ⟨Rd.nil _ _, ⟨by simp, _, _, rfl, by decide⟩, by simp⟩
theorem zB_ok (h : Heap) (k : Int) : (zB k).ok h := ⟨⟨Rd.nil _ _, by simp [zB]⟩, ⟨Rd.nil _ _, by simp [zB]⟩, cels_no h, ⟨Rd.nil _ _, by simp [zB]⟩⟩
theorem ofB_ok {h : Heap} {b : Bk} (k : b.ok h) : (ofB b).ok h := by
  obtain ⟨k1, k2, k3, k4⟩ := k
  obtain ⟨z1, z2, z3, z4⟩ := zB_ok h b.kind
  unfold ofB
  repeat' split
  all_goals first | exact ⟨z1, z2, z3, z4⟩ | exact ⟨z1, z2, k3, z4⟩ | exact ⟨z1, k2, z3, z4⟩ | exact ⟨k1, z2, z3, z4⟩ | exact ⟨z1, z2, z3, k4⟩
set_option maxHeartbeats 4000000 in
set_option maxRecDepth 100000 in
theorem of_back {h : Heap} (b : Bk) (hb : b.ok h) : CallsH Tryz.prog 96 ⟨[.agg ⟨b.cells⟩]⟩ h fun u h' => u = .agg ⟨(ofB b).cells⟩ ∧ Ext No h h' := by
  obtain ⟨k, st, t, n, v, x, y, vo, lo, vc, lc, vr, lr, vf, lf⟩ := b
  obtain ⟨⟨ho, _⟩, ⟨hc, _⟩, hr, hf, _⟩ := hb
  simp only at ho hc hr hf
  obtain ⟨A1, c1, rfl, _⟩ := id ho
  obtain ⟨A2, c2, rfl, _⟩ := id hc
  obtain ⟨_, ⟨_, A3, c3, rfl, _⟩, _⟩ := id hr
  obtain ⟨A4, c4, rfl, _⟩ := id hf
  dsimp only [Bk.cells]
  refine calls [(0, _)] Tryz.func96 rfl Tryz.ntmps96 rfl ⟨rfl, trivial⟩ ?_
  all_goals (refine WC.sr ?_)
  all_goals (refine WL.stepR (okE_box rfl) rfl rfl rfl ?_
             rintro _ h1 ⟨b1, rfl, hg1, hb1, hx1⟩)
  all_goals (refine WL.stepR (okE_alloc (fun w => Tryz.zeroValue32 w)) rfl rfl rfl ?_
             rintro _ h2 ⟨b2, rfl, hg2, hb2, hx2⟩)
  all_goals (have hb1a := hx2.obj hb1 nos)
  all_goals (refine Gn ?_)
  all_goals (refine WC.sr ?_)
  all_goals (refine Go ?_)
  all_goals (refine WL.step (ok_load (fun w => Tryz.isAgg5 w) rfl (by first | assumption | exact cell_blk (by assumption) rfl)) rfl rfl rfl ?_)
  all_goals (refine WL.step (ok_buildF (vs := [_]) (cs := [_, _, _, _, _, _, _, _, _, _, _]) (fun | [a0] => [a0, (.int .u8 0), (St []), (St []), (St []), (.int .i64 0), (.int .i64 0), (.slice none 0 0), (.slice none 0 0), (.slice none 0 0), (.slice none 0 0)] | _ => []) rfl rfl (by kernel_rfl)) rfl rfl rfl ?_)
  all_goals (refine WL.stepR (okE_alloc (fun w => Tryz.zeroValue32 w)) rfl rfl rfl ?_
             rintro _ h3 ⟨b3, rfl, hg3, hb3, hx3⟩)
  all_goals (have hb1b := hx3.obj hb1a nos
             have hb2b := hx3.obj hb2 nos
             have n13 : ¬ b1 = b3 := by have := lt_of_some hb1a; omega
             have n23 : ¬ b2 = b3 := by have := lt_of_some hb2; omega)
  all_goals (refine WL.stepR0 (okE_storeW (fun w => Tryz.sizeOf32 w) rfl rfl rfl (by assumption) rfl (by simp [Value.oneCell'])) rfl rfl ?_
             rintro _ h4 ⟨hb4, hx4⟩)
  all_goals (have hb1c := hx4.obj hb1b n13
             have hb2c := hx4.obj hb2b n23
             have hX4 : Ext No h h4 := ((hx1.trans hx2).trans hx3).trans' hx4 (fun q hq e => by have := hx1.size; have := hx2.size; omega))
  all_goals (refine Gn ?_)
  all_goals (refine WC.sub [(1, _), (2, _), (3, _)] ⟨rfl, rfl, rfl, trivial⟩ ?_)
  all_goals (refine WC.seq ?_)
  all_goals (refine WC.sr ?_)
  all_goals (refine Go ?_)
  all_goals (refine WL.step (ok_load (fun w => Tryz.isAgg5 w) rfl (by first | assumption | exact cell_blk (by assumption) rfl)) rfl rfl rfl ?_)
  all_goals (refine Gn ?_)
  all_goals (refine WC.block ?_)
  all_goals (refine WC.sr ?_)
  all_goals (refine Go ?_)
  all_goals (refine goC 1 2 ?_ ?_ <;> first | exact ⟨⟩ | refine Hb.mk fun hb => ?_ | skip)
  all_goals (first | (fail_if_success refine goB 1 ?_) | (
  refine goB 1 ?_
  all_goals (refine WC.drawH (fun h' => Ext (fun q => q = b3) h4 h') 7 8 rfl fol ?_)
  all_goals (refine WH.tk 0 rfl (fun hq hC => ok_fieldAddr rfl Tryz.underlying32 rfl (fun w => Tryz.sizeOf9 w)) rfl rfl rfl ?_ (hC := (by first | exact Ext.refl _ _ | assumption | exact hx5.trans hx6)))
  all_goals (refine WH.tk 1 rfl (fun hq hC => ok_load (fun w => Tryz.isAgg9 w) rfl (by first | exact hC.cell (by first | exact cell_blk hb1c rfl | assumption | exact cell_blk (by assumption) rfl) n13)) rfl rfl rfl ?_ (hC := (by first | exact Ext.refl _ _ | assumption | exact hx5.trans hx6)))
  all_goals (refine WH.tk 2 rfl (fun hq hC => ok_fieldAddr rfl Tryz.underlying32 rfl (fun w => Tryz.sizeOf9 w)) rfl rfl rfl ?_ (hC := (by first | exact Ext.refl _ _ | assumption | exact hx5.trans hx6)))
  all_goals (refine WH.tk 3 rfl (fun hq hC => ok_load (fun w => Tryz.isAgg9 w) rfl (by first | exact hC.cell (by first | exact cell_blk hb1c rfl | assumption | exact cell_blk (by assumption) rfl) n13)) rfl rfl rfl ?_ (hC := (by first | exact Ext.refl _ _ | assumption | exact hx5.trans hx6)))
  all_goals (refine WH.tk 4 rfl (fun hq hC => ok_fieldAddr rfl Tryz.underlying32 rfl (fun w => Tryz.sizeOf9 w)) rfl rfl rfl ?_ (hC := (by first | exact Ext.refl _ _ | assumption | exact hx5.trans hx6)))
  all_goals (refine WH.one 5 (by kernel_rfl) ?_)
  all_goals (refine Comes1.run0 rfl (okE_store (fun w => Tryz.sizeOf9 w) rfl rfl (by assumption) (Nat.le_of_ble_eq_true rfl) rfl rfl) rfl rfl ?_ (fun _ => by kernel_rfl)
             rintro _ h5 ⟨hb5, hx5⟩)
  all_goals (refine ⟨fun _ => hx5, ?_⟩)
  all_goals (refine WH.tk 6 rfl (fun hq hC => ok_fieldAddr rfl Tryz.underlying32 rfl (fun w => Tryz.sizeOf9 w)) rfl rfl rfl ?_ (hC := (by first | exact Ext.refl _ _ | assumption | exact hx5.trans hx6)))
  all_goals (refine WH.one 7 (by kernel_rfl) ?_)
  all_goals (refine Comes1.run0 rfl (okE_store (fun w => Tryz.sizeOf9 w) rfl rfl (by assumption) (Nat.le_of_ble_eq_true rfl) rfl rfl) rfl rfl ?_ (fun _ => by kernel_rfl)
             rintro _ h6 ⟨hb6, hx6⟩)
  all_goals (refine ⟨fun _ => hx5.trans hx6, ?_⟩)
  all_goals (have hE := hx5.trans hx6
             have hb2z := hE.obj hb2c n23)
  all_goals (refine WH.done (by kernel_rfl) ?_)
  skip))
  all_goals (first | (fail_if_success refine goB 2 ?_) | (
  refine goB 2 ?_
  all_goals (refine WC.sr ?_)
  all_goals (refine Go ?_)
  all_goals (refine WC.sub [(1, _), (2, _), (3, _), (8, _), (17, _)] ⟨rfl, rfl, rfl, rfl, rfl, trivial⟩ ?_)
  all_goals (refine goC 3 4 ?_ ?_ <;> first | exact ⟨⟩ | refine Hb.mk fun hb => ?_ | skip)
  all_goals (first | (fail_if_success refine goB 3 ?_) | (
  refine goB 3 ?_
  all_goals (refine WC.drawH (fun h' => Ext (fun q => q = b3) h4 h') 7 8 rfl fol ?_)
  all_goals (refine WH.tk 0 rfl (fun hq hC => ok_fieldAddr rfl Tryz.underlying32 rfl (fun w => Tryz.sizeOf3 w)) rfl rfl rfl ?_ (hC := (by first | exact Ext.refl _ _ | assumption | exact hx5.trans hx6)))
  all_goals (refine WH.tk 1 rfl (fun hq hC => ok_load (fun w => Tryz.isAgg3 w) rfl (by first | exact hC.cell (by first | exact cell_blk hb1c rfl | assumption | exact cell_blk (by assumption) rfl) n13)) rfl rfl rfl ?_ (hC := (by first | exact Ext.refl _ _ | assumption | exact hx5.trans hx6)))
  all_goals (refine WH.tk 2 rfl (fun hq hC => ok_fieldAddr rfl Tryz.underlying32 rfl (fun w => Tryz.sizeOf3 w)) rfl rfl rfl ?_ (hC := (by first | exact Ext.refl _ _ | assumption | exact hx5.trans hx6)))
  all_goals (refine WH.tk 3 rfl (fun hq hC => ok_load (fun w => Tryz.isAgg3 w) rfl (by first | exact hC.cell (by first | exact cell_blk hb1c rfl | assumption | exact cell_blk (by assumption) rfl) n13)) rfl rfl rfl ?_ (hC := (by first | exact Ext.refl _ _ | assumption | exact hx5.trans hx6)))
  all_goals (refine WH.tk 4 rfl (fun hq hC => ok_fieldAddr rfl Tryz.underlying32 rfl (fun w => Tryz.sizeOf3 w)) rfl rfl rfl ?_ (hC := (by first | exact Ext.refl _ _ | assumption | exact hx5.trans hx6)))
  all_goals (refine WH.one 5 (by kernel_rfl) ?_)
  all_goals (refine Comes1.run0 rfl (okE_store (fun w => Tryz.sizeOf3 w) rfl rfl (by assumption) (Nat.le_of_ble_eq_true rfl) rfl rfl) rfl rfl ?_ (fun _ => by kernel_rfl)
             rintro _ h5 ⟨hb5, hx5⟩)
  all_goals (refine ⟨fun _ => hx5, ?_⟩)
  all_goals (refine WH.tk 6 rfl (fun hq hC => ok_fieldAddr rfl Tryz.underlying32 rfl (fun w => Tryz.sizeOf3 w)) rfl rfl rfl ?_ (hC := (by first | exact Ext.refl _ _ | assumption | exact hx5.trans hx6)))
  all_goals (refine WH.one 7 (by kernel_rfl) ?_)
  all_goals (refine Comes1.run0 rfl (okE_store (fun w => Tryz.sizeOf3 w) rfl rfl (by assumption) (Nat.le_of_ble_eq_true rfl) rfl rfl) rfl rfl ?_ (fun _ => by kernel_rfl)
             rintro _ h6 ⟨hb6, hx6⟩)
  all_goals (refine ⟨fun _ => hx5.trans hx6, ?_⟩)
  all_goals (have hE := hx5.trans hx6
             have hb2z := hE.obj hb2c n23)
  all_goals (refine WH.done (by kernel_rfl) ?_)
  skip))
  all_goals (first | (fail_if_success refine goB 4 ?_) | (
  refine goB 4 ?_
  all_goals (refine WC.sr ?_)
  all_goals (refine Go ?_)
  all_goals (refine goC 5 6 ?_ ?_ <;> first | exact ⟨⟩ | refine Hb.mk fun hb => ?_ | skip)
  all_goals (first | (fail_if_success refine goB 5 ?_) | (
  refine goB 5 ?_
  all_goals (refine WC.region ?_)
  all_goals (refine Go ?_)
  all_goals (refine WL.step (ok_load (fun w => Tryz.isAgg5 w) rfl (by first | assumption | exact cell_blk (by assumption) rfl)) rfl rfl rfl ?_)
  all_goals (refine Go ?_)
  all_goals (refine WL.stepR0 (okE_store (fun w => Tryz.sizeOf5 w) rfl rfl (by assumption) (Nat.le_of_ble_eq_true rfl) rfl rfl) rfl rfl ?_
             rintro _ h5 ⟨hb5, hE⟩)
  all_goals (have hb2z := hE.obj hb2c n23)
  all_goals (refine Gn ?_)
  skip))
  all_goals (first | (fail_if_success refine goB 6 ?_) | (
  refine goB 6 ?_
  all_goals (refine WC.sr ?_)
  all_goals (refine Go ?_)
  all_goals (refine WC.sub [(1, _), (2, _), (3, _), (8, _), (30, _)] ⟨rfl, rfl, rfl, rfl, rfl, trivial⟩ ?_)
  all_goals (refine goC 7 8 ?_ ?_ <;> first | exact ⟨⟩ | refine Hb.mk fun hb => ?_ | skip)
  all_goals (first | (fail_if_success refine goB 7 ?_) | (
  refine goB 7 ?_
  all_goals (refine WC.region ?_)
  all_goals (refine Go ?_)
  all_goals (refine WL.step (ok_load (fun w => Tryz.isAgg9 w) rfl (by first | assumption | exact cell_blk (by assumption) rfl)) rfl rfl rfl ?_)
  all_goals (refine Go ?_)
  all_goals (refine WL.stepR0 (okE_store (fun w => Tryz.sizeOf9 w) rfl rfl (by assumption) (Nat.le_of_ble_eq_true rfl) rfl rfl) rfl rfl ?_
             rintro _ h5 ⟨hb5, hE⟩)
  all_goals (have hb2z := hE.obj hb2c n23)
  all_goals (refine Gn ?_)
  skip))
  all_goals (first | (fail_if_success refine goB 8 ?_) | (
  refine goB 8 ?_
  all_goals (refine WC.sr ?_)
  all_goals (refine Go ?_)
  all_goals (refine goC 9 10 ?_ ?_ <;> first | exact ⟨⟩ | refine Hb.mk fun hb => ?_ | skip)
  all_goals (first | (fail_if_success refine goB 9 ?_) | (
  refine goB 9 ?_
  all_goals (refine WC.region ?_)
  all_goals (refine Go ?_)
  all_goals (refine WL.step (ok_load (fun w => Tryz.isAgg29 w) rfl (by first | assumption | exact cell_blk (by assumption) rfl)) rfl rfl rfl ?_)
  all_goals (refine Go ?_)
  all_goals (refine WL.stepR0 (okE_store (fun w => Tryz.sizeOf29 w) rfl rfl (by assumption) (Nat.le_of_ble_eq_true rfl) rfl rfl) rfl rfl ?_
             rintro _ h5 ⟨hb5, hE⟩)
  all_goals (have hb2z := hE.obj hb2c n23)
  all_goals (refine Gn ?_)
  skip))
  all_goals (first | (fail_if_success refine goB 10 ?_) | (
  refine goB 10 ?_
  all_goals (refine WC.sr ?_)
  all_goals (refine Go ?_)
  all_goals (refine WC.sub [(1, _), (2, _), (3, _), (8, _), (40, _)] ⟨rfl, rfl, rfl, rfl, rfl, trivial⟩ ?_)
  all_goals (refine goC 11 12 ?_ ?_ <;> first | exact ⟨⟩ | refine Hb.mk fun hb => ?_ | skip)
  all_goals (first | (fail_if_success refine goB 11 ?_) | (
  refine goB 11 ?_
  all_goals (refine WC.region ?_)
  all_goals (refine Go ?_)
  all_goals (refine WL.step (ok_load (fun w => Tryz.isAgg28 w) rfl (by first | assumption | exact cell_blk (by assumption) rfl)) rfl rfl rfl ?_)
  all_goals (refine Go ?_)
  all_goals (refine WL.stepR0 (okE_store (fun w => Tryz.sizeOf28 w) rfl rfl (by assumption) (Nat.le_of_ble_eq_true rfl) rfl rfl) rfl rfl ?_
             rintro _ h5 ⟨hb5, hE⟩)
  all_goals (have hb2z := hE.obj hb2c n23)
  all_goals (refine Gn ?_)
  skip))
  all_goals (first | (fail_if_success refine goB 12 ?_) | (
  refine goB 12 ?_
  all_goals (refine WC.sr ?_)
  all_goals (refine Go ?_)
  all_goals (refine goC 13 14 ?_ ?_ <;> first | exact ⟨⟩ | refine Hb.mk fun hb => ?_ | skip)
  all_goals (first | (fail_if_success refine goB 13 ?_) | (
  refine goB 13 ?_
  all_goals (refine WC.region ?_)
  all_goals (refine Go ?_)
  all_goals (refine WL.step (ok_load (fun w => Tryz.isAgg27 w) rfl (by first | assumption | exact cell_blk (by assumption) rfl)) rfl rfl rfl ?_)
  all_goals (refine Go ?_)
  all_goals (refine WL.stepR0 (okE_store (fun w => Tryz.sizeOf27 w) rfl rfl (by assumption) (Nat.le_of_ble_eq_true rfl) rfl rfl) rfl rfl ?_
             rintro _ h5 ⟨hb5, hE⟩)
  all_goals (have hb2z := hE.obj hb2c n23)
  all_goals (refine Gn ?_)
  skip))
  all_goals (first | (fail_if_success refine goB 14 ?_) | (
  refine goB 14 ?_
  all_goals (refine WC.seq ?_)
  all_goals (refine WC.sr ?_)
  all_goals (refine Go ?_)
  all_goals (refine WC.sub [(1, _), (2, _), (3, _), (8, _), (50, _)] ⟨rfl, rfl, rfl, rfl, rfl, trivial⟩ ?_)
  all_goals (refine goC 15 16 ?_ ?_ <;> first | exact ⟨⟩ | refine Hb.mk fun hb => ?_ | skip)
  all_goals (first | (fail_if_success refine goB 15 ?_) | (
  refine goB 15 ?_
  all_goals (refine WC.skip ?_)
  skip))
  all_goals (first | (fail_if_success refine goB 16 ?_) | (
  refine goB 16 ?_
  all_goals (refine WC.region ?_)
  all_goals (refine Go ?_)
  skip))
  all_goals (refine Gn ?_)
  all_goals (refine goC 17 18 ?_ ?_ <;> first | exact ⟨⟩ | refine Hb.mk fun hb => ?_ | skip)
  all_goals (first | (fail_if_success refine goB 17 ?_) | (
  refine goB 17 ?_
  all_goals (refine WC.region ?_)
  all_goals (refine Go ?_)
  all_goals (refine WL.step (ok_load (fun w => Tryz.isAgg30 w) rfl (by first | assumption | exact cell_blk (by assumption) rfl)) rfl rfl rfl ?_)
  all_goals (refine Go ?_)
  all_goals (refine WL.stepR0 (okE_store (fun w => Tryz.sizeOf30 w) rfl rfl (by assumption) (Nat.le_of_ble_eq_true rfl) rfl rfl) rfl rfl ?_
             rintro _ h5 ⟨hb5, hE⟩)
  all_goals (have hb2z := hE.obj hb2c n23)
  all_goals (refine Gn ?_)
  skip))
  all_goals (first | (fail_if_success refine goB 18 ?_) | (
  refine goB 18 ?_
  all_goals (refine WC.skip ?_)
  skip))
  skip))
  skip))
  skip))
  skip))
  skip))
  skip))
  skip))
  all_goals (refine Gn ?_)
  all_goals (refine WC.sr ?_)
  all_goals (refine WL.step (ok_loadN (fun w => Tryz.isAgg32 w) (fun w => Tryz.sizeOf32 w) rfl rfl (by exact (by first | exact At.of_block hb6 | exact At.of_block hb5 | exact At.of_block hb4))) rfl rfl rfl ?_)
  all_goals (refine WL.stepR0 (okE_storeW (fun w => Tryz.sizeOf32 w) rfl rfl rfl (by first | exact hb2z | exact hb2c) rfl (by simp [Value.oneCell'])) rfl rfl ?_
             rintro _ h9 ⟨hb9, hx9⟩)
  all_goals (refine Gn ?_)
  all_goals (refine WC.sub [(2, _)] ⟨rfl, trivial⟩ ?_)
  all_goals (refine WC.ret ?_)
  all_goals (repeat' (with_reducible first | refine thenP_r ?_ | refine blockP_r ?_))
  all_goals (refine retP_1 _ ⟨⟨_, rfl, ld_blk (fun w => Tryz.isAgg32 w) (fun w => Tryz.sizeOf32 w) (by assumption) rfl⟩, trivial⟩ ?_)
  all_goals (have hs1 := hx1.size
             have hs2 := hx2.size
             refine ⟨?_, by first | exact (hX4.trans' hE (fun q hq e => by omega)).trans' hx9 (fun q hq e => by omega) | exact hX4.trans' hx9 (fun q hq e => by omega)⟩
             first
              | (exfalso; omega)
              | (simp only [ofB, if_pos, *]; rfl)
              | (simp [ofB, zB, Bk.cells, *]; done))
/-! ### Check -/
def kindsB : List UInt8 := [82, 83, 75, 90, 49, 50, 51, 110, 115, 73, 67, 68, 84, 116, 69, 78]
set_option maxHeartbeats 2000000 in
set_option maxRecDepth 100000 in
theorem known_back {h : Heap} (k : UInt8) (hk : kindsB.contains k = true) : CallsH Tryz.prog 85 ⟨[By k]⟩ h fun u h' => u = .bool true ∧ Ext No h h' := by
  have e1 := Lib.contains_iff_indexByte [82, 83, 75, 90, 49, 50, 51, 110, 115, 73, 67, 68, 84, 116, 69, 78] k
  rw [show ([82, 83, 75, 90, 49, 50, 51, 110, 115, 73, 67, 68, 84, 116, 69, 78] : List UInt8).contains k = true from hk] at e1
  refine calls [(0, _)] Tryz.func85 rfl Tryz.ntmps85 rfl ⟨rfl, trivial⟩ ?_
  all_goals (refine WC.sr ?_)
  all_goals (refine Go ?_)
  all_goals (refine WC.sr ?_)
  all_goals (refine WL.stepR (okE_buildSlice (vs := [_, _, _, _, _, _, _, _, _, _, _, _, _, _, _, _]) (cs := [_, _, _, _, _, _, _, _, _, _, _, _, _, _, _, _]) (fun | [a0, a1, a2, a3, a4, a5, a6, a7, a8, a9, a10, a11, a12, a13, a14, a15] => [a0, a1, a2, a3, a4, a5, a6, a7, a8, a9, a10, a11, a12, a13, a14, a15] | _ => []) Tryz.underlying24 rfl rfl (by kernel_rfl)) rfl rfl rfl ?_
             rintro _ h1 ⟨b1, rfl, hg1, hb1, hx1⟩)
  all_goals (refine WL.stepR (okE_convSS Tryz.underlying24 Tryz.underlying5 rfl (by assumption)) rfl rfl rfl ?_
             rintro _ h2 ⟨rfl, ⟨z2, hb2⟩, hx2⟩)
  all_goals (refine Go ?_)
  all_goals (refine WL.call (vs := [_, _]) rfl (fun a w => Tryz.call115 a w) rfl (indexByte_bys [82, 83, 75, 90, 49, 50, 51, 110, 115, 73, 67, 68, 84, 116, 69, 78] k (rd_blk hb2 rfl) (by simp)) rfl rfl rfl ?_
             rintro _ hz ⟨rfl, _⟩
             subst hz)
  all_goals (refine WL.step (OkP.bool_t (of_decide_eq_true e1.symm) (ok_geq rfl rfl)) rfl rfl rfl ?_)
  all_goals (refine Go ?_)
  all_goals (refine WC.sub [(2, _)] ⟨rfl, trivial⟩ ?_)
  all_goals (refine WC.ret ?_)
  all_goals (repeat' (with_reducible first | refine thenP_r ?_ | refine blockP_r ?_))
  all_goals (refine retP_1 _ ⟨rfl, trivial⟩ ?_)
  all_goals (exact ⟨rfl, hx1.trans' hx2 (fun q hq e => by omega)⟩)
def Bk.stOk (b : Bk) : Prop := b.kind ≠ 90 ∨ b.status = 73 ∨ b.status = 84 ∨ b.status = 69
set_option maxHeartbeats 2000000 in
set_option maxRecDepth 100000 in
theorem status_ok {h : Heap} (b : Bk) (hb : b.ok h) (hs : b.stOk) : CallsH Tryz.prog 95 ⟨[.agg ⟨b.cells⟩]⟩ h fun u h' => u = .bool true ∧ Ext No h h' := by
  obtain ⟨k, st, t, n, v, x, y, vo, lo, vc, lc, vr, lr, vf, lf⟩ := b
  simp only [Bk.stOk] at hs
  dsimp only [Bk.cells]
  by_cases hk : k = 90
  · subst hk
    simp only [ne_eq, not_true_eq_false, false_or] at hs
    rcases hs with rfl | rfl | rfl
    all_goals
      refine calls [(0, _)] Tryz.func95 rfl Tryz.ntmps95 rfl ⟨rfl, trivial⟩ ?_
      all_goals (refine WC.sr ?_)
      all_goals (refine WL.stepR (okE_box rfl) rfl rfl rfl ?_
                 rintro _ h1 ⟨b1, rfl, hg1, hb1, hx1⟩)
      all_goals (refine Go ?_)
      all_goals (refine WC.sr ?_)
      all_goals (refine Go ?_)
      all_goals (refine WL.step (ok_load (fun w => Tryz.isAgg5 w) rfl (by first | assumption | exact cell_blk (by assumption) rfl)) rfl rfl rfl ?_)
      all_goals (refine Go ?_)
      all_goals (refine goP 6 ?_ ?_ <;> first | exact ⟨⟩ | refine Hb.mk fun hb => ?_ | skip)
      all_goals (refine Gg ?_)
      all_goals (first | (refine WL.pass rfl rfl rfl ?_) | (refine WL.step (ok_load (fun w => Tryz.isAgg5 w) rfl (by first | assumption | exact cell_blk (by assumption) rfl)) rfl rfl rfl ?_))
      all_goals (refine Gg ?_)
      all_goals (refine Go ?_)
      all_goals (refine goP 11 ?_ ?_ <;> first | exact ⟨⟩ | refine Hb.mk fun hb => ?_ | skip)
      all_goals (refine Gg ?_)
      all_goals (first | (refine WL.pass rfl rfl rfl ?_) | (refine WL.step (ok_load (fun w => Tryz.isAgg5 w) rfl (by first | assumption | exact cell_blk (by assumption) rfl)) rfl rfl rfl ?_))
      all_goals (refine Gg ?_)
      all_goals (refine Go ?_)
      all_goals (refine goP 16 ?_ ?_ <;> first | exact ⟨⟩ | refine Hb.mk fun hb => ?_ | skip)
      all_goals (refine Gg ?_)
      all_goals (first | (refine WL.pass rfl rfl rfl ?_) | (refine WL.step (ok_load (fun w => Tryz.isAgg5 w) rfl (by first | assumption | exact cell_blk (by assumption) rfl)) rfl rfl rfl ?_))
      all_goals (refine Gg ?_)
      all_goals (refine Go ?_)
      all_goals (refine WC.sub [(2, _)] ⟨rfl, trivial⟩ ?_)
      all_goals (refine WC.ret ?_)
      all_goals (repeat' (with_reducible first | refine thenP_r ?_ | refine blockP_r ?_))
      all_goals (refine retP_1 _ ⟨rfl, trivial⟩ ?_)
      all_goals (exact ⟨rfl, hx1⟩)
  ·
    refine calls [(0, _)] Tryz.func95 rfl Tryz.ntmps95 rfl ⟨rfl, trivial⟩ ?_
    all_goals (refine WC.sr ?_)
    all_goals (refine WL.stepR (okE_box rfl) rfl rfl rfl ?_
               rintro _ h1 ⟨b1, rfl, hg1, hb1, hx1⟩)
    all_goals (refine Go ?_)
    all_goals (refine WC.sr ?_)
    all_goals (refine Go ?_)
    all_goals (refine WL.step (ok_load (fun w => Tryz.isAgg5 w) rfl (by first | assumption | exact cell_blk (by assumption) rfl)) rfl rfl rfl ?_)
    all_goals (refine Go ?_)
    all_goals (refine goP 6 ?_ ?_ <;> first | exact ⟨⟩ | refine Hb.mk fun hb => ?_ | skip)
    all_goals (refine Gg ?_)
    all_goals (first | (refine WL.pass rfl rfl rfl ?_) | (refine WL.step (ok_load (fun w => Tryz.isAgg5 w) rfl (by first | assumption | exact cell_blk (by assumption) rfl)) rfl rfl rfl ?_))
    all_goals (refine Gg ?_)
    all_goals (refine Go ?_)
    all_goals (refine goP 11 ?_ ?_ <;> first | exact ⟨⟩ | refine Hb.mk fun hb => ?_ | skip)
    all_goals (refine Gg ?_)
    all_goals (first | (refine WL.pass rfl rfl rfl ?_) | (refine WL.step (ok_load (fun w => Tryz.isAgg5 w) rfl (by first | assumption | exact cell_blk (by assumption) rfl)) rfl rfl rfl ?_))
    all_goals (refine Gg ?_)
    all_goals (refine Go ?_)
    all_goals (refine goP 16 ?_ ?_ <;> first | exact ⟨⟩ | refine Hb.mk fun hb => ?_ | skip)
    all_goals (refine Gg ?_)
    all_goals (first | (refine WL.pass rfl rfl rfl ?_) | (refine WL.step (ok_load (fun w => Tryz.isAgg5 w) rfl (by first | assumption | exact cell_blk (by assumption) rfl)) rfl rfl rfl ?_))
    all_goals (refine Gg ?_)
    all_goals (refine Go ?_)
    all_goals (refine WC.sub [(2, _)] ⟨rfl, trivial⟩ ?_)
    all_goals (refine WC.ret ?_)
    all_goals (repeat' (with_reducible first | refine thenP_r ?_ | refine blockP_r ?_))
    all_goals (refine retP_1 _ ⟨rfl, trivial⟩ ?_)
    all_goals (exact ⟨rfl, hx1⟩)
/-- A message that may be. -/
structure Bk.may (b : Bk) : Prop where
  kind : ∃ k : UInt8, Value.int .u8 b.kind = By k ∧ kindsB.contains k = true
  tag : cleanB b.tag = true
  name : cleanB b.name = true
  value : cleanB b.value = true
  cols : b.cols.length ≤ 65535 ∧ ∀ c ∈ b.cols, c.okB
  fields : b.fields.length ≤ 65535 ∧ ∀ f ∈ b.fields, f.okB
  row : b.row.length ≤ 65535 ∧ ∀ c ∈ b.row, c.okB
  oids : b.oids.length ≤ 65535 ∧ ∀ n ∈ b.oids, 0 ≤ n ∧ n ≤ 4294967295
  n : 0 ≤ b.n ∧ b.n ≤ 4294967295
  m : 0 ≤ b.m ∧ b.m ≤ 4294967295
  st : b.stOk
  own : (ofB b).pl = b.pl
set_option maxHeartbeats 4000000 in
set_option maxRecDepth 100000 in
theorem check_back {h : Heap} (b : Bk) (hb : b.ok h) (hm : b.may) : CallsH Tryz.prog 65 ⟨[.agg ⟨b.cells⟩]⟩ h fun u h' => u = In 0 ∧ Ext No h h' := by
  have hof := fun {h' : Heap} (hx : Ext No h h') => of_back (h := h') b (hb.ext0 hx)
  have hst := fun {h' : Heap} (hx : Ext No h h') => status_ok (h := h') b (hb.ext0 hx) hm.st
  have hsa := fun {h' : Heap} (hx : Ext No h h') => same_back (h := h') b (ofB b) (hb.ext0 hx) (ofB_ok (hb.ext0 hx)) hm.own.symm
  obtain ⟨⟨k8, hk8, hkc⟩, h1, h2, h3, h4, h5, h6, h7, h8, h9, _, _⟩ := hm
  generalize ofB b = ob at hof hsa
  obtain ⟨ho, hc, hr, hf⟩ := hb
  obtain ⟨k, st, t, n, v, x, y, vo, lo, vc, lc, vr, lr, vf, lf⟩ := b
  simp only at hk8 h1 h2 h3 h4 h5 h6 h7 h8 h9 ho hc hr hf
  dsimp only [Bk.cells] at hof hst hsa ⊢
  have hkn : ∀ {h : Heap}, CallsH Tryz.prog 85 ⟨[.int .u8 k]⟩ h fun u h' => u = .bool true ∧ Ext No h h' := by rw [hk8]; exact known_back k8 hkc
  refine calls [(0, _)] Tryz.func65 rfl Tryz.ntmps65 rfl ⟨rfl, trivial⟩ ?_
  all_goals (refine WC.sr ?_)
  all_goals (refine WL.stepR (okE_box rfl) rfl rfl rfl ?_
             rintro _ g1 ⟨b1, rfl, hg1, hb1, hx1⟩)
  all_goals (refine Go ?_)
  all_goals (refine WC.seq ?_)
  all_goals (refine WC.sr ?_)
  all_goals (refine Go ?_)
  all_goals (refine WL.step (ok_load (fun w => Tryz.isAgg5 w) rfl (by first | assumption | exact cell_blk (by assumption) rfl)) rfl rfl rfl ?_)
  all_goals (refine WL.call (vs := [_]) rfl (fun a w => Tryz.call85 a w) rfl (hkn) rfl rfl rfl ?_
             rintro _ g2 ⟨rfl, hx2⟩)
  all_goals (have hb2 := hx2.obj hb1 nos
             have hX2 := hx1.trans hx2)
  all_goals (refine Go ?_)
  all_goals (refine WC.sub [(1, _), (8, _)] ⟨rfl, rfl, trivial⟩ ?_)
  all_goals (refine goC 1 2 ?_ ?_ <;> first | exact ⟨⟩ | refine Hb.mk fun hb => ?_ | skip)
  all_goals (first | (fail_if_success refine goB 1 ?_) | (
  refine goB 1 ?_
  all_goals (refine WC.sr ?_)
  all_goals (refine Go ?_)
  all_goals (refine WC.ret ?_)
  all_goals (repeat' (with_reducible first | refine thenP_r ?_ | refine blockP_r ?_))
  all_goals (refine retP_1 _ ⟨rfl, trivial⟩ ?_)
  all_goals (exact ⟨rfl, hX8.trans hx9⟩)
  skip))
  all_goals (first | (fail_if_success refine goB 2 ?_) | (
  refine goB 2 ?_
  all_goals (refine WC.skip ?_)
  skip))
  all_goals (refine Gn ?_)
  all_goals (refine WC.sr ?_)
  all_goals (refine Go ?_)
  all_goals (refine WL.step (ok_load (fun w => Tryz.isAgg9 w) rfl (by first | assumption | exact cell_blk (by assumption) rfl)) rfl rfl rfl ?_)
  all_goals (refine WL.call (vs := [_]) rfl (fun a w => Tryz.call86 a w) rfl ((clean_any t).as (congrArg Value.bool h1)) rfl rfl rfl ?_
             rintro _ hz ⟨rfl, _⟩
             subst hz)
  all_goals (refine Go ?_)
  all_goals (refine goP 12 ?_ ?_ <;> first | exact ⟨⟩ | refine Hb.mk fun hb => ?_ | skip)
  all_goals (refine Gg ?_)
  all_goals (first | (refine WL.pass rfl rfl rfl ?_) | (refine WL.step (ok_load (fun w => Tryz.isAgg9 w) rfl (by first | assumption | exact cell_blk (by assumption) rfl)) rfl rfl rfl ?_))
  all_goals (first
               | (refine WL.pass rfl rfl rfl ?_)
               | (refine WL.call (vs := [_]) rfl (fun a w => Tryz.call86 a w) rfl ((clean_any n).as (congrArg Value.bool h2)) rfl rfl rfl ?_
                  rintro _ hz ⟨rfl, _⟩
                  subst hz))
  all_goals (refine Go ?_)
  all_goals (refine goP 17 ?_ ?_ <;> first | exact ⟨⟩ | refine Hb.mk fun hb => ?_ | skip)
  all_goals (refine Gg ?_)
  all_goals (first | (refine WL.pass rfl rfl rfl ?_) | (refine WL.step (ok_load (fun w => Tryz.isAgg9 w) rfl (by first | assumption | exact cell_blk (by assumption) rfl)) rfl rfl rfl ?_))
  all_goals (first
               | (refine WL.pass rfl rfl rfl ?_)
               | (refine WL.call (vs := [_]) rfl (fun a w => Tryz.call86 a w) rfl ((clean_any v).as (congrArg Value.bool h3)) rfl rfl rfl ?_
                  rintro _ hz ⟨rfl, _⟩
                  subst hz))
  all_goals (refine Go ?_)
  all_goals (refine WC.sub [(1, _), (3, _)] ⟨rfl, rfl, trivial⟩ ?_)
  all_goals (refine WC.sr ?_)
  all_goals (refine Go ?_)
  all_goals (refine WL.step (ok_load (fun w => Tryz.isAgg28 w) rfl (by first | assumption | exact cell_blk (by assumption) rfl)) rfl rfl rfl ?_)
  all_goals (refine WL.call (vs := [_, _]) rfl (fun a w => Tryz.call87 a w) rfl (every_col lc (hc.1.ext0 hX2) h4.1 (fun a w => Tryz.call88 a w) (fun c hc _ _ => column_ok c (h4.2 c hc))) rfl rfl rfl ?_
             rintro _ g3 ⟨rfl, hx3⟩)
  all_goals (have hb3 := hx3.obj hb2 nos
             have hX3 := hX2.trans hx3)
  all_goals (refine Go ?_)
  all_goals (refine goP 25 ?_ ?_ <;> first | exact ⟨⟩ | refine Hb.mk fun hb => ?_ | skip)
  all_goals (refine Gg ?_)
  all_goals (first | (refine WL.pass rfl rfl rfl ?_) | (refine WL.step (ok_load (fun w => Tryz.isAgg30 w) rfl (by first | assumption | exact cell_blk (by assumption) rfl)) rfl rfl rfl ?_))
  all_goals (first
               | (refine WL.pass rfl rfl rfl ?_)
               | (refine WL.call (vs := [_, _]) rfl (fun a w => Tryz.call89 a w) rfl (every_fld lf (hf.1.ext0 hX3) h5.1 (fun a w => Tryz.call90 a w) (fun c hc _ _ => field_ok c (h5.2 c hc))) rfl rfl rfl ?_
                  rintro _ g4 ⟨rfl, hx4⟩))
  all_goals (have hb4 := hx4.obj hb3 nos
             have hX4 := hX3.trans hx4)
  all_goals (refine Go ?_)
  all_goals (refine goP 30 ?_ ?_ <;> first | exact ⟨⟩ | refine Hb.mk fun hb => ?_ | skip)
  all_goals (refine Gg ?_)
  all_goals (first | (refine WL.pass rfl rfl rfl ?_) | (refine WL.step (ok_load (fun w => Tryz.isAgg29 w) rfl (by first | assumption | exact cell_blk (by assumption) rfl)) rfl rfl rfl ?_))
  all_goals (first
               | (refine WL.pass rfl rfl rfl ?_)
               | (refine WL.call (vs := [_, _]) rfl (fun a w => Tryz.call91 a w) rfl (every_cel lr (hr.1.ext0 hX4) h6.1 (fun a w => Tryz.call92 a w) (fun c hc _ _ => cell_ok c (hr.2.2 c hc) (h6.2 c hc))) rfl rfl rfl ?_
                  rintro _ g5 ⟨rfl, hx5⟩))
  all_goals (have hb5 := hx5.obj hb4 nos
             have hX5 := hX4.trans hx5)
  all_goals (refine Go ?_)
  all_goals (refine goP 35 ?_ ?_ <;> first | exact ⟨⟩ | refine Hb.mk fun hb => ?_ | skip)
  all_goals (refine Gg ?_)
  all_goals (first | (refine WL.pass rfl rfl rfl ?_) | (refine WL.step (ok_load (fun w => Tryz.isAgg27 w) rfl (by first | assumption | exact cell_blk (by assumption) rfl)) rfl rfl rfl ?_))
  all_goals (first
               | (refine WL.pass rfl rfl rfl ?_)
               | (refine WL.call (vs := [_, _]) rfl (fun a w => Tryz.call93 a w) rfl (every_int lo (ho.1.ext0 hX5) h7.1 h7.2) rfl rfl rfl ?_
                  rintro _ g6 ⟨rfl, hx6⟩))
  all_goals (have hb6 := hx6.obj hb5 nos
             have hX6 := hX5.trans hx6)
  all_goals (refine Go ?_)
  all_goals (refine WC.sub [(1, _), (3, _), (4, _)] ⟨rfl, rfl, rfl, trivial⟩ ?_)
  all_goals (refine WC.seq ?_)
  all_goals (refine WC.seq ?_)
  all_goals (refine WC.drawH (fun h' => h'[b1]? = some (.cells ⟨[.int .u8 k, .int .u8 st, St t, St n, St v, In x, In y, vo, vc, vr, vf]⟩ 32 (0, 0))) 30 30 rfl fol ?_)
  all_goals (refine WH.tk 0 rfl (fun hq hC => ok_move rfl) rfl rfl rfl ?_ (hC := (by first | exact hb6 | exact hb7 | exact hb8 | exact hb9)))
  all_goals (refine WH.tk 1 rfl (fun hq hC => ok_not rfl) rfl rfl rfl ?_ (hC := (by first | exact hb6 | exact hb7 | exact hb8 | exact hb9)))
  all_goals (refine WH.tk 2 rfl (fun hq hC => ok_move rfl) rfl rfl rfl ?_ (hC := (by first | exact hb6 | exact hb7 | exact hb8 | exact hb9)))
  all_goals (try ((fail_if_success (refine WH.part 42 (b := true) rfl (fun _ => ?_) (fun _ => ?_))); (fail_if_success (refine WH.part 42 (b := false) rfl (fun _ => ?_) (fun _ => ?_))); (refine WH.part 42 rfl (fun hb => ?_) (fun hb => ?_))))
  all_goals (first | (refine WH.ps 3 rfl rfl rfl rfl ?_ (hC := (by first | exact hb6 | exact hb7 | exact hb8 | exact hb9))) | (refine WH.tk 3 rfl (fun hq hC => ok_move rfl) rfl rfl rfl ?_ (hC := (by first | exact hb6 | exact hb7 | exact hb8 | exact hb9))))
  all_goals (first | (refine WH.ps 4 rfl rfl rfl rfl ?_ (hC := (by first | exact hb6 | exact hb7 | exact hb8 | exact hb9))) | (refine WH.tk 4 rfl (fun hq hC => ok_not rfl) rfl rfl rfl ?_ (hC := (by first | exact hb6 | exact hb7 | exact hb8 | exact hb9))))
  all_goals (first | (refine WH.tk 5 rfl (fun hq hC => ok_pick_t rfl rfl) rfl rfl rfl ?_ (hC := (by first | exact hb6 | exact hb7 | exact hb8 | exact hb9))) | (refine WH.tk 5 rfl (fun hq hC => ok_pick_f rfl rfl) rfl rfl rfl ?_ (hC := (by first | exact hb6 | exact hb7 | exact hb8 | exact hb9))))
  all_goals (refine WH.tk 6 rfl (fun hq hC => ok_move rfl) rfl rfl rfl ?_ (hC := (by first | exact hb6 | exact hb7 | exact hb8 | exact hb9)))
  all_goals (try ((fail_if_success (refine WH.part 46 (b := true) rfl (fun _ => ?_) (fun _ => ?_))); (fail_if_success (refine WH.part 46 (b := false) rfl (fun _ => ?_) (fun _ => ?_))); (refine WH.part 46 rfl (fun hb => ?_) (fun hb => ?_))))
  all_goals (first | (refine WH.ps 7 rfl rfl rfl rfl ?_ (hC := (by first | exact hb6 | exact hb7 | exact hb8 | exact hb9))) | (refine WH.tk 7 rfl (fun hq hC => ok_fieldAddr rfl Tryz.underlying32 rfl (fun w => Tryz.sizeOf3 w)) rfl rfl rfl ?_ (hC := (by first | exact hb6 | exact hb7 | exact hb8 | exact hb9))))
  all_goals (first | (refine WH.ps 8 rfl rfl rfl rfl ?_ (hC := (by first | exact hb6 | exact hb7 | exact hb8 | exact hb9))) | (refine WH.tk 8 rfl (fun hq hC => ok_load (fun w => Tryz.isAgg3 w) rfl (cell_blk hC rfl)) rfl rfl rfl ?_ (hC := (by first | exact hb6 | exact hb7 | exact hb8 | exact hb9))))
  all_goals (first
    | (refine WH.ps 9 rfl rfl rfl rfl ?_ (hC := (by first | exact hb6 | exact hb7 | exact hb8 | exact hb9)))
    | (all_goals (refine WH.one 9 (by kernel_rfl) ?_)
       all_goals (refine Comes1.call (vs := [_]) rfl rfl (fun a w => Tryz.call94 a w) rfl (oid_ok x h8.1 h8.2) rfl rfl rfl ?_ (fun _ => by kernel_rfl)
                  rintro _ hz ⟨rfl, _⟩
                  subst hz)
       all_goals (refine ⟨fun _ => by first | assumption | trivial, ?_⟩)
       skip))
  all_goals (first | (refine WH.ps 10 rfl rfl rfl rfl ?_ (hC := (by first | exact hb6 | exact hb7 | exact hb8 | exact hb9))) | (refine WH.tk 10 rfl (fun hq hC => ok_not rfl) rfl rfl rfl ?_ (hC := (by first | exact hb6 | exact hb7 | exact hb8 | exact hb9))))
  all_goals (first | (refine WH.tk 11 rfl (fun hq hC => ok_pick_t rfl rfl) rfl rfl rfl ?_ (hC := (by first | exact hb6 | exact hb7 | exact hb8 | exact hb9))) | (refine WH.tk 11 rfl (fun hq hC => ok_pick_f rfl rfl) rfl rfl rfl ?_ (hC := (by first | exact hb6 | exact hb7 | exact hb8 | exact hb9))))
  all_goals (refine WH.tk 12 rfl (fun hq hC => ok_move rfl) rfl rfl rfl ?_ (hC := (by first | exact hb6 | exact hb7 | exact hb8 | exact hb9)))
  all_goals (try ((fail_if_success (refine WH.part 52 (b := true) rfl (fun _ => ?_) (fun _ => ?_))); (fail_if_success (refine WH.part 52 (b := false) rfl (fun _ => ?_) (fun _ => ?_))); (refine WH.part 52 rfl (fun hb => ?_) (fun hb => ?_))))
  all_goals (first | (refine WH.ps 13 rfl rfl rfl rfl ?_ (hC := (by first | exact hb6 | exact hb7 | exact hb8 | exact hb9))) | (refine WH.tk 13 rfl (fun hq hC => ok_fieldAddr rfl Tryz.underlying32 rfl (fun w => Tryz.sizeOf3 w)) rfl rfl rfl ?_ (hC := (by first | exact hb6 | exact hb7 | exact hb8 | exact hb9))))
  all_goals (first | (refine WH.ps 14 rfl rfl rfl rfl ?_ (hC := (by first | exact hb6 | exact hb7 | exact hb8 | exact hb9))) | (refine WH.tk 14 rfl (fun hq hC => ok_load (fun w => Tryz.isAgg3 w) rfl (cell_blk hC rfl)) rfl rfl rfl ?_ (hC := (by first | exact hb6 | exact hb7 | exact hb8 | exact hb9))))
  all_goals (first
    | (refine WH.ps 15 rfl rfl rfl rfl ?_ (hC := (by first | exact hb6 | exact hb7 | exact hb8 | exact hb9)))
    | (all_goals (refine WH.one 15 (by kernel_rfl) ?_)
       all_goals (refine Comes1.call (vs := [_]) rfl rfl (fun a w => Tryz.call94 a w) rfl (oid_ok y h9.1 h9.2) rfl rfl rfl ?_ (fun _ => by kernel_rfl)
                  rintro _ hz ⟨rfl, _⟩
                  subst hz)
       all_goals (refine ⟨fun _ => by first | assumption | trivial, ?_⟩)
       skip))
  all_goals (first | (refine WH.ps 16 rfl rfl rfl rfl ?_ (hC := (by first | exact hb6 | exact hb7 | exact hb8 | exact hb9))) | (refine WH.tk 16 rfl (fun hq hC => ok_not rfl) rfl rfl rfl ?_ (hC := (by first | exact hb6 | exact hb7 | exact hb8 | exact hb9))))
  all_goals (first | (refine WH.tk 17 rfl (fun hq hC => ok_pick_t rfl rfl) rfl rfl rfl ?_ (hC := (by first | exact hb6 | exact hb7 | exact hb8 | exact hb9))) | (refine WH.tk 17 rfl (fun hq hC => ok_pick_f rfl rfl) rfl rfl rfl ?_ (hC := (by first | exact hb6 | exact hb7 | exact hb8 | exact hb9))))
  all_goals (refine WH.tk 18 rfl (fun hq hC => ok_move rfl) rfl rfl rfl ?_ (hC := (by first | exact hb6 | exact hb7 | exact hb8 | exact hb9)))
  all_goals (try ((fail_if_success (refine WH.part 58 (b := true) rfl (fun _ => ?_) (fun _ => ?_))); (fail_if_success (refine WH.part 58 (b := false) rfl (fun _ => ?_) (fun _ => ?_))); (refine WH.part 58 rfl (fun hb => ?_) (fun hb => ?_))))
  all_goals (first | (refine WH.ps 19 rfl rfl rfl rfl ?_ (hC := (by first | exact hb6 | exact hb7 | exact hb8 | exact hb9))) | (refine WH.tk 19 rfl (fun hq hC => ok_loadN (fun w => Tryz.isAgg32 w) (fun w => Tryz.sizeOf32 w) rfl rfl (by exact At.of_block hC)) rfl rfl rfl ?_ (hC := (by first | exact hb6 | exact hb7 | exact hb8 | exact hb9))))
  all_goals (first
    | (refine WH.ps 20 rfl rfl rfl rfl ?_ (hC := (by first | exact hb6 | exact hb7 | exact hb8 | exact hb9)))
    | (all_goals (refine WH.one 20 (by kernel_rfl) ?_)
       all_goals (refine Comes1.call (vs := [_]) rfl rfl (fun a w => Tryz.call95 a w) rfl (hst hX6) rfl rfl rfl ?_ (fun _ => by kernel_rfl)
                  rintro _ g7 ⟨rfl, hx7⟩)
       all_goals (refine ⟨fun _ => hx7.obj hb6 nos, ?_⟩)
       all_goals (have hb7 := hx7.obj hb6 nos
                  have hX7 := hX6.trans hx7)
       skip))
  all_goals (first | (refine WH.ps 21 rfl rfl rfl rfl ?_ (hC := (by first | exact hb6 | exact hb7 | exact hb8 | exact hb9))) | (refine WH.tk 21 rfl (fun hq hC => ok_not rfl) rfl rfl rfl ?_ (hC := (by first | exact hb6 | exact hb7 | exact hb8 | exact hb9))))
  all_goals (first | (refine WH.tk 22 rfl (fun hq hC => ok_pick_t rfl rfl) rfl rfl rfl ?_ (hC := (by first | exact hb6 | exact hb7 | exact hb8 | exact hb9))) | (refine WH.tk 22 rfl (fun hq hC => ok_pick_f rfl rfl) rfl rfl rfl ?_ (hC := (by first | exact hb6 | exact hb7 | exact hb8 | exact hb9))))
  all_goals (refine WH.tk 23 rfl (fun hq hC => ok_move rfl) rfl rfl rfl ?_ (hC := (by first | exact hb6 | exact hb7 | exact hb8 | exact hb9)))
  all_goals (try ((fail_if_success (refine WH.part 63 (b := true) rfl (fun _ => ?_) (fun _ => ?_))); (fail_if_success (refine WH.part 63 (b := false) rfl (fun _ => ?_) (fun _ => ?_))); (refine WH.part 63 rfl (fun hb => ?_) (fun hb => ?_))))
  all_goals (first | (refine WH.ps 24 rfl rfl rfl rfl ?_ (hC := (by first | exact hb6 | exact hb7 | exact hb8 | exact hb9))) | (refine WH.tk 24 rfl (fun hq hC => ok_loadN (fun w => Tryz.isAgg32 w) (fun w => Tryz.sizeOf32 w) rfl rfl (by exact At.of_block hC)) rfl rfl rfl ?_ (hC := (by first | exact hb6 | exact hb7 | exact hb8 | exact hb9))))
  all_goals (first | (refine WH.ps 25 rfl rfl rfl rfl ?_ (hC := (by first | exact hb6 | exact hb7 | exact hb8 | exact hb9))) | (refine WH.tk 25 rfl (fun hq hC => ok_loadN (fun w => Tryz.isAgg32 w) (fun w => Tryz.sizeOf32 w) rfl rfl (by exact At.of_block hC)) rfl rfl rfl ?_ (hC := (by first | exact hb6 | exact hb7 | exact hb8 | exact hb9))))
  all_goals (first
    | (refine WH.ps 26 rfl rfl rfl rfl ?_ (hC := (by first | exact hb6 | exact hb7 | exact hb8 | exact hb9)))
    | (all_goals (refine WH.one 26 (by kernel_rfl) ?_)
       all_goals (refine Comes1.call (vs := [_]) rfl rfl (fun a w => Tryz.call96 a w) rfl (hof hX7) rfl rfl rfl ?_ (fun _ => by kernel_rfl)
                  rintro _ g8 ⟨rfl, hx8⟩)
       all_goals (refine ⟨fun _ => hx8.obj hb7 nos, ?_⟩)
       all_goals (have hb8 := hx8.obj hb7 nos
                  have hX8 := hX7.trans hx8)
       skip))
  all_goals (first
    | (refine WH.ps 27 rfl rfl rfl rfl ?_ (hC := (by first | exact hb6 | exact hb7 | exact hb8 | exact hb9)))
    | (all_goals (refine WH.one 27 (by kernel_rfl) ?_)
       all_goals (refine Comes1.call (vs := [_, _]) rfl rfl (fun a w => Tryz.call7 a w) rfl (hsa hX8) rfl rfl rfl ?_ (fun _ => by kernel_rfl)
                  rintro _ g9 ⟨rfl, hx9⟩)
       all_goals (refine ⟨fun _ => hx9.obj hb8 nos, ?_⟩)
       all_goals (have hb9 := hx9.obj hb8 nos)
       skip))
  all_goals (first | (refine WH.ps 28 rfl rfl rfl rfl ?_ (hC := (by first | exact hb6 | exact hb7 | exact hb8 | exact hb9))) | (refine WH.tk 28 rfl (fun hq hC => ok_not rfl) rfl rfl rfl ?_ (hC := (by first | exact hb6 | exact hb7 | exact hb8 | exact hb9))))
  all_goals (first | (refine WH.tk 29 rfl (fun hq hC => ok_pick_t rfl rfl) rfl rfl rfl ?_ (hC := (by first | exact hb6 | exact hb7 | exact hb8 | exact hb9))) | (refine WH.tk 29 rfl (fun hq hC => ok_pick_f rfl rfl) rfl rfl rfl ?_ (hC := (by first | exact hb6 | exact hb7 | exact hb8 | exact hb9))))
  all_goals (refine WH.done (by kernel_rfl) ?_)
  all_goals (refine Gn ?_)
  all_goals (refine WC.sub [(69, _)] ⟨rfl, trivial⟩ ?_)
  all_goals (refine goC 3 4 ?_ ?_ <;> first | exact ⟨⟩ | refine Hb.mk fun hb => ?_ | skip)
  all_goals (first | (fail_if_success refine goB 3 ?_) | (
  refine goB 3 ?_
  all_goals (refine WC.sr ?_)
  all_goals (refine Go ?_)
  all_goals (refine WC.ret ?_)
  all_goals (repeat' (with_reducible first | refine thenP_r ?_ | refine blockP_r ?_))
  all_goals (refine retP_1 _ ⟨rfl, trivial⟩ ?_)
  all_goals (exact ⟨rfl, hX8.trans hx9⟩)
  skip))
  all_goals (first | (fail_if_success refine goB 4 ?_) | (
  refine goB 4 ?_
  all_goals (refine WC.skip ?_)
  skip))
  all_goals (refine Gn ?_)
  all_goals (refine WC.sr ?_)
  all_goals (refine Go ?_)
  all_goals (refine WC.ret ?_)
  all_goals (repeat' (with_reducible first | refine thenP_r ?_ | refine blockP_r ?_))
  all_goals (refine retP_1 _ ⟨rfl, trivial⟩ ?_)
  all_goals (exact ⟨rfl, hX8.trans hx9⟩)
end Go.Proofs.YtbahigffjclpdaaGreatDoor


/-
  LISTS OF REPLIES (layer 7): whether all of a list may be, at any list.
-/
namespace Go.Proofs.YtbahigffjclpdaaGreatDoor
open Go Go.RK

theorem all_any {α : Type} (p : α → Bool) (l : List α) : (!l.any fun x => !p x) = l.all p := by
  induction l with
  | nil => rfl
  | cons a l ih => rw [List.any_cons, List.all_cons, ← ih]; cases p a <;> simp
set_option maxHeartbeats 2000000 in
set_option maxRecDepth 100000 in
theorem everyfA_col {h : Heap} {b : Nat} {t : TypeId} (x : ColD) (p : ColD → Bool) {fk : Nat} (hcf : ∀ (args : Array Value) (w : World), (callFunc fk args).run Tryz.prog w = .ok (.enter fk args) w) (hb : h[b]? = some (.cells ⟨[.func (.func fk) ⟨[]⟩ ⟨[]⟩]⟩ t (0, 0)))
    (hp : ∀ h', Ext No h h' → CallsH Tryz.prog fk ⟨[.agg ⟨ColD.cells x⟩]⟩ h' fun u h'' => u = .bool (p x) ∧ Ext No h' h'') :
    CallsH Tryz.prog 117 ⟨[.agg ⟨ColD.cells x⟩, .pointer (some ⟨b, 0, none⟩)]⟩ h fun u h' => u = .bool (!p x) ∧ Ext No h h' := by
  refine calls [(0, _), (1, _)] Tryz.func117 rfl Tryz.ntmps117 rfl ⟨rfl, rfl, trivial⟩ ?_
  all_goals (refine WC.sr ?_)
  all_goals (refine WL.stepR (okE_box rfl) rfl rfl rfl ?_
             rintro _ h1 ⟨b1, rfl, hg1, hb1, hx1⟩)
  all_goals (refine Go ?_)
  all_goals (refine WC.sr ?_)
  all_goals (refine WL.step (ok_load (fun w => Tryz.isAgg47 w) rfl (by first | exact cell_blk (hx1.obj hb nos) rfl | assumption | exact cell_blk (by assumption) rfl)) rfl rfl rfl ?_)
  all_goals (refine WL.step (ok_loadN (fun w => Tryz.isAgg46 w) (fun w => Tryz.sizeOf46 w) rfl rfl (by exact At.of_block hb1)) rfl rfl rfl ?_)
  all_goals (refine WL.callT (vs := [_]) rfl rfl hcf rfl (hp _ hx1) rfl rfl rfl ?_
             rintro _ h2 ⟨rfl, hx2⟩)
  all_goals (refine Go ?_)
  all_goals (refine WC.sub [(3, _)] ⟨rfl, trivial⟩ ?_)
  all_goals (refine WC.ret ?_)
  all_goals (repeat' (with_reducible first | refine thenP_r ?_ | refine blockP_r ?_))
  all_goals (refine retP_1 _ ⟨rfl, trivial⟩ ?_)
  all_goals (exact ⟨rfl, hx1.trans hx2⟩)
set_option maxHeartbeats 2000000 in
set_option maxRecDepth 100000 in
theorem everyA_col {h : Heap} {v : Value} (l : List ColD) (p : ColD → Bool) (hr : Rd h v 7 l.length (l.flatMap ColD.cells)) (hl : l.length ≤ 65535) {fk : Nat} (hcf : ∀ (args : Array Value) (w : World), (callFunc fk args).run Tryz.prog w = .ok (.enter fk args) w)
    (hp : ∀ x ∈ l, ∀ h', Ext No h h' → CallsH Tryz.prog fk ⟨[.agg ⟨ColD.cells x⟩]⟩ h' fun u h'' => u = .bool (p x) ∧ Ext No h' h'') :
    CallsH Tryz.prog 87 ⟨[v, .func (.func fk) ⟨[]⟩ ⟨[]⟩]⟩ h fun u h' => u = .bool (l.all p) ∧ Ext No h h' := by
  have hcon : ∀ {h' : Heap} {b : Nat} {t : TypeId}, Ext No h h' → h'[b]? = some (.cells ⟨[.func (.func fk) ⟨[]⟩ ⟨[]⟩]⟩ t (0, 0)) → CallsH Tryz.prog 15 ⟨[v, .func (.func 117) ⟨[]⟩ ⟨[.pointer (some ⟨b, 0, none⟩)]⟩]⟩ h' fun u h'' => u = .bool (l.any fun x => !p x) ∧ Ext No h' h'' := by
    intro h' b t hx hb
    refine calls [(0, _), (1, _)] Tryz.func15 rfl Tryz.ntmps15 rfl ⟨rfl, rfl, trivial⟩ ?_
    all_goals (refine WC.sr ?_)
    all_goals (refine Go ?_)
    all_goals (refine WC.sr ?_)
    all_goals (refine Go ?_)
    all_goals (refine WL.call (vs := [_, _]) rfl (fun a w => Tryz.call37 a w) rfl (indexFunc_col l (fun x => !p x) (fun a w => Tryz.call117 a w) (fs := []) (us := [.pointer (some ⟨b, 0, none⟩)]) (hr.ext0 hx) (by unfold maxLen; omega) (fun x hxl h2 hx2 => everyfA_col x p hcf (hx2.obj hb nos) (fun h3 hx3 => hp x hxl h3 ((hx.trans hx2).trans hx3)))) rfl rfl rfl ?_
               rintro _ h1 ⟨rfl, hx1⟩)
    all_goals (refine WL.step (ok_geq rfl rfl) rfl rfl rfl ?_)
    all_goals (refine Go ?_)
    all_goals (refine WC.sub [(4, _)] ⟨rfl, trivial⟩ ?_)
    all_goals (refine WC.ret ?_)
    all_goals (repeat' (with_reducible first | refine thenP_r ?_ | refine blockP_r ?_))
    all_goals (refine retP_1 _ ⟨rfl, trivial⟩ ?_)
    all_goals (exact ⟨by rw [idxP_geq], hx1⟩)
  obtain ⟨A, c, rfl, _⟩ := id hr
  refine calls [(0, _), (1, _)] Tryz.func87 rfl Tryz.ntmps87 rfl ⟨rfl, rfl, trivial⟩ ?_
  all_goals (refine WC.sr ?_)
  all_goals (refine WL.stepR (okE_box rfl) rfl rfl rfl ?_
             rintro _ h1 ⟨b1, rfl, hg1, hb1, hx1⟩)
  all_goals (refine Go ?_)
  all_goals (refine WC.sr ?_)
  all_goals (refine Go ?_)
  all_goals (refine goP 8 ?_ ?_ <;> first | exact ⟨⟩ | refine Hb.mk fun hb => ?_ | skip)
  all_goals (refine Gg ?_)
  all_goals (first | (refine WL.pass rfl rfl rfl ?_) | (refine WL.step (ok_makeFunc (vs := []) (us := [_]) rfl rfl) rfl rfl rfl ?_))
  all_goals (first
               | (refine WL.pass rfl rfl rfl ?_)
               | (refine WL.call (vs := [_, _]) rfl (fun a w => Tryz.call15 a w) rfl (hcon hx1 hb1) rfl rfl rfl ?_
                  rintro _ h2 ⟨rfl, hx2⟩))
  all_goals (refine Gg ?_)
  all_goals (refine Go ?_)
  all_goals (refine WC.sub [(4, _)] ⟨rfl, trivial⟩ ?_)
  all_goals (refine WC.ret ?_)
  all_goals (repeat' (with_reducible first | refine thenP_r ?_ | refine blockP_r ?_))
  all_goals (refine retP_1 _ ⟨rfl, trivial⟩ ?_)
  all_goals (exact ⟨by rw [← all_any], hx1.trans hx2⟩)

set_option maxHeartbeats 2000000 in
set_option maxRecDepth 100000 in
theorem everyfA_fld {h : Heap} {b : Nat} {t : TypeId} (x : FieldD) (p : FieldD → Bool) {fk : Nat} (hcf : ∀ (args : Array Value) (w : World), (callFunc fk args).run Tryz.prog w = .ok (.enter fk args) w) (hb : h[b]? = some (.cells ⟨[.func (.func fk) ⟨[]⟩ ⟨[]⟩]⟩ t (0, 0)))
    (hp : ∀ h', Ext No h h' → CallsH Tryz.prog fk ⟨[.agg ⟨FieldD.cells x⟩]⟩ h' fun u h'' => u = .bool (p x) ∧ Ext No h' h'') :
    CallsH Tryz.prog 119 ⟨[.agg ⟨FieldD.cells x⟩, .pointer (some ⟨b, 0, none⟩)]⟩ h fun u h' => u = .bool (!p x) ∧ Ext No h h' := by
  refine calls [(0, _), (1, _)] Tryz.func119 rfl Tryz.ntmps119 rfl ⟨rfl, rfl, trivial⟩ ?_
  all_goals (refine WC.sr ?_)
  all_goals (refine WL.stepR (okE_box rfl) rfl rfl rfl ?_
             rintro _ h1 ⟨b1, rfl, hg1, hb1, hx1⟩)
  all_goals (refine Go ?_)
  all_goals (refine WC.sr ?_)
  all_goals (refine WL.step (ok_load (fun w => Tryz.isAgg55 w) rfl (by first | exact cell_blk (hx1.obj hb nos) rfl | assumption | exact cell_blk (by assumption) rfl)) rfl rfl rfl ?_)
  all_goals (refine WL.step (ok_loadN (fun w => Tryz.isAgg54 w) (fun w => Tryz.sizeOf54 w) rfl rfl (by exact At.of_block hb1)) rfl rfl rfl ?_)
  all_goals (refine WL.callT (vs := [_]) rfl rfl hcf rfl (hp _ hx1) rfl rfl rfl ?_
             rintro _ h2 ⟨rfl, hx2⟩)
  all_goals (refine Go ?_)
  all_goals (refine WC.sub [(3, _)] ⟨rfl, trivial⟩ ?_)
  all_goals (refine WC.ret ?_)
  all_goals (repeat' (with_reducible first | refine thenP_r ?_ | refine blockP_r ?_))
  all_goals (refine retP_1 _ ⟨rfl, trivial⟩ ?_)
  all_goals (exact ⟨rfl, hx1.trans hx2⟩)
set_option maxHeartbeats 2000000 in
set_option maxRecDepth 100000 in
theorem everyA_fld {h : Heap} {v : Value} (l : List FieldD) (p : FieldD → Bool) (hr : Rd h v 2 l.length (l.flatMap FieldD.cells)) (hl : l.length ≤ 65535) {fk : Nat} (hcf : ∀ (args : Array Value) (w : World), (callFunc fk args).run Tryz.prog w = .ok (.enter fk args) w)
    (hp : ∀ x ∈ l, ∀ h', Ext No h h' → CallsH Tryz.prog fk ⟨[.agg ⟨FieldD.cells x⟩]⟩ h' fun u h'' => u = .bool (p x) ∧ Ext No h' h'') :
    CallsH Tryz.prog 89 ⟨[v, .func (.func fk) ⟨[]⟩ ⟨[]⟩]⟩ h fun u h' => u = .bool (l.all p) ∧ Ext No h h' := by
  have hcon : ∀ {h' : Heap} {b : Nat} {t : TypeId}, Ext No h h' → h'[b]? = some (.cells ⟨[.func (.func fk) ⟨[]⟩ ⟨[]⟩]⟩ t (0, 0)) → CallsH Tryz.prog 19 ⟨[v, .func (.func 119) ⟨[]⟩ ⟨[.pointer (some ⟨b, 0, none⟩)]⟩]⟩ h' fun u h'' => u = .bool (l.any fun x => !p x) ∧ Ext No h' h'' := by
    intro h' b t hx hb
    refine calls [(0, _), (1, _)] Tryz.func19 rfl Tryz.ntmps19 rfl ⟨rfl, rfl, trivial⟩ ?_
    all_goals (refine WC.sr ?_)
    all_goals (refine Go ?_)
    all_goals (refine WC.sr ?_)
    all_goals (refine Go ?_)
    all_goals (refine WL.call (vs := [_, _]) rfl (fun a w => Tryz.call39 a w) rfl (indexFunc_fld l (fun x => !p x) (fun a w => Tryz.call119 a w) (fs := []) (us := [.pointer (some ⟨b, 0, none⟩)]) (hr.ext0 hx) (by unfold maxLen; omega) (fun x hxl h2 hx2 => everyfA_fld x p hcf (hx2.obj hb nos) (fun h3 hx3 => hp x hxl h3 ((hx.trans hx2).trans hx3)))) rfl rfl rfl ?_
               rintro _ h1 ⟨rfl, hx1⟩)
    all_goals (refine WL.step (ok_geq rfl rfl) rfl rfl rfl ?_)
    all_goals (refine Go ?_)
    all_goals (refine WC.sub [(4, _)] ⟨rfl, trivial⟩ ?_)
    all_goals (refine WC.ret ?_)
    all_goals (repeat' (with_reducible first | refine thenP_r ?_ | refine blockP_r ?_))
    all_goals (refine retP_1 _ ⟨rfl, trivial⟩ ?_)
    all_goals (exact ⟨by rw [idxP_geq], hx1⟩)
  obtain ⟨A, c, rfl, _⟩ := id hr
  refine calls [(0, _), (1, _)] Tryz.func89 rfl Tryz.ntmps89 rfl ⟨rfl, rfl, trivial⟩ ?_
  all_goals (refine WC.sr ?_)
  all_goals (refine WL.stepR (okE_box rfl) rfl rfl rfl ?_
             rintro _ h1 ⟨b1, rfl, hg1, hb1, hx1⟩)
  all_goals (refine Go ?_)
  all_goals (refine WC.sr ?_)
  all_goals (refine Go ?_)
  all_goals (refine goP 8 ?_ ?_ <;> first | exact ⟨⟩ | refine Hb.mk fun hb => ?_ | skip)
  all_goals (refine Gg ?_)
  all_goals (first | (refine WL.pass rfl rfl rfl ?_) | (refine WL.step (ok_makeFunc (vs := []) (us := [_]) rfl rfl) rfl rfl rfl ?_))
  all_goals (first
               | (refine WL.pass rfl rfl rfl ?_)
               | (refine WL.call (vs := [_, _]) rfl (fun a w => Tryz.call19 a w) rfl (hcon hx1 hb1) rfl rfl rfl ?_
                  rintro _ h2 ⟨rfl, hx2⟩))
  all_goals (refine Gg ?_)
  all_goals (refine Go ?_)
  all_goals (refine WC.sub [(4, _)] ⟨rfl, trivial⟩ ?_)
  all_goals (refine WC.ret ?_)
  all_goals (repeat' (with_reducible first | refine thenP_r ?_ | refine blockP_r ?_))
  all_goals (refine retP_1 _ ⟨rfl, trivial⟩ ?_)
  all_goals (exact ⟨by rw [← all_any], hx1.trans hx2⟩)

set_option maxHeartbeats 2000000 in
set_option maxRecDepth 100000 in
theorem everyfA_cel {h : Heap} {b : Nat} {t : TypeId} (x : Cel) (p : Cel → Bool) {fk : Nat} (hcf : ∀ (args : Array Value) (w : World), (callFunc fk args).run Tryz.prog w = .ok (.enter fk args) w) (hb : h[b]? = some (.cells ⟨[.func (.func fk) ⟨[]⟩ ⟨[]⟩]⟩ t (0, 0)))
    (hp : ∀ h', Ext No h h' → CallsH Tryz.prog fk ⟨[.agg ⟨Cel.cells x⟩]⟩ h' fun u h'' => u = .bool (p x) ∧ Ext No h' h'') :
    CallsH Tryz.prog 120 ⟨[.agg ⟨Cel.cells x⟩, .pointer (some ⟨b, 0, none⟩)]⟩ h fun u h' => u = .bool (!p x) ∧ Ext No h h' := by
  refine calls [(0, _), (1, _)] Tryz.func120 rfl Tryz.ntmps120 rfl ⟨rfl, rfl, trivial⟩ ?_
  all_goals (refine WC.sr ?_)
  all_goals (refine WL.stepR (okE_box rfl) rfl rfl rfl ?_
             rintro _ h1 ⟨b1, rfl, hg1, hb1, hx1⟩)
  all_goals (refine Go ?_)
  all_goals (refine WC.sr ?_)
  all_goals (refine WL.step (ok_load (fun w => Tryz.isAgg51 w) rfl (by first | exact cell_blk (hx1.obj hb nos) rfl | assumption | exact cell_blk (by assumption) rfl)) rfl rfl rfl ?_)
  all_goals (refine WL.step (ok_loadN (fun w => Tryz.isAgg50 w) (fun w => Tryz.sizeOf50 w) rfl rfl (by exact At.of_block hb1)) rfl rfl rfl ?_)
  all_goals (refine WL.callT (vs := [_]) rfl rfl hcf rfl (hp _ hx1) rfl rfl rfl ?_
             rintro _ h2 ⟨rfl, hx2⟩)
  all_goals (refine Go ?_)
  all_goals (refine WC.sub [(3, _)] ⟨rfl, trivial⟩ ?_)
  all_goals (refine WC.ret ?_)
  all_goals (repeat' (with_reducible first | refine thenP_r ?_ | refine blockP_r ?_))
  all_goals (refine retP_1 _ ⟨rfl, trivial⟩ ?_)
  all_goals (exact ⟨rfl, hx1.trans hx2⟩)
set_option maxHeartbeats 2000000 in
set_option maxRecDepth 100000 in
theorem everyA_cel {h : Heap} {v : Value} (l : List Cel) (p : Cel → Bool) (hr : Rd h v 2 l.length (l.flatMap Cel.cells)) (hl : l.length ≤ 65535) {fk : Nat} (hcf : ∀ (args : Array Value) (w : World), (callFunc fk args).run Tryz.prog w = .ok (.enter fk args) w)
    (hp : ∀ x ∈ l, ∀ h', Ext No h h' → CallsH Tryz.prog fk ⟨[.agg ⟨Cel.cells x⟩]⟩ h' fun u h'' => u = .bool (p x) ∧ Ext No h' h'') :
    CallsH Tryz.prog 91 ⟨[v, .func (.func fk) ⟨[]⟩ ⟨[]⟩]⟩ h fun u h' => u = .bool (l.all p) ∧ Ext No h h' := by
  have hcon : ∀ {h' : Heap} {b : Nat} {t : TypeId}, Ext No h h' → h'[b]? = some (.cells ⟨[.func (.func fk) ⟨[]⟩ ⟨[]⟩]⟩ t (0, 0)) → CallsH Tryz.prog 17 ⟨[v, .func (.func 120) ⟨[]⟩ ⟨[.pointer (some ⟨b, 0, none⟩)]⟩]⟩ h' fun u h'' => u = .bool (l.any fun x => !p x) ∧ Ext No h' h'' := by
    intro h' b t hx hb
    refine calls [(0, _), (1, _)] Tryz.func17 rfl Tryz.ntmps17 rfl ⟨rfl, rfl, trivial⟩ ?_
    all_goals (refine WC.sr ?_)
    all_goals (refine Go ?_)
    all_goals (refine WC.sr ?_)
    all_goals (refine Go ?_)
    all_goals (refine WL.call (vs := [_, _]) rfl (fun a w => Tryz.call38 a w) rfl (indexFunc_cel l (fun x => !p x) (fun a w => Tryz.call120 a w) (fs := []) (us := [.pointer (some ⟨b, 0, none⟩)]) (hr.ext0 hx) (by unfold maxLen; omega) (fun x hxl h2 hx2 => everyfA_cel x p hcf (hx2.obj hb nos) (fun h3 hx3 => hp x hxl h3 ((hx.trans hx2).trans hx3)))) rfl rfl rfl ?_
               rintro _ h1 ⟨rfl, hx1⟩)
    all_goals (refine WL.step (ok_geq rfl rfl) rfl rfl rfl ?_)
    all_goals (refine Go ?_)
    all_goals (refine WC.sub [(4, _)] ⟨rfl, trivial⟩ ?_)
    all_goals (refine WC.ret ?_)
    all_goals (repeat' (with_reducible first | refine thenP_r ?_ | refine blockP_r ?_))
    all_goals (refine retP_1 _ ⟨rfl, trivial⟩ ?_)
    all_goals (exact ⟨by rw [idxP_geq], hx1⟩)
  obtain ⟨A, c, rfl, _⟩ := id hr
  refine calls [(0, _), (1, _)] Tryz.func91 rfl Tryz.ntmps91 rfl ⟨rfl, rfl, trivial⟩ ?_
  all_goals (refine WC.sr ?_)
  all_goals (refine WL.stepR (okE_box rfl) rfl rfl rfl ?_
             rintro _ h1 ⟨b1, rfl, hg1, hb1, hx1⟩)
  all_goals (refine Go ?_)
  all_goals (refine WC.sr ?_)
  all_goals (refine Go ?_)
  all_goals (refine goP 8 ?_ ?_ <;> first | exact ⟨⟩ | refine Hb.mk fun hb => ?_ | skip)
  all_goals (refine Gg ?_)
  all_goals (first | (refine WL.pass rfl rfl rfl ?_) | (refine WL.step (ok_makeFunc (vs := []) (us := [_]) rfl rfl) rfl rfl rfl ?_))
  all_goals (first
               | (refine WL.pass rfl rfl rfl ?_)
               | (refine WL.call (vs := [_, _]) rfl (fun a w => Tryz.call17 a w) rfl (hcon hx1 hb1) rfl rfl rfl ?_
                  rintro _ h2 ⟨rfl, hx2⟩))
  all_goals (refine Gg ?_)
  all_goals (refine Go ?_)
  all_goals (refine WC.sub [(4, _)] ⟨rfl, trivial⟩ ?_)
  all_goals (refine WC.ret ?_)
  all_goals (repeat' (with_reducible first | refine thenP_r ?_ | refine blockP_r ?_))
  all_goals (refine retP_1 _ ⟨rfl, trivial⟩ ?_)
  all_goals (exact ⟨by rw [← all_any], hx1.trans hx2⟩)

set_option maxHeartbeats 2000000 in
set_option maxRecDepth 100000 in
theorem has_col {h : Heap} {v : Value} (l : List ColD) (p : ColD → Bool) {fk : Nat} {fs us : List Value} (hcf : ∀ (args : Array Value) (w : World), (callFunc fk args).run Tryz.prog w = .ok (.enter fk args) w) (hr : Rd h v 7 l.length (l.flatMap ColD.cells)) (hm : l.length ≤ maxLen)
    (hp : ∀ x ∈ l, ∀ h', Ext No h h' → CallsH Tryz.prog fk ⟨fs ++ [.agg ⟨ColD.cells x⟩] ++ us⟩ h' fun u h'' => u = .bool (p x) ∧ Ext No h' h'') :
    CallsH Tryz.prog 15 ⟨[v, .func (.func fk) ⟨fs⟩ ⟨us⟩]⟩ h fun u h' => u = .bool (l.any p) ∧ Ext No h h' := by
  refine calls [(0, _), (1, _)] Tryz.func15 rfl Tryz.ntmps15 rfl ⟨rfl, rfl, trivial⟩ ?_
  all_goals (refine WC.sr ?_)
  all_goals (refine Go ?_)
  all_goals (refine WC.sr ?_)
  all_goals (refine Go ?_)
  all_goals (refine WL.call (vs := [_, _]) rfl (fun a w => Tryz.call37 a w) rfl (indexFunc_col l p hcf hr hm hp) rfl rfl rfl ?_
             rintro _ h1 ⟨rfl, hx1⟩)
  all_goals (refine WL.step (ok_geq rfl rfl) rfl rfl rfl ?_)
  all_goals (refine Go ?_)
  all_goals (refine WC.sub [(4, _)] ⟨rfl, trivial⟩ ?_)
  all_goals (refine WC.ret ?_)
  all_goals (repeat' (with_reducible first | refine thenP_r ?_ | refine blockP_r ?_))
  all_goals (refine retP_1 _ ⟨rfl, trivial⟩ ?_)
  all_goals (exact ⟨by rw [idxP_geq], hx1⟩)

set_option maxHeartbeats 2000000 in
set_option maxRecDepth 100000 in
theorem has_fld {h : Heap} {v : Value} (l : List FieldD) (p : FieldD → Bool) {fk : Nat} {fs us : List Value} (hcf : ∀ (args : Array Value) (w : World), (callFunc fk args).run Tryz.prog w = .ok (.enter fk args) w) (hr : Rd h v 2 l.length (l.flatMap FieldD.cells)) (hm : l.length ≤ maxLen)
    (hp : ∀ x ∈ l, ∀ h', Ext No h h' → CallsH Tryz.prog fk ⟨fs ++ [.agg ⟨FieldD.cells x⟩] ++ us⟩ h' fun u h'' => u = .bool (p x) ∧ Ext No h' h'') :
    CallsH Tryz.prog 19 ⟨[v, .func (.func fk) ⟨fs⟩ ⟨us⟩]⟩ h fun u h' => u = .bool (l.any p) ∧ Ext No h h' := by
  refine calls [(0, _), (1, _)] Tryz.func19 rfl Tryz.ntmps19 rfl ⟨rfl, rfl, trivial⟩ ?_
  all_goals (refine WC.sr ?_)
  all_goals (refine Go ?_)
  all_goals (refine WC.sr ?_)
  all_goals (refine Go ?_)
  all_goals (refine WL.call (vs := [_, _]) rfl (fun a w => Tryz.call39 a w) rfl (indexFunc_fld l p hcf hr hm hp) rfl rfl rfl ?_
             rintro _ h1 ⟨rfl, hx1⟩)
  all_goals (refine WL.step (ok_geq rfl rfl) rfl rfl rfl ?_)
  all_goals (refine Go ?_)
  all_goals (refine WC.sub [(4, _)] ⟨rfl, trivial⟩ ?_)
  all_goals (refine WC.ret ?_)
  all_goals (repeat' (with_reducible first | refine thenP_r ?_ | refine blockP_r ?_))
  all_goals (refine retP_1 _ ⟨rfl, trivial⟩ ?_)
  all_goals (exact ⟨by rw [idxP_geq], hx1⟩)

set_option maxHeartbeats 2000000 in
set_option maxRecDepth 100000 in
theorem has_cel {h : Heap} {v : Value} (l : List Cel) (p : Cel → Bool) {fk : Nat} {fs us : List Value} (hcf : ∀ (args : Array Value) (w : World), (callFunc fk args).run Tryz.prog w = .ok (.enter fk args) w) (hr : Rd h v 2 l.length (l.flatMap Cel.cells)) (hm : l.length ≤ maxLen)
    (hp : ∀ x ∈ l, ∀ h', Ext No h h' → CallsH Tryz.prog fk ⟨fs ++ [.agg ⟨Cel.cells x⟩] ++ us⟩ h' fun u h'' => u = .bool (p x) ∧ Ext No h' h'') :
    CallsH Tryz.prog 17 ⟨[v, .func (.func fk) ⟨fs⟩ ⟨us⟩]⟩ h fun u h' => u = .bool (l.any p) ∧ Ext No h h' := by
  refine calls [(0, _), (1, _)] Tryz.func17 rfl Tryz.ntmps17 rfl ⟨rfl, rfl, trivial⟩ ?_
  all_goals (refine WC.sr ?_)
  all_goals (refine Go ?_)
  all_goals (refine WC.sr ?_)
  all_goals (refine Go ?_)
  all_goals (refine WL.call (vs := [_, _]) rfl (fun a w => Tryz.call38 a w) rfl (indexFunc_cel l p hcf hr hm hp) rfl rfl rfl ?_
             rintro _ h1 ⟨rfl, hx1⟩)
  all_goals (refine WL.step (ok_geq rfl rfl) rfl rfl rfl ?_)
  all_goals (refine Go ?_)
  all_goals (refine WC.sub [(4, _)] ⟨rfl, trivial⟩ ?_)
  all_goals (refine WC.ret ?_)
  all_goals (repeat' (with_reducible first | refine thenP_r ?_ | refine blockP_r ?_))
  all_goals (refine retP_1 _ ⟨rfl, trivial⟩ ?_)
  all_goals (exact ⟨by rw [idxP_geq], hx1⟩)

set_option maxHeartbeats 2000000 in
set_option maxRecDepth 100000 in
theorem has_bnd {h : Heap} {v : Value} (l : List BndD) (p : BndD → Bool) {fk : Nat} {fs us : List Value} (hcf : ∀ (args : Array Value) (w : World), (callFunc fk args).run Tryz.prog w = .ok (.enter fk args) w) (hr : Rd h v 3 l.length (l.flatMap BndD.cells)) (hm : l.length ≤ maxLen)
    (hp : ∀ x ∈ l, ∀ h', Ext No h h' → CallsH Tryz.prog fk ⟨fs ++ [.agg ⟨BndD.cells x⟩] ++ us⟩ h' fun u h'' => u = .bool (p x) ∧ Ext No h' h'') :
    CallsH Tryz.prog 135 ⟨[v, .func (.func fk) ⟨fs⟩ ⟨us⟩]⟩ h fun u h' => u = .bool (l.any p) ∧ Ext No h h' := by
  refine calls [(0, _), (1, _)] Tryz.func135 rfl Tryz.ntmps135 rfl ⟨rfl, rfl, trivial⟩ ?_
  all_goals (refine WC.sr ?_)
  all_goals (refine Go ?_)
  all_goals (refine WC.sr ?_)
  all_goals (refine Go ?_)
  all_goals (refine WL.call (vs := [_, _]) rfl (fun a w => Tryz.call140 a w) rfl (indexFunc_bnd l p hcf hr hm hp) rfl rfl rfl ?_
             rintro _ h1 ⟨rfl, hx1⟩)
  all_goals (refine WL.step (ok_geq rfl rfl) rfl rfl rfl ?_)
  all_goals (refine Go ?_)
  all_goals (refine WC.sub [(4, _)] ⟨rfl, trivial⟩ ?_)
  all_goals (refine WC.ret ?_)
  all_goals (repeat' (with_reducible first | refine thenP_r ?_ | refine blockP_r ?_))
  all_goals (refine retP_1 _ ⟨rfl, trivial⟩ ?_)
  all_goals (exact ⟨by rw [idxP_geq], hx1⟩)

def BndD.okB (b : BndD) : Bool := decide (b.lo ≤ b.n) && decide (b.n ≤ b.hi)
set_option maxHeartbeats 2000000 in
set_option maxRecDepth 100000 in
theorem allf_any {h : Heap} (b : BndD) : CallsH Tryz.prog 136 ⟨[.agg ⟨b.cells⟩]⟩ h fun u h' => u = .bool (!b.okB) ∧ Ext No h h' := by
  obtain ⟨n, lo, hi⟩ := b
  dsimp only [BndD.cells, BndD.okB]
  refine calls [(0, _)] Tryz.func136 rfl Tryz.ntmps136 rfl ⟨rfl, trivial⟩ ?_
  all_goals (refine WC.sr ?_)
  all_goals (refine WL.stepR (okE_box rfl) rfl rfl rfl ?_
             rintro _ h3 ⟨b3, rfl, hg3, hb3, hx3⟩)
  all_goals (refine Go ?_)
  all_goals (refine WC.sr ?_)
  all_goals (refine Go ?_)
  all_goals (refine WL.step (ok_load (fun w => Tryz.isAgg3 w) rfl (by first | assumption | exact cell_blk (by assumption) rfl)) rfl rfl rfl ?_)
  all_goals (refine Go ?_)
  all_goals (refine WL.step (ok_load (fun w => Tryz.isAgg3 w) rfl (by first | assumption | exact cell_blk (by assumption) rfl)) rfl rfl rfl ?_)
  all_goals (refine Go ?_)
  all_goals (refine goP 8 ?_ ?_ <;> first | exact ⟨⟩ | refine Hb.mk fun hb => ?_ | skip)
  all_goals (refine Gg ?_)
  all_goals (first | (refine WL.pass rfl rfl rfl ?_) | (refine WL.step (ok_load (fun w => Tryz.isAgg3 w) rfl (by first | assumption | exact cell_blk (by assumption) rfl)) rfl rfl rfl ?_))
  all_goals (refine Gg ?_)
  all_goals (first | (refine WL.pass rfl rfl rfl ?_) | (refine WL.step (ok_load (fun w => Tryz.isAgg3 w) rfl (by first | assumption | exact cell_blk (by assumption) rfl)) rfl rfl rfl ?_))
  all_goals (refine Gg ?_)
  all_goals (refine Go ?_)
  all_goals (refine WC.sub [(2, _)] ⟨rfl, trivial⟩ ?_)
  all_goals (refine WC.ret ?_)
  all_goals (repeat' (with_reducible first | refine thenP_r ?_ | refine blockP_r ?_))
  all_goals (refine retP_1 _ ⟨rfl, trivial⟩ ?_)
  all_goals (refine ⟨congrArg Value.bool ?_, hx3⟩
             by_cases q1 : lo ≤ n
             all_goals by_cases q2 : n ≤ hi
             all_goals first | (simp [q1, q2]; done) | (simp [q1, q2]; omega) | (exfalso; omega))
set_option maxHeartbeats 2000000 in
set_option maxRecDepth 100000 in
theorem all_v {h : Heap} {v : Value} (l : List BndD) (hr : Rd h v 3 l.length (l.flatMap BndD.cells)) (hm : l.length ≤ maxLen) : CallsH Tryz.prog 118 ⟨[v]⟩ h fun u h' => u = .bool (l.all BndD.okB) ∧ Ext No h h' := by
  refine calls [(0, _)] Tryz.func118 rfl Tryz.ntmps118 rfl ⟨rfl, trivial⟩ ?_
  all_goals (refine WC.sr ?_)
  all_goals (refine Go ?_)
  all_goals (refine WC.sr ?_)
  all_goals (refine Go ?_)
  all_goals (refine WL.call (vs := [_, _]) rfl (fun a w => Tryz.call135 a w) rfl (has_bnd l (fun b => !b.okB) (fun a w => Tryz.call136 a w) (fs := []) (us := []) hr hm (fun x hx h' hx' => allf_any x)) rfl rfl rfl ?_
             rintro _ h1 ⟨rfl, hx1⟩)
  all_goals (refine Go ?_)
  all_goals (refine WC.sub [(2, _)] ⟨rfl, trivial⟩ ?_)
  all_goals (refine WC.ret ?_)
  all_goals (repeat' (with_reducible first | refine thenP_r ?_ | refine blockP_r ?_))
  all_goals (refine retP_1 _ ⟨rfl, trivial⟩ ?_)
  all_goals (exact ⟨by rw [← all_any], hx1⟩)
instance (c : ColD) : Decidable c.okB := by unfold ColD.okB; exact inferInstance
instance (c : FieldD) : Decidable c.okB := by unfold FieldD.okB; exact inferInstance
instance (c : Cel) : Decidable c.okB := by unfold Cel.okB; exact inferInstance
set_option maxHeartbeats 2000000 in
set_option maxRecDepth 100000 in
theorem column_any {h : Heap} (c : ColD) : CallsH Tryz.prog 88 ⟨[.agg ⟨c.cells⟩]⟩ h fun u h' => u = .bool (decide c.okB) ∧ Ext No h h' := by
  obtain ⟨nm, t, a, o, s, m, f⟩ := c
  dsimp only [ColD.cells]
  refine calls [(0, _)] Tryz.func88 rfl Tryz.ntmps88 rfl ⟨rfl, trivial⟩ ?_
  all_goals (refine WC.sr ?_)
  all_goals (refine WL.stepR (okE_box rfl) rfl rfl rfl ?_
             rintro _ g1 ⟨b1, rfl, hg1, hb1, hx1⟩)
  all_goals (refine Go ?_)
  all_goals (refine WC.sr ?_)
  all_goals (refine Go ?_)
  all_goals (refine WL.step (ok_load (fun w => Tryz.isAgg9 w) rfl (by first | assumption | exact cell_blk (by assumption) rfl)) rfl rfl rfl ?_)
  all_goals (refine WL.call (vs := [_]) rfl (fun a w => Tryz.call86 a w) rfl (clean_any nm) rfl rfl rfl ?_
             rintro _ hz ⟨rfl, _⟩
             subst hz)
  all_goals (refine Go ?_)
  all_goals (refine goP 6 ?_ ?_ <;> first | exact ⟨⟩ | refine Hb.mk fun hb => ?_ | skip)
  all_goals (refine Gg ?_)
  all_goals (first | (refine WL.pass rfl rfl rfl ?_) | (refine WL.step (ok_load (fun w => Tryz.isAgg3 w) rfl (by first | assumption | exact cell_blk (by assumption) rfl)) rfl rfl rfl ?_))
  all_goals (first | (refine WL.pass rfl rfl rfl ?_) | (refine WL.step (ok_buildF (vs := [_, _, _]) (cs := [_, _, _]) (fun | [a0, a1, a2] => [a0, a1, a2] | _ => []) rfl rfl (by kernel_rfl)) rfl rfl rfl ?_))
  all_goals (refine Gg ?_)
  all_goals (first | (refine WL.pass rfl rfl rfl ?_) | (refine WL.step (ok_load (fun w => Tryz.isAgg3 w) rfl (by first | assumption | exact cell_blk (by assumption) rfl)) rfl rfl rfl ?_))
  all_goals (first | (refine WL.pass rfl rfl rfl ?_) | (refine WL.step (ok_buildF (vs := [_, _, _]) (cs := [_, _, _]) (fun | [a0, a1, a2] => [a0, a1, a2] | _ => []) rfl rfl (by kernel_rfl)) rfl rfl rfl ?_))
  all_goals (refine Gg ?_)
  all_goals (first | (refine WL.pass rfl rfl rfl ?_) | (refine WL.step (ok_load (fun w => Tryz.isAgg3 w) rfl (by first | assumption | exact cell_blk (by assumption) rfl)) rfl rfl rfl ?_))
  all_goals (first | (refine WL.pass rfl rfl rfl ?_) | (refine WL.step (ok_buildF (vs := [_, _, _]) (cs := [_, _, _]) (fun | [a0, a1, a2] => [a0, a1, a2] | _ => []) rfl rfl (by kernel_rfl)) rfl rfl rfl ?_))
  all_goals (refine Gg ?_)
  all_goals (first | (refine WL.pass rfl rfl rfl ?_) | (refine WL.step (ok_load (fun w => Tryz.isAgg3 w) rfl (by first | assumption | exact cell_blk (by assumption) rfl)) rfl rfl rfl ?_))
  all_goals (first | (refine WL.pass rfl rfl rfl ?_) | (refine WL.step (ok_buildF (vs := [_, _, _]) (cs := [_, _, _]) (fun | [a0, a1, a2] => [a0, a1, a2] | _ => []) rfl rfl (by kernel_rfl)) rfl rfl rfl ?_))
  all_goals (refine Gg ?_)
  all_goals (first | (refine WL.pass rfl rfl rfl ?_) | (refine WL.step (ok_load (fun w => Tryz.isAgg3 w) rfl (by first | assumption | exact cell_blk (by assumption) rfl)) rfl rfl rfl ?_))
  all_goals (first | (refine WL.pass rfl rfl rfl ?_) | (refine WL.step (ok_buildF (vs := [_, _, _]) (cs := [_, _, _]) (fun | [a0, a1, a2] => [a0, a1, a2] | _ => []) rfl rfl (by kernel_rfl)) rfl rfl rfl ?_))
  all_goals (refine Gg ?_)
  all_goals (first | (refine WL.pass rfl rfl rfl ?_) | (refine WL.step (ok_load (fun w => Tryz.isAgg3 w) rfl (by first | assumption | exact cell_blk (by assumption) rfl)) rfl rfl rfl ?_))
  all_goals (first | (refine WL.pass rfl rfl rfl ?_) | (refine WL.step (ok_buildF (vs := [_, _, _]) (cs := [_, _, _]) (fun | [a0, a1, a2] => [a0, a1, a2] | _ => []) rfl rfl (by kernel_rfl)) rfl rfl rfl ?_))
  all_goals (first
               | (refine WL.pass rfl rfl rfl ?_)
               | (refine WL.stepR (okE_buildSlice (vs := [_, _, _, _, _, _]) (cs := [_, _, _, _, _, _, _, _, _, _, _, _, _, _, _, _, _, _]) (fun | [.agg ⟨[a0, a1, a2]⟩, .agg ⟨[a3, a4, a5]⟩, .agg ⟨[a6, a7, a8]⟩, .agg ⟨[a9, a10, a11]⟩, .agg ⟨[a12, a13, a14]⟩, .agg ⟨[a15, a16, a17]⟩] => [a0, a1, a2, a3, a4, a5, a6, a7, a8, a9, a10, a11, a12, a13, a14, a15, a16, a17] | _ => []) Tryz.underlying149 rfl rfl (by kernel_rfl)) rfl rfl rfl ?_
                  rintro _ g2 ⟨b2, rfl, hg2, hb2, hx2⟩))
  all_goals (first
               | (refine WL.pass rfl rfl rfl ?_)
               | (refine WL.call (vs := [_]) rfl (fun a w => Tryz.call118 a w) rfl (all_v [⟨t, 0, 4294967295⟩, ⟨a, 0, 65535⟩, ⟨o, 0, 4294967295⟩, ⟨s, -32768, 32767⟩, ⟨m, -2147483648, 2147483647⟩, ⟨f, 0, 65535⟩] (rd_blk hb2 rfl) (by simp [maxLen])) rfl rfl rfl ?_
                  rintro _ g3 ⟨rfl, hx3⟩))
  all_goals (refine Go ?_)
  all_goals (refine WC.sub [(2, _)] ⟨rfl, trivial⟩ ?_)
  all_goals (refine WC.ret ?_)
  all_goals (repeat' (with_reducible first | refine thenP_r ?_ | refine blockP_r ?_))
  all_goals (refine retP_1 _ ⟨rfl, trivial⟩ ?_)
  all_goals (first
              | (refine ⟨congrArg Value.bool ?_, (hx1.trans hx2).trans hx3⟩
                 simp [ColD.okB, BndD.okB, *]; done)
              | (refine ⟨congrArg Value.bool ?_, hx1⟩
                 simp [ColD.okB, *]; done))
set_option maxHeartbeats 2000000 in
set_option maxRecDepth 100000 in
theorem field_any {h : Heap} (c : FieldD) : CallsH Tryz.prog 90 ⟨[.agg ⟨c.cells⟩]⟩ h fun u h' => u = .bool (decide c.okB) ∧ Ext No h h' := by
  obtain ⟨k, t⟩ := c
  dsimp only [FieldD.cells]
  refine calls [(0, _)] Tryz.func90 rfl Tryz.ntmps90 rfl ⟨rfl, trivial⟩ ?_
  all_goals (refine WC.sr ?_)
  all_goals (refine WL.stepR (okE_box rfl) rfl rfl rfl ?_
             rintro _ g1 ⟨b1, rfl, hg1, hb1, hx1⟩)
  all_goals (refine Go ?_)
  all_goals (refine WC.sr ?_)
  all_goals (refine Go ?_)
  all_goals (refine WL.step (ok_load (fun w => Tryz.isAgg5 w) rfl (by first | assumption | exact cell_blk (by assumption) rfl)) rfl rfl rfl ?_)
  all_goals (refine Go ?_)
  all_goals (refine goP 6 ?_ ?_ <;> first | exact ⟨⟩ | refine Hb.mk fun hb => ?_ | skip)
  all_goals (refine Gg ?_)
  all_goals (first | (refine WL.pass rfl rfl rfl ?_) | (refine WL.step (ok_load (fun w => Tryz.isAgg9 w) rfl (by first | assumption | exact cell_blk (by assumption) rfl)) rfl rfl rfl ?_))
  all_goals (first
               | (refine WL.pass rfl rfl rfl ?_)
               | (refine WL.call (vs := [_]) rfl (fun a w => Tryz.call86 a w) rfl (clean_any t) rfl rfl rfl ?_
                  rintro _ hz ⟨rfl, _⟩
                  subst hz))
  all_goals (refine Go ?_)
  all_goals (refine WC.sub [(2, _)] ⟨rfl, trivial⟩ ?_)
  all_goals (refine WC.ret ?_)
  all_goals (repeat' (with_reducible first | refine thenP_r ?_ | refine blockP_r ?_))
  all_goals (refine retP_1 _ ⟨rfl, trivial⟩ ?_)
  all_goals (refine ⟨congrArg Value.bool ?_, hx1⟩
             simp [FieldD.okB, *])
set_option maxHeartbeats 2000000 in
set_option maxRecDepth 100000 in
theorem cell_any {h h0 : Heap} (c : Cel) (hk : c.ok h0) (hl : c.bytes.length ≤ 1048576) : CallsH Tryz.prog 92 ⟨[.agg ⟨c.cells⟩]⟩ h fun u h' => u = .bool (decide c.okB) ∧ Ext No h h' := by
  obtain ⟨nl, v, bs⟩ := c
  obtain ⟨A, cc, e, _⟩ := hk.1
  simp only at e hl
  subst e
  dsimp only [Cel.cells]
  cases nl
  all_goals
    refine calls [(0, _)] Tryz.func92 rfl Tryz.ntmps92 rfl ⟨rfl, trivial⟩ ?_
    all_goals (refine WC.sr ?_)
    all_goals (refine WL.stepR (okE_box rfl) rfl rfl rfl ?_
               rintro _ g1 ⟨b1, rfl, hg1, hb1, hx1⟩)
    all_goals (refine Go ?_)
    all_goals (refine WC.sr ?_)
    all_goals (refine Go ?_)
    all_goals (refine WL.step (ok_load (fun w => Tryz.isAgg4 w) rfl (by first | assumption | exact cell_blk (by assumption) rfl)) rfl rfl rfl ?_)
    all_goals (refine Go ?_)
    all_goals (refine goP 5 ?_ ?_ <;> first | exact ⟨⟩ | refine Hb.mk fun hb => ?_ | skip)
    all_goals (refine Gg ?_)
    all_goals (first | (refine WL.pass rfl rfl rfl ?_) | (refine WL.step (ok_load (fun w => Tryz.isAgg24 w) rfl (by first | assumption | exact cell_blk (by assumption) rfl)) rfl rfl rfl ?_))
    all_goals (refine Gg ?_)
    all_goals (refine Go ?_)
    all_goals (refine goP 12 ?_ ?_ <;> first | exact ⟨⟩ | refine Hb.mk fun hb => ?_ | skip)
    all_goals (refine Gg ?_)
    all_goals (first | (refine WL.pass rfl rfl rfl ?_) | (refine WL.step (ok_load (fun w => Tryz.isAgg24 w) rfl (by first | assumption | exact cell_blk (by assumption) rfl)) rfl rfl rfl ?_))
    all_goals (refine Gg ?_)
    all_goals (refine Go ?_)
    all_goals (refine WC.sub [(2, _)] ⟨rfl, trivial⟩ ?_)
    all_goals (refine WC.ret ?_)
    all_goals (repeat' (with_reducible first | refine thenP_r ?_ | refine blockP_r ?_))
    all_goals (refine retP_1 _ ⟨rfl, trivial⟩ ?_)
    all_goals (refine ⟨congrArg Value.bool ?_, hx1⟩
               first
                | exact (decide_eq_true (p := Cel.okB _) ⟨fun z => (by show bs.length = 0; omega), hl⟩).symm
                | exact (decide_eq_true (p := Cel.okB _) ⟨(fun z => by cases z), hl⟩).symm
                | exact (decide_eq_false (p := Cel.okB _) (fun z => (by have : bs.length = 0 := z.1 rfl; omega))).symm
                | exact decide_eq_decide.2 ⟨fun z => ⟨fun z => (by show bs.length = 0; omega), hl⟩, fun z => (by omega)⟩
                | exact decide_eq_decide.2 ⟨fun z => ⟨(fun z => by cases z), hl⟩, fun z => (by omega)⟩)
def oidB (n : Int) : Bool := decide (0 ≤ n) && decide (n ≤ 4294967295)
set_option maxHeartbeats 2000000 in
set_option maxRecDepth 100000 in
theorem oid_any {h : Heap} (n : Int) : CallsH Tryz.prog 94 ⟨[In n]⟩ h fun u h' => u = .bool (oidB n) ∧ h' = h := by
  unfold oidB
  refine calls [(0, _)] Tryz.func94 rfl Tryz.ntmps94 rfl ⟨rfl, trivial⟩ ?_
  all_goals (refine WC.sr ?_)
  all_goals (refine Go ?_)
  all_goals (refine WC.sr ?_)
  all_goals (refine Go ?_)
  all_goals (refine goP 5 ?_ ?_ <;> first | exact ⟨⟩ | refine Hb.mk fun hb => ?_ | skip)
  all_goals (refine Gg ?_)
  all_goals (refine Go ?_)
  all_goals (refine WC.sub [(2, _)] ⟨rfl, trivial⟩ ?_)
  all_goals (refine WC.ret ?_)
  all_goals (repeat' (with_reducible first | refine thenP_r ?_ | refine blockP_r ?_))
  all_goals (refine retP_1 _ ⟨rfl, trivial⟩ ?_)
  all_goals (refine ⟨congrArg Value.bool ?_, rfl⟩
             by_cases q1 : 0 ≤ n
             all_goals by_cases q2 : n ≤ 4294967295
             all_goals first | (simp [q1, q2]; done) | (simp [q1, q2]; omega) | (exfalso; omega))
set_option maxHeartbeats 2000000 in
set_option maxRecDepth 100000 in
theorem everyA_int {h : Heap} {v : Value} (l : List Int) (hr : Rd h v 1 l.length (ints l)) (hl : l.length ≤ 65535) :
    CallsH Tryz.prog 93 ⟨[v, .func (.func 94) ⟨[]⟩ ⟨[]⟩]⟩ h fun u h' => u = .bool (l.all oidB) ∧ Ext No h h' := by
  have hf : ∀ {h : Heap} {b : Nat} {t : TypeId} (x : Int), x ∈ l → h[b]? = some (.cells ⟨[.func (.func 94) ⟨[]⟩ ⟨[]⟩]⟩ t (0, 0)) → CallsH Tryz.prog 122 ⟨[In x, .pointer (some ⟨b, 0, none⟩)]⟩ h fun u h' => u = .bool (!oidB x) ∧ h' = h := by
    intro h b t x hx hb
    refine calls [(0, _), (1, _)] Tryz.func122 rfl Tryz.ntmps122 rfl ⟨rfl, rfl, trivial⟩ ?_
    all_goals (refine WC.sr ?_)
    all_goals (refine Go ?_)
    all_goals (refine WC.sr ?_)
    all_goals (refine WL.step (ok_load (fun w => Tryz.isAgg125 w) rfl (by first | assumption | exact cell_blk (by assumption) rfl)) rfl rfl rfl ?_)
    all_goals (refine Go ?_)
    all_goals (refine WL.callT (vs := [_]) rfl rfl (fun a w => Tryz.call94 a w) rfl (oid_any x) rfl rfl rfl ?_
               rintro _ hz ⟨rfl, _⟩
               subst hz)
    all_goals (refine Go ?_)
    all_goals (refine WC.sub [(3, _)] ⟨rfl, trivial⟩ ?_)
    all_goals (refine WC.ret ?_)
    all_goals (repeat' (with_reducible first | refine thenP_r ?_ | refine blockP_r ?_))
    all_goals (refine retP_1 _ ⟨rfl, trivial⟩ ?_)
    all_goals (exact ⟨rfl, rfl⟩)
  obtain ⟨A, c, rfl, _⟩ := id hr
  have hcon : ∀ {h' : Heap} {b : Nat} {t : TypeId}, Ext No h h' → h'[b]? = some (.cells ⟨[.func (.func 94) ⟨[]⟩ ⟨[]⟩]⟩ t (0, 0)) → CallsH Tryz.prog 121 ⟨[.slice A l.length c, .func (.func 122) ⟨[]⟩ ⟨[.pointer (some ⟨b, 0, none⟩)]⟩]⟩ h' fun u h'' => u = .bool (l.any fun x => !oidB x) ∧ h'' = h' := by
    intro h' b t hx hb
    refine calls [(0, _), (1, _)] Tryz.func121 rfl Tryz.ntmps121 rfl ⟨rfl, rfl, trivial⟩ ?_
    all_goals (refine WC.sr ?_)
    all_goals (refine Go ?_)
    all_goals (refine WC.sr ?_)
    all_goals (refine Go ?_)
    all_goals (refine WL.call (vs := [_, _]) rfl (fun a w => Tryz.call137 a w) rfl (indexFunc_int l (fun x => !oidB x) (fun a w => Tryz.call122 a w) (fs := []) (us := [.pointer (some ⟨b, 0, none⟩)]) (hr.ext0 hx) (by unfold maxLen; omega) (fun x hxl => hf x hxl hb)) rfl rfl rfl ?_
               rintro _ hz ⟨rfl, _⟩
               subst hz)
    all_goals (refine WL.step (ok_geq rfl rfl) rfl rfl rfl ?_)
    all_goals (refine Go ?_)
    all_goals (refine WC.sub [(4, _)] ⟨rfl, trivial⟩ ?_)
    all_goals (refine WC.ret ?_)
    all_goals (repeat' (with_reducible first | refine thenP_r ?_ | refine blockP_r ?_))
    all_goals (refine retP_1 _ ⟨rfl, trivial⟩ ?_)
    all_goals (exact ⟨by rw [idxP_geq], rfl⟩)
  refine calls [(0, _), (1, _)] Tryz.func93 rfl Tryz.ntmps93 rfl ⟨rfl, rfl, trivial⟩ ?_
  all_goals (refine WC.sr ?_)
  all_goals (refine WL.stepR (okE_box rfl) rfl rfl rfl ?_
             rintro _ h1 ⟨b1, rfl, hg1, hb1, hx1⟩)
  all_goals (refine Go ?_)
  all_goals (refine WC.sr ?_)
  all_goals (refine Go ?_)
  all_goals (refine goP 8 ?_ ?_ <;> first | exact ⟨⟩ | refine Hb.mk fun hb => ?_ | skip)
  all_goals (refine Gg ?_)
  all_goals (first | (refine WL.pass rfl rfl rfl ?_) | (refine WL.step (ok_makeFunc (vs := []) (us := [_]) rfl rfl) rfl rfl rfl ?_))
  all_goals (first
               | (refine WL.pass rfl rfl rfl ?_)
               | (refine WL.call (vs := [_, _]) rfl (fun a w => Tryz.call121 a w) rfl (hcon hx1 hb1) rfl rfl rfl ?_
                  rintro _ hz ⟨rfl, _⟩
                  subst hz))
  all_goals (refine Gg ?_)
  all_goals (refine Go ?_)
  all_goals (refine WC.sub [(4, _)] ⟨rfl, trivial⟩ ?_)
  all_goals (refine WC.ret ?_)
  all_goals (repeat' (with_reducible first | refine thenP_r ?_ | refine blockP_r ?_))
  all_goals (refine retP_1 _ ⟨rfl, trivial⟩ ?_)
  all_goals (exact ⟨by rw [← all_any], hx1⟩)
end Go.Proofs.YtbahigffjclpdaaGreatDoor


/-
  api.Entry as it comes in; whether entries are few (without the cache's texts).
-/
namespace Go.Proofs.YtbahigffjclpdaaGreatDoor
open Go Go.RK

abbrev COp := Int × Int × Unit
def copCells : COp → List Value := fun p => [In p.1] ++ ([In p.2.1] ++ [])
theorem copCells_len (a : COp) : (copCells a).length = 2 := rfl

abbrev Ops (h : Heap) (v : Value) (l : List COp) : Prop := Rd h v 2 l.length (l.flatMap copCells) ∧ l.length * 16 ≤ reachBytes
theorem Ops.ext0 {h h' : Heap} {v : Value} {l : List COp} (k : Ops h v l) (a : Ext No h h') : Ops h' v l := ⟨k.1.ext0 a, k.2⟩
theorem opens_cop (w : World) : Opens Tryz.prog w 173 copCells (fun _ => True) := by
  have h1 := opensF_cons (P := Tryz.prog) (w := w) (o := 1) (f := ⟨ "ID", 3, 1, false, "", "", 8⟩) rfl (opens_int Tryz.underlying3) (by kernel_rfl) (fun _ => rfl) opensF_nil
  have h2 := opensF_cons (P := Tryz.prog) (w := w) (o := 0) (f := ⟨ "Kind", 3, 0, false, "", "", 0⟩) rfl (opens_int Tryz.underlying3) (by kernel_rfl) (fun _ => rfl) h1
  exact (opens_struct Tryz.underlying173 (by kernel_rfl) h2).map id (fun _ => rfl) (fun _ _ => trivial)
theorem opens_cops (w : World) : Opens Tryz.prog w 23 (fun p : Value × List COp => [p.1]) (fun p => Ops w.heap p.1 p.2) :=
  (opens_slice Tryz.underlying23 (by kernel_rfl) (by decide) copCells_len (opens_cop w)).map id (fun _ => rfl) fun p q => ⟨q.1, by have := q.2.2.2.2; rwa [show Tryz.prog.bytesOf 173 = 16 by kernel_rfl] at this⟩
/-- A row of ops among others. -/
structure Ob where
  v : Value
  l : List COp
def Obs (h : Heap) (v : Value) (L : List Ob) : Prop := Rd h v 1 L.length (L.map Ob.v) ∧ L.length * 24 ≤ reachBytes ∧ ∀ r ∈ L, Ops h r.v r.l
theorem Obs.ext0 {h h' : Heap} {v : Value} {L : List Ob} (k : Obs h v L) (a : Ext No h h') : Obs h' v L := ⟨k.1.ext0 a, k.2.1, fun r hr => (k.2.2 r hr).ext0 a⟩
abbrev TOp := Bool × List UInt8 × Int × Unit
def topCells : TOp → List Value := fun p => [.bool p.1] ++ ([St p.2.1] ++ ([In p.2.2.1] ++ []))
theorem topCells_len (a : TOp) : (topCells a).length = 3 := rfl
theorem opens_top (w : World) : Opens Tryz.prog w 171 topCells (fun _ => True) := by
  have h1 := opensF_cons (P := Tryz.prog) (w := w) (o := 2) (f := ⟨ "ID", 3, 2, false, "", "", 24⟩) rfl (opens_int Tryz.underlying3) (by kernel_rfl) (fun _ => rfl) opensF_nil
  have h2 := opensF_cons (P := Tryz.prog) (w := w) (o := 1) (f := ⟨ "Name", 9, 1, false, "", "", 8⟩) rfl (opens_string Tryz.underlying9) (by kernel_rfl) (fun _ => rfl) h1
  have h3 := opensF_cons (P := Tryz.prog) (w := w) (o := 0) (f := ⟨ "Set", 4, 0, false, "", "", 0⟩) rfl (opens_bool Tryz.underlying4) (by kernel_rfl) (fun _ => rfl) h2
  exact (opens_struct Tryz.underlying171 (by kernel_rfl) h3).map id (fun _ => rfl) (fun _ _ => trivial)
abbrev Tops (h : Heap) (v : Value) (l : List TOp) : Prop := Rd h v 3 l.length (l.flatMap topCells) ∧ l.length ≤ maxLen
theorem opens_tops (w : World) : Opens Tryz.prog w 22 (fun p : Value × List TOp => [p.1]) (fun p => Tops w.heap p.1 p.2) :=
  (opens_slice Tryz.underlying22 (by kernel_rfl) (by decide) topCells_len (opens_top w)).map id (fun _ => rfl) fun p q => ⟨q.1, q.2.1⟩

/-- An entry. -/
structure En where
  kind : Int
  hide : Bool
  src : List UInt8
  dst : List UInt8
  vg : Value
  good : List TOp
  vb : Value
  bad : List TOp
  vc : Value
  ops : List COp
  vr : Value
  reply : List UInt8
def En.cells (e : En) : List Value := [In e.kind, .bool e.hide, St e.src, St e.dst, e.vg, e.vb, e.vc, e.vr]
theorem En.len (e : En) : e.cells.length = 8 := rfl
structure En.ok (h : Heap) (e : En) : Prop where
  good : Tops h e.vg e.good
  bad : Tops h e.vb e.bad
  ops : Ops h e.vc e.ops
  reply : Rd h e.vr 1 e.reply.length (bys e.reply) ∧ e.reply.length ≤ reachBytes
theorem En.ok.ext0 {h h' : Heap} {e : En} (k : e.ok h) (a : Ext No h h') : e.ok h' := ⟨⟨k.1.1.ext0 a, k.1.2⟩, ⟨k.2.1.ext0 a, k.2.2⟩, k.3.ext0 a, ⟨k.4.1.ext0 a, k.4.2⟩⟩
theorem En.ok.one {h : Heap} {e : En} (k : e.ok h) : ∀ v ∈ e.cells, v.oneCell' = true := by
  obtain ⟨A1, c1, e1, _⟩ := k.1.1
  obtain ⟨A2, c2, e2, _⟩ := k.2.1
  obtain ⟨A3, c3, e3, _⟩ := k.3.1
  obtain ⟨A4, c4, e4, _⟩ := k.4.1
  simp [En.cells, Value.oneCell', e1, e2, e3, e4]
def Ens (h : Heap) (v : Value) (L : List En) : Prop := Rd h v 8 L.length (L.flatMap En.cells) ∧ L.length ≤ maxLen ∧ ∀ e ∈ L, e.ok h
theorem Ens.ext0 {h h' : Heap} {v : Value} {L : List En} (k : Ens h v L) (a : Ext No h h') : Ens h' v L := ⟨k.1.ext0 a, k.2.1, fun r hr => (k.2.2 r hr).ext0 a⟩
theorem opens_entry (w : World) : Opens Tryz.prog w 26 En.cells (fun e => e.ok w.heap) := by
  have h8 := opensF_cons (P := Tryz.prog) (w := w) (o := 7) (f := ⟨ "Reply", 24, 7, false, "", "", 120⟩) rfl (opens_bytes Tryz.underlying24 (by kernel_rfl) (by kernel_rfl) Tryz.underlying5) (by kernel_rfl) (fun _ => rfl) opensF_nil
  have h7 := opensF_cons (P := Tryz.prog) (w := w) (o := 6) (f := ⟨ "Cache", 23, 6, false, "", "", 96⟩) rfl (opens_cops w) (by kernel_rfl) (fun _ => rfl) h8
  have h6 := opensF_cons (P := Tryz.prog) (w := w) (o := 5) (f := ⟨ "Bad", 22, 5, false, "", "", 72⟩) rfl (opens_tops w) (by kernel_rfl) (fun _ => rfl) h7
  have h5 := opensF_cons (P := Tryz.prog) (w := w) (o := 4) (f := ⟨ "Good", 22, 4, false, "", "", 48⟩) rfl (opens_tops w) (by kernel_rfl) (fun _ => rfl) h6
  have h4 := opensF_cons (P := Tryz.prog) (w := w) (o := 3) (f := ⟨ "To", 9, 3, false, "", "", 32⟩) rfl (opens_string Tryz.underlying9) (by kernel_rfl) (fun _ => rfl) h5
  have h3 := opensF_cons (P := Tryz.prog) (w := w) (o := 2) (f := ⟨ "From", 9, 2, false, "", "", 16⟩) rfl (opens_string Tryz.underlying9) (by kernel_rfl) (fun _ => rfl) h4
  have h2 := opensF_cons (P := Tryz.prog) (w := w) (o := 1) (f := ⟨ "Hide", 4, 1, false, "", "", 8⟩) rfl (opens_bool Tryz.underlying4) (by kernel_rfl) (fun _ => rfl) h3
  have h1 := opensF_cons (P := Tryz.prog) (w := w) (o := 0) (f := ⟨ "Kind", 3, 0, false, "", "", 0⟩) rfl (opens_int Tryz.underlying3) (by kernel_rfl) (fun _ => rfl) h2
  exact (opens_struct Tryz.underlying26 (by kernel_rfl) h1).map (fun p => (⟨p.1, p.2.1, p.2.2.1, p.2.2.2.1, p.2.2.2.2.1.1, p.2.2.2.2.1.2, p.2.2.2.2.2.1.1, p.2.2.2.2.2.1.2, p.2.2.2.2.2.2.1.1, p.2.2.2.2.2.2.1.2, p.2.2.2.2.2.2.2.1.1, p.2.2.2.2.2.2.2.1.2⟩ : En)) (fun _ => rfl) (fun p q => ⟨q.2.2.2.2.1, q.2.2.2.2.2.1, q.2.2.2.2.2.2.1, q.2.2.2.2.2.2.2.1⟩)
/-! ### whether they are few -/
/-- One that is too long. -/
def En.far (e : En) : Bool := decide (10 < e.good.length) || decide (10 < e.bad.length) || decide (10 < e.ops.length) || decide (300 < e.reply.length) || decide (300 < e.src.length) || decide (300 < e.dst.length)
set_option maxHeartbeats 2000000 in
set_option maxRecDepth 100000 in
theorem entries_fn {h : Heap} (e : En) (ok : e.ok h) :
    CallsH Tryz.prog 14 ⟨[.agg ⟨e.cells⟩]⟩ h fun u h' => u = .bool e.far ∧ Ext No h h' := by
  obtain ⟨kind, hide, src, dst, vg, good, vb, bad, vc, ops, vr, reply⟩ := e
  obtain ⟨⟨hg, _⟩, ⟨hb, _⟩, ⟨ho, _⟩, hr, _⟩ := ok
  simp only at hg hb ho hr
  obtain ⟨A1, c1, rfl, _⟩ := id hg
  obtain ⟨A2, c2, rfl, _⟩ := id hb
  obtain ⟨A3, c3, rfl, _⟩ := id ho
  obtain ⟨A4, c4, rfl, _⟩ := id hr
  dsimp only [En.cells]
  refine calls [(0, _)] Tryz.func14 rfl Tryz.ntmps14 rfl ⟨rfl, trivial⟩ ?_
  all_goals (refine WC.sr ?_)
  all_goals (refine WL.stepR (okE_box rfl) rfl rfl rfl ?_
             rintro _ h1 ⟨b1, rfl, hg1, hb1, hx1⟩)
  all_goals (refine Go ?_)
  all_goals (refine WC.sr ?_)
  all_goals (refine Go ?_)
  all_goals (refine WL.step (ok_load (fun w => Tryz.isAgg22 w) rfl (by first | assumption | exact cell_blk (by assumption) rfl)) rfl rfl rfl ?_)
  all_goals (refine Go ?_)
  all_goals (refine goP 7 ?_ ?_ <;> first | exact ⟨⟩ | refine Hb.mk fun hb => ?_ | skip)
  all_goals (refine Gg ?_)
  all_goals (first | (refine WL.pass rfl rfl rfl ?_) | (refine WL.step (ok_load (fun w => Tryz.isAgg22 w) rfl (by first | assumption | exact cell_blk (by assumption) rfl)) rfl rfl rfl ?_))
  all_goals (refine Gg ?_)
  all_goals (refine Go ?_)
  all_goals (refine goP 13 ?_ ?_ <;> first | exact ⟨⟩ | refine Hb.mk fun hb => ?_ | skip)
  all_goals (refine Gg ?_)
  all_goals (first | (refine WL.pass rfl rfl rfl ?_) | (refine WL.step (ok_load (fun w => Tryz.isAgg23 w) rfl (by first | assumption | exact cell_blk (by assumption) rfl)) rfl rfl rfl ?_))
  all_goals (refine Gg ?_)
  all_goals (refine Go ?_)
  all_goals (refine goP 19 ?_ ?_ <;> first | exact ⟨⟩ | refine Hb.mk fun hb => ?_ | skip)
  all_goals (refine Gg ?_)
  all_goals (first | (refine WL.pass rfl rfl rfl ?_) | (refine WL.step (ok_load (fun w => Tryz.isAgg24 w) rfl (by first | assumption | exact cell_blk (by assumption) rfl)) rfl rfl rfl ?_))
  all_goals (refine Gg ?_)
  all_goals (refine Go ?_)
  all_goals (refine goP 25 ?_ ?_ <;> first | exact ⟨⟩ | refine Hb.mk fun hb => ?_ | skip)
  all_goals (refine Gg ?_)
  all_goals (first | (refine WL.pass rfl rfl rfl ?_) | (refine WL.step (ok_load (fun w => Tryz.isAgg9 w) rfl (by first | assumption | exact cell_blk (by assumption) rfl)) rfl rfl rfl ?_))
  all_goals (refine Gg ?_)
  all_goals (refine Go ?_)
  all_goals (refine goP 31 ?_ ?_ <;> first | exact ⟨⟩ | refine Hb.mk fun hb => ?_ | skip)
  all_goals (refine Gg ?_)
  all_goals (first | (refine WL.pass rfl rfl rfl ?_) | (refine WL.step (ok_load (fun w => Tryz.isAgg9 w) rfl (by first | assumption | exact cell_blk (by assumption) rfl)) rfl rfl rfl ?_))
  all_goals (refine Gg ?_)
  all_goals (refine Go ?_)
  all_goals (refine WC.sub [(2, _)] ⟨rfl, trivial⟩ ?_)
  all_goals (refine WC.ret ?_)
  all_goals (repeat' (with_reducible first | refine thenP_r ?_ | refine blockP_r ?_))
  all_goals (refine retP_1 _ ⟨rfl, trivial⟩ ?_)
  all_goals (exact ⟨by first | (simp_all [En.far]; done) | (simp_all [En.far]; omega) | (have e1 : decide (10 < good.length) = false := decide_eq_false (by omega); have e2 : decide (10 < bad.length) = false := decide_eq_false (by omega); have e3 : decide (10 < ops.length) = false := decide_eq_false (by omega); have e4 : decide (300 < reply.length) = false := decide_eq_false (by omega); have e5 : decide (300 < src.length) = false := decide_eq_false (by omega); simp only [En.far, e1, e2, e3, e4, e5, Bool.false_or]; exact congrArg Value.bool (decide_eq_decide.2 (by omega))), hx1⟩)
set_option maxHeartbeats 2000000 in
set_option maxRecDepth 100000 in
theorem entries_idx {h : Heap} {v : Value} (L : List En) (hL : Ens h v L) :
    CallsH Tryz.prog 36 ⟨[v, .func (.func 14) ⟨[]⟩ ⟨[]⟩]⟩ h fun u h' => u = In (idxP En.far L) ∧ Ext No h h' := by
  obtain ⟨hr, hm, hok⟩ := hL
  obtain ⟨A, c, rfl, _⟩ := id hr
  unfold maxLen at hm
  refine calls [(0, _), (1, _)] Tryz.func36 rfl Tryz.ntmps36 rfl ⟨rfl, rfl, trivial⟩ ?_
  all_goals (refine WC.sr ?_)
  all_goals (refine Go ?_)
  all_goals (refine WC.seq ?_)
  all_goals (refine WC.sr ?_)
  all_goals (refine Go ?_)
  all_goals (refine WC.block ?_)
  -- loop 0: slots that turn [8], that stay [0, 1, 7]
  all_goals (refine WC.loopG (X := Nat) (fun x => ([(8, In (x : Int))] : Fr)) [(0, _), (1, _), (7, _)] (fun k h' => Ext No h h' ∧ k ≤ L.length ∧ ∀ x ∈ L.take k, En.far x = false) (fun k => L.length - k) (0) ⟨rfl, rfl, rfl, rfl, trivial⟩ (by exact ⟨.refl _ _, Nat.zero_le _, by simp⟩) ?_)
  all_goals (rintro k h1 ⟨hx1, hk, hn⟩)
  all_goals (refine WC.sub [(8, _), (0, _), (1, _), (7, _)] ⟨rfl, rfl, rfl, rfl, trivial⟩ ?_)
  all_goals (refine WC.sr ?_)
  all_goals (refine Go ?_)
  all_goals (refine WC.seq ?_)
  all_goals (refine goC 1 2 ?_ ?_ <;> first | exact ⟨⟩ | refine Hb.mk fun hb => ?_ | skip)
  all_goals (first | (fail_if_success refine goB 1 ?_) | (
  refine goB 1 ?_
  all_goals (refine WC.skip ?_)
  skip))
  all_goals (first | (fail_if_success refine goB 2 ?_) | (
  refine goB 2 ?_
  all_goals (refine WC.exit ?_)
  all_goals (repeat' (with_reducible first | refine thenP_x ?_ | refine blockP_miss rfl ?_ | refine blockP_hit ?_ | refine blockP_n ?_ | refine thenP_n ?_))
  all_goals (refine Br.out (i := 1000) ?_)
  skip))
  all_goals (refine Gn ?_)
  all_goals (first | (refine Br.keep ?_) | (refine WC.seq ?_))
  all_goals (first | (refine Br.keep ?_) | (refine WC.block ?_))
  all_goals (first | (refine Br.keep ?_) | (refine WC.sr ?_))
  all_goals (refine Go ?_)
  all_goals (first | (refine Br.keep ?_) | (refine WC.sr ?_))
  all_goals (first | (refine Br.keep ?_) | (refine WL.step (ok_move rfl) rfl rfl rfl ?_))
  all_goals (first | (refine Br.keep ?_) | (refine WL.step (ok_move rfl) rfl rfl rfl ?_))
  all_goals (first
               | (refine Br.keep ?_)
               | (obtain ⟨b, o, hA, hbL, hat⟩ := Rd.at_ (hr.ext0 hx1) (by omega)
                  obtain ⟨y, hy⟩ : ∃ y, L[k]? = some y := ⟨_, List.getElem?_eq_getElem (by omega)⟩
                  have hc : At h1 b (o + k * 8) y.cells := At.elem En.len hat hy))
  all_goals (first | (refine Br.keep ?_) | (refine WL.step (ok_move rfl) rfl rfl rfl ?_))
  all_goals (first | (refine Br.keep ?_) | (refine WL.step (ok_idxAddrA Tryz.underlying34 (fun w => Tryz.sizeOf26 w) rfl rfl rfl (by omega) (by first | rfl | assumption)) rfl rfl rfl ?_))
  all_goals (first | (refine Br.keep ?_) | (refine WL.step (ok_loadN (fun w => Tryz.isAgg26 w) (fun w => Tryz.sizeOf26 w) rfl rfl (by assumption)) rfl rfl rfl ?_))
  all_goals (first
               | (refine Br.keep ?_)
               | (refine WL.callT (vs := [_]) rfl rfl (fun a w => Tryz.call14 a w) rfl (entries_fn y ((hok y (List.mem_of_getElem? hy)).ext0 hx1)) rfl rfl rfl ?_
                  rintro _ h2 ⟨rfl, hx2⟩))
  all_goals (first | (refine Br.keep ?_) | (cases hpy : En.far y))
  all_goals (refine Gn ?_)
  all_goals (first | (refine Br.keep ?_) | (refine WC.sub [(0, _), (1, _), (5, _), (7, _), (8, _), (16, _)] ⟨rfl, rfl, rfl, rfl, rfl, rfl, trivial⟩ ?_))
  all_goals (first | (refine Br.keep ?_) | (refine goC 3 4 ?_ ?_ <;> first | exact ⟨⟩ | refine Hb.mk fun hb => ?_ | skip))
  all_goals (first | (fail_if_success refine goB 3 ?_) | (
  refine goB 3 ?_
  all_goals (refine WC.sr ?_)
  all_goals (refine Go ?_)
  all_goals (refine WC.sub [(4, _)] ⟨rfl, trivial⟩ ?_)
  all_goals (refine WC.ret ?_)
  all_goals (repeat' (with_reducible first | refine thenP_r ?_ | refine blockP_r ?_))
  all_goals (refine retP_1 _ ⟨rfl, trivial⟩ ?_)
  all_goals (first | exact ⟨by rw [idxP_no (by rw [List.take_of_length_le (by omega)] at hn; exact hn)], hx1⟩ | exact ⟨by rw [idxP_at hy hpy hn], hx1.trans hx2⟩)
  skip))
  all_goals (first | (fail_if_success refine goB 4 ?_) | (
  refine goB 4 ?_
  all_goals (refine WC.skip ?_)
  skip))
  all_goals (refine Gn ?_)
  all_goals (first | (refine Br.keep ?_) | (refine WC.region ?_))
  all_goals (refine Go ?_)
  all_goals (first | (refine Br.keep ?_) | (exact ⟨k + 1, ⟨rfl, rfl, rfl, rfl, trivial⟩, (by exact ⟨hx1.trans hx2, by omega, take_snoc_p hn hy hpy⟩), (by omega)⟩))
  all_goals (try (refine Br.mk (i := 1000) ?_))
  all_goals (refine Gn ?_)
  all_goals (refine WC.sub [] trivial ?_)
  all_goals (refine WC.sr ?_)
  all_goals (refine Go ?_)
  all_goals (refine WC.ret ?_)
  all_goals (repeat' (with_reducible first | refine thenP_r ?_ | refine blockP_r ?_))
  all_goals (refine retP_1 _ ⟨rfl, trivial⟩ ?_)
  all_goals (first | exact ⟨by rw [idxP_no (by rw [List.take_of_length_le (by omega)] at hn; exact hn)], hx1⟩ | exact ⟨by rw [idxP_at hy hpy hn], hx1.trans hx2⟩)
set_option maxHeartbeats 2000000 in
set_option maxRecDepth 100000 in
theorem entries_has {h : Heap} {v : Value} (L : List En) (hL : Ens h v L) :
    CallsH Tryz.prog 13 ⟨[v, .func (.func 14) ⟨[]⟩ ⟨[]⟩]⟩ h fun u h' => u = .bool (L.any En.far) ∧ Ext No h h' := by
  refine calls [(0, _), (1, _)] Tryz.func13 rfl Tryz.ntmps13 rfl ⟨rfl, rfl, trivial⟩ ?_
  all_goals (refine WC.sr ?_)
  all_goals (refine Go ?_)
  all_goals (refine WC.sr ?_)
  all_goals (refine Go ?_)
  all_goals (refine WL.call (vs := [_, _]) rfl (fun a w => Tryz.call36 a w) rfl (entries_idx L hL) rfl rfl rfl ?_
             rintro _ h1 ⟨rfl, hx1⟩)
  all_goals (refine WL.step (ok_geq rfl rfl) rfl rfl rfl ?_)
  all_goals (refine Go ?_)
  all_goals (refine WC.sub [(4, _)] ⟨rfl, trivial⟩ ?_)
  all_goals (refine WC.ret ?_)
  all_goals (repeat' (with_reducible first | refine thenP_r ?_ | refine blockP_r ?_))
  all_goals (refine retP_1 _ ⟨rfl, trivial⟩ ?_)
  all_goals (exact ⟨by rw [idxP_geq], hx1⟩)
/-- Few and short. -/
def fewE (L : List En) (n : Nat) : Bool := decide (L.length ≤ n) && !L.any En.far
set_option maxHeartbeats 2000000 in
set_option maxRecDepth 100000 in
theorem entries_any {h : Heap} {v : Value} (L : List En) (n : Nat) (hL : Ens h v L) :
    CallsH Tryz.prog 4 ⟨[v, In n]⟩ h fun u h' => u = .bool (fewE L n) ∧ Ext No h h' := by
  obtain ⟨A, c, rfl, _⟩ := id hL.1
  have hm := hL.2.1
  unfold maxLen at hm
  by_cases h0 : L.length ≤ n
  ·
    refine calls [(0, _), (1, _)] Tryz.func4 rfl Tryz.ntmps4 rfl ⟨rfl, rfl, trivial⟩ ?_
    all_goals (refine WC.sr ?_)
    all_goals (refine Go ?_)
    all_goals (refine WC.seq ?_)
    all_goals (refine WC.sr ?_)
    all_goals (refine Go ?_)
    all_goals (refine WC.sub [(0, _), (8, _)] ⟨rfl, rfl, trivial⟩ ?_)
    all_goals (refine goC 1 2 ?_ ?_ <;> first | exact ⟨⟩ | refine Hb.mk fun hb => ?_ | skip)
    all_goals (first | (fail_if_success refine goB 1 ?_) | (
    refine goB 1 ?_
    all_goals (refine WC.sr ?_)
    all_goals (refine Go ?_)
    all_goals (refine WC.ret ?_)
    all_goals (repeat' (with_reducible first | refine thenP_r ?_ | refine blockP_r ?_))
    all_goals (refine retP_1 _ ⟨rfl, trivial⟩ ?_)
    all_goals (exact ⟨by simp [fewE, h0], hx1⟩)
    skip))
    all_goals (first | (fail_if_success refine goB 2 ?_) | (
    refine goB 2 ?_
    all_goals (refine WC.skip ?_)
    skip))
    all_goals (refine Gn ?_)
    all_goals (refine WC.sr ?_)
    all_goals (refine Go ?_)
    all_goals (refine WL.call (vs := [_, _]) rfl (fun a w => Tryz.call13 a w) rfl (entries_has L hL) rfl rfl rfl ?_
               rintro _ h1 ⟨rfl, hx1⟩)
    all_goals (refine Go ?_)
    all_goals (refine WC.sub [(4, _)] ⟨rfl, trivial⟩ ?_)
    all_goals (refine WC.ret ?_)
    all_goals (repeat' (with_reducible first | refine thenP_r ?_ | refine blockP_r ?_))
    all_goals (refine retP_1 _ ⟨rfl, trivial⟩ ?_)
    all_goals (exact ⟨by simp [fewE, h0], hx1⟩)
  ·
    refine calls [(0, _), (1, _)] Tryz.func4 rfl Tryz.ntmps4 rfl ⟨rfl, rfl, trivial⟩ ?_
    all_goals (refine WC.sr ?_)
    all_goals (refine Go ?_)
    all_goals (refine WC.seq ?_)
    all_goals (refine WC.sr ?_)
    all_goals (refine Go ?_)
    all_goals (refine WC.sub [(0, _), (8, _)] ⟨rfl, rfl, trivial⟩ ?_)
    all_goals (refine goC 1 2 ?_ ?_ <;> first | exact ⟨⟩ | refine Hb.mk fun hb => ?_ | skip)
    all_goals (first | (fail_if_success refine goB 1 ?_) | (
    refine goB 1 ?_
    all_goals (refine WC.sr ?_)
    all_goals (refine Go ?_)
    all_goals (refine WC.ret ?_)
    all_goals (repeat' (with_reducible first | refine thenP_r ?_ | refine blockP_r ?_))
    all_goals (refine retP_1 _ ⟨rfl, trivial⟩ ?_)
    all_goals (exact ⟨by simp [fewE, h0], .refl _ _⟩)
    skip))
    all_goals (first | (fail_if_success refine goB 2 ?_) | (
    refine goB 2 ?_
    all_goals (refine WC.skip ?_)
    skip))
    all_goals (refine Gn ?_)
    all_goals (refine WC.sr ?_)
    all_goals (refine Go ?_)
    all_goals (fail "no contract for call of slices.ContainsFunc[[]remuda/api.Entry,remuda/api.Entry] at 3.1")
    all_goals (refine Go ?_)
    all_goals (refine WC.sub [(4, _)] ⟨rfl, trivial⟩ ?_)
    all_goals (refine WC.ret ?_)
    all_goals (repeat' (with_reducible first | refine thenP_r ?_ | refine blockP_r ?_))
    all_goals (refine retP_1 _ ⟨rfl, trivial⟩ ?_)
    all_goals (exact ⟨by simp [fewE, h0], .refl _ _⟩)
end Go.Proofs.YtbahigffjclpdaaGreatDoor


/-
  api.Back as it comes in; whether it is few.
-/
namespace Go.Proofs.YtbahigffjclpdaaGreatDoor
open Go Go.RK

theorem opens_col (w : World) : Opens Tryz.prog w 46 ColD.cells (fun _ => True) := by
  have h7 := opensF_cons (P := Tryz.prog) (w := w) (o := 6) (f := ⟨ "Format", 3, 6, false, "", "", 56⟩) rfl (opens_int Tryz.underlying3) (by kernel_rfl) (fun _ => rfl) opensF_nil
  have h6 := opensF_cons (P := Tryz.prog) (w := w) (o := 5) (f := ⟨ "Mod", 3, 5, false, "", "", 48⟩) rfl (opens_int Tryz.underlying3) (by kernel_rfl) (fun _ => rfl) h7
  have h5 := opensF_cons (P := Tryz.prog) (w := w) (o := 4) (f := ⟨ "Size", 3, 4, false, "", "", 40⟩) rfl (opens_int Tryz.underlying3) (by kernel_rfl) (fun _ => rfl) h6
  have h4 := opensF_cons (P := Tryz.prog) (w := w) (o := 3) (f := ⟨ "OID", 3, 3, false, "", "", 32⟩) rfl (opens_int Tryz.underlying3) (by kernel_rfl) (fun _ => rfl) h5
  have h3 := opensF_cons (P := Tryz.prog) (w := w) (o := 2) (f := ⟨ "Attr", 3, 2, false, "", "", 24⟩) rfl (opens_int Tryz.underlying3) (by kernel_rfl) (fun _ => rfl) h4
  have h2 := opensF_cons (P := Tryz.prog) (w := w) (o := 1) (f := ⟨ "Table", 3, 1, false, "", "", 16⟩) rfl (opens_int Tryz.underlying3) (by kernel_rfl) (fun _ => rfl) h3
  have h1 := opensF_cons (P := Tryz.prog) (w := w) (o := 0) (f := ⟨ "Name", 9, 0, false, "", "", 0⟩) rfl (opens_string Tryz.underlying9) (by kernel_rfl) (fun _ => rfl) h2
  exact (opens_struct Tryz.underlying46 (by kernel_rfl) h1).map (fun p => (⟨p.1, p.2.1, p.2.2.1, p.2.2.2.1, p.2.2.2.2.1, p.2.2.2.2.2.1, p.2.2.2.2.2.2.1⟩ : ColD)) (fun _ => rfl) (fun _ _ => trivial)
theorem opens_fld (w : World) : Opens Tryz.prog w 54 FieldD.cells (fun f => (Lit.int .u8 f.k).wf = true) := by
  have h2 := opensF_cons (P := Tryz.prog) (w := w) (o := 1) (f := ⟨ "Text", 9, 1, false, "", "", 8⟩) rfl (opens_string Tryz.underlying9) (by kernel_rfl) (fun _ => rfl) opensF_nil
  have h1 := opensF_cons (P := Tryz.prog) (w := w) (o := 0) (f := ⟨ "Code", 5, 0, false, "", "", 0⟩) rfl (opens_int Tryz.underlying5) (by kernel_rfl) (fun _ => rfl) h2
  exact (opens_struct Tryz.underlying54 (by kernel_rfl) h1).map (fun p => (⟨p.1, p.2.1⟩ : FieldD)) (fun _ => rfl) (fun p q => q.1)
theorem wf_u8 {n : Int} (h : (Lit.int .u8 n).wf = true) : 0 ≤ n ∧ n ≤ 255 := by simpa [Lit.wf, IntKind.min, IntKind.max, IntKind.signed, IntKind.bits] using h
/-- Numbers of a reply lie where their types have them lie. -/
structure Bk.wf (b : Bk) : Prop where
  kind : 0 ≤ b.kind ∧ b.kind ≤ 255
  status : 0 ≤ b.status ∧ b.status ≤ 255
  codes : ∀ f ∈ b.fields, 0 ≤ f.k ∧ f.k ≤ 255
theorem opens_bk (w : World) : Opens Tryz.prog w 32 Bk.cells (fun b => b.ok w.heap ∧ b.wf) := by
  have h11 := opensF_cons (P := Tryz.prog) (w := w) (o := 10) (f := ⟨ "Fields", 30, 10, false, "", "", 144⟩) rfl (opens_slice Tryz.underlying30 (by kernel_rfl) (by decide) FieldD.len (opens_fld w)) (by kernel_rfl) (fun _ => rfl) opensF_nil
  have h10 := opensF_cons (P := Tryz.prog) (w := w) (o := 9) (f := ⟨ "Row", 29, 9, false, "", "", 120⟩) rfl (opens_cells w) (by kernel_rfl) (fun _ => rfl) h11
  have h9 := opensF_cons (P := Tryz.prog) (w := w) (o := 8) (f := ⟨ "Cols", 28, 8, false, "", "", 96⟩) rfl (opens_slice Tryz.underlying28 (by kernel_rfl) (by decide) ColD.len (opens_col w)) (by kernel_rfl) (fun _ => rfl) h10
  have h8 := opensF_cons (P := Tryz.prog) (w := w) (o := 7) (f := ⟨ "OIDs", 27, 7, false, "", "", 72⟩) rfl (opens_slice (sz := 1) (F := fun n : Int => [In n]) Tryz.underlying27 (by kernel_rfl) (by decide) (fun _ => rfl) (opens_int Tryz.underlying3)) (by kernel_rfl) (fun _ => rfl) h9
  have h7 := opensF_cons (P := Tryz.prog) (w := w) (o := 6) (f := ⟨ "M", 3, 6, false, "", "", 64⟩) rfl (opens_int Tryz.underlying3) (by kernel_rfl) (fun _ => rfl) h8
  have h6 := opensF_cons (P := Tryz.prog) (w := w) (o := 5) (f := ⟨ "N", 3, 5, false, "", "", 56⟩) rfl (opens_int Tryz.underlying3) (by kernel_rfl) (fun _ => rfl) h7
  have h5 := opensF_cons (P := Tryz.prog) (w := w) (o := 4) (f := ⟨ "Value", 9, 4, false, "", "", 40⟩) rfl (opens_string Tryz.underlying9) (by kernel_rfl) (fun _ => rfl) h6
  have h4 := opensF_cons (P := Tryz.prog) (w := w) (o := 3) (f := ⟨ "Name", 9, 3, false, "", "", 24⟩) rfl (opens_string Tryz.underlying9) (by kernel_rfl) (fun _ => rfl) h5
  have h3 := opensF_cons (P := Tryz.prog) (w := w) (o := 2) (f := ⟨ "Tag", 9, 2, false, "", "", 8⟩) rfl (opens_string Tryz.underlying9) (by kernel_rfl) (fun _ => rfl) h4
  have h2 := opensF_cons (P := Tryz.prog) (w := w) (o := 1) (f := ⟨ "Status", 5, 1, false, "", "", 1⟩) rfl (opens_int Tryz.underlying5) (by kernel_rfl) (fun _ => rfl) h3
  have h1 := opensF_cons (P := Tryz.prog) (w := w) (o := 0) (f := ⟨ "Kind", 5, 0, false, "", "", 0⟩) rfl (opens_int Tryz.underlying5) (by kernel_rfl) (fun _ => rfl) h2
  have h0 := opens_struct Tryz.underlying32 (by kernel_rfl) h1
  refine h0.map (fun p => (⟨p.1, p.2.1, p.2.2.1, p.2.2.2.1, p.2.2.2.2.1, p.2.2.2.2.2.1, p.2.2.2.2.2.2.1, p.2.2.2.2.2.2.2.1.1, p.2.2.2.2.2.2.2.1.2, p.2.2.2.2.2.2.2.2.1.1, p.2.2.2.2.2.2.2.2.1.2, p.2.2.2.2.2.2.2.2.2.1.1, p.2.2.2.2.2.2.2.2.2.1.2, p.2.2.2.2.2.2.2.2.2.2.1.1, p.2.2.2.2.2.2.2.2.2.2.1.2⟩ : Bk)) (fun _ => rfl) (fun p q => ?_)
  obtain ⟨q1, q2, q3, q4, q5, q6, q7, q8, q9, q10, q11, _⟩ := q
  refine ⟨⟨⟨?_, q8.2.1⟩, ⟨q9.1, q9.2.1⟩, q10, ⟨q11.1, q11.2.1⟩⟩, ⟨wf_u8 q1, wf_u8 q2, fun f hf => wf_u8 (q11.2.2.2.1 f hf)⟩⟩
  have := q8.1
  rw [flat_one] at this
  exact this

/-! ### few -/
structure Bk.few (b : Bk) : Prop where
  oids : b.oids.length ≤ 50
  cols : b.cols.length ≤ 50
  row : b.row.length ≤ 50
  fields : b.fields.length ≤ 50
  names : ∀ c ∈ b.cols, c.nm.length ≤ 300
  cells : ∀ c ∈ b.row, c.bytes.length ≤ 300
  texts : ∀ f ∈ b.fields, f.t.length ≤ 1000
  tag : b.tag.length ≤ 300
  name : b.name.length ≤ 300
  value : b.value.length ≤ 300
set_option maxHeartbeats 2000000 in
set_option maxRecDepth 100000 in
theorem bk1 {h : Heap} (c : ColD) : CallsH Tryz.prog 16 ⟨[.agg ⟨c.cells⟩]⟩ h fun u h' => u = .bool (decide (300 < c.nm.length)) ∧ Ext No h h' := by
  obtain ⟨nm, t, a, o, s, m, f⟩ := c
  dsimp only [ColD.cells]
  refine calls [(0, _)] Tryz.func16 rfl Tryz.ntmps16 rfl ⟨rfl, trivial⟩ ?_
  all_goals (refine WC.sr ?_)
  all_goals (refine WL.stepR (okE_box rfl) rfl rfl rfl ?_
             rintro _ h1 ⟨b1, rfl, hg1, hb1, hx1⟩)
  all_goals (refine Go ?_)
  all_goals (refine WC.sr ?_)
  all_goals (refine Go ?_)
  all_goals (refine WL.step (ok_load (fun w => Tryz.isAgg9 w) rfl (by first | assumption | exact cell_blk (by assumption) rfl)) rfl rfl rfl ?_)
  all_goals (refine Go ?_)
  all_goals (refine WC.sub [(2, _)] ⟨rfl, trivial⟩ ?_)
  all_goals (refine WC.ret ?_)
  all_goals (repeat' (with_reducible first | refine thenP_r ?_ | refine blockP_r ?_))
  all_goals (refine retP_1 _ ⟨rfl, trivial⟩ ?_)
  all_goals (exact ⟨congrArg Value.bool (decide_eq_decide.2 (by omega)), hx1⟩)
set_option maxHeartbeats 2000000 in
set_option maxRecDepth 100000 in
theorem bk2 {h h0 : Heap} (c : Cel) (hk : c.ok h0) : CallsH Tryz.prog 18 ⟨[.agg ⟨c.cells⟩]⟩ h fun u h' => u = .bool (decide (300 < c.bytes.length)) ∧ Ext No h h' := by
  obtain ⟨nl, v, bs⟩ := c
  obtain ⟨A, cc, e, _⟩ := hk.1
  simp only at e
  subst e
  dsimp only [Cel.cells]
  refine calls [(0, _)] Tryz.func18 rfl Tryz.ntmps18 rfl ⟨rfl, trivial⟩ ?_
  all_goals (refine WC.sr ?_)
  all_goals (refine WL.stepR (okE_box rfl) rfl rfl rfl ?_
             rintro _ h1 ⟨b1, rfl, hg1, hb1, hx1⟩)
  all_goals (refine Go ?_)
  all_goals (refine WC.sr ?_)
  all_goals (refine Go ?_)
  all_goals (refine WL.step (ok_load (fun w => Tryz.isAgg24 w) rfl (by first | assumption | exact cell_blk (by assumption) rfl)) rfl rfl rfl ?_)
  all_goals (refine Go ?_)
  all_goals (refine WC.sub [(2, _)] ⟨rfl, trivial⟩ ?_)
  all_goals (refine WC.ret ?_)
  all_goals (repeat' (with_reducible first | refine thenP_r ?_ | refine blockP_r ?_))
  all_goals (refine retP_1 _ ⟨rfl, trivial⟩ ?_)
  all_goals (exact ⟨congrArg Value.bool (decide_eq_decide.2 (by omega)), hx1⟩)
set_option maxHeartbeats 2000000 in
set_option maxRecDepth 100000 in
theorem bk3 {h : Heap} (c : FieldD) : CallsH Tryz.prog 20 ⟨[.agg ⟨c.cells⟩]⟩ h fun u h' => u = .bool (decide (1000 < c.t.length)) ∧ Ext No h h' := by
  obtain ⟨k, t⟩ := c
  dsimp only [FieldD.cells]
  refine calls [(0, _)] Tryz.func20 rfl Tryz.ntmps20 rfl ⟨rfl, trivial⟩ ?_
  all_goals (refine WC.sr ?_)
  all_goals (refine WL.stepR (okE_box rfl) rfl rfl rfl ?_
             rintro _ h1 ⟨b1, rfl, hg1, hb1, hx1⟩)
  all_goals (refine Go ?_)
  all_goals (refine WC.sr ?_)
  all_goals (refine Go ?_)
  all_goals (refine WL.step (ok_load (fun w => Tryz.isAgg9 w) rfl (by first | assumption | exact cell_blk (by assumption) rfl)) rfl rfl rfl ?_)
  all_goals (refine Go ?_)
  all_goals (refine WC.sub [(2, _)] ⟨rfl, trivial⟩ ?_)
  all_goals (refine WC.ret ?_)
  all_goals (repeat' (with_reducible first | refine thenP_r ?_ | refine blockP_r ?_))
  all_goals (refine retP_1 _ ⟨rfl, trivial⟩ ?_)
  all_goals (exact ⟨congrArg Value.bool (decide_eq_decide.2 (by omega)), hx1⟩)
theorem any_le {α : Type} {l : List α} {f : α → Nat} {n : Nat} (h : (l.any fun x => decide (n < f x)) = false) : ∀ x ∈ l, f x ≤ n := fun x hx => by
  have := List.any_eq_false.1 h x hx
  simpa using this
set_option maxHeartbeats 4000000 in
set_option maxRecDepth 100000 in
theorem plain_back {h : Heap} (b : Bk) (hb : b.ok h) : CallsH Tryz.prog 5 ⟨[.agg ⟨b.cells⟩]⟩ h fun u h' => (∃ x, u = .bool x ∧ (x = true → b.few)) ∧ Ext No h h' := by
  obtain ⟨⟨ho, _⟩, ⟨hc, hcm⟩, hr, hf, hfm⟩ := hb
  obtain ⟨k, st, t, n, v, x, y, vo, lo, vc, lc, vr, lr, vf, lf⟩ := b
  dsimp only at ho hc hr hf hcm hfm
  obtain ⟨hr0, hr1, hr2⟩ := hr
  have hrm : lr.length ≤ maxLen := by have := hr1.1; unfold reachBytes at this; unfold maxLen; omega
  obtain ⟨Ao, co, rfl, _⟩ := id ho
  obtain ⟨Ac, cc, rfl, _⟩ := id hc
  obtain ⟨Ar, cr, rfl, _⟩ := id hr0
  obtain ⟨Af, cf, rfl, _⟩ := id hf
  dsimp only [Bk.cells]
  refine calls [(0, _)] Tryz.func5 rfl Tryz.ntmps5 rfl ⟨rfl, trivial⟩ ?_
  all_goals (refine WC.sr ?_)
  all_goals (refine WL.stepR (okE_box rfl) rfl rfl rfl ?_
             rintro _ g1 ⟨b1, rfl, hg1, hb1, hX1⟩)
  all_goals (refine Go ?_)
  all_goals (refine WC.seq ?_)
  all_goals (refine WC.sr ?_)
  all_goals (refine Go ?_)
  all_goals (refine WL.step (ok_load (fun w => Tryz.isAgg27 w) rfl (by first | assumption | exact cell_blk (by assumption) rfl)) rfl rfl rfl ?_)
  all_goals (refine Go ?_)
  all_goals (refine goP 8 ?_ ?_ <;> first | exact ⟨⟩ | refine Hb.mk fun hb => ?_ | skip)
  all_goals (refine Gg ?_)
  all_goals (first | (refine WL.pass rfl rfl rfl ?_) | (refine WL.step (ok_load (fun w => Tryz.isAgg28 w) rfl (by first | assumption | exact cell_blk (by assumption) rfl)) rfl rfl rfl ?_))
  all_goals (refine Gg ?_)
  all_goals (refine Go ?_)
  all_goals (refine goP 14 ?_ ?_ <;> first | exact ⟨⟩ | refine Hb.mk fun hb => ?_ | skip)
  all_goals (refine Gg ?_)
  all_goals (first | (refine WL.pass rfl rfl rfl ?_) | (refine WL.step (ok_load (fun w => Tryz.isAgg29 w) rfl (by first | assumption | exact cell_blk (by assumption) rfl)) rfl rfl rfl ?_))
  all_goals (refine Gg ?_)
  all_goals (refine Go ?_)
  all_goals (refine goP 20 ?_ ?_ <;> first | exact ⟨⟩ | refine Hb.mk fun hb => ?_ | skip)
  all_goals (refine Gg ?_)
  all_goals (first | (refine WL.pass rfl rfl rfl ?_) | (refine WL.step (ok_load (fun w => Tryz.isAgg30 w) rfl (by first | assumption | exact cell_blk (by assumption) rfl)) rfl rfl rfl ?_))
  all_goals (refine Gg ?_)
  all_goals (refine Go ?_)
  all_goals (refine WC.sub [(1, _), (25, _)] ⟨rfl, rfl, trivial⟩ ?_)
  all_goals (refine goC 1 2 ?_ ?_ <;> first | exact ⟨⟩ | refine Hb.mk fun hb => ?_ | skip)
  all_goals (first | (fail_if_success refine goB 1 ?_) | (
  refine goB 1 ?_
  all_goals (refine WC.sr ?_)
  all_goals (refine Go ?_)
  all_goals (refine WC.ret ?_)
  all_goals (repeat' (with_reducible first | refine thenP_r ?_ | refine blockP_r ?_))
  all_goals (refine retP_1 _ ⟨rfl, trivial⟩ ?_)
  all_goals (first
              | (refine ⟨⟨false, rfl, fun z => by cases z⟩, ?_⟩
                 first | exact hX4 | exact hX3 | exact hX2 | exact hX1)
              | (refine ⟨⟨_, rfl, fun z => ?_⟩, hX4⟩
                 have z2 := of_decide_eq_true z
                 exact ⟨(by show lo.length ≤ 50; omega), (by show lc.length ≤ 50; omega), (by show lr.length ≤ 50; omega), (by show lf.length ≤ 50; omega), any_le ha1, any_le ha2, any_le ha3, (by show t.length ≤ 300; omega), (by show n.length ≤ 300; omega), (by show v.length ≤ 300; omega)⟩))
  skip))
  all_goals (first | (fail_if_success refine goB 2 ?_) | (
  refine goB 2 ?_
  all_goals (refine WC.skip ?_)
  skip))
  all_goals (refine Gn ?_)
  all_goals (refine WC.sr ?_)
  all_goals (refine Go ?_)
  all_goals (refine WL.step (ok_load (fun w => Tryz.isAgg28 w) rfl (by first | exact cell_blk hb1 rfl | assumption | exact cell_blk (by assumption) rfl)) rfl rfl rfl ?_)
  all_goals (refine WL.call (vs := [_, _]) rfl (fun a w => Tryz.call15 a w) rfl (has_col lc (fun c => decide (300 < c.nm.length)) (fun a w => Tryz.call16 a w) (fs := []) (us := []) (hc.ext0 hX1) hcm (fun x hx h' hx' => bk1 x)) rfl rfl rfl ?_
             rintro _ g2 ⟨rfl, hx2⟩)
  all_goals (have hb2 := hx2.obj hb1 nos
             have hX2 := hX1.trans hx2
             cases ha1 : lc.any fun c => decide (300 < c.nm.length))
  all_goals (refine Go ?_)
  all_goals (refine goP 29 ?_ ?_ <;> first | exact ⟨⟩ | refine Hb.mk fun hb => ?_ | skip)
  all_goals (refine Gg ?_)
  all_goals (first | (refine WL.pass rfl rfl rfl ?_) | (refine WL.step (ok_load (fun w => Tryz.isAgg29 w) rfl (by first | exact cell_blk hb2 rfl | assumption | exact cell_blk (by assumption) rfl)) rfl rfl rfl ?_))
  all_goals (first
               | (refine WL.pass rfl rfl rfl ?_)
               | (refine WL.call (vs := [_, _]) rfl (fun a w => Tryz.call17 a w) rfl (has_cel lr (fun c => decide (300 < c.bytes.length)) (fun a w => Tryz.call18 a w) (fs := []) (us := []) (hr0.ext0 hX2) hrm (fun x hx h' hx' => bk2 x (hr2 x hx))) rfl rfl rfl ?_
                  rintro _ g3 ⟨rfl, hx3⟩))
  all_goals (first
              | (have hb3 := hx3.obj hb2 nos
                 have hX3 := hX2.trans hx3
                 cases ha2 : lr.any fun c => decide (300 < c.bytes.length))
              | skip)
  all_goals (refine Go ?_)
  all_goals (refine WC.sub [(1, _), (3, _)] ⟨rfl, rfl, trivial⟩ ?_)
  all_goals (refine WC.sr ?_)
  all_goals (refine Go ?_)
  all_goals (refine goP 35 ?_ ?_ <;> first | exact ⟨⟩ | refine Hb.mk fun hb => ?_ | skip)
  all_goals (refine Gg ?_)
  all_goals (first | (refine WL.pass rfl rfl rfl ?_) | (refine WL.step (ok_load (fun w => Tryz.isAgg30 w) rfl (by first | exact (by first | exact cell_blk hb3 rfl | exact cell_blk hb2 rfl) | assumption | exact cell_blk (by assumption) rfl)) rfl rfl rfl ?_))
  all_goals (first
               | (refine WL.pass rfl rfl rfl ?_)
               | (refine WL.call (vs := [_, _]) rfl (fun a w => Tryz.call19 a w) rfl (has_fld lf (fun c => decide (1000 < c.t.length)) (fun a w => Tryz.call20 a w) (fs := []) (us := []) (hf.ext0 (by first | exact hX3 | exact hX2)) hfm (fun x hx h' hx' => bk3 x)) rfl rfl rfl ?_
                  rintro _ g4 ⟨rfl, hx4⟩))
  all_goals (first
              | (have hb4 := hx4.obj hb3 nos
                 have hX4 := hX3.trans hx4
                 cases ha3 : lf.any fun c => decide (1000 < c.t.length))
              | skip)
  all_goals (refine Go ?_)
  all_goals (refine WC.sub [(1, _), (3, _)] ⟨rfl, rfl, trivial⟩ ?_)
  all_goals (refine WC.sr ?_)
  all_goals (refine Go ?_)
  all_goals (refine goP 42 ?_ ?_ <;> first | exact ⟨⟩ | refine Hb.mk fun hb => ?_ | skip)
  all_goals (refine Gg ?_)
  all_goals (first | (refine WL.pass rfl rfl rfl ?_) | (refine WL.step (ok_load (fun w => Tryz.isAgg9 w) rfl (by first | exact (by first | exact cell_blk hb4 rfl | exact cell_blk hb3 rfl | exact cell_blk hb2 rfl) | assumption | exact cell_blk (by assumption) rfl)) rfl rfl rfl ?_))
  all_goals (refine Gg ?_)
  all_goals (refine Go ?_)
  all_goals (refine goP 48 ?_ ?_ <;> first | exact ⟨⟩ | refine Hb.mk fun hb => ?_ | skip)
  all_goals (refine Gg ?_)
  all_goals (first | (refine WL.pass rfl rfl rfl ?_) | (refine WL.step (ok_load (fun w => Tryz.isAgg9 w) rfl (by first | exact (by first | exact cell_blk hb4 rfl | exact cell_blk hb3 rfl | exact cell_blk hb2 rfl) | assumption | exact cell_blk (by assumption) rfl)) rfl rfl rfl ?_))
  all_goals (refine Gg ?_)
  all_goals (refine Go ?_)
  all_goals (refine goP 54 ?_ ?_ <;> first | exact ⟨⟩ | refine Hb.mk fun hb => ?_ | skip)
  all_goals (refine Gg ?_)
  all_goals (first | (refine WL.pass rfl rfl rfl ?_) | (refine WL.step (ok_load (fun w => Tryz.isAgg9 w) rfl (by first | exact (by first | exact cell_blk hb4 rfl | exact cell_blk hb3 rfl | exact cell_blk hb2 rfl) | assumption | exact cell_blk (by assumption) rfl)) rfl rfl rfl ?_))
  all_goals (refine Gg ?_)
  all_goals (refine Go ?_)
  all_goals (refine WC.sub [(2, _)] ⟨rfl, trivial⟩ ?_)
  all_goals (refine WC.ret ?_)
  all_goals (repeat' (with_reducible first | refine thenP_r ?_ | refine blockP_r ?_))
  all_goals (refine retP_1 _ ⟨rfl, trivial⟩ ?_)
  all_goals (first
              | (refine ⟨⟨false, rfl, fun z => by cases z⟩, ?_⟩
                 first | exact hX4 | exact hX3 | exact hX2 | exact hX1)
              | (refine ⟨⟨_, rfl, fun z => ?_⟩, hX4⟩
                 have z2 := of_decide_eq_true z
                 exact ⟨(by show lo.length ≤ 50; omega), (by show lc.length ≤ 50; omega), (by show lr.length ≤ 50; omega), (by show lf.length ≤ 50; omega), any_le ha1, any_le ha2, any_le ha3, (by show t.length ≤ 300; omega), (by show n.length ≤ 300; omega), (by show v.length ≤ 300; omega)⟩))
end Go.Proofs.YtbahigffjclpdaaGreatDoor


/-
  REPLIES (layer 7): back.Same and back.Check, of any reply that is short.
-/
namespace Go.Proofs.YtbahigffjclpdaaGreatDoor
open Go Go.RK

set_option maxHeartbeats 2000000 in
set_option maxRecDepth 100000 in
theorem eqlA_col {h : Heap} {v w : Value} (l m : List ColD) (hr : Rd h v 7 l.length (l.flatMap ColD.cells)) (hs : Rd h w 7 m.length (m.flatMap ColD.cells)) (hml : l.length ≤ maxLen) (hmm : m.length ≤ maxLen) :
    CallsH Tryz.prog 25 ⟨[v, w]⟩ h fun u h' => u = .bool (decide (l = m)) ∧ h' = h := by
  obtain ⟨A, c, rfl, _⟩ := id hr
  obtain ⟨B, d, rfl, _⟩ := id hs
  unfold maxLen at hml hmm
  refine calls [(0, _), (1, _)] Tryz.func25 rfl Tryz.ntmps25 rfl ⟨rfl, rfl, trivial⟩ ?_
  all_goals (refine WC.sr ?_)
  all_goals (refine Go ?_)
  all_goals (refine WC.seq ?_)
  all_goals (refine WC.sr ?_)
  all_goals (refine Go ?_)
  all_goals (refine WC.sub [(0, _), (1, _), (10, _)] ⟨rfl, rfl, rfl, trivial⟩ ?_)
  all_goals (refine goC 1 2 ?_ ?_ <;> first | exact ⟨⟩ | refine Hb.mk fun hb => ?_ | skip)
  all_goals (first | (fail_if_success refine goB 1 ?_) | (
  refine goB 1 ?_
  all_goals (refine WC.sr ?_)
  all_goals (refine Go ?_)
  all_goals (refine WC.ret ?_)
  all_goals (repeat' (with_reducible first | refine thenP_r ?_ | refine blockP_r ?_))
  all_goals (refine retP_1 _ ⟨rfl, trivial⟩ ?_)
  all_goals (first
              | exact ⟨by rw [decide_eq_false (fun e => by subst e; omega)], rfl⟩
              | exact ⟨by rw [decide_eq_false (fun e => hyz (by subst e; rw [hy] at hz; exact Option.some.inj hz))], rfl⟩
              | exact ⟨by rw [decide_eq_true (by rw [List.take_of_length_le (by omega), List.take_of_length_le (by omega)] at hn; exact hn)], rfl⟩)
  skip))
  all_goals (first | (fail_if_success refine goB 2 ?_) | (
  refine goB 2 ?_
  all_goals (refine WC.skip ?_)
  skip))
  all_goals (refine Gn ?_)
  all_goals (refine WC.seq ?_)
  all_goals (refine WC.sr ?_)
  all_goals (refine Go ?_)
  all_goals (refine WC.block ?_)
  -- loop 0: slots that turn [13], that stay [0, 1, 12]
  all_goals (refine WC.loopG (X := Nat) (fun x => ([(13, In (x : Int))] : Fr)) [(0, _), (1, _), (12, _)] (fun k h' => h' = h ∧ k ≤ l.length ∧ l.length = m.length ∧ l.take k = m.take k) (fun k => l.length - k) (0) ⟨rfl, rfl, rfl, rfl, trivial⟩ (by exact ⟨rfl, Nat.zero_le _, by omega, by simp⟩) ?_)
  all_goals (rintro k h9 ⟨hz, hk, hlm, hn⟩
             subst h9)
  all_goals (refine WC.sub [(13, _), (0, _), (1, _), (12, _)] ⟨rfl, rfl, rfl, rfl, trivial⟩ ?_)
  all_goals (refine WC.sr ?_)
  all_goals (refine Go ?_)
  all_goals (refine WC.seq ?_)
  all_goals (refine goC 3 4 ?_ ?_ <;> first | exact ⟨⟩ | refine Hb.mk fun hb => ?_ | skip)
  all_goals (first | (fail_if_success refine goB 3 ?_) | (
  refine goB 3 ?_
  all_goals (refine WC.skip ?_)
  skip))
  all_goals (first | (fail_if_success refine goB 4 ?_) | (
  refine goB 4 ?_
  all_goals (refine WC.exit ?_)
  all_goals (repeat' (with_reducible first | refine thenP_x ?_ | refine blockP_miss rfl ?_ | refine blockP_hit ?_ | refine blockP_n ?_ | refine thenP_n ?_))
  all_goals (refine Br.out (i := 1000) ?_)
  skip))
  all_goals (refine Gn ?_)
  all_goals (first | (refine Br.keep ?_) | (refine WC.seq ?_))
  all_goals (first | (refine Br.keep ?_) | (refine WC.block ?_))
  all_goals (first | (refine Br.keep ?_) | (refine WC.sr ?_))
  all_goals (first
               | (refine Br.keep ?_)
               | (obtain ⟨bL, oL, hA, hbL, hat⟩ := Rd.at_ hr (by omega)
                  obtain ⟨bM, oM, hB, hbM, hbt⟩ := Rd.at_ hs (by omega)
                  obtain ⟨y, hy⟩ : ∃ y, l[k]? = some y := ⟨_, List.getElem?_eq_getElem (by omega)⟩
                  obtain ⟨z, hz⟩ : ∃ z, m[k]? = some z := ⟨_, List.getElem?_eq_getElem (by omega)⟩
                  have at1 : At h bL (oL + k * 7) (ColD.cells y) := At.elem ColD.len hat hy
                  have at2 : At h bM (oM + k * 7) (ColD.cells z) := At.elem ColD.len hbt hz
                  by_cases hyz : y = z))
  all_goals (first | (refine Br.keep ?_) | (refine WL.step (ok_move rfl) rfl rfl rfl ?_))
  all_goals (refine Go ?_)
  all_goals (first | (refine Br.keep ?_) | (refine WC.seq ?_))
  all_goals (first | (refine Br.keep ?_) | (refine WC.drawE fol (by kernel_rfl) ?_))
  all_goals (first | (refine Br.keep ?_) | (refine WQ.stepE (ok_move rfl) rfl rfl rfl ?_))
  all_goals (first | (refine Br.keep ?_) | (refine WQ.stepE (ok_move rfl) rfl rfl rfl ?_))
  all_goals (first | (refine Br.keep ?_) | (refine WQ.stepE (ok_idxAddrA Tryz.underlying28 (fun w => Tryz.sizeOf46 w) rfl rfl rfl (by omega) (by first | rfl | assumption)) rfl rfl rfl ?_))
  all_goals (first | (refine Br.keep ?_) | (refine WQ.stepE (ok_loadN (fun w => Tryz.isAgg46 w) (fun w => Tryz.sizeOf46 w) rfl rfl (by assumption)) rfl rfl rfl ?_))
  all_goals (first | (refine Br.keep ?_) | (refine WQ.stepE (ok_move rfl) rfl rfl rfl ?_))
  all_goals (first | (refine Br.keep ?_) | (refine WQ.stepE (ok_move rfl) rfl rfl rfl ?_))
  all_goals (first | (refine Br.keep ?_) | (refine WQ.stepE (ok_idxAddrA Tryz.underlying28 (fun w => Tryz.sizeOf46 w) rfl rfl rfl (by omega) (by first | rfl | assumption)) rfl rfl rfl ?_))
  all_goals (first | (refine Br.keep ?_) | (refine WQ.stepE (ok_loadN (fun w => Tryz.isAgg46 w) (fun w => Tryz.sizeOf46 w) rfl rfl (by assumption)) rfl rfl rfl ?_))
  all_goals (first | (refine Br.keep ?_) | (first | (refine WQ.stepE (OkP.nbool_f (congrArg (·.sca) hyz) (ok_neqF (us := y.sca) (vs := z.sca) ([.s, .i .i64, .i .i64, .i .i64, .i .i64, .i .i64, .i .i64]) (by kernel_rfl) rfl rfl rfl rfl)) rfl rfl rfl ?_) | (refine WQ.stepE (OkP.nbool_t (fun e => hyz ((ColD.inj _ _).1 e)) (ok_neqF (us := y.sca) (vs := z.sca) ([.s, .i .i64, .i .i64, .i .i64, .i .i64, .i .i64, .i .i64]) (by kernel_rfl) rfl rfl rfl rfl)) rfl rfl rfl ?_)))
  all_goals (first | (refine Br.keep ?_) | (refine WQ.nil ?_))
  all_goals (refine Gn ?_)
  all_goals (first | (refine Br.keep ?_) | (refine WC.sub [(0, _), (1, _), (12, _), (13, _), (24, _)] ⟨rfl, rfl, rfl, rfl, rfl, trivial⟩ ?_))
  all_goals (first | (refine Br.keep ?_) | (refine goC 5 6 ?_ ?_ <;> first | exact ⟨⟩ | refine Hb.mk fun hb => ?_ | skip))
  all_goals (first | (fail_if_success refine goB 5 ?_) | (
  refine goB 5 ?_
  all_goals (refine WC.sr ?_)
  all_goals (refine Go ?_)
  all_goals (refine WC.sub [(4, _)] ⟨rfl, trivial⟩ ?_)
  all_goals (refine WC.ret ?_)
  all_goals (repeat' (with_reducible first | refine thenP_r ?_ | refine blockP_r ?_))
  all_goals (refine retP_1 _ ⟨rfl, trivial⟩ ?_)
  all_goals (first
              | exact ⟨by rw [decide_eq_false (fun e => by subst e; omega)], rfl⟩
              | exact ⟨by rw [decide_eq_false (fun e => hyz (by subst e; rw [hy] at hz; exact Option.some.inj hz))], rfl⟩
              | exact ⟨by rw [decide_eq_true (by rw [List.take_of_length_le (by omega), List.take_of_length_le (by omega)] at hn; exact hn)], rfl⟩)
  skip))
  all_goals (first | (fail_if_success refine goB 6 ?_) | (
  refine goB 6 ?_
  all_goals (refine WC.skip ?_)
  skip))
  all_goals (refine Gn ?_)
  all_goals (first | (refine Br.keep ?_) | (refine WC.region ?_))
  all_goals (refine Go ?_)
  all_goals (first | (refine Br.keep ?_) | (exact ⟨k + 1, ⟨rfl, rfl, rfl, rfl, trivial⟩, (by exact ⟨rfl, by omega, hlm, by rw [List.take_add_one, List.take_add_one, hn, hy, hz, hyz]⟩), (by omega)⟩))
  all_goals (try (refine Br.mk (i := 1000) ?_))
  all_goals (refine Gn ?_)
  all_goals (refine WC.sub [] trivial ?_)
  all_goals (refine WC.sr ?_)
  all_goals (refine Go ?_)
  all_goals (refine WC.ret ?_)
  all_goals (repeat' (with_reducible first | refine thenP_r ?_ | refine blockP_r ?_))
  all_goals (refine retP_1 _ ⟨rfl, trivial⟩ ?_)
  all_goals (first
              | exact ⟨by rw [decide_eq_false (fun e => by subst e; omega)], rfl⟩
              | exact ⟨by rw [decide_eq_false (fun e => hyz (by subst e; rw [hy] at hz; exact Option.some.inj hz))], rfl⟩
              | exact ⟨by rw [decide_eq_true (by rw [List.take_of_length_le (by omega), List.take_of_length_le (by omega)] at hn; exact hn)], rfl⟩)

set_option maxHeartbeats 2000000 in
set_option maxRecDepth 100000 in
theorem eqlA_fld {h : Heap} {v w : Value} (l m : List FieldD) (hr : Rd h v 2 l.length (l.flatMap FieldD.cells)) (hs : Rd h w 2 m.length (m.flatMap FieldD.cells)) (hml : l.length ≤ maxLen) (hmm : m.length ≤ maxLen) :
    CallsH Tryz.prog 26 ⟨[v, w]⟩ h fun u h' => u = .bool (decide (l = m)) ∧ h' = h := by
  obtain ⟨A, c, rfl, _⟩ := id hr
  obtain ⟨B, d, rfl, _⟩ := id hs
  unfold maxLen at hml hmm
  refine calls [(0, _), (1, _)] Tryz.func26 rfl Tryz.ntmps26 rfl ⟨rfl, rfl, trivial⟩ ?_
  all_goals (refine WC.sr ?_)
  all_goals (refine Go ?_)
  all_goals (refine WC.seq ?_)
  all_goals (refine WC.sr ?_)
  all_goals (refine Go ?_)
  all_goals (refine WC.sub [(0, _), (1, _), (10, _)] ⟨rfl, rfl, rfl, trivial⟩ ?_)
  all_goals (refine goC 1 2 ?_ ?_ <;> first | exact ⟨⟩ | refine Hb.mk fun hb => ?_ | skip)
  all_goals (first | (fail_if_success refine goB 1 ?_) | (
  refine goB 1 ?_
  all_goals (refine WC.sr ?_)
  all_goals (refine Go ?_)
  all_goals (refine WC.ret ?_)
  all_goals (repeat' (with_reducible first | refine thenP_r ?_ | refine blockP_r ?_))
  all_goals (refine retP_1 _ ⟨rfl, trivial⟩ ?_)
  all_goals (first
              | exact ⟨by rw [decide_eq_false (fun e => by subst e; omega)], rfl⟩
              | exact ⟨by rw [decide_eq_false (fun e => hyz (by subst e; rw [hy] at hz; exact Option.some.inj hz))], rfl⟩
              | exact ⟨by rw [decide_eq_true (by rw [List.take_of_length_le (by omega), List.take_of_length_le (by omega)] at hn; exact hn)], rfl⟩)
  skip))
  all_goals (first | (fail_if_success refine goB 2 ?_) | (
  refine goB 2 ?_
  all_goals (refine WC.skip ?_)
  skip))
  all_goals (refine Gn ?_)
  all_goals (refine WC.seq ?_)
  all_goals (refine WC.sr ?_)
  all_goals (refine Go ?_)
  all_goals (refine WC.block ?_)
  -- loop 0: slots that turn [13], that stay [0, 1, 12]
  all_goals (refine WC.loopG (X := Nat) (fun x => ([(13, In (x : Int))] : Fr)) [(0, _), (1, _), (12, _)] (fun k h' => h' = h ∧ k ≤ l.length ∧ l.length = m.length ∧ l.take k = m.take k) (fun k => l.length - k) (0) ⟨rfl, rfl, rfl, rfl, trivial⟩ (by exact ⟨rfl, Nat.zero_le _, by omega, by simp⟩) ?_)
  all_goals (rintro k h9 ⟨hz, hk, hlm, hn⟩
             subst h9)
  all_goals (refine WC.sub [(13, _), (0, _), (1, _), (12, _)] ⟨rfl, rfl, rfl, rfl, trivial⟩ ?_)
  all_goals (refine WC.sr ?_)
  all_goals (refine Go ?_)
  all_goals (refine WC.seq ?_)
  all_goals (refine goC 3 4 ?_ ?_ <;> first | exact ⟨⟩ | refine Hb.mk fun hb => ?_ | skip)
  all_goals (first | (fail_if_success refine goB 3 ?_) | (
  refine goB 3 ?_
  all_goals (refine WC.skip ?_)
  skip))
  all_goals (first | (fail_if_success refine goB 4 ?_) | (
  refine goB 4 ?_
  all_goals (refine WC.exit ?_)
  all_goals (repeat' (with_reducible first | refine thenP_x ?_ | refine blockP_miss rfl ?_ | refine blockP_hit ?_ | refine blockP_n ?_ | refine thenP_n ?_))
  all_goals (refine Br.out (i := 1000) ?_)
  skip))
  all_goals (refine Gn ?_)
  all_goals (first | (refine Br.keep ?_) | (refine WC.seq ?_))
  all_goals (first | (refine Br.keep ?_) | (refine WC.block ?_))
  all_goals (first | (refine Br.keep ?_) | (refine WC.sr ?_))
  all_goals (first
               | (refine Br.keep ?_)
               | (obtain ⟨bL, oL, hA, hbL, hat⟩ := Rd.at_ hr (by omega)
                  obtain ⟨bM, oM, hB, hbM, hbt⟩ := Rd.at_ hs (by omega)
                  obtain ⟨y, hy⟩ : ∃ y, l[k]? = some y := ⟨_, List.getElem?_eq_getElem (by omega)⟩
                  obtain ⟨z, hz⟩ : ∃ z, m[k]? = some z := ⟨_, List.getElem?_eq_getElem (by omega)⟩
                  have at1 : At h bL (oL + k * 2) (FieldD.cells y) := At.elem FieldD.len hat hy
                  have at2 : At h bM (oM + k * 2) (FieldD.cells z) := At.elem FieldD.len hbt hz
                  by_cases hyz : y = z))
  all_goals (first | (refine Br.keep ?_) | (refine WL.step (ok_move rfl) rfl rfl rfl ?_))
  all_goals (refine Go ?_)
  all_goals (first | (refine Br.keep ?_) | (refine WC.seq ?_))
  all_goals (first | (refine Br.keep ?_) | (refine WC.drawE fol (by kernel_rfl) ?_))
  all_goals (first | (refine Br.keep ?_) | (refine WQ.stepE (ok_move rfl) rfl rfl rfl ?_))
  all_goals (first | (refine Br.keep ?_) | (refine WQ.stepE (ok_move rfl) rfl rfl rfl ?_))
  all_goals (first | (refine Br.keep ?_) | (refine WQ.stepE (ok_idxAddrA Tryz.underlying30 (fun w => Tryz.sizeOf54 w) rfl rfl rfl (by omega) (by first | rfl | assumption)) rfl rfl rfl ?_))
  all_goals (first | (refine Br.keep ?_) | (refine WQ.stepE (ok_loadN (fun w => Tryz.isAgg54 w) (fun w => Tryz.sizeOf54 w) rfl rfl (by assumption)) rfl rfl rfl ?_))
  all_goals (first | (refine Br.keep ?_) | (refine WQ.stepE (ok_move rfl) rfl rfl rfl ?_))
  all_goals (first | (refine Br.keep ?_) | (refine WQ.stepE (ok_move rfl) rfl rfl rfl ?_))
  all_goals (first | (refine Br.keep ?_) | (refine WQ.stepE (ok_idxAddrA Tryz.underlying30 (fun w => Tryz.sizeOf54 w) rfl rfl rfl (by omega) (by first | rfl | assumption)) rfl rfl rfl ?_))
  all_goals (first | (refine Br.keep ?_) | (refine WQ.stepE (ok_loadN (fun w => Tryz.isAgg54 w) (fun w => Tryz.sizeOf54 w) rfl rfl (by assumption)) rfl rfl rfl ?_))
  all_goals (first | (refine Br.keep ?_) | (first | (refine WQ.stepE (OkP.nbool_f (congrArg (·.sca) hyz) (ok_neqF (us := y.sca) (vs := z.sca) ([.i .u8, .s]) (by kernel_rfl) rfl rfl rfl rfl)) rfl rfl rfl ?_) | (refine WQ.stepE (OkP.nbool_t (fun e => hyz ((FieldD.inj _ _).1 e)) (ok_neqF (us := y.sca) (vs := z.sca) ([.i .u8, .s]) (by kernel_rfl) rfl rfl rfl rfl)) rfl rfl rfl ?_)))
  all_goals (first | (refine Br.keep ?_) | (refine WQ.nil ?_))
  all_goals (refine Gn ?_)
  all_goals (first | (refine Br.keep ?_) | (refine WC.sub [(0, _), (1, _), (12, _), (13, _), (24, _)] ⟨rfl, rfl, rfl, rfl, rfl, trivial⟩ ?_))
  all_goals (first | (refine Br.keep ?_) | (refine goC 5 6 ?_ ?_ <;> first | exact ⟨⟩ | refine Hb.mk fun hb => ?_ | skip))
  all_goals (first | (fail_if_success refine goB 5 ?_) | (
  refine goB 5 ?_
  all_goals (refine WC.sr ?_)
  all_goals (refine Go ?_)
  all_goals (refine WC.sub [(4, _)] ⟨rfl, trivial⟩ ?_)
  all_goals (refine WC.ret ?_)
  all_goals (repeat' (with_reducible first | refine thenP_r ?_ | refine blockP_r ?_))
  all_goals (refine retP_1 _ ⟨rfl, trivial⟩ ?_)
  all_goals (first
              | exact ⟨by rw [decide_eq_false (fun e => by subst e; omega)], rfl⟩
              | exact ⟨by rw [decide_eq_false (fun e => hyz (by subst e; rw [hy] at hz; exact Option.some.inj hz))], rfl⟩
              | exact ⟨by rw [decide_eq_true (by rw [List.take_of_length_le (by omega), List.take_of_length_le (by omega)] at hn; exact hn)], rfl⟩)
  skip))
  all_goals (first | (fail_if_success refine goB 6 ?_) | (
  refine goB 6 ?_
  all_goals (refine WC.skip ?_)
  skip))
  all_goals (refine Gn ?_)
  all_goals (first | (refine Br.keep ?_) | (refine WC.region ?_))
  all_goals (refine Go ?_)
  all_goals (first | (refine Br.keep ?_) | (exact ⟨k + 1, ⟨rfl, rfl, rfl, rfl, trivial⟩, (by exact ⟨rfl, by omega, hlm, by rw [List.take_add_one, List.take_add_one, hn, hy, hz, hyz]⟩), (by omega)⟩))
  all_goals (try (refine Br.mk (i := 1000) ?_))
  all_goals (refine Gn ?_)
  all_goals (refine WC.sub [] trivial ?_)
  all_goals (refine WC.sr ?_)
  all_goals (refine Go ?_)
  all_goals (refine WC.ret ?_)
  all_goals (repeat' (with_reducible first | refine thenP_r ?_ | refine blockP_r ?_))
  all_goals (refine retP_1 _ ⟨rfl, trivial⟩ ?_)
  all_goals (first
              | exact ⟨by rw [decide_eq_false (fun e => by subst e; omega)], rfl⟩
              | exact ⟨by rw [decide_eq_false (fun e => hyz (by subst e; rw [hy] at hz; exact Option.some.inj hz))], rfl⟩
              | exact ⟨by rw [decide_eq_true (by rw [List.take_of_length_le (by omega), List.take_of_length_le (by omega)] at hn; exact hn)], rfl⟩)

set_option maxHeartbeats 2000000 in
set_option maxRecDepth 100000 in
theorem alikeA {h : Heap} (a b : Cel) (ha : a.ok h) (hb : b.ok h) :
    CallsH Tryz.prog 28 ⟨[.agg ⟨a.cells⟩, .agg ⟨b.cells⟩]⟩ h fun u h' => u = .bool (decide (a.pl = b.pl)) ∧ Ext No h h' := by
  obtain ⟨n1, v1, l1⟩ := a
  obtain ⟨n2, v2, l2⟩ := b
  obtain ⟨ha, _⟩ := ha
  obtain ⟨hb, _⟩ := hb
  simp only at ha hb
  obtain ⟨A, c, rfl, _⟩ := id ha
  obtain ⟨B, d, rfl, _⟩ := id hb
  dsimp only [Cel.cells]
  cases n1
  all_goals cases n2
  all_goals
    refine calls [(0, _), (1, _)] Tryz.func28 rfl Tryz.ntmps28 rfl ⟨rfl, rfl, trivial⟩ ?_
    all_goals (refine WC.sr ?_)
    all_goals (refine WL.stepR (okE_box rfl) rfl rfl rfl ?_
               rintro _ h1 ⟨b1, rfl, hg1, hb1, hx1⟩)
    all_goals (refine WL.stepR (okE_box rfl) rfl rfl rfl ?_
               rintro _ h2 ⟨b2, rfl, hg2, hb2, hx2⟩)
    all_goals (have hb1' := hx2.obj hb1 nos
               have hx := hx1.trans hx2)
    all_goals (refine Go ?_)
    all_goals (refine WC.sr ?_)
    all_goals (refine Go ?_)
    all_goals (refine WL.step (ok_load (fun w => Tryz.isAgg4 w) rfl (by first | assumption | exact cell_blk (by assumption) rfl)) rfl rfl rfl ?_)
    all_goals (refine Go ?_)
    all_goals (refine WL.step (ok_load (fun w => Tryz.isAgg4 w) rfl (by first | assumption | exact cell_blk (by assumption) rfl)) rfl rfl rfl ?_)
    all_goals (first | (refine WL.step (OkP.bool_t (by rfl) (ok_eqlB Tryz.underlying4 rfl rfl)) rfl rfl rfl ?_) | (refine WL.step (OkP.bool_f (by decide) (ok_eqlB Tryz.underlying4 rfl rfl)) rfl rfl rfl ?_) | (refine WL.step (ok_eqlB Tryz.underlying4 rfl rfl) rfl rfl rfl ?_))
    all_goals (refine Go ?_)
    all_goals (refine goP 10 ?_ ?_ <;> first | exact ⟨⟩ | refine Hb.mk fun hb => ?_ | skip)
    all_goals (refine Gg ?_)
    all_goals (first | (refine WL.pass rfl rfl rfl ?_) | (refine WL.step (ok_load (fun w => Tryz.isAgg24 w) rfl (by first | assumption | exact cell_blk (by assumption) rfl)) rfl rfl rfl ?_))
    all_goals (refine Gg ?_)
    all_goals (first | (refine WL.pass rfl rfl rfl ?_) | (refine WL.step (ok_load (fun w => Tryz.isAgg24 w) rfl (by first | assumption | exact cell_blk (by assumption) rfl)) rfl rfl rfl ?_))
    all_goals (first
                 | (refine WL.pass rfl rfl rfl ?_)
                 | (refine WL.call (vs := [_, _]) rfl (fun a w => Tryz.call10 a w) rfl (bytes_equal l1 l2 (ha.ext0 hx) (hb.ext0 hx)) rfl rfl rfl ?_
                    rintro _ hz ⟨rfl, _⟩
                    subst hz))
    all_goals (refine Go ?_)
    all_goals (refine WC.sub [(4, _)] ⟨rfl, trivial⟩ ?_)
    all_goals (refine WC.ret ?_)
    all_goals (repeat' (with_reducible first | refine thenP_r ?_ | refine blockP_r ?_))
    all_goals (refine retP_1 _ ⟨rfl, trivial⟩ ?_)
    all_goals (exact ⟨by simp [Cel.pl], hx⟩)
set_option maxHeartbeats 2000000 in
set_option maxRecDepth 100000 in
theorem equalA_cel {h : Heap} {v w : Value} (l m : List Cel) (hl : Cels h v l) (hm : Cels h w m) :
    CallsH Tryz.prog 27 ⟨[v, w, .func (.func 28) ⟨[]⟩ ⟨[]⟩]⟩ h fun u h' => u = .bool (decide (l.map Cel.pl = m.map Cel.pl)) ∧ Ext No h h' := by
  obtain ⟨hr, ⟨hlm, A, c, rfl, _⟩, ho⟩ := hl
  obtain ⟨hs, ⟨hmm, B, d, rfl, _⟩, hp⟩ := hm
  unfold reachBytes at hlm hmm
  refine calls [(0, _), (1, _), (2, _)] Tryz.func27 rfl Tryz.ntmps27 rfl ⟨rfl, rfl, rfl, trivial⟩ ?_
  all_goals (refine WC.sr ?_)
  all_goals (refine Go ?_)
  all_goals (refine WC.seq ?_)
  all_goals (refine WC.sr ?_)
  all_goals (refine Go ?_)
  all_goals (refine WC.sub [(0, _), (1, _), (2, _), (14, _)] ⟨rfl, rfl, rfl, rfl, trivial⟩ ?_)
  all_goals (refine goC 1 2 ?_ ?_ <;> first | exact ⟨⟩ | refine Hb.mk fun hb => ?_ | skip)
  all_goals (first | (fail_if_success refine goB 1 ?_) | (
  refine goB 1 ?_
  all_goals (refine WC.sr ?_)
  all_goals (refine Go ?_)
  all_goals (refine WC.sub [(6, _)] ⟨rfl, trivial⟩ ?_)
  all_goals (refine WC.ret ?_)
  all_goals (repeat' (with_reducible first | refine thenP_r ?_ | refine blockP_r ?_))
  all_goals (refine retP_1 _ ⟨rfl, trivial⟩ ?_)
  all_goals (first
              | exact ⟨by rw [decide_eq_false (fun e => by have := congrArg List.length e; simp only [List.length_map] at this; omega)], .refl _ _⟩
              | exact ⟨by rw [decide_eq_false (map_ne hy hz hyz)], hX5.trans hx6⟩
              | exact ⟨by rw [decide_eq_true (by rw [List.take_of_length_le (by omega), List.take_of_length_le (by omega)] at hn; exact hn)], hx1⟩)
  skip))
  all_goals (first | (fail_if_success refine goB 2 ?_) | (
  refine goB 2 ?_
  all_goals (refine WC.skip ?_)
  skip))
  all_goals (refine Gn ?_)
  all_goals (refine WC.seq ?_)
  all_goals (refine WC.sr ?_)
  all_goals (refine Go ?_)
  all_goals (refine WC.block ?_)
  -- loop 0: slots that turn [17], that stay [1, 2, 15, 16]
  all_goals (refine WC.loopG (X := Nat) (fun x => ([(17, In (x : Int))] : Fr)) [(1, _), (2, _), (15, _), (16, _)] (fun k h' => Ext No h h' ∧ k ≤ l.length ∧ l.length = m.length ∧ (l.take k).map Cel.pl = (m.take k).map Cel.pl) (fun k => l.length - k) (0) ⟨rfl, rfl, rfl, rfl, rfl, trivial⟩ (by exact ⟨.refl _ _, Nat.zero_le _, by omega, by simp⟩) ?_)
  all_goals (rintro k h1 ⟨hx1, hk, hlen, hn⟩)
  all_goals (refine WC.sub [(17, _), (1, _), (2, _), (15, _), (16, _)] ⟨rfl, rfl, rfl, rfl, rfl, trivial⟩ ?_)
  all_goals (refine WC.sr ?_)
  all_goals (refine Go ?_)
  all_goals (refine WC.seq ?_)
  all_goals (refine goC 3 4 ?_ ?_ <;> first | exact ⟨⟩ | refine Hb.mk fun hb => ?_ | skip)
  all_goals (first | (fail_if_success refine goB 3 ?_) | (
  refine goB 3 ?_
  all_goals (refine WC.skip ?_)
  skip))
  all_goals (first | (fail_if_success refine goB 4 ?_) | (
  refine goB 4 ?_
  all_goals (refine WC.exit ?_)
  all_goals (repeat' (with_reducible first | refine thenP_x ?_ | refine blockP_miss rfl ?_ | refine blockP_hit ?_ | refine blockP_n ?_ | refine thenP_n ?_))
  all_goals (refine Br.out (i := 1000) ?_)
  skip))
  all_goals (refine Gn ?_)
  all_goals (first | (refine Br.keep ?_) | (refine WC.seq ?_))
  all_goals (first | (refine Br.keep ?_) | (refine WC.block ?_))
  all_goals (first | (refine Br.keep ?_) | (refine WC.sr ?_))
  all_goals (first
               | (refine Br.keep ?_)
               | (obtain ⟨bL, oL, hA, hbL, hat⟩ := Rd.at_ (hr.ext0 hx1) (by omega)
                  obtain ⟨bM, oM, hB, hbM, hbt⟩ := Rd.at_ (hs.ext0 hx1) (by omega)
                  obtain ⟨y, hy⟩ : ∃ y, l[k]? = some y := ⟨_, List.getElem?_eq_getElem (by omega)⟩
                  obtain ⟨z, hz⟩ : ∃ y, m[k]? = some y := ⟨_, List.getElem?_eq_getElem (by omega)⟩
                  have hyo := ho y (List.mem_of_getElem? hy)
                  have hzo := hp z (List.mem_of_getElem? hz)
                  have at1 : At h1 bL (oL + k * 2) y.cells := At.elem Cel.len hat hy
                  have at2 : At h1 bM (oM + k * 2) z.cells := At.elem Cel.len hbt hz
                  have one1 : ∀ v ∈ y.cells, v.oneCell' = true := by obtain ⟨A1, c1, e1, _⟩ := hyo.1; simp [Cel.cells, Value.oneCell', e1]
                  have one2 : ∀ v ∈ z.cells, v.oneCell' = true := by obtain ⟨A1, c1, e1, _⟩ := hzo.1; simp [Cel.cells, Value.oneCell', e1]))
  all_goals (first | (refine Br.keep ?_) | (refine WL.step (ok_move rfl) rfl rfl rfl ?_))
  all_goals (first | (refine Br.keep ?_) | (refine WL.step (ok_idxAddrA Tryz.underlying29 (fun w => Tryz.sizeOf50 w) rfl rfl rfl (by omega) (by first | rfl | assumption)) rfl rfl rfl ?_))
  all_goals (first | (refine Br.keep ?_) | (refine WL.step (ok_loadN (fun w => Tryz.isAgg50 w) (fun w => Tryz.sizeOf50 w) rfl rfl (by assumption)) rfl rfl rfl ?_))
  all_goals (first
               | (refine Br.keep ?_)
               | (refine WL.stepR (okE_alloc (fun w => Tryz.zeroValue50 w)) rfl rfl rfl ?_
                  rintro _ h2 ⟨b2, rfl, hg2, hb2, hx2⟩))
  all_goals (refine Go ?_)
  all_goals (first
               | (refine Br.keep ?_)
               | (refine WL.stepR0 (okE_storeW (fun w => Tryz.sizeOf50 w) rfl rfl rfl (by assumption) rfl one1) rfl rfl ?_
                  rintro _ h3 ⟨hb3, hx3⟩))
  all_goals (first | (refine Br.keep ?_) | (have hx13 : Ext No h1 h3 := hx2.trans' hx3 (fun q hq e => by omega)))
  all_goals (refine Gn ?_)
  all_goals (first | (refine Br.keep ?_) | (refine WC.sub [(1, _), (2, _), (7, _), (8, _), (15, _), (16, _), (17, _)] ⟨rfl, rfl, rfl, rfl, rfl, rfl, rfl, trivial⟩ ?_))
  all_goals (first | (refine Br.keep ?_) | (refine WC.sr ?_))
  all_goals (refine Go ?_)
  all_goals (first | (refine Br.keep ?_) | (refine WL.step (ok_idxAddrA Tryz.underlying29 (fun w => Tryz.sizeOf50 w) rfl rfl rfl (by omega) (by first | rfl | assumption)) rfl rfl rfl ?_))
  all_goals (first | (refine Br.keep ?_) | (refine WL.step (ok_loadN (fun w => Tryz.isAgg50 w) (fun w => Tryz.sizeOf50 w) rfl rfl (by exact at2.ext hx13 nos)) rfl rfl rfl ?_))
  all_goals (first
               | (refine Br.keep ?_)
               | (refine WL.stepR (okE_alloc (fun w => Tryz.zeroValue50 w)) rfl rfl rfl ?_
                  rintro _ h4 ⟨b4, rfl, hg4, hb4, hx4⟩))
  all_goals (first
               | (refine Br.keep ?_)
               | (refine WL.stepR0 (okE_storeW (fun w => Tryz.sizeOf50 w) rfl rfl rfl (by assumption) rfl one2) rfl rfl ?_
                  rintro _ h5 ⟨hb5, hx5⟩))
  all_goals (first
               | (refine Br.keep ?_)
               | (have hx35 : Ext No h3 h5 := hx4.trans' hx5 (fun q hq e => by omega)
                  have hb3' := hx35.obj hb3 nos
                  have hX5 := hx1.trans (hx13.trans hx35)))
  all_goals (refine Gn ?_)
  all_goals (first | (refine Br.keep ?_) | (refine WC.sub [(1, _), (2, _), (8, _), (9, _), (15, _), (16, _), (17, _)] ⟨rfl, rfl, rfl, rfl, rfl, rfl, rfl, trivial⟩ ?_))
  all_goals (first | (refine Br.keep ?_) | (refine WC.sr ?_))
  all_goals (refine Go ?_)
  all_goals (first | (refine Br.keep ?_) | (refine WL.step (ok_loadN (fun w => Tryz.isAgg50 w) (fun w => Tryz.sizeOf50 w) rfl rfl (by exact At.of_block hb3')) rfl rfl rfl ?_))
  all_goals (first | (refine Br.keep ?_) | (refine WL.step (ok_loadN (fun w => Tryz.isAgg50 w) (fun w => Tryz.sizeOf50 w) rfl rfl (by exact At.of_block hb5)) rfl rfl rfl ?_))
  all_goals (first
               | (refine Br.keep ?_)
               | (refine WL.callT (vs := [_, _]) rfl rfl (fun a w => Tryz.call28 a w) rfl (alikeA y z (hyo.ext0 hX5) (hzo.ext0 hX5)) rfl rfl rfl ?_
                  rintro _ h6 ⟨rfl, hx6⟩))
  all_goals (first
               | (refine Br.keep ?_)
               | (by_cases hyz : y.pl = z.pl
                  all_goals first | rw [decide_eq_true hyz] | rw [decide_eq_false hyz]))
  all_goals (refine Go ?_)
  all_goals (first | (refine Br.keep ?_) | (refine WC.sub [(1, _), (2, _), (15, _), (16, _), (17, _), (30, _)] ⟨rfl, rfl, rfl, rfl, rfl, rfl, trivial⟩ ?_))
  all_goals (first | (refine Br.keep ?_) | (refine goC 5 6 ?_ ?_ <;> first | exact ⟨⟩ | refine Hb.mk fun hb => ?_ | skip))
  all_goals (first | (fail_if_success refine goB 5 ?_) | (
  refine goB 5 ?_
  all_goals (refine WC.sr ?_)
  all_goals (refine Go ?_)
  all_goals (refine WC.sub [(6, _)] ⟨rfl, trivial⟩ ?_)
  all_goals (refine WC.ret ?_)
  all_goals (repeat' (with_reducible first | refine thenP_r ?_ | refine blockP_r ?_))
  all_goals (refine retP_1 _ ⟨rfl, trivial⟩ ?_)
  all_goals (first
              | exact ⟨by rw [decide_eq_false (fun e => by have := congrArg List.length e; simp only [List.length_map] at this; omega)], .refl _ _⟩
              | exact ⟨by rw [decide_eq_false (map_ne hy hz hyz)], hX5.trans hx6⟩
              | exact ⟨by rw [decide_eq_true (by rw [List.take_of_length_le (by omega), List.take_of_length_le (by omega)] at hn; exact hn)], hx1⟩)
  skip))
  all_goals (first | (fail_if_success refine goB 6 ?_) | (
  refine goB 6 ?_
  all_goals (refine WC.skip ?_)
  skip))
  all_goals (refine Gn ?_)
  all_goals (first | (refine Br.keep ?_) | (refine WC.region ?_))
  all_goals (refine Go ?_)
  all_goals (first | (refine Br.keep ?_) | (exact ⟨k + 1, ⟨rfl, rfl, rfl, rfl, rfl, trivial⟩, (by exact ⟨hX5.trans hx6, by omega, hlen, map_take hn hy hz hyz⟩), (by omega)⟩))
  all_goals (try (refine Br.mk (i := 1000) ?_))
  all_goals (refine Gn ?_)
  all_goals (refine WC.sub [] trivial ?_)
  all_goals (refine WC.sr ?_)
  all_goals (refine Go ?_)
  all_goals (refine WC.ret ?_)
  all_goals (repeat' (with_reducible first | refine thenP_r ?_ | refine blockP_r ?_))
  all_goals (refine retP_1 _ ⟨rfl, trivial⟩ ?_)
  all_goals (first
              | exact ⟨by rw [decide_eq_false (fun e => by have := congrArg List.length e; simp only [List.length_map] at this; omega)], .refl _ _⟩
              | exact ⟨by rw [decide_eq_false (map_ne hy hz hyz)], hX5.trans hx6⟩
              | exact ⟨by rw [decide_eq_true (by rw [List.take_of_length_le (by omega), List.take_of_length_le (by omega)] at hn; exact hn)], hx1⟩)
theorem _root_.Go.RK.CallsH.dec {P : Program} {k : FuncId} {args : Array Value} {h : Heap} {p : Prop} [Decidable p] {K : Heap → Prop} (hc : CallsH P k args h fun u h' => u = .bool (decide p) ∧ K h') :
    CallsH P k args h fun u h' => ((u = .bool true ∧ p) ∨ (u = .bool false ∧ ¬p)) ∧ K h' := hc.mono fun v h' q => by
  by_cases e : p
  · exact ⟨.inl ⟨by rw [q.1, decide_eq_true e], e⟩, q.2⟩
  · exact ⟨.inr ⟨by rw [q.1, decide_eq_false e], e⟩, q.2⟩
theorem _root_.Go.RK.CallsH.bl {P : Program} {k : FuncId} {args : Array Value} {h : Heap} {b : Bool} {K : Heap → Prop} (hc : CallsH P k args h fun u h' => u = .bool b ∧ K h') :
    CallsH P k args h fun u h' => ((u = .bool true ∧ b = true) ∨ (u = .bool false ∧ b = false)) ∧ K h' := hc.mono fun v h' q => by
  cases b
  · exact ⟨.inr ⟨q.1, rfl⟩, q.2⟩
  · exact ⟨.inl ⟨q.1, rfl⟩, q.2⟩
set_option maxHeartbeats 4000000 in
set_option maxRecDepth 100000 in
theorem sameA_back {h : Heap} (a b : Bk) (ha : a.ok h) (hb : b.ok h) :
    CallsH Tryz.prog 7 ⟨[.agg ⟨a.cells⟩, .agg ⟨b.cells⟩]⟩ h fun u h' => (∃ x, u = .bool x ∧ (x = true ↔ a.pl = b.pl)) ∧ Ext No h h' := by
  obtain ⟨k1, s1, t1, n1, v1, x1, y1, vo1, l1, vc1, c1, vr1, r1, vf1, f1⟩ := a
  obtain ⟨k2, s2, t2, n2, v2, x2, y2, vo2, l2, vc2, c2, vr2, r2, vf2, f2⟩ := b
  obtain ⟨⟨ao, hlo⟩, ⟨ac, hlc⟩, ar, af, hlf⟩ := ha
  obtain ⟨⟨bo, hmo⟩, ⟨bc, hmc⟩, br, bf, hmf⟩ := hb
  simp only at ao ac ar af bo bc br bf hlo hlc hlf hmo hmc hmf
  obtain ⟨Ao, co, rfl, _⟩ := id ao
  obtain ⟨Bo, do_, rfl, _⟩ := id bo
  dsimp only [Bk.cells]
  have hpc : (k1 = k2 ∧ s1 = s2 ∧ x1 = x2 ∧ y1 = y2) ∨ k1 ≠ k2 ∨ (k1 = k2 ∧ s1 ≠ s2) ∨ (k1 = k2 ∧ s1 = s2 ∧ x1 ≠ x2) ∨ (k1 = k2 ∧ s1 = s2 ∧ x1 = x2 ∧ y1 ≠ y2) := by omega
  by_cases ht : t1 = t2 ∧ n1 = n2 ∧ v1 = v2
  all_goals try obtain ⟨rfl, rfl, rfl⟩ := ht
  all_goals rcases hpc with ⟨rfl, rfl, rfl, rfl⟩ | q | ⟨rfl, q⟩ | ⟨rfl, rfl, q⟩ | ⟨rfl, rfl, rfl, q⟩
  all_goals
    refine calls [(0, _), (1, _)] Tryz.func7 rfl Tryz.ntmps7 rfl ⟨rfl, rfl, trivial⟩ ?_
    all_goals (refine WC.sr ?_)
    all_goals (refine WL.stepR (okE_box rfl) rfl rfl rfl ?_
               rintro _ h1 ⟨b1, rfl, hg1, hb1, hx1⟩)
    all_goals (refine WL.stepR (okE_box rfl) rfl rfl rfl ?_
               rintro _ h2 ⟨b2, rfl, hg2, hb2, hx2⟩)
    all_goals (have hb1' := hx2.obj hb1 nos
               have hx := hx1.trans hx2)
    all_goals (refine Go ?_)
    all_goals (refine WC.sr ?_)
    all_goals (refine Go ?_)
    all_goals (refine WL.step (ok_load (fun w => Tryz.isAgg9 w) rfl (by first | assumption | exact cell_blk (by assumption) rfl)) rfl rfl rfl ?_)
    all_goals (refine Go ?_)
    all_goals (refine WL.step (ok_load (fun w => Tryz.isAgg9 w) rfl (by first | assumption | exact cell_blk (by assumption) rfl)) rfl rfl rfl ?_)
    all_goals (refine Go ?_)
    all_goals (refine WL.step (ok_load (fun w => Tryz.isAgg9 w) rfl (by first | assumption | exact cell_blk (by assumption) rfl)) rfl rfl rfl ?_)
    all_goals (refine WL.step (ok_buildF (vs := [_, _, _]) (cs := [_, _, _]) (fun | [a0, a1, a2] => [a0, a1, a2] | _ => []) rfl rfl (by kernel_rfl)) rfl rfl rfl ?_)
    all_goals (refine Go ?_)
    all_goals (refine WL.step (ok_load (fun w => Tryz.isAgg9 w) rfl (by first | assumption | exact cell_blk (by assumption) rfl)) rfl rfl rfl ?_)
    all_goals (refine Go ?_)
    all_goals (refine WL.step (ok_load (fun w => Tryz.isAgg9 w) rfl (by first | assumption | exact cell_blk (by assumption) rfl)) rfl rfl rfl ?_)
    all_goals (refine Go ?_)
    all_goals (refine WL.step (ok_load (fun w => Tryz.isAgg9 w) rfl (by first | assumption | exact cell_blk (by assumption) rfl)) rfl rfl rfl ?_)
    all_goals (refine WL.step (ok_buildF (vs := [_, _, _]) (cs := [_, _, _]) (fun | [a0, a1, a2] => [a0, a1, a2] | _ => []) rfl rfl (by kernel_rfl)) rfl rfl rfl ?_)
    all_goals (first | (refine WL.step (OkP.bool_t rfl (ok_eqlA (us := [t1, n1, v1]) (vs := [t1, n1, v1]) Tryz.underlying60 (show Tryz.prog.info? 9 = some Tryz.t9 by kernel_rfl) Tryz.underlying9 (by kernel_rfl) (by kernel_rfl) (by kernel_rfl) rfl rfl rfl rfl)) rfl rfl rfl ?_) | (refine WL.step (OkP.bool_f (fun e => ht (by simpa using e)) (ok_eqlA (us := [t1, n1, v1]) (vs := [t2, n2, v2]) Tryz.underlying60 (show Tryz.prog.info? 9 = some Tryz.t9 by kernel_rfl) Tryz.underlying9 (by kernel_rfl) (by kernel_rfl) (by kernel_rfl) rfl rfl rfl rfl)) rfl rfl rfl ?_))
    all_goals (refine Go ?_)
    all_goals (refine WC.sub [(2, _), (3, _), (5, _)] ⟨rfl, rfl, rfl, trivial⟩ ?_)
    all_goals (refine WC.sr ?_)
    all_goals (refine Go ?_)
    all_goals (refine WL.step (ok_load (fun w => Tryz.isAgg5 w) rfl (by first | assumption | exact cell_blk (by assumption) rfl)) rfl rfl rfl ?_)
    all_goals (refine Go ?_)
    all_goals (refine WL.step (ok_load (fun w => Tryz.isAgg5 w) rfl (by first | assumption | exact cell_blk (by assumption) rfl)) rfl rfl rfl ?_)
    all_goals (refine Go ?_)
    all_goals (refine goP 28 ?_ ?_ <;> first | exact ⟨⟩ | refine Hb.mk fun hb => ?_ | skip)
    all_goals (refine Gg ?_)
    all_goals (first | (refine WL.pass rfl rfl rfl ?_) | (refine WL.step (ok_load (fun w => Tryz.isAgg5 w) rfl (by first | assumption | exact cell_blk (by assumption) rfl)) rfl rfl rfl ?_))
    all_goals (refine Gg ?_)
    all_goals (first | (refine WL.pass rfl rfl rfl ?_) | (refine WL.step (ok_load (fun w => Tryz.isAgg5 w) rfl (by first | assumption | exact cell_blk (by assumption) rfl)) rfl rfl rfl ?_))
    all_goals (refine Gg ?_)
    all_goals (refine Go ?_)
    all_goals (refine goP 35 ?_ ?_ <;> first | exact ⟨⟩ | refine Hb.mk fun hb => ?_ | skip)
    all_goals (refine Gg ?_)
    all_goals (first | (refine WL.pass rfl rfl rfl ?_) | (refine WL.step (ok_load (fun w => Tryz.isAgg3 w) rfl (by first | assumption | exact cell_blk (by assumption) rfl)) rfl rfl rfl ?_))
    all_goals (refine Gg ?_)
    all_goals (first | (refine WL.pass rfl rfl rfl ?_) | (refine WL.step (ok_load (fun w => Tryz.isAgg3 w) rfl (by first | assumption | exact cell_blk (by assumption) rfl)) rfl rfl rfl ?_))
    all_goals (refine Gg ?_)
    all_goals (refine Go ?_)
    all_goals (refine goP 42 ?_ ?_ <;> first | exact ⟨⟩ | refine Hb.mk fun hb => ?_ | skip)
    all_goals (refine Gg ?_)
    all_goals (first | (refine WL.pass rfl rfl rfl ?_) | (refine WL.step (ok_load (fun w => Tryz.isAgg3 w) rfl (by first | assumption | exact cell_blk (by assumption) rfl)) rfl rfl rfl ?_))
    all_goals (refine Gg ?_)
    all_goals (first | (refine WL.pass rfl rfl rfl ?_) | (refine WL.step (ok_load (fun w => Tryz.isAgg3 w) rfl (by first | assumption | exact cell_blk (by assumption) rfl)) rfl rfl rfl ?_))
    all_goals (refine Gg ?_)
    all_goals (refine Go ?_)
    all_goals (refine WC.sub [(2, _), (3, _), (5, _), (6, _)] ⟨rfl, rfl, rfl, rfl, trivial⟩ ?_)
    all_goals (refine WC.sr ?_)
    all_goals (refine Go ?_)
    all_goals (refine WL.step (ok_load (fun w => Tryz.isAgg27 w) rfl (by first | assumption | exact cell_blk (by assumption) rfl)) rfl rfl rfl ?_)
    all_goals (refine Go ?_)
    all_goals (refine WL.step (ok_load (fun w => Tryz.isAgg27 w) rfl (by first | assumption | exact cell_blk (by assumption) rfl)) rfl rfl rfl ?_)
    all_goals (refine WL.call (vs := [_, _]) rfl (fun a w => Tryz.call24 a w) rfl ((equal_int l1 l2 (ao.ext0 hx) (bo.ext0 hx) hlo).dec) rfl rfl rfl ?_
               rintro _ _ ⟨⟨rfl, ho⟩ | ⟨rfl, ho⟩, rfl⟩)
    all_goals (refine Go ?_)
    all_goals (refine goP 54 ?_ ?_ <;> first | exact ⟨⟩ | refine Hb.mk fun hb => ?_ | skip)
    all_goals (refine Gg ?_)
    all_goals (first | (refine WL.pass rfl rfl rfl ?_) | (refine WL.step (ok_load (fun w => Tryz.isAgg28 w) rfl (by first | assumption | exact cell_blk (by assumption) rfl)) rfl rfl rfl ?_))
    all_goals (refine Gg ?_)
    all_goals (first | (refine WL.pass rfl rfl rfl ?_) | (refine WL.step (ok_load (fun w => Tryz.isAgg28 w) rfl (by first | assumption | exact cell_blk (by assumption) rfl)) rfl rfl rfl ?_))
    all_goals (first
                 | (refine WL.pass rfl rfl rfl ?_)
                 | (refine WL.call (vs := [_, _]) rfl (fun a w => Tryz.call25 a w) rfl ((eqlA_col c1 c2 (ac.ext0 hx) (bc.ext0 hx) hlc hmc).dec) rfl rfl rfl ?_
                    rintro _ _ ⟨⟨rfl, hc⟩ | ⟨rfl, hc⟩, rfl⟩))
    all_goals (refine Go ?_)
    all_goals (refine goP 61 ?_ ?_ <;> first | exact ⟨⟩ | refine Hb.mk fun hb => ?_ | skip)
    all_goals (refine Gg ?_)
    all_goals (first | (refine WL.pass rfl rfl rfl ?_) | (refine WL.step (ok_load (fun w => Tryz.isAgg30 w) rfl (by first | assumption | exact cell_blk (by assumption) rfl)) rfl rfl rfl ?_))
    all_goals (refine Gg ?_)
    all_goals (first | (refine WL.pass rfl rfl rfl ?_) | (refine WL.step (ok_load (fun w => Tryz.isAgg30 w) rfl (by first | assumption | exact cell_blk (by assumption) rfl)) rfl rfl rfl ?_))
    all_goals (first
                 | (refine WL.pass rfl rfl rfl ?_)
                 | (refine WL.call (vs := [_, _]) rfl (fun a w => Tryz.call26 a w) rfl ((eqlA_fld f1 f2 (af.ext0 hx) (bf.ext0 hx) hlf hmf).dec) rfl rfl rfl ?_
                    rintro _ _ ⟨⟨rfl, hf⟩ | ⟨rfl, hf⟩, rfl⟩))
    all_goals (refine Go ?_)
    all_goals (refine WC.sub [(2, _), (3, _), (5, _), (6, _), (7, _)] ⟨rfl, rfl, rfl, rfl, rfl, trivial⟩ ?_)
    all_goals (refine WC.sr ?_)
    all_goals (refine Go ?_)
    all_goals (refine goP 69 ?_ ?_ <;> first | exact ⟨⟩ | refine Hb.mk fun hb => ?_ | skip)
    all_goals (refine Gg ?_)
    all_goals (refine Go ?_)
    all_goals (refine goP 72 ?_ ?_ <;> first | exact ⟨⟩ | refine Hb.mk fun hb => ?_ | skip)
    all_goals (refine Gg ?_)
    all_goals (refine Go ?_)
    all_goals (refine goP 75 ?_ ?_ <;> first | exact ⟨⟩ | refine Hb.mk fun hb => ?_ | skip)
    all_goals (refine Gg ?_)
    all_goals (first | (refine WL.pass rfl rfl rfl ?_) | (refine WL.step (ok_load (fun w => Tryz.isAgg29 w) rfl (by first | assumption | exact cell_blk (by assumption) rfl)) rfl rfl rfl ?_))
    all_goals (refine Gg ?_)
    all_goals (first | (refine WL.pass rfl rfl rfl ?_) | (refine WL.step (ok_load (fun w => Tryz.isAgg29 w) rfl (by first | assumption | exact cell_blk (by assumption) rfl)) rfl rfl rfl ?_))
    all_goals (first
                 | (refine WL.pass rfl rfl rfl ?_)
                 | (refine WL.call (vs := [_, _, _]) rfl (fun a w => Tryz.call27 a w) rfl (equalA_cel _ _ (ar.ext0 hx) (br.ext0 hx)) rfl rfl rfl ?_
                    rintro _ h3 ⟨rfl, hx3⟩))
    all_goals (refine Go ?_)
    all_goals (refine WC.sub [(4, _)] ⟨rfl, trivial⟩ ?_)
    all_goals (refine WC.ret ?_)
    all_goals (repeat' (with_reducible first | refine thenP_r ?_ | refine blockP_r ?_))
    all_goals (refine retP_1 _ ⟨rfl, trivial⟩ ?_)
    all_goals (first
                | (refine ⟨⟨false, rfl, ⟨fun z => (by cases z), fun z => ?_⟩⟩, hx⟩
                   exfalso
                   simp only [Bk.pl, Prod.mk.injEq] at z
                   obtain ⟨z1, z2, z3, z4, z5, z6, z7, z8, z9, z10, z11⟩ := z
                   first | exact ht ⟨z3, z4, z5⟩ | exact q z1 | exact q z2 | exact q z6 | exact q z7 | exact ho z8 | exact hc z9 | exact hf z11)
                | (refine ⟨⟨_, rfl, ?_⟩, hx.trans hx3⟩
                   simp [Bk.pl, ho, hc, hf]))
end Go.Proofs.YtbahigffjclpdaaGreatDoor


