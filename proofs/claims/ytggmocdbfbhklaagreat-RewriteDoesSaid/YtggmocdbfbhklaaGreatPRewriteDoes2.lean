/-
  SEVERAL TEXTS IN ONE: Sl, Back, Lru, Ops, Pred, Del, Ent, Front, Cache, Dig, Inj, Inj2, Inj3, RwC, Shelf, K16, IxB, RwK, K24, K14.
-/
import Derived.Test.YtggmocdbfbhklaaGreatPRewriteDoes1
import Derived.Shelf.Small.Strs
import Derived.Shelf.Bytes.IndexByte
import Derived.Test.YtggmocdbfbhklaaGreatProg
import Derived.Lib.IndexAny
import Derived.Lib.IndexLaws
import Derived.Laws.Entries
import Derived.Lib.AppendStr
/-
  package slices at slices of numbers: Index, Equal, Clone, Delete.
-/
namespace Go.Proofs.YtggmocdbfbhklaaGreat
open Go Go.RK


abbrev ints (l : List Int) : List Value := l.map In
/-- Where a number stands; below 0: nowhere. -/
def idxOf : List Int → Int → Int
  | [], _ => -1
  | a :: l, x => if a = x then 0 else if idxOf l x < 0 then -1 else idxOf l x + 1
theorem idxOf_cases (l : List Int) (x : Int) : (idxOf l x = -1 ∧ x ∉ l) ∨ ∃ k : Nat, idxOf l x = k ∧ l[k]? = some x ∧ x ∉ l.take k := by
  induction l with
  | nil => exact .inl ⟨rfl, by simp⟩
  | cons a l ih =>
    unfold idxOf
    by_cases h : a = x
    · exact .inr ⟨0, by simp [h], by simp [h], by simp⟩
    · rw [if_neg h]
      rcases ih with ⟨h1, h2⟩ | ⟨k, h1, h2, h3⟩
      · exact .inl ⟨by rw [h1]; rfl, by simp [h2, Ne.symm h]⟩
      · exact .inr ⟨k + 1, by rw [h1, if_neg (by omega)]; omega, by simpa using h2, by simp [h3, Ne.symm h]⟩
theorem idxOf_at {l : List Int} {x : Int} {k : Nat} (h1 : l[k]? = some x) (h2 : x ∉ l.take k) : idxOf l x = k := by
  rcases idxOf_cases l x with ⟨_, h⟩ | ⟨j, h, h3, h4⟩
  · exact absurd (List.mem_of_getElem? h1) h
  · rw [h]
    rcases Nat.lt_trichotomy j k with e | e | e
    · exact absurd (List.mem_of_getElem? (show (l.take k)[j]? = some x by rw [List.getElem?_take, if_pos e]; exact h3)) h2
    · rw [e]
    · exact absurd (List.mem_of_getElem? (show (l.take j)[k]? = some x by rw [List.getElem?_take, if_pos e]; exact h1)) h4
theorem idxOf_no {l : List Int} {x : Int} (h : x ∉ l) : idxOf l x = -1 := by
  rcases idxOf_cases l x with ⟨e, _⟩ | ⟨j, _, h3, _⟩
  · exact e
  · exact absurd (List.mem_of_getElem? h3) h
theorem take_snoc_not {l : List Int} {x y : Int} {k : Nat} (h : x ∉ l.take k) (hk : l[k]? = some y) (hne : ¬ x = y) : x ∉ l.take (k + 1) := by
  rw [List.take_add_one, hk]
  simp [h, hne]
theorem one_ints (l : List Int) : ∀ v ∈ ints l, v.oneCell' = true := by
  intro v hv
  obtain ⟨x, _, rfl⟩ := List.mem_map.1 hv
  rfl
theorem get_int {l : List Int} {k : Nat} {y : Int} (hk : l[k]? = some y) : (ints l)[k]? = some (In y) := by simp [hk]

set_option maxHeartbeats 2000000 in
set_option maxRecDepth 100000 in
theorem index_int {h : Heap} {A : Option Addr} {c : Nat} (l : List Int) (x : Int) (hr : Rd h (.slice A l.length c) 1 l.length (ints l)) (hm : l.length ≤ maxLen) :
    CallsH Tryz.prog 112 ⟨[.slice A l.length c, In x]⟩ h fun u h' => u = In (idxOf l x) ∧ h' = h := by
  unfold maxLen at hm
  refine calls [(0, _), (1, _)] Tryz.func112 rfl Tryz.ntmps112 rfl ⟨rfl, rfl, trivial⟩ ?_
  all_goals (refine WC.sr ?_; refine Go ?_; refine WC.seq ?_; refine WC.sr ?_; refine Go ?_; refine WC.block ?_)
  -- loop 0: slots that turn [8], that stay [0, 1, 7]
  all_goals (refine WC.loopG (X := Nat) (fun x => ([(8, In (x : Int))] : Fr)) [(0, _), (1, _), (7, _)] (fun k h' => h' = h ∧ k ≤ l.length ∧ x ∉ l.take k) (fun k => l.length - k) (0) ⟨rfl, rfl, rfl, rfl, trivial⟩ (by exact ⟨rfl, Nat.zero_le _, by simp⟩) ?_; rintro k _ ⟨rfl, hk, hn⟩; refine WC.sub [(8, _), (0, _), (1, _), (7, _)] ⟨rfl, rfl, rfl, rfl, trivial⟩ ?_; refine WC.sr ?_; refine Go ?_; refine WC.seq ?_; refine goC 1 2 (Hb.mk fun hb => ?_) (Hb.mk fun hb => ?_))
  all_goals (first | (fail_if_success refine goB 1 ?_) | (
  refine goB 1 ?_
  all_goals (refine WC.skip ?_)
  skip))
  all_goals (first | (fail_if_success refine goB 2 ?_) | (
  refine goB 2 ?_
  all_goals (refine WC.exit ?_; repeat' (with_reducible first | refine thenP_x ?_ | refine blockP_miss rfl ?_ | refine blockP_hit ?_ | refine blockP_n ?_ | refine thenP_n ?_))
  all_goals (refine Br.out (i := 1000) ?_)
  skip))
  all_goals (refine Gn ?_; first | (refine Br.keep ?_) | (refine WC.seq ?_))
  all_goals (first | (refine Br.keep ?_) | (refine WC.block ?_))
  all_goals (first | (refine Br.keep ?_) | (refine WC.sr ?_))
  all_goals (refine Go ?_; first | (refine Br.keep ?_) | (refine WC.sr ?_))
  all_goals (refine Go ?_)
  all_goals (first
               | (refine Br.keep ?_)
               | (obtain ⟨b, o, hA, hbL, hat⟩ := Rd.at_ hr (by omega)
                  obtain ⟨y, hy⟩ : ∃ y, l[k]? = some y := ⟨_, List.getElem?_eq_getElem (by omega)⟩
                  have hc := hat.get (p := o + k * 1) k (get_int hy) (by omega)))
  all_goals (first | (refine Br.keep ?_) | (refine WL.step (ok_idxAddrA Tryz.underlying24 (fun w => Tryz.sizeOf3 w) rfl rfl rfl (by omega) (by first | rfl | assumption)) rfl rfl rfl ?_))
  all_goals (first | (refine Br.keep ?_) | (refine Ld ?_))
  all_goals (refine Go ?_; first | (refine Br.keep ?_) | (refine Gs [(0, _), (1, _), (5, _), (7, _), (8, _), (16, _)] ?_))
  all_goals (first | (refine Br.keep ?_) | (refine goC 3 4 (Hb.mk fun hb => ?_) (Hb.mk fun hb => ?_)))
  all_goals (first | (fail_if_success refine goB 3 ?_) | (
  refine goB 3 ?_
  all_goals (refine WC.sr ?_; refine Go ?_; refine Gs [(4, _)] ?_; refine Gt ?_; first | exact ⟨by rw [idxOf_no (by rw [List.take_of_length_le (by omega)] at hn; exact hn)], rfl⟩ | exact ⟨by rw [idxOf_at (k := k) (by rw [hy, hb]) hn], rfl⟩)
  skip))
  all_goals (first | (fail_if_success refine goB 4 ?_) | (
  refine goB 4 ?_
  all_goals (refine WC.skip ?_)
  skip))
  all_goals (refine Gn ?_; first | (refine Br.keep ?_) | (refine WC.region ?_))
  all_goals (refine Go ?_; first | (refine Br.keep ?_) | (exact ⟨k + 1, ⟨rfl, rfl, rfl, rfl, trivial⟩, (by exact ⟨rfl, by omega, take_snoc_not hn hy (by assumption)⟩), (by omega)⟩))
  all_goals (try (refine Br.mk (i := 1000) ?_))
  all_goals (refine Gn ?_; refine Gs [] ?_; refine WC.sr ?_; refine Go ?_; refine Gt ?_; first | exact ⟨by rw [idxOf_no (by rw [List.take_of_length_le (by omega)] at hn; exact hn)], rfl⟩ | exact ⟨by rw [idxOf_at (k := k) (by rw [hy, hb]) hn], rfl⟩)

set_option maxHeartbeats 2000000 in
set_option maxRecDepth 100000 in
theorem equal_int {h : Heap} {A B : Option Addr} {c d : Nat} (l m : List Int) (hr : Rd h (.slice A l.length c) 1 l.length (ints l)) (hs : Rd h (.slice B m.length d) 1 m.length (ints m)) (hm : l.length ≤ maxLen) :
    CallsH Tryz.prog 165 ⟨[.slice A l.length c, .slice B m.length d]⟩ h fun u h' => u = .bool (decide (l = m)) ∧ h' = h := by
  unfold maxLen at hm
  refine calls [(0, _), (1, _)] Tryz.func165 rfl Tryz.ntmps165 rfl ⟨rfl, rfl, trivial⟩ ?_
  all_goals (refine WC.sr ?_; refine Go ?_; refine WC.seq ?_; refine WC.sr ?_; refine Go ?_; refine Gs [(0, _), (1, _), (10, _)] ?_; refine goC 1 2 (Hb.mk fun hb => ?_) (Hb.mk fun hb => ?_))
  all_goals (first | (fail_if_success refine goB 1 ?_) | (
  refine goB 1 ?_
  all_goals (refine WC.sr ?_; refine Go ?_; refine Gt ?_; first | exact ⟨by rw [decide_eq_false (fun e => by subst e; omega)], rfl⟩ | exact ⟨by rw [decide_eq_false (fun e => by subst e; rw [hy] at hz; injection hz with hz; omega)], rfl⟩ | exact ⟨by rw [decide_eq_true (by rw [List.take_of_length_le (by omega), List.take_of_length_le (by omega)] at hn; exact hn)], rfl⟩)
  skip))
  all_goals (refine goB 2 ?_; refine WC.skip ?_; refine Gn ?_; refine WC.seq ?_; refine WC.sr ?_; refine Go ?_; refine WC.block ?_)
  -- loop 0: slots that turn [13], that stay [0, 1, 12]
  all_goals (refine WC.loopG (X := Nat) (fun x => ([(13, In (x : Int))] : Fr)) [(0, _), (1, _), (12, _)] (fun k h' => h' = h ∧ k ≤ l.length ∧ l.take k = m.take k) (fun k => l.length - k) (0) ⟨rfl, rfl, rfl, rfl, trivial⟩ (by exact ⟨rfl, Nat.zero_le _, by simp⟩) ?_; rintro k _ ⟨rfl, hk, hn⟩; refine WC.sub [(13, _), (0, _), (1, _), (12, _)] ⟨rfl, rfl, rfl, rfl, trivial⟩ ?_; refine WC.sr ?_; refine Go ?_; refine WC.seq ?_; refine goC 3 4 (Hb.mk fun hb => ?_) (Hb.mk fun hb => ?_))
  all_goals (first | (fail_if_success refine goB 3 ?_) | (
  refine goB 3 ?_
  all_goals (refine WC.skip ?_)
  skip))
  all_goals (first | (fail_if_success refine goB 4 ?_) | (
  refine goB 4 ?_
  all_goals (refine WC.exit ?_; repeat' (with_reducible first | refine thenP_x ?_ | refine blockP_miss rfl ?_ | refine blockP_hit ?_ | refine blockP_n ?_ | refine thenP_n ?_))
  all_goals (refine Br.out (i := 1000) ?_)
  skip))
  all_goals (refine Gn ?_; first | (refine Br.keep ?_) | (refine WC.seq ?_))
  all_goals (first | (refine Br.keep ?_) | (refine WC.block ?_))
  all_goals (first | (refine Br.keep ?_) | (refine WC.sr ?_))
  all_goals (refine Go ?_; first | (refine Br.keep ?_) | (refine WC.seq ?_))
  all_goals (first
               | (refine Br.keep ?_)
               | (obtain ⟨b, o, hA, hbL, hat⟩ := Rd.at_ hr (by omega)
                  obtain ⟨b2, o2, hB, hb2, hat2⟩ := Rd.at_ hs (by omega)
                  obtain ⟨y, hy⟩ : ∃ y, l[k]? = some y := ⟨_, List.getElem?_eq_getElem (by omega)⟩
                  obtain ⟨z, hz⟩ : ∃ z, m[k]? = some z := ⟨_, List.getElem?_eq_getElem (by omega)⟩
                  have hc := hat.get (p := o + k * 1) k (get_int hy) (by omega)
                  have hc2 := hat2.get (p := o2 + k * 1) k (get_int hz) (by omega)))
  all_goals (first | (refine Br.keep ?_) | (refine WC.drawE fol (by kernel_rfl) ?_))
  all_goals (first | (refine Br.keep ?_) | (refine WQ.stepE (ok_move rfl) rfl rfl rfl ?_))
  all_goals (first | (refine Br.keep ?_) | (refine WQ.stepE (ok_move rfl) rfl rfl rfl ?_))
  all_goals (first | (refine Br.keep ?_) | (refine WQ.stepE (ok_idxAddrA Tryz.underlying24 (fun w => Tryz.sizeOf3 w) rfl rfl rfl (by omega) (by first | rfl | assumption)) rfl rfl rfl ?_))
  all_goals (first | (refine Br.keep ?_) | (refine WQ.stepE (ok_load (fun w => Tryz.isAgg3 w) rfl (by first | assumption | exact cell_blk (by assumption) rfl)) rfl rfl rfl ?_))
  all_goals (first | (refine Br.keep ?_) | (refine WQ.stepE (ok_move rfl) rfl rfl rfl ?_))
  all_goals (first | (refine Br.keep ?_) | (refine WQ.stepE (ok_move rfl) rfl rfl rfl ?_))
  all_goals (first | (refine Br.keep ?_) | (refine WQ.stepE (ok_idxAddrA Tryz.underlying24 (fun w => Tryz.sizeOf3 w) rfl rfl rfl (by omega) (by first | rfl | assumption)) rfl rfl rfl ?_))
  all_goals (first | (refine Br.keep ?_) | (refine WQ.stepE (ok_load (fun w => Tryz.isAgg3 w) rfl (by first | assumption | exact cell_blk (by assumption) rfl)) rfl rfl rfl ?_))
  all_goals (first | (refine Br.keep ?_) | (refine WQ.stepE (ok_neq rfl rfl) rfl rfl rfl ?_))
  all_goals (first | (refine Br.keep ?_) | (refine WQ.nil ?_))
  all_goals (refine Gn ?_; first | (refine Br.keep ?_) | (refine Gs [(0, _), (1, _), (12, _), (13, _), (24, _)] ?_))
  all_goals (first | (refine Br.keep ?_) | (refine goC 5 6 (Hb.mk fun hb => ?_) (Hb.mk fun hb => ?_)))
  all_goals (first | (fail_if_success refine goB 5 ?_) | (
  refine goB 5 ?_
  all_goals (refine WC.sr ?_; refine Go ?_; refine Gs [(4, _)] ?_; refine Gt ?_; first | exact ⟨by rw [decide_eq_false (fun e => by subst e; omega)], rfl⟩ | exact ⟨by rw [decide_eq_false (fun e => by subst e; rw [hy] at hz; injection hz with hz; omega)], rfl⟩ | exact ⟨by rw [decide_eq_true (by rw [List.take_of_length_le (by omega), List.take_of_length_le (by omega)] at hn; exact hn)], rfl⟩)
  skip))
  all_goals (first | (fail_if_success refine goB 6 ?_) | (
  refine goB 6 ?_
  all_goals (refine WC.skip ?_)
  skip))
  all_goals (refine Gn ?_; first | (refine Br.keep ?_) | (refine WC.region ?_))
  all_goals (refine Go ?_; first | (refine Br.keep ?_) | (exact ⟨k + 1, ⟨rfl, rfl, rfl, rfl, trivial⟩, (by exact ⟨rfl, by omega, by rw [List.take_add_one, List.take_add_one, hn, hy, hz, show y = z by omega]⟩), (by omega)⟩))
  all_goals (try (refine Br.mk (i := 1000) ?_))
  all_goals (refine Gn ?_; refine Gs [] ?_; refine WC.sr ?_; refine Go ?_; refine Gt ?_; first | exact ⟨by rw [decide_eq_false (fun e => by subst e; omega)], rfl⟩ | exact ⟨by rw [decide_eq_false (fun e => by subst e; rw [hy] at hz; injection hz with hz; omega)], rfl⟩ | exact ⟨by rw [decide_eq_true (by rw [List.take_of_length_le (by omega), List.take_of_length_le (by omega)] at hn; exact hn)], rfl⟩)

set_option maxHeartbeats 2000000 in
set_option maxRecDepth 100000 in
theorem clone_ints {h : Heap} {A : Option Addr} {c : Nat} (l : List Int) (hr : Rd h (.slice A l.length c) 1 l.length (ints l)) (hm : l.length * 8 ≤ reachBytes) :
    CallsH Tryz.prog 27 ⟨[.slice A l.length c]⟩ h fun u h' => Own h' u 3 1 l.length (ints l) ∧ Ext No h h' ∧ (∀ k, u.ownBlock = some k → h.size ≤ k) := by
  unfold reachBytes at hm
  cases A with
  | none =>
    have h0 : l = [] := by
      cases l with
      | nil => rfl
      | cons a l => obtain ⟨b, o, e, _⟩ := Rd.at_ hr (by simp); cases e
    subst h0
    refine calls [(0, _)] Tryz.func27 rfl Tryz.ntmps27 rfl ⟨rfl, trivial⟩ ?_
    all_goals (refine WC.sr ?_; refine Go ?_; refine WC.seq ?_; refine WC.sr ?_; refine Go ?_; refine WL.step (ok_eqlSn Tryz.underlying24 rfl rfl) rfl rfl rfl ?_; refine Gn ?_; refine goC 1 2 ?_ TT.mk; refine goB 1 ?_; refine WC.sr ?_; refine Go ?_; refine Gt ?_; exact ⟨Own.nil _ _ _, .refl _ _, by simp [Value.ownBlock]⟩)
  | some a =>
    refine calls [(0, _)] Tryz.func27 rfl Tryz.ntmps27 rfl ⟨rfl, trivial⟩ ?_
    all_goals (refine WC.sr ?_; refine Go ?_; refine WC.seq ?_; refine WC.sr ?_; refine Go ?_; refine WL.step (ok_eqlSn Tryz.underlying24 rfl rfl) rfl rfl rfl ?_; refine Gn ?_; refine goC 1 2 ?_ TT.mk; refine goB 2 ?_; refine WC.skip ?_; refine Gn ?_; refine WC.sr ?_; refine WL.stepR (okE_buildSlice (vs := []) (cs := []) (fun _ => []) Tryz.underlying24 rfl rfl (by kernel_rfl)) rfl rfl rfl ?_; rintro _ h1 ⟨b1, rfl, hg1, hb1, hx1⟩; refine Go ?_; have hr1 := hr.ext0 hx1; refine WL.stepR (ok_append (sz := 1) (bytes := 8) rfl Tryz.underlying24 (show Tryz.prog.info? 3 = some Tryz.t3 by kernel_rfl) rfl rfl rfl rfl (by decide) rfl rfl (own_blk hb1 rfl (by simp [maxLen])) hr1 (by simp [Value.oneCell']) (by simp only [maxLen]; omega) (by omega)) rfl rfl rfl ?_; rintro v2 h2 ⟨ho2, hx2, hl2⟩; refine Go ?_; refine Gs [(2, _)] ?_; refine Gt ?_; exact ⟨by simpa using ho2, hx1.trans' hx2 (fun k hk e => by simp [Value.ownBlock] at e; omega), fresh_of hl2 (fun k hk => by simp [Value.ownBlock] at hk; omega) hx1.size⟩)

theorem clone_int {h : Heap} {A : Option Addr} {c : Nat} (l : List Int) (hr : Rd h (.slice A l.length c) 1 l.length (ints l)) (hm : l.length ≤ 1000000) :
    CallsH Tryz.prog 27 ⟨[.slice A l.length c]⟩ h fun u h' => Own h' u 3 1 l.length (ints l) ∧ Ext No h h' ∧ (∀ k, u.ownBlock = some k → h.size ≤ k) := clone_ints l hr (by unfold reachBytes; omega)

end Go.Proofs.YtggmocdbfbhklaaGreat


/-
  api.Back, and the document's compare of two of them.
-/
namespace Go.Proofs.YtggmocdbfbhklaaGreat
open Go Go.RK

structure ColD where
  nm : List UInt8
  t : Int
  a : Int
  o : Int
  s : Int
  m : Int
  f : Int
deriving DecidableEq
def ColD.sca (c : ColD) : List Sca := [.s c.nm, .i .i64 c.t, .i .i64 c.a, .i .i64 c.o, .i .i64 c.s, .i .i64 c.m, .i .i64 c.f]
def ColD.cells (c : ColD) : List Value := [St c.nm, In c.t, In c.a, In c.o, In c.s, In c.m, In c.f]
theorem ColD.len (c : ColD) : c.cells.length = 7 := rfl
theorem ColD.inj (c d : ColD) : c.sca = d.sca ↔ c = d := by cases c; cases d; simp [ColD.sca]
structure FieldD where
  k : Int
  t : List UInt8
deriving DecidableEq
def FieldD.sca (c : FieldD) : List Sca := [.i .u8 c.k, .s c.t]
def FieldD.cells (c : FieldD) : List Value := [.int .u8 c.k, St c.t]
theorem FieldD.len (c : FieldD) : c.cells.length = 2 := rfl
theorem FieldD.inj (c d : FieldD) : c.sca = d.sca ↔ c = d := by cases c; cases d; simp [FieldD.sca]
structure Bk where
  kind : Int
  status : Int
  tag : List UInt8
  name : List UInt8
  value : List UInt8
  n : Int
  m : Int
  vo : Value
  oids : List Int
  vc : Value
  cols : List ColD
  vr : Value
  row : List Cel
  vf : Value
  fields : List FieldD
def Bk.cells (b : Bk) : List Value := [.int .u8 b.kind, .int .u8 b.status, St b.tag, St b.name, St b.value, In b.n, In b.m, b.vo, b.vc, b.vr, b.vf]
structure Bk.ok (h : Heap) (b : Bk) : Prop where
  oids : Rd h b.vo 1 b.oids.length (ints b.oids) ∧ b.oids.length ≤ maxLen
  cols : Rd h b.vc 7 b.cols.length (b.cols.flatMap ColD.cells) ∧ b.cols.length ≤ maxLen
  row : Cels h b.vr b.row
  fields : Rd h b.vf 2 b.fields.length (b.fields.flatMap FieldD.cells) ∧ b.fields.length ≤ maxLen
theorem Bk.ok.ext0 {h h' : Heap} {b : Bk} (k : b.ok h) (a : Ext No h h') : b.ok h' := ⟨⟨k.1.1.ext0 a, k.1.2⟩, ⟨k.2.1.ext0 a, k.2.2⟩, k.3.ext0 a, ⟨k.4.1.ext0 a, k.4.2⟩⟩
def Bk.pl (b : Bk) := (b.kind, b.status, b.tag, b.name, b.value, b.n, b.m, b.oids, b.cols, b.row.map Cel.pl, b.fields)

set_option maxHeartbeats 2000000 in
set_option maxRecDepth 100000 in
theorem ints_ref {h : Heap} {v u : Value} (l m : List Int) (hr : Rd h v 1 l.length (ints l)) (hs : Rd h u 1 m.length (ints m)) (hl : l.length ≤ maxLen) (hm : m.length ≤ maxLen) :
    CallsH Tryz.prog 73 ⟨[v, u]⟩ h fun u h' => u = .bool (decide (l = m)) ∧ h' = h := by
  unfold maxLen at hl hm
  obtain ⟨A, c, rfl, _⟩ := id hr
  obtain ⟨B, d, rfl, _⟩ := id hs
  refine calls [(0, _), (1, _)] Tryz.func73 rfl Tryz.ntmps73 rfl ⟨rfl, rfl, trivial⟩ ?_
  all_goals (refine WC.sr ?_; refine Go ?_; refine WC.seq ?_; refine WC.sr ?_; refine Go ?_; refine Gs [(0, _), (1, _), (10, _)] ?_; refine goC 1 2 (Hb.mk fun hb => ?_) (Hb.mk fun hb => ?_))
  all_goals (first | (fail_if_success refine goB 1 ?_) | (
  refine goB 1 ?_
  all_goals (refine WC.sr ?_; refine Go ?_; refine Gt ?_; first | exact ⟨by rw [decide_eq_false (fun e => by subst e; omega)], rfl⟩ | exact ⟨by rw [decide_eq_false (fun e => by subst e; rw [hy] at hz; injection hz with hz; omega)], rfl⟩ | exact ⟨by rw [decide_eq_true (by rw [List.take_of_length_le (by omega), List.take_of_length_le (by omega)] at hn; exact hn)], rfl⟩)
  skip))
  all_goals (refine goB 2 ?_; refine WC.skip ?_; refine Gn ?_; refine WC.seq ?_; refine WC.sr ?_; refine Go ?_; refine WC.block ?_)
  -- loop 0: slots that turn [5], that stay [0, 1]
  all_goals (refine WC.loopG (X := Nat) (fun x => ([(5, In (x : Int))] : Fr)) [(0, _), (1, _)] (fun k h' => h' = h ∧ k ≤ l.length ∧ l.take k = m.take k) (fun k => l.length - k) (0) ⟨rfl, rfl, rfl, trivial⟩ (by exact ⟨rfl, Nat.zero_le _, by simp⟩) ?_; rintro k _ ⟨rfl, hk, hn⟩; refine WC.sub [(5, _), (0, _), (1, _)] ⟨rfl, rfl, rfl, trivial⟩ ?_; refine WC.seq ?_; refine WC.sr ?_; refine Go ?_; refine goC 3 4 (Hb.mk fun hb => ?_) (Hb.mk fun hb => ?_))
  all_goals (first | (fail_if_success refine goB 3 ?_) | (
  refine goB 3 ?_
  all_goals (refine WC.skip ?_)
  skip))
  all_goals (first | (fail_if_success refine goB 4 ?_) | (
  refine goB 4 ?_
  all_goals (refine WC.exit ?_; repeat' (with_reducible first | refine thenP_x ?_ | refine blockP_miss rfl ?_ | refine blockP_hit ?_ | refine blockP_n ?_ | refine thenP_n ?_))
  all_goals (refine Br.out (i := 1000) ?_)
  skip))
  all_goals (refine Gn ?_; first | (refine Br.keep ?_) | (refine Gs [(0, _), (1, _), (5, _)] ?_))
  all_goals (first | (refine Br.keep ?_) | (refine WC.seq ?_))
  all_goals (first | (refine Br.keep ?_) | (refine WC.block ?_))
  all_goals (first | (refine Br.keep ?_) | (refine WC.seq ?_))
  all_goals (first
               | (refine Br.keep ?_)
               | (obtain ⟨b, o, hA, hbL, hat⟩ := Rd.at_ hr (by omega)
                  obtain ⟨b2, o2, hB, hb2, hat2⟩ := Rd.at_ hs (by omega)
                  obtain ⟨y, hy⟩ : ∃ y, l[k]? = some y := ⟨_, List.getElem?_eq_getElem (by omega)⟩
                  obtain ⟨z, hz⟩ : ∃ z, m[k]? = some z := ⟨_, List.getElem?_eq_getElem (by omega)⟩
                  have hc := hat.get (p := o + k * 1) k (get_int hy) (by omega)
                  have hc2 := hat2.get (p := o2 + k * 1) k (get_int hz) (by omega)))
  all_goals (first | (refine Br.keep ?_) | (refine WC.drawE fol (by kernel_rfl) ?_))
  all_goals (first | (refine Br.keep ?_) | (refine WQ.stepE (ok_move rfl) rfl rfl rfl ?_))
  all_goals (first | (refine Br.keep ?_) | (refine WQ.stepE (ok_move rfl) rfl rfl rfl ?_))
  all_goals (first | (refine Br.keep ?_) | (refine WQ.stepE (ok_idxAddrA Tryz.underlying24 (fun w => Tryz.sizeOf3 w) rfl rfl rfl (by omega) (by first | rfl | assumption)) rfl rfl rfl ?_))
  all_goals (first | (refine Br.keep ?_) | (refine WQ.stepE (ok_load (fun w => Tryz.isAgg3 w) rfl (by first | assumption | exact cell_blk (by assumption) rfl)) rfl rfl rfl ?_))
  all_goals (first | (refine Br.keep ?_) | (refine WQ.stepE (ok_move rfl) rfl rfl rfl ?_))
  all_goals (first | (refine Br.keep ?_) | (refine WQ.stepE (ok_move rfl) rfl rfl rfl ?_))
  all_goals (first | (refine Br.keep ?_) | (refine WQ.stepE (ok_idxAddrA Tryz.underlying24 (fun w => Tryz.sizeOf3 w) rfl rfl rfl (by omega) (by first | rfl | assumption)) rfl rfl rfl ?_))
  all_goals (first | (refine Br.keep ?_) | (refine WQ.stepE (ok_load (fun w => Tryz.isAgg3 w) rfl (by first | assumption | exact cell_blk (by assumption) rfl)) rfl rfl rfl ?_))
  all_goals (first | (refine Br.keep ?_) | (refine WQ.stepE (ok_neq rfl rfl) rfl rfl rfl ?_))
  all_goals (first | (refine Br.keep ?_) | (refine WQ.nil ?_))
  all_goals (refine Gn ?_; first | (refine Br.keep ?_) | (refine Gs [(0, _), (1, _), (5, _), (25, _)] ?_))
  all_goals (first | (refine Br.keep ?_) | (refine goC 5 6 (Hb.mk fun hb => ?_) (Hb.mk fun hb => ?_)))
  all_goals (first | (fail_if_success refine goB 5 ?_) | (
  refine goB 5 ?_
  all_goals (refine WC.sr ?_; refine Go ?_; refine Gs [(4, _)] ?_; refine Gt ?_; first | exact ⟨by rw [decide_eq_false (fun e => by subst e; omega)], rfl⟩ | exact ⟨by rw [decide_eq_false (fun e => by subst e; rw [hy] at hz; injection hz with hz; omega)], rfl⟩ | exact ⟨by rw [decide_eq_true (by rw [List.take_of_length_le (by omega), List.take_of_length_le (by omega)] at hn; exact hn)], rfl⟩)
  skip))
  all_goals (first | (fail_if_success refine goB 6 ?_) | (
  refine goB 6 ?_
  all_goals (refine WC.skip ?_)
  skip))
  all_goals (refine Gn ?_; first | (refine Br.keep ?_) | (refine WC.region ?_))
  all_goals (refine Go ?_; first | (refine Br.keep ?_) | (exact ⟨k + 1, ⟨rfl, rfl, rfl, trivial⟩, (by exact ⟨rfl, by omega, by rw [List.take_add_one, List.take_add_one, hn, hy, hz, show y = z by omega]⟩), (by omega)⟩))
  all_goals (try (refine Br.mk (i := 1000) ?_))
  all_goals (refine Gn ?_; refine Gs [] ?_; refine WC.sr ?_; refine Go ?_; refine Gt ?_; first | exact ⟨by rw [decide_eq_false (fun e => by subst e; omega)], rfl⟩ | exact ⟨by rw [decide_eq_false (fun e => by subst e; rw [hy] at hz; injection hz with hz; omega)], rfl⟩ | exact ⟨by rw [decide_eq_true (by rw [List.take_of_length_le (by omega), List.take_of_length_le (by omega)] at hn; exact hn)], rfl⟩)

set_option maxHeartbeats 2000000 in
set_option maxRecDepth 100000 in
theorem same_true {h : Heap} (a b : Bk) (ha : a.ok h) (hb : b.ok h) (e : a.pl = b.pl) :
    CallsH Tryz.prog 127 ⟨[.agg ⟨a.cells⟩, .agg ⟨b.cells⟩]⟩ h fun u h' => u = .bool true ∧ Ext No h h' := by
  obtain ⟨k1, s1, t1, n1, v1, x1, y1, vo1, l1, vc1, c1, vr1, r1, vf1, f1⟩ := a
  obtain ⟨k2, s2, t2, n2, v2, x2, y2, vo2, l2, vc2, c2, vr2, r2, vf2, f2⟩ := b
  simp only [Bk.pl, Prod.mk.injEq] at e
  obtain ⟨rfl, rfl, rfl, rfl, rfl, rfl, rfl, rfl, rfl, er, rfl⟩ := e
  obtain ⟨⟨ao, hlo⟩, ⟨ac, hlc⟩, ar, af, hlf⟩ := ha
  obtain ⟨⟨bo, _⟩, ⟨bc, _⟩, br, bf, _⟩ := hb
  simp only at ao ac ar af bo bc br bf hlo hlc hlf
  obtain ⟨Ao, co, rfl, _⟩ := id ao
  obtain ⟨Bo, do_, rfl, _⟩ := id bo
  obtain ⟨Ac, cc, rfl, _⟩ := id ac
  obtain ⟨Bc, dc, rfl, _⟩ := id bc
  obtain ⟨Af, cf, rfl, _⟩ := id af
  obtain ⟨Bf, df, rfl, _⟩ := id bf
  dsimp only [Bk.cells]
  unfold maxLen at hlc hlf
  refine calls [(0, _), (1, _)] Tryz.func127 rfl Tryz.ntmps127 rfl ⟨rfl, rfl, trivial⟩ ?_
  all_goals (refine WC.sr ?_; refine WL.stepR (okE_box rfl) rfl rfl rfl ?_; rintro _ h1 ⟨b1, rfl, hg1, hb1, hx1⟩; refine WL.stepR (okE_box rfl) rfl rfl rfl ?_; rintro _ h2 ⟨b2, rfl, hg2, hb2, hx2⟩; have hb1' := hx2.obj hb1 nos; have hx := hx1.trans hx2; refine Go ?_; refine WC.sr ?_; refine Go ?_; refine Ld ?_; refine Go ?_; refine Ld ?_; refine Go ?_; refine goP 13 ?_ TT.mk; refine Gg ?_; refine Ld ?_; refine Gg ?_; refine Ld ?_; refine Gg ?_; refine Go ?_; refine goP 20 ?_ TT.mk; refine Gg ?_; refine Ld ?_; refine Gg ?_; refine Ld ?_; refine Gg ?_; refine Go ?_; refine goP 27 ?_ TT.mk; refine Gg ?_; refine Ld ?_; refine Gg ?_; refine Ld ?_; refine Gg ?_; refine Go ?_; refine goP 34 ?_ TT.mk; refine Gg ?_; refine Ld ?_; refine Gg ?_; refine Ld ?_; refine Gg ?_; refine Go ?_; refine goP 41 ?_ TT.mk; refine Gg ?_; refine Ld ?_; refine Gg ?_; refine Ld ?_; refine Gg ?_; refine Go ?_; refine goP 48 ?_ TT.mk; refine Gg ?_; refine Ld ?_; refine Gg ?_; refine Ld ?_; refine Gg ?_; refine Go ?_; refine Gs [(2, _), (3, _), (5, _)] ?_; refine WC.seq ?_; refine WC.sr ?_; refine Go ?_; refine goP 57 ?_ TT.mk; refine Gg ?_; refine Ld ?_; refine Gg ?_; refine Ld ?_; refine WL.call (vs := [_, _]) rfl (fun a w => Tryz.call73 a w) rfl ((ints_ref _ _ (ao.ext0 hx) (bo.ext0 hx) hlo hlo).as (congrArg Value.bool (decide_eq_true rfl))) rfl rfl rfl ?_; rintro _ hz ⟨rfl, _⟩; subst hz; refine Gg ?_; refine Go ?_; refine goP 65 ?_ TT.mk; refine Gg ?_; refine Ld ?_; refine Gg ?_; refine Ld ?_; refine WL.call (vs := [_, _]) rfl (fun a w => Tryz.call74 a w) rfl ((cells_ref _ _ (ar.ext0 hx) (br.ext0 hx)).as (congrArg Value.bool (decide_eq_true er))) rfl rfl rfl ?_; rintro _ hz ⟨rfl, _⟩; subst hz; refine Gg ?_; refine Go ?_; refine goP 73 ?_ TT.mk; refine Gg ?_; refine Ld ?_; refine Gg ?_; refine Ld ?_; refine Gg ?_; refine Go ?_; refine goP 82 ?_ TT.mk; refine Gg ?_; refine Ld ?_; refine Gg ?_; refine Ld ?_; refine Gg ?_; refine Go ?_; refine Gs [(2, _), (3, _), (90, _)] ?_; refine goC 1 2 ?_ TT.mk; refine goB 2 ?_; refine WC.skip ?_; refine Gn ?_; refine WC.seq ?_; refine WC.sr ?_; refine Go ?_; refine WC.block ?_)
  -- loop 0: slots that turn [6], that stay [2, 3]
  all_goals (refine WC.loopG (X := Nat) (fun x => ([(6, In (x : Int))] : Fr)) [(2, _), (3, _)] (fun k h' => h' = h2 ∧ k ≤ c1.length) (fun k => c1.length - k) (0) ⟨rfl, rfl, rfl, trivial⟩ (by exact ⟨rfl, Nat.zero_le _⟩) ?_; rintro k h9 ⟨hz, hk⟩; subst h9; refine WC.sub [(6, _), (2, _), (3, _)] ⟨rfl, rfl, rfl, trivial⟩ ?_; refine WC.seq ?_; refine WC.sr ?_; refine Go ?_; refine Ld ?_; refine Go ?_; refine Gs [(2, _), (3, _), (6, _), (95, _)] ?_; refine goC 3 4 (Hb.mk fun hb => ?_) (Hb.mk fun hb => ?_))
  all_goals (first | (fail_if_success refine goB 3 ?_) | (
  refine goB 3 ?_
  all_goals (refine WC.skip ?_)
  skip))
  all_goals (first | (fail_if_success refine goB 4 ?_) | (
  refine goB 4 ?_
  all_goals (refine WC.exit ?_; repeat' (with_reducible first | refine thenP_x ?_ | refine blockP_miss rfl ?_ | refine blockP_hit ?_ | refine blockP_n ?_ | refine thenP_n ?_))
  all_goals (refine Br.out (i := 1000) ?_)
  skip))
  all_goals (refine Gn ?_; first | (refine Br.keep ?_) | (refine WC.seq ?_))
  all_goals (first | (refine Br.keep ?_) | (refine WC.block ?_))
  all_goals (first | (refine Br.keep ?_) | (refine WC.seq ?_))
  all_goals (first
               | (refine Br.keep ?_)
               | (obtain ⟨g, o, hA, hbL, hat⟩ := Rd.at_ (ac.ext0 hx) (by omega)
                  obtain ⟨g2, o2, hB, hbL2, hat2⟩ := Rd.at_ (bc.ext0 hx) (by omega)
                  obtain ⟨y, hy⟩ : ∃ y, c1[k]? = some y := ⟨_, List.getElem?_eq_getElem (by omega)⟩
                  have at1 : At _ g (o + k * 7) y.cells := At.elem ColD.len hat hy
                  have at2 : At _ g2 (o2 + k * 7) y.cells := At.elem ColD.len hat2 hy))
  all_goals (first | (refine Br.keep ?_) | (refine WC.drawE fol (by kernel_rfl) ?_))
  all_goals (first | (refine Br.keep ?_) | (refine WQ.stepE (ok_fieldAddr rfl Tryz.underlying86 rfl (fun w => Tryz.sizeOf83 w)) rfl rfl rfl ?_))
  all_goals (first | (refine Br.keep ?_) | (refine WQ.stepE (ok_load (fun w => Tryz.isAgg83 w) rfl (by first | assumption | exact cell_blk (by assumption) rfl)) rfl rfl rfl ?_))
  all_goals (first | (refine Br.keep ?_) | (refine WQ.stepE (ok_move rfl) rfl rfl rfl ?_))
  all_goals (first | (refine Br.keep ?_) | (refine WQ.stepE (ok_idxAddrA Tryz.underlying83 (fun w => Tryz.sizeOf173 w) rfl rfl rfl (by omega) (by first | rfl | assumption)) rfl rfl rfl ?_))
  all_goals (first | (refine Br.keep ?_) | (refine WQ.stepE (ok_loadN (fun w => Tryz.isAgg173 w) (fun w => Tryz.sizeOf173 w) rfl rfl (by assumption)) rfl rfl rfl ?_))
  all_goals (first | (refine Br.keep ?_) | (refine WQ.stepE (ok_fieldAddr rfl Tryz.underlying86 rfl (fun w => Tryz.sizeOf83 w)) rfl rfl rfl ?_))
  all_goals (first | (refine Br.keep ?_) | (refine WQ.stepE (ok_load (fun w => Tryz.isAgg83 w) rfl (by first | assumption | exact cell_blk (by assumption) rfl)) rfl rfl rfl ?_))
  all_goals (first | (refine Br.keep ?_) | (refine WQ.stepE (ok_move rfl) rfl rfl rfl ?_))
  all_goals (first | (refine Br.keep ?_) | (refine WQ.stepE (ok_idxAddrA Tryz.underlying83 (fun w => Tryz.sizeOf173 w) rfl rfl rfl (by omega) (by first | rfl | assumption)) rfl rfl rfl ?_))
  all_goals (first | (refine Br.keep ?_) | (refine WQ.stepE (ok_loadN (fun w => Tryz.isAgg173 w) (fun w => Tryz.sizeOf173 w) rfl rfl (by assumption)) rfl rfl rfl ?_))
  all_goals (first | (refine Br.keep ?_) | (refine WQ.stepE (OkP.nbool_f rfl (ok_neqF (us := y.sca) (vs := y.sca) [.s, .i .i64, .i .i64, .i .i64, .i .i64, .i .i64, .i .i64] (by kernel_rfl) rfl rfl rfl rfl)) rfl rfl rfl ?_))
  all_goals (first | (refine Br.keep ?_) | (refine WQ.nil ?_))
  all_goals (refine Gn ?_; first | (refine Br.keep ?_) | (refine Gs [(2, _), (3, _), (6, _), (108, _)] ?_))
  all_goals (first | (refine Br.keep ?_) | (refine goC 5 6 ?_ TT.mk))
  all_goals (first | (fail_if_success refine goB 6 ?_) | (
  refine goB 6 ?_
  all_goals (refine WC.skip ?_)
  skip))
  all_goals (refine Gn ?_; first | (refine Br.keep ?_) | (refine WC.region ?_))
  all_goals (refine Go ?_; first | (refine Br.keep ?_) | (exact ⟨k + 1, ⟨rfl, rfl, rfl, trivial⟩, (by exact ⟨rfl, by omega⟩), (by omega)⟩))
  all_goals (try (refine Br.mk (i := 1000) ?_))
  all_goals (refine Gn ?_; refine WC.seq ?_; refine WC.sr ?_; refine Go ?_; refine WC.block ?_)
  -- loop 1: slots that turn [7], that stay [2, 3]
  all_goals (refine WC.loopG (X := Nat) (fun x => ([(7, In (x : Int))] : Fr)) [(2, _), (3, _)] (fun k h' => h' = h2 ∧ k ≤ f1.length) (fun k => f1.length - k) (0) ⟨rfl, rfl, rfl, trivial⟩ (by exact ⟨rfl, Nat.zero_le _⟩) ?_; rintro k h9 ⟨hz, hk⟩; subst h9; refine WC.sub [(7, _), (2, _), (3, _)] ⟨rfl, rfl, rfl, trivial⟩ ?_; refine WC.seq ?_; refine WC.sr ?_; refine Go ?_; refine Ld ?_; refine Go ?_; refine Gs [(2, _), (3, _), (7, _), (113, _)] ?_; refine goC 7 8 (Hb.mk fun hb => ?_) (Hb.mk fun hb => ?_))
  all_goals (first | (fail_if_success refine goB 7 ?_) | (
  refine goB 7 ?_
  all_goals (refine WC.skip ?_)
  skip))
  all_goals (first | (fail_if_success refine goB 8 ?_) | (
  refine goB 8 ?_
  all_goals (refine WC.exit ?_; repeat' (with_reducible first | refine thenP_x ?_ | refine blockP_miss rfl ?_ | refine blockP_hit ?_ | refine blockP_n ?_ | refine thenP_n ?_))
  all_goals (refine Br.out (i := 1002) ?_)
  skip))
  all_goals (refine Gn ?_; first | (refine Br.keep ?_) | (refine WC.seq ?_))
  all_goals (first | (refine Br.keep ?_) | (refine WC.block ?_))
  all_goals (first | (refine Br.keep ?_) | (refine WC.seq ?_))
  all_goals (first
               | (refine Br.keep ?_)
               | (obtain ⟨g, o, hA, hbL, hat⟩ := Rd.at_ (af.ext0 hx) (by omega)
                  obtain ⟨g2, o2, hB, hbL2, hat2⟩ := Rd.at_ (bf.ext0 hx) (by omega)
                  obtain ⟨y, hy⟩ : ∃ y, f1[k]? = some y := ⟨_, List.getElem?_eq_getElem (by omega)⟩
                  have at1 : At _ g (o + k * 2) y.cells := At.elem FieldD.len hat hy
                  have at2 : At _ g2 (o2 + k * 2) y.cells := At.elem FieldD.len hat2 hy))
  all_goals (first | (refine Br.keep ?_) | (refine WC.drawE fol (by kernel_rfl) ?_))
  all_goals (first | (refine Br.keep ?_) | (refine WQ.stepE (ok_fieldAddr rfl Tryz.underlying86 rfl (fun w => Tryz.sizeOf84 w)) rfl rfl rfl ?_))
  all_goals (first | (refine Br.keep ?_) | (refine WQ.stepE (ok_load (fun w => Tryz.isAgg84 w) rfl (by first | assumption | exact cell_blk (by assumption) rfl)) rfl rfl rfl ?_))
  all_goals (first | (refine Br.keep ?_) | (refine WQ.stepE (ok_move rfl) rfl rfl rfl ?_))
  all_goals (first | (refine Br.keep ?_) | (refine WQ.stepE (ok_idxAddrA Tryz.underlying84 (fun w => Tryz.sizeOf175 w) rfl rfl rfl (by omega) (by first | rfl | assumption)) rfl rfl rfl ?_))
  all_goals (first | (refine Br.keep ?_) | (refine WQ.stepE (ok_loadN (fun w => Tryz.isAgg175 w) (fun w => Tryz.sizeOf175 w) rfl rfl (by assumption)) rfl rfl rfl ?_))
  all_goals (first | (refine Br.keep ?_) | (refine WQ.stepE (ok_fieldAddr rfl Tryz.underlying86 rfl (fun w => Tryz.sizeOf84 w)) rfl rfl rfl ?_))
  all_goals (first | (refine Br.keep ?_) | (refine WQ.stepE (ok_load (fun w => Tryz.isAgg84 w) rfl (by first | assumption | exact cell_blk (by assumption) rfl)) rfl rfl rfl ?_))
  all_goals (first | (refine Br.keep ?_) | (refine WQ.stepE (ok_move rfl) rfl rfl rfl ?_))
  all_goals (first | (refine Br.keep ?_) | (refine WQ.stepE (ok_idxAddrA Tryz.underlying84 (fun w => Tryz.sizeOf175 w) rfl rfl rfl (by omega) (by first | rfl | assumption)) rfl rfl rfl ?_))
  all_goals (first | (refine Br.keep ?_) | (refine WQ.stepE (ok_loadN (fun w => Tryz.isAgg175 w) (fun w => Tryz.sizeOf175 w) rfl rfl (by assumption)) rfl rfl rfl ?_))
  all_goals (first | (refine Br.keep ?_) | (refine WQ.stepE (OkP.nbool_f rfl (ok_neqF (us := y.sca) (vs := y.sca) [.i .u8, .s] (by kernel_rfl) rfl rfl rfl rfl)) rfl rfl rfl ?_))
  all_goals (first | (refine Br.keep ?_) | (refine WQ.nil ?_))
  all_goals (refine Gn ?_; first | (refine Br.keep ?_) | (refine Gs [(2, _), (3, _), (7, _), (126, _)] ?_))
  all_goals (first | (refine Br.keep ?_) | (refine goC 9 10 ?_ TT.mk))
  all_goals (first | (fail_if_success refine goB 10 ?_) | (
  refine goB 10 ?_
  all_goals (refine WC.skip ?_)
  skip))
  all_goals (refine Gn ?_; first | (refine Br.keep ?_) | (refine WC.region ?_))
  all_goals (refine Go ?_; first | (refine Br.keep ?_) | (exact ⟨k + 1, ⟨rfl, rfl, rfl, trivial⟩, (by exact ⟨rfl, by omega⟩), (by omega)⟩))
  all_goals (try (refine Br.mk (i := 1002) ?_))
  all_goals (refine Gn ?_; refine Gs [] ?_; refine WC.sr ?_; refine Go ?_; refine Gt ?_; exact ⟨rfl, hx⟩)
end Go.Proofs.YtggmocdbfbhklaaGreat


/-
  LRU (layer 17) and the document's: each told by the list of numbers that it holds.
-/
namespace Go.Proofs.YtggmocdbfbhklaaGreat
open Go Go.RK

/-- A list of numbers at block b (its struct's type T), its own row in v. -/
structure Lr (T : TypeId) (h : Heap) (b : Nat) (v : Value) (most : Int) (l : List Int) : Prop where
  cells : h[b]? = some (.cells ⟨[v, In most]⟩ T (0, 0))
  own : Own h v 3 1 l.length (ints l)
/-- The blocks that it holds. -/
def Ft (b : Nat) (v : Value) : Nat → Prop := fun k => k = b ∨ v.ownBlock = some k
theorem Lr.ext {T : TypeId} {S : Nat → Prop} {h h' : Heap} {b : Nat} {v : Value} {most : Int} {l : List Int} (r : Lr T h b v most l) (a : Ext S h h') (hS : ∀ k, Ft b v k → ¬ S k) : Lr T h' b v most l :=
  ⟨a.obj r.cells (hS b (.inl rfl)), r.own.ext a fun k hk => hS k (.inr hk)⟩
theorem Lr.ne {T : TypeId} (hT : T ≠ 3) {h : Heap} {b : Nat} {v : Value} {most : Int} {l : List Int} (r : Lr T h b v most l) : v.ownBlock ≠ some b := by
  intro e
  obtain ⟨_, ⟨rfl, _⟩ | ⟨g, cap, cur, rfl, hg, _⟩⟩ := r.own
  · cases e
  · simp only [Value.ownBlock, Option.some.injEq] at e
    subst e
    have := r.cells
    rw [hg] at this
    simp only [Option.some.injEq, Obj.cells.injEq] at this
    exact hT this.2.1.symm
theorem Lr.lt {T : TypeId} {h : Heap} {b : Nat} {v : Value} {most : Int} {l : List Int} (r : Lr T h b v most l) : ∀ k, Ft b v k → k < h.size := by
  rintro k (rfl | e)
  · exact lt_of_some r.cells
  · obtain ⟨_, ⟨rfl, _⟩ | ⟨g, cap, cur, rfl, hg, _⟩⟩ := r.own
    · cases e
    · simp only [Value.ownBlock, Option.some.injEq] at e
      exact e ▸ lt_of_some hg
/-- What a call that turns it leaves: its blocks are those that it had, or new. -/
def Kin (h : Heap) (v v' : Value) : Prop := ∀ k, v'.ownBlock = some k → v.ownBlock = some k ∨ h.size ≤ k

/-- One taken out, wherever it stands. -/
def rmL (l : List Int) (id : Int) : List Int := l.filter fun x => decide (x ≠ id)

/-- What Add answers, and what is there behind it. -/
def addE (most : Int) (l : List Int) (id : Int) : Int := if id ∈ l then 8 else if (l.length : Int) = most then 6 else 0
def addL (most : Int) (l : List Int) (id : Int) : List Int := if id ∈ l then l else if (l.length : Int) = most then l else l ++ [id]
/-- What Touch leaves. -/
def toL (l : List Int) (id : Int) : List Int := if id ∈ l then rmL l id ++ [id] else l
theorem Kin.trans {h h' : Heap} {a b c : Value} (h1 : Kin h a b) (h2 : Kin h' b c) (hs : h.size ≤ h'.size) : Kin h a c := by
  intro k hk
  rcases h2 k hk with e | e
  · exact h1 k e
  · exact .inr (by omega)
end Go.Proofs.YtggmocdbfbhklaaGreat


/-
  CACHE OPS, in plain Lean: what a list of numbers is behind them.
-/
namespace Go.Proofs.YtggmocdbfbhklaaGreat
open Go Go.RK

/-- An op, as it comes in: its kind, its number. -/
abbrev COp := Int × Int × Unit
def copCells : COp → List Value := fun p => [In p.1] ++ ([In p.2.1] ++ [])
theorem copCells_len (a : COp) : (copCells a).length = 2 := rfl
/-- A list behind one op, where there is room for all. -/
def oneL (l : List Int) (k id : Int) : List Int := if k = 1 then (if id ∈ l then l else l ++ [id]) else if k = 2 then rmL l id else if k = 3 then toL l id else l
def foldL (l : List Int) (ops : List COp) : List Int := ops.foldl (fun l o => oneL l o.1 o.2.1) l
/-- A list behind one op, where there are never more than some. -/
def setCa (most : Int) (l : List Int) (k id : Int) : List Int := if k = 1 then addL most l id else if k = 2 then rmL l id else if k = 3 then toL l id else l
def settleL (most : Int) (l : List Int) (ops : List COp) : List Int := ops.foldl (fun l o => setCa most l o.1 o.2.1) l
def goneL (was now : List Int) : List Int := was.filter fun x => decide (x ∉ now)

end Go.Proofs.YtggmocdbfbhklaaGreat


/-
  WHERE THE FIRST STANDS THAT A PREDICATE TAKES, in plain Lean.
-/
namespace Go.Proofs.YtggmocdbfbhklaaGreat
open Go Go.RK

section
variable {α : Type} (p : α → Bool)
/-- Where the first stands that p takes; below 0: nowhere. -/
def idxP : List α → Int
  | [] => -1
  | a :: l => if p a then 0 else if idxP l < 0 then -1 else idxP l + 1
theorem idxP_cases (l : List α) : (idxP p l = -1 ∧ ∀ x ∈ l, p x = false) ∨ ∃ (k : Nat) (x : α), idxP p l = k ∧ l[k]? = some x ∧ p x = true ∧ ∀ y ∈ l.take k, p y = false := by
  induction l with
  | nil => exact .inl ⟨rfl, by simp⟩
  | cons a l ih =>
    unfold idxP
    cases h : p a
    · rw [if_neg (by simp)]
      rcases ih with ⟨h1, h2⟩ | ⟨k, x, h1, h2, h3, h4⟩
      · exact .inl ⟨by rw [h1]; rfl, by simpa [h] using h2⟩
      · exact .inr ⟨k + 1, x, by rw [h1, if_neg (by omega)]; omega, by simpa using h2, h3, by simpa [h] using h4⟩
    · exact .inr ⟨0, a, by simp, by simp, h, by simp⟩
variable {p}
theorem idxP_at {l : List α} {k : Nat} {x : α} (h1 : l[k]? = some x) (hx : p x = true) (h2 : ∀ y ∈ l.take k, p y = false) : idxP p l = k := by
  rcases idxP_cases p l with ⟨_, h⟩ | ⟨j, y, h, h3, h4, h5⟩
  · rw [h x (List.mem_of_getElem? h1)] at hx; cases hx
  · rw [h]
    rcases Nat.lt_trichotomy j k with e | e | e
    · rw [h2 y (List.mem_of_getElem? (show (l.take k)[j]? = some y by rw [List.getElem?_take, if_pos e]; exact h3))] at h4; cases h4
    · rw [e]
    · rw [h5 x (List.mem_of_getElem? (show (l.take j)[k]? = some x by rw [List.getElem?_take, if_pos e]; exact h1))] at hx; cases hx
theorem idxP_no {l : List α} (h : ∀ x ∈ l, p x = false) : idxP p l = -1 := by
  rcases idxP_cases p l with ⟨e, _⟩ | ⟨j, y, _, h3, h4, _⟩
  · exact e
  · rw [h y (List.mem_of_getElem? h3)] at h4; cases h4
theorem idxP_geq (l : List α) : decide (0 ≤ idxP p l) = l.any p := by
  rcases idxP_cases p l with ⟨e, h⟩ | ⟨j, y, e, h3, h4, _⟩
  · rw [e, (List.any_eq_false.2 (fun x hx => by rw [h x hx]; simp) : l.any p = false)]
    rfl
  · rw [e, (List.any_eq_true.2 ⟨y, List.mem_of_getElem? h3, h4⟩ : l.any p = true)]
    exact decide_eq_true (by omega)
theorem take_snoc_p {l : List α} {y : α} {k : Nat} (h : ∀ x ∈ l.take k, p x = false) (hk : l[k]? = some y) (hy : p y = false) : ∀ x ∈ l.take (k + 1), p x = false := by
  intro x hx
  rw [List.take_add_one, hk] at hx
  simp only [Option.toList_some, List.mem_append, List.mem_singleton] at hx
  rcases hx with hx | rfl
  · exact h x hx
  · exact hy
end
end Go.Proofs.YtggmocdbfbhklaaGreat


/-
  package slices at slices of numbers: IndexFunc, DeleteFunc, Contains.
-/
namespace Go.Proofs.YtggmocdbfbhklaaGreat
open Go Go.RK
set_option maxHeartbeats 2000000 in
set_option maxRecDepth 100000 in
theorem indexFunc_int {h : Heap} {A : Option Addr} {c : Nat} (l : List Int) (p : Int → Bool) {fk : Nat} {fs us : List Value} (hcf : ∀ (args : Array Value) (w : World), (callFunc fk args).run Tryz.prog w = .ok (.enter fk args) w) (hr : Rd h (.slice A l.length c) 1 l.length (l.map In)) (hm : l.length ≤ maxLen)
    (hp : ∀ x ∈ l, CallsH Tryz.prog fk ⟨fs ++ [In x] ++ us⟩ h fun u h' => u = .bool (p x) ∧ h' = h) :
    CallsH Tryz.prog 129 ⟨[.slice A l.length c, .func (.func fk) ⟨fs⟩ ⟨us⟩]⟩ h fun u h' => u = In (idxP p l) ∧ h' = h := by
  unfold maxLen at hm
  refine calls [(0, _), (1, _)] Tryz.func129 rfl Tryz.ntmps129 rfl ⟨rfl, rfl, trivial⟩ ?_
  all_goals (refine WC.sr ?_; refine Go ?_; refine WC.seq ?_; refine WC.sr ?_; refine Go ?_; refine WC.block ?_)
  -- loop 0: slots that turn [8], that stay [0, 1, 7]
  all_goals (refine WC.loopG (X := Nat) (fun x => ([(8, In (x : Int))] : Fr)) [(0, _), (1, _), (7, _)] (fun k h' => h' = h ∧ k ≤ l.length ∧ ∀ x ∈ l.take k, p x = false) (fun k => l.length - k) (0) ⟨rfl, rfl, rfl, rfl, trivial⟩ (by exact ⟨rfl, Nat.zero_le _, by simp⟩) ?_; rintro k _ ⟨rfl, hk, hn⟩; refine WC.sub [(8, _), (0, _), (1, _), (7, _)] ⟨rfl, rfl, rfl, rfl, trivial⟩ ?_; refine WC.sr ?_; refine Go ?_; refine WC.seq ?_; refine goC 1 2 (Hb.mk fun hb => ?_) (Hb.mk fun hb => ?_))
  all_goals (first | (fail_if_success refine goB 1 ?_) | (
  refine goB 1 ?_
  all_goals (refine WC.skip ?_)
  skip))
  all_goals (first | (fail_if_success refine goB 2 ?_) | (
  refine goB 2 ?_
  all_goals (refine WC.exit ?_; repeat' (with_reducible first | refine thenP_x ?_ | refine blockP_miss rfl ?_ | refine blockP_hit ?_ | refine blockP_n ?_ | refine thenP_n ?_))
  all_goals (refine Br.out (i := 1000) ?_)
  skip))
  all_goals (refine Gn ?_; first | (refine Br.keep ?_) | (refine WC.seq ?_))
  all_goals (first | (refine Br.keep ?_) | (refine WC.block ?_))
  all_goals (first | (refine Br.keep ?_) | (refine WC.sr ?_))
  all_goals (refine Go ?_; first | (refine Br.keep ?_) | (refine WC.sr ?_))
  all_goals (refine Go ?_)
  all_goals (first
               | (refine Br.keep ?_)
               | (obtain ⟨b, o, hA, hbL, hat⟩ := Rd.at_ hr (by omega)
                  obtain ⟨y, hy⟩ : ∃ y, l[k]? = some y := ⟨_, List.getElem?_eq_getElem (by omega)⟩
                  have hc := hat.get (p := o + k * 1) (v := In y) k (by rw [List.getElem?_map, hy]; exact rfl) (by omega)))
  all_goals (first | (refine Br.keep ?_) | (refine WL.step (ok_idxAddrA Tryz.underlying24 (fun w => Tryz.sizeOf3 w) rfl rfl rfl (by omega) (by first | rfl | assumption)) rfl rfl rfl ?_))
  all_goals (first | (refine Br.keep ?_) | (refine Ld ?_))
  all_goals (first
               | (refine Br.keep ?_)
               | (refine WL.callT (vs := [_]) rfl rfl hcf rfl (hp y (List.mem_of_getElem? hy)) rfl rfl rfl ?_
                  rintro _ hz ⟨rfl, _⟩
                  subst hz))
  all_goals (first | (refine Br.keep ?_) | (cases hpy : p y))
  all_goals (refine Gn ?_; first | (refine Br.keep ?_) | (refine Gs [(0, _), (1, _), (5, _), (7, _), (8, _), (16, _)] ?_))
  all_goals (first | (refine Br.keep ?_) | (refine goC 3 4 ?_ TT.mk))
  all_goals (first | (fail_if_success refine goB 3 ?_) | (
  refine goB 3 ?_
  all_goals (refine WC.sr ?_; refine Go ?_; refine Gs [(4, _)] ?_; refine Gt ?_; first | exact ⟨by rw [idxP_no (by rw [List.take_of_length_le (by omega)] at hn; exact hn)], rfl⟩ | exact ⟨by rw [idxP_at hy hpy hn], rfl⟩)
  skip))
  all_goals (first | (fail_if_success refine goB 4 ?_) | (
  refine goB 4 ?_
  all_goals (refine WC.skip ?_)
  skip))
  all_goals (refine Gn ?_; first | (refine Br.keep ?_) | (refine WC.region ?_))
  all_goals (refine Go ?_; first | (refine Br.keep ?_) | (exact ⟨k + 1, ⟨rfl, rfl, rfl, rfl, trivial⟩, (by exact ⟨rfl, by omega, take_snoc_p hn hy hpy⟩), (by omega)⟩))
  all_goals (try (refine Br.mk (i := 1000) ?_))
  all_goals (refine Gn ?_; refine Gs [] ?_; refine WC.sr ?_; refine Go ?_; refine Gt ?_; first | exact ⟨by rw [idxP_no (by rw [List.take_of_length_le (by omega)] at hn; exact hn)], rfl⟩ | exact ⟨by rw [idxP_at hy hpy hn], rfl⟩)

set_option maxHeartbeats 2000000 in
set_option maxRecDepth 100000 in
theorem contains_int {h : Heap} {A : Option Addr} {c : Nat} (l : List Int) (x : Int) (hr : Rd h (.slice A l.length c) 1 l.length (ints l)) (hm : l.length ≤ maxLen) :
    CallsH Tryz.prog 85 ⟨[.slice A l.length c, In x]⟩ h fun u h' => u = .bool (decide (x ∈ l)) ∧ h' = h := by
  refine calls [(0, _), (1, _)] Tryz.func85 rfl Tryz.ntmps85 rfl ⟨rfl, rfl, trivial⟩ ?_
  all_goals (refine WC.sr ?_; refine Go ?_; refine WC.sr ?_; refine Go ?_; refine WL.call (vs := [_, _]) rfl (fun a w => Tryz.call112 a w) rfl (index_int l x hr hm) rfl rfl rfl ?_; rintro _ hz ⟨rfl, _⟩; subst hz; refine WL.step (ok_geq rfl rfl) rfl rfl rfl ?_; refine Go ?_; refine Gs [(4, _)] ?_; refine Gt ?_; exact ⟨by rcases idxOf_cases l x with ⟨e, h1⟩ | ⟨k, e, h1, _⟩; rw [e, decide_eq_false h1]; rfl; rw [e, decide_eq_true (List.mem_of_getElem? h1), decide_eq_true (by omega)], rfl⟩)
end Go.Proofs.YtggmocdbfbhklaaGreat


/-
  api.Entry and ops of caches as they come in; whether entries are few.
-/
namespace Go.Proofs.YtggmocdbfbhklaaGreat
open Go Go.RK

abbrev Ops (h : Heap) (v : Value) (l : List COp) : Prop := Rd h v 2 l.length (l.flatMap copCells) ∧ l.length * 16 ≤ reachBytes
theorem Ops.ext0 {h h' : Heap} {v : Value} {l : List COp} (k : Ops h v l) (a : Ext No h h') : Ops h' v l := ⟨k.1.ext0 a, k.2⟩
theorem one_op {h : Heap} {b : Nat} {a c : Int} (hb : h[b]? = some (.cells ⟨[In a, In c]⟩ 129 (0, 0))) : Ops h (.slice (some ⟨b, 0, none⟩) 1 1) [(a, c, ())] := ⟨rd_blk hb rfl, by simp [reachBytes]⟩
/-- A row of ops among others. -/
structure Ob where
  v : Value
  l : List COp
def Obs (h : Heap) (v : Value) (L : List Ob) : Prop := Rd h v 1 L.length (L.map Ob.v) ∧ L.length * 24 ≤ reachBytes ∧ ∀ r ∈ L, Ops h r.v r.l
theorem Obs.ext0 {h h' : Heap} {v : Value} {L : List Ob} (k : Obs h v L) (a : Ext No h h') : Obs h' v L := ⟨k.1.ext0 a, k.2.1, fun r hr => (k.2.2 r hr).ext0 a⟩
abbrev TOp := Bool × List UInt8 × Int × Unit
def topCells : TOp → List Value := fun p => [.bool p.1] ++ ([St p.2.1] ++ ([In p.2.2.1] ++ []))
theorem topCells_len (a : TOp) : (topCells a).length = 3 := rfl
abbrev Tops (h : Heap) (v : Value) (l : List TOp) : Prop := Rd h v 3 l.length (l.flatMap topCells) ∧ l.length ≤ maxLen
/-- An entry. -/
structure En where
  kind : Int
  hide : Bool
  src : List UInt8
  dst : List UInt8
  vg : Value
  good : List TOp
  vb : Value
  bad : List TOp
  vc : Value
  ops : List COp
  vr : Value
  reply : List UInt8
def En.cells (e : En) : List Value := [In e.kind, .bool e.hide, St e.src, St e.dst, e.vg, e.vb, e.vc, e.vr]
theorem En.len (e : En) : e.cells.length = 8 := rfl
structure En.ok (h : Heap) (e : En) : Prop where
  good : Tops h e.vg e.good
  bad : Tops h e.vb e.bad
  ops : Ops h e.vc e.ops
  reply : Rd h e.vr 1 e.reply.length (bys e.reply) ∧ e.reply.length ≤ reachBytes
theorem En.ok.ext0 {h h' : Heap} {e : En} (k : e.ok h) (a : Ext No h h') : e.ok h' := ⟨⟨k.1.1.ext0 a, k.1.2⟩, ⟨k.2.1.ext0 a, k.2.2⟩, k.3.ext0 a, ⟨k.4.1.ext0 a, k.4.2⟩⟩
theorem En.ok.one {h : Heap} {e : En} (k : e.ok h) : ∀ v ∈ e.cells, v.oneCell' = true := by
  obtain ⟨A1, c1, e1, _⟩ := k.1.1
  obtain ⟨A2, c2, e2, _⟩ := k.2.1
  obtain ⟨A3, c3, e3, _⟩ := k.3.1
  obtain ⟨A4, c4, e4, _⟩ := k.4.1
  simp [En.cells, Value.oneCell', e1, e2, e3, e4]
def Ens (h : Heap) (v : Value) (L : List En) : Prop := Rd h v 8 L.length (L.flatMap En.cells) ∧ L.length ≤ maxLen ∧ ∀ e ∈ L, e.ok h
theorem Ens.ext0 {h h' : Heap} {v : Value} {L : List En} (k : Ens h v L) (a : Ext No h h') : Ens h' v L := ⟨k.1.ext0 a, k.2.1, fun r hr => (k.2.2 r hr).ext0 a⟩
/-! ### whether they are few -/
/-- One that is too long. -/
def En.far (e : En) : Bool := decide (10 < e.good.length) || decide (10 < e.bad.length) || decide (10 < e.ops.length) || decide (300 < e.reply.length) || decide (300 < e.src.length) || decide (300 < e.dst.length)
/-- Few and short. -/
def fewE (L : List En) (n : Nat) : Bool := decide (L.length ≤ n) && !L.any En.far
end Go.Proofs.YtggmocdbfbhklaaGreat


/-
  api.Front, and the document's compare of two of them; of entries, too (equal ones).
-/
namespace Go.Proofs.YtggmocdbfbhklaaGreat
open Go Go.RK

structure Fm where
  kind : Int
  what : Int
  name : List UInt8
  portal : List UInt8
  text : List UInt8
  vo : Value
  oids : List Int
  vf : Value
  formats : List Int
  vs : Value
  results : List Int
  vp : Value
  params : List Cel
  max : Int
def Fm.cells (b : Fm) : List Value := [.int .u8 b.kind, .int .u8 b.what, St b.name, St b.portal, St b.text, b.vo, b.vf, b.vs, b.vp, In b.max]
theorem Fm.len (b : Fm) : b.cells.length = 10 := rfl
structure Fm.ok (h : Heap) (b : Fm) : Prop where
  oids : Rd h b.vo 1 b.oids.length (ints b.oids) ∧ b.oids.length ≤ maxLen
  formats : Rd h b.vf 1 b.formats.length (ints b.formats) ∧ b.formats.length ≤ maxLen
  results : Rd h b.vs 1 b.results.length (ints b.results) ∧ b.results.length ≤ maxLen
  params : Cels h b.vp b.params
theorem Fm.ok.ext0 {h h' : Heap} {b : Fm} (k : b.ok h) (a : Ext No h h') : b.ok h' := ⟨⟨k.1.1.ext0 a, k.1.2⟩, ⟨k.2.1.ext0 a, k.2.2⟩, ⟨k.3.1.ext0 a, k.3.2⟩, k.4.ext0 a⟩
theorem Fm.ok.one {h : Heap} {e : Fm} (k : e.ok h) : ∀ v ∈ e.cells, v.oneCell' = true := by
  obtain ⟨A1, c1, e1, _⟩ := k.1.1
  obtain ⟨A2, c2, e2, _⟩ := k.2.1
  obtain ⟨A3, c3, e3, _⟩ := k.3.1
  obtain ⟨_, ⟨_, A4, c4, e4, _⟩, _⟩ := k.4
  simp [Fm.cells, Value.oneCell', e1, e2, e3, e4]
def Fm.pl (b : Fm) := (b.kind, b.what, b.name, b.portal, b.text, b.oids, b.formats, b.results, b.params.map Cel.pl, b.max)
def Fms (h : Heap) (v : Value) (L : List Fm) : Prop := Rd h v 10 L.length (L.flatMap Fm.cells) ∧ L.length ≤ maxLen ∧ ∀ e ∈ L, e.ok h
theorem Fms.ext0 {h h' : Heap} {v : Value} {L : List Fm} (k : Fms h v L) (a : Ext No h h') : Fms h' v L := ⟨k.1.ext0 a, k.2.1, fun r hr => (k.2.2 r hr).ext0 a⟩

set_option maxHeartbeats 2000000 in
set_option maxRecDepth 100000 in
theorem same06_true {h : Heap} (a b : Fm) (ha : a.ok h) (hb : b.ok h) (e : a.pl = b.pl) :
    CallsH Tryz.prog 39 ⟨[.agg ⟨a.cells⟩, .agg ⟨b.cells⟩]⟩ h fun u h' => u = .bool true ∧ Ext No h h' := by
  obtain ⟨k1, w1, n1, p1, t1, vo1, o1, vf1, f1, vs1, r1, vp1, c1, m1⟩ := a
  obtain ⟨k2, w2, n2, p2, t2, vo2, o2, vf2, f2, vs2, r2, vp2, c2, m2⟩ := b
  simp only [Fm.pl, Prod.mk.injEq] at e
  obtain ⟨rfl, rfl, rfl, rfl, rfl, rfl, rfl, rfl, ec, rfl⟩ := e
  obtain ⟨⟨ao, lo⟩, ⟨af, lf⟩, ⟨as', ls⟩, ap⟩ := ha
  obtain ⟨⟨bo, _⟩, ⟨bf, _⟩, ⟨bs', _⟩, bp⟩ := hb
  simp only at ao af as' ap bo bf bs' bp lo lf ls
  obtain ⟨Ao, co, rfl, _⟩ := id ao
  obtain ⟨Bo, do_, rfl, _⟩ := id bo
  obtain ⟨Af, cf, rfl, _⟩ := id af
  obtain ⟨Bf, df, rfl, _⟩ := id bf
  obtain ⟨As, cs, rfl, _⟩ := id as'
  obtain ⟨Bs, ds, rfl, _⟩ := id bs'
  obtain ⟨_, ⟨_, Ap, cp, rfl, _⟩, _⟩ := id ap
  obtain ⟨_, ⟨_, Bp, dp, rfl, _⟩, _⟩ := id bp
  dsimp only [Fm.cells]
  refine calls [(0, _), (1, _)] Tryz.func39 rfl Tryz.ntmps39 rfl ⟨rfl, rfl, trivial⟩ ?_
  all_goals (refine WC.sr ?_; refine WL.stepR (okE_box rfl) rfl rfl rfl ?_; rintro _ h1 ⟨b1, rfl, hg1, hb1, hx1⟩; refine WL.stepR (okE_box rfl) rfl rfl rfl ?_; rintro _ h2 ⟨b2, rfl, hg2, hb2, hx2⟩; have hb1' := hx2.obj hb1 nos; have hx := hx1.trans hx2; refine Go ?_; refine WC.sr ?_; refine Go ?_; refine Ld ?_; refine Go ?_; refine Ld ?_; refine Go ?_; refine goP 11 ?_ TT.mk; refine Gg ?_; refine Ld ?_; refine Gg ?_; refine Ld ?_; refine Gg ?_; refine Go ?_; refine goP 18 ?_ TT.mk; refine Gg ?_; refine Ld ?_; refine Gg ?_; refine Ld ?_; refine Gg ?_; refine Go ?_; refine goP 25 ?_ TT.mk; refine Gg ?_; refine Ld ?_; refine Gg ?_; refine Ld ?_; refine Gg ?_; refine Go ?_; refine goP 32 ?_ TT.mk; refine Gg ?_; refine Ld ?_; refine Gg ?_; refine Ld ?_; refine Gg ?_; refine Go ?_; refine goP 39 ?_ TT.mk; refine Gg ?_; refine Ld ?_; refine Gg ?_; refine Ld ?_; refine Gg ?_; refine Go ?_; refine Gs [(2, _), (3, _), (5, _)] ?_; refine WC.sr ?_; refine Go ?_; refine goP 47 ?_ TT.mk; refine Gg ?_; refine Ld ?_; refine Gg ?_; refine Ld ?_; refine WL.call (vs := [_, _]) rfl (fun a w => Tryz.call73 a w) rfl ((ints_ref _ _ (ao.ext0 hx) (bo.ext0 hx) lo lo).as (congrArg Value.bool (decide_eq_true rfl))) rfl rfl rfl ?_; rintro _ hz ⟨rfl, _⟩; subst hz; refine Go ?_; refine goP 54 ?_ TT.mk; refine Gg ?_; refine Ld ?_; refine Gg ?_; refine Ld ?_; refine WL.call (vs := [_, _]) rfl (fun a w => Tryz.call73 a w) rfl ((ints_ref _ _ (af.ext0 hx) (bf.ext0 hx) lf lf).as (congrArg Value.bool (decide_eq_true rfl))) rfl rfl rfl ?_; rintro _ hz ⟨rfl, _⟩; subst hz; refine Go ?_; refine goP 61 ?_ TT.mk; refine Gg ?_; refine Ld ?_; refine Gg ?_; refine Ld ?_; refine WL.call (vs := [_, _]) rfl (fun a w => Tryz.call73 a w) rfl ((ints_ref _ _ (as'.ext0 hx) (bs'.ext0 hx) ls ls).as (congrArg Value.bool (decide_eq_true rfl))) rfl rfl rfl ?_; rintro _ hz ⟨rfl, _⟩; subst hz; refine Go ?_; refine goP 68 ?_ TT.mk; refine Gg ?_; refine Ld ?_; refine Gg ?_; refine Ld ?_; refine WL.call (vs := [_, _]) rfl (fun a w => Tryz.call74 a w) rfl ((cells_ref _ _ (ap.ext0 hx) (bp.ext0 hx)).as (congrArg Value.bool (decide_eq_true ec))) rfl rfl rfl ?_; rintro _ hz ⟨rfl, _⟩; subst hz; refine Go ?_; refine Gs [(4, _)] ?_; refine Gt ?_; exact ⟨rfl, hx⟩)
theorem map_get {α β : Type} {F : α → β} {l m : List α} {k : Nat} {a b : α} (e : l.map F = m.map F) (ha : l[k]? = some a) (hb : m[k]? = some b) : F a = F b := by
  have := congrArg (·[k]?) e
  simpa [ha, hb] using this
set_option maxHeartbeats 2000000 in
set_option maxRecDepth 100000 in
theorem sameAll_true {h : Heap} {v w : Value} (L M : List Fm) (hL : Fms h v L) (hM : Fms h w M) (e : L.map Fm.pl = M.map Fm.pl) :
    CallsH Tryz.prog 38 ⟨[v, w, .func (.func 39) ⟨[]⟩ ⟨[]⟩]⟩ h fun u h' => u = .bool true ∧ Ext No h h' := by
  obtain ⟨hr, hm, hok⟩ := hL
  obtain ⟨hs, _, hok2⟩ := hM
  have hlen : M.length = L.length := by simpa using (congrArg List.length e).symm
  obtain ⟨A, c, rfl, _⟩ := id hr
  obtain ⟨B, d, rfl, _⟩ := id hs
  unfold maxLen at hm
  refine calls [(0, _), (1, _), (2, _)] Tryz.func38 rfl Tryz.ntmps38 rfl ⟨rfl, rfl, rfl, trivial⟩ ?_
  all_goals (refine WC.sr ?_; refine Go ?_; refine WC.seq ?_; refine WC.sr ?_; refine Go ?_; refine Gs [(0, _), (1, _), (2, _), (14, _)] ?_; refine goC 1 2 ?_ TT.mk; refine goB 2 ?_; refine WC.skip ?_; refine Gn ?_; refine WC.seq ?_; refine WC.sr ?_; refine Go ?_; refine WC.block ?_)
  -- loop 0: slots that turn [17], that stay [1, 2, 15, 16]
  all_goals (refine WC.loopG (X := Nat) (fun x => ([(17, In (x : Int))] : Fr)) [(1, _), (2, _), (15, _), (16, _)] (fun k h' => Ext No h h' ∧ k ≤ L.length) (fun k => L.length - k) (0) ⟨rfl, rfl, rfl, rfl, rfl, trivial⟩ (by exact ⟨.refl _ _, Nat.zero_le _⟩) ?_; rintro k h1 ⟨hx1, hk⟩; refine WC.sub [(17, _), (1, _), (2, _), (15, _), (16, _)] ⟨rfl, rfl, rfl, rfl, rfl, trivial⟩ ?_; refine WC.sr ?_; refine Go ?_; refine WC.seq ?_; refine goC 3 4 (Hb.mk fun hb => ?_) (Hb.mk fun hb => ?_))
  all_goals (first | (fail_if_success refine goB 3 ?_) | (
  refine goB 3 ?_
  all_goals (refine WC.skip ?_)
  skip))
  all_goals (first | (fail_if_success refine goB 4 ?_) | (
  refine goB 4 ?_
  all_goals (refine WC.exit ?_; repeat' (with_reducible first | refine thenP_x ?_ | refine blockP_miss rfl ?_ | refine blockP_hit ?_ | refine blockP_n ?_ | refine thenP_n ?_))
  all_goals (refine Br.out (i := 1000) ?_)
  skip))
  all_goals (refine Gn ?_; first | (refine Br.keep ?_) | (refine WC.seq ?_))
  all_goals (first | (refine Br.keep ?_) | (refine WC.block ?_))
  all_goals (first | (refine Br.keep ?_) | (refine WC.sr ?_))
  all_goals (first
               | (refine Br.keep ?_)
               | (obtain ⟨b1, o1, hA, hbL, hat⟩ := Rd.at_ (hr.ext0 hx1) (by omega)
                  obtain ⟨b2, o2, hB, hbL2, hat2⟩ := Rd.at_ (hs.ext0 hx1) (by omega)
                  obtain ⟨y, hy⟩ : ∃ y, L[k]? = some y := ⟨_, List.getElem?_eq_getElem (by omega)⟩
                  obtain ⟨z, hz⟩ : ∃ z, M[k]? = some z := ⟨_, List.getElem?_eq_getElem (by omega)⟩
                  have hc1 : At h1 b1 (o1 + k * 10) y.cells := At.elem Fm.len hat hy
                  have hc2 : At h1 b2 (o2 + k * 10) z.cells := At.elem Fm.len hat2 hz
                  have ok1 := hok y (List.mem_of_getElem? hy)
                  have ok2 := hok2 z (List.mem_of_getElem? hz)))
  all_goals (first | (refine Br.keep ?_) | (refine WL.step (ok_move rfl) rfl rfl rfl ?_))
  all_goals (first | (refine Br.keep ?_) | (refine WL.step (ok_idxAddrA Tryz.underlying36 (fun w => Tryz.sizeOf27 w) rfl rfl rfl (by omega) (by first | rfl | assumption)) rfl rfl rfl ?_))
  all_goals (first | (refine Br.keep ?_) | (refine WL.step (ok_loadN (fun w => Tryz.isAgg27 w) (fun w => Tryz.sizeOf27 w) rfl rfl (by assumption)) rfl rfl rfl ?_))
  all_goals (first
               | (refine Br.keep ?_)
               | (refine WL.stepR (okE_alloc (fun w => Tryz.zeroValue27 w)) rfl rfl rfl ?_
                  rintro _ h3 ⟨b3, rfl, hg3, hb3, hx3⟩))
  all_goals (refine Go ?_)
  all_goals (first
               | (refine Br.keep ?_)
               | (refine WL.stepR0 (okE_storeW (fun w => Tryz.sizeOf27 w) rfl rfl rfl (by assumption) rfl ok1.one) rfl rfl ?_
                  rintro _ h4 ⟨hb4, hx4⟩))
  all_goals (first
               | (refine Br.keep ?_)
               | (have hX4 := hx1.trans (hx3.trans' hx4 (fun q hq e => by omega))
                  have hat4 := At.of_block hb4
                  have hc2' := hc2.ext (hx3.trans' hx4 (fun q hq e => by omega)) (nos : ¬ No b2)))
  all_goals (refine Gn ?_; first | (refine Br.keep ?_) | (refine Gs [(1, _), (2, _), (7, _), (8, _), (15, _), (16, _), (17, _)] ?_))
  all_goals (first | (refine Br.keep ?_) | (refine WC.sr ?_))
  all_goals (refine Go ?_; first | (refine Br.keep ?_) | (refine WL.step (ok_idxAddrA Tryz.underlying36 (fun w => Tryz.sizeOf27 w) rfl rfl rfl (by omega) (by first | rfl | assumption)) rfl rfl rfl ?_))
  all_goals (first | (refine Br.keep ?_) | (refine WL.step (ok_loadN (fun w => Tryz.isAgg27 w) (fun w => Tryz.sizeOf27 w) rfl rfl (by assumption)) rfl rfl rfl ?_))
  all_goals (first
               | (refine Br.keep ?_)
               | (refine WL.stepR (okE_alloc (fun w => Tryz.zeroValue27 w)) rfl rfl rfl ?_
                  rintro _ h5 ⟨b5, rfl, hg5, hb5, hx5⟩))
  all_goals (first
               | (refine Br.keep ?_)
               | (refine WL.stepR0 (okE_storeW (fun w => Tryz.sizeOf27 w) rfl rfl rfl (by assumption) rfl ok2.one) rfl rfl ?_
                  rintro _ h6 ⟨hb6, hx6⟩))
  all_goals (first
               | (refine Br.keep ?_)
               | (have hx56 := hx5.trans' hx6 (S := No) (fun q hq e => by omega)
                  have hX6 := hX4.trans hx56
                  have hat4' := hat4.ext hx56 nos
                  have hat6 := At.of_block hb6))
  all_goals (refine Gn ?_; first | (refine Br.keep ?_) | (refine Gs [(1, _), (2, _), (8, _), (9, _), (15, _), (16, _), (17, _)] ?_))
  all_goals (first | (refine Br.keep ?_) | (refine WC.sr ?_))
  all_goals (refine Go ?_; first | (refine Br.keep ?_) | (refine WL.step (ok_loadN (fun w => Tryz.isAgg27 w) (fun w => Tryz.sizeOf27 w) rfl rfl (by assumption)) rfl rfl rfl ?_))
  all_goals (first | (refine Br.keep ?_) | (refine WL.step (ok_loadN (fun w => Tryz.isAgg27 w) (fun w => Tryz.sizeOf27 w) rfl rfl (by assumption)) rfl rfl rfl ?_))
  all_goals (first
               | (refine Br.keep ?_)
               | (refine WL.callT (vs := [_, _]) rfl rfl (fun a w => Tryz.call39 a w) rfl (same06_true y z (ok1.ext0 hX6) (ok2.ext0 hX6) (map_get e hy hz)) rfl rfl rfl ?_
                  rintro _ h7 ⟨rfl, hx7⟩))
  all_goals (refine Go ?_; first | (refine Br.keep ?_) | (refine Gs [(1, _), (2, _), (15, _), (16, _), (17, _), (30, _)] ?_))
  all_goals (first | (refine Br.keep ?_) | (refine goC 5 6 ?_ TT.mk))
  all_goals (first | (fail_if_success refine goB 6 ?_) | (
  refine goB 6 ?_
  all_goals (refine WC.skip ?_)
  skip))
  all_goals (refine Gn ?_; first | (refine Br.keep ?_) | (refine WC.region ?_))
  all_goals (refine Go ?_; first | (refine Br.keep ?_) | (exact ⟨k + 1, ⟨rfl, rfl, rfl, rfl, rfl, trivial⟩, (by exact ⟨hX6.trans hx7, by omega⟩), (by omega)⟩))
  all_goals (try (refine Br.mk (i := 1000) ?_))
  all_goals (refine Gn ?_; refine Gs [] ?_; refine WC.sr ?_; refine Go ?_; refine Gt ?_; exact ⟨rfl, hx1⟩)

/-! ### entries -/
def En.pl (e : En) := (e.kind, e.hide, e.src, e.dst, e.good, e.bad, e.ops, e.reply)
set_option maxHeartbeats 2000000 in
set_option maxRecDepth 100000 in
theorem tops_true {h : Heap} {v w : Value} (l : List TOp) (hl : Tops h v l) (hm : Tops h w l) :
    CallsH Tryz.prog 75 ⟨[v, w]⟩ h fun u h' => u = .bool true ∧ h' = h := by
  obtain ⟨hr, hle⟩ := hl
  obtain ⟨hs, _⟩ := hm
  obtain ⟨A, c, rfl, _⟩ := id hr
  obtain ⟨B, d, rfl, _⟩ := id hs
  unfold maxLen at hle
  refine calls [(0, _), (1, _)] Tryz.func75 rfl Tryz.ntmps75 rfl ⟨rfl, rfl, trivial⟩ ?_
  all_goals (refine WC.sr ?_; refine Go ?_; refine WC.seq ?_; refine WC.sr ?_; refine Go ?_; refine Gs [(0, _), (1, _), (10, _)] ?_; refine goC 1 2 ?_ TT.mk; refine goB 2 ?_; refine WC.skip ?_; refine Gn ?_; refine WC.seq ?_; refine WC.sr ?_; refine Go ?_; refine WC.block ?_)
  -- loop 0: slots that turn [5], that stay [0, 1]
  all_goals (refine WC.loopG (X := Nat) (fun x => ([(5, In (x : Int))] : Fr)) [(0, _), (1, _)] (fun k h' => h' = h ∧ k ≤ l.length) (fun k => l.length - k) (0) ⟨rfl, rfl, rfl, trivial⟩ (by exact ⟨rfl, Nat.zero_le _⟩) ?_; rintro k h9 ⟨hz, hk⟩; subst h9; refine WC.sub [(5, _), (0, _), (1, _)] ⟨rfl, rfl, rfl, trivial⟩ ?_; refine WC.seq ?_; refine WC.sr ?_; refine Go ?_; refine goC 3 4 (Hb.mk fun hb => ?_) (Hb.mk fun hb => ?_))
  all_goals (first | (fail_if_success refine goB 3 ?_) | (
  refine goB 3 ?_
  all_goals (refine WC.skip ?_)
  skip))
  all_goals (first | (fail_if_success refine goB 4 ?_) | (
  refine goB 4 ?_
  all_goals (refine WC.exit ?_; repeat' (with_reducible first | refine thenP_x ?_ | refine blockP_miss rfl ?_ | refine blockP_hit ?_ | refine blockP_n ?_ | refine thenP_n ?_))
  all_goals (refine Br.out (i := 1000) ?_)
  skip))
  all_goals (refine Gn ?_; first | (refine Br.keep ?_) | (refine Gs [(0, _), (1, _), (5, _)] ?_))
  all_goals (first | (refine Br.keep ?_) | (refine WC.seq ?_))
  all_goals (first | (refine Br.keep ?_) | (refine WC.block ?_))
  all_goals (first | (refine Br.keep ?_) | (refine WC.seq ?_))
  all_goals (first
               | (refine Br.keep ?_)
               | (obtain ⟨b1, o1, hA, hbL, hat⟩ := Rd.at_ hr (by omega)
                  obtain ⟨b2, o2, hB, hbL2, hat2⟩ := Rd.at_ hs (by omega)
                  obtain ⟨⟨ya, yb, yc, _⟩, hy⟩ : ∃ y, l[k]? = some y := ⟨_, List.getElem?_eq_getElem (by omega)⟩
                  have at1 : At h b1 (o1 + k * 3) [.bool ya, St yb, In yc] := At.elem topCells_len hat hy
                  have at2 : At h b2 (o2 + k * 3) [.bool ya, St yb, In yc] := At.elem topCells_len hat2 hy))
  all_goals (first | (refine Br.keep ?_) | (refine WC.drawE fol (by kernel_rfl) ?_))
  all_goals (first | (refine Br.keep ?_) | (refine WQ.stepE (ok_move rfl) rfl rfl rfl ?_))
  all_goals (first | (refine Br.keep ?_) | (refine WQ.stepE (ok_move rfl) rfl rfl rfl ?_))
  all_goals (first | (refine Br.keep ?_) | (refine WQ.stepE (ok_idxAddrA Tryz.underlying40 (fun w => Tryz.sizeOf89 w) rfl rfl rfl (by omega) (by first | rfl | assumption)) rfl rfl rfl ?_))
  all_goals (first | (refine Br.keep ?_) | (refine WQ.stepE (ok_loadN (fun w => Tryz.isAgg89 w) (fun w => Tryz.sizeOf89 w) rfl rfl (by assumption)) rfl rfl rfl ?_))
  all_goals (first | (refine Br.keep ?_) | (refine WQ.stepE (ok_move rfl) rfl rfl rfl ?_))
  all_goals (first | (refine Br.keep ?_) | (refine WQ.stepE (ok_move rfl) rfl rfl rfl ?_))
  all_goals (first | (refine Br.keep ?_) | (refine WQ.stepE (ok_idxAddrA Tryz.underlying40 (fun w => Tryz.sizeOf89 w) rfl rfl rfl (by omega) (by first | rfl | assumption)) rfl rfl rfl ?_))
  all_goals (first | (refine Br.keep ?_) | (refine WQ.stepE (ok_loadN (fun w => Tryz.isAgg89 w) (fun w => Tryz.sizeOf89 w) rfl rfl (by assumption)) rfl rfl rfl ?_))
  all_goals (first | (refine Br.keep ?_) | (refine WQ.stepE (OkP.nbool_f rfl (ok_neqF (us := [.b ya, .s yb, .i .i64 yc]) (vs := [.b ya, .s yb, .i .i64 yc]) [.b, .s, .i .i64] (by kernel_rfl) rfl rfl rfl rfl)) rfl rfl rfl ?_))
  all_goals (first | (refine Br.keep ?_) | (refine WQ.nil ?_))
  all_goals (refine Gn ?_; first | (refine Br.keep ?_) | (refine Gs [(0, _), (1, _), (5, _), (25, _)] ?_))
  all_goals (first | (refine Br.keep ?_) | (refine goC 5 6 ?_ TT.mk))
  all_goals (first | (fail_if_success refine goB 6 ?_) | (
  refine goB 6 ?_
  all_goals (refine WC.skip ?_)
  skip))
  all_goals (refine Gn ?_; first | (refine Br.keep ?_) | (refine WC.region ?_))
  all_goals (refine Go ?_; first | (refine Br.keep ?_) | (exact ⟨k + 1, ⟨rfl, rfl, rfl, trivial⟩, (by exact ⟨rfl, by omega⟩), (by omega)⟩))
  all_goals (try (refine Br.mk (i := 1000) ?_))
  all_goals (refine Gn ?_; refine Gs [] ?_; refine WC.sr ?_; refine Go ?_; refine Gt ?_; exact ⟨rfl, rfl⟩)
set_option maxHeartbeats 2000000 in
set_option maxRecDepth 100000 in
theorem en_true {h : Heap} (a b : En) (ha : a.ok h) (hb : b.ok h) (e : a.pl = b.pl) :
    CallsH Tryz.prog 40 ⟨[.agg ⟨a.cells⟩, .agg ⟨b.cells⟩]⟩ h fun u h' => u = .bool true ∧ Ext No h h' := by
  obtain ⟨k1, w1, n1, p1, vg1, g1, vb1, d1, vc1, o1, vr1, r1⟩ := a
  obtain ⟨k2, w2, n2, p2, vg2, g2, vb2, d2, vc2, o2, vr2, r2⟩ := b
  simp only [En.pl, Prod.mk.injEq] at e
  obtain ⟨rfl, rfl, rfl, rfl, rfl, rfl, rfl, rfl⟩ := e
  obtain ⟨ag, ab, ⟨ac, lc⟩, ar, lr⟩ := ha
  obtain ⟨bg, bb, ⟨bc, _⟩, br, _⟩ := hb
  simp only at ag ab ac ar bg bb bc br lc lr
  obtain ⟨Ag, cg, rfl, _⟩ := id ag.1
  obtain ⟨Bg, dg, rfl, _⟩ := id bg.1
  obtain ⟨Ab, cb, rfl, _⟩ := id ab.1
  obtain ⟨Bb, db, rfl, _⟩ := id bb.1
  obtain ⟨Ac, cc, rfl, _⟩ := id ac
  obtain ⟨Bc, dc, rfl, _⟩ := id bc
  obtain ⟨Ar, cr, rfl, _⟩ := id ar
  obtain ⟨Br', dr, rfl, _⟩ := id br
  dsimp only [En.cells]
  unfold reachBytes at lc
  refine calls [(0, _), (1, _)] Tryz.func40 rfl Tryz.ntmps40 rfl ⟨rfl, rfl, trivial⟩ ?_
  all_goals (refine WC.sr ?_; refine WL.stepR (okE_box rfl) rfl rfl rfl ?_; rintro _ h1 ⟨b1, rfl, hg1, hb1, hx1⟩; refine WL.stepR (okE_box rfl) rfl rfl rfl ?_; rintro _ h2 ⟨b2, rfl, hg2, hb2, hx2⟩; have hb1' := hx2.obj hb1 nos; have hx := hx1.trans hx2; refine Go ?_; refine WC.seq ?_; refine WC.sr ?_; refine Go ?_; refine Ld ?_; refine Go ?_; refine Ld ?_; refine Go ?_; refine goP 11 ?_ TT.mk; refine Gg ?_; refine Ld ?_; refine Gg ?_; refine Ld ?_; refine WL.step (OkP.nbool_f (by rfl) (ok_neqB Tryz.underlying4 rfl rfl)) rfl rfl rfl ?_; refine Go ?_; refine goP 18 ?_ TT.mk; refine Gg ?_; refine Ld ?_; refine Gg ?_; refine Ld ?_; refine Gg ?_; refine Go ?_; refine goP 25 ?_ TT.mk; refine Gg ?_; refine Ld ?_; refine Gg ?_; refine Ld ?_; refine Gg ?_; refine Go ?_; refine goP 32 ?_ TT.mk; refine Gg ?_; refine Ld ?_; refine WL.step (ok_convBS Tryz.underlying42 Tryz.underlying5 Tryz.underlying9 rfl (ar.ext0 hx)) rfl rfl rfl ?_; refine Gg ?_; refine Ld ?_; refine WL.step (ok_convBS Tryz.underlying42 Tryz.underlying5 Tryz.underlying9 rfl (br.ext0 hx)) rfl rfl rfl ?_; refine Gg ?_; refine Go ?_; refine goP 41 ?_ TT.mk; refine Gg ?_; refine Ld ?_; refine Gg ?_; refine Ld ?_; refine Gg ?_; refine Go ?_; refine Gs [(2, _), (3, _), (49, _)] ?_; refine goC 1 2 ?_ TT.mk; refine goB 2 ?_; refine WC.skip ?_; refine Gn ?_; refine WC.seq ?_; refine WC.sr ?_; refine Go ?_; refine WC.block ?_)
  -- loop 0: slots that turn [5], that stay [2, 3]
  all_goals (refine WC.loopG (X := Nat) (fun x => ([(5, In (x : Int))] : Fr)) [(2, _), (3, _)] (fun k h' => h' = h2 ∧ k ≤ o1.length) (fun k => o1.length - k) (0) ⟨rfl, rfl, rfl, trivial⟩ (by exact ⟨rfl, Nat.zero_le _⟩) ?_; rintro k h9 ⟨hz, hk⟩; subst h9; refine WC.sub [(5, _), (2, _), (3, _)] ⟨rfl, rfl, rfl, trivial⟩ ?_; refine WC.seq ?_; refine WC.sr ?_; refine Go ?_; refine Ld ?_; refine Go ?_; refine Gs [(2, _), (3, _), (5, _), (54, _)] ?_; refine goC 3 4 (Hb.mk fun hb => ?_) (Hb.mk fun hb => ?_))
  all_goals (first | (fail_if_success refine goB 3 ?_) | (
  refine goB 3 ?_
  all_goals (refine WC.skip ?_)
  skip))
  all_goals (first | (fail_if_success refine goB 4 ?_) | (
  refine goB 4 ?_
  all_goals (refine WC.exit ?_; repeat' (with_reducible first | refine thenP_x ?_ | refine blockP_miss rfl ?_ | refine blockP_hit ?_ | refine blockP_n ?_ | refine thenP_n ?_))
  all_goals (refine Br.out (i := 1000) ?_)
  skip))
  all_goals (refine Gn ?_; first | (refine Br.keep ?_) | (refine WC.seq ?_))
  all_goals (first | (refine Br.keep ?_) | (refine WC.block ?_))
  all_goals (first | (refine Br.keep ?_) | (refine WC.seq ?_))
  all_goals (first
               | (refine Br.keep ?_)
               | (obtain ⟨g, o, hA, hbL, hat⟩ := Rd.at_ (ac.ext0 hx) (by omega)
                  obtain ⟨g2, o2, hB, hbL2, hat2⟩ := Rd.at_ (bc.ext0 hx) (by omega)
                  obtain ⟨⟨ya, yb, _⟩, hy⟩ : ∃ y, o1[k]? = some y := ⟨_, List.getElem?_eq_getElem (by omega)⟩
                  have at1 : At _ g (o + k * 2) [In ya, In yb] := At.elem copCells_len hat hy
                  have at2 : At _ g2 (o2 + k * 2) [In ya, In yb] := At.elem copCells_len hat2 hy))
  all_goals (first | (refine Br.keep ?_) | (refine WC.drawE fol (by kernel_rfl) ?_))
  all_goals (first | (refine Br.keep ?_) | (refine WQ.stepE (ok_fieldAddr rfl Tryz.underlying44 rfl (fun w => Tryz.sizeOf41 w)) rfl rfl rfl ?_))
  all_goals (first | (refine Br.keep ?_) | (refine WQ.stepE (ok_load (fun w => Tryz.isAgg41 w) rfl (by first | assumption | exact cell_blk (by assumption) rfl)) rfl rfl rfl ?_))
  all_goals (first | (refine Br.keep ?_) | (refine WQ.stepE (ok_move rfl) rfl rfl rfl ?_))
  all_goals (first | (refine Br.keep ?_) | (refine WQ.stepE (ok_idxAddrA Tryz.underlying41 (fun w => Tryz.sizeOf129 w) rfl rfl rfl (by omega) (by first | rfl | assumption)) rfl rfl rfl ?_))
  all_goals (first | (refine Br.keep ?_) | (refine WQ.stepE (ok_loadN (fun w => Tryz.isAgg129 w) (fun w => Tryz.sizeOf129 w) rfl rfl (by assumption)) rfl rfl rfl ?_))
  all_goals (first | (refine Br.keep ?_) | (refine WQ.stepE (ok_fieldAddr rfl Tryz.underlying44 rfl (fun w => Tryz.sizeOf41 w)) rfl rfl rfl ?_))
  all_goals (first | (refine Br.keep ?_) | (refine WQ.stepE (ok_load (fun w => Tryz.isAgg41 w) rfl (by first | assumption | exact cell_blk (by assumption) rfl)) rfl rfl rfl ?_))
  all_goals (first | (refine Br.keep ?_) | (refine WQ.stepE (ok_move rfl) rfl rfl rfl ?_))
  all_goals (first | (refine Br.keep ?_) | (refine WQ.stepE (ok_idxAddrA Tryz.underlying41 (fun w => Tryz.sizeOf129 w) rfl rfl rfl (by omega) (by first | rfl | assumption)) rfl rfl rfl ?_))
  all_goals (first | (refine Br.keep ?_) | (refine WQ.stepE (ok_loadN (fun w => Tryz.isAgg129 w) (fun w => Tryz.sizeOf129 w) rfl rfl (by assumption)) rfl rfl rfl ?_))
  all_goals (first | (refine Br.keep ?_) | (refine WQ.stepE (OkP.nbool_f rfl (ok_neqF (us := [.i .i64 ya, .i .i64 yb]) (vs := [.i .i64 ya, .i .i64 yb]) [.i .i64, .i .i64] (by kernel_rfl) rfl rfl rfl rfl)) rfl rfl rfl ?_))
  all_goals (first | (refine Br.keep ?_) | (refine WQ.nil ?_))
  all_goals (refine Gn ?_; first | (refine Br.keep ?_) | (refine Gs [(2, _), (3, _), (5, _), (67, _)] ?_))
  all_goals (first | (refine Br.keep ?_) | (refine goC 5 6 ?_ TT.mk))
  all_goals (first | (fail_if_success refine goB 6 ?_) | (
  refine goB 6 ?_
  all_goals (refine WC.skip ?_)
  skip))
  all_goals (refine Gn ?_; first | (refine Br.keep ?_) | (refine WC.region ?_))
  all_goals (refine Go ?_; first | (refine Br.keep ?_) | (exact ⟨k + 1, ⟨rfl, rfl, rfl, trivial⟩, (by exact ⟨rfl, by omega⟩), (by omega)⟩))
  all_goals (try (refine Br.mk (i := 1000) ?_))
  all_goals (refine Gn ?_; refine WC.sr ?_; refine Go ?_; refine Ld ?_; refine Go ?_; refine Ld ?_; refine WL.call (vs := [_, _]) rfl (fun a w => Tryz.call75 a w) rfl (tops_true g1 ⟨ag.1.ext0 hx, ag.2⟩ ⟨bg.1.ext0 hx, bg.2⟩) rfl rfl rfl ?_; rintro _ hz ⟨rfl, _⟩; subst hz; refine Go ?_; refine goP 73 ?_ TT.mk; refine Gg ?_; refine Ld ?_; refine Gg ?_; refine Ld ?_; refine WL.call (vs := [_, _]) rfl (fun a w => Tryz.call75 a w) rfl (tops_true d1 ⟨ab.1.ext0 hx, ab.2⟩ ⟨bb.1.ext0 hx, bb.2⟩) rfl rfl rfl ?_; rintro _ hz ⟨rfl, _⟩; subst hz; refine Go ?_; refine Gs [(4, _)] ?_; refine Gt ?_; exact ⟨rfl, hx⟩)
set_option maxHeartbeats 2000000 in
set_option maxRecDepth 100000 in
theorem ens_true {h : Heap} {v w : Value} (L M : List En) (hL : Ens h v L) (hM : Ens h w M) (e : L.map En.pl = M.map En.pl) :
    CallsH Tryz.prog 12 ⟨[v, w]⟩ h fun u h' => u = .bool true ∧ Ext No h h' := by
  obtain ⟨hr, hm, hok⟩ := hL
  obtain ⟨hs, _, hok2⟩ := hM
  have hlen : M.length = L.length := by simpa using (congrArg List.length e).symm
  obtain ⟨A, c, rfl, _⟩ := id hr
  obtain ⟨B, d, rfl, _⟩ := id hs
  unfold maxLen at hm
  refine calls [(0, _), (1, _)] Tryz.func12 rfl Tryz.ntmps12 rfl ⟨rfl, rfl, trivial⟩ ?_
  all_goals (refine WC.sr ?_; refine Go ?_; refine WC.seq ?_; refine WC.sr ?_; refine Go ?_; refine Gs [(0, _), (1, _), (10, _)] ?_; refine goC 1 2 ?_ TT.mk; refine goB 2 ?_; refine WC.skip ?_; refine Gn ?_; refine WC.seq ?_; refine WC.sr ?_; refine Go ?_; refine WC.block ?_)
  -- loop 0: slots that turn [5], that stay [0, 1]
  all_goals (refine WC.loopG (X := Nat) (fun x => ([(5, In (x : Int))] : Fr)) [(0, _), (1, _)] (fun k h' => Ext No h h' ∧ k ≤ L.length) (fun k => L.length - k) (0) ⟨rfl, rfl, rfl, trivial⟩ (by exact ⟨.refl _ _, Nat.zero_le _⟩) ?_; rintro k h1 ⟨hx1, hk⟩; refine WC.sub [(5, _), (0, _), (1, _)] ⟨rfl, rfl, rfl, trivial⟩ ?_; refine WC.seq ?_; refine WC.sr ?_; refine Go ?_; refine goC 3 4 (Hb.mk fun hb => ?_) (Hb.mk fun hb => ?_))
  all_goals (first | (fail_if_success refine goB 3 ?_) | (
  refine goB 3 ?_
  all_goals (refine WC.skip ?_)
  skip))
  all_goals (first | (fail_if_success refine goB 4 ?_) | (
  refine goB 4 ?_
  all_goals (refine WC.exit ?_; repeat' (with_reducible first | refine thenP_x ?_ | refine blockP_miss rfl ?_ | refine blockP_hit ?_ | refine blockP_n ?_ | refine thenP_n ?_))
  all_goals (refine Br.out (i := 1000) ?_)
  skip))
  all_goals (refine Gn ?_; first | (refine Br.keep ?_) | (refine Gs [(0, _), (1, _), (5, _)] ?_))
  all_goals (first | (refine Br.keep ?_) | (refine WC.seq ?_))
  all_goals (first | (refine Br.keep ?_) | (refine WC.block ?_))
  all_goals (first | (refine Br.keep ?_) | (refine WC.seq ?_))
  all_goals (first
               | (refine Br.keep ?_)
               | (obtain ⟨b1, o1, hA, hbL, hat⟩ := Rd.at_ (hr.ext0 hx1) (by omega)
                  obtain ⟨b2, o2, hB, hbL2, hat2⟩ := Rd.at_ (hs.ext0 hx1) (by omega)
                  obtain ⟨y, hy⟩ : ∃ y, L[k]? = some y := ⟨_, List.getElem?_eq_getElem (by omega)⟩
                  obtain ⟨z, hz⟩ : ∃ z, M[k]? = some z := ⟨_, List.getElem?_eq_getElem (by omega)⟩
                  have hc1 : At h1 b1 (o1 + k * 8) y.cells := At.elem En.len hat hy
                  have hc2 : At h1 b2 (o2 + k * 8) z.cells := At.elem En.len hat2 hz))
  all_goals (first | (refine Br.keep ?_) | (refine WC.drawT 8 fol (by kernel_rfl) ?_))
  all_goals (first | (refine Br.keep ?_) | (show WS _ _ _ [_, _, _, _, _, _, _, _] _ _ _))
  all_goals (first | (refine Br.keep ?_) | (refine WS.step (ok_move rfl) rfl rfl rfl ?_))
  all_goals (first | (refine Br.keep ?_) | (refine WS.step (ok_move rfl) rfl rfl rfl ?_))
  all_goals (first | (refine Br.keep ?_) | (refine WS.step (ok_idxAddrA Tryz.underlying37 (fun w => Tryz.sizeOf44 w) rfl rfl rfl (by omega) (by first | rfl | assumption)) rfl rfl rfl ?_))
  all_goals (first | (refine Br.keep ?_) | (refine WS.step (ok_loadN (fun w => Tryz.isAgg44 w) (fun w => Tryz.sizeOf44 w) rfl rfl (by assumption)) rfl rfl rfl ?_))
  all_goals (first | (refine Br.keep ?_) | (refine WS.step (ok_move rfl) rfl rfl rfl ?_))
  all_goals (first | (refine Br.keep ?_) | (refine WS.step (ok_move rfl) rfl rfl rfl ?_))
  all_goals (first | (refine Br.keep ?_) | (refine WS.step (ok_idxAddrA Tryz.underlying37 (fun w => Tryz.sizeOf44 w) rfl rfl rfl (by omega) (by first | rfl | assumption)) rfl rfl rfl ?_))
  all_goals (first | (refine Br.keep ?_) | (refine WS.step (ok_loadN (fun w => Tryz.isAgg44 w) (fun w => Tryz.sizeOf44 w) rfl rfl (by assumption)) rfl rfl rfl ?_))
  all_goals (first | (refine Br.keep ?_) | (refine WS.nil ?_))
  all_goals (first | (refine Br.keep ?_) | (show WL _ _ _ [_, _] _ _ _))
  all_goals (first
               | (refine Br.keep ?_)
               | (refine WL.call (vs := [_, _]) rfl (fun a w => Tryz.call40 a w) rfl (en_true y z ((hok y (List.mem_of_getElem? hy)).ext0 hx1) ((hok2 z (List.mem_of_getElem? hz)).ext0 hx1) (map_get e hy hz)) rfl rfl rfl ?_
                  rintro _ h2 ⟨rfl, hx2⟩))
  all_goals (first | (refine Br.keep ?_) | (refine WL.step (ok_not rfl) rfl rfl rfl ?_))
  all_goals (first | (refine Br.keep ?_) | (refine WL.nil ?_))
  all_goals (refine Gn ?_; first | (refine Br.keep ?_) | (refine Gs [(0, _), (1, _), (5, _), (26, _)] ?_))
  all_goals (first | (refine Br.keep ?_) | (refine goC 5 6 ?_ TT.mk))
  all_goals (first | (fail_if_success refine goB 6 ?_) | (
  refine goB 6 ?_
  all_goals (refine WC.skip ?_)
  skip))
  all_goals (refine Gn ?_; first | (refine Br.keep ?_) | (refine WC.region ?_))
  all_goals (refine Go ?_; first | (refine Br.keep ?_) | (exact ⟨k + 1, ⟨rfl, rfl, rfl, trivial⟩, (by exact ⟨hx1.trans hx2, by omega⟩), (by omega)⟩))
  all_goals (try (refine Br.mk (i := 1000) ?_))
  all_goals (refine Gn ?_; refine Gs [] ?_; refine WC.sr ?_; refine Go ?_; refine Gt ?_; exact ⟨rfl, hx1⟩)
end Go.Proofs.YtggmocdbfbhklaaGreat


/-
  CACHE (layer 18) and the document's: each told by the list of numbers that it holds.
-/
namespace Go.Proofs.YtggmocdbfbhklaaGreat
open Go Go.RK

set_option maxHeartbeats 2000000 in
set_option maxRecDepth 100000 in
/-! ### the document's lists -/
theorem has18 {h : Heap} {v : Value} (l : List Int) (id : Int) (hr : Rd h v 1 l.length (ints l)) (hm : l.length ≤ maxLen) :
    CallsH Tryz.prog 66 ⟨[v, In id]⟩ h fun u h' => u = .bool (decide (id ∈ l)) ∧ h' = h := by
  obtain ⟨A, c, rfl, _⟩ := _root_.id hr
  unfold maxLen at hm
  refine calls [(0, _), (1, _)] Tryz.func66 rfl Tryz.ntmps66 rfl ⟨rfl, rfl, trivial⟩ ?_
  all_goals (refine WC.sr ?_; refine Go ?_; refine WC.seq ?_; refine WC.sr ?_; refine Go ?_; refine WC.block ?_)
  -- loop 0: slots that turn [5], that stay [0, 1]
  all_goals (refine WC.loopG (X := Nat) (fun x => ([(5, In (x : Int))] : Fr)) [(0, _), (1, _)] (fun k h' => h' = h ∧ k ≤ l.length ∧ id ∉ l.take k) (fun k => l.length - k) (0) ⟨rfl, rfl, rfl, trivial⟩ (by exact ⟨rfl, Nat.zero_le _, by simp⟩) ?_; rintro k _ ⟨rfl, hk, hn⟩; refine WC.sub [(5, _), (0, _), (1, _)] ⟨rfl, rfl, rfl, trivial⟩ ?_; refine WC.seq ?_; refine WC.sr ?_; refine Go ?_; refine goC 1 2 (Hb.mk fun hb => ?_) (Hb.mk fun hb => ?_))
  all_goals (first | (fail_if_success refine goB 1 ?_) | (
  refine goB 1 ?_
  all_goals (refine WC.skip ?_)
  skip))
  all_goals (first | (fail_if_success refine goB 2 ?_) | (
  refine goB 2 ?_
  all_goals (refine WC.exit ?_; repeat' (with_reducible first | refine thenP_x ?_ | refine blockP_miss rfl ?_ | refine blockP_hit ?_ | refine blockP_n ?_ | refine thenP_n ?_))
  all_goals (refine Br.out (i := 1000) ?_)
  skip))
  all_goals (refine Gn ?_; first | (refine Br.keep ?_) | (refine Gs [(0, _), (1, _), (5, _)] ?_))
  all_goals (first | (refine Br.keep ?_) | (refine WC.seq ?_))
  all_goals (first | (refine Br.keep ?_) | (refine WC.block ?_))
  all_goals (first | (refine Br.keep ?_) | (refine WC.seq ?_))
  all_goals (first
               | (refine Br.keep ?_)
               | (obtain ⟨b1, o1, hA, hbL, hat⟩ := Rd.at_ hr (by omega)
                  obtain ⟨y, hy⟩ : ∃ y, l[k]? = some y := ⟨_, List.getElem?_eq_getElem (by omega)⟩
                  have hc := hat.get (p := o1 + k * 1) k (get_int hy) (by omega)))
  all_goals (first | (refine Br.keep ?_) | (refine WC.region ?_))
  all_goals (refine Go ?_; first | (refine Br.keep ?_) | (refine WL.step (ok_idxAddrA Tryz.underlying24 (fun w => Tryz.sizeOf3 w) rfl rfl rfl (by omega) (by first | rfl | assumption)) rfl rfl rfl ?_))
  all_goals (first | (refine Br.keep ?_) | (refine Ld ?_))
  all_goals (refine Go ?_; first | (refine Br.keep ?_) | (refine Gs [(0, _), (1, _), (5, _), (17, _)] ?_))
  all_goals (first | (refine Br.keep ?_) | (refine goC 3 4 (Hb.mk fun hb => ?_) (Hb.mk fun hb => ?_)))
  all_goals (first | (fail_if_success refine goB 3 ?_) | (
  refine goB 3 ?_
  all_goals (refine WC.sr ?_; refine Go ?_; refine Gs [(4, _)] ?_; refine Gt ?_; first | exact ⟨by rw [decide_eq_false (by rw [List.take_of_length_le (by omega)] at hn; exact hn)], rfl⟩ | exact ⟨by rw [decide_eq_true (List.mem_of_getElem? (by rw [hy, hb]))], rfl⟩)
  skip))
  all_goals (first | (fail_if_success refine goB 4 ?_) | (
  refine goB 4 ?_
  all_goals (refine WC.skip ?_)
  skip))
  all_goals (refine Gn ?_; first | (refine Br.keep ?_) | (refine WC.region ?_))
  all_goals (refine Go ?_; first | (refine Br.keep ?_) | (exact ⟨k + 1, ⟨rfl, rfl, rfl, trivial⟩, (by exact ⟨rfl, by omega, take_snoc_not hn hy (fun e => ‹¬y = id› e.symm)⟩), (by omega)⟩))
  all_goals (try (refine Br.mk (i := 1000) ?_))
  all_goals (refine Gn ?_; refine Gs [] ?_; refine WC.sr ?_; refine Go ?_; refine Gt ?_; first | exact ⟨by rw [decide_eq_false (by rw [List.take_of_length_le (by omega)] at hn; exact hn)], rfl⟩ | exact ⟨by rw [decide_eq_true (List.mem_of_getElem? (by rw [hy, hb]))], rfl⟩)
/-- A new list. -/
def NewL (h : Heap) (u : Value) (l : List Int) (h' : Heap) : Prop := Own h' u 3 1 l.length (ints l) ∧ Ext No h h' ∧ ∀ k, u.ownBlock = some k → h.size ≤ k
end Go.Proofs.YtggmocdbfbhklaaGreat


/-
  NUMBERS IN DIGITS: package digits' Text (with strings.Builder) and the document's.
-/
namespace Go.Proofs.YtggmocdbfbhklaaGreat
open Go Go.RK

/-- A number's digits, from the last one on. -/
def rdig (m : Nat) : List UInt8 := if m < 10 then [UInt8.ofNat (48 + m)] else UInt8.ofNat (48 + m % 10) :: rdig (m / 10)
/-- A number in digits. -/
def dig (m : Nat) : List UInt8 := (rdig m).reverse
def deci (n : Int) : List UInt8 := if n < 0 then 45 :: dig n.natAbs else dig n.natAbs
theorem rdig_lt {m : Nat} (h : m < 10) : rdig m = [UInt8.ofNat (48 + m)] := by unfold rdig; rw [if_pos h]
theorem rdig_ge {m : Nat} (h : ¬ m < 10) : rdig m = UInt8.ofNat (48 + m % 10) :: rdig (m / 10) := by rw [rdig, if_neg h]
theorem dig_lt {m : Nat} (h : m < 10) : dig m = [UInt8.ofNat (48 + m)] := by unfold dig; rw [rdig_lt h]; rfl
theorem dig_ge {m : Nat} (h : ¬ m < 10) : dig m = dig (m / 10) ++ [UInt8.ofNat (48 + m % 10)] := by unfold dig; rw [rdig_ge h]; simp
theorem rdig_len (k m : Nat) (h : m < 10 ^ (k + 1)) : (rdig m).length ≤ k + 1 := by
  induction k generalizing m with
  | zero => rw [rdig_lt (by omega)]; simp
  | succ k ih =>
    by_cases h1 : m < 10
    · rw [rdig_lt h1]; simp
    · rw [rdig_ge h1]
      have : m / 10 < 10 ^ (k + 1) := by
        rw [Nat.div_lt_iff_lt_mul (by omega)]
        rw [Nat.pow_succ] at h
        exact h
      have := ih _ this
      simp; omega
theorem rdig_len20 (m : Nat) (h : m ≤ 9223372036854775808) : (rdig m).length ≤ 20 := rdig_len 19 m (by omega)
theorem dig_len (m : Nat) (h : m ≤ 9223372036854775808) : (dig m).length ≤ 20 := by unfold dig; simpa using rdig_len20 m h
theorem rdig_pos (m : Nat) : 0 < (rdig m).length := by unfold rdig; split <;> simp
theorem deci_len (n : Int) (h : n.natAbs ≤ 9223372036854775808) : (deci n).length ≤ 21 := by
  have := dig_len _ h
  unfold deci
  split <;> simp <;> omega
theorem by_dig (m : Nat) : By (UInt8.ofNat (48 + m % 10)) = .int .u8 (48 + (m % 10 : Nat)) := by
  have : (UInt8.ofNat (48 + m % 10)).toNat = 48 + m % 10 := by simp; omega
  unfold By
  rw [this]
  simp
theorem tdiv_neg10 (m : Nat) : (-(m : Int)).tdiv 10 = -((m / 10 : Nat) : Int) := by rw [Int.neg_tdiv]; rfl
theorem tmod_neg10 (m : Nat) : (-(m : Int)).tmod 10 = -((m % 10 : Nat) : Int) := by rw [Int.neg_tmod]; rfl
theorem tdiv_pos10 (m : Nat) : (m : Int).tdiv 10 = ((m / 10 : Nat) : Int) := rfl
theorem tmod_pos10 (m : Nat) : (m : Int).tmod 10 = ((m % 10 : Nat) : Int) := rfl

set_option maxHeartbeats 2000000 in
set_option maxRecDepth 100000 in
/-! ### the document's -/
theorem digits_ref {h : Heap} (m : Nat) (hm : m ≤ 9223372036854775807) :
    CallsH Tryz.prog 120 ⟨[In m]⟩ h fun u h' => u = St (dig m) ∧ h' = h := by
  induction m using Nat.strongRecOn with
  | _ m ih =>
    have e1 := tmod_pos10 m
    have e2 := tdiv_pos10 m
    have hk : m % 10 < 10 := Nat.mod_lt _ (by omega)
    have es : (List.drop (m % 10) [48, 49, 50, 51, 52, 53, 54, 55, 56, 57]).take ((m % 10 + 1) - m % 10) = [UInt8.ofNat (48 + m % 10)] := by
      generalize m % 10 = k at hk
      rcases k with _ | _ | _ | _ | _ | _ | _ | _ | _ | _ | k <;> first | rfl | omega
    have e4 : ((m : Int).tmod 10 + 1).toNat = m % 10 + 1 := by rw [e1]; omega
    have e5 : ((m : Int).tmod 10).toNat = m % 10 := by rw [e1]; omega
    by_cases h1 : m < 10
    · have e3 : m % 10 = m := Nat.mod_eq_of_lt h1
      rw [e3] at es e4 e5
      refine calls [(0, _)] Tryz.func120 rfl Tryz.ntmps120 rfl ⟨rfl, trivial⟩ ?_
      all_goals (refine WC.sr ?_; refine Go ?_; refine WC.sr ?_; refine Go ?_; refine WL.step (ok_rem rfl rfl (by decide)) rfl rfl rfl ?_; refine Go ?_; refine WL.step (ok_rem rfl rfl (by decide)) rfl rfl rfl ?_; refine Go ?_; refine WL.step (ok_slice_slh Tryz.underlying9 rfl rfl rfl (by first | omega | (simp <;> omega))) rfl rfl rfl ?_; refine Go ?_; refine Gs [(0, _), (3, _)] ?_; refine WC.seq ?_; refine WC.sr ?_; refine Go ?_; refine goC 1 2 ?_ TT.mk; refine goB 2 ?_; refine WC.skip ?_; refine Gn ?_; refine WC.sr ?_; refine Go ?_; refine Gs [(2, _)] ?_; refine Gt ?_; exact ⟨by rw [e4, e5, es, dig_lt h1], rfl⟩)
    · have hd : m / 10 < m := by omega
      have hl := dig_len (m / 10) (by omega)
      refine calls [(0, _)] Tryz.func120 rfl Tryz.ntmps120 rfl ⟨rfl, trivial⟩ ?_
      all_goals (refine WC.sr ?_; refine Go ?_; refine WC.sr ?_; refine Go ?_; refine WL.step (ok_rem rfl rfl (by decide)) rfl rfl rfl ?_; refine Go ?_; refine WL.step (ok_rem rfl rfl (by decide)) rfl rfl rfl ?_; refine Go ?_; refine WL.step (ok_slice_slh Tryz.underlying9 rfl rfl rfl (by first | omega | (simp <;> omega))) rfl rfl rfl ?_; refine Go ?_; refine Gs [(0, _), (3, _)] ?_; refine WC.seq ?_; refine WC.sr ?_; refine Go ?_; refine goC 1 2 ?_ TT.mk; refine goB 1 ?_; refine WC.sr ?_; refine Go ?_; refine WL.step (ok_quoI rfl rfl (by decide) (tdiv_in (by omega) (by decide))) rfl rfl rfl ?_; refine WL.call (vs := [_]) rfl (fun a w => Tryz.call120 a w) rfl (ih (m / 10) hd (by omega)) rfl rfl rfl ?_; rintro _ hz ⟨rfl, _⟩; subst hz; refine Go ?_; refine WL.step (ok_catS rfl rfl (by first | (simp only [List.length_append, List.length_cons, List.length_nil]; omega) | (simp; omega))) rfl rfl rfl ?_; refine Go ?_; refine Gs [(2, _)] ?_; refine Gt ?_; exact ⟨by rw [e4, e5, es, dig_ge h1], rfl⟩)
set_option maxHeartbeats 2000000 in
set_option maxRecDepth 100000 in
theorem text_ref {h : Heap} (n : Int) (h0 : -9223372036854775808 ≤ n) (h1 : n ≤ 9223372036854775807) :
    CallsH Tryz.prog 98 ⟨[In n]⟩ h fun u h' => u = St (deci n) ∧ h' = h := by
  by_cases hp : 0 ≤ n
  · obtain ⟨m, rfl⟩ := Int.eq_ofNat_of_zero_le hp
    have ed : deci (m : Int) = dig m := by unfold deci; rw [if_neg (by omega)]; rfl
    refine calls [(0, _)] Tryz.func98 rfl Tryz.ntmps98 rfl ⟨rfl, trivial⟩ ?_
    all_goals (refine WC.sr ?_; refine Go ?_; refine WC.seq ?_; refine WC.sr ?_; refine Go ?_; refine goC 1 2 ?_ TT.mk; refine goB 1 ?_; refine WC.sr ?_; refine Go ?_; refine WL.call (vs := [_]) rfl (fun a w => Tryz.call120 a w) rfl (digits_ref m (by omega)) rfl rfl rfl ?_; rintro _ hz ⟨rfl, _⟩; subst hz; refine Go ?_; refine Gs [(2, _)] ?_; refine Gt ?_; exact ⟨by rw [ed], rfl⟩)
  · obtain ⟨m, rfl⟩ : ∃ m : Nat, n = -(m : Int) := ⟨n.natAbs, by omega⟩
    have ed : deci (-(m : Int)) = 45 :: dig m := by unfold deci; rw [if_pos (by omega)]; simp
    have e1 := tdiv_neg10 m
    have e2 := tmod_neg10 m
    have e3 : - -(m : Int) = m := Int.neg_neg _
    have e4 : - -((m / 10 : Nat) : Int) = (m / 10 : Nat) := Int.neg_neg _
    have e5 : - -((m % 10 : Nat) : Int) = (m % 10 : Nat) := Int.neg_neg _
    have hl1 := dig_len m (by omega)
    have hl2 := dig_len (m / 10) (by omega)
    have hl3 := dig_len (m % 10) (by omega)
    by_cases hb : m < 10
    ·
      refine calls [(0, _)] Tryz.func98 rfl Tryz.ntmps98 rfl ⟨rfl, trivial⟩ ?_
      all_goals (refine WC.sr ?_; refine Go ?_; refine WC.seq ?_; refine WC.sr ?_; refine Go ?_; refine goC 1 2 ?_ TT.mk; refine goB 2 ?_; refine WC.skip ?_; refine Gn ?_; refine WC.seq ?_; refine WC.sr ?_; refine Go ?_; refine Gs [(0, _), (8, _)] ?_; refine goC 3 4 ?_ TT.mk; refine goB 3 ?_; refine WC.sr ?_; refine Go ?_; refine WL.step (ok_negI rfl (by omega)) rfl rfl rfl ?_; rw [e3])
      all_goals (refine WL.call (vs := [_]) rfl (fun a w => Tryz.call120 a w) rfl (digits_ref m (by omega)) rfl rfl rfl ?_; rintro _ hz ⟨rfl, _⟩; subst hz; refine WL.step (ok_catS rfl rfl (by first | (simp only [List.length_append, List.length_cons, List.length_nil]; omega) | (simp; omega))) rfl rfl rfl ?_; refine Go ?_; refine Gs [(2, _)] ?_; refine Gt ?_; exact ⟨by rw [ed]; rfl, rfl⟩)
    · have e6 : dig (m % 10) = [UInt8.ofNat (48 + m % 10)] := dig_lt (by omega)
      refine calls [(0, _)] Tryz.func98 rfl Tryz.ntmps98 rfl ⟨rfl, trivial⟩ ?_
      all_goals (refine WC.sr ?_; refine Go ?_; refine WC.seq ?_; refine WC.sr ?_; refine Go ?_; refine goC 1 2 ?_ TT.mk; refine goB 2 ?_; refine WC.skip ?_; refine Gn ?_; refine WC.seq ?_; refine WC.sr ?_; refine Go ?_; refine Gs [(0, _), (8, _)] ?_; refine goC 3 4 ?_ TT.mk; refine goB 4 ?_; refine WC.skip ?_; refine Gn ?_; refine WC.sr ?_; refine Go ?_; refine WL.step (ok_quoI rfl rfl (by decide) (tdiv_in (by omega) (by decide))) rfl rfl rfl ?_; rw [e1])
      all_goals (refine WL.step (ok_negI rfl (by omega)) rfl rfl rfl ?_; rw [e4])
      all_goals (refine WL.call (vs := [_]) rfl (fun a w => Tryz.call120 a w) rfl (digits_ref (m / 10) (by omega)) rfl rfl rfl ?_; rintro _ hz ⟨rfl, _⟩; subst hz; refine WL.step (ok_catS rfl rfl (by first | (simp only [List.length_append, List.length_cons, List.length_nil]; omega) | (simp; omega))) rfl rfl rfl ?_; refine Go ?_; refine WL.step (ok_rem rfl rfl (by decide)) rfl rfl rfl ?_; rw [e2])
      all_goals (refine WL.step (ok_negI rfl (by omega)) rfl rfl rfl ?_; rw [e5])
      all_goals (refine WL.call (vs := [_]) rfl (fun a w => Tryz.call120 a w) rfl (digits_ref (m % 10) (by omega)) rfl rfl rfl ?_; rintro _ hz ⟨rfl, _⟩; subst hz; refine WL.step (ok_catS rfl rfl (by first | (simp only [List.length_append, List.length_cons, List.length_nil]; omega) | (simp; omega))) rfl rfl rfl ?_; refine Go ?_; refine Gs [(2, _)] ?_; refine Gt ?_; exact ⟨by rw [ed, dig_ge hb, e6]; rfl, rfl⟩)

/-! ### package strings: Builder -/
/-- A builder that no text was asked of, with these bytes. -/
def Bl (h : Heap) (b : Nat) (v : Value) (bs : List UInt8) : Prop := (∃ p, h[b]? = some (.cells ⟨[p, v]⟩ 180 (0, 0)) ∧ (p = .pointer none ∨ p = .pointer (some ⟨b, 0, none⟩))) ∧ Own h v 5 1 bs.length (bys bs) ∧ (bs = [] → v = .slice none 0 0)
theorem noEscape (v : Value) (w : World) : (callFunc 156 #[v]).run Tryz.prog w = .ok (.value v) w := by
  rw [run_callFunc_extern (P := Tryz.prog) (fn := Tryz.f156) (e := Extern.AbiNoEscape.same) (by kernel_rfl) (by kernel_rfl) rfl (by kernel_rfl) (by kernel_rfl)]
  rfl
set_option maxHeartbeats 2000000 in
set_option maxRecDepth 100000 in
theorem copyCheck {h : Heap} {b : Nat} {v : Value} {bs : List UInt8} (r : Bl h b v bs) :
    CallsH Tryz.prog 142 ⟨[.pointer (some ⟨b, 0, none⟩)]⟩ h fun u h' => u = .tuple ⟨[]⟩ ∧ h'[b]? = some (.cells ⟨[.pointer (some ⟨b, 0, none⟩), v]⟩ 180 (0, 0)) ∧ Ext (fun k => k = b) h h' := by
  obtain ⟨⟨p, hb, rfl | rfl⟩, ho, _⟩ := r
  · obtain ⟨A, c, rfl, _⟩ := ho.slice
    refine calls [(0, _)] Tryz.func142 rfl Tryz.ntmps142 rfl ⟨rfl, trivial⟩ ?_
    all_goals (refine WC.sr ?_; refine Go ?_; refine WL.step (ok_nilCheck rfl) rfl rfl rfl ?_; refine Go ?_; refine Ld ?_; refine WL.step (ok_eqlPn Tryz.underlying178 rfl rfl) rfl rfl rfl ?_; refine Gn ?_; refine Gs [(0, _), (6, _)] ?_; refine goC 1 2 ?_ TT.mk; refine goB 1 ?_; refine WC.region ?_; refine Go ?_; refine WL.step (ok_toUnsafe Tryz.underlying178 Tryz.underlying198 (show Tryz.prog.info? 180 = some Tryz.t180 by kernel_rfl) (by decide) rfl (by assumption) (Nat.le_of_ble_eq_true rfl)) rfl rfl rfl ?_; refine WL.step (ok_extern (fun w => noEscape _ w) rfl) rfl rfl rfl ?_; refine WL.step (ok_fromUnsafe Tryz.underlying198 Tryz.underlying178 (show Tryz.prog.info? 180 = some Tryz.t180 by kernel_rfl) rfl (by assumption) (by kernel_rfl)) rfl rfl rfl ?_; refine WL.step (ok_nilCheck rfl) rfl rfl rfl ?_; refine Go ?_; refine WL.stepR0 (okE_store (fun w => Tryz.sizeOf178 w) rfl rfl (by assumption) (Nat.le_of_ble_eq_true rfl) rfl rfl) rfl rfl ?_; rintro _ h1 ⟨hb1, hx1⟩; refine Gn ?_; refine Gn ?_; refine retP_n [] trivial ?_; exact ⟨rfl, hb1, hx1⟩)
  · obtain ⟨A, c, rfl, _⟩ := ho.slice
    refine calls [(0, _)] Tryz.func142 rfl Tryz.ntmps142 rfl ⟨rfl, trivial⟩ ?_
    all_goals (refine WC.sr ?_; refine Go ?_; refine WL.step (ok_nilCheck rfl) rfl rfl rfl ?_; refine Go ?_; refine Ld ?_; refine WL.step (ok_eqlPn Tryz.underlying178 rfl rfl) rfl rfl rfl ?_; refine Gn ?_; refine Gs [(0, _), (6, _)] ?_; refine goC 1 2 ?_ TT.mk; refine goB 2 ?_; refine WC.sr ?_; refine Go ?_; refine WL.step (ok_nilCheck rfl) rfl rfl rfl ?_; refine Go ?_; refine Ld ?_; refine Go ?_; refine WL.step (ok_neqPs Tryz.underlying178 (show Tryz.prog.info? 180 = some Tryz.t180 by kernel_rfl) rfl rfl) rfl rfl rfl ?_; refine Gn ?_; refine Gs [(19, _)] ?_; refine goC 3 4 ?_ TT.mk; refine goB 4 ?_; refine WC.skip ?_; refine Gn ?_; refine retP_n [] trivial ?_; exact ⟨rfl, hb, .refl _ _⟩)
set_option maxHeartbeats 2000000 in
set_option maxRecDepth 100000 in
theorem writeByte {h : Heap} {b : Nat} {v : Value} {bs : List UInt8} (r : Bl h b v bs) (c : UInt8) (hm : bs.length ≤ 1000000) :
    CallsH Tryz.prog 134 ⟨[.pointer (some ⟨b, 0, none⟩), By c]⟩ h fun u h' => u = .nilIface ∧ ∃ v', Bl h' b v' (bs ++ [c]) ∧ Ext (fun k => k = b ∨ v.ownBlock = some k) h h' ∧ ∀ k, v'.ownBlock = some k → v.ownBlock = some k ∨ h.size ≤ k := by
  have r0 := r
  obtain ⟨⟨p, hb, _⟩, ho, _⟩ := r
  obtain ⟨A, c0, rfl, _⟩ := ho.slice
  have hne : (Value.slice A bs.length c0).ownBlock ≠ some b := own_ne ho hb (by decide)
  refine calls [(0, _), (1, _)] Tryz.func134 rfl Tryz.ntmps134 rfl ⟨rfl, rfl, trivial⟩ ?_
  all_goals (refine WC.sr ?_; refine Go ?_; refine WC.sr ?_; refine Go ?_; refine WL.call (vs := [_]) rfl (fun a w => Tryz.call142 a w) rfl (copyCheck r0) rfl rfl rfl ?_; rintro _ h1 ⟨rfl, hb1, hx1⟩; have ho1 := ho.ext hx1 (fun k hk e => hne (by rw [hk, e])); refine Gn ?_; refine WC.sr ?_; refine Go ?_; refine WL.step (ok_nilCheck rfl) rfl rfl rfl ?_; refine Go ?_; refine Ld ?_; refine Go ?_; refine WL.stepR (okE_buildSlice (vs := [_]) (cs := [_]) (fun | [a0] => [a0] | _ => []) Tryz.underlying42 rfl rfl (by kernel_rfl)) rfl rfl rfl ?_; rintro _ h3 ⟨b3, rfl, hg3, hb3, hx3⟩; have ho3 := ho1.ext hx3 (fun _ _ => nos); have hb3' := hx3.obj hb1 nos; refine WL.stepR (ok_append (sz := 1) (bytes := 1) rfl Tryz.underlying42 (show Tryz.prog.info? 5 = some Tryz.t5 by kernel_rfl) rfl rfl rfl rfl (by decide) rfl rfl ho3 (rd_blk hb3 rfl) (by simp [Value.oneCell']) (by simp only [maxLen]; omega) (by omega)) rfl rfl rfl ?_; rintro v4 h4 ⟨ho4, hx4, hl4⟩; obtain ⟨A4, c4, rfl, _⟩ := ho4.slice; have hb4 := hx4.obj hb3' (fun e => hne e); refine WL.step (ok_nilCheck rfl) rfl rfl rfl ?_; refine Go ?_; refine WL.stepR0 (okE_store (fun w => Tryz.sizeOf42 w) rfl rfl hb4 (Nat.le_of_ble_eq_true rfl) rfl rfl) rfl rfl ?_; rintro _ h5 ⟨hb5, hx5⟩; refine Gn ?_; refine Gs [] ?_; refine WC.sr ?_; refine Go ?_; refine Gt ?_; exact ⟨rfl, _, ⟨⟨_, hb5, .inr rfl⟩, by simpa using ho4.ext hx5 (fun k hk e => own_ne ho4 hb4 (by decide) (by rw [hk, e])), by simp⟩, (((hx1.mono (fun k _ e => .inl e)).trans (hx3.mono (fun k _ e => e.elim))).trans' hx4 (fun k _ e => .inr e)).trans' hx5 (fun k _ e => .inl e), kin_of hl4 (Nat.le_trans hx1.size hx3.size)⟩)
set_option maxHeartbeats 2000000 in
set_option maxRecDepth 100000 in
theorem builderString {h : Heap} {b : Nat} {v : Value} {bs : List UInt8} (r : Bl h b v bs) (hm : bs.length ≤ 1000000) :
    CallsH Tryz.prog 135 ⟨[.pointer (some ⟨b, 0, none⟩)]⟩ h fun u h' => u = St bs ∧ Ext (fun k => v.ownBlock = some k) h h' := by
  obtain ⟨⟨p, hb, _⟩, ho, hnn⟩ := r
  rcases ho with ⟨_, ⟨rfl, h0⟩ | ⟨g, cap, cur, rfl, hg, hn, hcm, hcs, hct⟩⟩
  · obtain rfl := List.eq_nil_of_length_eq_zero h0
    refine calls [(0, _)] Tryz.func135 rfl Tryz.ntmps135 rfl ⟨rfl, trivial⟩ ?_
    all_goals (refine WC.sr ?_; refine Go ?_; refine WC.seq ?_; refine WC.drawT 10 fol (by kernel_rfl) ?_; show WS _ _ _ [_, _, _, _, _, _, _, _, _, _] _ _ _)
    all_goals (refine WS.step (ok_move rfl) rfl rfl rfl ?_; refine WS.step (ok_nilCheck rfl) rfl rfl rfl ?_; refine WS.step (ok_fieldAddr rfl Tryz.underlying180 rfl (fun w => Tryz.sizeOf42 w)) rfl rfl rfl ?_; refine WS.step (ok_load (fun w => Tryz.isAgg42 w) rfl (by first | assumption | exact cell_blk (by assumption) rfl)) rfl rfl rfl ?_; refine WS.step (ok_sliceData0 rfl) rfl rfl rfl ?_; refine WS.step (ok_move rfl) rfl rfl rfl ?_; refine WS.step (ok_nilCheck rfl) rfl rfl rfl ?_; refine WS.step (ok_fieldAddr rfl Tryz.underlying180 rfl (fun w => Tryz.sizeOf42 w)) rfl rfl rfl ?_; refine WS.step (ok_load (fun w => Tryz.isAgg42 w) rfl (by first | assumption | exact cell_blk (by assumption) rfl)) rfl rfl rfl ?_; refine WS.step (ok_lenL rfl Tryz.underlying42 rfl) rfl rfl rfl ?_; refine WS.nil ?_; show WL _ _ _ [_, _] _ _ _)
    all_goals (refine WL.stepR (okE_unsafeString0 rfl rfl rfl) rfl rfl rfl ?_; rintro _ hz ⟨rfl, _⟩; subst hz; refine WL.step (ok_assign rfl) rfl rfl rfl ?_; refine WL.nil ?_; refine Gn ?_; refine Gs [(2, _)] ?_; refine Gt ?_; exact ⟨rfl, .refl _ _⟩)
  · have hg' : h[g]? = some (.cells ⟨cur.toList⟩ 5 (0, 0)) := hg
    by_cases hc0 : cap = 0
    · have h0 : bs = [] := List.eq_nil_of_length_eq_zero (by omega)
      cases hnn h0
    ·
      refine calls [(0, _)] Tryz.func135 rfl Tryz.ntmps135 rfl ⟨rfl, trivial⟩ ?_
      all_goals (refine WC.sr ?_; refine Go ?_; refine WC.seq ?_; refine WC.drawT 10 fol (by kernel_rfl) ?_; show WS _ _ _ [_, _, _, _, _, _, _, _, _, _] _ _ _)
      all_goals (refine WS.step (ok_move rfl) rfl rfl rfl ?_; refine WS.step (ok_nilCheck rfl) rfl rfl rfl ?_; refine WS.step (ok_fieldAddr rfl Tryz.underlying180 rfl (fun w => Tryz.sizeOf42 w)) rfl rfl rfl ?_; refine WS.step (ok_load (fun w => Tryz.isAgg42 w) rfl (by first | assumption | exact cell_blk (by assumption) rfl)) rfl rfl rfl ?_; refine WS.step (ok_sliceData rfl (by omega)) rfl rfl rfl ?_; refine WS.step (ok_move rfl) rfl rfl rfl ?_; refine WS.step (ok_nilCheck rfl) rfl rfl rfl ?_; refine WS.step (ok_fieldAddr rfl Tryz.underlying180 rfl (fun w => Tryz.sizeOf42 w)) rfl rfl rfl ?_; refine WS.step (ok_load (fun w => Tryz.isAgg42 w) rfl (by first | assumption | exact cell_blk (by assumption) rfl)) rfl rfl rfl ?_; refine WS.step (ok_lenL rfl Tryz.underlying42 rfl) rfl rfl rfl ?_; refine WS.nil ?_; show WL _ _ _ [_, _] _ _ _)
      all_goals (refine WL.stepR (okE_unsafeString rfl Tryz.underlying192 (by kernel_rfl) rfl rfl rfl hg' (by simpa using hct) (by unfold maxLen; omega)) rfl rfl rfl ?_; rintro _ h1 ⟨rfl, hx1⟩; refine WL.step (ok_assign rfl) rfl rfl rfl ?_; refine WL.nil ?_; refine Gn ?_; refine Gs [(2, _)] ?_; refine Gt ?_; exact ⟨rfl, hx1.mono (fun k _ e => by rw [e]; rfl)⟩)
set_option maxHeartbeats 2000000 in
set_option maxRecDepth 100000 in
theorem least_any {h : Heap} (m : Nat) (hm : m ≤ 9223372036854775808) :
    CallsH Tryz.prog 133 ⟨[In (-(m : Int))]⟩ h fun u h' => Own h' u 5 1 (rdig m).length (bys (rdig m)) ∧ Ext No h h' ∧ ∀ k, u.ownBlock = some k → h.size ≤ k := by
  have hlm := rdig_len20 m hm
  refine calls [(0, _)] Tryz.func133 rfl Tryz.ntmps133 rfl ⟨rfl, trivial⟩ ?_
  all_goals (refine WC.sr ?_; refine Go ?_; refine WC.sr ?_; refine Go ?_; refine WC.block ?_)
  -- loop 0: slots that turn [0, 3], that stay []
  all_goals (refine WC.loopG (X := List UInt8 × Value × Nat) (fun x => ([(3, x.2.1), (0, In (-(x.2.2 : Int)))] : Fr)) [] (fun x h' => x.2.2 ≤ m ∧ x.1 ++ rdig x.2.2 = rdig m ∧ Own h' x.2.1 5 1 x.1.length (bys x.1) ∧ Ext No h h' ∧ ∀ k, x.2.1.ownBlock = some k → h.size ≤ k) (fun x => x.2.2) (([], .slice none 0 0, m)) ⟨rfl, rfl, trivial⟩ (by exact ⟨Nat.le_refl _, rfl, Own.nil _ _ _, .refl _ _, by simp [Value.ownBlock]⟩) ?_)
  all_goals (rintro ⟨out, v1, q⟩ h1 ⟨hq, hout, ho1, hx1, hf1⟩
             simp only at hq hout ho1 hf1
             obtain ⟨A1, c1, rfl, _⟩ := ho1.slice
             have hlo := congrArg List.length hout
             rw [List.length_append] at hlo
             have hpos := rdig_pos q
             have e1 := tdiv_neg10 q
             have e2 := tmod_neg10 q)
  all_goals (refine WC.sub [(0, _), (3, _)] ⟨rfl, rfl, trivial⟩ ?_; dsimp only)
  all_goals (refine WC.block ?_; refine WC.sr ?_; refine Go ?_; refine WL.step (ok_rem rfl rfl (by decide)) rfl rfl rfl ?_; rw [e2])
  all_goals (refine WL.step (ok_subI rfl rfl (by omega)) rfl rfl rfl ?_; refine WL.step (ok_convU8 Tryz.underlying3 Tryz.underlying5 rfl (by omega)) rfl rfl rfl ?_; rw [show (48 - -((q % 10 : Nat) : Int)) = 48 + (q % 10 : Nat) by omega, ← by_dig])
  all_goals (refine WL.stepR (okE_buildSlice (vs := [_]) (cs := [_]) (fun | [a0] => [a0] | _ => []) Tryz.underlying42 rfl rfl (by kernel_rfl)) rfl rfl rfl ?_; rintro _ h3 ⟨b3, rfl, hg3, hb3, hx3⟩; refine WL.stepR (ok_append (sz := 1) (bytes := 1) rfl Tryz.underlying42 (show Tryz.prog.info? 5 = some Tryz.t5 by kernel_rfl) rfl rfl rfl rfl (by decide) rfl rfl (ho1.ext hx3 (fun _ _ => nos)) (rd_blk hb3 rfl) (by simp [Value.oneCell']) (by simp only [maxLen]; omega) (by omega)) rfl rfl rfl ?_; rintro v4 h4 ⟨ho4, hx4, hl4⟩; have hf4 := fresh_of hl4 hf1 (by have := hx1.size; have := hx3.size; omega); have hE4 := (hx1.trans hx3).trans' hx4 (fun q hq e => by have := hf1 q e; omega); refine Go ?_; refine Gs [(0, _), (3, _)] ?_; refine WC.sr ?_; refine Go ?_; refine WL.step (ok_quoI rfl rfl (by decide) (tdiv_in (by omega) (by decide))) rfl rfl rfl ?_; rw [e1])
  all_goals (refine WL.step (ok_assign rfl) rfl rfl rfl ?_; refine Gn ?_; refine WC.sr ?_; refine Go ?_; refine goC 1 2 (Hb.mk fun hb => ?_) (Hb.mk fun hb => ?_))
  all_goals (first | (fail_if_success refine goB 1 ?_) | (
  refine goB 1 ?_
  all_goals (refine WC.sr ?_; refine Go ?_; refine Gs [(2, _)] ?_; refine Gt ?_; exact ⟨by rw [← hout, rdig_lt (m := q) (by omega)]; have e9 : q % 10 = q := Nat.mod_eq_of_lt (by omega); rw [e9] at ho4; simpa using ho4, hE4, hf4⟩)
  skip))
  all_goals (refine goB 2 ?_; refine WC.skip ?_; refine Gn ?_; exact ⟨(out ++ [UInt8.ofNat (48 + q % 10)], _, q / 10), ⟨rfl, rfl, trivial⟩, (by exact ⟨by simp; omega, by rw [← hout, rdig_ge (m := q) (by omega)]; simp, by simpa using ho4, hE4, hf4⟩), (by simp; omega)⟩)
theorem get_by {l : List UInt8} {j : Nat} {y : UInt8} (hy : l[j]? = some y) : (bys l)[j]? = some (By y) := by simp [hy]
theorem drop_snoc {l : List UInt8} {j : Nat} {y : UInt8} (hy : l[j]? = some y) : (l.drop j).reverse = (l.drop (j + 1)).reverse ++ [y] := by
  rw [List.drop_eq_getElem?_toList_append, hy]
  simp
theorem own_blt {h : Heap} {b : Nat} {v : Value} {bs : List UInt8} (r : Bl h b v bs) : b < h.size := by
  obtain ⟨⟨p, hb, _⟩, _⟩ := r
  exact lt_of_some hb
set_option maxHeartbeats 2000000 in
set_option maxRecDepth 100000 in
theorem text_pos {h : Heap} (m : Nat) (hm : m ≤ 9223372036854775807) :
    CallsH Tryz.prog 115 ⟨[In m]⟩ h fun u h' => u = St (deci m) ∧ Ext No h h' := by
  have ed : deci (m : Int) = dig m := by unfold deci; rw [if_neg (by omega)]; rfl
  have hlm := rdig_len20 m (by omega)
  refine calls [(0, _)] Tryz.func115 rfl Tryz.ntmps115 rfl ⟨rfl, trivial⟩ ?_
  all_goals (refine WC.sr ?_; refine Go ?_; refine WC.sr ?_; refine Go ?_; refine WC.seq ?_; refine WC.sr ?_; refine Go ?_; refine Gs [(0, _), (3, _), (10, _)] ?_; refine goC 1 2 ?_ TT.mk; refine goB 1 ?_; refine WC.region ?_; refine Go ?_; refine WL.step (ok_negI rfl (by omega)) rfl rfl rfl ?_; refine Go ?_; refine Gn ?_; refine WC.sr ?_; refine Go ?_; refine WL.call (vs := [_]) rfl (fun a w => Tryz.call133 a w) rfl (least_any m (by omega)) rfl rfl rfl ?_; rintro v4 h4 ⟨ho4, hx4, hf4⟩; obtain ⟨A4, c4, rfl, _⟩ := ho4.slice; refine Go ?_; refine Gs [(3, _), (4, _)] ?_; refine WC.seq ?_; refine WC.sr ?_; refine Go ?_; refine goC 3 4 ?_ TT.mk; refine goB 4 ?_; refine WC.skip ?_; refine Gn ?_; refine WC.sr ?_; refine WL.stepR (okE_alloc (fun w => Tryz.zeroValue180 w)) rfl rfl rfl ?_; rintro _ h5 ⟨b5, rfl, hg5, hb5, hx5⟩; have hob := ho4.ext hx5 (fun _ _ => nos); (have hfb : ∀ k, (Value.slice A4 (rdig m).length c4).ownBlock = some k → k < b5 := fun k e => by have := ho4.lt e; omega); refine Gn ?_; refine WC.seq ?_; refine WC.sr ?_; refine Go ?_; refine Gs [(4, _), (5, _), (6, _)] ?_; refine WC.block ?_)
  -- loop 0: slots that turn [6], that stay [4, 5]
  all_goals (refine WC.loopG (X := Nat × Value) (fun x => ([(6, In ((x.1 : Int) - 1))] : Fr)) [(4, _), (5, _)] (fun x h' => x.1 ≤ (rdig m).length ∧ Bl h' b5 x.2 ((rdig m).drop x.1).reverse ∧ Own h' (Value.slice A4 (rdig m).length c4) 5 1 (rdig m).length (bys (rdig m)) ∧ Ext No h h' ∧ h.size ≤ b5 ∧ ∀ k, x.2.ownBlock = some k → b5 < k) (fun x => x.1) (((rdig m).length, .slice none 0 0)) ⟨rfl, rfl, rfl, trivial⟩ (by exact ⟨Nat.le_refl _, by simpa [Bl] using (⟨⟨_, hb5, .inl rfl⟩, Own.nil _ _ _⟩ : _ ∧ _), hob, hx4.trans hx5, Nat.le_trans hx4.size hg5, by simp [Value.ownBlock]⟩) ?_; rintro ⟨k, v6⟩ h6 ⟨hk, hbl, ho6, hx6, hg6, hf6⟩; simp only at hk hbl hf6)
  all_goals (refine WC.sub [(6, _), (4, _), (5, _)] ⟨rfl, rfl, rfl, trivial⟩ ?_; dsimp only)
  all_goals (refine WC.seq ?_; refine WC.sr ?_; refine Go ?_; refine goC 5 6 (Hb.mk fun hb => ?_) (Hb.mk fun hb => ?_))
  all_goals (first | (fail_if_success refine goB 5 ?_) | (
  refine goB 5 ?_
  all_goals (refine WC.skip ?_)
  skip))
  all_goals (first | (fail_if_success refine goB 6 ?_) | (
  refine goB 6 ?_
  all_goals (refine WC.exit ?_; repeat' (with_reducible first | refine thenP_x ?_ | refine blockP_miss rfl ?_ | refine blockP_hit ?_ | refine blockP_n ?_ | refine thenP_n ?_))
  all_goals (refine Br.out (i := 1000) ?_)
  skip))
  all_goals (refine Gn ?_; first | (refine Br.keep ?_) | (refine WC.seq ?_))
  all_goals (first | (refine Br.keep ?_) | (refine WC.block ?_))
  all_goals (first
               | (refine Br.keep ?_)
               | (obtain ⟨bL, oL, hA, hbL, hat⟩ := Rd.at_ ho6.rd (by omega)
                  obtain ⟨j, rfl⟩ : ∃ j, k = j + 1 := ⟨k - 1, by omega⟩
                  obtain ⟨y, hy⟩ : ∃ y, (rdig m)[j]? = some y := ⟨_, List.getElem?_eq_getElem (by omega)⟩
                  have hc := hat.get (p := oL + j * 1) (v := By y) j (get_by hy) (by omega)
                  have e8 : (((j + 1 : Nat) : Int) - 1) = (j : Nat) := by omega
                  rw [e8]))
  all_goals (first | (refine Br.keep ?_) | (refine WC.region ?_))
  all_goals (refine Go ?_; first | (refine Br.keep ?_) | (refine WL.step (ok_idxAddrA Tryz.underlying42 (fun w => Tryz.sizeOf5 w) rfl rfl rfl (by omega) (by first | rfl | assumption)) rfl rfl rfl ?_))
  all_goals (first | (refine Br.keep ?_) | (refine Ld ?_))
  all_goals (first
               | (refine Br.keep ?_)
               | (refine WL.call (vs := [_, _]) rfl (fun a w => Tryz.call134 a w) rfl (writeByte hbl y (by simp; omega)) rfl rfl rfl ?_
                  rintro _ h7 ⟨rfl, v7, hbl7, hx7, hk7⟩))
  all_goals (refine Gn ?_; first | (refine Br.keep ?_) | (refine Gs [(4, _), (5, _), (6, _)] ?_))
  all_goals (first | (refine Br.keep ?_) | (refine WC.region ?_))
  all_goals (refine Go ?_; first | (refine Br.keep ?_) | (exact ⟨(j, _), ⟨rfl, rfl, rfl, trivial⟩, (by exact ⟨by simp; omega, by rw [drop_snoc hy]; exact hbl7, ho6.ext hx7 (fun q hq e => e.elim (fun e => by have := hfb q hq; omega) (fun e => by have := hfb q hq; have := hf6 q e; omega)), hx6.trans' hx7 (fun q hq e => e.elim (fun e => by omega) (fun e => by have := hf6 q e; omega)), hg6, fun q hq => (hk7 q hq).elim (hf6 q) (fun e => Nat.lt_of_lt_of_le (own_blt hbl) e)⟩), (by simp)⟩))
  all_goals (try (refine Br.mk (i := 1000) ?_))
  all_goals (refine Gn ?_; refine Gs [(5, _)] ?_; refine WC.sr ?_; refine WL.call (vs := [_]) rfl (fun a w => Tryz.call135 a w) rfl (builderString hbl (by simp; omega)) rfl rfl rfl ?_; rintro _ h8 ⟨rfl, hx8⟩; refine Go ?_; refine Gt ?_; exact ⟨by rw [show k = 0 by omega, ed]; simp [dig], hx6.trans' hx8 (fun q hq e => by have := hf6 q e; omega)⟩)
set_option maxHeartbeats 2000000 in
set_option maxRecDepth 100000 in
theorem text_neg {h : Heap} (m : Nat) (h0 : 0 < m) (hm : m ≤ 9223372036854775808) :
    CallsH Tryz.prog 115 ⟨[In (-(m : Int))]⟩ h fun u h' => u = St (deci (-(m : Int))) ∧ Ext No h h' := by
  have ed : deci (-(m : Int)) = 45 :: dig m := by unfold deci; rw [if_pos (by omega)]; simp
  have hlm := rdig_len20 m (by omega)
  refine calls [(0, _)] Tryz.func115 rfl Tryz.ntmps115 rfl ⟨rfl, trivial⟩ ?_
  all_goals (refine WC.sr ?_; refine Go ?_; refine WC.sr ?_; refine Go ?_; refine WC.seq ?_; refine WC.sr ?_; refine Go ?_; refine Gs [(0, _), (3, _), (10, _)] ?_; refine goC 1 2 ?_ TT.mk; refine goB 2 ?_; refine WC.skip ?_; refine Gn ?_; refine WC.sr ?_; refine Go ?_; refine WL.call (vs := [_]) rfl (fun a w => Tryz.call133 a w) rfl (least_any m (by omega)) rfl rfl rfl ?_; rintro v4 h4 ⟨ho4, hx4, hf4⟩; refine Go ?_; refine Gs [(3, _), (4, _)] ?_; refine WC.seq ?_; refine WC.sr ?_; refine Go ?_; refine goC 3 4 ?_ TT.mk; refine goB 3 ?_; refine WC.region ?_; refine Go ?_; refine WL.stepR (okE_buildSlice (vs := [_]) (cs := [_]) (fun | [a0] => [a0] | _ => []) Tryz.underlying42 rfl rfl (by kernel_rfl)) rfl rfl rfl ?_; rintro _ h3 ⟨b3, rfl, hg3, hb3, hx3⟩; refine WL.stepR (ok_append (sz := 1) (bytes := 1) rfl Tryz.underlying42 (show Tryz.prog.info? 5 = some Tryz.t5 by kernel_rfl) rfl rfl rfl rfl (by decide) rfl rfl (ho4.ext hx3 (fun _ _ => nos)) (rd_blk hb3 rfl) (by simp [Value.oneCell']) (by simp only [maxLen]; omega) (by omega)) rfl rfl rfl ?_; rintro v7 h7 ⟨ho7, hx7, hl7⟩)
  all_goals (have hf7 := fresh_of hl7 hf4 (by have := hx4.size; have := hx3.size; omega)
             have hX7 := (hx4.trans hx3).trans' hx7 (fun q hq e => by have := hf4 q e; omega)
             have e45 : bys (rdig m) ++ [.int .u8 45] = bys (rdig m ++ [45]) := by simp
             have l45 : (rdig m).length + 1 = (rdig m ++ [45]).length := by simp
             rw [e45, l45] at ho7
             have hlf : (rdig m ++ [45]).length ≤ 21 := by omega
             obtain ⟨A7, c7, rfl, _⟩ := ho7.slice)
  all_goals (refine Go ?_; refine Gn ?_; refine WC.sr ?_; refine WL.stepR (okE_alloc (fun w => Tryz.zeroValue180 w)) rfl rfl rfl ?_; rintro _ h5 ⟨b5, rfl, hg5, hb5, hx5⟩; have hob := ho7.ext hx5 (fun _ _ => nos); (have hfb : ∀ k, (Value.slice A7 (rdig m ++ [45]).length c7).ownBlock = some k → k < b5 := fun k e => by have := ho7.lt e; omega); refine Gn ?_; refine WC.seq ?_; refine WC.sr ?_; refine Go ?_; refine Gs [(4, _), (5, _), (6, _)] ?_; refine WC.block ?_)
  -- loop 0: slots that turn [6], that stay [4, 5]
  all_goals (refine WC.loopG (X := Nat × Value) (fun x => ([(6, In ((x.1 : Int) - 1))] : Fr)) [(4, _), (5, _)] (fun x h' => x.1 ≤ (rdig m ++ [45]).length ∧ Bl h' b5 x.2 ((rdig m ++ [45]).drop x.1).reverse ∧ Own h' (Value.slice A7 (rdig m ++ [45]).length c7) 5 1 (rdig m ++ [45]).length (bys (rdig m ++ [45])) ∧ Ext No h h' ∧ h.size ≤ b5 ∧ ∀ k, x.2.ownBlock = some k → b5 < k) (fun x => x.1) (((rdig m ++ [45]).length, .slice none 0 0)) ⟨rfl, rfl, rfl, trivial⟩ (by exact ⟨Nat.le_refl _, by simpa [Bl] using (⟨⟨_, hb5, .inl rfl⟩, Own.nil _ _ _⟩ : _ ∧ _), hob, hX7.trans hx5, Nat.le_trans hX7.size hg5, by simp [Value.ownBlock]⟩) ?_; rintro ⟨k, v6⟩ h6 ⟨hk, hbl, ho6, hx6, hg6, hf6⟩; simp only at hk hbl hf6)
  all_goals (refine WC.sub [(6, _), (4, _), (5, _)] ⟨rfl, rfl, rfl, trivial⟩ ?_; dsimp only)
  all_goals (refine WC.seq ?_; refine WC.sr ?_; refine Go ?_; refine goC 5 6 (Hb.mk fun hb => ?_) (Hb.mk fun hb => ?_))
  all_goals (first | (fail_if_success refine goB 5 ?_) | (
  refine goB 5 ?_
  all_goals (refine WC.skip ?_)
  skip))
  all_goals (first | (fail_if_success refine goB 6 ?_) | (
  refine goB 6 ?_
  all_goals (refine WC.exit ?_; repeat' (with_reducible first | refine thenP_x ?_ | refine blockP_miss rfl ?_ | refine blockP_hit ?_ | refine blockP_n ?_ | refine thenP_n ?_))
  all_goals (refine Br.out (i := 1000) ?_)
  skip))
  all_goals (refine Gn ?_; first | (refine Br.keep ?_) | (refine WC.seq ?_))
  all_goals (first | (refine Br.keep ?_) | (refine WC.block ?_))
  all_goals (first
               | (refine Br.keep ?_)
               | (obtain ⟨bL, oL, hA, hbL, hat⟩ := Rd.at_ ho6.rd (by omega)
                  obtain ⟨j, rfl⟩ : ∃ j, k = j + 1 := ⟨k - 1, by omega⟩
                  obtain ⟨y, hy⟩ : ∃ y, (rdig m ++ [45])[j]? = some y := ⟨_, List.getElem?_eq_getElem (by omega)⟩
                  have hc := hat.get (p := oL + j * 1) (v := By y) j (get_by hy) (by omega)
                  have e8 : (((j + 1 : Nat) : Int) - 1) = (j : Nat) := by omega
                  rw [e8]))
  all_goals (first | (refine Br.keep ?_) | (refine WC.region ?_))
  all_goals (refine Go ?_; first | (refine Br.keep ?_) | (refine WL.step (ok_idxAddrA Tryz.underlying42 (fun w => Tryz.sizeOf5 w) rfl rfl rfl (by omega) (by first | rfl | assumption)) rfl rfl rfl ?_))
  all_goals (first | (refine Br.keep ?_) | (refine Ld ?_))
  all_goals (first
               | (refine Br.keep ?_)
               | (refine WL.call (vs := [_, _]) rfl (fun a w => Tryz.call134 a w) rfl (writeByte hbl y (by simp; omega)) rfl rfl rfl ?_
                  rintro _ h7 ⟨rfl, v7, hbl7, hx7, hk7⟩))
  all_goals (refine Gn ?_; first | (refine Br.keep ?_) | (refine Gs [(4, _), (5, _), (6, _)] ?_))
  all_goals (first | (refine Br.keep ?_) | (refine WC.region ?_))
  all_goals (refine Go ?_; first | (refine Br.keep ?_) | (exact ⟨(j, _), ⟨rfl, rfl, rfl, trivial⟩, (by exact ⟨by simp; omega, by rw [drop_snoc hy]; exact hbl7, ho6.ext hx7 (fun q hq e => e.elim (fun e => by have := hfb q hq; omega) (fun e => by have := hfb q hq; have := hf6 q e; omega)), hx6.trans' hx7 (fun q hq e => e.elim (fun e => by omega) (fun e => by have := hf6 q e; omega)), hg6, fun q hq => (hk7 q hq).elim (hf6 q) (fun e => Nat.lt_of_lt_of_le (own_blt hbl) e)⟩), (by simp)⟩))
  all_goals (try (refine Br.mk (i := 1000) ?_))
  all_goals (refine Gn ?_; refine Gs [(5, _)] ?_; refine WC.sr ?_; refine WL.call (vs := [_]) rfl (fun a w => Tryz.call135 a w) rfl (builderString hbl (by simp; omega)) rfl rfl rfl ?_; rintro _ h8 ⟨rfl, hx8⟩; refine Go ?_; refine Gt ?_; exact ⟨by rw [show k = 0 by omega, ed]; simp [dig], hx6.trans' hx8 (fun q hq e => by have := hf6 q e; omega)⟩)
theorem text_any {h : Heap} (n : Int) (h0 : -9223372036854775808 ≤ n) (h1 : n ≤ 9223372036854775807) :
    CallsH Tryz.prog 115 ⟨[In n]⟩ h fun u h' => u = St (deci n) ∧ Ext No h h' := by
  by_cases hp : 0 ≤ n
  · obtain ⟨m, rfl⟩ := Int.eq_ofNat_of_zero_le hp
    exact text_pos m (by omega)
  · obtain ⟨m, rfl⟩ : ∃ m : Nat, n = -(m : Int) := ⟨n.natAbs, by omega⟩
    exact text_neg m (by omega) (by omega)
end Go.Proofs.YtggmocdbfbhklaaGreat


/-
  INJECT (layer 19) and the document's: what makes room, and has a statement be there.
-/
namespace Go.Proofs.YtggmocdbfbhklaaGreat
open Go Go.RK

/-- A statement's name on servers. -/
def srvL (id : Int) : List UInt8 := if id < 1 ∨ 2147483648 < id then [] else [95, 112] ++ deci id
set_option maxHeartbeats 2000000 in
set_option maxRecDepth 100000 in
theorem srv_any {h : Heap} (id : Int) : CallsH Tryz.prog 90 ⟨[In id]⟩ h fun u h' => u = St (srvL id) ∧ Ext No h h' := by
  by_cases h0 : id < 1
  · rw [srvL, if_pos (.inl h0)]
    refine calls [(0, _)] Tryz.func90 rfl Tryz.ntmps90 rfl ⟨rfl, trivial⟩ ?_
    all_goals (refine WC.sr ?_; refine Go ?_; refine WC.seq ?_; refine WC.sr ?_; refine Go ?_; refine goP 5 ?_ TT.mk; refine Gg ?_; refine Go ?_; refine Gs [(0, _), (8, _)] ?_; refine goC 1 2 ?_ TT.mk; refine goB 1 ?_; refine WC.sr ?_; refine Go ?_; refine Gt ?_; exact ⟨rfl, .refl _ _⟩)
  · by_cases h1 : 2147483648 < id
    · rw [srvL, if_pos (.inr h1)]
      refine calls [(0, _)] Tryz.func90 rfl Tryz.ntmps90 rfl ⟨rfl, trivial⟩ ?_
      all_goals (refine WC.sr ?_; refine Go ?_; refine WC.seq ?_; refine WC.sr ?_; refine Go ?_; refine goP 5 ?_ TT.mk; refine Gg ?_; refine Go ?_; refine Gs [(0, _), (8, _)] ?_; refine goC 1 2 ?_ TT.mk; refine goB 1 ?_; refine WC.sr ?_; refine Go ?_; refine Gt ?_; exact ⟨rfl, .refl _ _⟩)
    · rw [srvL, if_neg (by omega)]
      have hl := deci_len id (by omega)
      refine calls [(0, _)] Tryz.func90 rfl Tryz.ntmps90 rfl ⟨rfl, trivial⟩ ?_
      all_goals (refine WC.sr ?_; refine Go ?_; refine WC.seq ?_; refine WC.sr ?_; refine Go ?_; refine goP 5 ?_ TT.mk; refine Gg ?_; refine Go ?_; refine Gs [(0, _), (8, _)] ?_; refine goC 1 2 ?_ TT.mk; refine goB 2 ?_; refine WC.skip ?_; refine Gn ?_; refine WC.sr ?_; refine Go ?_; refine WL.call (vs := [_]) rfl (fun a w => Tryz.call115 a w) rfl (text_any id (by omega) (by omega)) rfl rfl rfl ?_; rintro _ h2 ⟨rfl, hx2⟩; refine WL.step (ok_catS rfl rfl (by first | (simp only [List.length_append, List.length_cons, List.length_nil]; omega) | (simp; omega))) rfl rfl rfl ?_; refine Go ?_; refine Gs [(2, _)] ?_; refine Gt ?_; exact ⟨rfl, hx2⟩)
set_option maxHeartbeats 2000000 in
set_option maxRecDepth 100000 in
theorem srv_ref {h : Heap} (id : Int) : CallsH Tryz.prog 68 ⟨[In id]⟩ h fun u h' => u = St (srvL id) ∧ h' = h := by
  by_cases h0 : id < 1
  · rw [srvL, if_pos (.inl h0)]
    refine calls [(0, _)] Tryz.func68 rfl Tryz.ntmps68 rfl ⟨rfl, trivial⟩ ?_
    all_goals (refine WC.sr ?_; refine Go ?_; refine WC.seq ?_; refine WC.sr ?_; refine Go ?_; refine goP 5 ?_ TT.mk; refine Gg ?_; refine Go ?_; refine Gs [(0, _), (8, _)] ?_; refine goC 1 2 ?_ TT.mk; refine goB 1 ?_; refine WC.sr ?_; refine Go ?_; refine Gt ?_; exact ⟨rfl, rfl⟩)
  · by_cases h1 : 2147483648 < id
    · rw [srvL, if_pos (.inr h1)]
      refine calls [(0, _)] Tryz.func68 rfl Tryz.ntmps68 rfl ⟨rfl, trivial⟩ ?_
      all_goals (refine WC.sr ?_; refine Go ?_; refine WC.seq ?_; refine WC.sr ?_; refine Go ?_; refine goP 5 ?_ TT.mk; refine Gg ?_; refine Go ?_; refine Gs [(0, _), (8, _)] ?_; refine goC 1 2 ?_ TT.mk; refine goB 1 ?_; refine WC.sr ?_; refine Go ?_; refine Gt ?_; exact ⟨rfl, rfl⟩)
    · rw [srvL, if_neg (by omega)]
      have hl := deci_len id (by omega)
      refine calls [(0, _)] Tryz.func68 rfl Tryz.ntmps68 rfl ⟨rfl, trivial⟩ ?_
      all_goals (refine WC.sr ?_; refine Go ?_; refine WC.seq ?_; refine WC.sr ?_; refine Go ?_; refine goP 5 ?_ TT.mk; refine Gg ?_; refine Go ?_; refine Gs [(0, _), (8, _)] ?_; refine goC 1 2 ?_ TT.mk; refine goB 2 ?_; refine WC.skip ?_; refine Gn ?_; refine WC.sr ?_; refine Go ?_; refine WL.call (vs := [_]) rfl (fun a w => Tryz.call98 a w) rfl (text_ref id (by omega) (by omega)) rfl rfl rfl ?_; rintro _ hz ⟨rfl, _⟩; subst hz; refine WL.step (ok_catS rfl rfl (by first | (simp only [List.length_append, List.length_cons, List.length_nil]; omega) | (simp; omega))) rfl rfl rfl ?_; refine Go ?_; refine Gs [(2, _)] ?_; refine Gt ?_; exact ⟨rfl, rfl⟩)

/-! ### single messages and entries -/
def clC (n : List UInt8) : List Value := [.int .u8 67, .int .u8 83, St n, St [], St [], .slice none 0 0, .slice none 0 0, .slice none 0 0, .slice none 0 0, In 0]
def paC (n t : List UInt8) (v : Value) : List Value := [.int .u8 80, .int .u8 0, St n, St [], St t, v, .slice none 0 0, .slice none 0 0, .slice none 0 0, In 0]
def hiC (k : Int) (v : Value) : List Value := [In k, .bool true, St [], St [], .slice none 0 0, .slice none 0 0, v, .slice none 0 0]
set_option maxHeartbeats 2000000 in
set_option maxRecDepth 100000 in
theorem close_any {h : Heap} (n : List UInt8) : CallsH Tryz.prog 113 ⟨[St n]⟩ h fun u h' => u = .agg ⟨clC n⟩ ∧ Ext No h h' := by
  refine calls [(0, _)] Tryz.func113 rfl Tryz.ntmps113 rfl ⟨rfl, trivial⟩ ?_
  all_goals (refine WC.sr ?_; refine WL.stepR (okE_alloc (fun w => Tryz.zeroValue27 w)) rfl rfl rfl ?_; rintro _ h1 ⟨b1, rfl, hg1, hb1, hx1⟩; refine Gn ?_; refine WC.sr ?_; refine Go ?_; refine WL.step (ok_buildF (vs := [_, _, _]) (cs := [_, _, _, _, _, _, _, _, _, _]) (fun | [a0, a1, a2] => [a0, a1, a2, (St []), (St []), (.slice none 0 0), (.slice none 0 0), (.slice none 0 0), (.slice none 0 0), (.int .i64 0)] | _ => []) rfl rfl (by kernel_rfl)) rfl rfl rfl ?_; refine WL.stepR0 (okE_storeW (fun w => Tryz.sizeOf27 w) rfl rfl rfl (by assumption) rfl (by simp [Value.oneCell'])) rfl rfl ?_; rintro _ h2 ⟨hb2, hx2⟩; refine Gn ?_; refine WC.ret ?_; repeat' (with_reducible first | refine thenP_r ?_ | refine blockP_r ?_))
  all_goals (refine retP_1 _ ⟨⟨_, rfl, ld_blk (fun w => Tryz.isAgg27 w) (fun w => Tryz.sizeOf27 w) hb2 rfl⟩, trivial⟩ ?_; exact ⟨rfl, hx1.trans' hx2 (fun q hq e => by omega)⟩)
set_option maxHeartbeats 2000000 in
set_option maxRecDepth 100000 in
theorem close_ref {h : Heap} (n : List UInt8) : CallsH Tryz.prog 97 ⟨[St n]⟩ h fun u h' => u = .agg ⟨clC n⟩ ∧ Ext No h h' := by
  refine calls [(0, _)] Tryz.func97 rfl Tryz.ntmps97 rfl ⟨rfl, trivial⟩ ?_
  all_goals (refine WC.sr ?_; refine WL.stepR (okE_alloc (fun w => Tryz.zeroValue27 w)) rfl rfl rfl ?_; rintro _ h1 ⟨b1, rfl, hg1, hb1, hx1⟩; refine Gn ?_; refine WC.sr ?_; refine Go ?_; refine WL.step (ok_buildF (vs := [_, _, _]) (cs := [_, _, _, _, _, _, _, _, _, _]) (fun | [a0, a1, a2] => [a0, a1, a2, (St []), (St []), (.slice none 0 0), (.slice none 0 0), (.slice none 0 0), (.slice none 0 0), (.int .i64 0)] | _ => []) rfl rfl (by kernel_rfl)) rfl rfl rfl ?_; refine WL.stepR0 (okE_storeW (fun w => Tryz.sizeOf27 w) rfl rfl rfl (by assumption) rfl (by simp [Value.oneCell'])) rfl rfl ?_; rintro _ h2 ⟨hb2, hx2⟩; refine Gn ?_; refine WC.ret ?_; repeat' (with_reducible first | refine thenP_r ?_ | refine blockP_r ?_))
  all_goals (refine retP_1 _ ⟨⟨_, rfl, ld_blk (fun w => Tryz.isAgg27 w) (fun w => Tryz.sizeOf27 w) hb2 rfl⟩, trivial⟩ ?_; exact ⟨rfl, hx1.trans' hx2 (fun q hq e => by omega)⟩)
set_option maxHeartbeats 2000000 in
set_option maxRecDepth 100000 in
theorem hidden_any {h : Heap} (k : Int) (b : Nat) : CallsH Tryz.prog 114 ⟨[In k, .slice (some ⟨b, 0, none⟩) 1 1]⟩ h fun u h' => u = .agg ⟨hiC k (.slice (some ⟨b, 0, none⟩) 1 1)⟩ ∧ Ext No h h' := by
  refine calls [(0, _), (1, _)] Tryz.func114 rfl Tryz.ntmps114 rfl ⟨rfl, rfl, trivial⟩ ?_
  all_goals (refine WC.sr ?_; refine WL.stepR (okE_alloc (fun w => Tryz.zeroValue44 w)) rfl rfl rfl ?_; rintro _ h1 ⟨b1, rfl, hg1, hb1, hx1⟩; refine Gn ?_; refine WC.sr ?_; refine Go ?_; refine WL.step (ok_buildF (vs := [_, _, _]) (cs := [_, _, _, _, _, _, _, _]) (fun | [a0, a1, a6] => [a0, a1, (St []), (St []), (.slice none 0 0), (.slice none 0 0), a6, (.slice none 0 0)] | _ => []) rfl rfl (by kernel_rfl)) rfl rfl rfl ?_; refine WL.stepR0 (okE_storeW (fun w => Tryz.sizeOf44 w) rfl rfl rfl (by assumption) rfl (by simp [Value.oneCell'])) rfl rfl ?_; rintro _ h2 ⟨hb2, hx2⟩; refine Gn ?_; refine Gs [(4, _)] ?_; refine WC.ret ?_; repeat' (with_reducible first | refine thenP_r ?_ | refine blockP_r ?_))
  all_goals (refine retP_1 _ ⟨⟨_, rfl, ld_blk (fun w => Tryz.isAgg44 w) (fun w => Tryz.sizeOf44 w) hb2 rfl⟩, trivial⟩ ?_; exact ⟨rfl, hx1.trans' hx2 (fun q hq e => by omega)⟩)
set_option maxHeartbeats 2000000 in
set_option maxRecDepth 100000 in
theorem parse_inj {h : Heap} {v : Value} (n t : List UInt8) (l : List Int) (hr : Rd h v 1 l.length (ints l)) (hm : l.length ≤ 100000) :
    CallsH Tryz.prog 116 ⟨[St n, .agg ⟨[St t, v]⟩]⟩ h fun u h' => ∃ v', u = .agg ⟨paC n t v'⟩ ∧ NewL h v' l h' := by
  obtain ⟨A, c, rfl, _⟩ := id hr
  refine calls [(0, _), (1, _)] Tryz.func116 rfl Tryz.ntmps116 rfl ⟨rfl, rfl, trivial⟩ ?_
  all_goals (refine WC.sr ?_; refine WL.stepR (okE_box rfl) rfl rfl rfl ?_; rintro _ h1 ⟨b1, rfl, hg1, hb1, hx1⟩; refine WL.stepR (okE_alloc (fun w => Tryz.zeroValue27 w)) rfl rfl rfl ?_; rintro _ h2 ⟨b2, rfl, hg2, hb2, hx2⟩; have hb1' := hx2.obj hb1 nos; have hX2 := hx1.trans hx2; refine Gn ?_; refine WC.seq ?_; refine WC.drawH (fun h' => Ext No h2 h') 7 8 rfl fol ?_; refine WH.tk 0 rfl (fun hq hC => ok_move rfl) rfl rfl rfl ?_; refine WH.tk 1 rfl (fun hq hC => ok_fieldAddr rfl Tryz.underlying63 rfl (fun w => Tryz.sizeOf9 w)) rfl rfl rfl ?_; refine WH.tk 2 rfl (fun hq hC => ok_load (fun w => Tryz.isAgg9 w) rfl (by first | exact hC.cell (by first | assumption | assumption | exact cell_blk (by assumption) rfl) nos)) rfl rfl rfl ?_; refine WH.tk 3 rfl (fun hq hC => ok_fieldAddr rfl Tryz.underlying63 rfl (fun w => Tryz.sizeOf24 w)) rfl rfl rfl ?_; refine WH.tk 4 rfl (fun hq hC => ok_load (fun w => Tryz.isAgg24 w) rfl (by first | exact hC.cell (by first | assumption | assumption | exact cell_blk (by assumption) rfl) nos)) rfl rfl rfl ?_; refine WH.one 5 (by kernel_rfl) ?_; refine Comes1.call (vs := [_]) rfl rfl (fun a w => Tryz.call27 a w) rfl (clone_int l (hr.ext0 hX2) (by omega)) rfl rfl rfl ?_ (fun _ => by kernel_rfl); rintro v3 h3 ⟨ho3, hx3, hf3⟩; refine ⟨fun _ => by first | assumption | trivial, ?_⟩; have hb2' := hx3.obj hb2 nos; obtain ⟨A3, c3, rfl, _⟩ := ho3.slice; refine WH.tk 6 rfl (fun hq hC => ok_buildF (vs := [_, _, _, _]) (cs := [_, _, _, _, _, _, _, _, _, _]) (fun | [a0, a2, a4, a5] => [a0, (.int .u8 0), a2, (St []), a4, a5, (.slice none 0 0), (.slice none 0 0), (.slice none 0 0), (.int .i64 0)] | _ => []) rfl rfl (by kernel_rfl)) rfl rfl rfl ?_; refine WH.one 7 (by kernel_rfl) ?_; refine Comes1.run0 rfl (okE_storeW (fun w => Tryz.sizeOf27 w) rfl rfl rfl hb2' rfl (by simp [Value.oneCell'])) rfl rfl ?_ (fun _ => by kernel_rfl); rintro _ h4 ⟨hb4, hx4⟩; refine ⟨fun e => (by cases e), ?_⟩; refine WH.done (by kernel_rfl) ?_; refine Gn ?_; refine Gs [(4, _)] ?_; refine WC.ret ?_; repeat' (with_reducible first | refine thenP_r ?_ | refine blockP_r ?_))
  all_goals (refine retP_1 _ ⟨⟨_, rfl, ld_blk (fun w => Tryz.isAgg27 w) (fun w => Tryz.sizeOf27 w) hb4 rfl⟩, trivial⟩ ?_; exact ⟨_, rfl, ho3.ext hx4 (fun q hq e => by have := hf3 q hq; have := lt_of_some hb2; omega), (hX2.trans hx3).trans' hx4 (fun q hq e => by have := hx1.size; omega), fun q hq => Nat.le_trans hX2.size (hf3 q hq)⟩)
set_option maxHeartbeats 2000000 in
set_option maxRecDepth 100000 in
theorem parse_inj_ref {h : Heap} {v : Value} (n t : List UInt8) (l : List Int) (hr : Rd h v 1 l.length (ints l)) (hm : l.length ≤ 100000) :
    CallsH Tryz.prog 99 ⟨[St n, .agg ⟨[St t, v]⟩]⟩ h fun u h' => ∃ v', u = .agg ⟨paC n t v'⟩ ∧ NewL h v' l h' := by
  obtain ⟨A, c, rfl, _⟩ := id hr
  refine calls [(0, _), (1, _)] Tryz.func99 rfl Tryz.ntmps99 rfl ⟨rfl, rfl, trivial⟩ ?_
  all_goals (refine WC.sr ?_; refine WL.stepR (okE_box rfl) rfl rfl rfl ?_; rintro _ h1 ⟨b1, rfl, hg1, hb1, hx1⟩; refine WL.stepR (okE_alloc (fun w => Tryz.zeroValue27 w)) rfl rfl rfl ?_; rintro _ h2 ⟨b2, rfl, hg2, hb2, hx2⟩; have hb1' := hx2.obj hb1 nos; have hX2 := hx1.trans hx2; refine Gn ?_; refine WC.seq ?_; refine WC.drawH (fun h' => Ext No h2 h') 7 8 rfl fol ?_; refine WH.tk 0 rfl (fun hq hC => ok_move rfl) rfl rfl rfl ?_; refine WH.tk 1 rfl (fun hq hC => ok_fieldAddr rfl Tryz.underlying63 rfl (fun w => Tryz.sizeOf9 w)) rfl rfl rfl ?_; refine WH.tk 2 rfl (fun hq hC => ok_load (fun w => Tryz.isAgg9 w) rfl (by first | exact hC.cell (by first | assumption | assumption | exact cell_blk (by assumption) rfl) nos)) rfl rfl rfl ?_; refine WH.tk 3 rfl (fun hq hC => ok_fieldAddr rfl Tryz.underlying63 rfl (fun w => Tryz.sizeOf24 w)) rfl rfl rfl ?_; refine WH.tk 4 rfl (fun hq hC => ok_load (fun w => Tryz.isAgg24 w) rfl (by first | exact hC.cell (by first | assumption | assumption | exact cell_blk (by assumption) rfl) nos)) rfl rfl rfl ?_; refine WH.one 5 (by kernel_rfl) ?_; refine Comes1.run rfl (ok_append (sz := 1) (bytes := 8) rfl Tryz.underlying24 (show Tryz.prog.info? 3 = some Tryz.t3 by kernel_rfl) rfl rfl rfl rfl (by decide) rfl rfl (Own.nil _ _ _) (hr.ext0 hX2) (one_ints l) (by simp only [maxLen]; omega) (by omega)) rfl rfl rfl ?_ (fun _ => by kernel_rfl); rintro v3 h3 ⟨ho3, hx3, hl3⟩; refine ⟨fun _ => hx3.mono fun k _ hk => by simp [Value.ownBlock] at hk, ?_⟩)
  all_goals (replace hx3 : Ext No h2 h3 := hx3.mono fun k _ hk => by simp [Value.ownBlock] at hk
             have hb2' := hx3.obj hb2 nos
             simp only [List.nil_append, Nat.zero_add] at ho3
             have hf3 := fresh_of (B := h2.size) hl3 (by simp [Value.ownBlock]) (Nat.le_refl _)
             obtain ⟨A3, c3, rfl, _⟩ := ho3.slice)
  all_goals (refine WH.tk 6 rfl (fun hq hC => ok_buildF (vs := [_, _, _, _]) (cs := [_, _, _, _, _, _, _, _, _, _]) (fun | [a0, a2, a4, a5] => [a0, (.int .u8 0), a2, (St []), a4, a5, (.slice none 0 0), (.slice none 0 0), (.slice none 0 0), (.int .i64 0)] | _ => []) rfl rfl (by kernel_rfl)) rfl rfl rfl ?_; refine WH.one 7 (by kernel_rfl) ?_; refine Comes1.run0 rfl (okE_storeW (fun w => Tryz.sizeOf27 w) rfl rfl rfl hb2' rfl (by simp [Value.oneCell'])) rfl rfl ?_ (fun _ => by kernel_rfl); rintro _ h4 ⟨hb4, hx4⟩; refine ⟨fun e => (by cases e), ?_⟩; refine WH.done (by kernel_rfl) ?_; refine Gn ?_; refine Gs [(4, _)] ?_; refine WC.ret ?_; repeat' (with_reducible first | refine thenP_r ?_ | refine blockP_r ?_))
  all_goals (refine retP_1 _ ⟨⟨_, rfl, ld_blk (fun w => Tryz.isAgg27 w) (fun w => Tryz.sizeOf27 w) hb4 rfl⟩, trivial⟩ ?_; exact ⟨_, rfl, ho3.ext hx4 (fun q hq e => by have := hf3 q hq; have := lt_of_some hb2; omega), (hX2.trans hx3).trans' hx4 (fun q hq e => by have := hx1.size; omega), fun q hq => Nat.le_trans hX2.size (hf3 q hq)⟩)

/-! ### Room -/
def RoomY (h : Heap) (x : Int) (u : Value) (h' : Heap) : Prop := ∃ bo vF vE, u = .tuple ⟨[vF, vE]⟩ ∧ Own h' vF 27 10 1 (clC (srvL x)) ∧ Own h' vE 44 8 1 (hiC 7 (.slice (some ⟨bo, 0, none⟩) 1 1)) ∧ h'[bo]? = some (.cells ⟨[In 2, In x]⟩ 129 (0, 0)) ∧ Ext No h h' ∧ (∀ k, vF.ownBlock = some k → h.size ≤ k) ∧ (∀ k, vE.ownBlock = some k → h.size ≤ k)
set_option maxHeartbeats 2000000 in
set_option maxRecDepth 100000 in
theorem room_no {h : Heap} {v : Value} (spec : List Int) (most : Int) (hr : Rd h v 1 spec.length (ints spec)) (hm : spec.length ≤ 100000) (h0 : spec.length = 0 ∨ (spec.length : Int) < most) :
    CallsH Tryz.prog 89 ⟨[v, In most]⟩ h fun u h' => u = .tuple ⟨[.slice none 0 0, .slice none 0 0]⟩ ∧ h' = h := by
  obtain ⟨A, c, rfl, _⟩ := id hr
  rcases h0 with h0 | h0
  ·
    refine calls [(0, _), (1, _)] Tryz.func89 rfl Tryz.ntmps89 rfl ⟨rfl, rfl, trivial⟩ ?_
    all_goals (refine WC.sr ?_; refine Go ?_; refine WC.seq ?_; refine WC.sr ?_; refine Go ?_; refine goP 10 ?_ TT.mk; refine Gg ?_; refine Go ?_; refine Gs [(0, _), (15, _)] ?_; refine goC 1 2 ?_ TT.mk; refine goB 1 ?_; refine WC.sr ?_; refine Go ?_; refine Gt ?_; exact ⟨rfl, rfl⟩)
  ·
    by_cases h1 : spec.length = 0
    ·
      refine calls [(0, _), (1, _)] Tryz.func89 rfl Tryz.ntmps89 rfl ⟨rfl, rfl, trivial⟩ ?_
      all_goals (refine WC.sr ?_; refine Go ?_; refine WC.seq ?_; refine WC.sr ?_; refine Go ?_; refine goP 10 ?_ TT.mk; refine Gg ?_; refine Go ?_; refine Gs [(0, _), (15, _)] ?_; refine goC 1 2 ?_ TT.mk; refine goB 1 ?_; refine WC.sr ?_; refine Go ?_; refine Gt ?_; exact ⟨rfl, rfl⟩)
    ·
      refine calls [(0, _), (1, _)] Tryz.func89 rfl Tryz.ntmps89 rfl ⟨rfl, rfl, trivial⟩ ?_
      all_goals (refine WC.sr ?_; refine Go ?_; refine WC.seq ?_; refine WC.sr ?_; refine Go ?_; refine goP 10 ?_ TT.mk; refine Gg ?_; refine Go ?_; refine Gs [(0, _), (15, _)] ?_; refine goC 1 2 ?_ TT.mk; refine goB 1 ?_; refine WC.sr ?_; refine Go ?_; refine Gt ?_; exact ⟨rfl, rfl⟩)
set_option maxHeartbeats 2000000 in
set_option maxRecDepth 100000 in
theorem room_no_ref {h : Heap} {v : Value} (spec : List Int) (most : Int) (hr : Rd h v 1 spec.length (ints spec)) (hm : spec.length ≤ 100000) (h0 : spec.length = 0 ∨ (spec.length : Int) < most) :
    CallsH Tryz.prog 67 ⟨[v, In most]⟩ h fun u h' => u = .tuple ⟨[.slice none 0 0, .slice none 0 0]⟩ ∧ h' = h := by
  obtain ⟨A, c, rfl, _⟩ := id hr
  by_cases h1 : (spec.length : Int) < most
  ·
    refine calls [(0, _), (1, _)] Tryz.func67 rfl Tryz.ntmps67 rfl ⟨rfl, rfl, trivial⟩ ?_
    all_goals (refine WC.sr ?_; refine Go ?_; refine WC.seq ?_; refine WC.sr ?_; refine Go ?_; refine goP 11 ?_ TT.mk; refine Gg ?_; refine Go ?_; refine Gs [(0, _), (15, _)] ?_; refine goC 1 2 ?_ TT.mk; refine goB 1 ?_; refine WC.sr ?_; refine Go ?_; refine Gt ?_; exact ⟨rfl, rfl⟩)
  ·
    have h2 : spec.length = 0 := by omega
    refine calls [(0, _), (1, _)] Tryz.func67 rfl Tryz.ntmps67 rfl ⟨rfl, rfl, trivial⟩ ?_
    all_goals (refine WC.sr ?_; refine Go ?_; refine WC.seq ?_; refine WC.sr ?_; refine Go ?_; refine goP 11 ?_ TT.mk; refine Gg ?_; refine Go ?_; refine Gs [(0, _), (15, _)] ?_; refine goC 1 2 ?_ TT.mk; refine goB 1 ?_; refine WC.sr ?_; refine Go ?_; refine Gt ?_; exact ⟨rfl, rfl⟩)
set_option maxHeartbeats 2000000 in
set_option maxRecDepth 100000 in
theorem room_yes {h : Heap} {v : Value} (x : Int) (l : List Int) (most : Int) (hr : Rd h v 1 (x :: l).length (ints (x :: l))) (hm : (x :: l).length ≤ 100000) (h0 : most ≤ ((x :: l).length : Int)) :
    CallsH Tryz.prog 89 ⟨[v, In most]⟩ h fun u h' => RoomY h x u h' := by
  obtain ⟨A, c, rfl, _⟩ := id hr
  obtain ⟨bL, oL, hA, hbL, hat⟩ := Rd.at_ hr (by simp)
  have hc := hat.get (p := oL + 0 * 1) (v := In x) 0 rfl (by omega)
  have hpos : 0 < (x :: l).length := by simp
  refine calls [(0, _), (1, _)] Tryz.func89 rfl Tryz.ntmps89 rfl ⟨rfl, rfl, trivial⟩ ?_
  all_goals (refine WC.sr ?_; refine Go ?_; refine WC.seq ?_; refine WC.sr ?_; refine Go ?_; refine goP 10 ?_ TT.mk; refine Gg ?_; refine Go ?_; refine Gs [(0, _), (15, _)] ?_; refine goC 1 2 ?_ TT.mk; refine goB 2 ?_; refine WC.skip ?_; refine Gn ?_; refine WC.sr ?_; refine Go ?_; refine WL.step (ok_idxAddrA Tryz.underlying24 (fun w => Tryz.sizeOf3 w) rfl rfl rfl (by first | omega | (simp <;> omega)) (by first | rfl | assumption) (k := 0)) rfl rfl rfl ?_; refine Ld ?_; refine Go ?_; refine Gs [(6, _)] ?_; refine WC.sr ?_; refine Go ?_; refine WL.call (vs := [_]) rfl (fun a w => Tryz.call90 a w) rfl (srv_any x) rfl rfl rfl ?_; rintro _ h1 ⟨rfl, hx1⟩; refine WL.call (vs := [_]) rfl (fun a w => Tryz.call113 a w) rfl (close_any (srvL x)) rfl rfl rfl ?_; rintro _ h2 ⟨rfl, hx2⟩; refine WL.stepR (okE_buildSlice (vs := [_]) (cs := [_, _, _, _, _, _, _, _, _, _]) (fun | [.agg ⟨[a0, a1, a2, a3, a4, a5, a6, a7, a8, a9]⟩] => [a0, a1, a2, a3, a4, a5, a6, a7, a8, a9] | _ => []) Tryz.underlying36 rfl rfl (by kernel_rfl)) rfl rfl rfl ?_; rintro _ h3 ⟨b3, rfl, hg3, hb3, hx3⟩; refine Go ?_; refine WL.step (ok_buildF (vs := [_, _]) (cs := [_, _]) (fun | [a0, a1] => [a0, a1] | _ => []) rfl rfl (by kernel_rfl)) rfl rfl rfl ?_; refine WL.stepR (okE_buildSlice (vs := [_]) (cs := [_, _]) (fun | [.agg ⟨[a0, a1]⟩] => [a0, a1] | _ => []) Tryz.underlying41 rfl rfl (by kernel_rfl)) rfl rfl rfl ?_; rintro _ h4 ⟨b4, rfl, hg4, hb4, hx4⟩; refine WL.call (vs := [_, _]) rfl (fun a w => Tryz.call114 a w) rfl (hidden_any 7 b4) rfl rfl rfl ?_; rintro _ h5 ⟨rfl, hx5⟩; refine WL.stepR (okE_buildSlice (vs := [_]) (cs := [_, _, _, _, _, _, _, _]) (fun | [.agg ⟨[a0, a1, a2, a3, a4, a5, a6, a7]⟩] => [a0, a1, a2, a3, a4, a5, a6, a7] | _ => []) Tryz.underlying37 rfl rfl (by kernel_rfl)) rfl rfl rfl ?_; rintro _ h6 ⟨b6, rfl, hg6, hb6, hx6⟩; refine Go ?_; refine Gs [(4, _), (5, _)] ?_; refine Gt ?_; have hX2 := hx1.trans hx2; have s2 := hX2.size; have s3 := hx3.size; have s4 := hx4.size; have s5 := hx5.size; exact ⟨b4, _, _, rfl, own_blk (((hx4.trans hx5).trans hx6).obj hb3 nos) rfl (by simp [maxLen]), own_blk hb6 rfl (by simp [maxLen]), (hx5.trans hx6).obj hb4 nos, ((((hX2.trans hx3).trans hx4).trans hx5).trans hx6), fun k hk => by simp [Value.ownBlock] at hk; omega, fun k hk => by simp [Value.ownBlock] at hk; omega⟩)
set_option maxHeartbeats 2000000 in
set_option maxRecDepth 100000 in
theorem room_yes_ref {h : Heap} {v : Value} (x : Int) (l : List Int) (most : Int) (hr : Rd h v 1 (x :: l).length (ints (x :: l))) (hm : (x :: l).length ≤ 100000) (h0 : most ≤ ((x :: l).length : Int)) :
    CallsH Tryz.prog 67 ⟨[v, In most]⟩ h fun u h' => RoomY h x u h' := by
  obtain ⟨A, c, rfl, _⟩ := id hr
  obtain ⟨bL, oL, hA, hbL, hat⟩ := Rd.at_ hr (by simp)
  have hc := hat.get (p := oL + 0 * 1) (v := In x) 0 rfl (by omega)
  have hpos : 0 < (x :: l).length := by simp
  refine calls [(0, _), (1, _)] Tryz.func67 rfl Tryz.ntmps67 rfl ⟨rfl, rfl, trivial⟩ ?_
  all_goals (refine WC.sr ?_; refine Go ?_; refine WC.seq ?_; refine WC.sr ?_; refine Go ?_; refine goP 11 ?_ TT.mk; refine Gg ?_; refine Go ?_; refine Gs [(0, _), (15, _)] ?_; refine goC 1 2 ?_ TT.mk; refine goB 2 ?_; refine WC.skip ?_; refine Gn ?_; refine WC.sr ?_; refine Go ?_; refine WL.step (ok_idxAddrA Tryz.underlying24 (fun w => Tryz.sizeOf3 w) rfl rfl rfl (by first | omega | (simp <;> omega)) (by first | rfl | assumption) (k := 0)) rfl rfl rfl ?_; refine Ld ?_; refine WL.step (ok_buildF (vs := [_, _]) (cs := [_, _]) (fun | [a0, a1] => [a0, a1] | _ => []) rfl rfl (by kernel_rfl)) rfl rfl rfl ?_; refine WL.stepR (okE_buildSlice (vs := [_]) (cs := [_, _]) (fun | [.agg ⟨[a0, a1]⟩] => [a0, a1] | _ => []) Tryz.underlying41 rfl rfl (by kernel_rfl)) rfl rfl rfl ?_; rintro _ h1 ⟨b1, rfl, hg1, hb1, hx1⟩; refine WL.step (ok_buildF (vs := [_, _, _]) (cs := [_, _, _, _, _, _, _, _]) (fun | [a0, a1, a6] => [a0, a1, (St []), (St []), (.slice none 0 0), (.slice none 0 0), a6, (.slice none 0 0)] | _ => []) rfl rfl (by kernel_rfl)) rfl rfl rfl ?_; refine WL.stepR (okE_alloc (fun w => Tryz.zeroValue44 w)) rfl rfl rfl ?_; rintro _ h2 ⟨b2, rfl, hg2, hb2, hx2⟩; refine WL.stepR0 (okE_storeW (fun w => Tryz.sizeOf44 w) rfl rfl rfl (by assumption) rfl (by simp [Value.oneCell'])) rfl rfl ?_; rintro _ h3 ⟨hb3, hx3⟩; have hX3 := hx1.trans (hx2.trans' hx3 (fun q hq e => by omega)); have hb1' := hx3.obj (hx2.obj hb1 nos) (fun e => by have := lt_of_some hb1; omega); have hc' := hX3.cell hc nos; have hE := Ext.refl No h3; refine Gn ?_; refine Gs [(0, _), (6, _)] ?_; refine WC.seq ?_; refine WC.drawH (fun h' => Ext No h3 h') 10 10 rfl fol ?_; refine WH.tk 0 rfl (fun hq hC => ok_move rfl) rfl rfl rfl ?_; refine WH.tk 1 rfl (fun hq hC => ok_idxAddrA Tryz.underlying24 (fun w => Tryz.sizeOf3 w) rfl rfl rfl (by first | omega | (simp <;> omega)) (by first | rfl | assumption) (k := 0)) rfl rfl rfl ?_; refine WH.tk 2 rfl (fun hq hC => ok_load (fun w => Tryz.isAgg3 w) rfl (by first | exact hC.cell (by first | assumption | assumption | exact cell_blk (by assumption) rfl) nos)) rfl rfl rfl ?_; refine WH.tk 6 rfl (fun hq hC => ok_loadN (fun w => Tryz.isAgg44 w) (fun w => Tryz.sizeOf44 w) rfl rfl (by exact ((At.of_block hb3).ext hC nos))) rfl rfl rfl ?_; refine WH.two 3 7 (by kernel_rfl) (Br.out (i := 5009) ?_) (Br.out (i := 5010) ?_))
  all_goals (first | (fail_if_success refine goB 5009 ?_) | (
  refine goB 5009 ?_
  all_goals (refine Comes1.call (vs := [_]) rfl rfl (fun a w => Tryz.call68 a w) rfl (srv_ref (h := _) x) rfl rfl rfl ?_ (fun _ => by kernel_rfl); rintro _ hz ⟨rfl, _⟩; subst hz; refine ⟨fun _ => hE, ?_⟩; refine WH.two 4 7 (by kernel_rfl) (Br.out (i := 5009) ?_) (Br.out (i := 5010) ?_))
  all_goals (first | (fail_if_success refine goB 5009 ?_) | (
  refine goB 5009 ?_
  all_goals (refine Comes1.call (vs := [_]) rfl rfl (fun a w => Tryz.call97 a w) rfl (close_ref (srvL x)) rfl rfl rfl ?_ (fun _ => by kernel_rfl); rintro _ h5 ⟨rfl, hx5⟩; refine ⟨fun _ => hE.trans hx5, ?_⟩; have hE := hE.trans hx5; try have hb7 := hx5.obj hb7 nos)
  all_goals (refine WH.two 5 7 (by kernel_rfl) (Br.out (i := 5009) ?_) (Br.out (i := 5010) ?_))
  all_goals (first | (fail_if_success refine goB 5009 ?_) | (
  refine goB 5009 ?_
  all_goals (refine Comes1.run rfl (okE_buildSlice (vs := [_]) (cs := [_, _, _, _, _, _, _, _, _, _]) (fun | [.agg ⟨[a0, a1, a2, a3, a4, a5, a6, a7, a8, a9]⟩] => [a0, a1, a2, a3, a4, a5, a6, a7, a8, a9] | _ => []) Tryz.underlying36 rfl rfl (by kernel_rfl)) rfl rfl rfl ?_ (fun _ => by kernel_rfl); rintro _ h6 ⟨b6, rfl, hg6, hb6, hx6⟩; refine ⟨fun _ => hE.trans hx6, ?_⟩; have hE := hE.trans hx6; try have hb7 := hx6.obj hb7 nos)
  all_goals (refine WH.tk 8 rfl (fun hq hC => ok_assign rfl) rfl rfl rfl ?_; refine WH.one 7 (by kernel_rfl) ?_; refine Comes1.run rfl (okE_buildSlice (vs := [_]) (cs := [_, _, _, _, _, _, _, _]) (fun | [.agg ⟨[a0, a1, a2, a3, a4, a5, a6, a7]⟩] => [a0, a1, a2, a3, a4, a5, a6, a7] | _ => []) Tryz.underlying37 rfl rfl (by kernel_rfl)) rfl rfl rfl ?_ (fun _ => by kernel_rfl); rintro _ h7 ⟨b7, rfl, hg7, hb7, hx7⟩; refine ⟨fun _ => hE.trans hx7, ?_⟩; have hE := hE.trans hx7; try have hb6 := hx7.obj hb6 nos)
  all_goals (refine WH.tk 9 rfl (fun hq hC => ok_assign rfl) rfl rfl rfl ?_; refine WH.done (by kernel_rfl) ?_)
  skip))
  all_goals (first | (fail_if_success refine goB 5010 ?_) | (
  refine goB 5010 ?_
  all_goals (refine Comes1.run rfl (okE_buildSlice (vs := [_]) (cs := [_, _, _, _, _, _, _, _]) (fun | [.agg ⟨[a0, a1, a2, a3, a4, a5, a6, a7]⟩] => [a0, a1, a2, a3, a4, a5, a6, a7] | _ => []) Tryz.underlying37 rfl rfl (by kernel_rfl)) rfl rfl rfl ?_ (fun _ => by kernel_rfl); rintro _ h7 ⟨b7, rfl, hg7, hb7, hx7⟩; refine ⟨fun _ => hE.trans hx7, ?_⟩; have hE := hE.trans hx7; try have hb6 := hx7.obj hb6 nos)
  all_goals (refine WH.one 5 (by kernel_rfl) ?_; refine Comes1.run rfl (okE_buildSlice (vs := [_]) (cs := [_, _, _, _, _, _, _, _, _, _]) (fun | [.agg ⟨[a0, a1, a2, a3, a4, a5, a6, a7, a8, a9]⟩] => [a0, a1, a2, a3, a4, a5, a6, a7, a8, a9] | _ => []) Tryz.underlying36 rfl rfl (by kernel_rfl)) rfl rfl rfl ?_ (fun _ => by kernel_rfl); rintro _ h6 ⟨b6, rfl, hg6, hb6, hx6⟩; refine ⟨fun _ => hE.trans hx6, ?_⟩; have hE := hE.trans hx6; try have hb7 := hx6.obj hb7 nos)
  all_goals (refine WH.tk 8 rfl (fun hq hC => ok_assign rfl) rfl rfl rfl ?_; refine WH.tk 9 rfl (fun hq hC => ok_assign rfl) rfl rfl rfl ?_; refine WH.done (by kernel_rfl) ?_)
  skip))
  skip))
  all_goals (first | (fail_if_success refine goB 5010 ?_) | (
  refine goB 5010 ?_
  all_goals (refine Comes1.run rfl (okE_buildSlice (vs := [_]) (cs := [_, _, _, _, _, _, _, _]) (fun | [.agg ⟨[a0, a1, a2, a3, a4, a5, a6, a7]⟩] => [a0, a1, a2, a3, a4, a5, a6, a7] | _ => []) Tryz.underlying37 rfl rfl (by kernel_rfl)) rfl rfl rfl ?_ (fun _ => by kernel_rfl); rintro _ h7 ⟨b7, rfl, hg7, hb7, hx7⟩; refine ⟨fun _ => hE.trans hx7, ?_⟩; have hE := hE.trans hx7; try have hb6 := hx7.obj hb6 nos)
  all_goals (refine WH.one 4 (by kernel_rfl) ?_; refine Comes1.call (vs := [_]) rfl rfl (fun a w => Tryz.call97 a w) rfl (close_ref (srvL x)) rfl rfl rfl ?_ (fun _ => by kernel_rfl); rintro _ h5 ⟨rfl, hx5⟩; refine ⟨fun _ => hE.trans hx5, ?_⟩; have hE := hE.trans hx5; try have hb7 := hx5.obj hb7 nos)
  all_goals (refine WH.one 5 (by kernel_rfl) ?_; refine Comes1.run rfl (okE_buildSlice (vs := [_]) (cs := [_, _, _, _, _, _, _, _, _, _]) (fun | [.agg ⟨[a0, a1, a2, a3, a4, a5, a6, a7, a8, a9]⟩] => [a0, a1, a2, a3, a4, a5, a6, a7, a8, a9] | _ => []) Tryz.underlying36 rfl rfl (by kernel_rfl)) rfl rfl rfl ?_ (fun _ => by kernel_rfl); rintro _ h6 ⟨b6, rfl, hg6, hb6, hx6⟩; refine ⟨fun _ => hE.trans hx6, ?_⟩; have hE := hE.trans hx6; try have hb7 := hx6.obj hb7 nos)
  all_goals (refine WH.tk 8 rfl (fun hq hC => ok_assign rfl) rfl rfl rfl ?_; refine WH.tk 9 rfl (fun hq hC => ok_assign rfl) rfl rfl rfl ?_; refine WH.done (by kernel_rfl) ?_)
  skip))
  skip))
  all_goals (first | (fail_if_success refine goB 5010 ?_) | (
  refine goB 5010 ?_
  all_goals (refine Comes1.run rfl (okE_buildSlice (vs := [_]) (cs := [_, _, _, _, _, _, _, _]) (fun | [.agg ⟨[a0, a1, a2, a3, a4, a5, a6, a7]⟩] => [a0, a1, a2, a3, a4, a5, a6, a7] | _ => []) Tryz.underlying37 rfl rfl (by kernel_rfl)) rfl rfl rfl ?_ (fun _ => by kernel_rfl); rintro _ h7 ⟨b7, rfl, hg7, hb7, hx7⟩; refine ⟨fun _ => hE.trans hx7, ?_⟩; have hE := hE.trans hx7; try have hb6 := hx7.obj hb6 nos)
  all_goals (refine WH.one 3 (by kernel_rfl) ?_; refine Comes1.call (vs := [_]) rfl rfl (fun a w => Tryz.call68 a w) rfl (srv_ref (h := _) x) rfl rfl rfl ?_ (fun _ => by kernel_rfl); rintro _ hz ⟨rfl, _⟩; subst hz; refine ⟨fun _ => hE, ?_⟩; refine WH.one 4 (by kernel_rfl) ?_; refine Comes1.call (vs := [_]) rfl rfl (fun a w => Tryz.call97 a w) rfl (close_ref (srvL x)) rfl rfl rfl ?_ (fun _ => by kernel_rfl); rintro _ h5 ⟨rfl, hx5⟩; refine ⟨fun _ => hE.trans hx5, ?_⟩; have hE := hE.trans hx5; try have hb7 := hx5.obj hb7 nos)
  all_goals (refine WH.one 5 (by kernel_rfl) ?_; refine Comes1.run rfl (okE_buildSlice (vs := [_]) (cs := [_, _, _, _, _, _, _, _, _, _]) (fun | [.agg ⟨[a0, a1, a2, a3, a4, a5, a6, a7, a8, a9]⟩] => [a0, a1, a2, a3, a4, a5, a6, a7, a8, a9] | _ => []) Tryz.underlying36 rfl rfl (by kernel_rfl)) rfl rfl rfl ?_ (fun _ => by kernel_rfl); rintro _ h6 ⟨b6, rfl, hg6, hb6, hx6⟩; refine ⟨fun _ => hE.trans hx6, ?_⟩; have hE := hE.trans hx6; try have hb7 := hx6.obj hb7 nos)
  all_goals (refine WH.tk 8 rfl (fun hq hC => ok_assign rfl) rfl rfl rfl ?_; refine WH.tk 9 rfl (fun hq hC => ok_assign rfl) rfl rfl rfl ?_; refine WH.done (by kernel_rfl) ?_)
  skip))
  all_goals (refine Gn ?_; refine Gs [(4, _), (5, _)] ?_; refine Gt ?_)
  all_goals (have s3 := hX3.size
             have s5 := hx5.size
             have g5 : h3.size ≤ b6 := by first | omega | (have := hx7.size; omega)
             have g7 : h3.size ≤ b7 := by first | omega | (have := hx6.size; omega) | (have := hx6.size; have := hx5.size; omega)
             exact ⟨b1, _, _, rfl, own_blk hb6 rfl (by simp [maxLen]), own_blk hb7 rfl (by simp [maxLen]), hE.obj hb1' nos, hX3.trans hE, fun k hk => by simp [Value.ownBlock] at hk; omega, fun k hk => by simp [Value.ownBlock] at hk; omega⟩)

/-! ### Ready -/
def closeP (n : List UInt8) : Int × Int × List UInt8 × List UInt8 × List UInt8 × List Int × List Int × List Int × List (Bool × List UInt8) × Int := (67, 83, n, [], [], [], [], [], [], 0)
def parseP (n t : List UInt8) (l : List Int) : Int × Int × List UInt8 × List UInt8 × List UInt8 × List Int × List Int × List Int × List (Bool × List UInt8) × Int := (80, 0, n, [], t, l, [], [], [], 0)
def hideP (k a id : Int) : Int × Bool × List UInt8 × List UInt8 × List TOp × List TOp × List COp × List UInt8 := (k, true, [], [], [], [], [(a, id, ())], [])
def roomF (spec : List Int) (most : Int) := match spec with
  | [] => []
  | x :: _ => if (spec.length : Int) < most then [] else [closeP (srvL x)]
def roomE (spec : List Int) (most : Int) := match spec with
  | [] => []
  | x :: _ => if (spec.length : Int) < most then [] else [hideP 7 2 x]
def readyF (spec : List Int) (most id : Int) (t : List UInt8) (l : List Int) := if id ∈ spec then [] else roomF spec most ++ [parseP (srvL id) t l]
def readyE (spec : List Int) (most id : Int) := if id ∈ spec then [] else roomE spec most ++ [hideP 2 1 id]
/-- What is told, and what is to come. -/
def Told (F : List (Int × Int × List UInt8 × List UInt8 × List UInt8 × List Int × List Int × List Int × List (Bool × List UInt8) × Int)) (E : List (Int × Bool × List UInt8 × List UInt8 × List TOp × List TOp × List COp × List UInt8)) (h : Heap) (u : Value) (h' : Heap) : Prop :=
  ∃ vF vE L M, u = .tuple ⟨[vF, vE]⟩ ∧ Fms h' vF L ∧ Ens h' vE M ∧ L.map Fm.pl = F ∧ M.map En.pl = E ∧ Ext No h h'
def clM (n : List UInt8) : Fm := ⟨67, 83, n, [], [], .slice none 0 0, [], .slice none 0 0, [], .slice none 0 0, [], .slice none 0 0, [], 0⟩
def paM (n t : List UInt8) (v : Value) (l : List Int) : Fm := ⟨80, 0, n, [], t, v, l, .slice none 0 0, [], .slice none 0 0, [], .slice none 0 0, [], 0⟩
def hiM (k a id : Int) (b : Nat) : En := ⟨k, true, [], [], .slice none 0 0, [], .slice none 0 0, [], .slice (some ⟨b, 0, none⟩) 1 1, [(a, id, ())], .slice none 0 0, []⟩
theorem clM_ok (h : Heap) (n : List UInt8) : (clM n).ok h := ⟨⟨Rd.nil _ _, by simp [clM, maxLen]⟩, ⟨Rd.nil _ _, by simp [clM, maxLen]⟩, ⟨Rd.nil _ _, by simp [clM, maxLen]⟩, ⟨Rd.nil _ _, ⟨by simp [clM], _, _, rfl, by decide⟩, by simp [clM]⟩⟩
theorem paM_ok {h : Heap} (n t : List UInt8) {v : Value} {l : List Int} (hr : Rd h v 1 l.length (ints l)) (hm : l.length ≤ 100000) : (paM n t v l).ok h := ⟨⟨hr, by show l.length ≤ maxLen; unfold maxLen; omega⟩, ⟨Rd.nil _ _, by simp [paM, maxLen]⟩, ⟨Rd.nil _ _, by simp [paM, maxLen]⟩, ⟨Rd.nil _ _, ⟨by simp [paM], _, _, rfl, by decide⟩, by simp [paM]⟩⟩
theorem hiM_ok {h : Heap} (k : Int) {a id : Int} {b : Nat} (hb : h[b]? = some (.cells ⟨[In a, In id]⟩ 129 (0, 0))) : (hiM k a id b).ok h := ⟨⟨Rd.nil _ _, by simp [hiM, maxLen]⟩, ⟨Rd.nil _ _, by simp [hiM, maxLen]⟩, one_op hb, ⟨Rd.nil _ _, by simp [hiM, reachBytes]⟩⟩
end Go.Proofs.YtggmocdbfbhklaaGreat


/-
  INJECT (layer 19): Ready, and awake.
-/
namespace Go.Proofs.YtggmocdbfbhklaaGreat
open Go Go.RK

theorem own_apart {h : Heap} {v v' : Value} {e e' : TypeId} {sz n sz' n' : Nat} {xs xs' : List Value} (ho : Own h v e sz n xs) (ho' : Own h v' e' sz' n' xs') (he : e' ≠ e) : ∀ q, v'.ownBlock = some q → v.ownBlock ≠ some q := by
  intro q hq
  obtain ⟨_, ⟨rfl, _⟩ | ⟨g, cap, cur, rfl, hg, _⟩⟩ := ho'
  · cases hq
  · simp only [Value.ownBlock, Option.some.injEq] at hq
    subst hq
    exact own_ne ho (cs := cur.toList) hg he
/-- What Room has told, so that one may go on behind it. -/
def RoomG (spec : List Int) (most : Int) (h : Heap) (u : Value) (h' : Heap) : Prop := ∃ vF vE, ∃ (L : List Fm) (M : List En), u = .tuple ⟨[vF, vE]⟩ ∧ Own h' vF 27 10 L.length (L.flatMap Fm.cells) ∧ Own h' vE 44 8 M.length (M.flatMap En.cells) ∧ L.length ≤ 1 ∧ M.length ≤ 1 ∧ (∀ f ∈ L, ∀ h, f.ok h) ∧ (∀ e ∈ M, ∃ k a id b, e = hiM k a id b ∧ h'[b]? = some (.cells ⟨[In a, In id]⟩ 129 (0, 0))) ∧ L.map Fm.pl = roomF spec most ∧ M.map En.pl = roomE spec most ∧ Ext No h h' ∧ (∀ k, vF.ownBlock = some k → h.size ≤ k) ∧ (∀ k, vE.ownBlock = some k → h.size ≤ k)
theorem roomG_no {h : Heap} {spec : List Int} {most : Int} (h0 : spec.length = 0 ∨ (spec.length : Int) < most) : RoomG spec most h (.tuple ⟨[.slice none 0 0, .slice none 0 0]⟩) h := by
  have e1 : roomF spec most = [] := by
    cases spec with
    | nil => rfl
    | cons x l => exact if_pos (by simpa using h0)
  have e2 : roomE spec most = [] := by
    cases spec with
    | nil => rfl
    | cons x l => exact if_pos (by simpa using h0)
  unfold RoomG
  rw [e1, e2]
  exact ⟨_, _, [], [], rfl, Own.nil _ _ _, Own.nil _ _ _, by simp, by simp, by simp, by simp, rfl, rfl, .refl _ _, by simp [Value.ownBlock], by simp [Value.ownBlock]⟩
theorem roomG_yes {h h' : Heap} {u : Value} {x : Int} {l : List Int} {most : Int} (h0 : most ≤ ((x :: l).length : Int)) (r : RoomY h x u h') : RoomG (x :: l) most h u h' := by
  obtain ⟨bo, vF, vE, rfl, hF, hE, hb, hx, f1, f2⟩ := r
  have e1 : roomF (x :: l) most = [closeP (srvL x)] := if_neg (by omega)
  have e2 : roomE (x :: l) most = [hideP 7 2 x] := if_neg (by omega)
  unfold RoomG
  rw [e1, e2]
  exact ⟨_, _, [clM (srvL x)], [hiM 7 2 x bo], rfl, hF, hE, by simp, by simp, fun f hf h => by obtain rfl := List.mem_singleton.1 hf; exact clM_ok _ _, fun e he => by obtain rfl := List.mem_singleton.1 he; exact ⟨_, _, _, _, rfl, hb⟩, rfl, rfl, hx, f1, f2⟩
theorem room_any {h : Heap} {v : Value} (spec : List Int) (most : Int) (hr : Rd h v 1 spec.length (ints spec)) (hm : spec.length ≤ 100000) :
    CallsH Tryz.prog 89 ⟨[v, In most]⟩ h fun u h' => RoomG spec most h u h' := by
  by_cases h0 : spec.length = 0 ∨ (spec.length : Int) < most
  · exact (room_no spec most hr hm h0).mono fun u h' ⟨e1, e2⟩ => by rw [e1, e2]; exact roomG_no h0
  · cases spec with
    | nil => exact absurd (.inl rfl) h0
    | cons x l => exact (room_yes x l most hr hm (by omega)).mono fun u h' r => roomG_yes (by omega) r
theorem room_any_ref {h : Heap} {v : Value} (spec : List Int) (most : Int) (hr : Rd h v 1 spec.length (ints spec)) (hm : spec.length ≤ 100000) :
    CallsH Tryz.prog 67 ⟨[v, In most]⟩ h fun u h' => RoomG spec most h u h' := by
  by_cases h0 : spec.length = 0 ∨ (spec.length : Int) < most
  · exact (room_no_ref spec most hr hm h0).mono fun u h' ⟨e1, e2⟩ => by rw [e1, e2]; exact roomG_no h0
  · cases spec with
    | nil => exact absurd (.inl rfl) h0
    | cons x l => exact (room_yes_ref x l most hr hm (by omega)).mono fun u h' r => roomG_yes (by omega) r
/-- A message that is made here: its types, if it has any, are a row of its own. -/
def FG (h : Heap) (f : Fm) : Prop := (∀ h, f.ok h) ∨ ∃ n t v l, f = paM n t v l ∧ Own h v 3 1 l.length (ints l) ∧ l.length ≤ 100000
theorem FG.ok {h : Heap} {f : Fm} (k : FG h f) : f.ok h := by
  rcases k with k | ⟨n, t, v, l, rfl, ho, hl⟩
  · exact k h
  · exact paM_ok _ _ ho.rd hl
def ReadyG (spec : List Int) (most id : Int) (t : List UInt8) (l : List Int) (h : Heap) (u : Value) (h' : Heap) : Prop := ∃ vF vE, ∃ (L : List Fm) (M : List En), u = .tuple ⟨[vF, vE]⟩ ∧ Own h' vF 27 10 L.length (L.flatMap Fm.cells) ∧ Own h' vE 44 8 M.length (M.flatMap En.cells) ∧ L.length ≤ 2 ∧ M.length ≤ 2 ∧ (∀ f ∈ L, FG h' f) ∧ (∀ e ∈ M, ∃ k a id b, e = hiM k a id b ∧ h'[b]? = some (.cells ⟨[In a, In id]⟩ 129 (0, 0))) ∧ L.map Fm.pl = readyF spec most id t l ∧ M.map En.pl = readyE spec most id ∧ Ext No h h' ∧ (∀ k, vF.ownBlock = some k → h.size ≤ k) ∧ (∀ k, vE.ownBlock = some k → h.size ≤ k)
/-- Behind Room: one more of each. -/
theorem told_ready {spec : List Int} {most id : Int} {h h' : Heap} {vF vE : Value} {L : List Fm} {M : List En} {t : List UInt8} {l : List Int} {v : Value} {b : Nat} (hin : id ∉ spec)
    (hF : Own h' vF 27 10 (L.length + 1) (L.flatMap Fm.cells ++ paC (srvL id) t v)) (hE : Own h' vE 44 8 (M.length + 1) (M.flatMap En.cells ++ hiC 2 (.slice (some ⟨b, 0, none⟩) 1 1))) (hl : L.length ≤ 1) (hm : M.length ≤ 1) (f1 : ∀ f ∈ L, ∀ h, f.ok h) (f2 : ∀ e ∈ M, ∃ k a id b, e = hiM k a id b ∧ h'[b]? = some (.cells ⟨[In a, In id]⟩ 129 (0, 0)))
    (hv : Own h' v 3 1 l.length (ints l)) (hlm : l.length ≤ 100000) (hb : h'[b]? = some (.cells ⟨[In 1, In id]⟩ 129 (0, 0))) (p1 : L.map Fm.pl = roomF spec most) (p2 : M.map En.pl = roomE spec most) (hx : Ext No h h')
    (fF : ∀ k, vF.ownBlock = some k → h.size ≤ k) (fE : ∀ k, vE.ownBlock = some k → h.size ≤ k) : ReadyG spec most id t l h (.tuple ⟨[vF, vE]⟩) h' := by
  refine ⟨vF, vE, L ++ [paM (srvL id) t v l], M ++ [hiM 2 1 id b], rfl, ?_, ?_, by simp; omega, by simp; omega, ?_, ?_, by simp [readyF, hin, p1, paM, Fm.pl, parseP], by simp [readyE, hin, p2, hiM, En.pl, hideP], hx, fF, fE⟩
  · rw [List.length_append, List.flatMap_append]; exact hF
  · rw [List.length_append, List.flatMap_append]; exact hE
  · intro f hf
    rcases List.mem_append.1 hf with hf | hf
    · exact .inl (f1 f hf)
    · obtain rfl := List.mem_singleton.1 hf; exact .inr ⟨_, _, _, _, rfl, hv, hlm⟩
  · intro f hf
    rcases List.mem_append.1 hf with hf | hf
    · exact f2 f hf
    · obtain rfl := List.mem_singleton.1 hf; exact ⟨_, _, _, _, rfl, hb⟩
theorem told_none {spec : List Int} {most id : Int} {h h' : Heap} {t : List UInt8} {l : List Int} (hin : id ∈ spec) (hx : Ext No h h') : ReadyG spec most id t l h (.tuple ⟨[.slice none 0 0, .slice none 0 0]⟩) h' :=
  ⟨_, _, [], [], rfl, Own.nil _ _ _, Own.nil _ _ _, by simp, by simp, by simp, by simp, by simp [readyF, hin], by simp [readyE, hin], hx, by simp [Value.ownBlock], by simp [Value.ownBlock]⟩
set_option maxHeartbeats 2000000 in
set_option maxRecDepth 100000 in
theorem ready_G {h : Heap} {v w : Value} (spec : List Int) (most id : Int) (t : List UInt8) (l : List Int) (hr : Rd h v 1 spec.length (ints spec)) (hm : spec.length ≤ 100000) (hl : Rd h w 1 l.length (ints l)) (hlm : l.length ≤ 100000) :
    CallsH Tryz.prog 93 ⟨[v, In most, In id, .agg ⟨[St t, w]⟩]⟩ h fun u h' => ReadyG spec most id t l h u h' := by
  obtain ⟨A, c, rfl, _⟩ := _root_.id hr
  obtain ⟨B, d, rfl, _⟩ := _root_.id hl
  by_cases hin : id ∈ spec
  · have hd : decide (id ∈ spec) = true := by simp [hin]
    refine calls [(0, _), (1, _), (2, _), (3, _)] Tryz.func93 rfl Tryz.ntmps93 rfl ⟨rfl, rfl, rfl, rfl, trivial⟩ ?_
    all_goals (refine WC.sr ?_; refine WL.stepR (okE_box rfl) rfl rfl rfl ?_; rintro _ h1 ⟨b1, rfl, hg1, hb1, hx1⟩; refine Go ?_; refine WC.seq ?_; refine WC.sr ?_; refine Go ?_; refine WL.call (vs := [_, _]) rfl (fun a w => Tryz.call85 a w) rfl ((contains_int spec id (hr.ext0 hx1) (by unfold maxLen; omega)).as (congrArg Value.bool hd)) rfl rfl rfl ?_; rintro _ hz ⟨rfl, _⟩; subst hz; refine Gn ?_; refine Gs [(0, _), (1, _), (2, _), (7, _), (14, _)] ?_; refine goC 1 2 ?_ TT.mk; refine goB 1 ?_; refine WC.sr ?_; refine Go ?_; refine Gs [(8, _), (9, _)] ?_; refine Gt ?_; exact told_none hin hx1)
  · have hd : decide (id ∈ spec) = false := by simp [hin]
    refine calls [(0, _), (1, _), (2, _), (3, _)] Tryz.func93 rfl Tryz.ntmps93 rfl ⟨rfl, rfl, rfl, rfl, trivial⟩ ?_
    all_goals (refine WC.sr ?_; refine WL.stepR (okE_box rfl) rfl rfl rfl ?_; rintro _ h1 ⟨b1, rfl, hg1, hb1, hx1⟩; refine Go ?_; refine WC.seq ?_; refine WC.sr ?_; refine Go ?_; refine WL.call (vs := [_, _]) rfl (fun a w => Tryz.call85 a w) rfl ((contains_int spec id (hr.ext0 hx1) (by unfold maxLen; omega)).as (congrArg Value.bool hd)) rfl rfl rfl ?_; rintro _ hz ⟨rfl, _⟩; subst hz; refine Gn ?_; refine Gs [(0, _), (1, _), (2, _), (7, _), (14, _)] ?_; refine goC 1 2 ?_ TT.mk; refine goB 2 ?_; refine WC.skip ?_; refine Gn ?_; refine WC.sr ?_; refine Go ?_; refine WL.call (vs := [_, _]) rfl (fun a w => Tryz.call89 a w) rfl (room_any spec most (hr.ext0 hx1) hm) rfl rfl rfl ?_; rintro _ h2 ⟨vF, vE, L, M, rfl, hoF, hoE, hL1, hM1, f1, f2, p1, p2, hx2, fF, fE⟩; have hX2 := hx1.trans hx2; have hb2 := hx2.obj hb1 nos; have s1 := lt_of_some hb1; (have nF : ¬ vF.ownBlock = some b1 := fun e => by have := fF b1 e; omega); refine Go ?_; refine Gs [(2, _), (7, _), (10, _), (11, _)] ?_; refine WC.seq ?_; refine WC.drawH (fun h' => Ext (fun q => vF.ownBlock = some q) h2 h') 8 8 rfl fol ?_; refine WH.tk 0 rfl (fun hq hC => ok_move rfl) rfl rfl rfl ?_; refine WH.tk 1 rfl (fun hq hC => ok_move rfl) rfl rfl rfl ?_; refine WH.tk 3 rfl (fun hq hC => ok_loadN (fun w => Tryz.isAgg63 w) (fun w => Tryz.sizeOf63 w) rfl rfl (by exact ((At.of_block hb2).ext hC nF))) rfl rfl rfl ?_; refine WH.one 2 (by kernel_rfl) ?_; refine Comes1.call (vs := [_]) rfl rfl (fun a w => Tryz.call90 a w) rfl (srv_any id) rfl rfl rfl ?_ (fun _ => by kernel_rfl); rintro _ h4 ⟨rfl, hx4⟩; refine ⟨fun _ => hx4.mono fun _ _ e => e.elim, ?_⟩; refine WH.one 4 (by kernel_rfl) ?_; refine Comes1.call (vs := [_, _]) rfl rfl (fun a w => Tryz.call116 a w) rfl (parse_inj (srvL id) t l ((hl.ext0 hX2).ext0 hx4) hlm) rfl rfl rfl ?_ (fun _ => by kernel_rfl); rintro _ h5 ⟨v5, rfl, ho5, hx5, hf5⟩; refine ⟨fun _ => (hx4.trans hx5).mono fun _ _ e => e.elim, ?_⟩; have hX5 := hx4.trans hx5; obtain ⟨A5, c5, rfl, _⟩ := ho5.slice; refine WH.one 5 (by kernel_rfl) ?_; refine Comes1.run rfl (okE_buildSlice (vs := [_]) (cs := [_, _, _, _, _, _, _, _, _, _]) (fun | [.agg ⟨[a0, a1, a2, a3, a4, a5, a6, a7, a8, a9]⟩] => [a0, a1, a2, a3, a4, a5, a6, a7, a8, a9] | _ => []) Tryz.underlying36 rfl rfl (by kernel_rfl)) rfl rfl rfl ?_ (fun _ => by kernel_rfl); rintro _ h6 ⟨b6, rfl, hg6, hb6, hx6⟩; refine ⟨fun _ => (hX5.trans hx6).mono fun _ _ e => e.elim, ?_⟩; have hX6 := hX5.trans hx6; have hoF6 := hoF.ext hX6 (fun _ _ => nos); have hoE6 := hoE.ext hX6 (fun _ _ => nos); have ho6 := ho5.ext hx6 (fun _ _ => nos); refine WH.one 6 (by kernel_rfl) ?_; refine Comes1.run rfl (ok_append (sz := 10) (bytes := 160) rfl Tryz.underlying36 (show Tryz.prog.info? 27 = some Tryz.t27 by kernel_rfl) rfl rfl rfl rfl (by decide) rfl rfl hoF6 (rd_blk hb6 rfl) (by simp [Value.oneCell']) (by simp only [maxLen]; omega) (by omega)) rfl rfl rfl ?_ (fun _ => by kernel_rfl); rintro v7 h7 ⟨hoF7, hx7, hl7⟩; refine ⟨fun _ => (hX6.mono fun _ _ e => e.elim).trans hx7, ?_⟩)
    all_goals (have hXF7 : Ext (fun q => vF.ownBlock = some q) h2 h7 := (hX6.mono fun _ _ e => e.elim).trans hx7
               have hoE7 := hoE6.ext hx7 (fun q hq e => own_apart hoF6 hoE6 (by decide) q hq e)
               have ho7 := ho6.ext hx7 (fun q hq e => own_apart hoF6 ho6 (by decide) q hq e)
               have f27 : ∀ e ∈ M, ∃ k a id b, e = hiM k a id b ∧ h7[b]? = some (.cells ⟨[In a, In id]⟩ 129 (0, 0)) := fun e he => by
                obtain ⟨k, a, i, b, e1, e2⟩ := f2 e he
                have e3 := hX6.obj e2 nos
                exact ⟨k, a, i, b, e1, hx7.obj e3 (fun q => own_ne hoF6 e3 (by decide) q)⟩)
    all_goals (refine WH.tk 7 rfl (fun hq hC => ok_assign rfl) rfl rfl rfl ?_; refine WH.done (by kernel_rfl) ?_; refine Gn ?_; refine Gs [(2, _), (10, _), (11, _)] ?_; refine WC.sr ?_; refine Go ?_; refine WL.step (ok_buildF (vs := [_, _]) (cs := [_, _]) (fun | [a0, a1] => [a0, a1] | _ => []) rfl rfl (by kernel_rfl)) rfl rfl rfl ?_; refine WL.stepR (okE_buildSlice (vs := [_]) (cs := [_, _]) (fun | [.agg ⟨[a0, a1]⟩] => [a0, a1] | _ => []) Tryz.underlying41 rfl rfl (by kernel_rfl)) rfl rfl rfl ?_; rintro _ h8 ⟨b8, rfl, hg8, hb8, hx8⟩; refine WL.call (vs := [_, _]) rfl (fun a w => Tryz.call114 a w) rfl (hidden_any 2 b8) rfl rfl rfl ?_; rintro _ h9 ⟨rfl, hx9⟩; refine WL.stepR (okE_buildSlice (vs := [_]) (cs := [_, _, _, _, _, _, _, _]) (fun | [.agg ⟨[a0, a1, a2, a3, a4, a5, a6, a7]⟩] => [a0, a1, a2, a3, a4, a5, a6, a7] | _ => []) Tryz.underlying37 rfl rfl (by kernel_rfl)) rfl rfl rfl ?_; rintro _ h10 ⟨b10, rfl, hg10, hb10, hx10⟩; have hX10 := (hx8.trans hx9).trans hx10; have hoE10 := hoE7.ext hX10 (fun _ _ => nos); have hoF10 := hoF7.ext hX10 (fun _ _ => nos); have ho10 := ho7.ext hX10 (fun _ _ => nos); have hb8' := (hx9.trans hx10).obj hb8 nos; refine WL.stepR (ok_append (sz := 8) (bytes := 144) rfl Tryz.underlying37 (show Tryz.prog.info? 44 = some Tryz.t44 by kernel_rfl) rfl rfl rfl rfl (by decide) rfl rfl hoE10 (rd_blk hb10 rfl) (by simp [Value.oneCell']) (by simp only [maxLen]; omega) (by omega)) rfl rfl rfl ?_; rintro v11 h11 ⟨hoE11, hx11, hl11⟩; refine Go ?_; refine Gs [(8, _), (9, _)] ?_; refine Gt ?_; have hXF : Ext No h h7 := (hX2.trans hX6).trans' hx7 (fun q hq e => by have := fF q e; have := hx1.size; omega); have hX11 : Ext No h h11 := (hXF.trans hX10).trans' hx11 (fun q hq e => by have := fE q e; have := hx1.size; omega); exact told_ready hin (hoF10.ext hx11 (fun q hq e => own_apart hoE10 hoF10 (by decide) q hq e)) hoE11 hL1 hM1 f1 (fun e he => by obtain ⟨k, a, i, b, e1, e2⟩ := f27 e he; have e3 := hX10.obj e2 nos; exact ⟨k, a, i, b, e1, hx11.obj e3 (fun q => own_ne hoE10 e3 (by decide) q)⟩) (ho10.ext hx11 (fun q hq e => own_apart hoE10 ho10 (by decide) q hq e)) hlm (hx11.obj hb8' (fun q => own_ne hoE10 hb8' (by decide) q)) p1 p2 hX11 (fresh_of hl7 (fun k hk => by have := fF k hk; have := hx1.size; omega) (by have := hX2.size; have := hX6.size; omega)) (fresh_of hl11 (fun k hk => by have := fE k hk; have := hx1.size; omega) (by have := hX2.size; have := hX6.size; have := hx7.size; have := hX10.size; omega)))
end Go.Proofs.YtggmocdbfbhklaaGreat


/-
  The document's Ready (layer 19); awake.
-/
namespace Go.Proofs.YtggmocdbfbhklaaGreat
open Go Go.RK

theorem f2_ext {M : List En} {h h' : Heap} {S : Nat → Prop} (f : ∀ e ∈ M, ∃ k a id b, e = hiM k a id b ∧ h[b]? = some (.cells ⟨[In a, In id]⟩ 129 (0, 0))) (x : Ext S h h') (hS : ∀ (b : Nat) (cs : List Value), h[b]? = some (.cells ⟨cs⟩ 129 (0, 0)) → ¬ S b) : ∀ e ∈ M, ∃ k a id b, e = hiM k a id b ∧ h'[b]? = some (.cells ⟨[In a, In id]⟩ 129 (0, 0)) := fun e he => by
  obtain ⟨k, a, i, b, e1, e2⟩ := f e he
  exact ⟨k, a, i, b, e1, x.obj e2 (hS b _ e2)⟩
set_option maxHeartbeats 4000000 in
set_option maxRecDepth 100000 in
theorem ready_refG {h : Heap} {v w : Value} (spec : List Int) (most id : Int) (t : List UInt8) (l : List Int) (hr : Rd h v 1 spec.length (ints spec)) (hm : spec.length ≤ 100000) (hl : Rd h w 1 l.length (ints l)) (hlm : l.length ≤ 100000) :
    CallsH Tryz.prog 70 ⟨[v, In most, In id, .agg ⟨[St t, w]⟩]⟩ h fun u h' => ReadyG spec most id t l h u h' := by
  obtain ⟨A, c, rfl, _⟩ := _root_.id hr
  obtain ⟨B, d, rfl, _⟩ := _root_.id hl
  by_cases hin : id ∈ spec
  · have hd : decide (id ∈ spec) = true := by simp [hin]
    refine calls [(0, _), (1, _), (2, _), (3, _)] Tryz.func70 rfl Tryz.ntmps70 rfl ⟨rfl, rfl, rfl, rfl, trivial⟩ ?_
    all_goals (refine WC.sr ?_; refine WL.stepR (okE_box rfl) rfl rfl rfl ?_; rintro _ h1 ⟨b1, rfl, hg1, hb1, hx1⟩; refine Go ?_; refine WC.seq ?_; refine WC.sr ?_; refine Go ?_; refine WL.call (vs := [_, _]) rfl (fun a w => Tryz.call66 a w) rfl ((has18 spec id (hr.ext0 hx1) (by unfold maxLen; omega)).as (congrArg Value.bool hd)) rfl rfl rfl ?_; rintro _ hz ⟨rfl, _⟩; subst hz; refine Gn ?_; refine Gs [(0, _), (1, _), (2, _), (7, _), (15, _)] ?_; refine goC 1 2 ?_ TT.mk; refine goB 1 ?_; refine WC.sr ?_; refine Go ?_; refine Gs [(8, _), (9, _)] ?_; refine Gt ?_; exact told_none hin hx1)
  · have hd : decide (id ∈ spec) = false := by simp [hin]
    refine calls [(0, _), (1, _), (2, _), (3, _)] Tryz.func70 rfl Tryz.ntmps70 rfl ⟨rfl, rfl, rfl, rfl, trivial⟩ ?_
    all_goals (refine WC.sr ?_; refine WL.stepR (okE_box rfl) rfl rfl rfl ?_; rintro _ h1 ⟨b1, rfl, hg1, hb1, hx1⟩; refine Go ?_; refine WC.seq ?_; refine WC.sr ?_; refine Go ?_; refine WL.call (vs := [_, _]) rfl (fun a w => Tryz.call66 a w) rfl ((has18 spec id (hr.ext0 hx1) (by unfold maxLen; omega)).as (congrArg Value.bool hd)) rfl rfl rfl ?_; rintro _ hz ⟨rfl, _⟩; subst hz; refine Gn ?_; refine Gs [(0, _), (1, _), (2, _), (7, _), (15, _)] ?_; refine goC 1 2 ?_ TT.mk; refine goB 2 ?_; refine WC.skip ?_; refine Gn ?_; refine WC.sr ?_; refine Go ?_; refine WL.call (vs := [_, _]) rfl (fun a w => Tryz.call67 a w) rfl (room_any_ref spec most (hr.ext0 hx1) hm) rfl rfl rfl ?_; rintro _ h2 ⟨vF, vE, L, M, rfl, hoF, hoE, hL1, hM1, f1, f2, p1, p2, hx2, fF, fE⟩; (have hltF : ∀ q, vF.ownBlock = some q → q < h2.size := fun q hq => hoF.lt hq); (have hltE : ∀ q, vE.ownBlock = some q → q < h2.size := fun q hq => hoE.lt hq); refine Go ?_; refine Gs [(2, _), (7, _), (10, _), (11, _)] ?_; refine WC.sr ?_; refine Go ?_; refine WL.step (ok_buildF (vs := [_, _]) (cs := [_, _]) (fun | [a0, a1] => [a0, a1] | _ => []) rfl rfl (by kernel_rfl)) rfl rfl rfl ?_; refine WL.stepR (okE_buildSlice (vs := [_]) (cs := [_, _]) (fun | [.agg ⟨[a0, a1]⟩] => [a0, a1] | _ => []) Tryz.underlying41 rfl rfl (by kernel_rfl)) rfl rfl rfl ?_; rintro _ h3 ⟨b3, rfl, hg3, hb3, hx3⟩; refine WL.step (ok_buildF (vs := [_, _, _]) (cs := [_, _, _, _, _, _, _, _]) (fun | [a0, a1, a6] => [a0, a1, (St []), (St []), (.slice none 0 0), (.slice none 0 0), a6, (.slice none 0 0)] | _ => []) rfl rfl (by kernel_rfl)) rfl rfl rfl ?_; refine WL.stepR (okE_alloc (fun w => Tryz.zeroValue44 w)) rfl rfl rfl ?_; rintro _ h4 ⟨b4, rfl, hg4, hb4, hx4⟩; refine WL.stepR0 (okE_storeW (fun w => Tryz.sizeOf44 w) rfl rfl rfl (by assumption) rfl (by simp [Value.oneCell'])) rfl rfl ?_; rintro _ h5 ⟨hb5, hx5⟩; have hx35 : Ext No h2 h5 := hx3.trans (hx4.trans' hx5 (fun q hq e => by omega)); have hbo := hx5.obj (hx4.obj hb3 nos) (fun e => by have := lt_of_some hb3; omega); have hX2 := (hx1.trans hx2).trans hx35; have hb2 := hx35.obj (hx2.obj hb1 nos) nos; have s1 := lt_of_some hb1; (have nF : ¬ vF.ownBlock = some b1 := fun e => by have := fF b1 e; omega); (have nE : ¬ vE.ownBlock = some b1 := fun e => by have := fE b1 e; omega); replace hoF := hoF.ext hx35 (fun _ _ => nos); replace hoE := hoE.ext hx35 (fun _ _ => nos); replace f2 := f2_ext f2 hx35 (fun _ _ _ => nos); (have n4 : ¬ vF.ownBlock = some b4 := fun e => by have := hltF b4 e; have := hx3.size; omega); (have n4E : ¬ vE.ownBlock = some b4 := fun e => by have := hltE b4 e; have := hx3.size; omega); have hE : Ext (fun q => vF.ownBlock = some q ∨ vE.ownBlock = some q) h5 h5 := .refl _ _; refine Gn ?_; refine Gs [(2, _), (7, _), (10, _), (11, _), (12, _)] ?_; refine WC.seq ?_; refine WC.drawH (fun h' => Ext (fun q => vF.ownBlock = some q ∨ vE.ownBlock = some q) h5 h') 13 13 rfl fol ?_; refine WH.tk 0 rfl (fun hq hC => ok_move rfl) rfl rfl rfl ?_; refine WH.tk 1 rfl (fun hq hC => ok_move rfl) rfl rfl rfl ?_; refine WH.tk 3 rfl (fun hq hC => ok_loadN (fun w => Tryz.isAgg63 w) (fun w => Tryz.sizeOf63 w) rfl rfl (by exact ((At.of_block hb2).ext hC (fun e => e.elim nF nE)))) rfl rfl rfl ?_)
    all_goals (refine WH.tk 7 rfl (fun hq hC => ok_move rfl) rfl rfl rfl ?_; refine WH.tk 8 rfl (fun hq hC => ok_loadN (fun w => Tryz.isAgg44 w) (fun w => Tryz.sizeOf44 w) rfl rfl (by exact ((At.of_block hb5).ext hC (fun e => e.elim n4 n4E)))) rfl rfl rfl ?_; refine WH.two 2 9 (by kernel_rfl) (Br.out (i := 5012) ?_) (Br.out (i := 5013) ?_))
    all_goals (first | (fail_if_success refine goB 5012 ?_) | (
    refine goB 5012 ?_
    all_goals (refine Comes1.call (vs := [_]) rfl rfl (fun a w => Tryz.call68 a w) rfl (srv_ref id) rfl rfl rfl ?_ (fun _ => by kernel_rfl); rintro _ hz ⟨rfl, _⟩; subst hz; refine ⟨fun _ => hE, ?_⟩; refine WH.two 4 9 (by kernel_rfl) (Br.out (i := 5012) ?_) (Br.out (i := 5013) ?_))
    all_goals (first | (fail_if_success refine goB 5012 ?_) | (
    refine goB 5012 ?_
    all_goals (have hlc := (hl.ext0 hX2).ext' hE (fun q hn hq e => by have h1' := hl.lt hn hq; have s2 := hx1.size; rcases e with e | e; have := fF q e; omega; have := fE q e; omega); refine Comes1.call (vs := [_, _]) rfl rfl (fun a w => Tryz.call99 a w) rfl (parse_inj_ref (srvL id) t l hlc hlm) rfl rfl rfl ?_ (fun _ => by kernel_rfl); rintro _ h6 ⟨v6, rfl, ho6, hx6, hf6⟩; refine ⟨fun _ => hE.trans (hx6.mono fun _ _ e => e.elim), ?_⟩)
    all_goals (replace hE := hE.trans (hx6.mono (S' := fun q => vF.ownBlock = some q ∨ vE.ownBlock = some q) fun _ _ e => e.elim)
               replace hoF := hoF.ext hx6 (fun _ _ => nos)
               replace hoE := hoE.ext hx6 (fun _ _ => nos)
               replace hbo := hx6.obj hbo nos
               replace f2 := f2_ext f2 hx6 (fun _ _ _ => nos)
               try replace hb9 := hx6.obj hb9 nos
               obtain ⟨A6, c6, rfl, _⟩ := ho6.slice)
    all_goals (refine WH.two 5 9 (by kernel_rfl) (Br.out (i := 5012) ?_) (Br.out (i := 5013) ?_))
    all_goals (first | (fail_if_success refine goB 5012 ?_) | (
    refine goB 5012 ?_
    all_goals (refine Comes1.run rfl (okE_buildSlice (vs := [_]) (cs := [_, _, _, _, _, _, _, _, _, _]) (fun | [.agg ⟨[a0, a1, a2, a3, a4, a5, a6, a7, a8, a9]⟩] => [a0, a1, a2, a3, a4, a5, a6, a7, a8, a9] | _ => []) Tryz.underlying36 rfl rfl (by kernel_rfl)) rfl rfl rfl ?_ (fun _ => by kernel_rfl); rintro _ h7 ⟨b7, rfl, hg7, hb7, hx7⟩; refine ⟨fun _ => hE.trans (hx7.mono fun _ _ e => e.elim), ?_⟩; replace hE := hE.trans (hx7.mono (S' := fun q => vF.ownBlock = some q ∨ vE.ownBlock = some q) fun _ _ e => e.elim); replace hoF := hoF.ext hx7 (fun _ _ => nos); replace hoE := hoE.ext hx7 (fun _ _ => nos); replace ho6 := ho6.ext hx7 (fun _ _ => nos); replace hbo := hx7.obj hbo nos; replace f2 := f2_ext f2 hx7 (fun _ _ _ => nos); try replace hb9 := hx7.obj hb9 nos)
    all_goals (refine WH.two 6 9 (by kernel_rfl) (Br.out (i := 5012) ?_) (Br.out (i := 5013) ?_))
    all_goals (first | (fail_if_success refine goB 5012 ?_) | (
    refine goB 5012 ?_
    all_goals (refine Comes1.run rfl (ok_append (sz := 10) (bytes := 160) rfl Tryz.underlying36 (show Tryz.prog.info? 27 = some Tryz.t27 by kernel_rfl) rfl rfl rfl rfl (by decide) rfl rfl hoF (rd_blk hb7 rfl) (by simp [Value.oneCell']) (by simp only [maxLen]; omega) (by omega)) rfl rfl rfl ?_ (fun _ => by kernel_rfl); rintro v8 h8 ⟨hoF8, hx8, hl8⟩; refine ⟨fun _ => hE.trans (hx8.mono fun _ _ e => .inl e), ?_⟩)
    all_goals (replace hE := hE.trans (hx8.mono (S' := fun q => vF.ownBlock = some q ∨ vE.ownBlock = some q) fun _ _ e => .inl e)
               replace hoE := hoE.ext hx8 (fun q hq e => own_apart hoF hoE (by decide) q hq e)
               replace ho6 := ho6.ext hx8 (fun q hq e => own_apart hoF ho6 (by decide) q hq e)
               replace hbo := hx8.obj hbo (fun q => own_ne hoF hbo (by decide) q)
               replace f2 := f2_ext f2 hx8 (fun b cs hb q => own_ne hoF hb (by decide) q)
               try replace hb9 := hx8.obj hb9 (fun q => own_ne hoF hb9 (by decide) q)
               clear hoF)
    all_goals (refine WH.one 9 (by kernel_rfl) ?_; refine Comes1.run rfl (okE_buildSlice (vs := [_]) (cs := [_, _, _, _, _, _, _, _]) (fun | [.agg ⟨[a0, a1, a2, a3, a4, a5, a6, a7]⟩] => [a0, a1, a2, a3, a4, a5, a6, a7] | _ => []) Tryz.underlying37 rfl rfl (by kernel_rfl)) rfl rfl rfl ?_ (fun _ => by kernel_rfl); rintro _ h9 ⟨b9, rfl, hg9, hb9, hx9⟩; refine ⟨fun _ => hE.trans (hx9.mono fun _ _ e => e.elim), ?_⟩)
    all_goals (replace hE := hE.trans (hx9.mono (S' := fun q => vF.ownBlock = some q ∨ vE.ownBlock = some q) fun _ _ e => e.elim)
               try replace hoF := hoF.ext hx9 (fun _ _ => nos)
               try replace hoF8 := hoF8.ext hx9 (fun _ _ => nos)
               try replace ho6 := ho6.ext hx9 (fun _ _ => nos)
               try replace hb7 := hx9.obj hb7 nos
               replace hoE := hoE.ext hx9 (fun _ _ => nos)
               replace hbo := hx9.obj hbo nos
               replace f2 := f2_ext f2 hx9 (fun _ _ _ => nos))
    all_goals (refine WH.one 10 (by kernel_rfl) ?_; refine Comes1.run rfl (ok_append (sz := 8) (bytes := 144) rfl Tryz.underlying37 (show Tryz.prog.info? 44 = some Tryz.t44 by kernel_rfl) rfl rfl rfl rfl (by decide) rfl rfl hoE (rd_blk hb9 rfl) (by simp [Value.oneCell']) (by simp only [maxLen]; omega) (by omega)) rfl rfl rfl ?_ (fun _ => by kernel_rfl); rintro v10 h10 ⟨hoE10, hx10, hl10⟩; refine ⟨fun _ => hE.trans (hx10.mono fun _ _ e => .inr e), ?_⟩; replace hE := hE.trans (hx10.mono (S' := fun q => vF.ownBlock = some q ∨ vE.ownBlock = some q) fun _ _ e => .inr e); refine WH.tk 11 rfl (fun hq hC => ok_assign rfl) rfl rfl rfl ?_; refine WH.tk 12 rfl (fun hq hC => ok_assign rfl) rfl rfl rfl ?_; refine WH.done (by kernel_rfl) ?_)
    skip))
    all_goals (first | (fail_if_success refine goB 5013 ?_) | (
    refine goB 5013 ?_
    all_goals (refine Comes1.run rfl (okE_buildSlice (vs := [_]) (cs := [_, _, _, _, _, _, _, _]) (fun | [.agg ⟨[a0, a1, a2, a3, a4, a5, a6, a7]⟩] => [a0, a1, a2, a3, a4, a5, a6, a7] | _ => []) Tryz.underlying37 rfl rfl (by kernel_rfl)) rfl rfl rfl ?_ (fun _ => by kernel_rfl); rintro _ h9 ⟨b9, rfl, hg9, hb9, hx9⟩; refine ⟨fun _ => hE.trans (hx9.mono fun _ _ e => e.elim), ?_⟩)
    all_goals (replace hE := hE.trans (hx9.mono (S' := fun q => vF.ownBlock = some q ∨ vE.ownBlock = some q) fun _ _ e => e.elim)
               try replace hoF := hoF.ext hx9 (fun _ _ => nos)
               try replace hoF8 := hoF8.ext hx9 (fun _ _ => nos)
               try replace ho6 := ho6.ext hx9 (fun _ _ => nos)
               try replace hb7 := hx9.obj hb7 nos
               replace hoE := hoE.ext hx9 (fun _ _ => nos)
               replace hbo := hx9.obj hbo nos
               replace f2 := f2_ext f2 hx9 (fun _ _ _ => nos))
    all_goals (refine WH.one 6 (by kernel_rfl) ?_; refine Comes1.run rfl (ok_append (sz := 10) (bytes := 160) rfl Tryz.underlying36 (show Tryz.prog.info? 27 = some Tryz.t27 by kernel_rfl) rfl rfl rfl rfl (by decide) rfl rfl hoF (rd_blk hb7 rfl) (by simp [Value.oneCell']) (by simp only [maxLen]; omega) (by omega)) rfl rfl rfl ?_ (fun _ => by kernel_rfl); rintro v8 h8 ⟨hoF8, hx8, hl8⟩; refine ⟨fun _ => hE.trans (hx8.mono fun _ _ e => .inl e), ?_⟩)
    all_goals (replace hE := hE.trans (hx8.mono (S' := fun q => vF.ownBlock = some q ∨ vE.ownBlock = some q) fun _ _ e => .inl e)
               replace hoE := hoE.ext hx8 (fun q hq e => own_apart hoF hoE (by decide) q hq e)
               replace ho6 := ho6.ext hx8 (fun q hq e => own_apart hoF ho6 (by decide) q hq e)
               replace hbo := hx8.obj hbo (fun q => own_ne hoF hbo (by decide) q)
               replace f2 := f2_ext f2 hx8 (fun b cs hb q => own_ne hoF hb (by decide) q)
               try replace hb9 := hx8.obj hb9 (fun q => own_ne hoF hb9 (by decide) q)
               clear hoF)
    all_goals (refine WH.one 10 (by kernel_rfl) ?_; refine Comes1.run rfl (ok_append (sz := 8) (bytes := 144) rfl Tryz.underlying37 (show Tryz.prog.info? 44 = some Tryz.t44 by kernel_rfl) rfl rfl rfl rfl (by decide) rfl rfl hoE (rd_blk hb9 rfl) (by simp [Value.oneCell']) (by simp only [maxLen]; omega) (by omega)) rfl rfl rfl ?_ (fun _ => by kernel_rfl); rintro v10 h10 ⟨hoE10, hx10, hl10⟩; refine ⟨fun _ => hE.trans (hx10.mono fun _ _ e => .inr e), ?_⟩; replace hE := hE.trans (hx10.mono (S' := fun q => vF.ownBlock = some q ∨ vE.ownBlock = some q) fun _ _ e => .inr e); refine WH.tk 11 rfl (fun hq hC => ok_assign rfl) rfl rfl rfl ?_; refine WH.tk 12 rfl (fun hq hC => ok_assign rfl) rfl rfl rfl ?_; refine WH.done (by kernel_rfl) ?_)
    skip))
    skip))
    all_goals (first | (fail_if_success refine goB 5013 ?_) | (
    refine goB 5013 ?_
    all_goals (refine Comes1.run rfl (okE_buildSlice (vs := [_]) (cs := [_, _, _, _, _, _, _, _]) (fun | [.agg ⟨[a0, a1, a2, a3, a4, a5, a6, a7]⟩] => [a0, a1, a2, a3, a4, a5, a6, a7] | _ => []) Tryz.underlying37 rfl rfl (by kernel_rfl)) rfl rfl rfl ?_ (fun _ => by kernel_rfl); rintro _ h9 ⟨b9, rfl, hg9, hb9, hx9⟩; refine ⟨fun _ => hE.trans (hx9.mono fun _ _ e => e.elim), ?_⟩)
    all_goals (replace hE := hE.trans (hx9.mono (S' := fun q => vF.ownBlock = some q ∨ vE.ownBlock = some q) fun _ _ e => e.elim)
               try replace hoF := hoF.ext hx9 (fun _ _ => nos)
               try replace hoF8 := hoF8.ext hx9 (fun _ _ => nos)
               try replace ho6 := ho6.ext hx9 (fun _ _ => nos)
               try replace hb7 := hx9.obj hb7 nos
               replace hoE := hoE.ext hx9 (fun _ _ => nos)
               replace hbo := hx9.obj hbo nos
               replace f2 := f2_ext f2 hx9 (fun _ _ _ => nos))
    all_goals (refine WH.one 5 (by kernel_rfl) ?_; refine Comes1.run rfl (okE_buildSlice (vs := [_]) (cs := [_, _, _, _, _, _, _, _, _, _]) (fun | [.agg ⟨[a0, a1, a2, a3, a4, a5, a6, a7, a8, a9]⟩] => [a0, a1, a2, a3, a4, a5, a6, a7, a8, a9] | _ => []) Tryz.underlying36 rfl rfl (by kernel_rfl)) rfl rfl rfl ?_ (fun _ => by kernel_rfl); rintro _ h7 ⟨b7, rfl, hg7, hb7, hx7⟩; refine ⟨fun _ => hE.trans (hx7.mono fun _ _ e => e.elim), ?_⟩; replace hE := hE.trans (hx7.mono (S' := fun q => vF.ownBlock = some q ∨ vE.ownBlock = some q) fun _ _ e => e.elim); replace hoF := hoF.ext hx7 (fun _ _ => nos); replace hoE := hoE.ext hx7 (fun _ _ => nos); replace ho6 := ho6.ext hx7 (fun _ _ => nos); replace hbo := hx7.obj hbo nos; replace f2 := f2_ext f2 hx7 (fun _ _ _ => nos); try replace hb9 := hx7.obj hb9 nos)
    all_goals (refine WH.one 6 (by kernel_rfl) ?_; refine Comes1.run rfl (ok_append (sz := 10) (bytes := 160) rfl Tryz.underlying36 (show Tryz.prog.info? 27 = some Tryz.t27 by kernel_rfl) rfl rfl rfl rfl (by decide) rfl rfl hoF (rd_blk hb7 rfl) (by simp [Value.oneCell']) (by simp only [maxLen]; omega) (by omega)) rfl rfl rfl ?_ (fun _ => by kernel_rfl); rintro v8 h8 ⟨hoF8, hx8, hl8⟩; refine ⟨fun _ => hE.trans (hx8.mono fun _ _ e => .inl e), ?_⟩)
    all_goals (replace hE := hE.trans (hx8.mono (S' := fun q => vF.ownBlock = some q ∨ vE.ownBlock = some q) fun _ _ e => .inl e)
               replace hoE := hoE.ext hx8 (fun q hq e => own_apart hoF hoE (by decide) q hq e)
               replace ho6 := ho6.ext hx8 (fun q hq e => own_apart hoF ho6 (by decide) q hq e)
               replace hbo := hx8.obj hbo (fun q => own_ne hoF hbo (by decide) q)
               replace f2 := f2_ext f2 hx8 (fun b cs hb q => own_ne hoF hb (by decide) q)
               try replace hb9 := hx8.obj hb9 (fun q => own_ne hoF hb9 (by decide) q)
               clear hoF)
    all_goals (refine WH.one 10 (by kernel_rfl) ?_; refine Comes1.run rfl (ok_append (sz := 8) (bytes := 144) rfl Tryz.underlying37 (show Tryz.prog.info? 44 = some Tryz.t44 by kernel_rfl) rfl rfl rfl rfl (by decide) rfl rfl hoE (rd_blk hb9 rfl) (by simp [Value.oneCell']) (by simp only [maxLen]; omega) (by omega)) rfl rfl rfl ?_ (fun _ => by kernel_rfl); rintro v10 h10 ⟨hoE10, hx10, hl10⟩; refine ⟨fun _ => hE.trans (hx10.mono fun _ _ e => .inr e), ?_⟩; replace hE := hE.trans (hx10.mono (S' := fun q => vF.ownBlock = some q ∨ vE.ownBlock = some q) fun _ _ e => .inr e); refine WH.tk 11 rfl (fun hq hC => ok_assign rfl) rfl rfl rfl ?_; refine WH.tk 12 rfl (fun hq hC => ok_assign rfl) rfl rfl rfl ?_; refine WH.done (by kernel_rfl) ?_)
    skip))
    skip))
    all_goals (first | (fail_if_success refine goB 5013 ?_) | (
    refine goB 5013 ?_
    all_goals (refine Comes1.run rfl (okE_buildSlice (vs := [_]) (cs := [_, _, _, _, _, _, _, _]) (fun | [.agg ⟨[a0, a1, a2, a3, a4, a5, a6, a7]⟩] => [a0, a1, a2, a3, a4, a5, a6, a7] | _ => []) Tryz.underlying37 rfl rfl (by kernel_rfl)) rfl rfl rfl ?_ (fun _ => by kernel_rfl); rintro _ h9 ⟨b9, rfl, hg9, hb9, hx9⟩; refine ⟨fun _ => hE.trans (hx9.mono fun _ _ e => e.elim), ?_⟩)
    all_goals (replace hE := hE.trans (hx9.mono (S' := fun q => vF.ownBlock = some q ∨ vE.ownBlock = some q) fun _ _ e => e.elim)
               try replace hoF := hoF.ext hx9 (fun _ _ => nos)
               try replace hoF8 := hoF8.ext hx9 (fun _ _ => nos)
               try replace ho6 := ho6.ext hx9 (fun _ _ => nos)
               try replace hb7 := hx9.obj hb7 nos
               replace hoE := hoE.ext hx9 (fun _ _ => nos)
               replace hbo := hx9.obj hbo nos
               replace f2 := f2_ext f2 hx9 (fun _ _ _ => nos))
    all_goals (refine WH.one 4 (by kernel_rfl) ?_; have hlc := (hl.ext0 hX2).ext' hE (fun q hn hq e => by have h1' := hl.lt hn hq; have s2 := hx1.size; rcases e with e | e; have := fF q e; omega; have := fE q e; omega); refine Comes1.call (vs := [_, _]) rfl rfl (fun a w => Tryz.call99 a w) rfl (parse_inj_ref (srvL id) t l hlc hlm) rfl rfl rfl ?_ (fun _ => by kernel_rfl); rintro _ h6 ⟨v6, rfl, ho6, hx6, hf6⟩; refine ⟨fun _ => hE.trans (hx6.mono fun _ _ e => e.elim), ?_⟩)
    all_goals (replace hE := hE.trans (hx6.mono (S' := fun q => vF.ownBlock = some q ∨ vE.ownBlock = some q) fun _ _ e => e.elim)
               replace hoF := hoF.ext hx6 (fun _ _ => nos)
               replace hoE := hoE.ext hx6 (fun _ _ => nos)
               replace hbo := hx6.obj hbo nos
               replace f2 := f2_ext f2 hx6 (fun _ _ _ => nos)
               try replace hb9 := hx6.obj hb9 nos
               obtain ⟨A6, c6, rfl, _⟩ := ho6.slice)
    all_goals (refine WH.one 5 (by kernel_rfl) ?_; refine Comes1.run rfl (okE_buildSlice (vs := [_]) (cs := [_, _, _, _, _, _, _, _, _, _]) (fun | [.agg ⟨[a0, a1, a2, a3, a4, a5, a6, a7, a8, a9]⟩] => [a0, a1, a2, a3, a4, a5, a6, a7, a8, a9] | _ => []) Tryz.underlying36 rfl rfl (by kernel_rfl)) rfl rfl rfl ?_ (fun _ => by kernel_rfl); rintro _ h7 ⟨b7, rfl, hg7, hb7, hx7⟩; refine ⟨fun _ => hE.trans (hx7.mono fun _ _ e => e.elim), ?_⟩; replace hE := hE.trans (hx7.mono (S' := fun q => vF.ownBlock = some q ∨ vE.ownBlock = some q) fun _ _ e => e.elim); replace hoF := hoF.ext hx7 (fun _ _ => nos); replace hoE := hoE.ext hx7 (fun _ _ => nos); replace ho6 := ho6.ext hx7 (fun _ _ => nos); replace hbo := hx7.obj hbo nos; replace f2 := f2_ext f2 hx7 (fun _ _ _ => nos); try replace hb9 := hx7.obj hb9 nos)
    all_goals (refine WH.one 6 (by kernel_rfl) ?_; refine Comes1.run rfl (ok_append (sz := 10) (bytes := 160) rfl Tryz.underlying36 (show Tryz.prog.info? 27 = some Tryz.t27 by kernel_rfl) rfl rfl rfl rfl (by decide) rfl rfl hoF (rd_blk hb7 rfl) (by simp [Value.oneCell']) (by simp only [maxLen]; omega) (by omega)) rfl rfl rfl ?_ (fun _ => by kernel_rfl); rintro v8 h8 ⟨hoF8, hx8, hl8⟩; refine ⟨fun _ => hE.trans (hx8.mono fun _ _ e => .inl e), ?_⟩)
    all_goals (replace hE := hE.trans (hx8.mono (S' := fun q => vF.ownBlock = some q ∨ vE.ownBlock = some q) fun _ _ e => .inl e)
               replace hoE := hoE.ext hx8 (fun q hq e => own_apart hoF hoE (by decide) q hq e)
               replace ho6 := ho6.ext hx8 (fun q hq e => own_apart hoF ho6 (by decide) q hq e)
               replace hbo := hx8.obj hbo (fun q => own_ne hoF hbo (by decide) q)
               replace f2 := f2_ext f2 hx8 (fun b cs hb q => own_ne hoF hb (by decide) q)
               try replace hb9 := hx8.obj hb9 (fun q => own_ne hoF hb9 (by decide) q)
               clear hoF)
    all_goals (refine WH.one 10 (by kernel_rfl) ?_; refine Comes1.run rfl (ok_append (sz := 8) (bytes := 144) rfl Tryz.underlying37 (show Tryz.prog.info? 44 = some Tryz.t44 by kernel_rfl) rfl rfl rfl rfl (by decide) rfl rfl hoE (rd_blk hb9 rfl) (by simp [Value.oneCell']) (by simp only [maxLen]; omega) (by omega)) rfl rfl rfl ?_ (fun _ => by kernel_rfl); rintro v10 h10 ⟨hoE10, hx10, hl10⟩; refine ⟨fun _ => hE.trans (hx10.mono fun _ _ e => .inr e), ?_⟩; replace hE := hE.trans (hx10.mono (S' := fun q => vF.ownBlock = some q ∨ vE.ownBlock = some q) fun _ _ e => .inr e); refine WH.tk 11 rfl (fun hq hC => ok_assign rfl) rfl rfl rfl ?_; refine WH.tk 12 rfl (fun hq hC => ok_assign rfl) rfl rfl rfl ?_; refine WH.done (by kernel_rfl) ?_)
    skip))
    skip))
    all_goals (first | (fail_if_success refine goB 5013 ?_) | (
    refine goB 5013 ?_
    all_goals (refine Comes1.run rfl (okE_buildSlice (vs := [_]) (cs := [_, _, _, _, _, _, _, _]) (fun | [.agg ⟨[a0, a1, a2, a3, a4, a5, a6, a7]⟩] => [a0, a1, a2, a3, a4, a5, a6, a7] | _ => []) Tryz.underlying37 rfl rfl (by kernel_rfl)) rfl rfl rfl ?_ (fun _ => by kernel_rfl); rintro _ h9 ⟨b9, rfl, hg9, hb9, hx9⟩; refine ⟨fun _ => hE.trans (hx9.mono fun _ _ e => e.elim), ?_⟩)
    all_goals (replace hE := hE.trans (hx9.mono (S' := fun q => vF.ownBlock = some q ∨ vE.ownBlock = some q) fun _ _ e => e.elim)
               try replace hoF := hoF.ext hx9 (fun _ _ => nos)
               try replace hoF8 := hoF8.ext hx9 (fun _ _ => nos)
               try replace ho6 := ho6.ext hx9 (fun _ _ => nos)
               try replace hb7 := hx9.obj hb7 nos
               replace hoE := hoE.ext hx9 (fun _ _ => nos)
               replace hbo := hx9.obj hbo nos
               replace f2 := f2_ext f2 hx9 (fun _ _ _ => nos))
    all_goals (refine WH.one 2 (by kernel_rfl) ?_; refine Comes1.call (vs := [_]) rfl rfl (fun a w => Tryz.call68 a w) rfl (srv_ref id) rfl rfl rfl ?_ (fun _ => by kernel_rfl); rintro _ hz ⟨rfl, _⟩; subst hz; refine ⟨fun _ => hE, ?_⟩; refine WH.one 4 (by kernel_rfl) ?_; have hlc := (hl.ext0 hX2).ext' hE (fun q hn hq e => by have h1' := hl.lt hn hq; have s2 := hx1.size; rcases e with e | e; have := fF q e; omega; have := fE q e; omega); refine Comes1.call (vs := [_, _]) rfl rfl (fun a w => Tryz.call99 a w) rfl (parse_inj_ref (srvL id) t l hlc hlm) rfl rfl rfl ?_ (fun _ => by kernel_rfl); rintro _ h6 ⟨v6, rfl, ho6, hx6, hf6⟩; refine ⟨fun _ => hE.trans (hx6.mono fun _ _ e => e.elim), ?_⟩)
    all_goals (replace hE := hE.trans (hx6.mono (S' := fun q => vF.ownBlock = some q ∨ vE.ownBlock = some q) fun _ _ e => e.elim)
               replace hoF := hoF.ext hx6 (fun _ _ => nos)
               replace hoE := hoE.ext hx6 (fun _ _ => nos)
               replace hbo := hx6.obj hbo nos
               replace f2 := f2_ext f2 hx6 (fun _ _ _ => nos)
               try replace hb9 := hx6.obj hb9 nos
               obtain ⟨A6, c6, rfl, _⟩ := ho6.slice)
    all_goals (refine WH.one 5 (by kernel_rfl) ?_; refine Comes1.run rfl (okE_buildSlice (vs := [_]) (cs := [_, _, _, _, _, _, _, _, _, _]) (fun | [.agg ⟨[a0, a1, a2, a3, a4, a5, a6, a7, a8, a9]⟩] => [a0, a1, a2, a3, a4, a5, a6, a7, a8, a9] | _ => []) Tryz.underlying36 rfl rfl (by kernel_rfl)) rfl rfl rfl ?_ (fun _ => by kernel_rfl); rintro _ h7 ⟨b7, rfl, hg7, hb7, hx7⟩; refine ⟨fun _ => hE.trans (hx7.mono fun _ _ e => e.elim), ?_⟩; replace hE := hE.trans (hx7.mono (S' := fun q => vF.ownBlock = some q ∨ vE.ownBlock = some q) fun _ _ e => e.elim); replace hoF := hoF.ext hx7 (fun _ _ => nos); replace hoE := hoE.ext hx7 (fun _ _ => nos); replace ho6 := ho6.ext hx7 (fun _ _ => nos); replace hbo := hx7.obj hbo nos; replace f2 := f2_ext f2 hx7 (fun _ _ _ => nos); try replace hb9 := hx7.obj hb9 nos)
    all_goals (refine WH.one 6 (by kernel_rfl) ?_; refine Comes1.run rfl (ok_append (sz := 10) (bytes := 160) rfl Tryz.underlying36 (show Tryz.prog.info? 27 = some Tryz.t27 by kernel_rfl) rfl rfl rfl rfl (by decide) rfl rfl hoF (rd_blk hb7 rfl) (by simp [Value.oneCell']) (by simp only [maxLen]; omega) (by omega)) rfl rfl rfl ?_ (fun _ => by kernel_rfl); rintro v8 h8 ⟨hoF8, hx8, hl8⟩; refine ⟨fun _ => hE.trans (hx8.mono fun _ _ e => .inl e), ?_⟩)
    all_goals (replace hE := hE.trans (hx8.mono (S' := fun q => vF.ownBlock = some q ∨ vE.ownBlock = some q) fun _ _ e => .inl e)
               replace hoE := hoE.ext hx8 (fun q hq e => own_apart hoF hoE (by decide) q hq e)
               replace ho6 := ho6.ext hx8 (fun q hq e => own_apart hoF ho6 (by decide) q hq e)
               replace hbo := hx8.obj hbo (fun q => own_ne hoF hbo (by decide) q)
               replace f2 := f2_ext f2 hx8 (fun b cs hb q => own_ne hoF hb (by decide) q)
               try replace hb9 := hx8.obj hb9 (fun q => own_ne hoF hb9 (by decide) q)
               clear hoF)
    all_goals (refine WH.one 10 (by kernel_rfl) ?_; refine Comes1.run rfl (ok_append (sz := 8) (bytes := 144) rfl Tryz.underlying37 (show Tryz.prog.info? 44 = some Tryz.t44 by kernel_rfl) rfl rfl rfl rfl (by decide) rfl rfl hoE (rd_blk hb9 rfl) (by simp [Value.oneCell']) (by simp only [maxLen]; omega) (by omega)) rfl rfl rfl ?_ (fun _ => by kernel_rfl); rintro v10 h10 ⟨hoE10, hx10, hl10⟩; refine ⟨fun _ => hE.trans (hx10.mono fun _ _ e => .inr e), ?_⟩; replace hE := hE.trans (hx10.mono (S' := fun q => vF.ownBlock = some q ∨ vE.ownBlock = some q) fun _ _ e => .inr e); refine WH.tk 11 rfl (fun hq hC => ok_assign rfl) rfl rfl rfl ?_; refine WH.tk 12 rfl (fun hq hC => ok_assign rfl) rfl rfl rfl ?_; refine WH.done (by kernel_rfl) ?_)
    skip))
    all_goals (refine Gn ?_; refine Gs [(8, _), (9, _)] ?_; refine Gt ?_; exact told_ready hin (hoF8.ext hx10 (fun q hq e => own_apart hoE hoF8 (by decide) q hq e)) hoE10 hL1 hM1 f1 (f2_ext f2 hx10 (fun b cs hb q => own_ne hoE hb (by decide) q)) (ho6.ext hx10 (fun q hq e => own_apart hoE ho6 (by decide) q hq e)) hlm (hx10.obj hbo (fun q => own_ne hoE hbo (by decide) q)) p1 p2 (hX2.trans' hE (fun q hq e => by have := hx1.size; rcases e with e | e; have := fF q e; omega; have := fE q e; omega)) (fresh_of hl8 (fun k hk => by have := fF k hk; have := hx1.size; omega) (by have := hx1.size; have := hx2.size; have := hx35.size; have := hx6.size; have := hx7.size; try have := hx9.size; omega)) (fresh_of hl10 (fun k hk => by have := fE k hk; have := hx1.size; omega) (by have := hx1.size; have := hx2.size; have := hx35.size; have := hx6.size; have := hx7.size; have := hx8.size; have := hx9.size; omega)))
end Go.Proofs.YtggmocdbfbhklaaGreat


/-
  REWRITE (layer 24): values with bytes of their own; messages as they come in.
-/
namespace Go.Proofs.YtggmocdbfbhklaaGreat
open Go Go.RK

theorem set_sameC {α : Type} {L : List α} {j : Nat} {a : α} (h : L[j]? = some a) : L.set j a = L := by
  obtain ⟨h1, h2⟩ := List.getElem?_eq_some_iff.1 h
  subst h2
  exact List.set_getElem_self h1
set_option maxHeartbeats 4000000 in
set_option maxRecDepth 100000 in
theorem cells24 {h : Heap} {v : Value} (R0 : List Cel) (hR : Cels h v R0) (hm : R0.length ≤ 1000000) :
    CallsH Tryz.prog 28 ⟨[v]⟩ h fun u h' => ∃ R : List Cel, Own h' u 69 2 R.length (R.flatMap Cel.cells) ∧ R.map Cel.pl = R0.map Cel.pl ∧ (∀ c ∈ R, Own h' c.v 5 1 c.bytes.length (bys c.bytes) ∧ c.bytes.length ≤ reachBytes) ∧ Ext No h h' ∧ ∀ k, u.ownBlock = some k → h.size ≤ k := by
  have hrr := hR.1
  have hcel : ∀ c ∈ R0, ∃ A n cc, c.v = .slice A n cc := fun c hcm => by obtain ⟨A, cc, e, _⟩ := (hR.2.2 c hcm).1; exact ⟨_, _, _, e⟩
  obtain ⟨Ar, cr, rfl, _⟩ := id hrr
  refine calls [(0, _)] Tryz.func28 rfl Tryz.ntmps28 rfl ⟨rfl, trivial⟩ ?_
  all_goals (refine WC.sr ?_; refine Go ?_; refine WC.sr ?_; refine Go ?_; refine WL.call (vs := [_]) rfl (fun a w => Tryz.call52 a w) rfl (clone_cel R0 hrr hcel hm) rfl rfl rfl ?_; rintro vr2 h1 ⟨or4, hx1, hf4⟩; obtain ⟨Ar2, cr2, rfl, _⟩ := or4.slice; refine Go ?_; refine Gs [(3, _)] ?_; refine WC.seq ?_; refine WC.sr ?_; refine Go ?_; refine WC.block ?_)
  -- loop 0: slots that turn [9], that stay [3, 8]
  all_goals (refine WC.loopG (X := Nat × List Cel) (fun x => ([(9, In (x.1 : Int))] : Fr)) [(3, _), (8, _)] (fun x h' => x.1 ≤ R0.length ∧ x.2.length = R0.length ∧ x.2.map Cel.pl = R0.map Cel.pl ∧ Own h' (.slice Ar2 R0.length cr2) 69 2 R0.length (x.2.flatMap Cel.cells) ∧ (∀ i c, x.2[i]? = some c → (x.1 ≤ i ∧ c.ok h) ∨ (Own h' c.v 5 1 c.bytes.length (bys c.bytes) ∧ c.bytes.length ≤ reachBytes)) ∧ Ext (fun q => (Value.slice Ar2 R0.length cr2).ownBlock = some q) h1 h') (fun x => R0.length - x.1) ((0, R0)) ⟨rfl, rfl, rfl, trivial⟩ (by exact ⟨Nat.zero_le _, rfl, rfl, or4, fun i c hc => .inl ⟨Nat.zero_le _, hR.2.2 c (List.mem_of_getElem? hc)⟩, .refl _ _⟩) ?_; rintro ⟨j, R⟩ h20 ⟨hj, hRl, hRp, hO, hRo, hx20⟩; dsimp only at hj hRl hRp hO hRo)
  all_goals (refine WC.sub [(9, _), (3, _), (8, _)] ⟨rfl, rfl, rfl, trivial⟩ ?_; dsimp only)
  all_goals (refine WC.sr ?_; refine Go ?_; refine WC.seq ?_; refine goC 1 2 (Hb.mk fun hb => ?_) (Hb.mk fun hb => ?_))
  all_goals (first | (fail_if_success refine goB 1 ?_) | (
  refine goB 1 ?_
  all_goals (refine WC.skip ?_)
  skip))
  all_goals (first | (fail_if_success refine goB 2 ?_) | (
  refine goB 2 ?_
  all_goals (refine WC.exit ?_; repeat' (with_reducible first | refine thenP_x ?_ | refine blockP_miss rfl ?_ | refine blockP_hit ?_ | refine blockP_n ?_ | refine thenP_n ?_))
  all_goals (refine Br.out (i := 1000) ?_)
  skip))
  all_goals (refine Gn ?_; first | (refine Br.keep ?_) | (refine WC.seq ?_))
  all_goals (first | (refine Br.keep ?_) | (refine WC.block ?_))
  all_goals (first | (refine Br.keep ?_) | (refine WC.sr ?_))
  all_goals (refine Go ?_)
  all_goals (first
               | (refine Br.keep ?_)
               | (have hX20 : Ext No h h20 := hx1.trans' hx20 (fun q hq e => by have := hf4 q e; omega)
                  obtain ⟨c, hcj⟩ : ∃ c, R[j]? = some c := ⟨_, List.getElem?_eq_getElem (by omega)⟩
                  have hcm := List.mem_of_getElem? hcj
                  obtain ⟨cn, cv, cb⟩ := c
                  have hcr : Rd h20 cv 1 cb.length (bys cb) ∧ cb.length ≤ reachBytes := (hRo j _ hcj).elim (fun z => ⟨z.2.1.ext0 hX20, z.2.2⟩) (fun z => ⟨z.1.rd, z.2⟩)
                  have hcr1 := hcr.1
                  have hcr2 := hcr.2
                  unfold reachBytes at hcr2
                  obtain ⟨Ab, cbc, rfl, _⟩ := id hcr1
                  have hO2 := hO
                  rw [← hRl] at hO2
                  obtain ⟨g, gs, hAr, hg, hgl, hset⟩ := row_set Cel.len hO2 hcj
                  obtain ⟨bL, oL, hA, hbL, hat⟩ := Rd.at_ hO.rd (by omega)
                  have hcd : At h20 bL (oL + j * 2) [.bool cn, .slice Ab cb.length cbc] := At.elem Cel.len hat hcj))
  all_goals (first | (refine Br.keep ?_) | (refine WC.region ?_))
  all_goals (refine Go ?_; first | (refine Br.keep ?_) | (refine WL.step (ok_idxAddrA Tryz.underlying25 (fun w => Tryz.sizeOf69 w) rfl rfl rfl (by omega) (by first | rfl | assumption)) rfl rfl rfl ?_))
  all_goals (refine Go ?_; first | (refine Br.keep ?_) | (refine WL.ld rfl (by first | exact hcd.get 1 rfl rfl | assumption | exact cell_blk (by assumption) rfl) rfl rfl rfl ?_))
  all_goals (first
               | (refine Br.keep ?_)
               | (refine WL.call (vs := [_]) rfl (fun a w => Tryz.call53 a w) rfl (clone_byt cb hcr1 (by omega)) rfl rfl rfl ?_
                  rintro vb g21 ⟨ob, hx21, hfb⟩
                  obtain ⟨Ab2, cb2, rfl, _⟩ := ob.slice
                  subst hAr
                  cases hA))
  all_goals (first | (refine Br.keep ?_) | (refine WL.step (ok_idxAddrA Tryz.underlying25 (fun w => Tryz.sizeOf69 w) rfl rfl rfl (by omega) (by first | rfl | assumption)) rfl rfl rfl ?_))
  all_goals (refine Go ?_)
  all_goals (first
               | (refine Br.keep ?_)
               | (refine WL.stepR0 (okE_store (fun w => Tryz.sizeOf42 w) rfl rfl (hx21.obj hg nos) (by show 0 + j * 2 + 1 < gs.length; omega) rfl rfl) rfl rfl ?_
                  rintro _ h22 ⟨hb22, hx22⟩))
  all_goals (first
               | (refine Br.keep ?_)
               | (have hO22 := hset (j := 1) (q' := ⟨cn, .slice Ab2 cb.length cb2, cb⟩) (by decide) rfl (by simpa using hb22)
                  rw [hRl] at hO22
                  have hXr : Ext (fun q => q = g) h20 h22 := (hx21.mono fun _ _ e => e.elim).trans hx22
                  have hNew : ∀ i c, (R.set j (⟨cn, .slice Ab2 cb.length cb2, cb⟩ : Cel))[i]? = some c → (j + 1 ≤ i ∧ c.ok h) ∨ (Own h22 c.v 5 1 c.bytes.length (bys c.bytes) ∧ c.bytes.length ≤ reachBytes) := fun i c hc => by
                   rw [List.getElem?_set] at hc
                   by_cases hij : j = i
                   · rw [if_pos hij, if_pos (by omega)] at hc
                     obtain rfl := Option.some.inj hc
                     refine .inr ⟨ob.ext hx22 (fun q hq e => ?_), hcr.2⟩
                     have := hfb q hq
                     omega
                   · rw [if_neg hij] at hc
                     rcases hRo i c hc with ⟨z1, z2⟩ | ⟨z1, z2⟩
                     · exact .inl ⟨by omega, z2⟩
                     · refine .inr ⟨z1.ext hXr (fun q hq e => ?_), z2⟩
                       obtain ⟨_, y1⟩ := own_ty z1 hq
                       obtain ⟨_, y2⟩ := own_ty hO (q := g) rfl
                       rw [e, y2] at y1
                       simp at y1))
  all_goals (refine Gn ?_; first | (refine Br.keep ?_) | (refine Gs [(3, _), (8, _), (9, _)] ?_))
  all_goals (first | (refine Br.keep ?_) | (refine WC.region ?_))
  all_goals (refine Go ?_; first | (refine Br.keep ?_) | (exact ⟨(j + 1, _), ⟨rfl, rfl, rfl, trivial⟩, (by exact ⟨by omega, by simp [hRl], by rw [← hRp, List.map_set, show Cel.pl ⟨cn, .slice Ab2 cb.length cb2, cb⟩ = Cel.pl ⟨cn, .slice Ab cb.length cbc, cb⟩ from rfl, ← List.map_set, set_sameC hcj], hO22, hNew, hx20.trans (hXr.mono fun q _ e => by rw [e]; rfl)⟩), (by simp; omega)⟩))
  all_goals (try (refine Br.mk (i := 1000) ?_))
  all_goals (refine Gn ?_; refine WC.sr ?_; refine Go ?_; refine Gs [(2, _)] ?_; refine Gt ?_; exact ⟨R, by rw [hRl]; exact hO, hRp, fun c hc => by obtain ⟨i, hi, rfl⟩ := List.mem_iff_getElem.1 hc; rcases hRo i _ (List.getElem?_eq_getElem hi) with ⟨z, _⟩ | z; (exfalso; omega); exact z, hx1.trans' hx20 (fun q hq e => by have := hf4 q e; omega), hf4⟩)
end Go.Proofs.YtggmocdbfbhklaaGreat


/-
  DERIVED: THE SHELF's CONTRACTS AT THIS DUMP, IN PLAIN WORDS (tools/lay-plain.mjs out of 'TryzShelf.lean', which tools/lay-shelf.mjs wrote): THE SAME DECLARATIONS UNDER THE SAME NAMES: 'import', 'namespace', 'open', 'def', 'theorem' AND NOTHING ELSE: no command of the shelf's: FOR A HAND-IN. Each laying: the table of numbers ('.._ren') and one theorem, a field a fact of the dump's own or the kernel's comparison; each contract: ONE APPLICATION.
-/
namespace Go.Proofs
open Go.Shelf
def Tryz.lays137_ren : Go.Shelf.Ren := ⟨fun | 137 => 157 | 217 => 170 | 266 => 176 | n => n, fun | 9 => 9 | 5 => 5 | 3 => 3 | n => n, fun | n => n⟩
theorem Tryz.lays137 : Go.Proofs.Lays.n137 Tryz.prog Tryz.lays137_ren := {
  mixed := by kernel_rfl
  f137 := Tryz.func157.trans (congrArg some (by kernel_rfl))
  f217 := Tryz.func170.trans (congrArg some (by kernel_rfl))
  f266 := Tryz.func176.trans (congrArg some (by kernel_rfl))
  t3 := Tryz.underlying3
  a3 := Tryz.isAgg3
  z3 := Tryz.sizeOf3
  v3 := Tryz.zeroValue3
  t5 := Tryz.underlying5
  a5 := Tryz.isAgg5
  z5 := Tryz.sizeOf5
  v5 := Tryz.zeroValue5
  t9 := Tryz.underlying9
  a9 := Tryz.isAgg9
  z9 := Tryz.sizeOf9
  v9 := Tryz.zeroValue9 }
open Go.RowKit in
/-- strings.IndexByte: "IndexByte returns the index of the first instance of c in s, or -1 if c is not present in s.": IT RETURNS 'Lib.indexByte s c'; the world is as it was. (LAID: no walk: one application.) -/
theorem Tryz.strings_IndexByte (s : ByteArray) (c : Int) (w : World) :
    Calls Tryz.prog 157 #[.string s, .int .u8 c] w fun e w' => e = .returned (.int .i64 (Lib.indexByte s.data.toList c.toNat.toUInt8)) ∧ w' = w := Any.strings_IndexByte Tryz.lays137 s c w
def Tryz.lays187_ren : Go.Shelf.Ren := ⟨fun | 187 => 76 | 255 => 106 | n => n, fun | 37 => 42 | 5 => 5 | 3 => 3 | n => n, fun | n => n⟩
theorem Tryz.lays187 : Go.Proofs.Lays.n187 Tryz.prog Tryz.lays187_ren := {
  mixed := by kernel_rfl
  f187 := Tryz.func76.trans (congrArg some (by kernel_rfl))
  f255 := Tryz.func106.trans (congrArg some (by kernel_rfl))
  t3 := Tryz.underlying3
  a3 := Tryz.isAgg3
  z3 := Tryz.sizeOf3
  v3 := Tryz.zeroValue3
  t5 := Tryz.underlying5
  a5 := Tryz.isAgg5
  z5 := Tryz.sizeOf5
  v5 := Tryz.zeroValue5
  t37 := Tryz.underlying42
  a37 := Tryz.isAgg42
  z37 := Tryz.sizeOf42
  v37 := Tryz.zeroValue42 }
/-- bytes.IndexByte: "IndexByte returns the index of the first instance of c in b, or -1 if c is not present in b.": IT RETURNS 'Lib.indexByte (the bytes of b) c'; the world is as it was. 'xs': the numbers that the slice's cells hold. (LAID: no walk: one application.) -/
theorem Tryz.bytes_IndexByte (b o n c : Nat) (xs : List Int) (cv : Int) (w : World) (hx : xs.length = n) (hc : ∀ i, i < n → w.cell? ⟨b, o + i, none⟩ = some (.int .u8 (xs.getD i 0))) :
    Calls Tryz.prog 76 #[.slice (some ⟨b, o, none⟩) n c, .int .u8 cv] w fun e w' => e = .returned (.int .i64 (Lib.indexByte (Lib.bytesOf xs) cv.toNat.toUInt8)) ∧ w' = w := Any.bytes_IndexByte Tryz.lays187 b o n c xs cv w hx hc
end Go.Proofs

/-
  []byte OF A ROW OF BYTES, WRITTEN OUT ([]byte of a constant text): it stays where it is. No program is named here.
-/
namespace Go.RK
open Go

section
variable {P : Program} {f : Fr} {h : Heap} {d : Option Tmp} {ty : TypeId} {pos : String} {af : Array Edge} {g : Option (Nat × Bool)}
theorem okE_convSS {x : Operand} {src e t : TypeId} {b n c : Nat} {cs : Array Value} {z : Nat × Nat} (hs : P.underlying src = some (.slice e)) (he : P.underlying e = some (.int .u8)) (hx : f.ev x = some (.slice (some ⟨b, 0, Option.none⟩) n c)) (hb : h[b]? = some (.cells cs t z)) :
    OkR P f ⟨d, .convert src src x, ty, pos, af, g⟩ h (fun v h' => v = .slice (some ⟨b, 0, Option.none⟩) n c ∧ (∃ z', h'[b]? = some (.cells cs t z')) ∧ Ext (fun k => k = b) h h') :=
  fun ρ w ha hw => by
    subst hw
    have hsh : w.shape? b = some (t, cs.size) := by simp [World.shape?, hb]
    refine ⟨_, w.freeze ⟨b, cs.size, Option.none⟩ 1, ?_, ⟨rfl, ?_, ?_⟩, .inl ?_⟩
    · unfold World.freeze
      split <;> exact ⟨rfl, rfl, rfl, by first | exact Nat.le_refl _ | exact Nat.le_add_right _ _⟩
    · unfold World.freeze
      split
      · exact ⟨z, hb⟩
      · obtain ⟨lo, hi⟩ := z
        refine ⟨if lo == hi then (cs.size, cs.size + 1) else (min lo cs.size, max hi (cs.size + 1)), ?_⟩
        simp only [Array.getElem?_modify, if_true, hb]
        rfl
    · unfold World.freeze
      split
      · exact .refl _ _
      · refine ⟨by simp, fun k _ hk => ?_⟩
        simp only [Array.getElem?_modify]
        rw [if_neg (fun e => hk e.symm)]
    · simp [execOp, ha _ _ hx, convert, run_underlying hs, run_underlying he, markStringish, hsh]
end
end Go.RK

/-
  BYTES LOOKED FOR; clean texts; numbers within bounds: packages bytes, strings, digits, front, back.
-/
namespace Go.Proofs.YtggmocdbfbhklaaGreat
open Go Go.RK

theorem ixb_nat (c : UInt8) : ((c.toNat : Int)).toNat.toUInt8 = c := by simp
theorem indexByte_str {h : Heap} (s : List UInt8) (c : UInt8) :
    CallsH Tryz.prog 157 ⟨[St s, By c]⟩ h fun u h' => u = In (Lib.indexByte s c) ∧ h' = h := fun w hw =>
  (Tryz.strings_IndexByte ⟨⟨s⟩⟩ c.toNat w).mono fun e w' ⟨he, hb⟩ => ⟨⟨by rw [hb], by rw [hb], by rw [hb], by subst hb; exact Nat.le_refl _⟩, _, he, by rw [ixb_nat], by rw [hb, hw]⟩
theorem indexByte_bys {h : Heap} {v : Value} (l : List UInt8) (c : UInt8) (hr : Rd h v 1 l.length (bys l)) (h0 : 0 < l.length) :
    CallsH Tryz.prog 76 ⟨[v, By c]⟩ h fun u h' => u = In (Lib.indexByte l c) ∧ h' = h := by
  obtain ⟨A, cap, rfl, _⟩ := id hr
  obtain ⟨b, o, rfl, _, hat⟩ := Rd.at_ hr h0
  intro w hw
  subst hw
  have e : Lib.bytesOf (l.map fun x : UInt8 => (x.toNat : Int)) = l := by
    unfold Lib.bytesOf
    rw [List.map_map]
    conv => rhs; rw [← List.map_id l]
    exact List.map_congr_left fun x _ => ixb_nat x
  refine (Tryz.bytes_IndexByte b o l.length cap (l.map fun x : UInt8 => (x.toNat : Int)) c.toNat w (by simp) fun i hi => ?_).mono fun e' w' ⟨he, hb⟩ => ⟨⟨by rw [hb], by rw [hb], by rw [hb], by subst hb; exact Nat.le_refl _⟩, _, he, by rw [ixb_nat, e], by rw [hb]⟩
  rw [cell_eq]
  have := hat i (By l[i]) (by simp [hi])
  rw [this]
  simp [List.getD, hi]
def cleanB (s : List UInt8) : Bool := !s.contains 0
set_option maxHeartbeats 2000000 in
set_option maxRecDepth 100000 in
theorem clean_any {h : Heap} (s : List UInt8) : CallsH Tryz.prog 144 ⟨[St s]⟩ h fun u h' => u = .bool (cleanB s) ∧ h' = h := by
  refine calls [(0, _)] Tryz.func144 rfl Tryz.ntmps144 rfl ⟨rfl, trivial⟩ ?_
  all_goals (refine WC.sr ?_; refine Go ?_; refine WC.sr ?_; refine Go ?_; refine WL.call (vs := [_, _]) rfl (fun a w => Tryz.call157 a w) rfl (indexByte_str s 0) rfl rfl rfl ?_; rintro _ hz ⟨rfl, _⟩; subst hz; refine WL.step (ok_lss rfl rfl) rfl rfl rfl ?_; refine Go ?_; refine Gs [(2, _)] ?_; refine Gt ?_; exact ⟨by unfold cleanB; rw [Lib.contains_iff_indexByte]; exact congrArg Value.bool (by rw [← decide_not]; exact decide_eq_decide.2 (by omega)), rfl⟩)
set_option maxHeartbeats 2000000 in
set_option maxRecDepth 100000 in
theorem containsF_int {h : Heap} {A : Option Addr} {c : Nat} (l : List Int) (p : Int → Bool) {fk : Nat} {fs us : List Value} (hcf : ∀ (args : Array Value) (w : World), (callFunc fk args).run Tryz.prog w = .ok (.enter fk args) w) (hr : Rd h (.slice A l.length c) 1 l.length (ints l)) (hm : l.length ≤ maxLen)
    (hp : ∀ x ∈ l, CallsH Tryz.prog fk ⟨fs ++ [In x] ++ us⟩ h fun u h' => u = .bool (p x) ∧ h' = h) :
    CallsH Tryz.prog 108 ⟨[.slice A l.length c, .func (.func fk) ⟨fs⟩ ⟨us⟩]⟩ h fun u h' => u = .bool (l.any p) ∧ h' = h := by
  refine calls [(0, _), (1, _)] Tryz.func108 rfl Tryz.ntmps108 rfl ⟨rfl, rfl, trivial⟩ ?_
  all_goals (refine WC.sr ?_; refine Go ?_; refine WC.sr ?_; refine Go ?_; refine WL.call (vs := [_, _]) rfl (fun a w => Tryz.call129 a w) rfl (indexFunc_int l p hcf hr hm hp) rfl rfl rfl ?_; rintro _ hz ⟨rfl, _⟩; subst hz; refine WL.step (ok_geq rfl rfl) rfl rfl rfl ?_; refine Go ?_; refine Gs [(4, _)] ?_; refine Gt ?_; exact ⟨by rw [idxP_geq], rfl⟩)
def withinB (l : List Int) (lo hi : Int) : Bool := decide (l.length ≤ 65535) && !l.any fun n => decide (n < lo) || decide (hi < n)
def knownI (k : UInt8) : Int := if ([66, 67, 68, 69, 72, 80, 81, 83, 88] : List UInt8).contains k then 1 else if ([70, 99, 100, 102, 112] : List UInt8).contains k then 2 else 0
set_option maxHeartbeats 2000000 in
set_option maxRecDepth 100000 in
theorem known_front {h : Heap} (k : UInt8) : CallsH Tryz.prog 41 ⟨[By k]⟩ h fun u h' => u = In (knownI k) ∧ Ext No h h' := by
  have e1 := Lib.contains_iff_indexByte [66, 67, 68, 69, 72, 80, 81, 83, 88] k
  have e2 := Lib.contains_iff_indexByte [70, 99, 100, 102, 112] k
  refine calls [(0, _)] Tryz.func41 rfl Tryz.ntmps41 rfl ⟨rfl, trivial⟩ ?_
  all_goals (refine WC.sr ?_; refine Go ?_; refine WC.seq ?_; refine WC.block ?_; refine WC.sr ?_; refine WL.stepR (okE_buildSlice (vs := [_, _, _, _, _, _, _, _, _]) (cs := [_, _, _, _, _, _, _, _, _]) (fun | [a0, a1, a2, a3, a4, a5, a6, a7, a8] => [a0, a1, a2, a3, a4, a5, a6, a7, a8] | _ => []) Tryz.underlying42 rfl rfl (by kernel_rfl)) rfl rfl rfl ?_; rintro _ h1 ⟨b1, rfl, hg1, hb1, hx1⟩; refine WL.stepR (okE_convSS Tryz.underlying42 Tryz.underlying5 rfl (by assumption)) rfl rfl rfl ?_; rintro _ h2 ⟨rfl, ⟨z2, hb2⟩, hx2⟩; have hX2 : Ext No h h2 := hx1.trans' hx2 (fun q hq e => by omega); refine Go ?_; refine WL.call (vs := [_, _]) rfl (fun a w => Tryz.call76 a w) rfl (indexByte_bys [66, 67, 68, 69, 72, 80, 81, 83, 88] k (rd_blk hb2 rfl) (by simp)) rfl rfl rfl ?_; rintro _ hz ⟨rfl, _⟩; subst hz; refine WL.step (ok_geq rfl rfl) rfl rfl rfl ?_)
  all_goals (rw [← e1]
             cases hc1 : ([66, 67, 68, 69, 72, 80, 81, 83, 88] : List UInt8).contains k)
  all_goals (refine Go ?_; refine Gs [(0, _), (3, _)] ?_; refine goC 1 2 ?_ TT.mk)
  all_goals (first | (fail_if_success refine goB 1 ?_) | (
  refine goB 1 ?_
  all_goals (refine WC.sr ?_; refine Go ?_; refine Gt ?_; first | exact ⟨by unfold knownI; rw [hc1]; rfl, hX2⟩ | exact ⟨by unfold knownI; rw [hc1, hc2]; rfl, (hX2.trans hx3).trans' hx4 (fun q hq e => by have := hX2.size; omega)⟩)
  skip))
  all_goals (refine goB 2 ?_; refine WC.sr ?_; refine WL.stepR (okE_buildSlice (vs := [_, _, _, _, _]) (cs := [_, _, _, _, _]) (fun | [a0, a1, a2, a3, a4] => [a0, a1, a2, a3, a4] | _ => []) Tryz.underlying42 rfl rfl (by kernel_rfl)) rfl rfl rfl ?_; rintro _ h3 ⟨b3, rfl, hg3, hb3, hx3⟩; refine WL.stepR (okE_convSS Tryz.underlying42 Tryz.underlying5 rfl (by assumption)) rfl rfl rfl ?_; rintro _ h4 ⟨rfl, ⟨z4, hb4⟩, hx4⟩; refine Go ?_; refine WL.call (vs := [_, _]) rfl (fun a w => Tryz.call76 a w) rfl (indexByte_bys [70, 99, 100, 102, 112] k (rd_blk hb4 rfl) (by simp)) rfl rfl rfl ?_; rintro _ hz ⟨rfl, _⟩; subst hz; refine WL.step (ok_geq rfl rfl) rfl rfl rfl ?_)
  all_goals (rw [← e2]
             cases hc2 : ([70, 99, 100, 102, 112] : List UInt8).contains k)
  all_goals (refine Go ?_; refine Gs [(9, _)] ?_; refine goC 3 4 ?_ TT.mk)
  all_goals (first | (fail_if_success refine goB 3 ?_) | (
  refine goB 3 ?_
  all_goals (refine WC.sr ?_; refine Go ?_; refine Gt ?_; first | exact ⟨by unfold knownI; rw [hc1]; rfl, hX2⟩ | exact ⟨by unfold knownI; rw [hc1, hc2]; rfl, (hX2.trans hx3).trans' hx4 (fun q hq e => by have := hX2.size; omega)⟩)
  skip))
  all_goals (refine goB 4 ?_; refine WC.skip ?_; refine Gn ?_; refine WC.sr ?_; refine Go ?_; refine Gt ?_; first | exact ⟨by unfold knownI; rw [hc1]; rfl, hX2⟩ | exact ⟨by unfold knownI; rw [hc1, hc2]; rfl, (hX2.trans hx3).trans' hx4 (fun q hq e => by have := hX2.size; omega)⟩)
end Go.Proofs.YtggmocdbfbhklaaGreat


/-
  KINDS (layers 6, 20, 24): which messages may be told to a server, and the kinds of their entries, by the code and by the document.
-/
namespace Go.Proofs.YtggmocdbfbhklaaGreat
open Go Go.RK

def entK (k w : Int) : Int := if k = 80 then 2 else if k = 66 then 3 else if k = 68 then (if w = 83 then 4 else if w = 80 then 5 else 0) else if k = 69 then 6 else if k = 67 then 7 else if k = 83 then 8 else if k = 81 then 9 else 0
set_option maxHeartbeats 2000000 in
set_option maxRecDepth 100000 in
theorem desc_code {h : Heap} (w : Int) : CallsH Tryz.prog 119 ⟨[.int .u8 w]⟩ h fun u h' => u = In (if w = 83 then 4 else if w = 80 then 5 else 0) ∧ h' = h := by
  refine calls [(0, _)] Tryz.func119 rfl Tryz.ntmps119 rfl ⟨rfl, trivial⟩ ?_
  all_goals (refine WC.sr ?_; refine Go ?_; refine WC.seq ?_; refine WC.sr ?_; refine Go ?_; refine WC.block ?_; refine WC.sr ?_; refine Go ?_; refine goC 1 2 (Hb.mk fun hb => ?_) (Hb.mk fun hb => ?_))
  all_goals (first | (fail_if_success refine goB 1 ?_) | (
  refine goB 1 ?_
  all_goals (refine WC.sr ?_; refine Go ?_; refine Gs [(2, _)] ?_; refine Gt ?_; exact ⟨by simp [*], rfl⟩)
  skip))
  all_goals (refine goB 2 ?_; refine WC.sr ?_; refine Go ?_; refine Gs [(6, _)] ?_; refine goC 3 4 (Hb.mk fun hb => ?_) (Hb.mk fun hb => ?_))
  all_goals (first | (fail_if_success refine goB 3 ?_) | (
  refine goB 3 ?_
  all_goals (refine WC.sr ?_; refine Go ?_; refine Gt ?_; exact ⟨by simp [*], rfl⟩)
  skip))
  all_goals (refine goB 4 ?_; refine WC.skip ?_; refine Gn ?_; refine WC.sr ?_; refine Go ?_; refine Gt ?_; exact ⟨by simp [*], rfl⟩)
set_option maxHeartbeats 2000000 in
set_option maxRecDepth 100000 in
theorem kind_code {h : Heap} (f : Fm) : CallsH Tryz.prog 95 ⟨[.agg ⟨f.cells⟩]⟩ h fun u h' => u = In (entK f.kind f.what) ∧ Ext No h h' := by
  obtain ⟨k, w, n, p, t, vo, o, vf, fs, vs, rs, vp, ps, mx⟩ := f
  dsimp only [Fm.cells]
  refine calls [(0, _)] Tryz.func95 rfl Tryz.ntmps95 rfl ⟨rfl, trivial⟩ ?_
  all_goals (refine WC.sr ?_; refine WL.stepR (okE_box rfl) rfl rfl rfl ?_; rintro _ h1 ⟨b1, rfl, hg1, hb1, hx1⟩; refine Go ?_; refine WC.seq ?_; refine WC.sr ?_; refine Go ?_; refine Ld ?_; refine Gn ?_; refine WC.block ?_; refine WC.sr ?_; refine Go ?_; refine Gs [(1, _), (4, _), (5, _)] ?_; refine goC 1 2 (Hb.mk fun hb => ?_) (Hb.mk fun hb => ?_))
  all_goals (first | (fail_if_success refine goB 1 ?_) | (
  refine goB 1 ?_
  all_goals (refine WC.sr ?_; refine Go ?_; refine Gt ?_; exact ⟨by simp [entK, *], hx1⟩)
  skip))
  all_goals (refine goB 2 ?_; refine WC.sr ?_; refine Go ?_; refine goC 3 4 (Hb.mk fun hb => ?_) (Hb.mk fun hb => ?_))
  all_goals (first | (fail_if_success refine goB 3 ?_) | (
  refine goB 3 ?_
  all_goals (refine WC.sr ?_; refine Go ?_; refine Gs [(2, _)] ?_; refine Gt ?_; exact ⟨by simp [entK, *], hx1⟩)
  skip))
  all_goals (refine goB 4 ?_; refine WC.sr ?_; refine Go ?_; refine Gs [(1, _), (4, _), (9, _)] ?_; refine goC 5 6 (Hb.mk fun hb => ?_) (Hb.mk fun hb => ?_))
  all_goals (first | (fail_if_success refine goB 5 ?_) | (
  refine goB 5 ?_
  all_goals (refine WC.sr ?_; refine Go ?_; refine Ld ?_; refine WL.call (vs := [_]) rfl (fun a w => Tryz.call119 a w) rfl (desc_code w) rfl rfl rfl ?_; rintro _ hz ⟨rfl, _⟩; subst hz; refine Go ?_; refine Gs [(2, _)] ?_; refine Gt ?_; exact ⟨by simp [entK, *], hx1⟩)
  skip))
  all_goals (refine goB 6 ?_; refine WC.sr ?_; refine Go ?_; refine goC 7 8 (Hb.mk fun hb => ?_) (Hb.mk fun hb => ?_))
  all_goals (first | (fail_if_success refine goB 7 ?_) | (
  refine goB 7 ?_
  all_goals (refine WC.sr ?_; refine Go ?_; refine Gs [(2, _)] ?_; refine Gt ?_; exact ⟨by simp [entK, *], hx1⟩)
  skip))
  all_goals (refine goB 8 ?_; refine WC.sr ?_; refine Go ?_; refine Gs [(4, _), (16, _)] ?_; refine goC 9 10 (Hb.mk fun hb => ?_) (Hb.mk fun hb => ?_))
  all_goals (first | (fail_if_success refine goB 9 ?_) | (
  refine goB 9 ?_
  all_goals (refine WC.sr ?_; refine Go ?_; refine Gt ?_; exact ⟨by simp [entK, *], hx1⟩)
  skip))
  all_goals (refine goB 10 ?_; refine WC.sr ?_; refine Go ?_; refine goC 11 12 (Hb.mk fun hb => ?_) (Hb.mk fun hb => ?_))
  all_goals (first | (fail_if_success refine goB 11 ?_) | (
  refine goB 11 ?_
  all_goals (refine WC.sr ?_; refine Go ?_; refine Gs [(2, _)] ?_; refine Gt ?_; exact ⟨by simp [entK, *], hx1⟩)
  skip))
  all_goals (refine goB 12 ?_; refine WC.sr ?_; refine Go ?_; refine Gs [(20, _)] ?_; refine goC 13 14 (Hb.mk fun hb => ?_) (Hb.mk fun hb => ?_))
  all_goals (first | (fail_if_success refine goB 13 ?_) | (
  refine goB 13 ?_
  all_goals (refine WC.sr ?_; refine Go ?_; refine Gt ?_; exact ⟨by simp [entK, *], hx1⟩)
  skip))
  all_goals (refine goB 14 ?_; refine WC.skip ?_; refine Gn ?_; refine WC.sr ?_; refine Go ?_; refine Gt ?_; exact ⟨by simp [entK, *], hx1⟩)
set_option maxHeartbeats 2000000 in
set_option maxRecDepth 100000 in
theorem kind_doc {h : Heap} (f : Fm) : CallsH Tryz.prog 37 ⟨[.agg ⟨f.cells⟩]⟩ h fun u h' => u = In (entK f.kind f.what) ∧ Ext No h h' := by
  obtain ⟨k, w, n, p, t, vo, o, vf, fs, vs, rs, vp, ps, mx⟩ := f
  dsimp only [Fm.cells]
  refine calls [(0, _)] Tryz.func37 rfl Tryz.ntmps37 rfl ⟨rfl, trivial⟩ ?_
  all_goals (refine WC.sr ?_; refine WL.stepR (okE_box rfl) rfl rfl rfl ?_; rintro _ h1 ⟨b1, rfl, hg1, hb1, hx1⟩; refine Go ?_; refine WC.seq ?_; refine WC.sr ?_; refine Go ?_; refine Ld ?_; refine Gn ?_; refine WC.block ?_; refine WC.sr ?_; refine Go ?_; refine Gs [(1, _), (4, _), (5, _)] ?_; refine goC 1 2 (Hb.mk fun hb => ?_) (Hb.mk fun hb => ?_))
  all_goals (first | (fail_if_success refine goB 1 ?_) | (
  refine goB 1 ?_
  all_goals (refine WC.sr ?_; refine Go ?_; refine Gt ?_; exact ⟨by simp [entK, *], hx1⟩)
  skip))
  all_goals (refine goB 2 ?_; refine WC.sr ?_; refine Go ?_; refine goC 3 4 (Hb.mk fun hb => ?_) (Hb.mk fun hb => ?_))
  all_goals (first | (fail_if_success refine goB 3 ?_) | (
  refine goB 3 ?_
  all_goals (refine WC.sr ?_; refine Go ?_; refine Gs [(2, _)] ?_; refine Gt ?_; exact ⟨by simp [entK, *], hx1⟩)
  skip))
  all_goals (refine goB 4 ?_; refine WC.sr ?_; refine Go ?_; refine Gs [(1, _), (4, _), (9, _)] ?_; refine goC 5 6 (Hb.mk fun hb => ?_) (Hb.mk fun hb => ?_))
  all_goals (first | (fail_if_success refine goB 5 ?_) | (
  refine goB 5 ?_
  all_goals (refine WC.seq ?_; refine WC.sr ?_; refine Go ?_; refine Ld ?_; refine Go ?_; refine Gs [(1, _), (13, _)] ?_; refine goC 7 8 (Hb.mk fun hb => ?_) (Hb.mk fun hb => ?_))
  all_goals (first | (fail_if_success refine goB 7 ?_) | (
  refine goB 7 ?_
  all_goals (refine WC.sr ?_; refine Go ?_; refine Gt ?_; exact ⟨by simp [entK, *], hx1⟩)
  skip))
  all_goals (refine goB 8 ?_; refine WC.skip ?_; refine Gn ?_; refine WC.sr ?_; refine Go ?_; refine Ld ?_; refine Go ?_; refine Gs [(16, _)] ?_; refine goC 9 10 (Hb.mk fun hb => ?_) (Hb.mk fun hb => ?_))
  all_goals (first | (fail_if_success refine goB 9 ?_) | (
  refine goB 9 ?_
  all_goals (refine WC.sr ?_; refine Go ?_; refine Gt ?_; exact ⟨by simp [entK, *], hx1⟩)
  skip))
  all_goals (refine goB 10 ?_; refine WC.skip ?_)
  skip))
  all_goals (first | (fail_if_success refine goB 6 ?_) | (
  refine goB 6 ?_
  all_goals (refine WC.sr ?_; refine Go ?_; refine goC 11 12 (Hb.mk fun hb => ?_) (Hb.mk fun hb => ?_))
  all_goals (first | (fail_if_success refine goB 11 ?_) | (
  refine goB 11 ?_
  all_goals (refine WC.sr ?_; refine Go ?_; refine Gs [(2, _)] ?_; refine Gt ?_; exact ⟨by simp [entK, *], hx1⟩)
  skip))
  all_goals (refine goB 12 ?_; refine WC.sr ?_; refine Go ?_; refine Gs [(4, _), (19, _)] ?_; refine goC 13 14 (Hb.mk fun hb => ?_) (Hb.mk fun hb => ?_))
  all_goals (first | (fail_if_success refine goB 13 ?_) | (
  refine goB 13 ?_
  all_goals (refine WC.sr ?_; refine Go ?_; refine Gt ?_; exact ⟨by simp [entK, *], hx1⟩)
  skip))
  all_goals (refine goB 14 ?_; refine WC.sr ?_; refine Go ?_; refine goC 15 16 (Hb.mk fun hb => ?_) (Hb.mk fun hb => ?_))
  all_goals (first | (fail_if_success refine goB 15 ?_) | (
  refine goB 15 ?_
  all_goals (refine WC.sr ?_; refine Go ?_; refine Gs [(2, _)] ?_; refine Gt ?_; exact ⟨by simp [entK, *], hx1⟩)
  skip))
  all_goals (refine goB 16 ?_; refine WC.sr ?_; refine Go ?_; refine Gs [(23, _)] ?_; refine goC 17 18 (Hb.mk fun hb => ?_) (Hb.mk fun hb => ?_))
  all_goals (first | (fail_if_success refine goB 17 ?_) | (
  refine goB 17 ?_
  all_goals (refine WC.sr ?_; refine Go ?_; refine Gt ?_; exact ⟨by simp [entK, *], hx1⟩)
  skip))
  all_goals (refine goB 18 ?_; refine WC.skip ?_)
  skip))
  all_goals (refine Gn ?_; refine WC.sr ?_; refine Go ?_; refine Gt ?_; exact ⟨by simp [entK, *], hx1⟩)
/-- Whether a message may be told to a server. -/
def NeedK (k : Int) : Prop := k = 66 ∨ k = 67 ∨ k = 68 ∨ k = 69 ∨ k = 72 ∨ k = 80 ∨ k = 81 ∨ k = 83
instance (k : Int) : Decidable (NeedK k) := by unfold NeedK; exact inferInstance
theorem known1 (c : UInt8) : knownI c = 1 ↔ NeedK (c.toNat : Int) ∨ (c.toNat : Int) = 88 := by
  unfold knownI NeedK
  have key : ([66, 67, 68, 69, 72, 80, 81, 83, 88] : List UInt8).contains c = true ↔ ((c.toNat : Int) = 66 ∨ (c.toNat : Int) = 67 ∨ (c.toNat : Int) = 68 ∨ (c.toNat : Int) = 69 ∨ (c.toNat : Int) = 72 ∨ (c.toNat : Int) = 80 ∨ (c.toNat : Int) = 81 ∨ (c.toNat : Int) = 83) ∨ (c.toNat : Int) = 88 := by
    simp only [List.contains_eq_mem, decide_eq_true_eq, List.mem_cons, List.not_mem_nil, or_false, ← UInt8.toNat_inj]
    show _ ↔ _
    simp only [show (66 : UInt8).toNat = 66 from rfl, show (67 : UInt8).toNat = 67 from rfl, show (68 : UInt8).toNat = 68 from rfl, show (69 : UInt8).toNat = 69 from rfl, show (72 : UInt8).toNat = 72 from rfl, show (80 : UInt8).toNat = 80 from rfl, show (81 : UInt8).toNat = 81 from rfl, show (83 : UInt8).toNat = 83 from rfl, show (88 : UInt8).toNat = 88 from rfl]
    omega
  rw [← key]
  split
  · rename_i q; exact ⟨fun _ => q, fun _ => rfl⟩
  · rename_i q
    split
    · exact ⟨fun e => absurd e (by decide), fun e => absurd e q⟩
    · exact ⟨fun e => absurd e (by decide), fun e => absurd e q⟩
set_option maxHeartbeats 2000000 in
set_option maxRecDepth 100000 in
theorem known06 {h : Heap} (k : Int) : CallsH Tryz.prog 42 ⟨[.int .u8 k]⟩ h fun u h' => (∃ x, u = In x ∧ (x = 1 ↔ NeedK k ∨ k = 88)) ∧ h' = h := by
  refine calls [(0, _)] Tryz.func42 rfl Tryz.ntmps42 rfl ⟨rfl, trivial⟩ ?_
  all_goals (refine WC.sr ?_; refine Go ?_; refine WC.seq ?_; refine WC.sr ?_; refine Go ?_; refine WC.block ?_; refine WC.seq ?_; refine WC.sr ?_; refine Go ?_; refine goC 1 2 (Hb.mk fun hb => ?_) (Hb.mk fun hb => ?_))
  all_goals (first | (fail_if_success refine goB 1 ?_) | (
  refine goB 1 ?_
  all_goals (refine WC.skip ?_)
  skip))
  all_goals (first | (fail_if_success refine goB 2 ?_) | (
  refine goB 2 ?_
  all_goals (refine WC.sr ?_; refine Go ?_; refine Gs [(3, _), (4, _)] ?_; refine goC 3 4 (Hb.mk fun hb => ?_) (Hb.mk fun hb => ?_))
  all_goals (first | (fail_if_success refine goB 3 ?_) | (
  refine goB 3 ?_
  all_goals (refine WC.skip ?_)
  skip))
  all_goals (first | (fail_if_success refine goB 4 ?_) | (
  refine goB 4 ?_
  all_goals (refine WC.sr ?_; refine Go ?_; refine goC 5 6 (Hb.mk fun hb => ?_) (Hb.mk fun hb => ?_))
  all_goals (first | (fail_if_success refine goB 5 ?_) | (
  refine goB 5 ?_
  all_goals (refine WC.skip ?_)
  skip))
  all_goals (first | (fail_if_success refine goB 6 ?_) | (
  refine goB 6 ?_
  all_goals (refine WC.sr ?_; refine Go ?_; refine goC 7 8 (Hb.mk fun hb => ?_) (Hb.mk fun hb => ?_))
  all_goals (first | (fail_if_success refine goB 7 ?_) | (
  refine goB 7 ?_
  all_goals (refine WC.skip ?_)
  skip))
  all_goals (first | (fail_if_success refine goB 8 ?_) | (
  refine goB 8 ?_
  all_goals (refine WC.sr ?_; refine Go ?_; refine goC 9 10 (Hb.mk fun hb => ?_) (Hb.mk fun hb => ?_))
  all_goals (first | (fail_if_success refine goB 9 ?_) | (
  refine goB 9 ?_
  all_goals (refine WC.skip ?_)
  skip))
  all_goals (first | (fail_if_success refine goB 10 ?_) | (
  refine goB 10 ?_
  all_goals (refine WC.sr ?_; refine Go ?_; refine Gs [(3, _), (4, _)] ?_; refine goC 11 12 (Hb.mk fun hb => ?_) (Hb.mk fun hb => ?_))
  all_goals (first | (fail_if_success refine goB 11 ?_) | (
  refine goB 11 ?_
  all_goals (refine WC.skip ?_)
  skip))
  all_goals (first | (fail_if_success refine goB 12 ?_) | (
  refine goB 12 ?_
  all_goals (refine WC.sr ?_; refine Go ?_; refine goC 13 14 (Hb.mk fun hb => ?_) (Hb.mk fun hb => ?_))
  all_goals (first | (fail_if_success refine goB 13 ?_) | (
  refine goB 13 ?_
  all_goals (refine WC.skip ?_)
  skip))
  all_goals (first | (fail_if_success refine goB 14 ?_) | (
  refine goB 14 ?_
  all_goals (refine WC.sr ?_; refine Go ?_; refine goC 15 16 (Hb.mk fun hb => ?_) (Hb.mk fun hb => ?_))
  all_goals (first | (fail_if_success refine goB 15 ?_) | (
  refine goB 15 ?_
  all_goals (refine WC.skip ?_)
  skip))
  all_goals (first | (fail_if_success refine goB 16 ?_) | (
  refine goB 16 ?_
  all_goals (refine WC.region ?_; refine Go ?_)
  skip))
  skip))
  skip))
  skip))
  skip))
  skip))
  skip))
  skip))
  all_goals (refine Gn ?_; refine goC 17 18 (Hb.mk fun hb => ?_) (Hb.mk fun hb => ?_))
  all_goals (first | (fail_if_success refine goB 17 ?_) | (
  refine goB 17 ?_
  all_goals (refine WC.sr ?_; refine Go ?_; refine Gt ?_; exact ⟨⟨_, rfl, by unfold NeedK; omega⟩, rfl⟩)
  skip))
  all_goals (refine goB 18 ?_; refine WC.seq ?_; refine WC.sr ?_; refine Go ?_; first | (refine goC 19 20 ?_ TT.mk) | (refine goC 19 20 (Hb.mk fun hb => ?_) (Hb.mk fun hb => ?_)))
  all_goals (first | (fail_if_success refine goB 19 ?_) | (
  refine goB 19 ?_
  all_goals (refine WC.skip ?_)
  skip))
  all_goals (first | (fail_if_success refine goB 20 ?_) | (
  refine goB 20 ?_
  all_goals (refine WC.sr ?_; refine Go ?_; refine goC 21 22 (Hb.mk fun hb => ?_) (Hb.mk fun hb => ?_))
  all_goals (first | (fail_if_success refine goB 21 ?_) | (
  refine goB 21 ?_
  all_goals (refine WC.skip ?_)
  skip))
  all_goals (first | (fail_if_success refine goB 22 ?_) | (
  refine goB 22 ?_
  all_goals (refine WC.sr ?_; refine Go ?_; refine Gs [(3, _), (14, _)] ?_; refine goC 23 24 (Hb.mk fun hb => ?_) (Hb.mk fun hb => ?_))
  all_goals (first | (fail_if_success refine goB 23 ?_) | (
  refine goB 23 ?_
  all_goals (refine WC.skip ?_)
  skip))
  all_goals (first | (fail_if_success refine goB 24 ?_) | (
  refine goB 24 ?_
  all_goals (refine WC.sr ?_; refine Go ?_; refine goC 25 26 (Hb.mk fun hb => ?_) (Hb.mk fun hb => ?_))
  all_goals (first | (fail_if_success refine goB 25 ?_) | (
  refine goB 25 ?_
  all_goals (refine WC.skip ?_)
  skip))
  all_goals (first | (fail_if_success refine goB 26 ?_) | (
  refine goB 26 ?_
  all_goals (refine WC.region ?_; refine Go ?_)
  skip))
  skip))
  skip))
  skip))
  all_goals (refine Gn ?_; first | (refine goC 27 28 ?_ TT.mk) | (refine goC 27 28 (Hb.mk fun hb => ?_) (Hb.mk fun hb => ?_)))
  all_goals (first | (fail_if_success refine goB 27 ?_) | (
  refine goB 27 ?_
  all_goals (refine WC.sr ?_; refine Go ?_; refine Gt ?_; exact ⟨⟨_, rfl, by unfold NeedK; omega⟩, rfl⟩)
  skip))
  all_goals (refine goB 28 ?_; refine WC.skip ?_; refine Gn ?_; refine WC.sr ?_; refine Go ?_; refine Gt ?_; exact ⟨⟨_, rfl, by unfold NeedK; omega⟩, rfl⟩)
set_option maxHeartbeats 2000000 in
set_option maxRecDepth 100000 in
theorem needs_code {h : Heap} (f : Fm) (hk : 0 ≤ f.kind ∧ f.kind ≤ 255) : CallsH Tryz.prog 13 ⟨[.agg ⟨f.cells⟩]⟩ h fun u h' => u = .bool (decide (NeedK f.kind)) ∧ Ext No h h' := by
  obtain ⟨k, w, n, p, t, vo, o, vf, fs, vs, rs, vp, ps, mx⟩ := f
  dsimp only [Fm.cells] at hk ⊢
  obtain ⟨c, rfl⟩ : ∃ c : UInt8, k = (c.toNat : Int) := ⟨UInt8.ofNat k.toNat, by rw [UInt8.toNat_ofNat']; omega⟩
  have hkn := known1 c
  by_cases h88 : (c.toNat : Int) = 88
  · have _ := h88
    refine calls [(0, _)] Tryz.func13 rfl Tryz.ntmps13 rfl ⟨rfl, trivial⟩ ?_
    all_goals (refine WC.sr ?_; refine WL.stepR (okE_box rfl) rfl rfl rfl ?_; rintro _ h1 ⟨b1, rfl, hg1, hb1, hx1⟩; refine Go ?_; refine WC.sr ?_; refine Go ?_; refine Ld ?_; refine Go ?_; refine goP 6 ?_ TT.mk; refine Gg ?_; refine WL.pass rfl rfl rfl ?_; refine WL.pass rfl rfl rfl ?_; refine Gg ?_; refine Go ?_; refine Gs [(2, _)] ?_; refine Gt ?_; exact ⟨by rw [decide_eq_false (by unfold NeedK; omega)], hx1⟩)
  · by_cases hn : NeedK (c.toNat : Int)
    · have h1' : knownI c = 1 := hkn.2 (.inl hn)
      rw [decide_eq_true hn]
      refine calls [(0, _)] Tryz.func13 rfl Tryz.ntmps13 rfl ⟨rfl, trivial⟩ ?_
      all_goals (refine WC.sr ?_; refine WL.stepR (okE_box rfl) rfl rfl rfl ?_; rintro _ h1 ⟨b1, rfl, hg1, hb1, hx1⟩; refine Go ?_; refine WC.sr ?_; refine Go ?_; refine Ld ?_; refine Go ?_; refine goP 6 ?_ TT.mk; refine Gg ?_; refine Ld ?_; refine WL.call (vs := [_]) rfl (fun a w => Tryz.call41 a w) rfl (known_front c) rfl rfl rfl ?_; rintro _ h2 ⟨rfl, hx2⟩; refine Gg ?_; refine Go ?_; refine Gs [(2, _)] ?_; refine Gt ?_; exact ⟨rfl, hx1.trans hx2⟩)
    · have h1' : ¬ knownI c = 1 := fun e => (hkn.1 e).elim hn h88
      rw [decide_eq_false hn]
      refine calls [(0, _)] Tryz.func13 rfl Tryz.ntmps13 rfl ⟨rfl, trivial⟩ ?_
      all_goals (refine WC.sr ?_; refine WL.stepR (okE_box rfl) rfl rfl rfl ?_; rintro _ h1 ⟨b1, rfl, hg1, hb1, hx1⟩; refine Go ?_; refine WC.sr ?_; refine Go ?_; refine Ld ?_; refine Go ?_; refine goP 6 ?_ TT.mk; refine Gg ?_; refine Ld ?_; refine WL.call (vs := [_]) rfl (fun a w => Tryz.call41 a w) rfl (known_front c) rfl rfl rfl ?_; rintro _ h2 ⟨rfl, hx2⟩; refine Gg ?_; refine Go ?_; refine Gs [(2, _)] ?_; refine Gt ?_; exact ⟨rfl, hx1.trans hx2⟩)
set_option maxHeartbeats 2000000 in
set_option maxRecDepth 100000 in
theorem needs_doc {h : Heap} (f : Fm) : CallsH Tryz.prog 14 ⟨[.agg ⟨f.cells⟩]⟩ h fun u h' => u = .bool (decide (NeedK f.kind)) ∧ Ext No h h' := by
  obtain ⟨k, w, n, p, t, vo, o, vf, fs, vs, rs, vp, ps, mx⟩ := f
  dsimp only [Fm.cells]
  by_cases h88 : k = 88
  · have _ := h88
    refine calls [(0, _)] Tryz.func14 rfl Tryz.ntmps14 rfl ⟨rfl, trivial⟩ ?_
    all_goals (refine WC.sr ?_; refine WL.stepR (okE_box rfl) rfl rfl rfl ?_; rintro _ h1 ⟨b1, rfl, hg1, hb1, hx1⟩; refine Go ?_; refine WC.sr ?_; refine Go ?_; refine Ld ?_; refine Go ?_; refine goP 6 ?_ TT.mk; refine Gg ?_; refine WL.pass rfl rfl rfl ?_; refine WL.pass rfl rfl rfl ?_; refine Gg ?_; refine Go ?_; refine Gs [(2, _)] ?_; refine Gt ?_; exact ⟨by rw [decide_eq_false (by unfold NeedK; omega)], hx1⟩)
  · by_cases hn : NeedK k
    · rw [decide_eq_true hn]
      refine calls [(0, _)] Tryz.func14 rfl Tryz.ntmps14 rfl ⟨rfl, trivial⟩ ?_
      all_goals (refine WC.sr ?_; refine WL.stepR (okE_box rfl) rfl rfl rfl ?_; rintro _ h1 ⟨b1, rfl, hg1, hb1, hx1⟩; refine Go ?_; refine WC.sr ?_; refine Go ?_; refine Ld ?_; refine Go ?_; refine goP 6 ?_ TT.mk; refine Gg ?_; refine Ld ?_; refine WL.call (vs := [_]) rfl (fun a w => Tryz.call42 a w) rfl (known06 k) rfl rfl rfl ?_; rintro _ _ ⟨⟨x, rfl, hx⟩, rfl⟩; obtain rfl := hx.2 (.inl hn); refine Gg ?_; refine Go ?_; refine Gs [(2, _)] ?_; refine Gt ?_; exact ⟨rfl, hx1⟩)
    · rw [decide_eq_false hn]
      refine calls [(0, _)] Tryz.func14 rfl Tryz.ntmps14 rfl ⟨rfl, trivial⟩ ?_
      all_goals (refine WC.sr ?_; refine WL.stepR (okE_box rfl) rfl rfl rfl ?_; rintro _ h1 ⟨b1, rfl, hg1, hb1, hx1⟩; refine Go ?_; refine WC.sr ?_; refine Go ?_; refine Ld ?_; refine Go ?_; refine goP 6 ?_ TT.mk; refine Gg ?_; refine Ld ?_; refine WL.call (vs := [_]) rfl (fun a w => Tryz.call42 a w) rfl (known06 k) rfl rfl rfl ?_; rintro _ _ ⟨⟨x, rfl, hx⟩, rfl⟩; (have hx1' : ¬ x = 1 := fun e => (hx.1 e).elim hn h88); refine Gg ?_; refine Go ?_; refine Gs [(2, _)] ?_; refine Gt ?_; exact ⟨rfl, hx1⟩)
end Go.Proofs.YtggmocdbfbhklaaGreat


/-
  SHIFTS; A MAP's ENTRY SET IN TWO STEPS. No program is named here.
-/
namespace Go.RK
open Go Go.MapKept Go.ChangeMaps

section
variable {P : Program} {f : Fr} {h : Heap} {d : Option Tmp} {ty : TypeId} {pos : String} {af : Array Edge} {g : Option (Nat × Bool)}
variable {t t2 : TypeId} {x y : Operand} {a b : Int}
theorem ok_shr (hx : f.ev x = some (In a)) (hy : f.ev y = some (In b)) (hb : 0 ≤ b ∧ b ≤ 64) : OkP P f ⟨d, .binOp .shr t x y t2, ty, pos, af, g⟩ h (In (a / 2 ^ b.toNat)) :=
  fun ρ w ha _ => by
    have h1 : ¬ b < 0 := by omega
    have h2 : min b.toNat 64 = b.toNat := by omega
    have h3 : (IntKind.i64).bits = 64 := rfl
    simp [execOp, ha _ _ hx, ha _ _ hy, eqGuard_shr, binOp_shr, Op.shift, h1, h3, h2]
theorem ok_shl (hx : f.ev x = some (In a)) (hy : f.ev y = some (In b)) (hb : 0 ≤ b ∧ b ≤ 64) (hr : -9223372036854775808 ≤ a * 2 ^ b.toNat ∧ a * 2 ^ b.toNat ≤ 9223372036854775807) : OkP P f ⟨d, .binOp .shl t x y t2, ty, pos, af, g⟩ h (In (a * 2 ^ b.toNat)) :=
  fun ρ w ha _ => by
    have h1 : ¬ b < 0 := by omega
    have h2 : min b.toNat 64 = b.toNat := by omega
    have h3 : (IntKind.i64).bits = 64 := rfl
    have h4 := wrap_i64 _ hr.1 hr.2
    simp [execOp, ha _ _ hx, ha _ _ hy, eqGuard_shl, binOp_shl, Op.shift, h1, h3, h2, h4]
end

/-! ### an entry in two steps -/
/-- Entry st of the map at block m is the one of key k; with its value set the map holds aput es k v. -/
def MpE {κ : Type} [DecidableEq κ] (dsc : TypeDesc) (enc : κ → Value) (h : Heap) (m : Nat) (es : List (κ × Value)) (k : κ) (st : Int) : Prop :=
  ∃ arr clock i, h[m]? = some (.map arr clock) ∧ arr.findIdx? (fun e => (e.born : Int) == st) = some i ∧
    ∀ v : Value, Stamped (arr.modify i fun e => { e with val := v }) clock ∧ ((arr.modify i fun e => { e with val := v }).toList.map (fun e => (e.key, e.val)) = (aput es k v).map fun p => (enc p.1, p.2))
section
variable {P : Program} {f : Fr} {h : Heap} {dd : Option Tmp} {ty : TypeId} {pos : String} {af : Array Edge} {g : Option (Nat × Bool)}
variable {κ : Type} [DecidableEq κ] {dsc : TypeDesc} {enc : κ → Value} {m : Nat} {es : List (κ × Value)} {k : κ}
theorem MpE.ext {S : Nat → Prop} {h' : Heap} {st : Int} (e : MpE dsc enc h m es k st) (a : Ext S h h') (hm : ¬ S m) : MpE dsc enc h' m es k st := by
  obtain ⟨arr, clock, i, hb, r⟩ := e
  exact ⟨arr, clock, i, a.obj hb hm, r⟩
theorem okE_entryStore {t : TypeId} {x s y : Operand} {v : Value} {st : Int} (hx : f.ev x = some (.map (some m))) (hs : f.ev s = some (In st)) (hy : f.ev y = some v) (he : MpE dsc enc h m es k st) :
    OkR P f ⟨dd, .entryStore t x s y, ty, pos, af, g⟩ h (fun _ h' => Mp dsc enc h' m (aput es k v) ∧ Ext (fun q => q = m) h h') := fun ρ w ha hw => by
  subst hw
  obtain ⟨arr, clock, i, hb, hf, hv⟩ := he
  refine ⟨undef, setBlock w m (.map (arr.modify i fun e => { e with val := v }) clock), ⟨rfl, rfl, rfl, by first | exact Nat.le_refl _ | exact Nat.le_add_right _ _⟩, ⟨⟨_, _, set_new hb, (hv v).1, (hv v).2⟩, Ext.set _ _ _ rfl⟩, .inr ⟨?_, rfl⟩⟩
  have hf' : arr.findIdx? (fun e => (e.born : Int) == st) = some i := hf
  simp [execOp, ha _ _ hx, ha _ _ hs, ha _ _ hy, Instr.entryStore, MapKept.run_getObj_map hb, asInt, asIntOf, hf', MapKept.run_setObj_map _ hb, setBlock]
/-- A key that is not there: the entry is made. -/
theorem okE_mapEntry {t kt et : TypeId} {x y : Operand} {z : Value} (E : KeyEnc κ dsc enc) (hu : P.underlying t = some (.map kt et)) (hd : P.underlying kt = some dsc) (hz : ∀ w, (zeroValue et).run P w = .ok z w) (hx : f.ev x = some (.map (some m))) (hy : f.ev y = some (enc k)) (hm : Mp dsc enc h m es) (hv : alook es k = Option.none) :
    OkR P f ⟨dd, .mapEntry t x y, ty, pos, af, g⟩ h (fun u h' => ∃ st, u = .tuple ⟨[z, In st]⟩ ∧ MpE dsc enc h' m es k st ∧ Ext (fun q => q = m) h h') := fun ρ w ha hw => by
  subst hw
  obtain ⟨arr, clock, hb, hs, he⟩ := hm
  rcases find_alook E he k with ⟨h1, h2, h3⟩ | ⟨j, v', e, h1, h2, _⟩
  · refine ⟨_, setBlock w m (.map (arr.push { key := enc k, val := z, born := clock }) (clock + 1)), ⟨rfl, rfl, rfl, by first | exact Nat.le_refl _ | exact Nat.le_add_right _ _⟩, ⟨(clock : Int), rfl, ⟨_, _, arr.size, set_new hb, ?_, fun v => ?_⟩, Ext.set _ _ _ rfl⟩, .inl ?_⟩
    · rw [Array.findIdx?_push]
      have h0 : arr.findIdx? (fun e => (e.born : Int) == (clock : Int)) = Option.none := by
        rw [Array.findIdx?_eq_none_iff]
        intro x hx
        have := hs.1 x (by simpa using hx)
        simp
        omega
      rw [h0]
      simp
    · have hmod : (arr.push { key := enc k, val := z, born := clock }).modify arr.size (fun e => { e with val := v }) = arr.push { key := enc k, val := v, born := clock } := by
        apply Array.ext_getElem?
        intro i
        rw [Array.getElem?_modify, Array.getElem?_push, Array.getElem?_push]
        by_cases e : i = arr.size
        · subst e; simp
        · rw [if_neg (fun q => e q.symm), if_neg e, if_neg e]
      rw [hmod]
      exact ⟨stamped_push hs h3, by simp [aput, h2, he]⟩
    · simp [execOp, ha _ _ hx, ha _ _ hy, Instr.mapEntry, run_underlying hu, MapKept.run_getObj_map hb, run_checkKey hd (E.key k), run_findKey hd h1, hz, MapKept.run_setObj_map _ hb, goInt, setBlock]
  · rw [hv] at h2; cases h2
end
end Go.RK

/-
  A TEXT APPENDED TO A ROW OF BYTES; unsafe.String of a row of which a text was taken before. No program is named here.
-/
namespace Go.RK
open Go

section
variable {P : Program} {f : Fr} {h : Heap} {d : Option Tmp} {ty : TypeId} {pos : String} {af : Array Edge} {g : Option (Nat × Bool)}
theorem okE_appendS {x y : Operand} {t u e : TypeId} {i : TypeInfo} {ts : Array TypeId} (hts : ts = #[t, u]) (ht : P.underlying t = some (.slice e)) (hu : P.underlying u = some .string) (hi : P.info? e = some i) (hz : i.zero = some (.int .u8 0)) (hsz : i.size = 1) (hby : i.bytes = 1)
    {v : Value} {n : Nat} {xs : List Value} {s : List UInt8} (hx : f.ev x = some v) (hy : f.ev y = some (St s)) (hown : Own h v e 1 n xs) (hm : n + s.length ≤ 140737488355328) :
    OkR P f ⟨d, .call { callee := .builtin .append, args := #[x, y], argTypes := ts }, ty, pos, af, g⟩ h
      (fun v' h' => Own h' v' e 1 (n + s.length) (xs ++ bys s) ∧ Ext (fun k => v.ownBlock = some k) h h' ∧ (∀ k, v'.ownBlock = some k → v.ownBlock = some k ∨ h.size ≤ k) ∧ (v' = .slice Option.none 0 0 ↔ v = .slice Option.none 0 0 ∧ s = [])) :=
  fun ρ w ha hw => by
    subst hw
    subst hts
    have hup := hown.up
    have e63 : n + (ByteArray.mk ⟨s⟩).size ≤ maxLen := by show n + s.length ≤ maxLen; unfold maxLen; omega
    obtain ⟨v', w', hr, ho', hgr, hiff⟩ := Lib.run_append_own_string (P := P) w 0 t u ty e i ht hu hi hz hsz hby v n xs hup ⟨⟨s⟩⟩ e63 hm (Nat.zero_le _)
    have hloc : ∀ k, v'.ownBlock = some k → v.ownBlock = some k ∨ w.heap.size ≤ k := by
      intro k hk
      obtain ⟨hl, ⟨rfl, hn0⟩ | ⟨g0, cap, cur, rfl, hg0, hn, hc, hs, htk⟩⟩ := hown
      · have hup2 : w.ownsRow w.heap.size e 1 (.slice Option.none 0 0) n xs := ⟨hl, .inl ⟨rfl, hn0⟩⟩
        obtain ⟨v2, w2, hr2, ho2, _, _⟩ := Lib.run_append_own_string (P := P) w w.heap.size t u ty e i ht hu hi hz hsz hby _ n xs hup2 ⟨⟨s⟩⟩ e63 hm (Nat.le_refl _)
        rw [hr] at hr2
        injection hr2 with e1 e2
        subst e1
        obtain ⟨_, ⟨rfl, _⟩ | ⟨g1, _, _, rfl, hb, _⟩⟩ := ho2
        · cases hk
        · simp only [Value.ownBlock, Option.some.injEq] at hk
          exact .inr (hk ▸ hb)
      · by_cases hroom : n + (ByteArray.mk ⟨s⟩).size ≤ cap
        · have hr2 := Lib.run_append_room_string (P := P) w t u ty e i ht hu hi hsz g0 n cap cur hg0 ⟨⟨s⟩⟩ hroom (by rw [hs]; simpa using hroom)
          rw [hr] at hr2
          injection hr2 with e1 e2
          subst e1
          exact .inl hk
        · have hxl : xs.length = n := by simpa using hl
          have holds := hup.cells (g := g0) rfl
          have hr2 := Lib.run_append_grow_string (P := P) w t u ty e i (.int .u8 0) ht hu hi hz ⟨g0, 0, Option.none⟩ n cap xs (by rw [hsz]; omega) holds ⟨⟨s⟩⟩ (by omega) (by unfold maxLen at e63; omega) (by rw [hby]; exact growslice_fits (by omega) (by show (n + s.length) * 1 ≤ 140737488355328; omega))
          rw [hr] at hr2
          injection hr2 with e1 e2
          subst e1
          simp only [Value.ownBlock, Option.some.injEq] at hk
          exact .inr (by omega)
    refine ⟨v', w', ⟨hgr.tape, hgr.os, hgr.output, run_drawn _ hr⟩, ⟨.down ho', ⟨hgr.size, fun k hk hS => hgr.block k hk (fun e => hS e.symm)⟩, hloc, ?_⟩, .inl ?_⟩
    · rw [hiff]
      constructor
      · rintro ⟨h1, h2⟩
        exact ⟨h1, List.eq_nil_of_length_eq_zero h2⟩
      · rintro ⟨h1, rfl⟩
        exact ⟨h1, rfl⟩
    · simp [execOp, resolve, invoke, builtin, ha _ _ hx, ha _ _ hy, hr]
end
end Go.RK

