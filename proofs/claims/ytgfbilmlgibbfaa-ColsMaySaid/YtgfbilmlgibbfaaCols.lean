/-
  COLS (layer 10): package cols and the document's.
-/
import Derived.Test.YtgfbilmlgibbfaaDig
import Derived.Test.YtgfbilmlgibbfaaCell
namespace Go.Proofs.Ytgfbilmlgibbfaa
open Go Go.RK

/-- How many: from 0 to 1000. -/
def heldN (n : Int) : Nat := (min (max n 0) 1000).toNat
theorem held_le (n : Int) : heldN n ≤ 1000 := by unfold heldN; omega
set_option maxRecDepth 100000 in
theorem held_cols {h : Heap} (n : Int) : CallsH Try.prog 108 ⟨[In n]⟩ h fun u h' => u = In (heldN n) ∧ h' = h := by
  refine calls [(0, _)] Try.func108 rfl Try.ntmps108 rfl ⟨rfl, trivial⟩ ?_
  all_goals (refine WC.seq ?_)
  all_goals (refine WC.region ?_)
  all_goals (refine WL.step (ok_assign rfl) rfl rfl rfl ?_)
  all_goals (refine WL.nil ?_)
  all_goals (repeat' (with_reducible first | refine thenP_n ?_ | refine blockP_n ?_))
  all_goals (refine WC.seq ?_)
  all_goals (refine WC.region ?_)
  all_goals (refine WL.step (ok_move rfl) rfl rfl rfl ?_)
  all_goals (refine WL.step (ok_max2 rfl rfl) rfl rfl rfl ?_)
  all_goals (refine WL.step (ok_min2 rfl rfl) rfl rfl rfl ?_)
  all_goals (refine WL.step (ok_assign rfl) rfl rfl rfl ?_)
  all_goals (refine WL.nil ?_)
  all_goals (repeat' (with_reducible first | refine thenP_n ?_ | refine blockP_n ?_))
  all_goals (refine WC.sub [(2, _)] ⟨rfl, trivial⟩ ?_)
  all_goals (refine WC.ret ?_)
  all_goals (repeat' (with_reducible first | refine thenP_r ?_ | refine blockP_r ?_))
  all_goals (refine retP_1 _ ⟨rfl, trivial⟩ ?_)
  all_goals (exact ⟨by unfold heldN; congr 1; omega, rfl⟩)
set_option maxRecDepth 100000 in
theorem held_ref {h : Heap} (n : Int) : CallsH Try.prog 76 ⟨[In n]⟩ h fun u h' => u = In (heldN n) ∧ h' = h := by
  refine calls [(0, _)] Try.func76 rfl Try.ntmps76 rfl ⟨rfl, trivial⟩ ?_
  all_goals (refine WC.seq ?_)
  all_goals (refine WC.region ?_)
  all_goals (refine WL.step (ok_assign rfl) rfl rfl rfl ?_)
  all_goals (refine WL.nil ?_)
  all_goals (repeat' (with_reducible first | refine thenP_n ?_ | refine blockP_n ?_))
  all_goals (refine WC.seq ?_)
  all_goals (refine WC.region ?_)
  all_goals (refine WL.step (ok_move rfl) rfl rfl rfl ?_)
  all_goals (refine WL.step (ok_max2 rfl rfl) rfl rfl rfl ?_)
  all_goals (refine WL.step (ok_min2 rfl rfl) rfl rfl rfl ?_)
  all_goals (refine WL.step (ok_assign rfl) rfl rfl rfl ?_)
  all_goals (refine WL.nil ?_)
  all_goals (repeat' (with_reducible first | refine thenP_n ?_ | refine blockP_n ?_))
  all_goals (refine WC.sub [(2, _)] ⟨rfl, trivial⟩ ?_)
  all_goals (refine WC.ret ?_)
  all_goals (repeat' (with_reducible first | refine thenP_r ?_ | refine blockP_r ?_))
  all_goals (refine retP_1 _ ⟨rfl, trivial⟩ ?_)
  all_goals (exact ⟨by unfold heldN; congr 1; omega, rfl⟩)
/-- The rows that are said. -/
def rowP (i : Nat) : List (Bool × List UInt8) := [(false, deci i)]
set_option maxRecDepth 100000 in
theorem row_cols {h : Heap} (i : Nat) (hi : i ≤ 100000) : CallsH Try.prog 75 ⟨[In i]⟩ h fun u h' => ∃ l, Cels h' u l ∧ l.map Cel.pl = rowP i ∧ Ext No h h' ∧ ∀ b, CelsF u l b → h.size ≤ b := by
  have hdl := deci_len i (by omega)
  refine calls [(0, _)] Try.func75 rfl Try.ntmps75 rfl ⟨rfl, trivial⟩ ?_
  all_goals (refine WC.seq ?_)
  all_goals (refine WC.region ?_)
  all_goals (refine WL.step (ok_assign rfl) rfl rfl rfl ?_)
  all_goals (refine WL.nil ?_)
  all_goals (repeat' (with_reducible first | refine thenP_n ?_ | refine blockP_n ?_))
  all_goals (refine WC.seq ?_)
  all_goals (refine WC.region ?_)
  all_goals (refine WL.step (ok_move rfl) rfl rfl rfl ?_)
  all_goals (refine WL.call (vs := [_]) rfl (fun a w => Try.call80 a w) rfl (text_any i (by omega) (by omega)) rfl rfl rfl ?_
             rintro _ h1 ⟨rfl, hx1⟩)
  all_goals (refine WL.stepR (okE_convSB Try.underlying9 Try.underlying51 Try.underlying5 rfl) rfl rfl rfl ?_
             rintro _ h2 ⟨b2, c2, rfl, hg2, hr2, hx2⟩)
  all_goals (refine WL.step (ok_buildF (vs := [_]) (cs := [_, _]) (fun | [a1] => [(.bool false), a1] | _ => []) rfl rfl (by kernel_rfl)) rfl rfl rfl ?_)
  all_goals (refine WL.stepR (okE_buildSlice (vs := [_]) (cs := [_, _]) (fun | [.agg ⟨[a0, a1]⟩] => [a0, a1] | _ => []) Try.underlying36 rfl rfl (by kernel_rfl)) rfl rfl rfl ?_
             rintro _ h3 ⟨b3, rfl, hg3, hb3, hx3⟩)
  all_goals (refine WL.step (ok_assign rfl) rfl rfl rfl ?_)
  all_goals (refine WL.nil ?_)
  all_goals (repeat' (with_reducible first | refine thenP_n ?_ | refine blockP_n ?_))
  all_goals (refine WC.sub [(2, _)] ⟨rfl, trivial⟩ ?_)
  all_goals (refine WC.ret ?_)
  all_goals (repeat' (with_reducible first | refine thenP_r ?_ | refine blockP_r ?_))
  all_goals (refine retP_1 _ ⟨rfl, trivial⟩ ?_)
  all_goals (exact ⟨[⟨false, .slice (some ⟨b2, 0, none⟩) (deci i).length c2, deci i⟩], ⟨rd_blk hb3 rfl, ⟨by simp [reachBytes], _, _, rfl, by simp [maxLen]⟩, by simpa [Cel.ok] using ⟨hr2.ext0 hx3, by unfold reachBytes; omega⟩⟩, rfl, (hx1.trans hx2).trans hx3, by rintro b (⟨_, e⟩ | ⟨c, hc, _, e⟩); simp [Value.ownBlock] at e; have := hx1.size; have := hx2.size; omega; simp at hc; subst hc; simp [Value.ownBlock] at e; have := hx1.size; omega⟩)
/-- What a list of rows that is being made has. -/
structure Mk (h0 h : Heap) (v : Value) (L : List Rw) : Prop where
  own : Own h v 36 1 L.length (L.map Rw.v)
  rows : ∀ r ∈ L, Cels h r.v r.l
  ext : Ext No h0 h
  fresh : ∀ k, v.ownBlock = some k → h0.size ≤ k
  apart : ∀ r ∈ L, ∀ b, CelsF r.v r.l b → v.ownBlock ≠ some b
theorem Mk.done {h0 h : Heap} {v : Value} {L : List Rw} (m : Mk h0 h v L) (hl : L.length ≤ 100000) (hc : ∃ A c, v = .slice A L.length c ∧ c ≤ maxLen) : Rws h v L := ⟨m.own.rd, ⟨by unfold reachBytes; omega, hc⟩, m.rows⟩
theorem Mk.next {h0 h h1 h3 h4 : Heap} {v v4 u : Value} {L : List Rw} {l : List Cel} (m : Mk h0 h v L) (x1 : Ext No h h1) (c1 : Cels h1 u l) (f1 : ∀ b, CelsF u l b → h.size ≤ b) (x3 : Ext No h1 h3)
    (o4 : Own h4 v4 36 1 (L.length + 1) (L.map Rw.v ++ [u])) (x4 : Ext (fun k => v.ownBlock = some k) h3 h4) (hl : v4.ownBlock = v.ownBlock ∨ v4.ownBlock = some h3.size) : Mk h0 h4 v4 (L ++ [⟨u, l⟩]) := by
  have s0 := m.ext.size
  have s1 := x1.size
  have s3 := x3.size
  have x13 := x1.trans x3
  refine ⟨by simpa using o4, fun r hr => ?_, (m.ext.trans x13).trans' x4 fun k hk e => ?_, fresh_of hl m.fresh (by omega), fun r hr b hb e => ?_⟩
  · rcases List.mem_append.1 hr with hr | hr
    · exact ((m.rows r hr).ext0 x13).ext x4 fun b hb e => m.apart r hr b hb e
    · simp at hr
      subst hr
      refine (c1.ext0 x3).ext x4 fun b hb e => ?_
      have := f1 b hb
      have := m.own.lt e
      omega
  · have := m.fresh k e; omega
  · rcases List.mem_append.1 hr with hr | hr
    · have h1 := m.apart r hr b hb
      have h2 := (m.rows r hr).lt hb
      rcases hl with hl | hl
      · exact h1 (hl ▸ e)
      · rw [hl] at e; simp at e; omega
    · simp at hr
      subst hr
      have h1 := f1 b hb
      have h2 := c1.lt hb
      rcases hl with hl | hl
      · rw [hl] at e
        have := m.own.lt e
        omega
      · rw [hl] at e; simp at e; omega
theorem Mk.nil (h : Heap) : Mk h h (.slice none 0 0) [] := ⟨Own.nil _ _ _, by simp, .refl _ _, by simp [Value.ownBlock], by simp⟩
/-- So many rows. -/
def rowsP (n : Nat) : List (List (Bool × List UInt8)) := (List.range n).map fun i => rowP (i + 1)
theorem rowsP_succ (n : Nat) : rowsP (n + 1) = rowsP n ++ [rowP (n + 1)] := by unfold rowsP; rw [List.range_succ]; simp
theorem rowsP_len (n : Nat) : (rowsP n).length = n := by simp [rowsP]

set_option maxRecDepth 100000 in
theorem each_rows {h : Heap} (n : Int) : CallsH Try.prog 74 ⟨[In n, .func (.func 75) #[] #[]]⟩ h fun u h' => ∃ L, Rws h' u L ∧ L.map Rw.pl = rowsP (heldN n) ∧ Ext No h h' ∧ ∀ b, RwsF u L b → h.size ≤ b := by
  have hh := held_le n
  refine calls [(0, _), (1, _)] Try.func74 rfl Try.ntmps74 rfl ⟨rfl, rfl, trivial⟩ ?_
  all_goals (refine WC.seq ?_)
  all_goals (refine WC.region ?_)
  all_goals (refine WL.step (ok_assign rfl) rfl rfl rfl ?_)
  all_goals (refine WL.nil ?_)
  all_goals (repeat' (with_reducible first | refine thenP_n ?_ | refine blockP_n ?_))
  all_goals (refine WC.seq ?_)
  all_goals (refine WC.region ?_)
  all_goals (refine WL.step (ok_assign rfl) rfl rfl rfl ?_)
  all_goals (refine WL.nil ?_)
  all_goals (repeat' (with_reducible first | refine thenP_n ?_ | refine blockP_n ?_))
  all_goals (refine WC.seq ?_)
  all_goals (refine WC.seq ?_)
  all_goals (refine WC.region ?_)
  all_goals (refine WL.step (ok_move rfl) rfl rfl rfl ?_)
  all_goals (refine WL.call (vs := [_]) rfl (fun a w => Try.call108 a w) rfl (held_cols n) rfl rfl rfl ?_
             rintro _ hz ⟨rfl, _⟩
             subst hz)
  all_goals (refine WL.step (ok_move rfl) rfl rfl rfl ?_)
  all_goals (refine WL.nil ?_)
  all_goals (repeat' (with_reducible first | refine thenP_n ?_ | refine blockP_n ?_))
  all_goals (refine WC.block ?_)
  -- loop 0: slots that turn [5, 9], that stay [1, 8]
  all_goals (refine WC.loopG (X := Nat × Value × List Rw) (fun x => ([(5, x.2.1), (9, In (x.1 : Int))] : Fr)) [(1, _), (8, _)] (fun x h' => x.1 ≤ heldN n ∧ Mk h h' x.2.1 x.2.2 ∧ x.2.2.map Rw.pl = rowsP x.1 ∧ ∀ r ∈ x.2.2, ∀ b, CelsF r.v r.l b → h.size ≤ b) (fun x => heldN n - x.1) ((0, .slice none 0 0, [])) ⟨rfl, rfl, rfl, rfl, trivial⟩ (by exact ⟨Nat.zero_le _, Mk.nil h, rfl, by simp⟩) ?_)
  all_goals (rintro ⟨k, v1, L⟩ h1 ⟨hk, mk, hp, hf⟩
             simp only at hk mk hp hf
             have hL : L.length = k := by simpa [rowsP_len] using congrArg List.length hp
             obtain ⟨A1, c1, rfl, _⟩ := mk.own.slice)
  all_goals (refine WC.sub [(5, _), (9, _), (1, _), (8, _)] ⟨rfl, rfl, rfl, rfl, trivial⟩ ?_)
  all_goals (dsimp only)
  all_goals (refine WC.seq ?_)
  all_goals (refine WC.region ?_)
  all_goals (first | (refine WL.step (OkP.bool_t (by omega) (ok_lss rfl rfl)) rfl rfl rfl ?_) | (refine WL.step (OkP.bool_f (by omega) (ok_lss rfl rfl)) rfl rfl rfl ?_) | (refine WL.step (ok_lss rfl rfl) rfl rfl rfl ?_))
  all_goals (refine WL.nil ?_)
  all_goals (repeat' (with_reducible first | refine thenP_n ?_ | refine blockP_n ?_))
  all_goals (refine WC.seq ?_)
  all_goals (first | refine WC.condB_t 1 rfl ?_ | refine WC.condB_f 2 rfl ?_ | (refine WC.condB 1 2 rfl (fun hb => ?_) (fun hb => ?_) <;> (first | replace hb := of_decide_eq_true hb | replace hb := of_decide_eq_false hb | replace hb := of_decide_eq_false (nt hb) | replace hb := of_decide_eq_true (nf hb) | skip)))
  all_goals (first
    | (fail_if_success (refine Br.mk (i := 1) ?_))
    | (refine Br.mk (i := 1) ?_
       all_goals (refine WC.skip ?_)
       skip))
  all_goals (first
    | (fail_if_success (refine Br.mk (i := 2) ?_))
    | (refine Br.mk (i := 2) ?_
       all_goals (refine WC.exit ?_)
       all_goals (repeat' (with_reducible first | refine thenP_x ?_ | refine blockP_miss rfl ?_ | refine blockP_hit ?_ | refine blockP_n ?_ | refine thenP_n ?_))
       all_goals (refine Br.out (i := 1000) ?_)
       skip))
  all_goals (first | (refine Br.keep ?_) | (repeat' (with_reducible first | refine thenP_n ?_ | refine blockP_n ?_)))
  all_goals (first | (refine Br.keep ?_) | (refine WC.seq ?_))
  all_goals (first | (refine Br.keep ?_) | (refine WC.block ?_))
  all_goals (first | (refine Br.keep ?_) | (refine WC.seq ?_))
  all_goals (first | (refine Br.keep ?_) | (refine WC.region ?_))
  all_goals (first | (refine Br.keep ?_) | (refine WL.step (ok_move rfl) rfl rfl rfl ?_))
  all_goals (first | (refine Br.keep ?_) | (refine WL.step (ok_assign rfl) rfl rfl rfl ?_))
  all_goals (first | (refine Br.keep ?_) | (refine WL.nil ?_))
  all_goals (first | (refine Br.keep ?_) | (repeat' (with_reducible first | refine thenP_n ?_ | refine blockP_n ?_)))
  all_goals (first | (refine Br.keep ?_) | (refine WC.region ?_))
  all_goals (first | (refine Br.keep ?_) | (refine WL.step (ok_move rfl) rfl rfl rfl ?_))
  all_goals (first | (refine Br.keep ?_) | (refine WL.step (ok_move rfl) rfl rfl rfl ?_))
  all_goals (first | (refine Br.keep ?_) | (refine WL.step (ok_move rfl) rfl rfl rfl ?_))
  all_goals (first | (refine Br.keep ?_) | (first | (refine WL.step (ok_addI rfl rfl (by omega)) rfl rfl rfl ?_) | (refine WL.step (ok_add rfl rfl) rfl rfl rfl ?_)))
  all_goals (first
               | (refine Br.keep ?_)
               | (have e1 : ((k : Int) + 1) = ((k + 1 : Nat) : Int) := by omega
                  rw [e1]))
  all_goals (first
               | (refine Br.keep ?_)
               | (refine WL.callT (vs := [_]) rfl rfl (fun a w => Try.call75 a w) rfl (row_cols (k + 1) (by omega)) rfl rfl rfl ?_
                  rintro u2 h2 ⟨l2, hc2, hp2, hx2, hf2⟩))
  all_goals (first | (refine Br.keep ?_) | (obtain ⟨A2, c2, rfl⟩ : ∃ A c, u2 = .slice A l2.length c := (by obtain ⟨_, ⟨_, A, c, e, _⟩, _⟩ := hc2; exact ⟨A, c, e⟩)))
  all_goals (first
               | (refine Br.keep ?_)
               | (refine WL.stepR (okE_buildSlice (vs := [_]) (cs := [_]) (fun | [a0] => [a0] | _ => []) Try.underlying37 rfl rfl (by kernel_rfl)) rfl rfl rfl ?_
                  rintro _ h3 ⟨b3, rfl, hg3, hb3, hx3⟩))
  all_goals (first
               | (refine Br.keep ?_)
               | (refine WL.stepR (ok_append (sz := 1) (bytes := 24) rfl Try.underlying37 (show Try.prog.info? 36 = some Try.t36 by kernel_rfl) rfl rfl rfl rfl (by decide) rfl rfl (mk.own.ext (hx2.trans hx3) (fun _ _ => nos)) (rd_blk hb3 rfl) (by simp [Value.oneCell']) (by simp only [maxLen]; omega) (by omega)) rfl rfl rfl ?_
                  rintro v4 h4 ⟨ho4, hx4, hl4⟩))
  all_goals (first | (refine Br.keep ?_) | (have mk4 := mk.next hx2 hc2 hf2 hx3 ho4 hx4 hl4))
  all_goals (first | (refine Br.keep ?_) | (refine WL.step (ok_assign rfl) rfl rfl rfl ?_))
  all_goals (first | (refine Br.keep ?_) | (refine WL.nil ?_))
  all_goals (first | (refine Br.keep ?_) | (repeat' (with_reducible first | refine thenP_n ?_ | refine blockP_n ?_)))
  all_goals (first | (refine Br.keep ?_) | (refine WC.sub [(1, _), (5, _), (8, _), (9, _)] ⟨rfl, rfl, rfl, rfl, trivial⟩ ?_))
  all_goals (first | (refine Br.keep ?_) | (refine WC.region ?_))
  all_goals (first | (refine Br.keep ?_) | (first | (refine WL.step (ok_addI rfl rfl (by omega)) rfl rfl rfl ?_) | (refine WL.step (ok_add rfl rfl) rfl rfl rfl ?_)))
  all_goals (first | (refine Br.keep ?_) | (refine WL.step (ok_move rfl) rfl rfl rfl ?_))
  all_goals (first | (refine Br.keep ?_) | (refine WL.nil ?_))
  all_goals (first | (refine Br.keep ?_) | (repeat' (with_reducible first | refine thenP_n ?_ | refine blockP_n ?_)))
  all_goals (first | (refine Br.keep ?_) | (exact ⟨(k + 1, _, L ++ [_]), ⟨rfl, rfl, rfl, rfl, trivial⟩, (by exact ⟨by simp; omega, mk4, by rw [List.map_append, hp, rowsP_succ]; simp [Rw.pl, hp2], fun r hr b hb => (List.mem_append.1 hr).elim (fun hr => hf r hr b hb) (fun hr => by simp at hr; subst hr; have := hf2 b hb; have := mk.ext.size; omega)⟩), (by simp; omega)⟩))
  all_goals (try (refine Br.mk (i := 1000) ?_))
  all_goals (repeat' (with_reducible first | refine thenP_n ?_ | refine blockP_n ?_))
  all_goals (refine WC.sub [(5, _)] ⟨rfl, trivial⟩ ?_)
  all_goals (refine WC.seq ?_)
  all_goals (refine WC.region ?_)
  all_goals (refine WL.step (ok_move rfl) rfl rfl rfl ?_)
  all_goals (refine WL.step (ok_assign rfl) rfl rfl rfl ?_)
  all_goals (refine WL.nil ?_)
  all_goals (repeat' (with_reducible first | refine thenP_n ?_ | refine blockP_n ?_))
  all_goals (refine WC.ret ?_)
  all_goals (repeat' (with_reducible first | refine thenP_r ?_ | refine blockP_r ?_))
  all_goals (refine retP_1 _ ⟨rfl, trivial⟩ ?_)
  all_goals (exact ⟨L, mk.done (by omega) mk.own.cap, by rw [hp, show k = heldN n by omega], mk.ext, fun b hb => hb.elim (fun e => mk.fresh b e.2) (fun ⟨r, hr, e⟩ => hf r hr b e)⟩)
theorem cels_one {h : Heap} {A : Option Addr} {c b : Nat} {D : List UInt8} {e : TypeId} {z : Nat × Nat} (hr : Rd h (.slice A D.length c) 1 D.length (bys D)) (hD : D.length ≤ 1000) (hb : h[b]? = some (.cells ⟨[.bool false, .slice A D.length c]⟩ e z)) :
    Cels h (.slice (some ⟨b, 0, none⟩) 1 1) [⟨false, .slice A D.length c, D⟩] :=
  ⟨rd_blk hb rfl, ⟨by simp [reachBytes], _, _, rfl, by simp [maxLen]⟩, fun x hx => by
    simp only [List.mem_singleton] at hx
    subst hx
    exact ⟨hr, by show D.length ≤ reachBytes; unfold reachBytes; omega⟩⟩
set_option maxRecDepth 100000 in
theorem rows_cols {h : Heap} (n : Int) : CallsH Try.prog 21 ⟨[In n]⟩ h fun u h' => ∃ L, Rws h' u L ∧ L.map Rw.pl = rowsP (heldN n) ∧ Ext No h h' ∧ ∀ b, RwsF u L b → h.size ≤ b := by
  refine calls [(0, _)] Try.func21 rfl Try.ntmps21 rfl ⟨rfl, trivial⟩ ?_
  all_goals (refine WC.seq ?_)
  all_goals (refine WC.region ?_)
  all_goals (refine WL.step (ok_assign rfl) rfl rfl rfl ?_)
  all_goals (refine WL.nil ?_)
  all_goals (repeat' (with_reducible first | refine thenP_n ?_ | refine blockP_n ?_))
  all_goals (refine WC.seq ?_)
  all_goals (refine WC.region ?_)
  all_goals (refine WL.step (ok_move rfl) rfl rfl rfl ?_)
  all_goals (refine WL.call (vs := [_, _]) rfl (fun a w => Try.call74 a w) rfl (each_rows n) rfl rfl rfl ?_
             rintro u1 h1 h2)
  all_goals (refine WL.step (ok_assign rfl) rfl rfl rfl ?_)
  all_goals (refine WL.nil ?_)
  all_goals (repeat' (with_reducible first | refine thenP_n ?_ | refine blockP_n ?_))
  all_goals (refine WC.ret ?_)
  all_goals (repeat' (with_reducible first | refine thenP_r ?_ | refine blockP_r ?_))
  all_goals (refine retP_1 _ ⟨rfl, trivial⟩ ?_)
  all_goals (exact h2)
set_option maxRecDepth 100000 in
theorem rows_ref {h : Heap} (n : Int) : CallsH Try.prog 22 ⟨[In n]⟩ h fun u h' => ∃ L, Rws h' u L ∧ L.map Rw.pl = rowsP (heldN n) ∧ Ext No h h' ∧ ∀ b, RwsF u L b → h.size ≤ b := by
  have hh := held_le n
  refine calls [(0, _)] Try.func22 rfl Try.ntmps22 rfl ⟨rfl, trivial⟩ ?_
  all_goals (refine WC.seq ?_)
  all_goals (refine WC.region ?_)
  all_goals (refine WL.step (ok_assign rfl) rfl rfl rfl ?_)
  all_goals (refine WL.nil ?_)
  all_goals (repeat' (with_reducible first | refine thenP_n ?_ | refine blockP_n ?_))
  all_goals (refine WC.seq ?_)
  all_goals (refine WC.region ?_)
  all_goals (refine WL.step (ok_assign rfl) rfl rfl rfl ?_)
  all_goals (refine WL.nil ?_)
  all_goals (repeat' (with_reducible first | refine thenP_n ?_ | refine blockP_n ?_))
  all_goals (refine WC.seq ?_)
  all_goals (refine WC.seq ?_)
  all_goals (refine WC.region ?_)
  all_goals (refine WL.step (ok_assign rfl) rfl rfl rfl ?_)
  all_goals (refine WL.nil ?_)
  all_goals (repeat' (with_reducible first | refine thenP_n ?_ | refine blockP_n ?_))
  all_goals (refine WC.block ?_)
  -- loop 0: slots that turn [3, 4], that stay [0]
  all_goals (refine WC.loopG (X := Nat × Value × List Rw) (fun x => ([(3, x.2.1), (4, In ((x.1 : Int) + 1))] : Fr)) [(0, _)] (fun x h' => x.1 ≤ heldN n ∧ Mk h h' x.2.1 x.2.2 ∧ x.2.2.map Rw.pl = rowsP x.1 ∧ ∀ r ∈ x.2.2, ∀ b, CelsF r.v r.l b → h.size ≤ b) (fun x => heldN n - x.1) ((0, .slice none 0 0, [])) ⟨rfl, rfl, rfl, trivial⟩ (by exact ⟨Nat.zero_le _, Mk.nil h, rfl, by simp⟩) ?_)
  all_goals (rintro ⟨k, v1, L⟩ h1 ⟨hk, mk, hp, hf⟩
             simp only at hk mk hp hf
             have hL : L.length = k := by simpa [rowsP_len] using congrArg List.length hp
             obtain ⟨A1, c1, rfl, _⟩ := mk.own.slice)
  all_goals (refine WC.sub [(3, _), (4, _), (0, _)] ⟨rfl, rfl, rfl, trivial⟩ ?_)
  all_goals (dsimp only)
  all_goals (refine WC.seq ?_)
  all_goals (refine WC.seq ?_)
  all_goals (refine WC.region ?_)
  all_goals (refine WL.step (ok_move rfl) rfl rfl rfl ?_)
  all_goals (refine WL.step (ok_move rfl) rfl rfl rfl ?_)
  all_goals (refine WL.call (vs := [_]) rfl (fun a w => Try.call76 a w) rfl (held_ref n) rfl rfl rfl ?_
             rintro _ hz ⟨rfl, _⟩
             subst hz)
  all_goals (first | (refine WL.step (OkP.bool_t (by omega) (ok_leq rfl rfl)) rfl rfl rfl ?_) | (refine WL.step (OkP.bool_f (by omega) (ok_leq rfl rfl)) rfl rfl rfl ?_) | (refine WL.step (ok_leq rfl rfl) rfl rfl rfl ?_))
  all_goals (refine WL.nil ?_)
  all_goals (repeat' (with_reducible first | refine thenP_n ?_ | refine blockP_n ?_))
  all_goals (first | refine WC.condB_t 1 rfl ?_ | refine WC.condB_f 2 rfl ?_ | (refine WC.condB 1 2 rfl (fun hb => ?_) (fun hb => ?_) <;> (first | replace hb := of_decide_eq_true hb | replace hb := of_decide_eq_false hb | replace hb := of_decide_eq_false (nt hb) | replace hb := of_decide_eq_true (nf hb) | skip)))
  all_goals (first
    | (fail_if_success (refine Br.mk (i := 1) ?_))
    | (refine Br.mk (i := 1) ?_
       all_goals (refine WC.skip ?_)
       skip))
  all_goals (first
    | (fail_if_success (refine Br.mk (i := 2) ?_))
    | (refine Br.mk (i := 2) ?_
       all_goals (refine WC.exit ?_)
       all_goals (repeat' (with_reducible first | refine thenP_x ?_ | refine blockP_miss rfl ?_ | refine blockP_hit ?_ | refine blockP_n ?_ | refine thenP_n ?_))
       all_goals (refine Br.out (i := 1000) ?_)
       skip))
  all_goals (first | (refine Br.keep ?_) | (repeat' (with_reducible first | refine thenP_n ?_ | refine blockP_n ?_)))
  all_goals (first | (refine Br.keep ?_) | (refine WC.sub [(0, _), (3, _), (4, _)] ⟨rfl, rfl, rfl, trivial⟩ ?_))
  all_goals (first | (refine Br.keep ?_) | (refine WC.seq ?_))
  all_goals (first | (refine Br.keep ?_) | (refine WC.block ?_))
  all_goals (first | (refine Br.keep ?_) | (refine WC.region ?_))
  all_goals (first | (refine Br.keep ?_) | (refine WL.step (ok_move rfl) rfl rfl rfl ?_))
  all_goals (first | (refine Br.keep ?_) | (refine WL.step (ok_move rfl) rfl rfl rfl ?_))
  all_goals (first
               | (refine Br.keep ?_)
               | (have e1 : ((k : Int) + 1) = ((k + 1 : Nat) : Int) := by omega
                  rw [e1]
                  have hdl := deci_len (k + 1 : Nat) (by omega)))
  all_goals (first
               | (refine Br.keep ?_)
               | (refine WL.call (vs := [_]) rfl (fun a w => Try.call53 a w) rfl (text_ref ((k + 1 : Nat) : Int) (by omega) (by omega)) rfl rfl rfl ?_
                  rintro _ hz ⟨rfl, _⟩
                  subst hz))
  all_goals (first
               | (refine Br.keep ?_)
               | (refine WL.stepR (okE_convSB Try.underlying9 Try.underlying51 Try.underlying5 rfl) rfl rfl rfl ?_
                  rintro _ h2 ⟨b2, c2, rfl, hg2, hr2, hx2⟩))
  all_goals (first | (refine Br.keep ?_) | (refine WL.step (ok_buildF (vs := [_]) (cs := [_, _]) (fun | [a1] => [(.bool false), a1] | _ => []) rfl rfl (by kernel_rfl)) rfl rfl rfl ?_))
  all_goals (first
               | (refine Br.keep ?_)
               | (refine WL.stepR (okE_buildSlice (vs := [_]) (cs := [_, _]) (fun | [.agg ⟨[a0, a1]⟩] => [a0, a1] | _ => []) Try.underlying36 rfl rfl (by kernel_rfl)) rfl rfl rfl ?_
                  rintro _ h5 ⟨b5, rfl, hg5, hb5, hx5⟩))
  all_goals (first
               | (refine Br.keep ?_)
               | (have hc5 : Cels h5 _ [⟨false, .slice (some ⟨b2, 0, none⟩) (deci (k + 1 : Nat)).length c2, deci (k + 1 : Nat)⟩] := cels_one (hr2.ext0 hx5) (by omega) hb5
                  have hf5 : ∀ b, CelsF (.slice (some ⟨b5, 0, none⟩) 1 1) [⟨false, .slice (some ⟨b2, 0, none⟩) (deci (k + 1 : Nat)).length c2, deci (k + 1 : Nat)⟩] b → h1.size ≤ b := by (rintro b (⟨_, e⟩ | ⟨c, hc, _, e⟩); (simp [Value.ownBlock] at e; have := hx2.size; omega); (simp at hc; subst hc; simp [Value.ownBlock] at e; omega))))
  all_goals (first
               | (refine Br.keep ?_)
               | (refine WL.stepR (okE_buildSlice (vs := [_]) (cs := [_]) (fun | [a0] => [a0] | _ => []) Try.underlying37 rfl rfl (by kernel_rfl)) rfl rfl rfl ?_
                  rintro _ h3 ⟨b3, rfl, hg3, hb3, hx3⟩))
  all_goals (first
               | (refine Br.keep ?_)
               | (refine WL.stepR (ok_append (sz := 1) (bytes := 24) rfl Try.underlying37 (show Try.prog.info? 36 = some Try.t36 by kernel_rfl) rfl rfl rfl rfl (by decide) rfl rfl (mk.own.ext ((hx2.trans hx5).trans hx3) (fun _ _ => nos)) (rd_blk hb3 rfl) (by simp [Value.oneCell']) (by simp only [maxLen]; omega) (by omega)) rfl rfl rfl ?_
                  rintro v4 h4 ⟨ho4, hx4, hl4⟩))
  all_goals (first | (refine Br.keep ?_) | (have mk4 := mk.next (hx2.trans hx5) hc5 hf5 hx3 ho4 hx4 hl4))
  all_goals (first | (refine Br.keep ?_) | (refine WL.step (ok_assign rfl) rfl rfl rfl ?_))
  all_goals (first | (refine Br.keep ?_) | (refine WL.nil ?_))
  all_goals (first | (refine Br.keep ?_) | (repeat' (with_reducible first | refine thenP_n ?_ | refine blockP_n ?_)))
  all_goals (first | (refine Br.keep ?_) | (refine WC.sub [(0, _), (3, _), (4, _)] ⟨rfl, rfl, rfl, trivial⟩ ?_))
  all_goals (first | (refine Br.keep ?_) | (refine WC.region ?_))
  all_goals (first | (refine Br.keep ?_) | (refine WL.step (ok_move rfl) rfl rfl rfl ?_))
  all_goals (first | (refine Br.keep ?_) | (first | (refine WL.step (ok_addI rfl rfl (by omega)) rfl rfl rfl ?_) | (refine WL.step (ok_add rfl rfl) rfl rfl rfl ?_)))
  all_goals (first | (refine Br.keep ?_) | (refine WL.step (ok_assign rfl) rfl rfl rfl ?_))
  all_goals (first | (refine Br.keep ?_) | (refine WL.nil ?_))
  all_goals (first | (refine Br.keep ?_) | (repeat' (with_reducible first | refine thenP_n ?_ | refine blockP_n ?_)))
  all_goals (first | (refine Br.keep ?_) | (exact ⟨(k + 1, _, L ++ [_]), ⟨rfl, rfl, rfl, trivial⟩, (by exact ⟨by simp; omega, mk4, by rw [List.map_append, hp, rowsP_succ]; rfl, fun r hr b hb => (List.mem_append.1 hr).elim (fun hr => hf r hr b hb) (fun hr => by simp at hr; subst hr; have := hf5 b hb; have := mk.ext.size; omega)⟩), (by simp; omega)⟩))
  all_goals (try (refine Br.mk (i := 1000) ?_))
  all_goals (repeat' (with_reducible first | refine thenP_n ?_ | refine blockP_n ?_))
  all_goals (refine WC.sub [(3, _)] ⟨rfl, trivial⟩ ?_)
  all_goals (refine WC.seq ?_)
  all_goals (refine WC.region ?_)
  all_goals (refine WL.step (ok_move rfl) rfl rfl rfl ?_)
  all_goals (refine WL.step (ok_assign rfl) rfl rfl rfl ?_)
  all_goals (refine WL.nil ?_)
  all_goals (repeat' (with_reducible first | refine thenP_n ?_ | refine blockP_n ?_))
  all_goals (refine WC.ret ?_)
  all_goals (repeat' (with_reducible first | refine thenP_r ?_ | refine blockP_r ?_))
  all_goals (refine retP_1 _ ⟨rfl, trivial⟩ ?_)
  all_goals (exact ⟨L, mk.done (by omega) mk.own.cap, by rw [hp, show k = heldN n by omega], mk.ext, fun b hb => hb.elim (fun e => mk.fresh b e.2) (fun ⟨r, hr, e⟩ => hf r hr b e)⟩)
set_option maxRecDepth 100000 in
theorem tag_cols {h : Heap} (n : Int) (h0 : -9223372036854775808 ≤ n) (h1 : n ≤ 9223372036854775807) :
    CallsH Try.prog 29 ⟨[In n]⟩ h fun u h' => u = St ([83, 69, 76, 69, 67, 84, 32] ++ deci n) ∧ Ext No h h' := by
  have hdl := deci_len n (by omega)
  refine calls [(0, _)] Try.func29 rfl Try.ntmps29 rfl ⟨rfl, trivial⟩ ?_
  all_goals (refine WC.seq ?_)
  all_goals (refine WC.region ?_)
  all_goals (refine WL.step (ok_assign rfl) rfl rfl rfl ?_)
  all_goals (refine WL.nil ?_)
  all_goals (repeat' (with_reducible first | refine thenP_n ?_ | refine blockP_n ?_))
  all_goals (refine WC.seq ?_)
  all_goals (refine WC.region ?_)
  all_goals (refine WL.step (ok_move rfl) rfl rfl rfl ?_)
  all_goals (refine WL.call (vs := [_]) rfl (fun a w => Try.call80 a w) rfl (text_any n h0 h1) rfl rfl rfl ?_
             rintro _ h2 ⟨rfl, hx2⟩)
  all_goals (refine WL.step (ok_catS rfl rfl (by first | (simp only [List.length_append, List.length_cons, List.length_nil]; omega) | (simp; omega))) rfl rfl rfl ?_)
  all_goals (refine WL.step (ok_assign rfl) rfl rfl rfl ?_)
  all_goals (refine WL.nil ?_)
  all_goals (repeat' (with_reducible first | refine thenP_n ?_ | refine blockP_n ?_))
  all_goals (refine WC.sub [(2, _)] ⟨rfl, trivial⟩ ?_)
  all_goals (refine WC.ret ?_)
  all_goals (repeat' (with_reducible first | refine thenP_r ?_ | refine blockP_r ?_))
  all_goals (refine retP_1 _ ⟨rfl, trivial⟩ ?_)
  all_goals (exact ⟨rfl, hx2⟩)
set_option maxRecDepth 100000 in
theorem tag_ref {h : Heap} (n : Int) (h0 : -9223372036854775808 ≤ n) (h1 : n ≤ 9223372036854775807) :
    CallsH Try.prog 30 ⟨[In n]⟩ h fun u h' => u = St ([83, 69, 76, 69, 67, 84, 32] ++ deci n) ∧ h' = h := by
  have hdl := deci_len n (by omega)
  refine calls [(0, _)] Try.func30 rfl Try.ntmps30 rfl ⟨rfl, trivial⟩ ?_
  all_goals (refine WC.seq ?_)
  all_goals (refine WC.region ?_)
  all_goals (refine WL.step (ok_assign rfl) rfl rfl rfl ?_)
  all_goals (refine WL.nil ?_)
  all_goals (repeat' (with_reducible first | refine thenP_n ?_ | refine blockP_n ?_))
  all_goals (refine WC.seq ?_)
  all_goals (refine WC.region ?_)
  all_goals (refine WL.step (ok_move rfl) rfl rfl rfl ?_)
  all_goals (refine WL.call (vs := [_]) rfl (fun a w => Try.call53 a w) rfl (text_ref n h0 h1) rfl rfl rfl ?_
             rintro _ hz ⟨rfl, _⟩
             subst hz)
  all_goals (refine WL.step (ok_catS rfl rfl (by first | (simp only [List.length_append, List.length_cons, List.length_nil]; omega) | (simp; omega))) rfl rfl rfl ?_)
  all_goals (refine WL.step (ok_assign rfl) rfl rfl rfl ?_)
  all_goals (refine WL.nil ?_)
  all_goals (repeat' (with_reducible first | refine thenP_n ?_ | refine blockP_n ?_))
  all_goals (refine WC.sub [(2, _)] ⟨rfl, trivial⟩ ?_)
  all_goals (refine WC.ret ?_)
  all_goals (repeat' (with_reducible first | refine thenP_r ?_ | refine blockP_r ?_))
  all_goals (refine retP_1 _ ⟨rfl, trivial⟩ ?_)
  all_goals (exact ⟨rfl, rfl⟩)

/-! ### columns -/
def colV (n : List UInt8) : List Value := [St n, In 0, In 0, In 25, In (-1), In (-1), In 0]
def colsL (n : Nat) : List (List UInt8) := (List.range n).map fun i => 99 :: deci ((i + 1 : Nat) : Int)
theorem colsL_succ (n : Nat) : colsL (n + 1) = colsL n ++ [99 :: deci ((n + 1 : Nat) : Int)] := by unfold colsL; rw [List.range_succ]; simp
theorem colsL_len (n : Nat) : (colsL n).length = n := by simp [colsL]
set_option maxRecDepth 100000 in
theorem column_cols {h : Heap} (i : Nat) (hi : i ≤ 100000) : CallsH Try.prog 79 ⟨[In i]⟩ h fun u h' => u = .agg ⟨colV (99 :: deci i)⟩ ∧ Ext No h h' := by
  have hdl := deci_len i (by omega)
  refine calls [(0, _)] Try.func79 rfl Try.ntmps79 rfl ⟨rfl, trivial⟩ ?_
  all_goals (refine WC.seq ?_)
  all_goals (refine WC.region ?_)
  all_goals (refine WL.stepR (okE_alloc (fun w => Try.zeroValue130 w)) rfl rfl rfl ?_
             rintro _ h1 ⟨b1, rfl, hg1, hb1, hx1⟩)
  all_goals (refine WL.nil ?_)
  all_goals (repeat' (with_reducible first | refine thenP_n ?_ | refine blockP_n ?_))
  all_goals (refine WC.seq ?_)
  all_goals (refine WC.region ?_)
  all_goals (refine WL.step (ok_move rfl) rfl rfl rfl ?_)
  all_goals (refine WL.call (vs := [_]) rfl (fun a w => Try.call80 a w) rfl (text_any i (by omega) (by omega)) rfl rfl rfl ?_
             rintro _ h2 ⟨rfl, hx2⟩)
  all_goals (refine WL.step (ok_catS rfl rfl (by first | (simp only [List.length_append, List.length_cons, List.length_nil]; omega) | (simp; omega))) rfl rfl rfl ?_)
  all_goals (refine WL.step (ok_buildF (vs := [_, _, _, _]) (cs := [_, _, _, _, _, _, _]) (fun | [a0, a3, a4, a5] => [a0, (.int .i64 0), (.int .i64 0), a3, a4, a5, (.int .i64 0)] | _ => []) rfl rfl (by kernel_rfl)) rfl rfl rfl ?_)
  all_goals (refine WL.stepR0 (okE_storeW (fun w => Try.sizeOf130 w) rfl rfl rfl (hx2.obj hb1 nos) rfl (by simp [Value.oneCell'])) rfl rfl ?_
             rintro _ h3 ⟨hb3, hx3⟩)
  all_goals (refine WL.nil ?_)
  all_goals (repeat' (with_reducible first | refine thenP_n ?_ | refine blockP_n ?_))
  all_goals (refine WC.sub [(2, _)] ⟨rfl, trivial⟩ ?_)
  all_goals (refine WC.ret ?_)
  all_goals (repeat' (with_reducible first | refine thenP_r ?_ | refine blockP_r ?_))
  all_goals (refine retP_1 _ ⟨⟨_, rfl, ld_blk (fun w => Try.isAgg130 w) (fun w => Try.sizeOf130 w) (by assumption) rfl⟩, trivial⟩ ?_)
  all_goals (exact ⟨rfl, (hx1.trans hx2).trans' hx3 (fun k hk e => by omega)⟩)
set_option maxRecDepth 100000 in
theorem each_cols {h : Heap} (n : Int) : CallsH Try.prog 78 ⟨[In n, .func (.func 79) #[] #[]]⟩ h fun u h' => Own h' u 130 7 (heldN n) ((colsL (heldN n)).flatMap colV) ∧ Ext No h h' ∧ ∀ k, u.ownBlock = some k → h.size ≤ k := by
  have hh := held_le n
  refine calls [(0, _), (1, _)] Try.func78 rfl Try.ntmps78 rfl ⟨rfl, rfl, trivial⟩ ?_
  all_goals (refine WC.seq ?_)
  all_goals (refine WC.region ?_)
  all_goals (refine WL.step (ok_assign rfl) rfl rfl rfl ?_)
  all_goals (refine WL.nil ?_)
  all_goals (repeat' (with_reducible first | refine thenP_n ?_ | refine blockP_n ?_))
  all_goals (refine WC.seq ?_)
  all_goals (refine WC.region ?_)
  all_goals (refine WL.step (ok_assign rfl) rfl rfl rfl ?_)
  all_goals (refine WL.nil ?_)
  all_goals (repeat' (with_reducible first | refine thenP_n ?_ | refine blockP_n ?_))
  all_goals (refine WC.seq ?_)
  all_goals (refine WC.seq ?_)
  all_goals (refine WC.region ?_)
  all_goals (refine WL.step (ok_move rfl) rfl rfl rfl ?_)
  all_goals (refine WL.call (vs := [_]) rfl (fun a w => Try.call108 a w) rfl (held_cols n) rfl rfl rfl ?_
             rintro _ hz ⟨rfl, _⟩
             subst hz)
  all_goals (refine WL.step (ok_move rfl) rfl rfl rfl ?_)
  all_goals (refine WL.nil ?_)
  all_goals (repeat' (with_reducible first | refine thenP_n ?_ | refine blockP_n ?_))
  all_goals (refine WC.block ?_)
  -- loop 0: slots that turn [5, 9], that stay [1, 8]
  all_goals (refine WC.loopG (X := Nat × Value) (fun x => ([(5, x.2), (9, In (x.1 : Int))] : Fr)) [(1, _), (8, _)] (fun x h' => x.1 ≤ heldN n ∧ Own h' x.2 130 7 x.1 ((colsL x.1).flatMap colV) ∧ Ext No h h' ∧ ∀ k, x.2.ownBlock = some k → h.size ≤ k) (fun x => heldN n - x.1) ((0, .slice none 0 0)) ⟨rfl, rfl, rfl, rfl, trivial⟩ (by exact ⟨Nat.zero_le _, Own.nil _ _ _, .refl _ _, by simp [Value.ownBlock]⟩) ?_)
  all_goals (rintro ⟨k, v1⟩ h1 ⟨hk, ho, hx, hf⟩
             simp only at hk ho hf
             obtain ⟨A1, c1, rfl, _⟩ := ho.slice)
  all_goals (refine WC.sub [(5, _), (9, _), (1, _), (8, _)] ⟨rfl, rfl, rfl, rfl, trivial⟩ ?_)
  all_goals (dsimp only)
  all_goals (refine WC.seq ?_)
  all_goals (refine WC.region ?_)
  all_goals (first | (refine WL.step (OkP.bool_t (by omega) (ok_lss rfl rfl)) rfl rfl rfl ?_) | (refine WL.step (OkP.bool_f (by omega) (ok_lss rfl rfl)) rfl rfl rfl ?_) | (refine WL.step (ok_lss rfl rfl) rfl rfl rfl ?_))
  all_goals (refine WL.nil ?_)
  all_goals (repeat' (with_reducible first | refine thenP_n ?_ | refine blockP_n ?_))
  all_goals (refine WC.seq ?_)
  all_goals (first | refine WC.condB_t 1 rfl ?_ | refine WC.condB_f 2 rfl ?_ | (refine WC.condB 1 2 rfl (fun hb => ?_) (fun hb => ?_) <;> (first | replace hb := of_decide_eq_true hb | replace hb := of_decide_eq_false hb | replace hb := of_decide_eq_false (nt hb) | replace hb := of_decide_eq_true (nf hb) | skip)))
  all_goals (first
    | (fail_if_success (refine Br.mk (i := 1) ?_))
    | (refine Br.mk (i := 1) ?_
       all_goals (refine WC.skip ?_)
       skip))
  all_goals (first
    | (fail_if_success (refine Br.mk (i := 2) ?_))
    | (refine Br.mk (i := 2) ?_
       all_goals (refine WC.exit ?_)
       all_goals (repeat' (with_reducible first | refine thenP_x ?_ | refine blockP_miss rfl ?_ | refine blockP_hit ?_ | refine blockP_n ?_ | refine thenP_n ?_))
       all_goals (refine Br.out (i := 1000) ?_)
       skip))
  all_goals (first | (refine Br.keep ?_) | (repeat' (with_reducible first | refine thenP_n ?_ | refine blockP_n ?_)))
  all_goals (first | (refine Br.keep ?_) | (refine WC.seq ?_))
  all_goals (first | (refine Br.keep ?_) | (refine WC.block ?_))
  all_goals (first | (refine Br.keep ?_) | (refine WC.seq ?_))
  all_goals (first | (refine Br.keep ?_) | (refine WC.region ?_))
  all_goals (first | (refine Br.keep ?_) | (refine WL.step (ok_move rfl) rfl rfl rfl ?_))
  all_goals (first | (refine Br.keep ?_) | (refine WL.step (ok_assign rfl) rfl rfl rfl ?_))
  all_goals (first | (refine Br.keep ?_) | (refine WL.nil ?_))
  all_goals (first | (refine Br.keep ?_) | (repeat' (with_reducible first | refine thenP_n ?_ | refine blockP_n ?_)))
  all_goals (first | (refine Br.keep ?_) | (refine WC.region ?_))
  all_goals (first | (refine Br.keep ?_) | (refine WL.step (ok_move rfl) rfl rfl rfl ?_))
  all_goals (first | (refine Br.keep ?_) | (refine WL.step (ok_move rfl) rfl rfl rfl ?_))
  all_goals (first | (refine Br.keep ?_) | (refine WL.step (ok_move rfl) rfl rfl rfl ?_))
  all_goals (first | (refine Br.keep ?_) | (first | (refine WL.step (ok_addI rfl rfl (by omega)) rfl rfl rfl ?_) | (refine WL.step (ok_add rfl rfl) rfl rfl rfl ?_)))
  all_goals (first
               | (refine Br.keep ?_)
               | (have e1 : ((k : Int) + 1) = ((k + 1 : Nat) : Int) := by omega
                  rw [e1]))
  all_goals (first
               | (refine Br.keep ?_)
               | (refine WL.callT (vs := [_]) rfl rfl (fun a w => Try.call79 a w) rfl (column_cols (k + 1) (by omega)) rfl rfl rfl ?_
                  rintro _ h2 ⟨rfl, hx2⟩))
  all_goals (first | (refine Br.keep ?_) | (unfold colV))
  all_goals (first
               | (refine Br.keep ?_)
               | (refine WL.stepR (okE_buildSlice (vs := [_]) (cs := [_, _, _, _, _, _, _]) (fun | [.agg ⟨[a0, a1, a2, a3, a4, a5, a6]⟩] => [a0, a1, a2, a3, a4, a5, a6] | _ => []) Try.underlying40 rfl rfl (by kernel_rfl)) rfl rfl rfl ?_
                  rintro _ h3 ⟨b3, rfl, hg3, hb3, hx3⟩))
  all_goals (first
               | (refine Br.keep ?_)
               | (refine WL.stepR (ok_append (sz := 7) (bytes := 64) rfl Try.underlying40 (show Try.prog.info? 130 = some Try.t130 by kernel_rfl) rfl rfl rfl rfl (by decide) rfl rfl (ho.ext (hx2.trans hx3) (fun _ _ => nos)) (rd_blk hb3 rfl) (by simp [Value.oneCell']) (by simp only [maxLen]; omega) (by omega)) rfl rfl rfl ?_
                  rintro v4 h4 ⟨ho4, hx4, hl4⟩))
  all_goals (first | (refine Br.keep ?_) | (refine WL.step (ok_assign rfl) rfl rfl rfl ?_))
  all_goals (first | (refine Br.keep ?_) | (refine WL.nil ?_))
  all_goals (first | (refine Br.keep ?_) | (repeat' (with_reducible first | refine thenP_n ?_ | refine blockP_n ?_)))
  all_goals (first | (refine Br.keep ?_) | (refine WC.sub [(1, _), (5, _), (8, _), (9, _)] ⟨rfl, rfl, rfl, rfl, trivial⟩ ?_))
  all_goals (first | (refine Br.keep ?_) | (refine WC.region ?_))
  all_goals (first | (refine Br.keep ?_) | (first | (refine WL.step (ok_addI rfl rfl (by omega)) rfl rfl rfl ?_) | (refine WL.step (ok_add rfl rfl) rfl rfl rfl ?_)))
  all_goals (first | (refine Br.keep ?_) | (refine WL.step (ok_move rfl) rfl rfl rfl ?_))
  all_goals (first | (refine Br.keep ?_) | (refine WL.nil ?_))
  all_goals (first | (refine Br.keep ?_) | (repeat' (with_reducible first | refine thenP_n ?_ | refine blockP_n ?_)))
  all_goals (first | (refine Br.keep ?_) | (exact ⟨(k + 1, _), ⟨rfl, rfl, rfl, rfl, trivial⟩, (by exact ⟨by simp; omega, by rw [colsL_succ, List.flatMap_append, List.flatMap_singleton]; exact ho4, ((hx.trans hx2).trans hx3).trans' hx4 (fun q hq e => by have := hf q e; omega), fresh_of hl4 hf (by have := hx.size; have := hx2.size; have := hx3.size; omega)⟩), (by simp; omega)⟩))
  all_goals (try (refine Br.mk (i := 1000) ?_))
  all_goals (repeat' (with_reducible first | refine thenP_n ?_ | refine blockP_n ?_))
  all_goals (refine WC.sub [(5, _)] ⟨rfl, trivial⟩ ?_)
  all_goals (refine WC.seq ?_)
  all_goals (refine WC.region ?_)
  all_goals (refine WL.step (ok_move rfl) rfl rfl rfl ?_)
  all_goals (refine WL.step (ok_assign rfl) rfl rfl rfl ?_)
  all_goals (refine WL.nil ?_)
  all_goals (repeat' (with_reducible first | refine thenP_n ?_ | refine blockP_n ?_))
  all_goals (refine WC.ret ?_)
  all_goals (repeat' (with_reducible first | refine thenP_r ?_ | refine blockP_r ?_))
  all_goals (refine retP_1 _ ⟨rfl, trivial⟩ ?_)
  all_goals (exact ⟨by rw [show heldN n = k by omega]; exact ho, hx, hf⟩)
set_option maxRecDepth 100000 in
theorem cols_cols {h : Heap} (n : Int) : CallsH Try.prog 27 ⟨[In n]⟩ h fun u h' => Own h' u 130 7 (heldN n) ((colsL (heldN n)).flatMap colV) ∧ Ext No h h' ∧ ∀ k, u.ownBlock = some k → h.size ≤ k := by
  refine calls [(0, _)] Try.func27 rfl Try.ntmps27 rfl ⟨rfl, trivial⟩ ?_
  all_goals (refine WC.seq ?_)
  all_goals (refine WC.region ?_)
  all_goals (refine WL.step (ok_assign rfl) rfl rfl rfl ?_)
  all_goals (refine WL.nil ?_)
  all_goals (repeat' (with_reducible first | refine thenP_n ?_ | refine blockP_n ?_))
  all_goals (refine WC.seq ?_)
  all_goals (refine WC.region ?_)
  all_goals (refine WL.step (ok_move rfl) rfl rfl rfl ?_)
  all_goals (refine WL.call (vs := [_, _]) rfl (fun a w => Try.call78 a w) rfl (each_cols n) rfl rfl rfl ?_
             rintro u1 h1 h2)
  all_goals (refine WL.step (ok_assign rfl) rfl rfl rfl ?_)
  all_goals (refine WL.nil ?_)
  all_goals (repeat' (with_reducible first | refine thenP_n ?_ | refine blockP_n ?_))
  all_goals (refine WC.ret ?_)
  all_goals (repeat' (with_reducible first | refine thenP_r ?_ | refine blockP_r ?_))
  all_goals (refine retP_1 _ ⟨rfl, trivial⟩ ?_)
  all_goals (exact h2)
set_option maxRecDepth 100000 in
theorem cols_ref {h : Heap} (n : Int) : CallsH Try.prog 24 ⟨[In n]⟩ h fun u h' => Own h' u 130 7 (heldN n) ((colsL (heldN n)).flatMap colV) ∧ Ext No h h' ∧ ∀ k, u.ownBlock = some k → h.size ≤ k := by
  have hh := held_le n
  refine calls [(0, _)] Try.func24 rfl Try.ntmps24 rfl ⟨rfl, trivial⟩ ?_
  all_goals (refine WC.seq ?_)
  all_goals (refine WC.region ?_)
  all_goals (refine WL.step (ok_assign rfl) rfl rfl rfl ?_)
  all_goals (refine WL.nil ?_)
  all_goals (repeat' (with_reducible first | refine thenP_n ?_ | refine blockP_n ?_))
  all_goals (refine WC.seq ?_)
  all_goals (refine WC.region ?_)
  all_goals (refine WL.step (ok_assign rfl) rfl rfl rfl ?_)
  all_goals (refine WL.nil ?_)
  all_goals (repeat' (with_reducible first | refine thenP_n ?_ | refine blockP_n ?_))
  all_goals (refine WC.seq ?_)
  all_goals (refine WC.seq ?_)
  all_goals (refine WC.region ?_)
  all_goals (refine WL.step (ok_assign rfl) rfl rfl rfl ?_)
  all_goals (refine WL.nil ?_)
  all_goals (repeat' (with_reducible first | refine thenP_n ?_ | refine blockP_n ?_))
  all_goals (refine WC.block ?_)
  -- loop 0: slots that turn [3, 4], that stay [0]
  all_goals (refine WC.loopG (X := Nat × Value) (fun x => ([(3, x.2), (4, In ((x.1 : Int) + 1))] : Fr)) [(0, _)] (fun x h' => x.1 ≤ heldN n ∧ Own h' x.2 130 7 x.1 ((colsL x.1).flatMap colV) ∧ Ext No h h' ∧ ∀ k, x.2.ownBlock = some k → h.size ≤ k) (fun x => heldN n - x.1) ((0, .slice none 0 0)) ⟨rfl, rfl, rfl, trivial⟩ (by exact ⟨Nat.zero_le _, Own.nil _ _ _, .refl _ _, by simp [Value.ownBlock]⟩) ?_)
  all_goals (rintro ⟨k, v1⟩ h1 ⟨hk, ho, hx, hf⟩
             simp only at hk ho hf
             obtain ⟨A1, c1, rfl, _⟩ := ho.slice)
  all_goals (refine WC.sub [(3, _), (4, _), (0, _)] ⟨rfl, rfl, rfl, trivial⟩ ?_)
  all_goals (dsimp only)
  all_goals (refine WC.seq ?_)
  all_goals (refine WC.seq ?_)
  all_goals (refine WC.region ?_)
  all_goals (refine WL.step (ok_move rfl) rfl rfl rfl ?_)
  all_goals (refine WL.step (ok_move rfl) rfl rfl rfl ?_)
  all_goals (refine WL.call (vs := [_]) rfl (fun a w => Try.call76 a w) rfl (held_ref n) rfl rfl rfl ?_
             rintro _ hz ⟨rfl, _⟩
             subst hz)
  all_goals (first | (refine WL.step (OkP.bool_t (by omega) (ok_leq rfl rfl)) rfl rfl rfl ?_) | (refine WL.step (OkP.bool_f (by omega) (ok_leq rfl rfl)) rfl rfl rfl ?_) | (refine WL.step (ok_leq rfl rfl) rfl rfl rfl ?_))
  all_goals (refine WL.nil ?_)
  all_goals (repeat' (with_reducible first | refine thenP_n ?_ | refine blockP_n ?_))
  all_goals (first | refine WC.condB_t 1 rfl ?_ | refine WC.condB_f 2 rfl ?_ | (refine WC.condB 1 2 rfl (fun hb => ?_) (fun hb => ?_) <;> (first | replace hb := of_decide_eq_true hb | replace hb := of_decide_eq_false hb | replace hb := of_decide_eq_false (nt hb) | replace hb := of_decide_eq_true (nf hb) | skip)))
  all_goals (first
    | (fail_if_success (refine Br.mk (i := 1) ?_))
    | (refine Br.mk (i := 1) ?_
       all_goals (refine WC.skip ?_)
       skip))
  all_goals (first
    | (fail_if_success (refine Br.mk (i := 2) ?_))
    | (refine Br.mk (i := 2) ?_
       all_goals (refine WC.exit ?_)
       all_goals (repeat' (with_reducible first | refine thenP_x ?_ | refine blockP_miss rfl ?_ | refine blockP_hit ?_ | refine blockP_n ?_ | refine thenP_n ?_))
       all_goals (refine Br.out (i := 1000) ?_)
       skip))
  all_goals (first | (refine Br.keep ?_) | (repeat' (with_reducible first | refine thenP_n ?_ | refine blockP_n ?_)))
  all_goals (first | (refine Br.keep ?_) | (refine WC.sub [(0, _), (3, _), (4, _)] ⟨rfl, rfl, rfl, trivial⟩ ?_))
  all_goals (first | (refine Br.keep ?_) | (refine WC.seq ?_))
  all_goals (first | (refine Br.keep ?_) | (refine WC.block ?_))
  all_goals (first | (refine Br.keep ?_) | (refine WC.region ?_))
  all_goals (first | (refine Br.keep ?_) | (refine WL.step (ok_move rfl) rfl rfl rfl ?_))
  all_goals (first | (refine Br.keep ?_) | (refine WL.step (ok_move rfl) rfl rfl rfl ?_))
  all_goals (first
               | (refine Br.keep ?_)
               | (have e1 : ((k : Int) + 1) = ((k + 1 : Nat) : Int) := by omega
                  rw [e1]
                  have hdl := deci_len (k + 1 : Nat) (by omega)))
  all_goals (first
               | (refine Br.keep ?_)
               | (refine WL.call (vs := [_]) rfl (fun a w => Try.call53 a w) rfl (text_ref ((k + 1 : Nat) : Int) (by omega) (by omega)) rfl rfl rfl ?_
                  rintro _ hz ⟨rfl, _⟩
                  subst hz))
  all_goals (first | (refine Br.keep ?_) | (refine WL.step (ok_catS rfl rfl (by first | (simp only [List.length_append, List.length_cons, List.length_nil]; omega) | (simp; omega))) rfl rfl rfl ?_))
  all_goals (first | (refine Br.keep ?_) | (refine WL.step (ok_buildF (vs := [_, _, _, _]) (cs := [_, _, _, _, _, _, _]) (fun | [a0, a3, a4, a5] => [a0, (.int .i64 0), (.int .i64 0), a3, a4, a5, (.int .i64 0)] | _ => []) rfl rfl (by kernel_rfl)) rfl rfl rfl ?_))
  all_goals (first
               | (refine Br.keep ?_)
               | (refine WL.stepR (okE_buildSlice (vs := [_]) (cs := [_, _, _, _, _, _, _]) (fun | [.agg ⟨[a0, a1, a2, a3, a4, a5, a6]⟩] => [a0, a1, a2, a3, a4, a5, a6] | _ => []) Try.underlying40 rfl rfl (by kernel_rfl)) rfl rfl rfl ?_
                  rintro _ h3 ⟨b3, rfl, hg3, hb3, hx3⟩))
  all_goals (first
               | (refine Br.keep ?_)
               | (refine WL.stepR (ok_append (sz := 7) (bytes := 64) rfl Try.underlying40 (show Try.prog.info? 130 = some Try.t130 by kernel_rfl) rfl rfl rfl rfl (by decide) rfl rfl (ho.ext hx3 (fun _ _ => nos)) (rd_blk hb3 rfl) (by simp [Value.oneCell']) (by simp only [maxLen]; omega) (by omega)) rfl rfl rfl ?_
                  rintro v4 h4 ⟨ho4, hx4, hl4⟩))
  all_goals (first | (refine Br.keep ?_) | (refine WL.step (ok_assign rfl) rfl rfl rfl ?_))
  all_goals (first | (refine Br.keep ?_) | (refine WL.nil ?_))
  all_goals (first | (refine Br.keep ?_) | (repeat' (with_reducible first | refine thenP_n ?_ | refine blockP_n ?_)))
  all_goals (first | (refine Br.keep ?_) | (refine WC.sub [(0, _), (3, _), (4, _)] ⟨rfl, rfl, rfl, trivial⟩ ?_))
  all_goals (first | (refine Br.keep ?_) | (refine WC.region ?_))
  all_goals (first | (refine Br.keep ?_) | (refine WL.step (ok_move rfl) rfl rfl rfl ?_))
  all_goals (first | (refine Br.keep ?_) | (first | (refine WL.step (ok_addI rfl rfl (by omega)) rfl rfl rfl ?_) | (refine WL.step (ok_add rfl rfl) rfl rfl rfl ?_)))
  all_goals (first | (refine Br.keep ?_) | (refine WL.step (ok_assign rfl) rfl rfl rfl ?_))
  all_goals (first | (refine Br.keep ?_) | (refine WL.nil ?_))
  all_goals (first | (refine Br.keep ?_) | (repeat' (with_reducible first | refine thenP_n ?_ | refine blockP_n ?_)))
  all_goals (first | (refine Br.keep ?_) | (exact ⟨(k + 1, _), ⟨rfl, rfl, rfl, trivial⟩, (by exact ⟨by simp; omega, by rw [colsL_succ, List.flatMap_append, List.flatMap_singleton]; exact ho4, (hx.trans hx3).trans' hx4 (fun q hq e => by have := hf q e; omega), fresh_of hl4 hf (by have := hx.size; have := hx3.size; omega)⟩), (by simp; omega)⟩))
  all_goals (try (refine Br.mk (i := 1000) ?_))
  all_goals (repeat' (with_reducible first | refine thenP_n ?_ | refine blockP_n ?_))
  all_goals (refine WC.sub [(3, _)] ⟨rfl, trivial⟩ ?_)
  all_goals (refine WC.seq ?_)
  all_goals (refine WC.region ?_)
  all_goals (refine WL.step (ok_move rfl) rfl rfl rfl ?_)
  all_goals (refine WL.step (ok_assign rfl) rfl rfl rfl ?_)
  all_goals (refine WL.nil ?_)
  all_goals (repeat' (with_reducible first | refine thenP_n ?_ | refine blockP_n ?_))
  all_goals (refine WC.ret ?_)
  all_goals (repeat' (with_reducible first | refine thenP_r ?_ | refine blockP_r ?_))
  all_goals (refine retP_1 _ ⟨rfl, trivial⟩ ?_)
  all_goals (exact ⟨by rw [show heldN n = k by omega]; exact ho, hx, hf⟩)
end Go.Proofs.Ytgfbilmlgibbfaa

