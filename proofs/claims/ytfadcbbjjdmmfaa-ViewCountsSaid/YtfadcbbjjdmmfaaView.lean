/-
  VIEW (layer 46): what a pooler has, as plain data; whether it is small; all statements that stand in it.
-/
import Derived.Test.YtfadcbbjjdmmfaaMpk
import Derived.Test.YtfadcbbjjdmmfaaSl
import Derived.Test.YtfadcbbjjdmmfaaK20
import Derived.Test.YtfadcbbjjdmmfaaSrf
namespace Go.Proofs.Ytfadcbbjjdmmfaa
open Go Go.RK

abbrev Nm := List UInt8 × Int
def nmC (p : Nm) : List Value := [St p.1, In p.2]
def nmS (p : Nm) : List Sca := [.s p.1, .i .i64 p.2]
theorem nmC_len (p : Nm) : (nmC p).length = 2 := rfl
theorem nmS_inj (p q : Nm) : nmS p = nmS q ↔ p = q := by obtain ⟨a, b⟩ := p; obtain ⟨c, d⟩ := q; simp [nmS]
abbrev Cn := Int × Int
def cnC (p : Cn) : List Value := [In p.1, In p.2]
def cnS (p : Cn) : List Sca := [.i .i64 p.1, .i .i64 p.2]
theorem cnC_len (p : Cn) : (cnC p).length = 2 := rfl
theorem cnS_inj (p q : Cn) : cnS p = cnS q ↔ p = q := by obtain ⟨a, b⟩ := p; obtain ⟨c, d⟩ := q; simp [cnS]
theorem cnC_one (p : Cn) : ∀ v ∈ cnC p, v.oneCell' = true := by
  intro v hv
  simp only [cnC, List.mem_cons, List.not_mem_nil, or_false] at hv
  rcases hv with rfl | rfl <;> rfl
/-- What there is of a client. -/
structure CV where
  ph : Int
  sv : Int
  dn : Int
  v : Value
  t : List Nm
def CV.cells (c : CV) : List Value := [In c.ph, In c.sv, In c.dn, c.v]
theorem CV.len (c : CV) : c.cells.length = 4 := rfl
def CV.pl (c : CV) := (c.ph, c.sv, c.dn, c.t)
def CV.ok (h : Heap) (c : CV) : Prop := Rd h c.v 2 c.t.length (c.t.flatMap nmC) ∧ c.t.length ≤ maxLen
theorem CV.ok.ext0 {h h' : Heap} {c : CV} (k : c.ok h) (a : Ext No h h') : c.ok h' := ⟨k.1.ext0 a, k.2⟩
/-- What there is of a server. -/
structure SV where
  st : Int
  ho : Int
  qu : Int
  ss : UInt8
  vc : Value
  c : List Int
  vp : Value
  p : List Int
def SV.cells (s : SV) : List Value := [In s.st, In s.ho, In s.qu, By s.ss, s.vc, s.vp]
theorem SV.len (s : SV) : s.cells.length = 6 := rfl
def SV.pl (s : SV) := (s.st, s.ho, s.qu, s.ss, s.c, s.p)
structure SV.ok (h : Heap) (s : SV) : Prop where
  c : Rd h s.vc 1 s.c.length (ints s.c)
  cl : s.c.length ≤ maxLen
  p : Rd h s.vp 1 s.p.length (ints s.p)
  pl : s.p.length ≤ maxLen
theorem SV.ok.ext0 {h h' : Heap} {c : SV} (k : c.ok h) (a : Ext No h h') : c.ok h' := ⟨k.1.ext0 a, k.2, k.3.ext0 a, k.4⟩
/-- A view. -/
structure VW where
  vc : Value
  c : List CV
  vs : Value
  s : List SV
  vr : Value
  r : List Cn
  vw : Value
  w : List Int
def VW.cells (V : VW) : List Value := [V.vc, V.vs, V.vr, V.vw]
structure VW.ok (h : Heap) (V : VW) : Prop where
  c : Rd h V.vc 4 V.c.length (V.c.flatMap CV.cells)
  cl : V.c.length ≤ maxLen
  co : ∀ c ∈ V.c, c.ok h
  s : Rd h V.vs 6 V.s.length (V.s.flatMap SV.cells)
  sl : V.s.length ≤ maxLen
  so : ∀ s ∈ V.s, s.ok h
  r : Rd h V.vr 2 V.r.length (V.r.flatMap cnC)
  rl : V.r.length ≤ maxLen
  w : Rd h V.vw 1 V.w.length (ints V.w)
  wl : V.w.length ≤ maxLen
theorem VW.ok.ext0 {h h' : Heap} {V : VW} (k : V.ok h) (a : Ext No h h') : V.ok h' :=
  ⟨k.1.ext0 a, k.2, fun c hc => (k.3 c hc).ext0 a, k.4.ext0 a, k.5, fun c hc => (k.6 c hc).ext0 a, k.7.ext0 a, k.8, k.9.ext0 a, k.10⟩
/-- Its slices, as they are. -/
theorem VW.ok.slices {h : Heap} {V : VW} (k : V.ok h) : ∃ A1 c1 A2 c2 A3 c3 A4 c4, V.vc = .slice A1 V.c.length c1 ∧ V.vs = .slice A2 V.s.length c2 ∧ V.vr = .slice A3 V.r.length c3 ∧ V.vw = .slice A4 V.w.length c4 := by
  obtain ⟨A1, c1, e1, _⟩ := k.c
  obtain ⟨A2, c2, e2, _⟩ := k.s
  obtain ⟨A3, c3, e3, _⟩ := k.r
  obtain ⟨A4, c4, e4, _⟩ := k.w
  exact ⟨A1, c1, A2, c2, A3, c3, A4, c4, e1, e2, e3, e4⟩
structure Few (V : VW) : Prop where
  c : V.c.length ≤ 40
  s : V.s.length ≤ 20
  r : V.r.length ≤ 100
  w : V.w.length ≤ 60
  t : ∀ c ∈ V.c, c.t.length ≤ 40
  q : ∀ s ∈ V.s, s.c.length ≤ 60 ∧ s.p.length ≤ 60
theorem mem_take_snoc {α : Type} {l : List α} {k : Nat} {x : α} (hx : l[k]? = some x) {p : α → Prop} (h : ∀ y ∈ l.take k, p y) (hp : p x) : ∀ y ∈ l.take (k + 1), p y := by
  intro y hy
  rw [List.take_add_one, hx] at hy
  simp only [Option.toList_some, List.mem_append, List.mem_singleton] at hy
  rcases hy with hy | rfl
  · exact h y hy
  · exact hp
set_option maxHeartbeats 1000000 in
set_option maxRecDepth 100000 in
theorem few46 {h : Heap} (V : VW) (ok : V.ok h) : CallsH Try.prog 24 ⟨[.agg ⟨V.cells⟩]⟩ h fun u h' => (∃ b, u = .bool b ∧ (b = true → Few V)) ∧ Ext No h h' := by
  obtain ⟨vc, C, vs, S, vr, R, vw, W⟩ := V
  obtain ⟨hc, hcl, hco, hs, hsl, hso, hrr, hrl, hw, hwl⟩ := ok
  simp only at hc hcl hco hs hsl hso hrr hrl hw hwl
  obtain ⟨A1, c1, rfl, _⟩ := id hc
  obtain ⟨A2, c2, rfl, _⟩ := id hs
  obtain ⟨A3, c3, rfl, _⟩ := id hrr
  obtain ⟨A4, c4, rfl, _⟩ := id hw
  dsimp only [VW.cells]
  refine calls [(0, _)] Try.func24 rfl Try.ntmps24 rfl ⟨rfl, trivial⟩ ?_
  all_goals (refine WC.seq ?_)
  all_goals (refine WC.region ?_)
  all_goals (refine WL.stepR (okE_box rfl) rfl rfl rfl ?_
             rintro _ h1 ⟨b1, rfl, hg1, hb1, hx1⟩)
  all_goals (refine WL.step (ok_assign rfl) rfl rfl rfl ?_)
  all_goals (refine WL.nil ?_)
  all_goals (repeat' (with_reducible first | refine thenP_n ?_ | refine blockP_n ?_))
  all_goals (refine WC.seq ?_)
  all_goals (refine WC.seq ?_)
  all_goals (refine WC.region ?_)
  all_goals (refine WL.step (ok_fieldAddr rfl Try.underlying46 rfl (fun w => Try.sizeOf42 w)) rfl rfl rfl ?_)
  all_goals (refine WL.step (ok_load (fun w => Try.isAgg42 w) rfl (by first | assumption | exact cell_blk (by assumption) rfl)) rfl rfl rfl ?_)
  all_goals (refine WL.step (ok_lenL rfl Try.underlying42 rfl) rfl rfl rfl ?_)
  all_goals (first | (refine WL.step (OkP.bool_t (by omega) (ok_gtr rfl rfl)) rfl rfl rfl ?_) | (refine WL.step (OkP.bool_f (by omega) (ok_gtr rfl rfl)) rfl rfl rfl ?_) | (refine WL.step (ok_gtr rfl rfl) rfl rfl rfl ?_))
  all_goals (refine WL.step (ok_move rfl) rfl rfl rfl ?_)
  all_goals (try ((fail_if_success (refine WL.part 11 (b := true) rfl (fun _ => ?_) (fun _ => ?_))); (fail_if_success (refine WL.part 11 (b := false) rfl (fun _ => ?_) (fun _ => ?_))); (refine WL.part 11 rfl (fun hb => ?_) (fun hb => ?_) <;> (first | replace hb := of_decide_eq_true hb | replace hb := of_decide_eq_false hb | replace hb := of_decide_eq_false (nt hb) | replace hb := of_decide_eq_true (nf hb) | skip))))
  all_goals (first | (refine WL.pass rfl rfl rfl ?_) | (refine WL.step (ok_fieldAddr rfl Try.underlying46 rfl (fun w => Try.sizeOf43 w)) rfl rfl rfl ?_))
  all_goals (first | (refine WL.pass rfl rfl rfl ?_) | (refine WL.step (ok_load (fun w => Try.isAgg43 w) rfl (by first | assumption | exact cell_blk (by assumption) rfl)) rfl rfl rfl ?_))
  all_goals (first | (refine WL.pass rfl rfl rfl ?_) | (refine WL.step (ok_lenL rfl Try.underlying43 rfl) rfl rfl rfl ?_))
  all_goals (first | (refine WL.pass rfl rfl rfl ?_) | (first | (refine WL.step (OkP.bool_t (by omega) (ok_gtr rfl rfl)) rfl rfl rfl ?_) | (refine WL.step (OkP.bool_f (by omega) (ok_gtr rfl rfl)) rfl rfl rfl ?_) | (refine WL.step (ok_gtr rfl rfl) rfl rfl rfl ?_)))
  all_goals (first | (refine WL.step (ok_pick_t rfl rfl) rfl rfl rfl ?_) | (refine WL.step (ok_pick_f rfl rfl) rfl rfl rfl ?_))
  all_goals (refine WL.step (ok_move rfl) rfl rfl rfl ?_)
  all_goals (try ((fail_if_success (refine WL.part 17 (b := true) rfl (fun _ => ?_) (fun _ => ?_))); (fail_if_success (refine WL.part 17 (b := false) rfl (fun _ => ?_) (fun _ => ?_))); (refine WL.part 17 rfl (fun hb => ?_) (fun hb => ?_) <;> (first | replace hb := of_decide_eq_true hb | replace hb := of_decide_eq_false hb | replace hb := of_decide_eq_false (nt hb) | replace hb := of_decide_eq_true (nf hb) | skip))))
  all_goals (first | (refine WL.pass rfl rfl rfl ?_) | (refine WL.step (ok_fieldAddr rfl Try.underlying46 rfl (fun w => Try.sizeOf44 w)) rfl rfl rfl ?_))
  all_goals (first | (refine WL.pass rfl rfl rfl ?_) | (refine WL.step (ok_load (fun w => Try.isAgg44 w) rfl (by first | assumption | exact cell_blk (by assumption) rfl)) rfl rfl rfl ?_))
  all_goals (first | (refine WL.pass rfl rfl rfl ?_) | (refine WL.step (ok_lenL rfl Try.underlying44 rfl) rfl rfl rfl ?_))
  all_goals (first | (refine WL.pass rfl rfl rfl ?_) | (first | (refine WL.step (OkP.bool_t (by omega) (ok_gtr rfl rfl)) rfl rfl rfl ?_) | (refine WL.step (OkP.bool_f (by omega) (ok_gtr rfl rfl)) rfl rfl rfl ?_) | (refine WL.step (ok_gtr rfl rfl) rfl rfl rfl ?_)))
  all_goals (first | (refine WL.step (ok_pick_t rfl rfl) rfl rfl rfl ?_) | (refine WL.step (ok_pick_f rfl rfl) rfl rfl rfl ?_))
  all_goals (refine WL.step (ok_move rfl) rfl rfl rfl ?_)
  all_goals (try ((fail_if_success (refine WL.part 23 (b := true) rfl (fun _ => ?_) (fun _ => ?_))); (fail_if_success (refine WL.part 23 (b := false) rfl (fun _ => ?_) (fun _ => ?_))); (refine WL.part 23 rfl (fun hb => ?_) (fun hb => ?_) <;> (first | replace hb := of_decide_eq_true hb | replace hb := of_decide_eq_false hb | replace hb := of_decide_eq_false (nt hb) | replace hb := of_decide_eq_true (nf hb) | skip))))
  all_goals (first | (refine WL.pass rfl rfl rfl ?_) | (refine WL.step (ok_fieldAddr rfl Try.underlying46 rfl (fun w => Try.sizeOf36 w)) rfl rfl rfl ?_))
  all_goals (first | (refine WL.pass rfl rfl rfl ?_) | (refine WL.step (ok_load (fun w => Try.isAgg36 w) rfl (by first | assumption | exact cell_blk (by assumption) rfl)) rfl rfl rfl ?_))
  all_goals (first | (refine WL.pass rfl rfl rfl ?_) | (refine WL.step (ok_lenL rfl Try.underlying36 rfl) rfl rfl rfl ?_))
  all_goals (first | (refine WL.pass rfl rfl rfl ?_) | (first | (refine WL.step (OkP.bool_t (by omega) (ok_gtr rfl rfl)) rfl rfl rfl ?_) | (refine WL.step (OkP.bool_f (by omega) (ok_gtr rfl rfl)) rfl rfl rfl ?_) | (refine WL.step (ok_gtr rfl rfl) rfl rfl rfl ?_)))
  all_goals (first | (refine WL.step (ok_pick_t rfl rfl) rfl rfl rfl ?_) | (refine WL.step (ok_pick_f rfl rfl) rfl rfl rfl ?_))
  all_goals (refine WL.nil ?_)
  all_goals (repeat' (with_reducible first | refine thenP_n ?_ | refine blockP_n ?_))
  all_goals (refine WC.sub [(1, _), (28, _)] ⟨rfl, rfl, trivial⟩ ?_)
  all_goals (first | refine WC.condB_t 1 rfl ?_ | refine WC.condB_f 2 rfl ?_ | (refine WC.condB 1 2 rfl (fun hb => ?_) (fun hb => ?_) <;> (first | replace hb := of_decide_eq_true hb | replace hb := of_decide_eq_false hb | replace hb := of_decide_eq_false (nt hb) | replace hb := of_decide_eq_true (nf hb) | skip)))
  all_goals (first
    | (fail_if_success (refine Br.mk (i := 1) ?_))
    | (refine Br.mk (i := 1) ?_
       all_goals (refine WC.seq ?_)
       all_goals (refine WC.region ?_)
       all_goals (refine WL.step (ok_assign rfl) rfl rfl rfl ?_)
       all_goals (refine WL.nil ?_)
       all_goals (repeat' (with_reducible first | refine thenP_n ?_ | refine blockP_n ?_))
       all_goals (refine WC.ret ?_)
       all_goals (repeat' (with_reducible first | refine thenP_r ?_ | refine blockP_r ?_))
       all_goals (refine retP_1 _ ⟨rfl, trivial⟩ ?_)
       all_goals (first
                   | exact ⟨⟨true, rfl, fun _ => ⟨by show C.length ≤ 40; omega, by show S.length ≤ 20; omega, by show R.length ≤ 100; omega, by show W.length ≤ 60; omega, by rw [List.take_of_length_le (by omega)] at hn; exact hn, by rw [List.take_of_length_le (by omega)] at hn'; exact hn'⟩⟩, hx5⟩
                   | exact ⟨⟨false, rfl, fun e => by cases e⟩, hX7⟩
                   | exact ⟨⟨false, rfl, fun e => by cases e⟩, hX4⟩
                   | exact ⟨⟨false, rfl, fun e => by cases e⟩, hx1⟩)
       skip))
  all_goals (first
    | (fail_if_success (refine Br.mk (i := 2) ?_))
    | (refine Br.mk (i := 2) ?_
       all_goals (refine WC.skip ?_)
       skip))
  all_goals (repeat' (with_reducible first | refine thenP_n ?_ | refine blockP_n ?_))
  all_goals (refine WC.seq ?_)
  all_goals (refine WC.seq ?_)
  all_goals (refine WC.region ?_)
  all_goals (refine WL.step (ok_fieldAddr rfl Try.underlying46 rfl (fun w => Try.sizeOf42 w)) rfl rfl rfl ?_)
  all_goals (refine WL.step (ok_load (fun w => Try.isAgg42 w) rfl (by first | assumption | exact cell_blk (by assumption) rfl)) rfl rfl rfl ?_)
  all_goals (refine WL.step (ok_lenL rfl Try.underlying42 rfl) rfl rfl rfl ?_)
  all_goals (refine WL.step (ok_move rfl) rfl rfl rfl ?_)
  all_goals (refine WL.nil ?_)
  all_goals (repeat' (with_reducible first | refine thenP_n ?_ | refine blockP_n ?_))
  all_goals (refine WC.block ?_)
  -- loop 0: slots that turn [32], that stay [1, 30, 31]
  all_goals (refine WC.loopG (X := Nat) (fun x => ([(32, In (x : Int))] : Fr)) [(1, _), (30, _), (31, _)] (fun k h' => Ext No h h' ∧ h'[b1]? = h1[b1]? ∧ k ≤ C.length ∧ ∀ c ∈ C.take k, c.t.length ≤ 40) (fun k => C.length - k) (0) ⟨rfl, rfl, rfl, rfl, trivial⟩ (by exact ⟨hx1, rfl, Nat.zero_le _, by simp⟩) ?_)
  all_goals (rintro k h2 ⟨hx2, hb2, hk, hn⟩
             rw [hb1] at hb2)
  all_goals (refine WC.sub [(32, _), (1, _), (30, _), (31, _)] ⟨rfl, rfl, rfl, rfl, trivial⟩ ?_)
  all_goals (refine WC.seq ?_)
  all_goals (refine WC.region ?_)
  all_goals (first | (refine WL.step (OkP.bool_t (by omega) (ok_lss rfl rfl)) rfl rfl rfl ?_) | (refine WL.step (OkP.bool_f (by omega) (ok_lss rfl rfl)) rfl rfl rfl ?_) | (refine WL.step (ok_lss rfl rfl) rfl rfl rfl ?_))
  all_goals (refine WL.nil ?_)
  all_goals (repeat' (with_reducible first | refine thenP_n ?_ | refine blockP_n ?_))
  all_goals (refine WC.seq ?_)
  all_goals (first | refine WC.condB_t 3 rfl ?_ | refine WC.condB_f 4 rfl ?_ | (refine WC.condB 3 4 rfl (fun hb => ?_) (fun hb => ?_) <;> (first | replace hb := of_decide_eq_true hb | replace hb := of_decide_eq_false hb | replace hb := of_decide_eq_false (nt hb) | replace hb := of_decide_eq_true (nf hb) | skip)))
  all_goals (first
    | (fail_if_success (refine Br.mk (i := 3) ?_))
    | (refine Br.mk (i := 3) ?_
       all_goals (refine WC.skip ?_)
       skip))
  all_goals (first
    | (fail_if_success (refine Br.mk (i := 4) ?_))
    | (refine Br.mk (i := 4) ?_
       all_goals (refine WC.exit ?_)
       all_goals (repeat' (with_reducible first | refine thenP_x ?_ | refine blockP_miss rfl ?_ | refine blockP_hit ?_ | refine blockP_n ?_ | refine thenP_n ?_))
       all_goals (refine Br.out (i := 1000) ?_)
       skip))
  all_goals (first | (refine Br.keep ?_) | (repeat' (with_reducible first | refine thenP_n ?_ | refine blockP_n ?_)))
  all_goals (first | (refine Br.keep ?_) | (refine WC.seq ?_))
  all_goals (first | (refine Br.keep ?_) | (refine WC.block ?_))
  all_goals (first | (refine Br.keep ?_) | (refine WC.seq ?_))
  all_goals (first | (refine Br.keep ?_) | (refine WC.region ?_))
  all_goals (first
               | (refine Br.keep ?_)
               | (obtain ⟨bL, oL, hA, hbL, hat⟩ := Rd.at_ (hc.ext0 hx2) (by omega)
                  obtain ⟨⟨ph, sv, dn, tv, t⟩, hy⟩ : ∃ y, C[k]? = some y := ⟨_, List.getElem?_eq_getElem (by omega)⟩
                  have hco2 := (hco _ (List.mem_of_getElem? hy)).ext0 hx2
                  obtain ⟨At1, ct1, etv, _⟩ := id hco2.1
                  simp only at etv
                  subst etv
                  have hcc : At h2 bL (oL + k * 4) [In ph, In sv, In dn, .slice At1 t.length ct1] := At.elem CV.len hat hy))
  all_goals (first | (refine Br.keep ?_) | (refine WL.step (ok_idxAddrA Try.underlying42 (fun w => Try.sizeOf82 w) rfl rfl rfl (by omega) (by first | rfl | assumption)) rfl rfl rfl ?_))
  all_goals (first | (refine Br.keep ?_) | (refine WL.step (ok_loadN (fun w => Try.isAgg82 w) (fun w => Try.sizeOf82 w) rfl rfl (by assumption)) rfl rfl rfl ?_))
  all_goals (first
               | (refine Br.keep ?_)
               | (refine WL.stepR (okE_alloc (fun w => Try.zeroValue82 w)) rfl rfl rfl ?_
                  rintro _ h3 ⟨b3, rfl, hg3, hb3, hx3⟩))
  all_goals (first
               | (refine Br.keep ?_)
               | (refine WL.stepR0 (okE_storeW (fun w => Try.sizeOf82 w) rfl rfl rfl (by assumption) rfl (by simp [Value.oneCell'])) rfl rfl ?_
                  rintro _ h4 ⟨hb4, hx4⟩))
  all_goals (first
               | (refine Br.keep ?_)
               | (have hX4 : Ext No h h4 := (hx2.trans hx3).trans' hx4 (fun q hq e => by have := hx2.size; omega)
                  have hb14 : h4[b1]? = h1[b1]? := by rw [hb1]; exact (hx4.obj (hx3.obj hb2 nos) (fun e => by have := lt_of_some hb2; omega))))
  all_goals (first | (refine Br.keep ?_) | (refine WL.nil ?_))
  all_goals (first | (refine Br.keep ?_) | (repeat' (with_reducible first | refine thenP_n ?_ | refine blockP_n ?_)))
  all_goals (first | (refine Br.keep ?_) | (refine WC.seq ?_))
  all_goals (first | (refine Br.keep ?_) | (refine WC.region ?_))
  all_goals (first | (refine Br.keep ?_) | (refine WL.step (ok_fieldAddr rfl Try.underlying82 rfl (fun w => Try.sizeOf80 w)) rfl rfl rfl ?_))
  all_goals (first | (refine Br.keep ?_) | (refine WL.step (ok_load (fun w => Try.isAgg80 w) rfl (by first | assumption | exact cell_blk (by assumption) rfl)) rfl rfl rfl ?_))
  all_goals (first | (refine Br.keep ?_) | (refine WL.step (ok_lenL rfl Try.underlying80 rfl) rfl rfl rfl ?_))
  all_goals (first | (refine Br.keep ?_) | (first | (refine WL.step (OkP.bool_t (by omega) (ok_gtr rfl rfl)) rfl rfl rfl ?_) | (refine WL.step (OkP.bool_f (by omega) (ok_gtr rfl rfl)) rfl rfl rfl ?_) | (refine WL.step (ok_gtr rfl rfl) rfl rfl rfl ?_)))
  all_goals (first | (refine Br.keep ?_) | (refine WL.nil ?_))
  all_goals (first | (refine Br.keep ?_) | (repeat' (with_reducible first | refine thenP_n ?_ | refine blockP_n ?_)))
  all_goals (first | (refine Br.keep ?_) | (refine WC.sub [(1, _), (30, _), (31, _), (32, _), (39, _)] ⟨rfl, rfl, rfl, rfl, rfl, trivial⟩ ?_))
  all_goals (first | (refine Br.keep ?_) | (first | refine WC.condB_t 5 rfl ?_ | refine WC.condB_f 6 rfl ?_ | (refine WC.condB 5 6 rfl (fun hb => ?_) (fun hb => ?_) <;> (first | replace hb := of_decide_eq_true hb | replace hb := of_decide_eq_false hb | replace hb := of_decide_eq_false (nt hb) | replace hb := of_decide_eq_true (nf hb) | skip))))
  all_goals (first
    | (fail_if_success (refine Br.mk (i := 5) ?_))
    | (refine Br.mk (i := 5) ?_
       all_goals (refine WC.seq ?_)
       all_goals (refine WC.region ?_)
       all_goals (refine WL.step (ok_assign rfl) rfl rfl rfl ?_)
       all_goals (refine WL.nil ?_)
       all_goals (repeat' (with_reducible first | refine thenP_n ?_ | refine blockP_n ?_))
       all_goals (refine WC.sub [(2, _)] ⟨rfl, trivial⟩ ?_)
       all_goals (refine WC.ret ?_)
       all_goals (repeat' (with_reducible first | refine thenP_r ?_ | refine blockP_r ?_))
       all_goals (refine retP_1 _ ⟨rfl, trivial⟩ ?_)
       all_goals (first
                   | exact ⟨⟨true, rfl, fun _ => ⟨by show C.length ≤ 40; omega, by show S.length ≤ 20; omega, by show R.length ≤ 100; omega, by show W.length ≤ 60; omega, by rw [List.take_of_length_le (by omega)] at hn; exact hn, by rw [List.take_of_length_le (by omega)] at hn'; exact hn'⟩⟩, hx5⟩
                   | exact ⟨⟨false, rfl, fun e => by cases e⟩, hX7⟩
                   | exact ⟨⟨false, rfl, fun e => by cases e⟩, hX4⟩
                   | exact ⟨⟨false, rfl, fun e => by cases e⟩, hx1⟩)
       skip))
  all_goals (first
    | (fail_if_success (refine Br.mk (i := 6) ?_))
    | (refine Br.mk (i := 6) ?_
       all_goals (refine WC.skip ?_)
       skip))
  all_goals (first | (refine Br.keep ?_) | (repeat' (with_reducible first | refine thenP_n ?_ | refine blockP_n ?_)))
  all_goals (first | (refine Br.keep ?_) | (refine WC.region ?_))
  all_goals (first | (refine Br.keep ?_) | (first | (refine WL.step (ok_addI rfl rfl (by omega)) rfl rfl rfl ?_) | (refine WL.step (ok_add rfl rfl) rfl rfl rfl ?_)))
  all_goals (first | (refine Br.keep ?_) | (refine WL.step (ok_move rfl) rfl rfl rfl ?_))
  all_goals (first | (refine Br.keep ?_) | (refine WL.nil ?_))
  all_goals (first | (refine Br.keep ?_) | (repeat' (with_reducible first | refine thenP_n ?_ | refine blockP_n ?_)))
  all_goals (first | (refine Br.keep ?_) | (exact ⟨k + 1, ⟨rfl, rfl, rfl, rfl, trivial⟩, (by exact ⟨hX4, hb14, by omega, mem_take_snoc hy hn (by show t.length ≤ 40; omega)⟩), (by omega)⟩))
  all_goals (try (refine Br.mk (i := 1000) ?_))
  all_goals (repeat' (with_reducible first | refine thenP_n ?_ | refine blockP_n ?_))
  all_goals (refine WC.sub [(1, _)] ⟨rfl, trivial⟩ ?_)
  all_goals (refine WC.seq ?_)
  all_goals (refine WC.seq ?_)
  all_goals (refine WC.region ?_)
  all_goals (refine WL.step (ok_fieldAddr rfl Try.underlying46 rfl (fun w => Try.sizeOf43 w)) rfl rfl rfl ?_)
  all_goals (refine WL.step (ok_load (fun w => Try.isAgg43 w) rfl (by first | assumption | exact cell_blk (by assumption) rfl)) rfl rfl rfl ?_)
  all_goals (refine WL.step (ok_lenL rfl Try.underlying43 rfl) rfl rfl rfl ?_)
  all_goals (refine WL.step (ok_move rfl) rfl rfl rfl ?_)
  all_goals (refine WL.nil ?_)
  all_goals (repeat' (with_reducible first | refine thenP_n ?_ | refine blockP_n ?_))
  all_goals (refine WC.block ?_)
  -- loop 1: slots that turn [44], that stay [42, 43]
  all_goals (refine WC.loopG (X := Nat) (fun x => ([(44, In (x : Int))] : Fr)) [(42, _), (43, _)] (fun k h' => Ext No h h' ∧ k ≤ S.length ∧ ∀ s ∈ S.take k, s.c.length ≤ 60 ∧ s.p.length ≤ 60) (fun k => S.length - k) (0) ⟨rfl, rfl, rfl, trivial⟩ (by exact ⟨hx2, Nat.zero_le _, by simp⟩) ?_)
  all_goals (rintro k' h5 ⟨hx5, hk', hn'⟩)
  all_goals (refine WC.sub [(44, _), (42, _), (43, _)] ⟨rfl, rfl, rfl, trivial⟩ ?_)
  all_goals (refine WC.seq ?_)
  all_goals (refine WC.region ?_)
  all_goals (first | (refine WL.step (OkP.bool_t (by omega) (ok_lss rfl rfl)) rfl rfl rfl ?_) | (refine WL.step (OkP.bool_f (by omega) (ok_lss rfl rfl)) rfl rfl rfl ?_) | (refine WL.step (ok_lss rfl rfl) rfl rfl rfl ?_))
  all_goals (refine WL.nil ?_)
  all_goals (repeat' (with_reducible first | refine thenP_n ?_ | refine blockP_n ?_))
  all_goals (refine WC.seq ?_)
  all_goals (first | refine WC.condB_t 7 rfl ?_ | refine WC.condB_f 8 rfl ?_ | (refine WC.condB 7 8 rfl (fun hb => ?_) (fun hb => ?_) <;> (first | replace hb := of_decide_eq_true hb | replace hb := of_decide_eq_false hb | replace hb := of_decide_eq_false (nt hb) | replace hb := of_decide_eq_true (nf hb) | skip)))
  all_goals (first
    | (fail_if_success (refine Br.mk (i := 7) ?_))
    | (refine Br.mk (i := 7) ?_
       all_goals (refine WC.skip ?_)
       skip))
  all_goals (first
    | (fail_if_success (refine Br.mk (i := 8) ?_))
    | (refine Br.mk (i := 8) ?_
       all_goals (refine WC.exit ?_)
       all_goals (repeat' (with_reducible first | refine thenP_x ?_ | refine blockP_miss rfl ?_ | refine blockP_hit ?_ | refine blockP_n ?_ | refine thenP_n ?_))
       all_goals (refine Br.out (i := 1002) ?_)
       skip))
  all_goals (first | (refine Br.keep ?_) | (repeat' (with_reducible first | refine thenP_n ?_ | refine blockP_n ?_)))
  all_goals (first | (refine Br.keep ?_) | (refine WC.seq ?_))
  all_goals (first | (refine Br.keep ?_) | (refine WC.block ?_))
  all_goals (first | (refine Br.keep ?_) | (refine WC.seq ?_))
  all_goals (first | (refine Br.keep ?_) | (refine WC.region ?_))
  all_goals (first
               | (refine Br.keep ?_)
               | (obtain ⟨bL, oL, hA, hbL, hat⟩ := Rd.at_ (hs.ext0 hx5) (by omega)
                  obtain ⟨⟨st, ho, qu, ss, vc2, cc, vp2, pp⟩, hy⟩ : ∃ y, S[k']? = some y := ⟨_, List.getElem?_eq_getElem (by omega)⟩
                  have hso5 := (hso _ (List.mem_of_getElem? hy)).ext0 hx5
                  obtain ⟨At1, ct1, etv, _⟩ := id hso5.c
                  obtain ⟨At2, ct2, etw, _⟩ := id hso5.p
                  simp only at etv etw
                  subst etv etw
                  have hcc : At h5 bL (oL + k' * 6) [In st, In ho, In qu, By ss, .slice At1 cc.length ct1, .slice At2 pp.length ct2] := At.elem SV.len hat hy))
  all_goals (first | (refine Br.keep ?_) | (refine WL.step (ok_idxAddrA Try.underlying43 (fun w => Try.sizeOf84 w) rfl rfl rfl (by omega) (by first | rfl | assumption)) rfl rfl rfl ?_))
  all_goals (first | (refine Br.keep ?_) | (refine WL.step (ok_loadN (fun w => Try.isAgg84 w) (fun w => Try.sizeOf84 w) rfl rfl (by assumption)) rfl rfl rfl ?_))
  all_goals (first
               | (refine Br.keep ?_)
               | (refine WL.stepR (okE_alloc (fun w => Try.zeroValue84 w)) rfl rfl rfl ?_
                  rintro _ h6 ⟨b6, rfl, hg6, hb6, hx6⟩))
  all_goals (first
               | (refine Br.keep ?_)
               | (refine WL.stepR0 (okE_storeW (fun w => Try.sizeOf84 w) rfl rfl rfl (by assumption) rfl (by simp [Value.oneCell'])) rfl rfl ?_
                  rintro _ h7 ⟨hb7, hx7⟩))
  all_goals (first | (refine Br.keep ?_) | (have hX7 : Ext No h h7 := (hx5.trans hx6).trans' hx7 (fun q hq e => by have := hx5.size; omega)))
  all_goals (first | (refine Br.keep ?_) | (refine WL.nil ?_))
  all_goals (first | (refine Br.keep ?_) | (repeat' (with_reducible first | refine thenP_n ?_ | refine blockP_n ?_)))
  all_goals (first | (refine Br.keep ?_) | (refine WC.seq ?_))
  all_goals (first | (refine Br.keep ?_) | (refine WC.region ?_))
  all_goals (first | (refine Br.keep ?_) | (refine WL.step (ok_fieldAddr rfl Try.underlying84 rfl (fun w => Try.sizeOf36 w)) rfl rfl rfl ?_))
  all_goals (first | (refine Br.keep ?_) | (refine WL.step (ok_load (fun w => Try.isAgg36 w) rfl (by first | assumption | exact cell_blk (by assumption) rfl)) rfl rfl rfl ?_))
  all_goals (first | (refine Br.keep ?_) | (refine WL.step (ok_lenL rfl Try.underlying36 rfl) rfl rfl rfl ?_))
  all_goals (first | (refine Br.keep ?_) | (first | (refine WL.step (OkP.bool_t (by omega) (ok_gtr rfl rfl)) rfl rfl rfl ?_) | (refine WL.step (OkP.bool_f (by omega) (ok_gtr rfl rfl)) rfl rfl rfl ?_) | (refine WL.step (ok_gtr rfl rfl) rfl rfl rfl ?_)))
  all_goals (first | (refine Br.keep ?_) | (refine WL.step (ok_move rfl) rfl rfl rfl ?_))
  all_goals (first | (refine Br.keep ?_) | (try ((fail_if_success (refine WL.part 52 (b := true) rfl (fun _ => ?_) (fun _ => ?_))); (fail_if_success (refine WL.part 52 (b := false) rfl (fun _ => ?_) (fun _ => ?_))); (refine WL.part 52 rfl (fun hb => ?_) (fun hb => ?_) <;> (first | replace hb := of_decide_eq_true hb | replace hb := of_decide_eq_false hb | replace hb := of_decide_eq_false (nt hb) | replace hb := of_decide_eq_true (nf hb) | skip)))))
  all_goals (first | (refine Br.keep ?_) | (first | (refine WL.pass rfl rfl rfl ?_) | (refine WL.step (ok_fieldAddr rfl Try.underlying84 rfl (fun w => Try.sizeOf36 w)) rfl rfl rfl ?_)))
  all_goals (first | (refine Br.keep ?_) | (first | (refine WL.pass rfl rfl rfl ?_) | (refine WL.step (ok_load (fun w => Try.isAgg36 w) rfl (by first | assumption | exact cell_blk (by assumption) rfl)) rfl rfl rfl ?_)))
  all_goals (first | (refine Br.keep ?_) | (first | (refine WL.pass rfl rfl rfl ?_) | (refine WL.step (ok_lenL rfl Try.underlying36 rfl) rfl rfl rfl ?_)))
  all_goals (first | (refine Br.keep ?_) | (first | (refine WL.pass rfl rfl rfl ?_) | (first | (refine WL.step (OkP.bool_t (by omega) (ok_gtr rfl rfl)) rfl rfl rfl ?_) | (refine WL.step (OkP.bool_f (by omega) (ok_gtr rfl rfl)) rfl rfl rfl ?_) | (refine WL.step (ok_gtr rfl rfl) rfl rfl rfl ?_))))
  all_goals (first | (refine Br.keep ?_) | (first | (refine WL.step (ok_pick_t rfl rfl) rfl rfl rfl ?_) | (refine WL.step (ok_pick_f rfl rfl) rfl rfl rfl ?_)))
  all_goals (first | (refine Br.keep ?_) | (refine WL.nil ?_))
  all_goals (first | (refine Br.keep ?_) | (repeat' (with_reducible first | refine thenP_n ?_ | refine blockP_n ?_)))
  all_goals (first | (refine Br.keep ?_) | (refine WC.sub [(42, _), (43, _), (44, _), (57, _)] ⟨rfl, rfl, rfl, rfl, trivial⟩ ?_))
  all_goals (first | (refine Br.keep ?_) | (first | refine WC.condB_t 9 rfl ?_ | refine WC.condB_f 10 rfl ?_ | (refine WC.condB 9 10 rfl (fun hb => ?_) (fun hb => ?_) <;> (first | replace hb := of_decide_eq_true hb | replace hb := of_decide_eq_false hb | replace hb := of_decide_eq_false (nt hb) | replace hb := of_decide_eq_true (nf hb) | skip))))
  all_goals (first
    | (fail_if_success (refine Br.mk (i := 9) ?_))
    | (refine Br.mk (i := 9) ?_
       all_goals (refine WC.seq ?_)
       all_goals (refine WC.region ?_)
       all_goals (refine WL.step (ok_assign rfl) rfl rfl rfl ?_)
       all_goals (refine WL.nil ?_)
       all_goals (repeat' (with_reducible first | refine thenP_n ?_ | refine blockP_n ?_))
       all_goals (refine WC.sub [(2, _)] ⟨rfl, trivial⟩ ?_)
       all_goals (refine WC.ret ?_)
       all_goals (repeat' (with_reducible first | refine thenP_r ?_ | refine blockP_r ?_))
       all_goals (refine retP_1 _ ⟨rfl, trivial⟩ ?_)
       all_goals (first
                   | exact ⟨⟨true, rfl, fun _ => ⟨by show C.length ≤ 40; omega, by show S.length ≤ 20; omega, by show R.length ≤ 100; omega, by show W.length ≤ 60; omega, by rw [List.take_of_length_le (by omega)] at hn; exact hn, by rw [List.take_of_length_le (by omega)] at hn'; exact hn'⟩⟩, hx5⟩
                   | exact ⟨⟨false, rfl, fun e => by cases e⟩, hX7⟩
                   | exact ⟨⟨false, rfl, fun e => by cases e⟩, hX4⟩
                   | exact ⟨⟨false, rfl, fun e => by cases e⟩, hx1⟩)
       skip))
  all_goals (first
    | (fail_if_success (refine Br.mk (i := 10) ?_))
    | (refine Br.mk (i := 10) ?_
       all_goals (refine WC.skip ?_)
       skip))
  all_goals (first | (refine Br.keep ?_) | (repeat' (with_reducible first | refine thenP_n ?_ | refine blockP_n ?_)))
  all_goals (first | (refine Br.keep ?_) | (refine WC.region ?_))
  all_goals (first | (refine Br.keep ?_) | (first | (refine WL.step (ok_addI rfl rfl (by omega)) rfl rfl rfl ?_) | (refine WL.step (ok_add rfl rfl) rfl rfl rfl ?_)))
  all_goals (first | (refine Br.keep ?_) | (refine WL.step (ok_move rfl) rfl rfl rfl ?_))
  all_goals (first | (refine Br.keep ?_) | (refine WL.nil ?_))
  all_goals (first | (refine Br.keep ?_) | (repeat' (with_reducible first | refine thenP_n ?_ | refine blockP_n ?_)))
  all_goals (first | (refine Br.keep ?_) | (exact ⟨k' + 1, ⟨rfl, rfl, rfl, trivial⟩, (by exact ⟨hX7, by omega, mem_take_snoc hy hn' ⟨by show cc.length ≤ 60; omega, by show pp.length ≤ 60; omega⟩⟩), (by omega)⟩))
  all_goals (try (refine Br.mk (i := 1002) ?_))
  all_goals (repeat' (with_reducible first | refine thenP_n ?_ | refine blockP_n ?_))
  all_goals (refine WC.sub [] trivial ?_)
  all_goals (refine WC.seq ?_)
  all_goals (refine WC.region ?_)
  all_goals (refine WL.step (ok_assign rfl) rfl rfl rfl ?_)
  all_goals (refine WL.nil ?_)
  all_goals (repeat' (with_reducible first | refine thenP_n ?_ | refine blockP_n ?_))
  all_goals (refine WC.ret ?_)
  all_goals (repeat' (with_reducible first | refine thenP_r ?_ | refine blockP_r ?_))
  all_goals (refine retP_1 _ ⟨rfl, trivial⟩ ?_)
  all_goals (first
              | exact ⟨⟨true, rfl, fun _ => ⟨by show C.length ≤ 40; omega, by show S.length ≤ 20; omega, by show R.length ≤ 100; omega, by show W.length ≤ 60; omega, by rw [List.take_of_length_le (by omega)] at hn; exact hn, by rw [List.take_of_length_le (by omega)] at hn'; exact hn'⟩⟩, hx5⟩
              | exact ⟨⟨false, rfl, fun e => by cases e⟩, hX7⟩
              | exact ⟨⟨false, rfl, fun e => by cases e⟩, hX4⟩
              | exact ⟨⟨false, rfl, fun e => by cases e⟩, hx1⟩)

/-! ### all that stand in a view -/
def idsC (l : List CV) : List Int := l.flatMap fun c => c.t.map (·.2)
def idsS (l : List SV) : List Int := l.flatMap fun s => s.c ++ s.p
def idsV (V : VW) : List Int := idsC V.c ++ idsS V.s
theorem idsC_snoc {l : List CV} {k : Nat} {c : CV} (h : l[k]? = some c) : idsC (l.take (k + 1)) = idsC (l.take k) ++ c.t.map (·.2) := by
  unfold idsC
  rw [List.take_add_one, h, List.flatMap_append]
  simp
theorem idsS_snoc {l : List SV} {k : Nat} {c : SV} (h : l[k]? = some c) : idsS (l.take (k + 1)) = (idsS (l.take k) ++ c.c) ++ c.p := by
  unfold idsS
  rw [List.take_add_one, h, List.flatMap_append]
  simp
theorem sum_len {α : Type} (l : List α) (f : α → List Int) (n : Nat) (h : ∀ x ∈ l, (f x).length ≤ n) : (l.flatMap f).length ≤ n * l.length := by
  induction l with
  | nil => simp
  | cons a l ih =>
    have h1 := h a (.head _)
    have h2 := ih fun x hx => h x (.tail _ hx)
    rw [List.flatMap_cons, List.length_append, List.length_cons, Nat.mul_succ]
    omega
theorem idsC_len {V : VW} (f : Few V) (k : Nat) : (idsC (V.c.take k)).length ≤ 1600 := by
  have := sum_len (V.c.take k) (fun c => c.t.map (·.2)) 40 fun c hc => by rw [List.length_map]; exact f.t c (List.mem_of_mem_take hc)
  have h1 := f.c
  have h2 : (V.c.take k).length ≤ V.c.length := by rw [List.length_take]; omega
  unfold idsC
  omega
theorem idsS_len {V : VW} (f : Few V) (k : Nat) : (idsS (V.s.take k)).length ≤ 2400 := by
  have := sum_len (V.s.take k) (fun s => s.c ++ s.p) 120 fun s hs => by rw [List.length_append]; have := f.q s (List.mem_of_mem_take hs); omega
  have h1 := f.s
  have h2 : (V.s.take k).length ≤ V.s.length := by rw [List.length_take]; omega
  unfold idsS
  omega
end Go.Proofs.Ytfadcbbjjdmmfaa

