/-
  SEVERAL TEXTS IN ONE: Dx21, Dp1, DigClean, Dp2, Dx22, Dx23, SaysP, SeLs.
-/
import Derived.Test.YtbokngiajfdanaaGreatDoorPSessSays5
import Derived.Test.YtbokngiajfdanaaGreatDoorRows
import Derived.Lay
import Derived.LaidLaws
import Derived.LaidHandle
import Derived.Stop.Joined
/-
  SESSIONS (layer 30), by the code: what is dealt of any message.
-/
namespace Go.Proofs.YtbokngiajfdanaaGreatDoor
open Go Go.RK

section
variable {h h' : Heap} {A : Ad} {st : Int} {sk ov : Bool} {cnt : Int} {L : List (List UInt8 × StD)} {P : List (List UInt8 × ItD)}
theorem Dealt.mono0 {g : Heap} {r : SayP} {u : Value} (x : Ext No h g) (d : Dealt g A P r u h') : Dealt h A P r u h' := by
  obtain ⟨v, B, c, e, O, p, L', P', k, e1, e2, t⟩ := d
  exact ⟨v, B, c, e, O.mono x.size, p, L', P', k, e1, e2, (Tn.no x).trans t⟩
/-- A call that gives two things. -/
def Two (Φ : Value → Value → Heap → Prop) (u : Value) (h' : Heap) : Prop := ∃ v e, u = .tuple ⟨[v, e]⟩ ∧ Φ v e h'
/-- What one of deal's calls gives. -/
abbrev DealG (F : Nat) (h : Heap) (u : Value) (f : Fm) (Φ : Value → Value → Heap → Prop) : Prop := ∀ g, Ext No h g → CallsH Tryz.prog F ⟨[u, .agg ⟨f.cells⟩]⟩ g (Two Φ)
set_option maxHeartbeats 2000000 in
set_option maxRecDepth 100000 in
theorem deal_of {u : Value} {f : Fm} {Φ : Value → Value → Heap → Prop} (hf : f.ok h)
    (hk : (f.kind = 80 ∧ DealG 46 h u f Φ) ∨ (f.kind = 66 ∧ DealG 47 h u f Φ) ∨ (f.kind = 68 ∧ DealG 48 h u f Φ) ∨ (f.kind = 69 ∧ DealG 49 h u f Φ) ∨
      (f.kind = 67 ∧ DealG 50 h u f Φ) ∨ (f.kind = 81 ∧ DealG 51 h u f Φ) ∨
      ((f.kind ≠ 80 ∧ f.kind ≠ 66 ∧ f.kind ≠ 68 ∧ f.kind ≠ 69 ∧ f.kind ≠ 67 ∧ f.kind ≠ 81) ∧ ∀ g, Ext No h g → Φ (.slice none 0 0) .nilIface g)) :
    CallsH Tryz.prog 23 ⟨[u, .agg ⟨f.cells⟩]⟩ h (Two Φ) := by
  obtain ⟨⟨e1, _⟩, ⟨e2, _⟩, ⟨e3, _⟩, e4, _⟩ := hf
  obtain ⟨fk, w, n, p, t, vo, o, vf, fs, vs, rs, vp, ps, mx⟩ := f
  dsimp only at e1 e2 e3 e4 hk
  obtain ⟨_, _, rfl, _⟩ := e1
  obtain ⟨_, _, rfl, _⟩ := e2
  obtain ⟨_, _, rfl, _⟩ := e3
  obtain ⟨_, _, rfl, _⟩ := e4
  unfold DealG at hk
  dsimp only [Fm.cells] at hk ⊢
  rcases hk with ⟨rfl, kp⟩ | ⟨rfl, kp⟩ | ⟨rfl, kp⟩ | ⟨rfl, kp⟩ | ⟨rfl, kp⟩ | ⟨rfl, kp⟩ | ⟨⟨n1, n2, n3, n4, n5, n6⟩, kp⟩
  all_goals
    refine calls [(0, _), (1, _)] Tryz.func23 rfl Tryz.ntmps23 rfl ⟨rfl, rfl, trivial⟩ ?_
    all_goals (refine WC.sr ?_; refine WL.stepR (okE_box rfl) rfl rfl rfl ?_; rintro _ h1 ⟨b3, rfl, hg1, hb1, hx1⟩; refine Go ?_; refine WC.seq ?_; refine WC.sr ?_; refine Go ?_; refine WL.ld rfl (by first | exact cell_blk hb1 rfl | assumption | exact cell_blk (by assumption) rfl) rfl rfl rfl ?_; refine Gn ?_; refine Gs [(0, _), (3, _), (7, _)] ?_; refine WC.block ?_; refine WC.sr ?_; refine Go ?_; refine goC 1 2 ?_ TT.mk)
    all_goals (first | (fail_if_success refine goB 1 ?_) | (
    refine goB 1 ?_
    all_goals (refine WC.sr ?_; refine Go ?_; refine WL.step (ok_loadN (fun w => Tryz.isAgg32 w) (fun w => Tryz.sizeOf32 w) rfl rfl (by exact At.of_block hb1)) rfl rfl rfl ?_; refine WL.call (vs := [_, _]) rfl (fun a w => Tryz.call46 a w) rfl (kp _ hx1) rfl rfl rfl ?_; rintro _ h2 ⟨v, e, rfl, D⟩; refine Go ?_; refine Gs [(4, _), (5, _)] ?_; refine Gt ?_; first | exact ⟨v, e, rfl, D⟩ | exact ⟨_, _, rfl, kp _ hx1⟩ | (exfalso; omega))
    skip))
    all_goals (refine goB 2 ?_; refine WC.sr ?_; refine Go ?_; refine goC 3 4 ?_ TT.mk)
    all_goals (first | (fail_if_success refine goB 3 ?_) | (
    refine goB 3 ?_
    all_goals (refine WC.sr ?_; refine Go ?_; refine WL.step (ok_loadN (fun w => Tryz.isAgg32 w) (fun w => Tryz.sizeOf32 w) rfl rfl (by exact At.of_block hb1)) rfl rfl rfl ?_; refine WL.call (vs := [_, _]) rfl (fun a w => Tryz.call47 a w) rfl (kp _ hx1) rfl rfl rfl ?_; rintro _ h2 ⟨v, e, rfl, D⟩; refine Go ?_; refine Gs [(4, _), (5, _)] ?_; refine Gt ?_; first | exact ⟨v, e, rfl, D⟩ | exact ⟨_, _, rfl, kp _ hx1⟩ | (exfalso; omega))
    skip))
    all_goals (refine goB 4 ?_; refine WC.sr ?_; refine Go ?_; refine Gs [(0, _), (3, _), (7, _), (22, _)] ?_; refine goC 5 6 ?_ TT.mk)
    all_goals (first | (fail_if_success refine goB 5 ?_) | (
    refine goB 5 ?_
    all_goals (refine WC.sr ?_; refine Go ?_; refine WL.step (ok_loadN (fun w => Tryz.isAgg32 w) (fun w => Tryz.sizeOf32 w) rfl rfl (by exact At.of_block hb1)) rfl rfl rfl ?_; refine WL.call (vs := [_, _]) rfl (fun a w => Tryz.call48 a w) rfl (kp _ hx1) rfl rfl rfl ?_; rintro _ h2 ⟨v, e, rfl, D⟩; refine Go ?_; refine Gs [(4, _), (5, _)] ?_; refine Gt ?_; first | exact ⟨v, e, rfl, D⟩ | exact ⟨_, _, rfl, kp _ hx1⟩ | (exfalso; omega))
    skip))
    all_goals (refine goB 6 ?_; refine WC.sr ?_; refine Go ?_; refine goC 7 8 ?_ TT.mk)
    all_goals (first | (fail_if_success refine goB 7 ?_) | (
    refine goB 7 ?_
    all_goals (refine WC.sr ?_; refine Go ?_; refine WL.step (ok_loadN (fun w => Tryz.isAgg32 w) (fun w => Tryz.sizeOf32 w) rfl rfl (by exact At.of_block hb1)) rfl rfl rfl ?_; refine WL.call (vs := [_, _]) rfl (fun a w => Tryz.call49 a w) rfl (kp _ hx1) rfl rfl rfl ?_; rintro _ h2 ⟨v, e, rfl, D⟩; refine Go ?_; refine Gs [(4, _), (5, _)] ?_; refine Gt ?_; first | exact ⟨v, e, rfl, D⟩ | exact ⟨_, _, rfl, kp _ hx1⟩ | (exfalso; omega))
    skip))
    all_goals (refine goB 8 ?_; refine WC.sr ?_; refine Go ?_; refine Gs [(0, _), (3, _), (7, _), (36, _)] ?_; refine goC 9 10 ?_ TT.mk)
    all_goals (first | (fail_if_success refine goB 9 ?_) | (
    refine goB 9 ?_
    all_goals (refine WC.sr ?_; refine Go ?_; refine WL.step (ok_loadN (fun w => Tryz.isAgg32 w) (fun w => Tryz.sizeOf32 w) rfl rfl (by exact At.of_block hb1)) rfl rfl rfl ?_; refine WL.call (vs := [_, _]) rfl (fun a w => Tryz.call50 a w) rfl (kp _ hx1) rfl rfl rfl ?_; rintro _ h2 ⟨v, e, rfl, D⟩; refine Go ?_; refine Gs [(4, _), (5, _)] ?_; refine Gt ?_; first | exact ⟨v, e, rfl, D⟩ | exact ⟨_, _, rfl, kp _ hx1⟩ | (exfalso; omega))
    skip))
    all_goals (refine goB 10 ?_; refine WC.sr ?_; refine Go ?_; refine goC 11 12 ?_ TT.mk)
    all_goals (first | (fail_if_success refine goB 11 ?_) | (
    refine goB 11 ?_
    all_goals (refine WC.sr ?_; refine Go ?_; refine WL.step (ok_loadN (fun w => Tryz.isAgg32 w) (fun w => Tryz.sizeOf32 w) rfl rfl (by exact At.of_block hb1)) rfl rfl rfl ?_; refine WL.call (vs := [_, _]) rfl (fun a w => Tryz.call51 a w) rfl (kp _ hx1) rfl rfl rfl ?_; rintro _ h2 ⟨v, e, rfl, D⟩; refine Go ?_; refine Gs [(4, _), (5, _)] ?_; refine Gt ?_; first | exact ⟨v, e, rfl, D⟩ | exact ⟨_, _, rfl, kp _ hx1⟩ | (exfalso; omega))
    skip))
    all_goals (refine goB 12 ?_; refine WC.skip ?_; refine Gn ?_; refine Gs [] ?_; refine WC.sr ?_; refine Go ?_; refine Gt ?_; first | exact ⟨v, e, rfl, D⟩ | exact ⟨_, _, rfl, kp _ hx1⟩ | (exfalso; omega))
theorem Dealt.two {g : Heap} {r : SayP} {u : Value} (x : Ext No h g) (d : Dealt g A P r u h') : Two (fun v e h' => Dealt h A P r (.tuple ⟨[v, e]⟩) h') u h' := by
  obtain ⟨v, B, c, rfl, d⟩ := d
  exact ⟨v, _, rfl, Dealt.mono0 x ⟨v, B, c, rfl, d⟩⟩
theorem deal_v (k : Ss h A st sk ov cnt L P) (lm : LimP (spO st sk ov cnt L P)) (f : Fm) (hf : f.ok h) (hF : ∀ q, f.F q → ¬ Mu A P q) (fl : FmLim f) : CallsH Tryz.prog 23 ⟨[.pointer (some ⟨A.bs, 0, none⟩), .agg ⟨f.cells⟩]⟩ h (Two fun v e h' => Dealt h A P (dealP (spO st sk ov cnt L P) f.p) (.tuple ⟨[v, e]⟩) h') := by
  have e0 : dealP (spO st sk ov cnt L P) f.p = if f.kind = 80 then parseP (spO st sk ov cnt L P) f.p else if f.kind = 66 then bindP (spO st sk ov cnt L P) f.p else if f.kind = 68 then describeP (spO st sk ov cnt L P) f.p else if f.kind = 69 then executeP (spO st sk ov cnt L P) f.p
      else if f.kind = 67 then shutP (spO st sk ov cnt L P) f.p else if f.kind = 81 then queryP (spO st sk ov cnt L P) f.p else (spO st sk ov cnt L P, [], none) := rfl
  rw [e0]
  refine deal_of hf ?_
  by_cases e1 : f.kind = 80
  · exact .inl ⟨e1, fun g x => by rw [if_pos e1]; exact (parse_v (k.ext0 x) f (hf.ext0 x) hF fl).mono fun _ _ d => d.two x⟩
  refine .inr ?_
  rw [if_neg e1]
  by_cases e2 : f.kind = 66
  · exact .inl ⟨e2, fun g x => by rw [if_pos e2]; exact (bind_v (k.ext0 x) lm f (hf.ext0 x) hF fl).mono fun _ _ d => d.two x⟩
  refine .inr ?_
  rw [if_neg e2]
  by_cases e3 : f.kind = 68
  · exact .inl ⟨e3, fun g x => by rw [if_pos e3]; exact (describe_v (k.ext0 x) lm f (hf.ext0 x) fl).mono fun _ _ d => d.two x⟩
  refine .inr ?_
  rw [if_neg e3]
  by_cases e4 : f.kind = 69
  · exact .inl ⟨e4, fun g x => by rw [if_pos e4]; exact (execute_v (k.ext0 x) lm f (hf.ext0 x) fl).mono fun _ _ d => d.two x⟩
  refine .inr ?_
  rw [if_neg e4]
  by_cases e5 : f.kind = 67
  · exact .inl ⟨e5, fun g x => by rw [if_pos e5]; exact (shut_v (k.ext0 x) f (hf.ext0 x)).mono fun _ _ d => d.two x⟩
  refine .inr ?_
  rw [if_neg e5]
  by_cases e6 : f.kind = 81
  · exact .inl ⟨e6, fun g x => by rw [if_pos e6]; exact (query_v (k.ext0 x) lm f (hf.ext0 x) fl).mono fun _ _ d => d.toD.two x⟩
  refine .inr ⟨⟨e1, e2, e3, e4, e5, e6⟩, fun g x => ?_⟩
  rw [if_neg e6]
  exact Dealt.mono0 x ⟨_, [], fun e => absurd rfl e, rfl, Outs.nil _ _, rfl, .of (k.ext0 x) (Tn.no (.refl _ _))⟩
/-- A Q makes no statement and no portal. -/
theorem deal_q (k : Ss h A st sk ov cnt L P) (lm : LimP (spO st sk ov cnt L P)) (f : Fm) (hf : f.ok h) (fl : FmLim f) (e6 : f.kind = 81) : CallsH Tryz.prog 23 ⟨[.pointer (some ⟨A.bs, 0, none⟩), .agg ⟨f.cells⟩]⟩ h (Two fun v e h' => DealtS h A L P (queryP (spO st sk ov cnt L P) f.p) (.tuple ⟨[v, e]⟩) h') :=
  deal_of hf (.inr (.inr (.inr (.inr (.inr (.inl ⟨e6, fun g x => (query_v (k.ext0 x) lm f (hf.ext0 x) fl).mono fun _ _ d => by
    obtain ⟨v, B, c, rfl, d⟩ := d
    exact ⟨v, _, rfl, DealtS.trans (Tn.no x) (fun _ h => h) (fun _ h => h) ⟨v, B, c, rfl, d⟩⟩⟩))))))
end
end Go.Proofs.YtbokngiajfdanaaGreatDoor


/-
  SESSIONS (layer 30), in plain Lean: what stays bounded, whatever is said; a session that skips.
-/
namespace Go.Proofs.YtbokngiajfdanaaGreatDoor
open Go Go.RK

structure FmpLim (f : FmP) : Prop where
  t : f.text.length ≤ 100000
  o : f.oids.length ≤ 20000
  m : f.params.length ≤ 100000
/-- A session behind n messages. -/
structure Lim (n : Nat) (s : SP) : Prop where
  l : ∀ q ∈ s.L, q.2.1.length ≤ 100000 ∧ q.2.2.length ≤ 20000
  p : ∀ q ∈ s.P, q.2.1.length ≤ 100000 ∧ q.2.2.1.length ≤ 20000 ∧ q.2.2.2.1.length ≤ 100000 ∧ RsLim q.2.2.2.2.1
  c : 0 ≤ s.cnt ∧ s.cnt ≤ n
  k : s.L.length ≤ n
theorem Lim.limP {n : Nat} {s : SP} (k : Lim n s) (hn : n < 1000000) : LimP s := ⟨fun q hq => (k.l q hq).1, fun q hq => k.p q hq, by have := k.c; omega⟩
theorem Lim.mono {n m : Nat} {s : SP} (k : Lim n s) (h : n ≤ m) : Lim m s := ⟨k.l, k.p, by have := k.c; omega, by have := k.k; omega⟩
theorem len_delK {κ α : Type} [DecidableEq κ] (E : List (κ × α)) (n : κ) : (delK E n).length ≤ E.length := by unfold delK; exact List.length_filter_le _ _
theorem len_putK {κ α : Type} [DecidableEq κ] (E : List (κ × α)) (n : κ) (v : α) : (putK E n v).length ≤ E.length + 1 := by
  unfold putK
  split
  · rw [List.length_map]; omega
  · simp
section
variable {n : Nat} {s : SP}
theorem Lim.delL (k : Lim n s) (x : List UInt8) : Lim n { s with L := delK s.L x } := ⟨fun q hq => k.l q (mem_delK hq).1, k.p, k.c, Nat.le_trans (len_delK _ _) k.k⟩
theorem Lim.delP (k : Lim n s) (x : List UInt8) : Lim n { s with P := delK s.P x } := ⟨k.l, fun q hq => k.p q (mem_delK hq).1, k.c, k.k⟩
theorem Lim.putL (k : Lim n s) (x : List UInt8) (v : StP) (h1 : v.1.length ≤ 100000) (h2 : v.2.length ≤ 20000) : Lim (n + 1) { s with L := putK s.L x v } :=
  ⟨fun q hq => by
    rcases mem_putK hq with rfl | ⟨hq, _⟩
    · exact ⟨h1, h2⟩
    · exact k.l q hq, k.p, ⟨k.c.1, by have := k.c; show s.cnt ≤ _; omega⟩, Nat.le_trans (len_putK _ _ _) (by have := k.k; omega)⟩
theorem Lim.putP (k : Lim n s) (x : List UInt8) (v : PdP) (h : v.1.length ≤ 100000 ∧ v.2.1.length ≤ 20000 ∧ v.2.2.1.length ≤ 100000 ∧ RsLim v.2.2.2.1) : Lim n { s with P := putK s.P x v } :=
  ⟨k.l, fun q hq => by
    rcases mem_putK hq with rfl | ⟨hq, _⟩
    · exact h
    · exact k.p q hq, k.c, k.k⟩
/-- The status, and whether it skips or is over, don't matter. -/
theorem Lim.of (k : Lim n s) {s' : SP} (h1 : s'.L = s.L) (h2 : s'.P = s.P ∨ s'.P = []) (h3 : s'.cnt = s.cnt) : Lim n s' :=
  ⟨h1 ▸ k.l, by rcases h2 with e | e <;> rw [e]; exact k.p; exact (fun _ h => nomatch h), h3 ▸ k.c, h1 ▸ k.k⟩
theorem getK_mem' {κ α : Type} [DecidableEq κ] {E : List (κ × α)} {n : κ} {v : α} (h : getK E n = some v) : (n, v) ∈ E := getK_mem h
theorem rsLim_nil : RsLim [] := ⟨Nat.zero_le _, (fun _ h => nomatch h)⟩
theorem engP_cnt (v : VeD) (ps : List CelP) (c : Int) : c ≤ (engP v ps c).2 ∧ (engP v ps c).2 ≤ c + 1 := by
  unfold engP
  split
  · exact ⟨Int.le_refl _, by dsimp only; omega⟩
  · split
    · exact ⟨Int.le_refl _, by dsimp only; omega⟩
    · split
      · exact ⟨by dsimp only; omega, Int.le_refl _⟩
      · exact ⟨Int.le_refl _, by dsimp only; omega⟩
theorem fetP_rest {rs : List (List CelP)} (ov : Bool) (m : Int) (h : RsLim rs) : RsLim (fetP rs ov m).2.1 := by
  unfold fetP
  split
  · exact h
  · exact ⟨by simp only [List.length_drop]; have := h.1; omega, fun r hr => h.2 r (List.mem_of_mem_drop hr)⟩
theorem parseP_lim (k : Lim n s) (f : FmP) (ff : FmpLim f) : Lim (n + 1) (parseP s f).1 := by
  have k1 : Lim n (if f.name = [] then { s with L := delK s.L [] } else s) := by
    split
    · exact k.delL _
    · exact k
  unfold parseP
  dsimp only
  generalize (if f.name = [] then { s with L := delK s.L [] } else s) = s1 at k1 ⊢
  split
  · exact k1.mono (by omega)
  · split
    · exact k1.mono (by omega)
    · exact k1.putL _ _ ff.t ff.o
theorem bindP_lim (k : Lim n s) (f : FmP) (ff : FmpLim f) : Lim (n + 1) (bindP s f).1 := by
  unfold bindP
  split
  · exact k.mono (by omega)
  · split
    · exact k.mono (by omega)
    · rename_i t ht
      have hm := k.l _ (getK_mem' ht)
      split
      · exact k.mono (by omega)
      · split
        · exact k.mono (by omega)
        · exact (k.putP _ _ ⟨hm.1, hm.2, ff.m, rsLim_nil⟩).mono (by omega)
theorem describeP_lim (k : Lim n s) (f : FmP) : Lim (n + 1) (describeP s f).1 := by
  have e : (describeP s f).1 = s := by
    unfold describeP
    split <;> split <;> (try split) <;> rfl
  rw [e]
  exact k.mono (by omega)
theorem turnP_lim (k : Lim n s) (v : VeD) : Lim n (turnP s v).1 := by
  unfold turnP
  split
  · exact k
  · split
    · exact k
    · refine k.of rfl ?_ rfl
      dsimp only
      split
      · exact .inr rfl
      · exact .inl rfl
theorem executeP_lim (k : Lim n s) (f : FmP) : Lim (n + 1) (executeP s f).1 := by
  unfold executeP
  split
  · exact k.mono (by omega)
  · split
    · exact k.mono (by omega)
    · rename_i t o ps rs ran ov hg
      have hm := k.p _ (getK_mem' hg)
      dsimp only at hm
      have hc := k.c
      split
      · have hrs : RsLim (if ran = true then (rs, s.cnt) else engP (verbP t) ps s.cnt).1 ∧ s.cnt ≤ (if ran = true then (rs, s.cnt) else engP (verbP t) ps s.cnt).2 ∧ (if ran = true then (rs, s.cnt) else engP (verbP t) ps s.cnt).2 ≤ s.cnt + 1 := by
          split
          · exact ⟨hm.2.2.2, Int.le_refl _, by dsimp only; omega⟩
          · exact ⟨engP_lim _ _ hm.2.2.1, engP_cnt _ _ _⟩
        dsimp only
        generalize (if ran = true then (rs, s.cnt) else engP (verbP t) ps s.cnt) = rc at hrs ⊢
        have k1 : Lim (n + 1) { s with cnt := rc.2 } := ⟨k.l, k.p, by dsimp only; omega, by have := k.k; dsimp only; omega⟩
        exact k1.putP _ _ ⟨hm.1, hm.2.1, hm.2.2.1, fetP_rest _ _ hrs.1⟩
      · split
        · exact k.mono (by omega)
        · have kt := turnP_lim k (verbP t)
          split
          · rename_i s1 out he
            rw [he] at kt
            dsimp only at kt ⊢
            split
            · exact kt.mono (by omega)
            · exact (kt.putP _ _ ⟨hm.1, hm.2.1, hm.2.2.1, rsLim_nil⟩).mono (by omega)
          · exact kt.mono (by omega)
theorem shutP_lim (k : Lim n s) (f : FmP) : Lim (n + 1) (shutP s f).1 := by
  unfold shutP
  split
  · exact (k.delL _).mono (by omega)
  · exact (k.delP _).mono (by omega)
theorem queryP_lim (k : Lim n s) (f : FmP) : Lim (n + 1) (queryP s f).1 := by
  have k1 : Lim n { s with L := delK s.L [], P := delK s.P [] } := (k.delL []).delP []
  have k2 : Lim (n + 1) { s with L := delK s.L [], P := delK s.P [], cnt := (engP (verbP f.text) [] s.cnt).2 } := ⟨k1.l, k1.p, by have := engP_cnt (verbP f.text) [] s.cnt; have hc := k.c; dsimp only; omega, by have := k1.k; dsimp only at this ⊢; omega⟩
  unfold queryP
  dsimp only
  split
  · exact k1.mono (by omega)
  · split
    · exact k2
    · exact (turnP_lim k1 _).mono (by omega)
theorem dealP_lim (k : Lim n s) (f : FmP) (ff : FmpLim f) : Lim (n + 1) (dealP s f).1 := by
  unfold dealP
  split
  · exact parseP_lim k f ff
  · split
    · exact bindP_lim k f ff
    · split
      · exact describeP_lim k f
      · split
        · exact executeP_lim k f
        · split
          · exact shutP_lim k f
          · split
            · exact queryP_lim k f
            · exact k.mono (by omega)
theorem syncP_lim (k : Lim n s) : Lim n (syncP s).1 := by
  refine k.of rfl ?_ rfl
  unfold syncP
  dsimp only
  split
  · exact .inr rfl
  · exact .inl rfl
theorem failedP_lim (k : Lim n s) (c t : List UInt8) : Lim n (failedP s c t).1 := by
  refine k.of rfl ?_ rfl
  unfold failedP
  dsimp only
  split
  · exact .inr rfl
  · exact .inl rfl
theorem restP_lim (f : FmP) {r : SayP} (k : Lim n r.1) : Lim n (restP f r).1 := by
  unfold restP
  rcases he : r.2.2 with _ | ⟨c, t⟩
  · dsimp only
    split
    · exact syncP_lim k
    · exact k
  · dsimp only
    have kf : Lim n (failedP { r.1 with sk := decide (f.kind ≠ 81) } c t).1 := failedP_lim (s := { r.1 with sk := decide (f.kind ≠ 81) }) (k.of rfl (.inl rfl) rfl) c t
    split
    · exact syncP_lim kf
    · exact kf
theorem doP_lim (k : Lim n s) (f : FmP) (ff : FmpLim f) : Lim (n + 1) (doP s f).1 := by
  have km : Lim (n + 1) s := k.mono (by omega)
  unfold doP
  split
  · exact km
  · split
    · exact km.of rfl (.inl rfl) rfl
    · split
      · exact syncP_lim (km.of rfl (.inl rfl) rfl)
      · split
        · exact km
        · exact restP_lim f (dealP_lim k f ff)
end
end Go.Proofs.YtbokngiajfdanaaGreatDoor


/-
  DIGITS ARE CLEAN, in plain Lean.
-/
namespace Go.Proofs.YtbokngiajfdanaaGreatDoor
open Go Go.RK

theorem clean_app (a b : List UInt8) : cleanB (a ++ b) = (cleanB a && cleanB b) := by
  unfold cleanB
  rw [List.contains_eq_any_beq, List.any_append, List.contains_eq_any_beq, List.contains_eq_any_beq, Bool.not_or]
theorem rdig_clean (m : Nat) : cleanB (rdig m) = true := by
  induction m using Nat.strongRecOn with
  | _ m ih =>
    have hd : ∀ k, k < 10 → cleanB [UInt8.ofNat (48 + k)] = true := by decide
    by_cases h : m < 10
    · rw [rdig_lt h]
      exact hd m h
    · rw [rdig_ge h, show (UInt8.ofNat (48 + m % 10) :: rdig (m / 10)) = [UInt8.ofNat (48 + m % 10)] ++ rdig (m / 10) from rfl, clean_app, hd _ (by omega), ih (m / 10) (by omega)]
      rfl
theorem dig_clean (m : Nat) : cleanB (dig m) = true := by
  have := rdig_clean m
  unfold cleanB dig at *
  rw [List.contains_eq_any_beq] at *
  rwa [List.any_reverse]
theorem deci_clean (n : Int) : cleanB (deci n) = true := by
  unfold deci
  split
  · rw [show (45 :: dig n.natAbs) = [45] ++ dig n.natAbs from rfl, clean_app, dig_clean]
    rfl
  · exact dig_clean _
end Go.Proofs.YtbokngiajfdanaaGreatDoor


/-
  SESSIONS (layer 30), in plain Lean: what replies look like, and when a Z is said.
-/
namespace Go.Proofs.YtbokngiajfdanaaGreatDoor
open Go Go.RK

section
variable (N M : Nat) (G : Prop)
def OkQ (o : List Int) : Prop := o.length ≤ N ∧ (G → ∀ n ∈ o, 0 ≤ n ∧ n ≤ 4294967295)
def OkR (ps : List CelP) : Prop := ps.length ≤ N ∧ ∀ c ∈ ps, c.2.length ≤ M ∧ (G → c.1 = true → c.2.length = 0)
/-- What stays of a session: what it was handed may be. -/
structure Inv (s : SP) : Prop where
  l : ∀ q ∈ s.L, OkQ N G q.2.2
  p : ∀ q ∈ s.P, OkQ N G q.2.2.1 ∧ OkR N M G q.2.2.2.1 ∧ ∀ r ∈ q.2.2.2.2.1, OkR N M G r
  c : 0 ≤ s.cnt ∧ s.cnt ≤ 1000000
/-- What is said ahead of a Z. -/
def SayB (x : BkP) : Prop := x.kind = 69 ∨ (∃ k, x = { kind := k } ∧ (k = 49 ∨ k = 50 ∨ k = 51 ∨ k = 73 ∨ k = 110 ∨ k = 115)) ∨ (∃ t, x = { kind := 67, tag := t } ∧ cleanB t = true ∧ t.length ≤ 1000) ∨ (∃ o, x = { kind := 116, oids := o } ∧ OkQ N G o) ∨ (∃ r, x = { kind := 68, row := r } ∧ OkR N M G r) ∨ (∃ n : Int, x = descP n ∧ n ≤ max N 1)
end
section
variable {N M : Nat} {G : Prop} {s : SP}
theorem SayB.n90 {x : BkP} (h : SayB N M G x) : x.kind ≠ 90 := by
  rcases h with h | ⟨k, rfl, h⟩ | ⟨t, rfl, _⟩ | ⟨o, rfl, _⟩ | ⟨r, rfl, _⟩ | ⟨n, rfl, _⟩
  · omega
  · show k ≠ 90; omega
  · show (67 : Int) ≠ 90; decide
  · show (116 : Int) ≠ 90; decide
  · show (68 : Int) ≠ 90; decide
  · show (84 : Int) ≠ 90; decide
theorem SayB.plain {k : Int} (h : k = 49 ∨ k = 50 ∨ k = 51 ∨ k = 73 ∨ k = 110 ∨ k = 115) : ∀ x ∈ [({ kind := k } : BkP)], SayB N M G x := fun x hx => by
  obtain rfl := List.mem_singleton.1 hx
  exact .inr (.inl ⟨k, rfl, h⟩)
theorem Inv.delL (k : Inv N M G s) (x : List UInt8) : Inv N M G { s with L := delK s.L x } := ⟨fun q hq => k.l q (mem_delK hq).1, k.p, k.c⟩
theorem Inv.delP (k : Inv N M G s) (x : List UInt8) : Inv N M G { s with P := delK s.P x } := ⟨k.l, fun q hq => k.p q (mem_delK hq).1, k.c⟩
theorem Inv.putL (k : Inv N M G s) (x : List UInt8) (v : StP) (h : OkQ N G v.2) : Inv N M G { s with L := putK s.L x v } :=
  ⟨fun q hq => by
    rcases mem_putK hq with rfl | ⟨hq, _⟩
    · exact h
    · exact k.l q hq, k.p, k.c⟩
theorem Inv.putP (k : Inv N M G s) (x : List UInt8) (v : PdP) (h : OkQ N G v.2.1 ∧ OkR N M G v.2.2.1 ∧ ∀ r ∈ v.2.2.2.1, OkR N M G r) : Inv N M G { s with P := putK s.P x v } :=
  ⟨k.l, fun q hq => by
    rcases mem_putK hq with rfl | ⟨hq, _⟩
    · exact h
    · exact k.p q hq, k.c⟩
theorem Inv.of (k : Inv N M G s) {s' : SP} (h1 : s'.L = s.L) (h2 : s'.P = s.P ∨ s'.P = []) (h3 : s'.cnt = s.cnt) : Inv N M G s' :=
  ⟨h1 ▸ k.l, by rcases h2 with e | e <;> rw [e]; exact k.p; exact (fun _ h => nomatch h), h3 ▸ k.c⟩
theorem okR_one {n : Int} (hN : 1 ≤ N) (hM : 100 ≤ M) (hn : 0 ≤ n ∧ n ≤ 1000001) : OkR N M G [(false, deci n)] := ⟨hN, fun c hc => by
  obtain rfl := List.mem_singleton.1 hc
  exact ⟨by have := deci_len n (by omega); show (deci n).length ≤ M; omega, fun _ e => by cases e⟩⟩
theorem engP_rows (v : VeD) {ps : List CelP} {c : Int} (hN : 1 ≤ N) (hM : 100 ≤ M) (hc : 0 ≤ c ∧ c ≤ 1000000) (h : OkR N M G ps) : ∀ r ∈ (engP v ps c).1, OkR N M G r := by
  unfold engP
  split
  · intro r hr
    obtain ⟨i, hi, rfl⟩ := List.mem_map.1 hr
    have := held_le v.n
    have := List.mem_range.1 hi
    exact okR_one hN hM (by omega)
  · split
    · intro r hr
      obtain rfl := List.mem_singleton.1 hr
      exact h
    · split
      · intro r hr
        obtain rfl := List.mem_singleton.1 hr
        exact okR_one hN hM (by omega)
      · exact fun _ h => nomatch h
theorem tagP_ok {n : Nat} (h : n ≤ 100000) : cleanB (tagP n) = true ∧ (tagP n).length ≤ 1000 := by
  unfold tagP
  have := deci_len (n : Int) (by omega)
  exact ⟨by rw [clean_app, deci_clean]; rfl, by rw [List.length_append]; simp; omega⟩
theorem rowsRep_say {rs : List (List CelP)} (more : Bool) (hl : rs.length ≤ 100000) (h : ∀ r ∈ rs, OkR N M G r) : ∀ x ∈ rowsRep rs more, SayB N M G x := fun x hx => by
  unfold rowsRep at hx
  rcases List.mem_append.1 hx with hx | hx
  · obtain ⟨r, hr, rfl⟩ := List.mem_map.1 hx
    exact .inr (.inr (.inr (.inr (.inl ⟨r, rfl, h r hr⟩))))
  · obtain rfl := List.mem_singleton.1 hx
    split
    · exact .inr (.inl ⟨115, rfl, by omega⟩)
    · exact .inr (.inr (.inl ⟨_, rfl, tagP_ok hl⟩))
theorem colN_le (v : VeD) {o : List Int} (h : OkQ N G o) : colN v o.length ≤ max N 1 := by
  unfold colN
  have := h.1
  split
  · omega
  · split <;> omega
theorem shapeP_say (t : StP) (h : OkQ N G t.2) : SayB N M G (shapeP t) := by
  unfold shapeP
  split
  · exact .inr (.inr (.inr (.inr (.inr ⟨_, rfl, colN_le _ h⟩))))
  · exact .inr (.inl ⟨110, rfl, by omega⟩)
theorem nextP_tag (st : Int) (v : VeD) : cleanB (nextP st v).2 = true ∧ (nextP st v).2.length ≤ 1000 := by
  unfold nextP
  split
  · unfold endP
    split <;> exact ⟨rfl, Nat.le_of_ble_eq_true rfl⟩
  · split <;> exact ⟨rfl, Nat.le_of_ble_eq_true rfl⟩
theorem turnP_inv (k : Inv N M G s) (v : VeD) : Inv N M G (turnP s v).1 ∧ ∀ x ∈ (turnP s v).2.1, SayB N M G x := by
  unfold turnP
  split
  · exact ⟨k, SayB.plain (by omega)⟩
  · split
    · exact ⟨k, fun _ h => nomatch h⟩
    · refine ⟨k.of rfl ?_ rfl, fun x hx => ?_⟩
      · dsimp only
        split
        · exact .inr rfl
        · exact .inl rfl
      · obtain rfl := List.mem_singleton.1 hx
        exact .inr (.inr (.inl ⟨_, rfl, nextP_tag _ _⟩))
theorem parseP_inv (k : Inv N M G s) (f : FmP) (hq : OkQ N G f.oids) : Inv N M G (parseP s f).1 ∧ ∀ x ∈ (parseP s f).2.1, SayB N M G x := by
  have k1 : Inv N M G (if f.name = [] then { s with L := delK s.L [] } else s) := by
    split
    · exact k.delL _
    · exact k
  unfold parseP
  dsimp only
  generalize (if f.name = [] then { s with L := delK s.L [] } else s) = s1 at k1 ⊢
  split
  · exact ⟨k1, fun _ h => nomatch h⟩
  · split
    · exact ⟨k1, fun _ h => nomatch h⟩
    · exact ⟨k1.putL _ _ hq, SayB.plain (by omega)⟩
theorem bindP_inv (k : Inv N M G s) (f : FmP) (hr : OkR N M G f.params) : Inv N M G (bindP s f).1 ∧ ∀ x ∈ (bindP s f).2.1, SayB N M G x := by
  unfold bindP
  split
  · exact ⟨k, fun _ h => nomatch h⟩
  · split
    · exact ⟨k, fun _ h => nomatch h⟩
    · rename_i t ht
      have hm := k.l _ (getK_mem' ht)
      split
      · exact ⟨k, fun _ h => nomatch h⟩
      · split
        · exact ⟨k, fun _ h => nomatch h⟩
        · exact ⟨k.putP _ _ ⟨hm, hr, fun _ h => nomatch h⟩, SayB.plain (by omega)⟩
theorem describeP_inv (k : Inv N M G s) (f : FmP) : Inv N M G (describeP s f).1 ∧ ∀ x ∈ (describeP s f).2.1, SayB N M G x := by
  unfold describeP
  split
  · split
    · exact ⟨k, fun _ h => nomatch h⟩
    · split
      · exact ⟨k, fun _ h => nomatch h⟩
      · rename_i t ht
        have hm := k.l _ (getK_mem' ht)
        refine ⟨k, fun x hx => ?_⟩
        rcases List.mem_cons.1 hx with rfl | hx
        · exact .inr (.inr (.inr (.inl ⟨_, rfl, hm⟩)))
        · obtain rfl := List.mem_singleton.1 hx
          exact shapeP_say _ hm
  · split
    · exact ⟨k, fun _ h => nomatch h⟩
    · split
      · exact ⟨k, fun _ h => nomatch h⟩
      · rename_i t ht
        have hm := k.p _ (getK_mem' ht)
        refine ⟨k, fun x hx => ?_⟩
        obtain rfl := List.mem_singleton.1 hx
        exact shapeP_say _ hm.1
theorem fetP_ok {rs : List (List CelP)} (ov : Bool) (m : Int) (hl : rs.length ≤ 100000) (h : ∀ r ∈ rs, OkR N M G r) : ((fetP rs ov m).1.length ≤ 100000 ∧ ∀ r ∈ (fetP rs ov m).1, OkR N M G r) ∧ ∀ r ∈ (fetP rs ov m).2.1, OkR N M G r := by
  unfold fetP
  split
  · exact ⟨⟨Nat.zero_le _, fun _ h => nomatch h⟩, h⟩
  · exact ⟨⟨by dsimp only; rw [List.length_take]; omega, fun r hr => h r (List.mem_of_mem_take hr)⟩, fun r hr => h r (List.mem_of_mem_drop hr)⟩
theorem executeP_inv (k : Inv N M G s) {n : Nat} (lm : Lim n s) (hn : n < 1000000) (hN : 1 ≤ N) (hM : 100 ≤ M) (f : FmP) : Inv N M G (executeP s f).1 ∧ ∀ x ∈ (executeP s f).2.1, SayB N M G x := by
  unfold executeP
  split
  · exact ⟨k, fun _ h => nomatch h⟩
  · split
    · exact ⟨k, fun _ h => nomatch h⟩
    · rename_i t o ps rs ran ov hg
      have hm := k.p _ (getK_mem' hg)
      have hl := lm.p _ (getK_mem' hg)
      have hc := lm.c
      dsimp only at hm hl
      split
      · have hrs : (∀ r ∈ (if ran = true then (rs, s.cnt) else engP (verbP t) ps s.cnt).1, OkR N M G r) ∧ (if ran = true then (rs, s.cnt) else engP (verbP t) ps s.cnt).1.length ≤ 100000 ∧ s.cnt ≤ (if ran = true then (rs, s.cnt) else engP (verbP t) ps s.cnt).2 ∧ (if ran = true then (rs, s.cnt) else engP (verbP t) ps s.cnt).2 ≤ s.cnt + 1 := by
          split
          · exact ⟨hm.2.2, hl.2.2.2.1, Int.le_refl _, by dsimp only; omega⟩
          · exact ⟨engP_rows _ hN hM (by omega) hm.2.1, (engP_lim _ _ hl.2.2.1).1, engP_cnt _ _ _⟩
        dsimp only
        generalize (if ran = true then (rs, s.cnt) else engP (verbP t) ps s.cnt) = rc at hrs ⊢
        have k1 : Inv N M G { s with cnt := rc.2 } := ⟨k.l, k.p, by dsimp only; omega⟩
        have hf := fetP_ok ov f.max hrs.2.1 hrs.1
        exact ⟨k1.putP _ _ ⟨hm.1, hm.2.1, hf.2⟩, rowsRep_say _ hf.1.1 hf.1.2⟩
      · split
        · exact ⟨k, fun _ h => nomatch h⟩
        · have kt := turnP_inv k (verbP t)
          split
          · rename_i s1 out he
            rw [he] at kt
            dsimp only at kt ⊢
            refine ⟨?_, kt.2⟩
            split
            · exact kt.1
            · exact kt.1.putP _ _ ⟨hm.1, hm.2.1, fun _ h => nomatch h⟩
          · exact kt
theorem shutP_inv (k : Inv N M G s) (f : FmP) : Inv N M G (shutP s f).1 ∧ ∀ x ∈ (shutP s f).2.1, SayB N M G x := by
  unfold shutP
  split
  · exact ⟨k.delL _, SayB.plain (by omega)⟩
  · exact ⟨k.delP _, SayB.plain (by omega)⟩
theorem queryP_inv (k : Inv N M G s) {n : Nat} (lm : Lim n s) (hn : n < 1000000) (hN : 1 ≤ N) (hM : 100 ≤ M) (f : FmP) : Inv N M G (queryP s f).1 ∧ ∀ x ∈ (queryP s f).2.1, SayB N M G x := by
  have hc := lm.c
  have k1 : Inv N M G { s with L := delK s.L [], P := delK s.P [] } := (k.delL []).delP []
  have h0 : OkR N M G ([] : List CelP) := ⟨Nat.zero_le _, fun _ h => nomatch h⟩
  have he := engP_cnt (verbP f.text) [] s.cnt
  unfold queryP
  dsimp only
  split
  · exact ⟨k1, fun _ h => nomatch h⟩
  · split
    · refine ⟨⟨k1.l, k1.p, by dsimp only; omega⟩, fun x hx => ?_⟩
      rcases List.mem_cons.1 hx with rfl | hx
      · exact .inr (.inr (.inr (.inr (.inr ⟨_, rfl, colN_le (G := G) (o := []) _ ⟨Nat.zero_le _, fun _ _ h => nomatch h⟩⟩))))
      · exact rowsRep_say _ (engP_lim _ _ (Nat.zero_le _)).1 (engP_rows _ hN hM (by omega) h0) x hx
    · exact turnP_inv k1 _
theorem dealP_inv (k : Inv N M G s) {n : Nat} (lm : Lim n s) (hn : n < 1000000) (hN : 1 ≤ N) (hM : 100 ≤ M) (f : FmP) (hq : OkQ N G f.oids) (hr : OkR N M G f.params) : Inv N M G (dealP s f).1 ∧ ∀ x ∈ (dealP s f).2.1, SayB N M G x := by
  unfold dealP
  split
  · exact parseP_inv k f hq
  · split
    · exact bindP_inv k f hr
    · split
      · exact describeP_inv k f
      · split
        · exact executeP_inv k lm hn hN hM f
        · split
          · exact shutP_inv k f
          · split
            · exact queryP_inv k lm hn hN hM f
            · exact ⟨k, fun _ h => nomatch h⟩
theorem syncP_inv (k : Inv N M G s) : Inv N M G (syncP s).1 := by
  refine k.of rfl ?_ rfl
  unfold syncP
  dsimp only
  split
  · exact .inr rfl
  · exact .inl rfl
/-- Whether a Z is said. -/
def wantZ (s : SP) (f : FmP) : Bool := !s.ov && (decide (f.kind = 83) || decide (f.kind = 81) && !s.sk)
/-- What is said of a message: some replies, and then a Z where one is wanted. -/
theorem doP_inv (k : Inv N M G s) {n : Nat} (lm : Lim n s) (hn : n < 1000000) (hN : 1 ≤ N) (hM : 100 ≤ M) (f : FmP) (hq : OkQ N G f.oids) (hr : OkR N M G f.params) :
    Inv N M G (doP s f).1 ∧ ∃ l, (doP s f).2 = l ++ (if wantZ s f = true then [{ kind := 90, status := (doP s f).1.st }] else []) ∧ ∀ x ∈ l, SayB N M G x := by
  unfold doP wantZ
  by_cases h1 : s.ov = true
  · rw [if_pos h1]
    exact ⟨k, [], by simp [h1], fun _ h => nomatch h⟩
  · rw [if_neg h1]
    have e1 : s.ov = false := by simpa using h1
    by_cases h2 : f.kind = 88
    · rw [if_pos h2]
      exact ⟨k.of rfl (.inl rfl) rfl, [], by simp [e1, h2], fun _ h => nomatch h⟩
    · rw [if_neg h2]
      by_cases h3 : f.kind = 83
      · rw [if_pos h3]
        exact ⟨syncP_inv (k.of (s' := { s with sk := false }) rfl (.inl rfl) rfl), [], by simp [e1, h3, syncP], fun _ h => nomatch h⟩
      · rw [if_neg h3]
        by_cases h4 : s.sk = true
        · rw [if_pos h4]
          exact ⟨k, [], by simp [h4, h3], fun _ h => nomatch h⟩
        · rw [if_neg h4]
          have e4 : s.sk = false := by simpa using h4
          have kd := dealP_inv k lm hn hN hM f hq hr
          generalize dealP s f = r at kd ⊢
          obtain ⟨s1, out, e⟩ := r
          dsimp only at kd
          obtain ⟨s2, o2, he, ki, ko⟩ : ∃ s2 o2, restP f (s1, out, e) = (if f.kind = 81 then ((syncP s2).1, o2 ++ [(syncP s2).2]) else (s2, o2)) ∧ Inv N M G s2 ∧ ∀ x ∈ o2, SayB N M G x := by
            rcases e with _ | ⟨c, t⟩
            · exact ⟨s1, out, rfl, kd.1, kd.2⟩
            · refine ⟨_, _, rfl, kd.1.of rfl ?_ rfl, fun x hx => ?_⟩
              · dsimp only [failedP]
                split
                · exact .inr rfl
                · exact .inl rfl
              · rcases List.mem_append.1 hx with hx | hx
                · exact kd.2 x hx
                · obtain rfl := List.mem_singleton.1 hx
                  exact .inl rfl
          rw [he]
          by_cases h5 : f.kind = 81
          · rw [if_pos h5]
            exact ⟨syncP_inv ki, o2, by simp [e1, e4, h5, syncP], ko⟩
          · rw [if_neg h5]
            exact ⟨ki, o2, by simp [h3, h5], ko⟩
end
end Go.Proofs.YtbokngiajfdanaaGreatDoor


/-
  SESSIONS (layer 30), by the code: what is said of any message.
-/
namespace Go.Proofs.YtbokngiajfdanaaGreatDoor
open Go Go.RK

section
variable {h h' : Heap} {A : Ad} {st : Int} {sk ov : Bool} {cnt : Int} {L : List (List UInt8 × StD)} {P : List (List UInt8 × ItD)}
/-- What a call of Do gives. -/
def Did (h : Heap) (A : Ad) (P : List (List UInt8 × ItD)) (x : SP × List BkP) (u : Value) (h' : Heap) : Prop := (∃ B, Outs h h' u B ∧ B.map Bk.p = x.2) ∧ Sv h A P h' x.1
set_option maxHeartbeats 2000000 in
set_option maxRecDepth 100000 in
theorem do_a (k : Ss h A st sk ov cnt L P) (f : Fm) (hf : f.ok h) (hk : ov = true ∨ f.kind = 88 ∨ f.kind = 83 ∨ sk = true) :
    CallsH Tryz.prog 9 ⟨[.pointer (some ⟨A.bs, 0, none⟩), .agg ⟨f.cells⟩]⟩ h (Did h A P (doP (spO st sk ov cnt L P) f.p)) := by
  have kr := fun (g : Heap) (k : Ss g A st sk ov cnt L P) => ready_yes k.se.blk
  have hd : doP (spO st sk ov cnt L P) f.p = if ov = true then (spO st sk ov cnt L P, []) else if f.kind = 88 then (spO st sk true cnt L P, []) else if f.kind = 83 then ((syncP (spO st false ov cnt L P)).1, [{ kind := 90, status := st }]) else if sk = true then (spO st sk ov cnt L P, []) else restP f.p (dealP (spO st sk ov cnt L P) f.p) := rfl
  rw [hd]
  clear hd
  obtain ⟨⟨e1, _⟩, ⟨e2, _⟩, ⟨e3, _⟩, e4, _⟩ := hf
  obtain ⟨fk, w, n, p, t, vo, o, vf, fs, vs, rs, vp, ps, mx⟩ := f
  dsimp only at e1 e2 e3 e4 hk
  obtain ⟨_, _, rfl, _⟩ := e1
  obtain ⟨_, _, rfl, _⟩ := e2
  obtain ⟨_, _, rfl, _⟩ := e3
  obtain ⟨_, _, rfl, _⟩ := e4
  dsimp only [Fm.cells]
  by_cases e1 : ov = true
  · rw [if_pos e1]
    subst e1
    refine calls [(0, _), (1, _)] Tryz.func9 rfl Tryz.ntmps9 rfl ⟨rfl, rfl, trivial⟩ ?_
    all_goals (refine WC.sr ?_; refine WL.stepR (okE_box rfl) rfl rfl rfl ?_; rintro _ h1 ⟨b3, rfl, hg1, hb1, hx1⟩; have k1 := k.ext0 hx1; have hb := k1.se.blk; have lb := lt_of_some k.se.blk; (have n3 : ¬ b3 = A.bs := by omega); refine Go ?_; refine WC.seq ?_; refine WC.sr ?_; refine Go ?_; refine WL.call (vs := [_]) rfl (fun a w => Tryz.call21 a w) rfl (kr _ k1) rfl rfl rfl ?_; rintro _ hz ⟨rfl, _⟩; subst hz; refine Go ?_; refine Gs [(0, _), (3, _), (10, _)] ?_; refine goC 1 2 ?_ TT.mk; refine goB 1 ?_; refine WC.sr ?_; refine Go ?_; refine Gt ?_; exact ⟨⟨[], Outs.nil _ _, rfl⟩, .of k1 (Tn.no hx1)⟩)
  rw [if_neg e1]
  obtain rfl : ov = false := by simpa using e1
  by_cases e2 : fk = 88
  · rw [if_pos e2]
    refine calls [(0, _), (1, _)] Tryz.func9 rfl Tryz.ntmps9 rfl ⟨rfl, rfl, trivial⟩ ?_
    all_goals (refine WC.sr ?_; refine WL.stepR (okE_box rfl) rfl rfl rfl ?_; rintro _ h1 ⟨b3, rfl, hg1, hb1, hx1⟩; have k1 := k.ext0 hx1; have hb := k1.se.blk; have lb := lt_of_some k.se.blk; (have n3 : ¬ b3 = A.bs := by omega); refine Go ?_; refine WC.seq ?_; refine WC.sr ?_; refine Go ?_; refine WL.call (vs := [_]) rfl (fun a w => Tryz.call21 a w) rfl (kr _ k1) rfl rfl rfl ?_; rintro _ hz ⟨rfl, _⟩; subst hz; refine Go ?_; refine Gs [(0, _), (3, _), (10, _)] ?_; refine goC 1 2 ?_ TT.mk; refine goB 2 ?_; refine WC.skip ?_; refine Gn ?_; refine WC.seq ?_; refine WC.block ?_; refine WC.sr ?_; refine Go ?_; refine WL.ld rfl (by first | exact cell_blk hb1 rfl | assumption | exact cell_blk (by assumption) rfl) rfl rfl rfl ?_; refine Go ?_; refine Gs [(0, _), (3, _), (11, _)] ?_; refine goC 3 4 ?_ TT.mk; refine goB 3 ?_; refine WC.sr ?_; refine Go ?_; refine WL.step (ok_nilCheck rfl) rfl rfl rfl ?_; refine Go ?_; refine WL.stepR0 (okE_store (fun w => Tryz.sizeOf4 w) rfl rfl hb (Nat.le_of_ble_eq_true rfl) rfl rfl) rfl rfl ?_; rintro _ h2 ⟨hb2, hx2⟩; obtain ⟨k2, t2⟩ := k1.turnS hx2 hb2 k1.sto; refine Gn ?_; refine Gs [] ?_; refine WC.sr ?_; refine Go ?_; refine Gt ?_; exact ⟨⟨[], Outs.nil _ _, rfl⟩, .of k2 ((Tn.no hx1).trans t2)⟩)
  rw [if_neg e2]
  by_cases e3 : fk = 83
  · rw [if_pos e3]
    have ks := fun (g : Heap) (k : Ss g A st false false cnt L P) => syncD_v k
    unfold bkC at ks
    refine calls [(0, _), (1, _)] Tryz.func9 rfl Tryz.ntmps9 rfl ⟨rfl, rfl, trivial⟩ ?_
    all_goals (refine WC.sr ?_; refine WL.stepR (okE_box rfl) rfl rfl rfl ?_; rintro _ h1 ⟨b3, rfl, hg1, hb1, hx1⟩; have k1 := k.ext0 hx1; have hb := k1.se.blk; have lb := lt_of_some k.se.blk; (have n3 : ¬ b3 = A.bs := by omega); refine Go ?_; refine WC.seq ?_; refine WC.sr ?_; refine Go ?_; refine WL.call (vs := [_]) rfl (fun a w => Tryz.call21 a w) rfl (kr _ k1) rfl rfl rfl ?_; rintro _ hz ⟨rfl, _⟩; subst hz; refine Go ?_; refine Gs [(0, _), (3, _), (10, _)] ?_; refine goC 1 2 ?_ TT.mk; refine goB 2 ?_; refine WC.skip ?_; refine Gn ?_; refine WC.seq ?_; refine WC.block ?_; refine WC.sr ?_; refine Go ?_; refine WL.ld rfl (by first | exact cell_blk hb1 rfl | assumption | exact cell_blk (by assumption) rfl) rfl rfl rfl ?_; refine Go ?_; refine Gs [(0, _), (3, _), (11, _)] ?_; refine goC 3 4 ?_ TT.mk; refine goB 4 ?_; refine WC.sr ?_; refine Go ?_; refine WL.ld rfl (by first | exact cell_blk hb1 rfl | assumption | exact cell_blk (by assumption) rfl) rfl rfl rfl ?_; refine Go ?_; refine Gs [(0, _), (3, _), (18, _)] ?_; refine goC 5 6 ?_ TT.mk; refine goB 5 ?_; refine WC.sr ?_; refine Go ?_; refine WL.step (ok_nilCheck rfl) rfl rfl rfl ?_; refine Go ?_; refine WL.stepR0 (okE_store (fun w => Tryz.sizeOf4 w) rfl rfl hb (Nat.le_of_ble_eq_true rfl) rfl rfl) rfl rfl ?_; rintro _ h2 ⟨hb2, hx2⟩; obtain ⟨k2, t2⟩ := k1.turnS hx2 hb2 k1.sto; refine Gn ?_; refine Gs [(0, _)] ?_; refine WC.sr ?_; refine Go ?_; refine WL.call (vs := [_]) rfl (fun a w => Tryz.call22 a w) rfl (ks _ k2) rfl rfl rfl ?_; rintro _ h3 ⟨rfl, ⟨L3, P3, k3, eL3, eP3, t3⟩, hx3⟩; refine WL.stepR (okE_buildSlice (vs := [_]) (cs := [_, _, _, _, _, _, _, _, _, _, _]) (fun | [.agg ⟨[a0, a1, a2, a3, a4, a5, a6, a7, a8, a9, a10]⟩] => [a0, a1, a2, a3, a4, a5, a6, a7, a8, a9, a10] | _ => []) Tryz.underlying33 rfl rfl (by kernel_rfl)) rfl rfl rfl ?_; rintro _ h4 ⟨b4, rfl, hg4, hb4, hx4⟩; refine Go ?_; refine Gs [(4, _)] ?_; refine Gt ?_; have T3 := ((Tn.no (A := A) (P := P) hx1).trans t2).trans t3; exact ⟨⟨[bk0 90 st []], .tag hb4 (by have := T3.1.size; omega), rfl⟩, L3, P3, k3.ext0 hx4, eL3, eP3, T3.trans (Tn.no hx4)⟩)
  rw [if_neg e3]
  obtain rfl : sk = true := by
    rcases hk with hk | hk | hk | hk
    · cases hk
    · exact absurd hk e2
    · exact absurd hk e3
    · exact hk
  rw [if_pos rfl]
  refine calls [(0, _), (1, _)] Tryz.func9 rfl Tryz.ntmps9 rfl ⟨rfl, rfl, trivial⟩ ?_
  all_goals (refine WC.sr ?_; refine WL.stepR (okE_box rfl) rfl rfl rfl ?_; rintro _ h1 ⟨b3, rfl, hg1, hb1, hx1⟩; have k1 := k.ext0 hx1; have hb := k1.se.blk; have lb := lt_of_some k.se.blk; (have n3 : ¬ b3 = A.bs := by omega); refine Go ?_; refine WC.seq ?_; refine WC.sr ?_; refine Go ?_; refine WL.call (vs := [_]) rfl (fun a w => Tryz.call21 a w) rfl (kr _ k1) rfl rfl rfl ?_; rintro _ hz ⟨rfl, _⟩; subst hz; refine Go ?_; refine Gs [(0, _), (3, _), (10, _)] ?_; refine goC 1 2 ?_ TT.mk; refine goB 2 ?_; refine WC.skip ?_; refine Gn ?_; refine WC.seq ?_; refine WC.block ?_; refine WC.sr ?_; refine Go ?_; refine WL.ld rfl (by first | exact cell_blk hb1 rfl | assumption | exact cell_blk (by assumption) rfl) rfl rfl rfl ?_; refine Go ?_; refine Gs [(0, _), (3, _), (11, _)] ?_; refine goC 3 4 ?_ TT.mk; refine goB 4 ?_; refine WC.sr ?_; refine Go ?_; refine WL.ld rfl (by first | exact cell_blk hb1 rfl | assumption | exact cell_blk (by assumption) rfl) rfl rfl rfl ?_; refine Go ?_; refine Gs [(0, _), (3, _), (18, _)] ?_; refine goC 5 6 ?_ TT.mk; refine goB 6 ?_; refine WC.sr ?_; refine Go ?_; refine WL.step (ok_nilCheck rfl) rfl rfl rfl ?_; refine Go ?_; refine WL.ld rfl (by first | exact cell_blk hb rfl | assumption | exact cell_blk (by assumption) rfl) rfl rfl rfl ?_; refine Go ?_; refine Gs [(0, _), (3, _), (28, _)] ?_; refine goC 7 8 ?_ TT.mk; refine goB 7 ?_; refine WC.sr ?_; refine Go ?_; refine Gt ?_; exact ⟨⟨[], Outs.nil _ _, rfl⟩, .of k1 (Tn.no hx1)⟩)
/-- The same as syncD_v, with what is let go. -/
theorem syncD_s (k : Ss h A st sk ov cnt L P) : CallsH Tryz.prog 22 ⟨[.pointer (some ⟨A.bs, 0, none⟩)]⟩ h fun u h' => u = .agg ⟨bkC 90 st []⟩ ∧ (∃ P', (∀ q ∈ P', q ∈ P) ∧ Ss h' A st sk ov cnt L P' ∧ plP P' = (if st = 73 then [] else plP P) ∧ Tn A P h h' P') ∧ Ext (fun q => q = A.mp) h h' := by
  refine (syncD_v' k).mono fun u h' ⟨e, kk, tt, x⟩ => ⟨e, ⟨_, ?_, kk, ?_, tt⟩, x⟩
  · intro q hq
    split at hq
    · exact nomatch hq
    · exact hq
  · split <;> rfl
theorem Outs.none_nil {h0 h : Heap} {B : List Bk} (k : Outs h0 h nS B) : B = [] := by
  obtain ⟨_, _, e, _⟩ := k.own.slice
  simp only [nS, Value.slice.injEq] at e
  exact List.eq_nil_of_length_eq_zero (by omega)
theorem tuple2 {a b c d : Value} (h : Value.tuple ⟨[a, b]⟩ = .tuple ⟨[c, d]⟩) : a = c ∧ b = d := by simpa using h
/-- Blocks turned that are none of what was there: nothing of a session that made nothing since. -/
theorem Ss.extN {g g' : Heap} {S : Nat → Prop} {st' : Int} {sk' ov' : Bool} {cnt' : Int} {L' : List (List UInt8 × StD)} {P' : List (List UInt8 × ItD)} (k : Ss h A st sk ov cnt L P) (k' : Ss g A st' sk' ov' cnt' L' P') (sL : ∀ q ∈ L', q ∈ L) (sP : ∀ q ∈ P', q ∈ P) (x : Ext S g g') (hS : ∀ q, S q → h.size ≤ q) : Ss g' A st' sk' ov' cnt' L' P' := by
  have nS' : ∀ {q : Nat}, q < h.size → ¬ S q := fun hq e => by have := hS _ e; omega
  have e := k'.se
  refine ⟨⟨x.obj e.blk (nS' (lt_of_some k.se.blk)), e.stm.ext x (nS' k.se.stm.lt), x.obj e.pb (nS' (lt_of_some k.se.pb)), e.pm.ext x (nS' k.se.pm.lt), x.obj e.eb (nS' (lt_of_some k.se.eb)), e.em.ext x (nS' k.se.em.lt), e.ne⟩, fun q hq => ?_, fun q hq => ?_, k'.dis, k'.sto, k'.cok⟩
  · exact ⟨(k'.sok q hq).1.ext' x (fun z h0 hz => nS' ((k.sok q (sL q hq)).1.lt h0 hz)), (k'.sok q hq).2⟩
  · exact ⟨x.obj (k'.pok q hq).1 (nS' (lt_of_some (k.pok q (sP q hq)).1)), (k'.pok q hq).2.1.ext x (fun z hz => nS' ((k.pok q (sP q hq)).2.1.lt hz)), (k'.pok q hq).2.2⟩
set_option maxHeartbeats 2000000 in
set_option maxRecDepth 100000 in
/-- A message that is no query. -/
theorem do_b (er : Er h) (h0 : ¬ Mu A P 0) (k : Ss h A st false false cnt L P) (f : Fm) (hf : f.ok h) (hk : f.kind ≠ 88 ∧ f.kind ≠ 83 ∧ f.kind ≠ 81) {r : SayP}
    (kd : ∀ g, Ext No h g → CallsH Tryz.prog 23 ⟨[.pointer (some ⟨A.bs, 0, none⟩), .agg ⟨f.cells⟩]⟩ g (Two fun v e h' => Dealt g A P r (.tuple ⟨[v, e]⟩) h')) :
    CallsH Tryz.prog 9 ⟨[.pointer (some ⟨A.bs, 0, none⟩), .agg ⟨f.cells⟩]⟩ h (Did h A P (restP f.p r)) := by
  have kr := fun (g : Heap) (k : Ss g A st false false cnt L P) => ready_yes k.se.blk
  obtain ⟨⟨e1, _⟩, ⟨e2, _⟩, ⟨e3, _⟩, e4, _⟩ := hf
  obtain ⟨fk, w, n, p, t, vo, o, vf, fs, vs, rs, vp, ps, mx⟩ := f
  dsimp only at e1 e2 e3 e4 hk
  obtain ⟨_, _, rfl, _⟩ := e1
  obtain ⟨_, _, rfl, _⟩ := e2
  obtain ⟨_, _, rfl, _⟩ := e3
  obtain ⟨_, _, rfl, _⟩ := e4
  obtain ⟨k88, k83, e81⟩ := hk
  dsimp only [Fm.cells, Fm.p] at kd ⊢
  rcases r with ⟨⟨st1, sk1, ov1, cn1, LL1, PP1⟩, out, _ | ⟨ec, et⟩⟩
  · have hr : restP ⟨fk, w, n, p, t, o, ps.map Cel.pl, mx⟩ (⟨st1, sk1, ov1, cn1, LL1, PP1⟩, out, none) = (⟨st1, sk1, ov1, cn1, LL1, PP1⟩, out) := if_neg e81
    rw [hr]
    clear hr
    refine calls [(0, _), (1, _)] Tryz.func9 rfl Tryz.ntmps9 rfl ⟨rfl, rfl, trivial⟩ ?_
    all_goals (refine WC.sr ?_; refine WL.stepR (okE_box rfl) rfl rfl rfl ?_; rintro _ h1 ⟨b3, rfl, hg1, hb1, hx1⟩; have k1 := k.ext0 hx1; have hb := k1.se.blk; have lb := lt_of_some k.se.blk; (have n3 : ¬ b3 = A.bs := by omega); refine Go ?_; refine WC.seq ?_; refine WC.sr ?_; refine Go ?_; refine WL.call (vs := [_]) rfl (fun a w => Tryz.call21 a w) rfl (kr _ k1) rfl rfl rfl ?_; rintro _ hz ⟨rfl, _⟩; subst hz; refine Go ?_; refine Gs [(0, _), (3, _), (10, _)] ?_; refine goC 1 2 ?_ TT.mk; refine goB 2 ?_; refine WC.skip ?_; refine Gn ?_; refine WC.seq ?_; refine WC.block ?_; refine WC.sr ?_; refine Go ?_; refine WL.ld rfl (by first | exact cell_blk hb1 rfl | assumption | exact cell_blk (by assumption) rfl) rfl rfl rfl ?_; refine Go ?_; refine Gs [(0, _), (3, _), (11, _)] ?_; refine goC 3 4 ?_ TT.mk; refine goB 4 ?_; refine WC.sr ?_; refine Go ?_; refine WL.ld rfl (by first | exact cell_blk hb1 rfl | assumption | exact cell_blk (by assumption) rfl) rfl rfl rfl ?_; refine Go ?_; refine Gs [(0, _), (3, _), (18, _)] ?_; refine goC 5 6 ?_ TT.mk; refine goB 6 ?_; refine WC.sr ?_; refine Go ?_; refine WL.step (ok_nilCheck rfl) rfl rfl rfl ?_; refine Go ?_; refine WL.ld rfl (by first | exact cell_blk hb rfl | assumption | exact cell_blk (by assumption) rfl) rfl rfl rfl ?_; refine Go ?_; refine Gs [(0, _), (3, _), (28, _)] ?_; refine goC 7 8 ?_ TT.mk; refine goB 8 ?_; refine WC.skip ?_; refine Gn ?_; refine WC.sr ?_; refine Go ?_; refine WL.step (ok_loadN (fun w => Tryz.isAgg32 w) (fun w => Tryz.sizeOf32 w) rfl rfl (by exact At.of_block hb1)) rfl rfl rfl ?_)
    all_goals (refine WL.call (vs := [_, _]) rfl (fun a w => Tryz.call23 a w) rfl (kd _ hx1) rfl rfl rfl ?_
               rintro _ h2 ⟨u2, e2, rfl, v2, B2, c2, heq, O2, pB2, L2, P2, k2, eL2, eP2, t2⟩
               obtain ⟨q1, q2⟩ := tuple2 heq
               subst q1 q2
               dsimp only [erV] at pB2 k2 eL2 eP2 ⊢
               subst eL2
               subst eP2
               have hb12 := t2.1.obj hb1 (k1.not hb1 (by decide) (by decide) (by decide)))
    all_goals (refine Go ?_; refine Gs [(0, _), (3, _), (5, _), (6, _)] ?_; refine WC.sr ?_; refine WL.stepR (okE_alloc (fun w => Tryz.zeroValue69 w)) rfl rfl rfl ?_; rintro _ h3 ⟨b7, rfl, hg3, hb3, hx3⟩; have hbK := hx3.obj hb12 nos; have kK := k2.ext0 hx3; have OK := (O2.mono hx1.size).ext0 hx3; have TK := ((Tn.no (A := A) (P := P) hx1).trans t2).trans (Tn.no hx3); refine Gn ?_; refine WC.seq ?_; refine WC.sr ?_; refine Go ?_; refine WL.step (ok_mkIface ⟨_, Tryz.underlying71, fun _ h => by cases h⟩ rfl) rfl rfl rfl ?_; refine WL.call (vs := [_, _]) rfl (fun a w => Tryz.call24 a w) rfl (as_none _) rfl rfl rfl ?_; rintro _ hz ⟨rfl, _⟩; subst hz; refine Gn ?_; refine goC 9 10 ?_ TT.mk; refine goB 10 ?_; refine WC.skip ?_; refine Gn ?_; refine WC.seq ?_; refine WC.sr ?_; refine Go ?_; refine WL.ld rfl (by first | exact cell_blk hbK rfl | assumption | exact cell_blk (by assumption) rfl) rfl rfl rfl ?_; refine Go ?_; refine Gs [(0, _), (5, _), (56, _)] ?_; refine goC 11 12 ?_ TT.mk; refine goB 12 ?_; refine WC.skip ?_; refine Gn ?_; refine WC.sr ?_; refine Go ?_; refine Gs [(4, _)] ?_; refine Gt ?_; exact ⟨⟨B2, OK, pB2⟩, L2, P2, kK, rfl, rfl, TK⟩)
  · have hr : restP ⟨fk, w, n, p, t, o, ps.map Cel.pl, mx⟩ (⟨st1, sk1, ov1, cn1, LL1, PP1⟩, out, some (ec, et)) = (⟨failP st1, decide (fk ≠ 81), ov1, cn1, LL1, if failP st1 = 69 then [] else PP1⟩, out ++ [errP ec et]) := if_neg e81
    rw [hr]
    clear hr
    refine calls [(0, _), (1, _)] Tryz.func9 rfl Tryz.ntmps9 rfl ⟨rfl, rfl, trivial⟩ ?_
    all_goals (refine WC.sr ?_; refine WL.stepR (okE_box rfl) rfl rfl rfl ?_; rintro _ h1 ⟨b3, rfl, hg1, hb1, hx1⟩; have k1 := k.ext0 hx1; have hb := k1.se.blk; have lb := lt_of_some k.se.blk; (have n3 : ¬ b3 = A.bs := by omega); refine Go ?_; refine WC.seq ?_; refine WC.sr ?_; refine Go ?_; refine WL.call (vs := [_]) rfl (fun a w => Tryz.call21 a w) rfl (kr _ k1) rfl rfl rfl ?_; rintro _ hz ⟨rfl, _⟩; subst hz; refine Go ?_; refine Gs [(0, _), (3, _), (10, _)] ?_; refine goC 1 2 ?_ TT.mk; refine goB 2 ?_; refine WC.skip ?_; refine Gn ?_; refine WC.seq ?_; refine WC.block ?_; refine WC.sr ?_; refine Go ?_; refine WL.ld rfl (by first | exact cell_blk hb1 rfl | assumption | exact cell_blk (by assumption) rfl) rfl rfl rfl ?_; refine Go ?_; refine Gs [(0, _), (3, _), (11, _)] ?_; refine goC 3 4 ?_ TT.mk; refine goB 4 ?_; refine WC.sr ?_; refine Go ?_; refine WL.ld rfl (by first | exact cell_blk hb1 rfl | assumption | exact cell_blk (by assumption) rfl) rfl rfl rfl ?_; refine Go ?_; refine Gs [(0, _), (3, _), (18, _)] ?_; refine goC 5 6 ?_ TT.mk; refine goB 6 ?_; refine WC.sr ?_; refine Go ?_; refine WL.step (ok_nilCheck rfl) rfl rfl rfl ?_; refine Go ?_; refine WL.ld rfl (by first | exact cell_blk hb rfl | assumption | exact cell_blk (by assumption) rfl) rfl rfl rfl ?_; refine Go ?_; refine Gs [(0, _), (3, _), (28, _)] ?_; refine goC 7 8 ?_ TT.mk; refine goB 8 ?_; refine WC.skip ?_; refine Gn ?_; refine WC.sr ?_; refine Go ?_; refine WL.step (ok_loadN (fun w => Tryz.isAgg32 w) (fun w => Tryz.sizeOf32 w) rfl rfl (by exact At.of_block hb1)) rfl rfl rfl ?_)
    all_goals (refine WL.call (vs := [_, _]) rfl (fun a w => Tryz.call23 a w) rfl (kd _ hx1) rfl rfl rfl ?_
               rintro _ h2 ⟨u2, e2, rfl, v2, B2, c2, heq, O2, pB2, L2, P2, k2, eL2, eP2, t2⟩
               obtain ⟨q1, q2⟩ := tuple2 heq
               subst q1 q2
               dsimp only [erV] at pB2 k2 eL2 eP2 ⊢
               subst eL2
               subst eP2
               have hb12 := t2.1.obj hb1 (k1.not hb1 (by decide) (by decide) (by decide)))
    all_goals (refine Go ?_; refine Gs [(0, _), (3, _), (5, _), (6, _)] ?_; refine WC.sr ?_; refine WL.stepR (okE_alloc (fun w => Tryz.zeroValue69 w)) rfl rfl rfl ?_; rintro _ h3 ⟨b7, rfl, hg3, hb3, hx3⟩; have hbK := hx3.obj hb12 nos; have kK := k2.ext0 hx3; have OK := (O2.mono hx1.size).ext0 hx3; have TK := ((Tn.no (A := A) (P := P) hx1).trans t2).trans (Tn.no hx3); refine Gn ?_; refine WC.seq ?_; refine WC.sr ?_; refine Go ?_; refine WL.step (ok_mkIface ⟨_, Tryz.underlying71, fun _ h => by cases h⟩ rfl) rfl rfl rfl ?_; have er3 : Er h3 := ((er.ext0 hx1).ext t2.1 (fun e => h0 e)).ext0 hx3; have hv := c2 (by simp); subst hv; obtain rfl := O2.none_nil; obtain rfl : out = [] := pB2.symm; refine WL.call (vs := [_, _]) rfl (fun a w => Tryz.call24 a w) rfl (errAs_hit ec et er3 hb3) rfl rfl rfl ?_; rintro _ h4 ⟨rfl, hb4, hx4⟩; have X4 : Ext No h2 h4 := hx3.trans' hx4 (fun q hq e => by omega); have k4 := k2.ext0 X4; have hb14 := X4.obj hb12 nos; (have nb7 : b7 ≠ A.bs := fun e => by have := lt_of_some k2.se.blk; omega); refine Gn ?_; refine goC 9 10 ?_ TT.mk; refine goB 9 ?_; refine WC.sr ?_; refine Go ?_; refine WL.ld rfl (by first | exact cell_blk hb14 rfl | assumption | exact cell_blk (by assumption) rfl) rfl rfl rfl ?_; refine Go ?_; refine WL.step (ok_nilCheck rfl) rfl rfl rfl ?_; refine Go ?_; refine WL.stepR0 (okE_store (fun w => Tryz.sizeOf4 w) rfl rfl k4.se.blk (Nat.le_of_ble_eq_true rfl) rfl rfl) rfl rfl ?_; rintro _ h5 ⟨hb5, hx5⟩; obtain ⟨k5, t5⟩ := k4.turnS hx5 hb5 k4.sto; have hb15 := t5.1.obj hb14 (k4.not hb14 (by decide) (by decide) (by decide)); have hb75 := hx5.obj hb4 nb7; refine Gn ?_; refine Gs [(0, _), (3, _), (5, _), (7, _)] ?_; refine WC.region ?_; refine Go ?_; refine WL.step (ok_loadN (fun w => Tryz.isAgg69 w) (fun w => Tryz.sizeOf69 w) rfl rfl (by exact At.of_block hb75)) rfl rfl rfl ?_; refine WL.call (vs := [_, _]) rfl (fun a w => Tryz.call25 a w) rfl (failed_v k5 ec et) rfl rfl rfl ?_; rintro _ h6 ⟨⟨b6, rfl, okb6, pb6, fb6⟩, ⟨P6, sP6, k6, eP6, t6⟩, hx6⟩; have hb16 := t6.1.obj hb15 (k5.not hb15 (by decide) (by decide) (by decide)); refine WL.stepR (okE_buildSlice (vs := [_]) (cs := [_, _, _, _, _, _, _, _, _, _, _]) (fun | [.agg ⟨[a0, a1, a2, a3, a4, a5, a6, a7, a8, a9, a10]⟩] => [a0, a1, a2, a3, a4, a5, a6, a7, a8, a9, a10] | _ => []) Tryz.underlying33 rfl rfl (by kernel_rfl)) rfl rfl rfl ?_; rintro _ h7 ⟨b8, rfl, hg7, hb7, hx7⟩; refine WL.stepR (ok_append (sz := 11) (bytes := 168) rfl Tryz.underlying33 (show Tryz.prog.info? 42 = some Tryz.t42 by kernel_rfl) rfl rfl rfl rfl (by decide) rfl rfl (Own.nil _ _ 11) (rd_blk (len := 1) (sz := 11) hb7 rfl) okb6.one (by simp only [maxLen]; omega) (by omega)) rfl rfl rfl ?_; rintro v8 h8 ⟨ho8, hx8, hl8⟩; have X8 : Ext No h6 h8 := hx7.trans (hx8.mono fun _ _ e => by cases e); have hbK := X8.obj hb16 nos; have kK := k6.ext0 X8; have T4 := ((Tn.no (A := A) (P := P) hx1).trans t2).trans (Tn.no X4); have T5 := T4.trans t5; have TK := (T5.trans t6).trans (Tn.no X8); have s5 := T5.1.size; have s7 := hx7.size; have s6 := t6.1.size; have OK : Outs h h8 v8 ([] ++ [b6]) := (Outs.nil h h7).snoc (okb6.ext hx7 fun _ _ => nos) (fun z hz => by have := fb6 z hz; omega) (fun _ _ e => by cases e) (by omega) ho8 hx8 hl8)
    all_goals (refine Go ?_; refine Gn ?_; refine WC.seq ?_; refine WC.sr ?_; refine Go ?_; refine WL.ld rfl (by first | exact cell_blk hbK rfl | assumption | exact cell_blk (by assumption) rfl) rfl rfl rfl ?_; refine Go ?_; refine Gs [(0, _), (5, _), (56, _)] ?_; refine goC 11 12 ?_ TT.mk; refine goB 12 ?_; refine WC.skip ?_; refine Gn ?_; refine WC.sr ?_; refine Go ?_; refine Gs [(4, _)] ?_; refine Gt ?_; exact ⟨⟨[] ++ [b6], OK, by simp [pb6]⟩, L2, P6, by show Ss h8 A (failP st1) (decide (fk ≠ 81)) ov1 cn1 L2 P6; rw [decide_eq_true e81]; exact kK, rfl, eP6, TK⟩)
set_option maxHeartbeats 2000000 in
set_option maxRecDepth 100000 in
/-- A query. -/
theorem do_q (er : Er h) (h0 : ¬ Mu A P 0) (k : Ss h A st false false cnt L P) (f : Fm) (hf : f.ok h) (e81 : f.kind = 81) {r : SayP} (hlen : r.2.1.length ≤ 1000000)
    (kd : ∀ g, Ext No h g → CallsH Tryz.prog 23 ⟨[.pointer (some ⟨A.bs, 0, none⟩), .agg ⟨f.cells⟩]⟩ g (Two fun v e h' => DealtS g A L P r (.tuple ⟨[v, e]⟩) h')) :
    CallsH Tryz.prog 9 ⟨[.pointer (some ⟨A.bs, 0, none⟩), .agg ⟨f.cells⟩]⟩ h (Did h A P (restP f.p r)) := by
  have kr := fun (g : Heap) (k : Ss g A st false false cnt L P) => ready_yes k.se.blk
  have ks := fun (g : Heap) (st : Int) (sk ov : Bool) (cnt : Int) (L : List (List UInt8 × StD)) (P : List (List UInt8 × ItD)) (k : Ss g A st sk ov cnt L P) => syncD_s k
  obtain ⟨⟨e1, _⟩, ⟨e2, _⟩, ⟨e3, _⟩, e4, _⟩ := hf
  obtain ⟨fk, w, n, p, t, vo, o, vf, fs, vs, rs, vp, ps, mx⟩ := f
  dsimp only at e1 e2 e3 e4 e81
  obtain ⟨_, _, rfl, _⟩ := e1
  obtain ⟨_, _, rfl, _⟩ := e2
  obtain ⟨_, _, rfl, _⟩ := e3
  obtain ⟨_, _, rfl, _⟩ := e4
  subst e81
  unfold bkC at ks
  dsimp only [Fm.cells, Fm.p] at kd ⊢
  rcases r with ⟨⟨st1, sk1, ov1, cn1, LL1, PP1⟩, out, _ | ⟨ec, et⟩⟩
  · have hr : restP ⟨81, w, n, p, t, o, ps.map Cel.pl, mx⟩ (⟨st1, sk1, ov1, cn1, LL1, PP1⟩, out, none) = (⟨st1, sk1, ov1, cn1, LL1, if st1 = 73 then [] else PP1⟩, out ++ [{ kind := 90, status := st1 }]) := rfl
    rw [hr]
    clear hr
    refine calls [(0, _), (1, _)] Tryz.func9 rfl Tryz.ntmps9 rfl ⟨rfl, rfl, trivial⟩ ?_
    all_goals (refine WC.sr ?_; refine WL.stepR (okE_box rfl) rfl rfl rfl ?_; rintro _ h1 ⟨b3, rfl, hg1, hb1, hx1⟩; have k1 := k.ext0 hx1; have hb := k1.se.blk; have lb := lt_of_some k.se.blk; (have n3 : ¬ b3 = A.bs := by omega); refine Go ?_; refine WC.seq ?_; refine WC.sr ?_; refine Go ?_; refine WL.call (vs := [_]) rfl (fun a w => Tryz.call21 a w) rfl (kr _ k1) rfl rfl rfl ?_; rintro _ hz ⟨rfl, _⟩; subst hz; refine Go ?_; refine Gs [(0, _), (3, _), (10, _)] ?_; refine goC 1 2 ?_ TT.mk; refine goB 2 ?_; refine WC.skip ?_; refine Gn ?_; refine WC.seq ?_; refine WC.block ?_; refine WC.sr ?_; refine Go ?_; refine WL.ld rfl (by first | exact cell_blk hb1 rfl | assumption | exact cell_blk (by assumption) rfl) rfl rfl rfl ?_; refine Go ?_; refine Gs [(0, _), (3, _), (11, _)] ?_; refine goC 3 4 ?_ TT.mk; refine goB 4 ?_; refine WC.sr ?_; refine Go ?_; refine WL.ld rfl (by first | exact cell_blk hb1 rfl | assumption | exact cell_blk (by assumption) rfl) rfl rfl rfl ?_; refine Go ?_; refine Gs [(0, _), (3, _), (18, _)] ?_; refine goC 5 6 ?_ TT.mk; refine goB 6 ?_; refine WC.sr ?_; refine Go ?_; refine WL.step (ok_nilCheck rfl) rfl rfl rfl ?_; refine Go ?_; refine WL.ld rfl (by first | exact cell_blk hb rfl | assumption | exact cell_blk (by assumption) rfl) rfl rfl rfl ?_; refine Go ?_; refine Gs [(0, _), (3, _), (28, _)] ?_; refine goC 7 8 ?_ TT.mk; refine goB 8 ?_; refine WC.skip ?_; refine Gn ?_; refine WC.sr ?_; refine Go ?_; refine WL.step (ok_loadN (fun w => Tryz.isAgg32 w) (fun w => Tryz.sizeOf32 w) rfl rfl (by exact At.of_block hb1)) rfl rfl rfl ?_)
    all_goals (refine WL.call (vs := [_, _]) rfl (fun a w => Tryz.call23 a w) rfl (kd _ hx1) rfl rfl rfl ?_
               rintro _ h2 ⟨u2, e2, rfl, v2, B2, c2, heq, O2, pB2, L2, P2, sL2, sP2, k2, eL2, eP2, t2⟩
               obtain ⟨q1, q2⟩ := tuple2 heq
               subst q1 q2
               dsimp only [erV] at pB2 k2 eL2 eP2 ⊢
               subst eL2
               subst eP2
               have hb12 := t2.1.obj hb1 (k1.not hb1 (by decide) (by decide) (by decide)))
    all_goals (refine Go ?_; refine Gs [(0, _), (3, _), (5, _), (6, _)] ?_; refine WC.sr ?_; refine WL.stepR (okE_alloc (fun w => Tryz.zeroValue69 w)) rfl rfl rfl ?_; rintro _ h3 ⟨b7, rfl, hg3, hb3, hx3⟩; have hbK := hx3.obj hb12 nos; have kK := k2.ext0 hx3; have OK := (O2.mono hx1.size).ext0 hx3; have TK := ((Tn.no (A := A) (P := P) hx1).trans t2).trans (Tn.no hx3); refine Gn ?_; refine WC.seq ?_; refine WC.sr ?_; refine Go ?_; refine WL.step (ok_mkIface ⟨_, Tryz.underlying71, fun _ h => by cases h⟩ rfl) rfl rfl rfl ?_; (have hlB : B2.length ≤ 1000000 := by rw [← pB2, List.length_map] at hlen; exact hlen); replace hlen := hlB; refine WL.call (vs := [_, _]) rfl (fun a w => Tryz.call24 a w) rfl (as_none _) rfl rfl rfl ?_; rintro _ hz ⟨rfl, _⟩; subst hz; refine Gn ?_; refine goC 9 10 ?_ TT.mk; refine goB 10 ?_; refine WC.skip ?_; refine Gn ?_; refine WC.seq ?_; refine WC.sr ?_; refine Go ?_; refine WL.ld rfl (by first | exact cell_blk hbK rfl | assumption | exact cell_blk (by assumption) rfl) rfl rfl rfl ?_; refine Go ?_; refine Gs [(0, _), (5, _), (56, _)] ?_; refine goC 11 12 ?_ TT.mk; refine goB 11 ?_; refine WC.region ?_; refine Go ?_; refine WL.call (vs := [_]) rfl (fun a w => Tryz.call22 a w) rfl (ks _ _ _ _ _ _ _ kK) rfl rfl rfl ?_; rintro _ h9 ⟨rfl, ⟨P9, sP9, k9, eP9, t9⟩, hx9⟩; have O9 := OK.ext hx9 (fun q hq => by subst hq; exact k.se.pm.lt); refine WL.stepR (okE_buildSlice (vs := [_]) (cs := [_, _, _, _, _, _, _, _, _, _, _]) (fun | [.agg ⟨[a0, a1, a2, a3, a4, a5, a6, a7, a8, a9, a10]⟩] => [a0, a1, a2, a3, a4, a5, a6, a7, a8, a9, a10] | _ => []) Tryz.underlying33 rfl rfl (by kernel_rfl)) rfl rfl rfl ?_; rintro _ h10 ⟨b10, rfl, hg10, hb10, hx10⟩; have O10 := O9.ext0 hx10; have k10 := k9.ext0 hx10; have T10 := (TK.trans t9).trans (Tn.no (A := A) (P := P9) hx10); obtain ⟨A10, c10, rfl, _⟩ := O10.own.slice; refine WL.stepR (ok_append (sz := 11) (bytes := 168) rfl Tryz.underlying33 (show Tryz.prog.info? 42 = some Tryz.t42 by kernel_rfl) rfl rfl rfl rfl (by decide) rfl rfl O10.own (rd_blk (len := 1) (sz := 11) hb10 rfl) (by simp [Value.oneCell']) (by have := hlen; simp only [maxLen, List.length_append, List.length_singleton, List.nil_append] at *; omega) (by have := hlen; simp only [List.length_append, List.length_singleton, List.nil_append] at *; omega)) rfl rfl rfl ?_; rintro v11 h11 ⟨ho11, hx11, hl11⟩; have O11 := O10.snoc (b := bk0 90 st1 []) (bk0_ok _ _ _ _) (fun _ e => (bk0_F e).elim) (fun _ e => (bk0_F e).elim) T10.1.size ho11 hx11 hl11; refine Go ?_; refine Gn ?_; refine WC.sr ?_; refine Go ?_; refine Gs [(4, _)] ?_; refine Gt ?_; have X11 : Ext No h10 h10 := .refl _ _; have k11 := k.extN k10 sL2 (fun q hq => sP2 q (sP9 q hq)) hx11 (fun q hq => O10.vf q hq); exact ⟨⟨B2 ++ [bk0 90 st1 []], O11, by rw [List.map_append, pB2]; rfl⟩, L2, P9, k11, rfl, eP9, T10.1.trans' hx11 (fun q hq e => by have := O10.vf q e; omega), T10.2⟩)
  · have hr : restP ⟨81, w, n, p, t, o, ps.map Cel.pl, mx⟩ (⟨st1, sk1, ov1, cn1, LL1, PP1⟩, out, some (ec, et)) = (⟨failP st1, false, ov1, cn1, LL1, if failP st1 = 73 then [] else (if failP st1 = 69 then [] else PP1)⟩, (out ++ [errP ec et]) ++ [{ kind := 90, status := failP st1 }]) := rfl
    rw [hr]
    clear hr
    refine calls [(0, _), (1, _)] Tryz.func9 rfl Tryz.ntmps9 rfl ⟨rfl, rfl, trivial⟩ ?_
    all_goals (refine WC.sr ?_; refine WL.stepR (okE_box rfl) rfl rfl rfl ?_; rintro _ h1 ⟨b3, rfl, hg1, hb1, hx1⟩; have k1 := k.ext0 hx1; have hb := k1.se.blk; have lb := lt_of_some k.se.blk; (have n3 : ¬ b3 = A.bs := by omega); refine Go ?_; refine WC.seq ?_; refine WC.sr ?_; refine Go ?_; refine WL.call (vs := [_]) rfl (fun a w => Tryz.call21 a w) rfl (kr _ k1) rfl rfl rfl ?_; rintro _ hz ⟨rfl, _⟩; subst hz; refine Go ?_; refine Gs [(0, _), (3, _), (10, _)] ?_; refine goC 1 2 ?_ TT.mk; refine goB 2 ?_; refine WC.skip ?_; refine Gn ?_; refine WC.seq ?_; refine WC.block ?_; refine WC.sr ?_; refine Go ?_; refine WL.ld rfl (by first | exact cell_blk hb1 rfl | assumption | exact cell_blk (by assumption) rfl) rfl rfl rfl ?_; refine Go ?_; refine Gs [(0, _), (3, _), (11, _)] ?_; refine goC 3 4 ?_ TT.mk; refine goB 4 ?_; refine WC.sr ?_; refine Go ?_; refine WL.ld rfl (by first | exact cell_blk hb1 rfl | assumption | exact cell_blk (by assumption) rfl) rfl rfl rfl ?_; refine Go ?_; refine Gs [(0, _), (3, _), (18, _)] ?_; refine goC 5 6 ?_ TT.mk; refine goB 6 ?_; refine WC.sr ?_; refine Go ?_; refine WL.step (ok_nilCheck rfl) rfl rfl rfl ?_; refine Go ?_; refine WL.ld rfl (by first | exact cell_blk hb rfl | assumption | exact cell_blk (by assumption) rfl) rfl rfl rfl ?_; refine Go ?_; refine Gs [(0, _), (3, _), (28, _)] ?_; refine goC 7 8 ?_ TT.mk; refine goB 8 ?_; refine WC.skip ?_; refine Gn ?_; refine WC.sr ?_; refine Go ?_; refine WL.step (ok_loadN (fun w => Tryz.isAgg32 w) (fun w => Tryz.sizeOf32 w) rfl rfl (by exact At.of_block hb1)) rfl rfl rfl ?_)
    all_goals (refine WL.call (vs := [_, _]) rfl (fun a w => Tryz.call23 a w) rfl (kd _ hx1) rfl rfl rfl ?_
               rintro _ h2 ⟨u2, e2, rfl, v2, B2, c2, heq, O2, pB2, L2, P2, sL2, sP2, k2, eL2, eP2, t2⟩
               obtain ⟨q1, q2⟩ := tuple2 heq
               subst q1 q2
               dsimp only [erV] at pB2 k2 eL2 eP2 ⊢
               subst eL2
               subst eP2
               have hb12 := t2.1.obj hb1 (k1.not hb1 (by decide) (by decide) (by decide)))
    all_goals (refine Go ?_; refine Gs [(0, _), (3, _), (5, _), (6, _)] ?_; refine WC.sr ?_; refine WL.stepR (okE_alloc (fun w => Tryz.zeroValue69 w)) rfl rfl rfl ?_; rintro _ h3 ⟨b7, rfl, hg3, hb3, hx3⟩; have hbK := hx3.obj hb12 nos; have kK := k2.ext0 hx3; have OK := (O2.mono hx1.size).ext0 hx3; have TK := ((Tn.no (A := A) (P := P) hx1).trans t2).trans (Tn.no hx3); refine Gn ?_; refine WC.seq ?_; refine WC.sr ?_; refine Go ?_; refine WL.step (ok_mkIface ⟨_, Tryz.underlying71, fun _ h => by cases h⟩ rfl) rfl rfl rfl ?_; have er3 : Er h3 := ((er.ext0 hx1).ext t2.1 (fun e => h0 e)).ext0 hx3; have hv := c2 (by simp); subst hv; obtain rfl := O2.none_nil; obtain rfl : out = [] := pB2.symm; refine WL.call (vs := [_, _]) rfl (fun a w => Tryz.call24 a w) rfl (errAs_hit ec et er3 hb3) rfl rfl rfl ?_; rintro _ h4 ⟨rfl, hb4, hx4⟩; have X4 : Ext No h2 h4 := hx3.trans' hx4 (fun q hq e => by omega); have k4 := k2.ext0 X4; have hb14 := X4.obj hb12 nos; (have nb7 : b7 ≠ A.bs := fun e => by have := lt_of_some k2.se.blk; omega); refine Gn ?_; refine goC 9 10 ?_ TT.mk; refine goB 9 ?_; refine WC.sr ?_; refine Go ?_; refine WL.ld rfl (by first | exact cell_blk hb14 rfl | assumption | exact cell_blk (by assumption) rfl) rfl rfl rfl ?_; refine Go ?_; refine WL.step (ok_nilCheck rfl) rfl rfl rfl ?_; refine Go ?_; refine WL.stepR0 (okE_store (fun w => Tryz.sizeOf4 w) rfl rfl k4.se.blk (Nat.le_of_ble_eq_true rfl) rfl rfl) rfl rfl ?_; rintro _ h5 ⟨hb5, hx5⟩; obtain ⟨k5, t5⟩ := k4.turnS hx5 hb5 k4.sto; have hb15 := t5.1.obj hb14 (k4.not hb14 (by decide) (by decide) (by decide)); have hb75 := hx5.obj hb4 nb7; refine Gn ?_; refine Gs [(0, _), (3, _), (5, _), (7, _)] ?_; refine WC.region ?_; refine Go ?_; refine WL.step (ok_loadN (fun w => Tryz.isAgg69 w) (fun w => Tryz.sizeOf69 w) rfl rfl (by exact At.of_block hb75)) rfl rfl rfl ?_; refine WL.call (vs := [_, _]) rfl (fun a w => Tryz.call25 a w) rfl (failed_v k5 ec et) rfl rfl rfl ?_; rintro _ h6 ⟨⟨b6, rfl, okb6, pb6, fb6⟩, ⟨P6, sP6, k6, eP6, t6⟩, hx6⟩; have hb16 := t6.1.obj hb15 (k5.not hb15 (by decide) (by decide) (by decide)); refine WL.stepR (okE_buildSlice (vs := [_]) (cs := [_, _, _, _, _, _, _, _, _, _, _]) (fun | [.agg ⟨[a0, a1, a2, a3, a4, a5, a6, a7, a8, a9, a10]⟩] => [a0, a1, a2, a3, a4, a5, a6, a7, a8, a9, a10] | _ => []) Tryz.underlying33 rfl rfl (by kernel_rfl)) rfl rfl rfl ?_; rintro _ h7 ⟨b8, rfl, hg7, hb7, hx7⟩; refine WL.stepR (ok_append (sz := 11) (bytes := 168) rfl Tryz.underlying33 (show Tryz.prog.info? 42 = some Tryz.t42 by kernel_rfl) rfl rfl rfl rfl (by decide) rfl rfl (Own.nil _ _ 11) (rd_blk (len := 1) (sz := 11) hb7 rfl) okb6.one (by simp only [maxLen]; omega) (by omega)) rfl rfl rfl ?_; rintro v8 h8 ⟨ho8, hx8, hl8⟩; have X8 : Ext No h6 h8 := hx7.trans (hx8.mono fun _ _ e => by cases e); have hbK := X8.obj hb16 nos; have kK := k6.ext0 X8; have T4 := ((Tn.no (A := A) (P := P) hx1).trans t2).trans (Tn.no X4); have T5 := T4.trans t5; have TK := (T5.trans t6).trans (Tn.no X8); have s5 := T5.1.size; have s7 := hx7.size; have s6 := t6.1.size; have OK : Outs h h8 v8 ([] ++ [b6]) := (Outs.nil h h7).snoc (okb6.ext hx7 fun _ _ => nos) (fun z hz => by have := fb6 z hz; omega) (fun _ _ e => by cases e) (by omega) ho8 hx8 hl8)
    all_goals (refine Go ?_; refine Gn ?_; refine WC.seq ?_; refine WC.sr ?_; refine Go ?_; refine WL.ld rfl (by first | exact cell_blk hbK rfl | assumption | exact cell_blk (by assumption) rfl) rfl rfl rfl ?_; refine Go ?_; refine Gs [(0, _), (5, _), (56, _)] ?_; refine goC 11 12 ?_ TT.mk; refine goB 11 ?_; refine WC.region ?_; refine Go ?_; refine WL.call (vs := [_]) rfl (fun a w => Tryz.call22 a w) rfl (ks _ _ _ _ _ _ _ kK) rfl rfl rfl ?_; rintro _ h9 ⟨rfl, ⟨P9, sP9, k9, eP9, t9⟩, hx9⟩; have O9 := OK.ext hx9 (fun q hq => by subst hq; exact k.se.pm.lt); refine WL.stepR (okE_buildSlice (vs := [_]) (cs := [_, _, _, _, _, _, _, _, _, _, _]) (fun | [.agg ⟨[a0, a1, a2, a3, a4, a5, a6, a7, a8, a9, a10]⟩] => [a0, a1, a2, a3, a4, a5, a6, a7, a8, a9, a10] | _ => []) Tryz.underlying33 rfl rfl (by kernel_rfl)) rfl rfl rfl ?_; rintro _ h10 ⟨b10, rfl, hg10, hb10, hx10⟩; have O10 := O9.ext0 hx10; have k10 := k9.ext0 hx10; have T10 := (TK.trans t9).trans (Tn.no (A := A) (P := P9) hx10); obtain ⟨A10, c10, rfl, _⟩ := O10.own.slice; refine WL.stepR (ok_append (sz := 11) (bytes := 168) rfl Tryz.underlying33 (show Tryz.prog.info? 42 = some Tryz.t42 by kernel_rfl) rfl rfl rfl rfl (by decide) rfl rfl O10.own (rd_blk (len := 1) (sz := 11) hb10 rfl) (by simp [Value.oneCell']) (by have := hlen; simp only [maxLen, List.length_append, List.length_singleton, List.nil_append] at *; omega) (by have := hlen; simp only [List.length_append, List.length_singleton, List.nil_append] at *; omega)) rfl rfl rfl ?_; rintro v11 h11 ⟨ho11, hx11, hl11⟩; have O11 := O10.snoc (b := bk0 90 (failP st1) []) (bk0_ok _ _ _ _) (fun _ e => (bk0_F e).elim) (fun _ e => (bk0_F e).elim) T10.1.size ho11 hx11 hl11; refine Go ?_; refine Gn ?_; refine WC.sr ?_; refine Go ?_; refine Gs [(4, _)] ?_; refine Gt ?_; have k11 := k.extN k10 sL2 (fun q hq => sP2 q (sP6 q (sP9 q hq))) hx11 (fun q hq => O10.vf q hq); exact ⟨⟨([] ++ [b6]) ++ [bk0 90 (failP st1) []], O11, by rw [List.map_append, List.map_append, List.map_nil, List.map_singleton, pb6]; rfl⟩, L2, P9, k11, rfl, by rw [eP9, eP6], T10.1.trans' hx11 (fun q hq e => by have := O10.vf q e; omega), T10.2⟩)
end
end Go.Proofs.YtbokngiajfdanaaGreatDoor


/-
  SESSIONS (layer 30), by the code: Do of any message, as a function of plain data; a session apart from all else.
-/
namespace Go.Proofs.YtbokngiajfdanaaGreatDoor
open Go Go.RK

theorem queryP_len (s : SP) (f : FmP) : (queryP s f).2.1.length ≤ 1000000 := by
  have ht : ∀ (s : SP) (v : VeD), (turnP s v).2.1.length ≤ 1 := fun s v => by unfold turnP; split <;> (try split) <;> simp
  unfold queryP
  dsimp only
  split
  · simp
  · split
    · have := (engP_lim (verbP f.text) s.cnt (ps := []) (by simp)).1
      simp [rowsRep]
      omega
    · exact Nat.le_trans (ht _ _) (by omega)
section
variable {h h' : Heap} {A : Ad} {st : Int} {sk ov : Bool} {cnt : Int} {L : List (List UInt8 × StD)} {P : List (List UInt8 × ItD)}
theorem do_v (er : Er h) (h0 : ¬ Mu A P 0) (k : Ss h A st sk ov cnt L P) (lm : LimP (spO st sk ov cnt L P)) (f : Fm) (hf : f.ok h) (hF : ∀ q, f.F q → ¬ Mu A P q) (fl : FmLim f) :
    CallsH Tryz.prog 9 ⟨[.pointer (some ⟨A.bs, 0, none⟩), .agg ⟨f.cells⟩]⟩ h (Did h A P (doP (spO st sk ov cnt L P) f.p)) := by
  by_cases ha : ov = true ∨ f.kind = 88 ∨ f.kind = 83 ∨ sk = true
  · exact do_a k f hf ha
  · simp only [not_or] at ha
    obtain ⟨a1, a2, a3, a4⟩ := ha
    obtain rfl : ov = false := by simpa using a1
    obtain rfl : sk = false := by simpa using a4
    have e : doP (spO st false false cnt L P) f.p = restP f.p (dealP (spO st false false cnt L P) f.p) := by
      unfold doP
      rw [if_neg (show ¬ (spO st false false cnt L P).ov = true from by simp [spO]), if_neg (show ¬ f.p.kind = 88 from a2), if_neg (show ¬ f.p.kind = 83 from a3), if_neg (show ¬ (spO st false false cnt L P).sk = true from by simp [spO])]
    rw [e]
    by_cases e81 : f.kind = 81
    · have eq : dealP (spO st false false cnt L P) f.p = queryP (spO st false false cnt L P) f.p := by
        unfold dealP
        rw [show f.p.kind = 81 from e81]
        rfl
      rw [eq]
      exact do_q er h0 k f hf e81 (queryP_len _ _) fun g x => deal_q (k.ext0 x) lm f (hf.ext0 x) fl e81
    · exact do_b er h0 k f hf ⟨a2, a3, e81⟩ fun g x => deal_v (k.ext0 x) lm f (hf.ext0 x) hF fl
end
/-- A session all of whose parts were made behind h0. -/
def SsI (h0 h : Heap) (A : Ad) (s : SP) : Prop := ∃ L P, Ss h A s.st s.sk s.ov s.cnt L P ∧ plL L = s.L ∧ plP P = s.P ∧ ∀ q, Mu A P q → h0.size ≤ q
/-- Blocks from h0 on that may be a session's. -/
def Bh (h0 h : Heap) (q : Nat) : Prop := h0.size ≤ q ∧ ∀ cs T, h[q]? = some (.cells cs T (0, 0)) → T = 54 ∨ T = 62 ∨ T = 147
theorem Fm.ok.lt {h : Heap} {f : Fm} (k : f.ok h) {q : Nat} (hq : f.F q) : q < h.size := by
  rcases hq with ⟨h1, h2⟩ | hq
  · exact k.oids.1.lt h1 h2
  · exact k.params.lt hq
theorem Er.pos {h : Heap} (e : Er h) : 0 < h.size := by
  have := e 0 _ rfl
  unfold cell at this
  rcases hq : h[0]? with _ | o
  · simp [hq] at this
  · exact lt_of_some hq
section
variable {h0 h h' : Heap} {A : Ad} {s : SP}
theorem SsI.ext0 (k : SsI h0 h A s) (x : Ext No h h') : SsI h0 h' A s := by
  obtain ⟨L, P, k, e1, e2, e3⟩ := k
  exact ⟨L, P, k.ext0 x, e1, e2, e3⟩
theorem do_i (k : SsI h0 h A s) {n : Nat} (lm : Lim n s) (hn : n < 1000000) (er : Er h0) (x : Ext No h0 h) (f : Fm) (hf : f.ok h0) (fl : FmLim f) :
    CallsH Tryz.prog 9 ⟨[.pointer (some ⟨A.bs, 0, none⟩), .agg ⟨f.cells⟩]⟩ h fun u h' => (∃ B, Outs h h' u B ∧ B.map Bk.p = (doP s f.p).2) ∧ SsI h0 h' A (doP s f.p).1 ∧ Ext (Bh h0 h) h h' := by
  obtain ⟨L, P, k, e1, e2, e3⟩ := k
  obtain ⟨st, sk, ov, cnt, LL, PP⟩ := s
  dsimp only at e1 e2 k
  subst e1 e2
  refine (do_v (er.ext0 x) (fun e => by have := e3 _ e; have := er.pos; omega) k (lm.limP hn) f (hf.ext0 x) (fun q hq e => by have := e3 _ e; have := hf.lt hq; omega) fl).mono fun u h' ⟨hB, L', P', k', p1, p2, t⟩ => ?_
  refine ⟨hB, ⟨L', P', k', p1, p2, fun q hq => ?_⟩, t.1.mono fun q _ e => ⟨e3 q e, fun cs T hq => Classical.byContradiction fun hT => k.not hq (fun z => hT (.inl z)) (fun z => hT (.inr (.inl z))) (fun z => hT (.inr (.inr z))) e⟩⟩
  by_cases hl : q < h.size
  · exact e3 q (t.2 q hl hq)
  · have := x.size; omega
theorem SsI.blk (k : SsI h0 h A s) : h[A.bs]? = some (.cells ⟨[.map (some A.ms), .pointer (some ⟨A.bp, 0, none⟩), .pointer (some ⟨A.be, 0, none⟩), .int .u8 s.st, .bool s.sk, .bool s.ov]⟩ 54 (0, 0)) := by
  obtain ⟨L, P, k, _⟩ := k
  exact k.se.blk
/-- The names of a session. -/
def namesP (s : SP) : List (List UInt8) := srtS (s.L.map (·.1))
/-- A session in which nothing was said. -/
abbrev sp0 : SP := ⟨73, false, false, 0, [], []⟩
theorem sp0_lim : Lim 0 sp0 := ⟨(fun _ h => nomatch h), (fun _ h => nomatch h), ⟨Int.le_refl _, Int.le_refl _⟩, Nat.le_refl _⟩
theorem new_i {be me : Nat} (hb : h[be]? = some (.cells ⟨[.map (some me), In 0]⟩ 62 (0, 0))) (hm : Mp .string St h me ([] : List (List UInt8 × Value))) (x : Ext No h0 h) (g1 : h0.size ≤ be) :
    CallsH Tryz.prog 7 ⟨[.pointer (some ⟨be, 0, none⟩)]⟩ h fun u h' => ∃ A : Ad, u = .pointer (some ⟨A.bs, 0, none⟩) ∧ SsI h0 h' A sp0 ∧ Ext No h h' := by
  refine (new_sess (some ⟨be, 0, none⟩)).mono fun u h' ⟨bs, ms, bp, mp, e, hbs, hms, hbp, hmp, l1, l2, l3, l4, hx⟩ => ?_
  have lm := hm.lt
  have s0 := x.size
  refine ⟨⟨bs, ms, bp, mp, be, me⟩, e, ⟨[], [], ⟨⟨hbs, hms, hbp, hmp, hx.obj hb nos, hm.ext hx nos, by dsimp only; omega, by dsimp only; omega, by dsimp only; omega⟩, (fun _ h => nomatch h), (fun _ h => nomatch h), (fun _ h => nomatch h), .inl rfl, by decide⟩, rfl, rfl, fun q hq => ?_⟩, hx⟩
  rcases hq with hq | hq | hq | hq | ⟨r, hr, _⟩
  · have : q = bs := hq
    omega
  · have : q = ms := hq
    omega
  · have : q = mp := hq
    omega
  · have : q = be := hq
    omega
  · exact nomatch hr
end
end Go.Proofs.YtbokngiajfdanaaGreatDoor


/-
  SESSIONS (layer 30): what is said may be said; whether all messages may be told.
-/
namespace Go.Proofs.YtbokngiajfdanaaGreatDoor
open Go Go.RK

noncomputable def mayB (f : Fm) : Bool := @decide f.may (Classical.propDecidable _)
theorem mayB_t {f : Fm} : mayB f = true ↔ f.may := by unfold mayB; exact @decide_eq_true_iff _ (Classical.propDecidable _)
theorem clean1_eq {f : Fm} {ms : List (Int × List UInt8)} (fr : Frd [f] ms) : decide (((frs ms).length : Int) = 0) = !mayB f := by
  have hno := fr.no
  cases hm : mayB f
  · have : ms = [] := hno.2 fun e he => by rw [List.mem_singleton.1 he]; intro z; rw [mayB_t.2 z] at hm; cases hm
    rw [this]
    rfl
  · have : (frs ms).length ≠ 0 := fun z => hno.1 (frs_nil z) f (List.mem_singleton.2 rfl) (mayB_t.1 hm)
    rw [decide_eq_false (by omega)]
    rfl
set_option maxHeartbeats 2000000 in
set_option maxRecDepth 100000 in
theorem clean1 {h h0 : Heap} (f : Fm) (hf : f.ok h0) (x : Ext No h0 h) (w : f.few) : CallsH Tryz.prog 42 ⟨[.agg ⟨f.cells⟩]⟩ h fun u h' => u = .bool (!mayB f) ∧ Ext No h h' := by
  have kb := fun (g : Heap) (p : Nat) (y : Ext No h0 g) (hp : g[p]? = some (.cells ⟨f.cells⟩ 32 (0, 0))) => bytes06 (h := g) (v := .slice (some ⟨p, 0, none⟩) 1 1) [f] ⟨by simpa using rd_blk (len := 1) (sz := 10) hp rfl, by simp [maxLen], fun e he => by rw [List.mem_singleton.1 he]; exact hf.ext0 y⟩ (fun e he => by rw [List.mem_singleton.1 he]; exact w) (by simp)
  have hone := hf.one
  refine calls [(0, _)] Tryz.func42 rfl Tryz.ntmps42 rfl ⟨rfl, trivial⟩ ?_
  all_goals (refine WC.sr ?_; refine WL.stepR (okE_box rfl) rfl rfl rfl ?_; rintro _ h1 ⟨b1, rfl, hg1, hb1, hx1⟩; refine Go ?_; refine WC.sr ?_; refine WL.step (ok_loadN (fun w => Tryz.isAgg32 w) (fun w => Tryz.sizeOf32 w) rfl rfl (by exact At.of_block hb1)) rfl rfl rfl ?_; refine WL.stepR (okE_buildSlice (vs := [_]) (cs := [_, _, _, _, _, _, _, _, _, _]) (fun | [.agg ⟨[a0, a1, a2, a3, a4, a5, a6, a7, a8, a9]⟩] => [a0, a1, a2, a3, a4, a5, a6, a7, a8, a9] | _ => []) Tryz.underlying22 rfl rfl (by kernel_rfl)) rfl rfl rfl ?_; rintro _ h2 ⟨b2, rfl, hg2, hb2, hx2⟩; refine WL.call (vs := [_]) rfl (fun a w => Tryz.call43 a w) rfl (kb _ _ (x.trans (hx1.trans hx2)) hb2) rfl rfl rfl ?_; rintro v3 h3 ⟨ms, fr, B3⟩; obtain ⟨A3, c3, rfl, _⟩ := B3.1.slice; refine Go ?_; refine Gs [(2, _)] ?_; refine Gt ?_; exact ⟨congrArg Value.bool (clean1_eq fr), (hx1.trans hx2).trans B3.2.1⟩)
set_option maxHeartbeats 2000000 in
set_option maxRecDepth 100000 in
theorem clean30 {h : Heap} {v : Value} (L : List Fm) (k : Fms h v L) (w : ∀ f ∈ L, f.few) : CallsH Tryz.prog 17 ⟨[v]⟩ h fun u h' => (∃ x, u = .bool x ∧ (x = true → ∀ f ∈ L, f.may)) ∧ Ext No h h' := by
  obtain ⟨hr, hl, ok⟩ := k
  have kh := has_fm L (fun f => !mayB f) (fun a w => Tryz.call42 a w) (fs := []) (us := []) hr hl (fun x hx h' hx' => clean1 x (ok x hx) hx' (w x hx))
  obtain ⟨A, c, rfl, _⟩ := id hr
  refine calls [(0, _)] Tryz.func17 rfl Tryz.ntmps17 rfl ⟨rfl, trivial⟩ ?_
  all_goals (refine WC.sr ?_; refine Go ?_; refine WC.sr ?_; refine Go ?_; refine WL.call (vs := [_, _]) rfl (fun a w => Tryz.call18 a w) rfl (kh) rfl rfl rfl ?_; rintro _ h2 ⟨rfl, hx2⟩; refine Go ?_; refine Gs [(2, _)] ?_; refine Gt ?_)
  all_goals (exact ⟨⟨_, rfl, fun z f hf => by
              have z2 : (L.any fun f => !mayB f) = false := by simpa using z
              have := List.any_eq_false.1 z2 f hf
              exact mayB_t.1 (by simpa using this)⟩, hx2⟩)
/-! ### replies, by what they say -/
section
variable {b : Bk} {N M : Nat} {G : Prop}
theorem nolist {α : Type} {l : List α} (h : l = []) {P : α → Prop} : ∀ x ∈ l, P x := fun x hx => by rw [h] at hx; exact nomatch hx
theorem mapnil {l : List Cel} (h : l.map Cel.pl = []) : l = [] := List.map_eq_nil_iff.1 h
theorem col_mid {n : Int} (hn : n ≤ 100) : (descP n).cols.length ≤ 100 ∧ ∀ c ∈ (descP n).cols, c.nm.length ≤ 1000 ∧ c.okB := by
  have hh : heldN n ≤ 100 := by unfold heldN; omega
  refine ⟨by simp [descP, colsL_len]; exact hh, fun c hc => ?_⟩
  obtain ⟨nm, hnm, rfl⟩ := List.mem_map.1 hc
  obtain ⟨i, hi, rfl⟩ := List.mem_map.1 hnm
  have := List.mem_range.1 hi
  have hd := deci_len ((i + 1 : Nat) : Int) (by omega)
  refine ⟨by show (99 :: deci _).length ≤ 1000; rw [List.length_cons]; omega, ?_⟩
  refine ⟨?_, by show (0 : Int) ≤ 0 ∧ (0 : Int) ≤ 4294967295; decide, by show (0 : Int) ≤ 0 ∧ (0 : Int) ≤ 65535; decide, by show (0 : Int) ≤ 25 ∧ (25 : Int) ≤ 4294967295; decide, by show (-32768 : Int) ≤ -1 ∧ (-1 : Int) ≤ 32767; decide, by show (-2147483648 : Int) ≤ -1 ∧ (-1 : Int) ≤ 2147483647; decide, by show (0 : Int) ≤ 0 ∧ (0 : Int) ≤ 65535; decide⟩
  show cleanB (99 :: deci _) = true
  rw [show (99 :: deci ((i + 1 : Nat) : Int)) = [99] ++ deci ((i + 1 : Nat) : Int) from rfl, clean_app, deci_clean]
  rfl
structure PP (b : Bk) (k st : Int) (tag : List UInt8) (oids : List Int) (cols : List ColD) (row : List CelP) : Prop where
  k : b.kind = k
  s : b.status = st
  t : b.tag = tag
  n : b.name = []
  v : b.value = []
  x : b.n = 0
  y : b.m = 0
  o : b.oids = oids
  c : b.cols = cols
  r : b.row.map Cel.pl = row
  f : b.fields = []
theorem pp {k st : Int} {tag : List UInt8} {oids : List Int} {cols : List ColD} {row : List CelP} (e : b.p = { kind := k, status := st, tag := tag, oids := oids, cols := cols, row := row }) : PP b k st tag oids cols row := by
  obtain ⟨k, st, t, n, v, x, y, vo, lo, vc, lc, vr, lr, vf, lf⟩ := b
  simp only [Bk.p, BkP.mk.injEq] at e
  exact ⟨e.1, e.2.1, e.2.2.1, e.2.2.2.1, e.2.2.2.2.1, e.2.2.2.2.2.1, e.2.2.2.2.2.2.1, e.2.2.2.2.2.2.2.1, e.2.2.2.2.2.2.2.2.1, e.2.2.2.2.2.2.2.2.2.1, e.2.2.2.2.2.2.2.2.2.2⟩
theorem PP.cel {k st : Int} {tag : List UInt8} {oids : List Int} {cols : List ColD} {row : List CelP} (e : PP b k st tag oids cols row) {c : Cel} (hc : c ∈ b.row) : (c.null, c.bytes) ∈ row := by rw [← e.r]; exact List.mem_map.2 ⟨c, hc, rfl⟩
theorem PP.mid {k st : Int} {tag : List UInt8} {oids : List Int} {cols : List ColD} {row : List CelP} (e : PP b k st tag oids cols row) (h1 : oids.length ≤ 100) (h2 : cols.length ≤ 100 ∧ ∀ c ∈ cols, c.nm.length ≤ 1000) (h3 : row.length ≤ 100 ∧ ∀ c ∈ row, c.2.length ≤ 1000) (h4 : tag.length ≤ 1000) : b.mid :=
  ⟨e.o ▸ h1, e.c ▸ h2.1, by have := congrArg List.length e.r; rw [List.length_map] at this; have := h3.1; omega, by rw [e.f]; exact Nat.zero_le _, e.c ▸ h2.2, fun c hc => h3.2 _ (e.cel hc), nolist e.f, e.t ▸ h4, by rw [e.n]; exact Nat.zero_le _, by rw [e.v]; exact Nat.zero_le _⟩
theorem PP.may {k st : Int} {tag : List UInt8} {oids : List Int} {cols : List ColD} {row : List CelP} (e : PP b k st tag oids cols row) (hk : KnownK k) (h1 : oids.length ≤ 100 ∧ ∀ n ∈ oids, 0 ≤ n ∧ n ≤ 4294967295) (h2 : cols.length ≤ 100 ∧ ∀ c ∈ cols, c.okB) (h3 : row.length ≤ 100 ∧ ∀ c ∈ row, c.2.length ≤ 1000 ∧ (c.1 = true → c.2.length = 0)) (h4 : cleanB tag = true) (hs : k ≠ 90 ∨ StOk st) (ho : (ofB b).pl = b.pl) : b.may := by
  have hk0 : 0 ≤ k ∧ k ≤ 255 := by unfold KnownK at hk; omega
  exact ⟨(may_kind (e.k ▸ hk0)).2 (e.k ▸ hk), e.t ▸ h4, by rw [e.n]; rfl, by rw [e.v]; rfl, e.c ▸ ⟨by have := h2.1; omega, h2.2⟩, by rw [e.f]; exact ⟨Nat.zero_le _, fun _ h => nomatch h⟩, ⟨by have := congrArg List.length e.r; rw [List.length_map] at this; have := h3.1; omega, fun c hc => by
      have := h3.2 _ (e.cel hc)
      exact ⟨this.2, by have := this.1; dsimp only at this; omega⟩⟩, e.o ▸ ⟨by have := h1.1; omega, h1.2⟩, by rw [e.x]; decide, by rw [e.y]; decide, by
      unfold Bk.stOk
      rw [e.k, e.s]
      rcases hs with h | h | h | h
      · exact .inl h
      · exact .inr (.inl h)
      · exact .inr (.inr (.inl h))
      · exact .inr (.inr (.inr h)), ho⟩
/-- A reply that is no fault: short, and it may be said where what was handed may be. -/
theorem say_ok {x : BkP} (hx : SayB 50 300 G x ∨ (∃ st, x = { kind := 90, status := st } ∧ StOk st)) (hb : b.p = x) (hk : b.kind ≠ 69) : b.mid ∧ (0 ≤ b.kind ∧ b.kind ≤ 255) ∧ (G → b.may) := by
  have z1 : ([] : List Int).length ≤ 100 ∧ ∀ n ∈ ([] : List Int), 0 ≤ n ∧ n ≤ 4294967295 := ⟨Nat.zero_le _, fun _ h => nomatch h⟩
  have z2 : ([] : List ColD).length ≤ 100 ∧ ∀ c ∈ ([] : List ColD), c.nm.length ≤ 1000 ∧ c.okB := ⟨Nat.zero_le _, fun _ h => nomatch h⟩
  have z3 : ([] : List CelP).length ≤ 100 ∧ ∀ c ∈ ([] : List CelP), c.2.length ≤ 1000 ∧ (c.1 = true → c.2.length = 0) := ⟨Nat.zero_le _, fun _ h => nomatch h⟩
  rcases hx with (h | ⟨k, rfl, h⟩ | ⟨t, rfl, h1, h2⟩ | ⟨o, rfl, h⟩ | ⟨r, rfl, h⟩ | ⟨n, rfl, h⟩) | ⟨st, rfl, h⟩
  · exact absurd (hb ▸ h : b.p.kind = 69) hk
  · have e := pp hb
    refine ⟨e.mid z1.1 ⟨z2.1, fun c h => (z2.2 c h).1⟩ ⟨z3.1, fun c h => (z3.2 c h).1⟩ (by simp), by rw [e.k]; omega, fun g => e.may (by unfold KnownK; omega) z1 ⟨z2.1, fun c h => (z2.2 c h).2⟩ z3 rfl (.inl (by omega)) ?_⟩
    have := e.k
    unfold ofB
    repeat' (first | (rw [if_neg (by omega)]))
    simp [zB, Bk.pl, e.s, e.t, e.n, e.v, e.x, e.y, e.o, e.c, e.f, mapnil e.r]
  · have e := pp hb
    refine ⟨e.mid z1.1 ⟨z2.1, fun c h => (z2.2 c h).1⟩ ⟨z3.1, fun c h => (z3.2 c h).1⟩ h2, by rw [e.k]; omega, fun g => e.may (by unfold KnownK; omega) z1 ⟨z2.1, fun c h => (z2.2 c h).2⟩ z3 h1 (.inl (by omega)) ?_⟩
    have := e.k
    unfold ofB
    rw [if_neg (by omega), if_neg (by omega), if_neg (by omega), if_pos (by omega)]
    simp [zB, Bk.pl, e.s, e.t, e.n, e.v, e.x, e.y, e.o, e.c, e.f, mapnil e.r]
  · have e := pp hb
    have hl := h.1
    refine ⟨e.mid (by omega) ⟨z2.1, fun c h => (z2.2 c h).1⟩ ⟨z3.1, fun c h => (z3.2 c h).1⟩ (by simp), by rw [e.k]; omega, fun g => e.may (by unfold KnownK; omega) ⟨by omega, h.2 g⟩ ⟨z2.1, fun c h => (z2.2 c h).2⟩ z3 rfl (.inl (by omega)) ?_⟩
    have := e.k
    unfold ofB
    rw [if_neg (by omega), if_neg (by omega), if_neg (by omega), if_neg (by omega), if_neg (by omega), if_neg (by omega), if_pos (by omega)]
    simp [zB, Bk.pl, e.s, e.t, e.n, e.v, e.x, e.y, e.c, e.f, mapnil e.r]
  · have e := pp hb
    have hl := h.1
    refine ⟨e.mid z1.1 ⟨z2.1, fun c h => (z2.2 c h).1⟩ ⟨by omega, fun c hc => by have := (h.2 c hc).1; omega⟩ (by simp), by rw [e.k]; omega, fun g => e.may (by unfold KnownK; omega) z1 ⟨z2.1, fun c h => (z2.2 c h).2⟩ ⟨by omega, fun c hc => ⟨by have := (h.2 c hc).1; omega, (h.2 c hc).2 g⟩⟩ rfl (.inl (by omega)) ?_⟩
    have := e.k
    unfold ofB
    rw [if_neg (by omega), if_neg (by omega), if_neg (by omega), if_neg (by omega), if_pos (by omega)]
    simp [zB, Bk.pl, e.s, e.t, e.n, e.v, e.x, e.y, e.o, e.c, e.f]
  · have e := pp hb
    have hc := col_mid (n := n) (by omega)
    refine ⟨e.mid z1.1 ⟨hc.1, fun c h => (hc.2 c h).1⟩ ⟨z3.1, fun c h => (z3.2 c h).1⟩ (by simp), by rw [e.k]; omega, fun g => e.may (by unfold KnownK; omega) z1 ⟨hc.1, fun c h => (hc.2 c h).2⟩ z3 rfl (.inl (by omega)) ?_⟩
    have := e.k
    unfold ofB
    rw [if_neg (by omega), if_neg (by omega), if_neg (by omega), if_neg (by omega), if_neg (by omega), if_pos (by omega)]
    simp [zB, Bk.pl, e.s, e.t, e.n, e.v, e.x, e.y, e.o, e.f, mapnil e.r]
  · have e := pp hb
    refine ⟨e.mid z1.1 ⟨z2.1, fun c h => (z2.2 c h).1⟩ ⟨z3.1, fun c h => (z3.2 c h).1⟩ (by simp), by rw [e.k]; omega, fun g => e.may (by unfold KnownK; omega) z1 ⟨z2.1, fun c h => (z2.2 c h).2⟩ z3 rfl (.inr h) ?_⟩
    have := e.k
    unfold ofB
    rw [if_neg (by omega), if_neg (by omega), if_pos (by omega)]
    simp [zB, Bk.pl, e.t, e.n, e.v, e.x, e.y, e.o, e.c, e.f, mapnil e.r]
end
end Go.Proofs.YtbokngiajfdanaaGreatDoor


/-
  SESSIONS (layer 30): what the library's variables hold when a law is called.
-/
namespace Go.Proofs.YtbokngiajfdanaaGreatDoor
open Go Go.RK

def laidP : List (String × DataW Unit) := Rows.sessSaysRow.laid.filter fun x => x.2.handleName?.isNone
/-- A world in which the one handle is laid. -/
noncomputable def handWorld (os : Os) : World :=
  let w0 := World.holding Tryz.prog os ⟨#[], #[], []⟩
  { w0 with heap := w0.heap.modify 0 fun
      | .cells _ t frozen => .cells #[.iface 164 (.agg #[.pointer (some ⟨4, 65, none⟩)])] t frozen
      | o => o }
noncomputable def laidWorld (os : Os) : World := (handWorld os).layVars Tryz.prog laidP
theorem laidWorld_os (os : Os) : (laidWorld os).os = os := World.layVars_os _ _ _
theorem laidWorld_met (os : Os) (args : Array Value) : laidMetH Tryz.prog Rows.sessSaysRow.laid ((laidWorld os).forCall (fun _ _ => 0) ⟨#[], args, []⟩).memory := by
  have e1 : (laidP.filter fun x => (laidP.map (·.1)).contains x.1) = laidP := List.filter_eq_self.2 fun x hx => List.contains_iff_mem.2 (List.mem_map.2 ⟨x, hx, rfl⟩)
  have e2 : (laidP.filter fun x => !(laidP.map (·.1)).contains x.1) = [] := List.filter_eq_nil_iff.2 fun x hx => by rw [List.contains_iff_mem.2 (List.mem_map.2 ⟨x, hx, rfl⟩)]; simp
  have h : laidMet Tryz.prog laidP (laidWorld os) := laidMet_layVars (w0 := handWorld os) (laidP.map (·.1)) [] (by rw [e1]; rfl) (by rw [e1]; kernel_rfl) (by rw [e1]; kernel_rfl) (by rw [e2]; exact LaidIn.none)
  exact laidMetH_of_parts (h.of_heap (by simp [World.memory, World.forCall, Input.heap])) (by kernel_rfl)
/-- What the laid variable gives a walk. -/
theorem er_laid {W : World} (h : laidMetH Tryz.prog Rows.sessSaysRow.laid W) : Er W.heap := by
  have h' : laidMet Tryz.prog laidP W ∧ handlesMet Tryz.prog (Rows.sessSaysRow.laid.filter fun x => x.2.handleName?.isSome) W := h
  obtain ⟨name, u, ty, e1, e2, e3, e4, e5⟩ := h'.2 _ (List.mem_singleton.2 rfl)
  have en : name = [101, 114, 114, 111, 114] := (Option.some.inj e1).symm
  subst en
  obtain rfl := Option.some.inj (er_rt.symm.trans e2)
  have hm : ty ∈ (List.range 319).filter fun t => Tryz.prog.rowNamed t [101, 114, 114, 111, 114] := List.mem_filter.2 ⟨List.mem_range.2 (by rw [← er_size]; exact e3), e4⟩
  rw [er_one] at hm
  obtain rfl := List.mem_singleton.1 hm
  have hh : typeHandle Tryz.prog 65 = .pointer (some ⟨4, 65, none⟩) := by kernel_rfl
  rw [hh] at e5
  have hc : W.cell? ⟨0, 0, none⟩ = some (.iface 164 (.agg #[.pointer (some ⟨4, 65, none⟩)])) := by simpa using World.var?_cell er_et e5 0
  intro j v hj
  rcases j with _ | j
  · simp only [List.getElem?_cons_zero, Option.some.injEq] at hj
    subst hj
    exact hc
  · simp at hj
end Go.Proofs.YtbokngiajfdanaaGreatDoor


