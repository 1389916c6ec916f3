/-
  SessSays holds: all that is said may be said; each sync and each query is answered with just one Z, at last. No condition.
-/
import Derived.Test.YtbokngiajfdanaaGreatDoorPSessSays6
import Derived.Test.YtbokngiajfdanaaGreatDoorCards
import Derived.Test.YtbokngiajfdanaaGreatDoorTie
import Derived.SevenTiedAt
namespace Go.Proofs.YtbokngiajfdanaaGreatDoor
open Go Go.RK

theorem Fm.few.lim {f : Fm} (w : f.few) (x : -9223372036854775808 ≤ f.max ∧ f.max ≤ 9223372036854775807) : FmLim f := ⟨by have := w.name; omega, by have := w.portal; omega, by have := w.text; omega, by have := w.oids; omega, by have := w.params; omega, x⟩
theorem Fm.few.p {f : Fm} (w : f.few) : FmpLim f.p := ⟨by have := w.text; show f.text.length ≤ _; omega, by have := w.oids; show f.oids.length ≤ _; omega, by have := w.params; show (f.params.map Cel.pl).length ≤ _; rw [List.length_map]; omega⟩
def FmX (f : Fm) : Prop := -9223372036854775808 ≤ f.max ∧ f.max ≤ 9223372036854775807
theorem opens_fmx (w : World) : Opens Tryz.prog w 22 (fun p : Value × List Fm => [p.1]) (fun p => Fms w.heap p.1 p.2 ∧ ∀ f ∈ p.2, FmX f) :=
  (opens_slice Tryz.underlying22 (by kernel_rfl) (by decide) Fm.len (opens_fm w)).map id (fun _ => rfl) fun p q => ⟨⟨q.1, q.2.1, fun f hf => (q.2.2.2.1 f hf).1⟩, fun f hf => (q.2.2.2.1 f hf).2.2⟩
theorem few_q {G : Prop} {f : Fm} (w : f.few) (g : G → f.may) : OkQ 50 G f.p.oids := ⟨w.oids, fun z => (g z).oids⟩
theorem few_r {G : Prop} {f : Fm} (w : f.few) (g : G → f.may) : OkR 50 300 G f.p.params := ⟨by show (f.params.map Cel.pl).length ≤ _; rw [List.length_map]; exact w.params, fun c hc => by
  obtain ⟨d, hd, rfl⟩ := List.mem_map.1 (show c ∈ f.params.map Cel.pl from hc)
  exact ⟨w.cells d hd, fun z => ((g z).params d hd).1⟩⟩
theorem sp0_inv {G : Prop} : Inv 50 300 G sp0 := ⟨(fun _ h => nomatch h), (fun _ h => nomatch h), by decide⟩
theorem WL.un {P : Program} {n : Env} {l0 l : List Oper} {Q : Post} {f : Fr} {h : Heap} (t : Nat) (_ : f.get t = some undef) (k : WL P n l0 l Q f h) : WL P n l0 l Q f h := k
/-- How many are a Z. -/
def cntZ (l : List Bk) : Nat := l.countP fun b => decide (b.kind = 90)
theorem cntZ_snoc {l : List Bk} {k : Nat} {b : Bk} (h : l[k]? = some b) : cntZ (l.take (k + 1)) = cntZ (l.take k) + (if b.kind = 90 then 1 else 0) := by
  unfold cntZ
  rw [take_snoc_g h, List.countP_append]
  simp [List.countP_cons]
/-- What a call's replies are. -/
structure Zs (G : Prop) (B : List Bk) (w : Bool) (st : Int) : Prop where
  say : ∀ b ∈ B, SayB 50 300 G b.p ∨ (∃ st, b.p = { kind := 90, status := st } ∧ StOk st)
  z : ∀ k b, B[k]? = some b → b.kind = 90 → k + 1 = B.length ∧ b.status = st
  n : cntZ B = if w = true then 1 else 0
theorem zs_of {G : Prop} {B : List Bk} {l : List BkP} {w : Bool} {st : Int} (e : B.map Bk.p = l ++ (if w = true then [{ kind := 90, status := st }] else [])) (hl : ∀ x ∈ l, SayB 50 300 G x) (hs : StOk st) : Zs G B w st := by
  have h90 : ∀ b ∈ B.take l.length, b.kind ≠ 90 ∧ SayB 50 300 G b.p := fun b hb => by
    have : b.p ∈ l := by
      have e2 : (B.take l.length).map Bk.p = l := by rw [List.map_take, e, List.take_left']; rfl
      rw [← e2]
      exact List.mem_map.2 ⟨b, hb, rfl⟩
    exact ⟨(hl _ this).n90, hl _ this⟩
  have c0 : cntZ (B.take l.length) = 0 := by
    unfold cntZ
    rw [List.countP_eq_zero]
    intro b hb
    simpa using (h90 b hb).1
  have hlen := congrArg List.length e
  rw [List.length_map, List.length_append] at hlen
  cases w
  · simp only [Bool.false_eq_true, if_false, List.length_nil, Nat.add_zero] at hlen ⊢
    have ht : B.take l.length = B := List.take_of_length_le (by omega)
    rw [ht] at h90 c0
    exact ⟨fun b hb => .inl (h90 b hb).2, fun k b hk h => absurd h (h90 b (List.mem_of_getElem? hk)).1, by simpa using c0⟩
  · simp only [if_true, List.length_singleton] at hlen e ⊢
    obtain ⟨z, hz⟩ : ∃ z, B[l.length]? = some z := ⟨_, List.getElem?_eq_getElem (by omega)⟩
    have hp : z.p = { kind := 90, status := st } := by
      have := congrArg (·[l.length]?) e
      simp [hz] at this
      exact this
    have hB : B = B.take l.length ++ [z] := by
      have := take_snoc_g hz
      rwa [List.take_of_length_le (by omega)] at this
    have hk : z.kind = 90 := congrArg BkP.kind hp
    have hst : z.status = st := congrArg BkP.status hp
    refine ⟨fun b hb => ?_, fun k b hb h => ?_, ?_⟩
    · rw [hB] at hb
      rcases List.mem_append.1 hb with hb | hb
      · exact .inl (h90 b hb).2
      · rw [List.mem_singleton.1 hb]
        exact .inr ⟨st, hp, hs⟩
    · have hlt := (List.getElem?_eq_some_iff.1 hb).1
      by_cases hk2 : k < l.length
      · exact absurd h (h90 b (List.mem_of_getElem? (show (B.take l.length)[k]? = some b by rw [List.getElem?_take]; rw [if_pos hk2]; exact hb))).1
      · obtain rfl : k = l.length := by omega
        rw [hz] at hb
        obtain rfl := Option.some.inj hb
        exact ⟨by omega, hst⟩
    · have := cntZ_snoc hz
      rw [List.take_of_length_le (by omega), c0, if_pos hk] at this
      simpa using this
theorem Outs.len' {h0 h : Heap} {v : Value} {B : List Bk} (k : Outs h0 h v B) : B.length ≤ 9223372036854775807 := by
  obtain ⟨_, ⟨_, e⟩ | ⟨g, cap, cur, _, _, h1, h2, _⟩⟩ := k.own
  · omega
  · unfold maxLen at h2
    omega
set_option maxHeartbeats 4000000 in
set_option maxRecDepth 100000 in
theorem says30 {h : Heap} {vl : Value} (er : Er h) (L : List Fm) (hL : Fms h vl L) (xL : ∀ f ∈ L, FmX f) :
    CallsH Tryz.prog 4 ⟨[vl]⟩ h fun u h' => u = .bool true ∧ Ext No h h' := by
  have kpl := fun h' (x : Ext No h h') => plain_fronts L (hL.ext0 x) 60
  have kcl := fun h' (x : Ext No h h') => clean30 L (hL.ext0 x)
  obtain ⟨hrl, hll, okl⟩ := hL
  obtain ⟨A1, c1, rfl, _⟩ := id hrl
  unfold maxLen at hll
  refine calls [(0, _)] Tryz.func4 rfl Tryz.ntmps4 rfl ⟨rfl, trivial⟩ ?_
  all_goals (refine WC.sr ?_; refine Go ?_; refine WC.seq ?_; refine WC.sr ?_; refine Go ?_; refine WL.call (vs := [_, _]) rfl (fun a w => Tryz.call5 a w) rfl (kpl _ (.refl _ _)) rfl rfl rfl ?_; rintro _ g1 ⟨⟨x1, rfl, few1⟩, hx1⟩; cases x1)
  all_goals (refine Go ?_; refine goC 1 2 ?_ TT.mk)
  all_goals (first | (fail_if_success refine goB 1 ?_) | (
  refine goB 1 ?_
  all_goals (refine WC.sr ?_; refine WL.call (vs := []) rfl (fun a w => Tryz.call6 a w) rfl (awake30) rfl rfl rfl ?_; rintro _ h4 ⟨rfl, hx4⟩; refine Go ?_; refine Gs [(2, _)] ?_; refine Gt ?_; first | exact ⟨rfl, hx1.trans hx4⟩ | exact ⟨rfl, X5.trans hx6⟩)
  skip))
  all_goals (refine goB 2 ?_; refine WC.skip ?_; refine Gn ?_; refine Gs [(0, _)] ?_; refine WC.sr ?_; obtain ⟨hlL, few1⟩ := few1 rfl; refine WL.call (vs := []) rfl (fun a w => Tryz.call8 a w) rfl (new_eng) rfl rfl rfl ?_; rintro _ h3 ⟨be, me, rfl, hbe, hme, hge, hgm, hx3⟩; refine WL.call (vs := [_]) rfl (fun a w => Tryz.call7 a w) rfl (new_i hbe hme (hx1.trans hx3) (by have := hx1.size; omega)) rfl rfl rfl ?_; rintro _ h4 ⟨A, rfl, K4, hx4⟩; refine Go ?_; refine WC.seq ?_; refine WC.sr ?_; refine Go ?_; refine WL.step (ok_eqlPn Tryz.underlying25 rfl rfl) rfl rfl rfl ?_; refine Gn ?_; refine goC 3 4 ?_ TT.mk; refine goB 4 ?_; refine WC.skip ?_; refine Gn ?_; refine Gs [(0, _), (3, _)] ?_; refine WC.seq ?_; refine WC.sr ?_; refine Go ?_; refine WC.block ?_)
  -- loop 0: slots that turn [21], that stay [0, 3, 19, 20]
  all_goals (refine WC.loopG (X := Nat × SP) (fun x => ([(21, In (x.1 : Int))] : Fr)) [(0, _), (3, _), (19, _), (20, _)] (fun x h' => x.1 ≤ L.length ∧ SsI h h' A x.2 ∧ Lim x.1 x.2 ∧ Inv 50 300 (∀ f ∈ L, f.may) x.2 ∧ Ext No h h') (fun x => L.length - x.1) ((0, sp0)) ⟨rfl, rfl, rfl, rfl, rfl, trivial⟩ (by exact ⟨Nat.zero_le _, K4, sp0_lim, sp0_inv, (hx1.trans hx3).trans hx4⟩) ?_; rintro ⟨k, s⟩ h5 ⟨hk, K5, lm, iv, X5⟩; dsimp only at hk K5 lm iv)
  all_goals (refine WC.sub [(21, _), (0, _), (3, _), (19, _), (20, _)] ⟨rfl, rfl, rfl, rfl, rfl, trivial⟩ ?_; dsimp only)
  all_goals (refine WC.sr ?_; refine Go ?_; refine WC.seq ?_; refine goC 5 6 (Hb.mk fun hb => ?_) (Hb.mk fun hb => ?_))
  all_goals (first | (fail_if_success refine goB 5 ?_) | (
  refine goB 5 ?_
  all_goals (refine WC.skip ?_)
  skip))
  all_goals (first | (fail_if_success refine goB 6 ?_) | (
  refine goB 6 ?_
  all_goals (refine WC.exit ?_; repeat' (with_reducible first | refine thenP_x ?_ | refine blockP_miss rfl ?_ | refine blockP_hit ?_ | refine blockP_n ?_ | refine thenP_n ?_))
  all_goals (refine Br.out (i := 1000) ?_)
  skip))
  all_goals (refine Gn ?_; first | (refine Br.keep ?_) | (refine WC.seq ?_))
  all_goals (first | (refine Br.keep ?_) | (refine WC.block ?_))
  all_goals (first | (refine Br.keep ?_) | (refine WC.sr ?_))
  all_goals (first
               | (refine Br.keep ?_)
               | (obtain ⟨bF, iF, hFA, _, hat⟩ := Rd.at_ hrl (by omega)
                  obtain ⟨f, hfk⟩ : ∃ f, L[k]? = some f := ⟨_, List.getElem?_eq_getElem (by omega)⟩
                  have hmf := List.mem_of_getElem? hfk
                  have hd : At h5 bF (iF + k * 10) f.cells := At.elem Fm.len (hat.ext X5 nos) hfk
                  have okf := okl f hmf
                  obtain ⟨iv2, l2, el2, sl2⟩ := doP_inv iv lm (by omega) (by decide) (by decide) f.p (few_q (few1 f hmf) fun z => z f hmf) (few_r (few1 f hmf) fun z => z f hmf)))
  all_goals (first | (refine Br.keep ?_) | (refine WL.step (ok_idxAddrA Tryz.underlying22 (fun w => Tryz.sizeOf32 w) rfl rfl rfl (by omega) (by first | rfl | assumption)) rfl rfl rfl ?_))
  all_goals (first | (refine Br.keep ?_) | (refine WL.step (ok_loadN (fun w => Tryz.isAgg32 w) (fun w => Tryz.sizeOf32 w) rfl rfl (by exact hd)) rfl rfl rfl ?_))
  all_goals (first
               | (refine Br.keep ?_)
               | (refine WL.stepR (okE_alloc (fun w => Tryz.zeroValue32 w)) rfl rfl rfl ?_
                  rintro _ h6 ⟨b7, rfl, hg6, hb6, hx6⟩))
  all_goals (first
               | (refine Br.keep ?_)
               | (refine WL.stepR0 (okE_storeW (fun w => Tryz.sizeOf32 w) rfl rfl rfl (by assumption) rfl okf.one) rfl rfl ?_
                  rintro _ h7 ⟨hb7, hx7⟩))
  all_goals (first
               | (refine Br.keep ?_)
               | (have X57 : Ext No h5 h7 := hx6.trans' hx7 (fun q hq e => by omega)
                  have K7 := K5.ext0 X57))
  all_goals (refine Gn ?_; first | (refine Br.keep ?_) | (refine WC.sr ?_))
  all_goals (refine Go ?_; first | (refine Br.keep ?_) | (refine WC.seq ?_))
  refine WC.cut (X := Bool) (fun z => [(0, .slice A1 L.length c1), (3, .pointer (some ⟨A.bs, 0, none⟩)), (5, .pointer (some ⟨b7, 0, none⟩)), (6, In 0), (19, .slice A1 L.length c1), (20, In L.length), (21, In k), (42, .bool z)]) (fun z h' => z = wantZ s f.p ∧ h' = h7) ?_ ?_
  ·
    all_goals (refine WC.region ?_; (have hkk : f.kind = 83 ∨ f.kind = 81 ∨ (f.kind ≠ 83 ∧ f.kind ≠ 81) := by omega); refine WL.step (ok_move rfl) rfl rfl rfl ?_; refine WL.call (vs := [_]) rfl (fun a w => Tryz.call11 a w) rfl (over_v K7.blk) rfl rfl rfl ?_; rintro _ hz ⟨rfl, _⟩; subst hz; cases hov : s.ov)
    all_goals (refine Go ?_; refine goP 28 ?_ TT.mk; refine Gg ?_; skip)
    all_goals (first | (refine WL.pass rfl rfl rfl ?_) | (refine WL.ld rfl (by first | exact cell_blk hb7 rfl | assumption | exact cell_blk (by assumption) rfl) rfl rfl rfl ?_))
    all_goals (first | (refine WL.pass rfl rfl rfl ?_) | (refine WL.step (ok_eql rfl rfl) rfl rfl rfl ?_))
    all_goals (first | (refine WL.pass rfl rfl rfl ?_) | (refine WL.step (ok_move rfl) rfl rfl rfl ?_))
    all_goals (first | (refine WL.un 32 rfl ?_) | (refine goP 32 (Hb.mk fun hb => ?_) (Hb.mk fun hb => ?_)))
    all_goals (refine Gg ?_; skip)
    all_goals (first | (refine WL.pass rfl rfl rfl ?_) | (refine WL.ld rfl (by first | exact cell_blk hb7 rfl | assumption | exact cell_blk (by assumption) rfl) rfl rfl rfl ?_))
    all_goals (first | (refine WL.pass rfl rfl rfl ?_) | (refine WL.step (ok_eql rfl rfl) rfl rfl rfl ?_))
    all_goals (first | (refine WL.pass rfl rfl rfl ?_) | (refine WL.step (ok_move rfl) rfl rfl rfl ?_))
    all_goals (first | (refine WL.un 36 rfl ?_) | (refine goP 36 (Hb.mk fun hb => ?_) (Hb.mk fun hb => ?_)))
    all_goals (refine Gg ?_)
    all_goals (first
                 | (refine WL.pass rfl rfl rfl ?_)
                 | (refine WL.call (vs := [_]) rfl (fun a w => Tryz.call10 a w) rfl (skips_v K7.blk) rfl rfl rfl ?_
                    rintro _ hz ⟨rfl, _⟩
                    subst hz))
    all_goals (cases hsk : s.sk)
    all_goals (refine Gg ?_; refine Go ?_; refine ⟨_, ⟨rfl, rfl, rfl, rfl, rfl, rfl, rfl, rfl, trivial⟩, ?_⟩; (refine ⟨?_, rfl⟩; first | (simp [wantZ, hov]; done) | (rcases hkk with q | q | ⟨q, q2⟩ <;> first | (exfalso; omega) | (simp [wantZ, hov, Fm.p, q]; done) | (simp [wantZ, hov, Fm.p, q, hsk]; done) | (simp [wantZ, hov, Fm.p, q, q2]; done))))
  rintro wz h8 ⟨hwz, hz8⟩; subst h8
  all_goals (first | (refine Br.keep ?_) | (refine goC 7 8 (Hb.mk fun hb => ?_) (Hb.mk fun hb => ?_)))
  all_goals (first | (fail_if_success refine goB 7 ?_) | (
  refine goB 7 ?_
  all_goals (refine WC.region ?_; refine Go ?_)
  skip))
  all_goals (first | (fail_if_success refine goB 8 ?_) | (
  refine goB 8 ?_
  all_goals (refine WC.skip ?_)
  skip))
  all_goals (refine Gn ?_; first | (refine Br.keep ?_) | (refine WC.sr ?_))
  all_goals (refine Go ?_; first | (refine Br.keep ?_) | (refine WL.step (ok_loadN (fun w => Tryz.isAgg32 w) (fun w => Tryz.sizeOf32 w) rfl rfl (by exact At.of_block hb7)) rfl rfl rfl ?_))
  all_goals (first
               | (refine Br.keep ?_)
               | (refine WL.call (vs := [_, _]) rfl (fun a w => Tryz.call9 a w) rfl (do_i K7 lm (by omega) er (X5.trans X57) f okf ((few1 f hmf).lim (xL f hmf))) rfl rfl rfl ?_
                  rintro u8 h8 ⟨⟨B, OB, pB⟩, K8, x8⟩
                  have X8 : Ext No h h8 := (X5.trans X57).trans' x8 (fun q hq e => by have := e.1; omega)
                  have hb8 : h8[b7]? = some (.cells ⟨f.cells⟩ 32 (0, 0)) := x8.obj hb7 (fun e => by have := e.2 _ _ hb7; revert this; decide)
                  have sto : StOk (doP s f.p).1.st := by obtain ⟨_, _, q, _⟩ := K8; exact q.sto
                  rw [el2, ← hwz] at pB
                  have zs := zs_of pB sl2 sto
                  have lmS := doP_lim lm f.p (few1 f hmf).p
                  clear el2 sl2 pB
                  generalize (doP s f.p).1 = s' at K8 zs iv2 sto lmS
                  obtain ⟨A8, c8, rfl, hlc8⟩ := OB.own.slice
                  have hBl : B.length ≤ 9223372036854775807 := OB.len'))
  all_goals (refine Go ?_; first | (refine Br.keep ?_) | (refine Gs [(0, _), (3, _), (5, _), (6, _), (7, _), (19, _), (20, _), (21, _)] ?_))
  all_goals (first | (refine Br.keep ?_) | (refine WC.sr ?_))
  all_goals (refine Go ?_; first | (refine Br.keep ?_) | (refine WC.seq ?_))
  all_goals (first | (refine Br.keep ?_) | (refine WC.sr ?_))
  all_goals (refine Go ?_; first | (refine Br.keep ?_) | (refine WC.block ?_))
  -- loop 1: slots that turn [8, 48], that stay [0, 3, 5, 6, 7, 19, 20, 21, 46, 47]
  all_goals (first | (refine Br.keep ?_) | (refine WC.loopG (X := Nat) (fun x => ([(48, In (x : Int)), (8, In ((cntZ (B.take x) : Nat) : Int))] : Fr)) [(0, _), (3, _), (5, _), (6, _), (7, _), (19, _), (20, _), (21, _), (46, _), (47, _)] (fun x h' => x ≤ B.length ∧ Ext No h8 h') (fun x => B.length - x) (0) ⟨rfl, rfl, rfl, rfl, rfl, rfl, rfl, rfl, rfl, rfl, rfl, rfl, trivial⟩ (by exact ⟨Nat.zero_le _, .refl _ _⟩) ?_))
  all_goals (first
               | (refine Br.keep ?_)
               | (rintro j h9 ⟨hj, X9⟩
                  have hcj : cntZ (B.take j) ≤ j := Nat.le_trans (List.countP_le_length) (List.length_take_le _ _)))
  all_goals (first | (refine Br.keep ?_) | (refine WC.sub [(8, _), (48, _), (0, _), (3, _), (5, _), (6, _), (7, _), (19, _), (20, _), (21, _), (46, _), (47, _)] ⟨rfl, rfl, rfl, rfl, rfl, rfl, rfl, rfl, rfl, rfl, rfl, rfl, trivial⟩ ?_))
  all_goals (first | (refine Br.keep ?_) | (refine WC.sr ?_))
  all_goals (refine Go ?_; first | (refine Br.keep ?_) | (refine WC.seq ?_))
  all_goals (first | (refine Br.keep ?_) | (refine goC 9 10 (Hb.mk fun hb => ?_) (Hb.mk fun hb => ?_)))
  all_goals (first | (fail_if_success refine goB 9 ?_) | (
  refine goB 9 ?_
  all_goals (refine WC.skip ?_)
  skip))
  all_goals (first | (fail_if_success refine goB 10 ?_) | (
  refine goB 10 ?_
  all_goals (refine WC.exit ?_; repeat' (with_reducible first | refine thenP_x ?_ | refine blockP_miss rfl ?_ | refine blockP_hit ?_ | refine blockP_n ?_ | refine thenP_n ?_))
  all_goals (refine Br.out (i := 1002) ?_)
  skip))
  all_goals (refine Gn ?_; first | (refine Br.keep ?_) | (refine WC.seq ?_))
  all_goals (first | (refine Br.keep ?_) | (refine WC.block ?_))
  all_goals (first | (refine Br.keep ?_) | (refine WC.sr ?_))
  all_goals (refine Go ?_)
  all_goals (first
               | (refine Br.keep ?_)
               | (obtain ⟨bB, oB, hBA, _, hatB⟩ := Rd.at_ (OB.own.rd.ext0 X9) (by omega)
                  obtain ⟨b, hbj⟩ : ∃ b, B[j]? = some b := ⟨_, List.getElem?_eq_getElem (by omega)⟩
                  have hmb := List.mem_of_getElem? hbj
                  have hdB : At h9 bB (oB + j * 11) b.cells := At.elem Bk.len' hatB hbj
                  have okb := (OB.ok b hmb).ext X9 (fun _ _ => nos)))
  all_goals (first | (refine Br.keep ?_) | (refine WL.step (ok_idxAddrA Tryz.underlying33 (fun w => Tryz.sizeOf42 w) rfl rfl rfl (by omega) (by first | rfl | assumption)) rfl rfl rfl ?_))
  all_goals (first | (refine Br.keep ?_) | (refine WL.step (ok_loadN (fun w => Tryz.isAgg42 w) (fun w => Tryz.sizeOf42 w) rfl rfl (by exact hdB)) rfl rfl rfl ?_))
  all_goals (first
               | (refine Br.keep ?_)
               | (refine WL.stepR (okE_alloc (fun w => Tryz.zeroValue42 w)) rfl rfl rfl ?_
                  rintro _ h10 ⟨b10, rfl, hg10, hb10, hx10⟩))
  all_goals (refine Go ?_)
  all_goals (first
               | (refine Br.keep ?_)
               | (refine WL.stepR0 (okE_storeW (fun w => Tryz.sizeOf42 w) rfl rfl rfl (by assumption) rfl okb.one) rfl rfl ?_
                  rintro _ h11 ⟨hb11, hx11⟩))
  all_goals (first
               | (refine Br.keep ?_)
               | (have X11 : Ext No h9 h11 := hx10.trans' hx11 (fun q hq e => by omega)
                  have okb11 := okb.ext X11 (fun _ _ => nos)
                  have X811 := X9.trans X11
                  have hcs := cntZ_snoc hbj))
  all_goals (refine Gn ?_; first | (refine Br.keep ?_) | (refine Gs [(0, _), (3, _), (5, _), (6, _), (7, _), (8, _), (9, _), (10, _), (19, _), (20, _), (21, _), (46, _), (47, _), (48, _)] ?_))
  all_goals (first | (refine Br.keep ?_) | (refine WC.seq ?_))
  all_goals (first | (refine Br.keep ?_) | (refine WC.sr ?_))
  all_goals (refine Go ?_; first | (refine Br.keep ?_) | (refine WL.ld rfl (by first | exact cell_blk hb11 rfl | assumption | exact cell_blk (by assumption) rfl) rfl rfl rfl ?_))
  all_goals (refine Go ?_; first | (refine Br.keep ?_) | (refine goC 11 12 (Hb.mk fun hb => ?_) (Hb.mk fun hb => ?_)))
  all_goals (first | (fail_if_success refine goB 11 ?_) | (
  refine goB 11 ?_
  all_goals (refine WC.sr ?_; refine WL.step (ok_move rfl) rfl rfl rfl ?_; rw [if_pos (by assumption)] at hcs)
  all_goals (refine WL.step (ok_addI rfl rfl (by omega)) rfl rfl rfl ?_; refine WL.step (ok_assign rfl) rfl rfl rfl ?_; rw [show ((cntZ (B.take j) : Nat) : Int) + 1 = ((cntZ (B.take (j + 1)) : Nat) : Int) by rw [hcs]; omega])
  all_goals (refine Gn ?_; refine Gs [(0, _), (3, _), (5, _), (6, _), (7, _), (8, _), (9, _), (10, _), (19, _), (20, _), (21, _), (46, _), (47, _), (48, _)] ?_; refine WC.seq ?_; refine WC.drawH (fun h' => Ext No h11 h') 12 12 rfl fol ?_; obtain ⟨hz1, hz2⟩ := zs.z j b hbj (by assumption); refine WH.tk 0 rfl (fun hq hC => ok_move rfl) rfl rfl rfl ?_; refine WH.tk 1 rfl (fun hq hC => ok_addI rfl rfl (by omega)) rfl rfl rfl ?_; refine WH.tk 2 rfl (fun hq hC => ok_move rfl) rfl rfl rfl ?_; refine WH.tk 3 rfl (fun hq hC => ok_lenL rfl Tryz.underlying33 rfl) rfl rfl rfl ?_; refine WH.tk 4 rfl (fun hq hC => OkP.nbool_f (by omega) (ok_neq rfl rfl)) rfl rfl rfl ?_; refine WH.tk 5 rfl (fun hq hC => ok_move rfl) rfl rfl rfl ?_; try ((fail_if_success (refine WH.part 63 (b := true) rfl (fun _ => ?_) (fun _ => ?_))); (fail_if_success (refine WH.part 63 (b := false) rfl (fun _ => ?_) (fun _ => ?_))); (refine WH.part 63 rfl (fun hb => ?_) (fun hb => ?_))))
  all_goals (refine WH.tk 6 rfl (fun hq hC => ok_fieldAddr rfl Tryz.underlying42 rfl (fun w => Tryz.sizeOf5 w)) rfl rfl rfl ?_; refine WH.tk 7 rfl (fun hq hC => ok_load (fun w => Tryz.isAgg5 w) rfl (by first | exact hC.cell (by first | exact cell_blk hb11 rfl | assumption | exact cell_blk (by assumption) rfl) nos)) rfl rfl rfl ?_; refine WH.tk 8 rfl (fun hq hC => ok_move rfl) rfl rfl rfl ?_; refine WH.one 9 (by kernel_rfl) ?_; refine Comes1.call (vs := [_]) rfl rfl (fun a w => Tryz.call13 a w) rfl (status_v (K8.ext0 X811).blk) rfl rfl rfl ?_ (fun _ => by kernel_rfl); rintro _ hq9 ⟨rfl, hz9⟩; subst hq9; refine ⟨fun _ => Ext.refl _ _, ?_⟩; refine WH.tk 10 rfl (fun hq hC => OkP.nbool_f (by omega) (ok_neq rfl rfl)) rfl rfl rfl ?_; refine WH.tk 11 rfl (fun hq hC => ok_pick_f rfl rfl) rfl rfl rfl ?_; refine WH.done (by kernel_rfl) ?_; refine Gn ?_; refine Gs [(0, _), (3, _), (5, _), (6, _), (7, _), (8, _), (10, _), (19, _), (20, _), (21, _), (46, _), (47, _), (48, _), (69, _)] ?_; refine goC 13 14 ?_ TT.mk; refine goB 14 ?_; refine WC.skip ?_)
  skip))
  all_goals (first | (fail_if_success refine goB 12 ?_) | (
  refine goB 12 ?_
  all_goals (refine WC.skip ?_)
  skip))
  all_goals (refine Gn ?_; first | (refine Br.keep ?_) | (refine WC.sr ?_))
  all_goals (first | (refine Br.keep ?_) | (try rw [show cntZ (B.take j) = cntZ (B.take (j + 1)) by rw [hcs, if_neg (by assumption)]; rfl]))
  all_goals (first | (refine Br.keep ?_) | (refine WL.step (ok_fieldAddr rfl Tryz.underlying42 rfl (fun w => Tryz.sizeOf5 w)) rfl rfl rfl ?_))
  all_goals (first | (refine Br.keep ?_) | (refine WL.ld rfl (by first | exact cell_blk hb11 rfl | assumption | exact cell_blk (by assumption) rfl) rfl rfl rfl ?_))
  all_goals (refine Go ?_; first | (refine Br.keep ?_) | (first | (refine goP 73 ?_ TT.mk) | (refine goP 73 (Hb.mk fun hb => ?_) (Hb.mk fun hb => ?_))))
  all_goals (first | (refine Br.keep ?_) | (first | (refine WL.pass rfl rfl rfl ?_) | (refine WL.step (ok_loadN (fun w => Tryz.isAgg42 w) (fun w => Tryz.sizeOf42 w) rfl rfl (by exact At.of_block hb11)) rfl rfl rfl ?_)))
  all_goals (first
               | (refine Br.keep ?_)
               | (first
                    | (refine WL.pass rfl rfl rfl ?_)
                    | (refine WL.call (vs := [_]) rfl (fun a w => Tryz.call15 a w) rfl ((checkA_back b okb11 (say_ok (zs.say b hmb) rfl (by first | assumption | omega)).2.1 (say_ok (zs.say b hmb) rfl (by first | assumption | omega)).1)) rfl rfl rfl ?_
                       rintro _ h12 ⟨⟨e, rfl, he⟩, hx12⟩
                       have hmay := fun z => he.2 ((say_ok (zs.say b hmb) rfl (by first | assumption | omega)).2.2 z)
                       have X12 := X811.trans hx12)))
  all_goals (refine Gg ?_; refine Go ?_; first | (refine Br.keep ?_) | (first | (refine goP 78 ?_ TT.mk) | (refine goP 78 (Hb.mk fun hb => ?_) (Hb.mk fun hb => ?_))))
  all_goals (first | (refine Br.keep ?_) | (first | (refine WL.pass rfl rfl rfl ?_) | (refine WL.step (ok_loadN (fun w => Tryz.isAgg32 w) (fun w => Tryz.sizeOf32 w) rfl rfl (by exact At.of_block (x8.obj hb7 (fun e => by have := e.2 _ _ hb7; revert this; decide) |> fun q => X12.obj q nos))) rfl rfl rfl ?_)))
  all_goals (first
               | (refine Br.keep ?_)
               | (first
                    | (refine WL.pass rfl rfl rfl ?_)
                    | (refine WL.call (vs := [_]) rfl (fun a w => Tryz.call16 a w) rfl (plain_frontB f ((okf.ext0 X8).ext0 X12)) rfl rfl rfl ?_
                       rintro _ h13 ⟨rfl, hx13⟩
                       have X13 := X12.trans hx13)))
  all_goals (first | (refine Br.keep ?_) | (cases hpf : plainB f))
  all_goals (refine Go ?_; first | (refine Br.keep ?_) | (refine goP 82 ?_ TT.mk))
  all_goals (refine Gg ?_)
  all_goals (first
               | (refine Br.keep ?_)
               | (first
                    | (refine WL.pass rfl rfl rfl ?_)
                    | (refine WL.call (vs := [_]) rfl (fun a w => Tryz.call17 a w) rfl (kcl _ (X8.trans X13) few1) rfl rfl rfl ?_
                       rintro _ h14 ⟨⟨xc, rfl, hxc⟩, hx14⟩
                       have X14 := X13.trans hx14
                       obtain rfl : xc = false := (by cases xc; rfl; exact absurd (hmay (hxc rfl)) (by first | assumption | omega)))))
  all_goals (refine Go ?_; first | (refine Br.keep ?_) | (refine Gs [(0, _), (3, _), (5, _), (6, _), (7, _), (8, _), (19, _), (20, _), (21, _), (46, _), (47, _), (48, _), (85, _)] ?_))
  all_goals (first | (refine Br.keep ?_) | (refine goC 15 16 ?_ TT.mk))
  all_goals (first | (fail_if_success refine goB 16 ?_) | (
  refine goB 16 ?_
  all_goals (refine WC.skip ?_)
  skip))
  all_goals (refine Gn ?_; first | (refine Br.keep ?_) | (refine WC.region ?_))
  all_goals (refine Go ?_; first | (refine Br.keep ?_) | (exact ⟨j + 1, ⟨rfl, rfl, rfl, rfl, rfl, rfl, rfl, rfl, rfl, rfl, rfl, rfl, trivial⟩, (by first | exact ⟨by omega, X14⟩ | exact ⟨by omega, X13⟩ | exact ⟨by omega, X12⟩ | exact ⟨by omega, X811⟩), (by omega)⟩))
  all_goals (try (refine Br.mk (i := 1002) ?_))
  all_goals (refine Gn ?_; first | (refine Br.keep ?_) | (refine Gs [(0, _), (3, _), (6, _), (8, _), (19, _), (20, _), (21, _)] ?_))
  all_goals (first | (refine Br.keep ?_) | (refine WC.sr ?_))
  all_goals (first
               | (refine Br.keep ?_)
               | (have hfin : cntZ (B.take j) = if wz = true then 1 else 0 := (by rw [List.take_of_length_le (by omega)]; exact zs.n)
                  first | (rw [show wz = true by assumption, if_pos rfl] at hfin) | (rw [show wz = false by assumption, if_neg (by decide)] at hfin)))
  all_goals (first | (refine Br.keep ?_) | (refine WL.step (ok_move rfl) rfl rfl rfl ?_))
  all_goals (refine Go ?_; first | (refine Br.keep ?_) | (refine Gs [(0, _), (3, _), (19, _), (20, _), (21, _), (89, _)] ?_))
  all_goals (first | (refine Br.keep ?_) | (refine goC 17 18 ?_ TT.mk))
  all_goals (first | (fail_if_success refine goB 18 ?_) | (
  refine goB 18 ?_
  all_goals (refine WC.skip ?_)
  skip))
  all_goals (refine Gn ?_; first | (refine Br.keep ?_) | (refine WC.region ?_))
  all_goals (refine Go ?_; first | (refine Br.keep ?_) | (exact ⟨(k + 1, s'), ⟨rfl, rfl, rfl, rfl, rfl, trivial⟩, (by exact ⟨by dsimp only; omega, K8.ext0 X9, lmS, iv2, X8.trans X9⟩), (by (try simp only []); omega)⟩))
  all_goals (try (refine Br.mk (i := 1000) ?_))
  all_goals (refine Gn ?_; refine Gs [] ?_; refine WC.sr ?_; refine WL.call (vs := []) rfl (fun a w => Tryz.call6 a w) rfl (awake30) rfl rfl rfl ?_; rintro _ h6 ⟨rfl, hx6⟩; refine Go ?_; refine Gt ?_; first | exact ⟨rfl, hx1.trans hx4⟩ | exact ⟨rfl, X5.trans hx6⟩)
namespace LSessSays
open Go.ChangeShapes Go.WideShapes Go.ChangeAt Go.RowKit
open Go.ChangeMaps (open_string shut_string)
theorem own : ownKnob Tryz.prog.godebug = none := by kernel_rfl
theorem laidOut : laidOutB Tryz.prog = true := by kernel_rfl
set_option maxRecDepth 100000 in
theorem lifted (os : Os) (started : os.Started) (H : Type) (enc : TypeId × Value → H) :
    ReturnsInHanded {} Tryz.checked os 4 .any (fun w args => (Rows.sessSaysSpec.pre enc Tryz.prog Tryz.f4 [] false w args ∧ laidMetH Tryz.prog Rows.sessSaysRow.laid w) ∧ sizedMet enc Tryz.prog Tryz.f4 (OpenSpec.ofChange Rows.sessSaysSpec) false w args) (Rows.sessSaysSpec.post enc Tryz.prog Tryz.f4 false true false false) := by
  refine returnsInHanded_of_change_and (C := Tryz.checked) (X := fun w _ => laidMetH Tryz.prog Rows.sessSaysRow.laid w) (fun _ _ _ hh h => h.of_heap hh) own started (by kernel_rfl) Tryz.func4
    (ChangeSpec.witness_at (enc := enc) (C := Tryz.checked) (os := os) (X := fun w _ => laidMetH Tryz.prog Rows.sessSaysRow.laid w) false (laidWorld os) #[.slice none 0 0] 8 (laidWorld_os os) (by kernel_rfl) (by kernel_rfl) (by kernel_rfl) (by kernel_rfl) (by kernel_rfl) (laidWorld_met os _)) ?_
  intro W base args ds gs before hval0 hW hcnd hsz0 hL _
  have hval : ∀ (j : Nat) t v, Tryz.f4.params[j]? = some t → args[j]? = some v → Value.okWide Tryz.prog W .any base t v := hval0
  have hsz := hsz0
  rw [Tryz.params4] at hsz
  clear hsz0
  have hW' := hW
  obtain ⟨p, q, hA0, hV, rfl, hfz, hnd⟩ := hW
  have hA : DataW.TrodAll enc Tryz.prog W 0 (fun _ => true) true Tryz.f4.params.toList args.toList ds p := hA0
  rw [Tryz.params4] at hA hval
  obtain ⟨v0, vs0, d0, ds0, p0, q0, hargs, rfl, rfl, h0, r0⟩ := trodAll_cons hA
  obtain ⟨rfl, rfl, rfl⟩ := trodAll_nil r0
  obtain rfl : args = #[v0] := by cases args; simp_all
  obtain ⟨rfl, rfl⟩ := trodVars_none hV
  have hz0 : ∀ n ∈ d0.weights Tryz.prog 22, n ≤ reachBytes := fun n hn => by simpa using List.all_eq_true.1 hsz n (DataW.weights_mem_each (j := 0) rfl rfl n hn)
  have k0 := h0
  have lt0 : ∀ x ∈ p0, x.block < W.heap.size := by obtain ⟨m, hm⟩ := k0; exact DataW.trod_lt m _ _ _ hm
  obtain ⟨A0, n0, c0, rfl⟩ := okWide_slice Tryz.underlying22 (hval 0 22 v0 rfl rfl)
  obtain ⟨fu0, hf0⟩ := h0
  obtain ⟨⟨v0, l0⟩, e0, w0⟩ := opens_fmx W _ _ _ _ _ _ _ _ hf0 hz0
  obtain rfl : .slice A0 n0 c0 = v0 := by simpa [Value.cells] using e0
  clear hA0 hval0
  have er := er_laid hL
  refine (law_calls (says30 er l0 w0.1 w0.2)).mono fun e W' ⟨he, bel⟩ => ?_
  subst he
  exact ⟨_, rfl, _, _, _, [], _, [], hW', trodAll_mk1 (shut_bool Tryz.underlying4 _), (trodAll_cons_mk (Below.trod laidOut (by kernel_rfl) (of_decide_eq_true (by kernel_rfl)) k0 bel lt0) trodAll_mk0), rfl, bel.frame _, fun h => by cases h⟩
theorem over : Rows.sessSaysRow.holds Tryz.pinned (OpenSpec.ofChange Rows.sessSaysSpec) :=
  OpenClaim.holds_of_wide 4 Tryz.f4 rfl rfl rfl rfl rfl rfl rfl ⟨rfl, rfl, rfl, rfl, rfl⟩ rfl rfl rfl rfl rfl (by kernel_rfl) Tryz.func4 (by kernel_rfl)
    (of_decide_eq_true (by kernel_rfl)) (by unfold Func.isWrapper; first | (rw [if_pos (by decide +kernel)]; kernel_rfl) | (rw [if_neg (by decide +kernel)]; exact ⟨rfl, rfl⟩))
    (fun os started H enc _ => lifted os started H enc)
end LSessSays
theorem sessSays_card : Rows.SessSaysCardSaid :=
  Claim7.holds_tied_plain_at .later [] Rows.sessSaysCard.laidKinds true Rows.sessSaysCard.stood.harness true
    LSessSays.over (fun _ h => by cases h) (by kernel_rfl) (fun _ h => by cases h) sessSays_row_tie rfl ⟨rfl, rfl⟩ (by kernel_rfl) rfl
    (fun f fn hf hfn => by
      obtain rfl : f = 4 := Option.some.inj ((show Tryz.prog.funcNamed Rows.sessSaysRow.func = some 4 by kernel_rfl).symm.trans hf) |>.symm
      obtain rfl : fn = Tryz.f4 := (Option.some.inj (Tryz.func4.symm.trans hfn)).symm
      exact ⟨by kernel_rfl, fun j t ht => by
        rw [Tryz.params4] at ht
        have hm : t ∈ [22] := by simpa using Array.mem_of_getElem? ht
        have hall : ([22].all fun u => !Tryz.prog.wantsStandIn u) = true := by kernel_rfl
        exact (show Tryz.prog.wantsStandIn t = false by simpa using List.all_eq_true.1 hall t hm)⟩)
    (by kernel_rfl)
end Go.Proofs.YtbokngiajfdanaaGreatDoor

