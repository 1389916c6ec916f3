/-
  SEVERAL TEXTS IN ONE: RwJ6, RwJ7, RwF, RwN, RwA, RwO.
-/
import Derived.Test.YtggmocdbfbhklaaGreatPRewriteOwn5
/-
  REWRITE (layer 24): what the code does of a message that may be told.
-/
namespace Go.Proofs.YtggmocdbfbhklaaGreat
open Go Go.RK

section
variable {h0 h h1 h' : Heap} {B : Nat} {c : Int} {b m1 m2 bt : Nat} {s : RS} {f : Fm} {v : Value} {ss : Option Addr} {sn sc : Nat} {spec : List Int} {most jd : Int} {kn : Bool}
def DoR (h0 h : Heap) (B : Nat) (c : Int) (b m1 m2 : Nat) (r : RS × List FmP × List EnP) (u : Value) (h' : Heap) : Prop := Gives h0 h r.2.1 r.2.2 u h' ∧ Cst h0 h' B (c + 2) b m1 m2 r.1 ∧ Ext (CS h0 m1 m2 h) h h'
theorem DoR.from {g : Heap} {r : RS × List FmP × List EnP} {u : Value} (k : DoR h0 g B c b m1 m2 r u h') (x : Ext No h g) : DoR h0 h B c b m1 m2 r u h' := ⟨k.1.from x.size, k.2.1, (fs_no x).trans' k.2.2 fun _ hq e => fs_no_back x hq e⟩
theorem gives_u {F : List FmP} {E : List EnP} {u : Value} (k : Gives h0 h F E u h') : ∃ vF vE, u = .tuple ⟨[vF, vE]⟩ := by
  obtain ⟨vF, vE, _, _, e, _⟩ := k
  exact ⟨vF, vE, e⟩
set_option maxHeartbeats 2000000 in
set_option maxRecDepth 100000 in
theorem do_80a (k : JH h0 h B c b m1 m2 s f (.slice ss sn sc) spec) (hk : f.kind = 80) (hn : ¬ f.name = []) : CallsH Tryz.prog 30 ⟨[.agg ⟨jC f b (.slice ss sn sc) most jd true⟩]⟩ h (DoR h0 h B c b m1 m2 (s, [asP f.pl dupL], [(zE 2 dupL f.name).pl])) := by
  have kx := fun g (x : Ext No h g) => again24 (most := most) (jd := jd) (kn := true) (k.ext0 x) hk
  obtain ⟨⟨e1, _⟩, ⟨e2, _⟩, ⟨e3, _⟩, e4, _⟩ := k.f.now
  have hd := k.d
  have hcc := k.cc
  clear k
  generalize hP : f.pl = P at *
  obtain ⟨fk, w, n, p, t, vo, o, vf, fs, vs, rs, vp, ps, mx⟩ := f
  dsimp only at e1 e2 e3 e4 hk hn
  subst hk
  obtain ⟨_, _, rfl, _⟩ := e1
  obtain ⟨_, _, rfl, _⟩ := e2
  obtain ⟨_, _, rfl, _⟩ := e3
  obtain ⟨_, _, rfl, _⟩ := e4
  dsimp only [jC, Fm.cells, List.cons_append, List.nil_append, ptE] at kx ⊢
  refine calls [(0, _)] Tryz.func30 rfl Tryz.ntmps30 rfl ⟨rfl, trivial⟩ ?_
  all_goals (refine WC.sr ?_)
  all_goals (refine WL.stepR (okE_box rfl) rfl rfl rfl ?_
             rintro _ h1 ⟨b1, rfl, hg1, hb1, hx1⟩)
  all_goals (refine Go ?_)
  all_goals (refine WC.seq ?_)
  all_goals (refine WC.sr ?_)
  all_goals (refine Go ?_)
  all_goals (refine WL.step (ok_load (fun w => Tryz.isAgg5 w) rfl (by first | assumption | exact cell_blk (by assumption) rfl)) rfl rfl rfl ?_)
  all_goals (refine Gn ?_)
  all_goals (refine WC.sub [(1, _), (7, _)] ⟨rfl, rfl, trivial⟩ ?_)
  all_goals (refine WC.block ?_)
  all_goals (refine WC.sr ?_)
  all_goals (refine Go ?_)
  all_goals (refine goC 1 2 ?_ ?_ <;> first | exact ⟨⟩ | refine Hb.mk fun hb => ?_ | skip)
  all_goals (first | (fail_if_success refine goB 1 ?_) | (
  refine goB 1 ?_
  all_goals (refine WC.seq ?_)
  all_goals (refine WC.sr ?_)
  all_goals (refine Go ?_)
  all_goals (refine WL.step (ok_load (fun w => Tryz.isAgg9 w) rfl (by first | assumption | exact cell_blk (by assumption) rfl)) rfl rfl rfl ?_)
  all_goals (refine Go ?_)
  all_goals (refine goP 14 ?_ ?_ <;> first | exact ⟨⟩ | refine Hb.mk fun hb => ?_ | skip)
  all_goals (refine Gg ?_)
  all_goals (first | (refine WL.pass rfl rfl rfl ?_) | (refine WL.step (ok_load (fun w => Tryz.isAgg4 w) rfl (by first | assumption | exact cell_blk (by assumption) rfl)) rfl rfl rfl ?_))
  all_goals (refine Go ?_)
  all_goals (refine WC.sub [(1, _), (17, _)] ⟨rfl, rfl, trivial⟩ ?_)
  all_goals (refine goC 3 4 ?_ ?_ <;> first | exact ⟨⟩ | refine Hb.mk fun hb => ?_ | skip)
  all_goals (first | (fail_if_success refine goB 3 ?_) | (
  refine goB 3 ?_
  all_goals (refine WC.sr ?_)
  all_goals (refine WL.step (ok_loadN (fun w => Tryz.isAgg74 w) (fun w => Tryz.sizeOf74 w) rfl rfl (by exact At.of_block hb1)) rfl rfl rfl ?_)
  all_goals (refine WL.call (vs := [_]) rfl (fun a w => Tryz.call56 a w) rfl (kx _ hx1) rfl rfl rfl ?_
             rintro _ h2 ⟨hgv, hx2⟩
             obtain ⟨vF, vE, rfl⟩ := gives_u hgv)
  all_goals (refine Go ?_)
  all_goals (refine WC.sub [(2, _), (3, _)] ⟨rfl, rfl, trivial⟩ ?_)
  all_goals (refine WC.ret ?_)
  all_goals (repeat' (with_reducible first | refine thenP_r ?_ | refine blockP_r ?_))
  all_goals (refine retP_2 _ _ ⟨rfl, rfl, trivial⟩ ?_)
  all_goals (exact DoR.from ⟨hgv, (hd.ext0 (hx1.trans hx2)).up (by omega) (by omega), fs_no hx2⟩ hx1)
  skip))
  all_goals (first | (fail_if_success refine goB 4 ?_) | (
  refine goB 4 ?_
  all_goals (refine WC.skip ?_)
  skip))
  all_goals (refine Gn ?_)
  all_goals (refine WC.sr ?_)
  all_goals (refine WL.step (ok_loadN (fun w => Tryz.isAgg74 w) (fun w => Tryz.sizeOf74 w) rfl rfl (by assumption)) rfl rfl rfl ?_)
  all_goals (fail "no contract for call of (remuda/rewrite.job).prepare at 5.1")
  all_goals (refine Go ?_)
  all_goals (refine WC.sub [(2, _), (3, _)] ⟨rfl, rfl, trivial⟩ ?_)
  all_goals (refine WC.ret ?_)
  all_goals (repeat' (with_reducible first | refine thenP_r ?_ | refine blockP_r ?_))
  all_goals (refine retP_2 _ _ ⟨rfl, rfl, trivial⟩ ?_)
  all_goals (exact DoR.from ⟨hgv, (hd.ext0 (hx1.trans hx2)).up (by omega) (by omega), fs_no hx2⟩ hx1)
  skip))
  all_goals (first | (fail_if_success refine goB 2 ?_) | (
  refine goB 2 ?_
  all_goals (refine WC.sr ?_)
  all_goals (refine Go ?_)
  all_goals (refine goC 5 6 ?_ ?_ <;> first | exact ⟨⟩ | refine Hb.mk fun hb => ?_ | skip)
  all_goals (first | (fail_if_success refine goB 6 ?_) | (
  refine goB 6 ?_
  all_goals (refine WC.seq ?_)
  all_goals (refine WC.sr ?_)
  all_goals (refine Go ?_)
  all_goals (refine WC.sub [(1, _), (7, _), (32, _)] ⟨rfl, rfl, rfl, trivial⟩ ?_)
  all_goals (refine goC 7 8 ?_ ?_ <;> first | exact ⟨⟩ | refine Hb.mk fun hb => ?_ | skip)
  all_goals (first | (fail_if_success refine goB 7 ?_) | (
  refine goB 7 ?_
  all_goals (refine WC.skip ?_)
  skip))
  all_goals (first | (fail_if_success refine goB 8 ?_) | (
  refine goB 8 ?_
  all_goals (refine WC.region ?_)
  all_goals (refine Go ?_)
  skip))
  all_goals (refine Gn ?_)
  all_goals (refine goC 9 10 ?_ ?_ <;> first | exact ⟨⟩ | refine Hb.mk fun hb => ?_ | skip)
  all_goals (first | (fail_if_success refine goB 10 ?_) | (
  refine goB 10 ?_
  all_goals (refine WC.sr ?_)
  all_goals (refine Go ?_)
  all_goals (refine goC 15 16 ?_ ?_ <;> first | exact ⟨⟩ | refine Hb.mk fun hb => ?_ | skip)
  all_goals (first | (fail_if_success refine goB 15 ?_) | (
  refine goB 15 ?_
  all_goals (refine WC.sr ?_)
  all_goals (refine Go ?_)
  all_goals (refine WL.step (ok_loadN (fun w => Tryz.isAgg27 w) (fun w => Tryz.sizeOf27 w) rfl rfl (by assumption)) rfl rfl rfl ?_)
  all_goals (refine WL.stepR (okE_buildSlice (vs := [_]) (cs := [_, _, _, _, _, _, _, _, _, _]) (fun | [.agg ⟨[a0, a1, a2, a3, a4, a5, a6, a7, a8, a9]⟩] => [a0, a1, a2, a3, a4, a5, a6, a7, a8, a9] | _ => []) Tryz.underlying36 rfl rfl (by kernel_rfl)) rfl rfl rfl ?_
             rintro _ h1 ⟨b1, rfl, hg1, hb1, hx1⟩)
  all_goals (refine Go ?_)
  all_goals (refine WC.sub [(2, _), (3, _)] ⟨rfl, rfl, trivial⟩ ?_)
  all_goals (refine WC.ret ?_)
  all_goals (repeat' (with_reducible first | refine thenP_r ?_ | refine blockP_r ?_))
  all_goals (refine retP_2 _ _ ⟨rfl, rfl, trivial⟩ ?_)
  all_goals (exact DoR.from ⟨hgv, (hd.ext0 (hx1.trans hx2)).up (by omega) (by omega), fs_no hx2⟩ hx1)
  skip))
  all_goals (first | (fail_if_success refine goB 16 ?_) | (
  refine goB 16 ?_
  all_goals (refine WC.sr ?_)
  all_goals (refine Go ?_)
  all_goals (refine WC.sub [(1, _), (53, _)] ⟨rfl, rfl, trivial⟩ ?_)
  all_goals (refine goC 17 18 ?_ ?_ <;> first | exact ⟨⟩ | refine Hb.mk fun hb => ?_ | skip)
  all_goals (first | (fail_if_success refine goB 18 ?_) | (
  refine goB 18 ?_
  all_goals (refine WC.skip ?_)
  skip))
  skip))
  skip))
  skip))
  skip))
  all_goals (refine Gn ?_)
  all_goals (try (refine Br.mk (i := 1000) ?_))
  all_goals (refine Gn ?_)
  all_goals (refine WC.seq ?_)
  all_goals (refine WC.drawE fol (by kernel_rfl) ?_)
  all_goals (refine WQ.stepE (ok_fieldAddr rfl Tryz.underlying74 rfl (fun w => Tryz.sizeOf27 w)) rfl rfl rfl ?_)
  all_goals (refine WQ.stepE (ok_loadN (fun w => Tryz.isAgg27 w) (fun w => Tryz.sizeOf27 w) rfl rfl (by assumption)) rfl rfl rfl ?_)
  all_goals (refine WQ.stepE (ok_loadN (fun w => Tryz.isAgg74 w) (fun w => Tryz.sizeOf74 w) rfl rfl (by assumption)) rfl rfl rfl ?_)
  all_goals (fail "no contract for call of (remuda/rewrite.job).entry at 20.3")
  all_goals (fail "no contract for call of remuda/rewrite.alone at 20.4")
  all_goals (refine WQ.stepE (ok_extract rfl rfl) rfl rfl rfl ?_)
  all_goals (refine WQ.stepE (ok_extract rfl rfl) rfl rfl rfl ?_)
  all_goals (refine WQ.stepE (ok_assign rfl) rfl rfl rfl ?_)
  all_goals (refine WQ.stepE (ok_assign rfl) rfl rfl rfl ?_)
  all_goals (refine WQ.nil ?_)
  all_goals (refine Gn ?_)
  all_goals (refine WC.sub [(2, _), (3, _)] ⟨rfl, rfl, trivial⟩ ?_)
  all_goals (refine WC.ret ?_)
  all_goals (repeat' (with_reducible first | refine thenP_r ?_ | refine blockP_r ?_))
  all_goals (refine retP_2 _ _ ⟨rfl, rfl, trivial⟩ ?_)
  all_goals (exact DoR.from ⟨hgv, (hd.ext0 (hx1.trans hx2)).up (by omega) (by omega), fs_no hx2⟩ hx1)
set_option maxHeartbeats 2000000 in
set_option maxRecDepth 100000 in
theorem do_80b (k : JH h0 h B c b m1 m2 s f (.slice ss sn sc) spec) (hk : f.kind = 80) (hn : f.name = [] ∨ kn = false) : CallsH Tryz.prog 30 ⟨[.agg ⟨jC f b (.slice ss sn sc) most jd kn⟩]⟩ h (DoR h0 h B c b m1 m2 (preA s spec most f.pl)) := by
  have kx := fun g (x : Ext No h g) => prep24 (most := most) (jd := jd) (kn := kn) (k.ext0 x) hk
  have hn2 : f.name = [] ∨ ¬ f.name = [] := Classical.em _
  obtain ⟨⟨e1, _⟩, ⟨e2, _⟩, ⟨e3, _⟩, e4, _⟩ := k.f.now
  clear k
  generalize hP : preA s spec most f.pl = P at *
  clear hP
  obtain ⟨fk, w, n, p, t, vo, o, vf, fs, vs, rs, vp, ps, mx⟩ := f
  dsimp only at e1 e2 e3 e4 hk hn hn2
  subst hk
  obtain ⟨_, _, rfl, _⟩ := e1
  obtain ⟨_, _, rfl, _⟩ := e2
  obtain ⟨_, _, rfl, _⟩ := e3
  obtain ⟨_, _, rfl, _⟩ := e4
  dsimp only [jC, Fm.cells, List.cons_append, List.nil_append, ptE] at kx ⊢
  rcases hn2 with rfl | hn2
  all_goals cases kn
  all_goals first | (exfalso; rcases hn with hn | hn; exact hn2 hn; cases hn; done) | skip
  all_goals
    refine calls [(0, _)] Tryz.func30 rfl Tryz.ntmps30 rfl ⟨rfl, trivial⟩ ?_
    all_goals (refine WC.sr ?_)
    all_goals (refine WL.stepR (okE_box rfl) rfl rfl rfl ?_
               rintro _ h1 ⟨b1, rfl, hg1, hb1, hx1⟩)
    all_goals (refine Go ?_)
    all_goals (refine WC.seq ?_)
    all_goals (refine WC.sr ?_)
    all_goals (refine Go ?_)
    all_goals (refine WL.step (ok_load (fun w => Tryz.isAgg5 w) rfl (by first | assumption | exact cell_blk (by assumption) rfl)) rfl rfl rfl ?_)
    all_goals (refine Gn ?_)
    all_goals (refine WC.sub [(1, _), (7, _)] ⟨rfl, rfl, trivial⟩ ?_)
    all_goals (refine WC.block ?_)
    all_goals (refine WC.sr ?_)
    all_goals (refine Go ?_)
    all_goals (refine goC 1 2 ?_ ?_ <;> first | exact ⟨⟩ | refine Hb.mk fun hb => ?_ | skip)
    all_goals (first | (fail_if_success refine goB 1 ?_) | (
    refine goB 1 ?_
    all_goals (refine WC.seq ?_)
    all_goals (refine WC.sr ?_)
    all_goals (refine Go ?_)
    all_goals (refine WL.step (ok_load (fun w => Tryz.isAgg9 w) rfl (by first | assumption | exact cell_blk (by assumption) rfl)) rfl rfl rfl ?_)
    all_goals (refine Go ?_)
    all_goals (refine goP 14 ?_ ?_ <;> first | exact ⟨⟩ | refine Hb.mk fun hb => ?_ | skip)
    all_goals (refine Gg ?_)
    all_goals (first | (refine WL.pass rfl rfl rfl ?_) | (refine WL.step (ok_load (fun w => Tryz.isAgg4 w) rfl (by first | assumption | exact cell_blk (by assumption) rfl)) rfl rfl rfl ?_))
    all_goals (refine Go ?_)
    all_goals (refine WC.sub [(1, _), (17, _)] ⟨rfl, rfl, trivial⟩ ?_)
    all_goals (refine goC 3 4 ?_ ?_ <;> first | exact ⟨⟩ | refine Hb.mk fun hb => ?_ | skip)
    all_goals (first | (fail_if_success refine goB 4 ?_) | (
    refine goB 4 ?_
    all_goals (refine WC.skip ?_)
    skip))
    all_goals (refine Gn ?_)
    all_goals (refine WC.sr ?_)
    all_goals (refine WL.step (ok_loadN (fun w => Tryz.isAgg74 w) (fun w => Tryz.sizeOf74 w) rfl rfl (by exact At.of_block hb1)) rfl rfl rfl ?_)
    all_goals (refine WL.call (vs := [_]) rfl (fun a w => Tryz.call57 a w) rfl (kx _ hx1) rfl rfl rfl ?_
               rintro _ h2 ⟨hgv, hd2, hx2⟩
               obtain ⟨vF, vE, rfl⟩ := gives_u hgv)
    all_goals (refine Go ?_)
    all_goals (refine WC.sub [(2, _), (3, _)] ⟨rfl, rfl, trivial⟩ ?_)
    all_goals (refine WC.ret ?_)
    all_goals (repeat' (with_reducible first | refine thenP_r ?_ | refine blockP_r ?_))
    all_goals (refine retP_2 _ _ ⟨rfl, rfl, trivial⟩ ?_)
    all_goals (exact DoR.from ⟨hgv, hd2, hx2⟩ hx1)
    skip))
    all_goals (first | (fail_if_success refine goB 2 ?_) | (
    refine goB 2 ?_
    all_goals (refine WC.sr ?_)
    all_goals (refine Go ?_)
    all_goals (refine goC 5 6 ?_ ?_ <;> first | exact ⟨⟩ | refine Hb.mk fun hb => ?_ | skip)
    all_goals (first | (fail_if_success refine goB 6 ?_) | (
    refine goB 6 ?_
    all_goals (refine WC.seq ?_)
    all_goals (refine WC.sr ?_)
    all_goals (refine Go ?_)
    all_goals (refine WC.sub [(1, _), (7, _), (32, _)] ⟨rfl, rfl, rfl, trivial⟩ ?_)
    all_goals (refine goC 7 8 ?_ ?_ <;> first | exact ⟨⟩ | refine Hb.mk fun hb => ?_ | skip)
    all_goals (first | (fail_if_success refine goB 7 ?_) | (
    refine goB 7 ?_
    all_goals (refine WC.skip ?_)
    skip))
    all_goals (first | (fail_if_success refine goB 8 ?_) | (
    refine goB 8 ?_
    all_goals (refine WC.region ?_)
    all_goals (refine Go ?_)
    skip))
    all_goals (refine Gn ?_)
    all_goals (refine goC 9 10 ?_ ?_ <;> first | exact ⟨⟩ | refine Hb.mk fun hb => ?_ | skip)
    all_goals (first | (fail_if_success refine goB 10 ?_) | (
    refine goB 10 ?_
    all_goals (refine WC.sr ?_)
    all_goals (refine Go ?_)
    all_goals (refine goC 15 16 ?_ ?_ <;> first | exact ⟨⟩ | refine Hb.mk fun hb => ?_ | skip)
    all_goals (first | (fail_if_success refine goB 15 ?_) | (
    refine goB 15 ?_
    all_goals (refine WC.sr ?_)
    all_goals (refine Go ?_)
    all_goals (refine WL.step (ok_loadN (fun w => Tryz.isAgg27 w) (fun w => Tryz.sizeOf27 w) rfl rfl (by assumption)) rfl rfl rfl ?_)
    all_goals (refine WL.stepR (okE_buildSlice (vs := [_]) (cs := [_, _, _, _, _, _, _, _, _, _]) (fun | [.agg ⟨[a0, a1, a2, a3, a4, a5, a6, a7, a8, a9]⟩] => [a0, a1, a2, a3, a4, a5, a6, a7, a8, a9] | _ => []) Tryz.underlying36 rfl rfl (by kernel_rfl)) rfl rfl rfl ?_
               rintro _ h1 ⟨b1, rfl, hg1, hb1, hx1⟩)
    all_goals (refine Go ?_)
    all_goals (refine WC.sub [(2, _), (3, _)] ⟨rfl, rfl, trivial⟩ ?_)
    all_goals (refine WC.ret ?_)
    all_goals (repeat' (with_reducible first | refine thenP_r ?_ | refine blockP_r ?_))
    all_goals (refine retP_2 _ _ ⟨rfl, rfl, trivial⟩ ?_)
    all_goals (exact DoR.from ⟨hgv, hd2, hx2⟩ hx1)
    skip))
    all_goals (first | (fail_if_success refine goB 16 ?_) | (
    refine goB 16 ?_
    all_goals (refine WC.sr ?_)
    all_goals (refine Go ?_)
    all_goals (refine WC.sub [(1, _), (53, _)] ⟨rfl, rfl, trivial⟩ ?_)
    all_goals (refine goC 17 18 ?_ ?_ <;> first | exact ⟨⟩ | refine Hb.mk fun hb => ?_ | skip)
    all_goals (first | (fail_if_success refine goB 18 ?_) | (
    refine goB 18 ?_
    all_goals (refine WC.skip ?_)
    skip))
    skip))
    skip))
    skip))
    skip))
    all_goals (refine Gn ?_)
    all_goals (try (refine Br.mk (i := 1000) ?_))
    all_goals (refine Gn ?_)
    all_goals (refine WC.seq ?_)
    all_goals (refine WC.drawE fol (by kernel_rfl) ?_)
    all_goals (refine WQ.stepE (ok_fieldAddr rfl Tryz.underlying74 rfl (fun w => Tryz.sizeOf27 w)) rfl rfl rfl ?_)
    all_goals (refine WQ.stepE (ok_loadN (fun w => Tryz.isAgg27 w) (fun w => Tryz.sizeOf27 w) rfl rfl (by assumption)) rfl rfl rfl ?_)
    all_goals (refine WQ.stepE (ok_loadN (fun w => Tryz.isAgg74 w) (fun w => Tryz.sizeOf74 w) rfl rfl (by assumption)) rfl rfl rfl ?_)
    all_goals (fail "no contract for call of (remuda/rewrite.job).entry at 20.3")
    all_goals (fail "no contract for call of remuda/rewrite.alone at 20.4")
    all_goals (refine WQ.stepE (ok_extract rfl rfl) rfl rfl rfl ?_)
    all_goals (refine WQ.stepE (ok_extract rfl rfl) rfl rfl rfl ?_)
    all_goals (refine WQ.stepE (ok_assign rfl) rfl rfl rfl ?_)
    all_goals (refine WQ.stepE (ok_assign rfl) rfl rfl rfl ?_)
    all_goals (refine WQ.nil ?_)
    all_goals (refine Gn ?_)
    all_goals (refine WC.sub [(2, _), (3, _)] ⟨rfl, rfl, trivial⟩ ?_)
    all_goals (refine WC.ret ?_)
    all_goals (repeat' (with_reducible first | refine thenP_r ?_ | refine blockP_r ?_))
    all_goals (refine retP_2 _ _ ⟨rfl, rfl, trivial⟩ ?_)
    all_goals (exact DoR.from ⟨hgv, hd2, hx2⟩ hx1)
set_option maxHeartbeats 2000000 in
set_option maxRecDepth 100000 in
theorem do_use (k : JH h0 h B c b m1 m2 s f (.slice ss sn sc) spec) (hk : f.kind = 66 ∨ (f.kind = 68 ∧ f.what = 83)) : CallsH Tryz.prog 30 ⟨[.agg ⟨jC f b (.slice ss sn sc) most jd kn⟩]⟩ h (DoR h0 h B c b m1 m2 (useA s (jd, kn) spec most f.pl)) := by
  have kx := fun g (x : Ext No h g) => use24 (most := most) (jd := jd) (kn := kn) (k.ext0 x)
  have ks := fun g => stmt24 (h := g) (b := b) (ss := ss) (sn := sn) (sc := sc) (most := most) (jd := jd) (kn := kn) k.f.now
  obtain ⟨⟨e1, _⟩, ⟨e2, _⟩, ⟨e3, _⟩, e4, _⟩ := k.f.now
  clear k
  generalize hP : useA s (jd, kn) spec most f.pl = P at *
  clear hP
  obtain ⟨fk, w, n, p, t, vo, o, vf, fs, vs, rs, vp, ps, mx⟩ := f
  dsimp only at e1 e2 e3 e4 hk ks
  obtain ⟨_, _, rfl, _⟩ := e1
  obtain ⟨_, _, rfl, _⟩ := e2
  obtain ⟨_, _, rfl, _⟩ := e3
  obtain ⟨_, _, rfl, _⟩ := e4
  dsimp only [jC, Fm.cells, List.cons_append, List.nil_append, ptE] at kx ks ⊢
  rcases hk with rfl | ⟨rfl, rfl⟩
  all_goals
    refine calls [(0, _)] Tryz.func30 rfl Tryz.ntmps30 rfl ⟨rfl, trivial⟩ ?_
    all_goals (refine WC.sr ?_)
    all_goals (refine WL.stepR (okE_box rfl) rfl rfl rfl ?_
               rintro _ h1 ⟨b1, rfl, hg1, hb1, hx1⟩)
    all_goals (refine Go ?_)
    all_goals (refine WC.seq ?_)
    all_goals (refine WC.sr ?_)
    all_goals (refine Go ?_)
    all_goals (refine WL.step (ok_load (fun w => Tryz.isAgg5 w) rfl (by first | assumption | exact cell_blk (by assumption) rfl)) rfl rfl rfl ?_)
    all_goals (refine Gn ?_)
    all_goals (refine WC.sub [(1, _), (7, _)] ⟨rfl, rfl, trivial⟩ ?_)
    all_goals (refine WC.block ?_)
    all_goals (refine WC.sr ?_)
    all_goals (refine Go ?_)
    all_goals (refine goC 1 2 ?_ ?_ <;> first | exact ⟨⟩ | refine Hb.mk fun hb => ?_ | skip)
    all_goals (first | (fail_if_success refine goB 1 ?_) | (
    refine goB 1 ?_
    all_goals (refine WC.seq ?_)
    all_goals (refine WC.sr ?_)
    all_goals (refine Go ?_)
    all_goals (refine WL.step (ok_load (fun w => Tryz.isAgg9 w) rfl (by first | assumption | exact cell_blk (by assumption) rfl)) rfl rfl rfl ?_)
    all_goals (refine Go ?_)
    all_goals (refine goP 14 ?_ ?_ <;> first | exact ⟨⟩ | refine Hb.mk fun hb => ?_ | skip)
    all_goals (refine Gg ?_)
    all_goals (first | (refine WL.pass rfl rfl rfl ?_) | (refine WL.step (ok_load (fun w => Tryz.isAgg4 w) rfl (by first | assumption | exact cell_blk (by assumption) rfl)) rfl rfl rfl ?_))
    all_goals (refine Go ?_)
    all_goals (refine WC.sub [(1, _), (17, _)] ⟨rfl, rfl, trivial⟩ ?_)
    all_goals (refine goC 3 4 ?_ ?_ <;> first | exact ⟨⟩ | refine Hb.mk fun hb => ?_ | skip)
    all_goals (first | (fail_if_success refine goB 4 ?_) | (
    refine goB 4 ?_
    all_goals (refine WC.skip ?_)
    skip))
    all_goals (refine Gn ?_)
    all_goals (refine WC.sr ?_)
    all_goals (refine WL.step (ok_loadN (fun w => Tryz.isAgg74 w) (fun w => Tryz.sizeOf74 w) rfl rfl (by assumption)) rfl rfl rfl ?_)
    all_goals (fail "no contract for call of (remuda/rewrite.job).prepare at 5.1")
    all_goals (refine Go ?_)
    all_goals (refine WC.sub [(2, _), (3, _)] ⟨rfl, rfl, trivial⟩ ?_)
    all_goals (refine WC.ret ?_)
    all_goals (repeat' (with_reducible first | refine thenP_r ?_ | refine blockP_r ?_))
    all_goals (refine retP_2 _ _ ⟨rfl, rfl, trivial⟩ ?_)
    all_goals (first | exact DoR.from ⟨hgv, hd2, hx2⟩ hx1 | exact DoR.from ⟨hgv, hd2, hx3⟩ hX2)
    skip))
    all_goals (first | (fail_if_success refine goB 2 ?_) | (
    refine goB 2 ?_
    all_goals (refine WC.sr ?_)
    all_goals (refine Go ?_)
    all_goals (refine goC 5 6 ?_ ?_ <;> first | exact ⟨⟩ | refine Hb.mk fun hb => ?_ | skip)
    all_goals (first | (fail_if_success refine goB 5 ?_) | (
    refine goB 5 ?_
    all_goals (refine WC.sr ?_)
    all_goals (refine WL.step (ok_loadN (fun w => Tryz.isAgg74 w) (fun w => Tryz.sizeOf74 w) rfl rfl (by exact At.of_block hb1)) rfl rfl rfl ?_)
    all_goals (refine WL.call (vs := [_]) rfl (fun a w => Tryz.call58 a w) rfl (kx _ hx1) rfl rfl rfl ?_
               rintro _ h2 ⟨hgv, hd2, hx2⟩
               obtain ⟨vF, vE, rfl⟩ := gives_u hgv)
    all_goals (refine Go ?_)
    all_goals (refine WC.sub [(2, _), (3, _)] ⟨rfl, rfl, trivial⟩ ?_)
    all_goals (refine WC.ret ?_)
    all_goals (repeat' (with_reducible first | refine thenP_r ?_ | refine blockP_r ?_))
    all_goals (refine retP_2 _ _ ⟨rfl, rfl, trivial⟩ ?_)
    all_goals (first | exact DoR.from ⟨hgv, hd2, hx2⟩ hx1 | exact DoR.from ⟨hgv, hd2, hx3⟩ hX2)
    skip))
    all_goals (first | (fail_if_success refine goB 6 ?_) | (
    refine goB 6 ?_
    all_goals (refine WC.seq ?_)
    all_goals (refine WC.sr ?_)
    all_goals (refine Go ?_)
    all_goals (refine WC.sub [(1, _), (7, _), (32, _)] ⟨rfl, rfl, rfl, trivial⟩ ?_)
    all_goals (refine goC 7 8 ?_ ?_ <;> first | exact ⟨⟩ | refine Hb.mk fun hb => ?_ | skip)
    all_goals (first | (fail_if_success refine goB 7 ?_) | (
    refine goB 7 ?_
    all_goals (refine WC.skip ?_)
    skip))
    all_goals (first | (fail_if_success refine goB 8 ?_) | (
    refine goB 8 ?_
    all_goals (refine WC.region ?_)
    all_goals (refine Go ?_)
    skip))
    all_goals (refine Gn ?_)
    all_goals (refine goC 9 10 ?_ ?_ <;> first | exact ⟨⟩ | refine Hb.mk fun hb => ?_ | skip)
    all_goals (first | (fail_if_success refine goB 9 ?_) | (
    refine goB 9 ?_
    all_goals (refine WC.seq ?_)
    all_goals (refine WC.sr ?_)
    all_goals (refine WL.step (ok_loadN (fun w => Tryz.isAgg74 w) (fun w => Tryz.sizeOf74 w) rfl rfl (by exact At.of_block hb1)) rfl rfl rfl ?_)
    all_goals (refine WL.call (vs := [_]) rfl (fun a w => Tryz.call59 a w) rfl (ks _) rfl rfl rfl ?_
               rintro _ h2 ⟨rfl, hx2⟩)
    all_goals (have hb12 := hx2.obj hb1 nos
               have hX2 := hx1.trans hx2)
    all_goals (refine Go ?_)
    all_goals (refine WC.sub [(1, _), (37, _)] ⟨rfl, rfl, trivial⟩ ?_)
    all_goals (refine goC 11 12 ?_ ?_ <;> first | exact ⟨⟩ | refine Hb.mk fun hb => ?_ | skip)
    all_goals (first | (fail_if_success refine goB 11 ?_) | (
    refine goB 11 ?_
    all_goals (refine WC.exit ?_)
    all_goals (repeat' (with_reducible first | refine thenP_x ?_ | refine blockP_miss rfl ?_ | refine blockP_hit ?_ | refine blockP_n ?_ | refine thenP_n ?_))
    all_goals (refine Br.out (i := 1000) ?_)
    skip))
    all_goals (first | (fail_if_success refine goB 12 ?_) | (
    refine goB 12 ?_
    all_goals (refine WC.skip ?_)
    skip))
    all_goals (refine Gn ?_)
    all_goals (first | (refine Br.keep ?_) | (refine WC.seq ?_))
    all_goals (first | (refine Br.keep ?_) | (refine WC.sr ?_))
    all_goals (refine Go ?_)
    all_goals (first | (refine Br.keep ?_) | (refine WL.step (ok_load (fun w => Tryz.isAgg5 w) rfl (by first | exact cell_blk hb12 rfl | assumption | exact cell_blk (by assumption) rfl)) rfl rfl rfl ?_))
    all_goals (refine Go ?_)
    all_goals (first | (refine Br.keep ?_) | (refine WC.sub [(1, _), (41, _)] ⟨rfl, rfl, trivial⟩ ?_))
    all_goals (first | (refine Br.keep ?_) | (refine goC 13 14 ?_ ?_ <;> first | exact ⟨⟩ | refine Hb.mk fun hb => ?_ | skip))
    all_goals (first | (fail_if_success refine goB 14 ?_) | (
    refine goB 14 ?_
    all_goals (refine WC.skip ?_)
    skip))
    all_goals (refine Gn ?_)
    all_goals (first | (refine Br.keep ?_) | (refine WC.sr ?_))
    all_goals (first | (refine Br.keep ?_) | (refine WL.step (ok_loadN (fun w => Tryz.isAgg74 w) (fun w => Tryz.sizeOf74 w) rfl rfl (by exact At.of_block hb12)) rfl rfl rfl ?_))
    all_goals (first
                 | (refine Br.keep ?_)
                 | (refine WL.call (vs := [_]) rfl (fun a w => Tryz.call58 a w) rfl (kx _ hX2) rfl rfl rfl ?_
                    rintro _ h3 ⟨hgv, hd2, hx3⟩
                    obtain ⟨vF, vE, rfl⟩ := gives_u hgv))
    all_goals (refine Go ?_)
    all_goals (first | (refine Br.keep ?_) | (refine WC.sub [(2, _), (3, _)] ⟨rfl, rfl, trivial⟩ ?_))
    all_goals (first | (refine Br.keep ?_) | (refine WC.ret ?_))
    all_goals (first | (refine Br.keep ?_) | (repeat' (with_reducible first | refine thenP_r ?_ | refine blockP_r ?_)))
    all_goals (first | (refine Br.keep ?_) | (refine retP_2 _ _ ⟨rfl, rfl, trivial⟩ ?_))
    all_goals (first | (refine Br.keep ?_) | (first | exact DoR.from ⟨hgv, hd2, hx2⟩ hx1 | exact DoR.from ⟨hgv, hd2, hx3⟩ hX2))
    skip))
    all_goals (first | (fail_if_success refine goB 10 ?_) | (
    refine goB 10 ?_
    all_goals (refine WC.sr ?_)
    all_goals (refine Go ?_)
    all_goals (refine goC 15 16 ?_ ?_ <;> first | exact ⟨⟩ | refine Hb.mk fun hb => ?_ | skip)
    all_goals (first | (fail_if_success refine goB 15 ?_) | (
    refine goB 15 ?_
    all_goals (refine WC.sr ?_)
    all_goals (refine Go ?_)
    all_goals (refine WL.step (ok_loadN (fun w => Tryz.isAgg27 w) (fun w => Tryz.sizeOf27 w) rfl rfl (by assumption)) rfl rfl rfl ?_)
    all_goals (refine WL.stepR (okE_buildSlice (vs := [_]) (cs := [_, _, _, _, _, _, _, _, _, _]) (fun | [.agg ⟨[a0, a1, a2, a3, a4, a5, a6, a7, a8, a9]⟩] => [a0, a1, a2, a3, a4, a5, a6, a7, a8, a9] | _ => []) Tryz.underlying36 rfl rfl (by kernel_rfl)) rfl rfl rfl ?_
               rintro _ h1 ⟨b1, rfl, hg1, hb1, hx1⟩)
    all_goals (refine Go ?_)
    all_goals (refine WC.sub [(2, _), (3, _)] ⟨rfl, rfl, trivial⟩ ?_)
    all_goals (refine WC.ret ?_)
    all_goals (repeat' (with_reducible first | refine thenP_r ?_ | refine blockP_r ?_))
    all_goals (refine retP_2 _ _ ⟨rfl, rfl, trivial⟩ ?_)
    all_goals (first | exact DoR.from ⟨hgv, hd2, hx2⟩ hx1 | exact DoR.from ⟨hgv, hd2, hx3⟩ hX2)
    skip))
    all_goals (first | (fail_if_success refine goB 16 ?_) | (
    refine goB 16 ?_
    all_goals (refine WC.sr ?_)
    all_goals (refine Go ?_)
    all_goals (refine WC.sub [(1, _), (53, _)] ⟨rfl, rfl, trivial⟩ ?_)
    all_goals (refine goC 17 18 ?_ ?_ <;> first | exact ⟨⟩ | refine Hb.mk fun hb => ?_ | skip)
    all_goals (first | (fail_if_success refine goB 18 ?_) | (
    refine goB 18 ?_
    all_goals (refine WC.skip ?_)
    skip))
    skip))
    skip))
    skip))
    skip))
    all_goals (refine Gn ?_)
    all_goals (try (refine Br.mk (i := 1000) ?_))
    all_goals (refine Gn ?_)
    all_goals (refine WC.seq ?_)
    all_goals (refine WC.drawE fol (by kernel_rfl) ?_)
    all_goals (refine WQ.stepE (ok_fieldAddr rfl Tryz.underlying74 rfl (fun w => Tryz.sizeOf27 w)) rfl rfl rfl ?_)
    all_goals (refine WQ.stepE (ok_loadN (fun w => Tryz.isAgg27 w) (fun w => Tryz.sizeOf27 w) rfl rfl (by assumption)) rfl rfl rfl ?_)
    all_goals (refine WQ.stepE (ok_loadN (fun w => Tryz.isAgg74 w) (fun w => Tryz.sizeOf74 w) rfl rfl (by assumption)) rfl rfl rfl ?_)
    all_goals (fail "no contract for call of (remuda/rewrite.job).entry at 20.3")
    all_goals (fail "no contract for call of remuda/rewrite.alone at 20.4")
    all_goals (refine WQ.stepE (ok_extract rfl rfl) rfl rfl rfl ?_)
    all_goals (refine WQ.stepE (ok_extract rfl rfl) rfl rfl rfl ?_)
    all_goals (refine WQ.stepE (ok_assign rfl) rfl rfl rfl ?_)
    all_goals (refine WQ.stepE (ok_assign rfl) rfl rfl rfl ?_)
    all_goals (refine WQ.nil ?_)
    all_goals (refine Gn ?_)
    all_goals (refine WC.sub [(2, _), (3, _)] ⟨rfl, rfl, trivial⟩ ?_)
    all_goals (refine WC.ret ?_)
    all_goals (repeat' (with_reducible first | refine thenP_r ?_ | refine blockP_r ?_))
    all_goals (refine retP_2 _ _ ⟨rfl, rfl, trivial⟩ ?_)
    all_goals (first | exact DoR.from ⟨hgv, hd2, hx2⟩ hx1 | exact DoR.from ⟨hgv, hd2, hx3⟩ hX2)
set_option maxHeartbeats 2000000 in
set_option maxRecDepth 100000 in
theorem do_67 (k : JH h0 h B c b m1 m2 s f (.slice ss sn sc) spec) (hk : f.kind = 67 ∧ f.what = 83) : CallsH Tryz.prog 30 ⟨[.agg ⟨jC f b (.slice ss sn sc) most jd kn⟩]⟩ h (DoR h0 h B c b m1 m2 (s, [], [(10, false, [], [], [(false, f.name, 0, ())], [], [], three)])) := by
  have kx := fun g => forget24 (h := g) (b := b) (ss := ss) (sn := sn) (sc := sc) (most := most) (jd := jd) (kn := kn) k.f.now
  have ks := fun g => stmt24 (h := g) (b := b) (ss := ss) (sn := sn) (sc := sc) (most := most) (jd := jd) (kn := kn) k.f.now
  obtain ⟨⟨e1, _⟩, ⟨e2, _⟩, ⟨e3, _⟩, e4, _⟩ := k.f.now
  have hd := k.d
  have hcc := k.cc
  clear k
  obtain ⟨fk, w, n, p, t, vo, o, vf, fs, vs, rs, vp, ps, mx⟩ := f
  dsimp only at e1 e2 e3 e4 hk ks kx
  obtain ⟨rfl, rfl⟩ := hk
  obtain ⟨_, _, rfl, _⟩ := e1
  obtain ⟨_, _, rfl, _⟩ := e2
  obtain ⟨_, _, rfl, _⟩ := e3
  obtain ⟨_, _, rfl, _⟩ := e4
  dsimp only [jC, Fm.cells, List.cons_append, List.nil_append, ptE] at kx ks ⊢
  refine calls [(0, _)] Tryz.func30 rfl Tryz.ntmps30 rfl ⟨rfl, trivial⟩ ?_
  all_goals (refine WC.sr ?_)
  all_goals (refine WL.stepR (okE_box rfl) rfl rfl rfl ?_
             rintro _ h1 ⟨b1, rfl, hg1, hb1, hx1⟩)
  all_goals (refine Go ?_)
  all_goals (refine WC.seq ?_)
  all_goals (refine WC.sr ?_)
  all_goals (refine Go ?_)
  all_goals (refine WL.step (ok_load (fun w => Tryz.isAgg5 w) rfl (by first | assumption | exact cell_blk (by assumption) rfl)) rfl rfl rfl ?_)
  all_goals (refine Gn ?_)
  all_goals (refine WC.sub [(1, _), (7, _)] ⟨rfl, rfl, trivial⟩ ?_)
  all_goals (refine WC.block ?_)
  all_goals (refine WC.sr ?_)
  all_goals (refine Go ?_)
  all_goals (refine goC 1 2 ?_ ?_ <;> first | exact ⟨⟩ | refine Hb.mk fun hb => ?_ | skip)
  all_goals (first | (fail_if_success refine goB 1 ?_) | (
  refine goB 1 ?_
  all_goals (refine WC.seq ?_)
  all_goals (refine WC.sr ?_)
  all_goals (refine Go ?_)
  all_goals (refine WL.step (ok_load (fun w => Tryz.isAgg9 w) rfl (by first | assumption | exact cell_blk (by assumption) rfl)) rfl rfl rfl ?_)
  all_goals (refine Go ?_)
  all_goals (refine goP 14 ?_ ?_ <;> first | exact ⟨⟩ | refine Hb.mk fun hb => ?_ | skip)
  all_goals (refine Gg ?_)
  all_goals (first | (refine WL.pass rfl rfl rfl ?_) | (refine WL.step (ok_load (fun w => Tryz.isAgg4 w) rfl (by first | assumption | exact cell_blk (by assumption) rfl)) rfl rfl rfl ?_))
  all_goals (refine Go ?_)
  all_goals (refine WC.sub [(1, _), (17, _)] ⟨rfl, rfl, trivial⟩ ?_)
  all_goals (refine goC 3 4 ?_ ?_ <;> first | exact ⟨⟩ | refine Hb.mk fun hb => ?_ | skip)
  all_goals (first | (fail_if_success refine goB 4 ?_) | (
  refine goB 4 ?_
  all_goals (refine WC.skip ?_)
  skip))
  all_goals (refine Gn ?_)
  all_goals (refine WC.sr ?_)
  all_goals (refine WL.step (ok_loadN (fun w => Tryz.isAgg74 w) (fun w => Tryz.sizeOf74 w) rfl rfl (by assumption)) rfl rfl rfl ?_)
  all_goals (fail "no contract for call of (remuda/rewrite.job).prepare at 5.1")
  all_goals (refine Go ?_)
  all_goals (refine WC.sub [(2, _), (3, _)] ⟨rfl, rfl, trivial⟩ ?_)
  all_goals (refine WC.ret ?_)
  all_goals (repeat' (with_reducible first | refine thenP_r ?_ | refine blockP_r ?_))
  all_goals (refine retP_2 _ _ ⟨rfl, rfl, trivial⟩ ?_)
  all_goals (exact DoR.from ⟨⟨_, _, [], [e], rfl, ⟨Own.nil _ _ _, by simpa using ho3, by simp, by simp, by simp, fun x hx => by obtain rfl := List.mem_singleton.1 hx; exact hok h0, by simp [Value.ownBlock], hf3⟩, rfl, by simp [hpl]⟩, (hd.ext0 (hX2.trans hx3)).up (by omega) (by omega), fs_no hx3⟩ hX2)
  skip))
  all_goals (first | (fail_if_success refine goB 2 ?_) | (
  refine goB 2 ?_
  all_goals (refine WC.sr ?_)
  all_goals (refine Go ?_)
  all_goals (refine goC 5 6 ?_ ?_ <;> first | exact ⟨⟩ | refine Hb.mk fun hb => ?_ | skip)
  all_goals (first | (fail_if_success refine goB 6 ?_) | (
  refine goB 6 ?_
  all_goals (refine WC.seq ?_)
  all_goals (refine WC.sr ?_)
  all_goals (refine Go ?_)
  all_goals (refine WC.sub [(1, _), (7, _), (32, _)] ⟨rfl, rfl, rfl, trivial⟩ ?_)
  all_goals (refine goC 7 8 ?_ ?_ <;> first | exact ⟨⟩ | refine Hb.mk fun hb => ?_ | skip)
  all_goals (first | (fail_if_success refine goB 7 ?_) | (
  refine goB 7 ?_
  all_goals (refine WC.skip ?_)
  skip))
  all_goals (first | (fail_if_success refine goB 8 ?_) | (
  refine goB 8 ?_
  all_goals (refine WC.region ?_)
  all_goals (refine Go ?_)
  skip))
  all_goals (refine Gn ?_)
  all_goals (refine goC 9 10 ?_ ?_ <;> first | exact ⟨⟩ | refine Hb.mk fun hb => ?_ | skip)
  all_goals (first | (fail_if_success refine goB 9 ?_) | (
  refine goB 9 ?_
  all_goals (refine WC.seq ?_)
  all_goals (refine WC.sr ?_)
  all_goals (refine WL.step (ok_loadN (fun w => Tryz.isAgg74 w) (fun w => Tryz.sizeOf74 w) rfl rfl (by exact At.of_block hb1)) rfl rfl rfl ?_)
  all_goals (refine WL.call (vs := [_]) rfl (fun a w => Tryz.call59 a w) rfl (ks _) rfl rfl rfl ?_
             rintro _ h2 ⟨rfl, hx2⟩)
  all_goals (have hb12 := hx2.obj hb1 nos
             have hX2 := hx1.trans hx2)
  all_goals (refine Go ?_)
  all_goals (refine WC.sub [(1, _), (37, _)] ⟨rfl, rfl, trivial⟩ ?_)
  all_goals (refine goC 11 12 ?_ ?_ <;> first | exact ⟨⟩ | refine Hb.mk fun hb => ?_ | skip)
  all_goals (first | (fail_if_success refine goB 11 ?_) | (
  refine goB 11 ?_
  all_goals (refine WC.exit ?_)
  all_goals (repeat' (with_reducible first | refine thenP_x ?_ | refine blockP_miss rfl ?_ | refine blockP_hit ?_ | refine blockP_n ?_ | refine thenP_n ?_))
  all_goals (refine Br.out (i := 1000) ?_)
  skip))
  all_goals (first | (fail_if_success refine goB 12 ?_) | (
  refine goB 12 ?_
  all_goals (refine WC.skip ?_)
  skip))
  all_goals (refine Gn ?_)
  all_goals (first | (refine Br.keep ?_) | (refine WC.seq ?_))
  all_goals (first | (refine Br.keep ?_) | (refine WC.sr ?_))
  all_goals (refine Go ?_)
  all_goals (first | (refine Br.keep ?_) | (refine WL.step (ok_load (fun w => Tryz.isAgg5 w) rfl (by first | exact cell_blk hb12 rfl | assumption | exact cell_blk (by assumption) rfl)) rfl rfl rfl ?_))
  all_goals (refine Go ?_)
  all_goals (first | (refine Br.keep ?_) | (refine WC.sub [(1, _), (41, _)] ⟨rfl, rfl, trivial⟩ ?_))
  all_goals (first | (refine Br.keep ?_) | (refine goC 13 14 ?_ ?_ <;> first | exact ⟨⟩ | refine Hb.mk fun hb => ?_ | skip))
  all_goals (first | (fail_if_success refine goB 13 ?_) | (
  refine goB 13 ?_
  all_goals (refine WC.sr ?_)
  all_goals (refine WL.step (ok_loadN (fun w => Tryz.isAgg74 w) (fun w => Tryz.sizeOf74 w) rfl rfl (by exact At.of_block hb12)) rfl rfl rfl ?_)
  all_goals (refine WL.call (vs := [_]) rfl (fun a w => Tryz.call60 a w) rfl (kx _) rfl rfl rfl ?_
             rintro v3 h3 ⟨e, ho3, hok, hpl, hx3, hf3⟩)
  all_goals (refine Go ?_)
  all_goals (refine WC.sub [(2, _), (3, _)] ⟨rfl, rfl, trivial⟩ ?_)
  all_goals (refine WC.ret ?_)
  all_goals (repeat' (with_reducible first | refine thenP_r ?_ | refine blockP_r ?_))
  all_goals (refine retP_2 _ _ ⟨rfl, rfl, trivial⟩ ?_)
  all_goals (exact DoR.from ⟨⟨_, _, [], [e], rfl, ⟨Own.nil _ _ _, by simpa using ho3, by simp, by simp, by simp, fun x hx => by obtain rfl := List.mem_singleton.1 hx; exact hok h0, by simp [Value.ownBlock], hf3⟩, rfl, by simp [hpl]⟩, (hd.ext0 (hX2.trans hx3)).up (by omega) (by omega), fs_no hx3⟩ hX2)
  skip))
  all_goals (first | (fail_if_success refine goB 14 ?_) | (
  refine goB 14 ?_
  all_goals (refine WC.skip ?_)
  skip))
  all_goals (refine Gn ?_)
  all_goals (first | (refine Br.keep ?_) | (refine WC.sr ?_))
  all_goals (first | (refine Br.keep ?_) | (refine WL.step (ok_loadN (fun w => Tryz.isAgg74 w) (fun w => Tryz.sizeOf74 w) rfl rfl (by assumption)) rfl rfl rfl ?_))
  all_goals (first | (refine Br.keep ?_) | (fail "no contract for call of (remuda/rewrite.job).use at 13.1"))
  all_goals (refine Go ?_)
  all_goals (first | (refine Br.keep ?_) | (refine WC.sub [(2, _), (3, _)] ⟨rfl, rfl, trivial⟩ ?_))
  all_goals (first | (refine Br.keep ?_) | (refine WC.ret ?_))
  all_goals (first | (refine Br.keep ?_) | (repeat' (with_reducible first | refine thenP_r ?_ | refine blockP_r ?_)))
  all_goals (first | (refine Br.keep ?_) | (refine retP_2 _ _ ⟨rfl, rfl, trivial⟩ ?_))
  all_goals (first | (refine Br.keep ?_) | (exact DoR.from ⟨⟨_, _, [], [e], rfl, ⟨Own.nil _ _ _, by simpa using ho3, by simp, by simp, by simp, fun x hx => by obtain rfl := List.mem_singleton.1 hx; exact hok h0, by simp [Value.ownBlock], hf3⟩, rfl, by simp [hpl]⟩, (hd.ext0 (hX2.trans hx3)).up (by omega) (by omega), fs_no hx3⟩ hX2))
  skip))
  all_goals (first | (fail_if_success refine goB 10 ?_) | (
  refine goB 10 ?_
  all_goals (refine WC.sr ?_)
  all_goals (refine Go ?_)
  all_goals (refine goC 15 16 ?_ ?_ <;> first | exact ⟨⟩ | refine Hb.mk fun hb => ?_ | skip)
  all_goals (first | (fail_if_success refine goB 15 ?_) | (
  refine goB 15 ?_
  all_goals (refine WC.sr ?_)
  all_goals (refine Go ?_)
  all_goals (refine WL.step (ok_loadN (fun w => Tryz.isAgg27 w) (fun w => Tryz.sizeOf27 w) rfl rfl (by assumption)) rfl rfl rfl ?_)
  all_goals (refine WL.stepR (okE_buildSlice (vs := [_]) (cs := [_, _, _, _, _, _, _, _, _, _]) (fun | [.agg ⟨[a0, a1, a2, a3, a4, a5, a6, a7, a8, a9]⟩] => [a0, a1, a2, a3, a4, a5, a6, a7, a8, a9] | _ => []) Tryz.underlying36 rfl rfl (by kernel_rfl)) rfl rfl rfl ?_
             rintro _ h1 ⟨b1, rfl, hg1, hb1, hx1⟩)
  all_goals (refine Go ?_)
  all_goals (refine WC.sub [(2, _), (3, _)] ⟨rfl, rfl, trivial⟩ ?_)
  all_goals (refine WC.ret ?_)
  all_goals (repeat' (with_reducible first | refine thenP_r ?_ | refine blockP_r ?_))
  all_goals (refine retP_2 _ _ ⟨rfl, rfl, trivial⟩ ?_)
  all_goals (exact DoR.from ⟨⟨_, _, [], [e], rfl, ⟨Own.nil _ _ _, by simpa using ho3, by simp, by simp, by simp, fun x hx => by obtain rfl := List.mem_singleton.1 hx; exact hok h0, by simp [Value.ownBlock], hf3⟩, rfl, by simp [hpl]⟩, (hd.ext0 (hX2.trans hx3)).up (by omega) (by omega), fs_no hx3⟩ hX2)
  skip))
  all_goals (first | (fail_if_success refine goB 16 ?_) | (
  refine goB 16 ?_
  all_goals (refine WC.sr ?_)
  all_goals (refine Go ?_)
  all_goals (refine WC.sub [(1, _), (53, _)] ⟨rfl, rfl, trivial⟩ ?_)
  all_goals (refine goC 17 18 ?_ ?_ <;> first | exact ⟨⟩ | refine Hb.mk fun hb => ?_ | skip)
  all_goals (first | (fail_if_success refine goB 18 ?_) | (
  refine goB 18 ?_
  all_goals (refine WC.skip ?_)
  skip))
  skip))
  skip))
  skip))
  skip))
  all_goals (refine Gn ?_)
  all_goals (try (refine Br.mk (i := 1000) ?_))
  all_goals (refine Gn ?_)
  all_goals (refine WC.seq ?_)
  all_goals (refine WC.drawE fol (by kernel_rfl) ?_)
  all_goals (refine WQ.stepE (ok_fieldAddr rfl Tryz.underlying74 rfl (fun w => Tryz.sizeOf27 w)) rfl rfl rfl ?_)
  all_goals (refine WQ.stepE (ok_loadN (fun w => Tryz.isAgg27 w) (fun w => Tryz.sizeOf27 w) rfl rfl (by assumption)) rfl rfl rfl ?_)
  all_goals (refine WQ.stepE (ok_loadN (fun w => Tryz.isAgg74 w) (fun w => Tryz.sizeOf74 w) rfl rfl (by assumption)) rfl rfl rfl ?_)
  all_goals (fail "no contract for call of (remuda/rewrite.job).entry at 20.3")
  all_goals (fail "no contract for call of remuda/rewrite.alone at 20.4")
  all_goals (refine WQ.stepE (ok_extract rfl rfl) rfl rfl rfl ?_)
  all_goals (refine WQ.stepE (ok_extract rfl rfl) rfl rfl rfl ?_)
  all_goals (refine WQ.stepE (ok_assign rfl) rfl rfl rfl ?_)
  all_goals (refine WQ.stepE (ok_assign rfl) rfl rfl rfl ?_)
  all_goals (refine WQ.nil ?_)
  all_goals (refine Gn ?_)
  all_goals (refine WC.sub [(2, _), (3, _)] ⟨rfl, rfl, trivial⟩ ?_)
  all_goals (refine WC.ret ?_)
  all_goals (repeat' (with_reducible first | refine thenP_r ?_ | refine blockP_r ?_))
  all_goals (refine retP_2 _ _ ⟨rfl, rfl, trivial⟩ ?_)
  all_goals (exact DoR.from ⟨⟨_, _, [], [e], rfl, ⟨Own.nil _ _ _, by simpa using ho3, by simp, by simp, by simp, fun x hx => by obtain rfl := List.mem_singleton.1 hx; exact hok h0, by simp [Value.ownBlock], hf3⟩, rfl, by simp [hpl]⟩, (hd.ext0 (hX2.trans hx3)).up (by omega) (by omega), fs_no hx3⟩ hX2)
set_option maxHeartbeats 2000000 in
set_option maxRecDepth 100000 in
theorem do_72 (k : JH h0 h B c b m1 m2 s f (.slice ss sn sc) spec) (hk : f.kind = 72) : CallsH Tryz.prog 30 ⟨[.agg ⟨jC f b (.slice ss sn sc) most jd kn⟩]⟩ h (DoR h0 h B c b m1 m2 (s, [f.pl], [])) := by
  have hf := k.f
  have hd := k.d
  have hcc := k.cc
  obtain ⟨⟨e1, _⟩, ⟨e2, _⟩, ⟨e3, _⟩, e4, _⟩ := k.f.now
  have hfc : ∀ (q : Nat) (g : Heap), g[q]? = some (.cells ⟨f.cells⟩ 27 (0, 0)) → Own g (.slice (some ⟨q, 0, none⟩) 1 1) 27 10 [f].length ([f].flatMap Fm.cells) := fun q g hb => by simpa using own_one hb (Fm.len _)
  have hpl1 : [f].map Fm.pl = [f.pl] := rfl
  obtain ⟨L, hL⟩ : ∃ L, L = [f] := ⟨_, rfl⟩
  rw [← hL] at hfc hpl1
  have hLo : ∀ (g : Heap), (Lst h0 g fun z => f.ok z) → ∀ x ∈ L, Lst h0 g fun z => x.ok z := fun g hg x hx => by rw [hL] at hx; obtain rfl := List.mem_singleton.1 hx; exact hg
  have hLl : L.length ≤ 3 := by rw [hL]; simp
  have hLe : L.length = 1 := by rw [hL]; rfl
  clear k hL
  generalize hP : f.pl = P at *
  clear hP
  obtain ⟨fk, w, n, p, t, vo, o, vf, fs, vs, rs, vp, ps, mx⟩ := f
  dsimp only at e1 e2 e3 e4 hk
  subst hk
  obtain ⟨_, _, rfl, _⟩ := e1
  obtain ⟨_, _, rfl, _⟩ := e2
  obtain ⟨_, _, rfl, _⟩ := e3
  obtain ⟨_, _, rfl, _⟩ := e4
  dsimp only [jC, Fm.cells, List.cons_append, List.nil_append, ptE] at hfc ⊢
  refine calls [(0, _)] Tryz.func30 rfl Tryz.ntmps30 rfl ⟨rfl, trivial⟩ ?_
  all_goals (refine WC.sr ?_)
  all_goals (refine WL.stepR (okE_box rfl) rfl rfl rfl ?_
             rintro _ h1 ⟨b1, rfl, hg1, hb1, hx1⟩)
  all_goals (refine Go ?_)
  all_goals (refine WC.seq ?_)
  all_goals (refine WC.sr ?_)
  all_goals (refine Go ?_)
  all_goals (refine WL.step (ok_load (fun w => Tryz.isAgg5 w) rfl (by first | assumption | exact cell_blk (by assumption) rfl)) rfl rfl rfl ?_)
  all_goals (refine Gn ?_)
  all_goals (refine WC.sub [(1, _), (7, _)] ⟨rfl, rfl, trivial⟩ ?_)
  all_goals (refine WC.block ?_)
  all_goals (refine WC.sr ?_)
  all_goals (refine Go ?_)
  all_goals (refine goC 1 2 ?_ ?_ <;> first | exact ⟨⟩ | refine Hb.mk fun hb => ?_ | skip)
  all_goals (first | (fail_if_success refine goB 1 ?_) | (
  refine goB 1 ?_
  all_goals (refine WC.seq ?_)
  all_goals (refine WC.sr ?_)
  all_goals (refine Go ?_)
  all_goals (refine WL.step (ok_load (fun w => Tryz.isAgg9 w) rfl (by first | assumption | exact cell_blk (by assumption) rfl)) rfl rfl rfl ?_)
  all_goals (refine Go ?_)
  all_goals (refine goP 14 ?_ ?_ <;> first | exact ⟨⟩ | refine Hb.mk fun hb => ?_ | skip)
  all_goals (refine Gg ?_)
  all_goals (first | (refine WL.pass rfl rfl rfl ?_) | (refine WL.step (ok_load (fun w => Tryz.isAgg4 w) rfl (by first | assumption | exact cell_blk (by assumption) rfl)) rfl rfl rfl ?_))
  all_goals (refine Go ?_)
  all_goals (refine WC.sub [(1, _), (17, _)] ⟨rfl, rfl, trivial⟩ ?_)
  all_goals (refine goC 3 4 ?_ ?_ <;> first | exact ⟨⟩ | refine Hb.mk fun hb => ?_ | skip)
  all_goals (first | (fail_if_success refine goB 4 ?_) | (
  refine goB 4 ?_
  all_goals (refine WC.skip ?_)
  skip))
  all_goals (refine Gn ?_)
  all_goals (refine WC.sr ?_)
  all_goals (refine WL.step (ok_loadN (fun w => Tryz.isAgg74 w) (fun w => Tryz.sizeOf74 w) rfl rfl (by assumption)) rfl rfl rfl ?_)
  all_goals (fail "no contract for call of (remuda/rewrite.job).prepare at 5.1")
  all_goals (refine Go ?_)
  all_goals (refine WC.sub [(2, _), (3, _)] ⟨rfl, rfl, trivial⟩ ?_)
  all_goals (refine WC.ret ?_)
  all_goals (repeat' (with_reducible first | refine thenP_r ?_ | refine blockP_r ?_))
  all_goals (refine retP_2 _ _ ⟨rfl, rfl, trivial⟩ ?_)
  all_goals (exact DoR.from ⟨⟨_, _, L, [], rfl, ⟨hfc b2 h2 hb2, Own.nil _ _ _, hLl, by simp, hLo h2 (hf.ext0 (hx1.trans hx2)), by simp, fun k z => by simp [Value.ownBlock] at z; omega, by simp [Value.ownBlock]⟩, hpl1, rfl⟩, (hd.ext0 (hx1.trans hx2)).up (by omega) (by omega), fs_no hx2⟩ hx1)
  skip))
  all_goals (first | (fail_if_success refine goB 2 ?_) | (
  refine goB 2 ?_
  all_goals (refine WC.sr ?_)
  all_goals (refine Go ?_)
  all_goals (refine goC 5 6 ?_ ?_ <;> first | exact ⟨⟩ | refine Hb.mk fun hb => ?_ | skip)
  all_goals (first | (fail_if_success refine goB 6 ?_) | (
  refine goB 6 ?_
  all_goals (refine WC.seq ?_)
  all_goals (refine WC.sr ?_)
  all_goals (refine Go ?_)
  all_goals (refine WC.sub [(1, _), (7, _), (32, _)] ⟨rfl, rfl, rfl, trivial⟩ ?_)
  all_goals (refine goC 7 8 ?_ ?_ <;> first | exact ⟨⟩ | refine Hb.mk fun hb => ?_ | skip)
  all_goals (first | (fail_if_success refine goB 7 ?_) | (
  refine goB 7 ?_
  all_goals (refine WC.skip ?_)
  skip))
  all_goals (first | (fail_if_success refine goB 8 ?_) | (
  refine goB 8 ?_
  all_goals (refine WC.region ?_)
  all_goals (refine Go ?_)
  skip))
  all_goals (refine Gn ?_)
  all_goals (refine goC 9 10 ?_ ?_ <;> first | exact ⟨⟩ | refine Hb.mk fun hb => ?_ | skip)
  all_goals (first | (fail_if_success refine goB 10 ?_) | (
  refine goB 10 ?_
  all_goals (refine WC.sr ?_)
  all_goals (refine Go ?_)
  all_goals (refine goC 15 16 ?_ ?_ <;> first | exact ⟨⟩ | refine Hb.mk fun hb => ?_ | skip)
  all_goals (first | (fail_if_success refine goB 15 ?_) | (
  refine goB 15 ?_
  all_goals (refine WC.sr ?_)
  all_goals (refine Go ?_)
  all_goals (refine WL.step (ok_loadN (fun w => Tryz.isAgg27 w) (fun w => Tryz.sizeOf27 w) rfl rfl (by exact At.pre (xs := [_, _, _, _, _, _, _, _, _, _]) (ys := [_, _, _, _, _]) (At.of_block hb1))) rfl rfl rfl ?_)
  all_goals (refine WL.stepR (okE_buildSlice (vs := [_]) (cs := [_, _, _, _, _, _, _, _, _, _]) (fun | [.agg ⟨[a0, a1, a2, a3, a4, a5, a6, a7, a8, a9]⟩] => [a0, a1, a2, a3, a4, a5, a6, a7, a8, a9] | _ => []) Tryz.underlying36 rfl rfl (by kernel_rfl)) rfl rfl rfl ?_
             rintro _ h2 ⟨b2, rfl, hg2, hb2, hx2⟩)
  all_goals (refine Go ?_)
  all_goals (refine WC.sub [(2, _), (3, _)] ⟨rfl, rfl, trivial⟩ ?_)
  all_goals (refine WC.ret ?_)
  all_goals (repeat' (with_reducible first | refine thenP_r ?_ | refine blockP_r ?_))
  all_goals (refine retP_2 _ _ ⟨rfl, rfl, trivial⟩ ?_)
  all_goals (exact DoR.from ⟨⟨_, _, L, [], rfl, ⟨hfc b2 h2 hb2, Own.nil _ _ _, hLl, by simp, hLo h2 (hf.ext0 (hx1.trans hx2)), by simp, fun k z => by simp [Value.ownBlock] at z; omega, by simp [Value.ownBlock]⟩, hpl1, rfl⟩, (hd.ext0 (hx1.trans hx2)).up (by omega) (by omega), fs_no hx2⟩ hx1)
  skip))
  all_goals (first | (fail_if_success refine goB 16 ?_) | (
  refine goB 16 ?_
  all_goals (refine WC.sr ?_)
  all_goals (refine Go ?_)
  all_goals (refine WC.sub [(1, _), (53, _)] ⟨rfl, rfl, trivial⟩ ?_)
  all_goals (refine goC 17 18 ?_ ?_ <;> first | exact ⟨⟩ | refine Hb.mk fun hb => ?_ | skip)
  all_goals (first | (fail_if_success refine goB 18 ?_) | (
  refine goB 18 ?_
  all_goals (refine WC.skip ?_)
  skip))
  skip))
  skip))
  skip))
  skip))
  all_goals (refine Gn ?_)
  all_goals (try (refine Br.mk (i := 1000) ?_))
  all_goals (refine Gn ?_)
  all_goals (refine WC.seq ?_)
  all_goals (refine WC.drawE fol (by kernel_rfl) ?_)
  all_goals (refine WQ.stepE (ok_fieldAddr rfl Tryz.underlying74 rfl (fun w => Tryz.sizeOf27 w)) rfl rfl rfl ?_)
  all_goals (refine WQ.stepE (ok_loadN (fun w => Tryz.isAgg27 w) (fun w => Tryz.sizeOf27 w) rfl rfl (by assumption)) rfl rfl rfl ?_)
  all_goals (refine WQ.stepE (ok_loadN (fun w => Tryz.isAgg74 w) (fun w => Tryz.sizeOf74 w) rfl rfl (by assumption)) rfl rfl rfl ?_)
  all_goals (fail "no contract for call of (remuda/rewrite.job).entry at 20.3")
  all_goals (fail "no contract for call of remuda/rewrite.alone at 20.4")
  all_goals (refine WQ.stepE (ok_extract rfl rfl) rfl rfl rfl ?_)
  all_goals (refine WQ.stepE (ok_extract rfl rfl) rfl rfl rfl ?_)
  all_goals (refine WQ.stepE (ok_assign rfl) rfl rfl rfl ?_)
  all_goals (refine WQ.stepE (ok_assign rfl) rfl rfl rfl ?_)
  all_goals (refine WQ.nil ?_)
  all_goals (refine Gn ?_)
  all_goals (refine WC.sub [(2, _), (3, _)] ⟨rfl, rfl, trivial⟩ ?_)
  all_goals (refine WC.ret ?_)
  all_goals (repeat' (with_reducible first | refine thenP_r ?_ | refine blockP_r ?_))
  all_goals (refine retP_2 _ _ ⟨rfl, rfl, trivial⟩ ?_)
  all_goals (exact DoR.from ⟨⟨_, _, L, [], rfl, ⟨hfc b2 h2 hb2, Own.nil _ _ _, hLl, by simp, hLo h2 (hf.ext0 (hx1.trans hx2)), by simp, fun k z => by simp [Value.ownBlock] at z; omega, by simp [Value.ownBlock]⟩, hpl1, rfl⟩, (hd.ext0 (hx1.trans hx2)).up (by omega) (by omega), fs_no hx2⟩ hx1)
set_option maxHeartbeats 2000000 in
set_option maxRecDepth 100000 in
theorem do_81 (k : JH h0 h B c b m1 m2 s f (.slice ss sn sc) spec) (hk : f.kind = 81) : CallsH Tryz.prog 30 ⟨[.agg ⟨jC f b (.slice ss sn sc) most jd kn⟩]⟩ h (DoR h0 h B c b m1 m2 (s, [f.pl], [(9, false, [], [], [(false, [], 0, ())], [], [], [])])) := by
  have hf := k.f
  have hd := k.d
  have hcc := k.cc
  have ke := fun h' => entry24 (h := h') (b := b) (ss := ss) (sn := sn) (sc := sc) (most := most) (id := jd) (kn := kn) hf.now
  have kl := fun (g : Heap) (e : En) (l : Lst h0 g fun z => f.ok z) (le : Lst h0 g fun z => e.ok z) (x : h.size ≤ g.size) => alone24 (h0 := h0) (f := f) (e := e) (g := h) l le x
  obtain ⟨⟨e1, _⟩, ⟨e2, _⟩, ⟨e3, _⟩, e4, _⟩ := k.f.now
  clear k
  rw [show entK f.kind f.what = 9 by rw [hk]; rfl] at ke
  generalize hP : f.pl = P at *
  clear hP
  obtain ⟨fk, w, n, p, t, vo, o, vf, fs, vs, rs, vp, ps, mx⟩ := f
  dsimp only at e1 e2 e3 e4 hk
  subst hk
  obtain ⟨_, _, rfl, _⟩ := e1
  obtain ⟨_, _, rfl, _⟩ := e2
  obtain ⟨_, _, rfl, _⟩ := e3
  obtain ⟨_, _, rfl, _⟩ := e4
  dsimp only [jC, Fm.cells, List.cons_append, List.nil_append, ptE, zE, En.cells] at ke kl ⊢
  refine calls [(0, _)] Tryz.func30 rfl Tryz.ntmps30 rfl ⟨rfl, trivial⟩ ?_
  all_goals (refine WC.sr ?_)
  all_goals (refine WL.stepR (okE_box rfl) rfl rfl rfl ?_
             rintro _ h1 ⟨b1, rfl, hg1, hb1, hx1⟩)
  all_goals (refine Go ?_)
  all_goals (refine WC.seq ?_)
  all_goals (refine WC.sr ?_)
  all_goals (refine Go ?_)
  all_goals (refine WL.step (ok_load (fun w => Tryz.isAgg5 w) rfl (by first | assumption | exact cell_blk (by assumption) rfl)) rfl rfl rfl ?_)
  all_goals (refine Gn ?_)
  all_goals (refine WC.sub [(1, _), (7, _)] ⟨rfl, rfl, trivial⟩ ?_)
  all_goals (refine WC.block ?_)
  all_goals (refine WC.sr ?_)
  all_goals (refine Go ?_)
  all_goals (refine goC 1 2 ?_ ?_ <;> first | exact ⟨⟩ | refine Hb.mk fun hb => ?_ | skip)
  all_goals (first | (fail_if_success refine goB 1 ?_) | (
  refine goB 1 ?_
  all_goals (refine WC.seq ?_)
  all_goals (refine WC.sr ?_)
  all_goals (refine Go ?_)
  all_goals (refine WL.step (ok_load (fun w => Tryz.isAgg9 w) rfl (by first | assumption | exact cell_blk (by assumption) rfl)) rfl rfl rfl ?_)
  all_goals (refine Go ?_)
  all_goals (refine goP 14 ?_ ?_ <;> first | exact ⟨⟩ | refine Hb.mk fun hb => ?_ | skip)
  all_goals (refine Gg ?_)
  all_goals (first | (refine WL.pass rfl rfl rfl ?_) | (refine WL.step (ok_load (fun w => Tryz.isAgg4 w) rfl (by first | assumption | exact cell_blk (by assumption) rfl)) rfl rfl rfl ?_))
  all_goals (refine Go ?_)
  all_goals (refine WC.sub [(1, _), (17, _)] ⟨rfl, rfl, trivial⟩ ?_)
  all_goals (refine goC 3 4 ?_ ?_ <;> first | exact ⟨⟩ | refine Hb.mk fun hb => ?_ | skip)
  all_goals (first | (fail_if_success refine goB 4 ?_) | (
  refine goB 4 ?_
  all_goals (refine WC.skip ?_)
  skip))
  all_goals (refine Gn ?_)
  all_goals (refine WC.sr ?_)
  all_goals (refine WL.step (ok_loadN (fun w => Tryz.isAgg74 w) (fun w => Tryz.sizeOf74 w) rfl rfl (by assumption)) rfl rfl rfl ?_)
  all_goals (fail "no contract for call of (remuda/rewrite.job).prepare at 5.1")
  all_goals (refine Go ?_)
  all_goals (refine WC.sub [(2, _), (3, _)] ⟨rfl, rfl, trivial⟩ ?_)
  all_goals (refine WC.ret ?_)
  all_goals (repeat' (with_reducible first | refine thenP_r ?_ | refine blockP_r ?_))
  all_goals (refine retP_2 _ _ ⟨rfl, rfl, trivial⟩ ?_)
  all_goals (exact ⟨hgv, (hd.ext0 (X6.trans hx7)).up (by omega) (by omega), fs_no (X6.trans hx7)⟩)
  skip))
  all_goals (first | (fail_if_success refine goB 2 ?_) | (
  refine goB 2 ?_
  all_goals (refine WC.sr ?_)
  all_goals (refine Go ?_)
  all_goals (refine goC 5 6 ?_ ?_ <;> first | exact ⟨⟩ | refine Hb.mk fun hb => ?_ | skip)
  all_goals (first | (fail_if_success refine goB 6 ?_) | (
  refine goB 6 ?_
  all_goals (refine WC.seq ?_)
  all_goals (refine WC.sr ?_)
  all_goals (refine Go ?_)
  all_goals (refine WC.sub [(1, _), (7, _), (32, _)] ⟨rfl, rfl, rfl, trivial⟩ ?_)
  all_goals (refine goC 7 8 ?_ ?_ <;> first | exact ⟨⟩ | refine Hb.mk fun hb => ?_ | skip)
  all_goals (first | (fail_if_success refine goB 7 ?_) | (
  refine goB 7 ?_
  all_goals (refine WC.skip ?_)
  skip))
  all_goals (first | (fail_if_success refine goB 8 ?_) | (
  refine goB 8 ?_
  all_goals (refine WC.region ?_)
  all_goals (refine Go ?_)
  skip))
  all_goals (refine Gn ?_)
  all_goals (refine goC 9 10 ?_ ?_ <;> first | exact ⟨⟩ | refine Hb.mk fun hb => ?_ | skip)
  all_goals (first | (fail_if_success refine goB 10 ?_) | (
  refine goB 10 ?_
  all_goals (refine WC.sr ?_)
  all_goals (refine Go ?_)
  all_goals (refine goC 15 16 ?_ ?_ <;> first | exact ⟨⟩ | refine Hb.mk fun hb => ?_ | skip)
  all_goals (first | (fail_if_success refine goB 15 ?_) | (
  refine goB 15 ?_
  all_goals (refine WC.sr ?_)
  all_goals (refine Go ?_)
  all_goals (refine WL.step (ok_loadN (fun w => Tryz.isAgg27 w) (fun w => Tryz.sizeOf27 w) rfl rfl (by assumption)) rfl rfl rfl ?_)
  all_goals (refine WL.stepR (okE_buildSlice (vs := [_]) (cs := [_, _, _, _, _, _, _, _, _, _]) (fun | [.agg ⟨[a0, a1, a2, a3, a4, a5, a6, a7, a8, a9]⟩] => [a0, a1, a2, a3, a4, a5, a6, a7, a8, a9] | _ => []) Tryz.underlying36 rfl rfl (by kernel_rfl)) rfl rfl rfl ?_
             rintro _ h1 ⟨b1, rfl, hg1, hb1, hx1⟩)
  all_goals (refine Go ?_)
  all_goals (refine WC.sub [(2, _), (3, _)] ⟨rfl, rfl, trivial⟩ ?_)
  all_goals (refine WC.ret ?_)
  all_goals (repeat' (with_reducible first | refine thenP_r ?_ | refine blockP_r ?_))
  all_goals (refine retP_2 _ _ ⟨rfl, rfl, trivial⟩ ?_)
  all_goals (exact ⟨hgv, (hd.ext0 (X6.trans hx7)).up (by omega) (by omega), fs_no (X6.trans hx7)⟩)
  skip))
  all_goals (first | (fail_if_success refine goB 16 ?_) | (
  refine goB 16 ?_
  all_goals (refine WC.sr ?_)
  all_goals (refine Go ?_)
  all_goals (refine WC.sub [(1, _), (53, _)] ⟨rfl, rfl, trivial⟩ ?_)
  all_goals (refine goC 17 18 ?_ ?_ <;> first | exact ⟨⟩ | refine Hb.mk fun hb => ?_ | skip)
  all_goals (first | (fail_if_success refine goB 17 ?_) | (
  refine goB 17 ?_
  all_goals (refine WC.sr ?_)
  all_goals (refine WL.step (ok_loadN (fun w => Tryz.isAgg74 w) (fun w => Tryz.sizeOf74 w) rfl rfl (by exact At.of_block hb1)) rfl rfl rfl ?_)
  all_goals (refine WL.call (vs := [_]) rfl (fun a w => Tryz.call61 a w) rfl (ke _) rfl rfl rfl ?_
             rintro _ h2 ⟨rfl, hx2⟩)
  all_goals (refine WL.stepR (okE_alloc (fun w => Tryz.zeroValue44 w)) rfl rfl rfl ?_
             rintro _ h3 ⟨b4, rfl, hg4, hb4, hx3⟩)
  all_goals (refine WL.stepR0 (okE_storeW (fun w => Tryz.sizeOf44 w) rfl rfl rfl hb4 rfl (by simp [Value.oneCell'])) rfl rfl ?_
             rintro _ h4 ⟨hb44, hx4⟩)
  all_goals (have l1 := lt_of_some hb1
             have hs1 := hx1.size
             have hs2 := hx2.size
             have hs3 := hx3.size
             have n14 : ¬ b1 = b4 := by omega
             have hb14 := hx4.obj ((hx2.trans hx3).obj hb1 nos) n14
             have X4 : Ext No h h4 := ((hx1.trans hx2).trans hx3).trans' hx4 (fun q hq e => by omega)
             have l4 := lt_of_some hb44)
  all_goals (refine Gn ?_)
  all_goals (refine WC.sr ?_)
  all_goals (refine WL.step (ok_buildF (vs := [_]) (cs := [_, _, _]) (fun | [a1] => [(.bool false), a1, (.int .i64 0)] | _ => []) rfl rfl (by kernel_rfl)) rfl rfl rfl ?_)
  all_goals (refine WL.stepR (okE_buildSlice (vs := [_]) (cs := [_, _, _]) (fun | [.agg ⟨[a0, a1, a2]⟩] => [a0, a1, a2] | _ => []) Tryz.underlying40 rfl rfl (by kernel_rfl)) rfl rfl rfl ?_
             rintro _ h5 ⟨b5, rfl, hg5, hb5, hx5⟩)
  all_goals (refine Go ?_)
  all_goals (refine WL.stepR0 (okE_store (fun w => Tryz.sizeOf40 w) rfl rfl (hx5.obj hb44 nos) (Nat.le_of_ble_eq_true rfl) rfl rfl) rfl rfl ?_
             rintro _ h6 ⟨hb46, hx6⟩)
  all_goals (have hb16 := hx6.obj (hx5.obj hb14 nos) n14
             have hb56 := hx6.obj hb5 (fun e => by omega)
             have X6 : Ext No h h6 := (X4.trans hx5).trans' hx6 (fun q hq e => by omega))
  all_goals (refine Gn ?_)
  all_goals (refine WC.sub [(1, _), (4, _)] ⟨rfl, rfl, trivial⟩ ?_)
  all_goals (refine WC.sr ?_)
  all_goals (refine Go ?_)
  all_goals (refine WL.step (ok_loadN (fun w => Tryz.isAgg27 w) (fun w => Tryz.sizeOf27 w) rfl rfl (by exact At.pre (xs := [_, _, _, _, _, _, _, _, _, _]) (ys := [_, _, _, _, _]) (At.of_block hb16))) rfl rfl rfl ?_)
  all_goals (refine WL.step (ok_loadN (fun w => Tryz.isAgg44 w) (fun w => Tryz.sizeOf44 w) rfl rfl (by exact At.of_block hb46)) rfl rfl rfl ?_)
  all_goals (refine WL.call (vs := [_, _]) rfl (fun a w => Tryz.call62 a w) rfl (kl _ (rE 9 [] [] _ [(false, [], 0, ())] _ [] _ []) (hf.ext0 X6) (rE_ok ((lst_blk hb56 (by decide)).mono fun _ z => tops_one z) (lst_all tops_nil) (lst_all ops_nil)) X6.size) rfl rfl rfl ?_
             rintro _ h7 ⟨hgv, hx7⟩
             obtain ⟨vF, vE, rfl⟩ := gives_u hgv)
  all_goals (refine Go ?_)
  all_goals (refine WC.sub [(2, _), (3, _)] ⟨rfl, rfl, trivial⟩ ?_)
  all_goals (refine WC.ret ?_)
  all_goals (repeat' (with_reducible first | refine thenP_r ?_ | refine blockP_r ?_))
  all_goals (refine retP_2 _ _ ⟨rfl, rfl, trivial⟩ ?_)
  all_goals (exact ⟨hgv, (hd.ext0 (X6.trans hx7)).up (by omega) (by omega), fs_no (X6.trans hx7)⟩)
  skip))
  all_goals (first | (fail_if_success refine goB 18 ?_) | (
  refine goB 18 ?_
  all_goals (refine WC.skip ?_)
  skip))
  skip))
  skip))
  skip))
  skip))
  all_goals (refine Gn ?_)
  all_goals (try (refine Br.mk (i := 1000) ?_))
  all_goals (refine Gn ?_)
  all_goals (refine WC.seq ?_)
  all_goals (refine WC.drawE fol (by kernel_rfl) ?_)
  all_goals (refine WQ.stepE (ok_fieldAddr rfl Tryz.underlying74 rfl (fun w => Tryz.sizeOf27 w)) rfl rfl rfl ?_)
  all_goals (refine WQ.stepE (ok_loadN (fun w => Tryz.isAgg27 w) (fun w => Tryz.sizeOf27 w) rfl rfl (by assumption)) rfl rfl rfl ?_)
  all_goals (refine WQ.stepE (ok_loadN (fun w => Tryz.isAgg74 w) (fun w => Tryz.sizeOf74 w) rfl rfl (by assumption)) rfl rfl rfl ?_)
  all_goals (fail "no contract for call of (remuda/rewrite.job).entry at 20.3")
  all_goals (fail "no contract for call of remuda/rewrite.alone at 20.4")
  all_goals (refine WQ.stepE (ok_extract rfl rfl) rfl rfl rfl ?_)
  all_goals (refine WQ.stepE (ok_extract rfl rfl) rfl rfl rfl ?_)
  all_goals (refine WQ.stepE (ok_assign rfl) rfl rfl rfl ?_)
  all_goals (refine WQ.stepE (ok_assign rfl) rfl rfl rfl ?_)
  all_goals (refine WQ.nil ?_)
  all_goals (refine Gn ?_)
  all_goals (refine WC.sub [(2, _), (3, _)] ⟨rfl, rfl, trivial⟩ ?_)
  all_goals (refine WC.ret ?_)
  all_goals (repeat' (with_reducible first | refine thenP_r ?_ | refine blockP_r ?_))
  all_goals (refine retP_2 _ _ ⟨rfl, rfl, trivial⟩ ?_)
  all_goals (exact ⟨hgv, (hd.ext0 (X6.trans hx7)).up (by omega) (by omega), fs_no (X6.trans hx7)⟩)
set_option maxHeartbeats 2000000 in
set_option maxRecDepth 100000 in
theorem do_else (k : JH h0 h B c b m1 m2 s f (.slice ss sn sc) spec) (hk : ((f.kind = 67 ∨ f.kind = 68) ∧ ¬ f.what = 83) ∨ f.kind = 69 ∨ f.kind = 83) : CallsH Tryz.prog 30 ⟨[.agg ⟨jC f b (.slice ss sn sc) most jd kn⟩]⟩ h (DoR h0 h B c b m1 m2 (s, [f.pl], [(zE (entK f.kind f.what) [] []).pl])) := by
  have hf := k.f
  have hd := k.d
  have hcc := k.cc
  have ke := fun h' => entry24 (h := h') (b := b) (ss := ss) (sn := sn) (sc := sc) (most := most) (id := jd) (kn := kn) hf.now
  have ks := fun g => stmt24 (h := g) (b := b) (ss := ss) (sn := sn) (sc := sc) (most := most) (jd := jd) (kn := kn) k.f.now
  have kl := fun (g : Heap) (e : En) (l : Lst h0 g fun z => f.ok z) (le : Lst h0 g fun z => e.ok z) (x : h.size ≤ g.size) => alone24 (h0 := h0) (f := f) (e := e) (g := h) l le x
  obtain ⟨⟨e1, _⟩, ⟨e2, _⟩, ⟨e3, _⟩, e4, _⟩ := k.f.now
  clear k
  generalize hK : entK f.kind f.what = K at *
  clear hK
  generalize hP : f.pl = P at *
  clear hP
  obtain ⟨fk, w, n, p, t, vo, o, vf, fs, vs, rs, vp, ps, mx⟩ := f
  dsimp only at e1 e2 e3 e4 hk ks
  obtain ⟨_, _, rfl, _⟩ := e1
  obtain ⟨_, _, rfl, _⟩ := e2
  obtain ⟨_, _, rfl, _⟩ := e3
  obtain ⟨_, _, rfl, _⟩ := e4
  dsimp only [jC, Fm.cells, List.cons_append, List.nil_append, ptE, zE, En.cells] at ke kl ks ⊢
  rcases hk with ⟨rfl | rfl, hw⟩ | rfl | rfl
  all_goals try rw [decide_eq_false hw] at ks
  all_goals
    refine calls [(0, _)] Tryz.func30 rfl Tryz.ntmps30 rfl ⟨rfl, trivial⟩ ?_
    all_goals (refine WC.sr ?_)
    all_goals (refine WL.stepR (okE_box rfl) rfl rfl rfl ?_
               rintro _ h1 ⟨b1, rfl, hg1, hb1, hx1⟩)
    all_goals (refine Go ?_)
    all_goals (refine WC.seq ?_)
    all_goals (refine WC.sr ?_)
    all_goals (refine Go ?_)
    all_goals (refine WL.step (ok_load (fun w => Tryz.isAgg5 w) rfl (by first | assumption | exact cell_blk (by assumption) rfl)) rfl rfl rfl ?_)
    all_goals (refine Gn ?_)
    all_goals (refine WC.sub [(1, _), (7, _)] ⟨rfl, rfl, trivial⟩ ?_)
    all_goals (refine WC.block ?_)
    all_goals (refine WC.sr ?_)
    all_goals (refine Go ?_)
    all_goals (refine goC 1 2 ?_ ?_ <;> first | exact ⟨⟩ | refine Hb.mk fun hb => ?_ | skip)
    all_goals (first | (fail_if_success refine goB 1 ?_) | (
    refine goB 1 ?_
    all_goals (refine WC.seq ?_)
    all_goals (refine WC.sr ?_)
    all_goals (refine Go ?_)
    all_goals (refine WL.step (ok_load (fun w => Tryz.isAgg9 w) rfl (by first | assumption | exact cell_blk (by assumption) rfl)) rfl rfl rfl ?_)
    all_goals (refine Go ?_)
    all_goals (refine goP 14 ?_ ?_ <;> first | exact ⟨⟩ | refine Hb.mk fun hb => ?_ | skip)
    all_goals (refine Gg ?_)
    all_goals (first | (refine WL.pass rfl rfl rfl ?_) | (refine WL.step (ok_load (fun w => Tryz.isAgg4 w) rfl (by first | assumption | exact cell_blk (by assumption) rfl)) rfl rfl rfl ?_))
    all_goals (refine Go ?_)
    all_goals (refine WC.sub [(1, _), (17, _)] ⟨rfl, rfl, trivial⟩ ?_)
    all_goals (refine goC 3 4 ?_ ?_ <;> first | exact ⟨⟩ | refine Hb.mk fun hb => ?_ | skip)
    all_goals (first | (fail_if_success refine goB 4 ?_) | (
    refine goB 4 ?_
    all_goals (refine WC.skip ?_)
    skip))
    all_goals (refine Gn ?_)
    all_goals (refine WC.sr ?_)
    all_goals (refine WL.step (ok_loadN (fun w => Tryz.isAgg74 w) (fun w => Tryz.sizeOf74 w) rfl rfl (by assumption)) rfl rfl rfl ?_)
    all_goals (fail "no contract for call of (remuda/rewrite.job).prepare at 5.1")
    all_goals (refine Go ?_)
    all_goals (refine WC.sub [(2, _), (3, _)] ⟨rfl, rfl, trivial⟩ ?_)
    all_goals (refine WC.ret ?_)
    all_goals (repeat' (with_reducible first | refine thenP_r ?_ | refine blockP_r ?_))
    all_goals (refine retP_2 _ _ ⟨rfl, rfl, trivial⟩ ?_)
    all_goals (exact ⟨hgv, (hd.ext0 (HX.trans hX34)).up (by omega) (by omega), fs_no (HX.trans hX34)⟩)
    skip))
    all_goals (first | (fail_if_success refine goB 2 ?_) | (
    refine goB 2 ?_
    all_goals (refine WC.sr ?_)
    all_goals (refine Go ?_)
    all_goals (refine goC 5 6 ?_ ?_ <;> first | exact ⟨⟩ | refine Hb.mk fun hb => ?_ | skip)
    all_goals (first | (fail_if_success refine goB 6 ?_) | (
    refine goB 6 ?_
    all_goals (refine WC.seq ?_)
    all_goals (refine WC.sr ?_)
    all_goals (refine Go ?_)
    all_goals (refine WC.sub [(1, _), (7, _), (32, _)] ⟨rfl, rfl, rfl, trivial⟩ ?_)
    all_goals (refine goC 7 8 ?_ ?_ <;> first | exact ⟨⟩ | refine Hb.mk fun hb => ?_ | skip)
    all_goals (first | (fail_if_success refine goB 7 ?_) | (
    refine goB 7 ?_
    all_goals (refine WC.skip ?_)
    skip))
    all_goals (first | (fail_if_success refine goB 8 ?_) | (
    refine goB 8 ?_
    all_goals (refine WC.region ?_)
    all_goals (refine Go ?_)
    skip))
    all_goals (refine Gn ?_)
    all_goals (refine goC 9 10 ?_ ?_ <;> first | exact ⟨⟩ | refine Hb.mk fun hb => ?_ | skip)
    all_goals (first | (fail_if_success refine goB 9 ?_) | (
    refine goB 9 ?_
    all_goals (refine WC.seq ?_)
    all_goals (refine WC.sr ?_)
    all_goals (refine WL.step (ok_loadN (fun w => Tryz.isAgg74 w) (fun w => Tryz.sizeOf74 w) rfl rfl (by exact At.of_block hb1)) rfl rfl rfl ?_)
    all_goals (refine WL.call (vs := [_]) rfl (fun a w => Tryz.call59 a w) rfl (ks _) rfl rfl rfl ?_
               rintro _ h2 ⟨rfl, hx2⟩)
    all_goals (refine Go ?_)
    all_goals (refine WC.sub [(1, _), (37, _)] ⟨rfl, rfl, trivial⟩ ?_)
    all_goals (refine goC 11 12 ?_ ?_ <;> first | exact ⟨⟩ | refine Hb.mk fun hb => ?_ | skip)
    all_goals (first | (fail_if_success refine goB 11 ?_) | (
    refine goB 11 ?_
    all_goals (refine WC.exit ?_)
    all_goals (repeat' (with_reducible first | refine thenP_x ?_ | refine blockP_miss rfl ?_ | refine blockP_hit ?_ | refine blockP_n ?_ | refine thenP_n ?_))
    all_goals (refine Br.out (i := 1000) ?_)
    skip))
    all_goals (first | (fail_if_success refine goB 12 ?_) | (
    refine goB 12 ?_
    all_goals (refine WC.skip ?_)
    skip))
    all_goals (refine Gn ?_)
    all_goals (first | (refine Br.keep ?_) | (refine WC.seq ?_))
    all_goals (first | (refine Br.keep ?_) | (refine WC.sr ?_))
    all_goals (refine Go ?_)
    all_goals (first | (refine Br.keep ?_) | (refine WL.step (ok_load (fun w => Tryz.isAgg5 w) rfl (by first | assumption | exact cell_blk (by assumption) rfl)) rfl rfl rfl ?_))
    all_goals (refine Go ?_)
    all_goals (first | (refine Br.keep ?_) | (refine WC.sub [(1, _), (41, _)] ⟨rfl, rfl, trivial⟩ ?_))
    all_goals (first | (refine Br.keep ?_) | (refine goC 13 14 ?_ ?_ <;> first | exact ⟨⟩ | refine Hb.mk fun hb => ?_ | skip))
    all_goals (first | (fail_if_success refine goB 14 ?_) | (
    refine goB 14 ?_
    all_goals (refine WC.skip ?_)
    skip))
    all_goals (refine Gn ?_)
    all_goals (first | (refine Br.keep ?_) | (refine WC.sr ?_))
    all_goals (first | (refine Br.keep ?_) | (refine WL.step (ok_loadN (fun w => Tryz.isAgg74 w) (fun w => Tryz.sizeOf74 w) rfl rfl (by assumption)) rfl rfl rfl ?_))
    all_goals (first | (refine Br.keep ?_) | (fail "no contract for call of (remuda/rewrite.job).use at 13.1"))
    all_goals (refine Go ?_)
    all_goals (first | (refine Br.keep ?_) | (refine WC.sub [(2, _), (3, _)] ⟨rfl, rfl, trivial⟩ ?_))
    all_goals (first | (refine Br.keep ?_) | (refine WC.ret ?_))
    all_goals (first | (refine Br.keep ?_) | (repeat' (with_reducible first | refine thenP_r ?_ | refine blockP_r ?_)))
    all_goals (first | (refine Br.keep ?_) | (refine retP_2 _ _ ⟨rfl, rfl, trivial⟩ ?_))
    all_goals (first | (refine Br.keep ?_) | (exact ⟨hgv, (hd.ext0 (HX.trans hX34)).up (by omega) (by omega), fs_no (HX.trans hX34)⟩))
    skip))
    all_goals (first | (fail_if_success refine goB 10 ?_) | (
    refine goB 10 ?_
    all_goals (refine WC.sr ?_)
    all_goals (refine Go ?_)
    all_goals (refine goC 15 16 ?_ ?_ <;> first | exact ⟨⟩ | refine Hb.mk fun hb => ?_ | skip)
    all_goals (first | (fail_if_success refine goB 15 ?_) | (
    refine goB 15 ?_
    all_goals (refine WC.sr ?_)
    all_goals (refine Go ?_)
    all_goals (refine WL.step (ok_loadN (fun w => Tryz.isAgg27 w) (fun w => Tryz.sizeOf27 w) rfl rfl (by assumption)) rfl rfl rfl ?_)
    all_goals (refine WL.stepR (okE_buildSlice (vs := [_]) (cs := [_, _, _, _, _, _, _, _, _, _]) (fun | [.agg ⟨[a0, a1, a2, a3, a4, a5, a6, a7, a8, a9]⟩] => [a0, a1, a2, a3, a4, a5, a6, a7, a8, a9] | _ => []) Tryz.underlying36 rfl rfl (by kernel_rfl)) rfl rfl rfl ?_
               rintro _ h1 ⟨b1, rfl, hg1, hb1, hx1⟩)
    all_goals (refine Go ?_)
    all_goals (refine WC.sub [(2, _), (3, _)] ⟨rfl, rfl, trivial⟩ ?_)
    all_goals (refine WC.ret ?_)
    all_goals (repeat' (with_reducible first | refine thenP_r ?_ | refine blockP_r ?_))
    all_goals (refine retP_2 _ _ ⟨rfl, rfl, trivial⟩ ?_)
    all_goals (exact ⟨hgv, (hd.ext0 (HX.trans hX34)).up (by omega) (by omega), fs_no (HX.trans hX34)⟩)
    skip))
    all_goals (first | (fail_if_success refine goB 16 ?_) | (
    refine goB 16 ?_
    all_goals (refine WC.sr ?_)
    all_goals (refine Go ?_)
    all_goals (refine WC.sub [(1, _), (53, _)] ⟨rfl, rfl, trivial⟩ ?_)
    all_goals (refine goC 17 18 ?_ ?_ <;> first | exact ⟨⟩ | refine Hb.mk fun hb => ?_ | skip)
    all_goals (first | (fail_if_success refine goB 18 ?_) | (
    refine goB 18 ?_
    all_goals (refine WC.skip ?_)
    skip))
    skip))
    skip))
    skip))
    skip))
    all_goals (refine Gn ?_)
    all_goals (try (refine Br.mk (i := 1000) ?_))
    all_goals (refine Gn ?_)
    all_goals (refine WC.seq ?_)
    all_goals (first
                | (have HJ := hx2.obj hb1 nos; have HX := hx1.trans hx2)
                | (obtain ⟨h2, rfl⟩ : ∃ g, g = h1 := ⟨h1, rfl⟩; have HJ := hb1; have HX := hx1))
    all_goals (refine WC.drawH (fun h' => Ext No h2 h') 7 9 rfl fol ?_)
    all_goals (refine WH.tk 0 rfl (fun hq hC => ok_fieldAddr rfl Tryz.underlying74 rfl (fun w => Tryz.sizeOf27 w)) rfl rfl rfl ?_)
    all_goals (refine WH.tk 1 rfl (fun hq hC => ok_loadN (fun w => Tryz.isAgg27 w) (fun w => Tryz.sizeOf27 w) rfl rfl (by exact ((At.pre (xs := [_, _, _, _, _, _, _, _, _, _]) (ys := [_, _, _, _, _]) (At.of_block HJ)).ext hC nos))) rfl rfl rfl ?_)
    all_goals (refine WH.tk 2 rfl (fun hq hC => ok_loadN (fun w => Tryz.isAgg74 w) (fun w => Tryz.sizeOf74 w) rfl rfl (by exact ((At.of_block HJ).ext hC nos))) rfl rfl rfl ?_)
    all_goals (refine WH.one 3 (by kernel_rfl) ?_)
    all_goals (refine Comes1.call (vs := [_]) rfl rfl (fun a w => Tryz.call61 a w) rfl (ke _) rfl rfl rfl ?_ (fun _ => by kernel_rfl)
               rintro _ h3 ⟨rfl, hx3⟩)
    all_goals (refine ⟨fun _ => hx3, ?_⟩)
    all_goals (refine WH.one 4 (by kernel_rfl) ?_)
    all_goals (refine Comes1.call (vs := [_, _]) rfl rfl (fun a w => Tryz.call62 a w) rfl (kl _ (zE K [] []) (hf.ext0 (HX.trans hx3)) (lst_all (zE_ok _ _ _)) (HX.trans hx3).size) rfl rfl rfl ?_ (fun _ => by kernel_rfl)
               rintro _ h4 ⟨hgv, hx4⟩
               obtain ⟨vF, vE, rfl⟩ := gives_u hgv)
    all_goals (refine ⟨fun _ => hx3.trans hx4, ?_⟩)
    all_goals (have hX34 := hx3.trans hx4)
    all_goals (refine WH.tk 5 rfl (fun hq hC => ok_extract rfl rfl) rfl rfl rfl ?_)
    all_goals (refine WH.tk 6 rfl (fun hq hC => ok_extract rfl rfl) rfl rfl rfl ?_)
    all_goals (refine WH.one 7 (by kernel_rfl) ?_)
    all_goals (refine Comes1.run rfl (OkP.r (ok_assign rfl)) rfl rfl rfl ?_ (fun _ => by kernel_rfl)
               rintro _ hz ⟨rfl, _⟩
               subst hz)
    all_goals (refine ⟨fun e => (by cases e), ?_⟩)
    all_goals (refine WH.one 8 (by kernel_rfl) ?_)
    all_goals (refine Comes1.run rfl (OkP.r (ok_assign rfl)) rfl rfl rfl ?_ (fun _ => by kernel_rfl)
               rintro _ hz ⟨rfl, _⟩
               subst hz)
    all_goals (refine ⟨fun e => (by cases e), ?_⟩)
    all_goals (refine WH.done (by kernel_rfl) ?_)
    all_goals (refine Gn ?_)
    all_goals (refine WC.sub [(2, _), (3, _)] ⟨rfl, rfl, trivial⟩ ?_)
    all_goals (refine WC.ret ?_)
    all_goals (repeat' (with_reducible first | refine thenP_r ?_ | refine blockP_r ?_))
    all_goals (refine retP_2 _ _ ⟨rfl, rfl, trivial⟩ ?_)
    all_goals (exact ⟨hgv, (hd.ext0 (HX.trans hX34)).up (by omega) (by omega), fs_no (HX.trans hX34)⟩)
end
end Go.Proofs.YtggmocdbfbhklaaGreat


/-
  REWRITE (layer 24): Do, by the code.
-/
namespace Go.Proofs.YtggmocdbfbhklaaGreat
open Go Go.RK

section
variable {h0 h h1 h' : Heap} {B : Nat} {c : Int} {b m1 m2 bt : Nat} {s : RS} {f : Fm} {v : Value} {ss : Option Addr} {sn sc : Nat} {spec : List Int} {most jd : Int} {kn : Bool}
theorem do_any (k : JH h0 h B c b m1 m2 s f (.slice ss sn sc) spec) (hk : NeedK f.kind) : CallsH Tryz.prog 30 ⟨[.agg ⟨jC f b (.slice ss sn sc) most jd kn⟩]⟩ h (DoR h0 h B c b m1 m2 (doA s (jd, kn) spec most f.pl)) := by
  have hdo : doA s (jd, kn) spec most f.pl = (if f.kind = 80 then (if f.name ≠ [] ∧ kn = true then (s, [asP f.pl dupL], [(zE 2 dupL f.name).pl]) else preA s spec most f.pl)
    else if f.kind = 66 ∨ (f.kind = 68 ∧ f.what = 83) then useA s (jd, kn) spec most f.pl
    else if f.kind = 67 ∧ f.what = 83 then (s, [], [(10, false, [], [], [(false, f.name, 0, ())], [], [], three)])
    else if f.kind = 72 then (s, [f.pl], [])
    else if f.kind = 81 then (s, [f.pl], [(9, false, [], [], [(false, [], 0, ())], [], [], [])])
    else (s, [f.pl], [(zE (entK f.kind f.what) [] []).pl])) := rfl
  rw [hdo]
  by_cases h80 : f.kind = 80
  · rw [if_pos h80]
    by_cases hn : f.name ≠ [] ∧ kn = true
    · rw [if_pos hn]
      obtain ⟨hn1, rfl⟩ := hn
      exact do_80a k h80 hn1
    · rw [if_neg hn]
      refine do_80b k h80 ?_
      by_cases h1 : f.name = []
      · exact .inl h1
      · right
        cases kn
        · rfl
        · exact absurd ⟨h1, rfl⟩ hn
  · rw [if_neg h80]
    by_cases h1 : f.kind = 66 ∨ (f.kind = 68 ∧ f.what = 83)
    · rw [if_pos h1]; exact do_use k h1
    · rw [if_neg h1]
      by_cases h2 : f.kind = 67 ∧ f.what = 83
      · rw [if_pos h2]; exact do_67 k h2
      · rw [if_neg h2]
        by_cases h3 : f.kind = 72
        · rw [if_pos h3]; exact do_72 k h3
        · rw [if_neg h3]
          by_cases h4 : f.kind = 81
          · rw [if_pos h4]; exact do_81 k h4
          · rw [if_neg h4]
            refine do_else k ?_
            unfold NeedK at hk
            omega
set_option maxHeartbeats 4000000 in
set_option maxRecDepth 100000 in
theorem Do24g {tb : Nat} {va : Value} {s0 : Int × Bool} {A : List En} (d : Cst h0 h B c b m1 m2 s) (x0 : Ext No h0 h) (hf : f.ok h0) (hw : 0 ≤ f.kind ∧ f.kind ≤ 255) (hm : f.oids.length ≤ 1000000 ∧ f.formats.length ≤ 1000000 ∧ f.results.length ≤ 1000000 ∧ f.params.length ≤ 1000000)
    (hsp : Lst h0 h fun g => Rd g (.slice ss sn sc) 1 spec.length (ints spec)) (hsl : spec.length ≤ 40) (hcc : 0 ≤ c ∧ c + 2 ≤ 1000000) (kg : ∀ h', Ext No h h' → CallsH Tryz.prog 54 ⟨[.pointer (some ⟨tb, 0, none⟩), St f.name]⟩ h' fun u h1 => u = .tuple ⟨[In s0.1, .bool s0.2]⟩ ∧ h1 = h') (g : Gds h va A) :
    CallsH Tryz.prog 8 ⟨[ptE b, .pointer (some ⟨tb, 0, none⟩), va, .slice ss sn sc, In most, .agg ⟨f.cells⟩]⟩ h
      (DoR h0 h B c b m1 m2 (if NeedK f.kind then doA s (lookT f.name s0 (opsE A)) spec most f.pl else (s, [], []))) := by
  have kn := fun h' => needs_code (h := h') f hw
  have hfh : ∀ h', Ext No h0 h' → f.ok h' := fun h' x => hf.ext0 x
  have klk := fun h' (x : Ext No h h') => look_code0 f.name (fun g' y => kg g' (x.trans y)) (g.ext0 x)
  have kdo := fun (g : Heap) (f' : Fm) (jd : Int) (kn : Bool) (k : JH h0 g B c b m1 m2 s f' (.slice ss sn sc) spec) (hk : NeedK f'.kind) => do_any (most := most) (jd := jd) (kn := kn) k hk
  clear kg
  have hDo : ∀ u h' (f' : Fm) g, f'.pl = f.pl → NeedK f.kind → Ext No h g → DoR h0 g B c b m1 m2 (doA s ((lookT f.name s0 (opsE A)).1, (lookT f.name s0 (opsE A)).2) spec most f'.pl) u h' → DoR h0 h B c b m1 m2 (if NeedK f.kind then doA s (lookT f.name s0 (opsE A)) spec most f.pl else (s, [], [])) u h' := fun u h' f' g e hk x r => by
    rw [if_pos hk, ← e]
    exact r.from x
  have hNo : ¬ NeedK f.kind → ∀ h', Ext No h h' → DoR h0 h B c b m1 m2 (if NeedK f.kind then doA s (lookT f.name s0 (opsE A)) spec most f.pl else (s, [], [])) (.tuple ⟨[.slice none 0 0, .slice none 0 0]⟩) h' := fun hn h' x => by
    rw [if_neg hn]
    exact ⟨.nil, (d.ext0 x).up (by omega) (by omega), fs_no x⟩
  generalize (if NeedK f.kind then doA s (lookT f.name s0 (opsE A)) spec most f.pl else (s, [], [])) = RES at *
  generalize hlk : lookT f.name s0 (opsE A) = lk at *
  clear hlk
  obtain ⟨⟨e1, _⟩, ⟨e2, _⟩, ⟨e3, _⟩, e4⟩ := hf
  have e5 := e4.1
  generalize hP : f.pl = P at *
  obtain ⟨fk, w, n, p, t, vo, o, vf, fs, vs, rs, vp, ps, mx⟩ := f
  dsimp only at e1 e2 e3 e4 e5 hw hm
  obtain ⟨AA, ca, rfl, _⟩ := id g.row
  obtain ⟨_, _, rfl, _⟩ := id e1
  obtain ⟨_, _, rfl, _⟩ := id e2
  obtain ⟨_, _, rfl, _⟩ := id e3
  obtain ⟨_, _, rfl, _⟩ := id e5
  dsimp only [Fm.cells] at kn klk hDo hNo ⊢
  unfold ptE
  by_cases hnk : NeedK fk
  · rw [decide_eq_true hnk] at kn
    clear hNo
    refine calls [(0, _), (1, _), (2, _), (3, _), (4, _), (5, _)] Tryz.func8 rfl Tryz.ntmps8 rfl ⟨rfl, rfl, rfl, rfl, rfl, rfl, trivial⟩ ?_
    all_goals (refine WC.sr ?_)
    all_goals (refine WL.stepR (okE_box rfl) rfl rfl rfl ?_
               rintro _ h1 ⟨b11, rfl, hg1, hb1, hx1⟩)
    all_goals (refine Go ?_)
    all_goals (refine WC.seq ?_)
    all_goals (refine WC.sr ?_)
    all_goals (refine WL.step (ok_loadN (fun w => Tryz.isAgg27 w) (fun w => Tryz.sizeOf27 w) rfl rfl (by exact At.of_block hb1)) rfl rfl rfl ?_)
    all_goals (refine WL.call (vs := [_]) rfl (fun a w => Tryz.call13 a w) rfl (kn _) rfl rfl rfl ?_
               rintro _ h2 ⟨rfl, hx2⟩)
    all_goals (have hb12 := hx2.obj hb1 nos
               have hX2 := hx1.trans hx2
               have x02 := x0.trans hX2
               have l1 := lt_of_some hb1
               have hs2 := hx2.size)
    all_goals (refine Go ?_)
    all_goals (refine WC.sub [(0, _), (1, _), (2, _), (3, _), (4, _), (11, _), (17, _)] ⟨rfl, rfl, rfl, rfl, rfl, rfl, rfl, trivial⟩ ?_)
    all_goals (refine goC 1 2 ?_ ?_ <;> first | exact ⟨⟩ | refine Hb.mk fun hb => ?_ | skip)
    all_goals (first | (fail_if_success refine goB 1 ?_) | (
    refine goB 1 ?_
    all_goals (refine WC.sr ?_)
    all_goals (refine Go ?_)
    all_goals (refine WC.sub [(12, _), (13, _)] ⟨rfl, rfl, trivial⟩ ?_)
    all_goals (refine WC.ret ?_)
    all_goals (repeat' (with_reducible first | refine thenP_r ?_ | refine blockP_r ?_))
    all_goals (refine retP_2 _ _ ⟨rfl, rfl, trivial⟩ ?_)
    all_goals (exact hDo _ _ _ _ (by rw [← hP]; simp only [Fm.pl, hRp]) hnk X21 hr)
    skip))
    all_goals (first | (fail_if_success refine goB 2 ?_) | (
    refine goB 2 ?_
    all_goals (refine WC.skip ?_)
    skip))
    all_goals (refine Gn ?_)
    all_goals (refine WC.seq ?_)
    all_goals (refine WC.drawH (fun h' => Ext No h2 h') 10 15 rfl fol ?_)
    all_goals (refine WH.tk 0 rfl (fun hq hC => ok_fieldAddr rfl Tryz.underlying27 rfl (fun w => Tryz.sizeOf24 w)) rfl rfl rfl ?_)
    all_goals (refine WH.tk 1 rfl (fun hq hC => ok_load (fun w => Tryz.isAgg24 w) rfl (by first | exact hC.cell (by first | exact cell_blk hb12 rfl | assumption | exact cell_blk (by assumption) rfl) nos)) rfl rfl rfl ?_)
    all_goals (refine WH.tk 3 rfl (fun hq hC => ok_fieldAddr rfl Tryz.underlying27 rfl (fun w => Tryz.sizeOf24 w)) rfl rfl rfl ?_)
    all_goals (refine WH.tk 4 rfl (fun hq hC => ok_load (fun w => Tryz.isAgg24 w) rfl (by first | exact hC.cell (by first | exact cell_blk hb12 rfl | assumption | exact cell_blk (by assumption) rfl) nos)) rfl rfl rfl ?_)
    all_goals (refine WH.tk 6 rfl (fun hq hC => ok_fieldAddr rfl Tryz.underlying27 rfl (fun w => Tryz.sizeOf24 w)) rfl rfl rfl ?_)
    all_goals (refine WH.tk 7 rfl (fun hq hC => ok_load (fun w => Tryz.isAgg24 w) rfl (by first | exact hC.cell (by first | exact cell_blk hb12 rfl | assumption | exact cell_blk (by assumption) rfl) nos)) rfl rfl rfl ?_)
    all_goals (refine WH.one 2 (by kernel_rfl) ?_)
    all_goals (refine Comes1.call (vs := [_]) rfl rfl (fun a w => Tryz.call27 a w) rfl (clone_int o (e1.ext0 x02) hm.1) rfl rfl rfl ?_ (fun _ => by kernel_rfl)
               rintro vo2 g1 ⟨oo1, hy1, _⟩
               obtain ⟨Ao2, co2, rfl, _⟩ := oo1.slice)
    all_goals (refine ⟨fun _ => hy1, ?_⟩)
    all_goals (refine WH.tk 9 rfl (fun hq hC => ok_fieldAddr rfl Tryz.underlying27 rfl (fun w => Tryz.sizeOf24 w)) rfl rfl rfl ?_)
    all_goals (refine WH.one 5 (by kernel_rfl) ?_)
    all_goals (refine Comes1.call (vs := [_]) rfl rfl (fun a w => Tryz.call27 a w) rfl (clone_int fs (e2.ext0 (x02.trans hy1)) hm.2.1) rfl rfl rfl ?_ (fun _ => by kernel_rfl)
               rintro vf2 g2 ⟨of2, hy2, _⟩
               obtain ⟨Af2, cf2, rfl, _⟩ := of2.slice)
    all_goals (refine ⟨fun _ => hy1.trans hy2, ?_⟩)
    all_goals (have hY2 := hy1.trans hy2)
    all_goals (refine WH.one 8 (by kernel_rfl) ?_)
    all_goals (refine Comes1.call (vs := [_]) rfl rfl (fun a w => Tryz.call27 a w) rfl (clone_int rs (e3.ext0 (x02.trans hY2)) hm.2.2.1) rfl rfl rfl ?_ (fun _ => by kernel_rfl)
               rintro vs2 g3 ⟨os3, hy3, _⟩
               obtain ⟨As2, cs2, rfl, _⟩ := os3.slice)
    all_goals (refine ⟨fun _ => hY2.trans hy3, ?_⟩)
    all_goals (have hY3 := hY2.trans hy3)
    all_goals (refine WH.one 10 (by kernel_rfl) ?_)
    all_goals (refine Comes1.run0 rfl (okE_store (fun w => Tryz.sizeOf24 w) rfl rfl (hY3.obj hb12 nos) (Nat.le_of_ble_eq_true rfl) rfl rfl) rfl rfl ?_ (fun _ => by kernel_rfl)
               rintro _ h10 ⟨hb10, hx10⟩)
    all_goals (refine ⟨fun e => (by cases e), ?_⟩)
    all_goals (refine WH.one 11 (by kernel_rfl) ?_)
    all_goals (refine Comes1.run rfl (OkP.r (ok_fieldAddr rfl Tryz.underlying27 rfl (fun w => Tryz.sizeOf24 w))) rfl rfl rfl ?_ (fun _ => by kernel_rfl)
               rintro _ hz ⟨rfl, _⟩
               subst hz)
    all_goals (refine ⟨fun e => (by cases e), ?_⟩)
    all_goals (refine WH.one 12 (by kernel_rfl) ?_)
    all_goals (refine Comes1.run0 rfl (okE_store (fun w => Tryz.sizeOf24 w) rfl rfl hb10 (Nat.le_of_ble_eq_true rfl) rfl rfl) rfl rfl ?_ (fun _ => by kernel_rfl)
               rintro _ h12 ⟨hb12', hx12⟩)
    all_goals (refine ⟨fun e => (by cases e), ?_⟩)
    all_goals (refine WH.one 13 (by kernel_rfl) ?_)
    all_goals (refine Comes1.run rfl (OkP.r (ok_fieldAddr rfl Tryz.underlying27 rfl (fun w => Tryz.sizeOf24 w))) rfl rfl rfl ?_ (fun _ => by kernel_rfl)
               rintro _ hz ⟨rfl, _⟩
               subst hz)
    all_goals (refine ⟨fun e => (by cases e), ?_⟩)
    all_goals (refine WH.one 14 (by kernel_rfl) ?_)
    all_goals (refine Comes1.run0 rfl (okE_store (fun w => Tryz.sizeOf24 w) rfl rfl hb12' (Nat.le_of_ble_eq_true rfl) rfl rfl) rfl rfl ?_ (fun _ => by kernel_rfl)
               rintro _ h14 ⟨hb14, hx14⟩)
    all_goals (refine ⟨fun e => (by cases e), ?_⟩)
    all_goals (have hZ : Ext (fun q => q = b11) g3 h14 := (hx10.trans hx12).trans hx14
               have X14 : Ext No h h14 := (hX2.trans hY3).trans' hZ (fun q hq e => by omega)
               have x014 := x0.trans X14
               have tyZ : ∀ {w : Value} {k : Nat} {xs : List Value}, Own g3 w 3 1 k xs → Own h14 w 3 1 k xs := fun ho => ho.ext hZ (fun q hq e => by obtain ⟨_, y⟩ := own_ty ho hq; rw [show q = b11 from e, hY3.obj hb12 nos] at y; simp at y)
               have LO := (lst_own (h0 := h0) (tyZ ((oo1.ext hy2 (fun _ _ => nos)).ext hy3 (fun _ _ => nos))) (by decide))
               have LF := (lst_own (h0 := h0) (tyZ (of2.ext hy3 (fun _ _ => nos))) (by decide))
               have LS := (lst_own (h0 := h0) (tyZ os3) (by decide))
               clear hb10 hb12'
               have l14 := lt_of_some hb14)
    all_goals (refine WH.done (by kernel_rfl) ?_)
    all_goals (refine Gn ?_)
    all_goals (refine WC.sub [(0, _), (1, _), (2, _), (3, _), (4, _), (11, _)] ⟨rfl, rfl, rfl, rfl, rfl, rfl, trivial⟩ ?_)
    all_goals (refine WC.sr ?_)
    all_goals (refine Go ?_)
    all_goals (refine WL.step (ok_load (fun w => Tryz.isAgg25 w) rfl (by first | exact cell_blk hb14 rfl | assumption | exact cell_blk (by assumption) rfl)) rfl rfl rfl ?_)
    all_goals (refine WL.call (vs := [_]) rfl (fun a w => Tryz.call28 a w) rfl (cells24 ps (e4.ext0 x014) hm.2.2.2) rfl rfl rfl ?_
               rintro v15' h15 ⟨R, oR, hRp, hRo, hx15, hf15⟩
               obtain ⟨Ar, cr, rfl, _⟩ := oR.slice)
    all_goals (refine Go ?_)
    all_goals (refine WL.stepR0 (okE_store (fun w => Tryz.sizeOf25 w) rfl rfl (hx15.obj hb14 nos) (Nat.le_of_ble_eq_true rfl) rfl rfl) rfl rfl ?_
               rintro _ h16 ⟨hb16, hx16⟩)
    all_goals (have X16 : Ext No h h16 := (X14.trans hx15).trans' hx16 (fun q hq e => by omega)
               have hs15 := hx15.size
               have s16 : Sf h0 h15 (fun q => q = b11) := fun q e => ⟨by have := x0.size; rw [show q = b11 from e]; omega, fun ty => absurd (ty_one (hx15.obj hb14 nos) (e ▸ ty)) (by decide)⟩
               have LR : Lst h0 h16 fun z => Own z (.slice Ar R.length cr) 69 2 R.length (R.flatMap Cel.cells) := (lst_own oR (by decide)).step hx16 s16
               have LC : ∀ x ∈ R, Lst h0 h16 fun z => x.ok z := fun x hx => ((lst_own (h0 := h0) (hRo x hx).1 (by decide)).mono fun _ z => (⟨z.rd, (hRo x hx).2⟩ : x.ok _)).step hx16 s16
               have hRl : R.length = ps.length := by have := congrArg List.length hRp; simpa using this
               obtain ⟨_, _, ecap, hcap⟩ := oR.cap
               simp only [Value.slice.injEq] at ecap
               have LFm : Lst h0 h16 fun z => (⟨fk, w, n, p, t, .slice Ao2 o.length co2, o, .slice Af2 fs.length cf2, fs, .slice As2 rs.length cs2, rs, .slice Ar R.length cr, R, mx⟩ : Fm).ok z := fun S g9 x9 s9 => ⟨⟨(((LO.ext0 hx15).step hx16 s16) S g9 x9 s9).rd, by show o.length ≤ maxLen; unfold maxLen; omega⟩, ⟨(((LF.ext0 hx15).step hx16 s16) S g9 x9 s9).rd, by show fs.length ≤ maxLen; unfold maxLen; omega⟩, ⟨(((LS.ext0 hx15).step hx16 s16) S g9 x9 s9).rd, by show rs.length ≤ maxLen; unfold maxLen; omega⟩, ⟨(LR S g9 x9 s9).rd, ⟨by have := e4.2.1.1; rw [hRl]; exact this, Ar, cr, rfl, by rw [ecap.2.2]; exact hcap⟩, fun x hx => LC x hx S g9 x9 s9⟩⟩)
    all_goals (refine Gn ?_)
    all_goals (refine WC.sub [(0, _), (1, _), (2, _), (3, _), (4, _), (11, _)] ⟨rfl, rfl, rfl, rfl, rfl, rfl, trivial⟩ ?_)
    all_goals (refine WC.sr ?_)
    all_goals (refine WL.step (ok_loadN (fun w => Tryz.isAgg27 w) (fun w => Tryz.sizeOf27 w) rfl rfl (by exact At.of_block hb16)) rfl rfl rfl ?_)
    all_goals (refine Go ?_)
    all_goals (refine WL.step (ok_buildF (vs := [_, _, _, _]) (cs := [_, _, _, _, _, _, _, _, _, _, _, _, _, _, _]) (fun | [.agg ⟨[a0, a1, a2, a3, a4, a5, a6, a7, a8, a9]⟩, a10, a11, a12] => [a0, a1, a2, a3, a4, a5, a6, a7, a8, a9, a10, a11, a12, (.int .i64 0), (.bool false)] | _ => []) rfl rfl (by kernel_rfl)) rfl rfl rfl ?_)
    all_goals (refine WL.stepR (okE_alloc (fun w => Tryz.zeroValue74 w)) rfl rfl rfl ?_
               rintro _ h17 ⟨b14, rfl, hg17, hb17, hx17⟩)
    all_goals (refine WL.stepR0 (okE_storeW (fun w => Tryz.sizeOf74 w) rfl rfl rfl hb17 rfl (by simp [Value.oneCell'])) rfl rfl ?_
               rintro _ h18 ⟨hb18, hx18⟩)
    all_goals (have hb1618 := hx18.obj (hx17.obj hb16 nos) (fun e => by have := lt_of_some hb16; omega)
               have x1618 : Ext No h16 h18 := hx17.trans' hx18 (fun q hq e => by omega)
               have X18 := X16.trans x1618
               have l18 := lt_of_some hb18)
    all_goals (refine Gn ?_)
    all_goals (refine WC.sub [(1, _), (2, _), (11, _), (14, _)] ⟨rfl, rfl, rfl, rfl, trivial⟩ ?_)
    all_goals (refine WC.sr ?_)
    all_goals (refine Go ?_)
    all_goals (refine WL.step (ok_load (fun w => Tryz.isAgg9 w) rfl (by first | exact cell_blk hb1618 rfl | assumption | exact cell_blk (by assumption) rfl)) rfl rfl rfl ?_)
    all_goals (refine WL.call (vs := [_, _, _]) rfl (fun a w => Tryz.call29 a w) rfl (klk _ X18) rfl rfl rfl ?_
               rintro _ h19 ⟨rfl, hx19⟩)
    all_goals (refine Go ?_)
    all_goals (refine WL.stepR0 (okE_store (fun w => Tryz.sizeOf3 w) rfl rfl (hx19.obj hb18 nos) (Nat.le_of_ble_eq_true rfl) rfl rfl) rfl rfl ?_
               rintro _ h20 ⟨hb20, hx20⟩)
    all_goals (refine Go ?_)
    all_goals (refine WL.stepR0 (okE_store (fun w => Tryz.sizeOf4 w) rfl rfl hb20 (Nat.le_of_ble_eq_true rfl) rfl rfl) rfl rfl ?_
               rintro _ h21 ⟨hb21, hx21⟩)
    all_goals (have hs16 := hx16.size
               have x1921 : Ext (fun q => q = b14) h19 h21 := hx20.trans hx21
               have X19 := X18.trans hx19
               have hs19 := X16.size
               have X21 : Ext No h h21 := X19.trans' x1921 (fun q hq e => by omega)
               have hx1621 : Ext No h16 h21 := (x1618.trans hx19).trans' x1921 (fun q hq e => by omega))
    all_goals (refine Gn ?_)
    all_goals (refine WC.sub [(14, _)] ⟨rfl, trivial⟩ ?_)
    all_goals (refine WC.sr ?_)
    all_goals (refine WL.step (ok_loadN (fun w => Tryz.isAgg74 w) (fun w => Tryz.sizeOf74 w) rfl rfl (by exact At.of_block hb21)) rfl rfl rfl ?_)
    all_goals (refine WL.call (vs := [_]) rfl (fun a w => Tryz.call30 a w) rfl (kdo _ (⟨fk, w, n, p, t, .slice Ao2 o.length co2, o, .slice Af2 fs.length cf2, fs, .slice As2 rs.length cs2, rs, .slice Ar R.length cr, R, mx⟩ : Fm) _ _ ⟨d.ext0 X21, x0.trans X21, LFm.ext0 hx1621, hsp.ext0 X21, hsl, hcc⟩ hnk) rfl rfl rfl ?_
               rintro _ h22 hr
               obtain ⟨vF, vE, rfl⟩ := gives_u hr.1)
    all_goals (refine Go ?_)
    all_goals (refine WC.sub [(12, _), (13, _)] ⟨rfl, rfl, trivial⟩ ?_)
    all_goals (refine WC.ret ?_)
    all_goals (repeat' (with_reducible first | refine thenP_r ?_ | refine blockP_r ?_))
    all_goals (refine retP_2 _ _ ⟨rfl, rfl, trivial⟩ ?_)
    all_goals (exact hDo _ _ _ _ (by rw [← hP]; simp only [Fm.pl, hRp]) hnk X21 hr)
  · rw [decide_eq_false hnk] at kn
    refine calls [(0, _), (1, _), (2, _), (3, _), (4, _), (5, _)] Tryz.func8 rfl Tryz.ntmps8 rfl ⟨rfl, rfl, rfl, rfl, rfl, rfl, trivial⟩ ?_
    all_goals (refine WC.sr ?_)
    all_goals (refine WL.stepR (okE_box rfl) rfl rfl rfl ?_
               rintro _ h1 ⟨b11, rfl, hg1, hb1, hx1⟩)
    all_goals (refine Go ?_)
    all_goals (refine WC.seq ?_)
    all_goals (refine WC.sr ?_)
    all_goals (refine WL.step (ok_loadN (fun w => Tryz.isAgg27 w) (fun w => Tryz.sizeOf27 w) rfl rfl (by exact At.of_block hb1)) rfl rfl rfl ?_)
    all_goals (refine WL.call (vs := [_]) rfl (fun a w => Tryz.call13 a w) rfl (kn _) rfl rfl rfl ?_
               rintro _ h2 ⟨rfl, hx2⟩)
    all_goals (refine Go ?_)
    all_goals (refine WC.sub [(0, _), (1, _), (2, _), (3, _), (4, _), (11, _), (17, _)] ⟨rfl, rfl, rfl, rfl, rfl, rfl, rfl, trivial⟩ ?_)
    all_goals (refine goC 1 2 ?_ ?_ <;> first | exact ⟨⟩ | refine Hb.mk fun hb => ?_ | skip)
    all_goals (first | (fail_if_success refine goB 1 ?_) | (
    refine goB 1 ?_
    all_goals (refine WC.sr ?_)
    all_goals (refine Go ?_)
    all_goals (refine WC.sub [(12, _), (13, _)] ⟨rfl, rfl, trivial⟩ ?_)
    all_goals (refine WC.ret ?_)
    all_goals (repeat' (with_reducible first | refine thenP_r ?_ | refine blockP_r ?_))
    all_goals (refine retP_2 _ _ ⟨rfl, rfl, trivial⟩ ?_)
    all_goals (exact hNo hnk _ (hx1.trans hx2))
    skip))
    all_goals (first | (fail_if_success refine goB 2 ?_) | (
    refine goB 2 ?_
    all_goals (refine WC.skip ?_)
    skip))
    all_goals (refine Gn ?_)
    all_goals (refine WC.seq ?_)
    all_goals (refine WC.drawE fol (by kernel_rfl) ?_)
    all_goals (refine WQ.stepE (ok_fieldAddr rfl Tryz.underlying27 rfl (fun w => Tryz.sizeOf24 w)) rfl rfl rfl ?_)
    all_goals (refine WQ.stepE (ok_load (fun w => Tryz.isAgg24 w) rfl (by first | assumption | exact cell_blk (by assumption) rfl)) rfl rfl rfl ?_)
    all_goals (fail "no contract for call of slices.Clone[[]int,int] at 3.2")
    all_goals (refine WQ.stepE (ok_fieldAddr rfl Tryz.underlying27 rfl (fun w => Tryz.sizeOf24 w)) rfl rfl rfl ?_)
    all_goals (refine WQ.stepE (ok_load (fun w => Tryz.isAgg24 w) rfl (by first | assumption | exact cell_blk (by assumption) rfl)) rfl rfl rfl ?_)
    all_goals (fail "no contract for call of slices.Clone[[]int,int] at 3.5")
    all_goals (refine WQ.stepE (ok_fieldAddr rfl Tryz.underlying27 rfl (fun w => Tryz.sizeOf24 w)) rfl rfl rfl ?_)
    all_goals (refine WQ.stepE (ok_load (fun w => Tryz.isAgg24 w) rfl (by first | assumption | exact cell_blk (by assumption) rfl)) rfl rfl rfl ?_)
    all_goals (fail "no contract for call of slices.Clone[[]int,int] at 3.8")
    all_goals (refine WQ.stepE (ok_fieldAddr rfl Tryz.underlying27 rfl (fun w => Tryz.sizeOf24 w)) rfl rfl rfl ?_)
    all_goals (refine WL.stepR0 (okE_store (fun w => Tryz.sizeOf24 w) rfl rfl (by assumption) (Nat.le_of_ble_eq_true rfl) rfl rfl) rfl rfl ?_
               rintro _ h1 ⟨hb1, hx1⟩)
    all_goals (refine WQ.stepE (ok_fieldAddr rfl Tryz.underlying27 rfl (fun w => Tryz.sizeOf24 w)) rfl rfl rfl ?_)
    all_goals (refine WL.stepR0 (okE_store (fun w => Tryz.sizeOf24 w) rfl rfl (by assumption) (Nat.le_of_ble_eq_true rfl) rfl rfl) rfl rfl ?_
               rintro _ h1 ⟨hb1, hx1⟩)
    all_goals (refine WQ.stepE (ok_fieldAddr rfl Tryz.underlying27 rfl (fun w => Tryz.sizeOf24 w)) rfl rfl rfl ?_)
    all_goals (refine WL.stepR0 (okE_store (fun w => Tryz.sizeOf24 w) rfl rfl (by assumption) (Nat.le_of_ble_eq_true rfl) rfl rfl) rfl rfl ?_
               rintro _ h1 ⟨hb1, hx1⟩)
    all_goals (refine WQ.nil ?_)
    all_goals (refine Gn ?_)
    all_goals (refine WC.sub [(0, _), (1, _), (2, _), (3, _), (4, _), (11, _)] ⟨rfl, rfl, rfl, rfl, rfl, rfl, trivial⟩ ?_)
    all_goals (refine WC.sr ?_)
    all_goals (refine Go ?_)
    all_goals (refine WL.step (ok_load (fun w => Tryz.isAgg25 w) rfl (by first | assumption | exact cell_blk (by assumption) rfl)) rfl rfl rfl ?_)
    all_goals (fail "no contract for call of remuda/rewrite.cells at 4.2")
    all_goals (refine Go ?_)
    all_goals (refine WL.stepR0 (okE_store (fun w => Tryz.sizeOf25 w) rfl rfl (by assumption) (Nat.le_of_ble_eq_true rfl) rfl rfl) rfl rfl ?_
               rintro _ h1 ⟨hb1, hx1⟩)
    all_goals (refine Gn ?_)
    all_goals (refine WC.sub [(0, _), (1, _), (2, _), (3, _), (4, _), (11, _)] ⟨rfl, rfl, rfl, rfl, rfl, rfl, trivial⟩ ?_)
    all_goals (refine WC.sr ?_)
    all_goals (refine WL.step (ok_loadN (fun w => Tryz.isAgg27 w) (fun w => Tryz.sizeOf27 w) rfl rfl (by assumption)) rfl rfl rfl ?_)
    all_goals (refine Go ?_)
    all_goals (refine WL.step (ok_buildF (vs := [_, _, _, _]) (cs := [_, _, _, _, _, _, _, _, _, _, _, _, _, _, _]) (fun | [.agg ⟨[a0, a1, a2, a3, a4, a5, a6, a7, a8, a9]⟩, a10, a11, a12] => [a0, a1, a2, a3, a4, a5, a6, a7, a8, a9, a10, a11, a12, (.int .i64 0), (.bool false)] | _ => []) rfl rfl (by kernel_rfl)) rfl rfl rfl ?_)
    all_goals (refine WL.stepR (okE_alloc (fun w => Tryz.zeroValue74 w)) rfl rfl rfl ?_
               rintro _ h1 ⟨b1, rfl, hg1, hb1, hx1⟩)
    all_goals (refine WL.stepR0 (okE_storeW (fun w => Tryz.sizeOf74 w) rfl rfl rfl (by assumption) rfl (by simp [Value.oneCell'])) rfl rfl ?_
               rintro _ h1 ⟨hb1, hx1⟩)
    all_goals (refine Gn ?_)
    all_goals (refine WC.sub [(1, _), (2, _), (11, _), (14, _)] ⟨rfl, rfl, rfl, rfl, trivial⟩ ?_)
    all_goals (refine WC.sr ?_)
    all_goals (refine Go ?_)
    all_goals (refine WL.step (ok_load (fun w => Tryz.isAgg9 w) rfl (by first | assumption | exact cell_blk (by assumption) rfl)) rfl rfl rfl ?_)
    all_goals (fail "no contract for call of remuda/over.Lookup at 6.4")
    all_goals (refine Go ?_)
    all_goals (refine WL.stepR0 (okE_store (fun w => Tryz.sizeOf3 w) rfl rfl (by assumption) (Nat.le_of_ble_eq_true rfl) rfl rfl) rfl rfl ?_
               rintro _ h1 ⟨hb1, hx1⟩)
    all_goals (refine Go ?_)
    all_goals (refine WL.stepR0 (okE_store (fun w => Tryz.sizeOf4 w) rfl rfl (by assumption) (Nat.le_of_ble_eq_true rfl) rfl rfl) rfl rfl ?_
               rintro _ h1 ⟨hb1, hx1⟩)
    all_goals (refine Gn ?_)
    all_goals (refine WC.sub [(14, _)] ⟨rfl, trivial⟩ ?_)
    all_goals (refine WC.sr ?_)
    all_goals (refine WL.step (ok_loadN (fun w => Tryz.isAgg74 w) (fun w => Tryz.sizeOf74 w) rfl rfl (by assumption)) rfl rfl rfl ?_)
    all_goals (fail "no contract for call of (remuda/rewrite.job).do at 7.1")
    all_goals (refine Go ?_)
    all_goals (refine WC.sub [(12, _), (13, _)] ⟨rfl, rfl, trivial⟩ ?_)
    all_goals (refine WC.ret ?_)
    all_goals (repeat' (with_reducible first | refine thenP_r ?_ | refine blockP_r ?_))
    all_goals (refine retP_2 _ _ ⟨rfl, rfl, trivial⟩ ?_)
    all_goals (exact hNo hnk _ (hx1.trans hx2))
theorem Do24 {hT : Heap} {tb tm bt' : Nat} {v15 va : Value} {most15 : Int} {T : List NI} {A : List En} (d : Cst h0 h B c b m1 m2 s) (x0 : Ext No h0 h) (hf : f.ok h0) (hw : 0 ≤ f.kind ∧ f.kind ≤ 255) (hm : f.oids.length ≤ 1000000 ∧ f.formats.length ≤ 1000000 ∧ f.results.length ≤ 1000000 ∧ f.params.length ≤ 1000000)
    (hsp : Rd h0 (.slice ss sn sc) 1 spec.length (ints spec)) (hsl : spec.length ≤ 40) (hcc : 0 ≤ c ∧ c + 2 ≤ 1000000) (dT : T15 hT h tb tm bt' v15 most15 T) (g : Gds h va A) :
    CallsH Tryz.prog 8 ⟨[ptE b, .pointer (some ⟨tb, 0, none⟩), va, .slice ss sn sc, In most, .agg ⟨f.cells⟩]⟩ h
      (DoR h0 h B c b m1 m2 (if NeedK f.kind then doA s (lookT f.name ((getL T f.name).getD 0, (getL T f.name).isSome) (opsE A)) spec most f.pl else (s, [], []))) :=
  Do24g d x0 hf hw hm (lst_old x0 fun _ x => hsp.ext0 x) hsl hcc (fun _ hx => (tget_both (dT.stay hx (fun _ _ => nos)) f.name).1) g
end
end Go.Proofs.YtggmocdbfbhklaaGreat


/-
  What the laws of layer 24 are given: statements, names, numbers, a message.
-/
namespace Go.Proofs.YtggmocdbfbhklaaGreat
open Go Go.RK

set_option maxHeartbeats 2000000 in
set_option maxRecDepth 100000 in
theorem has_cel {h : Heap} {v : Value} (l : List Cel) (p : Cel → Bool) {fk : Nat} {fs us : List Value} (hcf : ∀ (args : Array Value) (w : World), (callFunc fk args).run Tryz.prog w = .ok (.enter fk args) w) (hr : Rd h v 2 l.length (l.flatMap Cel.cells)) (hm : l.length ≤ maxLen)
    (hp : ∀ x ∈ l, ∀ h', Ext No h h' → CallsH Tryz.prog fk ⟨fs ++ [.agg ⟨Cel.cells x⟩] ++ us⟩ h' fun u h'' => u = .bool (p x) ∧ Ext No h' h'') :
    CallsH Tryz.prog 25 ⟨[v, .func (.func fk) ⟨fs⟩ ⟨us⟩]⟩ h fun u h' => u = .bool (l.any p) ∧ Ext No h h' := by
  refine calls [(0, _), (1, _)] Tryz.func25 rfl Tryz.ntmps25 rfl ⟨rfl, rfl, trivial⟩ ?_
  all_goals (refine WC.sr ?_)
  all_goals (refine Go ?_)
  all_goals (refine WC.sr ?_)
  all_goals (refine Go ?_)
  all_goals (refine WL.call (vs := [_, _]) rfl (fun a w => Tryz.call51 a w) rfl (indexFunc_cel l p hcf hr hm hp) rfl rfl rfl ?_
             rintro _ h1 ⟨rfl, hx1⟩)
  all_goals (refine WL.step (ok_geq rfl rfl) rfl rfl rfl ?_)
  all_goals (refine Go ?_)
  all_goals (refine WC.sub [(4, _)] ⟨rfl, trivial⟩ ?_)
  all_goals (refine WC.ret ?_)
  all_goals (repeat' (with_reducible first | refine thenP_r ?_ | refine blockP_r ?_))
  all_goals (refine retP_1 _ ⟨rfl, trivial⟩ ?_)
  all_goals (exact ⟨by rw [idxP_geq], hx1⟩)

theorem wf_u8 {n : Int} (h : (Lit.int .u8 n).wf = true) : 0 ≤ n ∧ n ≤ 255 := by simpa [Lit.wf, IntKind.min, IntKind.max, IntKind.signed, IntKind.bits] using h
theorem opens_fm (w : World) : Opens Tryz.prog w 27 Fm.cells (fun b => b.ok w.heap ∧ 0 ≤ b.kind ∧ b.kind ≤ 255) := by
  have hi : ∀ {v : Value} {l : List Int}, Rd w.heap v 1 l.length (l.flatMap fun n : Int => [In n]) → Rd w.heap v 1 l.length (ints l) := fun h => by rwa [flat_one] at h
  have h10 := opensF_cons (P := Tryz.prog) (w := w) (o := 9) (f := ⟨ "Max", 3, 9, false, "", "", 152⟩) rfl (opens_int Tryz.underlying3) (by kernel_rfl) (fun _ => rfl) opensF_nil
  have h9 := opensF_cons (P := Tryz.prog) (w := w) (o := 8) (f := ⟨ "Params", 25, 8, false, "", "", 128⟩) rfl (opens_cells w) (by kernel_rfl) (fun _ => rfl) h10
  have h8 := opensF_cons (P := Tryz.prog) (w := w) (o := 7) (f := ⟨ "Results", 24, 7, false, "", "", 104⟩) rfl (opens_slice (sz := 1) (F := fun n : Int => [In n]) Tryz.underlying24 (by kernel_rfl) (by decide) (fun _ => rfl) (opens_int Tryz.underlying3)) (by kernel_rfl) (fun _ => rfl) h9
  have h7 := opensF_cons (P := Tryz.prog) (w := w) (o := 6) (f := ⟨ "Formats", 24, 6, false, "", "", 80⟩) rfl (opens_slice (sz := 1) (F := fun n : Int => [In n]) Tryz.underlying24 (by kernel_rfl) (by decide) (fun _ => rfl) (opens_int Tryz.underlying3)) (by kernel_rfl) (fun _ => rfl) h8
  have h6 := opensF_cons (P := Tryz.prog) (w := w) (o := 5) (f := ⟨ "OIDs", 24, 5, false, "", "", 56⟩) rfl (opens_slice (sz := 1) (F := fun n : Int => [In n]) Tryz.underlying24 (by kernel_rfl) (by decide) (fun _ => rfl) (opens_int Tryz.underlying3)) (by kernel_rfl) (fun _ => rfl) h7
  have h5 := opensF_cons (P := Tryz.prog) (w := w) (o := 4) (f := ⟨ "Text", 9, 4, false, "", "", 40⟩) rfl (opens_string Tryz.underlying9) (by kernel_rfl) (fun _ => rfl) h6
  have h4 := opensF_cons (P := Tryz.prog) (w := w) (o := 3) (f := ⟨ "Portal", 9, 3, false, "", "", 24⟩) rfl (opens_string Tryz.underlying9) (by kernel_rfl) (fun _ => rfl) h5
  have h3 := opensF_cons (P := Tryz.prog) (w := w) (o := 2) (f := ⟨ "Name", 9, 2, false, "", "", 8⟩) rfl (opens_string Tryz.underlying9) (by kernel_rfl) (fun _ => rfl) h4
  have h2 := opensF_cons (P := Tryz.prog) (w := w) (o := 1) (f := ⟨ "What", 5, 1, false, "", "", 1⟩) rfl (opens_int Tryz.underlying5) (by kernel_rfl) (fun _ => rfl) h3
  have h1 := opensF_cons (P := Tryz.prog) (w := w) (o := 0) (f := ⟨ "Kind", 5, 0, false, "", "", 0⟩) rfl (opens_int Tryz.underlying5) (by kernel_rfl) (fun _ => rfl) h2
  have h0 := opens_struct Tryz.underlying27 (by kernel_rfl) h1
  refine h0.map (fun p => (⟨p.1, p.2.1, p.2.2.1, p.2.2.2.1, p.2.2.2.2.1, p.2.2.2.2.2.1.1, p.2.2.2.2.2.1.2, p.2.2.2.2.2.2.1.1, p.2.2.2.2.2.2.1.2, p.2.2.2.2.2.2.2.1.1, p.2.2.2.2.2.2.2.1.2, p.2.2.2.2.2.2.2.2.1.1, p.2.2.2.2.2.2.2.2.1.2, p.2.2.2.2.2.2.2.2.2.1⟩ : Fm)) (fun _ => rfl) (fun p q => ?_)
  obtain ⟨q1, q2, q3, q4, q5, q6, q7, q8, q9, q10, _⟩ := q
  exact ⟨⟨⟨hi q6.1, q6.2.1⟩, ⟨hi q7.1, q7.2.1⟩, ⟨hi q8.1, q8.2.1⟩, q9⟩, wf_u8 q1⟩
theorem opens_texts (w : World) : Opens Tryz.prog w 23 (fun p : Value × List (List UInt8) => [p.1]) (fun p => Rd w.heap p.1 1 p.2.length (p.2.map St) ∧ p.2.length ≤ maxLen) :=
  (opens_slice (sz := 1) (F := fun l : List UInt8 => [St l]) Tryz.underlying23 (by kernel_rfl) (by decide) (fun _ => rfl) (opens_string Tryz.underlying9)).map id (fun _ => rfl) fun p q => ⟨by have := q.1; rw [flat_one] at this; exact this, q.2.1⟩
theorem opens_stms (w : World) : Opens Tryz.prog w 22 (fun p : Value × List Stm => [p.1]) (fun p => Rd w.heap p.1 2 p.2.length (p.2.flatMap stC) ∧ p.2.length ≤ maxLen ∧ ∀ d ∈ p.2, stOk w.heap d) :=
  (opens_slice Tryz.underlying22 (by kernel_rfl) (by decide) stC_len (opens_stm w)).map id (fun _ => rfl) fun p q => ⟨q.1, q.2.1, q.2.2.2.1⟩

/-! ### few -/
structure Fm.few (b : Fm) : Prop where
  oids : b.oids.length ≤ 50
  formats : b.formats.length ≤ 50
  results : b.results.length ≤ 50
  params : b.params.length ≤ 50
set_option maxHeartbeats 2000000 in
set_option maxRecDepth 100000 in
theorem pf1 {h h0 : Heap} (c : Cel) (hk : c.ok h0) : CallsH Tryz.prog 26 ⟨[.agg ⟨c.cells⟩]⟩ h fun u h' => u = .bool (decide (300 < c.bytes.length)) ∧ Ext No h h' := by
  obtain ⟨nl, v, bs⟩ := c
  obtain ⟨A, cc, e, _⟩ := hk.1
  simp only at e
  subst e
  dsimp only [Cel.cells]
  refine calls [(0, _)] Tryz.func26 rfl Tryz.ntmps26 rfl ⟨rfl, trivial⟩ ?_
  all_goals (refine WC.sr ?_)
  all_goals (refine WL.stepR (okE_box rfl) rfl rfl rfl ?_
             rintro _ h1 ⟨b1, rfl, hg1, hb1, hx1⟩)
  all_goals (refine Go ?_)
  all_goals (refine WC.sr ?_)
  all_goals (refine Go ?_)
  all_goals (refine WL.step (ok_load (fun w => Tryz.isAgg42 w) rfl (by first | assumption | exact cell_blk (by assumption) rfl)) rfl rfl rfl ?_)
  all_goals (refine Go ?_)
  all_goals (refine WC.sub [(2, _)] ⟨rfl, trivial⟩ ?_)
  all_goals (refine WC.ret ?_)
  all_goals (repeat' (with_reducible first | refine thenP_r ?_ | refine blockP_r ?_))
  all_goals (refine retP_1 _ ⟨rfl, trivial⟩ ?_)
  all_goals (exact ⟨congrArg Value.bool (decide_eq_decide.2 (by omega)), hx1⟩)
set_option maxHeartbeats 4000000 in
set_option maxRecDepth 100000 in
theorem plain_front {h : Heap} (b : Fm) (hb : b.ok h) : CallsH Tryz.prog 6 ⟨[.agg ⟨b.cells⟩]⟩ h fun u h' => (∃ x, u = .bool x ∧ (x = true → b.few)) ∧ Ext No h h' := by
  obtain ⟨⟨ho, _⟩, ⟨hf, _⟩, ⟨hs, _⟩, hr⟩ := hb
  obtain ⟨k, w, n, p, t, vo, lo, vf, lf, vs, ls, vp, lp, mx⟩ := b
  dsimp only at ho hf hs hr
  obtain ⟨hr0, hr1, hr2⟩ := hr
  have hrm : lp.length ≤ maxLen := by have := hr1.1; unfold reachBytes at this; unfold maxLen; omega
  obtain ⟨Ao, co, rfl, _⟩ := id ho
  obtain ⟨Af, cf, rfl, _⟩ := id hf
  obtain ⟨As, cs, rfl, _⟩ := id hs
  obtain ⟨Ap, cp, rfl, _⟩ := id hr0
  dsimp only [Fm.cells]
  refine calls [(0, _)] Tryz.func6 rfl Tryz.ntmps6 rfl ⟨rfl, trivial⟩ ?_
  all_goals (refine WC.sr ?_)
  all_goals (refine WL.stepR (okE_box rfl) rfl rfl rfl ?_
             rintro _ g1 ⟨b1, rfl, hg1, hb1, hX1⟩)
  all_goals (refine Go ?_)
  all_goals (refine WC.seq ?_)
  all_goals (refine WC.sr ?_)
  all_goals (refine Go ?_)
  all_goals (refine WL.step (ok_load (fun w => Tryz.isAgg24 w) rfl (by first | assumption | exact cell_blk (by assumption) rfl)) rfl rfl rfl ?_)
  all_goals (refine Go ?_)
  all_goals (refine goP 7 ?_ ?_ <;> first | exact ⟨⟩ | refine Hb.mk fun hb => ?_ | skip)
  all_goals (refine Gg ?_)
  all_goals (first | (refine WL.pass rfl rfl rfl ?_) | (refine WL.step (ok_load (fun w => Tryz.isAgg24 w) rfl (by first | assumption | exact cell_blk (by assumption) rfl)) rfl rfl rfl ?_))
  all_goals (refine Gg ?_)
  all_goals (refine Go ?_)
  all_goals (refine goP 13 ?_ ?_ <;> first | exact ⟨⟩ | refine Hb.mk fun hb => ?_ | skip)
  all_goals (refine Gg ?_)
  all_goals (first | (refine WL.pass rfl rfl rfl ?_) | (refine WL.step (ok_load (fun w => Tryz.isAgg24 w) rfl (by first | assumption | exact cell_blk (by assumption) rfl)) rfl rfl rfl ?_))
  all_goals (refine Gg ?_)
  all_goals (refine Go ?_)
  all_goals (refine goP 19 ?_ ?_ <;> first | exact ⟨⟩ | refine Hb.mk fun hb => ?_ | skip)
  all_goals (refine Gg ?_)
  all_goals (first | (refine WL.pass rfl rfl rfl ?_) | (refine WL.step (ok_load (fun w => Tryz.isAgg25 w) rfl (by first | assumption | exact cell_blk (by assumption) rfl)) rfl rfl rfl ?_))
  all_goals (refine Gg ?_)
  all_goals (refine Go ?_)
  all_goals (refine WC.sub [(1, _), (24, _)] ⟨rfl, rfl, trivial⟩ ?_)
  all_goals (refine goC 1 2 ?_ ?_ <;> first | exact ⟨⟩ | refine Hb.mk fun hb => ?_ | skip)
  all_goals (first | (fail_if_success refine goB 1 ?_) | (
  refine goB 1 ?_
  all_goals (refine WC.sr ?_)
  all_goals (refine Go ?_)
  all_goals (refine WC.ret ?_)
  all_goals (repeat' (with_reducible first | refine thenP_r ?_ | refine blockP_r ?_))
  all_goals (refine retP_1 _ ⟨rfl, trivial⟩ ?_)
  all_goals (first
              | (refine ⟨⟨false, rfl, fun z => by cases z⟩, ?_⟩
                 first | exact hX2 | exact hX1)
              | (refine ⟨⟨_, rfl, fun z => ?_⟩, hX2⟩
                 exact ⟨(by show lo.length ≤ 50; omega), (by show lf.length ≤ 50; omega), (by show ls.length ≤ 50; omega), (by show lp.length ≤ 50; omega)⟩))
  skip))
  all_goals (first | (fail_if_success refine goB 2 ?_) | (
  refine goB 2 ?_
  all_goals (refine WC.skip ?_)
  skip))
  all_goals (refine Gn ?_)
  all_goals (refine WC.seq ?_)
  all_goals (refine WC.sr ?_)
  all_goals (refine Go ?_)
  all_goals (refine WL.step (ok_load (fun w => Tryz.isAgg25 w) rfl (by first | exact cell_blk hb1 rfl | assumption | exact cell_blk (by assumption) rfl)) rfl rfl rfl ?_)
  all_goals (refine WL.call (vs := [_, _]) rfl (fun a w => Tryz.call25 a w) rfl (has_cel lp (fun c => decide (300 < c.bytes.length)) (fun a w => Tryz.call26 a w) (fs := []) (us := []) (hr0.ext0 hX1) hrm (fun x hx h' hx' => pf1 x (hr2 x hx))) rfl rfl rfl ?_
             rintro _ g2 ⟨rfl, hx2⟩)
  all_goals (have hb2 := hx2.obj hb1 nos
             have hX2 := hX1.trans hx2
             cases ha1 : lp.any fun c => decide (300 < c.bytes.length))
  all_goals (refine Gn ?_)
  all_goals (refine goC 3 4 ?_ ?_ <;> first | exact ⟨⟩ | refine Hb.mk fun hb => ?_ | skip)
  all_goals (first | (fail_if_success refine goB 3 ?_) | (
  refine goB 3 ?_
  all_goals (refine WC.sr ?_)
  all_goals (refine Go ?_)
  all_goals (refine WC.sub [(2, _)] ⟨rfl, trivial⟩ ?_)
  all_goals (refine WC.ret ?_)
  all_goals (repeat' (with_reducible first | refine thenP_r ?_ | refine blockP_r ?_))
  all_goals (refine retP_1 _ ⟨rfl, trivial⟩ ?_)
  all_goals (first
              | (refine ⟨⟨false, rfl, fun z => by cases z⟩, ?_⟩
                 first | exact hX2 | exact hX1)
              | (refine ⟨⟨_, rfl, fun z => ?_⟩, hX2⟩
                 exact ⟨(by show lo.length ≤ 50; omega), (by show lf.length ≤ 50; omega), (by show ls.length ≤ 50; omega), (by show lp.length ≤ 50; omega)⟩))
  skip))
  all_goals (first | (fail_if_success refine goB 4 ?_) | (
  refine goB 4 ?_
  all_goals (refine WC.skip ?_)
  skip))
  all_goals (refine Gn ?_)
  all_goals (refine WC.sub [(1, _)] ⟨rfl, trivial⟩ ?_)
  all_goals (refine WC.sr ?_)
  all_goals (refine Go ?_)
  all_goals (refine WL.step (ok_load (fun w => Tryz.isAgg9 w) rfl (by first | exact cell_blk hb2 rfl | assumption | exact cell_blk (by assumption) rfl)) rfl rfl rfl ?_)
  all_goals (refine Go ?_)
  all_goals (refine goP 32 ?_ ?_ <;> first | exact ⟨⟩ | refine Hb.mk fun hb => ?_ | skip)
  all_goals (refine Gg ?_)
  all_goals (first | (refine WL.pass rfl rfl rfl ?_) | (refine WL.step (ok_load (fun w => Tryz.isAgg9 w) rfl (by first | exact cell_blk hb2 rfl | assumption | exact cell_blk (by assumption) rfl)) rfl rfl rfl ?_))
  all_goals (refine Gg ?_)
  all_goals (refine Go ?_)
  all_goals (refine goP 38 ?_ ?_ <;> first | exact ⟨⟩ | refine Hb.mk fun hb => ?_ | skip)
  all_goals (refine Gg ?_)
  all_goals (first | (refine WL.pass rfl rfl rfl ?_) | (refine WL.step (ok_load (fun w => Tryz.isAgg9 w) rfl (by first | exact cell_blk hb2 rfl | assumption | exact cell_blk (by assumption) rfl)) rfl rfl rfl ?_))
  all_goals (refine Gg ?_)
  all_goals (refine Go ?_)
  all_goals (refine WC.sub [(2, _)] ⟨rfl, trivial⟩ ?_)
  all_goals (refine WC.ret ?_)
  all_goals (repeat' (with_reducible first | refine thenP_r ?_ | refine blockP_r ?_))
  all_goals (refine retP_1 _ ⟨rfl, trivial⟩ ?_)
  all_goals (first
              | (refine ⟨⟨false, rfl, fun z => by cases z⟩, ?_⟩
                 first | exact hX2 | exact hX1)
              | (refine ⟨⟨_, rfl, fun z => ?_⟩, hX2⟩
                 exact ⟨(by show lo.length ≤ 50; omega), (by show lf.length ≤ 50; omega), (by show ls.length ≤ 50; omega), (by show lp.length ≤ 50; omega)⟩))
end Go.Proofs.YtggmocdbfbhklaaGreat


/-
  KNOWN (layer 24): a registry and a table, of the code and of the document, that hold what the law was given.
-/
namespace Go.Proofs.YtggmocdbfbhklaaGreat
open Go Go.RK

theorem retP_4 {P : Program} {h : Heap} {f : Fr} {fn : Func} {R : Value → Heap → Prop} (v u x y : Value) (hr : ResL P h f fn.results.toList [v, u, x, y]) (hR : R (.tuple ⟨[v, u, x, y]⟩) h) : retP P fn R .ret f h := ⟨[v, u, x, y], hr, hR⟩
/-! ### they keep out of each other's way -/
theorem ty_not {l l' : List TypeId} {h : Heap} {q : Nat} (hd : ∀ T ∈ l, T ∉ l') (k : Ty l h q) : ¬ Ty l' h q := fun k' => by
  obtain ⟨cs, T, e1, e2⟩ := k
  exact hd T e2 (ty_one e1 k')
section
variable {h0 hT h h1 h' : Heap} {B B' : Nat} {c : Int} {b m1 m2 bt tb tm tr : Nat} {v15 : Value} {most : Int} {s s' : RS} {T : List NI} {S : Nat → Prop}
theorem T15.turn (d : T15 hT h tb tm tr v15 most T) (e : Ext S h h1) (hS : ∀ k, S k → hT.size ≤ k ∧ k ≠ tm ∧ ¬ Ty [107, 110, 115] h k) : T15 hT h1 tb tm tr v15 most T := by
  obtain ⟨E, t, hp⟩ := d.tb
  exact ⟨⟨E, t.ext e (fun z => (hS _ z).2.2 ⟨_, _, t.cells, by simp⟩) (fun z => (hS _ z).2.1 rfl), hp⟩, d.rf.ext e (fun z => (hS _ z).2.2 ⟨_, _, d.rf.blk, by simp⟩) (fun q hq z => by obtain ⟨_, e2⟩ := own_kd d.rf.own hq; exact (hS _ z).2.2 ⟨_, _, e2, by simp⟩), d.rise, d.ext.trans' e (fun k hk z => absurd hk (by have := (hS k z).1; omega)), d.lo, d.le, d.most⟩
theorem T15.map (d : T15 hT h tb tm tr v15 most T) : ∃ es ck, h[tm]? = some (.map es ck) := by
  obtain ⟨E, t, _⟩ := d.tb
  obtain ⟨_, _, e, _⟩ := t.map
  exact ⟨_, _, e⟩
theorem dst_cs (d : Dst h0 h B bt s) (cm : Cst h0 h B' c b m1 m2 s') (x : Ext (CS h0 m1 m2 h) h h1) : Dst h0 h1 B bt s := by
  obtain ⟨⟨es, ck, e1⟩, es2, ck2, e2⟩ := cm.maps
  refine d.ext x fun q hq => hq.2.elim (fun z => ?_) (ty_not (by decide))
  simp only [List.mem_cons, List.not_mem_nil, or_false] at z
  rcases z with rfl | rfl
  · exact ty_map e1
  · exact ty_map e2
theorem cst_ds (d : Cst h0 h B c b m1 m2 s) (x : Ext (DS h0 h) h h1) : Cst h0 h1 B c b m1 m2 s := by
  obtain ⟨⟨es, ck, e1⟩, es2, ck2, e2⟩ := d.maps
  refine d.ext x fun q hq => hq.2.elim (fun z => by cases z) fun ty => ⟨?_, ?_, ty_not (by decide) ty⟩
  · rintro rfl; exact ty_map e1 ty
  · rintro rfl; exact ty_map e2 ty
theorem t15_cs (d : T15 hT h tb tm tr v15 most T) (hTz : hT.size ≤ h0.size) (cm : Cst h0 h B' c b m1 m2 s') (ne : tm ≠ m1 ∧ tm ≠ m2) (x : Ext (CS h0 m1 m2 h) h h1) : T15 hT h1 tb tm tr v15 most T := by
  obtain ⟨⟨es, ck, e1⟩, es2, ck2, e2⟩ := cm.maps
  obtain ⟨es3, ck3, e3⟩ := d.map
  refine d.turn x fun q hq => ⟨Nat.le_trans hTz hq.1, ?_⟩
  rcases hq.2 with z | ty
  · simp only [List.mem_cons, List.not_mem_nil, or_false] at z
    rcases z with rfl | rfl
    · exact ⟨fun e => ne.1 e.symm, ty_map e1⟩
    · exact ⟨fun e => ne.2 e.symm, ty_map e2⟩
  · exact ⟨by rintro rfl; exact ty_map e3 ty, ty_not (by decide) ty⟩
theorem t15_ds (d : T15 hT h tb tm tr v15 most T) (hTz : hT.size ≤ h0.size) (x : Ext (DS h0 h) h h1) : T15 hT h1 tb tm tr v15 most T := by
  obtain ⟨es3, ck3, e3⟩ := d.map
  refine d.turn x fun q hq => ⟨Nat.le_trans hTz hq.1, ?_⟩
  rcases hq.2 with z | ty
  · cases z
  · exact ⟨by rintro rfl; exact ty_map e3 ty, ty_not (by decide) ty⟩
theorem m15_ty (d : T15 hT h tb tm tr v15 most T) {q : Nat} (hq : M15 tm tr v15 q) : q = tm ∨ Ty [110, 115] h q := by
  rcases hq with rfl | rfl | e
  · exact .inl rfl
  · exact .inr ⟨_, _, d.rf.blk, by simp⟩
  · obtain ⟨_, e2⟩ := own_kd d.rf.own e
    exact .inr ⟨_, _, e2, by simp⟩
theorem cst_15 (d : Cst h0 h B c b m1 m2 s) (t : T15 hT h tb tm tr v15 most T) (ne : tm ≠ m1 ∧ tm ≠ m2) (x : Ext (M15 tm tr v15) h h1) : Cst h0 h1 B c b m1 m2 s := by
  obtain ⟨⟨es, ck, e1⟩, es2, ck2, e2⟩ := d.maps
  obtain ⟨es3, ck3, e3⟩ := t.map
  refine d.ext x fun q hq => ?_
  rcases m15_ty t hq with rfl | ty
  · exact ⟨ne.1, ne.2, ty_map e3⟩
  · exact ⟨by rintro rfl; exact ty_map e1 ty, by rintro rfl; exact ty_map e2 ty, ty_not (by decide) ty⟩
theorem dst_15 (d : Dst h0 h B bt s) (t : T15 hT h tb tm tr v15 most T) (x : Ext (M15 tm tr v15) h h1) : Dst h0 h1 B bt s := by
  obtain ⟨es3, ck3, e3⟩ := t.map
  refine d.ext x fun q hq => ?_
  rcases m15_ty t hq with rfl | ty
  · exact ty_map e3
  · exact ty_not (by decide) ty
end
/-- A registry and a table, of the code and of the document. -/
structure Kn (h0 h : Heap) (c : Int) (b m1 m2 bt tb tm tr : Nat) (v15 : Value) (s : RS) (T : List NI) : Prop where
  cst : Cst h0 h h0.size c b m1 m2 s
  dst : Dst h0 h h0.size bt s
  tab : T15 h0 h tb tm tr v15 40 T
  ne : tm ≠ m1 ∧ tm ≠ m2
  ext : Ext No h0 h
section
variable {h0 h h1 h2 : Heap} {c c' : Int} {b m1 m2 bt tb tm tr : Nat} {v15 v15' : Value} {s s' : RS} {T T' : List NI}
theorem Kn.ext0 (k : Kn h0 h c b m1 m2 bt tb tm tr v15 s T) (x : Ext No h h1) : Kn h0 h1 c b m1 m2 bt tb tm tr v15 s T := ⟨k.cst.ext0 x, k.dst.ext0 x, k.tab.stay x (fun _ _ => nos), k.ne, k.ext.trans x⟩
theorem Kn.up (k : Kn h0 h c b m1 m2 bt tb tm tr v15 s T) (k1 : c ≤ c') (k2 : c' ≤ 1000000) : Kn h0 h c' b m1 m2 bt tb tm tr v15 s T := ⟨k.cst.up k1 k2, k.dst, k.tab, k.ne, k.ext⟩
/-- Both registries have taken one in. -/
theorem Kn.two (k : Kn h0 h c b m1 m2 bt tb tm tr v15 s T) (x : Ext (CS h0 m1 m2 h) h h1) (cm : Cst h0 h1 h0.size c' b m1 m2 s') (y : Ext (DS h0 h1) h1 h2) (dm : Dst h0 h2 h0.size bt s') : Kn h0 h2 c' b m1 m2 bt tb tm tr v15 s' T :=
  ⟨cst_ds cm y, dm, t15_ds (t15_cs k.tab (Nat.le_refl _) k.cst k.ne x) (Nat.le_refl _) y, k.ne, fs_old (fs_old k.ext x) y⟩
/-- Both tables have. -/
theorem Kn.set (k : Kn h0 h c b m1 m2 bt tb tm tr v15 s T) (x : Ext (M15 tm tr v15) h h1) (t : T15 h0 h1 tb tm tr v15' 40 T') : Kn h0 h1 c b m1 m2 bt tb tm tr v15' s T' :=
  ⟨cst_15 k.cst k.tab k.ne x, dst_15 k.dst k.tab x, t, k.ne, t.ext⟩
end
set_option maxHeartbeats 4000000 in
set_option maxRecDepth 100000 in
theorem known24 {h0 h : Heap} {vl vn : Value} (l : List Stm) (N : List (List UInt8)) (X0 : Ext No h0 h) (hr : Rd h0 vl 2 l.length (l.flatMap stC)) (hl : l.length ≤ maxLen) (ok : ∀ d ∈ l, stOk h0 d) (hrn : Rd h0 vn 1 N.length (N.map St)) (hN : N.length ≤ maxLen) :
    CallsH Tryz.prog 5 ⟨[vl, vn]⟩ h fun u h' => ∃ b m1 m2 bt tb tm tr v15 s T, u = .tuple ⟨[ptE b, .pointer (some ⟨tb, 0, none⟩), ptE bt, .pointer (some ⟨tr, 0, none⟩)]⟩ ∧ Kn h h' 20 b m1 m2 bt tb tm tr v15 s T := by
  obtain ⟨A, c, rfl, _⟩ := id hr
  obtain ⟨An, cn, rfl, _⟩ := id hrn
  unfold maxLen at hl hN
  have kput := fun (g : Heap) (c : Int) (b m1 m2 : Nat) (s : RS) (d : Cst h g h.size c b m1 m2 s) (t : List UInt8) (v : Value) (o : List Int) (ok : stOk h0 (t, v, o)) (x : Ext No h g) (hc : c + 1 ≤ 1000000) => c_put (v := v) d t o (fun h' x' => ok.1.ext0 (X0.trans (fs_old x x'))) ok.le hc
  have kdput := fun (g : Heap) (c : Int) (bt : Nat) (s : RS) (d : Dst h g h.size bt s) (sv : Sv c s) (t : List UInt8) (v : Value) (o : List Int) (ok : stOk h0 (t, v, o)) (x : Ext No h g) (hc : c + 1 ≤ 1000000) => d_put (w := v) d sv hc x t o ⟨ok.1.ext0 X0, ok.2⟩
  unfold ptE at *
  refine calls [(0, _), (1, _)] Tryz.func5 rfl Tryz.ntmps5 rfl ⟨rfl, rfl, trivial⟩ ?_
  all_goals (refine WC.sr ?_)
  all_goals (refine Go ?_)
  all_goals (refine WC.sub [(0, _), (1, _)] ⟨rfl, rfl, trivial⟩ ?_)
  all_goals (refine WC.sr ?_)
  all_goals (refine WL.call (vs := []) rfl (fun a w => Tryz.call18 a w) rfl (rg_new h.size (Nat.le_refl _)) rfl rfl rfl ?_
             rintro _ h1 ⟨b, m1, m2, rfl, r1, hx1⟩
             unfold ptE)
  all_goals (refine WL.step (ok_buildF (vs := []) (cs := [_, _]) (fun | [] => [(.slice none 0 0), (.int .i64 0)] | _ => []) rfl rfl (by kernel_rfl)) rfl rfl rfl ?_)
  all_goals (refine WL.stepR (okE_box rfl) rfl rfl rfl ?_
             rintro _ h2 ⟨bt, rfl, hgt, hbt, hx2⟩)
  all_goals (refine Go ?_)
  all_goals (refine WC.sr ?_)
  all_goals (refine WL.call (vs := [_]) rfl (fun a w => Tryz.call19 a w) rfl (new_yes 40 (by decide) (by decide)) rfl rfl rfl ?_
             rintro _ h3 ⟨tb, tm, rfl, t3, htb, htm, hx3⟩)
  all_goals (refine Go ?_)
  all_goals (refine WC.sub [(0, _), (1, _), (8, _), (9, _), (10, _)] ⟨rfl, rfl, rfl, rfl, rfl, trivial⟩ ?_)
  all_goals (refine WC.sr ?_)
  all_goals (refine WL.call (vs := [_]) rfl (fun a w => Tryz.call20 a w) rfl (new15_yes (by decide) (by decide)) rfl rfl rfl ?_
             rintro _ h4 ⟨tr, rfl, t4, htr, hx4⟩)
  all_goals (have s1 := hx1.size
             have s2 := hx2.size
             have s3 := hx3.size
             have s4 := hx4.size
             have X4 : Ext No h h4 := ((hx1.trans hx2).trans hx3).trans hx4
             have C1 : Cst h h1 h.size 0 b m1 m2 (0, []) := ⟨⟨[], r1, rfl⟩, Nat.le_refl _⟩
             have hne : tm ≠ m1 ∧ tm ≠ m2 := by
              obtain ⟨⟨es, ck, e1⟩, es2, ck2, e2⟩ := C1.maps
              have := lt_of_some e1
              have := lt_of_some e2
              exact ⟨by omega, by omega⟩
             have K4 : Kn h h4 0 b m1 m2 bt tb tm tr (.slice none 0 0) (0, []) [] := ⟨C1.ext0 ((hx2.trans hx3).trans hx4), ⟨⟨_, [], ⟨((hx3.trans hx4)).obj hbt nos, Own.nil _ _ _, (fun _ e => by cases e), ⟨by omega, by simp [Value.ownBlock], fun _ e => by cases e⟩, ⟨by decide, fun _ e => by cases e⟩⟩, rfl⟩, Nat.le_refl _⟩, ⟨⟨[], t3.ext hx4 nos nos, .refl _⟩, t4, .nil, X4, ⟨by omega, by omega, by omega, fun _ e => by simp [Value.ownBlock] at e⟩, by simp, by decide⟩, hne, X4⟩
             clear t3 t4 hbt C1 r1)
  all_goals (refine Go ?_)
  all_goals (refine WC.sub [(0, _), (1, _), (8, _), (9, _), (10, _), (12, _)] ⟨rfl, rfl, rfl, rfl, rfl, rfl, trivial⟩ ?_)
  all_goals (refine WC.seq ?_)
  all_goals (refine WC.sr ?_)
  all_goals (refine Go ?_)
  all_goals (refine WC.block ?_)
  -- loop 0: slots that turn [30], that stay [1, 8, 9, 10, 12, 28, 29]
  all_goals (refine WC.loopG (X := Nat × Value × RS × List NI) (fun x => ([(30, In (x.1 : Int))] : Fr)) [(1, _), (8, _), (9, _), (10, _), (12, _), (28, _), (29, _)] (fun x h' => x.1 ≤ l.length ∧ x.1 ≤ 20 ∧ Kn h h' (x.1 : Int) b m1 m2 bt tb tm tr x.2.1 x.2.2.1 x.2.2.2) (fun x => l.length - x.1) ((0, .slice none 0 0, (0, []), [])) ⟨rfl, rfl, rfl, rfl, rfl, rfl, rfl, rfl, trivial⟩ (by exact ⟨Nat.zero_le _, Nat.zero_le _, K4⟩) ?_)
  all_goals (rintro ⟨k, w, s, T⟩ h4' ⟨hk, hk20, d4⟩
             dsimp only at hk hk20 d4)
  all_goals (refine WC.sub [(30, _), (1, _), (8, _), (9, _), (10, _), (12, _), (28, _), (29, _)] ⟨rfl, rfl, rfl, rfl, rfl, rfl, rfl, rfl, trivial⟩ ?_)
  all_goals (dsimp only)
  all_goals (refine WC.sr ?_)
  all_goals (refine Go ?_)
  all_goals (refine WC.seq ?_)
  all_goals (refine goC 1 2 ?_ ?_ <;> first | exact ⟨⟩ | refine Hb.mk fun hb => ?_ | skip)
  all_goals (first | (fail_if_success refine goB 1 ?_) | (
  refine goB 1 ?_
  all_goals (refine WC.skip ?_)
  skip))
  all_goals (first | (fail_if_success refine goB 2 ?_) | (
  refine goB 2 ?_
  all_goals (refine WC.exit ?_)
  all_goals (repeat' (with_reducible first | refine thenP_x ?_ | refine blockP_miss rfl ?_ | refine blockP_hit ?_ | refine blockP_n ?_ | refine thenP_n ?_))
  all_goals (refine Br.out (i := 1000) ?_)
  skip))
  all_goals (refine Gn ?_)
  all_goals (first | (refine Br.keep ?_) | (refine WC.seq ?_))
  all_goals (first | (refine Br.keep ?_) | (refine WC.block ?_))
  all_goals (first | (refine Br.keep ?_) | (refine WC.sr ?_))
  all_goals (first
               | (refine Br.keep ?_)
               | (obtain ⟨bL, oL, hA, hbL, hat⟩ := Rd.at_ hr (by omega)
                  obtain ⟨⟨t, v, o⟩, hdk⟩ : ∃ d, l[k]? = some d := ⟨_, List.getElem?_eq_getElem (by omega)⟩
                  have X4' := X0.trans d4.ext
                  have hd : At h4' bL (oL + k * 2) [St t, v] := At.elem stC_len (hat.ext X4' nos) hdk
                  have okd := ok _ (List.mem_of_getElem? hdk)
                  have okr := okd.1
                  have okl : o.length ≤ maxLen := okd.le
                  dsimp only at okr
                  obtain ⟨Av, cv, hv, _⟩ := okr
                  subst hv
                  unfold maxLen at okl))
  all_goals (first | (refine Br.keep ?_) | (refine WL.step (ok_move rfl) rfl rfl rfl ?_))
  all_goals (first | (refine Br.keep ?_) | (refine WL.step (ok_idxAddrA Tryz.underlying22 (fun w => Tryz.sizeOf63 w) rfl rfl rfl (by omega) (by first | rfl | assumption)) rfl rfl rfl ?_))
  all_goals (first | (refine Br.keep ?_) | (refine WL.step (ok_loadN (fun w => Tryz.isAgg63 w) (fun w => Tryz.sizeOf63 w) rfl rfl (by exact hd)) rfl rfl rfl ?_))
  all_goals (first
               | (refine Br.keep ?_)
               | (refine WL.stepR (okE_alloc (fun w => Tryz.zeroValue63 w)) rfl rfl rfl ?_
                  rintro _ h5 ⟨b6, rfl, hg6, hb6, hx5⟩))
  all_goals (refine Go ?_)
  all_goals (first
               | (refine Br.keep ?_)
               | (refine WL.stepR0 (okE_storeW (fun w => Tryz.sizeOf63 w) rfl rfl rfl hb6 rfl (by simp [Value.oneCell'])) rfl rfl ?_
                  rintro _ h6 ⟨hb66, hx6⟩))
  all_goals (first
               | (refine Br.keep ?_)
               | (have hx46 : Ext No h4' h6 := hx5.trans' hx6 (fun q hq e => by omega)
                  have d6 := d4.ext0 hx46
                  have l6 := lt_of_some hb66))
  all_goals (refine Gn ?_)
  all_goals (first | (refine Br.keep ?_) | (refine WC.sub [(1, _), (8, _), (9, _), (10, _), (12, _), (14, _), (15, _), (28, _), (29, _), (30, _)] ⟨rfl, rfl, rfl, rfl, rfl, rfl, rfl, rfl, rfl, rfl, trivial⟩ ?_))
  all_goals (first | (refine Br.keep ?_) | (refine WC.seq ?_))
  all_goals (first | (refine Br.keep ?_) | (refine WC.sr ?_))
  all_goals (refine Go ?_)
  all_goals (first | (refine Br.keep ?_) | (refine goP 37 ?_ ?_ <;> first | exact ⟨⟩ | refine Hb.mk fun hb => ?_ | skip))
  all_goals (refine Gg ?_)
  all_goals (first | (refine Br.keep ?_) | (first | (refine WL.pass rfl rfl rfl ?_) | (refine WL.step (ok_load (fun w => Tryz.isAgg9 w) rfl (by first | exact cell_blk hb66 rfl | assumption | exact cell_blk (by assumption) rfl)) rfl rfl rfl ?_)))
  all_goals (refine Gg ?_)
  all_goals (refine Go ?_)
  all_goals (first | (refine Br.keep ?_) | (refine goP 43 ?_ ?_ <;> first | exact ⟨⟩ | refine Hb.mk fun hb => ?_ | skip))
  all_goals (refine Gg ?_)
  all_goals (first | (refine Br.keep ?_) | (first | (refine WL.pass rfl rfl rfl ?_) | (refine WL.step (ok_load (fun w => Tryz.isAgg24 w) rfl (by first | exact cell_blk hb66 rfl | assumption | exact cell_blk (by assumption) rfl)) rfl rfl rfl ?_)))
  all_goals (refine Gg ?_)
  all_goals (refine Go ?_)
  all_goals (first | (refine Br.keep ?_) | (refine goP 49 ?_ ?_ <;> first | exact ⟨⟩ | refine Hb.mk fun hb => ?_ | skip))
  all_goals (first | (refine Br.keep ?_) | (first | (refine WL.pass rfl rfl rfl ?_) | (refine WL.step (ok_move rfl) rfl rfl rfl ?_)))
  all_goals (first | (refine Br.keep ?_) | (first | (refine WL.pass rfl rfl rfl ?_) | (refine WL.step (ok_eqlPn Tryz.underlying29 rfl rfl) rfl rfl rfl ?_)))
  all_goals (refine Go ?_)
  all_goals (first | (refine Br.keep ?_) | (refine goP 53 ?_ ?_ <;> first | exact ⟨⟩ | refine Hb.mk fun hb => ?_ | skip))
  all_goals (first | (refine Br.keep ?_) | (first | (refine WL.pass rfl rfl rfl ?_) | (refine WL.step (ok_move rfl) rfl rfl rfl ?_)))
  all_goals (first | (refine Br.keep ?_) | (first | (refine WL.pass rfl rfl rfl ?_) | (refine WL.step (ok_eqlPn Tryz.underlying28 rfl rfl) rfl rfl rfl ?_)))
  all_goals (refine Go ?_)
  all_goals (first | (refine Br.keep ?_) | (refine WC.sub [(1, _), (8, _), (9, _), (10, _), (12, _), (14, _), (15, _), (28, _), (29, _), (30, _), (56, _)] ⟨rfl, rfl, rfl, rfl, rfl, rfl, rfl, rfl, rfl, rfl, rfl, trivial⟩ ?_))
  all_goals (first | (refine Br.keep ?_) | (refine goC 3 4 ?_ ?_ <;> first | exact ⟨⟩ | refine Hb.mk fun hb => ?_ | skip))
  all_goals (first | (fail_if_success refine goB 3 ?_) | (
  refine goB 3 ?_
  all_goals (refine WC.exit ?_)
  all_goals (repeat' (with_reducible first | refine thenP_x ?_ | refine blockP_miss rfl ?_ | refine blockP_hit ?_ | refine blockP_n ?_ | refine thenP_n ?_))
  all_goals (refine Br.out (i := 1000) ?_)
  skip))
  all_goals (first | (fail_if_success refine goB 4 ?_) | (
  refine goB 4 ?_
  all_goals (refine WC.skip ?_)
  skip))
  all_goals (refine Gn ?_)
  all_goals (first | (refine Br.keep ?_) | (refine WC.sr ?_))
  all_goals (refine Go ?_)
  all_goals (first | (refine Br.keep ?_) | (refine WL.step (ok_loadN (fun w => Tryz.isAgg63 w) (fun w => Tryz.sizeOf63 w) rfl rfl (by exact At.of_block hb66)) rfl rfl rfl ?_))
  all_goals (first
               | (refine Br.keep ?_)
               | (refine WL.call (vs := [_, _]) rfl (fun a w => Tryz.call21 a w) rfl (kput _ _ _ _ _ _ d6.cst t _ o okd d6.ext (by omega)) rfl rfl rfl ?_
                  rintro _ h7 ⟨rfl, c7, hx7⟩))
  all_goals (first
               | (refine Br.keep ?_)
               | (have hb67 := hx7.obj hb66 (fun e => by
                   rcases e.2 with z | ty
                   · simp only [List.mem_cons, List.not_mem_nil, or_false] at z
                     obtain ⟨⟨es, ck, e1⟩, es2, ck2, e2⟩ := d6.cst.maps
                     rcases z with rfl | rfl
                     · rw [hb66] at e1; cases e1
                     · rw [hb66] at e2; cases e2
                   · exact absurd (ty_one hb66 ty) (by decide))
                  have d7 := dst_cs d6.dst d6.cst hx7
                  have x7 := fs_old d6.ext hx7))
  all_goals (refine Go ?_)
  all_goals (first | (refine Br.keep ?_) | (refine WC.sub [(1, _), (8, _), (9, _), (10, _), (12, _), (14, _), (15, _), (16, _), (28, _), (29, _), (30, _)] ⟨rfl, rfl, rfl, rfl, rfl, rfl, rfl, rfl, rfl, rfl, rfl, trivial⟩ ?_))
  all_goals (first | (refine Br.keep ?_) | (refine WC.sr ?_))
  all_goals (refine Go ?_)
  all_goals (first | (refine Br.keep ?_) | (refine WL.step (ok_loadN (fun w => Tryz.isAgg63 w) (fun w => Tryz.sizeOf63 w) rfl rfl (by exact At.of_block hb67)) rfl rfl rfl ?_))
  all_goals (first
               | (refine Br.keep ?_)
               | (refine WL.call (vs := [_, _]) rfl (fun a w => Tryz.call22 a w) rfl (kdput _ _ _ _ d7 d6.cst.sv t _ o okd x7 (by omega)) rfl rfl rfl ?_
                  rintro _ h8 ⟨rfl, d8, hx8⟩))
  all_goals (first
               | (refine Br.keep ?_)
               | (have K8 := d6.two hx7 c7 hx8 d8
                  clear d7 c7 d8 hb67))
  all_goals (refine Gn ?_)
  all_goals (first | (refine Br.keep ?_) | (refine WC.sub [(1, _), (8, _), (9, _), (10, _), (12, _), (14, _), (16, _), (28, _), (29, _), (30, _)] ⟨rfl, rfl, rfl, rfl, rfl, rfl, rfl, rfl, rfl, rfl, trivial⟩ ?_))
  all_goals (first | (refine Br.keep ?_) | (refine WC.sr ?_))
  all_goals (first
               | (refine Br.keep ?_)
               | (have hnm : (N.length ≤ k) ∨ ∃ bn on nm, An = some ⟨bn, on, none⟩ ∧ k < N.length ∧ ∀ g, Ext No h g → cell g ⟨bn, on + k * 1, none⟩ = some (St nm) := by
                   by_cases hkn : k < N.length
                   · obtain ⟨bn, on, hAn, _, hatn⟩ := Rd.at_ hrn (by omega)
                     exact .inr ⟨bn, on, N[k], hAn, hkn, fun g x => (hatn.ext (X0.trans x) nos).get k (by simp [hkn]) (by omega)⟩
                   · exact .inl (by omega)
                  rcases hnm with hnm | ⟨bn, on, nm, rfl, hkn, hnm⟩))
  all_goals (first | (refine Br.keep ?_) | (refine WL.step (ok_move rfl) rfl rfl rfl ?_))
  all_goals (refine Go ?_)
  all_goals (first | (refine Br.keep ?_) | (refine goP 67 ?_ ?_ <;> first | exact ⟨⟩ | refine Hb.mk fun hb => ?_ | skip))
  all_goals (refine Gg ?_)
  all_goals (first | (refine Br.keep ?_) | (first | (refine WL.pass rfl rfl rfl ?_) | (refine WL.step (ok_idxAddrA Tryz.underlying23 (fun w => Tryz.sizeOf9 w) rfl rfl rfl (by omega) (by first | rfl | assumption)) rfl rfl rfl ?_)))
  all_goals (first | (refine Br.keep ?_) | (first | (refine WL.pass rfl rfl rfl ?_) | (refine WL.step (ok_load (fun w => Tryz.isAgg9 w) rfl (by first | exact hnm _ K8.ext | assumption | exact cell_blk (by assumption) rfl)) rfl rfl rfl ?_)))
  all_goals (refine Gg ?_)
  all_goals (refine Go ?_)
  all_goals (first | (refine Br.keep ?_) | (refine WC.sub [(1, _), (8, _), (9, _), (10, _), (12, _), (14, _), (16, _), (28, _), (29, _), (30, _), (74, _)] ⟨rfl, rfl, rfl, rfl, rfl, rfl, rfl, rfl, rfl, rfl, rfl, trivial⟩ ?_))
  all_goals (first | (refine Br.keep ?_) | (refine goC 5 6 ?_ ?_ <;> first | exact ⟨⟩ | refine Hb.mk fun hb => ?_ | skip))
  all_goals (first | (fail_if_success refine goB 5 ?_) | (
  refine goB 5 ?_
  all_goals (refine WC.sr ?_)
  all_goals (refine Go ?_)
  all_goals (refine WL.step (ok_idxAddrA Tryz.underlying23 (fun w => Tryz.sizeOf9 w) rfl rfl rfl (by omega) (by first | rfl | assumption)) rfl rfl rfl ?_)
  all_goals (refine WL.step (ok_load (fun w => Tryz.isAgg9 w) rfl (by first | exact hnm _ K8.ext | assumption | exact cell_blk (by assumption) rfl)) rfl rfl rfl ?_)
  all_goals (refine Go ?_)
  all_goals (refine WL.call (vs := [_, _, _]) rfl (fun a w => Tryz.call23 a w) rfl (tset_both K8.tab nm _) rfl rfl rfl ?_
             rintro _ h9 ⟨x9, e9, rfl, hx9, c9⟩)
  all_goals (have y9 : Ext No h h9 := K8.ext.trans' hx9 (fun q hq e => absurd e (fun e => by
              rcases e with rfl | rfl | e
              · have := K8.tab.lo.2.1; omega
              · have := K8.tab.lo.2.2.1; omega
              · have := K8.tab.lo.2.2.2 q e; omega)))
  all_goals (refine Gn ?_)
  all_goals (refine WC.sub [(1, _), (8, _), (9, _), (10, _), (12, _), (14, _), (16, _), (28, _), (29, _), (30, _)] ⟨rfl, rfl, rfl, rfl, rfl, rfl, rfl, rfl, rfl, rfl, trivial⟩ ?_)
  all_goals (refine WC.region ?_)
  all_goals (refine Go ?_)
  all_goals (refine WL.step (ok_idxAddrA Tryz.underlying23 (fun w => Tryz.sizeOf9 w) rfl rfl rfl (by omega) (by first | rfl | assumption)) rfl rfl rfl ?_)
  all_goals (refine WL.step (ok_load (fun w => Tryz.isAgg9 w) rfl (by first | exact hnm _ y9 | assumption | exact cell_blk (by assumption) rfl)) rfl rfl rfl ?_)
  all_goals (refine Go ?_)
  all_goals (refine WL.call (vs := [_, _, _]) rfl (fun a w => Tryz.call24 a w) rfl (c9) rfl rfl rfl ?_
             rintro _ h10 ⟨rfl, hx10, v10, T10, t10⟩)
  all_goals (have K10 := K8.set (hx9.trans' hx10 fun _ _ e => e) t10)
  all_goals (refine Gn ?_)
  skip))
  all_goals (first | (fail_if_success refine goB 6 ?_) | (
  refine goB 6 ?_
  all_goals (refine WC.skip ?_)
  skip))
  all_goals (refine Gn ?_)
  all_goals (first | (refine Br.keep ?_) | (refine WC.region ?_))
  all_goals (refine Go ?_)
  all_goals (first | (refine Br.keep ?_) | (exact ⟨(k + 1, _, _, _), ⟨rfl, rfl, rfl, rfl, rfl, rfl, rfl, rfl, trivial⟩, (by first | exact ⟨by omega, by omega, K10⟩ | exact ⟨by omega, by omega, K8⟩), (by simp; omega)⟩))
  all_goals (try (refine Br.mk (i := 1000) ?_))
  all_goals (refine Gn ?_)
  all_goals (refine WC.sub [(8, _), (9, _), (10, _), (12, _)] ⟨rfl, rfl, rfl, rfl, trivial⟩ ?_)
  all_goals (refine WC.sr ?_)
  all_goals (refine Go ?_)
  all_goals (refine WC.sub [(4, _), (5, _), (6, _), (7, _)] ⟨rfl, rfl, rfl, rfl, trivial⟩ ?_)
  all_goals (refine WC.ret ?_)
  all_goals (repeat' (with_reducible first | refine thenP_r ?_ | refine blockP_r ?_))
  all_goals (refine retP_4 _ _ _ _ ⟨rfl, rfl, rfl, rfl, trivial⟩ ?_)
  all_goals (first | exact ⟨_, _, _, _, _, _, _, _, _, _, rfl, d6.up (by omega) (by decide)⟩ | exact ⟨_, _, _, _, _, _, _, _, _, _, rfl, d4.up (by omega) (by decide)⟩)
end Go.Proofs.YtggmocdbfbhklaaGreat


/-
  AWAKE (layer 24): the law's own try.
-/
namespace Go.Proofs.YtggmocdbfbhklaaGreat
open Go Go.RK

def aw1 : Fm := ⟨80, 0, ([97] : List UInt8), [], ([98, 101, 103, 105, 110] : List UInt8), .slice none 0 0, [], .slice none 0 0, [], .slice none 0 0, [], .slice none 0 0, [], 0⟩
def aw2 : Fm := ⟨66, 0, ([97] : List UInt8), [], [], .slice none 0 0, [], .slice none 0 0, [], .slice none 0 0, [], .slice none 0 0, [], 0⟩
theorem nil_ok {k w : Int} {n p t : List UInt8} {mx : Int} (h : Heap) : (⟨k, w, n, p, t, .slice none 0 0, [], .slice none 0 0, [], .slice none 0 0, [], .slice none 0 0, [], mx⟩ : Fm).ok h := ⟨⟨Rd.nil _ _, by simp [maxLen]⟩, ⟨Rd.nil _ _, by simp [maxLen]⟩, ⟨Rd.nil _ _, by simp [maxLen]⟩, ⟨Rd.nil _ _, ⟨by simp, _, _, rfl, by decide⟩, by simp⟩⟩
theorem srv1 : srvL 1 = ([95, 112, 49] : List UInt8) := by
  unfold srvL
  rw [if_neg (by decide)]
  unfold deci
  rw [if_neg (by decide), dig_lt (by decide)]
  rfl
theorem do_aw1 : doA (0, []) (lookT aw1.name (0, false) (opsE [])) [] 2 aw1.pl = ((1, [(1, 2, ([98, 101, 103, 105, 110] : List UInt8), [])]), [asP aw1.pl (srvL 1)], [(2, false, [], [], [(true, ([97] : List UInt8), 1, ())], [], [(1, 1, ())], [])]) := rfl
theorem do_aw2 : doA (1, [(1, 2, ([98, 101, 103, 105, 110] : List UInt8), [])]) (1, true) [1] 2 aw2.pl = ((1, [(1, 2, ([98, 101, 103, 105, 110] : List UInt8), [])]), [asP aw2.pl (srvL 1)], [(3, false, srvL 1, ([97] : List UInt8), [], [], [(3, 1, ())], [])]) := rfl
theorem map_one {α β : Type} {f : α → β} {l : List α} {y : β} (e : l.map f = [y]) : ∃ x, l = [x] ∧ f x = y := by
  cases l with
  | nil => cases e
  | cons a l =>
    cases l with
    | nil => exact ⟨a, rfl, by simpa using e⟩
    | cons b l => simp at e
section
variable {h0 h h' : Heap} {B : Nat} {c : Int} {b m1 m2 : Nat} {s : RS} {P : FmP} {Q : EnP}
theorem dor_one {u : Value} (k : DoR h0 h B c b m1 m2 (s, [P], [Q]) u h') : ∃ vF vE, ∃ (f : Fm) (e : En), u = .tuple ⟨[vF, vE]⟩ ∧ Own h' vF 27 10 1 f.cells ∧ Own h' vE 44 8 1 e.cells ∧ f.pl = P ∧ e.pl = Q ∧ e.ok h' ∧ f.ok h' ∧ Cst h0 h' B (c + 2) b m1 m2 s ∧ Ext (CS h0 m1 m2 h) h h' := by
  obtain ⟨⟨vF, vE, L, M, rfl, g, pF, pE⟩, d, x⟩ := k
  obtain ⟨f, rfl, hf⟩ := map_one pF
  obtain ⟨e, rfl, he⟩ := map_one pE
  refine ⟨vF, vE, f, e, rfl, ?_, ?_, hf, he, (g.okE e (by simp)).now, (g.okF f (by simp)).now, d, x⟩
  · have := g.F; simpa using this
  · have := g.E; simpa using this
end
set_option maxHeartbeats 4000000 in
set_option maxRecDepth 100000 in
theorem awake24 {h : Heap} : CallsH Tryz.prog 7 ⟨[]⟩ h fun u h' => u = .bool true ∧ Ext No h h' := by
  have kdo1 := fun (g : Heap) (b m1 m2 tb tm : Nat) (d : Cst h g h.size 0 b m1 m2 (0, [])) (x0 : Ext No h g) (t : Tb g tb tm 4 []) =>
    (Do24g (f := aw1) (spec := []) (ss := none) (sn := 0) (sc := 0) (most := 2) (s0 := (0, false)) d x0 (nil_ok h) (by decide) (by decide) (lst_all fun g => Rd.nil g 1) (by decide) (by decide) (fun g' y => get_no (t.ext y nos nos) _ rfl) (⟨Rd.nil g 8, by decide, by simp, by simp, by simp⟩ : Gds g (.slice none 0 0) [])).mono fun u h' k => dor_one (by rw [if_pos (by decide), do_aw1] at k; exact k)
  have kdo2 := fun (g : Heap) (b m1 m2 tb tm : Nat) (va : Value) (e : En) (bs : Nat) (d : Cst h g h.size 2 b m1 m2 (1, [(1, 2, ([98, 101, 103, 105, 110] : List UInt8), [])])) (x0 : Ext No h g) (t : Tb g tb tm 4 []) (hv : Rd g va 8 1 e.cells) (ok : e.ok g) (he : e.good = [(true, ([97] : List UInt8), 1, ())]) (hb : g[bs]? = some (.cells ⟨[In 1]⟩ 3 (0, 0))) =>
    (Do24g (f := aw2) (spec := [1]) (ss := some ⟨bs, 0, none⟩) (sn := 1) (sc := 1) (most := 2) (s0 := (0, false)) (A := [e]) d x0 (nil_ok h) (by decide) (by decide) ((lst_blk hb (by decide)).mono fun _ z => rd_blk z rfl) (by decide) (by decide) (fun g' y => get_no (t.ext y nos nos) _ rfl)
      (⟨by simpa using hv, by simp, fun x hx => by obtain rfl := List.mem_singleton.1 hx; exact ok.one, fun x hx => by obtain rfl := List.mem_singleton.1 hx; exact ok.good.1, fun x hx => by obtain rfl := List.mem_singleton.1 hx; rw [he]; decide⟩ : Gds g va [e])).mono fun u h' k => dor_one (by
        rw [if_pos (by decide), show lookT aw2.name (0, false) (opsE [e]) = (1, true) by simp only [opsE, List.flatMap_cons, List.flatMap_nil, List.append_nil, he]; rfl, do_aw2] at k; exact k)
  dsimp only [Fm.cells, aw1] at kdo1
  dsimp only [Fm.cells, aw2] at kdo2
  rw [srv1] at kdo1 kdo2
  unfold ptE at *
  refine calls [] Tryz.func7 rfl Tryz.ntmps7 rfl trivial ?_
  all_goals (refine WC.sr ?_)
  all_goals (refine Go ?_)
  all_goals (refine WC.sr ?_)
  all_goals (refine WL.call (vs := []) rfl (fun a w => Tryz.call18 a w) rfl (rg_new h.size (Nat.le_refl _)) rfl rfl rfl ?_
             rintro _ h1 ⟨b, m1, m2, rfl, r1, hx1⟩
             unfold ptE)
  all_goals (refine Go ?_)
  all_goals (refine WC.sr ?_)
  all_goals (refine WL.call (vs := [_]) rfl (fun a w => Tryz.call19 a w) rfl (new_yes 4 (by decide) (by decide)) rfl rfl rfl ?_
             rintro _ h2 ⟨tb, tm, rfl, t2, htb, htm, hx2⟩)
  all_goals (have C1 : Cst h h1 h.size 0 b m1 m2 (0, []) := ⟨⟨[], r1, rfl⟩, Nat.le_refl _⟩
             have hne : tm ≠ m1 ∧ tm ≠ m2 := by
              obtain ⟨⟨es, ck, e1⟩, es2, ck2, e2⟩ := C1.maps
              have := lt_of_some e1
              have := lt_of_some e2
              exact ⟨by omega, by omega⟩
             have hX2 := hx1.trans hx2
             have C2 := C1.ext0 hx2
             clear C1 r1)
  all_goals (refine Go ?_)
  all_goals (refine WC.sub [(1, _), (2, _), (3, _)] ⟨rfl, rfl, rfl, trivial⟩ ?_)
  all_goals (refine WC.seq ?_)
  all_goals (refine WC.sr ?_)
  all_goals (refine Go ?_)
  all_goals (refine WL.step (ok_eqlPn Tryz.underlying28 rfl rfl) rfl rfl rfl ?_)
  all_goals (refine Go ?_)
  all_goals (refine goP 15 ?_ ?_ <;> first | exact ⟨⟩ | refine Hb.mk fun hb => ?_ | skip)
  all_goals (first | (refine WL.pass rfl rfl rfl ?_) | (refine WL.step (ok_move rfl) rfl rfl rfl ?_))
  all_goals (first | (refine WL.pass rfl rfl rfl ?_) | (refine WL.step (ok_eqlPn Tryz.underlying29 rfl rfl) rfl rfl rfl ?_))
  all_goals (refine Go ?_)
  all_goals (refine goP 19 ?_ ?_ <;> first | exact ⟨⟩ | refine Hb.mk fun hb => ?_ | skip)
  all_goals (refine Gg ?_)
  all_goals (refine Go ?_)
  all_goals (refine WC.sub [(1, _), (2, _), (22, _)] ⟨rfl, rfl, rfl, trivial⟩ ?_)
  all_goals (refine goC 1 2 ?_ ?_ <;> first | exact ⟨⟩ | refine Hb.mk fun hb => ?_ | skip)
  all_goals (first | (fail_if_success refine goB 1 ?_) | (
  refine goB 1 ?_
  all_goals (refine WC.sr ?_)
  all_goals (refine Go ?_)
  all_goals (refine WC.ret ?_)
  all_goals (repeat' (with_reducible first | refine thenP_r ?_ | refine blockP_r ?_))
  all_goals (refine retP_1 _ ⟨rfl, trivial⟩ ?_)
  all_goals (first | exact ⟨rfl, hX5⟩ | (exfalso; simp_all))
  skip))
  all_goals (first | (fail_if_success refine goB 2 ?_) | (
  refine goB 2 ?_
  all_goals (refine WC.skip ?_)
  skip))
  all_goals (refine Gn ?_)
  all_goals (refine WC.sr ?_)
  all_goals (refine Go ?_)
  all_goals (refine WL.step (ok_buildF (vs := [_, _, _]) (cs := [_, _, _, _, _, _, _, _, _, _]) (fun | [a0, a2, a4] => [a0, (.int .u8 0), a2, (St []), a4, (.slice none 0 0), (.slice none 0 0), (.slice none 0 0), (.slice none 0 0), (.int .i64 0)] | _ => []) rfl rfl (by kernel_rfl)) rfl rfl rfl ?_)
  all_goals (refine WL.call (vs := [_, _, _, _, _, _]) rfl (fun a w => Tryz.call8 a w) rfl (kdo1 _ _ _ _ _ _ C2 hX2 t2) rfl rfl rfl ?_
             rintro _ h3 ⟨vF, vE, f, e, rfl, oF, oE, pf, pe, ok, okf, C3, hx3⟩
             obtain ⟨AF, cF, rfl, _⟩ := id oF.rd
             obtain ⟨AE, cE, rfl, _⟩ := id oE.rd)
  all_goals (have hX3 := fs_old hX2 hx3
             have t3 := t2.ext hx3 (C2.off t2.cells (by decide)) (fun z => by
              obtain ⟨_, _, e3, _⟩ := t2.map
              rcases z.2 with z | ty
              · simp only [List.mem_cons, List.not_mem_nil, or_false] at z
                exact z.elim hne.1 hne.2
              · exact ty_map e3 ty)
             clear C2 t2 kdo1)
  all_goals (refine Go ?_)
  all_goals (refine WC.sub [(1, _), (2, _), (4, _), (5, _)] ⟨rfl, rfl, rfl, rfl, trivial⟩ ?_)
  all_goals (refine WC.sr ?_)
  all_goals (refine Go ?_)
  all_goals (refine WL.stepR (okE_buildSlice (vs := [_]) (cs := [_]) (fun | [a0] => [a0] | _ => []) Tryz.underlying24 rfl rfl (by kernel_rfl)) rfl rfl rfl ?_
             rintro _ h4 ⟨bs, rfl, hgs, hbs, hx4⟩)
  all_goals (refine WL.step (ok_buildF (vs := [_, _]) (cs := [_, _, _, _, _, _, _, _, _, _]) (fun | [a0, a2] => [a0, (.int .u8 0), a2, (St []), (St []), (.slice none 0 0), (.slice none 0 0), (.slice none 0 0), (.slice none 0 0), (.int .i64 0)] | _ => []) rfl rfl (by kernel_rfl)) rfl rfl rfl ?_)
  all_goals (refine WL.call (vs := [_, _, _, _, _, _]) rfl (fun a w => Tryz.call8 a w) rfl (kdo2 _ _ _ _ _ _ _ e bs (C3.ext0 hx4) (hX3.trans hx4) (t3.ext hx4 nos nos) (oE.rd.ext0 hx4) (ok.ext0 hx4) (by simp only [En.pl, Prod.mk.injEq] at pe; exact pe.2.2.2.2.1) hbs) rfl rfl rfl ?_
             rintro _ h5 ⟨vF2, vE2, f2, e2, rfl, oF2, oE2, pf2, pe2, ok2, okf2, C5, hx5⟩
             obtain ⟨AF2, cF2, rfl, _⟩ := id oF2.rd
             obtain ⟨AE2, cE2, rfl, _⟩ := id oE2.rd)
  all_goals (have hX5 := fs_old (hX3.trans hx4) hx5
             have C4 := C3.ext0 hx4
             have oF5 : Own h5 _ _ _ _ _ := (oF.ext hx4 (fun _ _ => nos)).ext hx5 (fun q hq z => by obtain ⟨_, y⟩ := own_ty (oF.ext hx4 (fun _ _ => nos)) hq; exact C4.off y (by decide) z)
             obtain ⟨bF, iF, rfl, _, hF⟩ := Rd.at_ oF5.rd (by decide)
             obtain ⟨bF2, iF2, rfl, _, hF2⟩ := Rd.at_ oF2.rd (by decide)
             obtain ⟨bE2, iE2, rfl, _, hE2⟩ := Rd.at_ oE2.rd (by decide)
             have n1 : f.name = ([95, 112, 49] : List UInt8) := by simp only [Fm.pl, asP, Prod.mk.injEq] at pf; exact pf.2.2.1
             have n2 : f2.name = ([95, 112, 49] : List UInt8) := by simp only [Fm.pl, asP, Prod.mk.injEq] at pf2; exact pf2.2.2.1
             have n3 : e2.dst = ([97] : List UInt8) := by simp only [En.pl, Prod.mk.injEq] at pe2; exact pe2.2.2.2.1
             have g1 : ∀ p, p = iF + 2 → cell h5 ⟨bF, p, none⟩ = some (St ([95, 112, 49] : List UInt8)) := fun p hp => by rw [← n1]; exact hF.get 2 rfl hp
             have g2 : ∀ p, p = iF2 + 2 → cell h5 ⟨bF2, p, none⟩ = some (St ([95, 112, 49] : List UInt8)) := fun p hp => by rw [← n2]; exact hF2.get 2 rfl hp
             have g3 : ∀ p, p = iE2 + 3 → cell h5 ⟨bE2, p, none⟩ = some (St ([97] : List UInt8)) := fun p hp => by rw [← n3]; exact hE2.get 3 rfl hp
             clear kdo2 n1 n2 n3 pf pf2 pe pe2 hF hF2 hE2 oF oF5 oF2 oE oE2)
  all_goals (refine Go ?_)
  all_goals (refine WC.sub [(1, _), (4, _), (5, _), (6, _), (7, _)] ⟨rfl, rfl, rfl, rfl, rfl, trivial⟩ ?_)
  all_goals (refine WC.sr ?_)
  all_goals (refine Go ?_)
  all_goals (refine goP 42 ?_ ?_ <;> first | exact ⟨⟩ | refine Hb.mk fun hb => ?_ | skip)
  all_goals (refine Gg ?_)
  all_goals (first | (refine WL.pass rfl rfl rfl ?_) | (refine WL.step (ok_idxAddrA Tryz.underlying36 (fun w => Tryz.sizeOf27 w) rfl rfl rfl (by first | omega | (simp <;> omega)) (by first | rfl | assumption) (k := 0)) rfl rfl rfl ?_))
  all_goals (refine Gg ?_)
  all_goals (first | (refine WL.pass rfl rfl rfl ?_) | (refine WL.step (ok_load (fun w => Tryz.isAgg9 w) rfl (by first | exact g1 _ (by omega) | assumption | exact cell_blk (by assumption) rfl)) rfl rfl rfl ?_))
  all_goals (refine Gg ?_)
  all_goals (refine Go ?_)
  all_goals (refine goP 49 ?_ ?_ <;> first | exact ⟨⟩ | refine Hb.mk fun hb => ?_ | skip)
  all_goals (refine Gg ?_)
  all_goals (refine Go ?_)
  all_goals (refine goP 54 ?_ ?_ <;> first | exact ⟨⟩ | refine Hb.mk fun hb => ?_ | skip)
  all_goals (refine Gg ?_)
  all_goals (refine Go ?_)
  all_goals (refine goP 59 ?_ ?_ <;> first | exact ⟨⟩ | refine Hb.mk fun hb => ?_ | skip)
  all_goals (refine Gg ?_)
  all_goals (first | (refine WL.pass rfl rfl rfl ?_) | (refine WL.step (ok_idxAddrA Tryz.underlying36 (fun w => Tryz.sizeOf27 w) rfl rfl rfl (by first | omega | (simp <;> omega)) (by first | rfl | assumption) (k := 0)) rfl rfl rfl ?_))
  all_goals (refine Gg ?_)
  all_goals (first | (refine WL.pass rfl rfl rfl ?_) | (refine WL.step (ok_load (fun w => Tryz.isAgg9 w) rfl (by first | exact g2 _ (by omega) | assumption | exact cell_blk (by assumption) rfl)) rfl rfl rfl ?_))
  all_goals (refine Gg ?_)
  all_goals (refine Go ?_)
  all_goals (refine goP 66 ?_ ?_ <;> first | exact ⟨⟩ | refine Hb.mk fun hb => ?_ | skip)
  all_goals (refine Gg ?_)
  all_goals (refine Go ?_)
  all_goals (refine goP 71 ?_ ?_ <;> first | exact ⟨⟩ | refine Hb.mk fun hb => ?_ | skip)
  all_goals (refine Gg ?_)
  all_goals (first | (refine WL.pass rfl rfl rfl ?_) | (refine WL.step (ok_idxAddrA Tryz.underlying37 (fun w => Tryz.sizeOf44 w) rfl rfl rfl (by first | omega | (simp <;> omega)) (by first | rfl | assumption) (k := 0)) rfl rfl rfl ?_))
  all_goals (refine Gg ?_)
  all_goals (first | (refine WL.pass rfl rfl rfl ?_) | (refine WL.step (ok_load (fun w => Tryz.isAgg9 w) rfl (by first | exact g3 _ (by omega) | assumption | exact cell_blk (by assumption) rfl)) rfl rfl rfl ?_))
  all_goals (refine Gg ?_)
  all_goals (refine Go ?_)
  all_goals (refine goP 78 ?_ ?_ <;> first | exact ⟨⟩ | refine Hb.mk fun hb => ?_ | skip)
  all_goals (refine Gg ?_)
  all_goals (first
               | (refine WL.pass rfl rfl rfl ?_)
               | (refine WL.call (vs := [_, _]) rfl (fun a w => Tryz.call15 a w) rfl (c_refs C5 1) rfl rfl rfl ?_
                  rintro _ hz ⟨rfl, ez⟩
                  subst ez))
  all_goals (refine Gg ?_)
  all_goals (refine Go ?_)
  all_goals (refine WC.sub [(0, _)] ⟨rfl, trivial⟩ ?_)
  all_goals (refine WC.ret ?_)
  all_goals (repeat' (with_reducible first | refine thenP_r ?_ | refine blockP_r ?_))
  all_goals (refine retP_1 _ ⟨rfl, trivial⟩ ?_)
  all_goals (first | exact ⟨rfl, hX5⟩ | (exfalso; simp_all))
end Go.Proofs.YtggmocdbfbhklaaGreat


/-
  OWN (layer 24), in plain Lean: what a message is turned into has the shape that the law tells.
-/
namespace Go.Proofs.YtggmocdbfbhklaaGreat
open Go Go.RK

structure OwnS (F : List FmP) (E : List EnP) (k : Int) : Prop where
  f3 : F.length ≤ 3
  e3 : E.length ≤ 3
  hide : ∀ i e, E[i]? = some e → e.2.1 = decide (i + 1 < E.length)
  pair : ∀ i e, E[i]? = some e → i + 1 < E.length → ∃ f, F[i]? = some f ∧ ((f.1 = 67 ∧ e.1 = 7) ∨ (f.1 = 80 ∧ e.1 = 2 ∧ i + 2 = E.length))
  last : ∀ i f, F[i]? = some f → i + 1 = F.length → f.1 = k
section
variable {f f1 f2 : FmP} {e e1 e2 : EnP} {k : Int}
theorem own_00 : OwnS [] [] k := ⟨by simp, by simp, by simp, by simp, by simp⟩
theorem own_01 (he : e.2.1 = false) : OwnS [] [e] k := ⟨by simp, by simp, fun i x h => by rcases i with _ | i <;> simp_all, fun i x h hi => by simp at hi, by simp⟩
theorem own_10 (hf : f.1 = k) : OwnS [f] [] k := ⟨by simp, by simp, by simp, by simp, fun i x h hi => by
  obtain rfl : i = 0 := by simpa using hi
  obtain rfl : f = x := by simpa using h
  exact hf⟩
theorem own_11 (hf : f.1 = k) (he : e.2.1 = false) : OwnS [f] [e] k := ⟨by simp, by simp, fun i x h => by rcases i with _ | i <;> simp_all, fun i x h hi => by simp at hi, fun i x h hi => by
  obtain rfl : i = 0 := by simpa using hi
  obtain rfl : f = x := by simpa using h
  exact hf⟩
theorem own_22 (hf : f.1 = k) (he : e.2.1 = false) (h1 : e1.2.1 = true) (h2 : (f1.1 = 67 ∧ e1.1 = 7) ∨ (f1.1 = 80 ∧ e1.1 = 2)) : OwnS [f1, f] [e1, e] k := by
  refine ⟨by simp, by simp, fun i x h => ?_, fun i x h hi => ?_, fun i x h hi => ?_⟩
  · rcases i with _ | _ | i <;> simp_all
  · obtain rfl : i = 0 := by simp at hi; omega
    refine ⟨f1, rfl, ?_⟩
    obtain rfl : e1 = x := by simpa using h
    rcases h2 with h2 | h2
    · exact .inl h2
    · exact .inr ⟨h2.1, h2.2, rfl⟩
  · obtain rfl : i = 1 := by simp at hi; omega
    obtain rfl : f = x := by simpa using h
    exact hf
theorem own_33 (hf : f.1 = k) (he : e.2.1 = false) (h1 : e1.2.1 = true) (h2 : f1.1 = 67 ∧ e1.1 = 7) (h3 : e2.2.1 = true) (h4 : f2.1 = 80 ∧ e2.1 = 2) : OwnS [f1, f2, f] [e1, e2, e] k := by
  refine ⟨by simp, by simp, fun i x h => ?_, fun i x h hi => ?_, fun i x h hi => ?_⟩
  · rcases i with _ | _ | _ | i <;> simp_all
  · rcases i with _ | _ | i
    · refine ⟨f1, rfl, ?_⟩
      obtain rfl : e1 = x := by simpa using h
      exact .inl h2
    · refine ⟨f2, rfl, ?_⟩
      obtain rfl : e2 = x := by simpa using h
      exact .inr ⟨h4.1, h4.2, rfl⟩
    · simp at hi; omega
  · obtain rfl : i = 2 := by simp at hi; omega
    obtain rfl : f = x := by simpa using h
    exact hf
theorem room_cases (spec : List Int) (most : Int) : (roomF spec most = [] ∧ roomE spec most = []) ∨ ∃ f e, roomF spec most = [f] ∧ roomE spec most = [e] ∧ f.1 = 67 ∧ e.1 = 7 ∧ e.2.1 = true := by
  unfold roomF roomE
  cases spec with
  | nil => exact .inl ⟨rfl, rfl⟩
  | cons x l =>
    dsimp only
    split
    · exact .inl ⟨rfl, rfl⟩
    · exact .inr ⟨_, _, rfl, rfl, rfl, rfl, rfl⟩
theorem own_pre (s : RS) (spec : List Int) (most : Int) (p : FmP) : OwnS (preA s spec most p).2.1 (preA s spec most p).2.2 p.1 := by
  unfold preA
  dsimp only
  split
  · exact own_00
  · split
    · exact own_11 rfl rfl
    · dsimp only
      rcases room_cases spec most with ⟨e1, e2⟩ | ⟨f, e, e1, e2, a, b, c⟩
      · rw [e1, e2]; exact own_11 rfl rfl
      · rw [e1, e2]; exact own_22 rfl rfl c (.inl ⟨a, b⟩)
theorem own_use (s : RS) (lk : Int × Bool) (spec : List Int) (most : Int) (p : FmP) : OwnS (useA s lk spec most p).2.1 (useA s lk spec most p).2.2 p.1 := by
  unfold useA
  split
  · exact own_11 rfl rfl
  · dsimp only
    unfold readyF readyE
    split
    · exact own_11 rfl rfl
    · rcases room_cases spec most with ⟨e1, e2⟩ | ⟨f, e, e1, e2, a, b, c⟩
      · rw [e1, e2]; exact own_22 rfl rfl rfl (.inr ⟨rfl, rfl⟩)
      · rw [e1, e2]; exact own_33 rfl rfl c ⟨a, b⟩ rfl ⟨rfl, rfl⟩
theorem own_do (s : RS) (lk : Int × Bool) (spec : List Int) (most : Int) (p : FmP) : OwnS (doA s lk spec most p).2.1 (doA s lk spec most p).2.2 p.1 := by
  unfold doA
  split
  · split
    · exact own_11 rfl rfl
    · exact own_pre _ _ _ _
  · split
    · exact own_use _ _ _ _ _
    · split
      · exact own_01 rfl
      · split
        · exact own_10 rfl
        · split
          · exact own_11 rfl rfl
          · exact own_11 rfl rfl
theorem own_any (c : Prop) [Decidable c] (s : RS) (lk : Int × Bool) (spec : List Int) (most : Int) (p : FmP) : OwnS (if c then doA s lk spec most p else (s, [], [])).2.1 (if c then doA s lk spec most p else (s, [], [])).2.2 p.1 := by
  split
  · exact own_do _ _ _ _ _
  · exact own_00
end
/-- The same, of messages and entries as they lie. -/
structure OwnM (L : List Fm) (M : List En) (k : Int) : Prop where
  f3 : L.length ≤ 3
  e3 : M.length ≤ 3
  hide : ∀ i e, M[i]? = some e → e.hide = decide (i + 1 < M.length)
  pair : ∀ i e, M[i]? = some e → i + 1 < M.length → ∃ f, L[i]? = some f ∧ ((f.kind = 67 ∧ e.kind = 7) ∨ (f.kind = 80 ∧ e.kind = 2 ∧ i + 2 = M.length))
  last : ∀ i f, L[i]? = some f → i + 1 = L.length → f.kind = k
theorem own_m {L : List Fm} {M : List En} {F : List FmP} {E : List EnP} {k : Int} (hF : L.map Fm.pl = F) (hE : M.map En.pl = E) (o : OwnS F E k) : OwnM L M k := by
  subst hF hE
  obtain ⟨a, b, c, d, e⟩ := o
  simp only [List.length_map] at a b c d e
  refine ⟨a, b, fun i x h => c i x.pl (by simp [h]), fun i x h hi => ?_, fun i x h hi => e i x.pl (by simp [h]) hi⟩
  obtain ⟨f, h1, h2⟩ := d i x.pl (by simp [h]) hi
  obtain ⟨g, h3, rfl⟩ : ∃ g, L[i]? = some g ∧ g.pl = f := by simpa using h1
  exact ⟨g, h3, h2⟩
end Go.Proofs.YtggmocdbfbhklaaGreat


