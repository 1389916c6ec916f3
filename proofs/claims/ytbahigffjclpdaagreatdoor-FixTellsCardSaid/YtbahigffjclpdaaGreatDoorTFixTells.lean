/-
  FixTells: any reply of any entry, as the client gets it, is what the document says. The law answers true on every entry and every reply. No condition.
-/
import Derived.Test.YtbahigffjclpdaaGreatDoorPFixTells7
import Derived.Test.YtbahigffjclpdaaGreatDoorRows
import Derived.Test.YtbahigffjclpdaaGreatDoorCards
import Derived.Test.YtbahigffjclpdaaGreatDoorTie
import Derived.Lay
import Derived.LaidOnce
import Derived.SevenTiedAt
namespace Go.Proofs.YtbahigffjclpdaaGreatDoor
open Go Go.RK

theorem ofB_pl {a b : Bk} (e : a.pl = b.pl) : (ofB a).pl = (ofB b).pl := by
  obtain ⟨e1, e2, e3, e4, e5, e6, e7, e8, e9, e10, e11⟩ := pl_of e
  unfold ofB
  rw [e1]
  repeat' split
  all_goals simp only [Bk.pl, zB, e2, e3, e4, e5, e6, e7, e8, e9, e10, e11]
theorem may_one {a b : Bk} (e : a.pl = b.pl) (m : a.may) : b.may := by
  have e0 := ofB_pl e
  have hO := m.own
  obtain ⟨e1, e2, e3, e4, e5, e6, e7, e8, e9, e10, e11⟩ := pl_of e
  have hlen : a.row.length = b.row.length := by have := congrArg List.length e10; simpa using this
  refine ⟨by rw [← e1]; exact m.kind, by rw [← e3]; exact m.tag, by rw [← e4]; exact m.name, by rw [← e5]; exact m.value, by rw [← e9]; exact m.cols, by rw [← e11]; exact m.fields, ⟨by rw [← hlen]; exact m.row.1, fun c hc => ?_⟩, by rw [← e8]; exact m.oids, by rw [← e6]; exact m.n, by rw [← e7]; exact m.m, ?_, by rw [← e0, ← e, hO]⟩
  · have : c.pl ∈ a.row.map Cel.pl := e10 ▸ List.mem_map_of_mem hc
    obtain ⟨d, hd, hp⟩ := List.mem_map.1 this
    have q := m.row.2 d hd
    have p1 : d.null = c.null := congrArg Prod.fst hp
    have p2 : d.bytes = c.bytes := congrArg Prod.snd hp
    unfold Cel.okB at q ⊢
    rw [← p1, ← p2]
    exact q
  · have q := m.st
    unfold Bk.stOk at q ⊢
    rw [← e1, ← e2]
    exact q
/-- A reply as a client gets it. -/
def fixB (e : En) (b : Bk) : Bk := { b with fields := fixF b.kind e.src e.dst b.fields }
theorem bysR_pl {a b : Bk} {h h' : Heap} {u : Value} (e : a.pl = b.pl) (r : BysR a h u h') : BysR b h u h' := by
  obtain ⟨L, ho, h1, h2, hx⟩ := r
  have ek : a.kind = b.kind := (pl_of e).1
  exact ⟨L, ho, fun m => by rw [h1 (may_one e.symm m), ek, enc_pl e], fun m => h2 (fun z => m (may_one e z)), hx⟩
/-- What is shown of it. -/
def ShR (e : En) (b : Bk) (h : Heap) (u : Value) (h' : Heap) : Prop := ∃ L, Own h' u 5 1 L.length (bys L) ∧ (e.hide = true → L = []) ∧ (e.hide = false → (b.may → L = frB b.kind (encBk b)) ∧ (¬ b.may → L = [])) ∧ Ext No h h'
theorem getT_mem {c : Int} {F : List FieldD} {x : List UInt8} (h : getT c F = some x) : ∃ f ∈ F, f.t = x := getT_mem' h
theorem few_en {e : En} (hfe : fewE [e] 1 = true) : e.src.length ≤ 300 ∧ e.dst.length ≤ 300 := by
  simp only [fewE, List.any_cons, List.any_nil, Bool.or_false, Bool.and_eq_true, Bool.not_eq_true', En.far, Bool.or_eq_false_iff, decide_eq_false_iff_not] at hfe
  omega
theorem back_en {h : Heap} (e : En) (b : Bk) (he : e.ok h) (hb : b.ok h) (hfe : fewE [e] 1 = true) (hfb : b.few) (hM : Ml h) :
    CallsH Tryz.prog 8 ⟨[.agg ⟨e.cells⟩, .agg ⟨b.cells⟩]⟩ h fun u h' => ∃ b' : Bk, u = .agg ⟨b'.cells⟩ ∧ b'.ok h' ∧ b'.pl = (fixB e b).pl ∧ Ext No h h' := by
  have hfl := few_en hfe
  obtain ⟨ek, hd, f, tt, vg, lg, vb, lb, vcc, lcc, vrr, lrr⟩ := e
  obtain ⟨⟨q1, _⟩, ⟨q2, _⟩, ⟨q3, _⟩, q4, _⟩ := he
  dsimp only at q1 q2 q3 q4 hfl
  obtain ⟨A1, c1, rfl, _⟩ := id q1
  obtain ⟨A2, c2, rfl, _⟩ := id q2
  obtain ⟨A3, c3, rfl, _⟩ := id q3
  obtain ⟨A4, c4, rfl, _⟩ := id q4
  exact (back_v b hb (by have := hfb.1; omega) (by have := hfb.2; omega) (by have := hfb.4; omega) (by have := hfb.3; omega) ek hd f tt A1 A2 A3 A4 _ _ _ _ c1 c2 c3 c4 hM (fun x hx => by obtain ⟨g, hg, rfl⟩ := getT_mem hx; have := hfb.texts g hg; omega) (by omega) (by omega)).mono fun u h' ⟨b', e1, e2, e3, e4⟩ => ⟨b', e1, e2.ok, e3, e4⟩
theorem back_re {h : Heap} (e : En) (b : Bk) (he : e.ok h) (hb : b.ok h) (hfe : fewE [e] 1 = true) (hfb : b.few) :
    CallsH Tryz.prog 9 ⟨[.agg ⟨e.cells⟩, .agg ⟨b.cells⟩]⟩ h fun u h' => ∃ b' : Bk, u = .agg ⟨b'.cells⟩ ∧ b'.ok h' ∧ b'.pl = (fixB e b).pl ∧ Ext No h h' := by
  have hfl := few_en hfe
  obtain ⟨ek, hd, f, tt, vg, lg, vb, lb, vcc, lcc, vrr, lrr⟩ := e
  obtain ⟨⟨q1, _⟩, ⟨q2, _⟩, ⟨q3, _⟩, q4, _⟩ := he
  dsimp only at q1 q2 q3 q4 hfl
  obtain ⟨A1, c1, rfl, _⟩ := id q1
  obtain ⟨A2, c2, rfl, _⟩ := id q2
  obtain ⟨A3, c3, rfl, _⟩ := id q3
  obtain ⟨A4, c4, rfl, _⟩ := id q4
  exact back25 b hb ek hd f tt A1 A2 A3 A4 _ _ _ _ c1 c2 c3 c4 (by have := hfb.4; omega) (fun x hx => by obtain ⟨g, hg, rfl⟩ := getT_mem hx; have := hfb.texts g hg; omega) (by omega) (by omega)
set_option maxHeartbeats 4000000 in
set_option maxRecDepth 100000 in
theorem shown_en {h : Heap} (e : En) (b : Bk) (he : e.ok h) (hb : b.ok h) (hfe : fewE [e] 1 = true) (hfb : b.few) (hw : b.wf) (hM : Ml h) :
    CallsH Tryz.prog 11 ⟨[.agg ⟨e.cells⟩, .agg ⟨b.cells⟩]⟩ h (ShR e (fixB e b) h) := by
  have kb := fun h' (hx : Ext No h h') => back_en e b (he.ext0 hx) (hb.ext0 hx) hfe hfb (hM.ext0 hx)
  have km := fun (b' : Bk) (q : b'.pl = (fixB e b).pl) => mid_fix hfb hw (by have := few_en hfe; omega) q
  unfold ShR
  generalize hB : fixB e b = B at *
  obtain ⟨p1, p2, p3, p4⟩ := id hb
  obtain ⟨⟨q1, _⟩, ⟨q2, _⟩, ⟨q3, _⟩, q4, _⟩ := id he
  obtain ⟨k, st, t, n, v, x, y, vo, lo, vc, lc, vr, lr, vf, lf⟩ := b
  obtain ⟨ek, hd, f, tt, vg, lg, vb, lb, vcc, lcc, vrr, lrr⟩ := e
  dsimp only at q1 q2 q3 q4 p1 p2 p3 p4
  obtain ⟨_, _, rfl, _⟩ := id p1.1
  obtain ⟨_, _, rfl, _⟩ := id p2.1
  obtain ⟨_, _, rfl, _⟩ := id p3.1
  obtain ⟨_, _, rfl, _⟩ := id p4.1
  obtain ⟨A1, c1, rfl, _⟩ := id q1
  obtain ⟨A2, c2, rfl, _⟩ := id q2
  obtain ⟨A3, c3, rfl, _⟩ := id q3
  obtain ⟨A4, c4, rfl, _⟩ := id q4
  dsimp only [Bk.cells, En.cells] at *
  cases hd
  all_goals
    refine calls [(0, _), (1, _)] Tryz.func11 rfl Tryz.ntmps11 rfl ⟨rfl, rfl, trivial⟩ ?_
    all_goals (refine WC.sr ?_)
    all_goals (refine WL.stepR (okE_box rfl) rfl rfl rfl ?_
               rintro _ h1 ⟨b1, rfl, hg1, hb1, hx1⟩)
    all_goals (refine WL.stepR (okE_box rfl) rfl rfl rfl ?_
               rintro _ h2 ⟨b2, rfl, hg2, hb2, hx2⟩)
    all_goals (have hb12 := hx2.obj hb1 nos
               have hX2 := hx1.trans hx2)
    all_goals (refine Go ?_)
    all_goals (refine WC.seq ?_)
    all_goals (refine WC.sr ?_)
    all_goals (refine Go ?_)
    all_goals (refine WL.step (ok_load (fun w => Tryz.isAgg4 w) rfl (by first | exact cell_blk hb12 rfl | assumption | exact cell_blk (by assumption) rfl)) rfl rfl rfl ?_)
    all_goals (refine Gn ?_)
    all_goals (refine WC.sub [(2, _), (3, _), (6, _)] ⟨rfl, rfl, rfl, trivial⟩ ?_)
    all_goals (refine goC 1 2 ?_ ?_ <;> first | exact ⟨⟩ | refine Hb.mk fun hb => ?_ | skip)
    all_goals (first | (fail_if_success refine goB 1 ?_) | (
    refine goB 1 ?_
    all_goals (refine WC.sr ?_)
    all_goals (refine Go ?_)
    all_goals (refine WC.ret ?_)
    all_goals (repeat' (with_reducible first | refine thenP_r ?_ | refine blockP_r ?_))
    all_goals (refine retP_1 _ ⟨rfl, trivial⟩ ?_)
    all_goals (first
                | exact ⟨L, ho5, fun z => absurd z (by decide), fun _ => ⟨hm1, hm2⟩, ((hX2.trans hx3).trans hx4).trans hx5⟩
                | exact ⟨[], Own.nil _ _ _, fun _ => rfl, fun z => absurd z (by decide), hX2⟩)
    skip))
    all_goals (first | (fail_if_success refine goB 2 ?_) | (
    refine goB 2 ?_
    all_goals (refine WC.skip ?_)
    skip))
    all_goals (refine Gn ?_)
    all_goals (refine WC.sr ?_)
    all_goals (refine WL.step (ok_loadN (fun w => Tryz.isAgg26 w) (fun w => Tryz.sizeOf26 w) rfl rfl (by exact At.of_block hb12)) rfl rfl rfl ?_)
    all_goals (refine WL.step (ok_loadN (fun w => Tryz.isAgg32 w) (fun w => Tryz.sizeOf32 w) rfl rfl (by exact At.of_block hb2)) rfl rfl rfl ?_)
    all_goals (refine WL.call (vs := [_, _]) rfl (fun a w => Tryz.call8 a w) rfl (kb _ hX2) rfl rfl rfl ?_
               rintro _ h3 ⟨bb, rfl, hok, hpl, hx3⟩
               have km2 := km bb hpl
               have hpr := fun h4 u h5 => bysR_pl (h := h4) (u := u) (h' := h5) hpl
               have hok0 := hok
               obtain ⟨o1, o2, o3, o4⟩ := hok
               have kby := fun h' (hx : Ext No h3 h') p hp => bytesA_back (h := h') (p := p) bb hp (hok0.ext0 hx) km2.2 km2.1
               obtain ⟨k', st', tg', n', v', x', y', vo', lo', vc', lc', vr', lr', vf', lf'⟩ := bb
               dsimp only at o1 o2 o3 o4
               have q1 := o1.1
               have q2 := o2.1
               have q3 := o3.1
               have q4 := o4.1
               obtain ⟨_, _, rfl, _⟩ := q1
               obtain ⟨_, _, rfl, _⟩ := q2
               obtain ⟨_, _, rfl, _⟩ := q3
               obtain ⟨_, _, rfl, _⟩ := q4
               dsimp only [Bk.cells] at kby ⊢)
    all_goals (refine WL.stepR (okE_buildSlice (vs := [_]) (cs := [_, _, _, _, _, _, _, _, _, _, _]) (fun | [.agg ⟨[a0, a1, a2, a3, a4, a5, a6, a7, a8, a9, a10]⟩] => [a0, a1, a2, a3, a4, a5, a6, a7, a8, a9, a10] | _ => []) Tryz.underlying71 rfl rfl (by kernel_rfl)) rfl rfl rfl ?_
               rintro _ h4 ⟨b4, rfl, hg4, hb4, hx4⟩)
    all_goals (refine WL.call (vs := [_]) rfl (fun a w => Tryz.call34 a w) rfl (kby _ hx4 _ hb4) rfl rfl rfl ?_
               rintro v5 h5 hby
               obtain ⟨L, ho5, hm1, hm2, hx5⟩ := hpr _ _ _ hby)
    all_goals (refine Go ?_)
    all_goals (refine WC.sub [(4, _)] ⟨rfl, trivial⟩ ?_)
    all_goals (refine WC.ret ?_)
    all_goals (repeat' (with_reducible first | refine thenP_r ?_ | refine blockP_r ?_))
    all_goals (refine retP_1 _ ⟨rfl, trivial⟩ ?_)
    all_goals (first
                | exact ⟨L, ho5, fun z => absurd z (by decide), fun _ => ⟨hm1, hm2⟩, ((hX2.trans hx3).trans hx4).trans hx5⟩
                | exact ⟨[], Own.nil _ _ _, fun _ => rfl, fun z => absurd z (by decide), hX2⟩)
set_option maxHeartbeats 4000000 in
set_option maxRecDepth 100000 in
theorem shown_re {h : Heap} (e : En) (b : Bk) (he : e.ok h) (hb : b.ok h) (hfe : fewE [e] 1 = true) (hfb : b.few) (hw : b.wf) :
    CallsH Tryz.prog 12 ⟨[.agg ⟨e.cells⟩, .agg ⟨b.cells⟩]⟩ h (ShR e (fixB e b) h) := by
  have kb := fun h' (hx : Ext No h h') => back_re e b (he.ext0 hx) (hb.ext0 hx) hfe hfb
  have km := fun (b' : Bk) (q : b'.pl = (fixB e b).pl) => mid_fix hfb hw (by have := few_en hfe; omega) q
  unfold ShR
  generalize hB : fixB e b = B at *
  obtain ⟨p1, p2, p3, p4⟩ := id hb
  obtain ⟨⟨q1, _⟩, ⟨q2, _⟩, ⟨q3, _⟩, q4, _⟩ := id he
  obtain ⟨k, st, t, n, v, x, y, vo, lo, vc, lc, vr, lr, vf, lf⟩ := b
  obtain ⟨ek, hd, f, tt, vg, lg, vb, lb, vcc, lcc, vrr, lrr⟩ := e
  dsimp only at q1 q2 q3 q4 p1 p2 p3 p4
  obtain ⟨_, _, rfl, _⟩ := id p1.1
  obtain ⟨_, _, rfl, _⟩ := id p2.1
  obtain ⟨_, _, rfl, _⟩ := id p3.1
  obtain ⟨_, _, rfl, _⟩ := id p4.1
  obtain ⟨A1, c1, rfl, _⟩ := id q1
  obtain ⟨A2, c2, rfl, _⟩ := id q2
  obtain ⟨A3, c3, rfl, _⟩ := id q3
  obtain ⟨A4, c4, rfl, _⟩ := id q4
  dsimp only [Bk.cells, En.cells] at *
  cases hd
  all_goals
    refine calls [(0, _), (1, _)] Tryz.func12 rfl Tryz.ntmps12 rfl ⟨rfl, rfl, trivial⟩ ?_
    all_goals (refine WC.sr ?_)
    all_goals (refine WL.stepR (okE_box rfl) rfl rfl rfl ?_
               rintro _ h1 ⟨b1, rfl, hg1, hb1, hx1⟩)
    all_goals (refine WL.stepR (okE_box rfl) rfl rfl rfl ?_
               rintro _ h2 ⟨b2, rfl, hg2, hb2, hx2⟩)
    all_goals (have hb12 := hx2.obj hb1 nos
               have hX2 := hx1.trans hx2)
    all_goals (refine Go ?_)
    all_goals (refine WC.seq ?_)
    all_goals (refine WC.sr ?_)
    all_goals (refine Go ?_)
    all_goals (refine WL.step (ok_load (fun w => Tryz.isAgg4 w) rfl (by first | exact cell_blk hb12 rfl | assumption | exact cell_blk (by assumption) rfl)) rfl rfl rfl ?_)
    all_goals (refine Gn ?_)
    all_goals (refine WC.sub [(2, _), (3, _), (6, _)] ⟨rfl, rfl, rfl, trivial⟩ ?_)
    all_goals (refine goC 1 2 ?_ ?_ <;> first | exact ⟨⟩ | refine Hb.mk fun hb => ?_ | skip)
    all_goals (first | (fail_if_success refine goB 1 ?_) | (
    refine goB 1 ?_
    all_goals (refine WC.sr ?_)
    all_goals (refine Go ?_)
    all_goals (refine WC.ret ?_)
    all_goals (repeat' (with_reducible first | refine thenP_r ?_ | refine blockP_r ?_))
    all_goals (refine retP_1 _ ⟨rfl, trivial⟩ ?_)
    all_goals (first
                | exact ⟨L, ho5, fun z => absurd z (by decide), fun _ => ⟨hm1, hm2⟩, ((hX2.trans hx3).trans hx4).trans hx5⟩
                | exact ⟨[], Own.nil _ _ _, fun _ => rfl, fun z => absurd z (by decide), hX2⟩)
    skip))
    all_goals (first | (fail_if_success refine goB 2 ?_) | (
    refine goB 2 ?_
    all_goals (refine WC.skip ?_)
    skip))
    all_goals (refine Gn ?_)
    all_goals (refine WC.sr ?_)
    all_goals (refine WL.step (ok_loadN (fun w => Tryz.isAgg26 w) (fun w => Tryz.sizeOf26 w) rfl rfl (by exact At.of_block hb12)) rfl rfl rfl ?_)
    all_goals (refine WL.step (ok_loadN (fun w => Tryz.isAgg32 w) (fun w => Tryz.sizeOf32 w) rfl rfl (by exact At.of_block hb2)) rfl rfl rfl ?_)
    all_goals (refine WL.call (vs := [_, _]) rfl (fun a w => Tryz.call9 a w) rfl (kb _ hX2) rfl rfl rfl ?_
               rintro _ h3 ⟨bb, rfl, hok, hpl, hx3⟩
               have km2 := km bb hpl
               have hpr := fun h4 u h5 => bysR_pl (h := h4) (u := u) (h' := h5) hpl
               have hok0 := hok
               obtain ⟨o1, o2, o3, o4⟩ := hok
               have kby := fun h' (hx : Ext No h3 h') p hp => bytesA07 (h := h') (p := p) bb hp (hok0.ext0 hx) km2.2 km2.1
               obtain ⟨k', st', tg', n', v', x', y', vo', lo', vc', lc', vr', lr', vf', lf'⟩ := bb
               dsimp only at o1 o2 o3 o4
               have q1 := o1.1
               have q2 := o2.1
               have q3 := o3.1
               have q4 := o4.1
               obtain ⟨_, _, rfl, _⟩ := q1
               obtain ⟨_, _, rfl, _⟩ := q2
               obtain ⟨_, _, rfl, _⟩ := q3
               obtain ⟨_, _, rfl, _⟩ := q4
               dsimp only [Bk.cells] at kby ⊢)
    all_goals (refine WL.stepR (okE_buildSlice (vs := [_]) (cs := [_, _, _, _, _, _, _, _, _, _, _]) (fun | [.agg ⟨[a0, a1, a2, a3, a4, a5, a6, a7, a8, a9, a10]⟩] => [a0, a1, a2, a3, a4, a5, a6, a7, a8, a9, a10] | _ => []) Tryz.underlying71 rfl rfl (by kernel_rfl)) rfl rfl rfl ?_
               rintro _ h4 ⟨b4, rfl, hg4, hb4, hx4⟩)
    all_goals (refine WL.call (vs := [_]) rfl (fun a w => Tryz.call35 a w) rfl (kby _ hx4 _ hb4) rfl rfl rfl ?_
               rintro v5 h5 hby
               obtain ⟨L, ho5, hm1, hm2, hx5⟩ := hpr _ _ _ hby)
    all_goals (refine Go ?_)
    all_goals (refine WC.sub [(4, _)] ⟨rfl, trivial⟩ ?_)
    all_goals (refine WC.ret ?_)
    all_goals (repeat' (with_reducible first | refine thenP_r ?_ | refine blockP_r ?_))
    all_goals (refine retP_1 _ ⟨rfl, trivial⟩ ?_)
    all_goals (first
                | exact ⟨L, ho5, fun z => absurd z (by decide), fun _ => ⟨hm1, hm2⟩, ((hX2.trans hx3).trans hx4).trans hx5⟩
                | exact ⟨[], Own.nil _ _ _, fun _ => rfl, fun z => absurd z (by decide), hX2⟩)
theorem shR_same {e : En} {b : Bk} {h1 h2 h3 h4 : Heap} {u w : Value} (r : ShR e b h1 u h2) (s : ShR e b h3 w h4) : ∃ L, Own h2 u 5 1 L.length (bys L) ∧ Own h4 w 5 1 L.length (bys L) ∧ Ext No h1 h2 ∧ Ext No h3 h4 := by
  obtain ⟨L, ho, r1, r2, hx⟩ := r
  obtain ⟨M, hp, s1, s2, hy⟩ := s
  have : L = M := by
    cases hh : e.hide
    · by_cases m : b.may
      · rw [(r2 hh).1 m, (s2 hh).1 m]
      · rw [(r2 hh).2 m, (s2 hh).2 m]
    · rw [r1 hh, s1 hh]
  subst this
  exact ⟨L, ho, hp, hx, hy⟩
set_option maxHeartbeats 4000000 in
set_option maxRecDepth 100000 in
theorem tells25 {h : Heap} (e : En) (b : Bk) (he : e.ok h) (hb : b.ok h) (hw : b.wf) (hM : Ml h) : CallsH Tryz.prog 3 ⟨[.agg ⟨e.cells⟩, .agg ⟨b.cells⟩]⟩ h fun u h' => u = .bool true ∧ Ext No h h' := by
  have kb := fun h' (hx : Ext No h h') (q : fewE [e] 1 = true) (w : b.few) => back_en e b (he.ext0 hx) (hb.ext0 hx) q w (hM.ext0 hx)
  have kr := fun h' (hx : Ext No h h') (q : fewE [e] 1 = true) (w : b.few) => back_re e b (he.ext0 hx) (hb.ext0 hx) q w
  have ks := fun h' (hx : Ext No h h') (q : fewE [e] 1 = true) (w : b.few) => shown_en e b (he.ext0 hx) (hb.ext0 hx) q w hw (hM.ext0 hx)
  have kt := fun h' (hx : Ext No h h') (q : fewE [e] 1 = true) (w : b.few) => shown_re e b (he.ext0 hx) (hb.ext0 hx) q w hw
  have kp := fun h' (hx : Ext No h h') => plain_back b (hb.ext0 hx)
  have ke := fun h' (hx : Ext No h h') v (hr : Rd h' v 8 1 ([e].flatMap En.cells)) => entries_any (h := h') (v := v) [e] 1 ⟨hr, by simp [maxLen], fun e' h' => by obtain rfl := List.mem_singleton.1 h'; exact he.ext0 hx⟩
  have ka := fun h' (hx : Ext No h h') => awake25 (hM.ext0 hx)
  generalize hB : fixB e b = B at *
  obtain ⟨ek, hd, f, tt, vg, lg, vb, lb, vcc, lcc, vrr, lrr⟩ := e
  obtain ⟨k, st, t, n, v, x, y, vo, lo, vc, lc, vr, lr, vf, lf⟩ := b
  obtain ⟨p1, p2, p3, p4⟩ := id hb
  obtain ⟨⟨q1, _⟩, ⟨q2, _⟩, ⟨q3, _⟩, q4, _⟩ := he
  dsimp only at q1 q2 q3 q4 p1 p2 p3 p4
  obtain ⟨_, _, rfl, _⟩ := id p1.1
  obtain ⟨_, _, rfl, _⟩ := id p2.1
  obtain ⟨_, _, rfl, _⟩ := id p3.1
  obtain ⟨_, _, rfl, _⟩ := id p4.1
  obtain ⟨A1, c1, rfl, _⟩ := id q1
  obtain ⟨A2, c2, rfl, _⟩ := id q2
  obtain ⟨A3, c3, rfl, _⟩ := id q3
  obtain ⟨A4, c4, rfl, _⟩ := id q4
  dsimp only [Bk.cells, En.cells] at *
  refine calls [(0, _), (1, _)] Tryz.func3 rfl Tryz.ntmps3 rfl ⟨rfl, rfl, trivial⟩ ?_
  all_goals (refine WC.sr ?_)
  all_goals (refine WL.stepR (okE_box rfl) rfl rfl rfl ?_
             rintro _ h1 ⟨b1, rfl, hg1, hb1, hx1⟩)
  all_goals (refine WL.stepR (okE_box rfl) rfl rfl rfl ?_
             rintro _ h2 ⟨b2, rfl, hg2, hb2, hx2⟩)
  all_goals (have hb12 := hx2.obj hb1 nos
             have hX2 := hx1.trans hx2)
  all_goals (refine Go ?_)
  all_goals (refine WC.seq ?_)
  all_goals (refine WC.sr ?_)
  all_goals (refine WL.step (ok_loadN (fun w => Tryz.isAgg26 w) (fun w => Tryz.sizeOf26 w) rfl rfl (by exact At.of_block hb12)) rfl rfl rfl ?_)
  all_goals (refine WL.stepR (okE_buildSlice (vs := [_]) (cs := [_, _, _, _, _, _, _, _]) (fun | [.agg ⟨[a0, a1, a2, a3, a4, a5, a6, a7]⟩] => [a0, a1, a2, a3, a4, a5, a6, a7] | _ => []) Tryz.underlying34 rfl rfl (by kernel_rfl)) rfl rfl rfl ?_
             rintro _ h3 ⟨b3, rfl, hg3, hb3, hx3⟩)
  all_goals (have hX3 := hX2.trans hx3)
  all_goals (refine WL.call (vs := [_, _]) rfl (fun a w => Tryz.call4 a w) rfl (ke _ hX3 _ (rd_blk hb3 rfl)) rfl rfl rfl ?_
             rintro _ h4 ⟨rfl, hx4⟩)
  all_goals (have hX4 := hX3.trans hx4
             have hb24 := (hx3.trans hx4).obj hb2 nos
             have hb14 := (hx3.trans hx4).obj hb12 nos
             cases hq1 : fewE [(⟨ek, hd, f, tt, .slice A1 lg.length c1, lg, .slice A2 lb.length c2, lb, .slice A3 lcc.length c3, lcc, .slice A4 lrr.length c4, lrr⟩ : En)] 1)
  all_goals (refine Go ?_)
  all_goals (refine goP 9 ?_ ?_ <;> first | exact ⟨⟩ | refine Hb.mk fun hb => ?_ | skip)
  all_goals (first | (refine WL.pass rfl rfl rfl ?_) | (refine WL.step (ok_loadN (fun w => Tryz.isAgg32 w) (fun w => Tryz.sizeOf32 w) rfl rfl (by exact At.of_block hb24)) rfl rfl rfl ?_))
  all_goals (first
               | (refine WL.pass rfl rfl rfl ?_)
               | (refine WL.call (vs := [_]) rfl (fun a w => Tryz.call5 a w) rfl (kp _ hX4) rfl rfl rfl ?_
                  rintro _ h5 ⟨⟨xb, rfl, hfew⟩, hx5⟩))
  all_goals (first
              | (have hX5 := hX4.trans hx5
                 have hb25 := hx5.obj hb24 nos
                 have hb15 := hx5.obj hb14 nos
                 cases xb)
              | skip)
  all_goals (refine Gg ?_)
  all_goals (refine Go ?_)
  all_goals (refine WC.sub [(2, _), (3, _), (13, _)] ⟨rfl, rfl, rfl, trivial⟩ ?_)
  all_goals (refine goC 1 2 ?_ ?_ <;> first | exact ⟨⟩ | refine Hb.mk fun hb => ?_ | skip)
  all_goals (first | (fail_if_success refine goB 1 ?_) | (
  refine goB 1 ?_
  all_goals (refine WC.sr ?_)
  all_goals (refine WL.call (vs := []) rfl (fun a w => Tryz.call6 a w) rfl (ka _ (by first | exact hX5 | exact hX4)) rfl rfl rfl ?_
             rintro _ h6 ⟨rfl, hx6⟩)
  all_goals (refine Go ?_)
  all_goals (refine WC.sub [(4, _)] ⟨rfl, trivial⟩ ?_)
  all_goals (refine WC.ret ?_)
  all_goals (repeat' (with_reducible first | refine thenP_r ?_ | refine blockP_r ?_))
  all_goals (refine retP_1 _ ⟨rfl, trivial⟩ ?_)
  all_goals (first | exact ⟨rfl, hX5.trans hy16⟩ | exact ⟨rfl, hX5.trans hx6⟩ | exact ⟨rfl, hX4.trans hx6⟩)
  skip))
  all_goals (first | (fail_if_success refine goB 2 ?_) | (
  refine goB 2 ?_
  all_goals (refine WC.skip ?_)
  skip))
  all_goals (refine Gn ?_)
  all_goals (refine WC.seq ?_)
  all_goals (have hfw := hfew rfl)
  all_goals (refine WC.drawH (fun h' => Ext No h5 h') 19 20 rfl fol ?_)
  all_goals (refine WH.tk 0 rfl (fun hq hC => ok_loadN (fun w => Tryz.isAgg26 w) (fun w => Tryz.sizeOf26 w) rfl rfl (by exact At.of_block (hC.obj hb15 nos))) rfl rfl rfl ?_)
  all_goals (refine WH.tk 1 rfl (fun hq hC => ok_loadN (fun w => Tryz.isAgg32 w) (fun w => Tryz.sizeOf32 w) rfl rfl (by exact At.of_block (hC.obj hb25 nos))) rfl rfl rfl ?_)
  all_goals (refine WH.tk 3 rfl (fun hq hC => ok_loadN (fun w => Tryz.isAgg26 w) (fun w => Tryz.sizeOf26 w) rfl rfl (by exact At.of_block (hC.obj hb15 nos))) rfl rfl rfl ?_)
  all_goals (refine WH.tk 4 rfl (fun hq hC => ok_loadN (fun w => Tryz.isAgg32 w) (fun w => Tryz.sizeOf32 w) rfl rfl (by exact At.of_block (hC.obj hb25 nos))) rfl rfl rfl ?_)
  all_goals (refine WH.one 2 (by kernel_rfl) ?_)
  all_goals (refine Comes1.call (vs := [_, _]) rfl rfl (fun a w => Tryz.call8 a w) rfl (kb _ hX5 hq1 hfw) rfl rfl rfl ?_ (fun _ => by kernel_rfl)
             rintro _ g1 ⟨ba, rfl, hoka, hpla, hy1⟩
             have ksa := fun h' (hx : Ext No g1 h') (bb : Bk) (kk : bb.ok h') => sameA_back ba bb (hoka.ext0 hx) kk
             obtain ⟨o1, o2, o3, o4⟩ := hoka
             obtain ⟨k1, st1, tg1, n1, v1, x1, y1, vo1, lo1, vc1, lc1, vr1, lr1, vf1, lf1⟩ := ba
             dsimp only at o1 o2 o3 o4
             have q1 := o1.1
             have q2 := o2.1
             have q3 := o3.1
             have q4 := o4.1
             obtain ⟨_, _, rfl, _⟩ := q1
             obtain ⟨_, _, rfl, _⟩ := q2
             obtain ⟨_, _, rfl, _⟩ := q3
             obtain ⟨_, _, rfl, _⟩ := q4
             dsimp only [Bk.cells] at ksa ⊢)
  all_goals (refine ⟨fun _ => hy1, ?_⟩)
  all_goals (refine WH.one 5 (by kernel_rfl) ?_)
  all_goals (refine Comes1.call (vs := [_, _]) rfl rfl (fun a w => Tryz.call9 a w) rfl (kr _ (hX5.trans hy1) hq1 hfw) rfl rfl rfl ?_ (fun _ => by kernel_rfl)
             rintro _ g2 ⟨bb, rfl, hokb, hplb, hy2⟩
             have ksb := fun h' (hx : Ext No g2 h') => ksa h' (hy2.trans hx) bb (hokb.ext0 hx)
             have hps := hpla.trans hplb.symm
             obtain ⟨u1, u2, u3, u4⟩ := hokb
             obtain ⟨k2, st2, tg2, n2, v2, x2, y2, vo2, lo2, vc2, lc2, vr2, lr2, vf2, lf2⟩ := bb
             dsimp only at u1 u2 u3 u4
             have r1 := u1.1
             have r2 := u2.1
             have r3 := u3.1
             have r4 := u4.1
             obtain ⟨_, _, rfl, _⟩ := r1
             obtain ⟨_, _, rfl, _⟩ := r2
             obtain ⟨_, _, rfl, _⟩ := r3
             obtain ⟨_, _, rfl, _⟩ := r4
             dsimp only [Bk.cells] at ksb ⊢)
  all_goals (refine ⟨fun _ => hy1.trans hy2, ?_⟩)
  all_goals (have hy12 := hy1.trans hy2)
  all_goals (refine WH.one 6 (by kernel_rfl) ?_)
  all_goals (refine Comes1.call (vs := [_, _]) rfl rfl (fun a w => Tryz.call7 a w) rfl (ksb _ (.refl _ _)) rfl rfl rfl ?_ (fun _ => by kernel_rfl)
             rintro _ g3 ⟨⟨xs, rfl, hxs⟩, hy3⟩
             obtain rfl := hxs.2 hps)
  all_goals (refine ⟨fun _ => hy12.trans hy3, ?_⟩)
  all_goals (have hy13 := hy12.trans hy3)
  all_goals (refine WH.tk 7 rfl (fun hq hC => ok_move rfl) rfl rfl rfl ?_)
  all_goals (try ((fail_if_success (refine WH.part 22 (b := true) rfl (fun _ => ?_) (fun _ => ?_))); (fail_if_success (refine WH.part 22 (b := false) rfl (fun _ => ?_) (fun _ => ?_))); (refine WH.part 22 rfl (fun hb => ?_) (fun hb => ?_))))
  all_goals (first | (refine WH.ps 8 rfl rfl rfl rfl ?_) | (refine WH.tk 8 rfl (fun hq hC => ok_loadN (fun w => Tryz.isAgg26 w) (fun w => Tryz.sizeOf26 w) rfl rfl (by exact At.of_block (hC.obj hb15 nos))) rfl rfl rfl ?_))
  all_goals (first | (refine WH.ps 9 rfl rfl rfl rfl ?_) | (refine WH.tk 9 rfl (fun hq hC => ok_loadN (fun w => Tryz.isAgg32 w) (fun w => Tryz.sizeOf32 w) rfl rfl (by exact At.of_block (hC.obj hb25 nos))) rfl rfl rfl ?_))
  all_goals (first | (refine WH.ps 11 rfl rfl rfl rfl ?_) | (refine WH.tk 11 rfl (fun hq hC => ok_loadN (fun w => Tryz.isAgg26 w) (fun w => Tryz.sizeOf26 w) rfl rfl (by exact At.of_block (hC.obj hb15 nos))) rfl rfl rfl ?_))
  all_goals (first | (refine WH.ps 12 rfl rfl rfl rfl ?_) | (refine WH.tk 12 rfl (fun hq hC => ok_loadN (fun w => Tryz.isAgg32 w) (fun w => Tryz.sizeOf32 w) rfl rfl (by exact At.of_block (hC.obj hb25 nos))) rfl rfl rfl ?_))
  all_goals (first
    | (refine WH.ps 10 rfl rfl rfl rfl ?_)
    | (all_goals (refine WH.one 10 (by kernel_rfl) ?_)
       all_goals (refine Comes1.call (vs := [_, _]) rfl rfl (fun a w => Tryz.call11 a w) rfl (ks _ (hX5.trans hy13) hq1 hfw) rfl rfl rfl ?_ (fun _ => by kernel_rfl)
                  rintro w4 g4 hs4
                  have hy4 : Ext No g3 g4 := by obtain ⟨_, _, _, _, z⟩ := hs4; exact z)
       all_goals (refine ⟨fun _ => hy13.trans hy4, ?_⟩)
       all_goals (have hy14 := hy13.trans hy4)
       skip))
  all_goals (first
    | (refine WH.ps 13 rfl rfl rfl rfl ?_)
    | (all_goals (refine WH.one 13 (by kernel_rfl) ?_)
       all_goals (refine Comes1.call (vs := [_, _]) rfl rfl (fun a w => Tryz.call12 a w) rfl (kt _ (hX5.trans hy14) hq1 hfw) rfl rfl rfl ?_ (fun _ => by kernel_rfl)
                  rintro w5 g5 hs5
                  obtain ⟨L, hoA, hoB, _, hy5⟩ := shR_same hs4 hs5)
       all_goals (refine ⟨fun _ => hy14.trans hy5, ?_⟩)
       all_goals (have hy15 := hy14.trans hy5)
       skip))
  all_goals (first
    | (refine WH.ps 14 rfl rfl rfl rfl ?_)
    | (all_goals (refine WH.one 14 (by kernel_rfl) ?_)
       all_goals (refine Comes1.call (vs := [_, _]) rfl rfl (fun a w => Tryz.call10 a w) rfl (bytes_equal L L (hoA.rd.ext0 hy5) hoB.rd) rfl rfl rfl ?_ (fun _ => by kernel_rfl)
                  rintro _ _ ⟨rfl, rfl⟩
                  rw [decide_eq_true rfl])
       all_goals (refine ⟨fun _ => hy15, ?_⟩)
       skip))
  all_goals (first | (refine WH.tk 15 rfl (fun hq hC => ok_pick_t rfl rfl) rfl rfl rfl ?_) | (refine WH.tk 15 rfl (fun hq hC => ok_pick_f rfl rfl) rfl rfl rfl ?_))
  all_goals (refine WH.tk 16 rfl (fun hq hC => ok_move rfl) rfl rfl rfl ?_)
  all_goals (try ((fail_if_success (refine WH.part 31 (b := true) rfl (fun _ => ?_) (fun _ => ?_))); (fail_if_success (refine WH.part 31 (b := false) rfl (fun _ => ?_) (fun _ => ?_))); (refine WH.part 31 rfl (fun hb => ?_) (fun hb => ?_))))
  all_goals (first
    | (refine WH.ps 17 rfl rfl rfl rfl ?_)
    | (all_goals (refine WH.one 17 (by kernel_rfl) ?_)
       all_goals (refine Comes1.call (vs := []) rfl rfl (fun a w => Tryz.call6 a w) rfl (ka _ (hX5.trans hy15)) rfl rfl rfl ?_ (fun _ => by kernel_rfl)
                  rintro _ g6 ⟨rfl, hy6⟩)
       all_goals (refine ⟨fun _ => hy15.trans hy6, ?_⟩)
       all_goals (have hy16 := hy15.trans hy6)
       skip))
  all_goals (first | (refine WH.tk 18 rfl (fun hq hC => ok_pick_t rfl rfl) rfl rfl rfl ?_) | (refine WH.tk 18 rfl (fun hq hC => ok_pick_f rfl rfl) rfl rfl rfl ?_))
  all_goals (refine WH.one 19 (by kernel_rfl) ?_)
  all_goals (refine Comes1.run rfl (OkP.r (ok_assign rfl)) rfl rfl rfl ?_ (fun _ => by kernel_rfl)
             rintro _ hz ⟨rfl, _⟩
             subst hz)
  all_goals (refine ⟨fun e => (by cases e), ?_⟩)
  all_goals (refine WH.done (by kernel_rfl) ?_)
  all_goals (refine Gn ?_)
  all_goals (refine WC.sub [(4, _)] ⟨rfl, trivial⟩ ?_)
  all_goals (refine WC.ret ?_)
  all_goals (repeat' (with_reducible first | refine thenP_r ?_ | refine blockP_r ?_))
  all_goals (refine retP_1 _ ⟨rfl, trivial⟩ ?_)
  all_goals (first | exact ⟨rfl, hX5.trans hy16⟩ | exact ⟨rfl, hX5.trans hx6⟩ | exact ⟨rfl, hX4.trans hx6⟩)

namespace LFixTells
open Go.ChangeShapes Go.WideShapes Go.ChangeAt Go.RowKit
open Go.ChangeMaps (open_string shut_string)
theorem own : ownKnob Tryz.prog.godebug = none := by kernel_rfl
theorem laidOut : laidOutB Tryz.prog = true := by kernel_rfl
set_option maxRecDepth 100000 in
theorem lifted (os : Os) (started : os.Started) (H : Type) (enc : TypeId × Value → H) :
    ReturnsInHanded {} Tryz.checked os 3 .any (fun w args => (Rows.fixTellsSpec.pre enc Tryz.prog Tryz.f3 [] false w args ∧ laidMetH Tryz.prog Rows.fixTellsRow.laid w) ∧ sizedMet enc Tryz.prog Tryz.f3 (OpenSpec.ofChange Rows.fixTellsSpec) false w args) (Rows.fixTellsSpec.post enc Tryz.prog Tryz.f3 false true false false) := by
  refine returnsInHanded_both (C := Tryz.checked) (X := fun w _ => laidMetH Tryz.prog Rows.fixTellsRow.laid w) own started (by kernel_rfl) Tryz.func3
    (ChangeSpec.witness_shaped (enc := enc) (C := Tryz.checked) (os := os) (X := fun w _ => laidMetH Tryz.prog Rows.fixTellsRow.laid w) false (World.laidAll Tryz.prog os Rows.fixTellsRow.laid) #[.agg #[(.int .i64 0), (.bool false), (.string ByteArray.empty), (.string ByteArray.empty), (.slice none 0 0), (.slice none 0 0), (.slice none 0 0), (.slice none 0 0)], .agg #[(.int .u8 0), (.int .u8 0), (.string ByteArray.empty), (.string ByteArray.empty), (.string ByteArray.empty), (.int .i64 0), (.int .i64 0), (.slice none 0 0), (.slice none 0 0), (.slice none 0 0), (.slice none 0 0)]] 8 (World.laidAll_os _ _ _)
      (World.shaped_of_ZipB (by kernel_rfl) (by kernel_rfl)) (by kernel_rfl) (by kernel_rfl) (by kernel_rfl)
      (by rw [MakeChecks.laidMetH_plain _ _ _ (by kernel_rfl)]; exact laidMet_laidAll _ (by kernel_rfl) (by kernel_rfl))) ?_
  intro W base args ds gs before hval0 hW hcnd hsz0 hshape
  have hval : ∀ (j : Nat) t v, Tryz.f3.params[j]? = some t → args[j]? = some v → Value.okWide Tryz.prog W .any base t v := hval0
  have hsz := hsz0
  rw [Tryz.params3] at hsz
  clear hsz0
  have hW' := hW
  obtain ⟨p, q, hA0, hV, rfl, hfz, hnd⟩ := hW
  have hA : DataW.TrodAll enc Tryz.prog W 0 (fun _ => true) true Tryz.f3.params.toList args.toList ds p := hA0
  rw [Tryz.params3] at hA hval
  obtain ⟨v0, vs0, d0, ds0, p0, q0, hargs, rfl, rfl, h0, r0⟩ := trodAll_cons hA
  obtain ⟨v1, vs1, d1, ds1, p1, q1, rfl, rfl, rfl, h1, r1⟩ := trodAll_cons r0
  obtain ⟨rfl, rfl, rfl⟩ := trodAll_nil r1
  obtain rfl : args = #[v0, v1] := by cases args; simp_all
  obtain ⟨rfl, rfl⟩ := trodVars_none hV
  have hz0 : ∀ n ∈ d0.weights Tryz.prog 26, n ≤ reachBytes := fun n hn => by simpa using List.all_eq_true.1 hsz n (DataW.weights_mem_each (j := 0) rfl rfl n hn)
  have k0 := h0
  have lt0 : ∀ x ∈ p0, x.block < W.heap.size := by obtain ⟨m, hm⟩ := k0; exact DataW.trod_lt m _ _ _ hm
  obtain ⟨cs0, rfl, hsz0⟩ := okWide_struct Tryz.underlying26 (hval 0 26 v0 rfl rfl)
  obtain ⟨fu0, hf0⟩ := h0
  obtain ⟨a0, e0, w0⟩ := opens_entry W _ _ _ _ _ _ _ _ hf0 hz0
  obtain ⟨cs0⟩ := cs0
  obtain rfl := (show cs0 = _ from e0)
  have hz1 : ∀ n ∈ d1.weights Tryz.prog 32, n ≤ reachBytes := fun n hn => by simpa using List.all_eq_true.1 hsz n (DataW.weights_mem_each (j := 1) rfl rfl n hn)
  have k1 := h1
  have lt1 : ∀ x ∈ p1, x.block < W.heap.size := by obtain ⟨m, hm⟩ := k1; exact DataW.trod_lt m _ _ _ hm
  obtain ⟨cs1, rfl, hsz1⟩ := okWide_struct Tryz.underlying32 (hval 1 32 v1 rfl rfl)
  obtain ⟨fu1, hf1⟩ := h1
  obtain ⟨a1, e1, w1⟩ := opens_bk W _ _ _ _ _ _ _ _ hf1 hz1
  obtain ⟨cs1⟩ := cs1
  obtain rfl := (show cs1 = _ from e1)
  clear hA0 hval0
  refine (law_calls (tells25 a0 a1 w0 w1.1 w1.2 (Tryz.laysM154.s1_3 W hshape))).mono fun e W' ⟨he, bel⟩ => ?_
  subst he
  exact ⟨_, rfl, _, _, _, [], _, [], hW', trodAll_mk1 (shut_bool Tryz.underlying4 _), (trodAll_cons_mk (Below.trod laidOut (by kernel_rfl) (of_decide_eq_true (by kernel_rfl)) k0 bel lt0) (trodAll_cons_mk (Below.trod laidOut (by kernel_rfl) (of_decide_eq_true (by kernel_rfl)) k1 bel lt1) trodAll_mk0)), rfl, bel.frame _, fun h => by cases h⟩
theorem over : Rows.fixTellsRow.holds Tryz.pinned (OpenSpec.ofChange Rows.fixTellsSpec) :=
  OpenClaim.holds_of_wide 3 Tryz.f3 rfl rfl rfl rfl rfl rfl rfl ⟨rfl, rfl, rfl, rfl, rfl⟩ rfl rfl rfl rfl rfl (by kernel_rfl) Tryz.func3 (by kernel_rfl)
    (of_decide_eq_true (by kernel_rfl)) (by unfold Func.isWrapper; first | (rw [if_pos (by decide +kernel)]; kernel_rfl) | (rw [if_neg (by decide +kernel)]; exact ⟨rfl, rfl⟩))
    (fun os started H enc _ => lifted os started H enc)
end LFixTells
theorem fixTells_card : Rows.FixTellsCardSaid :=
  Claim7.holds_tied_plain_at .later [] Rows.fixTellsCard.laidKinds true Rows.fixTellsCard.stood.harness false
    LFixTells.over (fun _ h => by cases h) (by kernel_rfl) (fun _ h => by cases h) fixTells_row_tie rfl ⟨rfl, rfl⟩ (by kernel_rfl) rfl
    (fun f fn hf hfn => by
      obtain rfl : f = 3 := Option.some.inj ((show Tryz.prog.funcNamed Rows.fixTellsRow.func = some 3 by kernel_rfl).symm.trans hf) |>.symm
      obtain rfl : fn = Tryz.f3 := (Option.some.inj (Tryz.func3.symm.trans hfn)).symm
      exact ⟨by kernel_rfl, fun j t ht => by
        rw [Tryz.params3] at ht
        have hm : t ∈ [26, 32] := by simpa using Array.mem_of_getElem? ht
        have hall : ([26, 32].all fun u => !Tryz.prog.wantsStandIn u) = true := by kernel_rfl
        exact (show Tryz.prog.wantsStandIn t = false by simpa using List.all_eq_true.1 hall t hm)⟩)
    (by kernel_rfl)
#print axioms fixTells_card
end Go.Proofs.YtbahigffjclpdaaGreatDoor

