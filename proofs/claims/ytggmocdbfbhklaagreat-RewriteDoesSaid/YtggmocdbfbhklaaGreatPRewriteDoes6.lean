/-
  SEVERAL TEXTS IN ONE: RwD3, RwD4, RwD5, RwD6, RwD7, RwD8, RwD9, D3, RwDA, RwS, RwS2.
-/
import Derived.Test.YtggmocdbfbhklaaGreatPRewriteDoes5
/-
  REWRITE (layer 24), by the document: a message that uses a statement which isn't there.
-/
namespace Go.Proofs.YtggmocdbfbhklaaGreat
open Go Go.RK

section
variable {h0 h h1 h' : Heap} {B : Nat} {c : Int} {bt : Nat} {s : RS} {f : Fm} {v : Value} {ss : Option Addr} {sn sc : Nat} {spec : List Int} {most jd : Int} {kn : Bool}
set_option maxHeartbeats 2000000 in
set_option maxRecDepth 100000 in
theorem use_none (d : Dst h0 h B bt s) (x0 : Ext No h0 h) (hf : f.ok h0) : CallsH Tryz.prog 35 ⟨[ptE bt, In jd, .bool false, .slice ss sn sc, In most, .agg ⟨f.cells⟩]⟩ h (DoD h0 h B bt (s, [asP f.pl noneL], [(zE (entK f.kind f.what) noneL f.name).pl])) := by
  have kk := fun p q h' => gives_one (h0 := h0) (h := h) (h' := h') (p := p) (q := q) (f := { f with name := noneL }) (e := zE (entK f.kind f.what) noneL f.name)
  have hfl := (lst_old (h0 := h0) (h := h) x0 fun h' x => (hf.ext0 x).named noneL)
  have hel := fun h' => (lst_all (h0 := h0) (h := h') (zE_ok (entK f.kind f.what) noneL f.name))
  have kkd := fun g => kind_doc (h := g) f
  obtain ⟨⟨e1, _⟩, ⟨e2, _⟩, ⟨e3, _⟩, e4, _⟩ := hf
  generalize hK : entK f.kind f.what = K at *
  obtain ⟨fk, w, n, p, t, vo, o, vf, fs, vs, rs, vp, ps, mx⟩ := f
  dsimp only at e1 e2 e3 e4
  obtain ⟨_, _, rfl, _⟩ := e1
  obtain ⟨_, _, rfl, _⟩ := e2
  obtain ⟨_, _, rfl, _⟩ := e3
  obtain ⟨_, _, rfl, _⟩ := e4
  dsimp only [Fm.cells, zE, En.cells, ptE] at kk hfl hel kkd ⊢
  refine calls [(0, _), (1, _), (2, _), (3, _), (4, _), (5, _)] Tryz.func35 rfl Tryz.ntmps35 rfl ⟨rfl, rfl, rfl, rfl, rfl, rfl, trivial⟩ ?_
  all_goals (refine WC.sr ?_; refine WL.stepR (okE_box rfl) rfl rfl rfl ?_; rintro _ h1 ⟨b9, rfl, hg1, hb1, hx1⟩; refine Go ?_; refine WC.seq ?_; refine WC.drawH (fun h' => Ext No h1 h') 6 7 rfl fol ?_; refine WH.tk 0 rfl (fun hq hC => ok_loadN (fun w => Tryz.isAgg27 w) (fun w => Tryz.sizeOf27 w) rfl rfl (by exact (At.of_block hb1).ext hC nos)) rfl rfl rfl ?_; refine WH.tk 2 rfl (fun hq hC => ok_fieldAddr rfl Tryz.underlying27 rfl (fun w => Tryz.sizeOf9 w)) rfl rfl rfl ?_; refine WH.tk 3 rfl (fun hq hC => ok_load (fun w => Tryz.isAgg9 w) rfl (by first | exact hC.cell (by first | exact cell_blk hb1 rfl | assumption | exact cell_blk (by assumption) rfl) nos)) rfl rfl rfl ?_; refine WH.two 1 5 (by kernel_rfl) (Br.out (i := 5003) ?_) (Br.out (i := 5004) ?_))
  all_goals (first | (fail_if_success refine goB 5003 ?_) | (
  refine goB 5003 ?_
  all_goals (refine Comes1.call (vs := [_]) rfl rfl (fun a w => Tryz.call37 a w) rfl (kkd _) rfl rfl rfl ?_ (fun _ => by kernel_rfl); rintro _ g1 ⟨rfl, y1⟩; refine ⟨fun _ => by first | exact y1 | exact y2.trans y1, ?_⟩; have hY1 : Ext No h1 g1 := by first | exact y1 | exact y2.trans y1)
  all_goals (refine WH.tk 4 rfl (fun hq hC => ok_buildF (vs := [_, _, _]) (cs := [_, _, _, _, _, _, _, _]) (fun | [a0, a2, a3] => [a0, (.bool false), a2, a3, (.slice none 0 0), (.slice none 0 0), (.slice none 0 0), (.slice none 0 0)] | _ => []) rfl rfl (by kernel_rfl)) rfl rfl rfl ?_; refine WH.one 5 (by kernel_rfl) ?_; refine Comes1.run rfl (okE_alloc (fun w => Tryz.zeroValue44 w)) rfl rfl rfl ?_ (fun _ => by kernel_rfl); rintro _ g2 ⟨b12, rfl, hg2, hb2, y2⟩; refine ⟨fun _ => by first | exact y2 | exact y1.trans y2, ?_⟩; have hY2 : Ext No h1 g2 := by first | exact y2 | exact y1.trans y2)
  all_goals (refine WH.one 6 (by kernel_rfl) ?_)
  all_goals (first
              | (have HB := y1.obj hb2 nos; have HY := hY1; have HG : h1.size ≤ b12 := hg2)
              | (have HB := hb2; have HY := hY2; have HG : h1.size ≤ b12 := Nat.le_trans hY1.size hg2))
  all_goals (refine Comes1.run0 rfl (okE_storeW (fun w => Tryz.sizeOf44 w) rfl rfl rfl HB rfl (by simp [Value.oneCell'])) rfl rfl ?_ (fun _ => by kernel_rfl); rintro _ h3 ⟨hb3, hx3⟩; refine ⟨fun _ => HY.trans' hx3 (fun q hq e => by omega), ?_⟩; have l1 := lt_of_some hb1; have s1 := hx1.size; have X13 : Ext No h1 h3 := HY.trans' hx3 (fun q hq e => by omega); have hb13 := X13.obj hb1 nos; clear HB HY; refine WH.done (by kernel_rfl) ?_)
  skip))
  all_goals (first | (fail_if_success refine goB 5004 ?_) | (
  refine goB 5004 ?_
  all_goals (refine Comes1.run rfl (okE_alloc (fun w => Tryz.zeroValue44 w)) rfl rfl rfl ?_ (fun _ => by kernel_rfl); rintro _ g2 ⟨b12, rfl, hg2, hb2, y2⟩; refine ⟨fun _ => by first | exact y2 | exact y1.trans y2, ?_⟩; have hY2 : Ext No h1 g2 := by first | exact y2 | exact y1.trans y2)
  all_goals (refine WH.one 1 (by kernel_rfl) ?_; refine Comes1.call (vs := [_]) rfl rfl (fun a w => Tryz.call37 a w) rfl (kkd _) rfl rfl rfl ?_ (fun _ => by kernel_rfl); rintro _ g1 ⟨rfl, y1⟩; refine ⟨fun _ => by first | exact y1 | exact y2.trans y1, ?_⟩; have hY1 : Ext No h1 g1 := by first | exact y1 | exact y2.trans y1)
  all_goals (refine WH.tk 4 rfl (fun hq hC => ok_buildF (vs := [_, _, _]) (cs := [_, _, _, _, _, _, _, _]) (fun | [a0, a2, a3] => [a0, (.bool false), a2, a3, (.slice none 0 0), (.slice none 0 0), (.slice none 0 0), (.slice none 0 0)] | _ => []) rfl rfl (by kernel_rfl)) rfl rfl rfl ?_; refine WH.one 6 (by kernel_rfl) ?_)
  all_goals (first
              | (have HB := y1.obj hb2 nos; have HY := hY1; have HG : h1.size ≤ b12 := hg2)
              | (have HB := hb2; have HY := hY2; have HG : h1.size ≤ b12 := Nat.le_trans hY1.size hg2))
  all_goals (refine Comes1.run0 rfl (okE_storeW (fun w => Tryz.sizeOf44 w) rfl rfl rfl HB rfl (by simp [Value.oneCell'])) rfl rfl ?_ (fun _ => by kernel_rfl); rintro _ h3 ⟨hb3, hx3⟩; refine ⟨fun _ => HY.trans' hx3 (fun q hq e => by omega), ?_⟩; have l1 := lt_of_some hb1; have s1 := hx1.size; have X13 : Ext No h1 h3 := HY.trans' hx3 (fun q hq e => by omega); have hb13 := X13.obj hb1 nos; clear HB HY; refine WH.done (by kernel_rfl) ?_)
  skip))
  all_goals (refine Gn ?_; refine Gs [(0, _), (1, _), (2, _), (3, _), (4, _), (11, _), (14, _)] ?_; refine WC.seq ?_; refine WC.sr ?_; refine Go ?_; refine goC 1 2 ?_ TT.mk; refine goB 1 ?_; refine WC.sr ?_; refine Go ?_; refine WL.stepR0 (okE_store (fun w => Tryz.sizeOf9 w) rfl rfl hb13 (Nat.le_of_ble_eq_true rfl) rfl rfl) rfl rfl ?_; rintro _ h4 ⟨hb4, hx4⟩; have hb34 := hx4.obj hb3 (fun e => by omega); have X4 : Ext No h h4 := (hx1.trans X13).trans' hx4 (fun q hq e => by omega); have s4 := X4.size; refine Gn ?_; refine Gs [(11, _), (14, _)] ?_; refine WC.seq ?_; refine WC.drawH (fun h' => Ext No h4 h') 6 6 rfl fol ?_; refine WH.tk 0 rfl (fun hq hC => ok_loadN (fun w => Tryz.isAgg27 w) (fun w => Tryz.sizeOf27 w) rfl rfl (by exact (At.of_block hb4).ext hC nos)) rfl rfl rfl ?_; refine WH.tk 2 rfl (fun hq hC => ok_loadN (fun w => Tryz.isAgg44 w) (fun w => Tryz.sizeOf44 w) rfl rfl (by exact (At.of_block hb34).ext hC nos)) rfl rfl rfl ?_; refine WH.two 1 3 (by kernel_rfl) (Br.out (i := 5006) ?_) (Br.out (i := 5007) ?_))
  all_goals (first | (fail_if_success refine goB 5006 ?_) | (
  refine goB 5006 ?_
  all_goals (refine Comes1.run rfl (okE_buildSlice (vs := [_]) (cs := [_, _, _, _, _, _, _, _, _, _]) (fun | [.agg ⟨[a0, a1, a2, a3, a4, a5, a6, a7, a8, a9]⟩] => [a0, a1, a2, a3, a4, a5, a6, a7, a8, a9] | _ => []) Tryz.underlying36 rfl rfl (by kernel_rfl)) rfl rfl rfl ?_ (fun _ => by kernel_rfl); rintro _ g3 ⟨q1, rfl, hgq1, hq1, z1⟩; refine ⟨fun _ => by first | exact z1 | exact z2.trans z1, ?_⟩; have hZ1 : Ext No h4 g3 := by first | exact z1 | exact z2.trans z1)
  all_goals (refine WH.tk 4 rfl (fun hq hC => ok_assign rfl) rfl rfl rfl ?_; refine WH.one 3 (by kernel_rfl) ?_; refine Comes1.run rfl (okE_buildSlice (vs := [_]) (cs := [_, _, _, _, _, _, _, _]) (fun | [.agg ⟨[a0, a1, a2, a3, a4, a5, a6, a7]⟩] => [a0, a1, a2, a3, a4, a5, a6, a7] | _ => []) Tryz.underlying37 rfl rfl (by kernel_rfl)) rfl rfl rfl ?_ (fun _ => by kernel_rfl); rintro _ g4 ⟨q2, rfl, hgq2, hq2, z2⟩; refine ⟨fun _ => by first | exact z2 | exact z1.trans z2, ?_⟩; have hZ2 : Ext No h4 g4 := by first | exact z2 | exact z1.trans z2)
  all_goals (refine WH.tk 5 rfl (fun hq hC => ok_assign rfl) rfl rfl rfl ?_; refine WH.done (by kernel_rfl) ?_)
  skip))
  all_goals (first | (fail_if_success refine goB 5007 ?_) | (
  refine goB 5007 ?_
  all_goals (refine Comes1.run rfl (okE_buildSlice (vs := [_]) (cs := [_, _, _, _, _, _, _, _]) (fun | [.agg ⟨[a0, a1, a2, a3, a4, a5, a6, a7]⟩] => [a0, a1, a2, a3, a4, a5, a6, a7] | _ => []) Tryz.underlying37 rfl rfl (by kernel_rfl)) rfl rfl rfl ?_ (fun _ => by kernel_rfl); rintro _ g4 ⟨q2, rfl, hgq2, hq2, z2⟩; refine ⟨fun _ => by first | exact z2 | exact z1.trans z2, ?_⟩; have hZ2 : Ext No h4 g4 := by first | exact z2 | exact z1.trans z2)
  all_goals (refine WH.one 1 (by kernel_rfl) ?_; refine Comes1.run rfl (okE_buildSlice (vs := [_]) (cs := [_, _, _, _, _, _, _, _, _, _]) (fun | [.agg ⟨[a0, a1, a2, a3, a4, a5, a6, a7, a8, a9]⟩] => [a0, a1, a2, a3, a4, a5, a6, a7, a8, a9] | _ => []) Tryz.underlying36 rfl rfl (by kernel_rfl)) rfl rfl rfl ?_ (fun _ => by kernel_rfl); rintro _ g3 ⟨q1, rfl, hgq1, hq1, z1⟩; refine ⟨fun _ => by first | exact z1 | exact z2.trans z1, ?_⟩; have hZ1 : Ext No h4 g3 := by first | exact z1 | exact z2.trans z1)
  all_goals (refine WH.tk 4 rfl (fun hq hC => ok_assign rfl) rfl rfl rfl ?_; refine WH.tk 5 rfl (fun hq hC => ok_assign rfl) rfl rfl rfl ?_; refine WH.done (by kernel_rfl) ?_)
  skip))
  all_goals (refine Gn ?_; refine Gs [(12, _), (13, _)] ?_; refine Gt ?_)
  all_goals (first
              | exact ⟨kk _ _ _ (z2.obj hq1 nos) hq2 (hfl.ext0 (X4.trans hZ2)) (hel _) (by omega) (by have := z1.size; omega), d.ext0 (X4.trans hZ2), fs_no (X4.trans hZ2)⟩
              | exact ⟨kk _ _ _ hq1 (z1.obj hq2 nos) (hfl.ext0 (X4.trans hZ1)) (hel _) (by have := z2.size; omega) (by omega), d.ext0 (X4.trans hZ1), fs_no (X4.trans hZ1)⟩)
end
end Go.Proofs.YtggmocdbfbhklaaGreat


/-
  REWRITE (layer 24), by the document: a message that uses a statement which is there.
-/
namespace Go.Proofs.YtggmocdbfbhklaaGreat
open Go Go.RK

section
variable {h0 h h1 h' : Heap} {B : Nat} {c : Int} {bt : Nat} {s : RS} {f : Fm} {v : Value} {ss : Option Addr} {sn sc : Nat} {spec : List Int} {most jd : Int} {kn : Bool}
set_option maxHeartbeats 4000000 in
set_option maxRecDepth 100000 in
theorem use_yes (d : Dst h0 h B bt s) (sv : Sv c s) (x0 : Ext No h0 h) (hf : f.ok h0) (hsp : Rd h0 (.slice ss sn sc) 1 spec.length (ints spec)) (hsl : spec.length ≤ 40) (hcc : 0 ≤ c ∧ c + 1 ≤ 1000000) :
    CallsH Tryz.prog 35 ⟨[ptE bt, In jd, .bool true, .slice ss sn sc, In most, .agg ⟨f.cells⟩]⟩ h (DoD h0 h B bt (useA s (jd, true) spec most f.pl)) := by
  obtain ⟨_, _, hvs, _⟩ := id hsp
  simp only [Value.slice.injEq] at hvs
  obtain ⟨rfl, rfl, rfl⟩ := hvs
  have hfl := fun (g : Heap) (x : Ext No h0 g) n => (lst_old (h0 := h0) (h := g) x fun h' x => (hf.ext0 x).named n)
  have hpl : ∀ n, ({ f with name := n } : Fm).pl = asP f.pl n := fun _ => rfl
  have kkd := fun g => kind_doc (h := g) f
  have kget := fun h' (x : Ext No h h') => d_get (d.ext0 x) sv jd
  have hol := d.olen jd
  have kready := fun h' (x : Ext No h0 h') (w : Value) (hw : Rd h' w 1 (getO' s jd).length (ints (getO' s jd))) => ready_refG (h := h') spec most jd (getT' s jd) (getO' s jd) (hsp.ext0 x) (by omega) hw (by omega)
  have kref := fun h' (d : Dst h0 h' B bt s) => d_ref d sv hcc.2 jd
  have huse : useA s (jd, true) spec most f.pl = (if jd ∈ spec then s else refS s jd, readyF spec most jd (getT' s jd) (getO' s jd) ++ [asP f.pl (srvL jd)], readyE spec most jd ++ [(entK f.kind f.what, false, srvL jd, f.name, [], [], [(3, jd, ())], [])]) := rfl
  rw [huse]
  clear huse
  have hrl := fun t l => ready_len (spec := spec) (most := most) (jd := jd) (t := t) (l := l)
  obtain ⟨⟨e1, _⟩, ⟨e2, _⟩, ⟨e3, _⟩, e4, _⟩ := hf
  generalize hP : f.pl = P at *
  generalize hK : entK f.kind f.what = K at *
  generalize hO : getO' s jd = O at *
  generalize hTt : getT' s jd = tx at *
  have kget2 : ∀ h' (x : Ext No h h'), CallsH Tryz.prog 69 ⟨[ptE bt, In jd]⟩ h' fun u h2 => ∃ v', u = .tuple ⟨[.agg ⟨[St tx, v']⟩, .bool (getS s jd).isSome]⟩ ∧ Own h2 v' 3 1 O.length (ints O) ∧ Ext No h' h2 := fun h' x => by rw [← hTt, ← hO]; exact kget h' x
  clear kget
  obtain ⟨fk, w, n, p, t, vo, o, vf, fs, vs, rs, vp, ps, mx⟩ := f
  dsimp only at e1 e2 e3 e4
  obtain ⟨_, _, rfl, _⟩ := e1
  obtain ⟨_, _, rfl, _⟩ := e2
  obtain ⟨_, _, rfl, _⟩ := e3
  obtain ⟨_, _, rfl, _⟩ := e4
  dsimp only [Fm.cells, ptE] at hfl hpl kkd kget2 kref ⊢
  by_cases hin : jd ∈ spec
  all_goals first | rw [if_pos hin] | rw [if_neg hin]
  all_goals
    refine calls [(0, _), (1, _), (2, _), (3, _), (4, _), (5, _)] Tryz.func35 rfl Tryz.ntmps35 rfl ⟨rfl, rfl, rfl, rfl, rfl, rfl, trivial⟩ ?_
    all_goals (refine WC.sr ?_; refine WL.stepR (okE_box rfl) rfl rfl rfl ?_; rintro _ h1 ⟨b9, rfl, hg1, hb1, hx1⟩; refine Go ?_; refine WC.seq ?_; refine WC.drawH (fun h' => Ext No h1 h') 6 7 rfl fol ?_; refine WH.tk 0 rfl (fun hq hC => ok_loadN (fun w => Tryz.isAgg27 w) (fun w => Tryz.sizeOf27 w) rfl rfl (by exact (At.of_block hb1).ext hC nos)) rfl rfl rfl ?_; refine WH.tk 2 rfl (fun hq hC => ok_fieldAddr rfl Tryz.underlying27 rfl (fun w => Tryz.sizeOf9 w)) rfl rfl rfl ?_; refine WH.tk 3 rfl (fun hq hC => ok_load (fun w => Tryz.isAgg9 w) rfl (by first | exact hC.cell (by first | exact cell_blk hb1 rfl | assumption | exact cell_blk (by assumption) rfl) nos)) rfl rfl rfl ?_; refine WH.two 1 5 (by kernel_rfl) (Br.out (i := 5003) ?_) (Br.out (i := 5004) ?_))
    all_goals (first | (fail_if_success refine goB 5003 ?_) | (
    refine goB 5003 ?_
    all_goals (refine Comes1.call (vs := [_]) rfl rfl (fun a w => Tryz.call37 a w) rfl (kkd _) rfl rfl rfl ?_ (fun _ => by kernel_rfl); rintro _ g1 ⟨rfl, y1⟩; refine ⟨fun _ => by first | exact y1 | exact y2.trans y1, ?_⟩; have hY1 : Ext No h1 g1 := by first | exact y1 | exact y2.trans y1)
    all_goals (refine WH.tk 4 rfl (fun hq hC => ok_buildF (vs := [_, _, _]) (cs := [_, _, _, _, _, _, _, _]) (fun | [a0, a2, a3] => [a0, (.bool false), a2, a3, (.slice none 0 0), (.slice none 0 0), (.slice none 0 0), (.slice none 0 0)] | _ => []) rfl rfl (by kernel_rfl)) rfl rfl rfl ?_; refine WH.one 5 (by kernel_rfl) ?_; refine Comes1.run rfl (okE_alloc (fun w => Tryz.zeroValue44 w)) rfl rfl rfl ?_ (fun _ => by kernel_rfl); rintro _ g2 ⟨b12, rfl, hg2, hb2, y2⟩; refine ⟨fun _ => by first | exact y2 | exact y1.trans y2, ?_⟩; have hY2 : Ext No h1 g2 := by first | exact y2 | exact y1.trans y2)
    all_goals (refine WH.one 6 (by kernel_rfl) ?_)
    all_goals (first
                | (have HB := y1.obj hb2 nos; have HY := hY1; have HG : h1.size ≤ b12 := hg2)
                | (have HB := hb2; have HY := hY2; have HG : h1.size ≤ b12 := Nat.le_trans hY1.size hg2))
    all_goals (refine Comes1.run0 rfl (okE_storeW (fun w => Tryz.sizeOf44 w) rfl rfl rfl HB rfl (by simp [Value.oneCell'])) rfl rfl ?_ (fun _ => by kernel_rfl); rintro _ h3 ⟨hb3, hx3⟩; refine ⟨fun _ => HY.trans' hx3 (fun q hq e => by omega), ?_⟩; have l1 := lt_of_some hb1; have s1 := hx1.size; have X13 : Ext No h1 h3 := HY.trans' hx3 (fun q hq e => by omega); have hb13 := X13.obj hb1 nos; clear HB HY; have X3 := hx1.trans X13; refine WH.done (by kernel_rfl) ?_)
    skip))
    all_goals (first | (fail_if_success refine goB 5004 ?_) | (
    refine goB 5004 ?_
    all_goals (refine Comes1.run rfl (okE_alloc (fun w => Tryz.zeroValue44 w)) rfl rfl rfl ?_ (fun _ => by kernel_rfl); rintro _ g2 ⟨b12, rfl, hg2, hb2, y2⟩; refine ⟨fun _ => by first | exact y2 | exact y1.trans y2, ?_⟩; have hY2 : Ext No h1 g2 := by first | exact y2 | exact y1.trans y2)
    all_goals (refine WH.one 1 (by kernel_rfl) ?_; refine Comes1.call (vs := [_]) rfl rfl (fun a w => Tryz.call37 a w) rfl (kkd _) rfl rfl rfl ?_ (fun _ => by kernel_rfl); rintro _ g1 ⟨rfl, y1⟩; refine ⟨fun _ => by first | exact y1 | exact y2.trans y1, ?_⟩; have hY1 : Ext No h1 g1 := by first | exact y1 | exact y2.trans y1)
    all_goals (refine WH.tk 4 rfl (fun hq hC => ok_buildF (vs := [_, _, _]) (cs := [_, _, _, _, _, _, _, _]) (fun | [a0, a2, a3] => [a0, (.bool false), a2, a3, (.slice none 0 0), (.slice none 0 0), (.slice none 0 0), (.slice none 0 0)] | _ => []) rfl rfl (by kernel_rfl)) rfl rfl rfl ?_; refine WH.one 6 (by kernel_rfl) ?_)
    all_goals (first
                | (have HB := y1.obj hb2 nos; have HY := hY1; have HG : h1.size ≤ b12 := hg2)
                | (have HB := hb2; have HY := hY2; have HG : h1.size ≤ b12 := Nat.le_trans hY1.size hg2))
    all_goals (refine Comes1.run0 rfl (okE_storeW (fun w => Tryz.sizeOf44 w) rfl rfl rfl HB rfl (by simp [Value.oneCell'])) rfl rfl ?_ (fun _ => by kernel_rfl); rintro _ h3 ⟨hb3, hx3⟩; refine ⟨fun _ => HY.trans' hx3 (fun q hq e => by omega), ?_⟩; have l1 := lt_of_some hb1; have s1 := hx1.size; have X13 : Ext No h1 h3 := HY.trans' hx3 (fun q hq e => by omega); have hb13 := X13.obj hb1 nos; clear HB HY; have X3 := hx1.trans X13; refine WH.done (by kernel_rfl) ?_)
    skip))
    all_goals (refine Gn ?_; refine Gs [(0, _), (1, _), (2, _), (3, _), (4, _), (11, _), (14, _)] ?_; refine WC.seq ?_; refine WC.sr ?_; refine Go ?_; refine goC 1 2 ?_ TT.mk; refine goB 2 ?_; refine WC.skip ?_; refine Gn ?_; refine WC.sr ?_; refine Go ?_; refine WL.call (vs := [_, _]) rfl (fun a w => Tryz.call69 a w) rfl (kget2 _ X3) rfl rfl rfl ?_; rintro _ h5 ⟨v6, rfl, ho6, hx6⟩; obtain ⟨A6, c6, rfl, _⟩ := ho6.slice; refine Go ?_; refine WL.stepR (okE_alloc (fun w => Tryz.zeroValue63 w)) rfl rfl rfl ?_; rintro _ h6 ⟨b15, rfl, hg6, hb6, hx66⟩; refine WL.stepR0 (okE_storeW (fun w => Tryz.sizeOf63 w) rfl rfl rfl hb6 rfl (by simp [Value.oneCell'])) rfl rfl ?_; rintro _ h7 ⟨hb7, hx7⟩; have x57 : Ext No h5 h7 := hx66.trans' hx7 (fun q hq e => by omega); have ho7 := ho6.ext x57 (fun _ _ => nos); have X7 := (X3.trans hx6).trans x57; have hb17 := x57.obj (hx6.obj hb13 nos) nos; have hb37 := x57.obj (hx6.obj hb3 nos) nos; refine Go ?_; refine Gs [(0, _), (1, _), (3, _), (4, _), (11, _), (14, _), (15, _)] ?_; refine WC.sr ?_; refine Go ?_; refine WL.step (ok_loadN (fun w => Tryz.isAgg63 w) (fun w => Tryz.sizeOf63 w) rfl rfl (by exact At.of_block hb7)) rfl rfl rfl ?_; refine WL.call (vs := [_, _, _, _]) rfl (fun a w => Tryz.call70 a w) rfl (kready _ (x0.trans X7) _ ho7.rd) rfl rfl rfl ?_; rintro _ h9 ⟨vF, vE, L, M, rfl, hoF, hoE, hL2, hM2, f1, f2, p1, p2, hx9, fF, fE⟩; obtain ⟨AF, cF, rfl, _⟩ := id hoF.slice; obtain ⟨AE, cE, rfl, _⟩ := id hoE.slice)
    all_goals (have hll := congrArg List.length p1
               rw [List.length_map] at hll
               have hr2 := hrl tx O
               rw [← hll] at hr2
               first | (have hL0 : L.length = 0 := hr2.2 hin) | (have hL0 : ¬ L.length = 0 := fun e => hin (hr2.1 e))
               clear hr2 hll hrl
               have hok : (∀ x ∈ L, Lst h0 h9 fun g => x.ok g) ∧ ∀ x ∈ M, Lst h0 h9 fun g => x.ok g := ⟨fun x hx => fg_lst (f1 x hx), okE_hi f2⟩
               clear f1 f2
               have X9 := X7.trans hx9
               have hb19 := hx9.obj hb17 nos
               have hb39 := hx9.obj hb37 nos
               have hd9 := d.ext0 X9)
    all_goals (refine Go ?_; refine Gs [(0, _), (1, _), (11, _), (14, _), (17, _), (18, _)] ?_; refine WC.seq ?_; refine WC.sr ?_; refine Go ?_; refine goC 3 4 ?_ TT.mk)
    all_goals (first | (fail_if_success refine goB 3 ?_) | (
    refine goB 3 ?_
    all_goals (refine WC.region ?_; refine Go ?_; refine WL.call (vs := [_, _]) rfl (fun a w => Tryz.call49 a w) rfl (kref _ hd9) rfl rfl rfl ?_; rintro _ h10 ⟨⟨xr, rfl⟩, d10, x10⟩; refine Gn ?_)
    skip))
    all_goals (first | (fail_if_success refine goB 4 ?_) | (
    refine goB 4 ?_
    all_goals (refine WC.skip ?_)
    skip))
    all_goals (refine Gn ?_; refine Gs [(1, _), (11, _), (14, _), (17, _), (18, _)] ?_; refine WC.sr ?_; refine Go ?_)
    all_goals (first
                | ((fail_if_success (have := x10)); obtain ⟨h10, rfl⟩ : ∃ g, g = h9 := ⟨h9, rfl⟩; have HJ := hb19; have HE := hb39; have hoF' := hoF; have hoE' := hoE; have hOk := hok; have dd := hd9; have XX : Ext (DS h0 h) h h10 := fs_no X9; have hfr := Nat.le_refl h10.size)
                | (have HJ := x10.obj hb19 (ds_off hb19 (by decide)); have HE := x10.obj hb39 (ds_off hb39 (by decide)); have hoF' := hoF.ext x10 (fun q hq e => by obtain ⟨_, y⟩ := own_ty hoF hq; exact ds_off y (by decide) e); have hoE' := hoE.ext x10 (fun q hq e => by obtain ⟨_, y⟩ := own_ty hoE hq; exact ds_off y (by decide) e); have hOk := And.intro (fun x hx => (hok.1 x hx).step x10 ds_sf) (fun x hx => (hok.2 x hx).step x10 ds_sf); have dd := d10; have XX : Ext (DS h0 h) h h10 := (fs_no X9).trans' x10 (fun q hq e => fs_no_back X9 hq e); have hfr := x10.size)
               clear hok kref kready kget2 hb19 hb39
               have l17 := lt_of_some hb17
               have l37 := lt_of_some hb37
               have n912 : ¬ b9 = b12 := by omega
               have h79 := hx9.size
               have nF : ∀ q, (Value.slice AF L.length cF).ownBlock = some q → q ≠ b9 ∧ q ≠ b12 := fun q hq => by have := fF q hq; omega
               have nE : ∀ q, (Value.slice AE M.length cE).ownBlock = some q → q ≠ b9 ∧ q ≠ b12 := fun q hq => by have := fE q hq; omega
               have h0b9 : h0.size ≤ b9 := by have := x0.size; omega
               have h0b12 : h0.size ≤ b12 := by have := x0.size; omega
               have hhb9 : h.size ≤ b9 := hg1
               have hhb12 : h.size ≤ b12 := by omega)
    all_goals (refine WL.call (vs := [_]) rfl (fun a w => Tryz.call68 a w) rfl (srv_ref jd) rfl rfl rfl ?_; rintro _ hz ⟨rfl, _⟩; subst hz; refine Go ?_; refine WL.stepR0 (okE_store (fun w => Tryz.sizeOf9 w) rfl rfl HJ (Nat.le_of_ble_eq_true rfl) rfl rfl) rfl rfl ?_; rintro _ h11 ⟨HJ11, hx11⟩; have HE11 := hx11.obj HE (fun e => n912 e.symm); refine Gn ?_; refine WC.sr ?_; refine Go ?_; refine WL.ld rfl (by first | exact cell_blk HJ11 rfl | assumption | exact cell_blk (by assumption) rfl) rfl rfl rfl ?_; refine Go ?_; refine WL.step (ok_buildF (vs := [_, _]) (cs := [_, _]) (fun | [a0, a1] => [a0, a1] | _ => []) rfl rfl (by kernel_rfl)) rfl rfl rfl ?_; refine WL.stepR (okE_buildSlice (vs := [_]) (cs := [_, _]) (fun | [.agg ⟨[a0, a1]⟩] => [a0, a1] | _ => []) Tryz.underlying41 rfl rfl (by kernel_rfl)) rfl rfl rfl ?_; rintro _ h12 ⟨b18, rfl, hg18, hb18, hx12⟩; refine Go ?_; refine WL.stepR0 (okE_store (fun w => Tryz.sizeOf9 w) rfl rfl (hx12.obj HE11 nos) (Nat.le_of_ble_eq_true rfl) rfl rfl) rfl rfl ?_; rintro _ h13 ⟨HE13, hx13⟩; refine Go ?_; refine WL.stepR0 (okE_store (fun w => Tryz.sizeOf41 w) rfl rfl HE13 (Nat.le_of_ble_eq_true rfl) rfl rfl) rfl rfl ?_; rintro _ h14 ⟨HE14, hx14⟩)
    all_goals (have x24 := hx13.trans hx14
               have l11 := lt_of_some HE11
               have HJ14 := x24.obj (hx12.obj HJ11 nos) n912
               have hb184 := x24.obj hb18 (fun e => by have e' : b18 = b12 := e; omega)
               have sJ : Sf h0 h10 (fun q => q = b9) := fun q e => ⟨by rw [show q = b9 from e]; exact h0b9, fun ty => absurd (ty_one HJ (e ▸ ty)) (by decide)⟩
               have sE : Sf h0 h12 (fun q => q = b12) := fun q e => ⟨by rw [show q = b12 from e]; exact h0b12, fun ty => absurd (ty_one (hx12.obj HE11 nos) (e ▸ ty)) (by decide)⟩
               have d14 := ((dd.keep hx11 (fun q e => ⟨_, _, e ▸ HJ, by decide⟩)).ext0 hx12).keep x24 (fun q e => ⟨_, _, e ▸ hx12.obj HE11 nos, by decide⟩)
               have hOk4 := And.intro (fun x hx => (((hOk.1 x hx).step hx11 sJ).ext0 hx12).step x24 sE) (fun x hx => (((hOk.2 x hx).step hx11 sJ).ext0 hx12).step x24 sE)
               have hoF4 := ((hoF'.ext hx11 (fun q hq e => (nF q hq).1 e)).ext hx12 (fun _ _ => nos)).ext x24 (fun q hq e => (nF q hq).2 e)
               have hoE4 := ((hoE'.ext hx11 (fun q hq e => (nE q hq).1 e)).ext hx12 (fun _ _ => nos)).ext x24 (fun q hq e => (nE q hq).2 e)
               have hC4 : Lst h0 h14 fun z => Ops z (.slice (some ⟨b18, 0, none⟩) 1 1) [(3, jd, ())] := (lst_blk hb184 (by decide)).mono fun _ z => one_op z
               have X14 : Ext (DS h0 h) h h14 := ((XX.trans' hx11 (fun q hq e => absurd hq (Nat.not_lt.2 (by rw [show q = b9 from e]; exact hhb9)))).trans' hx12 (fun _ _ e => e.elim)).trans' x24 (fun q hq e => absurd hq (Nat.not_lt.2 (by rw [show q = b12 from e]; exact hhb12)))
               have x014 := fs_old x0 X14
               have hsz : h7.size ≤ h14.size := Nat.le_trans hx9.size (Nat.le_trans hfr (Nat.le_trans hx11.size (Nat.le_trans hx12.size x24.size)))
               have s07 := (x0.trans X7).size
               have sh7 := X7.size
               have hF := hfl _ x014 (srvL jd)
               obtain ⟨vF, evF⟩ : ∃ z, z = Value.slice AF L.length cF := ⟨_, rfl⟩
               obtain ⟨vE, evE⟩ : ∃ z, z = Value.slice AE M.length cE := ⟨_, rfl⟩
               clear hoF hoE hoF' hoE' hOk dd XX HJ HE HE11 HE13
               have hoF := hoF4
               have hoE := hoE4
               rw [← evF] at hoF fF nF
               rw [← evE] at hoE fE nE
               have kF := hoF
               have kE := hoE
               have hC' := hC4
               have hOk := hOk4
               have hE : Ext (fun q => vF.ownBlock = some q ∨ vE.ownBlock = some q) h14 h14 := .refl _ _
               have hsf : ∀ {g : Heap} {S : Nat → Prop}, (∀ q, S q → vF.ownBlock = some q ∨ vE.ownBlock = some q) → Own g vF 27 10 L.length (L.flatMap Fm.cells) → Own g vE 44 8 M.length (M.flatMap En.cells) → Sf h0 g S := fun hS oF oE q e => ⟨by rcases hS q e with z | z; exact Nat.le_trans s07 (fF q z); exact Nat.le_trans s07 (fE q z), fun ty => by rcases hS q e with z | z; (obtain ⟨_, y⟩ := own_ty oF z; exact absurd (ty_one y ty) (by decide)); (obtain ⟨_, y⟩ := own_ty oE z; exact absurd (ty_one y ty) (by decide))⟩
               rw [← evF, ← evE])
    all_goals (refine Gn ?_; refine Gs [(11, _), (14, _), (17, _), (18, _)] ?_; refine WC.seq ?_; refine WC.drawH (fun h' => Ext (fun q => vF.ownBlock = some q ∨ vE.ownBlock = some q) h14 h') 10 10 rfl fol ?_; refine WH.tk 0 rfl (fun hq hC => ok_move rfl) rfl rfl rfl ?_; refine WH.tk 1 rfl (fun hq hC => ok_loadN (fun w => Tryz.isAgg27 w) (fun w => Tryz.sizeOf27 w) rfl rfl (by exact ((At.of_block HJ14).ext hC (fun e => e.elim (fun z => (nF _ z).1 rfl) (fun z => (nE _ z).1 rfl))))) rfl rfl rfl ?_; refine WH.tk 4 rfl (fun hq hC => ok_move rfl) rfl rfl rfl ?_; refine WH.tk 5 rfl (fun hq hC => ok_loadN (fun w => Tryz.isAgg44 w) (fun w => Tryz.sizeOf44 w) rfl rfl (by exact ((At.of_block HE14).ext hC (fun e => e.elim (fun z => (nF _ z).2 rfl) (fun z => (nE _ z).2 rfl))))) rfl rfl rfl ?_; refine WH.two 2 6 (by kernel_rfl) (Br.out (i := 5009) ?_) (Br.out (i := 5010) ?_))
    all_goals (first | (fail_if_success refine goB 5009 ?_) | (
    refine goB 5009 ?_
    all_goals (refine Comes1.run rfl (okE_buildSlice (vs := [_]) (cs := [_, _, _, _, _, _, _, _, _, _]) (fun | [.agg ⟨[a0, a1, a2, a3, a4, a5, a6, a7, a8, a9]⟩] => [a0, a1, a2, a3, a4, a5, a6, a7, a8, a9] | _ => []) Tryz.underlying36 rfl rfl (by kernel_rfl)) rfl rfl rfl ?_ (fun _ => by kernel_rfl); rintro _ g3 ⟨q3, rfl, hgq3, hb3e, y3⟩; refine ⟨fun _ => hE.trans (y3.mono fun _ _ e => e.elim), ?_⟩; replace hE := hE.trans (y3.mono (S' := fun q => vF.ownBlock = some q ∨ vE.ownBlock = some q) fun _ _ e => e.elim); replace hoF := hoF.ext y3 (fun _ _ => nos); replace hoE := hoE.ext y3 (fun _ _ => nos); replace hOk := And.intro (fun x hx => (hOk.1 x hx).ext0 y3) (fun x hx => (hOk.2 x hx).ext0 y3); replace hC' := hC'.ext0 y3; replace hF := hF.ext0 y3; try replace hb9e := y3.obj hb9e nos)
    all_goals (refine WH.two 3 6 (by kernel_rfl) (Br.out (i := 5009) ?_) (Br.out (i := 5010) ?_))
    all_goals (first | (fail_if_success refine goB 5009 ?_) | (
    refine goB 5009 ?_
    all_goals (refine Comes1.run rfl (ok_append (sz := 10) (bytes := 160) rfl Tryz.underlying36 (show Tryz.prog.info? 27 = some Tryz.t27 by kernel_rfl) rfl rfl rfl rfl (by decide) rfl rfl hoF (rd_blk hb3e rfl) (by simp [Value.oneCell']) (by simp only [maxLen]; omega) (by omega)) rfl rfl rfl ?_ (fun _ => by kernel_rfl); rintro v6 g4 ⟨hoF6, y4, hl6⟩; refine ⟨fun _ => hE.trans (y4.mono fun _ _ e => .inl e), ?_⟩; have hsz6 := y4.size; have hs4f := hsf (S := fun q => vF.ownBlock = some q) (fun q e => .inl e) hoF hoE; have hgF := fresh_of hl6 fF (Nat.le_trans hsz hE.size); replace hE := hE.trans (y4.mono (S' := fun q => vF.ownBlock = some q ∨ vE.ownBlock = some q) fun _ _ e => .inl e); replace hoE := hoE.ext y4 (fun q hq e => own_apart hoF hoE (by decide) q hq e); replace hOk := And.intro (fun x hx => (hOk.1 x hx).step y4 hs4f) (fun x hx => (hOk.2 x hx).step y4 hs4f); replace hC' := hC'.step y4 hs4f; replace hF := hF.step y4 hs4f; try replace hb9e := y4.obj hb9e (fun q => own_ne hoF hb9e (by decide) q))
    all_goals (refine WH.one 6 (by kernel_rfl) ?_; refine Comes1.run rfl (okE_buildSlice (vs := [_]) (cs := [_, _, _, _, _, _, _, _]) (fun | [.agg ⟨[a0, a1, a2, a3, a4, a5, a6, a7]⟩] => [a0, a1, a2, a3, a4, a5, a6, a7] | _ => []) Tryz.underlying37 rfl rfl (by kernel_rfl)) rfl rfl rfl ?_ (fun _ => by kernel_rfl); rintro _ g5 ⟨q9, rfl, hgq9, hb9e, y5⟩; refine ⟨fun _ => hE.trans (y5.mono fun _ _ e => e.elim), ?_⟩)
    all_goals (replace hE := hE.trans (y5.mono (S' := fun q => vF.ownBlock = some q ∨ vE.ownBlock = some q) fun _ _ e => e.elim)
               try replace hoF := hoF.ext y5 (fun _ _ => nos)
               try replace hoF6 := hoF6.ext y5 (fun _ _ => nos)
               try replace hb3e := y5.obj hb3e nos
               replace hoE := hoE.ext y5 (fun _ _ => nos)
               replace hOk := And.intro (fun x hx => (hOk.1 x hx).ext0 y5) (fun x hx => (hOk.2 x hx).ext0 y5)
               replace hC' := hC'.ext0 y5
               replace hF := hF.ext0 y5)
    all_goals (refine WH.one 7 (by kernel_rfl) ?_; refine Comes1.run rfl (ok_append (sz := 8) (bytes := 144) rfl Tryz.underlying37 (show Tryz.prog.info? 44 = some Tryz.t44 by kernel_rfl) rfl rfl rfl rfl (by decide) rfl rfl hoE (rd_blk hb9e rfl) (by simp [Value.oneCell']) (by simp only [maxLen]; omega) (by omega)) rfl rfl rfl ?_ (fun _ => by kernel_rfl); rintro v10 g6 ⟨hoE10, y6, hl10⟩; refine ⟨fun _ => hE.trans (y6.mono fun _ _ e => .inr e), ?_⟩; have hgE := fresh_of hl10 fE (Nat.le_trans hsz hE.size); (have hs6f : Sf h0 _ (fun q => vE.ownBlock = some q) := fun q e => ⟨Nat.le_trans s07 (fE q e), fun ty => by obtain ⟨_, y⟩ := own_ty hoE e; exact absurd (ty_one y ty) (by decide)⟩); replace hE := hE.trans (y6.mono (S' := fun q => vF.ownBlock = some q ∨ vE.ownBlock = some q) fun _ _ e => .inr e); replace hoF6 := hoF6.ext y6 (fun q hq e => own_apart hoE hoF6 (by decide) q hq e); replace hOk := And.intro (fun x hx => (hOk.1 x hx).step y6 hs6f) (fun x hx => (hOk.2 x hx).step y6 hs6f); replace hC' := hC'.step y6 hs6f; replace hF := hF.step y6 hs6f; refine WH.tk 8 rfl (fun hq hC => ok_assign rfl) rfl rfl rfl ?_; refine WH.tk 9 rfl (fun hq hC => ok_assign rfl) rfl rfl rfl ?_; refine WH.done (by kernel_rfl) ?_)
    skip))
    all_goals (first | (fail_if_success refine goB 5010 ?_) | (
    refine goB 5010 ?_
    all_goals (refine Comes1.run rfl (okE_buildSlice (vs := [_]) (cs := [_, _, _, _, _, _, _, _]) (fun | [.agg ⟨[a0, a1, a2, a3, a4, a5, a6, a7]⟩] => [a0, a1, a2, a3, a4, a5, a6, a7] | _ => []) Tryz.underlying37 rfl rfl (by kernel_rfl)) rfl rfl rfl ?_ (fun _ => by kernel_rfl); rintro _ g5 ⟨q9, rfl, hgq9, hb9e, y5⟩; refine ⟨fun _ => hE.trans (y5.mono fun _ _ e => e.elim), ?_⟩)
    all_goals (replace hE := hE.trans (y5.mono (S' := fun q => vF.ownBlock = some q ∨ vE.ownBlock = some q) fun _ _ e => e.elim)
               try replace hoF := hoF.ext y5 (fun _ _ => nos)
               try replace hoF6 := hoF6.ext y5 (fun _ _ => nos)
               try replace hb3e := y5.obj hb3e nos
               replace hoE := hoE.ext y5 (fun _ _ => nos)
               replace hOk := And.intro (fun x hx => (hOk.1 x hx).ext0 y5) (fun x hx => (hOk.2 x hx).ext0 y5)
               replace hC' := hC'.ext0 y5
               replace hF := hF.ext0 y5)
    all_goals (refine WH.one 3 (by kernel_rfl) ?_; refine Comes1.run rfl (ok_append (sz := 10) (bytes := 160) rfl Tryz.underlying36 (show Tryz.prog.info? 27 = some Tryz.t27 by kernel_rfl) rfl rfl rfl rfl (by decide) rfl rfl hoF (rd_blk hb3e rfl) (by simp [Value.oneCell']) (by simp only [maxLen]; omega) (by omega)) rfl rfl rfl ?_ (fun _ => by kernel_rfl); rintro v6 g4 ⟨hoF6, y4, hl6⟩; refine ⟨fun _ => hE.trans (y4.mono fun _ _ e => .inl e), ?_⟩; have hsz6 := y4.size; have hs4f := hsf (S := fun q => vF.ownBlock = some q) (fun q e => .inl e) hoF hoE; have hgF := fresh_of hl6 fF (Nat.le_trans hsz hE.size); replace hE := hE.trans (y4.mono (S' := fun q => vF.ownBlock = some q ∨ vE.ownBlock = some q) fun _ _ e => .inl e); replace hoE := hoE.ext y4 (fun q hq e => own_apart hoF hoE (by decide) q hq e); replace hOk := And.intro (fun x hx => (hOk.1 x hx).step y4 hs4f) (fun x hx => (hOk.2 x hx).step y4 hs4f); replace hC' := hC'.step y4 hs4f; replace hF := hF.step y4 hs4f; try replace hb9e := y4.obj hb9e (fun q => own_ne hoF hb9e (by decide) q))
    all_goals (refine WH.one 7 (by kernel_rfl) ?_; refine Comes1.run rfl (ok_append (sz := 8) (bytes := 144) rfl Tryz.underlying37 (show Tryz.prog.info? 44 = some Tryz.t44 by kernel_rfl) rfl rfl rfl rfl (by decide) rfl rfl hoE (rd_blk hb9e rfl) (by simp [Value.oneCell']) (by simp only [maxLen]; omega) (by omega)) rfl rfl rfl ?_ (fun _ => by kernel_rfl); rintro v10 g6 ⟨hoE10, y6, hl10⟩; refine ⟨fun _ => hE.trans (y6.mono fun _ _ e => .inr e), ?_⟩; have hgE := fresh_of hl10 fE (Nat.le_trans hsz hE.size); (have hs6f : Sf h0 _ (fun q => vE.ownBlock = some q) := fun q e => ⟨Nat.le_trans s07 (fE q e), fun ty => by obtain ⟨_, y⟩ := own_ty hoE e; exact absurd (ty_one y ty) (by decide)⟩); replace hE := hE.trans (y6.mono (S' := fun q => vF.ownBlock = some q ∨ vE.ownBlock = some q) fun _ _ e => .inr e); replace hoF6 := hoF6.ext y6 (fun q hq e => own_apart hoE hoF6 (by decide) q hq e); replace hOk := And.intro (fun x hx => (hOk.1 x hx).step y6 hs6f) (fun x hx => (hOk.2 x hx).step y6 hs6f); replace hC' := hC'.step y6 hs6f; replace hF := hF.step y6 hs6f; refine WH.tk 8 rfl (fun hq hC => ok_assign rfl) rfl rfl rfl ?_; refine WH.tk 9 rfl (fun hq hC => ok_assign rfl) rfl rfl rfl ?_; refine WH.done (by kernel_rfl) ?_)
    skip))
    skip))
    all_goals (first | (fail_if_success refine goB 5010 ?_) | (
    refine goB 5010 ?_
    all_goals (refine Comes1.run rfl (okE_buildSlice (vs := [_]) (cs := [_, _, _, _, _, _, _, _]) (fun | [.agg ⟨[a0, a1, a2, a3, a4, a5, a6, a7]⟩] => [a0, a1, a2, a3, a4, a5, a6, a7] | _ => []) Tryz.underlying37 rfl rfl (by kernel_rfl)) rfl rfl rfl ?_ (fun _ => by kernel_rfl); rintro _ g5 ⟨q9, rfl, hgq9, hb9e, y5⟩; refine ⟨fun _ => hE.trans (y5.mono fun _ _ e => e.elim), ?_⟩)
    all_goals (replace hE := hE.trans (y5.mono (S' := fun q => vF.ownBlock = some q ∨ vE.ownBlock = some q) fun _ _ e => e.elim)
               try replace hoF := hoF.ext y5 (fun _ _ => nos)
               try replace hoF6 := hoF6.ext y5 (fun _ _ => nos)
               try replace hb3e := y5.obj hb3e nos
               replace hoE := hoE.ext y5 (fun _ _ => nos)
               replace hOk := And.intro (fun x hx => (hOk.1 x hx).ext0 y5) (fun x hx => (hOk.2 x hx).ext0 y5)
               replace hC' := hC'.ext0 y5
               replace hF := hF.ext0 y5)
    all_goals (refine WH.one 2 (by kernel_rfl) ?_; refine Comes1.run rfl (okE_buildSlice (vs := [_]) (cs := [_, _, _, _, _, _, _, _, _, _]) (fun | [.agg ⟨[a0, a1, a2, a3, a4, a5, a6, a7, a8, a9]⟩] => [a0, a1, a2, a3, a4, a5, a6, a7, a8, a9] | _ => []) Tryz.underlying36 rfl rfl (by kernel_rfl)) rfl rfl rfl ?_ (fun _ => by kernel_rfl); rintro _ g3 ⟨q3, rfl, hgq3, hb3e, y3⟩; refine ⟨fun _ => hE.trans (y3.mono fun _ _ e => e.elim), ?_⟩; replace hE := hE.trans (y3.mono (S' := fun q => vF.ownBlock = some q ∨ vE.ownBlock = some q) fun _ _ e => e.elim); replace hoF := hoF.ext y3 (fun _ _ => nos); replace hoE := hoE.ext y3 (fun _ _ => nos); replace hOk := And.intro (fun x hx => (hOk.1 x hx).ext0 y3) (fun x hx => (hOk.2 x hx).ext0 y3); replace hC' := hC'.ext0 y3; replace hF := hF.ext0 y3; try replace hb9e := y3.obj hb9e nos)
    all_goals (refine WH.one 3 (by kernel_rfl) ?_; refine Comes1.run rfl (ok_append (sz := 10) (bytes := 160) rfl Tryz.underlying36 (show Tryz.prog.info? 27 = some Tryz.t27 by kernel_rfl) rfl rfl rfl rfl (by decide) rfl rfl hoF (rd_blk hb3e rfl) (by simp [Value.oneCell']) (by simp only [maxLen]; omega) (by omega)) rfl rfl rfl ?_ (fun _ => by kernel_rfl); rintro v6 g4 ⟨hoF6, y4, hl6⟩; refine ⟨fun _ => hE.trans (y4.mono fun _ _ e => .inl e), ?_⟩; have hsz6 := y4.size; have hs4f := hsf (S := fun q => vF.ownBlock = some q) (fun q e => .inl e) hoF hoE; have hgF := fresh_of hl6 fF (Nat.le_trans hsz hE.size); replace hE := hE.trans (y4.mono (S' := fun q => vF.ownBlock = some q ∨ vE.ownBlock = some q) fun _ _ e => .inl e); replace hoE := hoE.ext y4 (fun q hq e => own_apart hoF hoE (by decide) q hq e); replace hOk := And.intro (fun x hx => (hOk.1 x hx).step y4 hs4f) (fun x hx => (hOk.2 x hx).step y4 hs4f); replace hC' := hC'.step y4 hs4f; replace hF := hF.step y4 hs4f; try replace hb9e := y4.obj hb9e (fun q => own_ne hoF hb9e (by decide) q))
    all_goals (refine WH.one 7 (by kernel_rfl) ?_; refine Comes1.run rfl (ok_append (sz := 8) (bytes := 144) rfl Tryz.underlying37 (show Tryz.prog.info? 44 = some Tryz.t44 by kernel_rfl) rfl rfl rfl rfl (by decide) rfl rfl hoE (rd_blk hb9e rfl) (by simp [Value.oneCell']) (by simp only [maxLen]; omega) (by omega)) rfl rfl rfl ?_ (fun _ => by kernel_rfl); rintro v10 g6 ⟨hoE10, y6, hl10⟩; refine ⟨fun _ => hE.trans (y6.mono fun _ _ e => .inr e), ?_⟩; have hgE := fresh_of hl10 fE (Nat.le_trans hsz hE.size); (have hs6f : Sf h0 _ (fun q => vE.ownBlock = some q) := fun q e => ⟨Nat.le_trans s07 (fE q e), fun ty => by obtain ⟨_, y⟩ := own_ty hoE e; exact absurd (ty_one y ty) (by decide)⟩); replace hE := hE.trans (y6.mono (S' := fun q => vF.ownBlock = some q ∨ vE.ownBlock = some q) fun _ _ e => .inr e); replace hoF6 := hoF6.ext y6 (fun q hq e => own_apart hoE hoF6 (by decide) q hq e); replace hOk := And.intro (fun x hx => (hOk.1 x hx).step y6 hs6f) (fun x hx => (hOk.2 x hx).step y6 hs6f); replace hC' := hC'.step y6 hs6f; replace hF := hF.step y6 hs6f; refine WH.tk 8 rfl (fun hq hC => ok_assign rfl) rfl rfl rfl ?_; refine WH.tk 9 rfl (fun hq hC => ok_assign rfl) rfl rfl rfl ?_; refine WH.done (by kernel_rfl) ?_)
    skip))
    all_goals (refine Gn ?_; refine Gs [(12, _), (13, _)] ?_; refine Gt ?_)
    all_goals (have hdf := d14.keep hE (fun q e => e.elim (fun z => (own_ty kF z).elim fun _ y => ⟨_, _, y, by decide⟩) (fun z => (own_ty kE z).elim fun _ y => ⟨_, _, y, by decide⟩))
               have hg := gives_snoc (h := h7) hoF6 hoE10 hL2 hM2 hOk.1 hOk.2 hF (show Lst h0 _ fun z => (⟨K, false, srvL jd, n, .slice none 0 0, [], .slice none 0 0, [], .slice (some ⟨b18, 0, none⟩) 1 1, [(3, jd, ())], .slice none 0 0, []⟩ : En).ok z from fun S h' x s => ⟨tops_nil _, tops_nil _, hC' S h' x s, byt_nil _⟩) hgF hgE
               rw [p1, p2, hpl] at hg
               exact ⟨hg.from sh7, hdf, X14.trans' hE (fun q hq e => absurd (Nat.lt_of_lt_of_le hq sh7) (Nat.not_lt.2 (e.elim (fF q) (fE q))))⟩)
end
end Go.Proofs.YtggmocdbfbhklaaGreat


/-
  REWRITE (layer 24), by the document: Do.
-/
namespace Go.Proofs.YtggmocdbfbhklaaGreat
open Go Go.RK

section
variable {h0 h h1 h' : Heap} {B : Nat} {c : Int} {bt : Nat} {s : RS} {f : Fm} {v : Value} {ss : Option Addr} {sn sc : Nat} {spec : List Int} {most jd : Int} {kn : Bool}
theorem DoD.from {g : Heap} {r : RS × List FmP × List EnP} {u : Value} (k : DoD h0 g B bt r u h') (x : Ext No h g) : DoD h0 h B bt r u h' := ⟨k.1.from x.size, k.2.1, (fs_no x).trans' k.2.2 fun _ hq e => fs_no_back x hq e⟩
/-- A P, whether its name is there or not. -/
theorem parse_any (d : Dst h0 h B bt s) (sv : Sv c s) (x0 : Ext No h0 h) (hf : f.ok h0) (hk : f.kind = 80) (hol : f.oids.length ≤ 50) (hsp : Rd h0 (.slice ss sn sc) 1 spec.length (ints spec)) (hsl : spec.length ≤ 40) (hcc : 0 ≤ c ∧ c + 2 ≤ 1000000) :
    CallsH Tryz.prog 34 ⟨[ptE bt, .bool kn, .slice ss sn sc, In most, .agg ⟨f.cells⟩]⟩ h (DoD h0 h B bt (doA s (jd, kn) spec most f.pl)) := by
  have hdo : doA s (jd, kn) spec most f.pl = (if f.name ≠ [] ∧ kn = true then (s, [asP f.pl dupL], [(zE 2 dupL f.name).pl]) else preA s spec most f.pl) := by
    unfold doA
    rw [if_pos (show f.pl.1 = 80 from hk)]
    rfl
  rw [hdo]
  by_cases h1 : f.name ≠ [] ∧ kn = true
  · rw [if_pos h1]
    obtain ⟨h1, rfl⟩ := h1
    exact parse_dup d x0 hf hk h1
  · rw [if_neg h1]
    refine parse_new d sv x0 hf hk ?_ hol hsp hsl hcc
    by_cases h2 : f.name = []
    · exact .inl h2
    · right
      cases kn
      · rfl
      · exact absurd ⟨h2, rfl⟩ h1
/-- A message that uses a statement. -/
theorem use_any (d : Dst h0 h B bt s) (sv : Sv c s) (x0 : Ext No h0 h) (hf : f.ok h0) (hk : f.kind = 66 ∨ (f.kind = 68 ∧ f.what = 83)) (hsp : Rd h0 (.slice ss sn sc) 1 spec.length (ints spec)) (hsl : spec.length ≤ 40) (hcc : 0 ≤ c ∧ c + 2 ≤ 1000000) :
    CallsH Tryz.prog 35 ⟨[ptE bt, In jd, .bool kn, .slice ss sn sc, In most, .agg ⟨f.cells⟩]⟩ h (DoD h0 h B bt (doA s (jd, kn) spec most f.pl)) := by
  have hdo : doA s (jd, kn) spec most f.pl = useA s (jd, kn) spec most f.pl := by
    unfold doA
    rw [if_neg (show ¬ f.pl.1 = 80 from fun e => by have e' : f.kind = 80 := e; omega), if_pos (show f.pl.1 = 66 ∨ (f.pl.1 = 68 ∧ f.pl.2.1 = 83) from hk)]
  rw [hdo]
  cases kn
  · exact use_none d x0 hf
  · exact use_yes d sv x0 hf hsp hsl ⟨hcc.1, by omega⟩
end
end Go.Proofs.YtggmocdbfbhklaaGreat


/-
  REWRITE (layer 24), by the document: Do of a P, and of a message that uses a statement.
-/
namespace Go.Proofs.YtggmocdbfbhklaaGreat
open Go Go.RK

theorem WL.un {P : Program} {n : Env} {l0 l : List Oper} {Q : Post} {f : Fr} {h : Heap} (t : Nat) (_ : f.get t = some undef) (k : WL P n l0 l Q f h) : WL P n l0 l Q f h := k
section
variable {h0 h h1 h' hT : Heap} {B : Nat} {c : Int} {bt : Nat} {s : RS} {f : Fm} {v va : Value} {ss : Option Addr} {sn sc : Nat} {spec : List Int} {most jd : Int} {kn : Bool} {tb tm tr : Nat} {v15 : Value} {most15 : Int} {T : List NI} {A : List En}
set_option maxHeartbeats 4000000 in
set_option maxRecDepth 100000 in
theorem do_docPU (d : Dst h0 h B bt s) (sv : Sv c s) (x0 : Ext No h0 h) (hf : f.ok h0) (hk : f.kind = 80 ∨ f.kind = 66 ∨ (f.kind = 68 ∧ f.what = 83)) (hol : f.oids.length ≤ 50) (hsp : Rd h0 (.slice ss sn sc) 1 spec.length (ints spec)) (hsl : spec.length ≤ 40) (hcc : 0 ≤ c ∧ c + 2 ≤ 1000000) (dT : T15 hT h tb tm tr v15 most15 T) (g : Gds h va A) (hA : (opsE A).length ≤ 100000) :
    CallsH Tryz.prog 10 ⟨[ptE bt, .pointer (some ⟨tr, 0, none⟩), va, .slice ss sn sc, In most, .agg ⟨f.cells⟩]⟩ h
      (DoD h0 h B bt (doA s (lookT f.name ((getL T f.name).getD 0, (getL T f.name).isSome) (opsE A)) spec most f.pl)) := by
  have hneed : NeedK f.kind := by unfold NeedK; omega
  have kn := fun h' => needs_doc (h := h') f
  rw [decide_eq_true hneed] at kn
  have klk := fun h' (x : Ext No h h') => look_doc (dT.stay x (fun _ _ => nos)) (g.ext0 x) hA f.name
  generalize lookT f.name ((getL T f.name).getD 0, (getL T f.name).isSome) (opsE A) = lk at *
  obtain ⟨li, lb⟩ := lk
  have kp := fun h' (x : Ext No h h') (e : f.kind = 80) => (parse_any (jd := li) (kn := lb) (most := most) (d.ext0 x) sv (x0.trans x) hf e hol hsp hsl hcc).mono fun u g' k => DoD.from k x
  have ku := fun h' (x : Ext No h h') (e : f.kind = 66 ∨ (f.kind = 68 ∧ f.what = 83)) => (use_any (jd := li) (kn := lb) (most := most) (d.ext0 x) sv (x0.trans x) hf e hsp hsl hcc).mono fun u g' k => DoD.from k x
  have hu : ∀ u h', DoD h0 h B bt (doA s (li, lb) spec most f.pl) u h' → ∃ vF vE, u = .tuple ⟨[vF, vE]⟩ := fun u h' k => gives_u k.1
  generalize doA s (li, lb) spec most f.pl = RES at *
  obtain ⟨⟨e1, _⟩, ⟨e2, _⟩, ⟨e3, _⟩, e4, _⟩ := hf
  obtain ⟨fk, w, n, p, t, vo, o, vf, fs, vs, rs, vp, ps, mx⟩ := f
  dsimp only at e1 e2 e3 e4 hk
  obtain ⟨_, _, rfl, _⟩ := e1
  obtain ⟨_, _, rfl, _⟩ := e2
  obtain ⟨_, _, rfl, _⟩ := e3
  obtain ⟨_, _, rfl, _⟩ := e4
  dsimp only [Fm.cells, ptE] at kn klk kp ku ⊢
  clear hneed
  rcases hk with rfl | rfl | ⟨rfl, rfl⟩
  · clear ku
    refine calls [(0, _), (1, _), (2, _), (3, _), (4, _), (5, _)] Tryz.func10 rfl Tryz.ntmps10 rfl ⟨rfl, rfl, rfl, rfl, rfl, rfl, trivial⟩ ?_
    all_goals (refine WC.sr ?_; refine WL.stepR (okE_box rfl) rfl rfl rfl ?_; rintro _ h1 ⟨b11, rfl, hg1, hb1, hx1⟩; refine Go ?_; refine WC.seq ?_; refine WC.sr ?_; refine WL.step (ok_loadN (fun w => Tryz.isAgg27 w) (fun w => Tryz.sizeOf27 w) rfl rfl (by exact At.of_block hb1)) rfl rfl rfl ?_; refine WL.call (vs := [_]) rfl (fun a w => Tryz.call14 a w) rfl (kn _) rfl rfl rfl ?_; rintro _ h2 ⟨rfl, hx2⟩; have hb2 := hx2.obj hb1 nos; have X2 := hx1.trans hx2; refine Go ?_; refine Gs [(0, _), (1, _), (2, _), (3, _), (4, _), (11, _), (19, _)] ?_; refine goC 1 2 ?_ TT.mk; refine goB 2 ?_; refine WC.skip ?_; refine Gn ?_; refine WC.sr ?_; refine Go ?_; refine WL.ld rfl (by first | exact cell_blk hb2 rfl | assumption | exact cell_blk (by assumption) rfl) rfl rfl rfl ?_; refine WL.call (vs := [_, _, _]) rfl (fun a w => Tryz.call33 a w) rfl (klk _ X2) rfl rfl rfl ?_; rintro _ h3 ⟨rfl, hx3⟩; have hb3 := hx3.obj hb2 nos; have X3 := X2.trans hx3; refine Go ?_; refine Gs [(0, _), (3, _), (4, _), (11, _), (14, _), (15, _)] ?_; refine WC.seq ?_; refine WC.block ?_; refine WC.sr ?_; refine Go ?_; refine Ld ?_; refine Go ?_; refine goC 3 4 ?_ TT.mk; refine goB 3 ?_; refine WC.sr ?_; refine Go ?_; refine WL.step (ok_loadN (fun w => Tryz.isAgg27 w) (fun w => Tryz.sizeOf27 w) rfl rfl (by exact At.of_block hb3)) rfl rfl rfl ?_; refine WL.call (vs := [_, _, _, _, _]) rfl (fun a w => Tryz.call34 a w) rfl (kp _ X3 rfl) rfl rfl rfl ?_; rintro _ h4 hr; obtain ⟨vF, vE, rfl⟩ := hu _ _ hr; refine Go ?_; refine Gs [(12, _), (13, _)] ?_; refine Gt ?_; exact hr)
  all_goals
    clear kp
    refine calls [(0, _), (1, _), (2, _), (3, _), (4, _), (5, _)] Tryz.func10 rfl Tryz.ntmps10 rfl ⟨rfl, rfl, rfl, rfl, rfl, rfl, trivial⟩ ?_
    all_goals (refine WC.sr ?_; refine WL.stepR (okE_box rfl) rfl rfl rfl ?_; rintro _ h1 ⟨b11, rfl, hg1, hb1, hx1⟩; refine Go ?_; refine WC.seq ?_; refine WC.sr ?_; refine WL.step (ok_loadN (fun w => Tryz.isAgg27 w) (fun w => Tryz.sizeOf27 w) rfl rfl (by exact At.of_block hb1)) rfl rfl rfl ?_; refine WL.call (vs := [_]) rfl (fun a w => Tryz.call14 a w) rfl (kn _) rfl rfl rfl ?_; rintro _ h2 ⟨rfl, hx2⟩; have hb2 := hx2.obj hb1 nos; have X2 := hx1.trans hx2; refine Go ?_; refine Gs [(0, _), (1, _), (2, _), (3, _), (4, _), (11, _), (19, _)] ?_; refine goC 1 2 ?_ TT.mk; refine goB 2 ?_; refine WC.skip ?_; refine Gn ?_; refine WC.sr ?_; refine Go ?_; refine WL.ld rfl (by first | exact cell_blk hb2 rfl | assumption | exact cell_blk (by assumption) rfl) rfl rfl rfl ?_; refine WL.call (vs := [_, _, _]) rfl (fun a w => Tryz.call33 a w) rfl (klk _ X2) rfl rfl rfl ?_; rintro _ h3 ⟨rfl, hx3⟩; have hb3 := hx3.obj hb2 nos; have X3 := X2.trans hx3; refine Go ?_; refine Gs [(0, _), (3, _), (4, _), (11, _), (14, _), (15, _)] ?_; refine WC.seq ?_; refine WC.block ?_; refine WC.sr ?_; refine Go ?_; refine Ld ?_; refine Go ?_; refine goC 3 4 ?_ TT.mk; refine goB 4 ?_; refine WC.sr ?_; refine Go ?_; refine Ld ?_; refine Go ?_; refine goP 44 ?_ TT.mk; refine Gg ?_; first | (refine WL.pass rfl rfl rfl ?_) | (refine Ld ?_))
    all_goals (first | (refine WL.pass rfl rfl rfl ?_) | (refine WL.step (OkP.bool_t (by omega) (ok_eql rfl rfl)) rfl rfl rfl ?_))
    all_goals (first | (refine WL.pass rfl rfl rfl ?_) | (refine WL.step (ok_move rfl) rfl rfl rfl ?_))
    all_goals (first | (refine WL.un 48 rfl ?_) | (refine goP 48 ?_ TT.mk))
    all_goals (refine Gg ?_; first | (refine WL.pass rfl rfl rfl ?_) | (refine Ld ?_))
    all_goals (refine Gg ?_; refine Go ?_; refine Gs [(0, _), (3, _), (4, _), (11, _), (14, _), (15, _), (40, _)] ?_; refine goC 5 6 ?_ TT.mk; refine goB 5 ?_; refine WC.sr ?_; refine Go ?_; refine WL.step (ok_loadN (fun w => Tryz.isAgg27 w) (fun w => Tryz.sizeOf27 w) rfl rfl (by exact At.of_block hb3)) rfl rfl rfl ?_; refine WL.call (vs := [_, _, _, _, _, _]) rfl (fun a w => Tryz.call35 a w) rfl (ku _ X3 (by simp)) rfl rfl rfl ?_; rintro _ h4 hr; obtain ⟨vF, vE, rfl⟩ := hu _ _ hr; refine Go ?_; refine Gs [(12, _), (13, _)] ?_; refine Gt ?_; exact hr)
end
end Go.Proofs.YtggmocdbfbhklaaGreat


/-
  REWRITE (layer 24), by the document: Do of what is not told, and of an H.
-/
namespace Go.Proofs.YtggmocdbfbhklaaGreat
open Go Go.RK

section
variable {h0 h h1 h' hT : Heap} {B : Nat} {c : Int} {bt : Nat} {s : RS} {f : Fm} {v va : Value} {ss : Option Addr} {sn sc : Nat} {spec : List Int} {most jd : Int} {kn : Bool} {tb tm tr : Nat} {v15 : Value} {most15 : Int} {T : List NI} {A : List En}
set_option maxHeartbeats 2000000 in
set_option maxRecDepth 100000 in
theorem do_docNo (d : Dst h0 h B bt s) (hf : f.ok h0) (hk : ¬ NeedK f.kind) :
    CallsH Tryz.prog 10 ⟨[ptE bt, .pointer (some ⟨tr, 0, none⟩), va, .slice ss sn sc, In most, .agg ⟨f.cells⟩]⟩ h (DoD h0 h B bt (s, [], [])) := by
  have kn := fun h' => needs_doc (h := h') f
  rw [decide_eq_false hk] at kn
  obtain ⟨⟨e1, _⟩, ⟨e2, _⟩, ⟨e3, _⟩, e4, _⟩ := hf
  obtain ⟨fk, w, n, p, t, vo, o, vf, fs, vs, rs, vp, ps, mx⟩ := f
  dsimp only at e1 e2 e3 e4 hk
  obtain ⟨_, _, rfl, _⟩ := e1
  obtain ⟨_, _, rfl, _⟩ := e2
  obtain ⟨_, _, rfl, _⟩ := e3
  obtain ⟨_, _, rfl, _⟩ := e4
  dsimp only [Fm.cells, ptE] at kn ⊢
  refine calls [(0, _), (1, _), (2, _), (3, _), (4, _), (5, _)] Tryz.func10 rfl Tryz.ntmps10 rfl ⟨rfl, rfl, rfl, rfl, rfl, rfl, trivial⟩ ?_
  all_goals (refine WC.sr ?_; refine WL.stepR (okE_box rfl) rfl rfl rfl ?_; rintro _ h1 ⟨b11, rfl, hg1, hb1, hx1⟩; refine Go ?_; refine WC.seq ?_; refine WC.sr ?_; refine WL.step (ok_loadN (fun w => Tryz.isAgg27 w) (fun w => Tryz.sizeOf27 w) rfl rfl (by exact At.of_block hb1)) rfl rfl rfl ?_; refine WL.call (vs := [_]) rfl (fun a w => Tryz.call14 a w) rfl (kn _) rfl rfl rfl ?_; rintro _ h2 ⟨rfl, hx2⟩; refine Go ?_; refine Gs [(0, _), (1, _), (2, _), (3, _), (4, _), (11, _), (19, _)] ?_; refine goC 1 2 ?_ TT.mk; refine goB 1 ?_; refine WC.sr ?_; refine Go ?_; refine Gs [(12, _), (13, _)] ?_; refine Gt ?_; exact ⟨.nil, d.ext0 (hx1.trans hx2), fs_no (hx1.trans hx2)⟩)
set_option maxHeartbeats 2000000 in
set_option maxRecDepth 100000 in
theorem do_doc72 (d : Dst h0 h B bt s) (x0 : Ext No h0 h) (hf : f.ok h0) (hk : f.kind = 72) (dT : T15 hT h tb tm tr v15 most15 T) (g : Gds h va A) (hA : (opsE A).length ≤ 100000) :
    CallsH Tryz.prog 10 ⟨[ptE bt, .pointer (some ⟨tr, 0, none⟩), va, .slice ss sn sc, In most, .agg ⟨f.cells⟩]⟩ h (DoD h0 h B bt (s, [f.pl], [])) := by
  have kn := fun h' => needs_doc (h := h') f
  rw [decide_eq_true (show NeedK f.kind by unfold NeedK; omega)] at kn
  have klk := fun h' (x : Ext No h h') => look_doc (dT.stay x (fun _ _ => nos)) (g.ext0 x) hA f.name
  generalize lookT f.name ((getL T f.name).getD 0, (getL T f.name).isSome) (opsE A) = lk at *
  obtain ⟨li, lb⟩ := lk
  have hfl := fun (g : Heap) (x : Ext No h0 g) => (lst_old (h0 := h0) (h := g) x fun h' x => hf.ext0 x)
  have hgv : ∀ (q : Nat) (g : Heap), Ext No h0 g → g[q]? = some (.cells ⟨f.cells⟩ 27 (0, 0)) → h.size ≤ q → Gives h0 h [f.pl] [] (.tuple ⟨[.slice (some ⟨q, 0, none⟩) 1 1, .slice none 0 0]⟩) g := fun q g x hb hq => ⟨_, _, [f], [], rfl, ⟨by simpa using own_one hb (Fm.len _), Own.nil _ _ _, by simp, by simp, fun y hy => by obtain rfl := List.mem_singleton.1 hy; exact hfl g x, by simp, fun k z => by simp [Value.ownBlock] at z; omega, by simp [Value.ownBlock]⟩, rfl, rfl⟩
  obtain ⟨⟨e1, _⟩, ⟨e2, _⟩, ⟨e3, _⟩, e4, _⟩ := hf
  obtain ⟨fk, w, n, p, t, vo, o, vf, fs, vs, rs, vp, ps, mx⟩ := f
  dsimp only at e1 e2 e3 e4 hk
  subst hk
  obtain ⟨_, _, rfl, _⟩ := e1
  obtain ⟨_, _, rfl, _⟩ := e2
  obtain ⟨_, _, rfl, _⟩ := e3
  obtain ⟨_, _, rfl, _⟩ := e4
  dsimp only [Fm.cells, ptE] at kn klk hgv ⊢
  refine calls [(0, _), (1, _), (2, _), (3, _), (4, _), (5, _)] Tryz.func10 rfl Tryz.ntmps10 rfl ⟨rfl, rfl, rfl, rfl, rfl, rfl, trivial⟩ ?_
  all_goals (refine WC.sr ?_; refine WL.stepR (okE_box rfl) rfl rfl rfl ?_; rintro _ h1 ⟨b11, rfl, hg1, hb1, hx1⟩; refine Go ?_; refine WC.seq ?_; refine WC.sr ?_; refine WL.step (ok_loadN (fun w => Tryz.isAgg27 w) (fun w => Tryz.sizeOf27 w) rfl rfl (by exact At.of_block hb1)) rfl rfl rfl ?_; refine WL.call (vs := [_]) rfl (fun a w => Tryz.call14 a w) rfl (kn _) rfl rfl rfl ?_; rintro _ h2 ⟨rfl, hx2⟩; have hb2 := hx2.obj hb1 nos; have X2 := hx1.trans hx2; refine Go ?_; refine Gs [(0, _), (1, _), (2, _), (3, _), (4, _), (11, _), (19, _)] ?_; refine goC 1 2 ?_ TT.mk; refine goB 2 ?_; refine WC.skip ?_; refine Gn ?_; refine WC.sr ?_; refine Go ?_; refine WL.ld rfl (by first | exact cell_blk hb2 rfl | assumption | exact cell_blk (by assumption) rfl) rfl rfl rfl ?_; refine WL.call (vs := [_, _, _]) rfl (fun a w => Tryz.call33 a w) rfl (klk _ X2) rfl rfl rfl ?_; rintro _ h3 ⟨rfl, hx3⟩; have hb3 := hx3.obj hb2 nos; have X3 := X2.trans hx3; have s3 := X3.size; refine Go ?_; refine Gs [(0, _), (3, _), (4, _), (11, _), (14, _), (15, _)] ?_; refine WC.seq ?_; refine WC.block ?_; refine WC.sr ?_; refine Go ?_; refine Ld ?_; refine Go ?_; refine goC 3 4 ?_ TT.mk; refine goB 4 ?_; refine WC.sr ?_; refine Go ?_; refine Ld ?_; refine Go ?_; refine goP 44 ?_ TT.mk; refine Gg ?_; refine Ld ?_; refine WL.step (OkP.bool_f (by omega) (ok_eql rfl rfl)) rfl rfl rfl ?_; refine WL.step (ok_move rfl) rfl rfl rfl ?_; refine goP 48 ?_ TT.mk; refine Gg ?_; refine WL.pass rfl rfl rfl ?_; refine Gg ?_; refine Go ?_; refine Gs [(0, _), (3, _), (4, _), (11, _), (14, _), (15, _), (40, _)] ?_; refine goC 5 6 ?_ TT.mk; refine goB 6 ?_; refine WC.sr ?_; refine Go ?_; refine Ld ?_; refine Go ?_; refine goP 67 ?_ TT.mk; refine Gg ?_; refine WL.pass rfl rfl rfl ?_; refine Gg ?_; refine Go ?_; refine Gs [(11, _), (63, _)] ?_; refine goC 7 8 ?_ TT.mk; refine goB 8 ?_; refine WC.sr ?_; refine Go ?_; refine Ld ?_; refine Go ?_; refine Gs [(11, _), (82, _)] ?_; refine goC 9 10 ?_ TT.mk; refine goB 10 ?_; refine WC.sr ?_; refine Go ?_; refine Ld ?_; refine Go ?_; refine Gs [(11, _), (92, _)] ?_; refine goC 11 12 ?_ TT.mk; refine goB 11 ?_; refine WC.sr ?_; refine WL.step (ok_loadN (fun w => Tryz.isAgg27 w) (fun w => Tryz.sizeOf27 w) rfl rfl (by exact At.of_block hb3)) rfl rfl rfl ?_; refine WL.stepR (okE_buildSlice (vs := [_]) (cs := [_, _, _, _, _, _, _, _, _, _]) (fun | [.agg ⟨[a0, a1, a2, a3, a4, a5, a6, a7, a8, a9]⟩] => [a0, a1, a2, a3, a4, a5, a6, a7, a8, a9] | _ => []) Tryz.underlying36 rfl rfl (by kernel_rfl)) rfl rfl rfl ?_; rintro _ h4 ⟨q4, rfl, hg4, hb4, hx4⟩; refine Go ?_; refine Gs [(12, _), (13, _)] ?_; refine Gt ?_; exact ⟨hgv _ _ (x0.trans (X3.trans hx4)) hb4 (by omega), d.ext0 (X3.trans hx4), fs_no (X3.trans hx4)⟩)
end
end Go.Proofs.YtggmocdbfbhklaaGreat


/-
  REWRITE (layer 24), by the document: Do of a Q.
-/
namespace Go.Proofs.YtggmocdbfbhklaaGreat
open Go Go.RK

section
variable {h0 h h1 h' hT : Heap} {B : Nat} {c : Int} {bt : Nat} {s : RS} {f : Fm} {v va : Value} {ss : Option Addr} {sn sc : Nat} {spec : List Int} {most jd : Int} {kn : Bool} {tb tm tr : Nat} {v15 : Value} {most15 : Int} {T : List NI} {A : List En}
set_option maxHeartbeats 2000000 in
set_option maxRecDepth 100000 in
theorem do_doc81 (d : Dst h0 h B bt s) (x0 : Ext No h0 h) (hf : f.ok h0) (hk : f.kind = 81) (dT : T15 hT h tb tm tr v15 most15 T) (g : Gds h va A) (hA : (opsE A).length ≤ 100000) :
    CallsH Tryz.prog 10 ⟨[ptE bt, .pointer (some ⟨tr, 0, none⟩), va, .slice ss sn sc, In most, .agg ⟨f.cells⟩]⟩ h (DoD h0 h B bt (s, [f.pl], [(9, false, [], [], [(false, [], 0, ())], [], [], [])])) := by
  have kn := fun h' => needs_doc (h := h') f
  rw [decide_eq_true (show NeedK f.kind by unfold NeedK; omega)] at kn
  have klk := fun h' (x : Ext No h h') => look_doc (dT.stay x (fun _ _ => nos)) (g.ext0 x) hA f.name
  generalize lookT f.name ((getL T f.name).getD 0, (getL T f.name).isSome) (opsE A) = lk at *
  obtain ⟨li, lb⟩ := lk
  have hfl := fun (g : Heap) (x : Ext No h0 g) => (lst_old (h0 := h0) (h := g) x fun h' x => hf.ext0 x)
  have kk := fun p q g (e : En) => gives_one (h0 := h0) (h := h) (h' := g) (p := p) (q := q) (f := f) (e := e)
  obtain ⟨⟨e1, _⟩, ⟨e2, _⟩, ⟨e3, _⟩, e4, _⟩ := hf
  obtain ⟨fk, w, n, p, t, vo, o, vf, fs, vs, rs, vp, ps, mx⟩ := f
  dsimp only at e1 e2 e3 e4 hk
  subst hk
  obtain ⟨_, _, rfl, _⟩ := e1
  obtain ⟨_, _, rfl, _⟩ := e2
  obtain ⟨_, _, rfl, _⟩ := e3
  obtain ⟨_, _, rfl, _⟩ := e4
  dsimp only [Fm.cells, ptE] at kn klk kk hfl ⊢
  refine calls [(0, _), (1, _), (2, _), (3, _), (4, _), (5, _)] Tryz.func10 rfl Tryz.ntmps10 rfl ⟨rfl, rfl, rfl, rfl, rfl, rfl, trivial⟩ ?_
  all_goals (refine WC.sr ?_; refine WL.stepR (okE_box rfl) rfl rfl rfl ?_; rintro _ h1 ⟨b11, rfl, hg1, hb1, hx1⟩; refine Go ?_; refine WC.seq ?_; refine WC.sr ?_; refine WL.step (ok_loadN (fun w => Tryz.isAgg27 w) (fun w => Tryz.sizeOf27 w) rfl rfl (by exact At.of_block hb1)) rfl rfl rfl ?_; refine WL.call (vs := [_]) rfl (fun a w => Tryz.call14 a w) rfl (kn _) rfl rfl rfl ?_; rintro _ h2 ⟨rfl, hx2⟩; have hb2 := hx2.obj hb1 nos; have X2 := hx1.trans hx2; refine Go ?_; refine Gs [(0, _), (1, _), (2, _), (3, _), (4, _), (11, _), (19, _)] ?_; refine goC 1 2 ?_ TT.mk; refine goB 2 ?_; refine WC.skip ?_; refine Gn ?_; refine WC.sr ?_; refine Go ?_; refine WL.ld rfl (by first | exact cell_blk hb2 rfl | assumption | exact cell_blk (by assumption) rfl) rfl rfl rfl ?_; refine WL.call (vs := [_, _, _]) rfl (fun a w => Tryz.call33 a w) rfl (klk _ X2) rfl rfl rfl ?_; rintro _ h3 ⟨rfl, hx3⟩; have hb3 := hx3.obj hb2 nos; have X3 := X2.trans hx3; have s3 := X3.size; refine Go ?_; refine Gs [(0, _), (3, _), (4, _), (11, _), (14, _), (15, _)] ?_; refine WC.seq ?_; refine WC.block ?_; refine WC.sr ?_; refine Go ?_; refine Ld ?_; refine Go ?_; refine goC 3 4 ?_ TT.mk; refine goB 4 ?_; refine WC.sr ?_; refine Go ?_; refine Ld ?_; refine Go ?_; refine goP 44 ?_ TT.mk; refine Gg ?_; refine Ld ?_; refine WL.step (OkP.bool_f (by omega) (ok_eql rfl rfl)) rfl rfl rfl ?_; refine WL.step (ok_move rfl) rfl rfl rfl ?_; refine goP 48 ?_ TT.mk; refine Gg ?_; refine WL.pass rfl rfl rfl ?_; refine Gg ?_; refine Go ?_; refine Gs [(0, _), (3, _), (4, _), (11, _), (14, _), (15, _), (40, _)] ?_; refine goC 5 6 ?_ TT.mk; refine goB 6 ?_; refine WC.sr ?_; refine Go ?_; refine Ld ?_; refine Go ?_; refine goP 67 ?_ TT.mk; refine Gg ?_; refine WL.pass rfl rfl rfl ?_; refine Gg ?_; refine Go ?_; refine Gs [(11, _), (63, _)] ?_; refine goC 7 8 ?_ TT.mk; refine goB 8 ?_; refine WC.sr ?_; refine Go ?_; refine Ld ?_; refine Go ?_; refine Gs [(11, _), (82, _)] ?_; refine goC 9 10 ?_ TT.mk; refine goB 9 ?_; refine WC.sr ?_; refine WL.step (ok_loadN (fun w => Tryz.isAgg27 w) (fun w => Tryz.sizeOf27 w) rfl rfl (by exact At.of_block hb3)) rfl rfl rfl ?_; refine WL.stepR (okE_buildSlice (vs := [_]) (cs := [_, _, _, _, _, _, _, _, _, _]) (fun | [.agg ⟨[a0, a1, a2, a3, a4, a5, a6, a7, a8, a9]⟩] => [a0, a1, a2, a3, a4, a5, a6, a7, a8, a9] | _ => []) Tryz.underlying36 rfl rfl (by kernel_rfl)) rfl rfl rfl ?_; rintro _ h4 ⟨q4, rfl, hg4, hb4, hx4⟩; refine WL.step (ok_buildF (vs := []) (cs := [_, _, _]) (fun | [] => [(.bool false), (St []), (.int .i64 0)] | _ => []) rfl rfl (by kernel_rfl)) rfl rfl rfl ?_; refine WL.stepR (okE_buildSlice (vs := [_]) (cs := [_, _, _]) (fun | [.agg ⟨[a0, a1, a2]⟩] => [a0, a1, a2] | _ => []) Tryz.underlying40 rfl rfl (by kernel_rfl)) rfl rfl rfl ?_; rintro _ h5 ⟨q5, rfl, hg5, hb5, hx5⟩; refine WL.step (ok_buildF (vs := [_, _]) (cs := [_, _, _, _, _, _, _, _]) (fun | [a0, a4] => [a0, (.bool false), (St []), (St []), a4, (.slice none 0 0), (.slice none 0 0), (.slice none 0 0)] | _ => []) rfl rfl (by kernel_rfl)) rfl rfl rfl ?_; refine WL.stepR (okE_buildSlice (vs := [_]) (cs := [_, _, _, _, _, _, _, _]) (fun | [.agg ⟨[a0, a1, a2, a3, a4, a5, a6, a7]⟩] => [a0, a1, a2, a3, a4, a5, a6, a7] | _ => []) Tryz.underlying37 rfl rfl (by kernel_rfl)) rfl rfl rfl ?_; rintro _ h6 ⟨q6, rfl, hg6, hb6, hx6⟩)
  all_goals (refine Go ?_; refine Gs [(12, _), (13, _)] ?_; refine Gt ?_; exact ⟨kk _ _ _ (⟨9, false, [], [], .slice (some ⟨q5, 0, none⟩) 1 1, [(false, [], 0, ())], .slice none 0 0, [], .slice none 0 0, [], .slice none 0 0, []⟩ : En) ((hx5.trans hx6).obj hb4 nos) hb6 (hfl _ (x0.trans (((X3.trans hx4).trans hx5).trans hx6))) (fun S h' x s => ⟨((lst_blk (h0 := h0) (hx6.obj hb5 nos) (by decide)).mono fun _ z => tops_one z) S h' x s, tops_nil _, ops_nil _, byt_nil _⟩) (by omega) (by have := hx4.size; have := hx5.size; omega), d.ext0 (((X3.trans hx4).trans hx5).trans hx6), fs_no (((X3.trans hx4).trans hx5).trans hx6)⟩)
end
end Go.Proofs.YtggmocdbfbhklaaGreat


/-
  REWRITE (layer 24), by the document: Do of any other message.
-/
namespace Go.Proofs.YtggmocdbfbhklaaGreat
open Go Go.RK

section
variable {h0 h h1 h' hT : Heap} {B : Nat} {c : Int} {bt : Nat} {s : RS} {f : Fm} {v va : Value} {ss : Option Addr} {sn sc : Nat} {spec : List Int} {most jd : Int} {kn : Bool} {tb tm tr : Nat} {v15 : Value} {most15 : Int} {T : List NI} {A : List En}
set_option maxHeartbeats 4000000 in
set_option maxRecDepth 100000 in
theorem do_docElse (d : Dst h0 h B bt s) (x0 : Ext No h0 h) (hf : f.ok h0) (hk : (f.kind = 67 ∧ ¬ f.what = 83) ∨ (f.kind = 68 ∧ ¬ f.what = 83) ∨ f.kind = 69 ∨ f.kind = 83) (dT : T15 hT h tb tm tr v15 most15 T) (g : Gds h va A) (hA : (opsE A).length ≤ 100000) :
    CallsH Tryz.prog 10 ⟨[ptE bt, .pointer (some ⟨tr, 0, none⟩), va, .slice ss sn sc, In most, .agg ⟨f.cells⟩]⟩ h (DoD h0 h B bt (s, [f.pl], [(zE (entK f.kind f.what) [] []).pl])) := by
  have kn := fun h' => needs_doc (h := h') f
  rw [decide_eq_true (show NeedK f.kind by unfold NeedK; omega)] at kn
  have klk := fun h' (x : Ext No h h') => look_doc (dT.stay x (fun _ _ => nos)) (g.ext0 x) hA f.name
  generalize lookT f.name ((getL T f.name).getD 0, (getL T f.name).isSome) (opsE A) = lk at *
  obtain ⟨li, lb⟩ := lk
  have kkd := fun g => kind_doc (h := g) f
  have hfl := fun (g : Heap) (x : Ext No h0 g) => (lst_old (h0 := h0) (h := g) x fun h' x => hf.ext0 x)
  have kk := fun p q g => gives_one (h0 := h0) (h := h) (h' := g) (p := p) (q := q) (f := f) (e := zE (entK f.kind f.what) [] [])
  have hel := fun h' => (lst_all (h0 := h0) (h := h') (zE_ok (entK f.kind f.what) [] []))
  obtain ⟨⟨e1, _⟩, ⟨e2, _⟩, ⟨e3, _⟩, e4, _⟩ := hf
  generalize entK f.kind f.what = K at *
  obtain ⟨fk, w, n, p, t, vo, o, vf, fs, vs, rs, vp, ps, mx⟩ := f
  dsimp only at e1 e2 e3 e4 hk
  obtain ⟨_, _, rfl, _⟩ := e1
  obtain ⟨_, _, rfl, _⟩ := e2
  obtain ⟨_, _, rfl, _⟩ := e3
  obtain ⟨_, _, rfl, _⟩ := e4
  dsimp only [Fm.cells, ptE, zE, En.cells] at kn klk kk hfl hel kkd ⊢
  rcases hk with ⟨rfl, hw⟩ | ⟨rfl, hw⟩ | rfl | rfl
  all_goals
    refine calls [(0, _), (1, _), (2, _), (3, _), (4, _), (5, _)] Tryz.func10 rfl Tryz.ntmps10 rfl ⟨rfl, rfl, rfl, rfl, rfl, rfl, trivial⟩ ?_
    all_goals (refine WC.sr ?_; refine WL.stepR (okE_box rfl) rfl rfl rfl ?_; rintro _ h1 ⟨b11, rfl, hg1, hb1, hx1⟩; refine Go ?_; refine WC.seq ?_; refine WC.sr ?_; refine WL.step (ok_loadN (fun w => Tryz.isAgg27 w) (fun w => Tryz.sizeOf27 w) rfl rfl (by exact At.of_block hb1)) rfl rfl rfl ?_; refine WL.call (vs := [_]) rfl (fun a w => Tryz.call14 a w) rfl (kn _) rfl rfl rfl ?_; rintro _ h2 ⟨rfl, hx2⟩; have hb2 := hx2.obj hb1 nos; have X2 := hx1.trans hx2; refine Go ?_; refine Gs [(0, _), (1, _), (2, _), (3, _), (4, _), (11, _), (19, _)] ?_; refine goC 1 2 ?_ TT.mk; refine goB 2 ?_; refine WC.skip ?_; refine Gn ?_; refine WC.sr ?_; refine Go ?_; refine WL.ld rfl (by first | exact cell_blk hb2 rfl | assumption | exact cell_blk (by assumption) rfl) rfl rfl rfl ?_; refine WL.call (vs := [_, _, _]) rfl (fun a w => Tryz.call33 a w) rfl (klk _ X2) rfl rfl rfl ?_; rintro _ h3 ⟨rfl, hx3⟩; have hb3 := hx3.obj hb2 nos; have X3 := X2.trans hx3; have s3 := X3.size; refine Go ?_; refine Gs [(0, _), (3, _), (4, _), (11, _), (14, _), (15, _)] ?_; refine WC.seq ?_; refine WC.block ?_; refine WC.sr ?_; refine Go ?_; refine Ld ?_; refine Go ?_; refine goC 3 4 ?_ TT.mk; refine goB 4 ?_; refine WC.sr ?_; refine Go ?_; refine Ld ?_; refine Go ?_; refine goP 44 ?_ TT.mk; refine Gg ?_; refine Ld ?_; first | (refine WL.step (OkP.bool_t (by omega) (ok_eql rfl rfl)) rfl rfl rfl ?_) | (refine WL.step (OkP.bool_f (by omega) (ok_eql rfl rfl)) rfl rfl rfl ?_))
    all_goals (refine WL.step (ok_move rfl) rfl rfl rfl ?_; refine goP 48 ?_ TT.mk; refine Gg ?_; first | (refine WL.pass rfl rfl rfl ?_) | (refine Ld ?_))
    all_goals (refine Gg ?_; refine Go ?_; refine Gs [(0, _), (3, _), (4, _), (11, _), (14, _), (15, _), (40, _)] ?_; refine goC 5 6 ?_ TT.mk; refine goB 6 ?_; refine WC.sr ?_; refine Go ?_; refine Ld ?_; refine Go ?_; refine goP 67 ?_ TT.mk; refine Gg ?_; first | (refine WL.pass rfl rfl rfl ?_) | (refine Ld ?_))
    all_goals (refine Gg ?_; refine Go ?_; refine Gs [(11, _), (63, _)] ?_; refine goC 7 8 ?_ TT.mk; refine goB 8 ?_; refine WC.sr ?_; refine Go ?_; refine Ld ?_; refine Go ?_; refine Gs [(11, _), (82, _)] ?_; refine goC 9 10 ?_ TT.mk; refine goB 10 ?_; refine WC.sr ?_; refine Go ?_; refine Ld ?_; refine Go ?_; refine Gs [(11, _), (92, _)] ?_; refine goC 11 12 ?_ TT.mk; refine goB 12 ?_; refine WC.skip ?_; refine Gn ?_; refine WC.seq ?_; refine WC.drawH (fun h' => Ext No h3 h') 8 8 rfl fol ?_; refine WH.tk 0 rfl (fun hq hC => ok_loadN (fun w => Tryz.isAgg27 w) (fun w => Tryz.sizeOf27 w) rfl rfl (by exact (At.of_block hb3).ext hC nos)) rfl rfl rfl ?_; refine WH.tk 2 rfl (fun hq hC => ok_loadN (fun w => Tryz.isAgg27 w) (fun w => Tryz.sizeOf27 w) rfl rfl (by exact (At.of_block hb3).ext hC nos)) rfl rfl rfl ?_; refine WH.two 1 3 (by kernel_rfl) (Br.out (i := 5006) ?_) (Br.out (i := 5007) ?_))
    all_goals (first | (fail_if_success refine goB 5006 ?_) | (
    refine goB 5006 ?_
    all_goals (refine Comes1.run rfl (okE_buildSlice (vs := [_]) (cs := [_, _, _, _, _, _, _, _, _, _]) (fun | [.agg ⟨[a0, a1, a2, a3, a4, a5, a6, a7, a8, a9]⟩] => [a0, a1, a2, a3, a4, a5, a6, a7, a8, a9] | _ => []) Tryz.underlying36 rfl rfl (by kernel_rfl)) rfl rfl rfl ?_ (fun _ => by kernel_rfl); rintro _ g1 ⟨q1, rfl, hgq1, hq1, z1⟩; refine ⟨fun _ => by first | exact z1 | exact z2.trans z1 | exact z2.trans (z3.trans z1)  | exact (z2.trans z3).trans z1, ?_⟩; have hZ1 : Ext No h3 g1 := by first | exact z1 | exact z2.trans z1 | exact (z2.trans z3).trans z1)
    all_goals (refine WH.one 3 (by kernel_rfl) ?_; refine Comes1.call (vs := [_]) rfl rfl (fun a w => Tryz.call37 a w) rfl (kkd _) rfl rfl rfl ?_ (fun _ => by kernel_rfl); rintro _ g2 ⟨rfl, z2⟩; refine ⟨fun _ => by first | exact z2 | exact z1.trans z2, ?_⟩; have hZ2 : Ext No h3 g2 := by first | exact z2 | exact z1.trans z2)
    all_goals (refine WH.tk 4 rfl (fun hq hC => ok_buildF (vs := [_]) (cs := [_, _, _, _, _, _, _, _]) (fun | [a0] => [a0, (.bool false), (St []), (St []), (.slice none 0 0), (.slice none 0 0), (.slice none 0 0), (.slice none 0 0)] | _ => []) rfl rfl (by kernel_rfl)) rfl rfl rfl ?_; refine WH.tk 6 rfl (fun hq hC => ok_assign rfl) rfl rfl rfl ?_; refine WH.one 5 (by kernel_rfl) ?_; refine Comes1.run rfl (okE_buildSlice (vs := [_]) (cs := [_, _, _, _, _, _, _, _]) (fun | [.agg ⟨[a0, a1, a2, a3, a4, a5, a6, a7]⟩] => [a0, a1, a2, a3, a4, a5, a6, a7] | _ => []) Tryz.underlying37 rfl rfl (by kernel_rfl)) rfl rfl rfl ?_ (fun _ => by kernel_rfl); rintro _ g3 ⟨q3, rfl, hgq3, hq3, z3⟩; refine ⟨fun _ => by first | exact z2.trans z3 | exact (z1.trans z2).trans z3 | exact (z2.trans z1).trans z3, ?_⟩; have hZ3 : Ext No h3 g3 := by first | exact z2.trans z3 | exact (z1.trans z2).trans z3 | exact (z2.trans z1).trans z3)
    all_goals (refine WH.tk 7 rfl (fun hq hC => ok_assign rfl) rfl rfl rfl ?_; refine WH.done (by kernel_rfl) ?_)
    skip))
    all_goals (first | (fail_if_success refine goB 5007 ?_) | (
    refine goB 5007 ?_
    all_goals (refine Comes1.call (vs := [_]) rfl rfl (fun a w => Tryz.call37 a w) rfl (kkd _) rfl rfl rfl ?_ (fun _ => by kernel_rfl); rintro _ g2 ⟨rfl, z2⟩; refine ⟨fun _ => by first | exact z2 | exact z1.trans z2, ?_⟩; have hZ2 : Ext No h3 g2 := by first | exact z2 | exact z1.trans z2)
    all_goals (refine WH.tk 4 rfl (fun hq hC => ok_buildF (vs := [_]) (cs := [_, _, _, _, _, _, _, _]) (fun | [a0] => [a0, (.bool false), (St []), (St []), (.slice none 0 0), (.slice none 0 0), (.slice none 0 0), (.slice none 0 0)] | _ => []) rfl rfl (by kernel_rfl)) rfl rfl rfl ?_; refine WH.two 1 5 (by kernel_rfl) (Br.out (i := 5006) ?_) (Br.out (i := 5007) ?_))
    all_goals (first | (fail_if_success refine goB 5006 ?_) | (
    refine goB 5006 ?_
    all_goals (refine Comes1.run rfl (okE_buildSlice (vs := [_]) (cs := [_, _, _, _, _, _, _, _, _, _]) (fun | [.agg ⟨[a0, a1, a2, a3, a4, a5, a6, a7, a8, a9]⟩] => [a0, a1, a2, a3, a4, a5, a6, a7, a8, a9] | _ => []) Tryz.underlying36 rfl rfl (by kernel_rfl)) rfl rfl rfl ?_ (fun _ => by kernel_rfl); rintro _ g1 ⟨q1, rfl, hgq1, hq1, z1⟩; refine ⟨fun _ => by first | exact z1 | exact z2.trans z1 | exact z2.trans (z3.trans z1)  | exact (z2.trans z3).trans z1, ?_⟩; have hZ1 : Ext No h3 g1 := by first | exact z1 | exact z2.trans z1 | exact (z2.trans z3).trans z1)
    all_goals (refine WH.tk 6 rfl (fun hq hC => ok_assign rfl) rfl rfl rfl ?_; refine WH.one 5 (by kernel_rfl) ?_; refine Comes1.run rfl (okE_buildSlice (vs := [_]) (cs := [_, _, _, _, _, _, _, _]) (fun | [.agg ⟨[a0, a1, a2, a3, a4, a5, a6, a7]⟩] => [a0, a1, a2, a3, a4, a5, a6, a7] | _ => []) Tryz.underlying37 rfl rfl (by kernel_rfl)) rfl rfl rfl ?_ (fun _ => by kernel_rfl); rintro _ g3 ⟨q3, rfl, hgq3, hq3, z3⟩; refine ⟨fun _ => by first | exact z2.trans z3 | exact (z1.trans z2).trans z3 | exact (z2.trans z1).trans z3, ?_⟩; have hZ3 : Ext No h3 g3 := by first | exact z2.trans z3 | exact (z1.trans z2).trans z3 | exact (z2.trans z1).trans z3)
    all_goals (refine WH.tk 7 rfl (fun hq hC => ok_assign rfl) rfl rfl rfl ?_; refine WH.done (by kernel_rfl) ?_)
    skip))
    all_goals (first | (fail_if_success refine goB 5007 ?_) | (
    refine goB 5007 ?_
    all_goals (refine Comes1.run rfl (okE_buildSlice (vs := [_]) (cs := [_, _, _, _, _, _, _, _]) (fun | [.agg ⟨[a0, a1, a2, a3, a4, a5, a6, a7]⟩] => [a0, a1, a2, a3, a4, a5, a6, a7] | _ => []) Tryz.underlying37 rfl rfl (by kernel_rfl)) rfl rfl rfl ?_ (fun _ => by kernel_rfl); rintro _ g3 ⟨q3, rfl, hgq3, hq3, z3⟩; refine ⟨fun _ => by first | exact z2.trans z3 | exact (z1.trans z2).trans z3 | exact (z2.trans z1).trans z3, ?_⟩; have hZ3 : Ext No h3 g3 := by first | exact z2.trans z3 | exact (z1.trans z2).trans z3 | exact (z2.trans z1).trans z3)
    all_goals (refine WH.one 1 (by kernel_rfl) ?_; refine Comes1.run rfl (okE_buildSlice (vs := [_]) (cs := [_, _, _, _, _, _, _, _, _, _]) (fun | [.agg ⟨[a0, a1, a2, a3, a4, a5, a6, a7, a8, a9]⟩] => [a0, a1, a2, a3, a4, a5, a6, a7, a8, a9] | _ => []) Tryz.underlying36 rfl rfl (by kernel_rfl)) rfl rfl rfl ?_ (fun _ => by kernel_rfl); rintro _ g1 ⟨q1, rfl, hgq1, hq1, z1⟩; refine ⟨fun _ => by first | exact z1 | exact z2.trans z1 | exact z2.trans (z3.trans z1)  | exact (z2.trans z3).trans z1, ?_⟩; have hZ1 : Ext No h3 g1 := by first | exact z1 | exact z2.trans z1 | exact (z2.trans z3).trans z1)
    all_goals (refine WH.tk 6 rfl (fun hq hC => ok_assign rfl) rfl rfl rfl ?_; refine WH.tk 7 rfl (fun hq hC => ok_assign rfl) rfl rfl rfl ?_; refine WH.done (by kernel_rfl) ?_)
    skip))
    skip))
    all_goals (refine Gn ?_; refine Gs [(12, _), (13, _)] ?_; refine Gt ?_)
    all_goals (first
                | exact ⟨kk _ _ _ ((z2.trans z3).obj hq1 nos) hq3 (hfl _ (x0.trans (X3.trans hZ3))) (hel _) (by omega) (by have := hZ2.size; omega), d.ext0 (X3.trans hZ3), fs_no (X3.trans hZ3)⟩
                | exact ⟨kk _ _ _ (z3.obj hq1 nos) hq3 (hfl _ (x0.trans (X3.trans hZ3))) (hel _) (by have := hZ2.size; omega) (by have := hZ1.size; omega), d.ext0 (X3.trans hZ3), fs_no (X3.trans hZ3)⟩
                | exact ⟨kk _ _ _ hq1 (z1.obj hq3 nos) (hfl _ (x0.trans (X3.trans hZ1))) (hel _) (by have := hZ3.size; omega) (by have := hZ2.size; omega), d.ext0 (X3.trans hZ1), fs_no (X3.trans hZ1)⟩)
end
end Go.Proofs.YtggmocdbfbhklaaGreat


/-
  REPLIES (layer 7), by the document: the bytes of a 3.
-/
namespace Go.Proofs.YtggmocdbfbhklaaGreat
open Go Go.RK

set_option maxHeartbeats 2000000 in
set_option maxRecDepth 100000 in
theorem kind07_3 {h : Heap} : CallsH Tryz.prog 121 ⟨[.int .u8 51]⟩ h fun u h' => u = .bool true ∧ h' = h := by
  refine calls [(0, _)] Tryz.func121 rfl Tryz.ntmps121 rfl ⟨rfl, trivial⟩ ?_
  all_goals (refine WC.sr ?_; refine Go ?_; refine WC.seq ?_; refine WC.sr ?_; refine Go ?_; refine WC.block ?_; refine WC.seq ?_; refine WC.sr ?_; refine Go ?_; refine goC 1 2 ?_ TT.mk; refine goB 2 ?_; refine WC.sr ?_; refine Go ?_; refine Gs [(3, _), (4, _)] ?_; refine goC 3 4 ?_ TT.mk; refine goB 4 ?_; refine WC.sr ?_; refine Go ?_; refine goC 5 6 ?_ TT.mk; refine goB 6 ?_; refine WC.sr ?_; refine Go ?_; refine goC 7 8 ?_ TT.mk; refine goB 8 ?_; refine WC.sr ?_; refine Go ?_; refine goC 9 10 ?_ TT.mk; refine goB 10 ?_; refine WC.sr ?_; refine Go ?_; refine Gs [(3, _), (4, _)] ?_; refine goC 11 12 ?_ TT.mk; refine goB 12 ?_; refine WC.sr ?_; refine Go ?_; refine goC 13 14 ?_ TT.mk; refine goB 13 ?_; refine WC.skip ?_; refine Gn ?_; refine goC 31 32 ?_ TT.mk; refine goB 31 ?_; refine WC.sr ?_; refine Go ?_; refine Gt ?_; exact ⟨rfl, rfl⟩)
set_option maxHeartbeats 2000000 in
set_option maxRecDepth 100000 in
theorem in07 {h : Heap} (n lo hi : Int) : CallsH Tryz.prog 123 ⟨[In n, In lo, In hi]⟩ h fun u h' => u = .bool (decide (lo ≤ n ∧ n ≤ hi)) ∧ h' = h := by
  refine calls [(0, _), (1, _), (2, _)] Tryz.func123 rfl Tryz.ntmps123 rfl ⟨rfl, rfl, rfl, trivial⟩ ?_
  all_goals (refine WC.sr ?_; refine Go ?_; refine WC.sr ?_; refine Go ?_; refine goP 10 (Hb.mk fun hb => ?_) (Hb.mk fun hb => ?_))
  all_goals (refine Gg ?_; refine Go ?_; refine Gs [(6, _)] ?_; refine Gt ?_)
  all_goals (refine ⟨congrArg Value.bool ?_, rfl⟩
             by_cases q1 : lo ≤ n
             all_goals by_cases q2 : n ≤ hi
             all_goals first | (simp [q1, q2]; done) | (simp [q1, q2]; omega) | (exfalso; omega))
set_option maxHeartbeats 2000000 in
set_option maxRecDepth 100000 in
theorem clean07 {h : Heap} (s : List UInt8) (hm : s.length ≤ 1000000) : CallsH Tryz.prog 122 ⟨[St s]⟩ h fun u h' => u = .bool (cleanB s) ∧ h' = h := by
  have hci : cleanB s = true ↔ ∀ c ∈ s, c ≠ 0 := by
    unfold cleanB
    rw [Bool.not_eq_true', ← Bool.not_eq_true, List.contains_iff_mem]
    exact ⟨fun z c hc e => z (e ▸ hc), fun z hc => z 0 hc rfl⟩
  refine calls [(0, _)] Tryz.func122 rfl Tryz.ntmps122 rfl ⟨rfl, trivial⟩ ?_
  all_goals (refine WC.sr ?_; refine Go ?_; refine WC.seq ?_; refine WC.sr ?_; refine Go ?_; refine WC.block ?_)
  -- loop 0: slots that turn [3], that stay [0]
  all_goals (refine WC.loopG (X := Nat) (fun x => ([(3, In (x : Int))] : Fr)) [(0, _)] (fun k h' => h = h' ∧ k ≤ s.length ∧ ∀ c ∈ s.take k, c ≠ 0) (fun k => s.length - k) (0) ⟨rfl, rfl, trivial⟩ (by exact ⟨rfl, Nat.zero_le _, fun c hc => by cases hc⟩) ?_; rintro k h2 ⟨e, hk, hn⟩; subst e; refine WC.sub [(3, _), (0, _)] ⟨rfl, rfl, trivial⟩ ?_; refine WC.seq ?_; refine WC.sr ?_; refine Go ?_; refine goC 1 2 (Hb.mk fun hb => ?_) (Hb.mk fun hb => ?_))
  all_goals (first | (fail_if_success refine goB 1 ?_) | (
  refine goB 1 ?_
  all_goals (refine WC.skip ?_)
  skip))
  all_goals (first | (fail_if_success refine goB 2 ?_) | (
  refine goB 2 ?_
  all_goals (refine WC.exit ?_; repeat' (with_reducible first | refine thenP_x ?_ | refine blockP_miss rfl ?_ | refine blockP_hit ?_ | refine blockP_n ?_ | refine thenP_n ?_))
  all_goals (refine Br.out (i := 1000) ?_)
  skip))
  all_goals (refine Gn ?_; first | (refine Br.keep ?_) | (refine Gs [(0, _), (3, _)] ?_))
  all_goals (first | (refine Br.keep ?_) | (refine WC.seq ?_))
  all_goals (first | (refine Br.keep ?_) | (refine WC.block ?_))
  all_goals (first | (refine Br.keep ?_) | (refine WC.seq ?_))
  all_goals (first | (refine Br.keep ?_) | (obtain ⟨y, hy⟩ : ∃ y, s[k]? = some y := ⟨_, List.getElem?_eq_getElem (by omega)⟩))
  all_goals (first | (refine Br.keep ?_) | (refine WC.region ?_))
  all_goals (refine Go ?_; first | (refine Br.keep ?_) | (refine WL.step (ok_idxS Tryz.underlying9 rfl rfl (by omega) (by assumption)) rfl rfl rfl ?_))
  all_goals (refine Go ?_; first | (refine Br.keep ?_) | (refine goC 3 4 (Hb.mk fun hb => ?_) (Hb.mk fun hb => ?_)))
  all_goals (first | (fail_if_success refine goB 3 ?_) | (
  refine goB 3 ?_
  all_goals (refine WC.sr ?_; refine Go ?_; refine Gs [(2, _)] ?_; refine Gt ?_)
  all_goals (first
              | (refine ⟨congrArg Value.bool ?_, rfl⟩; symm; rw [hci]; rw [List.take_of_length_le (by omega)] at hn; exact hn)
              | (refine ⟨congrArg Value.bool ?_, rfl⟩; cases hq : cleanB s; rfl; exact absurd (UInt8.toNat_inj.1 (by simpa using hb)) (hci.1 hq _ (List.mem_of_getElem? hy))))
  skip))
  all_goals (first | (fail_if_success refine goB 4 ?_) | (
  refine goB 4 ?_
  all_goals (refine WC.skip ?_)
  skip))
  all_goals (refine Gn ?_; first | (refine Br.keep ?_) | (refine Gs [(0, _), (3, _)] ?_))
  all_goals (first | (refine Br.keep ?_) | (refine WC.region ?_))
  all_goals (refine Go ?_; first | (refine Br.keep ?_) | (exact ⟨k + 1, ⟨rfl, rfl, trivial⟩, (by exact ⟨rfl, by omega, fun c hc => by rw [List.take_add_one, hy] at hc; simp only [Option.toList_some, List.mem_append, List.mem_singleton] at hc; rcases hc with hc | rfl; exact hn c hc; exact (fun e => by subst e; simp at *)⟩), (by omega)⟩))
  all_goals (try (refine Br.mk (i := 1000) ?_))
  all_goals (refine Gn ?_; refine Gs [] ?_; refine WC.sr ?_; refine Go ?_; refine Gt ?_)
  all_goals (first
              | (refine ⟨congrArg Value.bool ?_, rfl⟩; symm; rw [hci]; rw [List.take_of_length_le (by omega)] at hn; exact hn)
              | (refine ⟨congrArg Value.bool ?_, rfl⟩; cases hq : cleanB s; rfl; exact absurd (UInt8.toNat_inj.1 (by simpa using hb)) (hci.1 hq _ (List.mem_of_getElem? hy))))
set_option maxHeartbeats 2000000 in
set_option maxRecDepth 100000 in
theorem cols07_no {h : Heap} : CallsH Tryz.prog 124 ⟨[.slice none 0 0]⟩ h fun u h' => u = .bool true ∧ h' = h := by
  refine calls [(0, _)] Tryz.func124 rfl Tryz.ntmps124 rfl ⟨rfl, trivial⟩ ?_
  all_goals (refine WC.sr ?_; refine Go ?_; refine WC.seq ?_; refine WC.sr ?_; refine Go ?_; refine goC 1 2 ?_ TT.mk; refine goB 2 ?_; refine WC.skip ?_; refine Gn ?_; refine Gs [(0, _)] ?_; refine WC.seq ?_; refine WC.sr ?_; refine Go ?_; refine WC.block ?_)
  -- loop 0: slots that turn [3], that stay [0]
  all_goals (refine WC.loopG (X := Nat) (fun x => ([(3, In (x : Int))] : Fr)) [(0, _)] (fun k h' => h' = h ∧ k = 0) (fun k => 0) (0) ⟨rfl, rfl, trivial⟩ (by exact ⟨rfl, rfl⟩) ?_; rintro k h1 ⟨hz, hk⟩; subst h1; subst hk; refine WC.sub [(3, _), (0, _)] ⟨rfl, rfl, trivial⟩ ?_; refine WC.seq ?_; refine WC.sr ?_; refine Go ?_; refine goC 3 4 ?_ TT.mk; refine goB 4 ?_; refine WC.exit ?_; repeat' (with_reducible first | refine thenP_x ?_ | refine blockP_miss rfl ?_ | refine blockP_hit ?_ | refine blockP_n ?_ | refine thenP_n ?_))
  all_goals (refine Br.out (i := 1000) ?_; refine Gn ?_; refine Br.keep ?_; refine Br.keep ?_; refine Br.keep ?_; refine Br.keep ?_; refine Go ?_; refine Br.keep ?_; refine Br.keep ?_; refine Br.keep ?_; refine Br.keep ?_; refine Gn ?_; refine Br.keep ?_; refine Br.keep ?_; refine Br.keep ?_; refine Go ?_; refine Br.keep ?_; refine Br.keep ?_; refine Go ?_; refine Br.keep ?_; refine Gg ?_; refine Br.keep ?_; refine Br.keep ?_; refine Gg ?_; refine Go ?_; refine Br.keep ?_; refine Gg ?_; refine Br.keep ?_; refine Br.keep ?_; refine Gg ?_; refine Go ?_; refine Br.keep ?_; refine Gg ?_; refine Br.keep ?_; refine Br.keep ?_; refine Gg ?_; refine Go ?_; refine Br.keep ?_; refine Br.keep ?_; refine Gn ?_; refine Br.keep ?_; refine Go ?_; refine Br.keep ?_; refine Br.keep ?_; refine Go ?_; refine Br.keep ?_; refine Gg ?_; refine Br.keep ?_; refine Br.keep ?_; refine Gg ?_; refine Go ?_; refine Br.keep ?_; refine Gg ?_; refine Br.keep ?_; refine Br.keep ?_; refine Gg ?_; refine Go ?_; refine Br.keep ?_; refine Br.keep ?_; refine Gn ?_; refine Br.keep ?_; refine Go ?_; refine Br.keep ?_; try (refine Br.mk (i := 1000) ?_))
  all_goals (refine Gn ?_; refine Gs [] ?_; refine WC.sr ?_; refine Go ?_; refine Gt ?_; exact ⟨rfl, rfl⟩)
set_option maxHeartbeats 2000000 in
set_option maxRecDepth 100000 in
theorem fields07_no {h : Heap} : CallsH Tryz.prog 125 ⟨[.slice none 0 0]⟩ h fun u h' => u = .bool true ∧ h' = h := by
  refine calls [(0, _)] Tryz.func125 rfl Tryz.ntmps125 rfl ⟨rfl, trivial⟩ ?_
  all_goals (refine WC.sr ?_; refine Go ?_; refine WC.seq ?_; refine WC.sr ?_; refine Go ?_; refine goC 1 2 ?_ TT.mk; refine goB 2 ?_; refine WC.skip ?_; refine Gn ?_; refine Gs [(0, _)] ?_; refine WC.seq ?_; refine WC.sr ?_; refine Go ?_; refine WC.block ?_)
  -- loop 0: slots that turn [3], that stay [0]
  all_goals (refine WC.loopG (X := Nat) (fun x => ([(3, In (x : Int))] : Fr)) [(0, _)] (fun k h' => h' = h ∧ k = 0) (fun k => 0) (0) ⟨rfl, rfl, trivial⟩ (by exact ⟨rfl, rfl⟩) ?_; rintro k h1 ⟨hz, hk⟩; subst h1; subst hk; refine WC.sub [(3, _), (0, _)] ⟨rfl, rfl, trivial⟩ ?_; refine WC.seq ?_; refine WC.sr ?_; refine Go ?_; refine goC 3 4 ?_ TT.mk; refine goB 4 ?_; refine WC.exit ?_; repeat' (with_reducible first | refine thenP_x ?_ | refine blockP_miss rfl ?_ | refine blockP_hit ?_ | refine blockP_n ?_ | refine thenP_n ?_))
  all_goals (refine Br.out (i := 1000) ?_; refine Gn ?_; refine Br.keep ?_; refine Br.keep ?_; refine Br.keep ?_; refine Br.keep ?_; refine Go ?_; refine Br.keep ?_; refine Go ?_; refine Br.keep ?_; refine Go ?_; refine Br.keep ?_; refine Gg ?_; refine Br.keep ?_; refine Gg ?_; refine Br.keep ?_; refine Br.keep ?_; refine Gg ?_; refine Go ?_; refine Br.keep ?_; refine Br.keep ?_; refine Gn ?_; refine Br.keep ?_; refine Go ?_; refine Br.keep ?_; try (refine Br.mk (i := 1000) ?_))
  all_goals (refine Gn ?_; refine Gs [] ?_; refine WC.sr ?_; refine Go ?_; refine Gt ?_; exact ⟨rfl, rfl⟩)
set_option maxHeartbeats 2000000 in
set_option maxRecDepth 100000 in
theorem values07_no {h : Heap} : CallsH Tryz.prog 126 ⟨[.slice none 0 0]⟩ h fun u h' => u = .bool true ∧ h' = h := by
  refine calls [(0, _)] Tryz.func126 rfl Tryz.ntmps126 rfl ⟨rfl, trivial⟩ ?_
  all_goals (refine WC.sr ?_; refine Go ?_; refine WC.seq ?_; refine WC.sr ?_; refine Go ?_; refine goC 1 2 ?_ TT.mk; refine goB 2 ?_; refine WC.skip ?_; refine Gn ?_; refine Gs [(0, _)] ?_; refine WC.seq ?_; refine WC.sr ?_; refine Go ?_; refine WC.block ?_)
  -- loop 0: slots that turn [3], that stay [0]
  all_goals (refine WC.loopG (X := Nat) (fun x => ([(3, In (x : Int))] : Fr)) [(0, _)] (fun k h' => h' = h ∧ k = 0) (fun k => 0) (0) ⟨rfl, rfl, trivial⟩ (by exact ⟨rfl, rfl⟩) ?_; rintro k h1 ⟨hz, hk⟩; subst h1; subst hk; refine WC.sub [(3, _), (0, _)] ⟨rfl, rfl, trivial⟩ ?_; refine WC.seq ?_; refine WC.sr ?_; refine Go ?_; refine goC 3 4 ?_ TT.mk; refine goB 4 ?_; refine WC.exit ?_; repeat' (with_reducible first | refine thenP_x ?_ | refine blockP_miss rfl ?_ | refine blockP_hit ?_ | refine blockP_n ?_ | refine thenP_n ?_))
  all_goals (refine Br.out (i := 1000) ?_; refine Gn ?_; refine Br.keep ?_; refine Br.keep ?_; refine Br.keep ?_; refine Br.keep ?_; refine Go ?_; refine Br.keep ?_; refine Go ?_; refine Br.keep ?_; refine Go ?_; refine Br.keep ?_; refine Gg ?_; refine Br.keep ?_; refine Gg ?_; refine Br.keep ?_; refine Gg ?_; refine Go ?_; refine Br.keep ?_; refine Gg ?_; refine Br.keep ?_; refine Gg ?_; refine Br.keep ?_; refine Gg ?_; refine Go ?_; refine Br.keep ?_; refine Br.keep ?_; refine Gn ?_; refine Br.keep ?_; refine Go ?_; refine Br.keep ?_; try (refine Br.mk (i := 1000) ?_))
  all_goals (refine Gn ?_; refine Gs [] ?_; refine WC.sr ?_; refine Go ?_; refine Gt ?_; exact ⟨rfl, rfl⟩)
set_option maxHeartbeats 2000000 in
set_option maxRecDepth 100000 in
theorem between07_no {h : Heap} : CallsH Tryz.prog 79 ⟨[.slice none 0 0, In 0, In 4294967295]⟩ h fun u h' => u = .bool true ∧ h' = h := by
  refine calls [(0, _), (1, _), (2, _)] Tryz.func79 rfl Tryz.ntmps79 rfl ⟨rfl, rfl, rfl, trivial⟩ ?_
  all_goals (refine WC.sr ?_; refine Go ?_; refine WC.seq ?_; refine WC.sr ?_; refine Go ?_; refine goC 1 2 ?_ TT.mk; refine goB 2 ?_; refine WC.skip ?_; refine Gn ?_; refine Gs [(0, _), (1, _), (2, _)] ?_; refine WC.seq ?_; refine WC.sr ?_; refine Go ?_; refine WC.block ?_)
  -- loop 0: slots that turn [7], that stay [0, 1, 2]
  all_goals (refine WC.loopG (X := Nat) (fun x => ([(7, In (x : Int))] : Fr)) [(0, _), (1, _), (2, _)] (fun k h' => h' = h ∧ k = 0) (fun k => 0) (0) ⟨rfl, rfl, rfl, rfl, trivial⟩ (by exact ⟨rfl, rfl⟩) ?_; rintro k h1 ⟨hz, hk⟩; subst h1; subst hk; refine WC.sub [(7, _), (0, _), (1, _), (2, _)] ⟨rfl, rfl, rfl, rfl, trivial⟩ ?_; refine WC.seq ?_; refine WC.sr ?_; refine Go ?_; refine goC 3 4 ?_ TT.mk; refine goB 4 ?_; refine WC.exit ?_; repeat' (with_reducible first | refine thenP_x ?_ | refine blockP_miss rfl ?_ | refine blockP_hit ?_ | refine blockP_n ?_ | refine thenP_n ?_))
  all_goals (refine Br.out (i := 1000) ?_; refine Gn ?_; refine Br.keep ?_; refine Br.keep ?_; refine Br.keep ?_; refine Br.keep ?_; refine Go ?_; refine Br.keep ?_; refine Br.keep ?_; refine Go ?_; refine Br.keep ?_; refine Gg ?_; refine Br.keep ?_; refine Br.keep ?_; refine Gg ?_; refine Go ?_; refine Br.keep ?_; refine Br.keep ?_; refine Gn ?_; refine Br.keep ?_; refine Go ?_; refine Br.keep ?_; try (refine Br.mk (i := 1000) ?_))
  all_goals (refine Gn ?_; refine Gs [] ?_; refine WC.sr ?_; refine Go ?_; refine Gt ?_; exact ⟨rfl, rfl⟩)
set_option maxHeartbeats 2000000 in
set_option maxRecDepth 100000 in
theorem kept07_3 {h : Heap} : CallsH Tryz.prog 128 ⟨[.agg ⟨z3C⟩]⟩ h fun u h' => u = .agg ⟨z3C⟩ ∧ Ext No h h' := by
  unfold z3C
  refine calls [(0, _)] Tryz.func128 rfl Tryz.ntmps128 rfl ⟨rfl, trivial⟩ ?_
  all_goals (refine WC.sr ?_; refine WL.stepR (okE_box rfl) rfl rfl rfl ?_; rintro _ h1 ⟨b1, rfl, hg1, hb1, hx1⟩; refine WL.stepR (okE_alloc (fun w => Tryz.zeroValue86 w)) rfl rfl rfl ?_; rintro _ h2 ⟨b2, rfl, hg2, hb2, hx2⟩; have hb1a := hx2.obj hb1 nos; refine Gn ?_; refine WC.sr ?_; refine Go ?_; refine Ld ?_; refine WL.step (ok_buildF (vs := [_]) (cs := [_, _, _, _, _, _, _, _, _, _, _]) (fun | [a0] => [a0, (.int .u8 0), (St []), (St []), (St []), (.int .i64 0), (.int .i64 0), (.slice none 0 0), (.slice none 0 0), (.slice none 0 0), (.slice none 0 0)] | _ => []) rfl rfl (by kernel_rfl)) rfl rfl rfl ?_; refine WL.stepR (okE_alloc (fun w => Tryz.zeroValue86 w)) rfl rfl rfl ?_; rintro _ h3 ⟨b3, rfl, hg3, hb3, hx3⟩; have hb1b := hx3.obj hb1a nos; have hb2b := hx3.obj hb2 nos; (have n13 : ¬ b1 = b3 := by have := lt_of_some hb1a; omega); (have n23 : ¬ b2 = b3 := by have := lt_of_some hb2; omega); refine WL.stepR0 (okE_storeW (fun w => Tryz.sizeOf86 w) rfl rfl rfl (by assumption) rfl (by simp [Value.oneCell'])) rfl rfl ?_; rintro _ h4 ⟨hb4, hx4⟩; have hb1c := hx4.obj hb1b n13; have hb2c := hx4.obj hb2b n23; have hX4 : Ext No h h4 := ((hx1.trans hx2).trans hx3).trans' hx4 (fun q hq e => by have := hx1.size; have := hx2.size; omega); refine Gn ?_; refine Gs [(1, _), (2, _), (3, _)] ?_; refine WC.seq ?_; refine WC.sr ?_; refine Go ?_; refine Ld ?_; refine Gn ?_; refine WC.block ?_; refine WC.sr ?_; refine Go ?_; refine goC 1 2 ?_ TT.mk; refine goB 2 ?_; refine WC.sr ?_; refine Go ?_; refine Gs [(1, _), (2, _), (3, _), (8, _), (17, _)] ?_; refine goC 3 4 ?_ TT.mk; refine goB 4 ?_; refine WC.sr ?_; refine Go ?_; refine goC 5 6 ?_ TT.mk; refine goB 6 ?_; refine WC.sr ?_; refine Go ?_; refine Gs [(1, _), (2, _), (3, _), (8, _), (30, _)] ?_; refine goC 7 8 ?_ TT.mk; refine goB 8 ?_; refine WC.sr ?_; refine Go ?_; refine goC 9 10 ?_ TT.mk; refine goB 10 ?_; refine WC.sr ?_; refine Go ?_; refine Gs [(1, _), (2, _), (3, _), (8, _), (40, _)] ?_; refine goC 11 12 ?_ TT.mk; refine goB 12 ?_; refine WC.sr ?_; refine Go ?_; refine goC 13 14 ?_ TT.mk; refine goB 14 ?_; refine WC.seq ?_; refine WC.sr ?_; refine Go ?_; refine Gs [(1, _), (2, _), (3, _), (8, _), (50, _)] ?_; refine goC 15 16 ?_ TT.mk; refine goB 16 ?_; refine WC.region ?_; refine Go ?_; refine Gn ?_; refine goC 17 18 ?_ TT.mk; refine goB 18 ?_; refine WC.skip ?_; refine Gn ?_; refine WC.sr ?_; refine WL.step (ok_loadN (fun w => Tryz.isAgg86 w) (fun w => Tryz.sizeOf86 w) rfl rfl (by exact At.of_block hb4)) rfl rfl rfl ?_; refine WL.stepR0 (okE_storeW (fun w => Tryz.sizeOf86 w) rfl rfl rfl hb2c rfl (by simp [Value.oneCell'])) rfl rfl ?_; rintro _ h9 ⟨hb9, hx9⟩; refine Gn ?_; refine Gs [(2, _)] ?_; refine WC.ret ?_; repeat' (with_reducible first | refine thenP_r ?_ | refine blockP_r ?_))
  all_goals (refine retP_1 _ ⟨⟨_, rfl, ld_blk (fun w => Tryz.isAgg86 w) (fun w => Tryz.sizeOf86 w) (by assumption) rfl⟩, trivial⟩ ?_; have hs1 := hx1.size; have hs2 := hx2.size; exact ⟨rfl, hX4.trans' hx9 (fun q hq e => by omega)⟩)
set_option maxHeartbeats 2000000 in
set_option maxRecDepth 100000 in
theorem check07_3 {h : Heap} : CallsH Tryz.prog 100 ⟨[.agg ⟨z3C⟩]⟩ h fun u h' => u = In 0 ∧ Ext No h h' := by
  have ks := fun h' => same_true (h := h') (zB 51) (zB 51) (zB_okA _ _) (zB_okA _ _) rfl
  dsimp only [Bk.cells, zB] at ks
  have kk := fun h' => kept07_3 (h := h')
  unfold z3C at kk ⊢
  refine calls [(0, _)] Tryz.func100 rfl Tryz.ntmps100 rfl ⟨rfl, trivial⟩ ?_
  all_goals (refine WC.sr ?_; refine WL.stepR (okE_box rfl) rfl rfl rfl ?_; rintro _ g1 ⟨b1, rfl, hg1, hb1, hx1⟩; refine Go ?_; refine WC.seq ?_; refine WC.sr ?_; refine Go ?_; refine Ld ?_; refine WL.call (vs := [_]) rfl (fun a w => Tryz.call121 a w) rfl (kind07_3) rfl rfl rfl ?_; rintro _ h9 ⟨rfl, hz9⟩; subst h9; refine Go ?_; refine Gs [(1, _), (9, _)] ?_; refine goC 1 2 ?_ TT.mk; refine goB 2 ?_; refine WC.skip ?_; refine Gn ?_; refine WC.sr ?_; refine Go ?_; refine Ld ?_; refine WL.call (vs := [_]) rfl (fun a w => Tryz.call122 a w) rfl ((clean07 [] (by simp))) rfl rfl rfl ?_; rintro _ h9 ⟨rfl, hz9⟩; subst h9; refine Go ?_; refine goP 13 ?_ TT.mk; refine Gg ?_; refine Ld ?_; refine WL.call (vs := [_]) rfl (fun a w => Tryz.call122 a w) rfl ((clean07 [] (by simp))) rfl rfl rfl ?_; rintro _ h9 ⟨rfl, hz9⟩; subst h9; refine Go ?_; refine goP 18 ?_ TT.mk; refine Gg ?_; refine Ld ?_; refine WL.call (vs := [_]) rfl (fun a w => Tryz.call122 a w) rfl ((clean07 [] (by simp))) rfl rfl rfl ?_; rintro _ h9 ⟨rfl, hz9⟩; subst h9; refine Go ?_; refine Gs [(1, _), (3, _)] ?_; refine WC.sr ?_; refine Go ?_; refine Ld ?_; refine WL.call (vs := [_, _, _]) rfl (fun a w => Tryz.call123 a w) rfl ((in07 0 0 4294967295)) rfl rfl rfl ?_; rintro _ h9 ⟨rfl, hz9⟩; subst h9; refine Go ?_; refine goP 26 ?_ TT.mk; refine Gg ?_; refine Ld ?_; refine WL.call (vs := [_, _, _]) rfl (fun a w => Tryz.call123 a w) rfl ((in07 0 0 4294967295)) rfl rfl rfl ?_; rintro _ h9 ⟨rfl, hz9⟩; subst h9; refine Go ?_; refine goP 31 ?_ TT.mk; refine Gg ?_; refine Ld ?_; refine WL.call (vs := [_, _, _]) rfl (fun a w => Tryz.call79 a w) rfl (between07_no) rfl rfl rfl ?_; rintro _ h9 ⟨rfl, hz9⟩; subst h9; refine Go ?_; refine Gs [(1, _), (3, _), (4, _)] ?_; refine WC.sr ?_; refine Go ?_; refine Ld ?_; refine Go ?_; refine goP 39 ?_ TT.mk; refine Gg ?_; refine WL.pass rfl rfl rfl ?_; refine Gg ?_; refine Go ?_; refine goP 44 ?_ TT.mk; refine Gg ?_; refine WL.pass rfl rfl rfl ?_; refine Gg ?_; refine Go ?_; refine goP 49 ?_ TT.mk; refine Gg ?_; refine WL.pass rfl rfl rfl ?_; refine Gg ?_; refine Go ?_; refine Gs [(1, _), (3, _), (4, _), (5, _)] ?_; refine WC.seq ?_; refine WC.seq ?_; refine WC.drawH (fun h' => h'[b1]? = some (.cells ⟨[.int .u8 51, .int .u8 0, St [], St [], St [], In 0, In 0, .slice none 0 0, .slice none 0 0, .slice none 0 0, .slice none 0 0]⟩ 86 (0, 0))) 35 35 rfl fol ?_; refine WH.tk 0 rfl (fun hq hC => ok_move rfl) rfl rfl rfl ?_ (hC := (by first | exact hb9 | exact hb8 | exact hb1)); refine WH.tk 1 rfl (fun hq hC => ok_not rfl) rfl rfl rfl ?_ (hC := (by first | exact hb9 | exact hb8 | exact hb1)); refine WH.tk 2 rfl (fun hq hC => ok_move rfl) rfl rfl rfl ?_ (hC := (by first | exact hb9 | exact hb8 | exact hb1)); try ((fail_if_success (refine WH.part 56 (b := true) rfl (fun _ => ?_) (fun _ => ?_))); (fail_if_success (refine WH.part 56 (b := false) rfl (fun _ => ?_) (fun _ => ?_))); (refine WH.part 56 rfl (fun hb => ?_) (fun hb => ?_))))
  all_goals (refine WH.tk 3 rfl (fun hq hC => ok_move rfl) rfl rfl rfl ?_ (hC := (by first | exact hb9 | exact hb8 | exact hb1)); refine WH.tk 4 rfl (fun hq hC => ok_not rfl) rfl rfl rfl ?_ (hC := (by first | exact hb9 | exact hb8 | exact hb1)); refine WH.tk 5 rfl (fun hq hC => ok_pick_f rfl rfl) rfl rfl rfl ?_ (hC := (by first | exact hb9 | exact hb8 | exact hb1)); refine WH.tk 6 rfl (fun hq hC => ok_move rfl) rfl rfl rfl ?_ (hC := (by first | exact hb9 | exact hb8 | exact hb1)); try ((fail_if_success (refine WH.part 60 (b := true) rfl (fun _ => ?_) (fun _ => ?_))); (fail_if_success (refine WH.part 60 (b := false) rfl (fun _ => ?_) (fun _ => ?_))); (refine WH.part 60 rfl (fun hb => ?_) (fun hb => ?_))))
  all_goals (refine WH.tk 7 rfl (fun hq hC => ok_move rfl) rfl rfl rfl ?_ (hC := (by first | exact hb9 | exact hb8 | exact hb1)); refine WH.tk 8 rfl (fun hq hC => ok_not rfl) rfl rfl rfl ?_ (hC := (by first | exact hb9 | exact hb8 | exact hb1)); refine WH.tk 9 rfl (fun hq hC => ok_pick_f rfl rfl) rfl rfl rfl ?_ (hC := (by first | exact hb9 | exact hb8 | exact hb1)); refine WH.tk 10 rfl (fun hq hC => ok_move rfl) rfl rfl rfl ?_ (hC := (by first | exact hb9 | exact hb8 | exact hb1)); try ((fail_if_success (refine WH.part 64 (b := true) rfl (fun _ => ?_) (fun _ => ?_))); (fail_if_success (refine WH.part 64 (b := false) rfl (fun _ => ?_) (fun _ => ?_))); (refine WH.part 64 rfl (fun hb => ?_) (fun hb => ?_))))
  all_goals (refine WH.tk 11 rfl (fun hq hC => ok_fieldAddr rfl Tryz.underlying86 rfl (fun w => Tryz.sizeOf83 w)) rfl rfl rfl ?_ (hC := (by first | exact hb9 | exact hb8 | exact hb1)); refine WH.tk 12 rfl (fun hq hC => ok_load (fun w => Tryz.isAgg83 w) rfl (cell_blk hC rfl)) rfl rfl rfl ?_ (hC := (by first | exact hb9 | exact hb8 | exact hb1)); refine WH.one 13 (by kernel_rfl) ?_; refine Comes1.call (vs := [_]) rfl rfl (fun a w => Tryz.call124 a w) rfl (cols07_no) rfl rfl rfl ?_ (fun _ => by kernel_rfl); rintro _ h9 ⟨rfl, hz9⟩; subst h9; refine ⟨fun _ => by first | assumption | trivial, ?_⟩; refine WH.tk 14 rfl (fun hq hC => ok_not rfl) rfl rfl rfl ?_ (hC := (by first | exact hb9 | exact hb8 | exact hb1)); refine WH.tk 15 rfl (fun hq hC => ok_pick_f rfl rfl) rfl rfl rfl ?_ (hC := (by first | exact hb9 | exact hb8 | exact hb1)); refine WH.tk 16 rfl (fun hq hC => ok_move rfl) rfl rfl rfl ?_ (hC := (by first | exact hb9 | exact hb8 | exact hb1)); try ((fail_if_success (refine WH.part 70 (b := true) rfl (fun _ => ?_) (fun _ => ?_))); (fail_if_success (refine WH.part 70 (b := false) rfl (fun _ => ?_) (fun _ => ?_))); (refine WH.part 70 rfl (fun hb => ?_) (fun hb => ?_))))
  all_goals (refine WH.tk 17 rfl (fun hq hC => ok_fieldAddr rfl Tryz.underlying86 rfl (fun w => Tryz.sizeOf84 w)) rfl rfl rfl ?_ (hC := (by first | exact hb9 | exact hb8 | exact hb1)); refine WH.tk 18 rfl (fun hq hC => ok_load (fun w => Tryz.isAgg84 w) rfl (cell_blk hC rfl)) rfl rfl rfl ?_ (hC := (by first | exact hb9 | exact hb8 | exact hb1)); refine WH.one 19 (by kernel_rfl) ?_; refine Comes1.call (vs := [_]) rfl rfl (fun a w => Tryz.call125 a w) rfl (fields07_no) rfl rfl rfl ?_ (fun _ => by kernel_rfl); rintro _ h9 ⟨rfl, hz9⟩; subst h9; refine ⟨fun _ => by first | assumption | trivial, ?_⟩; refine WH.tk 20 rfl (fun hq hC => ok_not rfl) rfl rfl rfl ?_ (hC := (by first | exact hb9 | exact hb8 | exact hb1)); refine WH.tk 21 rfl (fun hq hC => ok_pick_f rfl rfl) rfl rfl rfl ?_ (hC := (by first | exact hb9 | exact hb8 | exact hb1)); refine WH.tk 22 rfl (fun hq hC => ok_move rfl) rfl rfl rfl ?_ (hC := (by first | exact hb9 | exact hb8 | exact hb1)); try ((fail_if_success (refine WH.part 76 (b := true) rfl (fun _ => ?_) (fun _ => ?_))); (fail_if_success (refine WH.part 76 (b := false) rfl (fun _ => ?_) (fun _ => ?_))); (refine WH.part 76 rfl (fun hb => ?_) (fun hb => ?_))))
  all_goals (refine WH.tk 23 rfl (fun hq hC => ok_fieldAddr rfl Tryz.underlying86 rfl (fun w => Tryz.sizeOf25 w)) rfl rfl rfl ?_ (hC := (by first | exact hb9 | exact hb8 | exact hb1)); refine WH.tk 24 rfl (fun hq hC => ok_load (fun w => Tryz.isAgg25 w) rfl (cell_blk hC rfl)) rfl rfl rfl ?_ (hC := (by first | exact hb9 | exact hb8 | exact hb1)); refine WH.one 25 (by kernel_rfl) ?_; refine Comes1.call (vs := [_]) rfl rfl (fun a w => Tryz.call126 a w) rfl (values07_no) rfl rfl rfl ?_ (fun _ => by kernel_rfl); rintro _ h9 ⟨rfl, hz9⟩; subst h9; refine ⟨fun _ => by first | assumption | trivial, ?_⟩; refine WH.tk 26 rfl (fun hq hC => ok_not rfl) rfl rfl rfl ?_ (hC := (by first | exact hb9 | exact hb8 | exact hb1)); refine WH.tk 27 rfl (fun hq hC => ok_pick_f rfl rfl) rfl rfl rfl ?_ (hC := (by first | exact hb9 | exact hb8 | exact hb1)); refine WH.tk 28 rfl (fun hq hC => ok_move rfl) rfl rfl rfl ?_ (hC := (by first | exact hb9 | exact hb8 | exact hb1)); try ((fail_if_success (refine WH.part 82 (b := true) rfl (fun _ => ?_) (fun _ => ?_))); (fail_if_success (refine WH.part 82 (b := false) rfl (fun _ => ?_) (fun _ => ?_))); (refine WH.part 82 rfl (fun hb => ?_) (fun hb => ?_))))
  all_goals (refine WH.tk 29 rfl (fun hq hC => ok_loadN (fun w => Tryz.isAgg86 w) (fun w => Tryz.sizeOf86 w) rfl rfl (by exact At.of_block hC)) rfl rfl rfl ?_ (hC := (by first | exact hb9 | exact hb8 | exact hb1)); refine WH.tk 30 rfl (fun hq hC => ok_loadN (fun w => Tryz.isAgg86 w) (fun w => Tryz.sizeOf86 w) rfl rfl (by exact At.of_block hC)) rfl rfl rfl ?_ (hC := (by first | exact hb9 | exact hb8 | exact hb1)); refine WH.one 31 (by kernel_rfl) ?_; refine Comes1.call (vs := [_]) rfl rfl (fun a w => Tryz.call128 a w) rfl (kk _) rfl rfl rfl ?_ (fun _ => by kernel_rfl); rintro _ g8 ⟨rfl, hx8⟩; have hb8 := hx8.obj hb1 nos; refine ⟨fun _ => hb8, ?_⟩; refine WH.one 32 (by kernel_rfl) ?_; refine Comes1.call (vs := [_, _]) rfl rfl (fun a w => Tryz.call127 a w) rfl (ks _) rfl rfl rfl ?_ (fun _ => by kernel_rfl); rintro _ g9 ⟨rfl, hx9⟩; have hb9 := hx9.obj hb8 nos; refine ⟨fun _ => hb9, ?_⟩; refine WH.tk 33 rfl (fun hq hC => ok_not rfl) rfl rfl rfl ?_ (hC := (by first | exact hb9 | exact hb8 | exact hb1)); refine WH.tk 34 rfl (fun hq hC => ok_pick_f rfl rfl) rfl rfl rfl ?_ (hC := (by first | exact hb9 | exact hb8 | exact hb1)); refine WH.done (by kernel_rfl) ?_; refine Gn ?_; refine Gs [(88, _)] ?_; refine goC 3 4 ?_ TT.mk; refine goB 4 ?_; refine WC.skip ?_; refine Gn ?_; refine WC.sr ?_; refine Go ?_; refine Gt ?_; exact ⟨rfl, (hx1.trans hx8).trans hx9⟩)
set_option maxHeartbeats 2000000 in
set_option maxRecDepth 100000 in
theorem enc07_3 {h : Heap} : CallsH Tryz.prog 71 ⟨[.agg ⟨z3C⟩]⟩ h fun u h' => u = .tuple ⟨[.agg ⟨[.int .u8 51, .slice none 0 0]⟩, In 0]⟩ ∧ Ext No h h' := by
  have kc := fun h' => check07_3 (h := h')
  unfold z3C at kc ⊢
  refine calls [(0, _)] Tryz.func71 rfl Tryz.ntmps71 rfl ⟨rfl, trivial⟩ ?_
  all_goals (refine WC.sr ?_; refine WL.stepR (okE_box rfl) rfl rfl rfl ?_; rintro _ h1 ⟨b1, rfl, hg1, hb1, hx1⟩; refine WL.stepR (okE_alloc (fun w => Tryz.zeroValue136 w)) rfl rfl rfl ?_; rintro _ h2 ⟨b2, rfl, hg2, hb2, hx2⟩; have hX2 := hx1.trans hx2; have hb12 := hx2.obj hb1 nos; refine Go ?_; refine WC.seq ?_; refine WC.sr ?_; refine WL.step (ok_loadN (fun w => Tryz.isAgg86 w) (fun w => Tryz.sizeOf86 w) rfl rfl (by exact At.of_block hb12)) rfl rfl rfl ?_; refine WL.call (vs := [_]) rfl (fun a w => Tryz.call100 a w) rfl (kc _) rfl rfl rfl ?_; rintro _ h3 ⟨rfl, hx3⟩; have hb13 := hx3.obj hb12 nos; have hb23 := hx3.obj hb2 nos; have hX3 := hX2.trans hx3; have l1 := lt_of_some hb13; have l2 := lt_of_some hb23; refine Go ?_; refine Gs [(1, _), (2, _), (4, _)] ?_; refine WC.sr ?_; refine Go ?_; refine goC 1 2 ?_ TT.mk; refine goB 2 ?_; refine WC.skip ?_; refine Gn ?_; refine WC.sr ?_; refine Go ?_; refine WC.seq ?_; refine WC.sr ?_; refine Go ?_; refine WL.ld rfl (by first | exact cell_blk hb13 rfl | assumption | exact cell_blk (by assumption) rfl) rfl rfl rfl ?_; refine Gn ?_; refine Gs [(1, _), (2, _), (5, _), (13, _)] ?_; refine WC.block ?_; refine WC.sr ?_; refine Go ?_; refine goC 3 4 ?_ TT.mk; refine goB 4 ?_; refine WC.sr ?_; refine Go ?_; refine goC 5 6 ?_ TT.mk; refine goB 6 ?_; refine WC.sr ?_; refine Go ?_; refine Gs [(1, _), (2, _), (5, _), (13, _), (25, _)] ?_; refine goC 7 8 ?_ TT.mk; refine goB 8 ?_; refine WC.sr ?_; refine Go ?_; refine goC 9 10 ?_ TT.mk; refine goB 10 ?_; refine WC.sr ?_; refine Go ?_; refine Gs [(1, _), (2, _), (5, _), (13, _), (38, _)] ?_; refine goC 11 12 ?_ TT.mk; refine goB 12 ?_; refine WC.sr ?_; refine Go ?_; refine goC 13 14 ?_ TT.mk; refine goB 14 ?_; refine WC.sr ?_; refine Go ?_; refine Gs [(1, _), (2, _), (5, _), (13, _), (48, _)] ?_; refine goC 15 16 ?_ TT.mk; refine goB 16 ?_; refine WC.sr ?_; refine Go ?_; refine goC 17 18 ?_ TT.mk; refine goB 18 ?_; refine WC.seq ?_; refine WC.sr ?_; refine Go ?_; refine Gs [(1, _), (2, _), (5, _), (13, _), (58, _)] ?_; refine goC 19 20 ?_ TT.mk; refine goB 20 ?_; refine WC.region ?_; refine Go ?_; refine Gn ?_; refine goC 21 22 ?_ TT.mk; refine goB 22 ?_; refine WC.skip ?_; refine Gn ?_; refine WC.sr ?_; refine Go ?_; refine WL.ld rfl (by first | exact cell_blk hb13 rfl | assumption | exact cell_blk (by assumption) rfl) rfl rfl rfl ?_; refine Go ?_; refine WL.step (ok_buildF (vs := [_, _]) (cs := [_, _]) (fun | [a0, a1] => [a0, a1] | _ => []) rfl rfl (by kernel_rfl)) rfl rfl rfl ?_; refine WL.stepR0 (okE_storeW (fun w => Tryz.sizeOf136 w) rfl rfl rfl hb23 rfl (by simp [Value.oneCell'])) rfl rfl ?_; rintro _ h7 ⟨hb7, hx7⟩; refine Go ?_; refine Gs [(2, _), (3, _)] ?_; refine WC.ret ?_; repeat' (with_reducible first | refine thenP_r ?_ | refine blockP_r ?_))
  all_goals (refine retP_2 _ _ ⟨⟨_, rfl, ld_blk (fun w => Tryz.isAgg136 w) (fun w => Tryz.sizeOf136 w) hb7 rfl⟩, rfl, trivial⟩ ?_; exact ⟨rfl, hX3.trans' hx7 (fun q hq e => by have := hx1.size; omega)⟩)
set_option maxHeartbeats 2000000 in
set_option maxRecDepth 100000 in
theorem three_doc {h : Heap} {p : Nat} (hb0 : h[p]? = some (.cells ⟨z3C⟩ 86 (0, 0))) : CallsH Tryz.prog 36 ⟨[.slice (some ⟨p, 0, none⟩) 1 1]⟩ h fun u h' => Own h' u 5 1 three.length (bys three) ∧ Ext No h h' ∧ ∀ k, u.ownBlock = some k → h.size ≤ k := by
  have ke := fun h' => enc07_3 (h := h')
  unfold z3C at hb0 ke
  refine calls [(0, _)] Tryz.func36 rfl Tryz.ntmps36 rfl ⟨rfl, trivial⟩ ?_
  all_goals (refine WC.sr ?_; refine Go ?_; refine WC.sr ?_; refine Go ?_; refine WC.seq ?_; refine WC.sr ?_; refine Go ?_; refine WC.block ?_)
  -- loop 0: slots that turn [3, 4], that stay [0]
  all_goals (refine WC.loopG (X := Nat × Value) (fun x => ([(4, In (x.1 : Int)), (3, x.2)] : Fr)) [(0, _)] (fun y h' => Ext No h h' ∧ ((y.1 = 0 ∧ y.2 = .slice none 0 0) ∨ (y.1 = 1 ∧ Own h' y.2 5 1 three.length (bys three) ∧ ∀ k, y.2.ownBlock = some k → h.size ≤ k))) (fun y => 1 - y.1) ((0, .slice none 0 0)) ⟨rfl, rfl, rfl, trivial⟩ (by exact ⟨.refl _ _, .inl ⟨rfl, rfl⟩⟩) ?_; rintro ⟨k, w⟩ h1 ⟨hx1, hI⟩; dsimp only at hI)
  all_goals (refine WC.sub [(3, _), (4, _), (0, _)] ⟨rfl, rfl, rfl, trivial⟩ ?_; dsimp only)
  all_goals (refine WC.seq ?_; refine WC.sr ?_; refine Go ?_; refine goC 1 2 (Hb.mk fun hb => ?_) (Hb.mk fun hb => ?_))
  all_goals (first | (fail_if_success refine goB 1 ?_) | (
  refine goB 1 ?_
  all_goals (refine WC.skip ?_)
  skip))
  all_goals (first | (fail_if_success refine goB 2 ?_) | (
  refine goB 2 ?_
  all_goals (refine WC.exit ?_; repeat' (with_reducible first | refine thenP_x ?_ | refine blockP_miss rfl ?_ | refine blockP_hit ?_ | refine blockP_n ?_ | refine thenP_n ?_))
  all_goals (refine Br.out (i := 1000) ?_)
  skip))
  all_goals (refine Gn ?_; first | (refine Br.keep ?_) | (refine Gs [(0, _), (3, _), (4, _)] ?_))
  all_goals (first | (refine Br.keep ?_) | (refine WC.seq ?_))
  all_goals (first | (refine Br.keep ?_) | (refine WC.block ?_))
  all_goals (first | (refine Br.keep ?_) | (refine WC.sr ?_))
  all_goals (first | (refine Br.keep ?_) | (obtain ⟨rfl, rfl⟩ : k = 0 ∧ w = .slice none 0 0 := by rcases hI with h | ⟨h, _⟩; exact h; exfalso; omega))
  all_goals (first | (refine Br.keep ?_) | (refine WL.step (ok_move rfl) rfl rfl rfl ?_))
  all_goals (refine Go ?_; first | (refine Br.keep ?_) | (refine WL.step (ok_idxAddrA Tryz.underlying87 (fun w => Tryz.sizeOf86 w) rfl rfl rfl (by omega) (by first | rfl | assumption)) rfl rfl rfl ?_))
  all_goals (first | (refine Br.keep ?_) | (refine WL.step (ok_loadN (fun w => Tryz.isAgg86 w) (fun w => Tryz.sizeOf86 w) rfl rfl (by exact At.of_block (hx1.obj hb0 nos))) rfl rfl rfl ?_))
  all_goals (first
               | (refine Br.keep ?_)
               | (refine WL.call (vs := [_]) rfl (fun a w => Tryz.call71 a w) rfl (ke _) rfl rfl rfl ?_
                  rintro _ h4 ⟨rfl, hx4⟩))
  all_goals (refine Go ?_)
  all_goals (first
               | (refine Br.keep ?_)
               | (refine WL.stepR (okE_alloc (fun w => Tryz.zeroValue136 w)) rfl rfl rfl ?_
                  rintro _ h5 ⟨b6, rfl, hg6, hb6, hx5⟩))
  all_goals (first
               | (refine Br.keep ?_)
               | (refine WL.stepR0 (okE_storeW (fun w => Tryz.sizeOf136 w) rfl rfl rfl hb6 rfl (by simp [Value.oneCell'])) rfl rfl ?_
                  rintro _ h6 ⟨hb66, hx6⟩))
  all_goals (first
               | (refine Br.keep ?_)
               | (have hX46 : Ext No h4 h6 := hx5.trans' hx6 (fun q hq e => by omega)
                  have hX6 := (hx1.trans hx4).trans hX46))
  all_goals (refine Go ?_; first | (refine Br.keep ?_) | (refine Gs [(0, _), (3, _), (4, _), (5, _), (6, _)] ?_))
  all_goals (first | (refine Br.keep ?_) | (refine WC.sr ?_))
  all_goals (refine Go ?_; first | (refine Br.keep ?_) | (refine goC 3 4 ?_ TT.mk))
  all_goals (first | (fail_if_success refine goB 3 ?_) | (
  refine goB 3 ?_
  all_goals (refine WC.region ?_; refine Go ?_; refine WL.step (ok_loadN (fun w => Tryz.isAgg136 w) (fun w => Tryz.sizeOf136 w) rfl rfl (by exact At.of_block hb66)) rfl rfl rfl ?_)
  all_goals (refine WL.call (vs := [_]) rfl (fun a w => Tryz.call72 a w) rfl (frame04 51 (by decide) [] (Rd.nil _ _) (by decide)) rfl rfl rfl ?_
             rintro v7 h7 ⟨ho7, hx7⟩
             rw [three_fr] at ho7
             obtain ⟨A7, c7, rfl, _⟩ := id ho7.slice)
  all_goals (refine WL.stepR (ok_append (sz := 1) (bytes := 1) rfl Tryz.underlying42 (show Tryz.prog.info? 5 = some Tryz.t5 by kernel_rfl) rfl rfl rfl rfl (by decide) rfl rfl (Own.nil _ 5 1) ho7.rd (by intro c hc; obtain ⟨b, _, rfl⟩ := List.mem_map.1 hc; rfl) (by simp [maxLen, three]) (by simp [three])) rfl rfl rfl ?_; rintro v8 h8 ⟨ho8, hx8, hl8⟩; have hX7 := hX6.trans hx7; have hX8 := hX7.trans (hx8.mono fun _ _ e => by simp [Value.ownBlock] at e); refine Go ?_)
  skip))
  all_goals (refine Gn ?_; first | (refine Br.keep ?_) | (refine Gs [(0, _), (3, _), (4, _)] ?_))
  all_goals (first | (refine Br.keep ?_) | (refine WC.region ?_))
  all_goals (refine Go ?_; first | (refine Br.keep ?_) | (exact ⟨(0 + 1, _), ⟨rfl, rfl, rfl, trivial⟩, (by exact ⟨hX8, .inr ⟨rfl, by simpa using ho8, fresh_of hl8 (fun k hk => by simp [Value.ownBlock] at hk) hX7.size⟩⟩), (by first | omega | (dsimp only; omega) | simp)⟩))
  all_goals (try (refine Br.mk (i := 1000) ?_))
  all_goals (refine Gn ?_; refine Gs [(3, _)] ?_; refine WC.sr ?_; refine Go ?_; refine Gt ?_)
  all_goals (rcases hI with ⟨h, _⟩ | ⟨_, hB, hf⟩
             · exfalso; omega
             · exact ⟨hB, hx1, hf⟩)
end Go.Proofs.YtggmocdbfbhklaaGreat


/-
  REWRITE (layer 24), by the document: Do of a C of a statement; Do of any message.
-/
namespace Go.Proofs.YtggmocdbfbhklaaGreat
open Go Go.RK

section
variable {h0 h h1 h' hT : Heap} {B : Nat} {c : Int} {bt : Nat} {s : RS} {f : Fm} {v va : Value} {ss : Option Addr} {sn sc : Nat} {spec : List Int} {most jd : Int} {kn : Bool} {tb tm tr : Nat} {v15 : Value} {most15 : Int} {T : List NI} {A : List En}
set_option maxHeartbeats 4000000 in
set_option maxRecDepth 100000 in
theorem do_doc67 (d : Dst h0 h B bt s) (hf : f.ok h0) (hk : f.kind = 67 ∧ f.what = 83) (dT : T15 hT h tb tm tr v15 most15 T) (g : Gds h va A) (hA : (opsE A).length ≤ 100000) :
    CallsH Tryz.prog 10 ⟨[ptE bt, .pointer (some ⟨tr, 0, none⟩), va, .slice ss sn sc, In most, .agg ⟨f.cells⟩]⟩ h (DoD h0 h B bt (s, [], [(10, false, [], [], [(false, f.name, 0, ())], [], [], three)])) := by
  have kn := fun h' => needs_doc (h := h') f
  rw [decide_eq_true (show NeedK f.kind by unfold NeedK; omega)] at kn
  have klk := fun h' (x : Ext No h h') => look_doc (dT.stay x (fun _ _ => nos)) (g.ext0 x) hA f.name
  generalize lookT f.name ((getL T f.name).getD 0, (getL T f.name).isSome) (opsE A) = lk at *
  obtain ⟨li, lb⟩ := lk
  obtain ⟨⟨e1, _⟩, ⟨e2, _⟩, ⟨e3, _⟩, e4, _⟩ := hf
  obtain ⟨fk, w, n, p, t, vo, o, vf, fs, vs, rs, vp, ps, mx⟩ := f
  dsimp only at e1 e2 e3 e4 hk
  obtain ⟨rfl, rfl⟩ := hk
  obtain ⟨_, _, rfl, _⟩ := e1
  obtain ⟨_, _, rfl, _⟩ := e2
  obtain ⟨_, _, rfl, _⟩ := e3
  obtain ⟨_, _, rfl, _⟩ := e4
  dsimp only [Fm.cells, ptE] at kn klk ⊢
  refine calls [(0, _), (1, _), (2, _), (3, _), (4, _), (5, _)] Tryz.func10 rfl Tryz.ntmps10 rfl ⟨rfl, rfl, rfl, rfl, rfl, rfl, trivial⟩ ?_
  all_goals (refine WC.sr ?_; refine WL.stepR (okE_box rfl) rfl rfl rfl ?_; rintro _ h1 ⟨b11, rfl, hg1, hb1, hx1⟩; refine Go ?_; refine WC.seq ?_; refine WC.sr ?_; refine WL.step (ok_loadN (fun w => Tryz.isAgg27 w) (fun w => Tryz.sizeOf27 w) rfl rfl (by exact At.of_block hb1)) rfl rfl rfl ?_; refine WL.call (vs := [_]) rfl (fun a w => Tryz.call14 a w) rfl (kn _) rfl rfl rfl ?_; rintro _ h2 ⟨rfl, hx2⟩; have hb2 := hx2.obj hb1 nos; have X2 := hx1.trans hx2; refine Go ?_; refine Gs [(0, _), (1, _), (2, _), (3, _), (4, _), (11, _), (19, _)] ?_; refine goC 1 2 ?_ TT.mk; refine goB 2 ?_; refine WC.skip ?_; refine Gn ?_; refine WC.sr ?_; refine Go ?_; refine WL.ld rfl (by first | exact cell_blk hb2 rfl | assumption | exact cell_blk (by assumption) rfl) rfl rfl rfl ?_; refine WL.call (vs := [_, _, _]) rfl (fun a w => Tryz.call33 a w) rfl (klk _ X2) rfl rfl rfl ?_; rintro _ h3 ⟨rfl, hx3⟩; have hb3 := hx3.obj hb2 nos; have X3 := X2.trans hx3; have s3 := X3.size; refine Go ?_; refine Gs [(0, _), (3, _), (4, _), (11, _), (14, _), (15, _)] ?_; refine WC.seq ?_; refine WC.block ?_; refine WC.sr ?_; refine Go ?_; refine Ld ?_; refine Go ?_; refine goC 3 4 ?_ TT.mk; refine goB 4 ?_; refine WC.sr ?_; refine Go ?_; refine Ld ?_; refine Go ?_; refine goP 44 ?_ TT.mk; refine Gg ?_; refine Ld ?_; refine WL.step (OkP.bool_f (by omega) (ok_eql rfl rfl)) rfl rfl rfl ?_; refine WL.step (ok_move rfl) rfl rfl rfl ?_; refine goP 48 ?_ TT.mk; refine Gg ?_; refine WL.pass rfl rfl rfl ?_; refine Gg ?_; refine Go ?_; refine Gs [(0, _), (3, _), (4, _), (11, _), (14, _), (15, _), (40, _)] ?_; refine goC 5 6 ?_ TT.mk; refine goB 6 ?_; refine WC.sr ?_; refine Go ?_; refine Ld ?_; refine Go ?_; refine goP 67 ?_ TT.mk; refine Gg ?_; refine Ld ?_; refine Gg ?_; refine Go ?_; refine Gs [(11, _), (63, _)] ?_; refine goC 7 8 ?_ TT.mk; refine goB 7 ?_; refine WC.sr ?_; refine WL.step (ok_buildF (vs := [_]) (cs := [_, _, _, _, _, _, _, _, _, _, _]) (fun | [a0] => [a0, (.int .u8 0), (St []), (St []), (St []), (.int .i64 0), (.int .i64 0), (.slice none 0 0), (.slice none 0 0), (.slice none 0 0), (.slice none 0 0)] | _ => []) rfl rfl (by kernel_rfl)) rfl rfl rfl ?_; refine WL.stepR (okE_buildSlice (vs := [_]) (cs := [_, _, _, _, _, _, _, _, _, _, _]) (fun | [.agg ⟨[a0, a1, a2, a3, a4, a5, a6, a7, a8, a9, a10]⟩] => [a0, a1, a2, a3, a4, a5, a6, a7, a8, a9, a10] | _ => []) Tryz.underlying87 rfl rfl (by kernel_rfl)) rfl rfl rfl ?_; rintro _ h4 ⟨q4, rfl, hg4, hb4, hx4⟩; refine WL.call (vs := [_]) rfl (fun a w => Tryz.call36 a w) rfl (three_doc hb4) rfl rfl rfl ?_; rintro v5 h5 ⟨ho5, hx5, hf5⟩; obtain ⟨A5, c5, rfl, _⟩ := id ho5.slice; have X5 := (X3.trans hx4).trans hx5; have hb5 := (hx4.trans hx5).obj hb3 nos; refine Go ?_; refine Gs [(11, _), (16, _)] ?_; refine WC.seq ?_; refine WC.drawH (fun h' => Ext No h5 h') 9 9 rfl fol ?_; refine WH.tk 0 rfl (fun hq hC => ok_move rfl) rfl rfl rfl ?_; refine WH.tk 1 rfl (fun hq hC => ok_fieldAddr rfl Tryz.underlying27 rfl (fun w => Tryz.sizeOf9 w)) rfl rfl rfl ?_; refine WH.tk 2 rfl (fun hq hC => ok_load (fun w => Tryz.isAgg9 w) rfl (by first | exact hC.cell (by first | exact cell_blk hb5 rfl | assumption | exact cell_blk (by assumption) rfl) nos)) rfl rfl rfl ?_)
  all_goals (refine WH.tk 3 rfl (fun hq hC => ok_buildF (vs := [_]) (cs := [_, _, _]) (fun | [a1] => [(.bool false), a1, (.int .i64 0)] | _ => []) rfl rfl (by kernel_rfl)) rfl rfl rfl ?_; refine WH.tk 7 rfl (fun hq hC => ok_assign rfl) rfl rfl rfl ?_; refine WH.one 4 (by kernel_rfl) ?_; refine Comes1.run rfl (okE_buildSlice (vs := [_]) (cs := [_, _, _]) (fun | [.agg ⟨[a0, a1, a2]⟩] => [a0, a1, a2] | _ => []) Tryz.underlying40 rfl rfl (by kernel_rfl)) rfl rfl rfl ?_ (fun _ => by kernel_rfl); rintro _ h6 ⟨q6, rfl, hg6, hb6, hx6⟩; refine ⟨fun _ => hx6, ?_⟩; refine WH.tk 5 rfl (fun hq hC => ok_buildF (vs := [_, _, _]) (cs := [_, _, _, _, _, _, _, _]) (fun | [a0, a7, a4] => [a0, (.bool false), (St []), (St []), a4, (.slice none 0 0), (.slice none 0 0), a7] | _ => []) rfl rfl (by kernel_rfl)) rfl rfl rfl ?_; refine WH.one 6 (by kernel_rfl) ?_; refine Comes1.run rfl (okE_buildSlice (vs := [_]) (cs := [_, _, _, _, _, _, _, _]) (fun | [.agg ⟨[a0, a1, a2, a3, a4, a5, a6, a7]⟩] => [a0, a1, a2, a3, a4, a5, a6, a7] | _ => []) Tryz.underlying37 rfl rfl (by kernel_rfl)) rfl rfl rfl ?_ (fun _ => by kernel_rfl); rintro _ h7 ⟨q7, rfl, hg7, hb7, hx7⟩; refine ⟨fun _ => hx6.trans hx7, ?_⟩; have hZ7 := hx6.trans hx7; refine WH.tk 8 rfl (fun hq hC => ok_assign rfl) rfl rfl rfl ?_; refine WH.done (by kernel_rfl) ?_; refine Gn ?_; refine Gs [(12, _), (13, _)] ?_; refine Gt ?_; have X7 := (X5.trans hx6).trans hx7; have ho7 := (ho5.ext hx6 (fun _ _ => nos)).ext hx7 (fun _ _ => nos); (have hE : Lst h0 h7 fun g => (⟨10, false, [], [], .slice (some ⟨q6, 0, none⟩) 1 1, [(false, n, 0, ())], .slice none 0 0, [], .slice none 0 0, [], .slice A5 three.length c5, three⟩ : En).ok g := fun S h6 x6 s6 => ⟨(lst_blk (h0 := h0) (hx7.obj hb6 nos) (by decide) |>.mono fun _ z => tops_one z) S h6 x6 s6, tops_nil _, ops_nil _, ⟨((lst_own (h0 := h0) ho7 (by decide)) S h6 x6 s6).rd, by simp [three, reachBytes]⟩⟩); have hO : Own h7 (.slice (some ⟨q7, 0, none⟩) 1 1) 44 8 1 (⟨10, false, [], [], .slice (some ⟨q6, 0, none⟩) 1 1, [(false, n, 0, ())], .slice none 0 0, [], .slice none 0 0, [], .slice A5 three.length c5, three⟩ : En).cells := own_one hb7 rfl; exact ⟨⟨_, _, [], [⟨10, false, [], [], .slice (some ⟨q6, 0, none⟩) 1 1, [(false, n, 0, ())], .slice none 0 0, [], .slice none 0 0, [], .slice A5 three.length c5, three⟩], rfl, ⟨Own.nil _ _ _, by simpa using hO, by simp, by simp, by simp, fun x hx => by obtain rfl := List.mem_singleton.1 hx; exact hE, by simp [Value.ownBlock], fun k z => by simp [Value.ownBlock] at z; have := X5.size; have := hx6.size; omega⟩, rfl, rfl⟩, d.ext0 X7, fs_no X7⟩)
theorem do_docAny (d : Dst h0 h B bt s) (sv : Sv c s) (x0 : Ext No h0 h) (hf : f.ok h0) (hol : f.oids.length ≤ 50) (hsp : Rd h0 (.slice ss sn sc) 1 spec.length (ints spec)) (hsl : spec.length ≤ 40) (hcc : 0 ≤ c ∧ c + 2 ≤ 1000000) (dT : T15 hT h tb tm tr v15 most15 T) (g : Gds h va A) (hA : (opsE A).length ≤ 100000) :
    CallsH Tryz.prog 10 ⟨[ptE bt, .pointer (some ⟨tr, 0, none⟩), va, .slice ss sn sc, In most, .agg ⟨f.cells⟩]⟩ h
      (DoD h0 h B bt (if NeedK f.kind then doA s (lookT f.name ((getL T f.name).getD 0, (getL T f.name).isSome) (opsE A)) spec most f.pl else (s, [], []))) := by
  by_cases hk : NeedK f.kind
  · rw [if_pos hk]
    by_cases h1 : f.kind = 80 ∨ f.kind = 66 ∨ (f.kind = 68 ∧ f.what = 83)
    · exact do_docPU d sv x0 hf h1 hol hsp hsl hcc dT g hA
    · have hdo : ∀ lk, doA s lk spec most f.pl = (if f.kind = 67 ∧ f.what = 83 then (s, [], [(10, false, [], [], [(false, f.name, 0, ())], [], [], three)])
        else if f.kind = 72 then (s, [f.pl], [])
        else if f.kind = 81 then (s, [f.pl], [(9, false, [], [], [(false, [], 0, ())], [], [], [])])
        else (s, [f.pl], [(zE (entK f.kind f.what) [] []).pl])) := fun lk => by
        unfold doA
        rw [if_neg (show ¬ f.pl.1 = 80 from fun e => h1 (.inl e)), if_neg (show ¬ (f.pl.1 = 66 ∨ (f.pl.1 = 68 ∧ f.pl.2.1 = 83)) from fun e => h1 (.inr e))]
        rfl
      rw [hdo]
      by_cases h2 : f.kind = 67 ∧ f.what = 83
      · rw [if_pos h2]; exact do_doc67 d hf h2 dT g hA
      · rw [if_neg h2]
        by_cases h3 : f.kind = 72
        · rw [if_pos h3]; exact do_doc72 d x0 hf h3 dT g hA
        · rw [if_neg h3]
          by_cases h4 : f.kind = 81
          · rw [if_pos h4]; exact do_doc81 d x0 hf h4 dT g hA
          · rw [if_neg h4]
            refine do_docElse d x0 hf ?_ dT g hA
            unfold NeedK at hk
            omega
  · rw [if_neg hk]
    exact do_docNo d hf hk
end
end Go.Proofs.YtggmocdbfbhklaaGreat


/-
  REWRITE (layer 24): two sides that were told the same messages: both registries, and both rows of entries.
-/
namespace Go.Proofs.YtggmocdbfbhklaaGreat
open Go Go.RK

/-! ### good is short -/
theorem good_room (spec : List Int) (most : Int) : ∀ p ∈ roomE spec most, p.2.2.2.2.1.length ≤ 1 := by
  unfold roomE
  intro p hp
  split at hp
  · cases hp
  · split at hp
    · cases hp
    · obtain rfl := List.mem_singleton.1 hp
      simp [hideP]
theorem good_ready (spec : List Int) (most id : Int) : ∀ p ∈ readyE spec most id, p.2.2.2.2.1.length ≤ 1 := by
  unfold readyE
  intro p hp
  split at hp
  · cases hp
  · rcases List.mem_append.1 hp with hp | hp
    · exact good_room _ _ p hp
    · obtain rfl := List.mem_singleton.1 hp
      simp [hideP]
theorem good_one {q : EnP} (h : q.2.2.2.2.1.length ≤ 1) : ∀ p ∈ [q], p.2.2.2.2.1.length ≤ 1 := fun p hp => by
  obtain rfl := List.mem_singleton.1 hp
  exact h
theorem good_do (s : RS) (lk : Int × Bool) (spec : List Int) (most : Int) (p : FmP) : ∀ q ∈ (doA s lk spec most p).2.2, q.2.2.2.2.1.length ≤ 1 := by
  unfold doA preA useA
  dsimp only
  repeat' split
  all_goals first | exact good_one (by simp [zE, En.pl, preGood]) | (intro q hq; cases hq; done) | skip
  all_goals
    intro q hq
    dsimp only at hq
    rcases List.mem_append.1 hq with hq | hq
    · first | exact good_room _ _ q hq | exact good_ready _ _ _ q hq
    · exact good_one (by simp [preGood]) q hq
theorem good_any (c : Prop) [Decidable c] (s : RS) (lk : Int × Bool) (spec : List Int) (most : Int) (p : FmP) : ∀ q ∈ (if c then doA s lk spec most p else (s, [], [])).2.2, q.2.2.2.2.1.length ≤ 1 := by
  split
  · exact good_do _ _ _ _ _
  · intro q hq; cases hq
/-- What lasts while rows of entries are turned. -/
def enT : List TypeId := [44]
section
variable {H h h1 h2 : Heap} {B : Nat} {c c' : Int} {b m1 m2 bt tb tm tr : Nat} {v15 : Value} {T : List NI} {s s' : RS} {vA vB : Value} {A Bn : List En} {S : Nat → Prop}
theorem Kn.turn (k : Kn H h c b m1 m2 bt tb tm tr v15 s T) (x : Ext S h h1) (hS : ∀ q, S q → H.size ≤ q ∧ Ty enT h q) : Kn H h1 c b m1 m2 bt tb tm tr v15 s T := by
  obtain ⟨⟨es, ck, e1⟩, es2, ck2, e2⟩ := k.cst.maps
  obtain ⟨es3, ck3, e3⟩ := k.tab.map
  refine ⟨k.cst.ext x fun q hq => ⟨?_, ?_, ty_not (by decide) (hS q hq).2⟩, k.dst.ext x fun q hq => ty_not (by decide) (hS q hq).2, k.tab.turn x fun q hq => ⟨(hS q hq).1, ?_, ty_not (by decide) (hS q hq).2⟩, k.ne, k.ext.trans' x fun q hq e => absurd hq (by have := (hS q e).1; omega)⟩
  · rintro rfl; exact ty_map e1 (hS _ hq).2
  · rintro rfl; exact ty_map e2 (hS _ hq).2
  · rintro rfl; exact ty_map e3 (hS _ hq).2
theorem cs_sf (d : Cst H h B c b m1 m2 s) : Sf H h (CS H m1 m2 h) := by
  obtain ⟨⟨es, ck, e1⟩, es2, ck2, e2⟩ := d.maps
  refine fs_sf (fun q hq => ?_) (by decide)
  simp only [List.mem_cons, List.not_mem_nil, or_false] at hq
  rcases hq with rfl | rfl
  · exact ty_map e1
  · exact ty_map e2
theorem cs_own {TT : TypeId} {sz n : Nat} {v : Value} {xs : List Value} (d : Cst H h B c b m1 m2 s) (ho : Own h v TT sz n xs) (hT : TT ∉ regT) : ∀ q, v.ownBlock = some q → ¬ CS H m1 m2 h q := fun q hq => by
  obtain ⟨cur, e⟩ := own_ty ho hq
  exact d.off e hT
theorem ds_own {TT : TypeId} {sz n : Nat} {v : Value} {xs : List Value} (ho : Own h v TT sz n xs) (hT : TT ∉ docT) : ∀ q, v.ownBlock = some q → ¬ DS H h q := fun q hq => by
  obtain ⟨cur, e⟩ := own_ty ho hq
  exact ds_off e hT
structure St2 (H h : Heap) (c : Int) (b m1 m2 bt tb tm tr : Nat) (v15 : Value) (T : List NI) (s : RS) (vA vB : Value) (A Bn : List En) : Prop where
  kn : Kn H h c b m1 m2 bt tb tm tr v15 s T
  oA : Own h vA 44 8 A.length (A.flatMap En.cells)
  oB : Own h vB 44 8 Bn.length (Bn.flatMap En.cells)
  okA : ∀ e ∈ A, Lst H h fun g => e.ok g
  okB : ∀ e ∈ Bn, Lst H h fun g => e.ok g
  eq : A.map En.pl = Bn.map En.pl
  good : ∀ p ∈ A.map En.pl, p.2.2.2.2.1.length ≤ 1
  loA : ∀ q, vA.ownBlock = some q → H.size ≤ q
  loB : ∀ q, vB.ownBlock = some q → H.size ≤ q
  ne : ∀ q, vA.ownBlock = some q → ¬ vB.ownBlock = some q
theorem St2.len (k : St2 H h c b m1 m2 bt tb tm tr v15 T s vA vB A Bn) : Bn.length = A.length := by simpa using (congrArg List.length k.eq).symm
theorem St2.goodA (k : St2 H h c b m1 m2 bt tb tm tr v15 T s vA vB A Bn) : ∀ e ∈ A, e.good.length ≤ 1 := fun e he => k.good e.pl (List.mem_map_of_mem he)
theorem St2.goodB (k : St2 H h c b m1 m2 bt tb tm tr v15 T s vA vB A Bn) : ∀ e ∈ Bn, e.good.length ≤ 1 := fun e he => k.good e.pl (k.eq ▸ List.mem_map_of_mem he)
theorem ops_len {A : List En} (h : ∀ e ∈ A, e.good.length ≤ 1) : (opsE A).length ≤ A.length := by
  unfold opsE
  induction A with
  | nil => simp
  | cons x l ih =>
    have := ih fun e he => h e (List.mem_cons_of_mem _ he)
    have := h x (List.mem_cons_self ..)
    simp only [List.flatMap_cons, List.length_append, List.length_cons]
    omega
theorem ops_eq {A Bn : List En} (h : A.map En.pl = Bn.map En.pl) : opsE A = opsE Bn := by
  have f : ∀ L : List En, opsE L = (L.map En.pl).flatMap fun p => p.2.2.2.2.1 := fun L => by
    unfold opsE
    rw [List.flatMap_map]
    rfl
  rw [f, f, h]
theorem gds_of {g : Heap} {v : Value} {L : List En} (o : Rd g v 8 L.length (L.flatMap En.cells)) (hl : L.length ≤ 100000) (ok : ∀ e ∈ L, e.ok g) (hg : ∀ e ∈ L, e.good.length ≤ 1) : Gds g v L :=
  ⟨o, hl, fun e he => (ok e he).one, fun e he => (ok e he).good.1, fun e he => Nat.le_trans (hg e he) (by decide)⟩
theorem St2.gA (k : St2 H h c b m1 m2 bt tb tm tr v15 T s vA vB A Bn) (hl : A.length ≤ 100000) : Gds h vA A := gds_of k.oA.rd hl (fun e he => (k.okA e he).now) k.goodA
theorem St2.gB (k : St2 H h c b m1 m2 bt tb tm tr v15 T s vA vB A Bn) (hl : A.length ≤ 100000) : Gds h vB Bn := gds_of k.oB.rd (by rw [k.len]; exact hl) (fun e he => (k.okB e he).now) k.goodB
theorem St2.turn (k : St2 H h c b m1 m2 bt tb tm tr v15 T s vA vB A Bn) (x : Ext S h h1) (sf : Sf H h S) (hA : ∀ q, vA.ownBlock = some q → ¬ S q) (hB : ∀ q, vB.ownBlock = some q → ¬ S q) (K : Kn H h1 c' b m1 m2 bt tb tm tr v15 s' T) : St2 H h1 c' b m1 m2 bt tb tm tr v15 T s' vA vB A Bn :=
  ⟨K, k.oA.ext x hA, k.oB.ext x hB, fun e he => (k.okA e he).step x sf, fun e he => (k.okB e he).step x sf, k.eq, k.good, k.loA, k.loB, k.ne⟩
theorem St2.ext0 (k : St2 H h c b m1 m2 bt tb tm tr v15 T s vA vB A Bn) (x : Ext No h h1) : St2 H h1 c b m1 m2 bt tb tm tr v15 T s vA vB A Bn := k.turn x Sf.no (fun _ _ => nos) (fun _ _ => nos) (k.kn.ext0 x)
/-- The code has done its part. -/
structure Mid (H h h1 : Heap) (c : Int) (b m1 m2 bt tb tm tr : Nat) (v15 : Value) (T : List NI) (s s' : RS) (vA vB : Value) (A Bn : List En) : Prop where
  cst : Cst H h1 H.size (c + 2) b m1 m2 s'
  dst : Dst H h1 H.size bt s
  tab : T15 H h1 tb tm tr v15 40 T
  ext : Ext No H h1
  gB : Gds h1 vB Bn
  x : Ext (CS H m1 m2 h) h h1
theorem St2.mid (k : St2 H h c b m1 m2 bt tb tm tr v15 T s vA vB A Bn) (hl : A.length ≤ 100000) (x : Ext (CS H m1 m2 h) h h1) (cm : Cst H h1 H.size (c + 2) b m1 m2 s') : Mid H h h1 c b m1 m2 bt tb tm tr v15 T s s' vA vB A Bn :=
  ⟨cm, dst_cs k.kn.dst k.kn.cst x, t15_cs k.kn.tab (Nat.le_refl _) k.kn.cst k.kn.ne x, fs_old k.kn.ext x,
    gds_of ((k.oB.ext x (cs_own k.kn.cst k.oB (by decide))).rd) (by rw [k.len]; exact hl) (fun e he => ((k.okB e he).step x (cs_sf k.kn.cst)).now) k.goodB, x⟩
theorem St2.two (k : St2 H h c b m1 m2 bt tb tm tr v15 T s vA vB A Bn) (x : Ext (CS H m1 m2 h) h h1) (cm : Cst H h1 H.size (c + 2) b m1 m2 s') (y : Ext (DS H h1) h1 h2) (dm : Dst H h2 H.size bt s') : St2 H h2 (c + 2) b m1 m2 bt tb tm tr v15 T s' vA vB A Bn := by
  have K := k.kn.two x cm y dm
  have oA := k.oA.ext x (cs_own k.kn.cst k.oA (by decide))
  have oB := k.oB.ext x (cs_own k.kn.cst k.oB (by decide))
  exact ⟨K, oA.ext y (ds_own oA (by decide)), oB.ext y (ds_own oB (by decide)), fun e he => ((k.okA e he).step x (cs_sf k.kn.cst)).step y ds_sf, fun e he => ((k.okB e he).step x (cs_sf k.kn.cst)).step y ds_sf, k.eq, k.good, k.loA, k.loB, k.ne⟩
/-- What the code gave stays while the document does its part. -/
theorem TG.ds {h0 g : Heap} {vF vE : Value} {L : List Fm} {M : List En} (t : TG h0 g vF vE L M h1) (y : Ext (DS h0 h1) h1 h2) : TG h0 g vF vE L M h2 :=
  ⟨t.F.ext y (ds_own t.F (by decide)), t.E.ext y (ds_own t.E (by decide)), t.lF, t.lE, fun f hf => (t.okF f hf).step y ds_sf, fun f hf => (t.okE f hf).step y ds_sf, t.fF, t.fE⟩
theorem TG.ext0 {h0 g : Heap} {vF vE : Value} {L : List Fm} {M : List En} (t : TG h0 g vF vE L M h1) (y : Ext No h1 h2) : TG h0 g vF vE L M h2 :=
  ⟨t.F.ext y (fun _ _ => nos), t.E.ext y (fun _ _ => nos), t.lF, t.lE, fun f hf => (t.okF f hf).ext0 y, fun f hf => (t.okE f hf).ext0 y, t.fF, t.fE⟩
theorem own_en {q : Nat} {v : Value} {n : Nat} {xs : List Value} (o : Own h v 44 8 n xs) (hq : v.ownBlock = some q) : Ty enT h q := by
  obtain ⟨cur, e⟩ := own_ty o hq
  exact ⟨_, _, e, by simp [enT]⟩
theorem en_sf {v : Value} {n : Nat} {xs : List Value} (o : Own h v 44 8 n xs) (lo : ∀ q, v.ownBlock = some q → H.size ≤ q) : Sf H h fun q => v.ownBlock = some q := fun q hq => ⟨lo q hq, ty_not (by decide) (own_en o hq)⟩
/-- Both rows get longer. -/
theorem St2.app {M N : List En} {vA' vB' : Value} (k : St2 H h c b m1 m2 bt tb tm tr v15 T s vA vB A Bn) (eM : M.map En.pl = N.map En.pl) (gM : ∀ p ∈ M.map En.pl, p.2.2.2.2.1.length ≤ 1) (okM : ∀ e ∈ M, Lst H h fun g => e.ok g) (okN : ∀ e ∈ N, Lst H h fun g => e.ok g)
    (oA : Own h1 vA' 44 8 (A.length + M.length) (A.flatMap En.cells ++ M.flatMap En.cells)) (x : Ext (fun q => vA.ownBlock = some q) h h1) (fA : vA'.ownBlock = vA.ownBlock ∨ vA'.ownBlock = some h.size)
    (oB : Own h2 vB' 44 8 (Bn.length + N.length) (Bn.flatMap En.cells ++ N.flatMap En.cells)) (y : Ext (fun q => vB.ownBlock = some q) h1 h2) (fB : vB'.ownBlock = vB.ownBlock ∨ vB'.ownBlock = some h1.size) :
    St2 H h2 c b m1 m2 bt tb tm tr v15 T s vA' vB' (A ++ M) (Bn ++ N) := by
  have sx := en_sf (H := H) k.oA k.loA
  have oB1 := k.oB.ext x (fun q hq e => k.ne q e hq)
  have sy := en_sf (H := H) oB1 k.loB
  have hs := k.kn.ext.size
  have hx := x.size
  have lA := fresh_of fA (B := H.size) k.loA hs
  have lB := fresh_of fB (B := H.size) k.loB (by omega)
  have hA1 : ∀ q, vA'.ownBlock = some q → q < h1.size := fun q hq => by
    obtain ⟨cur, e⟩ := own_ty oA hq
    exact lt_of_some e
  have hB0 : ∀ q, vB.ownBlock = some q → q < h.size := fun q hq => by
    obtain ⟨cur, e⟩ := own_ty k.oB hq
    exact lt_of_some e
  have hne : ∀ q, vA'.ownBlock = some q → ¬ vB.ownBlock = some q := fun q hq e => by
    rcases fA with f | f
    · exact k.ne q (f ▸ hq) e
    · rw [f] at hq
      injection hq with hq
      have := hB0 q e
      omega
  refine ⟨(k.kn.turn x fun q hq => ⟨k.loA q hq, own_en k.oA hq⟩).turn y fun q hq => ⟨k.loB q hq, own_en oB1 hq⟩, ?_, ?_, fun e he => ?_, fun e he => ?_, by rw [List.map_append, List.map_append, k.eq, eM], fun p hp => ?_, lA, lB, fun q hq e => ?_⟩
  · rw [List.length_append, List.flatMap_append]
    exact oA.ext y hne
  · rw [List.length_append, List.flatMap_append]
    exact oB
  · rcases List.mem_append.1 he with he | he
    · exact ((k.okA e he).step x sx).step y sy
    · exact ((okM e he).step x sx).step y sy
  · rcases List.mem_append.1 he with he | he
    · exact ((k.okB e he).step x sx).step y sy
    · exact ((okN e he).step x sx).step y sy
  · rw [List.map_append] at hp
    rcases List.mem_append.1 hp with hp | hp
    · exact k.good p hp
    · exact gM p hp
  · rcases fB with f | f
    · exact hne q hq (f ▸ e)
    · rw [f] at e
      injection e with e
      have := hA1 q hq
      omega
end
set_option maxHeartbeats 2000000 in
set_option maxRecDepth 100000 in
theorem same24 {h : Heap} {v w : Value} (L M : List Fm) (hL : Fms h v L) (hM : Fms h w M) (e : L.map Fm.pl = M.map Fm.pl) :
    CallsH Tryz.prog 11 ⟨[v, w]⟩ h fun u h' => u = .bool true ∧ Ext No h h' := by
  obtain ⟨A, c, rfl, _⟩ := id hL.1
  obtain ⟨B, d, rfl, _⟩ := id hM.1
  refine calls [(0, _), (1, _)] Tryz.func11 rfl Tryz.ntmps11 rfl ⟨rfl, rfl, trivial⟩ ?_
  all_goals (refine WC.sr ?_; refine Go ?_; refine WC.sr ?_; refine Go ?_; refine WL.call (vs := [_, _, _]) rfl (fun a w => Tryz.call38 a w) rfl (sameAll_true L M hL hM e) rfl rfl rfl ?_; rintro _ h2 ⟨rfl, hx2⟩; refine Go ?_; refine Gs [(4, _)] ?_; refine Gt ?_; exact ⟨rfl, hx2⟩)
end Go.Proofs.YtggmocdbfbhklaaGreat


/-
  REWRITE (layer 24): one message, told by the code and by the document.
-/
namespace Go.Proofs.YtggmocdbfbhklaaGreat
open Go Go.RK

/-- What becomes of a message. -/
def resA (s : RS) (T : List NI) (spec : List Int) (most : Int) (A : List En) (f : Fm) : RS × List FmP × List EnP := if NeedK f.kind then doA s (lookT f.name ((getL T f.name).getD 0, (getL T f.name).isSome) (opsE A)) spec most f.pl else (s, [], [])
section
variable {H h g h1 : Heap} {B : Nat} {c : Int} {b m1 m2 bt tb tm tr : Nat} {v15 : Value} {T : List NI} {s : RS} {vA vB : Value} {A Bn : List En} {f : Fm} {spec : List Int} {most : Int} {ss : Option Addr} {sn sc : Nat}
/-- What one side gave. -/
structure Out (H g : Heap) (R : RS × List FmP × List EnP) (vF vE : Value) (L : List Fm) (M : List En) (h1 : Heap) : Prop where
  t : TG H g vF vE L M h1
  pF : L.map Fm.pl = R.2.1
  pE : M.map En.pl = R.2.2
  good : ∀ p ∈ M.map En.pl, p.2.2.2.2.1.length ≤ 1
theorem code_one (K : St2 H h c b m1 m2 bt tb tm tr v15 T s vA vB A Bn) (hf : f.ok H) (hw : 0 ≤ f.kind ∧ f.kind ≤ 255) (few : f.few) (hs : Rd H (.slice ss sn sc) 1 spec.length (ints spec)) (h40 : spec.length ≤ 40) (hl : A.length ≤ 60) (hc : 0 ≤ c ∧ c + 2 ≤ 1000000) :
    CallsH Tryz.prog 8 ⟨[ptE b, .pointer (some ⟨tb, 0, none⟩), vA, .slice ss sn sc, In most, .agg ⟨f.cells⟩]⟩ h fun u h' => ∃ vF vE L M, u = .tuple ⟨[vF, vE]⟩ ∧ Out H h (resA s T spec most A f) vF vE L M h' ∧ Mid H h h' c b m1 m2 bt tb tm tr v15 T s (resA s T spec most A f).1 vA vB A Bn := by
  refine (Do24 (most := most) K.kn.cst K.kn.ext hf hw ⟨by have := few.oids; omega, by have := few.formats; omega, by have := few.results; omega, by have := few.params; omega⟩ hs h40 hc K.kn.tab (K.gA (by omega))).mono fun u h' k => ?_
  obtain ⟨⟨vF, vE, L, M, e, t, pF, pE⟩, d, x⟩ := k
  exact ⟨vF, vE, L, M, e, ⟨t, pF, pE, by rw [pE]; exact good_any _ _ _ _ _ _⟩, K.mid (by omega) x d⟩
theorem doc_one (K : St2 H h c b m1 m2 bt tb tm tr v15 T s vA vB A Bn) (Mi : Mid H h g c b m1 m2 bt tb tm tr v15 T s (resA s T spec most A f).1 vA vB A Bn) (hf : f.ok H) (few : f.few) (hs : Rd H (.slice ss sn sc) 1 spec.length (ints spec)) (h40 : spec.length ≤ 40) (hl : A.length ≤ 60) (hc : 0 ≤ c ∧ c + 2 ≤ 1000000) :
    CallsH Tryz.prog 10 ⟨[ptE bt, .pointer (some ⟨tr, 0, none⟩), vB, .slice ss sn sc, In most, .agg ⟨f.cells⟩]⟩ g fun u h' => ∃ vF vE L M, u = .tuple ⟨[vF, vE]⟩ ∧ Out H g (resA s T spec most A f) vF vE L M h' ∧ St2 H h' (c + 2) b m1 m2 bt tb tm tr v15 T (resA s T spec most A f).1 vA vB A Bn ∧ Ext (DS H g) g h' := by
  have hops : (opsE Bn).length ≤ 100000 := by have := ops_len K.goodB; have := K.len; omega
  refine (do_docAny (most := most) Mi.dst K.kn.cst.sv Mi.ext hf few.oids hs h40 hc Mi.tab Mi.gB hops).mono fun u h' k => ?_
  rw [← ops_eq K.eq] at k
  obtain ⟨⟨vF, vE, L, M, e, t, pF, pE⟩, d, x⟩ := k
  exact ⟨vF, vE, L, M, e, ⟨t, pF, pE, by rw [pE]; exact good_any _ _ _ _ _ _⟩, K.two Mi.x Mi.cst x d, x⟩
theorem Out.fms {vF vE : Value} {L : List Fm} {M : List En} {R : RS × List FmP × List EnP} (o : Out H g R vF vE L M h1) : Fms h1 vF L := ⟨o.t.F.rd, Nat.le_trans o.t.lF (by decide), fun f hf => (o.t.okF f hf).now⟩
theorem Out.ens {vF vE : Value} {L : List Fm} {M : List En} {R : RS × List FmP × List EnP} (o : Out H g R vF vE L M h1) : Ens h1 vE M := ⟨o.t.E.rd, Nat.le_trans o.t.lE (by decide), fun f hf => (o.t.okE f hf).now⟩
theorem Out.ds {vF vE : Value} {L : List Fm} {M : List En} {R : RS × List FmP × List EnP} {h2 : Heap} (o : Out H g R vF vE L M h1) (y : Ext (DS H h1) h1 h2) : Out H g R vF vE L M h2 := ⟨o.t.ds y, o.pF, o.pE, o.good⟩
theorem Out.ext0 {vF vE : Value} {L : List Fm} {M : List En} {R : RS × List FmP × List EnP} {h2 : Heap} (o : Out H g R vF vE L M h1) (y : Ext No h1 h2) : Out H g R vF vE L M h2 := ⟨o.t.ext0 y, o.pF, o.pE, o.good⟩
theorem Mid.blk {q : Nat} {cs : Array Value} {TT : TypeId} {s' : RS} (K : St2 H h c b m1 m2 bt tb tm tr v15 T s vA vB A Bn) (Mi : Mid H h g c b m1 m2 bt tb tm tr v15 T s s' vA vB A Bn) (hb : h[q]? = some (.cells cs TT (0, 0))) (hT : TT ∉ regT) : g[q]? = some (.cells cs TT (0, 0)) := Mi.x.obj hb (K.kn.cst.off hb hT)
theorem c_len (d : Cst H h B c b m1 m2 s) : CallsH Tryz.prog 17 ⟨[ptE b]⟩ h fun u h' => u = In (s.2.length : Int) ∧ h' = h := by
  obtain ⟨⟨L, r, e⟩, hB⟩ := d
  rw [← e, List.length_map]
  exact rg_len r
theorem d_len (d : Dst H h B bt s) : ∃ A cp, h[bt]? = some (.cells ⟨[.slice A s.2.length cp, In s.1]⟩ 54 (0, 0)) := by
  obtain ⟨⟨v, D, r, e⟩, hB⟩ := d
  obtain ⟨A, cp, ev, _⟩ := r.own.slice
  refine ⟨A, cp, ?_⟩
  rw [← e, List.length_map, ← ev]
  exact r.blk
theorem ens_one {M : List En} (ok : ∀ e ∈ M, e.ok h) : ∀ v ∈ M.flatMap En.cells, v.oneCell' = true := fun v hv => by
  obtain ⟨e, he, hv⟩ := List.mem_flatMap.1 hv
  exact (ok e he).one v hv
end
end Go.Proofs.YtggmocdbfbhklaaGreat


