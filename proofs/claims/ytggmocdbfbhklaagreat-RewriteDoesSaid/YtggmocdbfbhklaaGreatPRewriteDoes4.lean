/-
  SEVERAL TEXTS IN ONE: RwJ3, RwJ4, Tb, RfT, Tb15, RwL, Frm, K17.
-/
import Derived.Test.YtggmocdbfbhklaaGreatPRewriteDoes3
import Derived.ChangeKeysEq
/-
  REWRITE (layer 24): the code's P of a name that isn't there.
-/
namespace Go.Proofs.YtggmocdbfbhklaaGreat
open Go Go.RK

section
variable {h0 h h1 h' : Heap} {B : Nat} {c : Int} {b m1 m2 : Nat} {s : RS} {f : Fm} {v : Value} {ss : Option Addr} {sn sc : Nat} {spec : List Int} {most jd : Int} {kn : Bool}
theorem gives_snoc {vF vE : Value} {L : List Fm} {M : List En} {e : En} (hF : Own h' vF 27 10 (L.length + 1) (L.flatMap Fm.cells ++ f.cells)) (hE : Own h' vE 44 8 (M.length + 1) (M.flatMap En.cells ++ e.cells)) (hl : L.length ≤ 2) (hm : M.length ≤ 2)
    (okF : ∀ x ∈ L, Lst h0 h' fun g => x.ok g) (okE : ∀ x ∈ M, Lst h0 h' fun g => x.ok g) (hf : Lst h0 h' fun g => f.ok g) (he : Lst h0 h' fun g => e.ok g) (fF : ∀ k, vF.ownBlock = some k → h.size ≤ k) (fE : ∀ k, vE.ownBlock = some k → h.size ≤ k) :
    Gives h0 h (L.map Fm.pl ++ [f.pl]) (M.map En.pl ++ [e.pl]) (.tuple ⟨[vF, vE]⟩) h' := by
  refine ⟨vF, vE, L ++ [f], M ++ [e], rfl, ⟨?_, ?_, by simp; omega, by simp; omega, fun x hx => ?_, fun x hx => ?_, fF, fE⟩, by simp, by simp⟩
  · rw [List.length_append, List.flatMap_append]; simpa using hF
  · rw [List.length_append, List.flatMap_append]; simpa using hE
  · rcases List.mem_append.1 hx with h1 | h1
    · exact okF x h1
    · obtain rfl := List.mem_singleton.1 h1; exact hf
  · rcases List.mem_append.1 hx with h1 | h1
    · exact okE x h1
    · obtain rfl := List.mem_singleton.1 h1; exact he
/-- An entry whose rows were made here. -/
def rE (k : Int) (a d : List UInt8) (vg : Value) (g : List TOp) (vb : Value) (bd : List TOp) (vc : Value) (o : List COp) : En := ⟨k, false, a, d, vg, g, vb, bd, vc, o, .slice none 0 0, []⟩
theorem rE_ok {k : Int} {a d : List UInt8} {vg vb vc : Value} {g bd : List TOp} {o : List COp} (k1 : Lst h0 h fun z => Tops z vg g) (k2 : Lst h0 h fun z => Tops z vb bd) (k3 : Lst h0 h fun z => Ops z vc o) : Lst h0 h fun z => (rE k a d vg g vb bd vc o).ok z :=
  fun S h' x s => ⟨k1 S h' x s, k2 S h' x s, k3 S h' x s, byt_nil _⟩
theorem Cst.keep {S : Nat → Prop} {s : RS} (d : Cst h0 h B c b m1 m2 s) (x : Ext S h h1) (hS : ∀ q, S q → ∃ cs T, h[q]? = some (.cells cs T (0, 0)) ∧ T ∉ (3 :: regT)) : Cst h0 h1 B c b m1 m2 s := d.ext x fun q e => by
  obtain ⟨cs, T, hb, hT⟩ := hS q e
  obtain ⟨⟨es, ck, e1⟩, es2, ck2, e2⟩ := d.maps
  exact ⟨fun z => (by rw [z, e1] at hb; cases hb), fun z => (by rw [z, e2] at hb; cases hb), fun ty => hT (ty_one hb ty)⟩
theorem okE_hi {M : List En} (f2 : ∀ e ∈ M, ∃ k a id b, e = hiM k a id b ∧ h[b]? = some (.cells ⟨[In a, In id]⟩ 129 (0, 0))) : ∀ x ∈ M, Lst h0 h fun g => x.ok g := fun x hx => by
  obtain ⟨k, a, i, q, rfl, hb⟩ := f2 x hx
  exact (lst_blk hb (by decide)).mono fun _ z => hiM_ok k z
set_option maxHeartbeats 4000000 in
set_option maxRecDepth 100000 in
theorem prep24 (k : JH h0 h B c b m1 m2 s f (.slice ss sn sc) spec) (hk : f.kind = 80) : CallsH Tryz.prog 57 ⟨[.agg ⟨jC f b (.slice ss sn sc) most jd kn⟩]⟩ h fun u h' =>
    Gives h0 h (preA s spec most f.pl).2.1 (preA s spec most f.pl).2.2 u h' ∧ Cst h0 h' B (c + 2) b m1 m2 (preA s spec most f.pl).1 ∧ Ext (CS h0 m1 m2 h) h h' := by
  have hf := k.f
  have x0 := k.x0
  have hcc := k.cc
  have hsl := k.sl
  have hsp := k.sp
  obtain ⟨_, _, hvs, _⟩ := hsp.now
  simp only [Value.slice.injEq] at hvs
  obtain ⟨rfl, rfl, rfl⟩ := hvs
  have hd := k.d
  have ka := fun h' nm => as24 (h := h') (b := b) (ss := ss) (sn := spec.length) (sc := sc) (most := most) (id := jd) (kn := kn) hf.now nm
  have ke := fun h' => entry24 (h := h') (b := b) (ss := ss) (sn := spec.length) (sc := sc) (most := most) (id := jd) (kn := kn) hf.now
  have kput := fun h' (x : Ext No h h') => c_put (hd.ext0 x) f.text f.oids (v := f.vo) (fun g y => ((hf.ext0 x) _ g y (hd.ext0 x).sf).oids.1) hf.now.oids.2 (by omega)
  have hfl := fun (g : Heap) (l : Lst h0 g fun z => f.ok z) n => l.mono fun _ z => Fm.ok.named z n
  have hpl : ∀ n, ({ f with name := n } : Fm).pl = asP f.pl n := fun _ => rfl
  have kl := fun (g : Heap) (e : En) (l : Lst h0 g fun z => f.ok z) (le : Lst h0 g fun z => e.ok z) (x : h.size ≤ g.size) => alone24 (h0 := h0) (f := { f with name := [] }) (e := e) (g := h) (hfl g l []) le x
  obtain ⟨s1, id1, hr⟩ : ∃ s1 id1, putS s f.text f.oids = (s1, id1) := ⟨_, _, rfl⟩
  have hpre : preA s spec most f.pl = (if id1 = 0 then (s1, [], []) else if id1 ∈ spec then (s1, [asP f.pl []], [(2, false, [], [], [(true, f.name, id1, ())], preBad f.name, [(3, id1, ())], [])]) else (refS s1 id1, roomF spec most ++ [asP f.pl (srvL id1)], roomE spec most ++ [(2, false, [], [], [(true, f.name, id1, ())], preBad f.name, [(1, id1, ())], [])])) := by
    show (let r := putS s f.text f.oids; if r.2 = 0 then (r.1, [], []) else if r.2 ∈ spec then (r.1, [asP f.pl []], [(2, false, [], [], preGood f.pl r.2, preBad f.name, [(3, r.2, ())], [])]) else (refS r.1 r.2, roomF spec most ++ [asP f.pl (srvL r.2)], roomE spec most ++ [(2, false, [], [], preGood f.pl r.2, preBad f.name, [(1, r.2, ())], [])])) = _
    rw [hr]
    rfl
  rw [hpre]
  rw [hr] at kput
  clear hpre hr
  have kc := fun h' (r : Rd h' (.slice ss spec.length sc) 1 spec.length (ints spec)) => contains_int (h := h') spec id1 r (by unfold maxLen; omega)
  have kroom := fun h' (r : Rd h' (.slice ss spec.length sc) 1 spec.length (ints spec)) => room_any (h := h') spec most r (by omega)
  have kref := fun h' (d : Cst h0 h' B (c + 1) b m1 m2 s1) => c_ref d id1 (by omega)
  obtain ⟨⟨e1, _⟩, ⟨e2, _⟩, ⟨e3, _⟩, e4, _⟩ := hf.now
  generalize hP : f.pl = P at *
  have hn0 : f.name = [] ∨ ¬ f.name = [] := Classical.em _
  obtain ⟨fk, w, n, p, t, vo, o, vf, fs, vs, rs, vp, ps, mx⟩ := f
  dsimp only at e1 e2 e3 e4 hk hn0
  subst hk
  obtain ⟨_, _, rfl, _⟩ := e1
  obtain ⟨_, _, rfl, _⟩ := e2
  obtain ⟨_, _, rfl, _⟩ := e3
  obtain ⟨_, _, rfl, _⟩ := e4
  dsimp only [jC, Fm.cells, List.cons_append, List.nil_append, ptE, zE, En.cells, entK] at ka ke kput kl kref hpl ⊢
  by_cases hid : id1 = 0
  · rw [if_pos hid]
    refine calls [(0, _)] Tryz.func57 rfl Tryz.ntmps57 rfl ⟨rfl, trivial⟩ ?_
    all_goals (refine WC.sr ?_; refine WL.stepR (okE_box rfl) rfl rfl rfl ?_; rintro _ h1 ⟨b1, rfl, hg1, hb1, hx1⟩; refine Go ?_; refine WC.sr ?_; refine Go ?_; refine Ld ?_; refine Go ?_; refine Ld ?_; refine Go ?_; refine Ld ?_; refine WL.step (ok_buildF (vs := [_, _]) (cs := [_, _]) (fun | [a0, a1] => [a0, a1] | _ => []) rfl rfl (by kernel_rfl)) rfl rfl rfl ?_; refine WL.call (vs := [_, _]) rfl (fun a w => Tryz.call21 a w) rfl (kput _ hx1) rfl rfl rfl ?_; rintro _ h2 ⟨rfl, d2, x2⟩; refine Go ?_; refine Gs [(1, _), (4, _)] ?_; refine WC.seq ?_; refine WC.sr ?_; refine Go ?_; refine goC 1 2 ?_ TT.mk; refine goB 1 ?_; refine WC.sr ?_; refine Go ?_; refine Gs [(2, _), (3, _)] ?_; refine Gt ?_; exact ⟨.nil, d2.up (by omega) (by omega), (fs_no hx1).trans' x2 (fun q hq e => fs_no_back hx1 hq e)⟩)
  · rw [if_neg hid]
    rcases hn0 with rfl | hn0
    all_goals by_cases hin : id1 ∈ spec
    all_goals first | rw [if_pos hin] | rw [if_neg hin]
    all_goals
      refine calls [(0, _)] Tryz.func57 rfl Tryz.ntmps57 rfl ⟨rfl, trivial⟩ ?_
      all_goals (refine WC.sr ?_; refine WL.stepR (okE_box rfl) rfl rfl rfl ?_; rintro _ h1 ⟨b1, rfl, hg1, hb1, hx1⟩; refine Go ?_; refine WC.sr ?_; refine Go ?_; refine Ld ?_; refine Go ?_; refine Ld ?_; refine Go ?_; refine Ld ?_; refine WL.step (ok_buildF (vs := [_, _]) (cs := [_, _]) (fun | [a0, a1] => [a0, a1] | _ => []) rfl rfl (by kernel_rfl)) rfl rfl rfl ?_; refine WL.call (vs := [_, _]) rfl (fun a w => Tryz.call21 a w) rfl (kput _ hx1) rfl rfl rfl ?_; rintro _ h2 ⟨rfl, d2, x2⟩; have hb12 := x2.obj hb1 ((hd.ext0 hx1).off hb1 (by decide)); have hf2 := (hf.ext0 hx1).step x2 (hd.ext0 hx1).sf; have X2 : Ext (CS h0 m1 m2 h) h h2 := (fs_no hx1).trans' x2 (fun q hq e => fs_no_back hx1 hq e); have x02 := fs_old x0 X2; have hs2 := X2.size; have l1 := lt_of_some hb12; refine Go ?_; refine Gs [(1, _), (4, _)] ?_; refine WC.seq ?_; refine WC.sr ?_; refine Go ?_; refine goC 1 2 ?_ TT.mk; refine goB 2 ?_; refine WC.skip ?_; refine Gn ?_; refine WC.sr ?_; refine WL.step (ok_loadN (fun w => Tryz.isAgg74 w) (fun w => Tryz.sizeOf74 w) rfl rfl (by exact At.of_block hb12)) rfl rfl rfl ?_; refine WL.call (vs := [_]) rfl (fun a w => Tryz.call61 a w) rfl (ke _) rfl rfl rfl ?_; rintro _ h3 ⟨rfl, hx3⟩; refine WL.stepR (okE_alloc (fun w => Tryz.zeroValue44 w)) rfl rfl rfl ?_; rintro _ h4 ⟨b5, rfl, hg5, hb5, hx4⟩; refine WL.stepR0 (okE_storeW (fun w => Tryz.sizeOf44 w) rfl rfl rfl hb5 rfl (by simp [Value.oneCell'])) rfl rfl ?_; rintro _ h5 ⟨hb55, hx5⟩; have hs3 := hx3.size; have hs4 := hx4.size; have hb15 := hx5.obj ((hx3.trans hx4).obj hb12 nos) (fun e => by omega); have l5 := lt_of_some hb55; have X5 : Ext No h2 h5 := (hx3.trans hx4).trans' hx5 (fun q hq e => by omega); refine Gn ?_; refine Gs [(1, _), (4, _), (5, _)] ?_; refine WC.sr ?_; refine Go ?_; refine WL.ld rfl (by first | exact cell_blk hb15 rfl | assumption | exact cell_blk (by assumption) rfl) rfl rfl rfl ?_; refine Go ?_; refine WL.step (ok_buildF (vs := [_, _, _]) (cs := [_, _, _]) (fun | [a0, a1, a2] => [a0, a1, a2] | _ => []) rfl rfl (by kernel_rfl)) rfl rfl rfl ?_; refine WL.stepR (okE_buildSlice (vs := [_]) (cs := [_, _, _]) (fun | [.agg ⟨[a0, a1, a2]⟩] => [a0, a1, a2] | _ => []) Tryz.underlying40 rfl rfl (by kernel_rfl)) rfl rfl rfl ?_; rintro _ h6 ⟨b6, rfl, hg6, hb6, hx6⟩; refine Go ?_; refine WL.stepR0 (okE_store (fun w => Tryz.sizeOf40 w) rfl rfl (hx6.obj hb55 nos) (Nat.le_of_ble_eq_true rfl) rfl rfl) rfl rfl ?_; rintro _ h7 ⟨hb7, hx7⟩; have hb17 := hx7.obj (hx6.obj hb15 nos) (fun e => by omega); have hb67 := hx7.obj hb6 (fun e => by omega); have X7 : Ext No h2 h7 := (X5.trans hx6).trans' hx7 (fun q hq e => by omega); refine Gn ?_; refine Gs [(1, _), (4, _), (5, _)] ?_; refine WC.seq ?_; refine WC.sr ?_; refine Go ?_; refine WL.ld rfl (by first | exact cell_blk hb17 rfl | assumption | exact cell_blk (by assumption) rfl) rfl rfl rfl ?_; refine Go ?_; refine goC 3 4 ?_ TT.mk)
      all_goals (first | (fail_if_success refine goB 3 ?_) | (
      refine goB 3 ?_
      all_goals (refine WC.region ?_; refine WL.step (ok_buildF (vs := [_]) (cs := [_, _, _]) (fun | [a1] => [(.bool false), a1, (.int .i64 0)] | _ => []) rfl rfl (by kernel_rfl)) rfl rfl rfl ?_; refine WL.stepR (okE_buildSlice (vs := [_]) (cs := [_, _, _]) (fun | [.agg ⟨[a0, a1, a2]⟩] => [a0, a1, a2] | _ => []) Tryz.underlying40 rfl rfl (by kernel_rfl)) rfl rfl rfl ?_; rintro _ h8 ⟨b8, rfl, hg8, hb8, hx8⟩; refine Go ?_; refine WL.stepR0 (okE_store (fun w => Tryz.sizeOf40 w) rfl rfl (hx8.obj hb7 nos) (Nat.le_of_ble_eq_true rfl) rfl rfl) rfl rfl ?_; rintro _ h9 ⟨hb9, hx9⟩; refine Gn ?_)
      skip))
      all_goals (first | (fail_if_success refine goB 4 ?_) | (
      refine goB 4 ?_
      all_goals (refine WC.skip ?_)
      skip))
      all_goals (refine Gn ?_; refine Gs [(1, _), (4, _), (5, _)] ?_; refine WC.seq ?_; refine WC.sr ?_; refine Go ?_)
      all_goals (first
                  | ((fail_if_success (have := hx9)); have HJ := hb17; have HG := hb67; have HE := hb7; have HX := X7; have HB : Lst h0 h7 fun z => Tops z (.slice none 0 0) (preBad n) := (by rw [preBad, if_neg hn0]; exact lst_all tops_nil))
                  | (have HJ := hx9.obj (hx8.obj hb17 nos) (fun e => by omega)
                     have HG := hx9.obj (hx8.obj hb67 nos) (fun e => by omega)
                     have HE := hb9
                     have HX : Ext No h2 h9 := (X7.trans hx8).trans' hx9 (fun q hq e => by omega)
                     have hb89 := hx9.obj hb8 (fun e => by have := hx6.size; have := hx7.size; omega)
                     have HB := (lst_blk (h0 := h0) hb89 (by decide)).mono fun _ z => tops_one z)
                 have HT := (lst_blk (h0 := h0) HG (by decide)).mono fun _ z => tops_one z
                 have hsX := HX.size
                 have lE := lt_of_some HE)
      all_goals (refine WL.ld rfl (by first | exact cell_blk HJ rfl | assumption | exact cell_blk (by assumption) rfl) rfl rfl rfl ?_; refine Go ?_; refine WL.call (vs := [_, _]) rfl (fun a w => Tryz.call85 a w) rfl (kc _ (hsp _ _ (fs_trans X2 (fs_no HX)) hd.sf)) rfl rfl rfl ?_; rintro _ hz ⟨rfl, _⟩; subst hz; first | rw [decide_eq_true hin] | rw [decide_eq_false hin])
      all_goals (refine Gn ?_; refine goC 5 6 ?_ TT.mk)
      all_goals (first | (fail_if_success refine goB 5 ?_) | (
      refine goB 5 ?_
      all_goals (refine WC.sr ?_; refine Go ?_; refine WL.call (vs := [_]) rfl (fun a w => Tryz.call86 a w) rfl (touch24 id1) rfl rfl rfl ?_; rintro _ h10 ⟨b10, rfl, hb10, hg10, hx10⟩; refine Go ?_; refine WL.stepR0 (okE_store (fun w => Tryz.sizeOf41 w) rfl rfl (hx10.obj HE nos) (Nat.le_of_ble_eq_true rfl) rfl rfl) rfl rfl ?_; rintro _ h11 ⟨HE11, hx11⟩; have HJ11 := hx11.obj (hx10.obj HJ nos) (fun e => by omega); have X11 : Ext No h2 h11 := (HX.trans hx10).trans' hx11 (fun q hq e => by omega); have hb1011 := hx11.obj hb10 (fun e => by omega); have HT11 := (HT.ext0 hx10).step hx11 (fun q e => ⟨by have := x02.size; omega, fun ty => absurd (ty_one (hx10.obj HE nos) (e ▸ ty)) (by decide)⟩); have HB11 := (HB.ext0 hx10).step hx11 (fun q e => ⟨by have := x02.size; omega, fun ty => absurd (ty_one (hx10.obj HE nos) (e ▸ ty)) (by decide)⟩); refine Gn ?_; refine Gs [(1, _), (5, _)] ?_; refine WC.seq ?_; refine WC.drawH (fun h' => Ext No h11 h') 6 8 rfl fol ?_; refine WH.tk 0 rfl (fun hq hC => ok_loadN (fun w => Tryz.isAgg74 w) (fun w => Tryz.sizeOf74 w) rfl rfl (by exact (At.of_block HJ11).ext hC nos)) rfl rfl rfl ?_; refine WH.tk 2 rfl (fun hq hC => ok_loadN (fun w => Tryz.isAgg44 w) (fun w => Tryz.sizeOf44 w) rfl rfl (by exact (At.of_block HE11).ext hC nos)) rfl rfl rfl ?_; refine WH.one 1 (by kernel_rfl) ?_; refine Comes1.call (vs := [_, _]) rfl rfl (fun a w => Tryz.call84 a w) rfl (ka _ []) rfl rfl rfl ?_ (fun _ => by kernel_rfl); rintro _ h12 ⟨rfl, hx12⟩; refine ⟨fun _ => hx12, ?_⟩; refine WH.one 3 (by kernel_rfl) ?_; refine Comes1.call (vs := [_, _]) rfl rfl (fun a w => Tryz.call62 a w) rfl (kl _ (rE 2 [] [] _ _ _ _ _ _) ((hf2.ext0 X11).ext0 hx12) (rE_ok (HT11.ext0 hx12) (HB11.ext0 hx12) ((lst_blk (hx12.obj hb1011 nos) (by decide)).mono fun _ z => one_op z)) (by have := X11.size; have := hx12.size; omega)) rfl rfl rfl ?_ (fun _ => by kernel_rfl); rintro _ h13 ⟨hgv, hx13⟩; obtain ⟨vF, vE, L, M, rfl, _⟩ := id hgv; refine ⟨fun _ => hx12.trans hx13, ?_⟩; have hY13 : Ext No h11 h13 := hx12.trans hx13; have X13 := X11.trans hY13; refine WH.tk 4 rfl (fun hq hC => ok_extract rfl rfl) rfl rfl rfl ?_; refine WH.tk 5 rfl (fun hq hC => ok_extract rfl rfl) rfl rfl rfl ?_; refine WH.one 6 (by kernel_rfl) ?_; refine Comes1.run rfl (OkP.r (ok_assign rfl)) rfl rfl rfl ?_ (fun _ => by kernel_rfl); rintro _ hz ⟨rfl, _⟩; subst hz; refine ⟨fun e => (by cases e), ?_⟩; refine WH.one 7 (by kernel_rfl) ?_; refine Comes1.run rfl (OkP.r (ok_assign rfl)) rfl rfl rfl ?_ (fun _ => by kernel_rfl); rintro _ hz ⟨rfl, _⟩; subst hz; refine ⟨fun e => (by cases e), ?_⟩; refine WH.done (by kernel_rfl) ?_; refine Gn ?_; refine Gs [(2, _), (3, _)] ?_; refine Gt ?_)
      all_goals (try rw [show preBad [] = [(false, [], 0, ())] from if_pos rfl]
                 first
                  | (fail_if_success (have := hgE)
                     rw [hpl []] at hgv
                     exact ⟨hgv, (d2.ext0 X13).up (by omega) (by omega), X2.trans' X13 (fun q hq e => e.elim)⟩)
                  | (have hXX := ((XX12.trans' hx13 (fun _ _ e => e.elim)).trans' hx14 (fun q hq e => absurd (Nat.lt_of_lt_of_le hq (Nat.le_trans hs2 (Nat.le_trans hs3 hg5))) (by rw [show q = b5 from e]; exact Nat.lt_irrefl _))).trans' hx15 (fun _ _ e => e.elim)
                     have hd3 := ((d3.ext0 hx13).keep hx14 (fun q e => ⟨_, _, e ▸ hx13.obj HE12 nos, by decide⟩)).ext0 hx15
                     have hdf := hd3.keep hE (fun q e => e.elim (fun z => (own_ty kF z).elim fun _ y => ⟨_, _, y, by decide⟩) (fun z => (own_ty kE z).elim fun _ y => ⟨_, _, y, by decide⟩))
                     have hg := gives_snoc (h := h14) hoF6 hoE10 (by omega) (by omega) (fun x hx => lst_all (f1 x hx)) (okE_hi f2) (hfl _ hF (srvL id1)) (rE_ok hT hB hC') hgF hgE
                     rw [p1, p2, hpl] at hg
                     have hh14 : h.size ≤ h14.size := Nat.le_trans hs2 (Nat.le_trans HX.size (Nat.le_trans hs12 (Nat.le_trans hx13.size hx14.size)))
                     exact ⟨hg.from hh14, hdf.up (by omega) (by omega), hXX.trans' hE (fun q hq e => absurd (Nat.lt_of_lt_of_le hq hh14) (Nat.not_lt.2 (e.elim (fF q) (fE q))))⟩))
      skip))
      all_goals (refine goB 6 ?_; refine WC.skip ?_; refine Gn ?_; refine Gs [(1, _), (4, _), (5, _)] ?_; refine WC.sr ?_; refine Go ?_; refine WL.ld rfl (by first | exact cell_blk HJ rfl | assumption | exact cell_blk (by assumption) rfl) rfl rfl rfl ?_; refine Go ?_; refine WL.call (vs := [_, _]) rfl (fun a w => Tryz.call87 a w) rfl (kref _ (d2.ext0 HX)) rfl rfl rfl ?_; rintro _ h12 ⟨⟨xr, rfl⟩, d3, x12⟩; have dX := d2.ext0 HX; have HJ12 := x12.obj HJ (dX.off HJ (by decide)); have HE12 := x12.obj HE (dX.off HE (by decide)); have HT12 := HT.step x12 dX.sf; have HB12 := HB.step x12 dX.sf; have hf12 := (hf2.ext0 HX).step x12 dX.sf; have X12 : Ext (CS h0 m1 m2 h2) h2 h12 := (fs_no HX).trans' x12 (fun q hq e => fs_no_back HX hq e); have XX12 := fs_trans X2 X12; have x012 := fs_old x0 XX12; have hs12 := x12.size; refine Gn ?_; refine Gs [(1, _), (4, _), (5, _)] ?_; refine WC.sr ?_; refine Go ?_; refine WL.call (vs := [_]) rfl (fun a w => Tryz.call88 a w) rfl (add24 id1) rfl rfl rfl ?_; rintro _ h13 ⟨b13, rfl, hb13, hg13, hx13⟩; refine Go ?_; refine WL.stepR0 (okE_store (fun w => Tryz.sizeOf41 w) rfl rfl (hx13.obj HE12 nos) (Nat.le_of_ble_eq_true rfl) rfl rfl) rfl rfl ?_; rintro _ h14 ⟨HE14, hx14⟩; have lE12 := lt_of_some HE12; have l12 := lt_of_some HJ12; have HJ14 := hx14.obj (hx13.obj HJ12 nos) (fun e => by omega); have hb1314 := hx14.obj hb13 (fun e => by omega); (have hnd : Sf h0 h13 (fun q => q = b5) := fun q e => ⟨by have := x02.size; omega, fun ty => absurd (ty_one (hx13.obj HE12 nos) (e ▸ ty)) (by decide)⟩); have HT14 := (HT12.ext0 hx13).step hx14 hnd; have HB14 := (HB12.ext0 hx13).step hx14 hnd; (have HC14 : Lst h0 h14 fun z => Ops z (.slice (some ⟨b13, 0, none⟩) 1 1) [(1, id1, ())] := (lst_blk hb1314 (by decide)).mono fun _ z => one_op z); have hf14 := (hf12.ext0 hx13).step hx14 hnd; have x014 : Ext No h0 h14 := (x012.trans hx13).trans' hx14 (fun q hq e => by have := x02.size; omega); refine Gn ?_; refine WC.sr ?_; refine Go ?_; refine WL.ld rfl (by first | exact cell_blk HJ14 rfl | assumption | exact cell_blk (by assumption) rfl) rfl rfl rfl ?_; refine Go ?_; refine WL.ld rfl (by first | exact cell_blk HJ14 rfl | assumption | exact cell_blk (by assumption) rfl) rfl rfl rfl ?_; refine WL.call (vs := [_, _]) rfl (fun a w => Tryz.call89 a w) rfl (kroom _ (((hsp.step XX12 hd.sf).ext0 hx13).step hx14 hnd).now) rfl rfl rfl ?_; rintro _ h15 ⟨vF, vE, L, M, rfl, hoF, hoE, hL1, hM1, f1, f2, p1, p2, hx15, fF, fE⟩; have HJ15 := hx15.obj HJ14 nos; have HE15 := hx15.obj HE14 nos; have hT := HT14.ext0 hx15; have hB := HB14.ext0 hx15; have hC' := HC14.ext0 hx15; have hF := hf14.ext0 hx15; have l14 := lt_of_some HJ14; have lE14 := lt_of_some HE14; (have nF : ¬ vF.ownBlock = some b1 := fun e => by have := fF b1 e; omega); (have nE : ¬ vE.ownBlock = some b1 := fun e => by have := fE b1 e; omega); (have n4 : ¬ vF.ownBlock = some b5 := fun e => by have := fF b5 e; omega); (have n4E : ¬ vE.ownBlock = some b5 := fun e => by have := fE b5 e; omega); have hE : Ext (fun q => vF.ownBlock = some q ∨ vE.ownBlock = some q) h15 h15 := .refl _ _; clear kput kl kref kc kroom ke; have kF := hoF; have kE := hoE; (have hsf : ∀ {g : Heap} {S : Nat → Prop}, (∀ q, S q → vF.ownBlock = some q ∨ vE.ownBlock = some q) → Own g vF 27 10 L.length (L.flatMap Fm.cells) → Own g vE 44 8 M.length (M.flatMap En.cells) → Sf h0 g S := fun hS oF oE q e => ⟨by have := x014.size; rcases hS q e with z | z; exact Nat.le_trans this (fF q z); exact Nat.le_trans this (fE q z), fun ty => by rcases hS q e with z | z; (obtain ⟨_, y⟩ := own_ty oF z; exact absurd (ty_one y ty) (by decide)); (obtain ⟨_, y⟩ := own_ty oE z; exact absurd (ty_one y ty) (by decide))⟩))
      all_goals (refine Go ?_; refine Gs [(1, _), (4, _), (5, _), (6, _), (7, _)] ?_; refine WC.seq ?_; refine WC.drawH (fun h' => Ext (fun q => vF.ownBlock = some q ∨ vE.ownBlock = some q) h15 h') 13 13 rfl fol ?_; refine WH.tk 0 rfl (fun hq hC => ok_move rfl) rfl rfl rfl ?_; refine WH.tk 1 rfl (fun hq hC => ok_loadN (fun w => Tryz.isAgg74 w) (fun w => Tryz.sizeOf74 w) rfl rfl (by exact ((At.of_block HJ15).ext hC (fun e => e.elim nF nE)))) rfl rfl rfl ?_; refine WH.tk 2 rfl (fun hq hC => ok_move rfl) rfl rfl rfl ?_; refine WH.tk 7 rfl (fun hq hC => ok_move rfl) rfl rfl rfl ?_; refine WH.tk 8 rfl (fun hq hC => ok_loadN (fun w => Tryz.isAgg44 w) (fun w => Tryz.sizeOf44 w) rfl rfl (by exact ((At.of_block HE15).ext hC (fun e => e.elim n4 n4E)))) rfl rfl rfl ?_; refine WH.two 3 9 (by kernel_rfl) (Br.out (i := 5012) ?_) (Br.out (i := 5013) ?_))
      all_goals (first | (fail_if_success refine goB 5012 ?_) | (
      refine goB 5012 ?_
      all_goals (refine Comes1.call (vs := [_]) rfl rfl (fun a w => Tryz.call90 a w) rfl (srv_any id1) rfl rfl rfl ?_ (fun _ => by kernel_rfl); rintro _ g1 ⟨rfl, y1⟩; refine ⟨fun _ => hE.trans (y1.mono fun _ _ e => e.elim), ?_⟩; replace hE := hE.trans (y1.mono (S' := fun q => vF.ownBlock = some q ∨ vE.ownBlock = some q) fun _ _ e => e.elim); replace hoF := hoF.ext y1 (fun _ _ => nos); replace hoE := hoE.ext y1 (fun _ _ => nos); replace f2 := f2_ext f2 y1 (fun _ _ _ => nos); replace hT := hT.ext0 y1; replace hB := hB.ext0 y1; replace hC' := hC'.ext0 y1; replace hF := hF.ext0 y1; try replace hb9e := y1.obj hb9e nos)
      all_goals (refine WH.two 4 9 (by kernel_rfl) (Br.out (i := 5012) ?_) (Br.out (i := 5013) ?_))
      all_goals (first | (fail_if_success refine goB 5012 ?_) | (
      refine goB 5012 ?_
      all_goals (refine Comes1.call (vs := [_, _]) rfl rfl (fun a w => Tryz.call84 a w) rfl (ka _ (srvL id1)) rfl rfl rfl ?_ (fun _ => by kernel_rfl); rintro _ g2 ⟨rfl, y2⟩; refine ⟨fun _ => hE.trans (y2.mono fun _ _ e => e.elim), ?_⟩; replace hE := hE.trans (y2.mono (S' := fun q => vF.ownBlock = some q ∨ vE.ownBlock = some q) fun _ _ e => e.elim); replace hoF := hoF.ext y2 (fun _ _ => nos); replace hoE := hoE.ext y2 (fun _ _ => nos); replace f2 := f2_ext f2 y2 (fun _ _ _ => nos); replace hT := hT.ext0 y2; replace hB := hB.ext0 y2; replace hC' := hC'.ext0 y2; replace hF := hF.ext0 y2; try replace hb9e := y2.obj hb9e nos)
      all_goals (refine WH.two 5 9 (by kernel_rfl) (Br.out (i := 5012) ?_) (Br.out (i := 5013) ?_))
      all_goals (first | (fail_if_success refine goB 5012 ?_) | (
      refine goB 5012 ?_
      all_goals (refine Comes1.run rfl (okE_buildSlice (vs := [_]) (cs := [_, _, _, _, _, _, _, _, _, _]) (fun | [.agg ⟨[a0, a1, a2, a3, a4, a5, a6, a7, a8, a9]⟩] => [a0, a1, a2, a3, a4, a5, a6, a7, a8, a9] | _ => []) Tryz.underlying36 rfl rfl (by kernel_rfl)) rfl rfl rfl ?_ (fun _ => by kernel_rfl); rintro _ g3 ⟨q3, rfl, hgq3, hb3e, y3⟩; refine ⟨fun _ => hE.trans (y3.mono fun _ _ e => e.elim), ?_⟩; replace hE := hE.trans (y3.mono (S' := fun q => vF.ownBlock = some q ∨ vE.ownBlock = some q) fun _ _ e => e.elim); replace hoF := hoF.ext y3 (fun _ _ => nos); replace hoE := hoE.ext y3 (fun _ _ => nos); replace f2 := f2_ext f2 y3 (fun _ _ _ => nos); replace hT := hT.ext0 y3; replace hB := hB.ext0 y3; replace hC' := hC'.ext0 y3; replace hF := hF.ext0 y3; try replace hb9e := y3.obj hb9e nos)
      all_goals (refine WH.two 6 9 (by kernel_rfl) (Br.out (i := 5012) ?_) (Br.out (i := 5013) ?_))
      all_goals (first | (fail_if_success refine goB 5012 ?_) | (
      refine goB 5012 ?_
      all_goals (refine Comes1.run rfl (ok_append (sz := 10) (bytes := 160) rfl Tryz.underlying36 (show Tryz.prog.info? 27 = some Tryz.t27 by kernel_rfl) rfl rfl rfl rfl (by decide) rfl rfl hoF (rd_blk hb3e rfl) (by simp [Value.oneCell']) (by simp only [maxLen]; omega) (by omega)) rfl rfl rfl ?_ (fun _ => by kernel_rfl); rintro v6 g4 ⟨hoF6, y4, hl6⟩; refine ⟨fun _ => hE.trans (y4.mono fun _ _ e => .inl e), ?_⟩; have hsz6 := y4.size; have hs4f := hsf (S := fun q => vF.ownBlock = some q) (fun q e => .inl e) hoF hoE; have hgF := fresh_of hl6 fF (Nat.le_trans hx15.size hE.size); replace hE := hE.trans (y4.mono (S' := fun q => vF.ownBlock = some q ∨ vE.ownBlock = some q) fun _ _ e => .inl e); replace hoE := hoE.ext y4 (fun q hq e => own_apart hoF hoE (by decide) q hq e); replace f2 := f2_ext f2 y4 (fun b cs hb q => own_ne hoF hb (by decide) q); replace hT := hT.step y4 hs4f; replace hB := hB.step y4 hs4f; replace hC' := hC'.step y4 hs4f; replace hF := hF.step y4 hs4f; try replace hb9e := y4.obj hb9e (fun q => own_ne hoF hb9e (by decide) q))
      all_goals (refine WH.one 9 (by kernel_rfl) ?_; refine Comes1.run rfl (okE_buildSlice (vs := [_]) (cs := [_, _, _, _, _, _, _, _]) (fun | [.agg ⟨[a0, a1, a2, a3, a4, a5, a6, a7]⟩] => [a0, a1, a2, a3, a4, a5, a6, a7] | _ => []) Tryz.underlying37 rfl rfl (by kernel_rfl)) rfl rfl rfl ?_ (fun _ => by kernel_rfl); rintro _ g5 ⟨q9, rfl, hgq9, hb9e, y5⟩; refine ⟨fun _ => hE.trans (y5.mono fun _ _ e => e.elim), ?_⟩)
      all_goals (replace hE := hE.trans (y5.mono (S' := fun q => vF.ownBlock = some q ∨ vE.ownBlock = some q) fun _ _ e => e.elim)
                 try replace hoF := hoF.ext y5 (fun _ _ => nos)
                 try replace hoF6 := hoF6.ext y5 (fun _ _ => nos)
                 try replace hb3e := y5.obj hb3e nos
                 replace hoE := hoE.ext y5 (fun _ _ => nos)
                 replace f2 := f2_ext f2 y5 (fun _ _ _ => nos)
                 replace hT := hT.ext0 y5
                 replace hB := hB.ext0 y5
                 replace hC' := hC'.ext0 y5
                 replace hF := hF.ext0 y5)
      all_goals (refine WH.one 10 (by kernel_rfl) ?_; refine Comes1.run rfl (ok_append (sz := 8) (bytes := 144) rfl Tryz.underlying37 (show Tryz.prog.info? 44 = some Tryz.t44 by kernel_rfl) rfl rfl rfl rfl (by decide) rfl rfl hoE (rd_blk hb9e rfl) (by simp [Value.oneCell']) (by simp only [maxLen]; omega) (by omega)) rfl rfl rfl ?_ (fun _ => by kernel_rfl); rintro v10 g6 ⟨hoE10, y6, hl10⟩; refine ⟨fun _ => hE.trans (y6.mono fun _ _ e => .inr e), ?_⟩; have hgE := fresh_of hl10 fE (Nat.le_trans hx15.size hE.size); (have hs6f : Sf h0 _ (fun q => vE.ownBlock = some q) := fun q e => ⟨Nat.le_trans x014.size (fE q e), fun ty => by obtain ⟨_, y⟩ := own_ty hoE e; exact absurd (ty_one y ty) (by decide)⟩); replace hE := hE.trans (y6.mono (S' := fun q => vF.ownBlock = some q ∨ vE.ownBlock = some q) fun _ _ e => .inr e); replace hoF6 := hoF6.ext y6 (fun q hq e => own_apart hoE hoF6 (by decide) q hq e); replace f2 := f2_ext f2 y6 (fun b cs hb q => own_ne hoE hb (by decide) q); replace hT := hT.step y6 hs6f; replace hB := hB.step y6 hs6f; replace hC' := hC'.step y6 hs6f; replace hF := hF.step y6 hs6f; refine WH.tk 11 rfl (fun hq hC => ok_assign rfl) rfl rfl rfl ?_; refine WH.tk 12 rfl (fun hq hC => ok_assign rfl) rfl rfl rfl ?_; refine WH.done (by kernel_rfl) ?_)
      skip))
      all_goals (first | (fail_if_success refine goB 5013 ?_) | (
      refine goB 5013 ?_
      all_goals (refine Comes1.run rfl (okE_buildSlice (vs := [_]) (cs := [_, _, _, _, _, _, _, _]) (fun | [.agg ⟨[a0, a1, a2, a3, a4, a5, a6, a7]⟩] => [a0, a1, a2, a3, a4, a5, a6, a7] | _ => []) Tryz.underlying37 rfl rfl (by kernel_rfl)) rfl rfl rfl ?_ (fun _ => by kernel_rfl); rintro _ g5 ⟨q9, rfl, hgq9, hb9e, y5⟩; refine ⟨fun _ => hE.trans (y5.mono fun _ _ e => e.elim), ?_⟩)
      all_goals (replace hE := hE.trans (y5.mono (S' := fun q => vF.ownBlock = some q ∨ vE.ownBlock = some q) fun _ _ e => e.elim)
                 try replace hoF := hoF.ext y5 (fun _ _ => nos)
                 try replace hoF6 := hoF6.ext y5 (fun _ _ => nos)
                 try replace hb3e := y5.obj hb3e nos
                 replace hoE := hoE.ext y5 (fun _ _ => nos)
                 replace f2 := f2_ext f2 y5 (fun _ _ _ => nos)
                 replace hT := hT.ext0 y5
                 replace hB := hB.ext0 y5
                 replace hC' := hC'.ext0 y5
                 replace hF := hF.ext0 y5)
      all_goals (refine WH.one 6 (by kernel_rfl) ?_; refine Comes1.run rfl (ok_append (sz := 10) (bytes := 160) rfl Tryz.underlying36 (show Tryz.prog.info? 27 = some Tryz.t27 by kernel_rfl) rfl rfl rfl rfl (by decide) rfl rfl hoF (rd_blk hb3e rfl) (by simp [Value.oneCell']) (by simp only [maxLen]; omega) (by omega)) rfl rfl rfl ?_ (fun _ => by kernel_rfl); rintro v6 g4 ⟨hoF6, y4, hl6⟩; refine ⟨fun _ => hE.trans (y4.mono fun _ _ e => .inl e), ?_⟩; have hsz6 := y4.size; have hs4f := hsf (S := fun q => vF.ownBlock = some q) (fun q e => .inl e) hoF hoE; have hgF := fresh_of hl6 fF (Nat.le_trans hx15.size hE.size); replace hE := hE.trans (y4.mono (S' := fun q => vF.ownBlock = some q ∨ vE.ownBlock = some q) fun _ _ e => .inl e); replace hoE := hoE.ext y4 (fun q hq e => own_apart hoF hoE (by decide) q hq e); replace f2 := f2_ext f2 y4 (fun b cs hb q => own_ne hoF hb (by decide) q); replace hT := hT.step y4 hs4f; replace hB := hB.step y4 hs4f; replace hC' := hC'.step y4 hs4f; replace hF := hF.step y4 hs4f; try replace hb9e := y4.obj hb9e (fun q => own_ne hoF hb9e (by decide) q))
      all_goals (refine WH.one 10 (by kernel_rfl) ?_; refine Comes1.run rfl (ok_append (sz := 8) (bytes := 144) rfl Tryz.underlying37 (show Tryz.prog.info? 44 = some Tryz.t44 by kernel_rfl) rfl rfl rfl rfl (by decide) rfl rfl hoE (rd_blk hb9e rfl) (by simp [Value.oneCell']) (by simp only [maxLen]; omega) (by omega)) rfl rfl rfl ?_ (fun _ => by kernel_rfl); rintro v10 g6 ⟨hoE10, y6, hl10⟩; refine ⟨fun _ => hE.trans (y6.mono fun _ _ e => .inr e), ?_⟩; have hgE := fresh_of hl10 fE (Nat.le_trans hx15.size hE.size); (have hs6f : Sf h0 _ (fun q => vE.ownBlock = some q) := fun q e => ⟨Nat.le_trans x014.size (fE q e), fun ty => by obtain ⟨_, y⟩ := own_ty hoE e; exact absurd (ty_one y ty) (by decide)⟩); replace hE := hE.trans (y6.mono (S' := fun q => vF.ownBlock = some q ∨ vE.ownBlock = some q) fun _ _ e => .inr e); replace hoF6 := hoF6.ext y6 (fun q hq e => own_apart hoE hoF6 (by decide) q hq e); replace f2 := f2_ext f2 y6 (fun b cs hb q => own_ne hoE hb (by decide) q); replace hT := hT.step y6 hs6f; replace hB := hB.step y6 hs6f; replace hC' := hC'.step y6 hs6f; replace hF := hF.step y6 hs6f; refine WH.tk 11 rfl (fun hq hC => ok_assign rfl) rfl rfl rfl ?_; refine WH.tk 12 rfl (fun hq hC => ok_assign rfl) rfl rfl rfl ?_; refine WH.done (by kernel_rfl) ?_)
      skip))
      skip))
      all_goals (first | (fail_if_success refine goB 5013 ?_) | (
      refine goB 5013 ?_
      all_goals (refine Comes1.run rfl (okE_buildSlice (vs := [_]) (cs := [_, _, _, _, _, _, _, _]) (fun | [.agg ⟨[a0, a1, a2, a3, a4, a5, a6, a7]⟩] => [a0, a1, a2, a3, a4, a5, a6, a7] | _ => []) Tryz.underlying37 rfl rfl (by kernel_rfl)) rfl rfl rfl ?_ (fun _ => by kernel_rfl); rintro _ g5 ⟨q9, rfl, hgq9, hb9e, y5⟩; refine ⟨fun _ => hE.trans (y5.mono fun _ _ e => e.elim), ?_⟩)
      all_goals (replace hE := hE.trans (y5.mono (S' := fun q => vF.ownBlock = some q ∨ vE.ownBlock = some q) fun _ _ e => e.elim)
                 try replace hoF := hoF.ext y5 (fun _ _ => nos)
                 try replace hoF6 := hoF6.ext y5 (fun _ _ => nos)
                 try replace hb3e := y5.obj hb3e nos
                 replace hoE := hoE.ext y5 (fun _ _ => nos)
                 replace f2 := f2_ext f2 y5 (fun _ _ _ => nos)
                 replace hT := hT.ext0 y5
                 replace hB := hB.ext0 y5
                 replace hC' := hC'.ext0 y5
                 replace hF := hF.ext0 y5)
      all_goals (refine WH.one 5 (by kernel_rfl) ?_; refine Comes1.run rfl (okE_buildSlice (vs := [_]) (cs := [_, _, _, _, _, _, _, _, _, _]) (fun | [.agg ⟨[a0, a1, a2, a3, a4, a5, a6, a7, a8, a9]⟩] => [a0, a1, a2, a3, a4, a5, a6, a7, a8, a9] | _ => []) Tryz.underlying36 rfl rfl (by kernel_rfl)) rfl rfl rfl ?_ (fun _ => by kernel_rfl); rintro _ g3 ⟨q3, rfl, hgq3, hb3e, y3⟩; refine ⟨fun _ => hE.trans (y3.mono fun _ _ e => e.elim), ?_⟩; replace hE := hE.trans (y3.mono (S' := fun q => vF.ownBlock = some q ∨ vE.ownBlock = some q) fun _ _ e => e.elim); replace hoF := hoF.ext y3 (fun _ _ => nos); replace hoE := hoE.ext y3 (fun _ _ => nos); replace f2 := f2_ext f2 y3 (fun _ _ _ => nos); replace hT := hT.ext0 y3; replace hB := hB.ext0 y3; replace hC' := hC'.ext0 y3; replace hF := hF.ext0 y3; try replace hb9e := y3.obj hb9e nos)
      all_goals (refine WH.one 6 (by kernel_rfl) ?_; refine Comes1.run rfl (ok_append (sz := 10) (bytes := 160) rfl Tryz.underlying36 (show Tryz.prog.info? 27 = some Tryz.t27 by kernel_rfl) rfl rfl rfl rfl (by decide) rfl rfl hoF (rd_blk hb3e rfl) (by simp [Value.oneCell']) (by simp only [maxLen]; omega) (by omega)) rfl rfl rfl ?_ (fun _ => by kernel_rfl); rintro v6 g4 ⟨hoF6, y4, hl6⟩; refine ⟨fun _ => hE.trans (y4.mono fun _ _ e => .inl e), ?_⟩; have hsz6 := y4.size; have hs4f := hsf (S := fun q => vF.ownBlock = some q) (fun q e => .inl e) hoF hoE; have hgF := fresh_of hl6 fF (Nat.le_trans hx15.size hE.size); replace hE := hE.trans (y4.mono (S' := fun q => vF.ownBlock = some q ∨ vE.ownBlock = some q) fun _ _ e => .inl e); replace hoE := hoE.ext y4 (fun q hq e => own_apart hoF hoE (by decide) q hq e); replace f2 := f2_ext f2 y4 (fun b cs hb q => own_ne hoF hb (by decide) q); replace hT := hT.step y4 hs4f; replace hB := hB.step y4 hs4f; replace hC' := hC'.step y4 hs4f; replace hF := hF.step y4 hs4f; try replace hb9e := y4.obj hb9e (fun q => own_ne hoF hb9e (by decide) q))
      all_goals (refine WH.one 10 (by kernel_rfl) ?_; refine Comes1.run rfl (ok_append (sz := 8) (bytes := 144) rfl Tryz.underlying37 (show Tryz.prog.info? 44 = some Tryz.t44 by kernel_rfl) rfl rfl rfl rfl (by decide) rfl rfl hoE (rd_blk hb9e rfl) (by simp [Value.oneCell']) (by simp only [maxLen]; omega) (by omega)) rfl rfl rfl ?_ (fun _ => by kernel_rfl); rintro v10 g6 ⟨hoE10, y6, hl10⟩; refine ⟨fun _ => hE.trans (y6.mono fun _ _ e => .inr e), ?_⟩; have hgE := fresh_of hl10 fE (Nat.le_trans hx15.size hE.size); (have hs6f : Sf h0 _ (fun q => vE.ownBlock = some q) := fun q e => ⟨Nat.le_trans x014.size (fE q e), fun ty => by obtain ⟨_, y⟩ := own_ty hoE e; exact absurd (ty_one y ty) (by decide)⟩); replace hE := hE.trans (y6.mono (S' := fun q => vF.ownBlock = some q ∨ vE.ownBlock = some q) fun _ _ e => .inr e); replace hoF6 := hoF6.ext y6 (fun q hq e => own_apart hoE hoF6 (by decide) q hq e); replace f2 := f2_ext f2 y6 (fun b cs hb q => own_ne hoE hb (by decide) q); replace hT := hT.step y6 hs6f; replace hB := hB.step y6 hs6f; replace hC' := hC'.step y6 hs6f; replace hF := hF.step y6 hs6f; refine WH.tk 11 rfl (fun hq hC => ok_assign rfl) rfl rfl rfl ?_; refine WH.tk 12 rfl (fun hq hC => ok_assign rfl) rfl rfl rfl ?_; refine WH.done (by kernel_rfl) ?_)
      skip))
      skip))
      all_goals (first | (fail_if_success refine goB 5013 ?_) | (
      refine goB 5013 ?_
      all_goals (refine Comes1.run rfl (okE_buildSlice (vs := [_]) (cs := [_, _, _, _, _, _, _, _]) (fun | [.agg ⟨[a0, a1, a2, a3, a4, a5, a6, a7]⟩] => [a0, a1, a2, a3, a4, a5, a6, a7] | _ => []) Tryz.underlying37 rfl rfl (by kernel_rfl)) rfl rfl rfl ?_ (fun _ => by kernel_rfl); rintro _ g5 ⟨q9, rfl, hgq9, hb9e, y5⟩; refine ⟨fun _ => hE.trans (y5.mono fun _ _ e => e.elim), ?_⟩)
      all_goals (replace hE := hE.trans (y5.mono (S' := fun q => vF.ownBlock = some q ∨ vE.ownBlock = some q) fun _ _ e => e.elim)
                 try replace hoF := hoF.ext y5 (fun _ _ => nos)
                 try replace hoF6 := hoF6.ext y5 (fun _ _ => nos)
                 try replace hb3e := y5.obj hb3e nos
                 replace hoE := hoE.ext y5 (fun _ _ => nos)
                 replace f2 := f2_ext f2 y5 (fun _ _ _ => nos)
                 replace hT := hT.ext0 y5
                 replace hB := hB.ext0 y5
                 replace hC' := hC'.ext0 y5
                 replace hF := hF.ext0 y5)
      all_goals (refine WH.one 4 (by kernel_rfl) ?_; refine Comes1.call (vs := [_, _]) rfl rfl (fun a w => Tryz.call84 a w) rfl (ka _ (srvL id1)) rfl rfl rfl ?_ (fun _ => by kernel_rfl); rintro _ g2 ⟨rfl, y2⟩; refine ⟨fun _ => hE.trans (y2.mono fun _ _ e => e.elim), ?_⟩; replace hE := hE.trans (y2.mono (S' := fun q => vF.ownBlock = some q ∨ vE.ownBlock = some q) fun _ _ e => e.elim); replace hoF := hoF.ext y2 (fun _ _ => nos); replace hoE := hoE.ext y2 (fun _ _ => nos); replace f2 := f2_ext f2 y2 (fun _ _ _ => nos); replace hT := hT.ext0 y2; replace hB := hB.ext0 y2; replace hC' := hC'.ext0 y2; replace hF := hF.ext0 y2; try replace hb9e := y2.obj hb9e nos)
      all_goals (refine WH.one 5 (by kernel_rfl) ?_; refine Comes1.run rfl (okE_buildSlice (vs := [_]) (cs := [_, _, _, _, _, _, _, _, _, _]) (fun | [.agg ⟨[a0, a1, a2, a3, a4, a5, a6, a7, a8, a9]⟩] => [a0, a1, a2, a3, a4, a5, a6, a7, a8, a9] | _ => []) Tryz.underlying36 rfl rfl (by kernel_rfl)) rfl rfl rfl ?_ (fun _ => by kernel_rfl); rintro _ g3 ⟨q3, rfl, hgq3, hb3e, y3⟩; refine ⟨fun _ => hE.trans (y3.mono fun _ _ e => e.elim), ?_⟩; replace hE := hE.trans (y3.mono (S' := fun q => vF.ownBlock = some q ∨ vE.ownBlock = some q) fun _ _ e => e.elim); replace hoF := hoF.ext y3 (fun _ _ => nos); replace hoE := hoE.ext y3 (fun _ _ => nos); replace f2 := f2_ext f2 y3 (fun _ _ _ => nos); replace hT := hT.ext0 y3; replace hB := hB.ext0 y3; replace hC' := hC'.ext0 y3; replace hF := hF.ext0 y3; try replace hb9e := y3.obj hb9e nos)
      all_goals (refine WH.one 6 (by kernel_rfl) ?_; refine Comes1.run rfl (ok_append (sz := 10) (bytes := 160) rfl Tryz.underlying36 (show Tryz.prog.info? 27 = some Tryz.t27 by kernel_rfl) rfl rfl rfl rfl (by decide) rfl rfl hoF (rd_blk hb3e rfl) (by simp [Value.oneCell']) (by simp only [maxLen]; omega) (by omega)) rfl rfl rfl ?_ (fun _ => by kernel_rfl); rintro v6 g4 ⟨hoF6, y4, hl6⟩; refine ⟨fun _ => hE.trans (y4.mono fun _ _ e => .inl e), ?_⟩; have hsz6 := y4.size; have hs4f := hsf (S := fun q => vF.ownBlock = some q) (fun q e => .inl e) hoF hoE; have hgF := fresh_of hl6 fF (Nat.le_trans hx15.size hE.size); replace hE := hE.trans (y4.mono (S' := fun q => vF.ownBlock = some q ∨ vE.ownBlock = some q) fun _ _ e => .inl e); replace hoE := hoE.ext y4 (fun q hq e => own_apart hoF hoE (by decide) q hq e); replace f2 := f2_ext f2 y4 (fun b cs hb q => own_ne hoF hb (by decide) q); replace hT := hT.step y4 hs4f; replace hB := hB.step y4 hs4f; replace hC' := hC'.step y4 hs4f; replace hF := hF.step y4 hs4f; try replace hb9e := y4.obj hb9e (fun q => own_ne hoF hb9e (by decide) q))
      all_goals (refine WH.one 10 (by kernel_rfl) ?_; refine Comes1.run rfl (ok_append (sz := 8) (bytes := 144) rfl Tryz.underlying37 (show Tryz.prog.info? 44 = some Tryz.t44 by kernel_rfl) rfl rfl rfl rfl (by decide) rfl rfl hoE (rd_blk hb9e rfl) (by simp [Value.oneCell']) (by simp only [maxLen]; omega) (by omega)) rfl rfl rfl ?_ (fun _ => by kernel_rfl); rintro v10 g6 ⟨hoE10, y6, hl10⟩; refine ⟨fun _ => hE.trans (y6.mono fun _ _ e => .inr e), ?_⟩; have hgE := fresh_of hl10 fE (Nat.le_trans hx15.size hE.size); (have hs6f : Sf h0 _ (fun q => vE.ownBlock = some q) := fun q e => ⟨Nat.le_trans x014.size (fE q e), fun ty => by obtain ⟨_, y⟩ := own_ty hoE e; exact absurd (ty_one y ty) (by decide)⟩); replace hE := hE.trans (y6.mono (S' := fun q => vF.ownBlock = some q ∨ vE.ownBlock = some q) fun _ _ e => .inr e); replace hoF6 := hoF6.ext y6 (fun q hq e => own_apart hoE hoF6 (by decide) q hq e); replace f2 := f2_ext f2 y6 (fun b cs hb q => own_ne hoE hb (by decide) q); replace hT := hT.step y6 hs6f; replace hB := hB.step y6 hs6f; replace hC' := hC'.step y6 hs6f; replace hF := hF.step y6 hs6f; refine WH.tk 11 rfl (fun hq hC => ok_assign rfl) rfl rfl rfl ?_; refine WH.tk 12 rfl (fun hq hC => ok_assign rfl) rfl rfl rfl ?_; refine WH.done (by kernel_rfl) ?_)
      skip))
      skip))
      all_goals (first | (fail_if_success refine goB 5013 ?_) | (
      refine goB 5013 ?_
      all_goals (refine Comes1.run rfl (okE_buildSlice (vs := [_]) (cs := [_, _, _, _, _, _, _, _]) (fun | [.agg ⟨[a0, a1, a2, a3, a4, a5, a6, a7]⟩] => [a0, a1, a2, a3, a4, a5, a6, a7] | _ => []) Tryz.underlying37 rfl rfl (by kernel_rfl)) rfl rfl rfl ?_ (fun _ => by kernel_rfl); rintro _ g5 ⟨q9, rfl, hgq9, hb9e, y5⟩; refine ⟨fun _ => hE.trans (y5.mono fun _ _ e => e.elim), ?_⟩)
      all_goals (replace hE := hE.trans (y5.mono (S' := fun q => vF.ownBlock = some q ∨ vE.ownBlock = some q) fun _ _ e => e.elim)
                 try replace hoF := hoF.ext y5 (fun _ _ => nos)
                 try replace hoF6 := hoF6.ext y5 (fun _ _ => nos)
                 try replace hb3e := y5.obj hb3e nos
                 replace hoE := hoE.ext y5 (fun _ _ => nos)
                 replace f2 := f2_ext f2 y5 (fun _ _ _ => nos)
                 replace hT := hT.ext0 y5
                 replace hB := hB.ext0 y5
                 replace hC' := hC'.ext0 y5
                 replace hF := hF.ext0 y5)
      all_goals (refine WH.one 3 (by kernel_rfl) ?_; refine Comes1.call (vs := [_]) rfl rfl (fun a w => Tryz.call90 a w) rfl (srv_any id1) rfl rfl rfl ?_ (fun _ => by kernel_rfl); rintro _ g1 ⟨rfl, y1⟩; refine ⟨fun _ => hE.trans (y1.mono fun _ _ e => e.elim), ?_⟩; replace hE := hE.trans (y1.mono (S' := fun q => vF.ownBlock = some q ∨ vE.ownBlock = some q) fun _ _ e => e.elim); replace hoF := hoF.ext y1 (fun _ _ => nos); replace hoE := hoE.ext y1 (fun _ _ => nos); replace f2 := f2_ext f2 y1 (fun _ _ _ => nos); replace hT := hT.ext0 y1; replace hB := hB.ext0 y1; replace hC' := hC'.ext0 y1; replace hF := hF.ext0 y1; try replace hb9e := y1.obj hb9e nos)
      all_goals (refine WH.one 4 (by kernel_rfl) ?_; refine Comes1.call (vs := [_, _]) rfl rfl (fun a w => Tryz.call84 a w) rfl (ka _ (srvL id1)) rfl rfl rfl ?_ (fun _ => by kernel_rfl); rintro _ g2 ⟨rfl, y2⟩; refine ⟨fun _ => hE.trans (y2.mono fun _ _ e => e.elim), ?_⟩; replace hE := hE.trans (y2.mono (S' := fun q => vF.ownBlock = some q ∨ vE.ownBlock = some q) fun _ _ e => e.elim); replace hoF := hoF.ext y2 (fun _ _ => nos); replace hoE := hoE.ext y2 (fun _ _ => nos); replace f2 := f2_ext f2 y2 (fun _ _ _ => nos); replace hT := hT.ext0 y2; replace hB := hB.ext0 y2; replace hC' := hC'.ext0 y2; replace hF := hF.ext0 y2; try replace hb9e := y2.obj hb9e nos)
      all_goals (refine WH.one 5 (by kernel_rfl) ?_; refine Comes1.run rfl (okE_buildSlice (vs := [_]) (cs := [_, _, _, _, _, _, _, _, _, _]) (fun | [.agg ⟨[a0, a1, a2, a3, a4, a5, a6, a7, a8, a9]⟩] => [a0, a1, a2, a3, a4, a5, a6, a7, a8, a9] | _ => []) Tryz.underlying36 rfl rfl (by kernel_rfl)) rfl rfl rfl ?_ (fun _ => by kernel_rfl); rintro _ g3 ⟨q3, rfl, hgq3, hb3e, y3⟩; refine ⟨fun _ => hE.trans (y3.mono fun _ _ e => e.elim), ?_⟩; replace hE := hE.trans (y3.mono (S' := fun q => vF.ownBlock = some q ∨ vE.ownBlock = some q) fun _ _ e => e.elim); replace hoF := hoF.ext y3 (fun _ _ => nos); replace hoE := hoE.ext y3 (fun _ _ => nos); replace f2 := f2_ext f2 y3 (fun _ _ _ => nos); replace hT := hT.ext0 y3; replace hB := hB.ext0 y3; replace hC' := hC'.ext0 y3; replace hF := hF.ext0 y3; try replace hb9e := y3.obj hb9e nos)
      all_goals (refine WH.one 6 (by kernel_rfl) ?_; refine Comes1.run rfl (ok_append (sz := 10) (bytes := 160) rfl Tryz.underlying36 (show Tryz.prog.info? 27 = some Tryz.t27 by kernel_rfl) rfl rfl rfl rfl (by decide) rfl rfl hoF (rd_blk hb3e rfl) (by simp [Value.oneCell']) (by simp only [maxLen]; omega) (by omega)) rfl rfl rfl ?_ (fun _ => by kernel_rfl); rintro v6 g4 ⟨hoF6, y4, hl6⟩; refine ⟨fun _ => hE.trans (y4.mono fun _ _ e => .inl e), ?_⟩; have hsz6 := y4.size; have hs4f := hsf (S := fun q => vF.ownBlock = some q) (fun q e => .inl e) hoF hoE; have hgF := fresh_of hl6 fF (Nat.le_trans hx15.size hE.size); replace hE := hE.trans (y4.mono (S' := fun q => vF.ownBlock = some q ∨ vE.ownBlock = some q) fun _ _ e => .inl e); replace hoE := hoE.ext y4 (fun q hq e => own_apart hoF hoE (by decide) q hq e); replace f2 := f2_ext f2 y4 (fun b cs hb q => own_ne hoF hb (by decide) q); replace hT := hT.step y4 hs4f; replace hB := hB.step y4 hs4f; replace hC' := hC'.step y4 hs4f; replace hF := hF.step y4 hs4f; try replace hb9e := y4.obj hb9e (fun q => own_ne hoF hb9e (by decide) q))
      all_goals (refine WH.one 10 (by kernel_rfl) ?_; refine Comes1.run rfl (ok_append (sz := 8) (bytes := 144) rfl Tryz.underlying37 (show Tryz.prog.info? 44 = some Tryz.t44 by kernel_rfl) rfl rfl rfl rfl (by decide) rfl rfl hoE (rd_blk hb9e rfl) (by simp [Value.oneCell']) (by simp only [maxLen]; omega) (by omega)) rfl rfl rfl ?_ (fun _ => by kernel_rfl); rintro v10 g6 ⟨hoE10, y6, hl10⟩; refine ⟨fun _ => hE.trans (y6.mono fun _ _ e => .inr e), ?_⟩; have hgE := fresh_of hl10 fE (Nat.le_trans hx15.size hE.size); (have hs6f : Sf h0 _ (fun q => vE.ownBlock = some q) := fun q e => ⟨Nat.le_trans x014.size (fE q e), fun ty => by obtain ⟨_, y⟩ := own_ty hoE e; exact absurd (ty_one y ty) (by decide)⟩); replace hE := hE.trans (y6.mono (S' := fun q => vF.ownBlock = some q ∨ vE.ownBlock = some q) fun _ _ e => .inr e); replace hoF6 := hoF6.ext y6 (fun q hq e => own_apart hoE hoF6 (by decide) q hq e); replace f2 := f2_ext f2 y6 (fun b cs hb q => own_ne hoE hb (by decide) q); replace hT := hT.step y6 hs6f; replace hB := hB.step y6 hs6f; replace hC' := hC'.step y6 hs6f; replace hF := hF.step y6 hs6f; refine WH.tk 11 rfl (fun hq hC => ok_assign rfl) rfl rfl rfl ?_; refine WH.tk 12 rfl (fun hq hC => ok_assign rfl) rfl rfl rfl ?_; refine WH.done (by kernel_rfl) ?_)
      skip))
      all_goals (refine Gn ?_; refine Gs [(2, _), (3, _)] ?_; refine Gt ?_)
      all_goals (try rw [show preBad [] = [(false, [], 0, ())] from if_pos rfl]
                 first
                  | (fail_if_success (have := hgE)
                     rw [hpl []] at hgv
                     exact ⟨hgv, (d2.ext0 X13).up (by omega) (by omega), X2.trans' X13 (fun q hq e => e.elim)⟩)
                  | (have hXX := ((XX12.trans' hx13 (fun _ _ e => e.elim)).trans' hx14 (fun q hq e => absurd (Nat.lt_of_lt_of_le hq (Nat.le_trans hs2 (Nat.le_trans hs3 hg5))) (by rw [show q = b5 from e]; exact Nat.lt_irrefl _))).trans' hx15 (fun _ _ e => e.elim)
                     have hd3 := ((d3.ext0 hx13).keep hx14 (fun q e => ⟨_, _, e ▸ hx13.obj HE12 nos, by decide⟩)).ext0 hx15
                     have hdf := hd3.keep hE (fun q e => e.elim (fun z => (own_ty kF z).elim fun _ y => ⟨_, _, y, by decide⟩) (fun z => (own_ty kE z).elim fun _ y => ⟨_, _, y, by decide⟩))
                     have hg := gives_snoc (h := h14) hoF6 hoE10 (by omega) (by omega) (fun x hx => lst_all (f1 x hx)) (okE_hi f2) (hfl _ hF (srvL id1)) (rE_ok hT hB hC') hgF hgE
                     rw [p1, p2, hpl] at hg
                     have hh14 : h.size ≤ h14.size := Nat.le_trans hs2 (Nat.le_trans HX.size (Nat.le_trans hs12 (Nat.le_trans hx13.size hx14.size)))
                     exact ⟨hg.from hh14, hdf.up (by omega) (by omega), hXX.trans' hE (fun q hq e => absurd (Nat.lt_of_lt_of_le hq hh14) (Nat.not_lt.2 (e.elim (fF q) (fE q))))⟩))
end
end Go.Proofs.YtggmocdbfbhklaaGreat


/-
  REWRITE (layer 24): the code's use of a statement; a C; what is done of any message.
-/
namespace Go.Proofs.YtggmocdbfbhklaaGreat
open Go Go.RK

def getT' (s : RS) (id : Int) : List UInt8 := ((getS s id).map (·.1)).getD []
def getO' (s : RS) (id : Int) : List Int := ((getS s id).map (·.2)).getD []
/-- A message that uses a statement. -/
def useA (s : RS) (lk : Int × Bool) (spec : List Int) (most : Int) (p : FmP) : RS × List FmP × List EnP :=
  if lk.2 = false then (s, [asP p noneL], [(entK p.1 p.2.1, false, noneL, p.2.2.1, [], [], [], [])])
  else (if lk.1 ∈ spec then s else refS s lk.1, readyF spec most lk.1 (getT' s lk.1) (getO' s lk.1) ++ [asP p (srvL lk.1)], readyE spec most lk.1 ++ [(entK p.1 p.2.1, false, srvL lk.1, p.2.2.1, [], [], [(3, lk.1, ())], [])])
section
variable {h0 h h1 h' : Heap} {B : Nat} {c : Int} {b m1 m2 bt : Nat} {s : RS} {f : Fm} {v : Value} {ss : Option Addr} {sn sc : Nat} {spec : List Int} {most jd : Int} {kn : Bool}
theorem Cst.olen (d : Cst h0 h B c b m1 m2 s) (id : Int) : (getO' s id).length ≤ 65535 := by
  obtain ⟨⟨L, r, e⟩, _⟩ := d
  unfold getO' getS
  cases hf : s.2.find? (idS id) with
  | none => simp
  | some q =>
    have hq := List.mem_of_find?_eq_some hf
    rw [← e] at hq
    obtain ⟨x, hx, rfl⟩ := List.mem_map.1 hq
    exact (fairS_yes (r.fair x hx)).2.1
theorem Dst.olen (d : Dst h0 h B bt s) (id : Int) : (getO' s id).length ≤ 65535 := by
  obtain ⟨⟨v, D, r, e⟩, _⟩ := d
  unfold getO' getS
  cases hf : s.2.find? (idS id) with
  | none => simp
  | some q =>
    have hq := List.mem_of_find?_eq_some hf
    rw [← e] at hq
    obtain ⟨x, hx, rfl⟩ := List.mem_map.1 hq
    exact r.bd.2 x hx
theorem fg_lst (k : FG h f) : Lst h0 h fun g => f.ok g := by
  rcases k with k | ⟨n, t, v, l, rfl, ho, hl⟩
  · exact lst_all k
  · exact (lst_own ho (by decide)).mono fun _ z => paM_ok _ _ z.rd hl
theorem ready_len {t : List UInt8} {l : List Int} : (readyF spec most jd t l).length = 0 ↔ jd ∈ spec := by
  unfold readyF
  split
  · simp [*]
  · simp [*]
set_option maxHeartbeats 4000000 in
set_option maxRecDepth 100000 in
theorem use24 (k : JH h0 h B c b m1 m2 s f (.slice ss sn sc) spec) : CallsH Tryz.prog 58 ⟨[.agg ⟨jC f b (.slice ss sn sc) most jd kn⟩]⟩ h fun u h' =>
    Gives h0 h (useA s (jd, kn) spec most f.pl).2.1 (useA s (jd, kn) spec most f.pl).2.2 u h' ∧ Cst h0 h' B (c + 2) b m1 m2 (useA s (jd, kn) spec most f.pl).1 ∧ Ext (CS h0 m1 m2 h) h h' := by
  have hf := k.f
  have x0 := k.x0
  have hcc := k.cc
  have hsl := k.sl
  have hsp := k.sp
  obtain ⟨_, _, hvs, _⟩ := hsp.now
  simp only [Value.slice.injEq] at hvs
  obtain ⟨rfl, rfl, rfl⟩ := hvs
  have hd := k.d
  have ka := fun h' nm => as24 (h := h') (b := b) (ss := ss) (sn := spec.length) (sc := sc) (most := most) (id := jd) (kn := kn) hf.now nm
  have ke := fun h' => entry24 (h := h') (b := b) (ss := ss) (sn := spec.length) (sc := sc) (most := most) (id := jd) (kn := kn) hf.now
  have kget := fun h' (x : Ext No h h') => c_get (hd.ext0 x) jd
  have hfl := fun (g : Heap) (l : Lst h0 g fun z => f.ok z) n => l.mono fun _ z => Fm.ok.named z n
  have hpl : ∀ n, ({ f with name := n } : Fm).pl = asP f.pl n := fun _ => rfl
  have kl := fun (g : Heap) (e : En) (l : Lst h0 g fun z => f.ok z) (le : Lst h0 g fun z => e.ok z) (x : h.size ≤ g.size) => alone24 (h0 := h0) (f := { f with name := noneL }) (e := e) (g := h) (hfl g l noneL) le x
  have hol := hd.olen jd
  have kready := fun h' (r : Rd h' (.slice ss spec.length sc) 1 spec.length (ints spec)) (w : Value) (hw : Rd h' w 1 (getO' s jd).length (ints (getO' s jd))) => ready_G (h := h') spec most jd (getT' s jd) (getO' s jd) r (by omega) hw (by omega)
  have kref := fun h' (d : Cst h0 h' B c b m1 m2 s) => c_ref d jd (by omega)
  have huse : useA s (jd, kn) spec most f.pl = if kn = false then (s, [asP f.pl noneL], [(entK f.kind f.what, false, noneL, f.name, [], [], [], [])])
      else (if jd ∈ spec then s else refS s jd, readyF spec most jd (getT' s jd) (getO' s jd) ++ [asP f.pl (srvL jd)], readyE spec most jd ++ [(entK f.kind f.what, false, srvL jd, f.name, [], [], [(3, jd, ())], [])]) := rfl
  rw [huse]
  clear huse
  have hrl := fun t l => ready_len (spec := spec) (most := most) (jd := jd) (t := t) (l := l)
  obtain ⟨⟨e1, _⟩, ⟨e2, _⟩, ⟨e3, _⟩, e4, _⟩ := hf.now
  generalize hP : f.pl = P at *
  generalize hK : entK f.kind f.what = K at *
  generalize hO : getO' s jd = O at *
  generalize hTt : getT' s jd = tx at *
  have kget2 : ∀ h' (x : Ext No h h'), CallsH Tryz.prog 92 ⟨[ptE b, In jd]⟩ h' fun u h2 => ∃ v', u = .tuple ⟨[.agg ⟨[St tx, v']⟩, .bool (getS s jd).isSome]⟩ ∧ Own h2 v' 3 1 O.length (ints O) ∧ Ext No h' h2 ∧ ∀ q, v'.ownBlock = some q → h'.size ≤ q := fun h' x => by rw [← hTt, ← hO]; exact kget h' x
  clear kget
  obtain ⟨fk, w, n, p, t, vo, o, vf, fs, vs, rs, vp, ps, mx⟩ := f
  dsimp only at e1 e2 e3 e4
  obtain ⟨_, _, rfl, _⟩ := e1
  obtain ⟨_, _, rfl, _⟩ := e2
  obtain ⟨_, _, rfl, _⟩ := e3
  obtain ⟨_, _, rfl, _⟩ := e4
  dsimp only [jC, Fm.cells, List.cons_append, List.nil_append, ptE, zE, En.cells] at ka ke kl kref kget2 hpl ⊢
  cases kn
  · rw [if_pos rfl]
    clear kready kref hrl kget2
    refine calls [(0, _)] Tryz.func58 rfl Tryz.ntmps58 rfl ⟨rfl, trivial⟩ ?_
    all_goals (refine WC.sr ?_; refine WL.stepR (okE_box rfl) rfl rfl rfl ?_; rintro _ h1 ⟨b1, rfl, hg1, hb1, hx1⟩; refine Go ?_; refine WC.sr ?_; refine WL.step (ok_loadN (fun w => Tryz.isAgg74 w) (fun w => Tryz.sizeOf74 w) rfl rfl (by exact At.of_block hb1)) rfl rfl rfl ?_; refine WL.call (vs := [_]) rfl (fun a w => Tryz.call61 a w) rfl (ke _) rfl rfl rfl ?_; rintro _ h2 ⟨rfl, hx2⟩; refine WL.stepR (okE_alloc (fun w => Tryz.zeroValue44 w)) rfl rfl rfl ?_; rintro _ h3 ⟨b4, rfl, hg4, hb4, hx3⟩; refine WL.stepR0 (okE_storeW (fun w => Tryz.sizeOf44 w) rfl rfl rfl hb4 rfl (by simp [Value.oneCell'])) rfl rfl ?_; rintro _ h4 ⟨hb44, hx4⟩; have l1 := lt_of_some hb1; have hs1 := hx1.size; have hs2 := hx2.size; have hs3 := hx3.size; (have n14 : ¬ b1 = b4 := by omega); have hb14 := hx4.obj ((hx2.trans hx3).obj hb1 nos) n14; have X4 : Ext No h h4 := ((hx1.trans hx2).trans hx3).trans' hx4 (fun q hq e => by omega); refine Gn ?_; refine Gs [(1, _), (4, _)] ?_; refine WC.sr ?_; refine Go ?_; refine WL.ld rfl (by first | exact cell_blk hb14 rfl | assumption | exact cell_blk (by assumption) rfl) rfl rfl rfl ?_; refine Go ?_; refine WL.stepR0 (okE_store (fun w => Tryz.sizeOf9 w) rfl rfl hb44 (Nat.le_of_ble_eq_true rfl) rfl rfl) rfl rfl ?_; rintro _ h5 ⟨hb45, hx5⟩; have hb15 := hx5.obj hb14 n14; refine Gn ?_; refine Gs [(1, _), (4, _)] ?_; refine WC.seq ?_; refine WC.sr ?_; refine Go ?_; refine WL.ld rfl (by first | exact cell_blk hb15 rfl | assumption | exact cell_blk (by assumption) rfl) rfl rfl rfl ?_; refine Go ?_; refine goC 1 2 ?_ TT.mk; refine goB 1 ?_; refine WC.sr ?_; refine WL.call (vs := []) rfl (fun a w => Tryz.call91 a w) rfl (none24) rfl rfl rfl ?_; rintro _ hz ⟨rfl, _⟩; subst hz; refine Go ?_; refine WL.stepR0 (okE_store (fun w => Tryz.sizeOf9 w) rfl rfl hb45 (Nat.le_of_ble_eq_true rfl) rfl rfl) rfl rfl ?_; rintro _ h6 ⟨hb46, hx6⟩; have hb16 := hx6.obj hb15 n14; have X6 : Ext No h h6 := (X4.trans' hx5 (fun q hq e => by omega)).trans' hx6 (fun q hq e => by omega); refine Gn ?_; refine Gs [(1, _), (4, _)] ?_; refine WC.seq ?_; refine WC.drawH (fun h' => Ext No h6 h') 7 9 rfl fol ?_; refine WH.tk 0 rfl (fun hq hC => ok_loadN (fun w => Tryz.isAgg74 w) (fun w => Tryz.sizeOf74 w) rfl rfl (by exact (At.of_block hb16).ext hC nos)) rfl rfl rfl ?_; refine WH.tk 3 rfl (fun hq hC => ok_loadN (fun w => Tryz.isAgg44 w) (fun w => Tryz.sizeOf44 w) rfl rfl (by exact (At.of_block hb46).ext hC nos)) rfl rfl rfl ?_; refine WH.one 1 (by kernel_rfl) ?_; refine Comes1.call (vs := []) rfl rfl (fun a w => Tryz.call91 a w) rfl (none24) rfl rfl rfl ?_ (fun _ => by kernel_rfl); rintro _ hz ⟨rfl, _⟩; subst hz; refine ⟨fun _ => .refl _ _, ?_⟩; refine WH.one 2 (by kernel_rfl) ?_; refine Comes1.call (vs := [_, _]) rfl rfl (fun a w => Tryz.call84 a w) rfl (ka _ noneL) rfl rfl rfl ?_ (fun _ => by kernel_rfl); rintro _ h7 ⟨rfl, hx7⟩; refine ⟨fun _ => hx7, ?_⟩; refine WH.one 4 (by kernel_rfl) ?_; refine Comes1.call (vs := [_, _]) rfl rfl (fun a w => Tryz.call62 a w) rfl (kl _ (zE K noneL n) (hf.ext0 (X6.trans hx7)) (lst_all (zE_ok _ _ _)) (X6.trans hx7).size) rfl rfl rfl ?_ (fun _ => by kernel_rfl); rintro _ h8 ⟨hgv, hx8⟩; obtain ⟨vF, vE, L, M, rfl, _⟩ := id hgv)
    all_goals (refine ⟨fun _ => hx7.trans hx8, ?_⟩; have hX78 := hx7.trans hx8; refine WH.tk 5 rfl (fun hq hC => ok_extract rfl rfl) rfl rfl rfl ?_; refine WH.tk 6 rfl (fun hq hC => ok_extract rfl rfl) rfl rfl rfl ?_; refine WH.one 7 (by kernel_rfl) ?_; refine Comes1.run rfl (OkP.r (ok_assign rfl)) rfl rfl rfl ?_ (fun _ => by kernel_rfl); rintro _ hz ⟨rfl, _⟩; subst hz; refine ⟨fun e => (by cases e), ?_⟩; refine WH.one 8 (by kernel_rfl) ?_; refine Comes1.run rfl (OkP.r (ok_assign rfl)) rfl rfl rfl ?_ (fun _ => by kernel_rfl); rintro _ hz ⟨rfl, _⟩; subst hz; refine ⟨fun e => (by cases e), ?_⟩; refine WH.done (by kernel_rfl) ?_; refine Gn ?_; refine Gs [(2, _), (3, _)] ?_; refine Gt ?_)
    all_goals (rw [hpl noneL] at hgv
               exact ⟨hgv, (hd.ext0 (X6.trans hX78)).up (by omega) (by omega), fs_no (X6.trans hX78)⟩)
  · rw [if_neg (by decide)]
    clear kl
    by_cases hin : jd ∈ spec
    all_goals first | rw [if_pos hin] | rw [if_neg hin]
    all_goals
      refine calls [(0, _)] Tryz.func58 rfl Tryz.ntmps58 rfl ⟨rfl, trivial⟩ ?_
      all_goals (refine WC.sr ?_; refine WL.stepR (okE_box rfl) rfl rfl rfl ?_; rintro _ h1 ⟨b1, rfl, hg1, hb1, hx1⟩; refine Go ?_; refine WC.sr ?_; refine WL.step (ok_loadN (fun w => Tryz.isAgg74 w) (fun w => Tryz.sizeOf74 w) rfl rfl (by exact At.of_block hb1)) rfl rfl rfl ?_; refine WL.call (vs := [_]) rfl (fun a w => Tryz.call61 a w) rfl (ke _) rfl rfl rfl ?_; rintro _ h2 ⟨rfl, hx2⟩; refine WL.stepR (okE_alloc (fun w => Tryz.zeroValue44 w)) rfl rfl rfl ?_; rintro _ h3 ⟨b4, rfl, hg4, hb4, hx3⟩; refine WL.stepR0 (okE_storeW (fun w => Tryz.sizeOf44 w) rfl rfl rfl hb4 rfl (by simp [Value.oneCell'])) rfl rfl ?_; rintro _ h4 ⟨hb44, hx4⟩; have l1 := lt_of_some hb1; have hs1 := hx1.size; have hs2 := hx2.size; have hs3 := hx3.size; (have n14 : ¬ b1 = b4 := by omega); have hb14 := hx4.obj ((hx2.trans hx3).obj hb1 nos) n14; have X4 : Ext No h h4 := ((hx1.trans hx2).trans hx3).trans' hx4 (fun q hq e => by omega); refine Gn ?_; refine Gs [(1, _), (4, _)] ?_; refine WC.sr ?_; refine Go ?_; refine WL.ld rfl (by first | exact cell_blk hb14 rfl | assumption | exact cell_blk (by assumption) rfl) rfl rfl rfl ?_; refine Go ?_; refine WL.stepR0 (okE_store (fun w => Tryz.sizeOf9 w) rfl rfl hb44 (Nat.le_of_ble_eq_true rfl) rfl rfl) rfl rfl ?_; rintro _ h5 ⟨hb45, hx5⟩; have hb15 := hx5.obj hb14 n14; have X5 : Ext No h h5 := X4.trans' hx5 (fun q hq e => by omega); have l5 := lt_of_some hb45; have l15 := lt_of_some hb15; refine Gn ?_; refine Gs [(1, _), (4, _)] ?_; refine WC.seq ?_; refine WC.sr ?_; refine Go ?_; refine WL.ld rfl (by first | exact cell_blk hb15 rfl | assumption | exact cell_blk (by assumption) rfl) rfl rfl rfl ?_; refine Go ?_; refine goC 1 2 ?_ TT.mk; refine goB 2 ?_; refine WC.skip ?_; refine Gn ?_; refine WC.sr ?_; refine Go ?_; refine WL.ld rfl (by first | exact cell_blk hb15 rfl | assumption | exact cell_blk (by assumption) rfl) rfl rfl rfl ?_; refine Go ?_; refine WL.ld rfl (by first | exact cell_blk hb15 rfl | assumption | exact cell_blk (by assumption) rfl) rfl rfl rfl ?_; refine WL.call (vs := [_, _]) rfl (fun a w => Tryz.call92 a w) rfl (kget2 _ X5) rfl rfl rfl ?_; rintro _ h6 ⟨v6, rfl, ho6, hx6, hf6⟩; obtain ⟨A6, c6, rfl, _⟩ := ho6.slice; refine Go ?_; refine WL.stepR (okE_alloc (fun w => Tryz.zeroValue63 w)) rfl rfl rfl ?_; rintro _ h7 ⟨b7, rfl, hg7, hb7, hx7⟩; refine WL.stepR0 (okE_storeW (fun w => Tryz.sizeOf63 w) rfl rfl rfl hb7 rfl (by simp [Value.oneCell'])) rfl rfl ?_; rintro _ h8 ⟨hb78, hx8⟩; have hs6 := hx6.size; have hs7 := hx7.size; have x78 : Ext No h6 h8 := hx7.trans' hx8 (fun q hq e => by omega); have hb18 := x78.obj (hx6.obj hb15 nos) nos; have hb48 := x78.obj (hx6.obj hb45 nos) nos; have ho8 := ho6.ext x78 (fun _ _ => nos); have X8 := (X5.trans hx6).trans x78; refine Go ?_; refine Gs [(1, _), (4, _), (5, _)] ?_; refine WC.sr ?_; refine Go ?_; refine WL.ld rfl (by first | exact cell_blk hb18 rfl | assumption | exact cell_blk (by assumption) rfl) rfl rfl rfl ?_; refine Go ?_; refine WL.ld rfl (by first | exact cell_blk hb18 rfl | assumption | exact cell_blk (by assumption) rfl) rfl rfl rfl ?_; refine Go ?_; refine WL.ld rfl (by first | exact cell_blk hb18 rfl | assumption | exact cell_blk (by assumption) rfl) rfl rfl rfl ?_)
      all_goals (refine WL.step (ok_loadN (fun w => Tryz.isAgg63 w) (fun w => Tryz.sizeOf63 w) rfl rfl (by exact At.of_block hb78)) rfl rfl rfl ?_; refine WL.call (vs := [_, _, _, _]) rfl (fun a w => Tryz.call93 a w) rfl (kready _ (hsp.ext0 X8).now _ ho8.rd) rfl rfl rfl ?_; rintro _ h9 ⟨vF, vE, L, M, rfl, hoF, hoE, hL2, hM2, f1, f2, p1, p2, hx9, fF, fE⟩; obtain ⟨AF, cF, rfl, _⟩ := id hoF.slice; obtain ⟨AE, cE, rfl, _⟩ := id hoE.slice)
      all_goals (have hll := congrArg List.length p1
                 rw [List.length_map] at hll
                 have hr2 := hrl tx O
                 rw [← hll] at hr2
                 first | (have hL0 : L.length = 0 := hr2.2 hin) | (have hL0 : ¬ L.length = 0 := fun e => hin (hr2.1 e))
                 clear hr2 hll hrl
                 have hok : (∀ x ∈ L, Lst h0 h9 fun g => x.ok g) ∧ ∀ x ∈ M, Lst h0 h9 fun g => x.ok g := ⟨fun x hx => fg_lst (f1 x hx), okE_hi f2⟩
                 clear f1 f2
                 have X9 := X8.trans hx9
                 have hb19 := hx9.obj hb18 nos
                 have hb49 := hx9.obj hb48 nos
                 have hd9 := hd.ext0 X9)
      all_goals (refine Go ?_; refine Gs [(1, _), (4, _), (7, _), (8, _)] ?_; refine WC.seq ?_; refine WC.sr ?_; refine Go ?_; refine goC 3 4 ?_ TT.mk)
      all_goals (first | (fail_if_success refine goB 3 ?_) | (
      refine goB 3 ?_
      all_goals (refine WC.region ?_; refine Go ?_; refine WL.ld rfl (by first | exact cell_blk hb19 rfl | assumption | exact cell_blk (by assumption) rfl) rfl rfl rfl ?_; refine Go ?_; refine WL.ld rfl (by first | exact cell_blk hb19 rfl | assumption | exact cell_blk (by assumption) rfl) rfl rfl rfl ?_; refine WL.call (vs := [_, _]) rfl (fun a w => Tryz.call87 a w) rfl (kref _ hd9) rfl rfl rfl ?_; rintro _ h10 ⟨⟨xr, rfl⟩, d10, x10⟩; refine Gn ?_)
      skip))
      all_goals (first | (fail_if_success refine goB 4 ?_) | (
      refine goB 4 ?_
      all_goals (refine WC.skip ?_)
      skip))
      all_goals (refine Gn ?_; refine WC.seq ?_)
      all_goals (first
                  | ((fail_if_success (have := x10)); obtain ⟨h10, rfl⟩ : ∃ g, g = h9 := ⟨h9, rfl⟩; have HJ := hb19; have HE := hb49; have hF := hf.ext0 X9; have hoF' := hoF; have hoE' := hoE; have hOk := hok; have dd := hd9.up (c' := c + 1) (by omega) (by omega); have XX : Ext (CS h0 m1 m2 h) h h10 := fs_no X9; have hsb := x0.trans X9; have hfr := Nat.le_refl h10.size)
                  | (have HJ := x10.obj hb19 (hd9.off hb19 (by decide)); have HE := x10.obj hb49 (hd9.off hb49 (by decide)); have hF := (hf.ext0 X9).step x10 hd9.sf; have hoF' := hoF.ext x10 (fun q hq e => by obtain ⟨_, y⟩ := own_ty hoF hq; exact hd9.off y (by decide) e); have hoE' := hoE.ext x10 (fun q hq e => by obtain ⟨_, y⟩ := own_ty hoE hq; exact hd9.off y (by decide) e); have hOk := And.intro (fun x hx => (hok.1 x hx).step x10 hd9.sf) (fun x hx => (hok.2 x hx).step x10 hd9.sf); have dd := d10; have XX : Ext (CS h0 m1 m2 h) h h10 := (fs_no X9).trans' x10 (fun q hq e => fs_no_back X9 hq e); have hsb := fs_old x0 XX; have hfr := x10.size)
                 clear hok kref kready kget2
                 have n1F : ∀ {q : Nat}, q < h8.size → ¬ ((Value.slice AF L.length cF).ownBlock = some q ∨ (Value.slice AE M.length cE).ownBlock = some q) := fun hq e => e.elim (fun z => absurd hq (Nat.not_lt.2 (fF _ z))) (fun z => absurd hq (Nat.not_lt.2 (fE _ z)))
                 have l18 := lt_of_some hb18
                 have l48 := lt_of_some hb48)
      all_goals (refine WC.drawH (fun h' => Ext (fun q => q = b4) h10 h') 10 10 rfl fol ?_; refine WH.tk 0 rfl (fun hq hC => ok_fieldAddr rfl Tryz.underlying74 rfl (fun w => Tryz.sizeOf3 w)) rfl rfl rfl ?_; refine WH.tk 1 rfl (fun hq hC => ok_load (fun w => Tryz.isAgg3 w) rfl (by first | exact hC.cell (by first | exact cell_blk HJ rfl | assumption | exact cell_blk (by assumption) rfl) n14)) rfl rfl rfl ?_; refine WH.tk 3 rfl (fun hq hC => ok_fieldAddr rfl Tryz.underlying74 rfl (fun w => Tryz.sizeOf3 w)) rfl rfl rfl ?_; refine WH.tk 4 rfl (fun hq hC => ok_load (fun w => Tryz.isAgg3 w) rfl (by first | exact hC.cell (by first | exact cell_blk HJ rfl | assumption | exact cell_blk (by assumption) rfl) n14)) rfl rfl rfl ?_; refine WH.one 2 (by kernel_rfl) ?_; refine Comes1.call (vs := [_]) rfl rfl (fun a w => Tryz.call90 a w) rfl (srv_any jd) rfl rfl rfl ?_ (fun _ => by kernel_rfl); rintro _ g1 ⟨rfl, y1⟩; refine ⟨fun _ => y1.mono fun _ _ e => e.elim, ?_⟩; (have hCx1 : Ext (fun q => q = b4) h10 g1 := y1.mono fun _ _ e => e.elim); refine WH.tk 6 rfl (fun hq hC => ok_fieldAddr rfl Tryz.underlying44 rfl (fun w => Tryz.sizeOf9 w)) rfl rfl rfl ?_; refine WH.one 5 (by kernel_rfl) ?_; refine Comes1.call (vs := [_]) rfl rfl (fun a w => Tryz.call86 a w) rfl (touch24 jd) rfl rfl rfl ?_ (fun _ => by kernel_rfl); rintro _ g2 ⟨q10, rfl, hq10, hgq10, y2⟩; refine ⟨fun _ => (y1.trans y2).mono fun _ _ e => e.elim, ?_⟩; have y12 := y1.trans y2; (have hCx2 : Ext (fun q => q = b4) h10 g2 := y12.mono fun _ _ e => e.elim); refine WH.one 7 (by kernel_rfl) ?_; refine Comes1.run0 rfl (okE_store (fun w => Tryz.sizeOf9 w) rfl rfl (y12.obj HE nos) (Nat.le_of_ble_eq_true rfl) rfl rfl) rfl rfl ?_ (fun _ => by kernel_rfl); rintro _ g3 ⟨HE3, y3⟩; refine ⟨fun _ => (y12.mono fun _ _ e => e.elim).trans y3, ?_⟩; have hCx3 : Ext (fun q => q = b4) h10 g3 := (y12.mono fun _ _ e => e.elim).trans y3; refine WH.tk 8 rfl (fun hq hC => ok_fieldAddr rfl Tryz.underlying44 rfl (fun w => Tryz.sizeOf41 w)) rfl rfl rfl ?_; refine WH.one 9 (by kernel_rfl) ?_; refine Comes1.run0 rfl (okE_store (fun w => Tryz.sizeOf41 w) rfl rfl HE3 (Nat.le_of_ble_eq_true rfl) rfl rfl) rfl rfl ?_ (fun _ => by kernel_rfl); rintro _ g4 ⟨HE4, y4⟩; refine ⟨fun _ => ((y12.mono fun _ _ e => e.elim).trans y3).trans y4, ?_⟩)
      all_goals (have y34 := y3.trans y4
                 have sE : Sf h0 g2 (fun q => q = b4) := fun q e => ⟨by have := x0.size; rw [show q = b4 from e]; omega, fun ty => absurd (ty_one (y12.obj HE nos) (e ▸ ty)) (by decide)⟩
                 have HJ4 := y34.obj (y12.obj HJ nos) n14
                 have hF4 := (hF.ext0 y12).step y34 sE
                 have hOk4 := And.intro (fun x hx => ((hOk.1 x hx).ext0 y12).step y34 sE) (fun x hx => ((hOk.2 x hx).ext0 y12).step y34 sE)
                 have tyE : ∀ {T : TypeId} {sz m : Nat} {w : Value} {xs : List Value}, Own g2 w T sz m xs → (∀ q, w.ownBlock = some q → h8.size ≤ q) → Own g4 w T sz m xs := fun ho hh => ho.ext y34 (fun q hq e => absurd l48 (Nat.not_lt.2 (by rw [← show q = b4 from e]; exact hh q hq)))
                 have hoF4 := tyE (hoF'.ext y12 (fun _ _ => nos)) fF
                 have hoE4 := tyE (hoE'.ext y12 (fun _ _ => nos)) fE
                 have hq104 := y34.obj hq10 (fun e => by have := lt_of_some HE; have := y1.size; omega)
                 have hC4 : Lst h0 g4 fun z => Ops z (.slice (some ⟨q10, 0, none⟩) 1 1) [(3, jd, ())] := (lst_blk hq104 (by decide)).mono fun _ z => one_op z
                 have dd4 := (dd.ext0 y12).keep y34 (fun q e => ⟨_, _, e ▸ y12.obj HE nos, by decide⟩)
                 have XX4 := (XX.trans' y12 (fun _ _ e => e.elim)).trans' y34 (fun q hq e => absurd hq (Nat.not_lt.2 (by rw [show q = b4 from e]; omega)))
                 have x04 := fs_old x0 XX4
                 have n1F : ∀ {q : Nat}, q < h8.size → ¬ ((Value.slice AF L.length cF).ownBlock = some q ∨ (Value.slice AE M.length cE).ownBlock = some q) := fun hq e => e.elim (fun z => absurd hq (Nat.not_lt.2 (fF _ z))) (fun z => absurd hq (Nat.not_lt.2 (fE _ z)))
                 have l18 := lt_of_some hb18
                 have s8 := X8.size
                 have hsz4 : h8.size ≤ g4.size := Nat.le_trans hx9.size (Nat.le_trans hfr (Nat.le_trans y12.size y34.size))
                 clear hF hOk hoF' hoE' dd XX HJ HE hoF hoE y1 y2 y3 y4 y12 y34 sE tyE hb19 hb49 hd9 ke
                 obtain ⟨vF, evF⟩ : ∃ z, z = Value.slice AF L.length cF := ⟨_, rfl⟩
                 obtain ⟨vE, evE⟩ : ∃ z, z = Value.slice AE M.length cE := ⟨_, rfl⟩
                 have hoF := hoF4
                 have hoE := hoE4
                 rw [← evF] at hoF fF n1F
                 rw [← evE] at hoE fE n1F
                 have kF := hoF
                 have kE := hoE
                 have hC' := hC4
                 have hF := hF4
                 have hOk := hOk4
                 have hE : Ext (fun q => vF.ownBlock = some q ∨ vE.ownBlock = some q) g4 g4 := .refl _ _
                 have hsf : ∀ {g : Heap} {S : Nat → Prop}, (∀ q, S q → vF.ownBlock = some q ∨ vE.ownBlock = some q) → Own g vF 27 10 L.length (L.flatMap Fm.cells) → Own g vE 44 8 M.length (M.flatMap En.cells) → Sf h0 g S := fun hS oF oE q e => ⟨by have := (x0.trans X8).size; rcases hS q e with z | z; exact Nat.le_trans this (fF q z); exact Nat.le_trans this (fE q z), fun ty => by rcases hS q e with z | z; (obtain ⟨_, y⟩ := own_ty oF z; exact absurd (ty_one y ty) (by decide)); (obtain ⟨_, y⟩ := own_ty oE z; exact absurd (ty_one y ty) (by decide))⟩
                 rw [← evF, ← evE])
      all_goals (refine WH.done (by kernel_rfl) ?_; refine Gn ?_; refine Gs [(1, _), (4, _), (7, _), (8, _)] ?_; refine WC.seq ?_; refine WC.drawH (fun h' => Ext (fun q => vF.ownBlock = some q ∨ vE.ownBlock = some q) g4 h') 13 13 rfl fol ?_; refine WH.tk 0 rfl (fun hq hC => ok_move rfl) rfl rfl rfl ?_; refine WH.tk 1 rfl (fun hq hC => ok_loadN (fun w => Tryz.isAgg74 w) (fun w => Tryz.sizeOf74 w) rfl rfl (by exact ((At.of_block HJ4).ext hC (n1F l18)))) rfl rfl rfl ?_; refine WH.tk 2 rfl (fun hq hC => ok_fieldAddr rfl Tryz.underlying44 rfl (fun w => Tryz.sizeOf9 w)) rfl rfl rfl ?_; refine WH.tk 3 rfl (fun hq hC => ok_load (fun w => Tryz.isAgg9 w) rfl (by first | exact hC.cell (by first | exact ((cell_blk HE4 rfl)) | assumption | exact cell_blk (by assumption) rfl) (n1F l48))) rfl rfl rfl ?_; refine WH.tk 7 rfl (fun hq hC => ok_move rfl) rfl rfl rfl ?_; refine WH.tk 8 rfl (fun hq hC => ok_loadN (fun w => Tryz.isAgg44 w) (fun w => Tryz.sizeOf44 w) rfl rfl (by exact ((At.of_block HE4).ext hC (n1F l48)))) rfl rfl rfl ?_; refine WH.two 4 9 (by kernel_rfl) (Br.out (i := 5009) ?_) (Br.out (i := 5010) ?_))
      all_goals (first | (fail_if_success refine goB 5009 ?_) | (
      refine goB 5009 ?_
      all_goals (refine Comes1.call (vs := [_, _]) rfl rfl (fun a w => Tryz.call84 a w) rfl (ka _ (srvL jd)) rfl rfl rfl ?_ (fun _ => by kernel_rfl); rintro _ g5 ⟨rfl, z2⟩; refine ⟨fun _ => hE.trans (z2.mono fun _ _ e => e.elim), ?_⟩; replace hE := hE.trans (z2.mono (S' := fun q => vF.ownBlock = some q ∨ vE.ownBlock = some q) fun _ _ e => e.elim); replace hoF := hoF.ext z2 (fun _ _ => nos); replace hoE := hoE.ext z2 (fun _ _ => nos); replace hOk := And.intro (fun x hx => (hOk.1 x hx).ext0 z2) (fun x hx => (hOk.2 x hx).ext0 z2); replace hC' := hC'.ext0 z2; replace hF := hF.ext0 z2; try replace hb9e := z2.obj hb9e nos)
      all_goals (refine WH.two 5 9 (by kernel_rfl) (Br.out (i := 5009) ?_) (Br.out (i := 5010) ?_))
      all_goals (first | (fail_if_success refine goB 5009 ?_) | (
      refine goB 5009 ?_
      all_goals (refine Comes1.run rfl (okE_buildSlice (vs := [_]) (cs := [_, _, _, _, _, _, _, _, _, _]) (fun | [.agg ⟨[a0, a1, a2, a3, a4, a5, a6, a7, a8, a9]⟩] => [a0, a1, a2, a3, a4, a5, a6, a7, a8, a9] | _ => []) Tryz.underlying36 rfl rfl (by kernel_rfl)) rfl rfl rfl ?_ (fun _ => by kernel_rfl); rintro _ g6 ⟨q3, rfl, hgq3, hb3e, z3⟩; refine ⟨fun _ => hE.trans (z3.mono fun _ _ e => e.elim), ?_⟩; replace hE := hE.trans (z3.mono (S' := fun q => vF.ownBlock = some q ∨ vE.ownBlock = some q) fun _ _ e => e.elim); replace hoF := hoF.ext z3 (fun _ _ => nos); replace hoE := hoE.ext z3 (fun _ _ => nos); replace hOk := And.intro (fun x hx => (hOk.1 x hx).ext0 z3) (fun x hx => (hOk.2 x hx).ext0 z3); replace hC' := hC'.ext0 z3; replace hF := hF.ext0 z3; try replace hb9e := z3.obj hb9e nos)
      all_goals (refine WH.two 6 9 (by kernel_rfl) (Br.out (i := 5009) ?_) (Br.out (i := 5010) ?_))
      all_goals (first | (fail_if_success refine goB 5009 ?_) | (
      refine goB 5009 ?_
      all_goals (refine Comes1.run rfl (ok_append (sz := 10) (bytes := 160) rfl Tryz.underlying36 (show Tryz.prog.info? 27 = some Tryz.t27 by kernel_rfl) rfl rfl rfl rfl (by decide) rfl rfl hoF (rd_blk hb3e rfl) (by simp [Value.oneCell']) (by simp only [maxLen]; omega) (by omega)) rfl rfl rfl ?_ (fun _ => by kernel_rfl); rintro v6 g7 ⟨hoF6, z4, hl6⟩; refine ⟨fun _ => hE.trans (z4.mono fun _ _ e => .inl e), ?_⟩; have hs4f := hsf (S := fun q => vF.ownBlock = some q) (fun q e => .inl e) hoF hoE; have hgF := fresh_of hl6 fF (Nat.le_trans hsz4 hE.size); replace hE := hE.trans (z4.mono (S' := fun q => vF.ownBlock = some q ∨ vE.ownBlock = some q) fun _ _ e => .inl e); replace hoE := hoE.ext z4 (fun q hq e => own_apart hoF hoE (by decide) q hq e); replace hOk := And.intro (fun x hx => (hOk.1 x hx).step z4 hs4f) (fun x hx => (hOk.2 x hx).step z4 hs4f); replace hC' := hC'.step z4 hs4f; replace hF := hF.step z4 hs4f; try replace hb9e := z4.obj hb9e (fun q => own_ne hoF hb9e (by decide) q))
      all_goals (refine WH.one 9 (by kernel_rfl) ?_; refine Comes1.run rfl (okE_buildSlice (vs := [_]) (cs := [_, _, _, _, _, _, _, _]) (fun | [.agg ⟨[a0, a1, a2, a3, a4, a5, a6, a7]⟩] => [a0, a1, a2, a3, a4, a5, a6, a7] | _ => []) Tryz.underlying37 rfl rfl (by kernel_rfl)) rfl rfl rfl ?_ (fun _ => by kernel_rfl); rintro _ g8 ⟨q9, rfl, hgq9, hb9e, z5⟩; refine ⟨fun _ => hE.trans (z5.mono fun _ _ e => e.elim), ?_⟩)
      all_goals (replace hE := hE.trans (z5.mono (S' := fun q => vF.ownBlock = some q ∨ vE.ownBlock = some q) fun _ _ e => e.elim)
                 try replace hoF := hoF.ext z5 (fun _ _ => nos)
                 try replace hoF6 := hoF6.ext z5 (fun _ _ => nos)
                 try replace hb3e := z5.obj hb3e nos
                 replace hoE := hoE.ext z5 (fun _ _ => nos)
                 replace hOk := And.intro (fun x hx => (hOk.1 x hx).ext0 z5) (fun x hx => (hOk.2 x hx).ext0 z5)
                 replace hC' := hC'.ext0 z5
                 replace hF := hF.ext0 z5)
      all_goals (refine WH.one 10 (by kernel_rfl) ?_; refine Comes1.run rfl (ok_append (sz := 8) (bytes := 144) rfl Tryz.underlying37 (show Tryz.prog.info? 44 = some Tryz.t44 by kernel_rfl) rfl rfl rfl rfl (by decide) rfl rfl hoE (rd_blk hb9e rfl) (by simp [Value.oneCell']) (by simp only [maxLen]; omega) (by omega)) rfl rfl rfl ?_ (fun _ => by kernel_rfl); rintro v10 g9 ⟨hoE10, z6, hl10⟩; refine ⟨fun _ => hE.trans (z6.mono fun _ _ e => .inr e), ?_⟩; have hgE := fresh_of hl10 fE (Nat.le_trans hsz4 hE.size); (have hs6f : Sf h0 _ (fun q => vE.ownBlock = some q) := fun q e => ⟨Nat.le_trans (x0.trans X8).size (fE q e), fun ty => by obtain ⟨_, y⟩ := own_ty hoE e; exact absurd (ty_one y ty) (by decide)⟩); replace hE := hE.trans (z6.mono (S' := fun q => vF.ownBlock = some q ∨ vE.ownBlock = some q) fun _ _ e => .inr e); replace hoF6 := hoF6.ext z6 (fun q hq e => own_apart hoE hoF6 (by decide) q hq e); replace hOk := And.intro (fun x hx => (hOk.1 x hx).step z6 hs6f) (fun x hx => (hOk.2 x hx).step z6 hs6f); replace hC' := hC'.step z6 hs6f; replace hF := hF.step z6 hs6f; refine WH.tk 11 rfl (fun hq hC => ok_assign rfl) rfl rfl rfl ?_; refine WH.tk 12 rfl (fun hq hC => ok_assign rfl) rfl rfl rfl ?_; refine WH.done (by kernel_rfl) ?_)
      skip))
      all_goals (first | (fail_if_success refine goB 5010 ?_) | (
      refine goB 5010 ?_
      all_goals (refine Comes1.run rfl (okE_buildSlice (vs := [_]) (cs := [_, _, _, _, _, _, _, _]) (fun | [.agg ⟨[a0, a1, a2, a3, a4, a5, a6, a7]⟩] => [a0, a1, a2, a3, a4, a5, a6, a7] | _ => []) Tryz.underlying37 rfl rfl (by kernel_rfl)) rfl rfl rfl ?_ (fun _ => by kernel_rfl); rintro _ g8 ⟨q9, rfl, hgq9, hb9e, z5⟩; refine ⟨fun _ => hE.trans (z5.mono fun _ _ e => e.elim), ?_⟩)
      all_goals (replace hE := hE.trans (z5.mono (S' := fun q => vF.ownBlock = some q ∨ vE.ownBlock = some q) fun _ _ e => e.elim)
                 try replace hoF := hoF.ext z5 (fun _ _ => nos)
                 try replace hoF6 := hoF6.ext z5 (fun _ _ => nos)
                 try replace hb3e := z5.obj hb3e nos
                 replace hoE := hoE.ext z5 (fun _ _ => nos)
                 replace hOk := And.intro (fun x hx => (hOk.1 x hx).ext0 z5) (fun x hx => (hOk.2 x hx).ext0 z5)
                 replace hC' := hC'.ext0 z5
                 replace hF := hF.ext0 z5)
      all_goals (refine WH.one 6 (by kernel_rfl) ?_; refine Comes1.run rfl (ok_append (sz := 10) (bytes := 160) rfl Tryz.underlying36 (show Tryz.prog.info? 27 = some Tryz.t27 by kernel_rfl) rfl rfl rfl rfl (by decide) rfl rfl hoF (rd_blk hb3e rfl) (by simp [Value.oneCell']) (by simp only [maxLen]; omega) (by omega)) rfl rfl rfl ?_ (fun _ => by kernel_rfl); rintro v6 g7 ⟨hoF6, z4, hl6⟩; refine ⟨fun _ => hE.trans (z4.mono fun _ _ e => .inl e), ?_⟩; have hs4f := hsf (S := fun q => vF.ownBlock = some q) (fun q e => .inl e) hoF hoE; have hgF := fresh_of hl6 fF (Nat.le_trans hsz4 hE.size); replace hE := hE.trans (z4.mono (S' := fun q => vF.ownBlock = some q ∨ vE.ownBlock = some q) fun _ _ e => .inl e); replace hoE := hoE.ext z4 (fun q hq e => own_apart hoF hoE (by decide) q hq e); replace hOk := And.intro (fun x hx => (hOk.1 x hx).step z4 hs4f) (fun x hx => (hOk.2 x hx).step z4 hs4f); replace hC' := hC'.step z4 hs4f; replace hF := hF.step z4 hs4f; try replace hb9e := z4.obj hb9e (fun q => own_ne hoF hb9e (by decide) q))
      all_goals (refine WH.one 10 (by kernel_rfl) ?_; refine Comes1.run rfl (ok_append (sz := 8) (bytes := 144) rfl Tryz.underlying37 (show Tryz.prog.info? 44 = some Tryz.t44 by kernel_rfl) rfl rfl rfl rfl (by decide) rfl rfl hoE (rd_blk hb9e rfl) (by simp [Value.oneCell']) (by simp only [maxLen]; omega) (by omega)) rfl rfl rfl ?_ (fun _ => by kernel_rfl); rintro v10 g9 ⟨hoE10, z6, hl10⟩; refine ⟨fun _ => hE.trans (z6.mono fun _ _ e => .inr e), ?_⟩; have hgE := fresh_of hl10 fE (Nat.le_trans hsz4 hE.size); (have hs6f : Sf h0 _ (fun q => vE.ownBlock = some q) := fun q e => ⟨Nat.le_trans (x0.trans X8).size (fE q e), fun ty => by obtain ⟨_, y⟩ := own_ty hoE e; exact absurd (ty_one y ty) (by decide)⟩); replace hE := hE.trans (z6.mono (S' := fun q => vF.ownBlock = some q ∨ vE.ownBlock = some q) fun _ _ e => .inr e); replace hoF6 := hoF6.ext z6 (fun q hq e => own_apart hoE hoF6 (by decide) q hq e); replace hOk := And.intro (fun x hx => (hOk.1 x hx).step z6 hs6f) (fun x hx => (hOk.2 x hx).step z6 hs6f); replace hC' := hC'.step z6 hs6f; replace hF := hF.step z6 hs6f; refine WH.tk 11 rfl (fun hq hC => ok_assign rfl) rfl rfl rfl ?_; refine WH.tk 12 rfl (fun hq hC => ok_assign rfl) rfl rfl rfl ?_; refine WH.done (by kernel_rfl) ?_)
      skip))
      skip))
      all_goals (first | (fail_if_success refine goB 5010 ?_) | (
      refine goB 5010 ?_
      all_goals (refine Comes1.run rfl (okE_buildSlice (vs := [_]) (cs := [_, _, _, _, _, _, _, _]) (fun | [.agg ⟨[a0, a1, a2, a3, a4, a5, a6, a7]⟩] => [a0, a1, a2, a3, a4, a5, a6, a7] | _ => []) Tryz.underlying37 rfl rfl (by kernel_rfl)) rfl rfl rfl ?_ (fun _ => by kernel_rfl); rintro _ g8 ⟨q9, rfl, hgq9, hb9e, z5⟩; refine ⟨fun _ => hE.trans (z5.mono fun _ _ e => e.elim), ?_⟩)
      all_goals (replace hE := hE.trans (z5.mono (S' := fun q => vF.ownBlock = some q ∨ vE.ownBlock = some q) fun _ _ e => e.elim)
                 try replace hoF := hoF.ext z5 (fun _ _ => nos)
                 try replace hoF6 := hoF6.ext z5 (fun _ _ => nos)
                 try replace hb3e := z5.obj hb3e nos
                 replace hoE := hoE.ext z5 (fun _ _ => nos)
                 replace hOk := And.intro (fun x hx => (hOk.1 x hx).ext0 z5) (fun x hx => (hOk.2 x hx).ext0 z5)
                 replace hC' := hC'.ext0 z5
                 replace hF := hF.ext0 z5)
      all_goals (refine WH.one 5 (by kernel_rfl) ?_; refine Comes1.run rfl (okE_buildSlice (vs := [_]) (cs := [_, _, _, _, _, _, _, _, _, _]) (fun | [.agg ⟨[a0, a1, a2, a3, a4, a5, a6, a7, a8, a9]⟩] => [a0, a1, a2, a3, a4, a5, a6, a7, a8, a9] | _ => []) Tryz.underlying36 rfl rfl (by kernel_rfl)) rfl rfl rfl ?_ (fun _ => by kernel_rfl); rintro _ g6 ⟨q3, rfl, hgq3, hb3e, z3⟩; refine ⟨fun _ => hE.trans (z3.mono fun _ _ e => e.elim), ?_⟩; replace hE := hE.trans (z3.mono (S' := fun q => vF.ownBlock = some q ∨ vE.ownBlock = some q) fun _ _ e => e.elim); replace hoF := hoF.ext z3 (fun _ _ => nos); replace hoE := hoE.ext z3 (fun _ _ => nos); replace hOk := And.intro (fun x hx => (hOk.1 x hx).ext0 z3) (fun x hx => (hOk.2 x hx).ext0 z3); replace hC' := hC'.ext0 z3; replace hF := hF.ext0 z3; try replace hb9e := z3.obj hb9e nos)
      all_goals (refine WH.one 6 (by kernel_rfl) ?_; refine Comes1.run rfl (ok_append (sz := 10) (bytes := 160) rfl Tryz.underlying36 (show Tryz.prog.info? 27 = some Tryz.t27 by kernel_rfl) rfl rfl rfl rfl (by decide) rfl rfl hoF (rd_blk hb3e rfl) (by simp [Value.oneCell']) (by simp only [maxLen]; omega) (by omega)) rfl rfl rfl ?_ (fun _ => by kernel_rfl); rintro v6 g7 ⟨hoF6, z4, hl6⟩; refine ⟨fun _ => hE.trans (z4.mono fun _ _ e => .inl e), ?_⟩; have hs4f := hsf (S := fun q => vF.ownBlock = some q) (fun q e => .inl e) hoF hoE; have hgF := fresh_of hl6 fF (Nat.le_trans hsz4 hE.size); replace hE := hE.trans (z4.mono (S' := fun q => vF.ownBlock = some q ∨ vE.ownBlock = some q) fun _ _ e => .inl e); replace hoE := hoE.ext z4 (fun q hq e => own_apart hoF hoE (by decide) q hq e); replace hOk := And.intro (fun x hx => (hOk.1 x hx).step z4 hs4f) (fun x hx => (hOk.2 x hx).step z4 hs4f); replace hC' := hC'.step z4 hs4f; replace hF := hF.step z4 hs4f; try replace hb9e := z4.obj hb9e (fun q => own_ne hoF hb9e (by decide) q))
      all_goals (refine WH.one 10 (by kernel_rfl) ?_; refine Comes1.run rfl (ok_append (sz := 8) (bytes := 144) rfl Tryz.underlying37 (show Tryz.prog.info? 44 = some Tryz.t44 by kernel_rfl) rfl rfl rfl rfl (by decide) rfl rfl hoE (rd_blk hb9e rfl) (by simp [Value.oneCell']) (by simp only [maxLen]; omega) (by omega)) rfl rfl rfl ?_ (fun _ => by kernel_rfl); rintro v10 g9 ⟨hoE10, z6, hl10⟩; refine ⟨fun _ => hE.trans (z6.mono fun _ _ e => .inr e), ?_⟩; have hgE := fresh_of hl10 fE (Nat.le_trans hsz4 hE.size); (have hs6f : Sf h0 _ (fun q => vE.ownBlock = some q) := fun q e => ⟨Nat.le_trans (x0.trans X8).size (fE q e), fun ty => by obtain ⟨_, y⟩ := own_ty hoE e; exact absurd (ty_one y ty) (by decide)⟩); replace hE := hE.trans (z6.mono (S' := fun q => vF.ownBlock = some q ∨ vE.ownBlock = some q) fun _ _ e => .inr e); replace hoF6 := hoF6.ext z6 (fun q hq e => own_apart hoE hoF6 (by decide) q hq e); replace hOk := And.intro (fun x hx => (hOk.1 x hx).step z6 hs6f) (fun x hx => (hOk.2 x hx).step z6 hs6f); replace hC' := hC'.step z6 hs6f; replace hF := hF.step z6 hs6f; refine WH.tk 11 rfl (fun hq hC => ok_assign rfl) rfl rfl rfl ?_; refine WH.tk 12 rfl (fun hq hC => ok_assign rfl) rfl rfl rfl ?_; refine WH.done (by kernel_rfl) ?_)
      skip))
      skip))
      all_goals (first | (fail_if_success refine goB 5010 ?_) | (
      refine goB 5010 ?_
      all_goals (refine Comes1.run rfl (okE_buildSlice (vs := [_]) (cs := [_, _, _, _, _, _, _, _]) (fun | [.agg ⟨[a0, a1, a2, a3, a4, a5, a6, a7]⟩] => [a0, a1, a2, a3, a4, a5, a6, a7] | _ => []) Tryz.underlying37 rfl rfl (by kernel_rfl)) rfl rfl rfl ?_ (fun _ => by kernel_rfl); rintro _ g8 ⟨q9, rfl, hgq9, hb9e, z5⟩; refine ⟨fun _ => hE.trans (z5.mono fun _ _ e => e.elim), ?_⟩)
      all_goals (replace hE := hE.trans (z5.mono (S' := fun q => vF.ownBlock = some q ∨ vE.ownBlock = some q) fun _ _ e => e.elim)
                 try replace hoF := hoF.ext z5 (fun _ _ => nos)
                 try replace hoF6 := hoF6.ext z5 (fun _ _ => nos)
                 try replace hb3e := z5.obj hb3e nos
                 replace hoE := hoE.ext z5 (fun _ _ => nos)
                 replace hOk := And.intro (fun x hx => (hOk.1 x hx).ext0 z5) (fun x hx => (hOk.2 x hx).ext0 z5)
                 replace hC' := hC'.ext0 z5
                 replace hF := hF.ext0 z5)
      all_goals (refine WH.one 4 (by kernel_rfl) ?_; refine Comes1.call (vs := [_, _]) rfl rfl (fun a w => Tryz.call84 a w) rfl (ka _ (srvL jd)) rfl rfl rfl ?_ (fun _ => by kernel_rfl); rintro _ g5 ⟨rfl, z2⟩; refine ⟨fun _ => hE.trans (z2.mono fun _ _ e => e.elim), ?_⟩; replace hE := hE.trans (z2.mono (S' := fun q => vF.ownBlock = some q ∨ vE.ownBlock = some q) fun _ _ e => e.elim); replace hoF := hoF.ext z2 (fun _ _ => nos); replace hoE := hoE.ext z2 (fun _ _ => nos); replace hOk := And.intro (fun x hx => (hOk.1 x hx).ext0 z2) (fun x hx => (hOk.2 x hx).ext0 z2); replace hC' := hC'.ext0 z2; replace hF := hF.ext0 z2; try replace hb9e := z2.obj hb9e nos)
      all_goals (refine WH.one 5 (by kernel_rfl) ?_; refine Comes1.run rfl (okE_buildSlice (vs := [_]) (cs := [_, _, _, _, _, _, _, _, _, _]) (fun | [.agg ⟨[a0, a1, a2, a3, a4, a5, a6, a7, a8, a9]⟩] => [a0, a1, a2, a3, a4, a5, a6, a7, a8, a9] | _ => []) Tryz.underlying36 rfl rfl (by kernel_rfl)) rfl rfl rfl ?_ (fun _ => by kernel_rfl); rintro _ g6 ⟨q3, rfl, hgq3, hb3e, z3⟩; refine ⟨fun _ => hE.trans (z3.mono fun _ _ e => e.elim), ?_⟩; replace hE := hE.trans (z3.mono (S' := fun q => vF.ownBlock = some q ∨ vE.ownBlock = some q) fun _ _ e => e.elim); replace hoF := hoF.ext z3 (fun _ _ => nos); replace hoE := hoE.ext z3 (fun _ _ => nos); replace hOk := And.intro (fun x hx => (hOk.1 x hx).ext0 z3) (fun x hx => (hOk.2 x hx).ext0 z3); replace hC' := hC'.ext0 z3; replace hF := hF.ext0 z3; try replace hb9e := z3.obj hb9e nos)
      all_goals (refine WH.one 6 (by kernel_rfl) ?_; refine Comes1.run rfl (ok_append (sz := 10) (bytes := 160) rfl Tryz.underlying36 (show Tryz.prog.info? 27 = some Tryz.t27 by kernel_rfl) rfl rfl rfl rfl (by decide) rfl rfl hoF (rd_blk hb3e rfl) (by simp [Value.oneCell']) (by simp only [maxLen]; omega) (by omega)) rfl rfl rfl ?_ (fun _ => by kernel_rfl); rintro v6 g7 ⟨hoF6, z4, hl6⟩; refine ⟨fun _ => hE.trans (z4.mono fun _ _ e => .inl e), ?_⟩; have hs4f := hsf (S := fun q => vF.ownBlock = some q) (fun q e => .inl e) hoF hoE; have hgF := fresh_of hl6 fF (Nat.le_trans hsz4 hE.size); replace hE := hE.trans (z4.mono (S' := fun q => vF.ownBlock = some q ∨ vE.ownBlock = some q) fun _ _ e => .inl e); replace hoE := hoE.ext z4 (fun q hq e => own_apart hoF hoE (by decide) q hq e); replace hOk := And.intro (fun x hx => (hOk.1 x hx).step z4 hs4f) (fun x hx => (hOk.2 x hx).step z4 hs4f); replace hC' := hC'.step z4 hs4f; replace hF := hF.step z4 hs4f; try replace hb9e := z4.obj hb9e (fun q => own_ne hoF hb9e (by decide) q))
      all_goals (refine WH.one 10 (by kernel_rfl) ?_; refine Comes1.run rfl (ok_append (sz := 8) (bytes := 144) rfl Tryz.underlying37 (show Tryz.prog.info? 44 = some Tryz.t44 by kernel_rfl) rfl rfl rfl rfl (by decide) rfl rfl hoE (rd_blk hb9e rfl) (by simp [Value.oneCell']) (by simp only [maxLen]; omega) (by omega)) rfl rfl rfl ?_ (fun _ => by kernel_rfl); rintro v10 g9 ⟨hoE10, z6, hl10⟩; refine ⟨fun _ => hE.trans (z6.mono fun _ _ e => .inr e), ?_⟩; have hgE := fresh_of hl10 fE (Nat.le_trans hsz4 hE.size); (have hs6f : Sf h0 _ (fun q => vE.ownBlock = some q) := fun q e => ⟨Nat.le_trans (x0.trans X8).size (fE q e), fun ty => by obtain ⟨_, y⟩ := own_ty hoE e; exact absurd (ty_one y ty) (by decide)⟩); replace hE := hE.trans (z6.mono (S' := fun q => vF.ownBlock = some q ∨ vE.ownBlock = some q) fun _ _ e => .inr e); replace hoF6 := hoF6.ext z6 (fun q hq e => own_apart hoE hoF6 (by decide) q hq e); replace hOk := And.intro (fun x hx => (hOk.1 x hx).step z6 hs6f) (fun x hx => (hOk.2 x hx).step z6 hs6f); replace hC' := hC'.step z6 hs6f; replace hF := hF.step z6 hs6f; refine WH.tk 11 rfl (fun hq hC => ok_assign rfl) rfl rfl rfl ?_; refine WH.tk 12 rfl (fun hq hC => ok_assign rfl) rfl rfl rfl ?_; refine WH.done (by kernel_rfl) ?_)
      skip))
      all_goals (refine Gn ?_; refine Gs [(2, _), (3, _)] ?_; refine Gt ?_)
      all_goals (have hdf := dd4.keep hE (fun q e => e.elim (fun z => (own_ty kF z).elim fun _ y => ⟨_, _, y, by decide⟩) (fun z => (own_ty kE z).elim fun _ y => ⟨_, _, y, by decide⟩))
                 have hg := gives_snoc (h := h8) hoF6 hoE10 hL2 hM2 hOk.1 hOk.2 (hfl _ hF (srvL jd)) (rE_ok (k := K) (a := srvL jd) (d := n) (lst_all tops_nil) (lst_all tops_nil) hC') hgF hgE
                 rw [p1, p2, hpl] at hg
                 exact ⟨hg.from s8, hdf.up (by omega) (by omega), XX4.trans' hE (fun q hq e => absurd (Nat.lt_of_lt_of_le hq s8) (Nat.not_lt.2 (e.elim (fF q) (fE q))))⟩)
end
end Go.Proofs.YtggmocdbfbhklaaGreat


/-
  TABLE (layer 15): what each function of package table does, told by the map that the table holds.
-/
namespace Go.Proofs.YtggmocdbfbhklaaGreat
open Go Go.RK


/-- A table at block b whose map lies at block m and holds es. -/
structure Tb (h : Heap) (b m : Nat) (most : Int) (es : List (List UInt8 × Value)) : Prop where
  cells : h[b]? = some (.cells ⟨[.map (some m), In most]⟩ 107 (0, 0))
  map : Mp .string St h m es
theorem Tb.ne {h : Heap} {b m : Nat} {most : Int} {es : List (List UInt8 × Value)} (t : Tb h b m most es) : b ≠ m := by
  rintro rfl
  obtain ⟨arr, clock, hb, _⟩ := t.map
  have := t.cells
  rw [hb] at this
  cases this
theorem Tb.ext {S : Nat → Prop} {h h' : Heap} {b m : Nat} {most : Int} {es : List (List UInt8 × Value)} (t : Tb h b m most es) (a : Ext S h h') (h1 : ¬ S b) (h2 : ¬ S m) : Tb h' b m most es := ⟨a.obj t.cells h1, t.map.ext a h2⟩
theorem Tb.turn {h h' : Heap} {b m : Nat} {most : Int} {es es' : List (List UInt8 × Value)} (t : Tb h b m most es) (hm : Mp .string St h' m es') (a : Ext (fun k => k = m) h h') : Tb h' b m most es' := ⟨a.obj t.cells t.ne, hm⟩

set_option maxHeartbeats 2000000 in
set_option maxRecDepth 100000 in
theorem ready_yes {h : Heap} {b m : Nat} {v : Value} (hb : h[b]? = some (.cells ⟨[.map (some m), v]⟩ 107 (0, 0))) :
    CallsH Tryz.prog 50 ⟨[.pointer (some ⟨b, 0, none⟩)]⟩ h fun u h' => u = .bool true ∧ h' = h := by
  refine calls [(0, _)] Tryz.func50 rfl Tryz.ntmps50 rfl ⟨rfl, trivial⟩ ?_
  all_goals (refine WC.sr ?_; refine Go ?_; refine WC.sr ?_; refine Go ?_; refine WL.step (ok_neqPn Tryz.underlying29 rfl rfl) rfl rfl rfl ?_; refine Go ?_; refine goP 5 ?_ TT.mk; refine Gg ?_; refine WL.step (ok_nilCheck rfl) rfl rfl rfl ?_; refine Gg ?_; refine Ld ?_; refine WL.step (ok_neqMn Tryz.underlying103 rfl rfl) rfl rfl rfl ?_; refine Go ?_; refine Gs [(2, _)] ?_; refine Gt ?_; exact ⟨rfl, rfl⟩)
set_option maxHeartbeats 2000000 in
set_option maxRecDepth 100000 in
theorem get_yes {h : Heap} {b m : Nat} {most : Int} {es : List (List UInt8 × Value)} (t : Tb h b m most es) (name : List UInt8) {v : Value} (hv : alook es name = some v) :
    CallsH Tryz.prog 54 ⟨[.pointer (some ⟨b, 0, none⟩), St name]⟩ h fun u h' => u = .tuple ⟨[v, .bool true]⟩ ∧ h' = h := by
  obtain ⟨hb, hm⟩ := t
  refine calls [(0, _), (1, _)] Tryz.func54 rfl Tryz.ntmps54 rfl ⟨rfl, rfl, trivial⟩ ?_
  all_goals (refine WC.sr ?_; refine Go ?_; refine WC.seq ?_; refine WC.sr ?_; refine Go ?_; refine WL.call (vs := [_]) rfl (fun a w => Tryz.call50 a w) rfl (ready_yes hb) rfl rfl rfl ?_; rintro _ hz ⟨rfl, _⟩; subst hz; refine Go ?_; refine Gs [(0, _), (1, _), (10, _)] ?_; refine goC 1 2 ?_ TT.mk; refine goB 2 ?_; refine WC.skip ?_; refine Gn ?_; refine WC.sr ?_; refine Go ?_; refine WL.step (ok_nilCheck rfl) rfl rfl rfl ?_; refine Go ?_; refine Ld ?_; refine Go ?_; refine WL.step ((ok_lookup keyS Tryz.underlying103 Tryz.underlying9 rfl rfl (by assumption) (by assumption)).1) rfl rfl rfl ?_; refine Go ?_; refine Gs [(6, _), (7, _)] ?_; refine WC.sr ?_; refine Go ?_; refine Gs [(4, _), (5, _)] ?_; refine Gt ?_; exact ⟨rfl, rfl⟩)
set_option maxHeartbeats 2000000 in
set_option maxRecDepth 100000 in
theorem get_no {h : Heap} {b m : Nat} {most : Int} {es : List (List UInt8 × Value)} (t : Tb h b m most es) (name : List UInt8) (hv : alook es name = none) :
    CallsH Tryz.prog 54 ⟨[.pointer (some ⟨b, 0, none⟩), St name]⟩ h fun u h' => u = .tuple ⟨[In 0, .bool false]⟩ ∧ h' = h := by
  obtain ⟨hb, hm⟩ := t
  refine calls [(0, _), (1, _)] Tryz.func54 rfl Tryz.ntmps54 rfl ⟨rfl, rfl, trivial⟩ ?_
  all_goals (refine WC.sr ?_; refine Go ?_; refine WC.seq ?_; refine WC.sr ?_; refine Go ?_; refine WL.call (vs := [_]) rfl (fun a w => Tryz.call50 a w) rfl (ready_yes hb) rfl rfl rfl ?_; rintro _ hz ⟨rfl, _⟩; subst hz; refine Go ?_; refine Gs [(0, _), (1, _), (10, _)] ?_; refine goC 1 2 ?_ TT.mk; refine goB 2 ?_; refine WC.skip ?_; refine Gn ?_; refine WC.sr ?_; refine Go ?_; refine WL.step (ok_nilCheck rfl) rfl rfl rfl ?_; refine Go ?_; refine Ld ?_; refine Go ?_; refine WL.step ((ok_lookup_no keyS Tryz.underlying103 Tryz.underlying9 (fun w => Tryz.zeroValue3 w) rfl rfl (by assumption) (by assumption)).1) rfl rfl rfl ?_; refine Go ?_; refine Gs [(6, _), (7, _)] ?_; refine WC.sr ?_; refine Go ?_; refine Gs [(4, _), (5, _)] ?_; refine Gt ?_; exact ⟨rfl, rfl⟩)
set_option maxHeartbeats 2000000 in
set_option maxRecDepth 100000 in
theorem set_there {h : Heap} {b m : Nat} {most : Int} {es : List (List UInt8 × Value)} (t : Tb h b m most es) (name : List UInt8) (id : Value) {v : Value} (hv : alook es name = some v) :
    CallsH Tryz.prog 23 ⟨[.pointer (some ⟨b, 0, none⟩), St name, id]⟩ h fun u h' => u = .tuple ⟨[v, In 0]⟩ ∧ Tb h' b m most (aput es name id) ∧ Ext (fun k => k = m) h h' := by
  have t0 := t
  obtain ⟨hb, hm⟩ := t
  refine calls [(0, _), (1, _), (2, _)] Tryz.func23 rfl Tryz.ntmps23 rfl ⟨rfl, rfl, rfl, trivial⟩ ?_
  all_goals (refine WC.sr ?_; refine Go ?_; refine WC.seq ?_; refine WC.sr ?_; refine Go ?_; refine WL.call (vs := [_]) rfl (fun a w => Tryz.call50 a w) rfl (ready_yes hb) rfl rfl rfl ?_; rintro _ hz ⟨rfl, _⟩; subst hz; refine Go ?_; refine Gs [(0, _), (1, _), (2, _), (12, _)] ?_; refine goC 1 2 ?_ TT.mk; refine goB 2 ?_; refine WC.skip ?_; refine Gn ?_; refine WC.sr ?_; refine Go ?_; refine WL.step (ok_nilCheck rfl) rfl rfl rfl ?_; refine Go ?_; refine Ld ?_; refine Go ?_; refine WL.step ((ok_lookup keyS Tryz.underlying103 Tryz.underlying9 rfl rfl (by assumption) (by assumption)).1) rfl rfl rfl ?_; refine Go ?_; refine Gs [(0, _), (1, _), (2, _), (8, _), (9, _)] ?_; refine WC.seq ?_; refine WC.seq ?_; refine WC.drawE fol (by kernel_rfl) ?_; refine WQ.stepE (ok_move rfl) rfl rfl rfl ?_; refine WQ.stepE (ok_not rfl) rfl rfl rfl ?_; refine WQ.stepE (ok_move rfl) rfl rfl rfl ?_; try ((fail_if_success (refine WQ.part 24 (b := true) rfl (fun _ => ?_) (fun _ => ?_))); (fail_if_success (refine WQ.part 24 (b := false) rfl (fun _ => ?_) (fun _ => ?_))); (refine WQ.part 24 rfl (fun hb => ?_) (fun hb => ?_) <;> (first | replace hb := of_decide_eq_true hb | replace hb := of_decide_eq_false hb | replace hb := of_decide_eq_false (nt hb) | replace hb := of_decide_eq_true (nf hb) | skip))))
  all_goals (refine WQ.pass rfl rfl rfl ?_; refine WQ.pass rfl rfl rfl ?_; refine WQ.pass rfl rfl rfl ?_; refine WQ.pass rfl rfl rfl ?_; refine WQ.pass rfl rfl rfl ?_; refine WQ.pass rfl rfl rfl ?_; refine WQ.pass rfl rfl rfl ?_; refine WQ.pass rfl rfl rfl ?_; refine WQ.pass rfl rfl rfl ?_; refine WQ.pass rfl rfl rfl ?_; refine WQ.stepE (ok_pick_f rfl rfl) rfl rfl rfl ?_; refine WQ.nil ?_; refine Gn ?_; refine Gs [(0, _), (1, _), (2, _), (8, _), (35, _)] ?_; refine goC 3 4 ?_ TT.mk; refine goB 4 ?_; refine WC.skip ?_; refine Gn ?_; refine WC.sr ?_; refine Go ?_; refine WL.step (ok_nilCheck rfl) rfl rfl rfl ?_; refine Go ?_; refine Ld ?_; refine Go ?_; refine WL.stepR0 (ok_mapUpdate keyS Tryz.underlying103 Tryz.underlying9 rfl rfl rfl (by assumption)) rfl rfl ?_; rintro _ h1 ⟨hm1, hx1⟩; refine Gn ?_; refine Gs [(8, _)] ?_; refine WC.sr ?_; refine Go ?_; refine Gt ?_; exact ⟨rfl, t0.turn hm1 hx1, hx1⟩)
set_option maxHeartbeats 2000000 in
set_option maxRecDepth 100000 in
theorem set_new_ {h : Heap} {b m : Nat} {most : Int} {es : List (List UInt8 × Value)} (t : Tb h b m most es) (name : List UInt8) (id : Value) (hv : alook es name = none) (hl : (es.length : Int) < most) :
    CallsH Tryz.prog 23 ⟨[.pointer (some ⟨b, 0, none⟩), St name, id]⟩ h fun u h' => u = .tuple ⟨[In 0, In 0]⟩ ∧ Tb h' b m most (aput es name id) ∧ Ext (fun k => k = m) h h' := by
  have t0 := t
  obtain ⟨hb, hm⟩ := t
  refine calls [(0, _), (1, _), (2, _)] Tryz.func23 rfl Tryz.ntmps23 rfl ⟨rfl, rfl, rfl, trivial⟩ ?_
  all_goals (refine WC.sr ?_; refine Go ?_; refine WC.seq ?_; refine WC.sr ?_; refine Go ?_; refine WL.call (vs := [_]) rfl (fun a w => Tryz.call50 a w) rfl (ready_yes hb) rfl rfl rfl ?_; rintro _ hz ⟨rfl, _⟩; subst hz; refine Go ?_; refine Gs [(0, _), (1, _), (2, _), (12, _)] ?_; refine goC 1 2 ?_ TT.mk; refine goB 2 ?_; refine WC.skip ?_; refine Gn ?_; refine WC.sr ?_; refine Go ?_; refine WL.step (ok_nilCheck rfl) rfl rfl rfl ?_; refine Go ?_; refine Ld ?_; refine Go ?_; refine WL.step ((ok_lookup_no keyS Tryz.underlying103 Tryz.underlying9 (fun w => Tryz.zeroValue3 w) rfl rfl (by assumption) (by assumption)).1) rfl rfl rfl ?_; refine Go ?_; refine Gs [(0, _), (1, _), (2, _), (8, _), (9, _)] ?_; refine WC.seq ?_; refine WC.seq ?_; refine WC.drawE fol (by kernel_rfl) ?_; refine WQ.stepE (ok_move rfl) rfl rfl rfl ?_; refine WQ.stepE (ok_not rfl) rfl rfl rfl ?_; refine WQ.stepE (ok_move rfl) rfl rfl rfl ?_; try ((fail_if_success (refine WQ.part 24 (b := true) rfl (fun _ => ?_) (fun _ => ?_))); (fail_if_success (refine WQ.part 24 (b := false) rfl (fun _ => ?_) (fun _ => ?_))); (refine WQ.part 24 rfl (fun hb => ?_) (fun hb => ?_) <;> (first | replace hb := of_decide_eq_true hb | replace hb := of_decide_eq_false hb | replace hb := of_decide_eq_false (nt hb) | replace hb := of_decide_eq_true (nf hb) | skip))))
  all_goals (refine WQ.stepE (ok_move rfl) rfl rfl rfl ?_; refine WQ.stepE (ok_nilCheck rfl) rfl rfl rfl ?_; refine WQ.stepE (ok_fieldAddr rfl Tryz.underlying107 rfl (fun w => Tryz.sizeOf103 w)) rfl rfl rfl ?_; refine WQ.stepE (ok_load (fun w => Tryz.isAgg103 w) rfl (by first | assumption | exact cell_blk (by assumption) rfl)) rfl rfl rfl ?_; refine WQ.stepE (ok_lenM rfl Tryz.underlying103 rfl (by assumption)) rfl rfl rfl ?_; refine WQ.stepE (ok_move rfl) rfl rfl rfl ?_; refine WQ.stepE (ok_nilCheck rfl) rfl rfl rfl ?_; refine WQ.stepE (ok_fieldAddr rfl Tryz.underlying107 rfl (fun w => Tryz.sizeOf3 w)) rfl rfl rfl ?_; refine WQ.stepE (ok_load (fun w => Tryz.isAgg3 w) rfl (by first | assumption | exact cell_blk (by assumption) rfl)) rfl rfl rfl ?_; refine WQ.stepE (OkP.bool_f (by omega) (ok_geq rfl rfl)) rfl rfl rfl ?_; refine WQ.stepE (ok_pick_t rfl rfl) rfl rfl rfl ?_; refine WQ.nil ?_; refine Gn ?_; refine Gs [(0, _), (1, _), (2, _), (8, _), (35, _)] ?_; refine goC 3 4 ?_ TT.mk; refine goB 4 ?_; refine WC.skip ?_; refine Gn ?_; refine WC.sr ?_; refine Go ?_; refine WL.step (ok_nilCheck rfl) rfl rfl rfl ?_; refine Go ?_; refine Ld ?_; refine Go ?_; refine WL.stepR0 (ok_mapUpdate keyS Tryz.underlying103 Tryz.underlying9 rfl rfl rfl (by assumption)) rfl rfl ?_; rintro _ h1 ⟨hm1, hx1⟩; refine Gn ?_; refine Gs [(8, _)] ?_; refine WC.sr ?_; refine Go ?_; refine Gt ?_; exact ⟨rfl, t0.turn hm1 hx1, hx1⟩)
set_option maxHeartbeats 2000000 in
set_option maxRecDepth 100000 in
theorem set_full {h : Heap} {b m : Nat} {most : Int} {es : List (List UInt8 × Value)} (t : Tb h b m most es) (name : List UInt8) (id : Value) (hv : alook es name = none) (hl : most ≤ (es.length : Int)) :
    CallsH Tryz.prog 23 ⟨[.pointer (some ⟨b, 0, none⟩), St name, id]⟩ h fun u h' => u = .tuple ⟨[In 0, In 6]⟩ ∧ h' = h := by
  have t0 := t
  obtain ⟨hb, hm⟩ := t
  refine calls [(0, _), (1, _), (2, _)] Tryz.func23 rfl Tryz.ntmps23 rfl ⟨rfl, rfl, rfl, trivial⟩ ?_
  all_goals (refine WC.sr ?_; refine Go ?_; refine WC.seq ?_; refine WC.sr ?_; refine Go ?_; refine WL.call (vs := [_]) rfl (fun a w => Tryz.call50 a w) rfl (ready_yes hb) rfl rfl rfl ?_; rintro _ hz ⟨rfl, _⟩; subst hz; refine Go ?_; refine Gs [(0, _), (1, _), (2, _), (12, _)] ?_; refine goC 1 2 ?_ TT.mk; refine goB 2 ?_; refine WC.skip ?_; refine Gn ?_; refine WC.sr ?_; refine Go ?_; refine WL.step (ok_nilCheck rfl) rfl rfl rfl ?_; refine Go ?_; refine Ld ?_; refine Go ?_; refine WL.step ((ok_lookup_no keyS Tryz.underlying103 Tryz.underlying9 (fun w => Tryz.zeroValue3 w) rfl rfl (by assumption) (by assumption)).1) rfl rfl rfl ?_; refine Go ?_; refine Gs [(0, _), (1, _), (2, _), (8, _), (9, _)] ?_; refine WC.seq ?_; refine WC.seq ?_; refine WC.drawE fol (by kernel_rfl) ?_; refine WQ.stepE (ok_move rfl) rfl rfl rfl ?_; refine WQ.stepE (ok_not rfl) rfl rfl rfl ?_; refine WQ.stepE (ok_move rfl) rfl rfl rfl ?_; try ((fail_if_success (refine WQ.part 24 (b := true) rfl (fun _ => ?_) (fun _ => ?_))); (fail_if_success (refine WQ.part 24 (b := false) rfl (fun _ => ?_) (fun _ => ?_))); (refine WQ.part 24 rfl (fun hb => ?_) (fun hb => ?_) <;> (first | replace hb := of_decide_eq_true hb | replace hb := of_decide_eq_false hb | replace hb := of_decide_eq_false (nt hb) | replace hb := of_decide_eq_true (nf hb) | skip))))
  all_goals (refine WQ.stepE (ok_move rfl) rfl rfl rfl ?_; refine WQ.stepE (ok_nilCheck rfl) rfl rfl rfl ?_; refine WQ.stepE (ok_fieldAddr rfl Tryz.underlying107 rfl (fun w => Tryz.sizeOf103 w)) rfl rfl rfl ?_; refine WQ.stepE (ok_load (fun w => Tryz.isAgg103 w) rfl (by first | assumption | exact cell_blk (by assumption) rfl)) rfl rfl rfl ?_; refine WQ.stepE (ok_lenM rfl Tryz.underlying103 rfl (by assumption)) rfl rfl rfl ?_; refine WQ.stepE (ok_move rfl) rfl rfl rfl ?_; refine WQ.stepE (ok_nilCheck rfl) rfl rfl rfl ?_; refine WQ.stepE (ok_fieldAddr rfl Tryz.underlying107 rfl (fun w => Tryz.sizeOf3 w)) rfl rfl rfl ?_; refine WQ.stepE (ok_load (fun w => Tryz.isAgg3 w) rfl (by first | assumption | exact cell_blk (by assumption) rfl)) rfl rfl rfl ?_; refine WQ.stepE (OkP.bool_t (by omega) (ok_geq rfl rfl)) rfl rfl rfl ?_; refine WQ.stepE (ok_pick_t rfl rfl) rfl rfl rfl ?_; refine WQ.nil ?_; refine Gn ?_; refine Gs [(0, _), (1, _), (2, _), (8, _), (35, _)] ?_; refine goC 3 4 ?_ TT.mk; refine goB 3 ?_; refine WC.sr ?_; refine Go ?_; refine Gs [(6, _), (7, _)] ?_; refine Gt ?_; exact ⟨rfl, rfl⟩)
set_option maxHeartbeats 2000000 in
set_option maxRecDepth 100000 in
theorem new_yes {h : Heap} (most : Int) (h0 : 1 ≤ most) (h1 : most ≤ 4096) :
    CallsH Tryz.prog 19 ⟨[In most]⟩ h fun u h' => ∃ b m, u = .tuple ⟨[.pointer (some ⟨b, 0, none⟩), In 0]⟩ ∧ Tb h' b m most [] ∧ h.size ≤ b ∧ h.size ≤ m ∧ Ext No h h' := by
  refine calls [(0, _)] Tryz.func19 rfl Tryz.ntmps19 rfl ⟨rfl, trivial⟩ ?_
  all_goals (refine WC.sr ?_; refine Go ?_; refine WC.seq ?_; refine WC.sr ?_; refine Go ?_; refine goP 6 ?_ TT.mk; refine Gg ?_; refine Go ?_; refine Gs [(0, _), (9, _)] ?_; refine goC 1 2 ?_ TT.mk; refine goB 2 ?_; refine WC.skip ?_; refine Gn ?_; refine WC.sr ?_; refine WL.stepR okE_makeMap rfl rfl rfl ?_; rintro _ h1 ⟨m1, rfl, hgm, hm1, hxm⟩; refine Go ?_; refine WL.step (ok_buildF (vs := [_, _]) (cs := [_, _]) (fun | [a0, a1] => [a0, a1] | _ => []) rfl rfl (by kernel_rfl)) rfl rfl rfl ?_; refine WL.stepR (okE_box rfl) rfl rfl rfl ?_; rintro _ h2 ⟨b1, rfl, hg1, hb1, hx1⟩; refine Go ?_; refine Gs [(2, _), (3, _)] ?_; refine Gt ?_; exact ⟨_, _, rfl, ⟨hb1, ⟨_, _, hx1.obj hm1 id, MapKept.stamped_empty 0, rfl⟩⟩, Nat.le_trans hxm.size hg1, hgm, hxm.trans hx1⟩)
end Go.Proofs.YtggmocdbfbhklaaGreat


/-
  TABLE (layer 15): the document's: a list of names, rising.
-/
namespace Go.Proofs.YtggmocdbfbhklaaGreat
open Go Go.RK

abbrev NJ := List UInt8 × Int
abbrev njC (p : NJ) : List Value := [St p.1, In p.2]
theorem njC_len (p : NJ) : (njC p).length = 2 := rfl
theorem njs_one {l : List NJ} : ∀ v ∈ l.flatMap njC, v.oneCell' = true := fun v hv => by
  obtain ⟨p, _, hp⟩ := List.mem_flatMap.1 hv
  simp only [njC, List.mem_cons, List.not_mem_nil, or_false] at hp
  rcases hp with rfl | rfl <;> rfl
/-- The document's table at block b; its row is its own. -/
structure Rf (h : Heap) (b : Nat) (v : Value) (most : Int) (L : List NJ) : Prop where
  blk : h[b]? = some (.cells ⟨[v, In most]⟩ 110 (0, 0))
  own : Own h v 115 2 L.length (L.flatMap njC)
section
variable {h h' : Heap} {b : Nat} {v : Value} {most : Int} {L : List NJ}
theorem Rf.ne (r : Rf h b v most L) : v.ownBlock ≠ some b := fun e => by
  obtain ⟨_, ⟨e1, _⟩ | ⟨g, cap, cur, e1, hg, _⟩⟩ := r.own
  · rw [e1] at e; cases e
  · rw [e1] at e
    simp only [Value.ownBlock, Option.some.injEq] at e
    have e2 : g = b := by simpa using e
    rw [e2, r.blk] at hg
    simp at hg
theorem Rf.ext {S : Nat → Prop} (r : Rf h b v most L) (a : Ext S h h') (h1 : ¬ S b) (h2 : ∀ q, v.ownBlock = some q → ¬ S q) : Rf h' b v most L := ⟨a.obj r.blk h1, r.own.ext a h2⟩
theorem Rf.ext0 (r : Rf h b v most L) (a : Ext No h h') : Rf h' b v most L := r.ext a nos (fun _ _ => nos)
set_option maxHeartbeats 2000000 in
set_option maxRecDepth 100000 in
theorem new15_yes (h0 : 1 ≤ most) (h1 : most ≤ 4096) :
    CallsH Tryz.prog 20 ⟨[In most]⟩ h fun u h' => ∃ b, u = .tuple ⟨[.pointer (some ⟨b, 0, none⟩), In 0]⟩ ∧ Rf h' b (.slice none 0 0) most [] ∧ h.size ≤ b ∧ Ext No h h' := by
  refine calls [(0, _)] Tryz.func20 rfl Tryz.ntmps20 rfl ⟨rfl, trivial⟩ ?_
  all_goals (refine WC.sr ?_; refine Go ?_; refine WC.seq ?_; refine WC.sr ?_; refine Go ?_; refine goP 6 ?_ TT.mk; refine Gg ?_; refine Go ?_; refine Gs [(0, _), (9, _)] ?_; refine goC 1 2 ?_ TT.mk; refine goB 2 ?_; refine WC.skip ?_; refine Gn ?_; refine WC.sr ?_; refine Go ?_; refine WL.step (ok_buildF (vs := [_]) (cs := [_, _]) (fun | [a1] => [(.slice none 0 0), a1] | _ => []) rfl rfl (by kernel_rfl)) rfl rfl rfl ?_; refine WL.stepR (okE_box rfl) rfl rfl rfl ?_; rintro _ h1 ⟨b1, rfl, hg1, hb1, hx1⟩; refine Go ?_; refine Gs [(2, _), (3, _)] ?_; refine Gt ?_; exact ⟨_, rfl, ⟨hb1, Own.nil _ _ _⟩, hg1, hx1⟩)
set_option maxHeartbeats 2000000 in
set_option maxRecDepth 100000 in
theorem get15 (r : Rf h b v most L) (hri : Rise L) (hl : L.length ≤ 1000000) (n : List UInt8) :
    CallsH Tryz.prog 65 ⟨[.pointer (some ⟨b, 0, none⟩), St n]⟩ h fun u h' => u = .tuple ⟨[In ((getL L n).getD 0), .bool (getL L n).isSome]⟩ ∧ h' = h := by
  obtain ⟨hB0, ho⟩ := r
  obtain ⟨A, c, rfl, _⟩ := ho.slice
  refine calls [(0, _), (1, _)] Tryz.func65 rfl Tryz.ntmps65 rfl ⟨rfl, rfl, trivial⟩ ?_
  all_goals (refine WC.sr ?_; refine Go ?_; refine WC.seq ?_; refine WC.sr ?_; refine Go ?_; refine WC.block ?_)
  -- loop 0: slots that turn [6], that stay [0, 1]
  all_goals (refine WC.loopG (X := Nat) (fun x => ([(6, In (x : Int))] : Fr)) [(0, _), (1, _)] (fun k h' => h' = h ∧ k ≤ L.length ∧ ∀ p ∈ L.take k, p.1 ≠ n) (fun k => L.length - k) (0) ⟨rfl, rfl, rfl, trivial⟩ (by exact ⟨rfl, Nat.zero_le _, by simp⟩) ?_; rintro k h9 ⟨hz, hk, hn⟩; subst h9; refine WC.sub [(6, _), (0, _), (1, _)] ⟨rfl, rfl, rfl, trivial⟩ ?_; refine WC.seq ?_; refine WC.sr ?_; refine Go ?_; refine WL.step (ok_nilCheck rfl) rfl rfl rfl ?_; refine Go ?_; refine Ld ?_; refine Go ?_; refine Gs [(0, _), (1, _), (6, _), (13, _)] ?_; refine goC 1 2 (Hb.mk fun hb => ?_) (Hb.mk fun hb => ?_))
  all_goals (first | (fail_if_success refine goB 1 ?_) | (
  refine goB 1 ?_
  all_goals (refine WC.skip ?_)
  skip))
  all_goals (first | (fail_if_success refine goB 2 ?_) | (
  refine goB 2 ?_
  all_goals (refine WC.exit ?_; repeat' (with_reducible first | refine thenP_x ?_ | refine blockP_miss rfl ?_ | refine blockP_hit ?_ | refine blockP_n ?_ | refine thenP_n ?_))
  all_goals (refine Br.out (i := 1000) ?_)
  skip))
  all_goals (refine Gn ?_; first | (refine Br.keep ?_) | (refine WC.seq ?_))
  all_goals (first | (refine Br.keep ?_) | (refine WC.block ?_))
  all_goals (first | (refine Br.keep ?_) | (refine WC.sr ?_))
  all_goals (first
               | (refine Br.keep ?_)
               | (obtain ⟨bL, oL, hA, hbL, hat⟩ := Rd.at_ ho.rd (by omega)
                  obtain ⟨⟨ya, yb⟩, hy⟩ : ∃ y, L[k]? = some y := ⟨_, List.getElem?_eq_getElem (by omega)⟩
                  have hc : At h bL (oL + k * 2) [St ya, In yb] := At.elem njC_len hat hy))
  all_goals (first | (refine Br.keep ?_) | (refine WL.step (ok_move rfl) rfl rfl rfl ?_))
  all_goals (first | (refine Br.keep ?_) | (refine WL.step (ok_nilCheck rfl) rfl rfl rfl ?_))
  all_goals (refine Go ?_; first | (refine Br.keep ?_) | (refine Ld ?_))
  all_goals (refine Go ?_; first | (refine Br.keep ?_) | (refine WL.step (ok_idxAddrA Tryz.underlying108 (fun w => Tryz.sizeOf115 w) rfl rfl rfl (by omega) (by first | rfl | assumption)) rfl rfl rfl ?_))
  all_goals (refine Go ?_; first | (refine Br.keep ?_) | (refine WL.ld rfl (by first | exact hc.get 0 rfl rfl | assumption | exact cell_blk (by assumption) rfl) rfl rfl rfl ?_))
  all_goals (first | (refine Br.keep ?_) | (refine WL.step (ok_move rfl) rfl rfl rfl ?_))
  all_goals (first | (refine Br.keep ?_) | (refine WL.step (ok_eqlS rfl rfl) rfl rfl rfl ?_))
  all_goals (refine Gn ?_; first | (refine Br.keep ?_) | (refine Gs [(0, _), (1, _), (6, _), (25, _)] ?_))
  all_goals (first | (refine Br.keep ?_) | (refine goC 3 4 (Hb.mk fun hb => ?_) (Hb.mk fun hb => ?_)))
  all_goals (first | (fail_if_success refine goB 3 ?_) | (
  refine goB 3 ?_
  all_goals (refine WC.sr ?_; refine Go ?_; refine WL.step (ok_nilCheck rfl) rfl rfl rfl ?_; refine Go ?_; refine Ld ?_; refine Go ?_; refine WL.step (ok_idxAddrA Tryz.underlying108 (fun w => Tryz.sizeOf115 w) rfl rfl rfl (by omega) (by first | rfl | assumption)) rfl rfl rfl ?_; refine Go ?_; refine WL.ld rfl (by first | exact hc.get 1 rfl rfl | assumption | exact cell_blk (by assumption) rfl) rfl rfl rfl ?_; refine Go ?_; refine Gs [(4, _), (5, _)] ?_; refine Gt ?_)
  all_goals (first
              | (subst ya; rw [getL_hit hri hy]; exact ⟨rfl, rfl⟩)
              | (rw [getL_out hn (by omega)]; exact ⟨rfl, rfl⟩))
  skip))
  all_goals (first | (fail_if_success refine goB 4 ?_) | (
  refine goB 4 ?_
  all_goals (refine WC.skip ?_)
  skip))
  all_goals (refine Gn ?_; first | (refine Br.keep ?_) | (refine WC.region ?_))
  all_goals (refine Go ?_; first | (refine Br.keep ?_) | (exact ⟨k + 1, ⟨rfl, rfl, rfl, trivial⟩, (by exact ⟨rfl, by omega, take_ne hn hy (by assumption)⟩), (by omega)⟩))
  all_goals (try (refine Br.mk (i := 1000) ?_))
  all_goals (refine Gn ?_; refine Gs [] ?_; refine WC.sr ?_; refine Go ?_; refine Gt ?_)
  all_goals (first
              | (subst ya; rw [getL_hit hri hy]; exact ⟨rfl, rfl⟩)
              | (rw [getL_out hn (by omega)]; exact ⟨rfl, rfl⟩))
theorem delL_at {α : Type} {L : List (List UInt8 × α)} (hri : Rise L) {k : Nat} {n : List UInt8} {v : α} (hy : L[k]? = some (n, v)) : delL L n = L.take k ++ L.drop (k + 1) := by
  obtain ⟨k', hk', _, e⟩ := pos_of hri (getL_hit hri hy)
  have h1 := List.getElem?_eq_some_iff.1 hy
  have h2 := List.getElem?_eq_some_iff.1 hk'
  have : k = k' := by
    rcases Nat.lt_trichotomy k k' with h | h | h
    · have := List.pairwise_iff_getElem.1 hri k k' h1.1 h2.1 h
      rw [h1.2, h2.2] at this
      exact absurd this (List.lt_irrefl _)
    · exact h
    · have := List.pairwise_iff_getElem.1 hri k' k h2.1 h1.1 h
      rw [h1.2, h2.2] at this
      exact absurd this (List.lt_irrefl _)
  rw [this]; exact e
set_option maxHeartbeats 4000000 in
set_option maxRecDepth 100000 in
theorem del15 (r : Rf h b v most L) (hri : Rise L) (hl : L.length ≤ 1000000) (n : List UInt8) :
    CallsH Tryz.prog 96 ⟨[.pointer (some ⟨b, 0, none⟩), St n]⟩ h fun u h' => u = .tuple ⟨[In ((getL L n).getD 0), .bool (getL L n).isSome]⟩ ∧ ∃ v', Rf h' b v' most (delL L n) ∧ Ext (fun q => q = b) h h' ∧ ∀ q, v'.ownBlock = some q → v.ownBlock = some q ∨ h.size ≤ q := by
  have r0 := r
  obtain ⟨hB0, ho⟩ := r
  have hbl := lt_of_some hB0
  obtain ⟨A, c, rfl, hcL⟩ := ho.slice
  refine calls [(0, _), (1, _)] Tryz.func96 rfl Tryz.ntmps96 rfl ⟨rfl, rfl, trivial⟩ ?_
  all_goals (refine WC.sr ?_; refine Go ?_; refine WC.seq ?_; refine WC.sr ?_; refine Go ?_; refine WC.block ?_)
  -- loop 0: slots that turn [6], that stay [0, 1]
  all_goals (refine WC.loopG (X := Nat) (fun x => ([(6, In (x : Int))] : Fr)) [(0, _), (1, _)] (fun k h' => h' = h ∧ k ≤ L.length ∧ ∀ p ∈ L.take k, p.1 ≠ n) (fun k => L.length - k) (0) ⟨rfl, rfl, rfl, trivial⟩ (by exact ⟨rfl, Nat.zero_le _, by simp⟩) ?_; rintro k h9 ⟨hz, hk, hn⟩; subst h9; refine WC.sub [(6, _), (0, _), (1, _)] ⟨rfl, rfl, rfl, trivial⟩ ?_; refine WC.seq ?_; refine WC.sr ?_; refine Go ?_; refine WL.step (ok_nilCheck rfl) rfl rfl rfl ?_; refine Go ?_; refine Ld ?_; refine Go ?_; refine Gs [(0, _), (1, _), (6, _), (14, _)] ?_; refine goC 1 2 (Hb.mk fun hb => ?_) (Hb.mk fun hb => ?_))
  all_goals (first | (fail_if_success refine goB 1 ?_) | (
  refine goB 1 ?_
  all_goals (refine WC.skip ?_)
  skip))
  all_goals (first | (fail_if_success refine goB 2 ?_) | (
  refine goB 2 ?_
  all_goals (refine WC.exit ?_; repeat' (with_reducible first | refine thenP_x ?_ | refine blockP_miss rfl ?_ | refine blockP_hit ?_ | refine blockP_n ?_ | refine thenP_n ?_))
  all_goals (refine Br.out (i := 1000) ?_)
  skip))
  all_goals (refine Gn ?_; first | (refine Br.keep ?_) | (refine WC.seq ?_))
  all_goals (first | (refine Br.keep ?_) | (refine WC.block ?_))
  all_goals (first | (refine Br.keep ?_) | (refine WC.sr ?_))
  all_goals (first
               | (refine Br.keep ?_)
               | (obtain ⟨bL, oL, hA, hbL, hat⟩ := Rd.at_ ho.rd (by omega)
                  obtain ⟨⟨ya, yb⟩, hy⟩ : ∃ y, L[k]? = some y := ⟨_, List.getElem?_eq_getElem (by omega)⟩
                  have hc : At h bL (oL + k * 2) [St ya, In yb] := At.elem njC_len hat hy))
  all_goals (first | (refine Br.keep ?_) | (refine WL.step (ok_move rfl) rfl rfl rfl ?_))
  all_goals (first | (refine Br.keep ?_) | (refine WL.step (ok_nilCheck rfl) rfl rfl rfl ?_))
  all_goals (refine Go ?_; first | (refine Br.keep ?_) | (refine Ld ?_))
  all_goals (refine Go ?_; first | (refine Br.keep ?_) | (refine WL.step (ok_idxAddrA Tryz.underlying108 (fun w => Tryz.sizeOf115 w) rfl rfl rfl (by omega) (by first | rfl | assumption)) rfl rfl rfl ?_))
  all_goals (refine Go ?_; first | (refine Br.keep ?_) | (refine WL.ld rfl (by first | exact hc.get 0 rfl rfl | assumption | exact cell_blk (by assumption) rfl) rfl rfl rfl ?_))
  all_goals (first | (refine Br.keep ?_) | (refine WL.step (ok_move rfl) rfl rfl rfl ?_))
  all_goals (first | (refine Br.keep ?_) | (refine WL.step (ok_eqlS rfl rfl) rfl rfl rfl ?_))
  all_goals (refine Gn ?_; first | (refine Br.keep ?_) | (refine Gs [(0, _), (1, _), (6, _), (26, _)] ?_))
  all_goals (first | (refine Br.keep ?_) | (refine goC 3 4 (Hb.mk fun hb => ?_) (Hb.mk fun hb => ?_)))
  all_goals (first | (fail_if_success refine goB 3 ?_) | (
  refine goB 3 ?_
  all_goals (refine WC.sr ?_; refine Go ?_; refine WL.step (ok_nilCheck rfl) rfl rfl rfl ?_; refine Go ?_; refine Ld ?_; refine Go ?_; refine WL.step (ok_idxAddrA Tryz.underlying108 (fun w => Tryz.sizeOf115 w) rfl rfl rfl (by omega) (by first | rfl | assumption)) rfl rfl rfl ?_; refine Go ?_; refine WL.ld rfl (by first | exact hc.get 1 rfl rfl | assumption | exact cell_blk (by assumption) rfl) rfl rfl rfl ?_; refine Go ?_; refine Gs [(0, _), (6, _), (7, _)] ?_; refine WC.seq ?_)
  all_goals (have hrt := ho.rd.take (show k ≤ L.length by omega)
             have hrd := ho.rd.drop (show k + 1 ≤ L.length by omega)
             rw [fl_take njC_len] at hrt
             rw [fl_drop njC_len] at hrd)
  all_goals (refine WC.drawH (fun h' => Ext No h h') 16 19 rfl fol ?_; refine WH.tk 0 rfl (fun hq hC => ok_move rfl) rfl rfl rfl ?_; refine WH.tk 1 rfl (fun hq hC => ok_move rfl) rfl rfl rfl ?_; refine WH.tk 2 rfl (fun hq hC => ok_nilCheck rfl) rfl rfl rfl ?_; refine WH.tk 3 rfl (fun hq hC => ok_fieldAddr rfl Tryz.underlying110 rfl (fun w => Tryz.sizeOf108 w)) rfl rfl rfl ?_; refine WH.tk 4 rfl (fun hq hC => ok_load (fun w => Tryz.isAgg108 w) rfl (by first | exact hC.cell (by first | assumption | assumption | exact cell_blk (by assumption) rfl) nos)) rfl rfl rfl ?_; refine WH.tk 5 rfl (fun hq hC => ok_move rfl) rfl rfl rfl ?_; refine WH.tk 6 rfl (fun hq hC => ok_slice_hN Tryz.underlying108 (fun w => Tryz.sizeOf115 w) rfl rfl (by omega)) rfl rfl rfl ?_; refine WH.tk 8 rfl (fun hq hC => ok_move rfl) rfl rfl rfl ?_; refine WH.tk 9 rfl (fun hq hC => ok_nilCheck rfl) rfl rfl rfl ?_; refine WH.tk 10 rfl (fun hq hC => ok_fieldAddr rfl Tryz.underlying110 rfl (fun w => Tryz.sizeOf108 w)) rfl rfl rfl ?_; refine WH.tk 11 rfl (fun hq hC => ok_load (fun w => Tryz.isAgg108 w) rfl (by first | exact hC.cell (by first | assumption | assumption | exact cell_blk (by assumption) rfl) nos)) rfl rfl rfl ?_; refine WH.tk 12 rfl (fun hq hC => ok_move rfl) rfl rfl rfl ?_; refine WH.tk 13 rfl (fun hq hC => ok_addI rfl rfl (by omega)) rfl rfl rfl ?_; refine WH.tk 14 rfl (fun hq hC => ok_slice_lS Tryz.underlying108 (fun w => Tryz.sizeOf115 w) rfl rfl (by omega)) rfl rfl rfl ?_; refine WH.one 7 (by kernel_rfl) ?_; refine Comes1.run rfl (ok_append (sz := 2) (bytes := 24) rfl Tryz.underlying108 (show Tryz.prog.info? 115 = some Tryz.t115 by kernel_rfl) rfl rfl rfl rfl (by decide) rfl rfl (Own.nil _ _ _) hrt njs_one (by simp only [maxLen]; omega) (by omega)) rfl rfl rfl ?_ (fun _ => by kernel_rfl); rintro v7 h7 ⟨ho7, hx7, hl7⟩; refine ⟨fun _ => hx7.mono (fun _ _ e => by cases e), ?_⟩; have hx7' := hx7.mono (S' := No) (fun _ _ e => by cases e); have hf7 : ∀ q, v7.ownBlock = some q → h.size ≤ q := fresh_of hl7 (by simp [Value.ownBlock]) (Nat.le_refl _); refine WH.one 15 (by kernel_rfl) ?_; refine Comes1.run rfl (ok_append (sz := 2) (bytes := 24) rfl Tryz.underlying108 (show Tryz.prog.info? 115 = some Tryz.t115 by kernel_rfl) rfl rfl rfl rfl (by decide) rfl rfl ho7 (hrd.ext0 hx7') njs_one (by simp only [maxLen]; omega) (by omega)) rfl rfl rfl ?_ (fun _ => by kernel_rfl); rintro v15 h15 ⟨ho15, hx15, hl15⟩; refine ⟨fun _ => hx7'.trans' hx15 (fun q hq e => by have := hf7 q e; omega), ?_⟩; have hX15 := hx7'.trans' hx15 (fun q hq e => by have := hf7 q e; omega); have hf15 : ∀ q, v15.ownBlock = some q → h.size ≤ q := fresh_of hl15 hf7 hx7'.size; have hb15 := hX15.obj hB0 nos; obtain ⟨A15, c15, rfl, _⟩ := ho15.slice; refine WH.one 16 (by kernel_rfl) ?_; refine Comes1.run rfl (OkP.r (ok_nilCheck rfl)) rfl rfl rfl ?_ (fun _ => by kernel_rfl); rintro _ hz ⟨rfl, _⟩; subst hz; refine ⟨fun e => (by cases e), ?_⟩; refine WH.one 17 (by kernel_rfl) ?_; refine Comes1.run rfl (OkP.r (ok_fieldAddr rfl Tryz.underlying110 rfl (fun w => Tryz.sizeOf108 w))) rfl rfl rfl ?_ (fun _ => by kernel_rfl); rintro _ hz ⟨rfl, _⟩; subst hz)
  all_goals (refine ⟨fun e => (by cases e), ?_⟩; refine WH.one 18 (by kernel_rfl) ?_; refine Comes1.run0 rfl (okE_store (fun w => Tryz.sizeOf108 w) rfl rfl hb15 (Nat.le_of_ble_eq_true rfl) rfl rfl) rfl rfl ?_ (fun _ => by kernel_rfl); rintro _ h18 ⟨hb18, hx18⟩; refine ⟨fun e => (by cases e), ?_⟩; have hX18 : Ext (fun q => q = b) h h18 := (hX15.mono fun _ _ e => e.elim).trans hx18; have ho18 := ho15.ext hx18 (fun q hq e => by rw [e] at hq; have := hf15 _ hq; omega); (have hlen : (L.take k ++ L.drop (k + 1)).length = k + (L.length - (k + 1)) := by rw [List.length_append, List.length_take, List.length_drop]; omega); subst ya; have hde := delL_at hri hy; (have hoD18 : Own h18 (.slice A15 (0 + k + (L.length - (k + 1))) c15) 115 2 (delL L n).length ((delL L n).flatMap njC) := by rw [hde, hlen, List.flatMap_append]; simpa using ho18); refine WH.done (by kernel_rfl) ?_; refine Gn ?_; refine Gs [(7, _)] ?_; refine WC.sr ?_; refine Go ?_; refine Gt ?_)
  all_goals (first
              | (rw [getL_hit hri hy]; exact ⟨rfl, _, ⟨hb18, hoD18⟩, hX18, fun q hq => .inr (hf15 q hq)⟩)
              | (have hg := getL_out hn (by omega); rw [hg, delL_none hg]; exact ⟨rfl, _, r0, .refl _ _, fun q hq => .inl hq⟩))
  skip))
  all_goals (first | (fail_if_success refine goB 4 ?_) | (
  refine goB 4 ?_
  all_goals (refine WC.skip ?_)
  skip))
  all_goals (refine Gn ?_; first | (refine Br.keep ?_) | (refine WC.region ?_))
  all_goals (refine Go ?_; first | (refine Br.keep ?_) | (exact ⟨k + 1, ⟨rfl, rfl, rfl, trivial⟩, (by exact ⟨rfl, by omega, take_ne hn hy (by assumption)⟩), (by omega)⟩))
  all_goals (try (refine Br.mk (i := 1000) ?_))
  all_goals (refine Gn ?_; refine Gs [] ?_; refine WC.sr ?_; refine Go ?_; refine Gt ?_)
  all_goals (first
              | (rw [getL_hit hri hy]; exact ⟨rfl, _, ⟨hb18, hoD18⟩, hX18, fun q hq => .inr (hf15 q hq)⟩)
              | (have hg := getL_out hn (by omega); rw [hg, delL_none hg]; exact ⟨rfl, _, r0, .refl _ _, fun q hq => .inl hq⟩))
set_option maxHeartbeats 4000000 in
set_option maxRecDepth 100000 in
theorem set15 (r : Rf h b v most L) (hri : Rise L) (hl : L.length ≤ 1000000) (n : List UInt8) (id : Int) :
    CallsH Tryz.prog 24 ⟨[.pointer (some ⟨b, 0, none⟩), St n, In id]⟩ h fun u h' =>
      (∃ u0, getL L n = some u0 ∧ u = .tuple ⟨[In u0, In 0]⟩ ∧ Rf h' b v most (setL L n id) ∧ Ext (fun q => v.ownBlock = some q) h h') ∨
      (getL L n = none ∧ most ≤ (L.length : Int) ∧ u = .tuple ⟨[In 0, In 6]⟩ ∧ h' = h) ∨
      (getL L n = none ∧ (L.length : Int) < most ∧ u = .tuple ⟨[In 0, In 0]⟩ ∧ ∃ v', Rf h' b v' most (setL L n id) ∧ Ext (fun q => q = b) h h' ∧ ∀ q, v'.ownBlock = some q → h.size ≤ q) := by
  have r0 := r
  have hne := r.ne
  obtain ⟨hB0, ho⟩ := r
  have hbl := lt_of_some hB0
  obtain ⟨A, c, rfl, hcL⟩ := ho.slice
  refine calls [(0, _), (1, _), (2, _)] Tryz.func24 rfl Tryz.ntmps24 rfl ⟨rfl, rfl, rfl, trivial⟩ ?_
  all_goals (refine WC.sr ?_; refine Go ?_; refine WC.seq ?_; refine WC.sr ?_; refine Go ?_; refine WC.block ?_)
  -- loop 0: slots that turn [8], that stay [0, 1, 2]
  all_goals (refine WC.loopG (X := Nat) (fun x => ([(8, In (x : Int))] : Fr)) [(0, _), (1, _), (2, _)] (fun k h' => h' = h ∧ k ≤ L.length ∧ ∀ p ∈ L.take k, p.1 ≠ n) (fun k => L.length - k) (0) ⟨rfl, rfl, rfl, rfl, trivial⟩ (by exact ⟨rfl, Nat.zero_le _, by simp⟩) ?_; rintro k h9 ⟨hz, hk, hn⟩; subst h9; refine WC.sub [(8, _), (0, _), (1, _), (2, _)] ⟨rfl, rfl, rfl, rfl, trivial⟩ ?_; refine WC.seq ?_; refine WC.sr ?_; refine Go ?_; refine WL.step (ok_nilCheck rfl) rfl rfl rfl ?_; refine Go ?_; refine Ld ?_; refine Go ?_; refine Gs [(0, _), (1, _), (2, _), (8, _), (17, _)] ?_; refine goC 1 2 (Hb.mk fun hb => ?_) (Hb.mk fun hb => ?_))
  all_goals (first | (fail_if_success refine goB 1 ?_) | (
  refine goB 1 ?_
  all_goals (refine WC.skip ?_)
  skip))
  all_goals (first | (fail_if_success refine goB 2 ?_) | (
  refine goB 2 ?_
  all_goals (refine WC.exit ?_; repeat' (with_reducible first | refine thenP_x ?_ | refine blockP_miss rfl ?_ | refine blockP_hit ?_ | refine blockP_n ?_ | refine thenP_n ?_))
  all_goals (refine Br.out (i := 1000) ?_)
  skip))
  all_goals (refine Gn ?_; first | (refine Br.keep ?_) | (refine WC.seq ?_))
  all_goals (first | (refine Br.keep ?_) | (refine WC.block ?_))
  all_goals (first | (refine Br.keep ?_) | (refine WC.sr ?_))
  all_goals (first
               | (refine Br.keep ?_)
               | (obtain ⟨bL, oL, hA, hbL, hat⟩ := Rd.at_ ho.rd (by omega)
                  obtain ⟨⟨ya, yb⟩, hy⟩ : ∃ y, L[k]? = some y := ⟨_, List.getElem?_eq_getElem (by omega)⟩
                  have hc : At h bL (oL + k * 2) [St ya, In yb] := At.elem njC_len hat hy))
  all_goals (first | (refine Br.keep ?_) | (refine WL.step (ok_move rfl) rfl rfl rfl ?_))
  all_goals (first | (refine Br.keep ?_) | (refine WL.step (ok_nilCheck rfl) rfl rfl rfl ?_))
  all_goals (refine Go ?_; first | (refine Br.keep ?_) | (refine Ld ?_))
  all_goals (refine Go ?_; first | (refine Br.keep ?_) | (refine WL.step (ok_idxAddrA Tryz.underlying108 (fun w => Tryz.sizeOf115 w) rfl rfl rfl (by omega) (by first | rfl | assumption)) rfl rfl rfl ?_))
  all_goals (refine Go ?_; first | (refine Br.keep ?_) | (refine WL.ld rfl (by first | exact hc.get 0 rfl rfl | assumption | exact cell_blk (by assumption) rfl) rfl rfl rfl ?_))
  all_goals (first | (refine Br.keep ?_) | (refine WL.step (ok_move rfl) rfl rfl rfl ?_))
  all_goals (first | (refine Br.keep ?_) | (refine WL.step (ok_eqlS rfl rfl) rfl rfl rfl ?_))
  all_goals (refine Gn ?_; first | (refine Br.keep ?_) | (refine Gs [(0, _), (1, _), (2, _), (8, _), (29, _)] ?_))
  all_goals (first | (refine Br.keep ?_) | (refine goC 3 4 (Hb.mk fun hb => ?_) (Hb.mk fun hb => ?_)))
  all_goals (first | (fail_if_success refine goB 3 ?_) | (
  refine goB 3 ?_
  all_goals (refine WC.sr ?_; refine Go ?_; refine WL.step (ok_nilCheck rfl) rfl rfl rfl ?_; refine Go ?_; refine Ld ?_; refine Go ?_; refine WL.step (ok_idxAddrA Tryz.underlying108 (fun w => Tryz.sizeOf115 w) rfl rfl rfl (by omega) (by first | rfl | assumption)) rfl rfl rfl ?_; refine Go ?_; refine WL.ld rfl (by first | exact hc.get 1 rfl rfl | assumption | exact cell_blk (by assumption) rfl) rfl rfl rfl ?_; refine Go ?_; refine Gs [(0, _), (2, _), (8, _), (9, _)] ?_; refine WC.sr ?_)
  all_goals (obtain ⟨g, gs, rfl, hg, hgl, hset⟩ := row_set njC_len ho hy
             subst ya
             cases hA
             have hkl := (List.getElem?_eq_some_iff.1 hy).1)
  all_goals (refine WL.step (ok_move rfl) rfl rfl rfl ?_; refine WL.step (ok_nilCheck rfl) rfl rfl rfl ?_; refine Go ?_; refine Ld ?_; refine Go ?_; refine WL.step (ok_idxAddrA Tryz.underlying108 (fun w => Tryz.sizeOf115 w) rfl rfl rfl (by omega) (by first | rfl | assumption)) rfl rfl rfl ?_; refine Go ?_; refine WL.stepR0 (okE_store (fun w => Tryz.sizeOf3 w) rfl rfl hg (by show 0 + k * 2 + 1 < gs.length; omega) rfl rfl) rfl rfl ?_; rintro _ h6 ⟨hb6, hx6⟩; have ho6 := hset (j := 1) (q' := (n, id)) (by decide) rfl (by simpa using hb6); have hb66 := hx6.obj hB0 (fun e => hne (by rw [e]; rfl)); refine Gn ?_; refine Gs [(9, _)] ?_; refine WC.sr ?_; refine Go ?_; refine Gt ?_)
  all_goals (first
              | exact .inl ⟨yb, getL_hit hri hy, rfl, ⟨hb66, by rw [setL_in hri hy, List.length_set]; exact ho6⟩, hx6.mono fun q _ e => by rw [e]; rfl⟩
              | exact .inr (.inl ⟨hgn, by omega, rfl, rfl⟩)
              | exact .inr (.inr ⟨hgn, by omega, rfl, _, ⟨hb22, by rw [hout, hlen, List.flatMap_append, List.flatMap_cons, ← List.append_assoc]; exact ho22⟩, hX22, fun q hq => hf19 q hq⟩))
  skip))
  all_goals (first | (fail_if_success refine goB 4 ?_) | (
  refine goB 4 ?_
  all_goals (refine WC.skip ?_)
  skip))
  all_goals (refine Gn ?_; first | (refine Br.keep ?_) | (refine WC.region ?_))
  all_goals (refine Go ?_; first | (refine Br.keep ?_) | (exact ⟨k + 1, ⟨rfl, rfl, rfl, rfl, trivial⟩, (by exact ⟨rfl, by omega, take_ne hn hy (by assumption)⟩), (by omega)⟩))
  all_goals (try (refine Br.mk (i := 1000) ?_))
  all_goals (refine Gn ?_; refine WC.seq ?_; refine WC.seq ?_; have hgn := getL_out hn (by omega); refine WC.drawE fol (by kernel_rfl) ?_; refine WQ.stepE (ok_move rfl) rfl rfl rfl ?_; refine WQ.stepE (ok_nilCheck rfl) rfl rfl rfl ?_; refine WQ.stepE (ok_fieldAddr rfl Tryz.underlying110 rfl (fun w => Tryz.sizeOf108 w)) rfl rfl rfl ?_; refine WQ.stepE (ok_load (fun w => Tryz.isAgg108 w) rfl (by first | assumption | exact cell_blk (by assumption) rfl)) rfl rfl rfl ?_; refine WQ.stepE (ok_lenL rfl Tryz.underlying108 rfl) rfl rfl rfl ?_; refine WQ.stepE (ok_move rfl) rfl rfl rfl ?_; refine WQ.stepE (ok_nilCheck rfl) rfl rfl rfl ?_; refine WQ.stepE (ok_fieldAddr rfl Tryz.underlying110 rfl (fun w => Tryz.sizeOf3 w)) rfl rfl rfl ?_; refine WQ.stepE (ok_load (fun w => Tryz.isAgg3 w) rfl (by first | assumption | exact cell_blk (by assumption) rfl)) rfl rfl rfl ?_; refine WQ.stepE (ok_geq rfl rfl) rfl rfl rfl ?_; refine WQ.nil ?_; refine Gn ?_; refine Gs [(0, _), (1, _), (2, _), (56, _)] ?_; refine goC 5 6 (Hb.mk fun hb => ?_) (Hb.mk fun hb => ?_))
  all_goals (first | (fail_if_success refine goB 5 ?_) | (
  refine goB 5 ?_
  all_goals (refine WC.sr ?_; refine Go ?_; refine Gs [(6, _), (7, _)] ?_; refine Gt ?_)
  all_goals (first
              | exact .inl ⟨yb, getL_hit hri hy, rfl, ⟨hb66, by rw [setL_in hri hy, List.length_set]; exact ho6⟩, hx6.mono fun q _ e => by rw [e]; rfl⟩
              | exact .inr (.inl ⟨hgn, by omega, rfl, rfl⟩)
              | exact .inr (.inr ⟨hgn, by omega, rfl, _, ⟨hb22, by rw [hout, hlen, List.flatMap_append, List.flatMap_cons, ← List.append_assoc]; exact ho22⟩, hX22, fun q hq => hf19 q hq⟩))
  skip))
  all_goals (refine goB 6 ?_; refine WC.skip ?_; refine Gn ?_; refine WC.sr ?_; refine Go ?_; refine WC.seq ?_; refine WC.block ?_)
  -- loop 1: slots that turn [10], that stay [0, 1, 2]
  all_goals (refine WC.loopG (X := Nat) (fun x => ([(10, In (x : Int))] : Fr)) [(0, _), (1, _), (2, _)] (fun k h' => h' = h ∧ k ≤ L.length ∧ ∀ p ∈ L.take k, p.1 < n) (fun k => L.length - k) (0) ⟨rfl, rfl, rfl, rfl, trivial⟩ (by exact ⟨rfl, Nat.zero_le _, by simp⟩) ?_)
  all_goals (rintro j h9 ⟨hz, hj, hnj⟩
             subst h9
             have hcases : j = L.length ∨ ∃ yn yv, L[j]? = some (yn, yv) ∧ j < L.length := by rcases Nat.lt_or_ge j L.length with h1 | h1; exact .inr ⟨_, _, List.getElem?_eq_getElem h1, h1⟩; exact .inl (by omega)
             rcases hcases with hkl | ⟨yn, yv, hy, hkl⟩)
  all_goals (refine WC.sub [(10, _), (0, _), (1, _), (2, _)] ⟨rfl, rfl, rfl, rfl, trivial⟩ ?_; refine WC.seq ?_; refine WC.sr ?_)
  all_goals (first
              | (fail_if_success (have := hy))
              | (obtain ⟨bL, oL, hA, hbL, hat⟩ := Rd.at_ ho.rd (show 0 < L.length by omega); have hc : At h bL (oL + j * 2) [St yn, In yv] := At.elem njC_len hat hy))
  all_goals (refine WL.step (ok_move rfl) rfl rfl rfl ?_; refine Go ?_; refine WL.step (ok_nilCheck rfl) rfl rfl rfl ?_; refine Go ?_; refine Ld ?_; refine Go ?_; refine goP 64 ?_ TT.mk; refine Gg ?_; first | (refine WL.pass rfl rfl rfl ?_) | (refine WL.step (ok_nilCheck rfl) rfl rfl rfl ?_))
  all_goals (refine Gg ?_; first | (refine WL.pass rfl rfl rfl ?_) | (refine Ld ?_))
  all_goals (refine Gg ?_; first | (refine WL.pass rfl rfl rfl ?_) | (refine WL.step (ok_idxAddrA Tryz.underlying108 (fun w => Tryz.sizeOf115 w) rfl rfl rfl (by omega) (by first | rfl | assumption)) rfl rfl rfl ?_))
  all_goals (refine Gg ?_; first | (refine WL.pass rfl rfl rfl ?_) | (refine WL.ld rfl (by first | exact hc.get 0 rfl rfl | assumption | exact cell_blk (by assumption) rfl) rfl rfl rfl ?_))
  all_goals (first | (refine WL.pass rfl rfl rfl ?_) | (refine WL.step (ok_move rfl) rfl rfl rfl ?_))
  all_goals (first | (refine WL.pass rfl rfl rfl ?_) | (refine WL.step (ok_lssS rfl rfl) rfl rfl rfl ?_))
  all_goals (try rw [bytesLess_lt])
  all_goals (refine Go ?_; refine Gs [(0, _), (1, _), (2, _), (10, _), (75, _)] ?_; first | (refine goC 7 8 ?_ TT.mk) | (refine goC 7 8 (Hb.mk fun hb => ?_) (Hb.mk fun hb => ?_)))
  all_goals (first | (fail_if_success refine goB 7 ?_) | (
  refine goB 7 ?_
  all_goals (refine WC.skip ?_)
  skip))
  all_goals (first | (fail_if_success refine goB 8 ?_) | (
  refine goB 8 ?_
  all_goals (refine WC.exit ?_; repeat' (with_reducible first | refine thenP_x ?_ | refine blockP_miss rfl ?_ | refine blockP_hit ?_ | refine blockP_n ?_ | refine thenP_n ?_))
  all_goals (refine Br.out (i := 1002) ?_)
  skip))
  all_goals (refine Gn ?_; first | (refine Br.keep ?_) | (refine WC.block ?_))
  all_goals (first | (refine Br.keep ?_) | (refine WC.region ?_))
  all_goals (refine Go ?_; first | (refine Br.keep ?_) | (exact ⟨j + 1, ⟨rfl, rfl, rfl, rfl, trivial⟩, (by exact ⟨rfl, by omega, take_lt hnj hy (by assumption)⟩), (by omega)⟩))
  all_goals (try (refine Br.mk (i := 1002) ?_))
  all_goals (refine Gn ?_; refine WC.seq ?_)
  all_goals (have hout := setL_out (v := id) hj hnj (by first | (intro p hp; rw [List.getElem?_eq_none (by omega)] at hp; cases hp) | (intro p hp; rw [hy] at hp; obtain rfl := Option.some.inj hp; assumption)) (getL_no hgn)
             have hrt := ho.rd.take hj
             have hrd := ho.rd.drop hj
             rw [fl_take njC_len] at hrt
             rw [fl_drop njC_len] at hrd)
  all_goals (refine WC.drawH (fun h' => Ext No h h') 20 23 rfl fol ?_; refine WH.tk 0 rfl (fun hq hC => ok_move rfl) rfl rfl rfl ?_ (hC := (by first | exact Ext.refl _ _ | assumption | exact hX19)); refine WH.tk 1 rfl (fun hq hC => ok_move rfl) rfl rfl rfl ?_ (hC := (by first | exact Ext.refl _ _ | assumption | exact hX19)); refine WH.tk 2 rfl (fun hq hC => ok_nilCheck rfl) rfl rfl rfl ?_ (hC := (by first | exact Ext.refl _ _ | assumption | exact hX19)); refine WH.tk 3 rfl (fun hq hC => ok_fieldAddr rfl Tryz.underlying110 rfl (fun w => Tryz.sizeOf108 w)) rfl rfl rfl ?_ (hC := (by first | exact Ext.refl _ _ | assumption | exact hX19)); refine WH.tk 4 rfl (fun hq hC => ok_load (fun w => Tryz.isAgg108 w) rfl (by first | exact hC.cell (by first | assumption | assumption | exact cell_blk (by assumption) rfl) nos)) rfl rfl rfl ?_ (hC := (by first | exact Ext.refl _ _ | assumption | exact hX19)); refine WH.tk 5 rfl (fun hq hC => ok_move rfl) rfl rfl rfl ?_ (hC := (by first | exact Ext.refl _ _ | assumption | exact hX19)); refine WH.tk 6 rfl (fun hq hC => ok_slice_hN Tryz.underlying108 (fun w => Tryz.sizeOf115 w) rfl rfl (by omega)) rfl rfl rfl ?_ (hC := (by first | exact Ext.refl _ _ | assumption | exact hX19)); refine WH.tk 8 rfl (fun hq hC => ok_move rfl) rfl rfl rfl ?_ (hC := (by first | exact Ext.refl _ _ | assumption | exact hX19)); refine WH.tk 9 rfl (fun hq hC => ok_move rfl) rfl rfl rfl ?_ (hC := (by first | exact Ext.refl _ _ | assumption | exact hX19)); refine WH.tk 10 rfl (fun hq hC => ok_buildF (vs := [_, _]) (cs := [_, _]) (fun | [a0, a1] => [a0, a1] | _ => []) rfl rfl (by kernel_rfl)) rfl rfl rfl ?_ (hC := (by first | exact Ext.refl _ _ | assumption | exact hX19)); refine WH.tk 13 rfl (fun hq hC => ok_move rfl) rfl rfl rfl ?_ (hC := (by first | exact Ext.refl _ _ | assumption | exact hX19)); refine WH.tk 14 rfl (fun hq hC => ok_nilCheck rfl) rfl rfl rfl ?_ (hC := (by first | exact Ext.refl _ _ | assumption | exact hX19)); refine WH.tk 15 rfl (fun hq hC => ok_fieldAddr rfl Tryz.underlying110 rfl (fun w => Tryz.sizeOf108 w)) rfl rfl rfl ?_ (hC := (by first | exact Ext.refl _ _ | assumption | exact hX19)); refine WH.tk 16 rfl (fun hq hC => ok_load (fun w => Tryz.isAgg108 w) rfl (by first | exact hC.cell (by first | assumption | assumption | exact cell_blk (by assumption) rfl) nos)) rfl rfl rfl ?_ (hC := (by first | exact Ext.refl _ _ | assumption | exact hX19)); refine WH.tk 17 rfl (fun hq hC => ok_move rfl) rfl rfl rfl ?_ (hC := (by first | exact Ext.refl _ _ | assumption | exact hX19)); refine WH.tk 18 rfl (fun hq hC => ok_slice_lN Tryz.underlying108 (fun w => Tryz.sizeOf115 w) rfl rfl (by omega)) rfl rfl rfl ?_ (hC := (by first | exact Ext.refl _ _ | assumption | exact hX19)); refine WH.two 7 11 (by kernel_rfl) (Br.out (i := 5003) ?_) (Br.out (i := 5004) ?_))
  all_goals (first | (fail_if_success refine goB 5003 ?_) | (
  refine goB 5003 ?_
  all_goals (refine Comes1.run rfl (ok_append (sz := 2) (bytes := 24) rfl Tryz.underlying108 (show Tryz.prog.info? 115 = some Tryz.t115 by kernel_rfl) rfl rfl rfl rfl (by decide) rfl rfl (Own.nil _ _ _) (hrt.ext0 (by first | exact Ext.refl _ _ | exact hx11)) njs_one (by simp only [maxLen]; omega) (by omega)) rfl rfl rfl ?_ (fun _ => by kernel_rfl); rintro v7 h7 ⟨ho7, hx7, hl7⟩; refine ⟨fun _ => (by first | exact hx7.mono (fun _ _ e => by cases e) | exact hx11.trans (hx7.mono fun _ _ e => by cases e)), ?_⟩; have hx7' := hx7.mono (S' := No) (fun _ _ e => by cases e); refine WH.one 11 (by kernel_rfl) ?_; refine Comes1.run rfl (okE_buildSlice (vs := [_]) (cs := [_, _]) (fun | [.agg ⟨[a0, a1]⟩] => [a0, a1] | _ => []) Tryz.underlying108 rfl rfl (by kernel_rfl)) rfl rfl rfl ?_ (fun _ => by kernel_rfl); rintro _ h11 ⟨b11, rfl, hg11, hb11, hx11⟩; refine ⟨fun _ => (by first | exact hx11 | exact hx7'.trans hx11), ?_⟩; refine WH.one 12 (by kernel_rfl) ?_)
  all_goals (first
              | (have hO := ho7.ext hx11 (fun _ _ => nos); have hB := hb11; have hX := hx7'.trans hx11; have hf7 : ∀ q, v7.ownBlock = some q → h.size ≤ q := fresh_of hl7 (by simp [Value.ownBlock]) (Nat.le_refl _))
              | (have hO := ho7; have hB := hx7'.obj hb11 nos; have hX := hx11.trans hx7'; have hf7 : ∀ q, v7.ownBlock = some q → h.size ≤ q := fresh_of hl7 (by simp [Value.ownBlock]) hx11.size)
             simp only [List.nil_append, Nat.zero_add] at hO)
  all_goals (refine Comes1.run rfl (ok_append (sz := 2) (bytes := 24) rfl Tryz.underlying108 (show Tryz.prog.info? 115 = some Tryz.t115 by kernel_rfl) rfl rfl rfl rfl (by decide) rfl rfl hO (rd_blk hB rfl) (by simp [Value.oneCell']) (by simp only [maxLen]; omega) (by omega)) rfl rfl rfl ?_ (fun _ => by kernel_rfl); rintro v12 h12 ⟨ho12, hx12, hl12⟩; refine ⟨fun _ => hX.trans' hx12 (fun q hq e => by have := hf7 q e; omega), ?_⟩; have hX12 := hX.trans' hx12 (fun q hq e => by have := hf7 q e; omega); have hf12 : ∀ q, v12.ownBlock = some q → h.size ≤ q := fresh_of hl12 hf7 hX.size; refine WH.one 19 (by kernel_rfl) ?_; refine Comes1.run rfl (ok_append (sz := 2) (bytes := 24) rfl Tryz.underlying108 (show Tryz.prog.info? 115 = some Tryz.t115 by kernel_rfl) rfl rfl rfl rfl (by decide) rfl rfl ho12 (hrd.ext0 hX12) njs_one (by simp only [maxLen]; omega) (by omega)) rfl rfl rfl ?_ (fun _ => by kernel_rfl); rintro v19 h19 ⟨ho19, hx19, hl19⟩; refine ⟨fun _ => hX12.trans' hx19 (fun q hq e => by have := hf12 q e; omega), ?_⟩; have hX19 := hX12.trans' hx19 (fun q hq e => by have := hf12 q e; omega); have hf19 : ∀ q, v19.ownBlock = some q → h.size ≤ q := fresh_of hl19 hf12 hX12.size; have hb19 := hX19.obj hB0 nos; obtain ⟨A19, c19, rfl, _⟩ := ho19.slice; refine WH.one 20 (by kernel_rfl) ?_; refine Comes1.run rfl (OkP.r (ok_nilCheck rfl)) rfl rfl rfl ?_ (fun _ => by kernel_rfl); rintro _ hz ⟨rfl, _⟩; subst hz; refine ⟨fun e => (by cases e), ?_⟩; refine WH.one 21 (by kernel_rfl) ?_; refine Comes1.run rfl (OkP.r (ok_fieldAddr rfl Tryz.underlying110 rfl (fun w => Tryz.sizeOf108 w))) rfl rfl rfl ?_ (fun _ => by kernel_rfl); rintro _ hz ⟨rfl, _⟩; subst hz; refine ⟨fun e => (by cases e), ?_⟩; refine WH.one 22 (by kernel_rfl) ?_; refine Comes1.run0 rfl (okE_store (fun w => Tryz.sizeOf108 w) rfl rfl hb19 (Nat.le_of_ble_eq_true rfl) rfl rfl) rfl rfl ?_ (fun _ => by kernel_rfl); rintro _ h22 ⟨hb22, hx22⟩; refine ⟨fun e => (by cases e), ?_⟩; have hX22 : Ext (fun q => q = b) h h22 := (hX19.mono fun _ _ e => e.elim).trans hx22; have ho22 := ho19.ext hx22 (fun q hq e => by rw [e] at hq; have := hf19 _ hq; omega); (have hlen : (L.take j ++ (n, id) :: L.drop j).length = j + 1 + (L.length - j) := by simp; omega); refine WH.done (by kernel_rfl) ?_)
  skip))
  all_goals (first | (fail_if_success refine goB 5004 ?_) | (
  refine goB 5004 ?_
  all_goals (refine Comes1.run rfl (okE_buildSlice (vs := [_]) (cs := [_, _]) (fun | [.agg ⟨[a0, a1]⟩] => [a0, a1] | _ => []) Tryz.underlying108 rfl rfl (by kernel_rfl)) rfl rfl rfl ?_ (fun _ => by kernel_rfl); rintro _ h11 ⟨b11, rfl, hg11, hb11, hx11⟩; refine ⟨fun _ => (by first | exact hx11 | exact hx7'.trans hx11), ?_⟩; refine WH.one 7 (by kernel_rfl) ?_; refine Comes1.run rfl (ok_append (sz := 2) (bytes := 24) rfl Tryz.underlying108 (show Tryz.prog.info? 115 = some Tryz.t115 by kernel_rfl) rfl rfl rfl rfl (by decide) rfl rfl (Own.nil _ _ _) (hrt.ext0 (by first | exact Ext.refl _ _ | exact hx11)) njs_one (by simp only [maxLen]; omega) (by omega)) rfl rfl rfl ?_ (fun _ => by kernel_rfl); rintro v7 h7 ⟨ho7, hx7, hl7⟩; refine ⟨fun _ => (by first | exact hx7.mono (fun _ _ e => by cases e) | exact hx11.trans (hx7.mono fun _ _ e => by cases e)), ?_⟩; have hx7' := hx7.mono (S' := No) (fun _ _ e => by cases e); refine WH.one 12 (by kernel_rfl) ?_)
  all_goals (first
              | (have hO := ho7.ext hx11 (fun _ _ => nos); have hB := hb11; have hX := hx7'.trans hx11; have hf7 : ∀ q, v7.ownBlock = some q → h.size ≤ q := fresh_of hl7 (by simp [Value.ownBlock]) (Nat.le_refl _))
              | (have hO := ho7; have hB := hx7'.obj hb11 nos; have hX := hx11.trans hx7'; have hf7 : ∀ q, v7.ownBlock = some q → h.size ≤ q := fresh_of hl7 (by simp [Value.ownBlock]) hx11.size)
             simp only [List.nil_append, Nat.zero_add] at hO)
  all_goals (refine Comes1.run rfl (ok_append (sz := 2) (bytes := 24) rfl Tryz.underlying108 (show Tryz.prog.info? 115 = some Tryz.t115 by kernel_rfl) rfl rfl rfl rfl (by decide) rfl rfl hO (rd_blk hB rfl) (by simp [Value.oneCell']) (by simp only [maxLen]; omega) (by omega)) rfl rfl rfl ?_ (fun _ => by kernel_rfl); rintro v12 h12 ⟨ho12, hx12, hl12⟩; refine ⟨fun _ => hX.trans' hx12 (fun q hq e => by have := hf7 q e; omega), ?_⟩; have hX12 := hX.trans' hx12 (fun q hq e => by have := hf7 q e; omega); have hf12 : ∀ q, v12.ownBlock = some q → h.size ≤ q := fresh_of hl12 hf7 hX.size; refine WH.one 19 (by kernel_rfl) ?_; refine Comes1.run rfl (ok_append (sz := 2) (bytes := 24) rfl Tryz.underlying108 (show Tryz.prog.info? 115 = some Tryz.t115 by kernel_rfl) rfl rfl rfl rfl (by decide) rfl rfl ho12 (hrd.ext0 hX12) njs_one (by simp only [maxLen]; omega) (by omega)) rfl rfl rfl ?_ (fun _ => by kernel_rfl); rintro v19 h19 ⟨ho19, hx19, hl19⟩; refine ⟨fun _ => hX12.trans' hx19 (fun q hq e => by have := hf12 q e; omega), ?_⟩; have hX19 := hX12.trans' hx19 (fun q hq e => by have := hf12 q e; omega); have hf19 : ∀ q, v19.ownBlock = some q → h.size ≤ q := fresh_of hl19 hf12 hX12.size; have hb19 := hX19.obj hB0 nos; obtain ⟨A19, c19, rfl, _⟩ := ho19.slice; refine WH.one 20 (by kernel_rfl) ?_; refine Comes1.run rfl (OkP.r (ok_nilCheck rfl)) rfl rfl rfl ?_ (fun _ => by kernel_rfl); rintro _ hz ⟨rfl, _⟩; subst hz; refine ⟨fun e => (by cases e), ?_⟩; refine WH.one 21 (by kernel_rfl) ?_; refine Comes1.run rfl (OkP.r (ok_fieldAddr rfl Tryz.underlying110 rfl (fun w => Tryz.sizeOf108 w))) rfl rfl rfl ?_ (fun _ => by kernel_rfl); rintro _ hz ⟨rfl, _⟩; subst hz; refine ⟨fun e => (by cases e), ?_⟩; refine WH.one 22 (by kernel_rfl) ?_; refine Comes1.run0 rfl (okE_store (fun w => Tryz.sizeOf108 w) rfl rfl hb19 (Nat.le_of_ble_eq_true rfl) rfl rfl) rfl rfl ?_ (fun _ => by kernel_rfl); rintro _ h22 ⟨hb22, hx22⟩; refine ⟨fun e => (by cases e), ?_⟩; have hX22 : Ext (fun q => q = b) h h22 := (hX19.mono fun _ _ e => e.elim).trans hx22; have ho22 := ho19.ext hx22 (fun q hq e => by rw [e] at hq; have := hf19 _ hq; omega); (have hlen : (L.take j ++ (n, id) :: L.drop j).length = j + 1 + (L.length - j) := by simp; omega); refine WH.done (by kernel_rfl) ?_)
  skip))
  all_goals (refine Gn ?_; refine Gs [] ?_; refine WC.sr ?_; refine Go ?_; refine Gt ?_)
  all_goals (first
              | exact .inl ⟨yb, getL_hit hri hy, rfl, ⟨hb66, by rw [setL_in hri hy, List.length_set]; exact ho6⟩, hx6.mono fun q _ e => by rw [e]; rfl⟩
              | exact .inr (.inl ⟨hgn, by omega, rfl, rfl⟩)
              | exact .inr (.inr ⟨hgn, by omega, rfl, _, ⟨hb22, by rw [hout, hlen, List.flatMap_append, List.flatMap_cons, ← List.append_assoc]; exact ho22⟩, hX22, fun q hq => hf19 q hq⟩))
end
end Go.Proofs.YtggmocdbfbhklaaGreat


/-
  TABLE (layer 15): both tables, side by side.
-/
namespace Go.Proofs.YtggmocdbfbhklaaGreat
open Go Go.RK

abbrev NI := List UInt8 × Int
/-- Both tables. -/
structure T15 (h0 h : Heap) (b m bt : Nat) (v : Value) (most : Int) (L : List NI) : Prop where
  tb : ∃ E, Tb h b m most (encE In E) ∧ E.Perm L
  rf : Rf h bt v most L
  rise : Rise L
  ext : Ext No h0 h
  lo : h0.size ≤ b ∧ h0.size ≤ m ∧ h0.size ≤ bt ∧ ∀ q, v.ownBlock = some q → h0.size ≤ q
  le : (L.length : Int) ≤ most
  most : most ≤ 4096
/-- What a call may turn. -/
def M15 (m bt : Nat) (v : Value) (q : Nat) : Prop := q = m ∨ q = bt ∨ v.ownBlock = some q
section
variable {h0 h h1 : Heap} {b m bt : Nat} {v : Value} {most : Int} {L : List NI}
theorem own_kd {T : TypeId} {sz n q : Nat} {xs : List Value} (ho : Own h v T sz n xs) (hq : v.ownBlock = some q) : ∃ cur, h[q]? = some (.cells cur T (0, 0)) := by
  obtain ⟨_, ⟨e1, _⟩ | ⟨g, cap, cur, e1, hg, _⟩⟩ := ho
  · rw [e1] at hq; cases hq
  · rw [e1] at hq
    have : g = q := by simpa [Value.ownBlock] using hq
    exact ⟨cur, this ▸ hg⟩
theorem T15.not (d : T15 h0 h b m bt v most L) {g : Nat} {cs : Array Value} {T : TypeId} (hg : h[g]? = some (.cells cs T (0, 0))) (h1 : T ≠ 110) (h2 : T ≠ 115) : ¬ M15 m bt v g := by
  rintro (rfl | rfl | e)
  · obtain ⟨E, t, _⟩ := d.tb
    obtain ⟨_, _, e, _⟩ := t.map
    rw [hg] at e; cases e
  · have := d.rf.blk
    rw [hg] at this
    simp only [Option.some.injEq, Obj.cells.injEq] at this
    exact h1 this.2.1
  · obtain ⟨cur, e2⟩ := own_kd d.rf.own e
    rw [hg] at e2
    simp only [Option.some.injEq, Obj.cells.injEq] at e2
    exact h2 e2.2.1
theorem T15.sep (d : T15 h0 h b m bt v most L) : b ≠ m ∧ b ≠ bt ∧ m ≠ bt ∧ v.ownBlock ≠ some b ∧ v.ownBlock ≠ some m ∧ v.ownBlock ≠ some bt := by
  obtain ⟨E, t, _⟩ := d.tb
  have hn := d.not t.cells (by decide) (by decide)
  refine ⟨t.ne, fun e => hn (.inr (.inl e)), fun e => ?_, fun e => hn (.inr (.inr e)), fun e => ?_, d.rf.ne⟩
  · obtain ⟨_, _, e2, _⟩ := t.map
    rw [e, d.rf.blk] at e2; cases e2
  · obtain ⟨cur, e2⟩ := own_kd d.rf.own e
    obtain ⟨_, _, e3, _⟩ := t.map
    rw [e2] at e3; cases e3
theorem T15.stay {S : Nat → Prop} (d : T15 h0 h b m bt v most L) (e : Ext S h h1) (hS : ∀ k, k < h.size → ¬ S k) : T15 h0 h1 b m bt v most L := by
  obtain ⟨E, t, hp⟩ := d.tb
  have hb := lt_of_some t.cells
  have hm := t.map.lt
  have ht := lt_of_some d.rf.blk
  exact ⟨⟨E, t.ext e (hS _ hb) (hS _ hm), hp⟩, d.rf.ext e (hS _ ht) (fun q hq => by obtain ⟨_, e2⟩ := own_kd d.rf.own hq; exact hS _ (lt_of_some e2)), d.rise, d.ext.trans' e (fun k hk hs => absurd hs (hS k (Nat.lt_of_lt_of_le hk d.ext.size))), d.lo, d.le, d.most⟩
theorem T15.len (d : T15 h0 h b m bt v most L) : L.length ≤ 4096 := by have := d.le; have := d.most; omega
theorem tset_both (d : T15 h0 h b m bt v most L) (n : List UInt8) (id : Int) :
    CallsH Tryz.prog 23 ⟨[.pointer (some ⟨b, 0, none⟩), St n, In id]⟩ h fun u h1 => ∃ x e, u = .tuple ⟨[In x, In e]⟩ ∧ Ext (M15 m bt v) h h1 ∧
      CallsH Tryz.prog 24 ⟨[.pointer (some ⟨bt, 0, none⟩), St n, In id]⟩ h1 fun u h2 => u = .tuple ⟨[In x, In e]⟩ ∧ Ext (M15 m bt v) h1 h2 ∧ ∃ v' L', T15 h0 h2 b m bt v' most L' := by
  obtain ⟨E, t, hp⟩ := d.tb
  obtain ⟨s1, s2, s3, s4, s5, s6⟩ := d.sep
  have hlen := d.len
  have hlk : alook (encE In E) n = (getL L n).map In := by rw [alook_enc, getL_perm hp d.rise.nd]
  have hEl : (encE In E).length = L.length := by rw [enc_len, hp.length_eq]
  have hh0 := d.ext.size
  -- the code's table has turned
  have key : ∀ h1, Tb h1 b m most (aput (encE In E) n (In id)) → Ext (fun k => k = m) h h1 → ∀ x e, ((∃ u0, getL L n = some u0 ∧ x = u0 ∧ e = 0) ∨ (getL L n = none ∧ (L.length : Int) < most ∧ x = 0 ∧ e = 0)) →
      CallsH Tryz.prog 24 ⟨[.pointer (some ⟨bt, 0, none⟩), St n, In id]⟩ h1 fun u h2 => u = .tuple ⟨[In x, In e]⟩ ∧ Ext (M15 m bt v) h1 h2 ∧ ∃ v' L', T15 h0 h2 b m bt v' most L' := by
    intro h1 t1 x1 x e hc
    have r1 : Rf h1 bt v most L := d.rf.ext x1 (fun e => s3 e.symm) (fun q hq e => s5 (by rw [hq, e]))
    rw [aput_enc] at t1
    have hpp := put_perm hp d.rise n id
    have hsz := x1.size
    refine (set15 r1 d.rise (by omega) n id).mono fun u h2 hpost => ?_
    rcases hpost with ⟨u0, hg, rfl, r2, x2⟩ | ⟨hg, hle, rfl, rfl⟩ | ⟨hg, hlt, rfl, v', r2, x2, hf⟩
    · rcases hc with ⟨u1, hg1, rfl, rfl⟩ | ⟨hg1, _⟩
      · rw [hg] at hg1
        obtain rfl := Option.some.inj hg1
        refine ⟨rfl, x2.mono fun k _ e => .inr (.inr e), v, _, ⟨⟨_, t1.ext x2 s4 s5, hpp⟩, r2, d.rise.set _ _, (d.ext.trans' x1 (fun k hk e => by have := d.lo.2.1; omega)).trans' x2 (fun k hk e => by have := d.lo.2.2.2 k e; omega), d.lo, ?_, d.most⟩⟩
        rw [setL_len d.rise, hg]
        exact d.le
      · rw [hg] at hg1; cases hg1
    · rcases hc with ⟨u1, hg1, _⟩ | ⟨_, hlt, _⟩
      · rw [hg] at hg1; cases hg1
      · omega
    · rcases hc with ⟨u1, hg1, _⟩ | ⟨_, _, rfl, rfl⟩
      · rw [hg] at hg1; cases hg1
      · refine ⟨rfl, x2.mono fun k _ e => .inr (.inl e), v', _, ⟨⟨_, t1.ext x2 s2 s3, hpp⟩, r2, d.rise.set _ _, (d.ext.trans' x1 (fun k hk e => by have := d.lo.2.1; omega)).trans' x2 (fun k hk e => by have := d.lo.2.2.1; omega), ⟨d.lo.1, d.lo.2.1, d.lo.2.2.1, fun q hq => by have := hf q hq; omega⟩, ?_, d.most⟩⟩
        rw [setL_len d.rise, hg]
        simp
        omega
  rcases hg : getL L n with _ | u0
  · rw [hg] at hlk
    by_cases hlt : (L.length : Int) < most
    · refine (set_new_ t n (In id) hlk (by rw [hEl]; exact hlt)).mono fun u h1 ⟨hu, t1, x1⟩ => ⟨0, 0, hu, x1.mono fun k _ e => .inl e, key h1 t1 x1 0 0 (.inr ⟨hg, hlt, rfl, rfl⟩)⟩
    · refine (set_full t n (In id) hlk (by rw [hEl]; omega)).mono fun u h1 ⟨hu, e⟩ => ⟨0, 6, hu, e ▸ .refl _ _, ?_⟩
      subst e
      refine (set15 d.rf d.rise (by omega) n id).mono fun u h2 hpost => ?_
      rcases hpost with ⟨u0, hg2, _⟩ | ⟨_, _, rfl, rfl⟩ | ⟨_, hlt2, _⟩
      · rw [hg] at hg2; cases hg2
      · exact ⟨rfl, .refl _ _, v, L, d⟩
      · omega
  · rw [hg] at hlk
    refine (set_there t n (In id) hlk).mono fun u h1 ⟨hu, t1, x1⟩ => ⟨u0, 0, hu, x1.mono fun k _ e => .inl e, key h1 t1 x1 u0 0 (.inl ⟨u0, hg, rfl, rfl⟩)⟩
theorem tget_both (d : T15 h0 h b m bt v most L) (n : List UInt8) :
    CallsH Tryz.prog 54 ⟨[.pointer (some ⟨b, 0, none⟩), St n]⟩ h (fun u h1 => u = .tuple ⟨[In ((getL L n).getD 0), .bool (getL L n).isSome]⟩ ∧ h1 = h) ∧
      CallsH Tryz.prog 65 ⟨[.pointer (some ⟨bt, 0, none⟩), St n]⟩ h fun u h2 => u = .tuple ⟨[In ((getL L n).getD 0), .bool (getL L n).isSome]⟩ ∧ h2 = h := by
  obtain ⟨E, t, hp⟩ := d.tb
  have hlen := d.len
  have hlk : alook (encE In E) n = (getL L n).map In := by rw [alook_enc, getL_perm hp d.rise.nd]
  refine ⟨?_, get15 d.rf d.rise (by omega) n⟩
  rcases hg : getL L n with _ | u0
  · rw [hg] at hlk
    exact get_no t n hlk
  · rw [hg] at hlk
    exact get_yes t n hlk
end
end Go.Proofs.YtggmocdbfbhklaaGreat


/-
  LOOKUP (layer 16), by the code and by the document: the statement that a name will have.
-/
namespace Go.Proofs.YtggmocdbfbhklaaGreat
open Go Go.RK

/-! ### in plain Lean -/
/-- The ops that will come about. -/
def opsE (A : List En) : List TOp := A.flatMap En.good
def stepT (n : List UInt8) (s : Int × Bool) (op : TOp) : Int × Bool := if op.2.1 = n then (if op.1 = true then op.2.2.1 else 0, op.1) else s
/-- What a name will have. -/
def lookT (n : List UInt8) (s : Int × Bool) (ops : List TOp) : Int × Bool := ops.foldl (stepT n) s
def stepL (L : List NI) (op : TOp) : List NI := if op.1 = true then setL L op.2.1 op.2.2.1 else delL L op.2.1
theorem getL_setN {L : List NI} (h : Rise L) (n m : List UInt8) (v : Int) : getL (setL L n v) m = if m = n then some v else getL L m := by
  have e : alook (encE In (setL L n v)) m = alook (encE In (putE L n v)) m := by
    rw [alook_enc, alook_enc, getL_perm (put_perm (.refl L) h n v) (h.set n v).nd]
  rw [alook_enc, ← aput_enc] at e
  have hinj : ∀ a b : Option Int, a.map In = b.map In → a = b := fun a b e => by
    cases a <;> cases b <;> simp_all
  apply hinj
  rw [e]
  by_cases hm : m = n
  · subst hm; rw [alook_aput_same, if_pos rfl]; rfl
  · rw [alook_aput_other _ _ hm, if_neg hm, alook_enc]
theorem getL_delN {L : List NI} (n m : List UInt8) : getL (delL L n) m = if m = n then none else getL L m := by
  have hinj : ∀ a b : Option Int, a.map In = b.map In → a = b := fun a b e => by
    cases a <;> cases b <;> simp_all
  apply hinj
  rw [← alook_enc, ← adel_enc]
  by_cases hm : m = n
  · subst hm; rw [alook_adel_same, if_pos rfl]; rfl
  · rw [alook_adel_other _ hm, if_neg hm, alook_enc]
theorem rise_step {L : List NI} (h : Rise L) (op : TOp) : Rise (stepL L op) := by
  unfold stepL; split
  · exact h.set _ _
  · exact h.del _
theorem rise_fold {L : List NI} (h : Rise L) (ops : List TOp) : Rise (ops.foldl stepL L) := by
  induction ops generalizing L with
  | nil => exact h
  | cons op ops ih => exact ih (rise_step h op)
theorem look_fold {L : List NI} (h : Rise L) (n : List UInt8) (ops : List TOp) : ((getL (ops.foldl stepL L) n).getD 0, (getL (ops.foldl stepL L) n).isSome) = lookT n ((getL L n).getD 0, (getL L n).isSome) ops := by
  induction ops generalizing L with
  | nil => rfl
  | cons op ops ih =>
    rw [List.foldl_cons, ih (rise_step h op)]
    unfold lookT
    rw [List.foldl_cons]
    congr 1
    unfold stepL stepT
    by_cases ho : op.1 = true
    · rw [if_pos ho, getL_setN h, ho]
      by_cases hn : n = op.2.1
      · rw [if_pos hn, if_pos hn.symm]; simp
      · rw [if_neg hn, if_neg (fun e => hn e.symm)]
    · rw [if_neg ho, getL_delN]
      have ho' : op.1 = false := by simpa using ho
      by_cases hn : n = op.2.1
      · rw [if_pos hn, if_pos hn.symm]; simp [ho']
      · rw [if_neg hn, if_neg (fun e => hn e.symm)]
theorem foldL_len {L : List NI} (h : Rise L) (ops : List TOp) : (ops.foldl stepL L).length ≤ L.length + ops.length := by
  induction ops generalizing L with
  | nil => simp
  | cons op ops ih =>
    have h1 := ih (rise_step h op)
    have h2 : (stepL L op).length ≤ L.length + 1 := by
      unfold stepL; split
      · rw [setL_len h]; split <;> omega
      · unfold delL
        exact Nat.le_succ_of_le (List.length_filter_le _ _)
    rw [List.foldl_cons, List.length_cons]
    omega
theorem fold_len' {L : List NI} (h : Rise L) (ops : List TOp) (h1 : L.length ≤ 4096) (h2 : ops.length ≤ 100000) : (ops.foldl stepL L).length ≤ 1000000 := by
  have := foldL_len h ops; omega
/-- How many ops come ahead of the k-th entry's. -/
def offE (A : List En) (k : Nat) : Nat := (opsE (A.take k)).length
theorem offE_succ {A : List En} {k : Nat} {e : En} (h : A[k]? = some e) : offE A (k + 1) = offE A k + e.good.length := by
  have hk := List.getElem?_eq_some_iff.1 h
  unfold offE opsE
  rw [List.take_add_one, h, List.flatMap_append, List.length_append]
  simp
theorem opsE_at {A : List En} {k i : Nat} {e : En} {op : TOp} (h : A[k]? = some e) (ho : e.good[i]? = some op) : (opsE A)[offE A k + i]? = some op := by
  have hk := List.getElem?_eq_some_iff.1 h
  have hi := (List.getElem?_eq_some_iff.1 ho).1
  have e1 : A = A.take k ++ e :: A.drop (k + 1) := by
    conv => lhs; rw [← List.take_append_drop k A]
    rw [List.drop_eq_getElem_cons hk.1, hk.2]
  have e2 : opsE A = opsE (A.take k) ++ (e.good ++ opsE (A.drop (k + 1))) := by
    conv => lhs; rw [e1]
    unfold opsE
    rw [List.flatMap_append, List.flatMap_cons]
  rw [e2]
  unfold offE
  rw [List.getElem?_append_right (by omega), Nat.add_sub_cancel_left, List.getElem?_append_left hi]
  exact ho
theorem offE_all {A : List En} : offE A A.length = (opsE A).length := by unfold offE; rw [List.take_of_length_le (Nat.le_refl _)]

/-! ### the code's iterator -/
def rdE (va : Value) (A : List En) (bx q : Nat) : Prop := q = bx ∨ (0 < A.length ∧ va.ownBlock = some q) ∨ ∃ e ∈ A, 0 < e.good.length ∧ e.vg.ownBlock = some q
/-- Entries with the ops that will come about. -/
structure Gds (h : Heap) (va : Value) (A : List En) : Prop where
  row : Rd h va 8 A.length (A.flatMap En.cells)
  len : A.length ≤ 100000
  one : ∀ e ∈ A, ∀ v ∈ e.cells, v.oneCell' = true
  good : ∀ e ∈ A, Rd h e.vg 3 e.good.length (e.good.flatMap topCells)
  few : ∀ e ∈ A, e.good.length ≤ 100000
theorem Gds.ext0 {h h' : Heap} {va : Value} {A : List En} (g : Gds h va A) (x : Ext No h h') : Gds h' va A := ⟨g.row.ext0 x, g.len, g.one, fun e he => (g.good e he).ext0 x, g.few⟩
theorem Gds.ext {h h' : Heap} {S : Nat → Prop} {va : Value} {A : List En} (bx : Nat) (g : Gds h va A) (x : Ext S h h') (hS : ∀ q, rdE va A bx q → ¬ S q) : Gds h' va A :=
  ⟨g.row.ext' x fun b hn hb => hS b (.inr (.inl ⟨hn, hb⟩)), g.len, g.one, fun e he => (g.good e he).ext' x fun b hn hb => hS b (.inr (.inr ⟨e, he, hn, hb⟩)), g.few⟩
theorem Gds.lt {h : Heap} {va : Value} {A : List En} {bx q : Nat} (g : Gds h va A) (hx : bx < h.size) (k : rdE va A bx q) : q < h.size := by
  rcases k with rfl | ⟨hn, hb⟩ | ⟨e, he, hn, hb⟩
  · exact hx
  · exact g.row.lt hn hb
  · exact (g.good e he).lt hn hb
def encT (p : TOp) : List Value := [.agg ⟨topCells p⟩]
set_option maxHeartbeats 4000000 in
set_option maxRecDepth 100000 in
theorem later_seq {h : Heap} {va : Value} {A : List En} {bx : Nat} (g : Gds h va A) (hbx : h[bx]? = some (.cells ⟨[va]⟩ 37 (0, 0))) :
    SeqH Tryz.prog 82 [.pointer (some ⟨bx, 0, none⟩)] encT (opsE A) (rdE va A bx) h := by
  intro X J Jx own l x0 hJ0 hll hlr hown hst hY
  have hgl := g.len
  have hxl := lt_of_some hbx
  obtain ⟨AA, ca, rfl, _⟩ := id g.row
  refine calls [(0, _), (1, _)] Tryz.func82 rfl Tryz.ntmps82 rfl ⟨rfl, rfl, trivial⟩ ?_
  all_goals (refine WC.sr ?_; refine WL.ld rfl (by first | exact cell_blk hbx rfl | assumption | exact cell_blk (by assumption) rfl) rfl rfl rfl ?_; refine Go ?_; refine WC.block ?_)
  -- loop 0: slots that turn [9], that stay [0, 7, 8]
  all_goals (refine WC.loopG (X := Nat × X) (fun x => ([(9, In (x.1 : Int))] : Fr)) [(0, _), (7, _), (8, _)] (fun x h' => J (offE A x.1) x.2 h' ∧ x.1 ≤ A.length ∧ Gds h' (.slice AA A.length ca) A) (fun x => A.length - x.1) ((0, x0)) ⟨rfl, rfl, rfl, rfl, trivial⟩ (by exact ⟨hJ0, Nat.zero_le _, g⟩) ?_; rintro ⟨k, x⟩ h1 ⟨hJ1, hk, g1⟩; dsimp only at hJ1 hk g1)
  all_goals (refine WC.sub [(9, _), (0, _), (7, _), (8, _)] ⟨rfl, rfl, rfl, rfl, trivial⟩ ?_; dsimp only)
  all_goals (refine WC.sr ?_; refine Go ?_; refine WC.seq ?_; refine goC 1 2 (Hb.mk fun hb => ?_) (Hb.mk fun hb => ?_))
  all_goals (first | (fail_if_success refine goB 1 ?_) | (
  refine goB 1 ?_
  all_goals (refine WC.skip ?_)
  skip))
  all_goals (first | (fail_if_success refine goB 2 ?_) | (
  refine goB 2 ?_
  all_goals (refine WC.exit ?_; repeat' (with_reducible first | refine thenP_x ?_ | refine blockP_miss rfl ?_ | refine blockP_hit ?_ | refine blockP_n ?_ | refine thenP_n ?_))
  all_goals (refine Br.out (i := 1000) ?_)
  skip))
  all_goals (refine Gn ?_; first | (refine Br.keep ?_) | (refine WC.seq ?_))
  all_goals (first | (refine Br.keep ?_) | (refine WC.block ?_))
  all_goals (first | (refine Br.keep ?_) | (refine WC.sr ?_))
  all_goals (first
               | (refine Br.keep ?_)
               | (obtain ⟨bL, oL, hA, hbL, hat⟩ := Rd.at_ g1.row (by omega)
                  obtain ⟨y, hy⟩ : ∃ y, A[k]? = some y := ⟨_, List.getElem?_eq_getElem (by omega)⟩
                  have hym := List.mem_of_getElem? hy
                  have hat1 : At h1 bL (oL + k * 8) y.cells := At.elem En.len hat hy
                  have hone := g1.one y hym
                  have hoff := offE_succ hy
                  have hgy := g1.few y hym))
  all_goals (first | (refine Br.keep ?_) | (refine WL.step (ok_idxAddrA Tryz.underlying37 (fun w => Tryz.sizeOf44 w) rfl rfl rfl (by omega) (by first | rfl | assumption)) rfl rfl rfl ?_))
  all_goals (first | (refine Br.keep ?_) | (refine WL.step (ok_loadN (fun w => Tryz.isAgg44 w) (fun w => Tryz.sizeOf44 w) rfl rfl (by exact hat1)) rfl rfl rfl ?_))
  all_goals (first
               | (refine Br.keep ?_)
               | (refine WL.stepR (okE_alloc (fun w => Tryz.zeroValue44 w)) rfl rfl rfl ?_
                  rintro _ h2 ⟨b2, rfl, hg2, hb2, hx2⟩))
  all_goals (first
               | (refine Br.keep ?_)
               | (refine WL.stepR0 (okE_storeW (fun w => Tryz.sizeOf44 w) rfl rfl rfl hb2 rfl hone) rfl rfl ?_
                  rintro _ h3 ⟨hb3, hx3⟩))
  all_goals (first
               | (refine Br.keep ?_)
               | (have hX3 : Ext No h1 h3 := hx2.trans' hx3 (fun q hq e => by omega)
                  have g3 := g1.ext0 hX3
                  have hJ3 : J (offE A k) x h3 := hst _ _ _ _ No hJ1 hX3 (fun _ e => e.elim)
                  obtain ⟨gA, gc, hvg, _⟩ := id (g3.good y hym)
                  obtain ⟨kind, hide, src, dst, vg, good, vb, bad, vc, ops, vr, reply⟩ := y
                  dsimp only at hvg hgy hoff
                  subst hvg
                  dsimp only [En.cells] at hb3))
  all_goals (refine Gn ?_; first | (refine Br.keep ?_) | (refine WC.sr ?_))
  all_goals (refine Go ?_; first | (refine Br.keep ?_) | (refine WL.ld rfl (by first | exact cell_blk hb3 rfl | assumption | exact cell_blk (by assumption) rfl) rfl rfl rfl ?_))
  all_goals (refine Go ?_; first | (refine Br.keep ?_) | (refine Gs [(0, _), (7, _), (8, _), (9, _), (14, _), (15, _), (16, _)] ?_))
  all_goals (first | (refine Br.keep ?_) | (refine WC.block ?_))
  -- loop 1: slots that turn [16], that stay [0, 7, 8, 9, 14, 15]
  all_goals (first | (refine Br.keep ?_) | (refine WC.loopG (X := Nat × X) (fun z => ([(16, In (z.1 : Int))] : Fr)) [(0, _), (7, _), (8, _), (9, _), (14, _), (15, _)] (fun z h' => J (offE A k + z.1) z.2 h' ∧ z.1 ≤ good.length ∧ Gds h' (.slice AA A.length ca) A) (fun z => good.length - z.1) ((0, x)) ⟨rfl, rfl, rfl, rfl, rfl, rfl, rfl, trivial⟩ (by exact ⟨hJ3, Nat.zero_le _, g3⟩) ?_))
  all_goals (first
               | (refine Br.keep ?_)
               | (rintro ⟨i, x2⟩ h4 ⟨hJ4, hi, g4⟩
                  dsimp only at hJ4 hi g4))
  all_goals (first | (refine Br.keep ?_) | (refine WC.sub [(16, _), (0, _), (7, _), (8, _), (9, _), (14, _), (15, _)] ⟨rfl, rfl, rfl, rfl, rfl, rfl, rfl, trivial⟩ ?_))
  all_goals (first | (refine Br.keep ?_) | (dsimp only))
  all_goals (first | (refine Br.keep ?_) | (refine WC.sr ?_))
  all_goals (refine Go ?_; first | (refine Br.keep ?_) | (refine WC.seq ?_))
  all_goals (first | (refine Br.keep ?_) | (refine goC 3 4 (Hb.mk fun hb => ?_) (Hb.mk fun hb => ?_)))
  all_goals (first | (fail_if_success refine goB 3 ?_) | (
  refine goB 3 ?_
  all_goals (refine WC.skip ?_)
  skip))
  all_goals (first | (fail_if_success refine goB 4 ?_) | (
  refine goB 4 ?_
  all_goals (refine WC.exit ?_; repeat' (with_reducible first | refine thenP_x ?_ | refine blockP_miss rfl ?_ | refine blockP_hit ?_ | refine blockP_n ?_ | refine thenP_n ?_))
  all_goals (refine Br.out (i := 1002) ?_)
  skip))
  all_goals (refine Gn ?_; first | (refine Br.keep ?_) | (refine WC.seq ?_))
  all_goals (first | (refine Br.keep ?_) | (refine WC.block ?_))
  all_goals (first | (refine Br.keep ?_) | (refine WC.sr ?_))
  all_goals (first
               | (refine Br.keep ?_)
               | (obtain ⟨bG, oG, hG, hbG, hatG⟩ := Rd.at_ (g4.good _ hym) (by show 0 < good.length; omega)
                  dsimp only at hG hatG
                  obtain ⟨op, hop⟩ : ∃ y, good[i]? = some y := ⟨_, List.getElem?_eq_getElem (by omega)⟩
                  have hat5 : At h4 bG (oG + i * 3) (topCells op) := At.elem topCells_len hatG hop
                  have hopE : (opsE A)[offE A k + i]? = some op := opsE_at hy hop))
  all_goals (first | (refine Br.keep ?_) | (refine WL.step (ok_idxAddrA Tryz.underlying40 (fun w => Tryz.sizeOf89 w) rfl rfl rfl (by omega) (by first | rfl | assumption)) rfl rfl rfl ?_))
  all_goals (first | (refine Br.keep ?_) | (refine WL.step (ok_loadN (fun w => Tryz.isAgg89 w) (fun w => Tryz.sizeOf89 w) rfl rfl (by exact hat5)) rfl rfl rfl ?_))
  all_goals (first
               | (refine Br.keep ?_)
               | (refine WL.stepR (okE_alloc (fun w => Tryz.zeroValue89 w)) rfl rfl rfl ?_
                  rintro _ h5 ⟨b5, rfl, hg5, hb5, hx5⟩))
  all_goals (first
               | (refine Br.keep ?_)
               | (refine WL.stepR0 (okE_storeW (fun w => Tryz.sizeOf89 w) rfl rfl rfl hb5 rfl (by intro v hv; simp [topCells] at hv; rcases hv with rfl | rfl | rfl <;> rfl)) rfl rfl ?_
                  rintro _ h6 ⟨hb6, hx6⟩))
  all_goals (first
               | (refine Br.keep ?_)
               | (have hX6 : Ext No h4 h6 := hx5.trans' hx6 (fun q hq e => by omega)
                  have g6 := g4.ext0 hX6
                  have hJ6 : J (offE A k + i) x2 h6 := hst _ _ _ _ No hJ4 hX6 (fun _ e => e.elim)))
  all_goals (refine Gn ?_; first | (refine Br.keep ?_) | (refine WC.seq ?_))
  all_goals (first | (refine Br.keep ?_) | (refine WC.regionY ?_))
  all_goals (first | (refine Br.keep ?_) | (refine WY.step (ok_move rfl) rfl rfl rfl ?_))
  all_goals (first | (refine Br.keep ?_) | (refine WY.step (ok_loadN (fun w => Tryz.isAgg89 w) (fun w => Tryz.sizeOf89 w) rfl rfl (by exact At.of_block hb6)) rfl rfl rfl ?_))
  all_goals (first
               | (refine Br.keep ?_)
               | (refine WY.yield (vs := [_]) rfl rfl rfl (hY (offE A k + i) x2 h6 op hJ6 hopE) rfl rfl rfl ?_
                  rintro _ h7 ⟨x', hx7, hox, (⟨rfl, hJ7⟩ | ⟨rfl, hJx7⟩)⟩))
  all_goals (first | (refine Br.keep ?_) | (try (have g7 := g6.ext bx hx7 (fun q hq e => e.elim (fun e => (hown _ _ _ hJ6 q e).2 hq) (fun e => hlr (e ▸ hq))))))
  all_goals (first | (refine Br.keep ?_) | (refine WY.step (ok_not rfl) rfl rfl rfl ?_))
  all_goals (first | (refine Br.keep ?_) | (refine WY.nil ?_))
  all_goals (refine Gn ?_; first | (refine Br.keep ?_) | (refine Gs [(0, _), (7, _), (8, _), (9, _), (14, _), (15, _), (16, _), (23, _)] ?_))
  all_goals (first | (refine Br.keep ?_) | (refine goC 5 6 ?_ TT.mk))
  all_goals (first | (fail_if_success refine goB 5 ?_) | (
  refine goB 5 ?_
  all_goals (refine Gt ?_; exact ⟨x', .inr hJx7⟩)
  skip))
  all_goals (first | (fail_if_success refine goB 6 ?_) | (
  refine goB 6 ?_
  all_goals (refine WC.skip ?_)
  skip))
  all_goals (refine Gn ?_; first | (refine Br.keep ?_) | (refine WC.region ?_))
  all_goals (refine Go ?_; first | (refine Br.keep ?_) | (exact ⟨(i + 1, x'), ⟨rfl, rfl, rfl, rfl, rfl, rfl, rfl, trivial⟩, (by exact ⟨hJ7, by omega, g7⟩), (by simp; omega)⟩))
  all_goals (try (refine Br.mk (i := 1002) ?_))
  all_goals (refine Gn ?_; first | (refine Br.keep ?_) | (refine Gs [(0, _), (7, _), (8, _), (9, _)] ?_))
  all_goals (first | (refine Br.keep ?_) | (refine WC.region ?_))
  all_goals (refine Go ?_; first | (refine Br.keep ?_) | (exact ⟨(k + 1, x2), ⟨rfl, rfl, rfl, rfl, trivial⟩, (by exact ⟨by have hii : i = good.length := (by omega); rw [hoff]; exact hii ▸ hJ4, by omega, g4⟩), (by simp; omega)⟩))
  all_goals (try (refine Br.mk (i := 1000) ?_))
  all_goals (refine Gn ?_; refine retP_n [] trivial ?_; exact ⟨x, .inl (by have hkk : k = A.length := (by omega); rw [hkk, offE_all] at hJ1; exact hJ1)⟩)
set_option maxHeartbeats 2000000 in
set_option maxRecDepth 100000 in
theorem later_any {h : Heap} {va : Value} : CallsH Tryz.prog 55 ⟨[va]⟩ h fun u h' => ∃ bx, u = .func (.func 82) #[] #[.pointer (some ⟨bx, 0, none⟩)] ∧ h'[bx]? = some (.cells va.cells 37 (0, 0)) ∧ h.size ≤ bx ∧ Ext No h h' := by
  refine calls [(0, _)] Tryz.func55 rfl Tryz.ntmps55 rfl ⟨rfl, trivial⟩ ?_
  all_goals (refine WC.sr ?_; refine WL.stepR (okE_box rfl) rfl rfl rfl ?_; rintro _ h1 ⟨b1, rfl, hg1, hb1, hx1⟩; refine Go ?_; refine WC.sr ?_; refine WL.step (ok_makeFunc (vs := []) (us := [_]) rfl rfl) rfl rfl rfl ?_; refine Go ?_; refine Gt ?_; exact ⟨b1, rfl, hb1, hg1, hx1⟩)
theorem lookT_take {ops : List TOp} {k : Nat} {op : TOp} {n : List UInt8} {s : Int × Bool} (h : ops[k]? = some op) : lookT n s (ops.take (k + 1)) = stepT n (lookT n s (ops.take k)) op := by
  unfold lookT
  rw [List.take_add_one, h, List.foldl_append]
  rfl
set_option maxHeartbeats 4000000 in
set_option maxRecDepth 100000 in
theorem look_code0 {h : Heap} {b : Nat} {va : Value} {s0 : Int × Bool} {A : List En} (n : List UInt8) (kg : ∀ h', Ext No h h' → CallsH Tryz.prog 54 ⟨[.pointer (some ⟨b, 0, none⟩), St n]⟩ h' fun u h1 => u = .tuple ⟨[In s0.1, .bool s0.2]⟩ ∧ h1 = h') (g : Gds h va A) :
    CallsH Tryz.prog 29 ⟨[.pointer (some ⟨b, 0, none⟩), va, St n]⟩ h fun u h' => u = .tuple ⟨[In (lookT n s0 (opsE A)).1, .bool (lookT n s0 (opsE A)).2]⟩ ∧ Ext No h h' := by
  obtain ⟨AA, ca, rfl, _⟩ := id g.row
  refine callsD [(0, _), (1, _), (2, _)] Tryz.func29 rfl Tryz.ntmps29 rfl ⟨rfl, rfl, rfl, trivial⟩ ?_
  all_goals (refine WD.seq ?_; refine WD.of ?_; refine WC.region ?_; refine WL.stepR (okE_box rfl) rfl rfl rfl ?_; rintro _ h1 ⟨b5, rfl, hg5, hb5, hx1⟩; refine WL.step (ok_assign rfl) rfl rfl rfl ?_; refine WL.step (ok_assign rfl) rfl rfl rfl ?_; refine WL.nil ?_; repeat' (with_reducible first | refine thenP_n ?_ | refine blockP_n ?_))
  all_goals (refine WD.sub [(0, _), (1, _), (5, _)] ⟨rfl, rfl, rfl, trivial⟩ ?_; refine WD.seq ?_; refine WD.of ?_; refine WC.region ?_; refine WL.step (ok_move rfl) rfl rfl rfl ?_; refine WL.step (ok_load (fun w => Tryz.isAgg9 w) rfl (by first | exact cell_blk hb5 rfl | assumption | exact cell_blk (by assumption) rfl)) rfl rfl rfl ?_; refine WL.call (vs := [_, _]) rfl (fun a w => Tryz.call54 a w) rfl (kg _ hx1) rfl rfl rfl ?_; rintro _ hz ⟨rfl, _⟩; subst hz; refine WL.step (ok_move rfl) rfl rfl rfl ?_; refine WL.step (ok_extract rfl rfl) rfl rfl rfl ?_; refine WL.step (ok_extract rfl rfl) rfl rfl rfl ?_; refine WL.stepR (okE_alloc (fun w => Tryz.zeroValue3 w)) rfl rfl rfl ?_; rintro _ h2 ⟨b8, rfl, hg8, hb8, hx2⟩; refine WL.stepR (okE_alloc (fun w => Tryz.zeroValue4 w)) rfl rfl rfl ?_; rintro _ h3 ⟨b9, rfl, hg9, hb9, hx3⟩; refine WL.stepR0 (okE_store (fun w => Tryz.sizeOf3 w) rfl rfl (hx3.obj hb8 nos) (Nat.le_of_ble_eq_true rfl) rfl rfl) rfl rfl ?_; rintro _ h4 ⟨hb84, hx4⟩; refine WL.stepR0 (okE_store (fun w => Tryz.sizeOf4 w) rfl rfl (hx4.obj hb9 (fun e => by have := lt_of_some hb8; omega)) (Nat.le_of_ble_eq_true rfl) rfl rfl) rfl rfl ?_; rintro _ h5 ⟨hb95, hx5⟩; have l8 := lt_of_some hb8; have hb85 := hx5.obj hb84 (fun e => by omega); have s1 := hx1.size; have s2 := hx2.size; have s3 := hx3.size; have hX3 := (hx1.trans hx2).trans hx3; have hX5 : Ext No h h5 := (hX3.trans' hx4 (fun q hq e => by omega)).trans' hx5 (fun q hq e => by omega); have hb55 := hx5.obj (hx4.obj ((hx2.trans hx3).obj hb5 nos) (fun e => by have := lt_of_some hb5; omega)) (fun e => by have := lt_of_some hb5; omega); refine WL.nil ?_; repeat' (with_reducible first | refine thenP_n ?_ | refine blockP_n ?_))
  all_goals (refine WD.sub [(1, _), (5, _), (8, _), (9, _)] ⟨rfl, rfl, rfl, rfl, trivial⟩ ?_; refine WD.seq ?_; refine WD.seq ?_; refine WD.of ?_; refine WC.region ?_; refine WL.step (ok_move rfl) rfl rfl rfl ?_; refine WL.call (vs := [_]) rfl (fun a w => Tryz.call55 a w) rfl (later_any) rfl rfl rfl ?_; rintro _ h6 ⟨bx, rfl, hbx, hgx, hx6⟩; have hX6 := hX5.trans hx6; have g6 := g.ext0 hX6; have lx := lt_of_some hbx; have hb86 := hx6.obj hb85 nos; have hb96 := hx6.obj hb95 nos; have hb56 := hx6.obj hb55 nos; have l86 := lt_of_some hb85; have l96 := lt_of_some hb95; have l56 := lt_of_some hb55; (have n58 : b5 ≠ b8 ∧ b5 ≠ b9 ∧ b8 ≠ b9 := by have := lt_of_some hb5; omega); have hnr : ∀ q, h1.size ≤ q → q ≠ bx → ¬ rdE (.slice AA A.length ca) A bx q := fun q hq hn e => by rcases e with e | ⟨e1, e2⟩ | ⟨y, hy, e1, e2⟩; exact hn e; (have := g.row.lt e1 e2; omega); (have := (g.good y hy).lt e1 e2; omega))
  all_goals (refine WL.nil ?_; repeat' (with_reducible first | refine thenP_n ?_ | refine blockP_n ?_))
  all_goals (refine WD.sub [(5, _), (8, _), (9, _), (18, _)] ⟨rfl, rfl, rfl, rfl, trivial⟩ ?_; refine WD.block ?_; refine WD.rangeA (L := opsE A) (enc := encT) rfl (fun a w => Tryz.call82 a w) (fun h' hx => later_seq (g6.ext0 hx) (hx.obj hbx nos)) (fun q e => g6.lt lx e) (fun _ => rfl) (by kernel_rfl) (X := Unit) (fun k _ h' => Ext (fun q => q = b8 ∨ q = b9) h6 h' ∧ h'[b8]? = some (.cells ⟨[In (lookT n s0 ((opsE A).take k)).1]⟩ 3 (0, 0)) ∧ h'[b9]? = some (.cells ⟨[.bool (lookT n s0 ((opsE A).take k)).2]⟩ 4 (0, 0))) (fun _ _ _ => False) (fun _ q => q = b8 ∨ q = b9) (()) (fun h' hx => ⟨hx.mono fun _ _ e => e.elim, hx.obj hb86 nos, hx.obj hb96 nos⟩) (fun k x h' hJ q e => ⟨by rcases e with rfl | rfl; exact lt_of_some hJ.2.1; exact lt_of_some hJ.2.2, hnr q (by rcases e with rfl | rfl <;> omega) (by rcases e with rfl | rfl <;> omega)⟩) (fun q e => by rcases e with rfl | rfl <;> omega) (fun k x h1 h2 S hJ hx hS => ⟨hJ.1.trans' hx (fun q hq e => by have := (hS q e (Nat.lt_of_lt_of_le hq hJ.1.size)).1; omega), hx.obj hJ.2.1 (fun e => (hS b8 e (lt_of_some hJ.2.1)).2 (.inl rfl)), hx.obj hJ.2.2 (fun e => (hS b9 e (lt_of_some hJ.2.2)).2 (.inr rfl))⟩) (fun _ _ _ _ _ e _ _ => e.elim) (fun l k x h1 a hL hJ hll => Br.out (i := 8000) ?_) (fun D x h1 hJ hoD hD hnD => Br.out (i := 8001) ?_) (fun _ _ _ e _ _ _ => e.elim) (fun _ _ _ _ e _ _ _ => e.elim))
  all_goals (first | (fail_if_success refine goB 8000 ?_) | (
  refine goB 8000 ?_
  all_goals (refine WC.sub [(5, _), (8, _), (9, _), (19, _)] ⟨rfl, rfl, rfl, rfl, trivial⟩ ?_; refine WC.region ?_; refine WL.stepR (okE_alloc (fun w => Tryz.zeroValue89 w)) rfl rfl rfl ?_; rintro _ g1 ⟨b10, rfl, hg10, hb10, hy1⟩; refine WL.stepR0 (okE_storeW (fun w => Tryz.sizeOf89 w) rfl rfl rfl hb10 rfl (by intro v hv; simp [topCells] at hv; rcases hv with rfl | rfl | rfl <;> rfl)) rfl rfl ?_; rintro _ g2 ⟨hb10', hy2⟩; refine WL.nil ?_; repeat' (with_reducible first | refine thenP_n ?_ | refine blockP_n ?_))
  all_goals (refine ⟨(hy1.trans' hy2 (fun q hq e => by omega)), fun h2 hxl hJ2 => ?_⟩)
  all_goals (obtain ⟨hx7, hb87, hb97⟩ := hJ2
             have l10 := lt_of_some hb10
             have n10 : b10 ≠ l := by omega
             have hbo := hxl.obj hb10' n10
             have n108 : ¬ (b10 = b8 ∨ b10 = b9) := by have := hJ.1.size; have := hx6.size; omega
             have hb57 := hx7.obj hb56 (fun e => by omega)
             have hst := lookT_take (n := n) (s := s0) hL
             obtain ⟨os, on, oi, _⟩ := a
             unfold stepT at hst
             by_cases hon : on = n
             all_goals cases os
             all_goals dsimp only at hst
             all_goals first | rw [if_pos hon] at hst | rw [if_neg hon] at hst
             all_goals try simp only [if_true, Bool.false_eq_true, if_false] at hst)
  all_goals (refine WC.block ?_; refine WC.seq ?_; refine WC.seq ?_; refine WC.region ?_; refine WL.step (ok_fieldAddr rfl Tryz.underlying89 rfl (fun w => Tryz.sizeOf9 w)) rfl rfl rfl ?_; refine WL.step (ok_load (fun w => Tryz.isAgg9 w) rfl (by first | exact cell_blk hbo rfl | assumption | exact cell_blk (by assumption) rfl)) rfl rfl rfl ?_; refine WL.step (ok_load (fun w => Tryz.isAgg9 w) rfl (by first | exact cell_blk hb57 rfl | assumption | exact cell_blk (by assumption) rfl)) rfl rfl rfl ?_; first | (refine WL.step (OkP.nbool_f (by first | rfl | assumption | decide) (ok_neqS rfl rfl)) rfl rfl rfl ?_) | (refine WL.step (OkP.nbool_t (by first | assumption | decide) (ok_neqS rfl rfl)) rfl rfl rfl ?_))
  all_goals (refine WL.nil ?_; repeat' (with_reducible first | refine thenP_n ?_ | refine blockP_n ?_))
  all_goals (refine WC.sub [(8, _), (9, _), (10, _), (23, _)] ⟨rfl, rfl, rfl, rfl, trivial⟩ ?_; first | refine WC.condB_t 1 rfl ?_ | refine WC.condB_f 2 rfl ?_ | (refine WC.condB 1 2 rfl (fun hb => ?_) (fun hb => ?_) <;> (first | replace hb := of_decide_eq_true hb | replace hb := of_decide_eq_false hb | replace hb := of_decide_eq_false (nt hb) | replace hb := of_decide_eq_true (nf hb) | skip)))
  all_goals (first | (fail_if_success refine goB 1 ?_) | (
  refine goB 1 ?_
  all_goals (refine WC.exit ?_; repeat' (with_reducible first | refine thenP_x ?_ | refine blockP_miss rfl ?_ | refine blockP_hit ?_ | refine blockP_n ?_ | refine thenP_n ?_))
  all_goals (refine Br.out (i := 1001) ?_)
  skip))
  all_goals (first | (fail_if_success refine goB 2 ?_) | (
  refine goB 2 ?_
  all_goals (refine WC.skip ?_)
  skip))
  all_goals (first | (refine Br.keep ?_) | (repeat' (with_reducible first | refine thenP_n ?_ | refine blockP_n ?_)))
  all_goals (first | (refine Br.keep ?_) | (refine WC.seq ?_))
  all_goals (first | (refine Br.keep ?_) | (refine WC.drawH (fun h' => Ext (fun q => q = b8 ∨ q = b9) h2 h') 4 4 rfl fol ?_))
  all_goals (first | (refine Br.keep ?_) | (refine WH.take 0 rfl (by kernel_rfl) (by kernel_rfl) (by kernel_rfl) (by kernel_rfl) rfl (by first | exact Ext.refl _ _ | assumption) (fun hq hC => ok_fieldAddr rfl Tryz.underlying89 rfl (fun w => Tryz.sizeOf4 w)) rfl rfl rfl ?_))
  all_goals (first | (refine Br.keep ?_) | (refine WH.take 1 rfl (by kernel_rfl) (by kernel_rfl) (by kernel_rfl) (by kernel_rfl) rfl (by first | exact Ext.refl _ _ | assumption) (fun hq hC => ok_load (fun w => Tryz.isAgg4 w) rfl (by first | exact hC.cell (by first | exact cell_blk hbo rfl | assumption | exact cell_blk (by assumption) rfl) n108)) rfl rfl rfl ?_))
  all_goals (first | (refine Br.keep ?_) | (refine WH.one 2 (by kernel_rfl) ?_))
  all_goals (first
               | (refine Br.keep ?_)
               | (refine Comes1.run0 rfl (okE_store (fun w => Tryz.sizeOf3 w) rfl rfl hb87 (Nat.le_of_ble_eq_true rfl) rfl rfl) rfl rfl ?_ (fun _ => by kernel_rfl)
                  rintro _ g8 ⟨hb88, hx8⟩))
  all_goals (first | (refine Br.keep ?_) | (refine ⟨fun _ => hx8.mono fun _ _ e => .inl e, ?_⟩))
  all_goals (first | (refine Br.keep ?_) | (have hb98 := hx8.obj hb97 (fun e => by omega)))
  all_goals (first | (refine Br.keep ?_) | (refine WH.one 3 (by kernel_rfl) ?_))
  all_goals (first
               | (refine Br.keep ?_)
               | (refine Comes1.run0 rfl (okE_store (fun w => Tryz.sizeOf4 w) rfl rfl hb98 (Nat.le_of_ble_eq_true rfl) rfl rfl) rfl rfl ?_ (fun _ => by kernel_rfl)
                  rintro _ g9 ⟨hb99, hx9⟩))
  all_goals (first | (refine Br.keep ?_) | (refine ⟨fun _ => (hx8.mono fun _ _ e => .inl e).trans (hx9.mono fun _ _ e => .inr e), ?_⟩))
  all_goals (first
               | (refine Br.keep ?_)
               | (have hX9 : Ext (fun q => q = b8 ∨ q = b9) h2 g9 := (hx8.mono fun _ _ e => .inl e).trans (hx9.mono fun _ _ e => .inr e)
                  have hb89 := hx9.obj hb88 (fun e => by omega)
                  have hbo9 := hX9.obj hbo n108))
  all_goals (first | (refine Br.keep ?_) | (refine WH.done (by kernel_rfl) ?_))
  all_goals (first | (refine Br.keep ?_) | (repeat' (with_reducible first | refine thenP_n ?_ | refine blockP_n ?_)))
  all_goals (first | (refine Br.keep ?_) | (refine WC.sub [(8, _), (10, _)] ⟨rfl, rfl, trivial⟩ ?_))
  all_goals (first | (refine Br.keep ?_) | (refine WC.seq ?_))
  all_goals (first | (refine Br.keep ?_) | (refine WC.region ?_))
  all_goals (first | (refine Br.keep ?_) | (refine WL.step (ok_fieldAddr rfl Tryz.underlying89 rfl (fun w => Tryz.sizeOf4 w)) rfl rfl rfl ?_))
  all_goals (first | (refine Br.keep ?_) | (refine WL.step (ok_load (fun w => Tryz.isAgg4 w) rfl (by first | exact cell_blk hbo9 rfl | assumption | exact cell_blk (by assumption) rfl)) rfl rfl rfl ?_))
  all_goals (first | (refine Br.keep ?_) | (refine WL.nil ?_))
  all_goals (first | (refine Br.keep ?_) | (repeat' (with_reducible first | refine thenP_n ?_ | refine blockP_n ?_)))
  all_goals (first | (refine Br.keep ?_) | (first | refine WC.condB_t 3 rfl ?_ | refine WC.condB_f 4 rfl ?_ | (refine WC.condB 3 4 rfl (fun hb => ?_) (fun hb => ?_) <;> (first | replace hb := of_decide_eq_true hb | replace hb := of_decide_eq_false hb | replace hb := of_decide_eq_false (nt hb) | replace hb := of_decide_eq_true (nf hb) | skip))))
  all_goals (first | (fail_if_success refine goB 3 ?_) | (
  refine goB 3 ?_
  all_goals (refine WC.region ?_; refine WL.step (ok_fieldAddr rfl Tryz.underlying89 rfl (fun w => Tryz.sizeOf3 w)) rfl rfl rfl ?_; refine WL.step (ok_load (fun w => Tryz.isAgg3 w) rfl (by first | exact cell_blk hbo9 rfl | assumption | exact cell_blk (by assumption) rfl)) rfl rfl rfl ?_; refine WL.stepR0 (okE_store (fun w => Tryz.sizeOf3 w) rfl rfl hb89 (Nat.le_of_ble_eq_true rfl) rfl rfl) rfl rfl ?_; rintro _ g10 ⟨hb810, hx10⟩; refine WL.nil ?_)
  skip))
  all_goals (first | (fail_if_success refine goB 4 ?_) | (
  refine goB 4 ?_
  all_goals (refine WC.skip ?_)
  skip))
  all_goals (first | (refine Br.keep ?_) | (repeat' (with_reducible first | refine thenP_n ?_ | refine blockP_n ?_)))
  all_goals (try (refine Br.mk (i := 1001) ?_))
  all_goals (repeat' (with_reducible first | refine thenP_n ?_ | refine blockP_n ?_))
  all_goals (try (refine Br.mk (i := 7999) ?_))
  all_goals (first
              | exact ⟨(), .refl _ _, fun q e => .inl e, hx7, by rw [hst]; exact hb87, by rw [hst]; exact hb97⟩
              | exact ⟨(), hX9.trans (hx10.mono fun _ _ e => .inl e), fun q e => .inl e, (hx7.trans hX9).trans (hx10.mono fun _ _ e => .inl e), by rw [hst]; exact hb810, by rw [hst]; exact hx10.obj hb99 (fun e => by omega)⟩
              | exact ⟨(), hX9, fun q e => .inl e, hx7.trans hX9, by rw [hst]; exact hb89, by rw [hst]; exact hb99⟩)
  skip))
  all_goals (try (refine Br.mk (i := 8001) ?_))
  all_goals (obtain ⟨hx7, hb87, hb97⟩ := hJ; rw [List.take_of_length_le (Nat.le_refl _)] at hb87 hb97)
  all_goals (repeat' (with_reducible first | refine thenP_n ?_ | refine blockP_n ?_))
  all_goals (refine WD.sub [(8, _), (9, _)] ⟨rfl, rfl, trivial⟩ ?_; refine WD.of ?_; refine WC.seq ?_; refine WC.drawE fol (by kernel_rfl) ?_; refine WQ.stepE (ok_load (fun w => Tryz.isAgg3 w) rfl (by first | exact cell_blk hb87 rfl | assumption | exact cell_blk (by assumption) rfl)) rfl rfl rfl ?_; refine WQ.stepE (ok_load (fun w => Tryz.isAgg4 w) rfl (by first | exact cell_blk hb97 rfl | assumption | exact cell_blk (by assumption) rfl)) rfl rfl rfl ?_; refine WQ.stepE (ok_assign rfl) rfl rfl rfl ?_; refine WQ.stepE (ok_assign rfl) rfl rfl rfl ?_; refine WQ.nil ?_; repeat' (with_reducible first | refine thenP_n ?_ | refine blockP_n ?_))
  all_goals (refine WC.sub [(6, _), (7, _)] ⟨rfl, rfl, trivial⟩ ?_; refine WC.ret ?_; repeat' (with_reducible first | refine thenP_r ?_ | refine blockP_r ?_))
  all_goals (skip)
  all_goals (with_reducible first | refine retD_0 ?_ | refine retD_1 (by assumption) ?_)
  all_goals (refine retP_2 _ _ ⟨rfl, rfl, trivial⟩ ?_; exact ⟨rfl, (hX6.trans' hx7 (fun q hq e => by omega)).trans' (shut1 hoD) (fun q hq e => by have e' : q = D := e; omega)⟩)
theorem foldT_take {L : List NI} {ops good : List TOp} {k : Nat} {op : TOp} (h : good[k]? = some op) : (ops ++ good.take (k + 1)).foldl stepL L = stepL ((ops ++ good.take k).foldl stepL L) op := by
  rw [List.take_add_one, h, ← List.append_assoc, List.foldl_append]
  rfl
theorem opsE_succ {A : List En} {k : Nat} {e : En} (h : A[k]? = some e) : opsE (A.take (k + 1)) = opsE (A.take k) ++ e.good := by
  unfold opsE
  rw [List.take_add_one, h, List.flatMap_append]
  simp
theorem off_le {A : List En} {k : Nat} {e : En} (h : A[k]? = some e) : (opsE (A.take k)).length + e.good.length ≤ (opsE A).length := by
  have hk := List.getElem?_eq_some_iff.1 h
  have e1 : A = A.take k ++ e :: A.drop (k + 1) := by
    conv => lhs; rw [← List.take_append_drop k A]
    rw [List.drop_eq_getElem_cons hk.1, hk.2]
  have e2 : opsE A = opsE (A.take k) ++ (e.good ++ opsE (A.drop (k + 1))) := by
    conv => lhs; rw [e1]
    unfold opsE
    rw [List.flatMap_append, List.flatMap_cons]
  rw [e2]
  simp only [List.length_append]
  omega
set_option maxHeartbeats 4000000 in
set_option maxRecDepth 100000 in
theorem view_doc {h0 h : Heap} {b m bt : Nat} {v va : Value} {most : Int} {L : List NI} {A : List En} (d : T15 h0 h b m bt v most L) (g : Gds h va A) (hf : (opsE A).length ≤ 100000) :
    CallsH Tryz.prog 64 ⟨[.pointer (some ⟨bt, 0, none⟩), va]⟩ h fun u h' => ∃ b' v', u = .pointer (some ⟨b', 0, none⟩) ∧ Rf h' b' v' 1073741824 ((opsE A).foldl stepL L) ∧ Ext No h h' := by
  have hgl := g.len
  have hlen := d.len
  have hrise := d.rise
  obtain ⟨AA, ca, rfl, _⟩ := id g.row
  have hrb := d.rf.blk
  have hrr := d.rf.own.rd
  obtain ⟨RA, rc, rfl, _⟩ := id hrr
  refine calls [(0, _), (1, _)] Tryz.func64 rfl Tryz.ntmps64 rfl ⟨rfl, rfl, trivial⟩ ?_
  all_goals (refine WC.sr ?_; refine Go ?_; refine WC.sr ?_; refine WL.step (ok_buildF (vs := [_]) (cs := [_, _]) (fun | [a1] => [(.slice none 0 0), a1] | _ => []) rfl rfl (by kernel_rfl)) rfl rfl rfl ?_; refine WL.stepR (okE_box rfl) rfl rfl rfl ?_; rintro _ h1 ⟨b1, rfl, hg1, hb1, hx1⟩; refine Go ?_; refine WC.seq ?_; refine WC.sr ?_; refine Go ?_; refine WL.step (ok_neqPn Tryz.underlying31 rfl rfl) rfl rfl rfl ?_; refine Gn ?_; refine Gs [(0, _), (1, _), (5, _), (12, _)] ?_; refine goC 1 2 ?_ TT.mk; refine goB 1 ?_; refine WC.region ?_; refine Go ?_; refine WL.step (ok_nilCheck rfl) rfl rfl rfl ?_; refine Go ?_; refine WL.ld rfl (by first | exact cell_blk (hx1.obj hrb nos) rfl | assumption | exact cell_blk (by assumption) rfl) rfl rfl rfl ?_; refine WL.stepR (ok_append (sz := 2) (bytes := 24) rfl Tryz.underlying108 (show Tryz.prog.info? 115 = some Tryz.t115 by kernel_rfl) rfl rfl rfl rfl (by decide) rfl rfl (Own.nil _ 115 2) (hrr.ext0 hx1) njs_one (by simp only [maxLen]; omega) (by omega)) rfl rfl rfl ?_; rintro v5 h5 ⟨ho5, hx5, hl5⟩; have hf5 : ∀ q, v5.ownBlock = some q → h1.size ≤ q := fresh_of hl5 (fun k hk => by simp [Value.ownBlock] at hk) (Nat.le_refl _); (have hX5 : Ext No h1 h5 := hx5.mono fun _ _ e => by simp [Value.ownBlock] at e); (have ho5' : Own h5 v5 115 2 L.length (L.flatMap njC) := by simpa using ho5); have l1 := lt_of_some hb1; obtain ⟨A5, c5, rfl, _⟩ := id ho5'.slice; refine WL.step (ok_nilCheck rfl) rfl rfl rfl ?_; refine Go ?_; refine WL.stepR0 (okE_store (fun w => Tryz.sizeOf108 w) rfl rfl (hX5.obj hb1 nos) (Nat.le_of_ble_eq_true rfl) rfl rfl) rfl rfl ?_; rintro _ h6 ⟨hb16, hx6⟩; have ho6 := ho5'.ext hx6 (fun q hq e => by have := hf5 q hq; omega); have hX6 : Ext No h h6 := (hx1.trans hX5).trans' hx6 (fun q hq e => by omega); have r6 : Rf h6 b1 (.slice A5 L.length c5) 1073741824 L := ⟨hb16, ho6⟩; (have hf6 : ∀ q, (Value.slice A5 L.length c5).ownBlock = some q → h.size ≤ q := fun q hq => by have := hf5 q hq; have := hx1.size; omega); refine Gn ?_; refine Gn ?_; refine WC.seq ?_; refine WC.sr ?_; refine Go ?_; refine WC.block ?_)
  -- loop 0: slots that turn [6], that stay [1, 5]
  all_goals (refine WC.loopG (X := Nat × Value) (fun x => ([(6, In (x.1 : Int))] : Fr)) [(1, _), (5, _)] (fun x h' => x.1 ≤ A.length ∧ Rf h' b1 x.2 1073741824 ((opsE (A.take x.1)).foldl stepL L) ∧ Ext No h h' ∧ (∀ q, x.2.ownBlock = some q → h.size ≤ q)) (fun x => A.length - x.1) ((0, .slice A5 L.length c5)) ⟨rfl, rfl, rfl, trivial⟩ (by exact ⟨Nat.zero_le _, by simpa [opsE] using r6, hX6, hf6⟩) ?_; rintro ⟨i, w⟩ h7 ⟨hi, r7, hx7, hf7⟩; dsimp only at hi r7 hf7)
  all_goals (refine WC.sub [(6, _), (1, _), (5, _)] ⟨rfl, rfl, rfl, trivial⟩ ?_; dsimp only)
  all_goals (refine WC.seq ?_; refine WC.sr ?_; refine Go ?_; refine goC 3 4 (Hb.mk fun hb => ?_) (Hb.mk fun hb => ?_))
  all_goals (first | (fail_if_success refine goB 3 ?_) | (
  refine goB 3 ?_
  all_goals (refine WC.skip ?_)
  skip))
  all_goals (first | (fail_if_success refine goB 4 ?_) | (
  refine goB 4 ?_
  all_goals (refine WC.exit ?_; repeat' (with_reducible first | refine thenP_x ?_ | refine blockP_miss rfl ?_ | refine blockP_hit ?_ | refine blockP_n ?_ | refine thenP_n ?_))
  all_goals (refine Br.out (i := 1000) ?_)
  skip))
  all_goals (refine Gn ?_; first | (refine Br.keep ?_) | (refine Gs [(1, _), (5, _), (6, _)] ?_))
  all_goals (first | (refine Br.keep ?_) | (refine WC.seq ?_))
  all_goals (first | (refine Br.keep ?_) | (refine WC.block ?_))
  all_goals (first | (refine Br.keep ?_) | (refine WC.sr ?_))
  all_goals (first
               | (refine Br.keep ?_)
               | (have hil : i < A.length := by omega
                  obtain ⟨bL, oL, hA, hbL, hat⟩ := Rd.at_ g.row (by omega)
                  obtain ⟨y, hy⟩ : ∃ y, A[i]? = some y := ⟨_, List.getElem?_eq_getElem hil⟩
                  have hym := List.mem_of_getElem? hy
                  have hat1 : At h bL (oL + i * 8) y.cells := At.elem En.len hat hy
                  have hgy := g.few y hym
                  have hof := off_le hy
                  have hsu := opsE_succ hy
                  have hgd := g.good y hym
                  obtain ⟨gA, gc, hvg, _⟩ := id hgd
                  obtain ⟨kind, hide, src, dst, vg, good, vb, bad, vc, ops, vr, reply⟩ := y
                  dsimp only at hvg hgy hof hsu hgd
                  subst hvg
                  subst hA
                  dsimp only [En.cells] at hat1))
  all_goals (first | (refine Br.keep ?_) | (refine WL.step (ok_assign rfl) rfl rfl rfl ?_))
  all_goals (refine Gn ?_; first | (refine Br.keep ?_) | (refine WC.block ?_))
  -- loop 1: slots that turn [7], that stay [1, 5, 6]
  all_goals (first | (refine Br.keep ?_) | (refine WC.loopG (X := Nat × Value) (fun z => ([(7, In (z.1 : Int))] : Fr)) [(1, _), (5, _), (6, _)] (fun z h' => z.1 ≤ good.length ∧ Rf h' b1 z.2 1073741824 ((opsE (A.take i) ++ good.take z.1).foldl stepL L) ∧ Ext No h h' ∧ (∀ q, z.2.ownBlock = some q → h.size ≤ q)) (fun z => good.length - z.1) ((0, w)) ⟨rfl, rfl, rfl, rfl, trivial⟩ (by exact ⟨Nat.zero_le _, by simpa using r7, hx7, hf7⟩) ?_))
  all_goals (first
               | (refine Br.keep ?_)
               | (rintro ⟨k, w2⟩ h8 ⟨hk, r8, hx8, hf8⟩
                  dsimp only at hk r8 hf8))
  all_goals (first | (refine Br.keep ?_) | (refine WC.sub [(7, _), (1, _), (5, _), (6, _)] ⟨rfl, rfl, rfl, rfl, trivial⟩ ?_))
  all_goals (first | (refine Br.keep ?_) | (dsimp only))
  all_goals (first | (refine Br.keep ?_) | (refine WC.seq ?_))
  all_goals (first | (refine Br.keep ?_) | (refine WC.sr ?_))
  all_goals (refine Go ?_; first | (refine Br.keep ?_) | (refine WL.step (ok_idxAddrA Tryz.underlying37 (fun w => Tryz.sizeOf44 w) rfl rfl rfl (by omega) (by first | rfl | assumption)) rfl rfl rfl ?_))
  all_goals (refine Go ?_; first | (refine Br.keep ?_) | (refine WL.ld rfl (by first | exact ((hat1.ext hx8 nos).get 4 rfl rfl) | assumption | exact cell_blk (by assumption) rfl) rfl rfl rfl ?_))
  all_goals (refine Go ?_; first | (refine Br.keep ?_) | (refine Gs [(1, _), (5, _), (6, _), (7, _), (34, _)] ?_))
  all_goals (first | (refine Br.keep ?_) | (refine goC 5 6 (Hb.mk fun hb => ?_) (Hb.mk fun hb => ?_)))
  all_goals (first | (fail_if_success refine goB 5 ?_) | (
  refine goB 5 ?_
  all_goals (refine WC.skip ?_)
  skip))
  all_goals (first | (fail_if_success refine goB 6 ?_) | (
  refine goB 6 ?_
  all_goals (refine WC.exit ?_; repeat' (with_reducible first | refine thenP_x ?_ | refine blockP_miss rfl ?_ | refine blockP_hit ?_ | refine blockP_n ?_ | refine thenP_n ?_))
  all_goals (refine Br.out (i := 1002) ?_)
  skip))
  all_goals (refine Gn ?_; first | (refine Br.keep ?_) | (refine WC.seq ?_))
  all_goals (first | (refine Br.keep ?_) | (refine WC.block ?_))
  all_goals (first | (refine Br.keep ?_) | (refine WC.sr ?_))
  all_goals (refine Go ?_)
  all_goals (first
               | (refine Br.keep ?_)
               | (obtain ⟨bG, oG, hG, hbG, hatG⟩ := Rd.at_ hgd (by omega)
                  obtain ⟨op, hop⟩ : ∃ y, good[k]? = some y := ⟨_, List.getElem?_eq_getElem (by omega)⟩
                  have hat5 : At h bG (oG + k * 3) (topCells op) := At.elem topCells_len hatG hop
                  have hft := foldT_take (L := L) (ops := opsE (A.take i)) hop
                  have hrs := rise_fold hrise (opsE (A.take i) ++ good.take k)
                  have hln := foldL_len hrise (opsE (A.take i) ++ good.take k)
                  rw [List.length_append, List.length_take] at hln
                  obtain ⟨os, on, oi, _⟩ := op
                  replace hft : (opsE (A.take i) ++ good.take (k + 1)).foldl stepL L = (if os = true then setL ((opsE (A.take i) ++ good.take k).foldl stepL L) on oi else delL ((opsE (A.take i) ++ good.take k).foldl stepL L) on) := hft))
  all_goals (first | (refine Br.keep ?_) | (refine WL.step (ok_idxAddrA Tryz.underlying37 (fun w => Tryz.sizeOf44 w) rfl rfl rfl (by omega) (by first | rfl | assumption)) rfl rfl rfl ?_))
  all_goals (refine Go ?_; first | (refine Br.keep ?_) | (refine WL.ld rfl (by first | exact ((hat1.ext hx8 nos).get 4 rfl rfl) | assumption | exact cell_blk (by assumption) rfl) rfl rfl rfl ?_))
  all_goals (refine Go ?_; first | (refine Br.keep ?_) | (refine WL.step (ok_idxAddrA Tryz.underlying40 (fun w => Tryz.sizeOf89 w) rfl rfl rfl (by omega) (by first | rfl | assumption)) rfl rfl rfl ?_))
  all_goals (first | (refine Br.keep ?_) | (refine WL.step (ok_loadN (fun w => Tryz.isAgg89 w) (fun w => Tryz.sizeOf89 w) rfl rfl (by exact (hat5.ext hx8 nos))) rfl rfl rfl ?_))
  all_goals (first
               | (refine Br.keep ?_)
               | (refine WL.stepR (okE_alloc (fun w => Tryz.zeroValue89 w)) rfl rfl rfl ?_
                  rintro _ h9 ⟨b9, rfl, hg9, hb9, hx9⟩))
  all_goals (first
               | (refine Br.keep ?_)
               | (refine WL.stepR0 (okE_storeW (fun w => Tryz.sizeOf89 w) rfl rfl rfl hb9 rfl (by intro v hv; simp [topCells] at hv; rcases hv with rfl | rfl | rfl <;> rfl)) rfl rfl ?_
                  rintro _ h10 ⟨hb10, hx10⟩))
  all_goals (first
               | (refine Br.keep ?_)
               | (have hX910 : Ext No h8 h10 := hx9.trans' hx10 (fun q hq e => by omega)
                  have r10 := r8.ext0 hX910
                  have hX10 := hx8.trans hX910
                  have hs10 := hX10.size
                  cases os))
  all_goals (refine Gn ?_; first | (refine Br.keep ?_) | (refine Gs [(1, _), (5, _), (6, _), (7, _), (8, _)] ?_))
  all_goals (first | (refine Br.keep ?_) | (refine WC.sr ?_))
  all_goals (refine Go ?_; first | (refine Br.keep ?_) | (refine WL.ld rfl (by first | exact cell_blk hb10 rfl | assumption | exact cell_blk (by assumption) rfl) rfl rfl rfl ?_))
  all_goals (refine Gn ?_; first | (refine Br.keep ?_) | (refine goC 7 8 ?_ TT.mk))
  all_goals (first | (fail_if_success refine goB 7 ?_) | (
  refine goB 7 ?_
  all_goals (refine WC.region ?_; refine Go ?_; refine WL.ld rfl (by first | exact cell_blk hb10 rfl | assumption | exact cell_blk (by assumption) rfl) rfl rfl rfl ?_; refine Go ?_; refine WL.ld rfl (by first | exact cell_blk hb10 rfl | assumption | exact cell_blk (by assumption) rfl) rfl rfl rfl ?_; refine WL.call (vs := [_, _, _]) rfl (fun a w => Tryz.call24 a w) rfl (set15 r10 hrs (by omega) on oi) rfl rfl rfl ?_; rintro _ h12 (⟨u0, hgs, rfl, r12, hx12⟩ | ⟨hgs, hmo, rfl, _⟩ | ⟨hgs, hlt, rfl, v12, r12, hx12, hf12⟩))
  all_goals (first
              | (exfalso; omega)
              | (have hX12 : Ext No h h12 := hX10.trans' hx12 (fun q hq e => by have := hf8 q e; omega); have hF12 := hf8; rw [if_pos rfl] at hft; rw [← hft] at r12)
              | (have hX12 : Ext No h h12 := hX10.trans' hx12 (fun q hq e => by have := hx1.size; omega); have hF12 : ∀ q, v12.ownBlock = some q → h.size ≤ q := (fun q hq => by have := hf12 q hq; omega); rw [if_pos rfl] at hft; rw [← hft] at r12))
  all_goals (refine Gn ?_)
  skip))
  all_goals (first | (fail_if_success refine goB 8 ?_) | (
  refine goB 8 ?_
  all_goals (refine WC.region ?_; refine Go ?_; refine WL.ld rfl (by first | exact cell_blk hb10 rfl | assumption | exact cell_blk (by assumption) rfl) rfl rfl rfl ?_; refine WL.call (vs := [_, _]) rfl (fun a w => Tryz.call96 a w) rfl (del15 r10 hrs (by omega) on) rfl rfl rfl ?_; rintro _ h12 ⟨rfl, v12, r12, hx12, hf12⟩)
  all_goals (have hX12 : Ext No h h12 := hX10.trans' hx12 (fun q hq e => by have := hx1.size; omega)
             have hF12 : ∀ q, v12.ownBlock = some q → h.size ≤ q := fun q hq => (hf12 q hq).elim (hf8 q) (fun e => by omega)
             rw [if_neg Bool.false_ne_true] at hft
             rw [← hft] at r12)
  all_goals (refine Gn ?_)
  skip))
  all_goals (refine Gn ?_; first | (refine Br.keep ?_) | (refine WC.region ?_))
  all_goals (refine Go ?_; first | (refine Br.keep ?_) | (exact ⟨(k + 1, _), ⟨rfl, rfl, rfl, rfl, trivial⟩, (by exact ⟨by omega, r12, hX12, hF12⟩), (by simp; omega)⟩))
  all_goals (try (refine Br.mk (i := 1002) ?_))
  all_goals (refine Gn ?_; first | (refine Br.keep ?_) | (refine WC.region ?_))
  all_goals (refine Go ?_; first | (refine Br.keep ?_) | (exact ⟨(i + 1, w2), ⟨rfl, rfl, rfl, trivial⟩, (by exact ⟨by omega, by rw [hsu]; have hkk : k = good.length := (by omega); rw [hkk, List.take_of_length_le (Nat.le_refl _)] at r8; exact r8, hx8, hf8⟩), (by simp; omega)⟩))
  all_goals (try (refine Br.mk (i := 1000) ?_))
  all_goals (refine Gn ?_; refine Gs [(5, _)] ?_; refine WC.sr ?_; refine Go ?_; refine Gt ?_; exact ⟨b1, w, rfl, by have hii : i = A.length := (by omega); rw [hii, List.take_of_length_le (Nat.le_refl _)] at r7; exact r7, hx7⟩)
set_option maxHeartbeats 2000000 in
set_option maxRecDepth 100000 in
theorem look_doc {h0 h : Heap} {b m bt : Nat} {v va : Value} {most : Int} {L : List NI} {A : List En} (d : T15 h0 h b m bt v most L) (g : Gds h va A) (hf : (opsE A).length ≤ 100000) (n : List UInt8) :
    CallsH Tryz.prog 33 ⟨[.pointer (some ⟨bt, 0, none⟩), va, St n]⟩ h fun u h' => u = .tuple ⟨[In (lookT n ((getL L n).getD 0, (getL L n).isSome) (opsE A)).1, .bool (lookT n ((getL L n).getD 0, (getL L n).isSome) (opsE A)).2]⟩ ∧ Ext No h h' := by
  have kv := view_doc d g hf
  have hl := fold_len' d.rise (opsE A) d.len hf
  have hlk := look_fold d.rise n (opsE A)
  have hrs := rise_fold d.rise (opsE A)
  generalize (opsE A).foldl stepL L = M at *
  rw [← hlk]
  refine calls [(0, _), (1, _), (2, _)] Tryz.func33 rfl Tryz.ntmps33 rfl ⟨rfl, rfl, rfl, trivial⟩ ?_
  all_goals (refine WC.sr ?_; refine Go ?_; refine WC.sr ?_; refine Go ?_; refine WL.call (vs := [_, _]) rfl (fun a w => Tryz.call64 a w) rfl (kv) rfl rfl rfl ?_; rintro _ h1 ⟨b1, w1, rfl, r1, hx1⟩; refine Go ?_; refine WL.call (vs := [_, _]) rfl (fun a w => Tryz.call65 a w) rfl (get15 r1 hrs hl n) rfl rfl rfl ?_; rintro _ hz ⟨rfl, _⟩; subst hz; refine Go ?_; refine Gs [(6, _), (7, _)] ?_; refine Gt ?_; exact ⟨rfl, hx1⟩)
end Go.Proofs.YtggmocdbfbhklaaGreat


/-
  FRAMES (layer 4): a message's bytes, by the code and by the document.
-/
namespace Go.Proofs.YtggmocdbfbhklaaGreat
open Go Go.RK

theorem byKf {k : Int} (h0 : 0 ≤ k) (h1 : k ≤ 255) : By (UInt8.ofNat k.toNat) = .int .u8 k := by
  show Value.int .u8 ((UInt8.ofNat k.toNat).toNat : Int) = .int .u8 k
  rw [UInt8.toNat_ofNat']
  congr 1
  omega
theorem rtFf {n : Int} (h : 0 ≤ n ∧ n ≤ 4294967295) : Rt n 4 := by
  unfold Rt
  rw [show (256 : Int) ^ 4 = 4294967296 from rfl]
  omega
/-- A message's bytes. -/
def frB (k : Int) (l : List UInt8) : List UInt8 := [UInt8.ofNat k.toNat] ++ be (4 + (l.length : Int)) 4 ++ l
theorem bys_app (l m : List UInt8) : bys (l ++ m) = bys l ++ bys m := List.map_append ..
theorem bys_one {k : Int} (hk : 0 ≤ k ∧ k ≤ 255) : bys [UInt8.ofNat k.toNat] = [.int .u8 k] := congrArg (fun z => [z]) (byKf hk.1 hk.2)
set_option maxHeartbeats 2000000 in
set_option maxRecDepth 100000 in
theorem frame_v {h : Heap} {v : Value} (k : Int) (hk : 0 < k ∧ k ≤ 255) (l : List UInt8) (hv : Rd h v 1 l.length (bys l)) (hl : l.length ≤ 1000000000) :
    CallsH Tryz.prog 118 ⟨[.agg ⟨[.int .u8 k, v]⟩]⟩ h fun u h' => Own h' u 5 1 (frB k l).length (bys (frB k l)) ∧ Ext No h h' := by
  obtain ⟨A, c, rfl, _⟩ := id hv
  refine calls [(0, _)] Tryz.func118 rfl Tryz.ntmps118 rfl ⟨rfl, trivial⟩ ?_
  all_goals (refine WC.sr ?_; refine WL.stepR (okE_box rfl) rfl rfl rfl ?_; rintro _ h1 ⟨b1, rfl, hg1, hb1, hx1⟩; refine Go ?_; refine WC.sr ?_; refine Go ?_; refine WC.seq ?_; refine WC.sr ?_; refine Go ?_; refine Ld ?_; refine Go ?_; refine Gs [(1, _), (3, _), (6, _)] ?_; refine goC 1 2 ?_ TT.mk; refine goB 1 ?_; refine WC.region ?_; refine Go ?_; refine Ld ?_; refine WL.stepR (okE_buildSlice (vs := [_]) (cs := [_]) (fun | [a0] => [a0] | _ => []) Tryz.underlying42 rfl rfl (by kernel_rfl)) rfl rfl rfl ?_; rintro _ h2 ⟨b2, rfl, hg2, hb2, hx2⟩; have hb12 := hx2.obj hb1 nos; have hX2 := hx1.trans hx2; (have hr2 : Rd h2 (.slice (some ⟨b2, 0, none⟩) 1 1) 1 ([UInt8.ofNat k.toNat] : List UInt8).length (bys [UInt8.ofNat k.toNat]) := by rw [bys_one (by omega)]; exact rd_blk hb2 rfl); refine Go ?_; refine Gn ?_; refine WC.seq ?_; refine WC.drawH (fun h' => Ext No h2 h') 9 10 rfl fol ?_; refine WH.tk 0 rfl (fun hq hC => ok_move rfl) rfl rfl rfl ?_; refine WH.tk 1 rfl (fun hq hC => ok_fieldAddr rfl Tryz.underlying136 rfl (fun w => Tryz.sizeOf42 w)) rfl rfl rfl ?_; refine WH.tk 2 rfl (fun hq hC => ok_load (fun w => Tryz.isAgg42 w) rfl (by first | exact hC.cell (by first | exact cell_blk hb12 rfl | assumption | exact cell_blk (by assumption) rfl) nos)) rfl rfl rfl ?_; refine WH.tk 3 rfl (fun hq hC => ok_lenL rfl Tryz.underlying42 rfl) rfl rfl rfl ?_; refine WH.tk 4 rfl (fun hq hC => ok_addI rfl rfl (by omega)) rfl rfl rfl ?_; refine WH.tk 6 rfl (fun hq hC => ok_fieldAddr rfl Tryz.underlying136 rfl (fun w => Tryz.sizeOf42 w)) rfl rfl rfl ?_; refine WH.tk 7 rfl (fun hq hC => ok_load (fun w => Tryz.isAgg42 w) rfl (by first | exact hC.cell (by first | exact cell_blk hb12 rfl | assumption | exact cell_blk (by assumption) rfl) nos)) rfl rfl rfl ?_; refine WH.one 5 (by kernel_rfl) ?_; refine Comes1.call (vs := [_, _, _]) rfl rfl (fun a w => Tryz.call78 a w) rfl (put_v [UInt8.ofNat k.toNat] (4 + (l.length : Int)) 4 (.inr (.inr rfl)) (rtFf ⟨by omega, by omega⟩) hr2 (by simp)) rfl rfl rfl ?_ (fun _ => by kernel_rfl); rintro v5 h5 ⟨ho5, hx5, hf5⟩; refine ⟨fun _ => hx5, ?_⟩; (have hbl : ([UInt8.ofNat k.toNat] ++ be (4 + (l.length : Int)) 4).length = 5 := by simp [be_len]); refine WH.one 8 (by kernel_rfl) ?_; refine Comes1.run rfl (ok_append (sz := 1) (bytes := 1) rfl Tryz.underlying42 (show Tryz.prog.info? 5 = some Tryz.t5 by kernel_rfl) rfl rfl rfl rfl (by decide) rfl rfl ho5 (hv.ext0 (hX2.trans hx5)) (by intro c hc; obtain ⟨b, _, rfl⟩ := List.mem_map.1 hc; rfl) (by simp only [maxLen]; omega) (by omega)) rfl rfl rfl ?_ (fun _ => by kernel_rfl); rintro v8 h8 ⟨ho8, hx8, hl8⟩; refine ⟨fun _ => hx5.trans' hx8 (fun q hq e => by have := hf5 q e; omega), ?_⟩; have hX8 := hx5.trans' hx8 (fun q hq e => by have := hf5 q e; omega); refine WH.one 9 (by kernel_rfl) ?_; refine Comes1.run rfl (OkP.r (ok_assign rfl)) rfl rfl rfl ?_ (fun _ => by kernel_rfl); rintro _ hz ⟨rfl, _⟩; subst hz; refine ⟨fun _ => hX8, ?_⟩; refine WH.done (by kernel_rfl) ?_; refine Gn ?_; refine Gs [(2, _)] ?_; refine Gt ?_; exact ⟨by unfold frB; rw [List.length_append (bs := l), bys_app _ l]; exact ho8, hX2.trans hX8⟩)
set_option maxHeartbeats 4000000 in
set_option maxRecDepth 100000 in
theorem frame04 {h : Heap} {v : Value} (k : Int) (hk : 0 < k ∧ k ≤ 255) (l : List UInt8) (hv : Rd h v 1 l.length (bys l)) (hl : l.length ≤ 1000000000) :
    CallsH Tryz.prog 72 ⟨[.agg ⟨[.int .u8 k, v]⟩]⟩ h fun u h' => Own h' u 5 1 (frB k l).length (bys (frB k l)) ∧ Ext No h h' := by
  obtain ⟨A, c, rfl, _⟩ := id hv
  refine calls [(0, _)] Tryz.func72 rfl Tryz.ntmps72 rfl ⟨rfl, trivial⟩ ?_
  all_goals (refine WC.sr ?_; refine WL.stepR (okE_box rfl) rfl rfl rfl ?_; rintro _ h1 ⟨b1, rfl, hg1, hb1, hx1⟩; refine Go ?_; refine WC.sr ?_; refine Go ?_; refine WC.seq ?_; refine WC.sr ?_; refine Go ?_; refine Ld ?_; refine Go ?_; refine Gs [(1, _), (3, _), (6, _)] ?_; refine goC 1 2 ?_ TT.mk; refine goB 1 ?_; refine WC.region ?_; refine Go ?_; refine Ld ?_; refine WL.stepR (okE_buildSlice (vs := [_]) (cs := [_]) (fun | [a0] => [a0] | _ => []) Tryz.underlying42 rfl rfl (by kernel_rfl)) rfl rfl rfl ?_; rintro _ h2 ⟨b2, rfl, hg2, hb2, hx2⟩; refine WL.stepR (ok_append (sz := 1) (bytes := 1) rfl Tryz.underlying42 (show Tryz.prog.info? 5 = some Tryz.t5 by kernel_rfl) rfl rfl rfl rfl (by decide) rfl rfl (Own.nil _ 5 1) (rd_blk (len := 1) (sz := 1) (cs := [.int .u8 k]) hb2 rfl) (by simp [Value.oneCell']) (by simp only [maxLen]; omega) (by omega)) rfl rfl rfl ?_; rintro v3 h3 ⟨ho3, hx3, hl3⟩)
  all_goals (have hX3 : Ext No h h3 := (hx1.trans hx2).trans (hx3.mono fun _ _ e => by simp [Value.ownBlock] at e)
             have hb13 := (hx2.trans (hx3.mono fun _ _ e => by simp [Value.ownBlock] at e)).obj hb1 nos
             have hr3 : Rd h3 v3 1 ([UInt8.ofNat k.toNat] : List UInt8).length (bys [UInt8.ofNat k.toNat]) := by
              rw [bys_one ⟨Int.le_of_lt hk.1, hk.2⟩]
              exact ho3.rd
             clear ho3 hl3)
  all_goals (refine Go ?_; refine Gn ?_; refine WC.seq ?_; refine WC.drawH (fun h' => Ext No h3 h') 9 10 rfl fol ?_; refine WH.tk 0 rfl (fun hq hC => ok_move rfl) rfl rfl rfl ?_; refine WH.tk 1 rfl (fun hq hC => ok_fieldAddr rfl Tryz.underlying136 rfl (fun w => Tryz.sizeOf42 w)) rfl rfl rfl ?_; refine WH.tk 2 rfl (fun hq hC => ok_load (fun w => Tryz.isAgg42 w) rfl (by first | exact hC.cell (by first | exact cell_blk hb13 rfl | assumption | exact cell_blk (by assumption) rfl) nos)) rfl rfl rfl ?_; refine WH.tk 3 rfl (fun hq hC => ok_lenL rfl Tryz.underlying42 rfl) rfl rfl rfl ?_; refine WH.tk 4 rfl (fun hq hC => ok_addI rfl rfl (by omega)) rfl rfl rfl ?_; refine WH.tk 6 rfl (fun hq hC => ok_fieldAddr rfl Tryz.underlying136 rfl (fun w => Tryz.sizeOf42 w)) rfl rfl rfl ?_; refine WH.tk 7 rfl (fun hq hC => ok_load (fun w => Tryz.isAgg42 w) rfl (by first | exact hC.cell (by first | exact cell_blk hb13 rfl | assumption | exact cell_blk (by assumption) rfl) nos)) rfl rfl rfl ?_; refine WH.one 5 (by kernel_rfl) ?_; refine Comes1.call (vs := [_, _, _]) rfl rfl (fun a w => Tryz.call80 a w) rfl (put01 [UInt8.ofNat k.toNat] ((l.length : Int) + 4) 4 (.inr (.inr rfl)) (rtFf ⟨by omega, by omega⟩) hr3 (by simp)) rfl rfl rfl ?_ (fun _ => by kernel_rfl); rintro v5 h5 ⟨ho5, hx5, hf5⟩; rw [Int.add_comm] at ho5)
  all_goals (refine ⟨fun _ => hx5, ?_⟩; (have hbl : ([UInt8.ofNat k.toNat] ++ be (4 + (l.length : Int)) 4).length = 5 := by simp [be_len]); refine WH.one 8 (by kernel_rfl) ?_; refine Comes1.run rfl (ok_append (sz := 1) (bytes := 1) rfl Tryz.underlying42 (show Tryz.prog.info? 5 = some Tryz.t5 by kernel_rfl) rfl rfl rfl rfl (by decide) rfl rfl ho5 (hv.ext0 (hX3.trans hx5)) (by intro c hc; obtain ⟨b, _, rfl⟩ := List.mem_map.1 hc; rfl) (by simp only [maxLen]; omega) (by omega)) rfl rfl rfl ?_ (fun _ => by kernel_rfl); rintro v8 h8 ⟨ho8, hx8, hl8⟩; refine ⟨fun _ => hx5.trans' hx8 (fun q hq e => by have := hf5 q e; omega), ?_⟩; have hX8 := hx5.trans' hx8 (fun q hq e => by have := hf5 q e; omega); refine WH.one 9 (by kernel_rfl) ?_; refine Comes1.run rfl (OkP.r (ok_assign rfl)) rfl rfl rfl ?_ (fun _ => by kernel_rfl); rintro _ hz ⟨rfl, _⟩; subst hz; refine ⟨fun _ => hX8, ?_⟩; refine WH.done (by kernel_rfl) ?_; refine Gn ?_; refine Gs [(2, _)] ?_; refine Gt ?_; exact ⟨by unfold frB; rw [List.length_append (bs := l), bys_app _ l]; exact ho8, hX3.trans hX8⟩)
end Go.Proofs.YtggmocdbfbhklaaGreat


/-
  THE COMPARE OF ARRAYS OF TEXTS. No program is named here.
-/
namespace Go.RK
open Go

section
variable {P : Program}
theorem run_eqItems_str (w : World) (d : Nat) {e : TypeId} (he : P.underlying e = some .string) (hp : P.plainKey e = true) (xs ys : Array Value) : ∀ (us vs : List (List UInt8)) (o : Nat), vs.length = us.length →
    (∀ (j : Nat) (a : List UInt8), us[j]? = some a → xs[o + j]? = some (St a)) → (∀ (j : Nat) (a : List UInt8), vs[j]? = some a → ys[o + j]? = some (St a)) →
    (Op.eqItems (d + 1) e 1 xs ys (List.range' o us.length)).run P w = .ok (decide (us = vs)) w
  | [], vs, o, hl, _, _ => by
    obtain rfl : vs = [] := List.eq_nil_of_length_eq_zero hl
    simp [Op.eqItems]
  | a :: us, [], o, hl, _, _ => by simp at hl
  | a :: us, b :: vs, o, hl, hx, hy => by
    have p1 := hx 0 a rfl
    have p2 := hy 0 b rfl
    rw [Nat.add_zero] at p1 p2
    have r1 := run_part_plain (P := P) (w := w) hp p1
    have r2 := run_part_plain (P := P) (w := w) hp p2
    have r3 : (Op.equalIn (d + 1) e (St a) (St b)).run P w = .ok (decide (a = b)) w := by
      show (Op.equalIn (d + 1) e (.string _) (.string _)).run P w = _
      rw [run_equalIn_string w d e _ _ he]
      simp [beq_dec]
    have ih := run_eqItems_str w d he hp xs ys us vs (o + 1) (by simpa using hl) (fun j c hj => by
      have := hx (j + 1) c (by simpa using hj)
      rwa [show o + (j + 1) = o + 1 + j by omega] at this) (fun j c hj => by
      have := hy (j + 1) c (by simpa using hj)
      rwa [show o + (j + 1) = o + 1 + j by omega] at this)
    rw [List.length_cons, List.range'_succ]
    simp only [Op.eqItems, Nat.mul_one, Sem.run_bind, r1, r2, r3, Result.andThen_ok]
    by_cases h : a = b
    · simp [h, ih]
    · simp [h]
variable {f : Fr} {h : Heap} {d : Option Tmp} {ty : TypeId} {pos : String} {af : Array Edge} {g : Option (Nat × Bool)}
theorem ok_eqlA {t t2 e : TypeId} {x y : Operand} {n : Nat} {i : TypeInfo} {us vs : List (List UInt8)} (hu : P.underlying t = some (.array n e)) (hi : P.info? e = some i) (he : P.underlying e = some .string) (hp : P.plainKey e = true) (h1 : P.cellsOf e = 1) (hg : P.eqGuardType P.depth t = false)
    (hl : us.length = n) (hl2 : vs.length = n) (hx : f.ev x = some (.agg ⟨us.map St⟩)) (hy : f.ev y = some (.agg ⟨vs.map St⟩)) :
    OkP P f ⟨d, .binOp .eql t x y t2, ty, pos, af, g⟩ h (.bool (decide (us = vs))) := fun ρ w hag _ => by
  have r1 := run_eqGuard_agg (P := P) w .eql t x y ⟨us.map St⟩ ⟨vs.map St⟩ hg
  have r2 := run_eql_struct (P := P) w t ⟨us.map St⟩ ⟨vs.map St⟩
  rw [show (10000 : Nat) = 9999 + 1 from rfl, run_equalIn_array w 9999 _ _ hu hi, h1, List.range_eq_range', ← hl] at r2
  rw [run_eqItems_str w 9998 he hp _ _ us vs 0 (by omega) (fun j a hj => by simp [hj]) (fun j a hj => by simp [hj])] at r2
  simp only [execOp, hag _ _ hx, hag _ _ hy, Sem.run_bind, r1, r2, Result.andThen_ok, Sem.run_pure]
end
end Go.RK

