/-
  SEVERAL TEXTS IN ONE: Ck6, Ck7, Pc1, Pc2, Pk8, Pk9, Pc3, Pc4, Pc5, Pc6, Qv5, Qv6, Qv7, Dp3, Qv8, Wv1, ChkS, Wv2, Wv3, Wv4, Wv5, Wv6, Wv7, Wv8, Wv9.
-/
import Derived.Test.YtopgddfgefnmbaaGreatDoorPSoloPieces5
set_option maxHeartbeats 8000000
set_option maxRecDepth 100000
namespace Go.Proofs.YtopgddfgefnmbaaGreatDoor
open Go Go.RK
def K6 (k : Int) : Prop := k = 66 ∨ k = 67 ∨ k = 68 ∨ k = 69 ∨ k = 72 ∨ k = 80 ∨ k = 81 ∨ k = 83 ∨ k = 88
theorem DD {h : ah} (k : Int) : ag Tryz.prog 107 ⟨[.int .u8 k]⟩ h fun u h' => (∃ x, u = In x ∧ (x = 1 ↔ K6 k)) ∧ h' = h := by
 unfold K6
 refine calls [(0, _)] Tryz.func107 rfl Tryz.ntmps107 rfl ⟨rfl, trivial⟩ ?_
 refine G2 ?_; refine G3 ?_; refine WC.block ?_; refine G3 ?_
 refine aJ 1 2 (Hb.mk fun hb => ?_) (Hb.mk fun hb => ?_)
 all_goals try (
 refine ax 1 ?_
 refine WC.skip ?_
 skip)
 all_goals try (
 refine ax 2 ?_
 refine G2 ?_; refine Gs [(3, _), (4, _)] ?_
 refine aJ 3 4 (Hb.mk fun hb => ?_) (Hb.mk fun hb => ?_)
 all_goals try (
 refine ax 3 ?_
 refine WC.skip ?_
 skip)
 all_goals try (
 refine ax 4 ?_
 refine G2 ?_
 refine aJ 5 6 (Hb.mk fun hb => ?_) (Hb.mk fun hb => ?_)
 all_goals try (
 refine ax 5 ?_
 refine WC.skip ?_
 skip)
 all_goals try (
 refine ax 6 ?_
 refine G2 ?_
 refine aJ 7 8 (Hb.mk fun hb => ?_) (Hb.mk fun hb => ?_)
 all_goals try (
 refine ax 7 ?_
 refine WC.skip ?_
 skip)
 all_goals try (
 refine ax 8 ?_
 refine G2 ?_
 refine aJ 9 10 (Hb.mk fun hb => ?_) (Hb.mk fun hb => ?_)
 all_goals try (
 refine ax 9 ?_
 refine WC.skip ?_
 skip)
 all_goals try (
 refine ax 10 ?_
 refine G2 ?_; refine Gs [(3, _), (4, _)] ?_
 refine aJ 11 12 (Hb.mk fun hb => ?_) (Hb.mk fun hb => ?_)
 all_goals try (
 refine ax 11 ?_
 refine WC.skip ?_
 skip)
 all_goals try (
 refine ax 12 ?_
 refine G2 ?_
 refine aJ 13 14 (Hb.mk fun hb => ?_) (Hb.mk fun hb => ?_)
 all_goals try (
 refine ax 13 ?_
 refine WC.skip ?_
 skip)
 all_goals try (
 refine ax 14 ?_
 refine G2 ?_
 refine aJ 15 16 (Hb.mk fun hb => ?_) (Hb.mk fun hb => ?_)
 all_goals try (
 refine ax 15 ?_
 refine WC.skip ?_
 skip)
 all_goals try (
 refine ax 16 ?_
 refine WC.region (Go ?_)
 skip)
 skip)
 skip)
 skip)
 skip)
 skip)
 skip)
 skip)
 all_goals (refine Gn ?_; refine aJ 17 18 (Hb.mk fun hb => ?_) (Hb.mk fun hb => ?_))
 all_goals try (
 refine ax 17 ?_
 all_goals (refine G2 ?_; refine Gt ?_; exact ⟨⟨_, rfl, by omega⟩, rfl⟩)
 skip)
 all_goals (refine ax 18 ?_; refine G3 ?_; first | refine aJ 19 20 ?_ TT.mk | (refine aJ 19 20 (Hb.mk fun hb => ?_) (Hb.mk fun hb => ?_)))
 all_goals try (
 refine ax 19 ?_
 all_goals (refine WC.skip ?_)
 skip)
 all_goals try (
 refine ax 20 ?_
 refine G2 ?_
 refine aJ 21 22 (Hb.mk fun hb => ?_) (Hb.mk fun hb => ?_)
 all_goals try (
 refine ax 21 ?_
 refine WC.skip ?_
 skip)
 all_goals try (
 refine ax 22 ?_
 refine G2 ?_; refine Gs [(3, _), (14, _)] ?_
 refine aJ 23 24 (Hb.mk fun hb => ?_) (Hb.mk fun hb => ?_)
 all_goals try (
 refine ax 23 ?_
 refine WC.skip ?_
 skip)
 all_goals try (
 refine ax 24 ?_
 refine G2 ?_
 refine aJ 25 26 (Hb.mk fun hb => ?_) (Hb.mk fun hb => ?_)
 all_goals try (
 refine ax 25 ?_
 refine WC.skip ?_
 skip)
 all_goals try (
 refine ax 26 ?_
 refine WC.region (Go ?_)
 skip)
 skip)
 skip)
 skip)
 all_goals (refine Gn ?_; first | refine aJ 27 28 ?_ TT.mk | (refine aJ 27 28 (Hb.mk fun hb => ?_) (Hb.mk fun hb => ?_)))
 all_goals try (
 refine ax 27 ?_
 all_goals (refine G2 ?_; refine Gt ?_; exact ⟨⟨_, rfl, by omega⟩, rfl⟩)
 skip)
 all_goals (refine ax 28 ?_; refine WC.skip ?_; refine Gn ?_; refine G2 ?_; refine Gt ?_; exact ⟨⟨_, rfl, by omega⟩, rfl⟩)
def zF (k : Int) : Fm := ⟨k, 0, [], [], [], .slice none 0 0, [], .slice none 0 0, [], .slice none 0 0, [], .slice none 0 0, [], 0⟩
def dF (f : Fm) : Fm :=
 if f.kind = 80 then { zF f.kind with name := f.name, text := f.text, vo := f.vo, oids := f.oids }
 else if f.kind = 66 then { zF f.kind with portal := f.portal, name := f.name, vf := f.vf, formats := f.formats, vs := f.vs, results := f.results, vp := f.vp, params := f.params }
 else if f.kind = 67 ∨ f.kind = 68 then (if f.what = 83 then { zF f.kind with what := f.what, name := f.name } else { zF f.kind with what := f.what, portal := f.portal })
 else if f.kind = 69 then { zF f.kind with portal := f.portal, max := f.max }
 else if f.kind = 81 then { zF f.kind with text := f.text }
 else zF f.kind
theorem sD {h : ah} {f : Fm} (k : f.ok h) : (dF f).ok h := by
 obtain ⟨k1, k2, k3, k4⟩ := k
 have z : ∀ x, (zF x).ok h := fun x => ⟨⟨Rd.nil _ _, by simp [zF]⟩, ⟨Rd.nil _ _, by simp [zF]⟩, ⟨Rd.nil _ _, by simp [zF]⟩, gr _⟩
 obtain ⟨z1, z2, z3, z4⟩ := z f.kind
 unfold dF
 repeat' split
 · exact ⟨k1, z2, z3, z4⟩
 · exact ⟨z1, k2, k3, k4⟩
 · exact ⟨z1, z2, z3, z4⟩
 · exact ⟨z1, z2, z3, z4⟩
 · exact ⟨z1, z2, z3, z4⟩
 · exact ⟨z1, z2, z3, z4⟩
 · exact ⟨z1, z2, z3, z4⟩
theorem GK {h : ah} (f : Fm) (hf : f.ok h) : ag Tryz.prog 111 ⟨[.agg ⟨f.cells⟩]⟩ h fun u h' => u = .agg ⟨(dF f).cells⟩ ∧ Ext No h h' := by
 obtain ⟨⟨e1, _⟩, ⟨e2, _⟩, ⟨e3, _⟩, e4, _⟩ := hf
 obtain ⟨fk, w, n, p, t, vo, o, vf, fs, vs, rs, vp, ps, mx⟩ := f
 dsimp only at e1 e2 e3 e4
 obtain ⟨_, _, rfl, _⟩ := e1
 obtain ⟨_, _, rfl, _⟩ := e2
 obtain ⟨_, _, rfl, _⟩ := e3
 obtain ⟨_, _, rfl, _⟩ := e4
 dsimp only [Fm.cells]
 refine calls [(0, _)] Tryz.func111 rfl Tryz.ntmps111 rfl ⟨rfl, trivial⟩ ?_
 refine WC.sr ?_; refine WL.ai (aB rfl) rfl rfl rfl ?_
 rintro _ h1 ⟨b1, rfl, bO, aQ, ay⟩
 refine WL.ai (av (fun w => Tryz.zeroValue42 w)) rfl rfl rfl ?_
 rintro _ h2 ⟨b2, rfl, eS, bH, aH⟩
 have rG := aH.obj aQ aO
 refine Gn ?_; refine G2 ?_; refine Ld ?_; refine WL.step (aD (vs := [_]) (cs := [_, _, _, _, _, _, _, _, _, _]) (fun | [a0] => [a0, (.int .u8 0), (St []), (St []), (St []), (.slice none 0 0), (.slice none 0 0), (.slice none 0 0), (.slice none 0 0), (.int .i64 0)] | _ => []) rfl rfl (by kernel_rfl)) rfl rfl rfl ?_
 refine WL.ai (av (fun w => Tryz.zeroValue42 w)) rfl rfl rfl ?_
 rintro _ h3 ⟨b3, rfl, gb, bn, aP⟩
 have yR := aP.obj rG aO
 have yS := aP.obj bH aO
 have gK : ¬ b1 = b3 := by have := aj rG; omega
 have lz : ¬ b2 = b3 := by have := aj bH; omega
 refine WL.az (al Tryz.sizeOf42 rfl rfl rfl (by assumption) rfl (by simp [Value.oneCell'])) rfl rfl ?_
 rintro _ h4 ⟨bx, aW⟩
 have eH := aW.obj yR gK
 have fe := aW.obj yS lz
 have nk : Ext No h h4 := ((ay.trans aH).trans aP).trans' aW (fun q hq e => by have := ay.size; have := aH.size; omega)
 refine Gn ?_; refine Gs [(1, _), (2, _), (3, _)] ?_; refine G3 ?_; refine Ld ?_; refine Gn ?_; refine WC.block ?_; refine G2 ?_
 refine aJ 1 2 (Hb.mk fun hb => ?_) (Hb.mk fun hb => ?_)
 all_goals try (
 refine ax 1 ?_
 refine WC.bW (fun h' => Ext (fun q => q = b3) h4 h') 11 12 rfl dk ?_
 refine WH.tk 0 rfl (fun hq hC => ad rfl Tryz.underlying42 rfl Tryz.sizeOf9) rfl rfl rfl ?_ (hC := (by first | exact Ext.refl _ _ | assumption | exact aN.trans aM | exact (aN.trans aM).trans bh))
 refine WH.tk 1 rfl (fun hq hC => aA Tryz.isAgg9 rfl (by first | exact hC.cell (by first | exact aa eH rfl | assumption) gK)) rfl rfl rfl ?_ (hC := (by first | exact Ext.refl _ _ | assumption | exact aN.trans aM | exact (aN.trans aM).trans bh))
 refine WH.tk 2 rfl (fun hq hC => ad rfl Tryz.underlying42 rfl Tryz.sizeOf9) rfl rfl rfl ?_ (hC := (by first | exact Ext.refl _ _ | assumption | exact aN.trans aM | exact (aN.trans aM).trans bh))
 refine WH.tk 3 rfl (fun hq hC => aA Tryz.isAgg9 rfl (by first | exact hC.cell (by first | exact aa eH rfl | assumption) gK)) rfl rfl rfl ?_ (hC := (by first | exact Ext.refl _ _ | assumption | exact aN.trans aM | exact (aN.trans aM).trans bh))
 refine WH.tk 4 rfl (fun hq hC => ad rfl Tryz.underlying42 rfl Tryz.sizeOf39) rfl rfl rfl ?_ (hC := (by first | exact Ext.refl _ _ | assumption | exact aN.trans aM | exact (aN.trans aM).trans bh))
 refine WH.tk 5 rfl (fun hq hC => aA Tryz.isAgg39 rfl (by first | exact hC.cell (by first | exact aa eH rfl | assumption) gK)) rfl rfl rfl ?_ (hC := (by first | exact Ext.refl _ _ | assumption | exact aN.trans aM | exact (aN.trans aM).trans bh))
 refine WH.tk 6 rfl (fun hq hC => ad rfl Tryz.underlying42 rfl Tryz.sizeOf9) rfl rfl rfl ?_ (hC := (by first | exact Ext.refl _ _ | assumption | exact aN.trans aM | exact (aN.trans aM).trans bh))
 refine WH.one 7 (by kernel_rfl) ?_
 refine aE.cQ rfl (aC Tryz.sizeOf9 rfl rfl (by assumption) (Nat.le_of_ble_eq_true rfl) rfl rfl) rfl rfl ?_ (fun _ => by kernel_rfl)
 rintro _ h5 ⟨bT, aN⟩
 refine ⟨fun _ => aN, ?_⟩
 refine WH.tk 8 rfl (fun hq hC => ad rfl Tryz.underlying42 rfl Tryz.sizeOf9) rfl rfl rfl ?_ (hC := (by first | exact Ext.refl _ _ | assumption | exact aN.trans aM | exact (aN.trans aM).trans bh))
 refine WH.one 9 (by kernel_rfl) ?_
 refine aE.cQ rfl (aC Tryz.sizeOf9 rfl rfl (by assumption) (Nat.le_of_ble_eq_true rfl) rfl rfl) rfl rfl ?_ (fun _ => by kernel_rfl)
 rintro _ h6 ⟨bN, aM⟩
 refine ⟨fun _ => aN.trans aM, ?_⟩
 refine WH.tk 10 rfl (fun hq hC => ad rfl Tryz.underlying42 rfl Tryz.sizeOf39) rfl rfl rfl ?_ (hC := (by first | exact Ext.refl _ _ | assumption | exact aN.trans aM | exact (aN.trans aM).trans bh))
 refine WH.one 11 (by kernel_rfl) ?_
 refine aE.cQ rfl (aC Tryz.sizeOf39 rfl rfl (by assumption) (Nat.le_of_ble_eq_true rfl) rfl rfl) rfl rfl ?_ (fun _ => by kernel_rfl)
 rintro _ h7 ⟨bZ, bh⟩
 refine ⟨fun _ => (aN.trans aM).trans bh, ?_⟩
 have hE := (aN.trans aM).trans bh
 have gg := hE.obj fe lz
 have hbL := bZ
 refine WH.done (by kernel_rfl) ?_
 skip)
 all_goals try (
 refine ax 2 ?_
 refine G2 ?_; refine Gs [(1, _), (2, _), (3, _), (8, _), (20, _)] ?_
 refine aJ 3 4 (Hb.mk fun hb => ?_) (Hb.mk fun hb => ?_)
 all_goals try (
 refine ax 3 ?_
 refine WC.bW (fun h' => Ext (fun q => q = b3) h4 h') 19 20 rfl dk ?_
 refine WH.tk 0 rfl (fun hq hC => ad rfl Tryz.underlying42 rfl Tryz.sizeOf9) rfl rfl rfl ?_ (hC := (by first | exact Ext.refl _ _ | assumption | exact aN.trans aM | exact (aN.trans aM).trans bh | exact ((aN.trans aM).trans bh).trans bD | exact (((aN.trans aM).trans bh).trans bD).trans cg))
 refine WH.tk 1 rfl (fun hq hC => aA Tryz.isAgg9 rfl (by first | exact hC.cell (by first | exact aa eH rfl | assumption) gK)) rfl rfl rfl ?_ (hC := (by first | exact Ext.refl _ _ | assumption | exact aN.trans aM | exact (aN.trans aM).trans bh | exact ((aN.trans aM).trans bh).trans bD | exact (((aN.trans aM).trans bh).trans bD).trans cg))
 refine WH.tk 2 rfl (fun hq hC => ad rfl Tryz.underlying42 rfl Tryz.sizeOf9) rfl rfl rfl ?_ (hC := (by first | exact Ext.refl _ _ | assumption | exact aN.trans aM | exact (aN.trans aM).trans bh | exact ((aN.trans aM).trans bh).trans bD | exact (((aN.trans aM).trans bh).trans bD).trans cg))
 refine WH.tk 3 rfl (fun hq hC => aA Tryz.isAgg9 rfl (by first | exact hC.cell (by first | exact aa eH rfl | assumption) gK)) rfl rfl rfl ?_ (hC := (by first | exact Ext.refl _ _ | assumption | exact aN.trans aM | exact (aN.trans aM).trans bh | exact ((aN.trans aM).trans bh).trans bD | exact (((aN.trans aM).trans bh).trans bD).trans cg))
 refine WH.tk 4 rfl (fun hq hC => ad rfl Tryz.underlying42 rfl Tryz.sizeOf39) rfl rfl rfl ?_ (hC := (by first | exact Ext.refl _ _ | assumption | exact aN.trans aM | exact (aN.trans aM).trans bh | exact ((aN.trans aM).trans bh).trans bD | exact (((aN.trans aM).trans bh).trans bD).trans cg))
 refine WH.tk 5 rfl (fun hq hC => aA Tryz.isAgg39 rfl (by first | exact hC.cell (by first | exact aa eH rfl | assumption) gK)) rfl rfl rfl ?_ (hC := (by first | exact Ext.refl _ _ | assumption | exact aN.trans aM | exact (aN.trans aM).trans bh | exact ((aN.trans aM).trans bh).trans bD | exact (((aN.trans aM).trans bh).trans bD).trans cg))
 refine WH.tk 6 rfl (fun hq hC => ad rfl Tryz.underlying42 rfl Tryz.sizeOf40) rfl rfl rfl ?_ (hC := (by first | exact Ext.refl _ _ | assumption | exact aN.trans aM | exact (aN.trans aM).trans bh | exact ((aN.trans aM).trans bh).trans bD | exact (((aN.trans aM).trans bh).trans bD).trans cg))
 refine WH.tk 7 rfl (fun hq hC => aA Tryz.isAgg40 rfl (by first | exact hC.cell (by first | exact aa eH rfl | assumption) gK)) rfl rfl rfl ?_ (hC := (by first | exact Ext.refl _ _ | assumption | exact aN.trans aM | exact (aN.trans aM).trans bh | exact ((aN.trans aM).trans bh).trans bD | exact (((aN.trans aM).trans bh).trans bD).trans cg))
 refine WH.tk 8 rfl (fun hq hC => ad rfl Tryz.underlying42 rfl Tryz.sizeOf39) rfl rfl rfl ?_ (hC := (by first | exact Ext.refl _ _ | assumption | exact aN.trans aM | exact (aN.trans aM).trans bh | exact ((aN.trans aM).trans bh).trans bD | exact (((aN.trans aM).trans bh).trans bD).trans cg))
 refine WH.tk 9 rfl (fun hq hC => aA Tryz.isAgg39 rfl (by first | exact hC.cell (by first | exact aa eH rfl | assumption) gK)) rfl rfl rfl ?_ (hC := (by first | exact Ext.refl _ _ | assumption | exact aN.trans aM | exact (aN.trans aM).trans bh | exact ((aN.trans aM).trans bh).trans bD | exact (((aN.trans aM).trans bh).trans bD).trans cg))
 refine WH.tk 10 rfl (fun hq hC => ad rfl Tryz.underlying42 rfl Tryz.sizeOf9) rfl rfl rfl ?_ (hC := (by first | exact Ext.refl _ _ | assumption | exact aN.trans aM | exact (aN.trans aM).trans bh | exact ((aN.trans aM).trans bh).trans bD | exact (((aN.trans aM).trans bh).trans bD).trans cg))
 refine WH.one 11 (by kernel_rfl) ?_
 refine aE.cQ rfl (aC Tryz.sizeOf9 rfl rfl (by assumption) (Nat.le_of_ble_eq_true rfl) rfl rfl) rfl rfl ?_ (fun _ => by kernel_rfl)
 rintro _ h5 ⟨bT, aN⟩
 refine ⟨fun _ => aN, ?_⟩
 refine WH.tk 12 rfl (fun hq hC => ad rfl Tryz.underlying42 rfl Tryz.sizeOf9) rfl rfl rfl ?_ (hC := (by first | exact Ext.refl _ _ | assumption | exact aN.trans aM | exact (aN.trans aM).trans bh | exact ((aN.trans aM).trans bh).trans bD | exact (((aN.trans aM).trans bh).trans bD).trans cg))
 refine WH.one 13 (by kernel_rfl) ?_
 refine aE.cQ rfl (aC Tryz.sizeOf9 rfl rfl (by assumption) (Nat.le_of_ble_eq_true rfl) rfl rfl) rfl rfl ?_ (fun _ => by kernel_rfl)
 rintro _ h6 ⟨bN, aM⟩
 refine ⟨fun _ => aN.trans aM, ?_⟩
 refine WH.tk 14 rfl (fun hq hC => ad rfl Tryz.underlying42 rfl Tryz.sizeOf39) rfl rfl rfl ?_ (hC := (by first | exact Ext.refl _ _ | assumption | exact aN.trans aM | exact (aN.trans aM).trans bh | exact ((aN.trans aM).trans bh).trans bD | exact (((aN.trans aM).trans bh).trans bD).trans cg))
 refine WH.one 15 (by kernel_rfl) ?_
 refine aE.cQ rfl (aC Tryz.sizeOf39 rfl rfl (by assumption) (Nat.le_of_ble_eq_true rfl) rfl rfl) rfl rfl ?_ (fun _ => by kernel_rfl)
 rintro _ h7 ⟨bZ, bh⟩
 refine ⟨fun _ => (aN.trans aM).trans bh, ?_⟩
 refine WH.tk 16 rfl (fun hq hC => ad rfl Tryz.underlying42 rfl Tryz.sizeOf40) rfl rfl rfl ?_ (hC := (by first | exact Ext.refl _ _ | assumption | exact aN.trans aM | exact (aN.trans aM).trans bh | exact ((aN.trans aM).trans bh).trans bD | exact (((aN.trans aM).trans bh).trans bD).trans cg))
 refine WH.one 17 (by kernel_rfl) ?_
 refine aE.cQ rfl (aC Tryz.sizeOf40 rfl rfl (by assumption) (Nat.le_of_ble_eq_true rfl) rfl rfl) rfl rfl ?_ (fun _ => by kernel_rfl)
 rintro _ h8 ⟨bE, bD⟩
 refine ⟨fun _ => ((aN.trans aM).trans bh).trans bD, ?_⟩
 refine WH.tk 18 rfl (fun hq hC => ad rfl Tryz.underlying42 rfl Tryz.sizeOf39) rfl rfl rfl ?_ (hC := (by first | exact Ext.refl _ _ | assumption | exact aN.trans aM | exact (aN.trans aM).trans bh | exact ((aN.trans aM).trans bh).trans bD | exact (((aN.trans aM).trans bh).trans bD).trans cg))
 refine WH.one 19 (by kernel_rfl) ?_
 refine aE.cQ rfl (aC Tryz.sizeOf39 rfl rfl (by assumption) (Nat.le_of_ble_eq_true rfl) rfl rfl) rfl rfl ?_ (fun _ => by kernel_rfl)
 rintro _ h9 ⟨bQ, cg⟩
 refine ⟨fun _ => (((aN.trans aM).trans bh).trans bD).trans cg, ?_⟩
 have hE := (((aN.trans aM).trans bh).trans bD).trans cg
 have gg := hE.obj fe lz
 have hbL := bQ
 refine WH.done (by kernel_rfl) ?_
 skip)
 all_goals try (
 refine ax 4 ?_
 refine G3 ?_
 refine aJ 5 6 (Hb.mk fun hb => ?_) (Hb.mk fun hb => ?_)
 all_goals try (
 refine ax 5 ?_
 refine WC.skip ?_
 skip)
 all_goals try (
 refine ax 6 ?_
 refine WC.region (Go ?_)
 skip)
 all_goals (refine Gn ?_; refine aJ 7 8 (Hb.mk fun hb => ?_) (Hb.mk fun hb => ?_))
 all_goals try (
 refine ax 7 ?_
 all_goals (refine G2 ?_; refine Ld ?_; refine Go ?_; refine WL.az (aC Tryz.sizeOf5 rfl rfl (by assumption) (Nat.le_of_ble_eq_true rfl) rfl rfl) rfl rfl ?_; rintro _ h5 ⟨bT, aN⟩; have uS := aN.obj eH gK; refine Gn ?_; refine Gs [(1, _), (2, _), (3, _)] ?_; refine G2 ?_; refine WL.ld rfl (by first | exact aa uS rfl | assumption) rfl rfl rfl (Go ?_); refine aJ 9 10 (Hb.mk fun hb => ?_) (Hb.mk fun hb => ?_))
 all_goals try (
 refine ax 9 ?_
 all_goals (refine WC.region (Go ?_); refine WL.ld rfl (by first | exact aa uS rfl | assumption) rfl rfl rfl (Go ?_); refine WL.az (aC Tryz.sizeOf9 rfl rfl (by assumption) (Nat.le_of_ble_eq_true rfl) rfl rfl) rfl rfl ?_; rintro _ h6 ⟨bN, aM⟩; have hE := aN.trans aM; have gg := hE.obj fe lz; have hbL := bN; refine Gn ?_)
 skip)
 all_goals try (
 refine ax 10 ?_
 all_goals (refine WC.region (Go ?_); refine WL.ld rfl (by first | exact aa uS rfl | assumption) rfl rfl rfl (Go ?_); refine WL.az (aC Tryz.sizeOf9 rfl rfl (by assumption) (Nat.le_of_ble_eq_true rfl) rfl rfl) rfl rfl ?_; rintro _ h6 ⟨bN, aM⟩; have hE := aN.trans aM; have gg := hE.obj fe lz; have hbL := bN; refine Gn ?_)
 skip)
 skip)
 all_goals try (
 refine ax 8 ?_
 all_goals (refine G2 ?_; refine Gs [(1, _), (2, _), (3, _), (8, _), (52, _)] ?_; first | refine aJ 11 12 ?_ TT.mk | (refine aJ 11 12 (Hb.mk fun hb => ?_) (Hb.mk fun hb => ?_)))
 all_goals try (
 refine ax 11 ?_
 all_goals (refine WC.bW (fun h' => Ext (fun q => q = b3) h4 h') 7 8 rfl dk ?_; refine WH.tk 0 rfl (fun hq hC => ad rfl Tryz.underlying42 rfl Tryz.sizeOf9) rfl rfl rfl ?_ (hC := (by first | exact Ext.refl _ _ | assumption | exact aN.trans aM)); refine WH.tk 1 rfl (fun hq hC => aA Tryz.isAgg9 rfl (by first | exact hC.cell (by first | exact aa eH rfl | assumption) gK)) rfl rfl rfl ?_ (hC := (by first | exact Ext.refl _ _ | assumption | exact aN.trans aM)); refine WH.tk 2 rfl (fun hq hC => ad rfl Tryz.underlying42 rfl Tryz.sizeOf3) rfl rfl rfl ?_ (hC := (by first | exact Ext.refl _ _ | assumption | exact aN.trans aM)); refine WH.tk 3 rfl (fun hq hC => aA Tryz.isAgg3 rfl (by first | exact hC.cell (by first | exact aa eH rfl | assumption) gK)) rfl rfl rfl ?_ (hC := (by first | exact Ext.refl _ _ | assumption | exact aN.trans aM)); refine WH.tk 4 rfl (fun hq hC => ad rfl Tryz.underlying42 rfl Tryz.sizeOf9) rfl rfl rfl ?_ (hC := (by first | exact Ext.refl _ _ | assumption | exact aN.trans aM)); refine WH.one 5 (by kernel_rfl) ?_; refine aE.cQ rfl (aC Tryz.sizeOf9 rfl rfl (by assumption) (Nat.le_of_ble_eq_true rfl) rfl rfl) rfl rfl ?_ (fun _ => by kernel_rfl); rintro _ h5 ⟨bT, aN⟩; refine ⟨fun _ => aN, ?_⟩; refine WH.tk 6 rfl (fun hq hC => ad rfl Tryz.underlying42 rfl Tryz.sizeOf3) rfl rfl rfl ?_ (hC := (by first | exact Ext.refl _ _ | assumption | exact aN.trans aM)); refine WH.one 7 (by kernel_rfl) ?_; refine aE.cQ rfl (aC Tryz.sizeOf3 rfl rfl (by assumption) (Nat.le_of_ble_eq_true rfl) rfl rfl) rfl rfl ?_ (fun _ => by kernel_rfl); rintro _ h6 ⟨bN, aM⟩; refine ⟨fun _ => aN.trans aM, ?_⟩; have hE := aN.trans aM; have gg := hE.obj fe lz; have hbL := bN; refine WH.done (by kernel_rfl) ?_)
 skip)
 all_goals try (
 refine ax 12 ?_
 refine G2 ?_
 refine aJ 13 14 (Hb.mk fun hb => ?_) (Hb.mk fun hb => ?_)
 all_goals try (
 refine ax 13 ?_
 refine WC.region (Go ?_); refine Ld ?_; refine Go ?_; refine WL.az (aC Tryz.sizeOf9 rfl rfl (by assumption) (Nat.le_of_ble_eq_true rfl) rfl rfl) rfl rfl ?_
 rintro _ h5 ⟨bT, hE⟩
 have gg := hE.obj fe lz
 have hbL := bT
 refine Gn ?_
 skip)
 all_goals try (
 refine ax 14 ?_
 refine WC.skip ?_
 skip)
 skip)
 skip)
 skip)
 skip)
 all_goals (refine Gn ?_; refine WC.sr ?_; refine WL.step (an Tryz.isAgg42 Tryz.sizeOf42 rfl rfl (by exact (by first | exact At.au hbL | exact At.au bx))) rfl rfl rfl ?_; refine WL.az (al Tryz.sizeOf42 rfl rfl rfl (by first | exact gg | exact fe) rfl (by simp [Value.oneCell'])) rfl rfl ?_; rintro _ h9 ⟨bQ, cg⟩; refine Gn ?_; refine WC.ret ?_; repeat' (with_reducible first | refine ba ?_ | refine aV ?_))
 all_goals (refine bY _ ⟨⟨_, rfl, bB Tryz.isAgg42 Tryz.sizeOf42 (by assumption) rfl⟩, trivial⟩ ?_)
 all_goals (
  have qX := ay.size
  have xY := aH.size
  refine ⟨?_, by first | exact (nk.trans' hE (fun q hq e => by omega)).trans' cg (fun q hq e => by omega) | exact nk.trans' cg (fun q hq e => by omega)⟩
  first
   | (exfalso; omega)
   | (simp only [dF, if_pos, *]; rfl)
   | (simp [dF, zF, Fm.cells, *]; done))
theorem DE {h : ah} (a b : Fm) (ha : a.ok h) (hb : b.ok h) :
   ag Tryz.prog 110 ⟨[.agg ⟨a.cells⟩, .agg ⟨b.cells⟩]⟩ h fun u h' => (∃ x, u = .bool x ∧ (x = true ↔ a.pl = b.pl)) ∧ Ext No h h' := by
 obtain ⟨k1, w1, n1, p1, t1, JU, o1, JV, f1, L4, r1, NC, c1, m1⟩ := a
 obtain ⟨k2, w2, n2, p2, t2, JW, o2, JX, f2, ND, r2, Hu, c2, m2⟩ := b
 obtain ⟨⟨ao, lo⟩, ⟨af, lf⟩, ⟨as', ls⟩, ap⟩ := ha
 obtain ⟨⟨bo, ko⟩, ⟨bf, kf⟩, ⟨bs', ks⟩, bp⟩ := hb
 simp only at ao af as' ap bo bf bs' bp lo lf ls ko kf ks
 obtain ⟨Ao, co, rfl, _⟩ := id ao
 obtain ⟨Bo, do_, rfl, _⟩ := id bo
 obtain ⟨Af, cf, rfl, _⟩ := id af
 obtain ⟨Bf, df, rfl, _⟩ := id bf
 obtain ⟨As, cs, rfl, _⟩ := id as'
 obtain ⟨Bs, ds, rfl, _⟩ := id bs'
 obtain ⟨_, ⟨_, Ap, cp, rfl, _⟩, _⟩ := id ap
 obtain ⟨_, ⟨_, Bp, dp, rfl, _⟩, _⟩ := id bp
 dsimp only [Fm.cells, Fm.pl]
 have hpc : (k1 = k2 ∧ w1 = w2 ∧ n1 = n2 ∧ p1 = p2 ∧ t1 = t2 ∧ m1 = m2) ∨ k1 ≠ k2 ∨ (k1 = k2 ∧ w1 ≠ w2) ∨ (k1 = k2 ∧ w1 = w2 ∧ n1 ≠ n2) ∨ (k1 = k2 ∧ w1 = w2 ∧ n1 = n2 ∧ p1 ≠ p2) ∨ (k1 = k2 ∧ w1 = w2 ∧ n1 = n2 ∧ p1 = p2 ∧ t1 ≠ t2) ∨ (k1 = k2 ∧ w1 = w2 ∧ n1 = n2 ∧ p1 = p2 ∧ t1 = t2 ∧ m1 ≠ m2) := by
   by_cases e1 : k1 = k2
   · by_cases e2 : w1 = w2
     · by_cases e3 : n1 = n2
       · by_cases e4 : p1 = p2
         · by_cases e5 : t1 = t2
           · by_cases e6 : m1 = m2
             · exact .inl ⟨e1, e2, e3, e4, e5, e6⟩
             · exact .inr (.inr (.inr (.inr (.inr (.inr ⟨e1, e2, e3, e4, e5, e6⟩)))))
           · exact .inr (.inr (.inr (.inr (.inr (.inl ⟨e1, e2, e3, e4, e5⟩)))))
         · exact .inr (.inr (.inr (.inr (.inl ⟨e1, e2, e3, e4⟩))))
       · exact .inr (.inr (.inr (.inl ⟨e1, e2, e3⟩)))
     · exact .inr (.inr (.inl ⟨e1, e2⟩))
   · exact .inr (.inl e1)
 rcases hpc with ⟨rfl, rfl, rfl, rfl, rfl, rfl⟩ | q | ⟨rfl, q⟩ | ⟨rfl, rfl, q⟩ | ⟨rfl, rfl, rfl, q⟩ | ⟨rfl, rfl, rfl, rfl, q⟩ | ⟨rfl, rfl, rfl, rfl, rfl, q⟩
 all_goals
   refine calls [(0, _), (1, _)] Tryz.func110 rfl Tryz.ntmps110 rfl ⟨rfl, rfl, trivial⟩ ?_
   all_goals (refine WC.sr ?_; refine WL.ai (aB rfl) rfl rfl rfl ?_; rintro _ h1 ⟨b1, rfl, bO, aQ, ay⟩; refine WL.ai (aB rfl) rfl rfl rfl ?_; rintro _ h2 ⟨b2, rfl, eS, bH, aH⟩; have og := aH.obj aQ aO; have hx := ay.trans aH; refine Go ?_; refine G2 ?_; refine Ld ?_; refine Go ?_; refine Ld ?_; refine Go ?_; refine bG 11 ?_ TT.mk; refine Gg ?_; first | refine WL.pass rfl rfl rfl ?_ | refine Ld ?_)
   all_goals (refine Gg ?_; first | refine WL.pass rfl rfl rfl ?_ | refine Ld ?_)
   all_goals (refine Gg ?_; refine Go ?_; refine bG 18 ?_ TT.mk; refine Gg ?_; first | refine WL.pass rfl rfl rfl ?_ | refine Ld ?_)
   all_goals (refine Gg ?_; first | refine WL.pass rfl rfl rfl ?_ | refine Ld ?_)
   all_goals (refine Gg ?_; refine Go ?_; refine bG 25 ?_ TT.mk; refine Gg ?_; first | refine WL.pass rfl rfl rfl ?_ | refine Ld ?_)
   all_goals (refine Gg ?_; first | refine WL.pass rfl rfl rfl ?_ | refine Ld ?_)
   all_goals (refine Gg ?_; refine Go ?_; refine bG 32 ?_ TT.mk; refine Gg ?_; first | refine WL.pass rfl rfl rfl ?_ | refine Ld ?_)
   all_goals (refine Gg ?_; first | refine WL.pass rfl rfl rfl ?_ | refine Ld ?_)
   all_goals (refine Gg ?_; refine Go ?_; refine bG 39 ?_ TT.mk; refine Gg ?_; first | refine WL.pass rfl rfl rfl ?_ | refine Ld ?_)
   all_goals (refine Gg ?_; first | refine WL.pass rfl rfl rfl ?_ | refine Ld ?_)
   all_goals (refine Gg ?_; refine Go ?_; refine Gs [(2, _), (3, _), (5, _)] ?_; refine G2 ?_; refine bG 47 ?_ TT.mk; refine Gg ?_; first | refine WL.pass rfl rfl rfl ?_ | refine Ld ?_)
   all_goals (refine Gg ?_; first | refine WL.pass rfl rfl rfl ?_ | refine Ld ?_)
   all_goals (
    first
      | (refine WL.pass rfl rfl rfl ?_)
      | (refine WL.call (vs := [_, _]) rfl Tryz.call159 rfl ((nj o1 o2 (ao.aq hx) (bo.aq hx) lo ko).dec) rfl rfl rfl ?_
         rintro _ h9 ⟨⟨rfl, q1⟩ | ⟨rfl, q1⟩, ml⟩
         all_goals subst h9))
   all_goals (refine Go ?_; refine bG 54 ?_ TT.mk; refine Gg ?_; first | refine WL.pass rfl rfl rfl ?_ | refine Ld ?_)
   all_goals (refine Gg ?_; first | refine WL.pass rfl rfl rfl ?_ | refine Ld ?_)
   all_goals (
    first
      | (refine WL.pass rfl rfl rfl ?_)
      | (refine WL.call (vs := [_, _]) rfl Tryz.call159 rfl ((nj f1 f2 (af.aq hx) (bf.aq hx) lf kf).dec) rfl rfl rfl ?_
         rintro _ h9 ⟨⟨rfl, q2⟩ | ⟨rfl, q2⟩, ml⟩
         all_goals subst h9))
   all_goals (refine Go ?_; refine bG 61 ?_ TT.mk; refine Gg ?_; first | refine WL.pass rfl rfl rfl ?_ | refine Ld ?_)
   all_goals (refine Gg ?_; first | refine WL.pass rfl rfl rfl ?_ | refine Ld ?_)
   all_goals (
    first
      | (refine WL.pass rfl rfl rfl ?_)
      | (refine WL.call (vs := [_, _]) rfl Tryz.call159 rfl ((nj r1 r2 (as'.aq hx) (bs'.aq hx) ls ks).dec) rfl rfl rfl ?_
         rintro _ h9 ⟨⟨rfl, q3⟩ | ⟨rfl, q3⟩, ml⟩
         all_goals subst h9))
   all_goals (refine Go ?_; refine bG 68 ?_ TT.mk; refine Gg ?_; first | refine WL.pass rfl rfl rfl ?_ | refine Ld ?_)
   all_goals (refine Gg ?_; first | refine WL.pass rfl rfl rfl ?_ | refine Ld ?_)
   all_goals (
    first
      | (refine WL.pass rfl rfl rfl ?_)
      | (refine WL.call (vs := [_, _]) rfl Tryz.call160 rfl ((wL c1 c2 (ap.aq hx) (bp.aq hx)).dec) rfl rfl rfl ?_
         rintro _ h9 ⟨⟨rfl, q4⟩ | ⟨rfl, q4⟩, ml⟩
         all_goals subst h9))
   all_goals (refine Go ?_; refine Gs [(4, _)] ?_; refine Gt ?_; refine ⟨⟨_, rfl, ?_⟩, hx⟩; first | exact ⟨fun _ => (by rw [q1, q2, q3, q4]), fun _ => rfl⟩ | exact ⟨fun z => (by cases z), fun z => by simp only [Prod.mk.injEq] at z; first | exact absurd z.2.2.2.2.2.1 q1 | exact absurd z.2.2.2.2.2.2.1 q2 | exact absurd z.2.2.2.2.2.2.2.1 q3 | exact absurd z.2.2.2.2.2.2.2.2.1 q4 | exact absurd z.1 q | exact absurd z.2.1 q | exact absurd z.2.2.1 q | exact absurd z.2.2.2.1 q | exact absurd z.2.2.2.2.1 q | exact absurd z.2.2.2.2.2.2.2.2.2 q⟩)
def Wh (k w:Int):Prop:=(¬ (k=67∨k=68)∧(w=0∨w=83∨w=80))∨((k=67∨k=68)∧(w=83∨w=80))
structure Fm.may (f:Fm):Prop where
 kind:K6 f.kind
 name:aZ f.name=true
 portal:aZ f.portal=true
 text:aZ f.text=true
 oids:∀ n∈f.oids,0≤n∧n≤4294967295
 formats:∀ n∈f.formats,0≤n∧n≤65535
 results:∀ n∈f.results,0≤n∧n≤65535
 params:∀ c∈f.params,c.okB
 what:Wh f.kind f.what
 max : -2147483648≤f.max∧f.max≤2147483647
 own:f.pl=(dF f).pl
theorem lU {h:ah} {v:Value} (l:List Int) (lo hi:Int) (hr:Rd h v 1 l.length (ints l)) (hm:l.length≤65535) :
   ag Tryz.prog 108 ⟨[v,In lo,In hi]⟩ h fun u h'=>u=.bool (decide (∀ n∈l,lo≤n∧n≤hi))∧h'=h:=by
 obtain ⟨A,c,rfl,_⟩:=id hr
 refine calls [(0,_),(1,_),(2,_)] Tryz.func108 rfl Tryz.ntmps108 rfl ⟨rfl,rfl,rfl,trivial⟩ ?_
 refine G2 ?_;refine G3 ?_
 refine aJ 1 2 ?_ TT.mk
 all_goals (refine ax 2 ?_)
 refine WC.skip ?_;refine Gn ?_;refine Gs [(0,_),(1,_),(2,_)] ?_;refine G3 ?_;refine WC.block ?_;refine WC.bC (X:=Nat) (fun x=>([(7,In (x:Int))]:Fr)) [(0,_),(1,_),(2,_)] (fun k h'=>h'=h∧k≤l.length∧∀ n∈l.take k,lo≤n∧n≤hi) (fun k=>l.length - k) (0) ⟨rfl,rfl,rfl,rfl,trivial⟩ (by exact ⟨rfl,Nat.zero_le _,by simp⟩) ?_
 rintro k h9 ⟨hz,hk,hn⟩
 subst h9
 refine WC.sub [(7,_),(0,_),(1,_),(2,_)] ⟨rfl,rfl,rfl,rfl,trivial⟩ ?_;refine G3 ?_
 refine aJ 3 4 (Hb.mk fun hb=>?_) (Hb.mk fun hb=>?_)
 all_goals try (
 refine ax 3 ?_
 refine WC.skip ?_
 skip)
 all_goals try (
 refine ax 4 ?_
 refine WC.exit ?_
 repeat' (with_reducible first | refine aU ?_ | refine aG rfl ?_ | refine aI ?_ | refine aL ?_ | refine aS ?_)
 refine Br.out (i:=1000) ?_
 skip)
 all_goals (refine Gn ?_;first | refine Br.ab ?_ | refine Gs [(0,_),(1,_),(2,_),(7,_)] ?_)
 all_goals (first | refine Br.ab ?_ | refine WC.seq ?_)
 all_goals (first | refine Br.ab ?_ | refine WC.block ?_)
 all_goals (first | refine Br.ab ?_ | refine WC.seq ?_)
 all_goals (
  first
    | (refine Br.ab ?_)
    | (obtain ⟨bL,oL,hA,hbL,hat⟩:=Rd.at_ hr (by omega)
       obtain ⟨y,hy⟩:∃ y,l[k]?=some y:=⟨_,List.getElem?_eq_getElem (by omega)⟩
       have hcd:cell h ⟨bL,oL+k * 1,none⟩=some (In y):=by rw [Nat.mul_one];exact hat.one (j:=k) (by simp [hy])))
 all_goals (first | refine Br.ab ?_ | refine WC.region ?_)
 all_goals (refine Go ?_;first | refine Br.ab ?_ | (refine WL.step (aF Tryz.underlying39 Tryz.sizeOf3 rfl rfl rfl (by omega) (by first | rfl | assumption)) rfl rfl rfl ?_))
 all_goals (first | refine Br.ab ?_ | (refine WL.ld rfl (by first | exact hcd | assumption) rfl rfl rfl ?_))
 all_goals (refine Go ?_;first | refine Br.ab ?_ | (refine bG 23 (Hb.mk fun hb=>?_) (Hb.mk fun hb=>?_)))
 all_goals (refine Gg ?_;first | refine Br.ab ?_ | (first | (refine WL.pass rfl rfl rfl ?_) | (refine WL.step (aF Tryz.underlying39 Tryz.sizeOf3 rfl rfl rfl (by omega) (by first | rfl | assumption)) rfl rfl rfl ?_)))
 all_goals (first | refine Br.ab ?_ | (first | (refine WL.pass rfl rfl rfl ?_) | (refine WL.ld rfl (by first | exact hcd | assumption) rfl rfl rfl ?_)))
 all_goals (refine Gg ?_;refine Go ?_;first | refine Br.ab ?_ | refine Gs [(0,_),(1,_),(2,_),(7,_),(30,_)] ?_)
 all_goals (first | refine Br.ab ?_ | (first | (refine aJ 5 6 ?_ TT.mk) | (refine aJ 5 6 (Hb.mk fun hb=>?_) (Hb.mk fun hb=>?_))))
 all_goals try (
 refine ax 5 ?_
 all_goals (refine G2 ?_;refine Gs [(6,_)] ?_;refine Gt ?_)
 all_goals (
  first
   | exact ⟨congrArg Value.bool (decide_eq_true (by rw [List.take_of_length_le (by omega)] at hn;exact hn)).symm,rfl⟩
   | exact ⟨congrArg Value.bool (decide_eq_false (fun z=>by have:=z _ (List.mem_of_getElem? hy);omega)).symm,rfl⟩)
 skip)
 all_goals try (
 refine ax 6 ?_
 refine WC.skip ?_
 skip)
 all_goals (refine Gn ?_;first | refine Br.ab ?_ | refine WC.region ?_)
 all_goals (refine Go ?_;first | refine Br.ab ?_ | (exact ⟨k+1,⟨rfl,rfl,rfl,rfl,trivial⟩,(by exact ⟨rfl,by omega,rV hy hn (by omega)⟩),(by omega)⟩))
 try (refine Br.mk (i:=1000) ?_)
 refine Gn ?_;refine Gs [] ?_;refine G2 ?_;refine Gt ?_
 first
  | exact ⟨congrArg Value.bool (decide_eq_true (by rw [List.take_of_length_le (by omega)] at hn;exact hn)).symm,rfl⟩
  | exact ⟨congrArg Value.bool (decide_eq_false (fun z=>by have:=z _ (List.mem_of_getElem? hy);omega)).symm,rfl⟩
theorem Bc {h:ah} (f:Fm) (hf:f.ok h) (w:f.qB):ag Tryz.prog 63 ⟨[.agg ⟨f.cells⟩]⟩ h fun u h'=>(∃ e,u=In e∧(e=0 ↔ f.may))∧Ext No h h':=by
 have hof:=fun {h':ah} (hx:Ext No h h')=>GK (h:=h') f (hf.aq hx)
 have hsa:=fun {h':ah} (hx:Ext No h h')=>DE (h:=h') f (dF f) (hf.aq hx) (sD (hf.aq hx))
 have hyes:K6 f.kind→(aZ f.name && aZ f.portal && aZ f.text)=true→(decide (∀ n∈f.oids,0≤n∧n≤4294967295) && decide (∀ n∈f.formats,0≤n∧n≤65535) && decide (∀ n∈f.results,0≤n∧n≤65535) && decide (∀ c∈f.params,c.okB))=true→Wh f.kind f.what→(-2147483648≤f.max∧f.max≤2147483647)→f.pl=(dF f).pl→f.may:=fun a1 a2 a3 a9 gd rE=>by
   simp only [Bool.and_eq_true] at a2
   simp only [Bool.and_eq_true,decide_eq_true_eq] at a3
   exact ⟨a1,a2.1.1,a2.1.2,a2.2,a3.1.1.1,a3.1.1.2,a3.1.2,a3.2,a9,gd,rE⟩
 have hnk:¬ K6 f.kind→¬ f.may:=fun a z=>a z.kind
 have hnT:(aZ f.name && aZ f.portal && aZ f.text)=false→¬ f.may:=fun a z=>by rw [z.name,z.portal,z.text] at a;cases a
 have hnL:(decide (∀ n∈f.oids,0≤n∧n≤4294967295) && decide (∀ n∈f.formats,0≤n∧n≤65535) && decide (∀ n∈f.results,0≤n∧n≤65535) && decide (∀ c∈f.params,c.okB))=false→¬ f.may:=fun a z=>by rw [decide_eq_true z.oids,decide_eq_true z.formats,decide_eq_true z.results,decide_eq_true z.params] at a;cases a
 have x5:¬ Wh f.kind f.what→¬ f.may:=fun a z=>a z.what
 have zx:¬ (-2147483648≤f.max∧f.max≤2147483647)→¬ f.may:=fun a z=>a z.max
 have lF:¬ f.pl=(dF f).pl→¬ f.may:=fun a z=>a z.own
 generalize hob:dF f=ob at hof hsa hyes lF
 generalize f.may=BM at hyes hnk hnT hnL x5 zx lF ⊢
 generalize hPL:f.pl=PL at hsa hyes lF
 obtain ⟨⟨e1,_⟩,⟨e2,_⟩,⟨e3,_⟩,e4⟩:=hf
 obtain ⟨EU,EV,EW,ya,Bd,GL,GM,GN⟩:=w
 obtain ⟨fk,w,n,p,t,vo,o,vf,fs,vs,rs,vp,ps,mx⟩:=f
 dsimp only at e1 e2 e3 e4 EU EV EW ya Bd GL GM GN hyes hnk hnT hnL x5 zx
 obtain ⟨A1,z1,rfl,_⟩:=id e1
 obtain ⟨A2,z2,rfl,_⟩:=id e2
 obtain ⟨A3,z3,rfl,_⟩:=id e3
 obtain ⟨_,⟨_,A4,z4,rfl,_⟩,_⟩:=id e4
 dsimp only [Fm.cells] at hof hsa ⊢
 have hwc:w=0∨w=83∨w=80∨(w ≠ 0∧w ≠ 83∧w ≠ 80):=by omega
 unfold Wh at hyes x5
 refine calls [(0,_)] Tryz.func63 rfl Tryz.ntmps63 rfl ⟨rfl,trivial⟩ ?_
 refine WC.sr ?_;refine WL.ai (aB rfl) rfl rfl rfl ?_
 rintro _ g1 ⟨b1,rfl,bO,aQ,ay⟩
 refine Go ?_;refine G3 ?_;refine Ld ?_;refine WL.call (vs:=[_]) rfl Tryz.call107 rfl (DD fk) rfl rfl rfl ?_
 rintro _ h9 ⟨⟨kx,rfl,hkx⟩,ml⟩
 subst h9
 refine Go ?_;refine Gs [(1,_),(9,_)] ?_
 refine aJ 1 2 (Hb.mk fun hb=>?_) (Hb.mk fun hb=>?_)
 all_goals try (
 refine ax 1 ?_
 refine G2 ?_;refine Gt ?_
 try (have Ck:=of_decide_eq_true ‹decide (mx < -2147483648)=true›)
 try (have oY:=of_decide_eq_true ‹decide (2147483647 < mx)=true›)
 try (have L5:=of_decide_eq_false ‹decide (mx < -2147483648)=false›)
 try (have JH:=of_decide_eq_false ‹decide (2147483647 < mx)=false›)
 first
  | (refine ⟨⟨0,rfl,⟨fun _=>?_,fun _=>rfl⟩⟩,kJ.trans cg⟩
     exact hyes (hkx.1 (by omega)) htx.symm hlx.symm (by omega) (by omega) (hsx.1 rfl))
  | (refine ⟨⟨_,rfl,⟨fun z=>absurd z (by decide),fun z=>absurd z ?_⟩⟩,ay⟩
     first | exact hnT htx.symm | exact hnL hlx.symm | exact hnk (fun z=>by have:=hkx.2 z;omega) | exact x5 (by omega) | exact zx (by omega))
  | (refine ⟨⟨_,rfl,⟨fun z=>absurd z (by decide),fun z=>absurd z ?_⟩⟩,kJ.trans cg⟩
     exact lF (fun z=>Bool.false_ne_true (hsx.2 z)))
 skip)
 all_goals (refine ax 2 ?_)
 refine WC.skip ?_;refine Gn ?_;refine WC.cut (X:=Bool) (fun z=>[(1,.pointer (some ⟨b1,0,none⟩)),(3,.bool z)]) (fun z h'=>z=(aZ n && aZ p && aZ t)∧h'=g1) ?_ ?_
 ·
   refine WC.region (Go ?_);refine Ld ?_;refine WL.call (vs:=[_]) rfl Tryz.call104 rfl ((p8 n (by omega)).bl) rfl rfl rfl ?_
   rintro _ h9 ⟨⟨rfl,c1⟩ | ⟨rfl,c1⟩,ml⟩
   all_goals subst h9
   all_goals (refine Go ?_;refine bG 13 ?_ TT.mk;refine Gg ?_;first | refine WL.pass rfl rfl rfl ?_ | refine Ld ?_)
   all_goals (
    first
      | (refine WL.pass rfl rfl rfl ?_)
      | (refine WL.call (vs:=[_]) rfl Tryz.call104 rfl ((p8 p (by omega)).bl) rfl rfl rfl ?_
         rintro _ h9 ⟨⟨rfl,c2⟩ | ⟨rfl,c2⟩,ml⟩
         all_goals subst h9))
   all_goals (refine Go ?_;refine bG 18 ?_ TT.mk;refine Gg ?_;first | refine WL.pass rfl rfl rfl ?_ | refine Ld ?_)
   all_goals (
    first
      | (refine WL.pass rfl rfl rfl ?_)
      | (refine WL.call (vs:=[_]) rfl Tryz.call104 rfl ((p8 t (by omega)).bl) rfl rfl rfl ?_
         rintro _ h9 ⟨⟨rfl,c3⟩ | ⟨rfl,c3⟩,ml⟩
         all_goals subst h9))
   all_goals (refine Go ?_;refine ⟨_,⟨rfl,rfl,trivial⟩,?_⟩;exact ⟨by simp [*],rfl⟩)
 rintro tx h9 ⟨htx,ml⟩;subst h9
 refine WC.cut (X:=Bool) (fun z=>[(1,.pointer (some ⟨b1,0,none⟩)),(3,.bool tx),(4,.bool z)]) (fun z h'=>z=(decide (∀ n∈o,0≤n∧n≤4294967295) && decide (∀ n∈fs,0≤n∧n≤65535) && decide (∀ n∈rs,0≤n∧n≤65535) && decide (∀ c∈ps,c.okB))∧h'=g1) ?_ ?_
 ·
   refine WC.region (Go ?_);refine Ld ?_;refine WL.call (vs:=[_,_,_]) rfl Tryz.call108 rfl ((lU o 0 4294967295 (e1.aq ay) (by omega)).dec) rfl rfl rfl ?_
   rintro _ h9 ⟨⟨rfl,c4⟩ | ⟨rfl,c4⟩,ml⟩
   all_goals subst h9
   all_goals (refine Go ?_;refine bG 26 ?_ TT.mk;refine Gg ?_;first | refine WL.pass rfl rfl rfl ?_ | refine Ld ?_)
   all_goals (
    first
      | (refine WL.pass rfl rfl rfl ?_)
      | (refine WL.call (vs:=[_,_,_]) rfl Tryz.call108 rfl ((lU fs 0 65535 (e2.aq ay) (by omega)).dec) rfl rfl rfl ?_
         rintro _ h9 ⟨⟨rfl,c5⟩ | ⟨rfl,c5⟩,ml⟩
         all_goals subst h9))
   all_goals (refine Go ?_;refine bG 31 ?_ TT.mk;refine Gg ?_;first | refine WL.pass rfl rfl rfl ?_ | refine Ld ?_)
   all_goals (
    first
      | (refine WL.pass rfl rfl rfl ?_)
      | (refine WL.call (vs:=[_,_,_]) rfl Tryz.call108 rfl ((lU rs 0 65535 (e3.aq ay) (by omega)).dec) rfl rfl rfl ?_
         rintro _ h9 ⟨⟨rfl,c6⟩ | ⟨rfl,c6⟩,ml⟩
         all_goals subst h9))
   all_goals (refine Go ?_;refine bG 36 ?_ TT.mk;refine Gg ?_;first | refine WL.pass rfl rfl rfl ?_ | refine Ld ?_)
   all_goals (
    first
      | (refine WL.pass rfl rfl rfl ?_)
      | (refine WL.call (vs:=[_]) rfl Tryz.call109 rfl ((zu ps (e4.aq ay) (by omega) (fun c hc=>by have:=Bd c hc;omega)).dec) rfl rfl rfl ?_
         rintro _ h9 ⟨⟨rfl,c7⟩ | ⟨rfl,c7⟩,ml⟩
         all_goals subst h9))
   all_goals (refine Go ?_;refine ⟨_,⟨rfl,rfl,rfl,trivial⟩,?_⟩;first | (refine ⟨?_,rfl⟩;rw [decide_eq_false c4];simp;done) | (refine ⟨?_,rfl⟩;rw [decide_eq_false c5];simp;done) | (refine ⟨?_,rfl⟩;rw [decide_eq_false c6];simp;done) | (refine ⟨?_,rfl⟩;rw [decide_eq_false c7];simp;done) | (refine ⟨?_,rfl⟩;rw [decide_eq_true c4,decide_eq_true c5,decide_eq_true c6,decide_eq_true c7];rfl))
 rintro lx h9 ⟨hlx,ml⟩;subst h9
 refine WC.sr ?_
 rcases hwc with hwc | hwc | hwc | hwc
 all_goals (refine WL.step (ad rfl Tryz.underlying42 rfl Tryz.sizeOf5) rfl rfl rfl ?_;refine Ld ?_;refine Go ?_;refine bG 44 ?_ TT.mk;refine Gg ?_;first | refine WL.pass rfl rfl rfl ?_ | refine Ld ?_)
 all_goals (refine Gg ?_;refine Go ?_;refine bG 49 ?_ TT.mk;refine Gg ?_;first | refine WL.pass rfl rfl rfl ?_ | refine Ld ?_)
 all_goals (refine Gg ?_;refine Go ?_;refine Gs [(1,_),(3,_),(4,_),(5,_)] ?_;refine G3 ?_;refine Ld ?_;refine Go ?_;refine bG 57 (Hb.mk fun hb=>?_) (Hb.mk fun hb=>?_))
 all_goals (refine Gg ?_;first | refine WL.pass rfl rfl rfl ?_ | refine Ld ?_)
 all_goals (refine Gg ?_;refine Go ?_;refine Gs [(1,_),(3,_),(4,_),(5,_),(61,_)] ?_;first | refine aJ 3 4 ?_ TT.mk | (refine aJ 3 4 (Hb.mk fun hb=>?_) (Hb.mk fun hb=>?_)))
 all_goals try (
 refine ax 3 ?_
 all_goals (refine WC.region (Go ?_);refine Ld ?_;refine Go ?_;refine bG 65 ?_ TT.mk;refine Gg ?_;first | refine WL.pass rfl rfl rfl ?_ | refine Ld ?_)
 all_goals (refine Gg ?_;refine Go ?_)
 skip)
 all_goals try (
 refine ax 4 ?_
 all_goals (refine WC.skip ?_)
 skip)
 all_goals (refine Gn ?_;refine WC.seq ?_;refine WC.seq ?_;refine WC.bW (fun h'=>h'[b1]?=some (.cells ⟨[.int .u8 fk,.int .u8 w,St n,St p,St t,.slice A1 o.length z1,.slice A2 fs.length z2,.slice A3 rs.length z3,.slice A4 ps.length z4,In mx]⟩ 42 (0,0))) 27 27 rfl dk ?_)
 all_goals (
  cases tx
  all_goals (cases lx))
 all_goals (refine WH.tk 0 rfl (fun hq hC=>ak rfl) rfl rfl rfl ?_ (hC:=(by first | exact bQ | exact bE | exact aQ));refine WH.tk 1 rfl (fun hq hC=>cL rfl) rfl rfl rfl ?_ (hC:=(by first | exact bQ | exact bE | exact aQ));refine WH.tk 2 rfl (fun hq hC=>ak rfl) rfl rfl rfl ?_ (hC:=(by first | exact bQ | exact bE | exact aQ));try ((fail_if_success (refine WH.part 72 (b:=true) rfl (fun _=>?_) (fun _=>?_)));(fail_if_success (refine WH.part 72 (b:=false) rfl (fun _=>?_) (fun _=>?_)));(refine WH.part 72 rfl (fun hb=>?_) (fun hb=>?_))))
 all_goals (first | (refine WH.ps 3 rfl rfl rfl rfl ?_ (hC:=(by first | exact bQ | exact bE | exact aQ))) | (refine WH.tk 3 rfl (fun hq hC=>ak rfl) rfl rfl rfl ?_ (hC:=(by first | exact bQ | exact bE | exact aQ))))
 all_goals (first | (refine WH.ps 4 rfl rfl rfl rfl ?_ (hC:=(by first | exact bQ | exact bE | exact aQ))) | (refine WH.tk 4 rfl (fun hq hC=>cL rfl) rfl rfl rfl ?_ (hC:=(by first | exact bQ | exact bE | exact aQ))))
 all_goals (first | (refine WH.tk 5 rfl (fun hq hC=>cM rfl rfl) rfl rfl rfl ?_ (hC:=(by first | exact bQ | exact bE | exact aQ))) | (refine WH.tk 5 rfl (fun hq hC=>cd rfl rfl) rfl rfl rfl ?_ (hC:=(by first | exact bQ | exact bE | exact aQ))))
 all_goals (refine WH.tk 6 rfl (fun hq hC=>ak rfl) rfl rfl rfl ?_ (hC:=(by first | exact bQ | exact bE | exact aQ));try ((fail_if_success (refine WH.part 76 (b:=true) rfl (fun _=>?_) (fun _=>?_)));(fail_if_success (refine WH.part 76 (b:=false) rfl (fun _=>?_) (fun _=>?_)));(refine WH.part 76 rfl (fun hb=>?_) (fun hb=>?_))))
 all_goals (first | (refine WH.ps 7 rfl rfl rfl rfl ?_ (hC:=(by first | exact bQ | exact bE | exact aQ))) | (refine WH.tk 7 rfl (fun hq hC=>ak rfl) rfl rfl rfl ?_ (hC:=(by first | exact bQ | exact bE | exact aQ))))
 all_goals (first | (refine WH.ps 8 rfl rfl rfl rfl ?_ (hC:=(by first | exact bQ | exact bE | exact aQ))) | (refine WH.tk 8 rfl (fun hq hC=>cL rfl) rfl rfl rfl ?_ (hC:=(by first | exact bQ | exact bE | exact aQ))))
 all_goals (first | (refine WH.tk 9 rfl (fun hq hC=>cM rfl rfl) rfl rfl rfl ?_ (hC:=(by first | exact bQ | exact bE | exact aQ))) | (refine WH.tk 9 rfl (fun hq hC=>cd rfl rfl) rfl rfl rfl ?_ (hC:=(by first | exact bQ | exact bE | exact aQ))))
 all_goals (refine WH.tk 10 rfl (fun hq hC=>ak rfl) rfl rfl rfl ?_ (hC:=(by first | exact bQ | exact bE | exact aQ));try ((fail_if_success (refine WH.part 80 (b:=true) rfl (fun _=>?_) (fun _=>?_)));(fail_if_success (refine WH.part 80 (b:=false) rfl (fun _=>?_) (fun _=>?_)));(refine WH.part 80 rfl (fun hb=>?_) (fun hb=>?_))))
 all_goals (first | (refine WH.ps 11 rfl rfl rfl rfl ?_ (hC:=(by first | exact bQ | exact bE | exact aQ))) | (refine WH.tk 11 rfl (fun hq hC=>ad rfl Tryz.underlying42 rfl Tryz.sizeOf3) rfl rfl rfl ?_ (hC:=(by first | exact bQ | exact bE | exact aQ))))
 all_goals (first | (refine WH.ps 12 rfl rfl rfl rfl ?_ (hC:=(by first | exact bQ | exact bE | exact aQ))) | (refine WH.tk 12 rfl (fun hq hC=>aA Tryz.isAgg3 rfl (aa hC rfl)) rfl rfl rfl ?_ (hC:=(by first | exact bQ | exact bE | exact aQ))))
 all_goals (first | (refine WH.ps 13 rfl rfl rfl rfl ?_ (hC:=(by first | exact bQ | exact bE | exact aQ))) | (refine WH.tk 13 rfl (fun hq hC=>mV rfl rfl) rfl rfl rfl ?_ (hC:=(by first | exact bQ | exact bE | exact aQ))))
 all_goals (first | (refine WH.tk 14 rfl (fun hq hC=>cM rfl rfl) rfl rfl rfl ?_ (hC:=(by first | exact bQ | exact bE | exact aQ))) | (refine WH.tk 14 rfl (fun hq hC=>cd rfl rfl) rfl rfl rfl ?_ (hC:=(by first | exact bQ | exact bE | exact aQ))))
 all_goals (refine WH.tk 15 rfl (fun hq hC=>ak rfl) rfl rfl rfl ?_ (hC:=(by first | exact bQ | exact bE | exact aQ));try ((fail_if_success (refine WH.part 85 (b:=true) rfl (fun _=>?_) (fun _=>?_)));(fail_if_success (refine WH.part 85 (b:=false) rfl (fun _=>?_) (fun _=>?_)));(refine WH.part 85 rfl (fun hb=>?_) (fun hb=>?_))))
 all_goals (first | (refine WH.ps 16 rfl rfl rfl rfl ?_ (hC:=(by first | exact bQ | exact bE | exact aQ))) | (refine WH.tk 16 rfl (fun hq hC=>ad rfl Tryz.underlying42 rfl Tryz.sizeOf3) rfl rfl rfl ?_ (hC:=(by first | exact bQ | exact bE | exact aQ))))
 all_goals (first | (refine WH.ps 17 rfl rfl rfl rfl ?_ (hC:=(by first | exact bQ | exact bE | exact aQ))) | (refine WH.tk 17 rfl (fun hq hC=>aA Tryz.isAgg3 rfl (aa hC rfl)) rfl rfl rfl ?_ (hC:=(by first | exact bQ | exact bE | exact aQ))))
 all_goals (first | (refine WH.ps 18 rfl rfl rfl rfl ?_ (hC:=(by first | exact bQ | exact bE | exact aQ))) | (refine WH.tk 18 rfl (fun hq hC=>iQ rfl rfl) rfl rfl rfl ?_ (hC:=(by first | exact bQ | exact bE | exact aQ))))
 all_goals (first | (refine WH.tk 19 rfl (fun hq hC=>cM rfl rfl) rfl rfl rfl ?_ (hC:=(by first | exact bQ | exact bE | exact aQ))) | (refine WH.tk 19 rfl (fun hq hC=>cd rfl rfl) rfl rfl rfl ?_ (hC:=(by first | exact bQ | exact bE | exact aQ))))
 all_goals (refine WH.tk 20 rfl (fun hq hC=>ak rfl) rfl rfl rfl ?_ (hC:=(by first | exact bQ | exact bE | exact aQ));try ((fail_if_success (refine WH.part 90 (b:=true) rfl (fun _=>?_) (fun _=>?_)));(fail_if_success (refine WH.part 90 (b:=false) rfl (fun _=>?_) (fun _=>?_)));(refine WH.part 90 rfl (fun hb=>?_) (fun hb=>?_))))
 all_goals (first | (refine WH.ps 21 rfl rfl rfl rfl ?_ (hC:=(by first | exact bQ | exact bE | exact aQ))) | (refine WH.tk 21 rfl (fun hq hC=>an Tryz.isAgg42 Tryz.sizeOf42 rfl rfl (by exact At.au hC)) rfl rfl rfl ?_ (hC:=(by first | exact bQ | exact bE | exact aQ))))
 all_goals (first | (refine WH.ps 22 rfl rfl rfl rfl ?_ (hC:=(by first | exact bQ | exact bE | exact aQ))) | (refine WH.tk 22 rfl (fun hq hC=>an Tryz.isAgg42 Tryz.sizeOf42 rfl rfl (by exact At.au hC)) rfl rfl rfl ?_ (hC:=(by first | exact bQ | exact bE | exact aQ))))
 all_goals (first
   | (refine WH.ps 23 rfl rfl rfl rfl ?_ (hC:=(by first | exact bQ | exact bE | exact aQ)))
   | (all_goals (refine WH.one 23 (by kernel_rfl) ?_)
      all_goals (refine aE.call (vs:=[_]) rfl rfl Tryz.call111 rfl (hof ay) rfl rfl rfl ?_ (fun _=>by kernel_rfl);rintro _ g8 ⟨rfl,bD⟩;have bE:=bD.obj aQ aO;have kJ:=ay.trans bD;refine ⟨fun _=>bE,?_⟩)
      skip))
 all_goals (first
   | (refine WH.ps 24 rfl rfl rfl rfl ?_ (hC:=(by first | exact bQ | exact bE | exact aQ)))
   | (all_goals (refine WH.one 24 (by kernel_rfl) ?_)
      all_goals (refine aE.call (vs:=[_,_]) rfl rfl Tryz.call110 rfl (hsa kJ) rfl rfl rfl ?_ (fun _=>by kernel_rfl);rintro _ g9 ⟨⟨sx,rfl,hsx⟩,cg⟩;have bQ:=cg.obj bE aO;cases sx)
      all_goals (refine ⟨fun _=>bQ,?_⟩)
      skip))
 all_goals (first | (refine WH.ps 25 rfl rfl rfl rfl ?_ (hC:=(by first | exact bQ | exact bE | exact aQ))) | (refine WH.tk 25 rfl (fun hq hC=>cL rfl) rfl rfl rfl ?_ (hC:=(by first | exact bQ | exact bE | exact aQ))))
 all_goals (first | (refine WH.tk 26 rfl (fun hq hC=>cM rfl rfl) rfl rfl rfl ?_ (hC:=(by first | exact bQ | exact bE | exact aQ))) | (refine WH.tk 26 rfl (fun hq hC=>cd rfl rfl) rfl rfl rfl ?_ (hC:=(by first | exact bQ | exact bE | exact aQ))))
 all_goals (refine WH.done (by kernel_rfl) ?_;refine Gn ?_;refine Gs [(96,_)] ?_;refine aJ 5 6 ?_ TT.mk)
 all_goals try (
 refine ax 5 ?_
 all_goals (refine G2 ?_;refine Gt ?_)
 all_goals (
  try (have Ck:=of_decide_eq_true ‹decide (mx < -2147483648)=true›)
  try (have oY:=of_decide_eq_true ‹decide (2147483647 < mx)=true›)
  try (have L5:=of_decide_eq_false ‹decide (mx < -2147483648)=false›)
  try (have JH:=of_decide_eq_false ‹decide (2147483647 < mx)=false›)
  first
   | (refine ⟨⟨0,rfl,⟨fun _=>?_,fun _=>rfl⟩⟩,kJ.trans cg⟩
      exact hyes (hkx.1 (by omega)) htx.symm hlx.symm (by omega) (by omega) (hsx.1 rfl))
   | (refine ⟨⟨_,rfl,⟨fun z=>absurd z (by decide),fun z=>absurd z ?_⟩⟩,ay⟩
      first | exact hnT htx.symm | exact hnL hlx.symm | exact hnk (fun z=>by have:=hkx.2 z;omega) | exact x5 (by omega) | exact zx (by omega))
   | (refine ⟨⟨_,rfl,⟨fun z=>absurd z (by decide),fun z=>absurd z ?_⟩⟩,kJ.trans cg⟩
      exact lF (fun z=>Bool.false_ne_true (hsx.2 z))))
 skip)
 all_goals (refine ax 6 ?_;refine WC.skip ?_;refine Gn ?_;refine G2 ?_;refine Gt ?_)
 all_goals (
  try (have Ck:=of_decide_eq_true ‹decide (mx < -2147483648)=true›)
  try (have oY:=of_decide_eq_true ‹decide (2147483647 < mx)=true›)
  try (have L5:=of_decide_eq_false ‹decide (mx < -2147483648)=false›)
  try (have JH:=of_decide_eq_false ‹decide (2147483647 < mx)=false›)
  first
   | (refine ⟨⟨0,rfl,⟨fun _=>?_,fun _=>rfl⟩⟩,kJ.trans cg⟩
      exact hyes (hkx.1 (by omega)) htx.symm hlx.symm (by omega) (by omega) (hsx.1 rfl))
   | (refine ⟨⟨_,rfl,⟨fun z=>absurd z (by decide),fun z=>absurd z ?_⟩⟩,ay⟩
      first | exact hnT htx.symm | exact hnL hlx.symm | exact hnk (fun z=>by have:=hkx.2 z;omega) | exact x5 (by omega) | exact zx (by omega))
   | (refine ⟨⟨_,rfl,⟨fun z=>absurd z (by decide),fun z=>absurd z ?_⟩⟩,kJ.trans cg⟩
      exact lF (fun z=>Bool.false_ne_true (hsx.2 z))))
theorem sE {n:Int} {s:Nat} (h0:0≤n) (h1:n < 256 ^ s):∀ k,k≤s→iK (lk n s k)=n / 256 ^ (s - k)
 | 0,_=>by
   rw [Nat.sub_zero,Int.ediv_eq_zero_of_lt h0 h1]
   rfl
 | k+1,hk=>by
   have e:s - k=(s - 1 - k)+1:=by omega
   have ih:=sE h0 h1 k (by omega)
   rw [lk,lA,ih,yD,show s - (k+1)=s - 1 - k by omega,e,Int.pow_succ,← Int.ediv_ediv_of_nonneg (by have:(0:Int) < 256 ^ (s - 1 - k):=Int.pow_pos (by decide);omega)]
   omega
theorem qF {n:Int} {s:Nat} (h0:0≤n) (h1:n < 256 ^ s):iK (be n s)=n:=by
 unfold be
 rw [sE h0 h1 s (Nat.le_refl _),Nat.sub_self,Int.pow_zero,Int.ediv_one]
theorem wc {h:ah} {s:Nat} (hs:Sz s):ag Tryz.prog 180 ⟨[In s]⟩ h fun u h'=>u=.bool true∧h'=h:=by
 rcases hs with rfl | rfl | rfl
 all_goals
   refine calls [(0,_)] Tryz.func180 rfl Tryz.ntmps180 rfl ⟨rfl,trivial⟩ ?_
   all_goals (refine G2 ?_;refine G3 ?_;refine WC.block ?_;refine G3 ?_;refine aJ 1 2 ?_ TT.mk)
   all_goals try (
   refine ax 1 ?_
   all_goals (refine WC.skip ?_)
   skip)
   all_goals try (
   refine ax 2 ?_
   all_goals (refine G2 ?_;refine Gs [(3,_),(4,_)] ?_;refine aJ 3 4 ?_ TT.mk)
   all_goals try (
   refine ax 3 ?_
   all_goals (refine WC.skip ?_)
   skip)
   all_goals try (
   refine ax 4 ?_
   all_goals (refine WC.region (Go ?_))
   skip)
   skip)
   all_goals (refine Gn ?_;refine aJ 5 6 ?_ TT.mk;refine ax 5 ?_;refine G2 ?_;refine Gt ?_;exact ⟨rfl,rfl⟩)
theorem IP {h:ah} {A:Option Addr} {c:Nat} {s:Nat} (hz:Sz s) (l:List UInt8) (hr:Rd h (.slice A l.length c) 1 l.length (bu l)) (k:Nat) (hl:k+s≤l.length) (hm:l.length≤1000000) :
   ag Tryz.prog 176 ⟨[.slice A l.length c,In (k:Int),In s]⟩ h fun u h'=>u=.tuple ⟨[In (iK ((l.drop k).take s)),In 0]⟩∧h'=h:=by
 have kz:=fun h'=>wc (h:=h') hz
 have yH:1≤s∧s≤4:=by unfold Sz at hz;omega
 have hcap:l.length≤c:=by
   obtain ⟨A1,c1,hv,hcap,_⟩:=id hr
   simp only [Value.slice.injEq] at hv
   obtain ⟨_,_,rfl⟩:=hv
   exact hcap
 have hs:=(hr.drop (l:=k) (by omega)).take (k:=s) (by omega)
 have hml:((l.drop k).take s).length=s:=by simp;omega
 have hmb:((bu l).drop (k * 1)).take (s * 1)=bu ((l.drop k).take s):=by simp [bu]
 rw [hmb] at hs
 generalize (l.drop k).take s=m at *
 refine calls [(0,_),(1,_),(2,_)] Tryz.func176 rfl Tryz.ntmps176 rfl ⟨rfl,rfl,rfl,trivial⟩ ?_
 refine G2 ?_;refine WC.seq ?_;refine WC.block ?_;refine G3 ?_;refine WL.call (vs:=[_]) rfl Tryz.call180 rfl (kz _) rfl rfl rfl ?_
 rintro _ hz ⟨rfl,_⟩
 subst hz
 refine Go ?_;refine Gs [(0,_),(1,_),(2,_),(11,_)] ?_
 refine aJ 1 2 ?_ TT.mk
 all_goals (refine ax 2 ?_)
 refine WC.region (Go ?_);refine Gn ?_
 refine aJ 3 4 ?_ TT.mk
 all_goals (refine ax 4 ?_)
 refine G3 ?_;refine Gs [(0,_),(1,_),(2,_),(17,_)] ?_
 refine aJ 5 6 ?_ TT.mk
 all_goals (refine ax 6 ?_)
 refine WC.region (Go ?_);refine Gn ?_
 refine aJ 7 8 ?_ TT.mk
 all_goals (refine ax 8 ?_)
 refine WC.skip ?_;refine Gn ?_;refine G2 ?_;refine G3 ?_;refine WL.step (dv (l:=k) (k:=k+s) Tryz.underlying23 Tryz.sizeOf5 rfl rfl rfl (by omega)) rfl rfl rfl ?_
 rw [show k+s - k=s by omega]
 generalize (if c=k then A else A.map (·.add (k * 1)))=S at *
 refine Go ?_;refine Gs [(8,_),(33,_),(34,_),(35,_)] ?_;refine WC.block ?_;refine WC.bC (X:=Nat × Int) (fun x=>([(35,In (x.1:Int)),(8,In x.2)]:Fr)) [(33,_),(34,_)] (fun x h'=>h'=h∧x.1≤s∧x.2=iK (m.take x.1)∧0≤x.2∧x.2+1≤256 ^ x.1) (fun x=>s - x.1) ((0,0)) ⟨rfl,rfl,rfl,rfl,trivial⟩ (by exact ⟨rfl,by simp,rfl,by simp,by simp⟩) ?_
 rintro ⟨j,n⟩ h1 ⟨jo,hj,hn,Fk,CI⟩
 dsimp only at hj hn Fk CI
 subst jo
 refine WC.sub [(8,_),(35,_),(33,_),(34,_)] ⟨rfl,rfl,rfl,rfl,trivial⟩ ?_
 dsimp only
 refine G2 ?_;refine WC.seq ?_
 refine aJ 9 10 (Hb.mk fun hb=>?_) (Hb.mk fun hb=>?_)
 all_goals try (
 refine ax 9 ?_
 refine WC.skip ?_
 skip)
 all_goals try (
 refine ax 10 ?_
 refine WC.exit ?_
 repeat' (with_reducible first | refine aU ?_ | refine aG rfl ?_ | refine aI ?_ | refine aL ?_ | refine aS ?_)
 refine Br.out (i:=1001) ?_
 skip)
 all_goals (refine Gn ?_;first | refine Br.ab ?_ | refine WC.seq ?_)
 all_goals (first | refine Br.ab ?_ | refine WC.block ?_)
 all_goals (first | refine Br.ab ?_ | refine WC.sr ?_)
 all_goals (
  first
    | (refine Br.ab ?_)
    | (obtain ⟨bL,oL,hA,hbL,hat⟩:=Rd.at_ hs (by omega)
       obtain ⟨y,hy⟩:∃ y,m[j]?=some y:=⟨_,List.getElem?_eq_getElem (by omega)⟩
       have ga:=hat.get (p:=oL+j * 1) j (show (bu m)[j]?=some (By y) by simp [bu,hy]) (by omega)
       have hpl:=pJ (show j≤3 by omega)
       have hyl:=y.toNat_lt))
 all_goals (first | refine Br.ab ?_ | (refine WL.step (aF Tryz.underlying23 Tryz.sizeOf5 rfl rfl rfl (by omega) (by first | rfl | assumption)) rfl rfl rfl ?_))
 all_goals (first | refine Br.ab ?_ | (refine WL.ld rfl (by first | exact ga | assumption) rfl rfl rfl ?_))
 all_goals (refine Go ?_;first | refine Br.ab ?_ | refine WC.region ?_)
 all_goals (refine Go ?_;first | refine Br.ab ?_ | (refine WL.step (vx rfl rfl (by decide) (by rw [show (2:Int) ^ ((8:Int)).toNat=256 from rfl];constructor <;> omega)) rfl rfl rfl ?_))
 all_goals (first | refine Br.ab ?_ | rw [show (2:Int) ^ ((8:Int)).toNat=256 from rfl])
 all_goals (refine Go ?_;first | refine Br.ab ?_ | (refine WL.step (kG Tryz.underlying5 Tryz.underlying3 rfl (by omega)) rfl rfl rfl ?_))
 all_goals (first | refine Br.ab ?_ | refine WL.step (Et rfl rfl) rfl rfl rfl ?_)
 all_goals (first | refine Br.ab ?_ | (rw [vy ⟨by omega,by omega⟩ ⟨by omega,by omega⟩]))
 all_goals (refine Go ?_;first | refine Br.ab ?_ | refine Gs [(8,_),(33,_),(34,_),(35,_)] ?_)
 all_goals (first | refine Br.ab ?_ | refine WC.region ?_)
 all_goals (refine Go ?_;first | refine Br.ab ?_ | (exact ⟨(j+1,_),⟨rfl,rfl,rfl,rfl,trivial⟩,(by exact ⟨rfl,by omega,by rw [List.take_add_one,hy,Option.toList_some,lA,← hn],by omega,by rw [Int.pow_succ];omega⟩),(by simp;omega)⟩))
 try (refine Br.mk (i:=1001) ?_)
 refine Gn ?_;refine Gs [(8,_)] ?_;refine G2 ?_;refine Gt ?_
 first | exact ⟨by rw [hn,List.take_of_length_le (by omega)],rfl⟩ | (exfalso;omega)
def SO (v v':Value):Prop:=∀ q,v'.ownBlock=some q→v.ownBlock=some q
theorem SO.refl (v:Value):SO v v:=fun _ h=>h
theorem SO.trans {a b c:Value} (x:SO a b) (y:SO b c):SO a c:=fun q h=>x q (y q h)
section
variable {h h':ah} {b:Nat} {v:Value} {l:List UInt8}
theorem qG (k:Sc h b v l) (n:Nat) (hn:n≤l.length) (hm:l.length≤1000000):ag Tryz.prog 175 ⟨[.pointer (some ⟨b,0,none⟩),In (n:Int)]⟩ h fun u h'=>∃ A c v',u=.tuple ⟨[.slice A n c,.bool true]⟩∧Rd h' (.slice A n c) 1 n (bu (l.take n))∧Sc h' b v' (l.drop n)∧Ext (fun q=>q=b) h h'∧SO v v':=by
 have kg:=fun (h':ah) (k:Sc h' b v l)=>js k
 have hb:=k.bq
 have hr:=k.rd
 have hne:=k.ne
 obtain ⟨A,c,rfl,hcap,_⟩:=id hr
 refine calls [(0,_),(1,_)] Tryz.func175 rfl Tryz.ntmps175 rfl ⟨rfl,rfl,trivial⟩ ?_
 refine G2 ?_;refine G3 ?_;refine WL.call (vs:=[_]) rfl Tryz.call132 rfl (kg _ k) rfl rfl rfl ?_
 rintro _ hq ⟨rfl,hz⟩
 replace hz:=hz.symm
 subst hz
 refine Go ?_
 refine bG 10 ?_ TT.mk
 refine Gg ?_;refine Go ?_
 refine bG 14 ?_ TT.mk
 refine Gg ?_;refine WL.step (ae rfl) rfl rfl rfl ?_;refine Gg ?_;refine WL.ld rfl (by first | exact aa hb rfl | assumption) rfl rfl rfl ?_
 refine Gg ?_;refine Go ?_;refine Gs [(0,_),(1,_),(22,_)] ?_
 refine aJ 1 2 ?_ TT.mk
 all_goals (refine ax 2 ?_)
 refine WC.skip ?_;refine Gn ?_;refine G2 ?_;refine WL.step (ae rfl) rfl rfl rfl (Go ?_);refine WL.ld rfl (by first | exact aa hb rfl | assumption) rfl rfl rfl (Go ?_)
 refine WL.step (fA Tryz.underlying23 Tryz.sizeOf5 rfl rfl rfl (by omega)) rfl rfl rfl (Go ?_)
 refine Gs [(0,_),(1,_),(6,_)] ?_;refine G2 ?_;refine WL.step (ae rfl) rfl rfl rfl (Go ?_);refine WL.ld rfl (by first | exact aa hb rfl | assumption) rfl rfl rfl (Go ?_)
 refine WL.step (eQ Tryz.underlying23 Tryz.sizeOf5 rfl rfl (by omega)) rfl rfl rfl ?_
 refine WL.step (ae rfl) rfl rfl rfl (Go ?_);refine WL.az (aC Tryz.sizeOf23 rfl rfl hb (Nat.le_of_ble_eq_true rfl) rfl rfl) rfl rfl ?_
 rintro _ h2 ⟨bH,aH⟩
 refine Gn ?_;refine Gs [(6,_)] ?_;refine G2 ?_;refine Gt ?_
 have r1:=Rd.y7 (hr.take hn)
 have r2:=hr.drop hn
 rw [show (bu l).take (n * 1)=bu (l.take n) by simp [bu]] at r1
 rw [show (bu l).drop (n * 1)=bu (l.drop n) by simp [bu]] at r2
 have n2:∀ q,(Value.slice (if c=n then A else A.map (fun x=>x.add (n * 1))) (l.length - n) (c - n)).ownBlock=some q→q ≠ b:=fun q hq=>hne q (pV hq)
 exact ⟨A,n,_,rfl,r1.ext aH (fun q hq=>hne q (y8 hq)),⟨bH,by rw [List.length_drop];exact r2.ext aH n2,n2⟩,aH,fun q hq=>pV hq⟩
theorem Be (s r:List UInt8) (hs:Lib.indexByte (s++0 :: r) 0=s.length) (k:Sc h b v (s++0 :: r)) (hm:(s++0 :: r).length≤1000000):ag Tryz.prog 128 ⟨[.pointer (some ⟨b,0,none⟩)]⟩ h fun u h'=>∃ v',u=St s∧Sc h' b v' r∧Ext (fun q=>q=b) h h'∧SO v v':=by
 have kg:=fun (h':ah) (k:Sc h' b v (s++0 :: r))=>js k
 have kc:=fun (h':ah) (k:Sc h' b v (s++0 :: r))=>qG k (s.length+1) (by simp) hm
 have hb:=k.bq
 have ki:=dh _ 0 k.rd (by simp;omega)
 rw [hs] at ki
 have e1:(s++0 :: r).drop (s.length+1)=r:=by rw [List.drop_append];simp
 have e2:(s++0 :: r).take (s.length+1)=s++[0]:=by rw [List.take_append,List.take_of_length_le (by omega)];simp
 rw [e1,e2] at kc
 have hms:s.length+1≤1000000:=by simp at hm;omega
 refine calls [(0,_)] Tryz.func128 rfl Tryz.ntmps128 rfl ⟨rfl,trivial⟩ ?_
 refine G2 ?_;refine G3 ?_;refine WL.call (vs:=[_]) rfl Tryz.call132 rfl (kg _ k) rfl rfl rfl ?_
 rintro _ hq ⟨rfl,hz⟩
 replace hz:=hz.symm
 subst hz
 refine Go ?_
 refine aJ 1 2 ?_ TT.mk
 all_goals (refine ax 2 ?_)
 refine WC.skip ?_;refine Gn ?_;refine Gs [(0,_)] ?_;refine G2 ?_;refine WL.step (ae rfl) rfl rfl rfl (Go ?_);refine WL.ld rfl (by first | exact aa hb rfl | assumption) rfl rfl rfl ?_
 refine WL.call (vs:=[_,_]) rfl Tryz.call126 rfl (ki) rfl rfl rfl ?_
 rintro _ hq ⟨rfl,hz⟩
 replace hz:=hz.symm
 subst hz
 refine Go ?_;refine Gs [(0,_),(3,_)] ?_;refine G3 ?_
 refine aJ 3 4 ?_ TT.mk
 all_goals (refine ax 4 ?_)
 refine WC.skip ?_;refine Gn ?_;refine G2 ?_
 rw [show ((s.length:Int)+1)=((s.length+1:Nat):Int) from rfl]
 refine WL.call (vs:=[_,_]) rfl Tryz.call175 rfl (kc _ k) rfl rfl rfl ?_
 rintro _ h2 ⟨A2,c2,v2,rfl,r2,k2,aH,DF⟩
 have r3:=r2.take (k:=s.length) (by omega)
 rw [show (bu (s++[0])).take (s.length * 1)=bu s by simp [bu]] at r3
 have hcap:s.length+1≤c2:=by obtain ⟨A1,c1,hv,hcap,_⟩:=id r2;simp only [Value.slice.injEq] at hv;obtain ⟨_,_,rfl⟩:=hv;exact hcap
 refine Go ?_;refine Gs [(3,_),(4,_)] ?_;refine G2 ?_;refine WL.step (ma Tryz.underlying23 Tryz.sizeOf5 rfl rfl (by omega)) rfl rfl rfl ?_
 refine WL.step (dS Tryz.underlying23 Tryz.underlying5 Tryz.underlying9 rfl r3) rfl rfl rfl (Go ?_);refine Gs [(2,_)] ?_;refine Gt ?_
 exact ⟨_,rfl,k2,aH,DF⟩
theorem jx {n:Int} {s:Nat} (hz:Sz s) (h0:0≤n) (h1:n < 256 ^ s) (r:List UInt8) (k:Sc h b v (be n s++r)) (hm:(be n s++r).length≤1000000):ag Tryz.prog 122 ⟨[.pointer (some ⟨b,0,none⟩),In s]⟩ h fun u h'=>∃ v',u=In n∧Sc h' b v' r∧Ext (fun q=>q=b) h h'∧SO v v':=by
 have hln:s≤(be n s++r).length:=by rw [List.length_append,bm];omega
 have et:(be n s++r).take s=be n s:=by exact List.take_left' (bm n s)
 have ed:(be n s++r).drop s=r:=by exact List.drop_left' (bm n s)
 have kc:=fun (h':ah) (k:Sc h' b v (be n s++r))=>qG k s hln hm
 have kr:=fun (h':ah)=>pI (h:=h') 0 s hz (by unfold Rt;rcases hz with rfl | rfl | rfl <;> decide)
 have kn:=fun (h':ah) (A:Option Addr) (c:Nat) (r':Rd h' (.slice A s c) 1 s (bu (be n s)))=>IP hz (be n s) (A:=A) (c:=c) (by rw [bm];exact r') 0 (by rw [bm];omega) (by rw [bm];unfold Sz at hz;omega)
 rw [et,ed] at kc
 simp only [bm,List.drop_zero,List.take_of_length_le (Nat.le_of_eq (bm n s)),qF h0 h1] at kn
 refine calls [(0,_),(1,_)] Tryz.func122 rfl Tryz.ntmps122 rfl ⟨rfl,rfl,trivial⟩ ?_
 refine G2 ?_;refine G3 ?_;refine WL.call (vs:=[_,_]) rfl Tryz.call173 rfl (kr _) rfl rfl rfl ?_
 rintro _ hq ⟨rfl,hz⟩
 replace hz:=hz.symm
 subst hz
 refine Go ?_
 refine aJ 1 2 ?_ TT.mk
 all_goals (refine ax 2 ?_)
 refine WC.skip ?_;refine Gn ?_;refine Gs [(0,_),(1,_)] ?_;refine G2 ?_;refine WL.call (vs:=[_,_]) rfl Tryz.call175 rfl (kc _ k) rfl rfl rfl ?_
 rintro _ h2 ⟨A2,c2,v2,rfl,r2,k2,aH,DF⟩
 refine Go ?_;refine Gs [(0,_),(1,_),(5,_),(6,_)] ?_;refine G3 ?_
 refine aJ 3 4 ?_ TT.mk
 all_goals (refine ax 4 ?_)
 refine WC.skip ?_;refine Gn ?_;refine G2 ?_;refine WL.call (vs:=[_,_,_]) rfl Tryz.call176 rfl (kn _ _ _ r2) rfl rfl rfl ?_
 rintro _ hq ⟨rfl,hz⟩
 replace hz:=hz.symm
 subst hz
 refine Go ?_;refine Gs [(0,_),(7,_),(8,_)] ?_;refine G3 ?_
 refine aJ 5 6 ?_ TT.mk
 all_goals (refine ax 6 ?_)
 refine WC.skip ?_;refine Gn ?_;refine Gs [(7,_)] ?_;refine G2 ?_;refine Gt ?_
 exact ⟨_,rfl,k2,aH,DF⟩
theorem Bg {s r:List UInt8} (hc:aZ s=true):Lib.indexByte (s++0 :: r) 0=s.length:=by
 induction s with
 | nil=>rfl
 | cons a s ih =>
   have h1:a ≠ 0∧aZ s=true:=by
     simp only [aZ,List.contains_cons,Bool.not_or,Bool.and_eq_true,Bool.not_eq_true'] at hc
     exact ⟨fun e=>by subst e;simp at hc,by simp only [aZ,hc.2,Bool.not_false]⟩
   have e:=ih h1.2
   rw [List.cons_append,Lib.indexByte,if_neg (by simpa using h1.1),e,if_neg (by simp),List.length_cons]
   omega
theorem fV {s r:List UInt8} (hc:aZ s=true) (k:Sc h b v (s++[0]++r)) (hm:(s++[0]++r).length≤1000000):ag Tryz.prog 128 ⟨[.pointer (some ⟨b,0,none⟩)]⟩ h fun u h'=>∃ v',u=St s∧Sc h' b v' r∧Ext (fun q=>q=b) h h'∧SO v v':=by
 rw [List.append_assoc] at k hm
 exact Be s r (Bg hc) k hm
theorem Bi {s r:List UInt8} (k:Sc h b v (s++r)) (hm:(s++r).length≤1000000):ag Tryz.prog 179 ⟨[.pointer (some ⟨b,0,none⟩),In (s.length:Int)]⟩ h fun u h'=>∃ v',Own h' u 5 1 s.length (bu s)∧Sc h' b v' r∧Ext (fun q=>q=b) h h'∧SO v v'∧∀ q,u.ownBlock=some q→h.size≤q:=by
 have et:(s++r).take s.length=s:=List.take_left' rfl
 have ed:(s++r).drop s.length=r:=List.drop_left' rfl
 have kc:=fun (h':ah) (k:Sc h' b v (s++r))=>qG k s.length (by simp) hm
 rw [et,ed] at kc
 refine calls [(0,_),(1,_)] Tryz.func179 rfl Tryz.ntmps179 rfl ⟨rfl,rfl,trivial⟩ ?_
 refine G2 ?_;refine G2 ?_;refine WL.call (vs:=[_,_]) rfl Tryz.call175 rfl (kc _ k) rfl rfl rfl ?_
 rintro _ h2 ⟨A2,c2,v2,rfl,r2,k2,aH,DF⟩
 refine Go ?_;refine Gs [(5,_)] ?_;refine G2 ?_;refine WL.call (vs:=[_]) rfl Tryz.call127 rfl (jW s r2 (by simp at hm;omega)) rfl rfl rfl ?_
 rintro v3 h3 ⟨dE,aP,gG⟩
 refine Go ?_;refine Gt ?_
 exact ⟨_,dE,k2.ext aP aO (fun _ _=>aO),aH.trans (aP.mono fun _ _ e=>e.elim),DF,fun q hq=>by have:=gG q hq;have:=aH.size;omega⟩
end
section
variable {h h':ah} {b:Nat} {v:Value} {l:List UInt8}
theorem Bj (k:Sc h b v l):ag Tryz.prog 178 ⟨[.pointer (some ⟨b,0,none⟩)]⟩ h fun u h'=>u=.bool false∧h'=h:=by
 have kg:=js k
 refine calls [(0,_)] Tryz.func178 rfl Tryz.ntmps178 rfl ⟨rfl,trivial⟩ ?_
 refine G2 ?_;refine G2 ?_;refine WL.call (vs:=[_]) rfl Tryz.call132 rfl (kg) rfl rfl rfl ?_
 rintro _ hq ⟨rfl,hz⟩
 replace hz:=hz.symm
 subst hz
 refine Go ?_;refine Gs [(2,_)] ?_;refine Gt ?_
 exact ⟨rfl,rfl⟩
def dG (s:Nat) (L:List Int):List UInt8:=L.flatMap fun n=>be n s
theorem pk {s:Nat} {L:List Int} {k:Nat} {y:Int} (hy:L[k]?=some y):dG s (L.drop k)=be y s++dG s (L.drop (k+1)):=by
 obtain ⟨hlt,rfl⟩:=List.getElem?_eq_some_iff.1 hy
 have e:L.drop k=L[k] :: L.drop (k+1):=List.drop_eq_getElem_cons hlt
 unfold dG
 rw [e,List.flatMap_cons]
theorem cI (s:Nat) (L:List Int):(dG s L).length=L.length * s:=by
 induction L with
 | nil=>simp [dG]
 | cons a L ih=>rw [show dG s (a :: L)=be a s++dG s L by simp [dG],List.length_append,bm,ih,List.length_cons,Nat.succ_mul];omega
theorem qH {s:Nat} (hz:Sz s) (L:List Int) (hn:∀ n∈L,0≤n∧n < 256 ^ s) (hl:L.length≤65535) (r:List UInt8) (k:Sc h b v (be L.length 2++(dG s L++r))) (hv:∀ q,v.ownBlock=some q→q < h.size) (hm:(be L.length 2++(dG s L++r)).length≤1000000) :
   ag Tryz.prog 129 ⟨[.agg ⟨[.pointer (some ⟨b,0,none⟩)]⟩,In s]⟩ h fun u h'=>∃ v',Own h' u 3 1 L.length (ints L)∧Sc h' b v' r∧Ext (fun q=>q=b) h h'∧SO v v'∧∀ q,u.ownBlock=some q→h.size≤q:=by
 have kn:=fun (g:ah) (v:Value) (n:Int) (r:List UInt8)=>jx (h:=g) (b:=b) (v:=v) (n:=n) (s:=s) hz (r:=r)
 have hlb:=aj k.bq
 have hml:(dG s L++r).length≤1000000:=by rw [List.length_append] at hm;omega
 refine calls [(0,_),(1,_)] Tryz.func129 rfl Tryz.ntmps129 rfl ⟨rfl,rfl,trivial⟩ ?_
 refine WC.sr ?_;refine WL.ai (aB rfl) rfl rfl rfl ?_
 rintro _ h1 ⟨b1,rfl,bO,aQ,ay⟩
 have n1:b1 ≠ b:=by omega
 refine Go ?_;refine G2 ?_;refine G3 ?_;refine WL.ld rfl (by first | exact aa aQ rfl | assumption) rfl rfl rfl ?_
 refine WL.call (vs:=[_,_]) rfl Tryz.call122 rfl (jx (s:=2) (.inr (.inl rfl)) (by omega) (by omega) _ (k.ext ay aO (fun _ _=>aO)) hm) rfl rfl rfl ?_
 rintro _ h2 ⟨v2,rfl,k2,aH,DF⟩
 have bX:=aH.obj aQ n1
 have X2:Ext (fun q=>q=b) h h2:=(ay.mono fun _ _ e=>e.elim).trans aH
 refine Go ?_;refine Gs [(1,_),(2,_),(5,_),(6,_)] ?_;refine WC.block ?_;refine WC.bC (X:=Nat × Value × Value) (fun x=>([(6,In ((L.length - x.1:Nat):Int)),(5,x.2.1)]:Fr)) [(1,_),(2,_)] (fun x h'=>x.1≤L.length∧Sc h' b x.2.2 (dG s (L.drop x.1)++r)∧Own h' x.2.1 3 1 x.1 (ints (L.take x.1))∧Ext (fun q=>q=b) h2 h'∧SO v x.2.2∧∀ q,x.2.1.ownBlock=some q→h2.size≤q) (fun x=>L.length - x.1) ((0,.slice none 0 0,v2)) ⟨rfl,rfl,rfl,rfl,trivial⟩ (by exact ⟨Nat.zero_le _,k2,Own.nil _ _ _,.refl _ _,DF,fun _ e=>by cases e⟩) ?_
 rintro ⟨j,u,w⟩ h3 ⟨hj,k3,dE,aP,DG,gG⟩
 dsimp only at hj k3 dE gG
 have cm:=aP.obj bX n1
 have s1:=ay.size
 have s2:=aH.size
 have s3:=aP.size
 refine WC.sub [(5,_),(6,_),(1,_),(2,_)] ⟨rfl,rfl,rfl,rfl,trivial⟩ ?_
 dsimp only
 refine G3 ?_
 refine bG 12 (Hb.mk fun hb=>?_) (Hb.mk fun hb=>?_)
 all_goals (refine Gg ?_;first | refine WL.pass rfl rfl rfl ?_ | (refine WL.ld rfl (by first | exact aa cm rfl | assumption) rfl rfl rfl ?_))
 all_goals (
  first
    | (refine WL.pass rfl rfl rfl ?_)
    | (refine WL.call (vs:=[_]) rfl Tryz.call178 rfl (Bj k3) rfl rfl rfl ?_
       rintro _ hq ⟨rfl,ml⟩
       replace ml:=ml.symm
       subst ml))
 all_goals (refine Gg ?_;refine Go ?_;refine Gs [(1,_),(2,_),(5,_),(6,_),(17,_)] ?_;refine aJ 1 2 ?_ TT.mk)
 all_goals try (
 refine ax 1 ?_
 refine WC.skip ?_
 skip)
 all_goals try (
 refine ax 2 ?_
 refine WC.exit ?_
 repeat' (with_reducible first | refine aU ?_ | refine aG rfl ?_ | refine aI ?_ | refine aL ?_ | refine aS ?_)
 refine Br.out (i:=1000) ?_
 skip)
 all_goals (refine Gn ?_;first | refine Br.ab ?_ | refine WC.seq ?_)
 all_goals (first | refine Br.ab ?_ | refine WC.block ?_)
 all_goals (first | refine Br.ab ?_ | refine WC.region ?_)
 all_goals (
  first
    | (refine Br.ab ?_)
    | (obtain ⟨y,hy⟩:∃ y,L[j]?=some y:=⟨_,List.getElem?_eq_getElem (by omega)⟩
       have hyn:=hn y (List.mem_of_getElem? hy)
       rw [pk hy,List.append_assoc] at k3
       have hmj:(be y s++(dG s (L.drop (j+1))++r)).length≤1000000:=by
        have e1:=congrArg List.length (pk (s:=s) hy)
        have e2:=cI s (L.drop j)
        have e3:=cI s L
        have e4:(L.drop j).length * s≤L.length * s:=Nat.mul_le_mul_right s (by simp)
        simp only [List.length_append] at e1 hml ⊢
        omega))
 all_goals (first | refine Br.ab ?_ | refine WL.step (ak rfl) rfl rfl rfl ?_)
 all_goals (refine Go ?_;first | refine Br.ab ?_ | (refine WL.ld rfl (by first | exact aa cm rfl | assumption) rfl rfl rfl ?_))
 all_goals (refine Go ?_)
 all_goals (
  first
    | (refine Br.ab ?_)
    | (refine WL.call (vs:=[_,_]) rfl Tryz.call122 rfl (kn _ _ _ _ hyn.1 hyn.2 k3 hmj) rfl rfl rfl ?_
       rintro _ h4 ⟨v4,rfl,k4,aW,Hz⟩))
 all_goals (
  first
    | (refine Br.ab ?_)
    | (refine WL.ai (aw (vs:=[_]) (cs:=[_]) (fun | [a0]=>[a0] | _=>[]) Tryz.underlying39 rfl rfl (by kernel_rfl)) rfl rfl rfl ?_
       rintro _ h5 ⟨b5,rfl,pQ,bT,aN⟩))
 all_goals (
  first
    | (refine Br.ab ?_)
    | (refine WL.ai (aT (sz:=1) (bytes:=8) rfl Tryz.underlying39 (show Tryz.prog.info? 3=some Tryz.t3 by kernel_rfl) rfl rfl rfl rfl (by decide) rfl rfl ((dE.ext aW (fun q hq e=>by have:=gG q hq;omega)).ext aN (fun _ _=>aO)) (bz (len:=1) (sz:=1) bT rfl) (by simp [Value.oneCell']) (by simp only [maxLen];omega) (by omega)) rfl rfl rfl ?_
       rintro v6 h6 ⟨fN,aM,Ge⟩))
 all_goals (first | refine Br.ab ?_ | have eI:=(aN.obj (aW.obj cm n1) aO))
 all_goals (refine Go ?_;first | refine Br.ab ?_ | refine Gs [(1,_),(2,_),(5,_),(6,_)] ?_)
 all_goals (first | refine Br.ab ?_ | refine WC.region ?_)
 all_goals (first | refine Br.ab ?_ | refine WL.step (ak rfl) rfl rfl rfl ?_)
 all_goals (first | refine Br.ab ?_ | (first | refine WL.step (fu rfl rfl (by omega)) rfl rfl rfl ?_ | skip))
 all_goals (first | refine Br.ab ?_ | (rw [show ((L.length - j:Nat):Int) - 1=((L.length - (j+1):Nat):Int) by omega]))
 all_goals (refine Go ?_;first | refine Br.ab ?_ | (exact ⟨(j+1,_,_),⟨rfl,rfl,rfl,rfl,trivial⟩,(by exact ⟨by omega,(k4.ext aN aO (fun _ _=>aO)).ext aM (fun e=>by have:=gG b e;omega) (fun q hq e=>by have:=gG q e;have:=hv q (DG q (Hz q hq));have:=ay.size;omega),by rw [List.take_add_one,hy];simpa using fN,(aP.trans (aW.trans' aN (fun q hq e=>e.elim))).trans' aM (fun q hq e=>by have:=gG q e;omega),DG.trans Hz,bR Ge gG (by have:=aW.size;have:=aN.size;omega)⟩),(by (try simp only []);omega)⟩))
 try (refine Br.mk (i:=1000) ?_)
 refine Gn ?_;refine Gs [(5,_)] ?_;refine G2 ?_;refine Gt ?_
 rw [List.take_of_length_le (by omega),show j=L.length by omega] at dE
 rw [show j=L.length by omega,List.drop_length] at k3
 exact ⟨_,dE,k3,X2.trans aP,DG,fun q e=>by have:=gG q e;have:=X2.size;omega⟩
def GO (c:(Bool × List UInt8)):List UInt8:=if c.1=true then be 4294967295 4 else be c.2.length 4++c.2
def fW (R:List (Bool × List UInt8)):List UInt8:=R.flatMap GO
theorem pn {R:List (Bool × List UInt8)} {k:Nat} {y:(Bool × List UInt8)} (hy:R[k]?=some y):fW (R.drop k)=GO y++fW (R.drop (k+1)):=by
 obtain ⟨hlt,rfl⟩:=List.getElem?_eq_some_iff.1 hy
 have e:R.drop k=R[k] :: R.drop (k+1):=List.drop_eq_getElem_cons hlt
 unfold fW
 rw [e,List.flatMap_cons]
theorem DH (R:List (Bool × List UInt8)) (k:Nat):(fW (R.drop k)).length≤(fW R).length:=by
 have e:fW R=fW (R.take k)++fW (R.drop k):=by
   unfold fW
   rw [← List.flatMap_append,List.take_append_drop]
 rw [e,List.length_append]
 omega
structure oy (h0 h:ah) (u:Value) (L:List aX) (n:Nat):Prop where
 own:Own h u 85 2 n (L.flatMap aX.cells)
 ok:∀ c∈L,c.ok h
 vf:∀ q,u.ownBlock=some q→h0.size≤q
 cf:∀ c∈L,∀ q,0 < c.bytes.length→c.v.ownBlock=some q→h0.size≤q∧u.ownBlock ≠ some q
theorem oy.nil (h0 h:ah):oy h0 h (.slice none 0 0) [] 0:=⟨Own.nil _ _ _,(fun _ h=>nomatch h),(fun _ e=>by cases e),fun _ h=>nomatch h⟩
theorem oy.ext {h0 h h':ah} {S:Nat→Prop} {u:Value} {L:List aX} {n:Nat} (k:oy h0 h u L n) (x:Ext S h h') (hS:∀ q,S q→q < h0.size):oy h0 h' u L n :=
 ⟨k.own.ext x fun q hq e=>by have:=k.vf q hq;have:=hS q e;omega,fun c hc=>⟨(k.ok c hc).1.ext' x fun q h1 hq e=>by have:=(k.cf c hc q h1 hq).1;have:=hS q e;omega,(k.ok c hc).2⟩,k.vf,k.cf⟩
theorem oy.snoc {h0 h h':ah} {u v':Value} {L:List aX} {n:Nat} {c:aX} (k:oy h0 h u L n) (hc:c.ok h) (hf:∀ q,0 < c.bytes.length→c.v.ownBlock=some q→h0.size≤q∧u.ownBlock ≠ some q) (ho:Own h' v' 85 2 (n+1) (L.flatMap aX.cells++c.cells)) (hx:Ext (fun q=>u.ownBlock=some q) h h') (hl:v'.ownBlock=u.ownBlock∨v'.ownBlock=some h.size) (hs:h0.size≤h.size):oy h0 h' v' (L++[c]) (n+1):=by
 have key:∀ x∈L++[c],x.ok h∧∀ q,0 < x.bytes.length→x.v.ownBlock=some q→h0.size≤q∧u.ownBlock ≠ some q:=fun x hx=>by
   rcases List.mem_append.1 hx with hx | hx
   · exact ⟨k.ok x hx,k.cf x hx⟩
   · rw [List.mem_singleton.1 hx]
     exact ⟨hc,hf⟩
 refine ⟨by simpa using ho,fun x aH=>⟨(key x aH).1.1.ext' hx fun q h1 hq e=>((key x aH).2 q h1 hq).2 e,(key x aH).1.2⟩,bR hl k.vf hs,fun x aH q h1 hq=>⟨((key x aH).2 q h1 hq).1,fun e=>?_⟩⟩
 rcases hl with z | z
 · exact ((key x aH).2 q h1 hq).2 (z▸e)
 · rw [z] at e
   have:=(key x aH).1.1.lt h1 hq
   simp only [Option.some.injEq] at e
   omega
theorem GP (R:List (Bool × List UInt8)) (hc:∀ c∈R,(c.1=true→c.2.length=0)∧c.2.length≤1000000) (hl:R.length≤65535) (r:List UInt8) (k:Sc h b v (be R.length 2++(fW R++r))) (hv:∀ q,v.ownBlock=some q→q < h.size) (hm:(be R.length 2++(fW R++r)).length≤1000000) :
   ag Tryz.prog 130 ⟨[.agg ⟨[.pointer (some ⟨b,0,none⟩)]⟩]⟩ h fun u h'=>∃ v' L,cF h' u L∧L.map aX.pl=R∧Sc h' b v' r∧Ext (fun q=>q=b) h h'∧SO v v'∧∀ q,dy u L q→h.size≤q:=by
 have kn:=fun (g:ah) (v:Value) (n:Int) (r:List UInt8)=>jx (h:=g) (b:=b) (v:=v) (n:=n) (s:=4) (.inr (.inr rfl)) (r:=r)
 have hlb:=aj k.bq
 have hml:(fW R++r).length≤1000000:=by rw [List.length_append] at hm;omega
 refine calls [(0,_)] Tryz.func130 rfl Tryz.ntmps130 rfl ⟨rfl,trivial⟩ ?_
 refine WC.sr ?_;refine WL.ai (aB rfl) rfl rfl rfl ?_
 rintro _ h1 ⟨b1,rfl,bO,aQ,ay⟩
 have n1:b1 ≠ b:=by omega
 refine Go ?_;refine G2 ?_;refine G3 ?_;refine WL.ld rfl (by first | exact aa aQ rfl | assumption) rfl rfl rfl ?_
 refine WL.call (vs:=[_,_]) rfl Tryz.call122 rfl (jx (s:=2) (.inr (.inl rfl)) (by omega) (by omega) _ (k.ext ay aO (fun _ _=>aO)) hm) rfl rfl rfl ?_
 rintro _ h2 ⟨v2,rfl,k2,aH,DF⟩
 have bX:=aH.obj aQ n1
 have X2:Ext (fun q=>q=b) h h2:=(ay.mono fun _ _ e=>e.elim).trans aH
 refine Go ?_;refine Gs [(1,_),(3,_),(4,_)] ?_;refine WC.block ?_;refine WC.bC (X:=Nat × Value × Value × List aX) (fun x=>([(4,In ((R.length - x.1:Nat):Int)),(3,x.2.1)]:Fr)) [(1,_)] (fun x h'=>x.1≤R.length∧Sc h' b x.2.2.1 (fW (R.drop x.1)++r)∧oy h2 h' x.2.1 x.2.2.2 x.1∧x.2.2.2.map aX.pl=R.take x.1∧Ext (fun q=>q=b) h2 h'∧SO v x.2.2.1) (fun x=>R.length - x.1) ((0,.slice none 0 0,v2,[])) ⟨rfl,rfl,rfl,trivial⟩ (by exact ⟨Nat.zero_le _,k2,oy.nil _ _,rfl,.refl _ _,DF⟩) ?_
 rintro ⟨j,u,w,L⟩ h3 ⟨hj,k3,GQ,IQ,aP,DG⟩
 dsimp only at hj k3 GQ IQ DG
 have IU:∀ q,q=b→q < h2.size:=fun q e=>by have:=aj k2.bq;omega
 have cm:=aP.obj bX n1
 have s1:=ay.size
 have s2:=aH.size
 have s3:=aP.size
 refine WC.sub [(3,_),(4,_),(1,_)] ⟨rfl,rfl,rfl,trivial⟩ ?_
 dsimp only
 refine G3 ?_
 refine bG 11 (Hb.mk fun hb=>?_) (Hb.mk fun hb=>?_)
 all_goals (refine Gg ?_;first | refine WL.pass rfl rfl rfl ?_ | (refine WL.ld rfl (by first | exact aa cm rfl | assumption) rfl rfl rfl ?_))
 all_goals (
  first
    | (refine WL.pass rfl rfl rfl ?_)
    | (refine WL.call (vs:=[_]) rfl Tryz.call178 rfl (Bj k3) rfl rfl rfl ?_
       rintro _ hq ⟨rfl,ml⟩
       replace ml:=ml.symm
       subst ml))
 all_goals (refine Gg ?_;refine Go ?_;refine Gs [(1,_),(3,_),(4,_),(16,_)] ?_;refine aJ 1 2 ?_ TT.mk)
 all_goals try (
 refine ax 1 ?_
 refine WC.skip ?_
 skip)
 all_goals try (
 refine ax 2 ?_
 refine WC.exit ?_
 repeat' (with_reducible first | refine aU ?_ | refine aG rfl ?_ | refine aI ?_ | refine aL ?_ | refine aS ?_)
 refine Br.out (i:=1000) ?_
 skip)
 all_goals (refine Gn ?_;first | refine Br.ab ?_ | refine WC.seq ?_)
 all_goals (first | refine Br.ab ?_ | refine WC.block ?_)
 all_goals (first | refine Br.ab ?_ | refine WC.sr ?_)
 all_goals (
  first
    | (refine Br.ab ?_)
    | (obtain ⟨⟨nl,bs⟩,hy⟩:∃ y,R[j]?=some y:=⟨_,List.getElem?_eq_getElem (by omega)⟩
       obtain ⟨L7,hyl⟩:=hc _ (List.mem_of_getElem? hy)
       dsimp only at L7 hyl
       have hle:=DH R j
       rw [pn hy,List.append_assoc] at k3
       rw [pn hy] at hle
       simp only [List.length_append] at hle hml
       unfold GO at k3 hle
       dsimp only at k3 hle
       cases nl
       all_goals (first | (rw [if_neg (by decide)] at k3 hle) | rw [if_pos rfl] at k3 hle)
       all_goals (simp only [List.length_append,bm] at hle)
       all_goals (try rw [List.append_assoc] at k3)))
 all_goals (first | refine Br.ab ?_ | refine WL.step (ad rfl Tryz.underlying161 rfl Tryz.sizeOf158) rfl rfl rfl ?_)
 all_goals (first | refine Br.ab ?_ | (refine WL.ld rfl (by first | exact aa cm rfl | assumption) rfl rfl rfl ?_))
 all_goals (
  first
    | (refine Br.ab ?_)
    | (refine WL.call (vs:=[_,_]) rfl Tryz.call122 rfl (kn _ _ _ _ (by omega) (by omega) k3 (by simp only [List.length_append,bm];omega)) rfl rfl rfl ?_
       rintro _ h4 ⟨v4,rfl,k4,aW,Hz⟩
       have bP:=aW.obj cm n1
       have IV:=GQ.ext aW IU
       have s4:=aW.size
       have hvo:∀ q,v4.ownBlock=some q→q < h2.size:=fun q hq=>(by have:=hv q (DG q (Hz q hq));omega)))
 all_goals (refine Go ?_;first | refine Br.ab ?_ | refine Gs [(1,_),(3,_),(4,_),(5,_)] ?_)
 all_goals (first | refine Br.ab ?_ | refine WC.seq ?_)
 all_goals (first | refine Br.ab ?_ | refine WC.sr ?_)
 all_goals (refine Go ?_;first | refine Br.ab ?_ | refine aJ 3 4 ?_ TT.mk)
 all_goals try (
 refine ax 3 ?_
 refine G2 ?_;refine WL.step (aD (vs:=[_]) (cs:=[_,_]) (fun | [a0]=>[a0,(.slice none 0 0)] | _=>[]) rfl rfl (by kernel_rfl)) rfl rfl rfl ?_
 refine WL.ai (aw (vs:=[_]) (cs:=[_,_]) (fun | [.agg ⟨[a0,a1]⟩]=>[a0,a1] | _=>[]) Tryz.underlying40 rfl rfl (by kernel_rfl)) rfl rfl rfl ?_
 rintro _ h5 ⟨b5,rfl,pQ,bT,aN⟩
 refine WL.ai (aT (sz:=2) (bytes:=32) rfl Tryz.underlying40 (show Tryz.prog.info? 85=some Tryz.t85 by kernel_rfl) rfl rfl rfl rfl (by decide) rfl rfl (IV.ext aN (fun _ e=>e.elim)).own (bz (len:=1) (sz:=2) bT rfl) (by simp [Value.oneCell']) (by simp only [maxLen];omega) (by omega)) rfl rfl rfl ?_
 rintro v6 h6 ⟨fN,aM,Ge⟩
 have JI:=IV.ext aN (fun _ e=>e.elim)
 obtain ⟨cc,hcc⟩:∃ c:aX,c=⟨true,.slice none 0 0,[]⟩:=⟨_,rfl⟩
 have riZ:=JI.snoc (c:=cc) (by subst hcc;exact ⟨Rd.nil _ _,Nat.zero_le _⟩) (by subst hcc;exact fun _ h=>absurd h (Nat.lt_irrefl 0)) (by subst hcc;exact fN) aM Ge (by have:=aN.size;omega)
 have kZ:=(k4.ext aN aO (fun _ _=>aO)).ext aM (fun e=>by have:=JI.vf b e;have:=IU b rfl;omega) (fun q hq e=>by have:=JI.vf q e;have:=hvo q hq;omega)
 have hpZ:cc.pl=(true,bs):=(by subst hcc;rw [List.eq_nil_of_length_eq_zero (L7 rfl)];rfl)
 have XZ:=(aP.trans (aW.trans' aN (fun q hq e=>e.elim))).trans' aM (fun q hq e=>by have:=JI.vf q e;omega)
 have soZ:=DG.trans Hz
 refine Go ?_;refine Gs [(1,_),(3,_),(4,_)] ?_;refine WC.exit ?_
 repeat' (with_reducible first | refine aU ?_ | refine aG rfl ?_ | refine aI ?_ | refine aL ?_ | refine aS ?_)
 refine Br.out (i:=1001) ?_
 skip)
 all_goals try (
 refine ax 4 ?_
 refine WC.skip ?_
 skip)
 all_goals (refine Gn ?_;first | refine Br.ab ?_ | refine WC.region ?_)
 all_goals (refine Go ?_;first | refine Br.ab ?_ | (refine WL.ld rfl (by first | exact aa bP rfl | assumption) rfl rfl rfl ?_))
 all_goals (refine Go ?_)
 all_goals (
  first
    | (refine Br.ab ?_)
    | (refine WL.call (vs:=[_,_]) rfl Tryz.call179 rfl (Bi k4 (by simp only [List.length_append];omega)) rfl rfl rfl ?_
       rintro v5 h5 ⟨w5,eG,k5,aN,oz,gZ⟩
       obtain ⟨A5,c5,rfl,_⟩:=eG.slice))
 all_goals (first | refine Br.ab ?_ | (refine WL.step (aD (vs:=[_]) (cs:=[_,_]) (fun | [a1]=>[(.bool false),a1] | _=>[]) rfl rfl (by kernel_rfl)) rfl rfl rfl ?_))
 all_goals (
  first
    | (refine Br.ab ?_)
    | (refine WL.ai (aw (vs:=[_]) (cs:=[_,_]) (fun | [.agg ⟨[a0,a1]⟩]=>[a0,a1] | _=>[]) Tryz.underlying40 rfl rfl (by kernel_rfl)) rfl rfl rfl ?_
       rintro _ h6 ⟨b6,rfl,oG,bN,aM⟩))
 all_goals (
  first
    | (refine Br.ab ?_)
    | (refine WL.ai (aT (sz:=2) (bytes:=32) rfl Tryz.underlying40 (show Tryz.prog.info? 85=some Tryz.t85 by kernel_rfl) rfl rfl rfl rfl (by decide) rfl rfl ((IV.ext aN IU).ext aM (fun _ e=>e.elim)).own (bz (len:=1) (sz:=2) bN rfl) (by simp [Value.oneCell']) (by simp only [maxLen];omega) (by omega)) rfl rfl rfl ?_
       rintro v7 h7 ⟨gM,bh,Eu⟩))
 all_goals (
  first
    | (refine Br.ab ?_)
    | (have JJ:=(IV.ext aN IU).ext aM (fun _ e=>e.elim)
       obtain ⟨cc,hcc⟩:∃ c:aX,c=⟨false,.slice A5 bs.length c5,bs⟩:=⟨_,rfl⟩
       have riZ:=JJ.snoc (c:=cc) (by subst hcc;exact ⟨eG.rd.aq aM,by unfold reachBytes;show bs.length≤_;omega⟩) (by subst hcc;exact fun q _ hq=>⟨by have:=gZ q hq;omega,fun e=>by have:=gZ q hq;have:=IV.own.lt e;omega⟩) (by subst hcc;exact gM) bh Eu (by have:=aN.size;have:=aM.size;omega)
       have kZ:=(k5.ext aM aO (fun _ _=>aO)).ext bh (fun e=>by have:=JJ.vf b e;have:=IU b rfl;omega) (fun q hq e=>by have:=JJ.vf q e;have:=hvo q (oz q hq);omega)
       have hpZ:cc.pl=(false,bs):=(by subst hcc;rfl)
       have XZ:=((aP.trans aW).trans (aN.trans' aM (fun q hq e=>e.elim))).trans' bh (fun q hq e=>by have:=JJ.vf q e;omega)
       have soZ:=(DG.trans Hz).trans oz))
 all_goals (refine Go ?_;try (refine Br.mk (i:=1001) ?_))
 all_goals (refine Gn ?_;first | refine Br.ab ?_ | refine WC.region ?_)
 all_goals (first | refine Br.ab ?_ | refine WL.step (ak rfl) rfl rfl rfl ?_)
 all_goals (first | refine Br.ab ?_ | (first | refine WL.step (fu rfl rfl (by omega)) rfl rfl rfl ?_ | skip))
 all_goals (first | refine Br.ab ?_ | (rw [show ((R.length - j:Nat):Int) - 1=((R.length - (j+1):Nat):Int) by omega]))
 all_goals (refine Go ?_;first | refine Br.ab ?_ | (exact ⟨(j+1,_,_,L++[cc]),⟨rfl,rfl,rfl,trivial⟩,(by exact ⟨by omega,kZ,riZ,by rw [List.map_append,IQ,List.take_add_one,hy,List.map_singleton,hpZ];rfl,XZ,soZ⟩),(by (try simp only []);omega)⟩))
 try (refine Br.mk (i:=1000) ?_)
 refine Gn ?_;refine G2 ?_;refine Gs [(2,_)] ?_;refine Gt ?_
 obtain rfl:j=R.length:=by omega
 rw [List.drop_length] at k3
 rw [List.take_length] at IQ
 have hlL:L.length=R.length:=(by rw [← IQ,List.length_map])
 obtain ⟨A9,c9,rfl,NF⟩:=GQ.own.cap
 exact ⟨_,L,⟨by rw [hlL];exact GQ.own.rd,⟨by unfold reachBytes;omega,_,_,by rw [hlL],NF⟩,GQ.ok⟩,IQ,k3,X2.trans aP,DG,fun q hq=>by
  have:=X2.size
  rcases hq with ⟨_,e⟩ | ⟨c,hc,h1,h2⟩
  · have:=GQ.vf q e;omega
  · have:=(GQ.cf c hc q h1 h2).1;omega⟩
end
abbrev L8:Value:=.slice none 0 0
def Bs (g h:ah) (v:Value) (l:List UInt8):Prop:=Own h v 5 1 l.length (bu l)∧Ext No g h∧∀ q,v.ownBlock=some q→g.size≤q
theorem Bs.nil (h:ah):Bs h h L8 []:=⟨Own.nil _ _ _,.refl _ _,fun _ e=>by cases e⟩
theorem Bs.str {g h:ah} {v:Value} {l:List UInt8} (k:Bs g h v l) (s:List UInt8) (hl:l.length+s.length≤1000000000):ag Tryz.prog 65 ⟨[v,St s]⟩ h fun u h'=>Bs g h' u (l++s++[0]) :=
 (Ba l s k.1 hl).mono fun _ _ ⟨ho,hr⟩=>⟨ho,hr.fresh k.2.1 k.2.2⟩
theorem Bs.list {g h:ah} {v w:Value} {l:List UInt8} (k:Bs g h v l) (L:List Int) (hw:Rd g w 1 L.length (ints L)) (hl:l.length≤1000000) (hm:L.length≤100) {s:Nat} (hs:Sz s) (h4:s≤4) (hn:∀ n∈L,Rt n s) :
   ag Tryz.prog 64 ⟨[v,w,In s]⟩ h fun u h'=>Bs g h' u (l++be L.length 2++dG s L) :=
 (DC l L k.1.rd (hw.aq k.2.1) hl hm hs h4 hn).mono fun _ _ ⟨ho,hx,hf⟩=>⟨ho,k.2.1.trans hx,fun q e=>by have:=hf q e;have:=k.2.1.size;omega⟩
theorem we (R:List aX):R.flatMap cJ=fW (R.map aX.pl):=by
 unfold fW
 rw [List.flatMap_map]
 rfl
theorem nP {R:List aX} (hm:R.length≤50) (hc:∀ c∈R,c.bytes.length≤300):(fW (R.map aX.pl)).length≤15200:=by
 have:=pj (f:=cJ) (n:=304) R fun x hx=>by have:=hc x hx;unfold cJ;split <;> simp [bm] <;> omega
 rw [we] at this
 omega
theorem Bs.put {g h:ah} {v w:Value} {l:List UInt8} (k:Bs g h v l) (R:List aX) (hw:cF g w R) (hl:l.length≤1000000) (hm:R.length≤50) (hc:∀ c∈R,c.bytes.length≤300) :
   ag Tryz.prog 66 ⟨[v,w]⟩ h fun u h'=>Bs g h' u (l++be R.length 2++fW (R.map aX.pl)) :=
 (GJ l R k.1.rd (hw.aq k.2.1) hl (by omega) (fun c h=>by have:=hc c h;omega)).mono fun _ _ ⟨ho,hx,hf⟩=>⟨by rw [we] at ho;exact ho,k.2.1.trans hx,fun q e=>by have:=hf q e;have:=k.2.1.size;omega⟩
def fj (f:Fm):List UInt8 :=
 if f.kind=80 then f.name++[0]++f.text++[0]++be f.oids.length 2++dG 4 f.oids
 else if f.kind=66 then f.portal++[0]++f.name++[0]++be f.formats.length 2++dG 2 f.formats++be f.params.length 2++fW (f.params.map aX.pl)++be f.results.length 2++dG 2 f.results
 else if f.kind=67∨f.kind=68 then [UInt8.ofNat f.what.toNat]++(f.name++f.portal)++[0]
 else if f.kind=69 then f.portal++[0]++be f.max 4
 else if f.kind=81 then f.text++[0]
 else []
theorem IW {n:Int} (h:0≤n∧n≤65535):Rt n 2:=GI (by omega)
theorem IX {h:ah} (f:Fm) (hf:f.ok h) (w:f.qB):ag Tryz.prog 31 ⟨[.agg ⟨f.cells⟩]⟩ h fun u h' =>
   ((¬ f.may∧∃ e,e ≠ 0∧u=.tuple ⟨[.agg ⟨[.int .u8 0,L8]⟩,In e]⟩)∨(f.may∧∃ v m,u=.tuple ⟨[.agg ⟨[.int .u8 f.kind,v]⟩,In 0]⟩∧Own h' v 5 1 m.length (bu m)∧m=fj f∧m.length≤30000))∧Ext No h h':=by
 have kc:=fun {g:ah} (x:Ext No h g)=>Bc f (hf.aq x) w
 have hwd:=w
 obtain ⟨EU,EV,EW,ya,Bd,GL,GM,GN⟩:=w
 have hmy:f.may→f.may:=id
 generalize hMY:f.may=MY at kc hmy
 have IY:MY→(∀ n∈f.oids,0≤n∧n≤4294967295)∧(∀ n∈f.formats,0≤n∧n≤65535)∧(∀ n∈f.results,0≤n∧n≤65535)∧(-2147483648≤f.max∧f.max≤2147483647)∧Wh f.kind f.what:=fun z=>by
   rw [← hMY] at z
   exact ⟨z.oids,z.formats,z.results,z.max,z.what⟩
 clear hmy
 have hE:fj f=(if f.kind=80 then f.name++[0]++f.text++[0]++be f.oids.length 2++dG 4 f.oids
   else if f.kind=66 then f.portal++[0]++f.name++[0]++be f.formats.length 2++dG 2 f.formats++be f.params.length 2++fW (f.params.map aX.pl)++be f.results.length 2++dG 2 f.results
   else if f.kind=67∨f.kind=68 then [UInt8.ofNat f.what.toNat]++(f.name++f.portal)++[0]
   else if f.kind=69 then f.portal++[0]++be f.max 4
   else if f.kind=81 then f.text++[0]
   else []):=rfl
 generalize fj f=EM at hE ⊢
 obtain ⟨⟨e1,_⟩,⟨e2,_⟩,⟨e3,_⟩,e4⟩:=hf
 obtain ⟨fk,w,n,p,t,vo,o,vf,fs,vs,rs,vp,ps,mx⟩:=f
 dsimp only at e1 e2 e3 e4 EU EV EW ya Bd GL GM GN IY hE
 obtain ⟨A1,z1,rfl,_⟩:=id e1
 obtain ⟨A2,z2,rfl,_⟩:=id e2
 obtain ⟨A3,z3,rfl,_⟩:=id e3
 obtain ⟨_,⟨_,A4,z4,rfl,_⟩,_⟩:=id e4
 dsimp only [Fm.cells] at kc ⊢
 refine calls [(0,_)] Tryz.func31 rfl Tryz.ntmps31 rfl ⟨rfl,trivial⟩ ?_
 refine WC.sr ?_;refine WL.ai (aB rfl) rfl rfl rfl ?_
 rintro _ g1 ⟨b1,rfl,bO,aQ,ay⟩
 refine WL.ai (av (fun w=>Tryz.zeroValue53 w)) rfl rfl rfl ?_
 rintro _ g2 ⟨b2,rfl,eS,bH,aH⟩
 have bX:=aH.obj aQ aO
 have l2:=aj bH
 have X2:=ay.trans aH
 refine Go ?_;refine WC.seq ?_;refine WC.sr ?_;refine WL.step (an Tryz.isAgg42 Tryz.sizeOf42 rfl rfl (by exact At.au bX)) rfl rfl rfl ?_
 refine WL.call (vs:=[_]) rfl Tryz.call63 rfl (kc X2) rfl rfl rfl ?_
 rintro _ g3 ⟨⟨e,rfl,he⟩,aP⟩
 have cm:=aP.obj bX aO
 have gL:=aP.obj bH aO
 have X3:=X2.trans aP
 have s1:=ay.size
 have s3:=X3.size
 refine Go ?_;refine Gs [(1,_),(2,_),(4,_)] ?_;refine G2 ?_
 refine aJ 1 2 (Hb.mk fun hb=>?_) (Hb.mk fun hb=>?_)
 all_goals try (
 refine ax 1 ?_
 refine WC.sr ?_;refine WL.step (aD (vs:=[]) (cs:=[_,_]) (fun | []=>[(.int .u8 0),(.slice none 0 0)] | _=>[]) rfl rfl (by kernel_rfl)) rfl rfl rfl (Go ?_)
 refine WL.az (al Tryz.sizeOf53 rfl rfl rfl gL rfl (by simp [Value.oneCell'])) rfl rfl ?_
 rintro _ h9 ⟨bQ,cg⟩
 refine Go ?_;refine Gs [(2,_),(3,_)] ?_;refine WC.ret ?_
 repeat' (with_reducible first | refine ba ?_ | refine aV ?_)
 refine dY _ _ ⟨⟨_,rfl,bB Tryz.isAgg53 Tryz.sizeOf53 bQ rfl⟩,rfl,trivial⟩ ?_
 first
  | exact ⟨.inl ⟨fun z=>by have:=he.2 z;omega,e,by omega,rfl⟩,X3.trans' cg (fun q hq z=>by omega)⟩
  | exact ⟨.inr ⟨hme,_,_,rfl,BZ.1.ext cg (fun q hq z=>by have:=BZ.2.2 q hq;have:=aj gL;omega),by first | exact eM | (rw [hE,if_neg (by omega),if_neg (by omega),if_neg (by omega),if_neg (by omega),if_neg (by omega)]),lZ⟩,(X3.trans BZ.2.1).trans' cg (fun q hq z=>by omega)⟩
 skip)
 all_goals (refine ax 2 ?_)
 refine WC.skip ?_;refine Gn ?_;refine G2 ?_;refine G3 ?_;refine WL.ld rfl (by first | exact aa cm rfl | assumption) rfl rfl rfl ?_
 have hme:MY:=he.1 (by omega)
 obtain ⟨y1,y2,y3,y4,y5⟩:=IY hme
 unfold Wh at y5
 have B0:=Bs.nil g3
 have BZ:=B0
 have lZ:([]:List UInt8).length≤30000:=Nat.zero_le _
 have l4:=nP ya Bd
 have eM:True:=trivial
 have r1:=e1.aq X3
 have r2:=e2.aq X3
 have r3:=e3.aq X3
 have r4:=e4.aq X3
 refine Gn ?_;refine Gs [(1,_),(2,_),(5,_),(13,_)] ?_;refine WC.block ?_;refine G2 ?_
 refine aJ 3 4 (Hb.mk fun hb=>?_) (Hb.mk fun hb=>?_)
 all_goals try (
 refine ax 3 ?_
 refine WC.bW (fun h'=>Ext No g3 h') 9 10 rfl dk ?_
 refine WH.tk 0 rfl (fun hq hC=>ad rfl Tryz.underlying42 rfl Tryz.sizeOf9) rfl rfl rfl ?_ (hC:=(by first | exact Ext.refl _ _ | assumption | exact B3.2.1 | exact B2.2.1 | exact B1.2.1))
 refine WH.tk 1 rfl (fun hq hC=>aA Tryz.isAgg9 rfl (by first | exact hC.cell (by first | exact aa cm rfl | assumption) aO)) rfl rfl rfl ?_ (hC:=(by first | exact Ext.refl _ _ | assumption | exact B3.2.1 | exact B2.2.1 | exact B1.2.1))
 refine WH.tk 3 rfl (fun hq hC=>ad rfl Tryz.underlying42 rfl Tryz.sizeOf9) rfl rfl rfl ?_ (hC:=(by first | exact Ext.refl _ _ | assumption | exact B3.2.1 | exact B2.2.1 | exact B1.2.1))
 refine WH.tk 4 rfl (fun hq hC=>aA Tryz.isAgg9 rfl (by first | exact hC.cell (by first | exact aa cm rfl | assumption) aO)) rfl rfl rfl ?_ (hC:=(by first | exact Ext.refl _ _ | assumption | exact B3.2.1 | exact B2.2.1 | exact B1.2.1))
 refine WH.tk 6 rfl (fun hq hC=>ad rfl Tryz.underlying42 rfl Tryz.sizeOf39) rfl rfl rfl ?_ (hC:=(by first | exact Ext.refl _ _ | assumption | exact B3.2.1 | exact B2.2.1 | exact B1.2.1))
 refine WH.tk 7 rfl (fun hq hC=>aA Tryz.isAgg39 rfl (by first | exact hC.cell (by first | exact aa cm rfl | assumption) aO)) rfl rfl rfl ?_ (hC:=(by first | exact Ext.refl _ _ | assumption | exact B3.2.1 | exact B2.2.1 | exact B1.2.1))
 refine WH.one 2 (by kernel_rfl) ?_
 refine aE.call (vs:=[_,_]) rfl rfl Tryz.call65 rfl (B0.str n (by simp;omega)) rfl rfl rfl ?_ (fun _=>by kernel_rfl)
 rintro v4 h4 B1
 refine ⟨fun _=>B1.2.1,?_⟩
 refine WH.one 5 (by kernel_rfl) ?_
 refine aE.call (vs:=[_,_]) rfl rfl Tryz.call65 rfl (B1.str t (by simp;omega)) rfl rfl rfl ?_ (fun _=>by kernel_rfl)
 rintro v5 h5 B2
 refine ⟨fun _=>B2.2.1,?_⟩
 refine WH.one 8 (by kernel_rfl) ?_
 refine aE.call (vs:=[_,_,_]) rfl rfl Tryz.call64 rfl (B2.list (s:=4) o r1 (by simp;omega) (by omega) DB (by decide) (fun n hn=>wb (by have:=y1 n hn;omega))) rfl rfl rfl ?_ (fun _=>by kernel_rfl)
 rintro v6 h6 B3
 refine ⟨fun _=>B3.2.1,?_⟩
 refine WH.one 9 (by kernel_rfl) ?_
 refine aE.run rfl (bK.r (aR rfl)) rfl rfl rfl ?_ (fun _=>by kernel_rfl)
 rintro _ hz ⟨rfl,_⟩
 subst hz
 refine ⟨fun e=>(by cases e),?_⟩
 have BZ:=B3
 have lZ:([]++n++[0]++t++[0]++be o.length 2++dG 4 o).length≤30000:=by simp [bm,cI];omega
 have eM:[]++n++[0]++t++[0]++be o.length 2++dG 4 o=EM:=by rw [hE,if_pos (by omega)];simp
 refine WH.done (by kernel_rfl) ?_
 skip)
 all_goals try (
 refine ax 4 ?_
 refine G2 ?_
 refine aJ 5 6 (Hb.mk fun hb=>?_) (Hb.mk fun hb=>?_)
 all_goals try (
 refine ax 5 ?_
 refine WC.bW (fun h'=>Ext No g3 h') 15 16 rfl dk ?_
 refine WH.tk 0 rfl (fun hq hC=>ad rfl Tryz.underlying42 rfl Tryz.sizeOf9) rfl rfl rfl ?_ (hC:=(by first | exact Ext.refl _ _ | assumption | exact B5.2.1 | exact B4.2.1 | exact B3.2.1 | exact B2.2.1 | exact B1.2.1))
 refine WH.tk 1 rfl (fun hq hC=>aA Tryz.isAgg9 rfl (by first | exact hC.cell (by first | exact aa cm rfl | assumption) aO)) rfl rfl rfl ?_ (hC:=(by first | exact Ext.refl _ _ | assumption | exact B5.2.1 | exact B4.2.1 | exact B3.2.1 | exact B2.2.1 | exact B1.2.1))
 refine WH.tk 3 rfl (fun hq hC=>ad rfl Tryz.underlying42 rfl Tryz.sizeOf9) rfl rfl rfl ?_ (hC:=(by first | exact Ext.refl _ _ | assumption | exact B5.2.1 | exact B4.2.1 | exact B3.2.1 | exact B2.2.1 | exact B1.2.1))
 refine WH.tk 4 rfl (fun hq hC=>aA Tryz.isAgg9 rfl (by first | exact hC.cell (by first | exact aa cm rfl | assumption) aO)) rfl rfl rfl ?_ (hC:=(by first | exact Ext.refl _ _ | assumption | exact B5.2.1 | exact B4.2.1 | exact B3.2.1 | exact B2.2.1 | exact B1.2.1))
 refine WH.tk 6 rfl (fun hq hC=>ad rfl Tryz.underlying42 rfl Tryz.sizeOf39) rfl rfl rfl ?_ (hC:=(by first | exact Ext.refl _ _ | assumption | exact B5.2.1 | exact B4.2.1 | exact B3.2.1 | exact B2.2.1 | exact B1.2.1))
 refine WH.tk 7 rfl (fun hq hC=>aA Tryz.isAgg39 rfl (by first | exact hC.cell (by first | exact aa cm rfl | assumption) aO)) rfl rfl rfl ?_ (hC:=(by first | exact Ext.refl _ _ | assumption | exact B5.2.1 | exact B4.2.1 | exact B3.2.1 | exact B2.2.1 | exact B1.2.1))
 refine WH.tk 9 rfl (fun hq hC=>ad rfl Tryz.underlying42 rfl Tryz.sizeOf40) rfl rfl rfl ?_ (hC:=(by first | exact Ext.refl _ _ | assumption | exact B5.2.1 | exact B4.2.1 | exact B3.2.1 | exact B2.2.1 | exact B1.2.1))
 refine WH.tk 10 rfl (fun hq hC=>aA Tryz.isAgg40 rfl (by first | exact hC.cell (by first | exact aa cm rfl | assumption) aO)) rfl rfl rfl ?_ (hC:=(by first | exact Ext.refl _ _ | assumption | exact B5.2.1 | exact B4.2.1 | exact B3.2.1 | exact B2.2.1 | exact B1.2.1))
 refine WH.tk 12 rfl (fun hq hC=>ad rfl Tryz.underlying42 rfl Tryz.sizeOf39) rfl rfl rfl ?_ (hC:=(by first | exact Ext.refl _ _ | assumption | exact B5.2.1 | exact B4.2.1 | exact B3.2.1 | exact B2.2.1 | exact B1.2.1))
 refine WH.tk 13 rfl (fun hq hC=>aA Tryz.isAgg39 rfl (by first | exact hC.cell (by first | exact aa cm rfl | assumption) aO)) rfl rfl rfl ?_ (hC:=(by first | exact Ext.refl _ _ | assumption | exact B5.2.1 | exact B4.2.1 | exact B3.2.1 | exact B2.2.1 | exact B1.2.1))
 refine WH.one 2 (by kernel_rfl) ?_
 refine aE.call (vs:=[_,_]) rfl rfl Tryz.call65 rfl (B0.str p (by simp;omega)) rfl rfl rfl ?_ (fun _=>by kernel_rfl)
 rintro v4 h4 B1
 refine ⟨fun _=>B1.2.1,?_⟩
 refine WH.one 5 (by kernel_rfl) ?_
 refine aE.call (vs:=[_,_]) rfl rfl Tryz.call65 rfl (B1.str n (by simp;omega)) rfl rfl rfl ?_ (fun _=>by kernel_rfl)
 rintro v5 h5 B2
 refine ⟨fun _=>B2.2.1,?_⟩
 refine WH.one 8 (by kernel_rfl) ?_
 refine aE.call (vs:=[_,_,_]) rfl rfl Tryz.call64 rfl (B2.list (s:=2) fs r2 (by simp;omega) (by omega) DA (by decide) (fun n hn=>IW (y2 n hn))) rfl rfl rfl ?_ (fun _=>by kernel_rfl)
 rintro v6 h6 B3
 refine ⟨fun _=>B3.2.1,?_⟩
 refine WH.one 11 (by kernel_rfl) ?_
 refine aE.call (vs:=[_,_]) rfl rfl Tryz.call66 rfl (B3.put ps r4 (by simp [bm,cI];omega) ya Bd) rfl rfl rfl ?_ (fun _=>by kernel_rfl)
 rintro v7 h7 B4
 refine ⟨fun _=>B4.2.1,?_⟩
 refine WH.one 14 (by kernel_rfl) ?_
 refine aE.call (vs:=[_,_,_]) rfl rfl Tryz.call64 rfl (B4.list (s:=2) rs r3 (by simp [bm,cI];omega) (by omega) DA (by decide) (fun n hn=>IW (y3 n hn))) rfl rfl rfl ?_ (fun _=>by kernel_rfl)
 rintro v8 h8 B5
 refine ⟨fun _=>B5.2.1,?_⟩
 refine WH.one 15 (by kernel_rfl) ?_
 refine aE.run rfl (bK.r (aR rfl)) rfl rfl rfl ?_ (fun _=>by kernel_rfl)
 rintro _ hz ⟨rfl,_⟩
 subst hz
 refine ⟨fun e=>(by cases e),?_⟩
 have BZ:=B5
 have lZ:([]++p++[0]++n++[0]++be fs.length 2++dG 2 fs++be ps.length 2++fW (ps.map aX.pl)++be rs.length 2++dG 2 rs).length≤30000:=by simp [bm,cI];omega
 have eM:[]++p++[0]++n++[0]++be fs.length 2++dG 2 fs++be ps.length 2++fW (ps.map aX.pl)++be rs.length 2++dG 2 rs=EM:=by rw [hE,if_neg (by omega),if_pos (by omega)];simp
 refine WH.done (by kernel_rfl) ?_
 skip)
 all_goals try (
 refine ax 6 ?_
 refine G3 ?_;refine Gs [(1,_),(2,_),(5,_),(13,_),(42,_)] ?_
 refine aJ 7 8 (Hb.mk fun hb=>?_) (Hb.mk fun hb=>?_)
 all_goals try (
 refine ax 7 ?_
 refine WC.skip ?_
 skip)
 all_goals try (
 refine ax 8 ?_
 refine WC.region (Go ?_)
 skip)
 all_goals (refine Gn ?_;refine aJ 9 10 (Hb.mk fun hb=>?_) (Hb.mk fun hb=>?_))
 all_goals try (
 refine ax 9 ?_
 all_goals (refine WC.region (Go ?_);refine WL.ld rfl (by first | exact aa cm rfl | assumption) rfl rfl rfl ?_;refine WL.ai (aw (vs:=[_]) (cs:=[_]) (fun | [a0]=>[a0] | _=>[]) Tryz.underlying23 rfl rfl (by kernel_rfl)) rfl rfl rfl ?_;rintro _ h4 ⟨b4,rfl,oF,bx,aW⟩;have bP:=aW.obj cm aO;refine Go ?_;refine WL.ld rfl (by first | exact aa bP rfl | assumption) rfl rfl rfl (Go ?_);refine WL.ld rfl (by first | exact aa bP rfl | assumption) rfl rfl rfl ?_;refine WL.step (dW rfl rfl (by omega)) rfl rfl rfl ?_)
 all_goals (
  have IZ:0≤w∧w≤255:=by omega
  have fF:Own h4 (.slice (some ⟨b4,0,none⟩) 1 1) 5 1 ([UInt8.ofNat w.toNat]:List UInt8).length (bu [UInt8.ofNat w.toNat]):=by
   rw [pK IZ]
   exact dJ (len:=1) bx rfl (by decide))
 all_goals (refine WL.call (vs:=[_,_]) rfl Tryz.call65 rfl (Ba [UInt8.ofNat w.toNat] (n++p) fF (by simp only [List.length_append,List.length_cons,List.length_nil];omega)) rfl rfl rfl ?_;rintro v5 h5 ⟨eG,NG⟩;refine WL.step (aR rfl) rfl rfl rfl ?_;have BZ:Bs g3 h5 _ _:=⟨eG,NG.fresh aW (fun q e=>by cases e;exact oF)⟩;(have lZ:([UInt8.ofNat w.toNat]++(n++p)++[0]).length≤30000:=by simp;omega);(have eM:[UInt8.ofNat w.toNat]++(n++p)++[0]=EM:=by rw [hE,if_neg (by omega),if_neg (by omega),if_pos (by omega)]);refine Gn ?_)
 skip)
 all_goals try (
 refine ax 10 ?_
 all_goals (refine G2 ?_;first | refine aJ 11 12 ?_ TT.mk | (refine aJ 11 12 (Hb.mk fun hb=>?_) (Hb.mk fun hb=>?_)))
 all_goals try (
 refine ax 11 ?_
 all_goals (refine WC.bW (fun h'=>Ext No g3 h') 6 7 rfl dk ?_;refine WH.tk 0 rfl (fun hq hC=>ad rfl Tryz.underlying42 rfl Tryz.sizeOf9) rfl rfl rfl ?_ (hC:=(by first | exact Ext.refl _ _ | assumption | exact B1.2.1));refine WH.tk 1 rfl (fun hq hC=>aA Tryz.isAgg9 rfl (by first | exact hC.cell (by first | exact aa cm rfl | assumption) aO)) rfl rfl rfl ?_ (hC:=(by first | exact Ext.refl _ _ | assumption | exact B1.2.1));refine WH.tk 3 rfl (fun hq hC=>ad rfl Tryz.underlying42 rfl Tryz.sizeOf3) rfl rfl rfl ?_ (hC:=(by first | exact Ext.refl _ _ | assumption | exact B1.2.1));refine WH.tk 4 rfl (fun hq hC=>aA Tryz.isAgg3 rfl (by first | exact hC.cell (by first | exact aa cm rfl | assumption) aO)) rfl rfl rfl ?_ (hC:=(by first | exact Ext.refl _ _ | assumption | exact B1.2.1));refine WH.one 2 (by kernel_rfl) ?_;refine aE.call (vs:=[_,_]) rfl rfl Tryz.call65 rfl (B0.str p (by simp;omega)) rfl rfl rfl ?_ (fun _=>by kernel_rfl);rintro v4 h4 B1;refine ⟨fun _=>B1.2.1,?_⟩;refine WH.one 5 (by kernel_rfl) ?_;refine aE.call (vs:=[_,_,_]) rfl rfl Tryz.call62 rfl (kI _ mx 4 DB (wb (by omega)) B1.1.rd (by simp;omega)) rfl rfl rfl ?_ (fun _=>by kernel_rfl);rintro v5 h5 ⟨eG,aN,gZ⟩;refine ⟨fun _=>B1.2.1.trans aN,?_⟩;refine WH.one 6 (by kernel_rfl) ?_;refine aE.run rfl (bK.r (aR rfl)) rfl rfl rfl ?_ (fun _=>by kernel_rfl);rintro _ hz ⟨rfl,_⟩;subst hz;refine ⟨fun e=>(by cases e),?_⟩;have BZ:Bs g3 h5 _ _:=⟨eG,B1.2.1.trans aN,fun q e=>by have:=gZ q e;have:=B1.2.1.size;omega⟩;(have lZ:([]++p++[0]++be mx 4).length≤30000:=by simp [bm];omega);(have eM:[]++p++[0]++be mx 4=EM:=by rw [hE,if_neg (by omega),if_neg (by omega),if_neg (by omega),if_pos (by omega)];simp);refine WH.done (by kernel_rfl) ?_)
 skip)
 all_goals try (
 refine ax 12 ?_
 refine G2 ?_;refine Gs [(1,_),(2,_),(5,_),(62,_)] ?_
 refine aJ 13 14 (Hb.mk fun hb=>?_) (Hb.mk fun hb=>?_)
 all_goals try (
 refine ax 13 ?_
 refine WC.region (Go ?_);refine WL.ld rfl (by first | exact aa cm rfl | assumption) rfl rfl rfl ?_
 refine WL.call (vs:=[_,_]) rfl Tryz.call65 rfl (B0.str t (by simp;omega)) rfl rfl rfl ?_
 rintro v4 h4 BZ
 have lZ:([]++t++[0]).length≤30000:=by simp;omega
 have eM:[]++t++[0]=EM:=by rw [hE,if_neg (by omega),if_neg (by omega),if_neg (by omega),if_neg (by omega),if_pos (by omega)];simp
 refine Go ?_
 skip)
 all_goals try (
 refine ax 14 ?_
 refine WC.skip ?_
 skip)
 skip)
 skip)
 skip)
 skip)
 all_goals (refine Gn ?_;refine WC.sr ?_;obtain ⟨AZ,cZ,eZ,_⟩:=id BZ.1.slice;try subst eZ)
 all_goals (refine WL.step (ad rfl Tryz.underlying42 rfl Tryz.sizeOf5) rfl rfl rfl ?_;refine WL.ld rfl (by first | exact aa (BZ.2.1.obj cm aO) rfl | assumption) rfl rfl rfl (Go ?_);refine WL.step (aD (vs:=[_,_]) (cs:=[_,_]) (fun | [a0,a1]=>[a0,a1] | _=>[]) rfl rfl (by kernel_rfl)) rfl rfl rfl ?_;refine WL.az (al Tryz.sizeOf53 rfl rfl rfl (BZ.2.1.obj gL aO) rfl (by obtain ⟨_,_,e,_⟩:=BZ.1.slice;simp [Value.oneCell',e])) rfl rfl ?_;rintro _ h9 ⟨bQ,cg⟩;refine Go ?_;refine Gs [(2,_),(3,_)] ?_;refine WC.ret ?_;repeat' (with_reducible first | refine ba ?_ | refine aV ?_))
 all_goals (refine dY _ _ ⟨⟨_,rfl,bB Tryz.isAgg53 Tryz.sizeOf53 bQ rfl⟩,rfl,trivial⟩ ?_)
 all_goals (
  first
   | exact ⟨.inl ⟨fun z=>by have:=he.2 z;omega,e,by omega,rfl⟩,X3.trans' cg (fun q hq z=>by omega)⟩
   | exact ⟨.inr ⟨hme,_,_,rfl,BZ.1.ext cg (fun q hq z=>by have:=BZ.2.2 q hq;have:=aj gL;omega),by first | exact eM | (rw [hE,if_neg (by omega),if_neg (by omega),if_neg (by omega),if_neg (by omega),if_neg (by omega)]),lZ⟩,(X3.trans BZ.2.1).trans' cg (fun q hq z=>by omega)⟩)
def wg (ms:List (Int × List UInt8)):List UInt8:=ms.flatMap fun m=>dU m.1 m.2
theorem Bm (ms:List (Int × List UInt8)) (m:Int × List UInt8):wg (ms++[m])=wg ms++dU m.1 m.2:=by simp [wg]
theorem ew (k:Int) (l:List UInt8):(dU k l).length=5+l.length:=by simp [dU,bm];omega
theorem wh {ms:List (Int × List UInt8)} (h:∀ m∈ms,m.2.length≤30000):(wg ms).length≤ms.length * 30005:=by
 induction ms with
 | nil=>simp [wg]
 | cons m ms ih =>
   have h1:=h m (List.mem_cons_self ..)
   have h2:=ih fun x hx=>h x (List.mem_cons_of_mem _ hx)
   have e:wg (m :: ms)=dU m.1 m.2++wg ms:=by simp [wg]
   rw [e,List.length_append,ew,List.length_cons,Nat.succ_mul]
   omega
noncomputable def uT (L:List Fm):List (Int × List UInt8):=L.flatMap fun f=>@ite _ f.may (Classical.propDecidable _) [(f.kind,fj f)] []
theorem po (L:List Fm) (f:Fm):uT (L++[f])=uT L++@ite _ f.may (Classical.propDecidable _) [(f.kind,fj f)] []:=by simp [uT]
structure EX (L:List Fm) (ms:List (Int × List UInt8)):Prop where
 len:ms.length≤L.length
 eq:ms=uT L
 ok:∀ m∈ms,0 < m.1∧m.1≤255∧m.2.length≤30000
 no:ms=[] ↔ ∀ f∈L,¬ f.may
theorem lV {k:Int} (h:K6 k):0 < k∧k≤255:=by unfold K6 at h;omega
theorem mn {α:Type} {l:List α} {k:Nat} {y:α} (hy:l[k]?=some y):l.take (k+1)=l.take k++[y]:=by rw [List.take_add_one,hy];rfl
theorem EX.NH {L:List Fm} {ms:List (Int × List UInt8)} (k:EX L ms) {f:Fm} (h:¬ f.may):EX (L++[f]) ms :=
 ⟨by have:=k.len;simp;omega,by rw [po,← k.eq,@if_neg _ (Classical.propDecidable _) h,List.append_nil],k.ok,by
   rw [k.no]
   constructor
   · intro z x hx
     rcases List.mem_append.1 hx with hx | hx
     · exact z x hx
     · rw [List.mem_singleton.1 hx];exact h
   · exact fun z x hx=>z x (List.mem_append_left _ hx)⟩
theorem EX.one {L:List Fm} {ms:List (Int × List UInt8)} (k:EX L ms) {f:Fm} (h:f.may) {m:List UInt8} (hm:m.length≤30000) (he:m=fj f):EX (L++[f]) (ms++[(f.kind,m)]) :=
 ⟨by have:=k.len;simp;omega,by rw [po,← k.eq,@if_pos _ (Classical.propDecidable _) h,he],fun x hx=>by
   rcases List.mem_append.1 hx with hx | hx
   · exact k.ok x hx
   · rw [List.mem_singleton.1 hx];exact ⟨(lV h.kind).1,(lV h.kind).2,hm⟩,⟨fun z=>by simp at z,fun z=>absurd h (z f (List.mem_append_right _ (List.mem_singleton.2 rfl)))⟩⟩
theorem DI {h:ah} {v:Value} (L:List Fm) (hL:FK h v L) (w:∀ f∈L,f.qB) (hn:L.length≤100):ag Tryz.prog 9 ⟨[v]⟩ h fun u h'=>(∃ ms,EX L ms∧Bs h h' u (wg ms)):=by
 obtain ⟨hr,hl,ok⟩:=hL
 obtain ⟨A,c,rfl,_⟩:=id hr
 refine calls [(0,_)] Tryz.func9 rfl Tryz.ntmps9 rfl ⟨rfl,trivial⟩ ?_
 refine G2 ?_;refine G2 ?_;refine G3 ?_;refine WC.block ?_;refine WC.bC (X:=Nat × Value) (fun x=>([(10,In (x.1:Int)),(3,x.2)]:Fr)) [(8,_),(9,_)] (fun x h'=>x.1≤L.length∧∃ ms,EX (L.take x.1) ms∧Bs h h' x.2 (wg ms)) (fun x=>L.length - x.1) ((0,.slice none 0 0)) ⟨rfl,rfl,rfl,rfl,trivial⟩ (by exact ⟨Nat.zero_le _,[],⟨by simp,by simp [uT],by simp,by simp⟩,Bs.nil _⟩) ?_
 rintro ⟨k,u⟩ h1 ⟨hk,ms,fr,B1⟩
 dsimp only at hk fr B1
 refine WC.sub [(3,_),(10,_),(8,_),(9,_)] ⟨rfl,rfl,rfl,rfl,trivial⟩ ?_
 dsimp only
 refine G2 ?_;refine WC.seq ?_
 refine aJ 1 2 (Hb.mk fun hb=>?_) (Hb.mk fun hb=>?_)
 all_goals try (
 refine ax 1 ?_
 refine WC.skip ?_
 skip)
 all_goals try (
 refine ax 2 ?_
 refine WC.exit ?_
 repeat' (with_reducible first | refine aU ?_ | refine aG rfl ?_ | refine aI ?_ | refine aL ?_ | refine aS ?_)
 refine Br.out (i:=1000) ?_
 skip)
 all_goals (refine Gn ?_;first | refine Br.ab ?_ | refine WC.seq ?_)
 all_goals (first | refine Br.ab ?_ | refine WC.block ?_)
 all_goals (first | refine Br.ab ?_ | refine WC.sr ?_)
 all_goals (
  first
    | (refine Br.ab ?_)
    | (obtain ⟨bF,iF,hFA,_,hat⟩:=Rd.at_ hr (by omega)
       obtain ⟨f,hfk⟩:∃ f,L[k]?=some f:=⟨_,List.getElem?_eq_getElem (by omega)⟩
       have hmf:=List.mem_of_getElem? hfk
       have hd:At h1 bF (iF+k * 10) f.cells:=At.elem Fm.len (hat.ext B1.2.1 aO) hfk
       have okf:=ok f hmf
       have hfl:=wh (fun m hm=>(fr.ok m hm).2.2)
       have K5:=fr.len
       rw [List.length_take] at K5))
 all_goals (first | refine Br.ab ?_ | (refine WL.step (aF Tryz.underlying22 Tryz.sizeOf42 rfl rfl rfl (by omega) (by first | rfl | assumption)) rfl rfl rfl ?_))
 all_goals (first | refine Br.ab ?_ | (refine WL.step (an Tryz.isAgg42 Tryz.sizeOf42 rfl rfl (by exact hd)) rfl rfl rfl ?_))
 all_goals (
  first
    | (refine Br.ab ?_)
    | (refine WL.ai (av (fun w=>Tryz.zeroValue42 w)) rfl rfl rfl ?_
       rintro _ h2 ⟨b2,rfl,eS,bH,aH⟩))
 all_goals (
  first
    | (refine Br.ab ?_)
    | (refine WL.az (al Tryz.sizeOf42 rfl rfl rfl (by assumption) rfl okf.one) rfl rfl ?_
       rintro _ h3 ⟨bn,aP⟩))
 all_goals (first | refine Br.ab ?_ | (have Ma:Ext No h1 h3:=aH.trans' aP (fun q hq e=>by omega)))
 all_goals (refine Gn ?_;first | refine Br.ab ?_ | refine WC.sr ?_)
 all_goals (first | refine Br.ab ?_ | (refine WL.step (an Tryz.isAgg42 Tryz.sizeOf42 rfl rfl (by exact At.au bn)) rfl rfl rfl ?_))
 all_goals (
  first
    | (refine Br.ab ?_)
    | (refine WL.call (vs:=[_]) rfl Tryz.call31 rfl (IX f (okf.aq (B1.2.1.trans Ma)) (w f hmf)) rfl rfl rfl ?_
       rintro _ h4 ⟨⟨hno,e,he,rfl⟩ | ⟨hmy,v4,m4,rfl,fF,NI,JH⟩,aW⟩
       all_goals have iH:=Ma.trans aW))
 all_goals (refine Go ?_)
 all_goals (
  first
    | (refine Br.ab ?_)
    | (refine WL.ai (av (fun w=>Tryz.zeroValue53 w)) rfl rfl rfl ?_
       rintro _ h5 ⟨b5,rfl,pQ,bT,aN⟩))
 all_goals (
  first
    | (refine Br.ab ?_)
    | (refine WL.az (al Tryz.sizeOf53 rfl rfl rfl (by assumption) rfl (by first | (obtain ⟨_,_,e,_⟩:=fF.slice;simp [Value.oneCell',e];done) | (simp [Value.oneCell'];done))) rfl rfl ?_
       rintro _ h6 ⟨bN,aM⟩))
 all_goals (first | refine Br.ab ?_ | (have K7:Ext No h1 h6:=iH.trans (aN.trans' aM (fun q hq e=>by omega))))
 all_goals (refine Go ?_;first | refine Br.ab ?_ | refine Gs [(3,_),(6,_),(7,_),(8,_),(9,_),(10,_)] ?_)
 all_goals (first | refine Br.ab ?_ | refine WC.sr ?_)
 all_goals (refine Go ?_;first | refine Br.ab ?_ | refine aJ 3 4 ?_ TT.mk)
 all_goals try (
 refine ax 3 ?_
 refine WC.region (Go ?_);refine WL.step (an Tryz.isAgg53 Tryz.sizeOf53 rfl rfl (by exact At.au bN)) rfl rfl rfl ?_
 refine WL.call (vs:=[_]) rfl Tryz.call30 rfl (CA f.kind (lV hmy.kind) m4 ((fF.ext aN (fun _ _=>aO)).ext aM (fun q hq e=>by have:=(fF.lt hq);omega)).rd (by omega)) rfl rfl rfl ?_
 rintro v7 h7 ⟨gM,bh⟩
 have K8:=K7.trans bh
 refine WL.ai (aT (sz:=1) (bytes:=1) rfl Tryz.underlying23 (show Tryz.prog.info? 5=some Tryz.t5 by kernel_rfl) rfl rfl rfl rfl (by decide) rfl rfl (B1.1.ext K8 (fun _ _=>aO)) gM.rd (by intro v hv;obtain ⟨x,_,rfl⟩:=List.mem_map.1 hv;rfl) (by rw [ew];simp only [maxLen];omega) (by rw [ew];omega)) rfl rfl rfl ?_
 rintro v8 h8 ⟨iI,bD,pM⟩
 refine Go ?_
 skip)
 all_goals try (
 refine ax 4 ?_
 refine WC.skip ?_
 skip)
 all_goals (refine Gn ?_;first | refine Br.ab ?_ | refine Gs [(3,_),(8,_),(9,_),(10,_)] ?_)
 all_goals (first | refine Br.ab ?_ | refine WC.region ?_)
 all_goals (refine Go ?_)
 all_goals (
  first
    | (refine Br.ab ?_)
    | (exact ⟨(k + 1, _), ⟨rfl, rfl, rfl, rfl, trivial⟩, (by first
        | exact ⟨by omega,ms,by rw [mn hfk];exact fr.NH hno,B1.1.ext K7 (fun _ _=>aO),B1.2.1.trans K7,B1.2.2⟩
        | (refine ⟨by omega,_,(by rw [mn hfk];exact fr.one hmy JH NI),?_,(B1.2.1.trans K8).trans' bD (fun q hq e=>by have:=B1.2.2 q e;omega),fun q hq=>?_⟩
           · rw [Bm,List.length_append,gn];exact iI
           · rcases pM with e | e
             · exact B1.2.2 q (e▸hq)
             · rw [e] at hq;simp only [Option.some.injEq] at hq;have:=(B1.2.1.trans K8).size;omega)),(by (try simp only []);omega)⟩))
 try (refine Br.mk (i:=1000) ?_)
 refine Gn ?_;refine Gs [(3,_)] ?_;refine G2 ?_;refine Gt ?_
 rw [List.take_of_length_le (by omega)] at fr
 exact ⟨ms,fr,B1⟩
theorem DJ {h : ah} (a b : aX) (ha : a.ok h) (hb : b.ok h) :
   ag Tryz.prog 190 ⟨[.agg ⟨a.cells⟩, .agg ⟨b.cells⟩]⟩ h fun u h' => u = .bool (decide (a.pl = b.pl)) ∧ Ext No h h' := by
 obtain ⟨n1, v1, l1⟩ := a
 obtain ⟨n2, v2, l2⟩ := b
 obtain ⟨ha, _⟩ := ha
 obtain ⟨hb, _⟩ := hb
 simp only at ha hb
 obtain ⟨A, c, rfl, _⟩ := id ha
 obtain ⟨B, d, rfl, _⟩ := id hb
 dsimp only [aX.cells]
 cases n1
 all_goals cases n2
 all_goals
   refine calls [(0, _), (1, _)] Tryz.func190 rfl Tryz.ntmps190 rfl ⟨rfl, rfl, trivial⟩ ?_
   all_goals (refine WC.sr ?_; refine WL.ai (aB rfl) rfl rfl rfl ?_; rintro _ h1 ⟨b1, rfl, bO, aQ, ay⟩; refine WL.ai (aB rfl) rfl rfl rfl ?_; rintro _ h2 ⟨b2, rfl, eS, bH, aH⟩; have og := aH.obj aQ aO; have hx := ay.trans aH; refine Go ?_; refine G2 ?_; refine Ld ?_; refine Go ?_; refine Ld ?_; first | (refine WL.step (bK.dL (by rfl) (kj Tryz.underlying4 rfl rfl)) rfl rfl rfl ?_) | (refine WL.step (bK.eX (by decide) (kj Tryz.underlying4 rfl rfl)) rfl rfl rfl ?_))
   all_goals (refine Go ?_; refine bG 10 ?_ TT.mk; refine Gg ?_; first | refine WL.pass rfl rfl rfl ?_ | refine Ld ?_)
   all_goals (refine Gg ?_; first | refine WL.pass rfl rfl rfl ?_ | refine Ld ?_)
   all_goals (
    first
      | (refine WL.pass rfl rfl rfl ?_)
      | (refine WL.call (vs := [_, _]) rfl Tryz.call12 rfl (iW l1 l2 (ha.aq hx) (hb.aq hx)) rfl rfl rfl ?_
         rintro _ hz ⟨rfl, _⟩
         subst hz))
   all_goals (refine Go ?_; refine Gs [(4, _)] ?_; refine Gt ?_; exact ⟨by simp [aX.pl], hx⟩)
theorem sF {h : ah} {v w : Value} (l m : List aX) (hl : cF h v l) (hm : cF h w m) :
   ag Tryz.prog 189 ⟨[v, w, .func (.func 190) ⟨[]⟩ ⟨[]⟩]⟩ h fun u h' => u = .bool (decide (l.map aX.pl = m.map aX.pl)) ∧ Ext No h h' := by
 obtain ⟨hr, ⟨hlm, A, c, rfl, _⟩, ho⟩ := hl
 obtain ⟨hs, ⟨hmm, B, d, rfl, _⟩, hp⟩ := hm
 unfold reachBytes at hlm hmm
 refine calls [(0, _), (1, _), (2, _)] Tryz.func189 rfl Tryz.ntmps189 rfl ⟨rfl, rfl, rfl, trivial⟩ ?_
 refine G2 ?_; refine G3 ?_; refine Gs [(0, _), (1, _), (2, _), (14, _)] ?_
 refine aJ 1 2 (Hb.mk fun hb => ?_) (Hb.mk fun hb => ?_)
 all_goals try (
 refine ax 1 ?_
 refine G2 ?_; refine Gs [(6, _)] ?_; refine Gt ?_
 first
  | exact ⟨by rw [decide_eq_false (fun e => by have := congrArg List.length e; simp only [List.length_map] at this; omega)], .refl _ _⟩
  | exact ⟨by rw [decide_eq_false (ik hy hz hyz)], kM.trans aM⟩
  | exact ⟨by rw [decide_eq_true (by rw [List.take_of_length_le (by omega), List.take_of_length_le (by omega)] at hn; exact hn)], ay⟩
 skip)
 all_goals (refine ax 2 ?_)
 refine WC.skip ?_; refine Gn ?_; refine G3 ?_; refine WC.block ?_; refine WC.bC (X := Nat) (fun x => ([(17, In (x : Int))] : Fr)) [(1, _), (2, _), (15, _), (16, _)] (fun k h' => Ext No h h' ∧ k ≤ l.length ∧ l.length = m.length ∧ (l.take k).map aX.pl = (m.take k).map aX.pl) (fun k => l.length - k) (0) ⟨rfl, rfl, rfl, rfl, rfl, trivial⟩ (by exact ⟨.refl _ _, Nat.zero_le _, by omega, by simp⟩) ?_
 rintro k h1 ⟨ay, hk, hlen, hn⟩
 refine WC.sub [(17, _), (1, _), (2, _), (15, _), (16, _)] ⟨rfl, rfl, rfl, rfl, rfl, trivial⟩ ?_; refine G2 ?_; refine WC.seq ?_
 refine aJ 3 4 (Hb.mk fun hb => ?_) (Hb.mk fun hb => ?_)
 all_goals try (
 refine ax 3 ?_
 refine WC.skip ?_
 skip)
 all_goals try (
 refine ax 4 ?_
 refine WC.exit ?_
 repeat' (with_reducible first | refine aU ?_ | refine aG rfl ?_ | refine aI ?_ | refine aL ?_ | refine aS ?_)
 refine Br.out (i := 1000) ?_
 skip)
 all_goals (refine Gn ?_; first | refine Br.ab ?_ | refine WC.seq ?_)
 all_goals (first | refine Br.ab ?_ | refine WC.block ?_)
 all_goals (first | refine Br.ab ?_ | refine WC.sr ?_)
 all_goals (
  first
    | (refine Br.ab ?_)
    | (obtain ⟨bL, oL, hA, hbL, hat⟩ := Rd.at_ (hr.aq ay) (by omega)
       obtain ⟨bM, oM, hB, hbM, hbt⟩ := Rd.at_ (hs.aq ay) (by omega)
       obtain ⟨y, hy⟩ : ∃ y, l[k]? = some y := ⟨_, List.getElem?_eq_getElem (by omega)⟩
       obtain ⟨z, hz⟩ : ∃ y, m[k]? = some y := ⟨_, List.getElem?_eq_getElem (by omega)⟩
       have hyo := ho y (List.mem_of_getElem? hy)
       have hzo := hp z (List.mem_of_getElem? hz)
       have rD : At h1 bL (oL + k * 2) y.cells := At.elem aX.len hat hy
       have xZ : At h1 bM (oM + k * 2) z.cells := At.elem aX.len hbt hz
       have yP : ∀ v ∈ y.cells, v.oneCell' = true := by obtain ⟨A1, c1, e1, _⟩ := hyo.1; simp [aX.cells, Value.oneCell', e1]
       have mr : ∀ v ∈ z.cells, v.oneCell' = true := by obtain ⟨A1, c1, e1, _⟩ := hzo.1; simp [aX.cells, Value.oneCell', e1]))
 all_goals (first | refine Br.ab ?_ | refine WL.step (ak rfl) rfl rfl rfl ?_)
 all_goals (first | refine Br.ab ?_ | (refine WL.step (aF Tryz.underlying40 Tryz.sizeOf85 rfl rfl rfl (by omega) (by first | rfl | assumption)) rfl rfl rfl ?_))
 all_goals (first | refine Br.ab ?_ | (refine WL.step (an Tryz.isAgg85 Tryz.sizeOf85 rfl rfl (by assumption)) rfl rfl rfl ?_))
 all_goals (
  first
    | (refine Br.ab ?_)
    | (refine WL.ai (av (fun w => Tryz.zeroValue85 w)) rfl rfl rfl ?_
       rintro _ h2 ⟨b2, rfl, eS, bH, aH⟩))
 all_goals (refine Go ?_)
 all_goals (
  first
    | (refine Br.ab ?_)
    | (refine WL.az (al Tryz.sizeOf85 rfl rfl rfl (by assumption) rfl yP) rfl rfl ?_
       rintro _ h3 ⟨bn, aP⟩))
 all_goals (first | refine Br.ab ?_ | (have il : Ext No h1 h3 := aH.trans' aP (fun q hq e => by omega)))
 all_goals (refine Gn ?_; first | refine Br.ab ?_ | refine Gs [(1, _), (2, _), (7, _), (8, _), (15, _), (16, _), (17, _)] ?_)
 all_goals (first | refine Br.ab ?_ | refine WC.sr ?_)
 all_goals (refine Go ?_; first | refine Br.ab ?_ | (refine WL.step (aF Tryz.underlying40 Tryz.sizeOf85 rfl rfl rfl (by omega) (by first | rfl | assumption)) rfl rfl rfl ?_))
 all_goals (first | refine Br.ab ?_ | (refine WL.step (an Tryz.isAgg85 Tryz.sizeOf85 rfl rfl (by exact xZ.ext il aO)) rfl rfl rfl ?_))
 all_goals (
  first
    | (refine Br.ab ?_)
    | (refine WL.ai (av (fun w => Tryz.zeroValue85 w)) rfl rfl rfl ?_
       rintro _ h4 ⟨b4, rfl, oF, bx, aW⟩))
 all_goals (
  first
    | (refine Br.ab ?_)
    | (refine WL.az (al Tryz.sizeOf85 rfl rfl rfl (by assumption) rfl mr) rfl rfl ?_
       rintro _ h5 ⟨bT, aN⟩))
 all_goals (
  first
    | (refine Br.ab ?_)
    | (have rF : Ext No h3 h5 := aW.trans' aN (fun q hq e => by omega)
       have pP := rF.obj bn aO
       have kM := ay.trans (il.trans rF)))
 all_goals (refine Gn ?_; first | refine Br.ab ?_ | refine Gs [(1, _), (2, _), (8, _), (9, _), (15, _), (16, _), (17, _)] ?_)
 all_goals (first | refine Br.ab ?_ | refine WC.sr ?_)
 all_goals (refine Go ?_; first | refine Br.ab ?_ | (refine WL.step (an Tryz.isAgg85 Tryz.sizeOf85 rfl rfl (by exact At.au pP)) rfl rfl rfl ?_))
 all_goals (first | refine Br.ab ?_ | (refine WL.step (an Tryz.isAgg85 Tryz.sizeOf85 rfl rfl (by exact At.au bT)) rfl rfl rfl ?_))
 all_goals (
  first
    | (refine Br.ab ?_)
    | (refine WL.dT (vs := [_, _]) rfl rfl Tryz.call190 rfl (DJ y z (hyo.aq kM) (hzo.aq kM)) rfl rfl rfl ?_
       rintro _ h6 ⟨rfl, aM⟩))
 all_goals (
  first
    | (refine Br.ab ?_)
    | (by_cases hyz : y.pl = z.pl
       all_goals first | rw [decide_eq_true hyz] | rw [decide_eq_false hyz]))
 all_goals (refine Go ?_; first | refine Br.ab ?_ | refine Gs [(1, _), (2, _), (15, _), (16, _), (17, _), (30, _)] ?_)
 all_goals (first | refine Br.ab ?_ | refine aJ 5 6 ?_ TT.mk)
 all_goals try (
 refine ax 5 ?_
 refine G2 ?_; refine Gs [(6, _)] ?_; refine Gt ?_
 first
  | exact ⟨by rw [decide_eq_false (fun e => by have := congrArg List.length e; simp only [List.length_map] at this; omega)], .refl _ _⟩
  | exact ⟨by rw [decide_eq_false (ik hy hz hyz)], kM.trans aM⟩
  | exact ⟨by rw [decide_eq_true (by rw [List.take_of_length_le (by omega), List.take_of_length_le (by omega)] at hn; exact hn)], ay⟩
 skip)
 all_goals try (
 refine ax 6 ?_
 refine WC.skip ?_
 skip)
 all_goals (refine Gn ?_; first | refine Br.ab ?_ | refine WC.region ?_)
 all_goals (refine Go ?_; first | refine Br.ab ?_ | (exact ⟨k + 1, ⟨rfl, rfl, rfl, rfl, rfl, trivial⟩, (by exact ⟨kM.trans aM, by omega, hlen, map_take hn hy hz hyz⟩), (by omega)⟩))
 try (refine Br.mk (i := 1000) ?_)
 refine Gn ?_; refine Gs [] ?_; refine G2 ?_; refine Gt ?_
 first
  | exact ⟨by rw [decide_eq_false (fun e => by have := congrArg List.length e; simp only [List.length_map] at this; omega)], .refl _ _⟩
  | exact ⟨by rw [decide_eq_false (ik hy hz hyz)], kM.trans aM⟩
  | exact ⟨by rw [decide_eq_true (by rw [List.take_of_length_le (by omega), List.take_of_length_le (by omega)] at hn; exact hn)], ay⟩
theorem I0 {h h0 : ah} (c : aX) (hk : c.ok h0) (hc : c.okB) : ag Tryz.prog 184 ⟨[.agg ⟨c.cells⟩]⟩ h fun u h' => u = .bool false ∧ Ext No h h' := by
 obtain ⟨nl, v, bs⟩ := c
 obtain ⟨h1, h2⟩ := hc
 obtain ⟨A, cc, e, _⟩ := hk.1
 dsimp only at e h1 h2
 subst e
 dsimp only [aX.cells]
 cases nl
 all_goals
   try have h1 := h1 rfl
   refine calls [(0, _)] Tryz.func184 rfl Tryz.ntmps184 rfl ⟨rfl, trivial⟩ ?_
   all_goals (refine WC.sr ?_; refine WL.ai (aB rfl) rfl rfl rfl ?_; rintro _ h1 ⟨b1, rfl, bO, aQ, ay⟩; refine Go ?_; refine G2 ?_; refine Ld ?_; refine Go ?_; refine bG 5 ?_ TT.mk; refine Gg ?_; first | refine WL.pass rfl rfl rfl ?_ | refine Ld ?_)
   all_goals (refine Gg ?_; refine Go ?_; refine bG 11 ?_ TT.mk; refine Gg ?_; refine Ld ?_; refine Gg ?_; refine Go ?_; refine Gs [(2, _)] ?_; refine Gt ?_; exact ⟨rfl, ay⟩)
theorem Bn {h : ah} {v : Value} (R : List aX) (hR : cF h v R) (ok : ∀ c ∈ R, c.okB) (hm : R.length ≤ 65535) : ag Tryz.prog 134 ⟨[v]⟩ h fun u h' => u = .bool true ∧ Ext No h h' := by
 obtain ⟨hr, ⟨_, A, c, rfl, _⟩, ho⟩ := hR
 have kh := vG R (fun _ => false) Tryz.call184 (fs := []) (us := []) hr (by unfold maxLen; omega) (fun x hx h' hx' => I0 x (ho x hx) (ok x hx))
 rw [show (R.any fun _ => false) = false by simp] at kh
 refine calls [(0, _)] Tryz.func134 rfl Tryz.ntmps134 rfl ⟨rfl, trivial⟩ ?_
 refine G2 ?_; refine G2 ?_; refine G2 ?_
 refine bG 7 ?_ TT.mk
 refine Gg ?_; refine WL.call (vs := [_, _]) rfl Tryz.call46 rfl (kh) rfl rfl rfl ?_
 rintro _ h2 ⟨rfl, aH⟩
 refine Gg ?_; refine Go ?_; refine Gs [(2, _)] ?_; refine Gt ?_
 exact ⟨rfl, aH⟩
theorem nQ {f : Fm} (k : f.may) : ((f.kind = 67 ∨ f.kind = 68) ∧ (f.what = 83 ∨ f.what = 80)) ∨ (f.kind ≠ 67 ∧ f.kind ≠ 68 ∧ f.what = 0) := by
 have hw := k.what
 unfold Wh at hw
 rcases hw with ⟨h1, h2⟩ | h
 · refine .inr ⟨fun e => h1 (.inl e), fun e => h1 (.inr e), ?_⟩
   have e := congrArg (fun x => x.2.1) k.own
   simp only [Fm.pl] at e
   rw [e]
   unfold dF
   repeat' split
   all_goals first | rfl | (exfalso; omega)
 · exact .inl h
theorem DK {h : ah} (f : Fm) (hf : f.ok h) (k : f.may) : ag Tryz.prog 135 ⟨[.agg ⟨f.cells⟩]⟩ h fun u h' => u = .bool true ∧ Ext No h h' := by
 have hw := nQ k
 clear k
 obtain ⟨⟨e1, _⟩, ⟨e2, _⟩, ⟨e3, _⟩, e4, _⟩ := hf
 obtain ⟨fk, w, n, p, t, vo, o, vf, fs, vs, rs, vp, ps, mx⟩ := f
 dsimp only at e1 e2 e3 e4 hw
 obtain ⟨_, _, rfl, _⟩ := e1
 obtain ⟨_, _, rfl, _⟩ := e2
 obtain ⟨_, _, rfl, _⟩ := e3
 obtain ⟨_, _, rfl, _⟩ := e4
 dsimp only [Fm.cells]
 rcases hw with ⟨hw | hw, hq | hq⟩ | ⟨hw, Mb, hq⟩
 all_goals
   refine calls [(0, _)] Tryz.func135 rfl Tryz.ntmps135 rfl ⟨rfl, trivial⟩ ?_
   all_goals (refine WC.sr ?_; refine WL.ai (aB rfl) rfl rfl rfl ?_; rintro _ h1 ⟨b1, rfl, bO, aQ, ay⟩; refine Go ?_; refine G3 ?_; refine Ld ?_; refine Go ?_; refine bG 6 ?_ TT.mk; refine Gg ?_; first | refine WL.pass rfl rfl rfl ?_ | refine Ld ?_)
   all_goals (refine Gg ?_; refine Go ?_; refine Gs [(1, _), (10, _)] ?_; refine aJ 1 2 ?_ TT.mk)
   all_goals try (
   refine ax 1 ?_
   all_goals (refine G2 ?_; refine Ld ?_; refine Go ?_; refine bG 14 ?_ TT.mk; refine Gg ?_; first | refine WL.pass rfl rfl rfl ?_ | refine Ld ?_)
   all_goals (refine Gg ?_; refine Go ?_; refine Gs [(2, _)] ?_; refine Gt ?_; first | exact ⟨rfl, ay⟩ | (exfalso; omega))
   skip)
   all_goals (refine ax 2 ?_; refine WC.skip ?_; refine Gn ?_; refine G2 ?_; refine Ld ?_; refine Go ?_; refine Gs [(2, _)] ?_; refine Gt ?_; first | exact ⟨rfl, ay⟩ | (exfalso; omega))
theorem I1 {h : ah} (f : Fm) (hf : f.ok h) (hw : ((f.kind = 67 ∨ f.kind = 68) ∧ (f.what = 83 ∨ f.what = 80)) ∨ (f.kind ≠ 67 ∧ f.kind ≠ 68 ∧ f.what = 0)) : ag Tryz.prog 138 ⟨[.agg ⟨f.cells⟩]⟩ h fun u h' => u = .agg ⟨(dF f).cells⟩ ∧ Ext No h h' := by
 obtain ⟨⟨e1, _⟩, ⟨e2, _⟩, ⟨e3, _⟩, e4, _⟩ := hf
 obtain ⟨fk, w, n, p, t, vo, o, vf, fs, vs, rs, vp, ps, mx⟩ := f
 dsimp only at e1 e2 e3 e4 hw
 obtain ⟨_, _, rfl, _⟩ := e1
 obtain ⟨_, _, rfl, _⟩ := e2
 obtain ⟨_, _, rfl, _⟩ := e3
 obtain ⟨_, _, rfl, _⟩ := e4
 dsimp only [Fm.cells]
 refine calls [(0, _)] Tryz.func138 rfl Tryz.ntmps138 rfl ⟨rfl, trivial⟩ ?_
 refine WC.sr ?_; refine WL.ai (aB rfl) rfl rfl rfl ?_
 rintro _ h1 ⟨b1, rfl, bO, aQ, ay⟩
 refine WL.ai (av (fun w => Tryz.zeroValue42 w)) rfl rfl rfl ?_
 rintro _ h2 ⟨b2, rfl, eS, bH, aH⟩
 have rG := aH.obj aQ aO
 refine Gn ?_; refine G2 ?_; refine Ld ?_; refine WL.step (aD (vs := [_]) (cs := [_, _, _, _, _, _, _, _, _, _]) (fun | [a0] => [a0, (.int .u8 0), (St []), (St []), (St []), (.slice none 0 0), (.slice none 0 0), (.slice none 0 0), (.slice none 0 0), (.int .i64 0)] | _ => []) rfl rfl (by kernel_rfl)) rfl rfl rfl ?_
 refine WL.ai (av (fun w => Tryz.zeroValue42 w)) rfl rfl rfl ?_
 rintro _ h3 ⟨b3, rfl, gb, bn, aP⟩
 have yR := aP.obj rG aO
 have yS := aP.obj bH aO
 have gK : ¬ b1 = b3 := by have := aj rG; omega
 have lz : ¬ b2 = b3 := by have := aj bH; omega
 refine WL.az (al Tryz.sizeOf42 rfl rfl rfl (by assumption) rfl (by simp [Value.oneCell'])) rfl rfl ?_
 rintro _ h4 ⟨bx, aW⟩
 have eH := aW.obj yR gK
 have fe := aW.obj yS lz
 have nk : Ext No h h4 := ((ay.trans aH).trans aP).trans' aW (fun q hq e => by have := ay.size; have := aH.size; omega)
 refine Gn ?_; refine Gs [(1, _), (2, _), (3, _)] ?_; refine G3 ?_; refine Ld ?_; refine Gn ?_; refine WC.block ?_; refine G2 ?_
 refine aJ 1 2 (Hb.mk fun hb => ?_) (Hb.mk fun hb => ?_)
 all_goals try (
 refine ax 1 ?_
 refine WC.bW (fun h' => Ext (fun q => q = b3) h4 h') 11 12 rfl dk ?_
 refine WH.tk 0 rfl (fun hq hC => ad rfl Tryz.underlying42 rfl Tryz.sizeOf9) rfl rfl rfl ?_ (hC := (by first | exact Ext.refl _ _ | assumption | exact aN.trans aM | exact (aN.trans aM).trans bh))
 refine WH.tk 1 rfl (fun hq hC => aA Tryz.isAgg9 rfl (by first | exact hC.cell (by first | exact aa eH rfl | assumption) gK)) rfl rfl rfl ?_ (hC := (by first | exact Ext.refl _ _ | assumption | exact aN.trans aM | exact (aN.trans aM).trans bh))
 refine WH.tk 2 rfl (fun hq hC => ad rfl Tryz.underlying42 rfl Tryz.sizeOf9) rfl rfl rfl ?_ (hC := (by first | exact Ext.refl _ _ | assumption | exact aN.trans aM | exact (aN.trans aM).trans bh))
 refine WH.tk 3 rfl (fun hq hC => aA Tryz.isAgg9 rfl (by first | exact hC.cell (by first | exact aa eH rfl | assumption) gK)) rfl rfl rfl ?_ (hC := (by first | exact Ext.refl _ _ | assumption | exact aN.trans aM | exact (aN.trans aM).trans bh))
 refine WH.tk 4 rfl (fun hq hC => ad rfl Tryz.underlying42 rfl Tryz.sizeOf39) rfl rfl rfl ?_ (hC := (by first | exact Ext.refl _ _ | assumption | exact aN.trans aM | exact (aN.trans aM).trans bh))
 refine WH.tk 5 rfl (fun hq hC => aA Tryz.isAgg39 rfl (by first | exact hC.cell (by first | exact aa eH rfl | assumption) gK)) rfl rfl rfl ?_ (hC := (by first | exact Ext.refl _ _ | assumption | exact aN.trans aM | exact (aN.trans aM).trans bh))
 refine WH.tk 6 rfl (fun hq hC => ad rfl Tryz.underlying42 rfl Tryz.sizeOf9) rfl rfl rfl ?_ (hC := (by first | exact Ext.refl _ _ | assumption | exact aN.trans aM | exact (aN.trans aM).trans bh))
 refine WH.one 7 (by kernel_rfl) ?_
 refine aE.cQ rfl (aC Tryz.sizeOf9 rfl rfl (by assumption) (Nat.le_of_ble_eq_true rfl) rfl rfl) rfl rfl ?_ (fun _ => by kernel_rfl)
 rintro _ h5 ⟨bT, aN⟩
 refine ⟨fun _ => aN, ?_⟩
 refine WH.tk 8 rfl (fun hq hC => ad rfl Tryz.underlying42 rfl Tryz.sizeOf9) rfl rfl rfl ?_ (hC := (by first | exact Ext.refl _ _ | assumption | exact aN.trans aM | exact (aN.trans aM).trans bh))
 refine WH.one 9 (by kernel_rfl) ?_
 refine aE.cQ rfl (aC Tryz.sizeOf9 rfl rfl (by assumption) (Nat.le_of_ble_eq_true rfl) rfl rfl) rfl rfl ?_ (fun _ => by kernel_rfl)
 rintro _ h6 ⟨bN, aM⟩
 refine ⟨fun _ => aN.trans aM, ?_⟩
 refine WH.tk 10 rfl (fun hq hC => ad rfl Tryz.underlying42 rfl Tryz.sizeOf39) rfl rfl rfl ?_ (hC := (by first | exact Ext.refl _ _ | assumption | exact aN.trans aM | exact (aN.trans aM).trans bh))
 refine WH.one 11 (by kernel_rfl) ?_
 refine aE.cQ rfl (aC Tryz.sizeOf39 rfl rfl (by assumption) (Nat.le_of_ble_eq_true rfl) rfl rfl) rfl rfl ?_ (fun _ => by kernel_rfl)
 rintro _ h7 ⟨bZ, bh⟩
 refine ⟨fun _ => (aN.trans aM).trans bh, ?_⟩
 have hE := (aN.trans aM).trans bh
 have gg := hE.obj fe lz
 have hbL := bZ
 refine WH.done (by kernel_rfl) ?_
 skip)
 all_goals try (
 refine ax 2 ?_
 refine G2 ?_; refine Gs [(1, _), (2, _), (3, _), (8, _), (20, _)] ?_
 refine aJ 3 4 (Hb.mk fun hb => ?_) (Hb.mk fun hb => ?_)
 all_goals try (
 refine ax 3 ?_
 refine WC.seq ?_; refine WC.bW (fun h' => Ext (fun q => q = b3) h4 h') 7 8 rfl dk ?_
 refine WH.tk 0 rfl (fun hq hC => ad rfl Tryz.underlying42 rfl Tryz.sizeOf9) rfl rfl rfl ?_ (hC := (by first | exact Ext.refl _ _ | assumption | exact aN.trans aM))
 refine WH.tk 1 rfl (fun hq hC => aA Tryz.isAgg9 rfl (by first | exact hC.cell (by first | exact aa eH rfl | assumption) gK)) rfl rfl rfl ?_ (hC := (by first | exact Ext.refl _ _ | assumption | exact aN.trans aM))
 refine WH.tk 2 rfl (fun hq hC => ad rfl Tryz.underlying42 rfl Tryz.sizeOf9) rfl rfl rfl ?_ (hC := (by first | exact Ext.refl _ _ | assumption | exact aN.trans aM))
 refine WH.tk 3 rfl (fun hq hC => aA Tryz.isAgg9 rfl (by first | exact hC.cell (by first | exact aa eH rfl | assumption) gK)) rfl rfl rfl ?_ (hC := (by first | exact Ext.refl _ _ | assumption | exact aN.trans aM))
 refine WH.tk 4 rfl (fun hq hC => ad rfl Tryz.underlying42 rfl Tryz.sizeOf9) rfl rfl rfl ?_ (hC := (by first | exact Ext.refl _ _ | assumption | exact aN.trans aM))
 refine WH.one 5 (by kernel_rfl) ?_
 refine aE.cQ rfl (aC Tryz.sizeOf9 rfl rfl (by assumption) (Nat.le_of_ble_eq_true rfl) rfl rfl) rfl rfl ?_ (fun _ => by kernel_rfl)
 rintro _ h5 ⟨bT, aN⟩
 refine ⟨fun _ => aN, ?_⟩
 refine WH.tk 6 rfl (fun hq hC => ad rfl Tryz.underlying42 rfl Tryz.sizeOf9) rfl rfl rfl ?_ (hC := (by first | exact Ext.refl _ _ | assumption | exact aN.trans aM))
 refine WH.one 7 (by kernel_rfl) ?_
 refine aE.cQ rfl (aC Tryz.sizeOf9 rfl rfl (by assumption) (Nat.le_of_ble_eq_true rfl) rfl rfl) rfl rfl ?_ (fun _ => by kernel_rfl)
 rintro _ h6 ⟨bN, aM⟩
 refine ⟨fun _ => aN.trans aM, ?_⟩
 have Mc := aN.trans aM
 have GR := Mc.obj eH gK
 refine WH.done (by kernel_rfl) ?_
 refine Gn ?_; refine Gs [(1, _), (2, _), (3, _)] ?_; refine WC.bW (fun h' => Ext (fun q => q = b3) h6 h') 11 12 rfl dk ?_
 refine WH.tk 0 rfl (fun hq hC => ad rfl Tryz.underlying42 rfl Tryz.sizeOf39) rfl rfl rfl ?_ (hC := (by first | exact Ext.refl _ _ | assumption | exact bh.trans bD | exact (bh.trans bD).trans cg))
 refine WH.tk 1 rfl (fun hq hC => aA Tryz.isAgg39 rfl (by first | exact hC.cell (by first | exact aa GR rfl | assumption) gK)) rfl rfl rfl ?_ (hC := (by first | exact Ext.refl _ _ | assumption | exact bh.trans bD | exact (bh.trans bD).trans cg))
 refine WH.tk 2 rfl (fun hq hC => ad rfl Tryz.underlying42 rfl Tryz.sizeOf40) rfl rfl rfl ?_ (hC := (by first | exact Ext.refl _ _ | assumption | exact bh.trans bD | exact (bh.trans bD).trans cg))
 refine WH.tk 3 rfl (fun hq hC => aA Tryz.isAgg40 rfl (by first | exact hC.cell (by first | exact aa GR rfl | assumption) gK)) rfl rfl rfl ?_ (hC := (by first | exact Ext.refl _ _ | assumption | exact bh.trans bD | exact (bh.trans bD).trans cg))
 refine WH.tk 4 rfl (fun hq hC => ad rfl Tryz.underlying42 rfl Tryz.sizeOf39) rfl rfl rfl ?_ (hC := (by first | exact Ext.refl _ _ | assumption | exact bh.trans bD | exact (bh.trans bD).trans cg))
 refine WH.tk 5 rfl (fun hq hC => aA Tryz.isAgg39 rfl (by first | exact hC.cell (by first | exact aa GR rfl | assumption) gK)) rfl rfl rfl ?_ (hC := (by first | exact Ext.refl _ _ | assumption | exact bh.trans bD | exact (bh.trans bD).trans cg))
 refine WH.tk 6 rfl (fun hq hC => ad rfl Tryz.underlying42 rfl Tryz.sizeOf39) rfl rfl rfl ?_ (hC := (by first | exact Ext.refl _ _ | assumption | exact bh.trans bD | exact (bh.trans bD).trans cg))
 refine WH.one 7 (by kernel_rfl) ?_
 refine aE.cQ rfl (aC Tryz.sizeOf39 rfl rfl (by assumption) (Nat.le_of_ble_eq_true rfl) rfl rfl) rfl rfl ?_ (fun _ => by kernel_rfl)
 rintro _ h7 ⟨bZ, bh⟩
 refine ⟨fun _ => bh, ?_⟩
 refine WH.tk 8 rfl (fun hq hC => ad rfl Tryz.underlying42 rfl Tryz.sizeOf40) rfl rfl rfl ?_ (hC := (by first | exact Ext.refl _ _ | assumption | exact bh.trans bD | exact (bh.trans bD).trans cg))
 refine WH.one 9 (by kernel_rfl) ?_
 refine aE.cQ rfl (aC Tryz.sizeOf40 rfl rfl (by assumption) (Nat.le_of_ble_eq_true rfl) rfl rfl) rfl rfl ?_ (fun _ => by kernel_rfl)
 rintro _ h8 ⟨bE, bD⟩
 refine ⟨fun _ => bh.trans bD, ?_⟩
 refine WH.tk 10 rfl (fun hq hC => ad rfl Tryz.underlying42 rfl Tryz.sizeOf39) rfl rfl rfl ?_ (hC := (by first | exact Ext.refl _ _ | assumption | exact bh.trans bD | exact (bh.trans bD).trans cg))
 refine WH.one 11 (by kernel_rfl) ?_
 refine aE.cQ rfl (aC Tryz.sizeOf39 rfl rfl (by assumption) (Nat.le_of_ble_eq_true rfl) rfl rfl) rfl rfl ?_ (fun _ => by kernel_rfl)
 rintro _ h9 ⟨bQ, cg⟩
 refine ⟨fun _ => (bh.trans bD).trans cg, ?_⟩
 have hE := Mc.trans ((bh.trans bD).trans cg)
 have gg := hE.obj fe lz
 have hbL := bQ
 refine WH.done (by kernel_rfl) ?_
 skip)
 all_goals try (
 refine ax 4 ?_
 refine G3 ?_
 refine aJ 5 6 (Hb.mk fun hb => ?_) (Hb.mk fun hb => ?_)
 all_goals try (
 refine ax 5 ?_
 refine WC.skip ?_
 skip)
 all_goals try (
 refine ax 6 ?_
 refine WC.region (Go ?_)
 skip)
 all_goals (refine Gn ?_; refine aJ 7 8 (Hb.mk fun hb => ?_) (Hb.mk fun hb => ?_))
 all_goals try (
 refine ax 7 ?_
 all_goals (refine G2 ?_; refine WL.ld rfl (by first | exact aa eH rfl | assumption) rfl rfl rfl (Go ?_); refine WL.az (aC Tryz.sizeOf5 rfl rfl (by assumption) (Nat.le_of_ble_eq_true rfl) rfl rfl) rfl rfl ?_; rintro _ h5 ⟨bT, aN⟩; have uS := aN.obj eH gK; refine Gn ?_; refine Gs [(1, _), (2, _), (3, _)] ?_; refine G2 ?_; refine WL.ld rfl (by first | exact aa uS rfl | assumption) rfl rfl rfl ?_; refine Gn ?_; refine WC.block ?_; refine G2 ?_; refine aJ 9 10 (Hb.mk fun hb => ?_) (Hb.mk fun hb => ?_))
 all_goals try (
 refine ax 9 ?_
 all_goals (refine WC.region (Go ?_); refine WL.ld rfl (by first | exact aa uS rfl | assumption) rfl rfl rfl (Go ?_); refine WL.az (aC Tryz.sizeOf9 rfl rfl (by assumption) (Nat.le_of_ble_eq_true rfl) rfl rfl) rfl rfl ?_; rintro _ h6 ⟨bN, aM⟩; have hE := aN.trans aM; have gg := hE.obj fe lz; have hbL := bN; refine Gn ?_)
 skip)
 all_goals try (
 refine ax 10 ?_
 all_goals (refine G2 ?_; refine Gs [(1, _), (2, _), (3, _), (50, _)] ?_; refine aJ 11 12 (Hb.mk fun hb => ?_) (Hb.mk fun hb => ?_))
 all_goals try (
 refine ax 11 ?_
 all_goals (refine WC.region (Go ?_); refine WL.ld rfl (by first | exact aa uS rfl | assumption) rfl rfl rfl (Go ?_); refine WL.az (aC Tryz.sizeOf9 rfl rfl (by assumption) (Nat.le_of_ble_eq_true rfl) rfl rfl) rfl rfl ?_; rintro _ h6 ⟨bN, aM⟩; have hE := aN.trans aM; have gg := hE.obj fe lz; have hbL := bN; refine Gn ?_)
 skip)
 all_goals try (
 refine ax 12 ?_
 all_goals (refine WC.skip ?_)
 skip)
 skip)
 skip)
 all_goals try (
 refine ax 8 ?_
 all_goals (refine G2 ?_; refine Gs [(1, _), (2, _), (3, _), (8, _), (55, _)] ?_; first | refine aJ 13 14 ?_ TT.mk | (refine aJ 13 14 (Hb.mk fun hb => ?_) (Hb.mk fun hb => ?_)))
 all_goals try (
 refine ax 13 ?_
 all_goals (refine WC.bW (fun h' => Ext (fun q => q = b3) h4 h') 7 8 rfl dk ?_; refine WH.tk 0 rfl (fun hq hC => ad rfl Tryz.underlying42 rfl Tryz.sizeOf9) rfl rfl rfl ?_ (hC := (by first | exact Ext.refl _ _ | assumption | exact aN.trans aM)); refine WH.tk 1 rfl (fun hq hC => aA Tryz.isAgg9 rfl (by first | exact hC.cell (by first | exact aa eH rfl | assumption) gK)) rfl rfl rfl ?_ (hC := (by first | exact Ext.refl _ _ | assumption | exact aN.trans aM)); refine WH.tk 2 rfl (fun hq hC => ad rfl Tryz.underlying42 rfl Tryz.sizeOf3) rfl rfl rfl ?_ (hC := (by first | exact Ext.refl _ _ | assumption | exact aN.trans aM)); refine WH.tk 3 rfl (fun hq hC => aA Tryz.isAgg3 rfl (by first | exact hC.cell (by first | exact aa eH rfl | assumption) gK)) rfl rfl rfl ?_ (hC := (by first | exact Ext.refl _ _ | assumption | exact aN.trans aM)); refine WH.tk 4 rfl (fun hq hC => ad rfl Tryz.underlying42 rfl Tryz.sizeOf9) rfl rfl rfl ?_ (hC := (by first | exact Ext.refl _ _ | assumption | exact aN.trans aM)); refine WH.one 5 (by kernel_rfl) ?_; refine aE.cQ rfl (aC Tryz.sizeOf9 rfl rfl (by assumption) (Nat.le_of_ble_eq_true rfl) rfl rfl) rfl rfl ?_ (fun _ => by kernel_rfl); rintro _ h5 ⟨bT, aN⟩; refine ⟨fun _ => aN, ?_⟩; refine WH.tk 6 rfl (fun hq hC => ad rfl Tryz.underlying42 rfl Tryz.sizeOf3) rfl rfl rfl ?_ (hC := (by first | exact Ext.refl _ _ | assumption | exact aN.trans aM)); refine WH.one 7 (by kernel_rfl) ?_; refine aE.cQ rfl (aC Tryz.sizeOf3 rfl rfl (by assumption) (Nat.le_of_ble_eq_true rfl) rfl rfl) rfl rfl ?_ (fun _ => by kernel_rfl); rintro _ h6 ⟨bN, aM⟩; refine ⟨fun _ => aN.trans aM, ?_⟩; have hE := aN.trans aM; have gg := hE.obj fe lz; have hbL := bN; refine WH.done (by kernel_rfl) ?_)
 skip)
 all_goals try (
 refine ax 14 ?_
 refine G2 ?_
 refine aJ 15 16 (Hb.mk fun hb => ?_) (Hb.mk fun hb => ?_)
 all_goals try (
 refine ax 15 ?_
 refine WC.region (Go ?_); refine Ld ?_; refine Go ?_; refine WL.az (aC Tryz.sizeOf9 rfl rfl (by assumption) (Nat.le_of_ble_eq_true rfl) rfl rfl) rfl rfl ?_
 rintro _ h5 ⟨bT, hE⟩
 have gg := hE.obj fe lz
 have hbL := bT
 refine Gn ?_
 skip)
 all_goals try (
 refine ax 16 ?_
 refine WC.skip ?_
 skip)
 skip)
 skip)
 skip)
 skip)
 all_goals (refine Gn ?_; refine WC.sr ?_; first | have := hE | (have hwx := hw; exfalso; clear hw; omega) | (exfalso; rcases hw with ⟨h1, h2 | h2⟩ | ⟨h1, h2, h3⟩; · exact absurd h2 (by assumption); · exact absurd h2 (by assumption); · (first | exact absurd (by assumption) h1 | exact absurd (by assumption) h2)) | skip)
 all_goals (refine WL.step (an Tryz.isAgg42 Tryz.sizeOf42 rfl rfl (by exact (by first | exact At.au hbL | exact At.au bx))) rfl rfl rfl ?_; refine WL.az (al Tryz.sizeOf42 rfl rfl rfl (by first | exact gg | exact fe) rfl (by simp [Value.oneCell'])) rfl rfl ?_; rintro _ h9 ⟨bQ, cg⟩; refine Gn ?_; refine WC.ret ?_; repeat' (with_reducible first | refine ba ?_ | refine aV ?_))
 all_goals (refine bY _ ⟨⟨_, rfl, bB Tryz.isAgg42 Tryz.sizeOf42 (by assumption) rfl⟩, trivial⟩ ?_)
 all_goals (
  have qX := ay.size
  have xY := aH.size
  refine ⟨?_, by first | exact (nk.trans' hE (fun q hq e => by omega)).trans' cg (fun q hq e => by omega) | exact nk.trans' cg (fun q hq e => by omega)⟩
  first
   | (exfalso; clear hw; omega)
   | (simp only [dF, if_pos, *]; rfl)
   | (simp [dF, zF, Fm.cells, *]; done))
theorem DL {h : ah} (a b : Fm) (ha : a.ok h) (hb : b.ok h) (e : a.pl = b.pl) :
   ag Tryz.prog 137 ⟨[.agg ⟨a.cells⟩, .agg ⟨b.cells⟩]⟩ h fun u h' => u = .bool true ∧ Ext No h h' := by
 obtain ⟨k1, w1, n1, p1, t1, JU, o1, JV, f1, L4, r1, NC, c1, m1⟩ := a
 obtain ⟨k2, w2, n2, p2, t2, JW, o2, JX, f2, ND, r2, Hu, c2, m2⟩ := b
 simp only [Fm.pl, Prod.mk.injEq] at e
 obtain ⟨rfl, rfl, rfl, rfl, rfl, rfl, rfl, rfl, ec, rfl⟩ := e
 obtain ⟨⟨ao, lo⟩, ⟨af, lf⟩, ⟨as', ls⟩, ap⟩ := ha
 obtain ⟨⟨bo, _⟩, ⟨bf, _⟩, ⟨bs', _⟩, bp⟩ := hb
 simp only at ao af as' ap bo bf bs' bp lo lf ls
 obtain ⟨Ao, co, rfl, _⟩ := id ao
 obtain ⟨Bo, do_, rfl, _⟩ := id bo
 obtain ⟨Af, cf, rfl, _⟩ := id af
 obtain ⟨Bf, df, rfl, _⟩ := id bf
 obtain ⟨As, cs, rfl, _⟩ := id as'
 obtain ⟨Bs, ds, rfl, _⟩ := id bs'
 have kc := fun {g : ah} (x : Ext No h g) => sF c1 c2 (ap.aq x) (bp.aq x)
 rw [decide_eq_true ec] at kc
 obtain ⟨_, ⟨_, Ap, cp, rfl, _⟩, _⟩ := id ap
 obtain ⟨_, ⟨_, Bp, dp, rfl, _⟩, _⟩ := id bp
 dsimp only [Fm.cells]
 refine calls [(0, _), (1, _)] Tryz.func137 rfl Tryz.ntmps137 rfl ⟨rfl, rfl, trivial⟩ ?_
 refine WC.sr ?_; refine WL.ai (aB rfl) rfl rfl rfl ?_
 rintro _ g1 ⟨b1, rfl, bO, aQ, ay⟩
 refine WL.ai (aB rfl) rfl rfl rfl ?_
 rintro _ g2 ⟨b2, rfl, eS, bH, aH⟩
 have og := aH.obj aQ aO
 have hx := ay.trans aH
 refine Go ?_; refine G2 ?_; refine Ld ?_; refine Go ?_; refine Ld ?_; refine Go ?_; refine Ld ?_; refine WL.step (aD (vs := [_, _, _]) (cs := [_, _, _]) (fun | [a0, a1, a2] => [a0, a1, a2] | _ => []) rfl rfl (by kernel_rfl)) rfl rfl rfl (Go ?_)
 refine Ld ?_; refine Go ?_; refine Ld ?_; refine Go ?_; refine Ld ?_; refine WL.step (aD (vs := [_, _, _]) (cs := [_, _, _]) (fun | [a0, a1, a2] => [a0, a1, a2] | _ => []) rfl rfl (by kernel_rfl)) rfl rfl rfl ?_
 refine WL.step (bK.dL rfl (mM (us := [n1, p1, t1]) (vs := [n1, p1, t1]) Tryz.underlying251 (show Tryz.prog.info? 9 = some Tryz.t9 by kernel_rfl) Tryz.underlying9 (by kernel_rfl) (by kernel_rfl) (by kernel_rfl) rfl rfl rfl rfl)) rfl rfl rfl (Go ?_)
 refine Gs [(2, _), (3, _), (5, _)] ?_; refine G2 ?_; refine Ld ?_; refine Go ?_; refine Ld ?_; refine WL.call (vs := [_, _]) rfl Tryz.call188 rfl ((gJ o1 o1 (ao.aq hx) (bo.aq hx) lo).as (congrArg Value.bool (decide_eq_true rfl))) rfl rfl rfl ?_
 rintro _ hz ⟨rfl, _⟩
 subst hz
 refine Go ?_
 refine bG 27 ?_ TT.mk
 refine Gg ?_; refine Ld ?_; refine Gg ?_; refine Ld ?_; refine WL.call (vs := [_, _]) rfl Tryz.call188 rfl ((gJ f1 f1 (af.aq hx) (bf.aq hx) lf).as (congrArg Value.bool (decide_eq_true rfl))) rfl rfl rfl ?_
 rintro _ hz ⟨rfl, _⟩
 subst hz
 refine Go ?_
 refine bG 34 ?_ TT.mk
 refine Gg ?_; refine Ld ?_; refine Gg ?_; refine Ld ?_; refine WL.call (vs := [_, _]) rfl Tryz.call188 rfl ((gJ r1 r1 (as'.aq hx) (bs'.aq hx) ls).as (congrArg Value.bool (decide_eq_true rfl))) rfl rfl rfl ?_
 rintro _ hz ⟨rfl, _⟩
 subst hz
 refine Go ?_; refine Gs [(2, _), (3, _), (5, _), (6, _)] ?_; refine G2 ?_; refine Ld ?_; refine Go ?_; refine Ld ?_; refine Go ?_
 refine bG 46 ?_ TT.mk
 refine Gg ?_; refine Ld ?_; refine Gg ?_; refine Ld ?_; refine Gg ?_; refine Go ?_
 refine bG 53 ?_ TT.mk
 refine Gg ?_; refine Ld ?_; refine Gg ?_; refine Ld ?_; refine Gg ?_; refine Go ?_
 refine bG 60 ?_ TT.mk
 refine Gg ?_; refine Go ?_
 refine bG 63 ?_ TT.mk
 refine Gg ?_; refine Go ?_
 refine bG 66 ?_ TT.mk
 refine Gg ?_; refine Ld ?_; refine Gg ?_; refine Ld ?_; refine WL.call (vs := [_, _, _]) rfl Tryz.call189 rfl (kc hx) rfl rfl rfl ?_
 rintro _ g3 ⟨rfl, aP⟩
 refine Go ?_; refine Gs [(4, _)] ?_; refine Gt ?_
 exact ⟨rfl, hx.trans aP⟩
theorem nR {l:List Int} {lo hi:Int} (hm:l.length≤65535) (h:∀ n∈l,lo≤n∧n≤hi):mL l lo hi=true:=by
 unfold mL
 rw [decide_eq_true hm,show (l.any fun n=>decide (n < lo) || decide (hi < n))=false from List.any_eq_false.2 fun n hn=>by have:=h n hn;simp;omega]
 rfl
theorem sG {k:Int} (h:K6 k) {g:ah}:ag Tryz.prog 93 ⟨[.int .u8 k]⟩ g fun u h'=>u=In 1∧Ext No g h':=by
 obtain ⟨k8,Js,hkn⟩:∃ k8:UInt8,Value.int .u8 k=By k8∧iV k8=1:=by
   rcases h with rfl | rfl | rfl | rfl | rfl | rfl | rfl | rfl | rfl
   · exact ⟨66,rfl,by decide⟩
   · exact ⟨67,rfl,by decide⟩
   · exact ⟨68,rfl,by decide⟩
   · exact ⟨69,rfl,by decide⟩
   · exact ⟨72,rfl,by decide⟩
   · exact ⟨80,rfl,by decide⟩
   · exact ⟨81,rfl,by decide⟩
   · exact ⟨83,rfl,by decide⟩
   · exact ⟨88,rfl,by decide⟩
 rw [Js,← hkn]
 exact rA k8
theorem Bq {h:ah} (f:Fm) (hf:f.ok h) (w:f.qB) (k:f.may):ag Tryz.prog 97 ⟨[.agg ⟨f.cells⟩]⟩ h fun u h'=>u=In 0∧Ext No h h':=by
 have hkno:=fun {g:ah}=>sG (g:=g) k.kind
 have hof:=fun {g:ah} (x:Ext No h g)=>I1 f (hf.aq x) (nQ k)
 have hsa:=fun {g:ah} (x:Ext No h g)=>DL f (dF f) (hf.aq x) (sD (hf.aq x)) k.own
 have hwh:=fun {g:ah} (x:Ext No h g)=>DK f (hf.aq x) k
 have ht:[f.name,f.portal,f.text].all aZ=true:=by simp [k.name,k.portal,k.text]
 have w1:=nR (lo:=0) (hi:=4294967295) (by have:=w.oids;omega) k.oids
 have w2:=nR (lo:=0) (hi:=65535) (by have:=w.formats;omega) k.formats
 have w3:=nR (lo:=0) (hi:=65535) (by have:=w.results;omega) k.results
 have hmx:=k.max
 have hpo:=k.params
 clear k
 generalize hob:dF f=ob at hof hsa
 obtain ⟨EU,EV,EW,ya,Bd,GL,GM,GN⟩:=w
 obtain ⟨⟨e1,l1⟩,⟨e2,l2⟩,⟨e3,l3⟩,e4⟩:=hf
 obtain ⟨fk,w,n,p,t,vo,o,vf,fs,vs,rs,vp,ps,mx⟩:=f
 dsimp only at e1 e2 e3 e4 l1 l2 l3 EU EV EW ya hmx hpo ht w1 w2 w3 hkno
 have k1:=fun {g:ah} (x:Ext No h g)=>ij o 0 4294967295 (e1.aq x) l1
 have k2:=fun {g:ah} (x:Ext No h g)=>ij fs 0 65535 (e2.aq x) l2
 have k3:=fun {g:ah} (x:Ext No h g)=>ij rs 0 65535 (e3.aq x) l3
 have k4:=fun {g:ah} (x:Ext No h g)=>Bn ps (e4.aq x) hpo (by omega)
 rw [w1] at k1
 rw [w2] at k2
 rw [w3] at k3
 obtain ⟨A1,z1,rfl,_⟩:=id e1
 obtain ⟨A2,z2,rfl,_⟩:=id e2
 obtain ⟨A3,z3,rfl,_⟩:=id e3
 obtain ⟨_,⟨_,A4,z4,rfl,_⟩,_⟩:=id e4
 dsimp only [Fm.cells] at hof hsa hwh ⊢
 refine calls [(0,_)] Tryz.func97 rfl Tryz.ntmps97 rfl ⟨rfl,trivial⟩ ?_
 refine WC.sr ?_;refine WL.ai (aB rfl) rfl rfl rfl ?_
 rintro _ g1 ⟨b1,rfl,bO,aQ,ay⟩
 refine Go ?_;refine G3 ?_;refine Ld ?_;refine WL.call (vs:=[_]) rfl Tryz.call93 rfl (hkno) rfl rfl rfl ?_
 rintro _ g2 ⟨rfl,aH⟩
 have bH:=aH.obj aQ aO
 have X2:=ay.trans aH
 refine Go ?_;refine Gs [(1,_),(7,_)] ?_
 refine aJ 1 2 ?_ TT.mk
 all_goals (refine ax 2 ?_)
 refine WC.skip ?_;refine Gn ?_;refine G2 ?_;refine Ld ?_;refine WL.call (vs:=[_,_,_]) rfl Tryz.call133 rfl (k1 X2) rfl rfl rfl ?_
 rintro _ g3 ⟨rfl,aP⟩
 have bn:=aP.obj bH aO
 have X3:=X2.trans aP
 refine Go ?_
 refine bG 11 ?_ TT.mk
 refine Gg ?_;refine Ld ?_;refine WL.call (vs:=[_,_,_]) rfl Tryz.call133 rfl (k2 X3) rfl rfl rfl ?_
 rintro _ g4 ⟨rfl,aW⟩
 have bx:=aW.obj bn aO
 have X4:=X3.trans aW
 refine Go ?_
 refine bG 16 ?_ TT.mk
 refine Gg ?_;refine Ld ?_;refine WL.call (vs:=[_,_,_]) rfl Tryz.call133 rfl (k3 X4) rfl rfl rfl ?_
 rintro _ g5 ⟨rfl,aN⟩
 have bT:=aN.obj bx aO
 have X5:=X4.trans aN
 refine Go ?_
 refine bG 21 ?_ TT.mk
 refine Gg ?_;refine Ld ?_;refine WL.call (vs:=[_]) rfl Tryz.call134 rfl (k4 X5) rfl rfl rfl ?_
 rintro _ g6 ⟨rfl,aM⟩
 have bN:=aM.obj bT aO
 have X6:=X5.trans aM
 refine Go ?_;refine Gs [(1,_),(3,_)] ?_;refine WC.seq ?_;refine WC.sr ?_;refine WL.step (an Tryz.isAgg42 Tryz.sizeOf42 rfl rfl (by exact At.au bN)) rfl rfl rfl ?_
 refine WL.call (vs:=[_]) rfl Tryz.call135 rfl (hwh X6) rfl rfl rfl ?_
 rintro _ g7 ⟨rfl,bh⟩
 have bZ:=bh.obj bN aO
 have X7:=X6.trans bh
 refine Go ?_
 refine bG 29 ?_ TT.mk
 refine Gg ?_;refine Go ?_
 refine bG 33 ?_ TT.mk
 refine Gg ?_;refine Ld ?_;refine Gg ?_;refine Ld ?_;refine Gg ?_;refine Ld ?_;refine WL.ai (aw (vs:=[_,_,_]) (cs:=[_,_,_]) (fun | [a0,a1,a2]=>[a0,a1,a2] | _=>[]) Tryz.underlying249 rfl rfl (by kernel_rfl)) rfl rfl rfl ?_
 rintro _ g8 ⟨b8,rfl,Fz,bE,bD⟩
 have bQ:=bD.obj bZ aO
 have X8:=X7.trans bD
 refine WL.call (vs:=[_]) rfl Tryz.call136 rfl (rz [n,p,t] (bz bE rfl) (by simp [maxLen])) rfl rfl rfl ?_
 rintro _ hz ⟨rfl,_⟩
 subst hz
 rw [ht]
 refine Gg ?_;refine Go ?_
 refine bG 44 ?_ TT.mk
 refine Gg ?_;refine Ld ?_;refine Gg ?_;refine Go ?_
 refine bG 49 ?_ TT.mk
 refine Gg ?_;refine Ld ?_;refine Gg ?_;refine Go ?_;refine Gs [(1,_),(53,_)] ?_
 refine aJ 3 4 ?_ TT.mk
 all_goals (refine ax 4 ?_)
 refine WC.skip ?_;refine Gn ?_;refine WC.seq ?_;refine WC.seq ?_;refine WC.bW (fun h'=>h'[b1]?=some (.cells ⟨[.int .u8 fk,.int .u8 w,St n,St p,St t,.slice A1 o.length z1,.slice A2 fs.length z2,.slice A3 rs.length z3,.slice A4 ps.length z4,In mx]⟩ 42 (0,0))) 5 5 rfl dk ?_
 refine WH.tk 0 rfl (fun hq hC=>an Tryz.isAgg42 Tryz.sizeOf42 rfl rfl (by exact At.au hC)) rfl rfl rfl ?_ (hC:=(by first | exact xP | exact iA | exact bQ))
 refine WH.tk 1 rfl (fun hq hC=>an Tryz.isAgg42 Tryz.sizeOf42 rfl rfl (by exact At.au hC)) rfl rfl rfl ?_ (hC:=(by first | exact xP | exact iA | exact bQ))
 refine WH.one 2 (by kernel_rfl) ?_
 refine aE.call (vs:=[_]) rfl rfl Tryz.call138 rfl (hof X8) rfl rfl rfl ?_ (fun _=>by kernel_rfl)
 rintro _ g10 ⟨rfl,cG⟩
 have iA:=cG.obj bQ aO
 have wY:=X8.trans cG
 refine ⟨fun _=>iA,?_⟩
 refine WH.one 3 (by kernel_rfl) ?_
 refine aE.call (vs:=[_,_]) rfl rfl Tryz.call137 rfl (hsa wY) rfl rfl rfl ?_ (fun _=>by kernel_rfl)
 rintro _ g11 ⟨rfl,dA⟩
 have xP:=dA.obj iA aO
 refine ⟨fun _=>xP,?_⟩
 refine WH.tk 4 rfl (fun hq hC=>cL rfl) rfl rfl rfl ?_ (hC:=(by first | exact xP | exact iA | exact bQ))
 refine WH.done (by kernel_rfl) ?_
 refine Gn ?_;refine Gs [(58,_)] ?_
 refine aJ 5 6 ?_ TT.mk
 all_goals (refine ax 6 ?_)
 refine WC.skip ?_;refine Gn ?_;refine G2 ?_;refine Gt ?_
 exact ⟨rfl,wY.trans dA⟩
structure Hid (p:Prop):Prop where
 out:p
theorem jy {v:Value} {q:Nat} (h:dy v [] q):False:=by
 rcases h with ⟨h,_⟩ | ⟨c,h,_⟩
 · exact absurd h (Nat.lt_irrefl 0)
 · exact nomatch h
theorem NJ {w:Int} (h:w=83∨w=80):[UInt8.ofNat w.toNat]=be w 1:=by
 rcases h with rfl | rfl <;> rfl
def Cp (n:Int):Int:=if n < 0 then n+4294967296 else n
theorem GS {n:Int} (h : -2147483648≤n):be n 4=be (Cp n) 4:=by
 unfold Cp
 split
 · have h:∀ i,i < 4→bI (n+256 ^ 4) i=bI n i:=fun i hi=>yJ hi
   exact (jn (m:=n+256 ^ 4) (n:=n) h (by decide) 4).symm
 · rfl
theorem Bt {h:ah} {n:Int} (hn : -2147483648≤n∧n≤2147483647):ag Tryz.prog 131 ⟨[In (Cp n),In 4]⟩ h fun u h'=>u=In n∧h'=h:=by
 have kz:=fun h'=>wc (h:=h') (s:=4) (.inr (.inr rfl))
 have ks:=fun h'=>yE (h:=h') 4 (.inr (.inr rfl))
 simp only [show ((256:Int) ^ 4)=4294967296 from rfl] at ks
 have hu:Cp n=if n < 0 then n+4294967296 else n:=rfl
 by_cases h0:n < 0
 · rw [if_pos h0] at hu
   generalize Cp n=m at hu ⊢
   refine calls [(0,_),(1,_)] Tryz.func131 rfl Tryz.ntmps131 rfl ⟨rfl,rfl,trivial⟩ ?_
   refine G2 ?_;refine G3 ?_;refine WL.call (vs:=[_]) rfl Tryz.call180 rfl (kz _) rfl rfl rfl ?_
   rintro _ hz ⟨rfl,_⟩
   subst hz
   refine Go ?_
   refine aJ 1 2 ?_ TT.mk
   all_goals (refine ax 2 ?_)
   refine WC.skip ?_;refine Gn ?_;refine Gs [(0,_),(1,_)] ?_;refine G3 ?_;refine WL.call (vs:=[_]) rfl Tryz.call181 rfl (ks _) rfl rfl rfl ?_
   rintro _ hz ⟨rfl,_⟩
   subst hz
   refine WL.step (jl rfl rfl (by decide) (kF (by omega) (by decide))) rfl rfl rfl ?_
   rw [show (4294967296:Int).tdiv 2=2147483648 from rfl]
   refine Go ?_;refine G2 ?_
   refine bG 16 ?_ TT.mk
   refine Gg ?_;refine WL.call (vs:=[_]) rfl Tryz.call181 rfl (ks _) rfl rfl rfl ?_
   rintro _ hz ⟨rfl,_⟩
   subst hz
   refine Gg ?_;refine Go ?_;refine Gs [(0,_),(1,_),(21,_)] ?_
   refine aJ 3 4 ?_ TT.mk
   all_goals (refine ax 3 ?_)
   refine WC.region (Go ?_);refine WL.call (vs:=[_]) rfl Tryz.call181 rfl (ks _) rfl rfl rfl ?_
   rintro _ hz ⟨rfl,_⟩
   subst hz
   refine Go ?_;refine Gn ?_;refine G2 ?_;refine Gs [(4,_)] ?_;refine Gt ?_
   exact ⟨congrArg In (by omega),rfl⟩
 · rw [if_neg h0] at hu
   generalize Cp n=m at hu ⊢
   refine calls [(0,_),(1,_)] Tryz.func131 rfl Tryz.ntmps131 rfl ⟨rfl,rfl,trivial⟩ ?_
   refine G2 ?_;refine G3 ?_;refine WL.call (vs:=[_]) rfl Tryz.call180 rfl (kz _) rfl rfl rfl ?_
   rintro _ hz ⟨rfl,_⟩
   subst hz
   refine Go ?_
   refine aJ 1 2 ?_ TT.mk
   all_goals (refine ax 2 ?_)
   refine WC.skip ?_;refine Gn ?_;refine Gs [(0,_),(1,_)] ?_;refine G3 ?_;refine WL.call (vs:=[_]) rfl Tryz.call181 rfl (ks _) rfl rfl rfl ?_
   rintro _ hz ⟨rfl,_⟩
   subst hz
   refine WL.step (jl rfl rfl (by decide) (kF (by omega) (by decide))) rfl rfl rfl ?_
   rw [show (4294967296:Int).tdiv 2=2147483648 from rfl]
   refine Go ?_;refine G2 ?_
   refine bG 16 ?_ TT.mk
   refine Gg ?_;refine WL.pass rfl rfl rfl ?_;refine Gg ?_;refine Go ?_;refine Gs [(0,_),(1,_),(21,_)] ?_
   refine aJ 3 4 ?_ TT.mk
   all_goals (refine ax 4 ?_)
   refine WC.skip ?_;refine Gn ?_;refine G2 ?_;refine Gs [(4,_)] ?_;refine Gt ?_
   exact ⟨congrArg In (by omega),rfl⟩
abbrev NK:=Int × Int × List UInt8 × List UInt8 × List UInt8 × List Int × List Int × List Int × List (Bool × List UInt8) × Int
theorem nT (f:Fm):(dF f).pl=(if f.kind=80 then (f.kind,0,f.name,[],f.text,f.oids,[],[],[],0)
   else if f.kind=66 then (f.kind,0,f.name,f.portal,[],[],f.formats,f.results,f.params.map aX.pl,0)
   else if f.kind=67∨f.kind=68 then (if f.what=83 then (f.kind,f.what,f.name,[],[],[],[],[],[],0) else (f.kind,f.what,[],f.portal,[],[],[],[],[],0))
   else if f.kind=69 then (f.kind,0,[],f.portal,[],[],[],[],[],f.max)
   else if f.kind=81 then (f.kind,0,[],[],f.text,[],[],[],[],0)
   else (f.kind,0,[],[],[],[],[],[],[],0):NK):=by
 unfold dF
 repeat' split
 all_goals rfl
def Fm.A (f:Fm) (q:Nat):Prop:=f.vo.ownBlock=some q∨f.vf.ownBlock=some q∨f.vs.ownBlock=some q∨dy f.vp f.params q
theorem eD (h:ah):Rd h (.slice none 0 0) 1 ([]:List Int).length (ints []):=Rd.nil _ _
theorem DM {h:ah} {b:Nat} {v:Value} (f:Fm) (w:f.qB) (k:f.may) (sc:Sc h b v (fj f)) (hv:∀ q,v.ownBlock=some q→q < h.size) :
   ag Tryz.prog 95 ⟨[.agg ⟨[.pointer (some ⟨b,0,none⟩)]⟩,.int .u8 f.kind]⟩ h fun u h'=>∃ (g:Fm) (v':Value),u=.agg ⟨g.cells⟩∧g.pl=f.pl∧g.ok h'∧(∀ q,g.A q→h.size≤q)∧Sc h' b v' []∧Ext (fun q=>q=b) h h':=by
 have hlb:=aj sc.bq
 have l4:=nP w.params w.cells
 have hE:fj f=(if f.kind=80 then f.name++[0]++f.text++[0]++be f.oids.length 2++dG 4 f.oids
   else if f.kind=66 then f.portal++[0]++f.name++[0]++be f.formats.length 2++dG 2 f.formats++be f.params.length 2++fW (f.params.map aX.pl)++be f.results.length 2++dG 2 f.results
   else if f.kind=67∨f.kind=68 then [UInt8.ofNat f.what.toNat]++(f.name++f.portal)++[0]
   else if f.kind=69 then f.portal++[0]++be f.max 4
   else if f.kind=81 then f.text++[0]
   else []):=rfl
 have hK:=nT f
 rw [← k.own] at hK
 have hwh:Hid ((f.kind=67∨f.kind=68)→(f.what=83∨f.what=80)):=⟨fun z=>(nQ k).elim (fun y=>y.2) (fun y=>(z.elim y.1 y.2.1).elim)⟩
 have c1:=k.name
 have c2:=k.portal
 have c3:=k.text
 have m1:=k.oids
 have m2:=k.formats
 have m3:=k.results
 have m4:=k.params
 have m5:=k.max
 have hcx:aZ (f.name++f.portal)=true:=by rw [jw,c1,c2];rfl
 have Md:∀ c∈f.params.map aX.pl,(c.1=true→c.2.length=0)∧c.2.length≤1000000:=fun c hc=>by
   obtain ⟨d,hd,rfl⟩:=List.mem_map.1 hc
   exact ⟨(m4 d hd).1,by have:=w.cells d hd;show d.bytes.length≤_;omega⟩
 have I2:=lV k.kind
 clear k m4
 obtain ⟨EU,EV,EW,ya,Bd,GL,GM,GN⟩:=w
 clear Bd
 generalize fj f=EM at hE sc
 have hPL:f.pl=(f.kind,f.what,f.name,f.portal,f.text,f.oids,f.formats,f.results,f.params.map aX.pl,f.max):=rfl
 generalize f.pl=PL at hK hPL ⊢
 obtain ⟨fk,ww,n,p,t,vo,o,vf,fs,vs,rs,vp,ps,mx⟩:=f
 dsimp only at hE hK hwh c1 c2 c3 m1 m2 m3 Md m5 hcx EU EV EW ya GL GM GN l4 hPL I2 ⊢
 generalize hR:ps.map aX.pl=R at *
 have NL:R.length≤50:=by rw [← hR,List.length_map];exact ya
 have eR:((ps.length:Nat):Int)=((R.length:Nat):Int):=by rw [← hR,List.length_map]
 rw [eR] at hE
 refine calls [(0,_),(1,_)] Tryz.func95 rfl Tryz.ntmps95 rfl ⟨rfl,rfl,trivial⟩ ?_
 refine WC.sr ?_;refine WL.ai (aB rfl) rfl rfl rfl ?_
 rintro _ h1 ⟨b1,rfl,bO,aQ,ay⟩
 refine WL.ai (av (fun w=>Tryz.zeroValue42 w)) rfl rfl rfl ?_
 rintro _ h2 ⟨b2,rfl,eS,bH,aH⟩
 refine Gn ?_;refine G2 ?_;refine WL.step (aD (vs:=[_]) (cs:=[_,_,_,_,_,_,_,_,_,_]) (fun | [a0]=>[a0,(.int .u8 0),(St []),(St []),(St []),(.slice none 0 0),(.slice none 0 0),(.slice none 0 0),(.slice none 0 0),(.int .i64 0)] | _=>[]) rfl rfl (by kernel_rfl)) rfl rfl rfl ?_
 refine WL.ai (av (fun w=>Tryz.zeroValue42 w)) rfl rfl rfl ?_
 rintro _ h3 ⟨b3,rfl,gb,bn,aP⟩
 refine WL.az (al Tryz.sizeOf42 rfl rfl rfl (by assumption) rfl (by simp [Value.oneCell'])) rfl rfl ?_
 rintro _ h4 ⟨bx,aW⟩
 have s1:=ay.size
 have s2:=aH.size
 have l1:=aj aQ
 have l2:=aj bH
 have n3:b3 ≠ b:=by omega
 have n1:b1 ≠ b:=by omega
 have n2:b2 ≠ b:=by omega
 have X4:Ext No h h4:=((ay.trans aH).trans aP).trans' aW (fun q hq e=>by omega)
 have bP:=aW.obj ((aH.trans aP).obj aQ aO) (fun e=>by omega)
 have iJ:=aW.obj (aP.obj bH aO) (fun e=>by omega)
 have uU:=sc.ext X4 aO (fun _ _=>aO)
 have O3:∀ q,v.ownBlock=some q→q < h4.size:=fun q hq=>(by have:=hv q hq;have:=X4.size;omega)
 have s4:=X4.size
 have gK:b1 ≠ b3:=by omega
 have lz:b2 ≠ b3:=by omega
 refine Gn ?_;refine G3 ?_;refine Gs [(2,_),(4,_),(5,_),(9,_)] ?_;refine WC.block ?_;refine G2 ?_
 refine aJ 1 2 (Hb.mk fun hb=>?_) (Hb.mk fun hb=>?_)
 all_goals try (
 refine ax 1 ?_
 refine WC.sr ?_
 have DN:Sc h4 b v (n++[0]++(t++[0]++(be (o.length:Int) 2++(dG 4 o++[])))):=by rw [hE,if_pos (by omega)] at uU;simpa using uU
 refine WL.step (ad rfl Tryz.underlying161 rfl Tryz.sizeOf158) rfl rfl rfl ?_;refine WL.ld rfl (by first | exact aa bP rfl | assumption) rfl rfl rfl ?_
 refine WL.call (vs:=[_]) rfl Tryz.call128 rfl (fV c1 DN (by simp [bm,cI];omega)) rfl rfl rfl ?_
 rintro _ h5 ⟨v5,rfl,k5,aN,oz⟩
 have eI:=aN.obj bP n1
 have iL:=aN.obj bx n3
 refine Go ?_;refine WL.az (aC Tryz.sizeOf9 rfl rfl iL (Nat.le_of_ble_eq_true rfl) rfl rfl) rfl rfl ?_
 rintro _ h6 ⟨bN,aM⟩
 have fB:=aM.obj eI gK
 have k6:=k5.ext aM (fun e=>n3 e.symm) (fun q hq e=>by have:=hv q (oz q hq);omega)
 refine Gn ?_;refine Gs [(2,_),(4,_),(5,_)] ?_;refine G2 ?_;refine WL.ld rfl (by first | exact aa fB rfl | assumption) rfl rfl rfl ?_
 refine WL.call (vs:=[_]) rfl Tryz.call128 rfl (fV c3 k6 (by simp [bm,cI];omega)) rfl rfl rfl ?_
 rintro _ h7 ⟨v7,rfl,k7,bh,Bu⟩
 have mv:=bh.obj fB n1
 have qI:=bh.obj bN n3
 refine Go ?_;refine WL.az (aC Tryz.sizeOf9 rfl rfl qI (Nat.le_of_ble_eq_true rfl) rfl rfl) rfl rfl ?_
 rintro _ h8 ⟨bE,bD⟩
 have gh:=bD.obj mv gK
 have j6:Ext (fun q=>q=b∨q=b3) h4 h8:=(((aN.mono fun _ _ e=>.inl e).trans (aM.mono fun _ _ e=>.inr e)).trans (bh.mono fun _ _ e=>.inl e)).trans (bD.mono fun _ _ e=>.inr e)
 have EY:=oz.trans Bu
 have k8:=k7.ext bD (fun e=>n3 e.symm) (fun q hq e=>by have:=hv q (EY q hq);omega)
 have s8:=j6.size
 refine Gn ?_;refine Gs [(2,_),(4,_),(5,_)] ?_;refine WC.region ?_;refine WL.step (an Tryz.isAgg161 Tryz.sizeOf161 rfl rfl (by exact At.au gh)) rfl rfl rfl ?_
 refine WL.call (vs:=[_,_]) rfl Tryz.call129 rfl (qH (s:=4) (.inr (.inr rfl)) o (fun n hn=>by have:=m1 n hn;omega) (by omega) [] k8 (fun q hq=>by have:=hv q (EY q hq);omega) (by simp [bm,cI];omega)) rfl rfl rfl ?_
 rintro u9 h9 ⟨v9,I3,k9,cg,JK,DO⟩
 obtain ⟨A9,c9,rfl,_⟩:=I3.slice
 have GU:=cg.obj bE n3
 refine Go ?_;refine WL.az (aC Tryz.sizeOf39 rfl rfl GU (Nat.le_of_ble_eq_true rfl) rfl rfl) rfl rfl ?_
 rintro _ iD ⟨iA,cG⟩
 have o5:=k9.ext cG (fun e=>n3 e.symm) (fun q hq e=>by have:=hv q (EY q (JK q hq));omega)
 have iY:=I3.rd.ext' cG (fun q _ hq e=>by have:=DO q hq;have:=aj bE;omega)
 have wY:Ext (fun q=>q=b∨q=b3) h4 iD:=(j6.trans (cg.mono fun _ _ e=>.inl e)).trans (cG.mono fun _ _ e=>.inr e)
 obtain ⟨g,hg⟩:∃ g:Fm,g=⟨fk,0,n,[],t,.slice A9 o.length c9,o,.slice none 0 0,[],.slice none 0 0,[],.slice none 0 0,[],0⟩:=⟨_,rfl⟩
 have gC:iD[b3]?=some (.cells ⟨g.cells⟩ 42 (0,0)):=by subst hg;exact iA
 have gP:g.pl=PL:=by rw [hK,if_pos (by omega)];subst hg;rfl
 have gO:g.ok iD:=by subst hg;exact ⟨⟨iY,by show o.length≤_;unfold maxLen;omega⟩,⟨eD _,Nat.zero_le _⟩,⟨eD _,Nat.zero_le _⟩,gr _⟩
 have gA:∀ q,g.A q→h4.size≤q∧q ≠ b3∧q ≠ b2:=fun q hq=>(by subst hg;exact hq.elim (fun e=>by have:=DO q e;have:=aj bE;omega) (fun e=>e.elim (fun e=>by cases e) (fun e=>e.elim (fun e=>by cases e) (fun e=>(jy e).elim))))
 have kZ:=o5
 have XZ:=wY
 have soZ:=EY.trans JK
 refine Gn ?_
 skip)
 all_goals try (
 refine ax 2 ?_
 refine G2 ?_
 refine aJ 3 4 (Hb.mk fun hb=>?_) (Hb.mk fun hb=>?_)
 all_goals try (
 refine ax 3 ?_
 refine WC.sr ?_
 have DN:Sc h4 b v (p++[0]++(n++[0]++(be (fs.length:Int) 2++(dG 2 fs++(be (R.length:Int) 2++(fW R++(be (rs.length:Int) 2++(dG 2 rs++[])))))))):=by rw [hE,if_neg (by omega),if_pos (by omega)] at uU;simpa using uU
 refine WL.step (ad rfl Tryz.underlying161 rfl Tryz.sizeOf158) rfl rfl rfl ?_;refine WL.ld rfl (by first | exact aa bP rfl | assumption) rfl rfl rfl ?_
 refine WL.call (vs:=[_]) rfl Tryz.call128 rfl (fV c2 DN (by simp [bm,cI];omega)) rfl rfl rfl ?_
 rintro _ h5 ⟨v5,rfl,k5,aN,oz⟩
 have eI:=aN.obj bP n1
 have iL:=aN.obj bx n3
 refine Go ?_;refine WL.az (aC Tryz.sizeOf9 rfl rfl iL (Nat.le_of_ble_eq_true rfl) rfl rfl) rfl rfl ?_
 rintro _ h6 ⟨bN,aM⟩
 have fB:=aM.obj eI gK
 have k6:=k5.ext aM (fun e=>n3 e.symm) (fun q hq e=>by have:=hv q (oz q hq);omega)
 refine Gn ?_;refine Gs [(2,_),(4,_),(5,_)] ?_;refine G2 ?_;refine WL.ld rfl (by first | exact aa fB rfl | assumption) rfl rfl rfl ?_
 refine WL.call (vs:=[_]) rfl Tryz.call128 rfl (fV c1 k6 (by simp [bm,cI];omega)) rfl rfl rfl ?_
 rintro _ h7 ⟨v7,rfl,k7,bh,Bu⟩
 have mv:=bh.obj fB n1
 have qI:=bh.obj bN n3
 refine Go ?_;refine WL.az (aC Tryz.sizeOf9 rfl rfl qI (Nat.le_of_ble_eq_true rfl) rfl rfl) rfl rfl ?_
 rintro _ h8 ⟨bE,bD⟩
 have gh:=bD.obj mv gK
 have j6:Ext (fun q=>q=b∨q=b3) h4 h8:=(((aN.mono fun _ _ e=>.inl e).trans (aM.mono fun _ _ e=>.inr e)).trans (bh.mono fun _ _ e=>.inl e)).trans (bD.mono fun _ _ e=>.inr e)
 have EY:=oz.trans Bu
 have k8:=k7.ext bD (fun e=>n3 e.symm) (fun q hq e=>by have:=hv q (EY q hq);omega)
 have s8:=j6.size
 refine Gn ?_;refine Gs [(2,_),(4,_),(5,_)] ?_;refine WC.sr ?_;refine WL.step (an Tryz.isAgg161 Tryz.sizeOf161 rfl rfl (by exact At.au gh)) rfl rfl rfl ?_
 refine WL.call (vs:=[_,_]) rfl Tryz.call129 rfl (qH (s:=2) (.inr (.inl rfl)) fs (fun n hn=>by have:=m2 n hn;omega) (by omega) _ k8 (fun q hq=>by have:=hv q (EY q hq);omega) (by simp [bm,cI];omega)) rfl rfl rfl ?_
 rintro u9 h9 ⟨v9,I3,k9,cg,JK,DO⟩
 obtain ⟨A9,c9,rfl,_⟩:=I3.slice
 have GU:=cg.obj bE n3
 have Gm:=cg.obj gh n1
 refine Go ?_;refine WL.az (aC Tryz.sizeOf39 rfl rfl GU (Nat.le_of_ble_eq_true rfl) rfl rfl) rfl rfl ?_
 rintro _ iD ⟨iA,cG⟩
 have GV:=EY.trans JK
 have o5:=k9.ext cG (fun e=>n3 e.symm) (fun q hq e=>by have:=hv q (GV q hq);omega)
 have iY:=I3.rd.ext' cG (fun q _ hq e=>by have:=DO q hq;have:=aj bE;omega)
 have wY:Ext (fun q=>q=b∨q=b3) h4 iD:=(j6.trans (cg.mono fun _ _ e=>.inl e)).trans (cG.mono fun _ _ e=>.inr e)
 have EZ:=cG.obj Gm gK
 have Np:=wY.size
 have s9:=cg.size
 have NM:=cG.size
 refine Gn ?_;refine WC.sr ?_;refine WL.step (an Tryz.isAgg161 Tryz.sizeOf161 rfl rfl (by exact At.au EZ)) rfl rfl rfl ?_
 refine WL.call (vs:=[_]) rfl Tryz.call130 rfl (GP R Md (by omega) _ o5 (fun q hq=>by have:=hv q (GV q hq);omega) (by simp [bm,cI];omega)) rfl rfl rfl ?_
 rintro O5 x8 ⟨v11,Me,I4,K9,AA,dA,La,DP⟩
 obtain ⟨_,⟨_,NN,KD,rfl,_⟩,_⟩:=id I4
 have I5:=dA.obj iA n3
 have I6:=dA.obj EZ n1
 have AW:=iY.ext' dA (fun q _ hq e=>by have:=DO q hq;omega)
 refine Go ?_;refine WL.az (aC Tryz.sizeOf40 rfl rfl I5 (Nat.le_of_ble_eq_true rfl) rfl rfl) rfl rfl ?_
 rintro _ tQ ⟨bX,fO⟩
 have DQ:=GV.trans La
 have Cn:=AA.ext fO (fun e=>n3 e.symm) (fun q hq e=>by have:=hv q (DQ q hq);omega)
 have Lb:=AW.ext' fO (fun q _ hq e=>by have:=DO q hq;have:=aj bE;omega)
 have Lc:=I4.ext fO (fun q hq e=>by have:=DP q hq;have:=aj iA;omega)
 have Mf:Ext (fun q=>q=b∨q=b3) h4 tQ:=(wY.trans (dA.mono fun _ _ e=>.inl e)).trans (fO.mono fun _ _ e=>.inr e)
 have I7:=fO.obj I6 gK
 have Nt:=Mf.size
 have Nq:=dA.size
 have Mg:=fO.size
 refine Gn ?_;refine Gs [(2,_),(4,_),(5,_)] ?_;refine WC.region ?_;refine WL.step (an Tryz.isAgg161 Tryz.sizeOf161 rfl rfl (by exact At.au I7)) rfl rfl rfl ?_
 refine WL.call (vs:=[_,_]) rfl Tryz.call129 rfl (qH (s:=2) (.inr (.inl rfl)) rs (fun n hn=>by have:=m3 n hn;omega) (by omega) _ Cn (fun q hq=>by have:=hv q (DQ q hq);omega) (by simp [bm,cI];omega)) rfl rfl rfl ?_
 rintro O6 KG ⟨O7,I8,KH,il,I9,Ja⟩
 obtain ⟨NO,NP,rfl,_⟩:=I8.slice
 have Jb:=il.obj bX n3
 have Jc:=Lb.ext' il (fun q _ hq e=>by have:=DO q hq;omega)
 have Le:=Lc.ext il (fun q hq e=>by have:=DP q hq;omega)
 refine Go ?_;refine WL.az (aC Tryz.sizeOf39 rfl rfl Jb (Nat.le_of_ble_eq_true rfl) rfl rfl) rfl rfl ?_
 rintro _ IC ⟨Jd,kQ⟩
 have soZ:=DQ.trans I9
 have kZ:=KH.ext kQ (fun e=>n3 e.symm) (fun q hq e=>by have:=hv q (DQ q (I9 q hq));omega)
 have XZ:Ext (fun q=>q=b∨q=b3) h4 IC:=(Mf.trans (il.mono fun _ _ e=>.inl e)).trans (kQ.mono fun _ _ e=>.inr e)
 obtain ⟨g,hg⟩:∃ g:Fm,g=⟨fk,0,n,p,[],.slice none 0 0,[],.slice A9 fs.length c9,fs,.slice NO rs.length NP,rs,.slice NN Me.length KD,Me,0⟩:=⟨_,rfl⟩
 have gC:IC[b3]?=some (.cells ⟨g.cells⟩ 42 (0,0)):=by subst hg;exact Jd
 have gP:g.pl=PL:=by rw [hK,if_neg (by omega),if_pos (by omega)];subst hg;rw [← K9];rfl
 have gO:g.ok IC:=by subst hg;exact ⟨⟨eD _,Nat.zero_le _⟩,⟨Jc.ext' kQ (fun q _ hq e=>by have:=DO q hq;have:=aj bE;omega),by show fs.length≤_;unfold maxLen;omega⟩,⟨I8.rd.ext' kQ (fun q _ hq e=>by have:=Ja q hq;have:=aj bX;omega),by show rs.length≤_;unfold maxLen;omega⟩,Le.ext kQ (fun q hq e=>by have:=DP q hq;have:=aj iA;omega)⟩
 have gA:∀ q,g.A q→h4.size≤q∧q ≠ b3∧q ≠ b2:=fun q hq=>(by subst hg;exact hq.elim (fun e=>by cases e) (fun e=>e.elim (fun e=>by have:=DO q e;have:=aj bE;omega) (fun e=>e.elim (fun e=>by have:=Ja q e;have:=aj bX;omega) (fun e=>by have:=DP q e;have:=aj iA;omega))))
 refine Gn ?_
 skip)
 all_goals try (
 refine ax 4 ?_
 refine G3 ?_;refine Gs [(2,_),(4,_),(5,_),(9,_),(42,_)] ?_
 refine aJ 5 6 (Hb.mk fun hb=>?_) (Hb.mk fun hb=>?_)
 all_goals try (
 refine ax 5 ?_
 refine WC.skip ?_
 skip)
 all_goals try (
 refine ax 6 ?_
 refine WC.region (Go ?_)
 skip)
 all_goals (refine Gn ?_;refine aJ 7 8 (Hb.mk fun hb=>?_) (Hb.mk fun hb=>?_))
 all_goals try (
 refine ax 7 ?_
 all_goals (refine WC.sr ?_;have Mb:=hwh.out (by omega);have eW:=NJ Mb;(have DN:Sc h4 b v (be ww 1++((n++p)++[0]++[])):=by rw [hE,if_neg (by omega),if_neg (by omega),if_pos (by omega),eW] at uU;simpa using uU);refine WL.step (ad rfl Tryz.underlying161 rfl Tryz.sizeOf158) rfl rfl rfl ?_;refine WL.ld rfl (by first | exact aa bP rfl | assumption) rfl rfl rfl ?_;refine WL.call (vs:=[_,_]) rfl Tryz.call122 rfl (jx (s:=1) (.inl rfl) (by omega) (by omega) _ DN (by simp [bm];omega)) rfl rfl rfl ?_;rintro _ h5 ⟨v5,rfl,k5,aN,oz⟩;have eI:=aN.obj bP n1;have iL:=aN.obj bx n3;refine WL.step (oE Tryz.underlying3 Tryz.underlying5 rfl (by omega)) rfl rfl rfl (Go ?_);refine WL.az (aC Tryz.sizeOf5 rfl rfl iL (Nat.le_of_ble_eq_true rfl) rfl rfl) rfl rfl ?_;rintro _ h6 ⟨bN,aM⟩;have fB:=aM.obj eI gK;have k6:=k5.ext aM (fun e=>n3 e.symm) (fun q hq e=>by have:=hv q (oz q hq);omega);refine Gn ?_;refine Gs [(2,_),(4,_),(5,_)] ?_;refine G2 ?_;refine WL.ld rfl (by first | exact aa fB rfl | assumption) rfl rfl rfl ?_;refine WL.call (vs:=[_]) rfl Tryz.call128 rfl (fV hcx k6 (by simp;omega)) rfl rfl rfl ?_;rintro _ h7 ⟨v7,rfl,k7,bh,Bu⟩;have qI:=bh.obj bN n3;refine Go ?_;refine Gs [(4,_),(5,_),(6,_)] ?_;refine G2 ?_;refine WL.ld rfl (by first | exact aa qI rfl | assumption) rfl rfl rfl (Go ?_);refine aJ 9 10 (Hb.mk fun hb=>?_) (Hb.mk fun hb=>?_))
 all_goals try (
 refine ax 9 ?_
 all_goals (refine WC.region (Go ?_);refine WL.az (aC Tryz.sizeOf9 rfl rfl qI (Nat.le_of_ble_eq_true rfl) rfl rfl) rfl rfl ?_;rintro _ h8 ⟨bE,bD⟩)
 all_goals (
  have soZ:=oz.trans Bu
  have kZ:=k7.ext bD (fun e=>n3 e.symm) (fun q hq e=>by have:=hv q (oz q (Bu q hq));omega)
  have XZ:Ext (fun q=>q=b∨q=b3) h4 h8:=(((aN.mono fun _ _ e=>.inl e).trans (aM.mono fun _ _ e=>.inr e)).trans (bh.mono fun _ _ e=>.inl e)).trans (bD.mono fun _ _ e=>.inr e)
  obtain ⟨g,hg⟩:∃ g:Fm,g=⟨fk,ww,n++p,[],[],.slice none 0 0,[],.slice none 0 0,[],.slice none 0 0,[],.slice none 0 0,[],0⟩:=⟨_,rfl⟩
  have gC:h8[b3]?=some (.cells ⟨g.cells⟩ 42 (0,0)):=by subst hg;exact bE
  rw [if_neg (by omega),if_neg (by omega),if_pos (by omega),if_pos (by omega)] at hK
  have JB:p=[]:=congrArg (fun x=>x.2.2.2.1) (hPL.symm.trans hK)
  have gP:g.pl=PL:=by rw [hK];subst hg JB;simp [Fm.pl]
  have gO:g.ok h8:=by subst hg;exact ⟨⟨eD _,Nat.zero_le _⟩,⟨eD _,Nat.zero_le _⟩,⟨eD _,Nat.zero_le _⟩,gr _⟩
  have gA:∀ q,g.A q→h4.size≤q∧q ≠ b3∧q ≠ b2:=fun q hq=>(by subst hg;exact hq.elim (fun e=>by cases e) (fun e=>e.elim (fun e=>by cases e) (fun e=>e.elim (fun e=>by cases e) (fun e=>(jy e).elim)))))
 all_goals (refine Gn ?_)
 skip)
 all_goals try (
 refine ax 10 ?_
 all_goals (refine WC.region (Go ?_);refine WL.az (aC Tryz.sizeOf9 rfl rfl qI (Nat.le_of_ble_eq_true rfl) rfl rfl) rfl rfl ?_;rintro _ h8 ⟨bE,bD⟩)
 all_goals (
  have soZ:=oz.trans Bu
  have kZ:=k7.ext bD (fun e=>n3 e.symm) (fun q hq e=>by have:=hv q (oz q (Bu q hq));omega)
  have XZ:Ext (fun q=>q=b∨q=b3) h4 h8:=(((aN.mono fun _ _ e=>.inl e).trans (aM.mono fun _ _ e=>.inr e)).trans (bh.mono fun _ _ e=>.inl e)).trans (bD.mono fun _ _ e=>.inr e)
  obtain ⟨g,hg⟩:∃ g:Fm,g=⟨fk,ww,[],n++p,[],.slice none 0 0,[],.slice none 0 0,[],.slice none 0 0,[],.slice none 0 0,[],0⟩:=⟨_,rfl⟩
  have gC:h8[b3]?=some (.cells ⟨g.cells⟩ 42 (0,0)):=by subst hg;exact bE
  rw [if_neg (by omega),if_neg (by omega),if_pos (by omega),if_neg (by omega)] at hK
  have Fk:n=[]:=congrArg (fun x=>x.2.2.1) (hPL.symm.trans hK)
  have gP:g.pl=PL:=by rw [hK];subst hg Fk;simp [Fm.pl]
  have gO:g.ok h8:=by subst hg;exact ⟨⟨eD _,Nat.zero_le _⟩,⟨eD _,Nat.zero_le _⟩,⟨eD _,Nat.zero_le _⟩,gr _⟩
  have gA:∀ q,g.A q→h4.size≤q∧q ≠ b3∧q ≠ b2:=fun q hq=>(by subst hg;exact hq.elim (fun e=>by cases e) (fun e=>e.elim (fun e=>by cases e) (fun e=>e.elim (fun e=>by cases e) (fun e=>(jy e).elim)))))
 all_goals (refine Gn ?_)
 skip)
 skip)
 all_goals try (
 refine ax 8 ?_
 all_goals (refine G2 ?_;first | refine aJ 11 12 ?_ TT.mk | (refine aJ 11 12 (Hb.mk fun hb=>?_) (Hb.mk fun hb=>?_)))
 all_goals try (
 refine ax 11 ?_
 all_goals (refine WC.sr ?_;(have DN:Sc h4 b v (p++[0]++(be (Cp mx) 4++[])):=by rw [hE,if_neg (by omega),if_neg (by omega),if_neg (by omega),if_pos (by omega),GS m5.1] at uU;simpa using uU);have hu:0≤Cp mx∧Cp mx < 256 ^ 4:=by unfold Cp;split <;> omega)
 all_goals (refine WL.step (ad rfl Tryz.underlying161 rfl Tryz.sizeOf158) rfl rfl rfl ?_;refine WL.ld rfl (by first | exact aa bP rfl | assumption) rfl rfl rfl ?_;refine WL.call (vs:=[_]) rfl Tryz.call128 rfl (fV c2 DN (by simp [bm];omega)) rfl rfl rfl ?_;rintro _ h5 ⟨v5,rfl,k5,aN,oz⟩;have eI:=aN.obj bP n1;have iL:=aN.obj bx n3;refine Go ?_;refine WL.az (aC Tryz.sizeOf9 rfl rfl iL (Nat.le_of_ble_eq_true rfl) rfl rfl) rfl rfl ?_;rintro _ h6 ⟨bN,aM⟩;have fB:=aM.obj eI gK;have k6:=k5.ext aM (fun e=>n3 e.symm) (fun q hq e=>by have:=hv q (oz q hq);omega);refine Gn ?_;refine Gs [(2,_),(4,_),(5,_)] ?_;refine WC.region (Go ?_);refine WL.ld rfl (by first | exact aa fB rfl | assumption) rfl rfl rfl ?_;refine WL.call (vs:=[_,_]) rfl Tryz.call122 rfl (jx (s:=4) (.inr (.inr rfl)) hu.1 hu.2 _ k6 (by simp [bm])) rfl rfl rfl ?_;rintro _ h7 ⟨v7,rfl,k7,bh,Bu⟩;have qI:=bh.obj bN n3;refine WL.call (vs:=[_,_]) rfl Tryz.call131 rfl (Bt m5) rfl rfl rfl ?_;rintro _ hz ⟨rfl,_⟩;subst hz;refine Go ?_;refine WL.az (aC Tryz.sizeOf3 rfl rfl qI (Nat.le_of_ble_eq_true rfl) rfl rfl) rfl rfl ?_;rintro _ h8 ⟨bE,bD⟩;have soZ:=oz.trans Bu;have kZ:=k7.ext bD (fun e=>n3 e.symm) (fun q hq e=>by have:=hv q (oz q (Bu q hq));omega);have XZ:Ext (fun q=>q=b∨q=b3) h4 h8:=(((aN.mono fun _ _ e=>.inl e).trans (aM.mono fun _ _ e=>.inr e)).trans (bh.mono fun _ _ e=>.inl e)).trans (bD.mono fun _ _ e=>.inr e);obtain ⟨g,hg⟩:∃ g:Fm,g=⟨fk,0,[],p,[],.slice none 0 0,[],.slice none 0 0,[],.slice none 0 0,[],.slice none 0 0,[],mx⟩:=⟨_,rfl⟩;(have gC:h8[b3]?=some (.cells ⟨g.cells⟩ 42 (0,0)):=by subst hg;exact bE);(have gP:g.pl=PL:=by rw [hK,if_neg (by omega),if_neg (by omega),if_neg (by omega),if_pos (by omega)];subst hg;rfl);(have gO:g.ok h8:=by subst hg;exact ⟨⟨eD _,Nat.zero_le _⟩,⟨eD _,Nat.zero_le _⟩,⟨eD _,Nat.zero_le _⟩,gr _⟩);(have gA:∀ q,g.A q→h4.size≤q∧q ≠ b3∧q ≠ b2:=fun q hq=>(by subst hg;exact hq.elim (fun e=>by cases e) (fun e=>e.elim (fun e=>by cases e) (fun e=>e.elim (fun e=>by cases e) (fun e=>(jy e).elim)))));refine Gn ?_)
 skip)
 all_goals try (
 refine ax 12 ?_
 refine G2 ?_;refine Gs [(2,_),(4,_),(5,_),(71,_)] ?_
 refine aJ 13 14 (Hb.mk fun hb=>?_) (Hb.mk fun hb=>?_)
 all_goals try (
 refine ax 13 ?_
 refine WC.region ?_
 have DN:Sc h4 b v (t++[0]++[]):=by rw [hE,if_neg (by omega),if_neg (by omega),if_neg (by omega),if_neg (by omega),if_pos (by omega)] at uU;simpa using uU
 refine WL.step (ad rfl Tryz.underlying161 rfl Tryz.sizeOf158) rfl rfl rfl ?_;refine WL.ld rfl (by first | exact aa bP rfl | assumption) rfl rfl rfl ?_
 refine WL.call (vs:=[_]) rfl Tryz.call128 rfl (fV c3 DN (by simp;omega)) rfl rfl rfl ?_
 rintro _ h5 ⟨v5,rfl,k5,aN,oz⟩
 have iL:=aN.obj bx n3
 refine Go ?_;refine WL.az (aC Tryz.sizeOf9 rfl rfl iL (Nat.le_of_ble_eq_true rfl) rfl rfl) rfl rfl ?_
 rintro _ h6 ⟨bN,aM⟩
 have soZ:=oz
 have kZ:=k5.ext aM (fun e=>n3 e.symm) (fun q hq e=>by have:=hv q (oz q hq);omega)
 have XZ:Ext (fun q=>q=b∨q=b3) h4 h6:=(aN.mono fun _ _ e=>.inl e).trans (aM.mono fun _ _ e=>.inr e)
 obtain ⟨g,hg⟩:∃ g:Fm,g=⟨fk,0,[],[],t,.slice none 0 0,[],.slice none 0 0,[],.slice none 0 0,[],.slice none 0 0,[],0⟩:=⟨_,rfl⟩
 have gC:h6[b3]?=some (.cells ⟨g.cells⟩ 42 (0,0)):=by subst hg;exact bN
 have gP:g.pl=PL:=by rw [hK,if_neg (by omega),if_neg (by omega),if_neg (by omega),if_neg (by omega),if_pos (by omega)];subst hg;rfl
 have gO:g.ok h6:=by subst hg;exact ⟨⟨eD _,Nat.zero_le _⟩,⟨eD _,Nat.zero_le _⟩,⟨eD _,Nat.zero_le _⟩,gr _⟩
 have gA:∀ q,g.A q→h4.size≤q∧q ≠ b3∧q ≠ b2:=fun q hq=>(by subst hg;exact hq.elim (fun e=>by cases e) (fun e=>e.elim (fun e=>by cases e) (fun e=>e.elim (fun e=>by cases e) (fun e=>(jy e).elim))))
 refine Gn ?_
 skip)
 all_goals try (
 refine ax 14 ?_
 refine WC.skip ?_
 skip)
 skip)
 skip)
 skip)
 skip)
 all_goals (refine Gn ?_;refine WC.sr ?_)
 all_goals (
  first
   | (have qq:=gP;clear qq)
   | (exfalso;omega)
   | (rw [hE,if_neg (by omega),if_neg (by omega),if_neg (by omega),if_neg (by omega),if_neg (by omega)] at uU
      have kZ:=uU
      have soZ:=SO.refl v
      have XZ:Ext (fun q=>q=b∨q=b3) h4 h4:=.refl _ _
      obtain ⟨g,hg⟩:∃ g:Fm,g=zF fk:=⟨_,rfl⟩
      have gC:h4[b3]?=some (.cells ⟨g.cells⟩ 42 (0,0)):=by subst hg;exact bx
      have gP:g.pl=PL:=by rw [hK,if_neg (by omega),if_neg (by omega),if_neg (by omega),if_neg (by omega),if_neg (by omega)];subst hg;rfl
      have gO:g.ok h4:=by subst hg;exact ⟨⟨eD _,Nat.zero_le _⟩,⟨eD _,Nat.zero_le _⟩,⟨eD _,Nat.zero_le _⟩,gr _⟩
      have gA:∀ q,g.A q→h4.size≤q∧q ≠ b3∧q ≠ b2:=fun q hq=>(by subst hg;exact hq.elim (fun e=>by cases e) (fun e=>e.elim (fun e=>by cases e) (fun e=>e.elim (fun e=>by cases e) (fun e=>(jy e).elim))))))
 all_goals (refine WL.step (an Tryz.isAgg42 Tryz.sizeOf42 rfl rfl (by exact At.au gC)) rfl rfl rfl ?_;refine WL.az (al Tryz.sizeOf42 rfl rfl rfl (XZ.obj iJ (fun e=>e.elim (fun e=>n2 e) (fun e=>lz e))) rfl gO.one) rfl rfl ?_;rintro _ hZ ⟨hbZ,hxZ⟩;refine Gn ?_;refine WC.ret ?_;repeat' (with_reducible first | refine ba ?_ | refine aV ?_))
 all_goals (refine bY _ ⟨⟨_,rfl,bB Tryz.isAgg42 Tryz.sizeOf42 hbZ rfl⟩,trivial⟩ ?_;exact ⟨g,_,rfl,gP,⟨⟨gO.1.1.ext' hxZ (fun q _ hq e=>(gA q (.inl hq)).2.2 e),gO.1.2⟩,⟨gO.2.1.ext' hxZ (fun q _ hq e=>(gA q (.inr (.inl hq))).2.2 e),gO.2.2⟩,⟨gO.3.1.ext' hxZ (fun q _ hq e=>(gA q (.inr (.inr (.inl hq)))).2.2 e),gO.3.2⟩,gO.4.ext hxZ (fun q hq e=>(gA q (.inr (.inr (.inr hq)))).2.2 e)⟩,fun q hq=>by have:=(gA q hq).1;omega,kZ.ext hxZ (fun e=>n2 e.symm) (fun q hq e=>by have:=hv q (soZ q hq);omega),(X4.mono (S':=fun q=>q=b) fun _ _ e=>e.elim).trans' ((XZ.mono (S':=fun q=>q=b∨q=b3∨q=b2) fun q _ e=>e.elim .inl (fun e=>.inr (.inl e))).trans (hxZ.mono fun q _ e=>.inr (.inr e))) (fun q hq e=>by rcases e with e | e | e;exact e;exact absurd e (by omega);exact absurd e (by omega))⟩)
theorem GW {f g:Fm} (h:g.pl=f.pl) (w:f.qB):g.qB:=by
 simp only [Fm.pl,Prod.mk.injEq] at h
 obtain ⟨h1,h2,h3,h4,h5,h6,h7,h8,h9,iD⟩:=h
 have hl:=congrArg List.length h9
 rw [List.length_map,List.length_map] at hl
 refine ⟨h6▸w.oids,h7▸w.formats,h8▸w.results,by have:=w.params;omega,fun c hc=>?_,h3▸w.name,h4▸w.portal,h5▸w.text⟩
 obtain ⟨d,hd,e⟩:=List.mem_map.1 (show c.pl∈f.params.map aX.pl by rw [← h9];exact List.mem_map.2 ⟨c,hc,rfl⟩)
 have:=congrArg (fun x=>x.2.length) e
 have:=w.cells d hd
 simp only [aX.pl] at *
 omega
theorem GX {f g:Fm} (h:g.pl=f.pl) (k:f.may):g.may:=by
 have hk:(dF g).pl=(dF f).pl:=by
   rw [nT,nT]
   simp only [Fm.pl,Prod.mk.injEq] at h
   obtain ⟨h1,h2,h3,h4,h5,h6,h7,h8,h9,iD⟩:=h
   rw [h1,h2,h3,h4,h5,h6,h7,h8,h9,iD]
 have ho:g.pl=(dF g).pl:=by rw [hk,h];exact k.own
 simp only [Fm.pl,Prod.mk.injEq] at h
 obtain ⟨h1,h2,h3,h4,h5,h6,h7,h8,h9,iD⟩:=h
 refine ⟨h1▸k.kind,h3▸k.name,h4▸k.portal,h5▸k.text,h6▸k.oids,h7▸k.formats,h8▸k.results,fun c hc=>?_,by rw [h1,h2];exact k.what,by rw [iD];exact k.max,ho⟩
 obtain ⟨d,hd,e⟩:=List.mem_map.1 (show c.pl∈f.params.map aX.pl by rw [← h9];exact List.mem_map.2 ⟨c,hc,rfl⟩)
 have:=k.params d hd
 simp only [aX.pl,Prod.mk.injEq] at e
 exact ⟨fun z=>by rw [← e.2];exact this.1 (by rw [e.1];exact z),by rw [← e.2];exact this.2⟩
theorem jg {f:Fm} (w:f.qB):(fj f).length≤30000:=by
 obtain ⟨EU,EV,EW,ya,Bd,GL,GM,GN⟩:=w
 have l4:=nP ya Bd
 unfold fj
 repeat' split
 all_goals (simp [bm,cI];try omega)
theorem xQ {h:ah} {w:Value} (l:List UInt8) (hr:Rd h w 1 l.length (bu l)) (hm:l.length≤1000000):ag Tryz.prog 94 ⟨[w]⟩ h fun u h'=>∃ b v,u=.pointer (some ⟨b,0,none⟩)∧Sc h' b v l∧Ext No h h'∧h.size≤b∧(∀ q,v.ownBlock=some q→h.size≤q)∧∀ q,v.ownBlock=some q→q < h'.size:=by
 refine calls [(0,_)] Tryz.func94 rfl Tryz.ntmps94 rfl ⟨rfl,trivial⟩ ?_
 refine G2 ?_;refine G2 ?_;refine WL.call (vs:=[_]) rfl Tryz.call127 rfl (jW l hr hm) rfl rfl rfl ?_
 rintro v1 h1 ⟨fE,ay,fM⟩
 obtain ⟨A1,c1,rfl,_⟩:=id fE.slice
 refine WL.step (aD (vs:=[_,_]) (cs:=[_,_,_]) (fun | [a0,a2]=>[a0,(.bool false),a2] | _=>[]) rfl rfl (by kernel_rfl)) rfl rfl rfl ?_
 refine WL.ai (aB rfl) rfl rfl rfl ?_
 rintro _ h2 ⟨b2,rfl,eS,bH,aH⟩
 refine Go ?_;refine Gs [(2,_)] ?_;refine Gt ?_
 exact ⟨b2,_,rfl,⟨bH,(fE.ext aH (fun _ _=>aO)).rd,fun q hq e=>by have:=fE.lt hq;omega⟩,ay.trans aH,by have:=ay.size;omega,fM,fun q hq=>by have:=fE.lt hq;have:=aH.size;omega⟩
theorem xR {h:ah} {v:Value} (f:Fm) (w:f.qB) (k:f.may) (hr:Rd h v 1 (fj f).length (bu (fj f))) :
   ag Tryz.prog 56 ⟨[.agg ⟨[.int .u8 f.kind,v]⟩]⟩ h fun u h'=>∃ g:Fm,u=.tuple ⟨[.agg ⟨g.cells⟩,In 0]⟩∧g.pl=f.pl∧g.ok h'∧(∀ q,g.A q→h.size≤q)∧Ext No h h':=by
 have hkno:=fun {g:ah}=>sG (g:=g) k.kind
 have hrd:=fun (g:ah) (b:Nat) (v:Value) (sc:Sc g b v (fj f))=>DM f w k sc
 have hck:=fun (h:ah) (g:Fm) (hg:g.ok h) (e:g.pl=f.pl)=>Bq g hg (GW e w) (GX e k)
 have hln:=jg w
 obtain ⟨A,c,rfl,_⟩:=id hr
 refine calls [(0,_)] Tryz.func56 rfl Tryz.ntmps56 rfl ⟨rfl,trivial⟩ ?_
 refine WC.sr ?_;refine WL.ai (aB rfl) rfl rfl rfl ?_
 rintro _ h1 ⟨b1,rfl,bO,aQ,ay⟩
 refine WL.ai (av (fun w=>Tryz.zeroValue42 w)) rfl rfl rfl ?_
 rintro _ h2 ⟨b2,rfl,eS,bH,aH⟩
 have bX:=aH.obj aQ aO
 have X2:=ay.trans aH
 refine Go ?_;refine G3 ?_;refine WL.ld rfl (by first | exact aa bX rfl | assumption) rfl rfl rfl ?_
 refine WL.call (vs:=[_]) rfl Tryz.call93 rfl (hkno) rfl rfl rfl ?_
 rintro _ h3 ⟨rfl,aP⟩
 have cm:=aP.obj bX aO
 have gL:=aP.obj bH aO
 have X3:=X2.trans aP
 refine Gn ?_;refine Gs [(1,_),(2,_),(8,_)] ?_;refine WC.block ?_;refine G2 ?_
 refine aJ 1 2 ?_ TT.mk
 all_goals (refine ax 2 ?_)
 refine G2 ?_;refine Gs [(1,_),(2,_),(12,_)] ?_
 refine aJ 3 4 ?_ TT.mk
 all_goals (refine ax 4 ?_)
 refine WC.skip ?_;refine Gn ?_;refine G2 ?_;refine WL.ld rfl (by first | exact aa cm rfl | assumption) rfl rfl rfl ?_
 refine WL.call (vs:=[_]) rfl Tryz.call94 rfl (xQ _ (hr.aq X3) (by omega)) rfl rfl rfl ?_
 rintro _ h4 ⟨sb,sv,rfl,uU,aW,oF,vK,pT⟩
 have bP:=aW.obj cm aO
 have iJ:=aW.obj gL aO
 have l4:=aj uU.bq
 refine WL.step (aD (vs:=[_]) (cs:=[_]) (fun | [a0]=>[a0] | _=>[]) rfl rfl (by kernel_rfl)) rfl rfl rfl ?_
 refine WL.ai (av (fun w=>Tryz.zeroValue161 w)) rfl rfl rfl ?_
 rintro _ h5 ⟨b5,rfl,pQ,bT,aN⟩
 refine WL.az (al Tryz.sizeOf161 rfl rfl rfl (by assumption) rfl (by simp [Value.oneCell'])) rfl rfl ?_
 rintro _ h6 ⟨bN,aM⟩
 have Je:Ext No h4 h6:=aN.trans' aM (fun q hq e=>by omega)
 have fB:=Je.obj bP aO
 have lB:=Je.obj iJ aO
 have NQ:=uU.ext Je aO (fun _ _=>aO)
 have s6:=Je.size
 have O8:b2 ≠ b5:=by have:=aj iJ;omega
 have Pa:b1 ≠ sb:=by have:=aj cm;omega
 have NR:b2 ≠ sb:=by have:=aj gL;omega
 have NS:b5 ≠ sb:=by omega
 refine Gn ?_;refine Gs [(1,_),(2,_),(4,_)] ?_;refine WC.sr ?_;refine WL.step (an Tryz.isAgg161 Tryz.sizeOf161 rfl rfl (by exact At.au bN)) rfl rfl rfl (Go ?_)
 refine WL.ld rfl (by first | exact aa fB rfl | assumption) rfl rfl rfl ?_
 refine WL.call (vs:=[_,_]) rfl Tryz.call95 rfl (hrd _ _ _ NQ (fun q hq=>by have:=pT q hq;omega)) rfl rfl rfl ?_
 rintro _ h7 ⟨g,v7,rfl,gP,gO,gA,NT,bh⟩
 have FA:=bh.obj lB NR
 have yW:=bh.obj bN NS
 refine WL.ai (av (fun w=>Tryz.zeroValue42 w)) rfl rfl rfl ?_
 rintro _ h8 ⟨b8,rfl,Fz,bE,bD⟩
 refine WL.az (al Tryz.sizeOf42 rfl rfl rfl (by assumption) rfl gO.one) rfl rfl ?_
 rintro _ h9 ⟨bQ,cg⟩
 have Jf:Ext No h7 h9:=bD.trans' cg (fun q hq e=>by omega)
 have Lf:=Jf.obj FA aO
 have FQ:=Jf.obj yW aO
 have NU:=NT.ext Jf aO (fun _ _=>aO)
 have Mh:=gO.aq Jf
 refine Gn ?_;refine Gs [(2,_),(4,_),(5,_)] ?_;refine G3 ?_;refine WL.ld rfl (by first | exact aa FQ rfl | assumption) rfl rfl rfl ?_
 refine WL.call (vs:=[_]) rfl Tryz.call96 rfl (vD NU) rfl rfl rfl ?_
 rintro _ hq ⟨rfl,hz⟩
 replace hz:=hz.symm
 subst hz
 refine Go ?_
 refine bG 27 ?_ TT.mk
 refine WL.step (an Tryz.isAgg42 Tryz.sizeOf42 rfl rfl (by exact At.au bQ)) rfl rfl rfl ?_
 refine WL.call (vs:=[_]) rfl Tryz.call97 rfl (hck _ g Mh gP) rfl rfl rfl ?_
 rintro _ iD ⟨rfl,cG⟩
 have Jg:=cG.obj bQ aO
 have Jh:=cG.obj Lf aO
 have sH:=Mh.aq cG
 refine Gg ?_;refine Go ?_;refine Gs [(2,_),(5,_),(31,_)] ?_
 refine aJ 5 6 ?_ TT.mk
 all_goals (refine ax 6 ?_)
 refine WC.skip ?_;refine Gn ?_;refine WC.sr ?_;refine WL.step (an Tryz.isAgg42 Tryz.sizeOf42 rfl rfl (by exact At.au Jg)) rfl rfl rfl ?_
 refine WL.az (al Tryz.sizeOf42 rfl rfl rfl Jh rfl sH.one) rfl rfl ?_
 rintro _ x8 ⟨xP,dA⟩
 refine Go ?_;refine WC.ret ?_
 repeat' (with_reducible first | refine ba ?_ | refine aV ?_)
 refine dY _ _ ⟨⟨_,rfl,bB Tryz.isAgg42 Tryz.sizeOf42 xP rfl⟩,rfl,trivial⟩ ?_
 have X7:Ext (fun q=>q=sb) h6 h7:=bh
 have EP:Ext No h h6:=(X3.trans aW).trans Je
 have wY:Ext No h iD:=(EP.trans' bh (fun q hq e=>by have:=X3.size;omega)).trans (Jf.trans cG)
 have hlt:∀ q,g.A q→q ≠ b2:=fun q hq e=>by have:=gA q hq;have:=aj lB;omega
 exact ⟨g,rfl,gP,⟨⟨sH.1.1.ext' dA (fun q _ hq e=>hlt q (.inl hq) e),sH.1.2⟩,⟨sH.2.1.ext' dA (fun q _ hq e=>hlt q (.inr (.inl hq)) e),sH.2.2⟩,⟨sH.3.1.ext' dA (fun q _ hq e=>hlt q (.inr (.inr (.inl hq))) e),sH.3.2⟩,sH.4.ext dA (fun q hq e=>hlt q (.inr (.inr (.inr hq))) e)⟩,fun q hq=>by have:=gA q hq;have:=EP.size;omega,wY.trans' dA (fun q hq e=>by have:=ay.size;omega)⟩
theorem pq {k:Int} (h:0 < k∧k≤255):By (UInt8.ofNat k.toNat)=.int .u8 k:=Kj (by omega) h.2
theorem Bv {h:ah} {b:Nat} {v:Value} {k:Int} {m r:List UInt8} (kf:Fw h b true v (dU k m++r)) (hk:0 < k∧k≤255) (hm:m.length≤60000) (hr:r.length≤100000) :
   ag Tryz.prog 53 ⟨[.pointer (some ⟨b,0,none⟩)]⟩ h fun u h'=>∃ w v',u=.tuple ⟨[.agg ⟨[.int .u8 k,w]⟩,.bool true,In 0]⟩∧Own h' w 5 1 m.length (bu m)∧Fw h' b true v' r∧Ext (fun q=>q=b∨v.ownBlock=some q) h h'∧(∀ q,w.ownBlock=some q→h.size≤q)∧v'.ownBlock=v.ownBlock:=by
 have hbl:(be (4+(m.length:Int)) 4).length=4:=bm ..
 have e1:(dU k m++r).drop 1=be (4+(m.length:Int)) 4++(m++r):=by simp [dU]
 have e2:((dU k m++r).drop 1).take 4=be (4+(m.length:Int)) 4:=by rw [e1,List.take_append_of_le_length (by omega),List.take_of_length_le (by omega)]
 have e3:(dU k m++r).drop (1+4)=m++r:=by rw [← List.drop_drop,e1];exact List.drop_left' hbl
 have e4:((dU k m++r).drop (1+4)).take (4+m.length - 4)=m:=by rw [e3,Nat.add_sub_cancel_left,List.take_left]
 have e5:(dU k m++r).drop (1+(4+m.length))=r:=by rw [← Nat.add_assoc,← List.drop_drop,e3,List.drop_left]
 have hn:iK (be (4+(m.length:Int)) 4)=((4+m.length:Nat):Int):=by rw [qF (by omega) (by show _ < (4294967296:Int);omega)];omega
 refine (vC kf 1 (4+m.length) rfl (by rw [e2];exact hn) ⟨by omega,by omega⟩ (by rw [List.length_append,ew];omega) (by rw [List.length_append,ew];omega)).mono fun u h' ⟨w,v',hu,ho,kf',hx,hf,hv⟩=>?_
 rw [e4,Nat.add_sub_cancel_left] at ho
 rw [e5] at kf'
 refine ⟨w,v',?_,ho,kf',hx,hf,hv⟩
 rw [hu,show np true (dU k m++r)=UInt8.ofNat k.toNat by simp [np,dU],pq hk]
theorem DR {f g:Fm} (e:g.pl=f.pl):g.p=f.p:=by
 simp only [Fm.pl,Prod.mk.injEq] at e
 simp only [Fm.p,e]
theorem Fm.NV {f:Fm} {q:Nat} (h:f.F q):f.A q:=h.elim (fun h=>.inl h.2) (fun h=>.inr (.inr (.inr h)))
section
variable {h0 h h':ah} {b:Nat} {s:SP} {bg:Bool} {l:List UInt8} {O:List (Int × List UInt8)}
end
theorem qW.z0 {h0 h:ah} {A:Ad} (k:qW h0 h A ph) {z':Nat→Prop} (hz:∀ q,z' q→h0.size≤q∧q < h.size):qW h0 h { A with z:=z' } ph:=by
 obtain ⟨L,P,k,e1,e2,e3,e4⟩:=k
 obtain rfl:L=[]:=List.map_eq_nil_iff.1 e1
 obtain rfl:P=[]:=List.map_eq_nil_iff.1 e2
 exact ⟨[],[],⟨k.se,k.sok,k.pok,k.dis,k.sto,k.cok,⟨(fun _ h=>nomatch h),(fun _ h=>nomatch h),fun q hq=>(hz q hq).2⟩⟩,rfl,rfl,e3,fun q hq=>(hz q hq).1⟩
def Ji (h0 h:ah) (b:Nat) (l:List UInt8):Prop:=∃ fb A v,Sq h0 h b fb A ph false l v (.slice none 0 0) []
section
variable {h0 h h':ah} {b:Nat} {l:List UInt8}
end
theorem GY (t:List UInt8):(bj t).n≤99:=by
 unfold bj
 split
 · show (0:Int)≤99;decide
 · split
   · unfold rZ
     split
     · split
       · rename_i n hn
         unfold ny at hn
         split at hn
         · exact nomatch hn
         · split at hn
           · exact nomatch hn
           · split at hn
             · split at hn
               · exact nomatch hn
               · simp only [Option.some.injEq] at hn
                 show n≤99
                 omega
             · exact nomatch hn
       · show (0:Int)≤99;decide
     · split
       · split
         · show (0:Int)≤99;decide
         · show (0:Int)≤99;decide
       · show (0:Int)≤99;decide
   · show (0:Int)≤99;decide
theorem GZ (t:List UInt8):(bj t).c.length≤5:=by
 unfold bj
 split
 · exact Nat.zero_le _
 · split
   · unfold rZ
     split
     · split
       · exact Nat.zero_le _
       · exact Nat.zero_le _
     · split
       · split
         · rename_i hc
           unfold rY at hc
           simp only [Bool.and_eq_true,decide_eq_true_eq] at hc
           exact Nat.le_of_eq hc.1
         · exact Nat.zero_le _
       · exact Nat.zero_le _
   · exact Nat.zero_le _
def jh (s:SP):Prop:=∀ q∈s.P,q.2.2.2.2.1.length≤99
def E0 (e:Ip):Prop:=∀ c t,e=some (c,t)→c.length≤1000∧t.length≤100000
structure Bw (r:gj):Prop where
 cap:jh r.1
 len:r.2.1.length≤101
 NW:∀ x∈r.2.1,x.kind ≠ 69
 er:E0 r.2.2
structure uV (f:gF):Prop where
 name:f.name.length≤300
 portal:f.portal.length≤300
 params:f.params.length≤50
theorem dg:E0 none:=fun _ _ h=>nomatch h
theorem dH {c t:List UInt8} (h1:c.length≤1000) (h2:t.length≤100000):E0 (some (c,t)):=fun c' t' e=>by
 simp only [Option.some.injEq,Prod.mk.injEq] at e
 obtain ⟨rfl,rfl⟩:=e
 exact ⟨h1,h2⟩
theorem lg (t n w:List UInt8):(iG t n w).length=t.length+n.length+w.length+4:=by simp [iG,jZ];omega
theorem Bx {n:List UInt8} (h:n.length≤300):(nC n).length≤1000:=by
 unfold nC
 split
 · exact Nat.le_of_ble_eq_true rfl
 · rw [lg];simp;omega
theorem pr:qe.length≤1000:=Nat.le_of_ble_eq_true rfl
theorem sI (t:List UInt8) (st:Int):E0 (gE t st):=by
 unfold gE
 split
 · exact dH (Nat.le_of_ble_eq_true rfl) (Nat.le_trans pr (by omega))
 · exact dg
theorem Bz (t:List UInt8) (st:Int):E0 (jY t st):=by
 unfold jY
 split
 · exact dH (Nat.le_of_ble_eq_true rfl) (Nat.le_of_ble_eq_true rfl)
 · split
   · exact dH (Nat.le_of_ble_eq_true rfl) (Nat.le_trans pr (by omega))
   · exact dg
section
variable {s:SP}
theorem wi {n:List UInt8} (h:n.length≤300):E0 (jO s n):=by
 unfold jO
 split
 · exact dH (Nat.le_of_ble_eq_true rfl) (Nat.le_trans (Bx h) (by omega))
 · exact sI _ _
theorem wj {n:List UInt8} (h:n.length≤300):E0 (gU s n):=by
 unfold gU
 split
 · exact dH (Nat.le_of_ble_eq_true rfl) (by rw [lg];simp;omega)
 · exact sI _ _
theorem jh.of (k:jh s) {s':SP} (h:s'.P=s.P∨s'.P=[]):jh s':=by
 unfold jh
 rcases h with e | e <;> rw [e]
 · exact k
 · exact fun _ h=>nomatch h
theorem jh.sy (k:jh s) (x:List UInt8):jh { s with P:=cj s.P x }:=fun q hq=>k q (cC hq).1
theorem jh.lM (k:jh s) (x:List UInt8) (v:F5) (h:v.2.2.2.1.length≤99):jh { s with P:=cx s.P x v }:=fun q hq=>by
 rcases cy hq with rfl | ⟨hq,_⟩
 · exact h
 · exact k q hq
theorem jC (k:jh s) {e:Ip} (he:E0 e):Bw (s,[],e):=⟨k,Nat.zero_le _,(fun _ h=>nomatch h),he⟩
theorem uW (k:jh s) {b:iw} (hb:b.kind ≠ 69):Bw (s,[b],none):=⟨k,Nat.le_of_ble_eq_true rfl,fun x hx=>by obtain rfl:=List.mem_singleton.1 hx;exact hb,dg⟩
theorem sJ (t:List UInt8) (ps:List eK) (c:Int):(dc (bj t) ps c).1.length≤99:=by
 have:=GY t
 unfold dc
 split
 · rw [lO];unfold da;omega
 · split
   · exact Nat.le_of_ble_eq_true rfl
   · split
     · exact Nat.le_of_ble_eq_true rfl
     · exact Nat.zero_le _
theorem mo (l:List (List eK)) (m:Bool):(cU l m).length=l.length+1:=by simp [cU]
theorem nU (l:List (List eK)) (m:Bool):∀ x∈cU l m,x.kind ≠ 69:=fun x hx=>by
 unfold cU at hx
 rcases List.mem_append.1 hx with hx | hx
 · obtain ⟨r,_,rfl⟩:=List.mem_map.1 hx
   show (68:Int) ≠ 69;decide
 · obtain rfl:=List.mem_singleton.1 hx
   split
   · show (115:Int) ≠ 69;decide
   · show (67:Int) ≠ 69;decide
theorem pv (t:F4):(jd t).kind ≠ 69:=by
 unfold jd
 split
 · show (84:Int) ≠ 69;decide
 · show (110:Int) ≠ 69;decide
theorem wk (k:jh s) (t:List UInt8):Bw (cK s (bj t)):=by
 unfold cK
 split
 · exact uW k (by show (73:Int) ≠ 69;decide)
 · split
   · exact jC k (dH (by have:=GZ t;omega) (Nat.le_of_ble_eq_true rfl))
   · refine uW (k.of ?_) (by show (67:Int) ≠ 69;decide)
     dsimp only
     split
     · exact .inr rfl
     · exact .inl rfl
theorem BA (k:jh s) (f:gF) (hf:uV f):Bw (eL s f):=by
 have k1:jh (if f.name=[] then { s with L:=cj s.L [] } else s):=by
   split
   · exact k.of (.inl rfl)
   · exact k
 unfold eL
 dsimp only
 generalize (if f.name=[] then { s with L:=cj s.L [] } else s)=s1 at k1 ⊢
 have hr:=Bz f.text s.st
 split
 · rename_i e he
   rw [he] at hr
   exact jC k1 hr
 · split
   · exact jC k1 (dH (Nat.le_of_ble_eq_true rfl) (by unfold vM;rw [lg];have:=hf.name;simp;omega))
   · exact uW (b:={ kind:=49 }) (jh.of k1 (s':={ s1 with L:=cx s1.L f.name (f.text,f.oids) }) (.inl rfl)) (by show (49:Int) ≠ 69;decide)
theorem DS (k:jh s) {n:Nat} (lm:dV n s) (f:gF) (hf:uV f):Bw (fT s f):=by
 have hs:=wi (s:=s) hf.name
 have h1:=hf.name
 have h2:=hf.portal
 have h3:=hf.params
 unfold fT
 split
 · rename_i e he
   rw [he] at hs
   exact jC k hs
 · split
   · exact jC k dg
   · rename_i t ht
     have hm:=(lm.l _ (dx ht)).2
     dsimp only at hm
     split
     · refine jC k (dH (Nat.le_of_ble_eq_true rfl) ?_)
       have d1:=dt (f.params.length:Int) (by omega)
       have d2:=dt (t.2.length:Int) (by omega)
       unfold qg
       simp only [List.length_append,r8]
       simp
       omega
     · split
       · exact jC k (dH (Nat.le_of_ble_eq_true rfl) (by rw [lg];simp;omega))
       · exact uW (k.lM _ _ (Nat.zero_le _)) (by show (50:Int) ≠ 69;decide)
theorem sK (k:jh s) (f:gF) (hf:uV f):Bw (cA s f):=by
 have hs:=wi (s:=s) hf.name
 have hp:=wj (s:=s) hf.portal
 unfold cA
 split
 · split
   · rename_i e he
     rw [he] at hs
     exact jC k hs
   · split
     · exact jC k dg
     · rename_i t ht
       refine ⟨k,Nat.le_of_ble_eq_true rfl,fun x hx=>?_,dg⟩
       rcases List.mem_cons.1 hx with rfl | hx
       · show (116:Int) ≠ 69;decide
       · obtain rfl:=List.mem_singleton.1 hx
         exact pv _
 · split
   · rename_i e he
     rw [he] at hp
     exact jC k hp
   · split
     · exact jC k dg
     · exact uW k (pv _)
theorem BB {rs:List (List eK)} (ov:Bool) (m:Int) (h:rs.length≤99):(dP rs ov m).1.length≤99∧(dP rs ov m).2.1.length≤99:=by
 unfold dP
 split
 · exact ⟨Nat.zero_le _,h⟩
 · dsimp only
   rw [List.length_take,List.length_drop]
   omega
theorem uX (k:jh s) (f:gF) (hf:uV f):Bw (ck s f):=by
 have hp:=wj (s:=s) hf.portal
 unfold ck
 split
 · rename_i e he
   rw [he] at hp
   exact jC k hp
 · split
   · exact jC k dg
   · rename_i t o ps rs ran ov hg
     have hm:=k _ (dx hg)
     dsimp only at hm
     split
     · have hrs : (if ran = true then (rs, s.cnt) else dc (bj t) ps s.cnt).1.length ≤ 99 := by
         split
         · exact hm
         · exact sJ _ _ _
       dsimp only
       generalize (if ran=true then (rs,s.cnt) else dc (bj t) ps s.cnt)=rc at hrs ⊢
       have hq:=BB ov f.max hrs
       exact ⟨jh.lM (s:={ s with cnt:=rc.2 }) (k.of (.inl rfl)) _ _ hq.2,by dsimp only;rw [mo];omega,nU _ _,dg⟩
     · split
       · exact jC k (dH (Nat.le_of_ble_eq_true rfl) (Nat.le_of_ble_eq_true rfl))
       · have kt:=wk k t
         split
         · rename_i s1 out he
           rw [he] at kt
           refine ⟨?_,kt.len,kt.NW,dg⟩
           dsimp only
           split
           · exact kt.cap
           · exact kt.cap.lM _ _ (Nat.zero_le _)
         · exact kt
theorem DT (k:jh s) (f:gF):Bw (gV s f):=by
 unfold gV
 split
 · exact uW (b:={ kind:=51 }) (jh.of k (s':={ s with L:=cj s.L f.name }) (.inl rfl)) (by show (51:Int) ≠ 69;decide)
 · exact uW (b:={ kind:=51 }) (k.sy _) (by show (51:Int) ≠ 69;decide)
theorem BC (k:jh s) (f:gF):Bw (dz s f):=by
 have k1:jh { s with L:=cj s.L [],P:=cj s.P [] }:=(k.sy []).of (.inl rfl)
 have hr:=Bz f.text s.st
 unfold dz
 dsimp only
 split
 · rename_i e he
   rw [he] at hr
   exact jC k1 hr
 · split
   · refine ⟨k1.of (.inl rfl),?_,fun x hx=>?_,dg⟩
     · dsimp only
       rw [List.length_cons,mo]
       have:=sJ f.text [] s.cnt
       omega
     · rcases List.mem_cons.1 hx with rfl | hx
       · show (84:Int) ≠ 69;decide
       · exact nU _ _ _ hx
   · exact wk k1 _
theorem DU (k:jh s) {n:Nat} (lm:dV n s) (f:gF) (hf:uV f):Bw (eC s f):=by
 unfold eC
 split
 · exact BA k f hf
 · split
   · exact DS k lm f hf
   · split
     · exact sK k f hf
     · split
       · exact uX k f hf
       · split
         · exact DT k f
         · split
           · exact BC k f
           · exact jC k dg
theorem jh.sync (k:jh s):jh (ep s).1:=by
 refine k.of ?_
 unfold ep
 dsimp only
 split
 · exact .inr rfl
 · exact .inl rfl
structure Lg (r:SP × List iw):Prop where
 cap:jh r.1
 len:r.2.length≤103
 er:∀ x∈r.2,x.kind=69→∃ c t,x=oq c t∧c.length≤1000∧t.length≤100000
theorem qJ (k:jh s):Lg (s,[]):=⟨k,Nat.zero_le _,fun _ h=>nomatch h⟩
theorem DV (f:gF) {r:gj} (k:Bw r):Lg (fU f r):=by
 obtain ⟨s1,out,e⟩:=r
 obtain ⟨k1,k2,k3,k4⟩:=k
 dsimp only at k1 k2 k3 k4
 obtain ⟨s2,o2,he,ki,kl,ko⟩:∃ s2 o2,fU f (s1,out,e)=(if f.kind=81 then ((ep s2).1,o2++[(ep s2).2]) else (s2,o2))∧jh s2∧o2.length≤102∧∀ x∈o2,x.kind=69→∃ c t,x=oq c t∧c.length≤1000∧t.length≤100000:=by
   rcases e with _ | ⟨c,t⟩
   · exact ⟨s1,out,rfl,k1,by omega,fun x hx e=>absurd e (k3 x hx)⟩
   · refine ⟨_,_,rfl,k1.of ?_,by simp;omega,fun x hx e=>?_⟩
     · dsimp only [ix]
       split
       · exact .inr rfl
       · exact .inl rfl
     · rcases List.mem_append.1 hx with hx | hx
       · exact absurd e (k3 x hx)
       · obtain rfl:=List.mem_singleton.1 hx
         exact ⟨c,t,rfl,k4 c t rfl⟩
 rw [he]
 split
 · refine ⟨ki.sync,by simp;omega,fun x hx e=>?_⟩
   rcases List.mem_append.1 hx with hx | hx
   · exact ko x hx e
   · obtain rfl:=List.mem_singleton.1 hx
     exact absurd e (by show (90:Int) ≠ 69;decide)
 · exact ⟨ki,by dsimp only;omega,ko⟩
theorem DW (k:jh s) {n:Nat} (lm:dV n s) (f:gF) (hf:uV f):Lg (iy s f):=by
 unfold iy
 split
 · exact qJ k
 · split
   · exact qJ (k.of (.inl rfl))
   · split
     · refine ⟨(jh.of (s':={ s with sk:=false }) k (.inl rfl)).sync,Nat.le_of_ble_eq_true rfl,fun x hx e=>?_⟩
       obtain rfl:=List.mem_singleton.1 hx
       exact absurd e (by show (90:Int) ≠ 69;decide)
     · split
       · exact qJ k
       · exact DV f (DU k lm f hf)
end
theorem G0 {s:SP} (h:jb s.st) (f:gF):jb (iy s f).1.st:=by
 have tn:∀ (s:SP) (v:gi),jb s.st→jb (cK s v).1.st:=fun s v h=>by
   unfold cK
   split
   · exact h
   · split
     · exact h
     · exact r6 h v
 have dl:jb (eC s f).1.st:=by
   unfold eC
   split
   · unfold eL
     dsimp only
     repeat' split
     all_goals exact h
   · split
     · unfold fT
       repeat' split
       all_goals exact h
     · split
       · unfold cA
         repeat' split
         all_goals exact h
       · split
         · unfold ck
           split
           · exact h
           · split
             · exact h
             · rename_i t o ps rs ran ov hg
               split
               · exact h
               · split
                 · exact h
                 · have kt:=tn s (bj t) h
                   split
                   · rename_i s1 out he
                     rw [he] at kt
                     exact kt
                   · exact kt
         · split
           · unfold gV
             split <;> exact h
           · split
             · unfold dz
               dsimp only
               split
               · exact h
               · split
                 · exact h
                 · exact tn _ _ h
             · exact h
 unfold iy
 split
 · exact h
 · split
   · exact h
   · split
     · exact h
     · split
       · exact h
       · generalize eC s f=r at dl ⊢
         obtain ⟨s1,out,e⟩:=r
         unfold fU
         rcases e with _ | ⟨c,t⟩
         · dsimp only
           split
           · exact dl
           · exact dl
         · dsimp only
           split
           · exact nz dl
           · exact nz dl
theorem BD {c t:List UInt8} (h1:c.length≤1000) (h2:t.length≤100000):iM (oq c t):=by
 refine ⟨by unfold Kn;exact .inr (.inr (.inr (.inr (.inr (.inl rfl))))),by show (0:Int)≤0∧(0:Int)≤255;decide,?_,Nat.zero_le _,Nat.zero_le _,Nat.zero_le _,Nat.le_of_ble_eq_true rfl,(fun _ h=>nomatch h),(fun _ h=>nomatch h),?_,Nat.zero_le _,Nat.zero_le _,Nat.zero_le _⟩
 · intro x hx
   simp only [oq,j5,List.mem_cons,List.not_mem_nil,or_false] at hx
   rcases hx with rfl | rfl | rfl | rfl <;> dsimp only <;> omega
 · intro x hx
   simp only [oq,j5,List.mem_cons,List.not_mem_nil,or_false] at hx
   rcases hx with rfl | rfl | rfl | rfl <;> dsimp only <;> first | omega | exact Nat.le_of_ble_eq_true rfl
theorem xS {n:Int} (h:n≤100):iM (oW n):=by
 have hl:((gT (da n)).map Ah).length≤100:=by rw [List.length_map,oV];unfold da;omega
 refine ⟨by unfold Kn;exact .inr (.inr (.inr (.inl rfl))),by show (0:Int)≤0∧(0:Int)≤255;decide,(fun _ h=>nomatch h),Nat.zero_le _,hl,Nat.zero_le _,Nat.zero_le _,?_,(fun _ h=>nomatch h),(fun _ h=>nomatch h),Nat.zero_le _,Nat.zero_le _,Nat.zero_le _⟩
 intro c hc
 obtain ⟨y,hy,rfl⟩:=List.mem_map.1 hc
 unfold gT at hy
 obtain ⟨i,hi,rfl⟩:=List.mem_map.1 hy
 have hi:=List.mem_range.1 hi
 have hh:=jv n
 have:=dt ((i+1:Nat):Int) (by omega)
 show (99 :: dw ((i+1:Nat):Int)).length≤1000
 rw [List.length_cons]
 omega
theorem DX {G:Prop} {x:iw} (k:gY 50 300 G x) (he:x.kind=69→∃ c t,x=oq c t∧c.length≤1000∧t.length≤100000):iM x:=by
 rcases k with h | ⟨k,rfl,h⟩ | ⟨t,rfl,_,ht⟩ | ⟨o,rfl,ho⟩ | ⟨r,rfl,hr⟩ | ⟨n,rfl,hn⟩
 · obtain ⟨c,t,rfl,h1,h2⟩:=he h
   exact BD h1 h2
 · clear he
   exact ⟨by unfold Kn;dsimp only;omega,by show (0:Int)≤0∧(0:Int)≤255;decide,(fun _ h=>nomatch h),Nat.zero_le _,Nat.zero_le _,Nat.zero_le _,Nat.zero_le _,(fun _ h=>nomatch h),(fun _ h=>nomatch h),(fun _ h=>nomatch h),Nat.zero_le _,Nat.zero_le _,Nat.zero_le _⟩
 · exact ⟨by unfold Kn;dsimp only;omega,by show (0:Int)≤0∧(0:Int)≤255;decide,(fun _ h=>nomatch h),Nat.zero_le _,Nat.zero_le _,Nat.zero_le _,Nat.zero_le _,(fun _ h=>nomatch h),(fun _ h=>nomatch h),(fun _ h=>nomatch h),ht,Nat.zero_le _,Nat.zero_le _⟩
 · exact ⟨by unfold Kn;dsimp only;omega,by show (0:Int)≤0∧(0:Int)≤255;decide,(fun _ h=>nomatch h),Nat.le_trans ho.1 (by omega),Nat.zero_le _,Nat.zero_le _,Nat.zero_le _,(fun _ h=>nomatch h),(fun _ h=>nomatch h),(fun _ h=>nomatch h),Nat.zero_le _,Nat.zero_le _,Nat.zero_le _⟩
 · exact ⟨by unfold Kn;dsimp only;omega,by show (0:Int)≤0∧(0:Int)≤255;decide,(fun _ h=>nomatch h),Nat.zero_le _,Nat.zero_le _,Nat.le_trans hr.1 (by omega),Nat.zero_le _,(fun _ h=>nomatch h),fun c hc=>Nat.le_trans (hr.2 c hc).1 (by omega),(fun _ h=>nomatch h),Nat.zero_le _,Nat.zero_le _,Nat.zero_le _⟩
 · exact xS (by omega)
theorem E1 {st:Int} (h:jb st):iM { kind:=90,status:=st } :=
 ⟨.inl rfl,by show 0≤st∧st≤255;rcases h with rfl | rfl | rfl <;> decide,(fun _ h=>nomatch h),Nat.zero_le _,Nat.zero_le _,Nat.zero_le _,Nat.zero_le _,(fun _ h=>nomatch h),(fun _ h=>nomatch h),(fun _ h=>nomatch h),Nat.zero_le _,Nat.zero_le _,Nat.zero_le _⟩
structure qK (n:Nat) (s:SP):Prop where
 G1:dV n s
 inv:Inv 50 300 False s
 cap:jh s
 st:jb s.st
theorem Jj:qK 0 ph:=⟨wa,⟨(fun _ h=>nomatch h),(fun _ h=>nomatch h),by decide⟩,(fun _ h=>nomatch h),.inl rfl⟩
theorem qK.step {n:Nat} {s:SP} (k:qK n s) (hn:n < 1000000) (f:gF) (hf:uV f) (fl:nJ f) (hq:AO 50 False f.oids) (hr:eO 50 300 False f.params) :
   qK (n+1) (iy s f).1∧(∀ p∈(iy s f).2,iM p)∧(iy s f).2.length≤103:=by
 have kf:=DW k.cap k.G1 f hf
 have st:=G0 k.st f
 obtain ⟨ki,l,el,hl⟩:=Dv k.inv k.G1 hn (by omega) (by omega) f hq hr
 refine ⟨⟨Ds k.G1 f fl,ki,kf.cap,st⟩,fun p hp=>?_,kf.len⟩
 have hp':=hp
 rw [el] at hp'
 rcases List.mem_append.1 hp' with hp' | hp'
 · exact DX (hl p hp') (kf.er p hp)
 · split at hp'
   · obtain rfl:=List.mem_singleton.1 hp'
     exact E1 st
   · exact nomatch hp'
def mC (s:SP):List Fm→SP
 | []=>s
 | f :: l=>mC (iy s f.p).1 l
def jD (s:SP):List Fm→List iw
 | []=>[]
 | f :: l=>(iy s f.p).2++jD (iy s f.p).1 l
theorem BE (s:SP) (l m:List Fm):mC s (l++m)=mC (mC s l) m:=by
 induction l generalizing s with
 | nil=>rfl
 | cons f l ih=>exact ih _
theorem BF (s:SP) (l m:List Fm):jD s (l++m)=jD s l++jD (mC s l) m:=by
 induction l generalizing s with
 | nil=>rfl
 | cons f l ih=>rw [List.cons_append,jD,ih,jD,mC,List.append_assoc]
structure Gd (f:Fm):Prop where
 w:f.qB
 m:f.may
theorem Gd.G1 {f:Fm} (k:Gd f):∀ g:Fm,g.pl=f.pl→gW g:=fun g e=>by
 simp only [Fm.pl,Prod.mk.injEq] at e
 obtain ⟨_,_,e3,e4,e5,e6,_,_,e9,Pb⟩:=e
 have e9:=congrArg List.length e9
 simp only [List.length_map] at e9
 have:=k.m.max
 have:=k.w.params
 have:=k.w.oids
 exact ⟨by rw [e3];have:=k.w.name;omega,by rw [e4];have:=k.w.portal;omega,by rw [e5];have:=k.w.text;omega,by rw [e6];omega,by omega,by omega⟩
theorem Gd.step {f:Fm} (k:Gd f) {n:Nat} {s:SP} (o:qK n s) (hn:n < 1000000):qK (n+1) (iy s f.p).1∧(∀ p∈(iy s f.p).2,iM p)∧(iy s f.p).2.length≤103:=by
 have lp:f.p.params.length≤50:=by show (f.params.map aX.pl).length≤_;rw [List.length_map];exact k.w.params
 have lt:=k.w.text
 have lo:=k.w.oids
 exact o.step hn f.p ⟨k.w.name,k.w.portal,lp⟩ ⟨by show f.text.length≤_;omega,by show f.oids.length≤_;omega,by omega⟩ ⟨k.w.oids,fun z=>z.elim⟩ ⟨lp,fun c hc=>by
   obtain ⟨d,hd,rfl⟩:=List.mem_map.1 (show c∈f.params.map aX.pl from hc)
   exact ⟨k.w.cells d hd,fun z=>z.elim⟩⟩
theorem BG {s:SP} {n:Nat} (o:qK n s) (l:List Fm) (k:∀ f∈l,Gd f) (hn:n+l.length≤100000):qK (n+l.length) (mC s l)∧(∀ p∈jD s l,iM p)∧(jD s l).length≤103 * l.length:=by
 induction l generalizing s n with
 | nil=>exact ⟨o,(fun _ h=>nomatch h),Nat.zero_le _⟩
 | cons f l ih =>
   simp only [List.length_cons] at hn ⊢
   obtain ⟨o1,m1,l1⟩:=(k f (List.mem_cons_self ..)).step o (by omega)
   obtain ⟨o2,m2,l2⟩:=ih o1 (fun g hg=>k g (List.mem_cons_of_mem _ hg)) (by omega)
   refine ⟨by rw [show n+(l.length+1)=n+1+l.length by omega];exact o2,fun p hp=>?_,?_⟩
   · rw [jD] at hp
     rcases List.mem_append.1 hp with hp | hp
     · exact m1 p hp
     · exact m2 p hp
   · rw [jD,List.length_append]
     omega
def j2 (l:List Fm):List UInt8:=l.flatMap fun f=>dU f.kind (fj f)
theorem pw (f:Fm) (l:List Fm):j2 (f :: l)=dU f.kind (fj f)++j2 l:=rfl
theorem sM:Part 1 []:=.inl (by decide)
theorem j3 {k:Int} {m r:List UInt8} (hm:m.length≤60000):iK (((dU k m++r).drop 1).take 4)=((4+m.length:Nat):Int):=by
 have hbl:(be (4+(m.length:Int)) 4).length=4:=bm ..
 have e1:(dU k m++r).drop 1=be (4+(m.length:Int)) 4++(m++r):=by simp [dU]
 have e2:((dU k m++r).drop 1).take 4=be (4+(m.length:Int)) 4:=by rw [e1,List.take_append_of_le_length (by omega),List.take_of_length_le (by omega)]
 rw [e2,qF (by omega) (by show _ < (4294967296:Int);omega)]
 omega
theorem uY {k:Int} {m r l t:List UInt8} (e:l++t=dU k m++r) (hm:m.length≤60000):Part 1 l∨∃ r',l=dU k m++r'∧r'++t=r:=by
 by_cases h:(dU k m).length≤l.length
 · obtain ⟨r', rfl⟩ : ∃ r', l = dU k m ++ r' := by
     have e1:=congrArg (List.take (dU k m).length) e
     rw [List.take_append_of_le_length h,List.take_left] at e1
     have e2:=List.take_append_drop (dU k m).length l
     rw [e1] at e2
     exact ⟨_,e2.symm⟩
   rw [List.append_assoc] at e
   exact .inr ⟨r',rfl,List.append_cancel_left e⟩
 · refine .inl ?_
   rw [ew] at h
   by_cases h5:l.length < 1+4
   · exact .inl h5
   · refine .inr ⟨by omega,4+m.length,?_,⟨by omega,by omega⟩,by omega⟩
     rw [← j3 (k:=k) (r:=r) hm,← e,List.drop_append_of_le_length (by omega),List.take_append_of_le_length (by rw [List.length_drop];omega)]
theorem cH:dr.length=16:=by decide
theorem uZ {a:Nat} (h:a < 16) (r:List UInt8):Part 0 ((dr++r).take a):=by
 rw [List.take_append_of_le_length (by rw [cH];omega)]
 have hl:(dr.take a).length=a:=by rw [List.length_take,cH];omega
 by_cases h4:a < 4
 · exact .inl (by omega)
 · refine .inr ⟨by omega,16,?_,by decide,by omega⟩
   rw [List.drop_zero,List.take_take,show min 4 a=4 by omega]
   decide
abbrev dB (fs:List Fm):List UInt8:=dr++j2 fs
noncomputable def G4 (D:List Fm):List (Int × List UInt8):=AY++(jD ph D).flatMap jf
def Mi (h0 h:ah) (b:Nat) (fs:List Fm) (a:Nat) (T O:List (Int × List UInt8)) (n:Nat) (i:Bool):Prop :=
 16≤a∧∃ D R l,fs=D++R∧D.length=n∧Nz h0 h b (mC ph D) true l O∧((mC ph D).ov=false→l++(dB fs).drop a=j2 R∧(i=true→Part 1 l))∧T++O=G4 D
def Lh (h0 h:ah) (b:Nat) (fs:List Fm) (a:Nat) (T:List (Int × List UInt8)) (n:Nat) (i:Bool):Prop:=∃ O,Mi h0 h b fs a T O n i
def Vv (h0 h:ah) (b:Nat) (fs:List Fm) (a:Nat) (T:List (Int × List UInt8)) (n:Nat) (i:Bool):Prop :=
 (Ji h0 h b ((dB fs).take a)∧T=[]∧n=0∧(i=true→a < 16))∨Lh h0 h b fs a T n i
def Fm.one (g:Fm):Prop:=∀ v∈g.cells,v.oneCell'=true
def Mj (h0 h:ah) (b:Nat) (fs:List Fm) (a:Nat) (T:List (Int × List UInt8)) (n:Nat) (i:Bool):Prop :=
 (Ji h0 h b ((dB fs).take a)∧T=[]∧n=0∧(i=true→a < 16))∨Mi h0 h b fs a T [] n i
def JL:Fm:=⟨0,0,[],[],[],.slice none 0 0,[],.slice none 0 0,[],.slice none 0 0,[],.slice none 0 0,[],0⟩
structure BH (fs:List Fm):Prop where
 g:∀ f∈fs,Gd f
 n:fs.length≤20
 l:(dB fs).length≤3000
section
variable {h0 h h':ah} {b:Nat} {fs:List Fm} {a n:Nat} {T:List (Int × List UInt8)} {i:Bool} {S:Nat→Prop}
theorem BH.sub {D R:List Fm} (k:BH fs) (e:fs=D++R):qK D.length (mC ph D)∧(∀ p∈jD ph D,iM p)∧(jD ph D).length≤2060∧D.length≤20:=by
 have hl:D.length+R.length≤20:=by have:=k.n;rw [e,List.length_append] at this;exact this
 obtain ⟨o,m,l⟩:=BG Jj D (fun f hf=>k.g f (by rw [e];exact List.mem_append_left _ hf)) (by omega)
 rw [Nat.zero_add] at o
 exact ⟨o,m,by omega,by omega⟩
theorem Lh.le (k:Lh h0 h b fs a T n i):n≤fs.length:=by
 obtain ⟨O,_,D,R,l,e1,e2,_⟩:=k
 rw [e1,List.length_append]
 omega
theorem Vv.le (k:Vv h0 h b fs a T n i):n≤fs.length:=by
 rcases k with ⟨_,_,e,_⟩ | k
 · omega
 · exact k.le
theorem BI (l m:List Fm):j2 (l++m)=j2 l++j2 m:=List.flatMap_append
theorem qL {D R:List Fm} (e:fs=D++R):(j2 R).length≤(dB fs).length:=by
 rw [e,dB,BI,List.length_append,List.length_append]
 omega
theorem xT (fs:List Fm) {a:Nat} (h:16≤a):(dB fs).drop a=(j2 fs).drop (a - 16):=by
 rw [dB,List.drop_append,cH,List.drop_of_length_le (by rw [cH];omega),List.nil_append]
theorem xU (fs:List Fm) {a:Nat} (h:16≤a):(dB fs).take a=dr++(j2 fs).take (a - 16):=by
 rw [dB,List.take_append,cH,List.take_of_length_le (by rw [cH];omega)]
theorem Mj.sv (k:Mj h0 h b fs a T n i):Vv h0 h b fs a T n i:=k.imp id fun k=>⟨[],k⟩
theorem BJ {k:Int} {m r:List UInt8} (hm:m.length≤60000):¬ Part 1 (dU k m++r):=fun h=>by
 have hl:=ew k m
 rcases h with h | ⟨_,n,hn,_,h⟩
 · rw [List.length_append] at h;omega
 · rw [j3 hm] at hn
   rw [List.length_append] at h
   omega
theorem mT {α β:Type} (f:α→List β) (N:Nat) (l:List α) (h:∀ x∈l,(f x).length≤N):(l.flatMap f).length≤l.length * N:=by
 induction l with
 | nil=>simp
 | cons x l ih =>
   have h1:=h x (List.mem_cons_self ..)
   have h2:=ih fun y hy=>h y (List.mem_cons_of_mem _ hy)
   rw [List.flatMap_cons,List.length_append,List.length_cons,Nat.succ_mul]
   omega
theorem BK {b:Bk} (h:b.EA):(ei b).length≤30000000:=by
 have h1:=mT dO 1100 b.row fun c hc=>nx (h.cells c hc)
 have h2:=mT iZ 1100 b.cols fun c hc=>nw (h.names c hc)
 have h3:=mT (fun n:Int=>be n 4) 4 b.oids fun c hc=>by rw [bm];exact Nat.le_refl _
 have h4:=rW b.fields 200000 h.texts
 have h5:=h.row
 have h6:=h.cols
 have h7:=h.oids
 have h8:=h.fields
 have h9:=h.tag
 have ha:=h.name
 have hb:=h.value
 unfold ei
 repeat' split
 all_goals simp only [List.length_append,List.length_cons,List.length_nil,bm]
 all_goals omega
theorem jz {p:iw} (h:iM p):∀ y∈jf p,y.2.length≤30000000∧0 < y.1∧y.1≤255:=fun y hy=>by
 unfold jf at hy
 split at hy
 · obtain rfl:=List.mem_singleton.1 hy
   have hk:=h.kind
   unfold Kn at hk
   exact ⟨BK (iM.of (uK p) h).1,by dsimp only;omega,by dsimp only;omega⟩
 · exact nomatch hy
theorem BL:∀ y∈AY,y.2.length≤30000000∧0 < y.1∧y.1≤255:=fun y hy=>by
 obtain ⟨p,hp,hy⟩:=List.mem_flatMap.1 hy
 simp only [List.mem_cons,List.not_mem_nil,or_false] at hp
 rcases hp with rfl | rfl | rfl
 · exact jz (uO (by simp [Kn]) (by decide)) y hy
 · exact jz (uO (by simp [Kn]) (by decide)) y hy
 · exact jz (uO (by simp [Kn]) (by decide)) y hy
theorem DY {D R:List Fm} (gs:BH fs) (e:fs=D++R):∀ y∈G4 D,y.2.length≤30000000∧0 < y.1∧y.1≤255:=fun y hy=>by
 obtain ⟨_,hm,_,_⟩:=gs.sub e
 unfold G4 at hy
 rcases List.mem_append.1 hy with hy | hy
 · exact BL y hy
 · obtain ⟨p,hp,hy⟩:=List.mem_flatMap.1 hy
   exact jz (hm p hp) y hy
theorem Vv.body (gs:BH fs) {y:Int × List UInt8} (k:Vv h0 h b fs a (T++[y]) n i):y.2.length≤30000000∧0 < y.1∧y.1≤255:=by
 rcases k with ⟨_,e,_⟩ | ⟨O,ha,D,R,l,e1,e2,k,e3,e4⟩
 · simp at e
 · exact DY gs e1 y (by rw [← e4];simp)
end
section
variable {h h':ah} {b:Nat} {v:Value}
end
section
variable {h h':ah} {b:Nat} {v:Value}
end
abbrev NX:List Value:=[In 0,In 0,In 0,.slice none 0 0]
abbrev Li:List Value:=[.int .u8 0,.int .u8 0,St [],St [],St [],.slice none 0 0,.slice none 0 0,.slice none 0 0,.slice none 0 0,In 0]
def DZ (k:Int) (he fr:List Value):List Value:=In k :: (he++fr++[St [],St []])
section
variable {h h':ah} {b cb fb:Nat} {v w:Value}
theorem BN {h:ah} {k:Int} (hw:Rd h w 1 12 (bu iC)):ag Tryz.prog 163 ⟨[.agg ⟨[.int .u8 k,w]⟩]⟩ h fun u h'=>∃ p,u=.agg ⟨DZ 1 [In 196608,In 0,In 0,p] Li⟩∧Ext No h h'∧∃ A n c,p=.slice A n c:=by
 have kh:=fun (h':ah) (x:Ext No h h')=>tM (hw.aq x)
 obtain ⟨A,c,rfl,_⟩:=id hw
 refine calls [(0,_)] Tryz.func163 rfl Tryz.ntmps163 rfl ⟨rfl,trivial⟩ ?_
 refine WC.sr ?_;refine WL.ai (aB rfl) rfl rfl rfl ?_
 rintro _ h1 ⟨b1,rfl,bO,aQ,ay⟩
 refine WL.ai (av (fun w=>Tryz.zeroValue127 w)) rfl rfl rfl ?_
 rintro _ h2 ⟨b2,rfl,eS,bH,aH⟩
 have X2:=ay.trans aH
 refine Gn ?_;refine G2 ?_;refine WL.ld rfl (by first | exact aa (aH.obj aQ aO) rfl | assumption) rfl rfl rfl ?_
 refine WL.call (vs:=[_]) rfl Tryz.call90 rfl (kh _ X2) rfl rfl rfl ?_
 rintro _ h3 ⟨p3,rfl,dE,aP,gG⟩
 obtain ⟨A3,c3,rfl,_⟩:=id dE.slice
 refine Go ?_;refine WL.ai (av (fun w=>Tryz.zeroValue62 w)) rfl rfl rfl ?_
 rintro _ h4 ⟨b3,rfl,oF,bx,aW⟩
 refine WL.az (al Tryz.sizeOf62 rfl rfl rfl bx rfl (by simp [Value.oneCell'])) rfl rfl ?_
 rintro _ h5 ⟨bT,aN⟩
 have Y5:Ext No h2 h5:=(aP.trans aW).trans' aN (fun q hq e=>by have:=aP.size;omega)
 have G5:=Y5.obj bH aO
 refine Go ?_;refine Gs [(2,_),(3,_),(4,_)] ?_;refine G3 ?_
 refine aJ 1 2 ?_ TT.mk
 all_goals (refine ax 2 ?_)
 refine WC.skip ?_;refine Gn ?_;refine WC.sr ?_;refine WL.step (an Tryz.isAgg62 Tryz.sizeOf62 rfl rfl (by exact At.au bT)) rfl rfl rfl ?_
 refine WL.step (aD (vs:=[_,_]) (cs:=[_,_,_,_,_,_,_,_,_,_,_,_,_,_,_,_,_]) (fun | [a0,.agg ⟨[a1,a2,a3,a4]⟩]=>[a0,a1,a2,a3,a4,(.int .u8 0),(.int .u8 0),(St []),(St []),(St []),(.slice none 0 0),(.slice none 0 0),(.slice none 0 0),(.slice none 0 0),(.int .i64 0),(St []),(St [])] | _=>[]) rfl rfl (by kernel_rfl)) rfl rfl rfl ?_
 refine WL.az (al Tryz.sizeOf127 rfl rfl rfl G5 rfl (by simp [Value.oneCell'])) rfl rfl ?_
 rintro _ h6 ⟨bN,aM⟩
 refine Gn ?_;refine Gs [(2,_)] ?_;refine WC.ret ?_
 repeat' (with_reducible first | refine ba ?_ | refine aV ?_)
 refine bY _ ⟨⟨_,rfl,bB Tryz.isAgg127 Tryz.sizeOf127 (by assumption) rfl⟩,trivial⟩ ?_
 exact ⟨_,rfl,(X2.trans Y5).trans' aM (fun q hq e=>by have:=ay.size;omega),_,_,_,rfl⟩
def fI (h:ah) (cb fb:Nat) (bg:Bool):Prop:=h[cb]?=some (.cells ⟨[.pointer (some ⟨fb,0,none⟩),.bool bg]⟩ 181 (0,0))
theorem lh {bg:Bool} (hb:fI h cb fb bg):ag Tryz.prog 112 ⟨[.pointer (some ⟨cb,0,none⟩)]⟩ h fun u h'=>u=.bool true∧h'=h:=by
 unfold fI at hb
 refine calls [(0,_)] Tryz.func112 rfl Tryz.ntmps112 rfl ⟨rfl,trivial⟩ ?_
 refine G2 ?_;refine G2 ?_;refine WL.step (dD Tryz.underlying119 rfl rfl) rfl rfl rfl (Go ?_)
 refine bG 5 ?_ TT.mk
 refine Gg ?_;refine WL.step (ae rfl) rfl rfl rfl ?_;refine Gg ?_;refine WL.ld rfl (by first | exact aa hb rfl | assumption) rfl rfl rfl ?_
 refine WL.step (dD Tryz.underlying87 rfl rfl) rfl rfl rfl (Go ?_);refine Gs [(2,_)] ?_;refine Gt ?_
 exact ⟨rfl,rfl⟩
theorem BO (hb:fI h cb fb false) {k:Int} (hw:Rd h w 1 12 (bu iC)):ag Tryz.prog 113 ⟨[.pointer (some ⟨cb,0,none⟩),.agg ⟨[.int .u8 k,w]⟩,.bool true,In 0]⟩ h fun u h'=>∃ p,u=.agg ⟨DZ 1 [In 196608,In 0,In 0,p] Li⟩∧Ext No h h'∧∃ A n c,p=.slice A n c:=by
 unfold fI at hb
 have kf:=fun (h':ah) (x:Ext No h h')=>BN (k:=k) (hw.aq x)
 obtain ⟨A,c,rfl,_⟩:=id hw
 refine calls [(0,_),(1,_),(2,_),(3,_)] Tryz.func113 rfl Tryz.ntmps113 rfl ⟨rfl,rfl,rfl,rfl,trivial⟩ ?_
 refine WC.sr ?_;refine WL.ai (aB rfl) rfl rfl rfl ?_
 rintro _ h1 ⟨b1,rfl,bO,aQ,ay⟩
 refine WL.ai (av (fun w=>Tryz.zeroValue127 w)) rfl rfl rfl ?_
 rintro _ h2 ⟨b2,rfl,eS,bH,aH⟩
 have X2:=ay.trans aH
 refine Gn ?_;refine WC.seq ?_;refine WC.block ?_;refine G2 ?_
 refine aJ 1 2 ?_ TT.mk
 all_goals (refine ax 2 ?_)
 refine G2 ?_;refine Gs [(0,_),(5,_),(8,_),(14,_)] ?_
 refine aJ 3 4 ?_ TT.mk
 all_goals (refine ax 4 ?_)
 refine G2 ?_;refine WL.step (ae rfl) rfl rfl rfl (Go ?_);refine WL.ld rfl (by first | exact aa (X2.obj hb aO) rfl | assumption) rfl rfl rfl (Go ?_)
 refine Gs [(5,_),(8,_),(18,_)] ?_
 refine aJ 5 6 ?_ TT.mk
 all_goals (refine ax 6 ?_)
 refine WC.skip ?_;refine Gn ?_;refine WC.sr ?_;refine WL.step (an Tryz.isAgg53 Tryz.sizeOf53 rfl rfl (by exact At.au (aH.obj aQ aO))) rfl rfl rfl ?_
 refine WL.call (vs:=[_]) rfl Tryz.call163 rfl (kf _ X2) rfl rfl rfl ?_
 rintro _ h3 ⟨p,rfl,aP,A3,n3,c3,rfl⟩
 have gL:=aP.obj bH aO
 refine WL.az (al Tryz.sizeOf127 rfl rfl rfl gL rfl (by simp [DZ,Value.oneCell'])) rfl rfl ?_
 rintro _ h4 ⟨bx,aW⟩
 refine Gn ?_;refine Gs [(8,_)] ?_;refine WC.ret ?_
 repeat' (with_reducible first | refine ba ?_ | refine aV ?_)
 refine bY _ ⟨⟨_,rfl,bB Tryz.isAgg127 Tryz.sizeOf127 (by assumption) rfl⟩,trivial⟩ ?_
 exact ⟨_,rfl,(X2.trans aP).trans' aW (fun q hq e=>by have:=ay.size;omega),_,_,_,rfl⟩
theorem BP:ag Tryz.prog 113 ⟨[.pointer (some ⟨cb,0,none⟩),.agg ⟨[.int .u8 0,.slice none 0 0]⟩,.bool false,In 0]⟩ h fun u h'=>u=.agg ⟨DZ 0 NX Li⟩∧Ext No h h':=by
 refine calls [(0,_),(1,_),(2,_),(3,_)] Tryz.func113 rfl Tryz.ntmps113 rfl ⟨rfl,rfl,rfl,rfl,trivial⟩ ?_
 refine WC.sr ?_;refine WL.ai (aB rfl) rfl rfl rfl ?_
 rintro _ h1 ⟨b1,rfl,bO,aQ,ay⟩
 refine WL.ai (av (fun w=>Tryz.zeroValue127 w)) rfl rfl rfl ?_
 rintro _ h2 ⟨b2,rfl,eS,bH,aH⟩
 refine Gn ?_;refine WC.seq ?_;refine WC.block ?_;refine G2 ?_
 refine aJ 1 2 ?_ TT.mk
 all_goals (refine ax 2 ?_)
 refine G2 ?_;refine Gs [(0,_),(5,_),(8,_),(14,_)] ?_
 refine aJ 3 4 ?_ TT.mk
 all_goals (refine ax 3 ?_)
 refine WC.sr ?_;refine WL.step (aD (vs:=[]) (cs:=[_,_,_,_,_,_,_,_,_,_,_,_,_,_,_,_,_]) (fun | []=>[(.int .i64 0),(.int .i64 0),(.int .i64 0),(.int .i64 0),(.slice none 0 0),(.int .u8 0),(.int .u8 0),(St []),(St []),(St []),(.slice none 0 0),(.slice none 0 0),(.slice none 0 0),(.slice none 0 0),(.int .i64 0),(St []),(St [])] | _=>[]) rfl rfl (by kernel_rfl)) rfl rfl rfl ?_
 refine WL.az (al Tryz.sizeOf127 rfl rfl rfl bH rfl (by simp [Value.oneCell'])) rfl rfl ?_
 rintro _ h4 ⟨bx,aW⟩
 refine Gn ?_;refine Gs [(8,_)] ?_;refine WC.ret ?_
 repeat' (with_reducible first | refine ba ?_ | refine aV ?_)
 refine bY _ ⟨⟨_,rfl,bB Tryz.isAgg127 Tryz.sizeOf127 (by assumption) rfl⟩,trivial⟩ ?_
 exact ⟨rfl,(ay.trans aH).trans' aW (fun q hq e=>by have:=ay.size;omega)⟩
end
abbrev Lj:List UInt8:=[83,0,0,0,4]
abbrev BQ:List UInt8:=dr++Lj
section
variable {h h':ah} {b cb fb:Nat} {v w:Value}
theorem fI.ne {bg ty:Bool} {l:List UInt8} (c:fI h cb fb bg) (k:Fw h fb ty v l):cb ≠ fb∧∀ q,v.ownBlock=some q→q ≠ cb:=by
 unfold fI at c
 exact ⟨fun e=>by have:=k.bq;rw [← e,c] at this;simp at this,fun q hq e=>bV k.own c (by decide) (e▸hq)⟩
theorem D0 {ty bg:Bool} {l m:List UInt8} (hb:fI h cb fb bg) (kf:Fw h fb ty v l) (hr:Rd h w 1 m.length (bu m)) (hl:l.length+m.length≤262144) :
   ag Tryz.prog 69 ⟨[.pointer (some ⟨cb,0,none⟩),w]⟩ h fun u h'=>u=In 0∧∃ v',Fw h' fb ty v' (l++m)∧Ext (fun q=>q=fb∨v.ownBlock=some q) h h'∧∀ q,v'.ownBlock=some q→v.ownBlock=some q∨h.size≤q:=by
 have kr:=lh hb
 obtain ⟨A,c,rfl,_⟩:=id hr
 refine calls [(0,_),(1,_)] Tryz.func69 rfl Tryz.ntmps69 rfl ⟨rfl,rfl,trivial⟩ ?_
 refine G2 ?_;refine G3 ?_;refine WL.call (vs:=[_]) rfl Tryz.call112 rfl (kr) rfl rfl rfl ?_
 rintro _ hq ⟨rfl,hz⟩
 replace hz:=hz.symm
 subst hz
 refine Go ?_
 refine aJ 1 2 ?_ TT.mk
 all_goals (refine ax 2 ?_)
 refine WC.skip ?_;refine Gn ?_;refine Gs [(0,_),(1,_)] ?_;refine G2 ?_;refine WL.step (ae rfl) rfl rfl rfl (Go ?_);refine WL.ld rfl (by first | exact aa hb rfl | assumption) rfl rfl rfl (Go ?_)
 refine WL.call (vs:=[_,_]) rfl Tryz.call52 rfl (CJ kf m hr hl) rfl rfl rfl ?_
 rintro _ h2 ⟨rfl,v2,D1,aH,eN⟩
 refine Go ?_;refine Gs [(4,_)] ?_;refine Gt ?_
 exact ⟨rfl,v2,D1,aH,eN⟩
theorem BR {l:List UInt8} (hb:fI h cb fb false) (kf:Fw h fb false v l):ag Tryz.prog 114 ⟨[.pointer (some ⟨cb,0,none⟩)]⟩ h fun _ h'=>fI h' cb fb true∧Fw h' fb true v l∧Ext (fun q=>q=cb∨q=fb) h h':=by
 have kr:=lh hb
 obtain ⟨nf,nv⟩:=hb.ne kf
 refine calls [(0,_)] Tryz.func114 rfl Tryz.ntmps114 rfl ⟨rfl,trivial⟩ ?_
 refine G2 ?_;refine WL.call (vs:=[_]) rfl Tryz.call112 rfl (kr) rfl rfl rfl ?_
 rintro _ hq ⟨rfl,hz⟩
 replace hz:=hz.symm
 subst hz
 refine Gn ?_
 refine aJ 1 2 ?_ TT.mk
 all_goals (refine ax 1 ?_)
 refine G2 ?_;refine WL.step (ae rfl) rfl rfl rfl (Go ?_);refine WL.az (aC Tryz.sizeOf4 rfl rfl hb (Nat.le_of_ble_eq_true rfl) rfl rfl) rfl rfl ?_
 rintro _ h1 ⟨aQ,ay⟩
 have c1:fI h1 cb fb true:=aQ
 have k1:=kf.ext ay (fun e=>nf e.symm) nv
 refine Gn ?_;refine Gs [(0,_)] ?_;refine WC.region (Go ?_);refine WL.step (ae rfl) rfl rfl rfl (Go ?_);refine WL.ld rfl (by first | exact aa aQ rfl | assumption) rfl rfl rfl ?_
 refine WL.call (vs:=[_]) rfl Tryz.call92 rfl (yZ k1) rfl rfl rfl ?_
 rintro _ h2 ⟨rfl,k2,aH⟩
 refine Gn ?_;refine Gn ?_
 refine fa [] trivial ?_
 exact ⟨aH.obj c1 nf,k2,(ay.mono fun _ _ e=>.inl e).trans (aH.mono fun _ _ e=>.inr e)⟩
theorem G6:ag Tryz.prog 67 ⟨[In 65536,In 262144]⟩ h fun u h'=>∃ cb fb,u=.tuple ⟨[.pointer (some ⟨cb,0,none⟩),In 0]⟩∧fI h' cb fb false∧Fw h' fb false (.slice none 0 0) []∧h.size≤cb∧h.size≤fb∧Ext No h h':=by
 refine calls [(0,_),(1,_)] Tryz.func67 rfl Tryz.ntmps67 rfl ⟨rfl,rfl,trivial⟩ ?_
 refine G2 ?_;refine G2 ?_;refine WL.call (vs:=[_,_,_]) rfl Tryz.call48 rfl (Fy) rfl rfl rfl ?_
 rintro _ h1 ⟨fb,rfl,kf,hgf,ay⟩
 refine Go ?_;refine Gs [(6,_),(7,_)] ?_;refine G3 ?_
 refine aJ 1 2 ?_ TT.mk
 all_goals (refine ax 2 ?_)
 refine WC.skip ?_;refine Gn ?_;refine G2 ?_;refine WL.step (aD (vs:=[_]) (cs:=[_,_]) (fun | [a0]=>[a0,(.bool false)] | _=>[]) rfl rfl (by kernel_rfl)) rfl rfl rfl ?_
 refine WL.ai (aB rfl) rfl rfl rfl ?_
 rintro _ h2 ⟨cb,rfl,eS,bH,aH⟩
 refine Go ?_;refine Gs [(4,_),(5,_)] ?_;refine Gt ?_
 exact ⟨cb,fb,rfl,bH,kf.aq aH,by have:=ay.size;omega,hgf,ay.trans aH⟩
end
section
variable {h h':ah} {bs bp mp:Nat}
end
def Jk (k:Int) (E:List UInt8) (g:ah) (u:Value) (g':ah):Prop:=∃ v',u=.tuple ⟨[.agg ⟨[.int .u8 k,v']⟩,In 0]⟩∧Own g' v' 5 1 E.length (bu E)∧Ext No g g'
theorem D2 {h:ah} {v:Value} (L:List Bk) (E:Bk→List UInt8) (hv:Rd h v 11 L.length (L.flatMap Bk.cells)) (hm:L.length≤100) (hE:∀ y∈L,(E y).length≤1000) (hk:∀ y∈L,0 < y.kind∧y.kind≤255) (hone:∀ y∈L,∀ v∈y.cells,v.oneCell'=true)
   (hke:∀ y∈L,∀ g:ah,ag Tryz.prog 98 ⟨[.agg ⟨y.cells⟩]⟩ g (Jk y.kind (E y) g)) :
   ag Tryz.prog 73 ⟨[v]⟩ h fun u h'=>Own h' u 5 1 (L.flatMap fun y=>dU y.kind (E y)).length (bu (L.flatMap fun y=>dU y.kind (E y)))∧Ext No h h'∧∀ k,u.ownBlock=some k→h.size≤k:=by
 have hfl:∀ y,(dU y.kind (E y)).length=5+(E y).length:=fun y=>by simp [dU,bm];omega
 have hlen:∀ j,((L.take j).flatMap fun y=>dU y.kind (E y)).length≤L.length * 1005:=fun j=>by
   have:∀ l:List Bk,(∀ y∈l,y∈L)→(l.flatMap fun y=>dU y.kind (E y)).length≤l.length * 1005:=fun l=>by
     induction l with
     | nil=>simp
     | cons a l ih=>intro hl;rw [List.flatMap_cons,List.length_append,hfl,List.length_cons];have:=ih (fun y hy=>hl y (by simp [hy]));have:=hE a (hl a (by simp));omega
   refine Nat.le_trans (this _ fun y hy=>List.mem_of_mem_take hy) (Nat.mul_le_mul_right _ (by rw [List.length_take];omega))
 obtain ⟨A,c,rfl,_⟩:=id hv
 refine calls [(0,_)] Tryz.func73 rfl Tryz.ntmps73 rfl ⟨rfl,trivial⟩ ?_
 refine G2 ?_;refine G2 ?_;refine G3 ?_;refine WC.block ?_;refine WC.bC (X:=Nat × Value) (fun x=>([(10,In (x.1:Int)),(3,x.2)]:Fr)) [(8,_),(9,_)] (fun y h'=>y.1≤L.length∧Ext No h h'∧Own h' y.2 5 1 ((L.take y.1).flatMap fun y=>dU y.kind (E y)).length (bu ((L.take y.1).flatMap fun y=>dU y.kind (E y)))∧∀ k,y.2.ownBlock=some k→h.size≤k) (fun y=>L.length - y.1) ((0,.slice none 0 0)) ⟨rfl,rfl,rfl,rfl,trivial⟩ (by exact ⟨Nat.zero_le _,.refl _ _,Own.nil _ _ _,fun q hq=>by cases hq⟩) ?_
 rintro ⟨j,w⟩ h1 ⟨hj,ay,fE,fM⟩
 dsimp only at hj fE fM
 refine WC.sub [(3,_),(10,_),(8,_),(9,_)] ⟨rfl,rfl,rfl,rfl,trivial⟩ ?_
 dsimp only
 refine G2 ?_;refine WC.seq ?_
 refine aJ 1 2 (Hb.mk fun hb=>?_) (Hb.mk fun hb=>?_)
 all_goals try (
 refine ax 1 ?_
 refine WC.skip ?_
 skip)
 all_goals try (
 refine ax 2 ?_
 refine WC.exit ?_
 repeat' (with_reducible first | refine aU ?_ | refine aG rfl ?_ | refine aI ?_ | refine aL ?_ | refine aS ?_)
 refine Br.out (i:=1000) ?_
 skip)
 all_goals (refine Gn ?_;first | refine Br.ab ?_ | refine WC.seq ?_)
 all_goals (first | refine Br.ab ?_ | refine WC.block ?_)
 all_goals (first | refine Br.ab ?_ | refine WC.sr ?_)
 all_goals (
  first
    | (refine Br.ab ?_)
    | (obtain ⟨y,hy⟩:∃ y,L[j]?=some y:=⟨_,List.getElem?_eq_getElem (by omega)⟩
       have hmy:=List.mem_of_getElem? hy
       obtain ⟨bL,oL,hA,hbL,hat⟩:=Rd.at_ (hv.aq ay) (by omega)
       subst hA
       have hel:=hat.elem (sz:=11) (fun _=>rfl) hy
       have kee:=hke y hmy
       have hlj:=hlen j))
 all_goals (first | refine Br.ab ?_ | (refine WL.step (aF Tryz.underlying80 Tryz.sizeOf140 rfl rfl rfl (by omega) (by first | rfl | assumption)) rfl rfl rfl ?_))
 all_goals (first | refine Br.ab ?_ | (refine WL.step (an Tryz.isAgg140 Tryz.sizeOf140 rfl rfl (by exact hel)) rfl rfl rfl ?_))
 all_goals (
  first
    | (refine Br.ab ?_)
    | (refine WL.ai (av (fun w=>Tryz.zeroValue140 w)) rfl rfl rfl ?_
       rintro _ h2 ⟨b5,rfl,pQ,bT,aH⟩))
 all_goals (
  first
    | (refine Br.ab ?_)
    | (refine WL.az (al Tryz.sizeOf140 rfl rfl rfl bT rfl (fun v hv=>hone y hmy v hv)) rfl rfl ?_
       rintro _ h3 ⟨xg,aP⟩
       have X3:Ext No h1 h3:=aH.trans' aP (fun q hq e=>by omega)))
 all_goals (refine Gn ?_;first | refine Br.ab ?_ | refine WC.sr ?_)
 all_goals (first | refine Br.ab ?_ | (refine WL.step (an Tryz.isAgg140 Tryz.sizeOf140 rfl rfl (by exact At.au xg)) rfl rfl rfl ?_))
 all_goals (
  first
    | (refine Br.ab ?_)
    | (refine WL.call (vs:=[_]) rfl Tryz.call98 rfl (kee _) rfl rfl rfl ?_
       rintro _ h4 ⟨v4,rfl,fF,aW⟩
       obtain ⟨A4,c4,rfl,_⟩:=id fF.slice))
 all_goals (refine Go ?_)
 all_goals (
  first
    | (refine Br.ab ?_)
    | (refine WL.ai (av (fun w=>Tryz.zeroValue53 w)) rfl rfl rfl ?_
       rintro _ h5 ⟨b6,rfl,oG,bN,aN⟩))
 all_goals (
  first
    | (refine Br.ab ?_)
    | (refine WL.az (al Tryz.sizeOf53 rfl rfl rfl bN rfl (by simp [Value.oneCell'])) rfl rfl ?_
       rintro _ h6 ⟨tJ,aM⟩
       have BS:Ext No h4 h6:=aN.trans' aM (fun q hq e=>by omega)
       have G7:=fF.ext BS (fun _ _=>aO)))
 all_goals (refine Go ?_;first | refine Br.ab ?_ | refine Gs [(3,_),(6,_),(7,_),(8,_),(9,_),(10,_)] ?_)
 all_goals (first | refine Br.ab ?_ | refine WC.seq ?_)
 all_goals (first | refine Br.ab ?_ | refine WC.sr ?_)
 all_goals (refine Go ?_;first | refine Br.ab ?_ | refine aJ 3 4 ?_ TT.mk)
 all_goals try (
 refine ax 4 ?_
 refine WC.skip ?_
 skip)
 all_goals (refine Gn ?_;first | refine Br.ab ?_ | refine WC.region ?_)
 all_goals (refine Go ?_;first | refine Br.ab ?_ | (refine WL.step (an Tryz.isAgg53 Tryz.sizeOf53 rfl rfl (by exact At.au tJ)) rfl rfl rfl ?_))
 all_goals (
  first
    | (refine Br.ab ?_)
    | (refine WL.call (vs:=[_]) rfl Tryz.call115 rfl (vv y.kind (hk y hmy) (E y) G7.rd (by have:=hE y hmy;omega)) rfl rfl rfl ?_
       rintro v7 h7 ⟨gM,bh⟩
       obtain ⟨A7,c7,rfl,_⟩:=id gM.slice
       have X7:Ext No h1 h7:=((X3.trans aW).trans BS).trans bh
       have hfy:=hfl y
       have hEy:=hE y hmy))
 all_goals (
  first
    | (refine Br.ab ?_)
    | (refine WL.ai (aT (sz:=1) (bytes:=1) rfl Tryz.underlying23 (show Tryz.prog.info? 5=some Tryz.t5 by kernel_rfl) rfl rfl rfl rfl (by decide) rfl rfl (fE.ext X7 (fun _ _=>aO)) gM.rd (by intro c hc;obtain ⟨b,_,rfl⟩:=List.mem_map.1 hc;rfl) (by unfold maxLen;omega) (by omega)) rfl rfl rfl ?_
       rintro v8 h8 ⟨iI,bD,pM⟩
       have X8:Ext No h h8:=(ay.trans X7).trans' bD (fun q hq e=>by have:=fM q e;omega)
       have Lk:Own h8 v8 5 1 ((L.take (j+1)).flatMap fun y=>dU y.kind (E y)).length (bu ((L.take (j+1)).flatMap fun y=>dU y.kind (E y))):=by rw [List.take_add_one,hy,List.flatMap_append,List.length_append,gn];simpa using iI))
 all_goals (refine Go ?_;try (refine Br.mk (i:=1001) ?_))
 all_goals (refine Gn ?_;first | refine Br.ab ?_ | refine Gs [(3,_),(8,_),(9,_),(10,_)] ?_)
 all_goals (first | refine Br.ab ?_ | refine WC.region ?_)
 all_goals (refine Go ?_;first | refine Br.ab ?_ | (exact ⟨(j+1,_),⟨rfl,rfl,rfl,rfl,trivial⟩,(by exact ⟨by omega,X8,Lk,bR pM fM (by have:=X7.size;have:=ay.size;omega)⟩),(by dsimp only;omega)⟩))
 try (refine Br.mk (i:=1000) ?_)
 refine Gn ?_;refine Gs [(3,_)] ?_;refine G2 ?_;refine Gt ?_
 rw [List.take_of_length_le (by omega)] at fE
 exact ⟨fE,ay,fM⟩
def Jl (y:Bk):List UInt8:=if y.kind=82 then be 0 4 else if y.kind=75 then be 1 4++be 7919 4 else [73]
abbrev ey:List UInt8:=tN.flatMap fun y=>dU y.kind (Jl y)
abbrev z6:List UInt8:=dU 90 [73]
theorem qM {h:ah} {k st n m:Int} {L:List UInt8} (hc:yV k st n m L):ag Tryz.prog 98 ⟨[.agg ⟨(gB k st n m).cells⟩]⟩ h (Jk k L h) :=
 (HN hc).mono fun _ _ ⟨v',e,ho,hx,_⟩=>⟨v',e,ho,hx⟩
theorem sN {h:ah}:ag Tryz.prog 79 ⟨[.slice none 0 0,In 0]⟩ h fun u h'=>Own h' u 5 1 28 (bu ey)∧Ext No h h'∧∀ q,u.ownBlock=some q→h.size≤q:=by
 have kb:=fun (g:ah) (v:Value) (hv:Rd g v 11 3 pS)=>D2 tN Jl (by simpa [pS] using hv) (by decide) (by decide) (by decide) (by simp [gB,Bk.cells,Value.oneCell']) (fun y hy g=>by
   simp only [List.mem_cons,List.not_mem_nil,or_false] at hy
   rcases hy with rfl | rfl | rfl
   · exact qM (.inl ⟨rfl,rfl,rfl,rfl,rfl⟩)
   · exact qM (.inr (.inl ⟨rfl,rfl,rfl,rfl,rfl⟩))
   · exact qM (.inr (.inr ⟨rfl,rfl,rfl,rfl,rfl⟩)))
 refine calls [(0,_),(1,_)] Tryz.func79 rfl Tryz.ntmps79 rfl ⟨rfl,rfl,trivial⟩ ?_
 refine G2 ?_;refine G2 ?_;refine WL.call (vs:=[_,_]) rfl Tryz.call91 rfl (Fx) rfl rfl rfl ?_
 rintro v1 h1 ⟨fE,ay,fM⟩
 obtain ⟨A1,c1,rfl,_⟩:=id fE.slice
 refine WL.call (vs:=[_]) rfl Tryz.call73 rfl (kb _ _ fE.rd) rfl rfl rfl ?_
 rintro v2 h2 ⟨dC,aH,eN⟩
 refine Go ?_;refine Gs [(4,_)] ?_;refine Gt ?_
 exact ⟨dC,ay.trans aH,fun q hq=>by have:=eN q hq;have:=ay.size;omega⟩
def u0 (cb bs:Nat) (out:Value) (dn:Int):List Value:=[.pointer (some ⟨cb,0,none⟩),.pointer (some ⟨bs,0,none⟩),.slice none 0 0,In 0,out,In dn,.bool false]
theorem BT {h:ah} {a b:Nat} {c d:Array Value} {T U:TypeId} {y z:Nat × Nat} (ha:h[a]?=some (.cells c T y)) (hb:h[b]?=some (.cells d U z)) (hT:T ≠ U):a ≠ b:=fun e=>by
 subst e
 rw [ha] at hb
 simp only [Option.some.injEq,Obj.cells.injEq] at hb
 exact hT hb.2.1
section
variable {N N':Nat→Prop} {g h h':ah} {b cb fb bs bp mp:Nat} {out out' v v':Value} {ob ob' l l':List UInt8} {dn dn':Int} {bg bg':Bool} {S:Nat→Prop}
end
section
variable {N:Nat→Prop} {g h h':ah} {b cb fb bs bp mp:Nat} {out out' v v':Value} {ob ob' l l':List UInt8} {dn dn':Int} {bg bg':Bool} {S:Nat→Prop}
end
section
variable {N:Nat→Prop} {g h h':ah} {b cb fb bs bp mp:Nat} {out out' v v':Value} {ob ob' l l':List UInt8} {dn dn':Int} {bg bg':Bool} {S:Nat→Prop}
end
section
variable {N:Nat→Prop} {g h h':ah} {b cb fb bs bp mp:Nat} {out out' v v':Value} {ob ob' l l':List UInt8} {dn dn':Int} {bg bg':Bool} {S:Nat→Prop}
end
end Go.Proofs.YtopgddfgefnmbaaGreatDoor
