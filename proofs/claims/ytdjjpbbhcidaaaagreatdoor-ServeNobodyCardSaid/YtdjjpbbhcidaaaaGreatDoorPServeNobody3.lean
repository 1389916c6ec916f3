/-
  SEVERAL TEXTS IN ONE: Hv5, Hv6, Hv7, K13, Hv8, Hv11, Hv12, Hv13, Port, Port2, Port3, K15, Port4, Port5, FmB, Sx, Hv14, Hv15, Hv16, SeV.
-/
import Derived.Test.YtdjjpbbhcidaaaaGreatDoorPServeNobody2
import Derived.HandedShaped
import Derived.Handed
import Derived.Scope
import Derived.Sort.Grow
import Derived.Test.YtdjjpbbhcidaaaaGreatDoorRows
import Derived.Lay
import Derived.LaidLaws
import Derived.LaidHandle
import Derived.Stop.Joined
/-
  FRAMES (layer 4), by the code: the next message.
-/
namespace Go.Proofs.YtdjjpbbhcidaaaaGreatDoor
open Go Go.RK

def kindB (ty : Bool) (l : List UInt8) : UInt8 := if ty = true then l.headD 0 else 0
section
variable {h h' : Heap} {b : Nat} {ty : Bool} {v : Value} {l : List UInt8} {S : Nat → Prop}
set_option maxHeartbeats 2000000 in
set_option maxRecDepth 100000 in
theorem fw_peek (k : Fw h b ty v l) (hd n : Nat) (he : (if ty = true then 1 else 0) = hd) (hn : numB ((l.drop hd).take 4) = (n : Int)) (h4 : 4 ≤ n ∧ n ≤ 65536) (hl : hd + n ≤ l.length) (hm : l.length ≤ 1000000) :
    CallsH Tryz.prog 47 ⟨[.pointer (some ⟨b, 0, none⟩)]⟩ h fun u h' => ∃ w, u = .tuple ⟨[.agg ⟨[By (kindB ty l), w]⟩, .bool true, In 0]⟩ ∧ Own h' w 5 1 (n - 4) (bys ((l.drop (hd + 4)).take (n - 4))) ∧ Fw h' b ty v l ∧ Ext (fun q => q = b) h h' ∧ ∀ q, w.ownBlock = some q → h.size ≤ q := by
  have kr := fun (h' : Heap) (k : Fw h' b ty v l) => fw_ready k
  have kw := fun (h' : Heap) (k : Fw h' b ty v l) => fw_whole k hd n he hn h4 hl hm
  have kh := fun h' => fw_head (h := h') ty
  rw [he] at kh
  obtain ⟨B, d, rfl, _⟩ := id k.own.slice
  have hln : ((l.drop (hd + 4)).take (n - 4)).length = n - 4 := by simp; omega
  have hcap : l.length ≤ d := by
    obtain ⟨A1, c1, hv, hcap, _⟩ := id k.own.rd
    simp only [Value.slice.injEq] at hv
    obtain ⟨_, _, rfl⟩ := hv
    exact hcap
  obtain ⟨m, hme⟩ : ∃ m, m = (l.drop (hd + 4)).take (n - 4) := ⟨_, rfl⟩
  rw [← hme] at hln ⊢
  have cap := fun (g : Heap) (k : Fw g b ty (.slice B l.length d) l) (e : ty = true) => (show ∃ bb o, B = some ⟨bb, o, none⟩ ∧ At g bb o [By (kindB ty l)] by
    obtain ⟨bb, o, eA, _, hat⟩ := Rd.at_ k.own.rd (by omega)
    subst e
    cases l with
    | nil => simp at hl; omega
    | cons x l => exact ⟨bb, o, eA, At.pre (xs := [By x]) hat⟩)
  cases ty
  all_goals
    refine calls [(0, _)] Tryz.func47 rfl Tryz.ntmps47 rfl ⟨rfl, trivial⟩ ?_
    all_goals (refine WC.sr ?_)
    all_goals (refine WL.stepR (okE_alloc (fun w => Tryz.zeroValue38 w)) rfl rfl rfl ?_
               rintro _ h1 ⟨b1, rfl, hg1, hb1, hx1⟩)
    all_goals (have k1 := k.ext0 hx1
               have lb := lt_of_some k.blk)
    all_goals (refine Go ?_)
    all_goals (refine WC.seq ?_)
    all_goals (refine WC.sr ?_)
    all_goals (refine Go ?_)
    all_goals (refine WL.call (vs := [_]) rfl (fun a w => Tryz.call65 a w) rfl (kr _ k1) rfl rfl rfl ?_
               rintro _ hq ⟨rfl, hz⟩
               replace hz := hz.symm
               subst hz)
    all_goals (refine Go ?_)
    all_goals (refine Gs [(0, _), (2, _), (11, _)] ?_)
    all_goals (refine goC 1 2 ?_ ?_ <;> first | exact ⟨⟩ | refine Hb.mk fun hb => ?_ | skip)
    all_goals (first | (fail_if_success refine goB 1 ?_) | (
    refine goB 1 ?_
    all_goals (refine WC.sr ?_)
    all_goals (refine WL.step (ok_buildF (vs := []) (cs := [_, _]) (fun | [] => [(.int .u8 0), (.slice none 0 0)] | _ => []) rfl rfl (by kernel_rfl)) rfl rfl rfl ?_)
    all_goals (refine WL.stepR0 (okE_storeW (fun w => Tryz.sizeOf38 w) rfl rfl rfl (by assumption) rfl (by simp [Value.oneCell'])) rfl rfl ?_
               rintro _ h1 ⟨hb1, hx1⟩)
    all_goals (refine Go ?_)
    all_goals (refine WC.ret ?_)
    all_goals (repeat' (with_reducible first | refine thenP_r ?_ | refine blockP_r ?_))
    all_goals (refine retP_3 _ _ _ ⟨⟨_, rfl, ld_blk (fun w => Tryz.isAgg38 w) (fun w => Tryz.sizeOf38 w) (by assumption) rfl⟩, rfl, rfl, trivial⟩ ?_)
    all_goals (exact ⟨_, rfl, hln ▸ how6, kf6, X6, fun q hq => by have := hfw q hq; omega⟩)
    skip))
    all_goals (first | (fail_if_success refine goB 2 ?_) | (
    refine goB 2 ?_
    all_goals (refine WC.skip ?_)
    skip))
    all_goals (refine Gn ?_)
    all_goals (refine WC.sr ?_)
    all_goals (refine Go ?_)
    all_goals (refine WL.call (vs := [_]) rfl (fun a w => Tryz.call81 a w) rfl (kw _ k1) rfl rfl rfl ?_
               rintro _ h2 ⟨rfl, k2, hx2⟩)
    all_goals (have hb2 := k2.blk
               have hb12 := hx2.obj hb1 (fun e => by omega)
               have hs2 := (k2.own.rd.drop (l := hd + 4) (by omega)).take (k := n - 4) (by omega)
               have hmb : ((bys l).drop ((hd + 4) * 1)).take ((n - 4) * 1) = bys ((l.drop (hd + 4)).take (n - 4)) := by simp [bys]
               rw [hmb, ← hme, ← hln] at hs2
               have lb2 := lt_of_some hb2
               have lb12 := lt_of_some hb12
               have X : Ext No h2 h2 := .refl _ _)
    all_goals (refine Go ?_)
    all_goals (refine Gs [(0, _), (2, _), (5, _), (6, _), (7, _)] ?_)
    all_goals (refine WC.seq ?_)
    all_goals (refine WC.sr ?_)
    all_goals (refine Go ?_)
    all_goals (refine goC 3 4 ?_ ?_ <;> first | exact ⟨⟩ | refine Hb.mk fun hb => ?_ | skip)
    all_goals (first | (fail_if_success refine goB 3 ?_) | (
    refine goB 3 ?_
    all_goals (refine WC.sr ?_)
    all_goals (refine WL.step (ok_buildF (vs := []) (cs := [_, _]) (fun | [] => [(.int .u8 0), (.slice none 0 0)] | _ => []) rfl rfl (by kernel_rfl)) rfl rfl rfl ?_)
    all_goals (refine Go ?_)
    all_goals (refine WL.stepR0 (okE_storeW (fun w => Tryz.sizeOf38 w) rfl rfl rfl (by assumption) rfl (by simp [Value.oneCell'])) rfl rfl ?_
               rintro _ h1 ⟨hb1, hx1⟩)
    all_goals (refine Go ?_)
    all_goals (refine Gs [(2, _), (3, _), (4, _)] ?_)
    all_goals (refine WC.ret ?_)
    all_goals (repeat' (with_reducible first | refine thenP_r ?_ | refine blockP_r ?_))
    all_goals (refine retP_3 _ _ _ ⟨⟨_, rfl, ld_blk (fun w => Tryz.isAgg38 w) (fun w => Tryz.sizeOf38 w) (by assumption) rfl⟩, rfl, rfl, trivial⟩ ?_)
    all_goals (exact ⟨_, rfl, hln ▸ how6, kf6, X6, fun q hq => by have := hfw q hq; omega⟩)
    skip))
    all_goals (first | (fail_if_success refine goB 4 ?_) | (
    refine goB 4 ?_
    all_goals (refine WC.skip ?_)
    skip))
    all_goals (refine Gn ?_)
    all_goals (refine Gs [(0, _), (2, _), (5, _)] ?_)
    all_goals (refine WC.seq ?_)
    all_goals (refine WC.drawH (fun h' => Ext No h2 h') 15 16 rfl fol ?_)
    all_goals (refine WH.tk 0 rfl (fun hq hC => ok_move rfl) rfl rfl rfl ?_)
    all_goals (refine WH.tk 1 rfl (fun hq hC => ok_nilCheck rfl) rfl rfl rfl ?_)
    all_goals (refine WH.tk 2 rfl (fun hq hC => ok_fieldAddr rfl Tryz.underlying87 rfl (fun w => Tryz.sizeOf22 w)) rfl rfl rfl ?_)
    all_goals (refine WH.tk 3 rfl (fun hq hC => ok_load (fun w => Tryz.isAgg22 w) rfl (by first | exact hC.cell (by first | exact At.pre (xs := [_]) (ys := [_, _, _]) (At.tl ((At.of_block hb2).ext hC nos)) | assumption | exact cell_blk (by assumption) rfl) nos)) rfl rfl rfl ?_)
    all_goals (refine WH.tk 4 rfl (fun hq hC => ok_move rfl) rfl rfl rfl ?_)
    all_goals (refine WH.tk 5 rfl (fun hq hC => ok_nilCheck rfl) rfl rfl rfl ?_)
    all_goals (refine WH.tk 6 rfl (fun hq hC => ok_fieldAddr rfl Tryz.underlying87 rfl (fun w => Tryz.sizeOf85 w)) rfl rfl rfl ?_)
    all_goals (refine WH.tk 7 rfl (fun hq hC => ok_loadN (fun w => Tryz.isAgg85 w) (fun w => Tryz.sizeOf85 w) rfl rfl (by exact At.pre (xs := [_]) (ys := [_, _, _, _]) ((At.of_block hb2).ext hC nos))) rfl rfl rfl ?_)
    all_goals (refine WH.tk 10 rfl (fun hq hC => ok_move rfl) rfl rfl rfl ?_)
    all_goals (refine WH.two 8 14 (by kernel_rfl) (Br.out (i := 5006) ?_) (Br.out (i := 5007) ?_))
    all_goals (first | (fail_if_success refine goB 5006 ?_) | (
    refine goB 5006 ?_
    all_goals (refine Comes1.call (vs := [_]) rfl rfl (fun a w => Tryz.call49 a w) rfl (kh _) rfl rfl rfl ?_ (fun _ => by kernel_rfl)
               rintro _ h3 ⟨rfl, hx3⟩
               replace X := X.trans hx3
               try (replace hb8 := hx3.obj hb8 nos))
    all_goals (refine ⟨fun _ => X, ?_⟩)
    all_goals (first | (refine WH.tk 9 rfl (fun hq hC => ok_addI rfl rfl (by omega)) rfl rfl rfl ?_) | (refine WH.tk 9 rfl (fun hq hC => ok_add rfl rfl) rfl rfl rfl ?_))
    all_goals (refine WH.tk 11 rfl (fun hq hC => ok_slice_lhN (l := hd + 4) (k := hd + n) Tryz.underlying22 (fun w => Tryz.sizeOf5 w) rfl rfl rfl (by omega)) rfl rfl rfl ?_)
    all_goals (rw [show hd + n - (hd + 4) = m.length by omega])
    all_goals (refine WH.two 12 14 (by kernel_rfl) (Br.out (i := 5006) ?_) (Br.out (i := 5007) ?_))
    all_goals (first | (fail_if_success refine goB 5006 ?_) | (
    refine goB 5006 ?_
    all_goals (refine Comes1.call (vs := [_]) rfl rfl (fun a w => Tryz.call41 a w) rfl (clone_byt m (hs2.ext0 X) (by omega)) rfl rfl rfl ?_ (fun _ => by kernel_rfl)
               rintro w3 h4 ⟨how, hx4, hfw⟩
               have hfw : ∀ q, w3.ownBlock = some q → h2.size ≤ q := fun q hq => by have := hfw q hq; have := X.size; omega
               obtain ⟨A3, c3, rfl, _⟩ := id how.slice
               replace X := X.trans hx4
               try (replace hb8 := hx4.obj hb8 nos))
    all_goals (refine ⟨fun _ => X, ?_⟩)
    all_goals (refine WH.tk 13 rfl (fun hq hC => ok_buildF (vs := [_]) (cs := [_, _]) (fun | [a1] => [(.int .u8 0), a1] | _ => []) rfl rfl (by kernel_rfl)) rfl rfl rfl ?_)
    all_goals (refine WH.one 14 (by kernel_rfl) ?_)
    all_goals (refine Comes1.run rfl (okE_alloc (fun w => Tryz.zeroValue38 w)) rfl rfl rfl ?_ (fun _ => by kernel_rfl)
               rintro _ h5 ⟨b8, rfl, hg8, hb8, hx5⟩
               have hg8 : h2.size ≤ b8 := by have := X.size; omega
               replace X := X.trans hx5
               try (replace how := how.ext hx5 (fun _ _ => nos)))
    all_goals (refine ⟨fun _ => X, ?_⟩)
    all_goals (refine WH.one 15 (by kernel_rfl) ?_)
    all_goals (refine Comes1.run0 rfl (okE_storeW (fun w => Tryz.sizeOf38 w) rfl rfl rfl hb8 rfl (by simp [Value.oneCell'])) rfl rfl ?_ (fun _ => by kernel_rfl)
               rintro _ h6 ⟨hb86, hx6⟩
               have hb26 := hx6.obj (X.obj hb2 nos) (fun e => by omega)
               have hb126 := hx6.obj (X.obj hb12 nos) (fun e => by omega)
               have how6 := how.ext hx6 (fun q hq e => own_ne how hb8 (by decide) (e ▸ hq))
               have kf6 : Fw h6 b _ (.slice B l.length d) l := (k2.ext0 X).ext hx6 (fun e => by omega) (fun q hq e => own_ne (k2.ext0 X).own hb8 (by decide) (e ▸ hq))
               have X6 : Ext (fun q => q = b) h h6 := (hx1.mono fun _ _ e => e.elim).trans (hx2.trans ((X.trans' hx6 (fun q hq e => by omega)).mono fun _ _ e => e.elim))
               have hl1 := hx1.size
               have hl2 := hx2.size
               replace hb8 := hb86
               clear hb86)
    all_goals (refine ⟨fun e => (by cases e), ?_⟩)
    all_goals (refine WH.done (by kernel_rfl) ?_)
    skip))
    all_goals (first | (fail_if_success refine goB 5007 ?_) | (
    refine goB 5007 ?_
    all_goals (refine Comes1.run rfl (okE_alloc (fun w => Tryz.zeroValue38 w)) rfl rfl rfl ?_ (fun _ => by kernel_rfl)
               rintro _ h5 ⟨b8, rfl, hg8, hb8, hx5⟩
               have hg8 : h2.size ≤ b8 := by have := X.size; omega
               replace X := X.trans hx5
               try (replace how := how.ext hx5 (fun _ _ => nos)))
    all_goals (refine ⟨fun _ => X, ?_⟩)
    all_goals (refine WH.one 12 (by kernel_rfl) ?_)
    all_goals (refine Comes1.call (vs := [_]) rfl rfl (fun a w => Tryz.call41 a w) rfl (clone_byt m (hs2.ext0 X) (by omega)) rfl rfl rfl ?_ (fun _ => by kernel_rfl)
               rintro w3 h4 ⟨how, hx4, hfw⟩
               have hfw : ∀ q, w3.ownBlock = some q → h2.size ≤ q := fun q hq => by have := hfw q hq; have := X.size; omega
               obtain ⟨A3, c3, rfl, _⟩ := id how.slice
               replace X := X.trans hx4
               try (replace hb8 := hx4.obj hb8 nos))
    all_goals (refine ⟨fun _ => X, ?_⟩)
    all_goals (refine WH.tk 13 rfl (fun hq hC => ok_buildF (vs := [_]) (cs := [_, _]) (fun | [a1] => [(.int .u8 0), a1] | _ => []) rfl rfl (by kernel_rfl)) rfl rfl rfl ?_)
    all_goals (refine WH.one 15 (by kernel_rfl) ?_)
    all_goals (refine Comes1.run0 rfl (okE_storeW (fun w => Tryz.sizeOf38 w) rfl rfl rfl hb8 rfl (by simp [Value.oneCell'])) rfl rfl ?_ (fun _ => by kernel_rfl)
               rintro _ h6 ⟨hb86, hx6⟩
               have hb26 := hx6.obj (X.obj hb2 nos) (fun e => by omega)
               have hb126 := hx6.obj (X.obj hb12 nos) (fun e => by omega)
               have how6 := how.ext hx6 (fun q hq e => own_ne how hb8 (by decide) (e ▸ hq))
               have kf6 : Fw h6 b _ (.slice B l.length d) l := (k2.ext0 X).ext hx6 (fun e => by omega) (fun q hq e => own_ne (k2.ext0 X).own hb8 (by decide) (e ▸ hq))
               have X6 : Ext (fun q => q = b) h h6 := (hx1.mono fun _ _ e => e.elim).trans (hx2.trans ((X.trans' hx6 (fun q hq e => by omega)).mono fun _ _ e => e.elim))
               have hl1 := hx1.size
               have hl2 := hx2.size
               replace hb8 := hb86
               clear hb86)
    all_goals (refine ⟨fun e => (by cases e), ?_⟩)
    all_goals (refine WH.done (by kernel_rfl) ?_)
    skip))
    skip))
    all_goals (first | (fail_if_success refine goB 5007 ?_) | (
    refine goB 5007 ?_
    all_goals (refine Comes1.run rfl (okE_alloc (fun w => Tryz.zeroValue38 w)) rfl rfl rfl ?_ (fun _ => by kernel_rfl)
               rintro _ h5 ⟨b8, rfl, hg8, hb8, hx5⟩
               have hg8 : h2.size ≤ b8 := by have := X.size; omega
               replace X := X.trans hx5
               try (replace how := how.ext hx5 (fun _ _ => nos)))
    all_goals (refine ⟨fun _ => X, ?_⟩)
    all_goals (refine WH.one 8 (by kernel_rfl) ?_)
    all_goals (refine Comes1.call (vs := [_]) rfl rfl (fun a w => Tryz.call49 a w) rfl (kh _) rfl rfl rfl ?_ (fun _ => by kernel_rfl)
               rintro _ h3 ⟨rfl, hx3⟩
               replace X := X.trans hx3
               try (replace hb8 := hx3.obj hb8 nos))
    all_goals (refine ⟨fun _ => X, ?_⟩)
    all_goals (first | (refine WH.tk 9 rfl (fun hq hC => ok_addI rfl rfl (by omega)) rfl rfl rfl ?_) | (refine WH.tk 9 rfl (fun hq hC => ok_add rfl rfl) rfl rfl rfl ?_))
    all_goals (refine WH.tk 11 rfl (fun hq hC => ok_slice_lhN (l := hd + 4) (k := hd + n) Tryz.underlying22 (fun w => Tryz.sizeOf5 w) rfl rfl rfl (by omega)) rfl rfl rfl ?_)
    all_goals (rw [show hd + n - (hd + 4) = m.length by omega])
    all_goals (refine WH.one 12 (by kernel_rfl) ?_)
    all_goals (refine Comes1.call (vs := [_]) rfl rfl (fun a w => Tryz.call41 a w) rfl (clone_byt m (hs2.ext0 X) (by omega)) rfl rfl rfl ?_ (fun _ => by kernel_rfl)
               rintro w3 h4 ⟨how, hx4, hfw⟩
               have hfw : ∀ q, w3.ownBlock = some q → h2.size ≤ q := fun q hq => by have := hfw q hq; have := X.size; omega
               obtain ⟨A3, c3, rfl, _⟩ := id how.slice
               replace X := X.trans hx4
               try (replace hb8 := hx4.obj hb8 nos))
    all_goals (refine ⟨fun _ => X, ?_⟩)
    all_goals (refine WH.tk 13 rfl (fun hq hC => ok_buildF (vs := [_]) (cs := [_, _]) (fun | [a1] => [(.int .u8 0), a1] | _ => []) rfl rfl (by kernel_rfl)) rfl rfl rfl ?_)
    all_goals (refine WH.one 15 (by kernel_rfl) ?_)
    all_goals (refine Comes1.run0 rfl (okE_storeW (fun w => Tryz.sizeOf38 w) rfl rfl rfl hb8 rfl (by simp [Value.oneCell'])) rfl rfl ?_ (fun _ => by kernel_rfl)
               rintro _ h6 ⟨hb86, hx6⟩
               have hb26 := hx6.obj (X.obj hb2 nos) (fun e => by omega)
               have hb126 := hx6.obj (X.obj hb12 nos) (fun e => by omega)
               have how6 := how.ext hx6 (fun q hq e => own_ne how hb8 (by decide) (e ▸ hq))
               have kf6 : Fw h6 b _ (.slice B l.length d) l := (k2.ext0 X).ext hx6 (fun e => by omega) (fun q hq e => own_ne (k2.ext0 X).own hb8 (by decide) (e ▸ hq))
               have X6 : Ext (fun q => q = b) h h6 := (hx1.mono fun _ _ e => e.elim).trans (hx2.trans ((X.trans' hx6 (fun q hq e => by omega)).mono fun _ _ e => e.elim))
               have hl1 := hx1.size
               have hl2 := hx2.size
               replace hb8 := hb86
               clear hb86)
    all_goals (refine ⟨fun e => (by cases e), ?_⟩)
    all_goals (refine WH.done (by kernel_rfl) ?_)
    skip))
    all_goals (refine Gn ?_)
    all_goals (refine Gs [(0, _), (2, _), (8, _)] ?_)
    all_goals (refine WC.seq ?_)
    all_goals (refine WC.sr ?_)
    all_goals (refine Go ?_)
    all_goals (refine WL.step (ok_nilCheck rfl) rfl rfl rfl ?_)
    all_goals (refine Go ?_)
    all_goals (refine WL.ld rfl (by first | exact At.pre (xs := [_]) (ys := [_, _, _, _]) (At.of_block hb26) | assumption | exact cell_blk (by assumption) rfl) rfl rfl rfl ?_)
    all_goals (refine Gn ?_)
    all_goals (refine Gs [(0, _), (2, _), (8, _), (41, _)] ?_)
    all_goals (refine goC 5 6 ?_ ?_ <;> first | exact ⟨⟩ | refine Hb.mk fun hb => ?_ | skip)
    all_goals (first | (fail_if_success refine goB 5 ?_) | (
    refine goB 5 ?_
    all_goals (refine WC.region ?_)
    all_goals (refine Go ?_)
    all_goals (refine WL.step (ok_nilCheck rfl) rfl rfl rfl ?_)
    all_goals (refine Go ?_)
    all_goals (refine WL.ld rfl (by first | exact At.pre (xs := [_]) (ys := [_, _, _]) (At.tl (At.of_block hb26)) | assumption | exact cell_blk (by assumption) rfl) rfl rfl rfl ?_)
    all_goals (obtain ⟨bb, o, rfl, hat⟩ := cap _ kf6 rfl
               have hat0 := hat.get (p := o + 0 * 1) 0 rfl (by omega))
    all_goals (refine WL.step (ok_idxAddrA Tryz.underlying22 (fun w => Tryz.sizeOf5 w) rfl rfl rfl (by first | omega | (simp <;> omega)) (by first | rfl | assumption) (k := 0)) rfl rfl rfl ?_)
    all_goals (refine WL.ld rfl (by first | exact hat0 | assumption | exact cell_blk (by assumption) rfl) rfl rfl rfl ?_)
    all_goals (refine Go ?_)
    all_goals (refine WL.stepR0 (okE_store (fun w => Tryz.sizeOf5 w) rfl rfl hb8 (Nat.le_of_ble_eq_true rfl) rfl rfl) rfl rfl ?_
               rintro _ h7 ⟨hb8z, hx7⟩
               replace X6 := X6.trans' hx7 (fun q hq e => by omega)
               replace how6 := how6.ext hx7 (fun q hq e => own_ne how6 hb8 (by decide) (e ▸ hq))
               replace kf6 := kf6.ext hx7 (fun e => by omega) (fun q hq e => own_ne kf6.own hb8 (by decide) (e ▸ hq))
               replace hb126 := hx7.obj hb126 (fun e => by omega)
               replace hb8 := hb8z)
    all_goals (refine Gn ?_)
    skip))
    all_goals (first | (fail_if_success refine goB 6 ?_) | (
    refine goB 6 ?_
    all_goals (refine WC.skip ?_)
    skip))
    all_goals (refine Gn ?_)
    all_goals (refine WC.sr ?_)
    all_goals (refine WL.step (ok_loadN (fun w => Tryz.isAgg38 w) (fun w => Tryz.sizeOf38 w) rfl rfl (by exact At.of_block hb8)) rfl rfl rfl ?_)
    all_goals (refine WL.stepR0 (okE_storeW (fun w => Tryz.sizeOf38 w) rfl rfl rfl hb126 rfl (by simp [Value.oneCell'])) rfl rfl ?_
               rintro _ h9 ⟨hb9, hx9⟩
               replace X6 := X6.trans' hx9 (fun q hq e => by omega)
               replace how6 := how6.ext hx9 (fun q hq e => own_ne how6 hb126 (by decide) (e ▸ hq))
               replace kf6 := kf6.ext hx9 (fun e => by omega) (fun q hq e => own_ne kf6.own hb126 (by decide) (e ▸ hq)))
    all_goals (refine Go ?_)
    all_goals (refine Gs [(2, _), (3, _), (4, _)] ?_)
    all_goals (refine WC.ret ?_)
    all_goals (repeat' (with_reducible first | refine thenP_r ?_ | refine blockP_r ?_))
    all_goals (refine retP_3 _ _ _ ⟨⟨_, rfl, ld_blk (fun w => Tryz.isAgg38 w) (fun w => Tryz.sizeOf38 w) (by assumption) rfl⟩, rfl, rfl, trivial⟩ ?_)
    all_goals (exact ⟨_, rfl, hln ▸ how6, kf6, X6, fun q hq => by have := hfw q hq; omega⟩)
end
end Go.Proofs.YtdjjpbbhcidaaaaGreatDoor


/-
  FRAMES (layer 4), by the code: the next message, taken.
-/
namespace Go.Proofs.YtdjjpbbhcidaaaaGreatDoor
open Go Go.RK

section
variable {h h' : Heap} {b : Nat} {ty : Bool} {v : Value} {l : List UInt8} {S : Nat → Prop}
set_option maxHeartbeats 2000000 in
set_option maxRecDepth 100000 in
theorem fw_next (k : Fw h b ty v l) (hd n : Nat) (he : (if ty = true then 1 else 0) = hd) (hn : numB ((l.drop hd).take 4) = (n : Int)) (h4 : 4 ≤ n ∧ n ≤ 65536) (hl : hd + n ≤ l.length) (hm : l.length ≤ 1000000) :
    CallsH Tryz.prog 23 ⟨[.pointer (some ⟨b, 0, none⟩)]⟩ h fun u h' => ∃ w v', u = .tuple ⟨[.agg ⟨[By (kindB ty l), w]⟩, .bool true, In 0]⟩ ∧ Own h' w 5 1 (n - 4) (bys ((l.drop (hd + 4)).take (n - 4))) ∧ Fw h' b ty v' (l.drop (hd + n)) ∧ Ext (fun q => q = b ∨ v.ownBlock = some q) h h' ∧ (∀ q, w.ownBlock = some q → h.size ≤ q) ∧ v'.ownBlock = v.ownBlock := by
  have kp := fun (h' : Heap) (k : Fw h' b ty v l) => fw_peek k hd n he hn h4 hl hm
  have kh := fun h' => fw_head (h := h') ty
  rw [he] at kh
  have hne := k.ne
  have hbl : ∀ q, v.ownBlock = some q → q < h.size := fun q hq => k.own.lt hq
  obtain ⟨B, d, rfl, _⟩ := id k.own.slice
  obtain ⟨m, hme⟩ : ∃ m, m = (l.drop (hd + 4)).take (n - 4) := ⟨_, rfl⟩
  rw [← hme] at kp ⊢
  have kd := fun (h' : Heap) (k : Fw h' b ty (.slice B l.length d) l) => delete_byt (k := hd + n) l k.own (by omega) hm
  refine calls [(0, _)] Tryz.func23 rfl Tryz.ntmps23 rfl ⟨rfl, trivial⟩ ?_
  all_goals (refine WC.sr ?_)
  all_goals (refine WL.stepR (okE_alloc (fun w => Tryz.zeroValue38 w)) rfl rfl rfl ?_
             rintro _ h1 ⟨b1, rfl, hg1, hb1, hx1⟩)
  all_goals (have k1 := k.ext0 hx1
             have lb := lt_of_some k.blk)
  all_goals (refine Go ?_)
  all_goals (refine WC.sr ?_)
  all_goals (refine Go ?_)
  all_goals (refine WL.call (vs := [_]) rfl (fun a w => Tryz.call47 a w) rfl (kp _ k1) rfl rfl rfl ?_
             rintro _ h2 ⟨w2, rfl, how, k2, hx2, hfw⟩)
  all_goals (obtain ⟨A2, c2, rfl, _⟩ := id how.slice
             have hb12 := hx2.obj hb1 (fun e => by omega)
             have l1 := hx1.size
             have l2 := hx2.size)
  all_goals (refine Go ?_)
  all_goals (refine WL.stepR (okE_alloc (fun w => Tryz.zeroValue38 w)) rfl rfl rfl ?_
             rintro _ h3 ⟨b5, rfl, hg5, hb5, hx3⟩)
  all_goals (refine WL.stepR0 (okE_storeW (fun w => Tryz.sizeOf38 w) rfl rfl rfl hb5 rfl (by simp [Value.oneCell'])) rfl rfl ?_
             rintro _ h4 ⟨hb54, hx4⟩
             have X : Ext No h2 h4 := hx3.trans' hx4 (fun q hq e => by omega)
             have k4 := k2.ext0 X
             have how4 := how.ext X (fun _ _ => nos)
             have hb14 := X.obj hb12 nos
             have hb24 := k4.blk
             have l4 := X.size
             clear hb1 hb12 hb5 hx3 hx4
             have nB : (Value.slice B l.length d).ownBlock ≠ some b := fun e => hne b e rfl
             have nB5 : (Value.slice B l.length d).ownBlock ≠ some b5 := fun e => by have := hbl b5 e; omega)
  all_goals (refine Go ?_)
  all_goals (refine Gs [(0, _), (2, _), (5, _), (6, _), (7, _)] ?_)
  all_goals (refine WC.seq ?_)
  all_goals (refine WC.sr ?_)
  all_goals (refine Go ?_)
  all_goals (refine goC 1 2 ?_ ?_ <;> first | exact ⟨⟩ | refine Hb.mk fun hb => ?_ | skip)
  all_goals (first | (fail_if_success refine goB 1 ?_) | (
  refine goB 1 ?_
  all_goals (refine WC.drawH (fun h' => Ext (fun q => (Value.slice B l.length d).ownBlock = some q) h4 h') 18 19 rfl fol ?_)
  all_goals (refine WH.tk 0 rfl (fun hq hC => ok_move rfl) rfl rfl rfl ?_)
  all_goals (refine WH.tk 1 rfl (fun hq hC => ok_move rfl) rfl rfl rfl ?_)
  all_goals (refine WH.tk 2 rfl (fun hq hC => ok_nilCheck rfl) rfl rfl rfl ?_)
  all_goals (refine WH.tk 3 rfl (fun hq hC => ok_fieldAddr rfl Tryz.underlying87 rfl (fun w => Tryz.sizeOf22 w)) rfl rfl rfl ?_)
  all_goals (refine WH.tk 4 rfl (fun hq hC => ok_load (fun w => Tryz.isAgg22 w) rfl (by first | exact hC.cell (by first | exact At.pre (xs := [_]) (ys := [_, _, _]) (At.tl ((At.of_block hb24).ext hC nB)) | assumption | exact cell_blk (by assumption) rfl) (by first | exact nB | exact nB5))) rfl rfl rfl ?_)
  all_goals (refine WH.tk 5 rfl (fun hq hC => ok_move rfl) rfl rfl rfl ?_)
  all_goals (refine WH.tk 6 rfl (fun hq hC => ok_nilCheck rfl) rfl rfl rfl ?_)
  all_goals (refine WH.tk 7 rfl (fun hq hC => ok_fieldAddr rfl Tryz.underlying87 rfl (fun w => Tryz.sizeOf85 w)) rfl rfl rfl ?_)
  all_goals (refine WH.tk 8 rfl (fun hq hC => ok_loadN (fun w => Tryz.isAgg85 w) (fun w => Tryz.sizeOf85 w) rfl rfl (by exact At.pre (xs := [_]) (ys := [_, _, _, _]) ((At.of_block hb24).ext hC nB))) rfl rfl rfl ?_)
  all_goals (refine WH.tk 11 rfl (fun hq hC => ok_fieldAddr rfl Tryz.underlying38 rfl (fun w => Tryz.sizeOf22 w)) rfl rfl rfl ?_)
  all_goals (refine WH.tk 12 rfl (fun hq hC => ok_load (fun w => Tryz.isAgg22 w) rfl (by first | exact hC.cell (by first | exact At.pre (xs := [_]) (ys := []) (At.tl ((At.of_block hb54).ext hC nB5)) | assumption | exact cell_blk (by assumption) rfl) (by first | exact nB | exact nB5))) rfl rfl rfl ?_)
  all_goals (refine WH.tk 13 rfl (fun hq hC => ok_lenL rfl Tryz.underlying22 rfl) rfl rfl rfl ?_)
  all_goals (refine WH.one 9 (by kernel_rfl) ?_)
  all_goals (refine Comes1.call (vs := [_]) rfl rfl (fun a w => Tryz.call49 a w) rfl (kh _) rfl rfl rfl ?_ (fun _ => by kernel_rfl)
             rintro _ h5 ⟨rfl, hx5⟩
             have hC5 : Ext (fun q => (Value.slice B l.length d).ownBlock = some q) h4 h5 := hx5.mono fun _ _ e => e.elim)
  all_goals (refine ⟨fun _ => hC5, ?_⟩)
  all_goals (first | (refine WH.tk 10 rfl (fun hq hC => ok_addI rfl rfl (by omega)) rfl rfl rfl ?_) | (refine WH.tk 10 rfl (fun hq hC => ok_add rfl rfl) rfl rfl rfl ?_))
  all_goals (first | (refine WH.tk 14 rfl (fun hq hC => ok_addI rfl rfl (by omega)) rfl rfl rfl ?_) | (refine WH.tk 14 rfl (fun hq hC => ok_add rfl rfl) rfl rfl rfl ?_))
  all_goals (rw [show (hd : Int) + 4 + ((n - 4 : Nat) : Int) = ((hd + n : Nat) : Int) by omega])
  all_goals (refine WH.one 15 (by kernel_rfl) ?_)
  all_goals (refine Comes1.call (vs := [_, _, _]) rfl rfl (fun a w => Tryz.call48 a w) rfl (kd _ (k4.ext0 hx5)) rfl rfl rfl ?_ (fun _ => by kernel_rfl)
             rintro v6 h6 ⟨ho6, hx6, hf6⟩
             obtain ⟨B6, d6, rfl, _⟩ := id ho6.slice
             have hb26 := hx6.obj (k4.ext0 hx5).blk nB
             have hC6 : Ext (fun q => (Value.slice B l.length d).ownBlock = some q) h4 h6 := (hx5.mono fun _ _ e => e.elim).trans hx6
             have how6 := how4.ext hC6 (fun q hq e => by have := hfw q hq; have := hbl q e; omega)
             have hb16 := hC6.obj hb14 (fun e => by have := hbl b1 e; omega)
             have hb56 := hC6.obj hb54 nB5)
  all_goals (refine ⟨fun _ => by first | assumption | trivial, ?_⟩)
  all_goals (refine WH.one 16 (by kernel_rfl) ?_)
  all_goals (refine Comes1.run rfl (OkP.r (ok_nilCheck rfl)) rfl rfl rfl ?_ (fun _ => by kernel_rfl)
             rintro _ hz ⟨rfl, _⟩
             subst hz)
  all_goals (refine ⟨fun _ => by first | assumption | trivial, ?_⟩)
  all_goals (refine WH.one 17 (by kernel_rfl) ?_)
  all_goals (refine Comes1.run rfl (OkP.r (ok_fieldAddr rfl Tryz.underlying87 rfl (fun w => Tryz.sizeOf22 w))) rfl rfl rfl ?_ (fun _ => by kernel_rfl)
             rintro _ hz ⟨rfl, _⟩
             subst hz)
  all_goals (refine ⟨fun _ => by first | assumption | trivial, ?_⟩)
  all_goals (refine WH.one 18 (by kernel_rfl) ?_)
  all_goals (refine Comes1.run0 rfl (okE_store (fun w => Tryz.sizeOf22 w) rfl rfl hb26 (Nat.le_of_ble_eq_true rfl) rfl rfl) rfl rfl ?_ (fun _ => by kernel_rfl)
             rintro _ h7 ⟨hb27, hx7⟩
             have k7 : Fw h7 b ty (.slice B6 (l.drop (hd + n)).length d6) (l.drop (hd + n)) := ⟨hb27, ho6.ext hx7 (fun q hq e => nB (by rw [← hf6]; exact e ▸ hq))⟩
             have how7 := how6.ext hx7 (fun q hq e => own_ne how6 hb26 (by decide) (e ▸ hq))
             have hb17 := hx7.obj hb16 (fun e => by omega)
             have hb57 := hx7.obj hb56 (fun e => by omega)
             have X7 : Ext (fun q => q = b ∨ (Value.slice B l.length d).ownBlock = some q) h h7 := (hx1.mono fun _ _ e => e.elim).trans ((hx2.mono fun _ _ e => .inl e).trans ((X.mono fun _ _ e => e.elim).trans ((hC6.mono fun _ _ e => .inr e).trans (hx7.mono fun _ _ e => .inl e)))))
  all_goals (refine ⟨fun e => (by cases e), ?_⟩)
  all_goals (refine WH.done (by kernel_rfl) ?_)
  skip))
  all_goals (first | (fail_if_success refine goB 2 ?_) | (
  refine goB 2 ?_
  all_goals (refine WC.skip ?_)
  skip))
  all_goals (refine Gn ?_)
  all_goals (refine WC.sr ?_)
  all_goals (refine WL.step (ok_loadN (fun w => Tryz.isAgg38 w) (fun w => Tryz.sizeOf38 w) rfl rfl (by exact At.of_block hb57)) rfl rfl rfl ?_)
  all_goals (refine Go ?_)
  all_goals (refine WL.stepR0 (okE_storeW (fun w => Tryz.sizeOf38 w) rfl rfl rfl hb17 rfl (by simp [Value.oneCell'])) rfl rfl ?_
             rintro _ h8 ⟨hb18, hx8⟩)
  all_goals (refine Go ?_)
  all_goals (refine Gs [(2, _), (3, _), (4, _)] ?_)
  all_goals (refine WC.ret ?_)
  all_goals (repeat' (with_reducible first | refine thenP_r ?_ | refine blockP_r ?_))
  all_goals (refine retP_3 _ _ _ ⟨⟨_, rfl, ld_blk (fun w => Tryz.isAgg38 w) (fun w => Tryz.sizeOf38 w) (by assumption) rfl⟩, rfl, rfl, trivial⟩ ?_)
  all_goals (exact ⟨_, _, rfl, how7.ext hx8 (fun q hq e => own_ne how7 hb17 (by decide) (e ▸ hq)), k7.ext hx8 (fun e => by omega) (fun q hq e => own_ne k7.own hb17 (by decide) (e ▸ hq)), X7.trans' hx8 (fun q hq e => by omega), fun q hq => by have := hfw q hq; omega, hf6⟩)
end
end Go.Proofs.YtdjjpbbhcidaaaaGreatDoor


/-
  SCANS (layer 5), by the code.
-/
namespace Go.Proofs.YtdjjpbbhcidaaaaGreatDoor
open Go Go.RK

/-- A scan at b: what is left is l. -/
structure Sc (h : Heap) (b : Nat) (v : Value) (l : List UInt8) : Prop where
  blk : h[b]? = some (.cells ⟨[v, .bool false, .bool true]⟩ 160 (0, 0))
  rd : Rd h v 1 l.length (bys l)
  ne : ∀ q, v.ownBlock = some q → q ≠ b
section
variable {h h' : Heap} {b : Nat} {v : Value} {l : List UInt8} {S : Nat → Prop}
theorem Sc.ext (k : Sc h b v l) (x : Ext S h h') (h1 : ¬ S b) (h2 : ∀ q, v.ownBlock = some q → ¬ S q) : Sc h' b v l := ⟨x.obj k.blk h1, k.rd.ext x h2, k.ne⟩
set_option maxHeartbeats 2000000 in
set_option maxRecDepth 100000 in
theorem clone_bytV {h : Heap} (l : List UInt8) (hr : Rd h v 1 l.length (bys l)) (hm : l.length ≤ 1000000) : CallsH Tryz.prog 20 ⟨[v]⟩ h fun u h' => Own h' u 5 1 l.length (bys l) ∧ Ext No h h' ∧ (∀ k, u.ownBlock = some k → h.size ≤ k) := by
  obtain ⟨A, c, rfl, _⟩ := id hr
  cases A with
  | none =>
    have h0 : l = [] := by
      cases l with
      | nil => rfl
      | cons a l => obtain ⟨b, o, e, _⟩ := Rd.at_ hr (by simp); cases e
    subst h0
    refine calls [(0, _)] Tryz.func20 rfl Tryz.ntmps20 rfl ⟨rfl, trivial⟩ ?_
    all_goals (refine WC.sr ?_)
    all_goals (refine Go ?_)
    all_goals (refine WC.seq ?_)
    all_goals (refine WC.sr ?_)
    all_goals (refine Go ?_)
    all_goals (refine WL.step (ok_eqlSn Tryz.underlying22 rfl rfl) rfl rfl rfl ?_)
    all_goals (refine Gn ?_)
    all_goals (refine goC 1 2 ?_ ?_ <;> first | exact ⟨⟩ | refine Hb.mk fun hb => ?_ | skip)
    all_goals (first | (fail_if_success refine goB 1 ?_) | (
    refine goB 1 ?_
    all_goals (refine WC.sr ?_)
    all_goals (refine Go ?_)
    all_goals (refine Gt ?_)
    all_goals (exact ⟨Own.nil _ _ _, .refl _ _, by simp [Value.ownBlock]⟩)
    skip))
    all_goals (first | (fail_if_success refine goB 2 ?_) | (
    refine goB 2 ?_
    all_goals (refine WC.skip ?_)
    skip))
    all_goals (refine Gn ?_)
    all_goals (refine WC.sr ?_)
    all_goals (refine WL.stepR (okE_buildSlice (vs := []) (cs := []) (fun _ => []) Tryz.underlying22 rfl rfl (by kernel_rfl)) rfl rfl rfl ?_
               rintro _ h1 ⟨b1, rfl, hg1, hb1, hx1⟩)
    all_goals (refine Go ?_)
    all_goals (refine WL.stepR (ok_append (sz := 1) (bytes := 1) rfl Tryz.underlying22 (show Tryz.prog.info? 5 = some Tryz.t5 by kernel_rfl) rfl rfl rfl rfl (by decide) rfl rfl (by assumption) (by first | assumption | exact rd_blk (by assumption) rfl) (by simp [Value.oneCell']) (by simp only [maxLen]; omega) (by omega)) rfl rfl rfl ?_
               rintro v1 h1 ⟨ho1, hx1, hl1⟩)
    all_goals (refine Go ?_)
    all_goals (refine Gs [(2, _)] ?_)
    all_goals (refine Gt ?_)
    all_goals (exact ⟨Own.nil _ _ _, .refl _ _, by simp [Value.ownBlock]⟩)
  | some a =>
    refine calls [(0, _)] Tryz.func20 rfl Tryz.ntmps20 rfl ⟨rfl, trivial⟩ ?_
    all_goals (refine WC.sr ?_)
    all_goals (refine Go ?_)
    all_goals (refine WC.seq ?_)
    all_goals (refine WC.sr ?_)
    all_goals (refine Go ?_)
    all_goals (refine WL.step (ok_eqlSn Tryz.underlying22 rfl rfl) rfl rfl rfl ?_)
    all_goals (refine Gn ?_)
    all_goals (refine goC 1 2 ?_ ?_ <;> first | exact ⟨⟩ | refine Hb.mk fun hb => ?_ | skip)
    all_goals (first | (fail_if_success refine goB 1 ?_) | (
    refine goB 1 ?_
    all_goals (refine WC.sr ?_)
    all_goals (refine Go ?_)
    all_goals (refine Gt ?_)
    all_goals (exact ⟨by simpa using ho2, hx1.trans' hx2 (fun k hk e => by simp [Value.ownBlock] at e; omega), fresh_of hl2 (fun k hk => by simp [Value.ownBlock] at hk; omega) hx1.size⟩)
    skip))
    all_goals (first | (fail_if_success refine goB 2 ?_) | (
    refine goB 2 ?_
    all_goals (refine WC.skip ?_)
    skip))
    all_goals (refine Gn ?_)
    all_goals (refine WC.sr ?_)
    all_goals (refine WL.stepR (okE_buildSlice (vs := []) (cs := []) (fun _ => []) Tryz.underlying22 rfl rfl (by kernel_rfl)) rfl rfl rfl ?_
               rintro _ h1 ⟨b1, rfl, hg1, hb1, hx1⟩)
    all_goals (refine Go ?_)
    all_goals (have hr1 := hr.ext0 hx1)
    all_goals (refine WL.stepR (ok_append (sz := 1) (bytes := 1) rfl Tryz.underlying22 (show Tryz.prog.info? 5 = some Tryz.t5 by kernel_rfl) rfl rfl rfl rfl (by decide) rfl rfl (own_blk hb1 rfl (by simp [maxLen])) hr1 (by intro c hc; obtain ⟨b, _, rfl⟩ := List.mem_map.1 hc; rfl) (by simp only [maxLen]; omega) (by omega)) rfl rfl rfl ?_
               rintro v2 h2 ⟨ho2, hx2, hl2⟩)
    all_goals (refine Go ?_)
    all_goals (refine Gs [(2, _)] ?_)
    all_goals (refine Gt ?_)
    all_goals (exact ⟨by simpa using ho2, hx1.trans' hx2 (fun k hk e => by simp [Value.ownBlock] at e; omega), fresh_of hl2 (fun k hk => by simp [Value.ownBlock] at hk; omega) hx1.size⟩)
set_option maxHeartbeats 2000000 in
set_option maxRecDepth 100000 in
theorem scan_new {w : Value} (l : List UInt8) (hr : Rd h w 1 l.length (bys l)) (hm : l.length ≤ 1000000) : CallsH Tryz.prog 55 ⟨[w]⟩ h fun u h' => ∃ b v, u = .pointer (some ⟨b, 0, none⟩) ∧ Sc h' b v l ∧ Ext No h h' ∧ h.size ≤ b ∧ ∀ q, v.ownBlock = some q → h.size ≤ q := by
  refine calls [(0, _)] Tryz.func55 rfl Tryz.ntmps55 rfl ⟨rfl, trivial⟩ ?_
  all_goals (refine WC.sr ?_)
  all_goals (refine Go ?_)
  all_goals (refine WC.sr ?_)
  all_goals (refine Go ?_)
  all_goals (refine WL.call (vs := [_]) rfl (fun a w => Tryz.call20 a w) rfl (clone_bytV l hr hm) rfl rfl rfl ?_
             rintro v1 h1 ⟨ho1, hx1, hf1⟩
             obtain ⟨A1, c1, rfl, _⟩ := id ho1.slice)
  all_goals (refine WL.step (ok_buildF (vs := [_, _]) (cs := [_, _, _]) (fun | [a0, a2] => [a0, (.bool false), a2] | _ => []) rfl rfl (by kernel_rfl)) rfl rfl rfl ?_)
  all_goals (refine WL.stepR (okE_box rfl) rfl rfl rfl ?_
             rintro _ h2 ⟨b2, rfl, hg2, hb2, hx2⟩)
  all_goals (refine Go ?_)
  all_goals (refine Gs [(2, _)] ?_)
  all_goals (refine Gt ?_)
  all_goals (exact ⟨b2, _, rfl, ⟨hb2, (ho1.ext hx2 (fun _ _ => nos)).rd, fun q hq e => by have := ho1.lt hq; omega⟩, hx1.trans hx2, by have := hx1.size; omega, hf1⟩)
set_option maxHeartbeats 2000000 in
set_option maxRecDepth 100000 in
theorem sc_good (k : Sc h b v l) : CallsH Tryz.prog 91 ⟨[.pointer (some ⟨b, 0, none⟩)]⟩ h fun u h' => u = .bool true ∧ h' = h := by
  have hb := k.blk
  refine calls [(0, _)] Tryz.func91 rfl Tryz.ntmps91 rfl ⟨rfl, trivial⟩ ?_
  all_goals (refine WC.sr ?_)
  all_goals (refine Go ?_)
  all_goals (refine WC.sr ?_)
  all_goals (refine Go ?_)
  all_goals (refine WL.step (ok_neqPn Tryz.underlying97 rfl rfl) rfl rfl rfl ?_)
  all_goals (refine Go ?_)
  all_goals (refine goP 5 ?_ ?_ <;> first | exact ⟨⟩ | refine Hb.mk fun hb => ?_ | skip)
  all_goals (refine Gg ?_)
  all_goals (first | (refine WL.pass rfl rfl rfl ?_) | (refine WL.step (ok_nilCheck rfl) rfl rfl rfl ?_))
  all_goals (refine Gg ?_)
  all_goals (first | (refine WL.pass rfl rfl rfl ?_) | (refine WL.ld rfl (by first | exact cell_blk hb rfl | assumption | exact cell_blk (by assumption) rfl) rfl rfl rfl ?_))
  all_goals (refine Go ?_)
  all_goals (refine goP 11 ?_ ?_ <;> first | exact ⟨⟩ | refine Hb.mk fun hb => ?_ | skip)
  all_goals (refine Gg ?_)
  all_goals (first | (refine WL.pass rfl rfl rfl ?_) | (refine WL.step (ok_nilCheck rfl) rfl rfl rfl ?_))
  all_goals (refine Gg ?_)
  all_goals (first | (refine WL.pass rfl rfl rfl ?_) | (refine WL.ld rfl (by first | exact cell_blk hb rfl | assumption | exact cell_blk (by assumption) rfl) rfl rfl rfl ?_))
  all_goals (refine Gg ?_)
  all_goals (refine Go ?_)
  all_goals (refine Gs [(2, _)] ?_)
  all_goals (refine Gt ?_)
  all_goals (exact ⟨rfl, rfl⟩)
theorem Rd.capped {A : Option Addr} {n c sz : Nat} {xs : List Value} (r : Rd h (.slice A n c) sz n xs) : Rd h (.slice A n n) sz n xs := by
  obtain ⟨A1, c1, e, hc, hl, hp⟩ := r
  simp only [Value.slice.injEq] at e
  obtain ⟨rfl, _, rfl⟩ := e
  exact ⟨_, _, rfl, Nat.le_refl _, hl, hp⟩
theorem own_off {A : Option Addr} {n m c d k : Nat} {p : Prop} [Decidable p] {q : Nat} (e : (Value.slice (if p then A else A.map (·.add k)) m d).ownBlock = some q) : (Value.slice A n c).ownBlock = some q := by
  cases A with
  | none => split at e <;> cases e
  | some a => split at e <;> (simp only [Value.ownBlock, Option.map_some, Option.some.injEq, Addr.add] at e ⊢; first | exact e | (split at e <;> exact e))
theorem own_as {A : Option Addr} {n m c d q : Nat} (e : (Value.slice A m d).ownBlock = some q) : (Value.slice A n c).ownBlock = some q := by cases A <;> exact e
set_option maxHeartbeats 2000000 in
set_option maxRecDepth 100000 in
theorem sc_cut (k : Sc h b v l) (n : Nat) (hn : n ≤ l.length) (hm : l.length ≤ 1000000) : CallsH Tryz.prog 130 ⟨[.pointer (some ⟨b, 0, none⟩), In (n : Int)]⟩ h fun u h' => ∃ A c v', u = .tuple ⟨[.slice A n c, .bool true]⟩ ∧ Rd h' (.slice A n c) 1 n (bys (l.take n)) ∧ Sc h' b v' (l.drop n) ∧ Ext (fun q => q = b) h h' := by
  have kg := fun (h' : Heap) (k : Sc h' b v l) => sc_good k
  have hb := k.blk
  have hr := k.rd
  have hne := k.ne
  obtain ⟨A, c, rfl, hcap, _⟩ := id hr
  refine calls [(0, _), (1, _)] Tryz.func130 rfl Tryz.ntmps130 rfl ⟨rfl, rfl, trivial⟩ ?_
  all_goals (refine WC.sr ?_)
  all_goals (refine Go ?_)
  all_goals (refine WC.seq ?_)
  all_goals (refine WC.sr ?_)
  all_goals (refine Go ?_)
  all_goals (refine WL.call (vs := [_]) rfl (fun a w => Tryz.call91 a w) rfl (kg _ k) rfl rfl rfl ?_
             rintro _ hq ⟨rfl, hz⟩
             replace hz := hz.symm
             subst hz)
  all_goals (refine Go ?_)
  all_goals (refine goP 10 ?_ ?_ <;> first | exact ⟨⟩ | refine Hb.mk fun hb => ?_ | skip)
  all_goals (refine Gg ?_)
  all_goals (refine Go ?_)
  all_goals (refine goP 14 ?_ ?_ <;> first | exact ⟨⟩ | refine Hb.mk fun hb => ?_ | skip)
  all_goals (refine Gg ?_)
  all_goals (first | (refine WL.pass rfl rfl rfl ?_) | (refine WL.step (ok_nilCheck rfl) rfl rfl rfl ?_))
  all_goals (refine Gg ?_)
  all_goals (first | (refine WL.pass rfl rfl rfl ?_) | (refine WL.ld rfl (by first | exact cell_blk hb rfl | assumption | exact cell_blk (by assumption) rfl) rfl rfl rfl ?_))
  all_goals (refine Gg ?_)
  all_goals (refine Go ?_)
  all_goals (refine Gs [(0, _), (1, _), (22, _)] ?_)
  all_goals (refine goC 1 2 ?_ ?_ <;> first | exact ⟨⟩ | refine Hb.mk fun hb => ?_ | skip)
  all_goals (first | (fail_if_success refine goB 2 ?_) | (
  refine goB 2 ?_
  all_goals (refine WC.skip ?_)
  skip))
  all_goals (refine Gn ?_)
  all_goals (refine WC.sr ?_)
  all_goals (refine Go ?_)
  all_goals (refine WL.step (ok_nilCheck rfl) rfl rfl rfl ?_)
  all_goals (refine Go ?_)
  all_goals (refine WL.ld rfl (by first | exact cell_blk hb rfl | assumption | exact cell_blk (by assumption) rfl) rfl rfl rfl ?_)
  all_goals (refine Go ?_)
  all_goals (first | (refine WL.step (ok_slice_hmN Tryz.underlying22 (fun w => Tryz.sizeOf5 w) rfl rfl rfl (by omega)) rfl rfl rfl ?_) | (refine WL.step (ok_slice_hm Tryz.underlying22 (fun w => Tryz.sizeOf5 w) rfl rfl rfl (by omega)) rfl rfl rfl ?_))
  all_goals (refine Go ?_)
  all_goals (refine Gs [(0, _), (1, _), (6, _)] ?_)
  all_goals (refine WC.sr ?_)
  all_goals (refine Go ?_)
  all_goals (refine WL.step (ok_nilCheck rfl) rfl rfl rfl ?_)
  all_goals (refine Go ?_)
  all_goals (refine WL.ld rfl (by first | exact cell_blk hb rfl | assumption | exact cell_blk (by assumption) rfl) rfl rfl rfl ?_)
  all_goals (refine Go ?_)
  all_goals (first | (refine WL.step (ok_slice_lN Tryz.underlying22 (fun w => Tryz.sizeOf5 w) rfl rfl (by omega)) rfl rfl rfl ?_) | (refine WL.step (ok_slice_lS Tryz.underlying22 (fun w => Tryz.sizeOf5 w) rfl rfl (by omega)) rfl rfl rfl ?_) | (refine WL.step (ok_slice_l Tryz.underlying22 (fun w => Tryz.sizeOf5 w) rfl rfl (by omega)) rfl rfl rfl ?_))
  all_goals (refine WL.step (ok_nilCheck rfl) rfl rfl rfl ?_)
  all_goals (refine Go ?_)
  all_goals (refine WL.stepR0 (okE_store (fun w => Tryz.sizeOf22 w) rfl rfl hb (Nat.le_of_ble_eq_true rfl) rfl rfl) rfl rfl ?_
             rintro _ h2 ⟨hb2, hx2⟩)
  all_goals (refine Gn ?_)
  all_goals (refine Gs [(6, _)] ?_)
  all_goals (refine WC.sr ?_)
  all_goals (refine Go ?_)
  all_goals (refine Gt ?_)
  all_goals (have r1 := Rd.capped (hr.take hn)
             have r2 := hr.drop hn
             rw [show (bys l).take (n * 1) = bys (l.take n) by simp [bys]] at r1
             rw [show (bys l).drop (n * 1) = bys (l.drop n) by simp [bys]] at r2
             have n2 : ∀ q, (Value.slice (if c = n then A else A.map (fun x => x.add (n * 1))) (l.length - n) (c - n)).ownBlock = some q → q ≠ b := fun q hq => hne q (own_off hq)
             exact ⟨A, n, _, rfl, r1.ext hx2 (fun q hq => hne q (own_as hq)), ⟨hb2, by rw [List.length_drop]; exact r2.ext hx2 n2, n2⟩, hx2⟩)
set_option maxHeartbeats 2000000 in
set_option maxRecDepth 100000 in
theorem sc_num (k : Sc h b v l) (hn : 4 ≤ l.length) (hm : l.length ≤ 1000000) : CallsH Tryz.prog 82 ⟨[.pointer (some ⟨b, 0, none⟩), In 4]⟩ h fun u h' => ∃ v', u = In (numB (l.take 4)) ∧ Sc h' b v' (l.drop 4) ∧ Ext (fun q => q = b) h h' := by
  have kc := fun (h' : Heap) (k : Sc h' b v l) => sc_cut k 4 hn hm
  have kr := fun (h' : Heap) => right_v (h := h') 0 4 (.inr (.inr rfl)) (by unfold Rt; decide)
  have h4 : (l.take 4).length = 4 := by simp; omega
  have kn := fun (h' : Heap) (A : Option Addr) (c : Nat) (r : Rd h' (.slice A 4 c) 1 4 (bys (l.take 4))) => get_v (l.take 4) (A := A) (c := c) (by rw [h4]; exact r) 0 (by omega) (by omega)
  simp only [h4, List.drop_zero, List.take_take, Nat.min_self] at kn
  refine calls [(0, _), (1, _)] Tryz.func82 rfl Tryz.ntmps82 rfl ⟨rfl, rfl, trivial⟩ ?_
  all_goals (refine WC.sr ?_)
  all_goals (refine Go ?_)
  all_goals (refine WC.seq ?_)
  all_goals (refine WC.sr ?_)
  all_goals (refine Go ?_)
  all_goals (refine WL.call (vs := [_, _]) rfl (fun a w => Tryz.call128 a w) rfl (kr _) rfl rfl rfl ?_
             rintro _ hq ⟨rfl, hz⟩
             replace hz := hz.symm
             subst hz)
  all_goals (refine Go ?_)
  all_goals (refine goC 1 2 ?_ ?_ <;> first | exact ⟨⟩ | refine Hb.mk fun hb => ?_ | skip)
  all_goals (first | (fail_if_success refine goB 2 ?_) | (
  refine goB 2 ?_
  all_goals (refine WC.skip ?_)
  skip))
  all_goals (refine Gn ?_)
  all_goals (refine Gs [(0, _), (1, _)] ?_)
  all_goals (refine WC.sr ?_)
  all_goals (refine Go ?_)
  all_goals (refine WL.call (vs := [_, _]) rfl (fun a w => Tryz.call130 a w) rfl (kc _ k) rfl rfl rfl ?_
             rintro _ h2 ⟨A2, c2, v2, rfl, r2, k2, hx2⟩)
  all_goals (refine Go ?_)
  all_goals (refine Gs [(0, _), (1, _), (5, _), (6, _)] ?_)
  all_goals (refine WC.seq ?_)
  all_goals (refine WC.sr ?_)
  all_goals (refine Go ?_)
  all_goals (refine goC 3 4 ?_ ?_ <;> first | exact ⟨⟩ | refine Hb.mk fun hb => ?_ | skip)
  all_goals (first | (fail_if_success refine goB 3 ?_) | (
  refine goB 3 ?_
  all_goals (refine WC.sr ?_)
  all_goals (refine Go ?_)
  all_goals (refine Gs [(4, _)] ?_)
  all_goals (refine Gt ?_)
  all_goals (exact ⟨_, rfl, k2, hx2⟩)
  skip))
  all_goals (first | (fail_if_success refine goB 4 ?_) | (
  refine goB 4 ?_
  all_goals (refine WC.skip ?_)
  skip))
  all_goals (refine Gn ?_)
  all_goals (refine WC.sr ?_)
  all_goals (refine Go ?_)
  all_goals (refine WL.call (vs := [_, _, _]) rfl (fun a w => Tryz.call131 a w) rfl (kn _ _ _ r2) rfl rfl rfl ?_
             rintro _ hq ⟨rfl, hz⟩
             replace hz := hz.symm
             subst hz)
  all_goals (refine Go ?_)
  all_goals (refine Gs [(0, _), (7, _), (8, _)] ?_)
  all_goals (refine WC.seq ?_)
  all_goals (refine WC.sr ?_)
  all_goals (refine Go ?_)
  all_goals (refine goC 5 6 ?_ ?_ <;> first | exact ⟨⟩ | refine Hb.mk fun hb => ?_ | skip)
  all_goals (first | (fail_if_success refine goB 6 ?_) | (
  refine goB 6 ?_
  all_goals (refine WC.skip ?_)
  skip))
  all_goals (refine Gn ?_)
  all_goals (refine Gs [(7, _)] ?_)
  all_goals (refine WC.sr ?_)
  all_goals (refine Go ?_)
  all_goals (refine Gt ?_)
  all_goals (exact ⟨_, rfl, k2, hx2⟩)
set_option maxHeartbeats 2000000 in
set_option maxRecDepth 100000 in
theorem sc_done (k : Sc h b v []) : CallsH Tryz.prog 57 ⟨[.pointer (some ⟨b, 0, none⟩)]⟩ h fun u h' => u = .bool true ∧ h' = h := by
  have kg := sc_good k
  have hb := k.blk
  obtain ⟨A, c, rfl, _⟩ := id k.rd
  refine calls [(0, _)] Tryz.func57 rfl Tryz.ntmps57 rfl ⟨rfl, trivial⟩ ?_
  all_goals (refine WC.sr ?_)
  all_goals (refine Go ?_)
  all_goals (refine WC.sr ?_)
  all_goals (refine Go ?_)
  all_goals (refine WL.call (vs := [_]) rfl (fun a w => Tryz.call91 a w) rfl (kg) rfl rfl rfl ?_
             rintro _ hq ⟨rfl, hz⟩
             replace hz := hz.symm
             subst hz)
  all_goals (refine Go ?_)
  all_goals (refine goP 5 ?_ ?_ <;> first | exact ⟨⟩ | refine Hb.mk fun hb => ?_ | skip)
  all_goals (refine Gg ?_)
  all_goals (first | (refine WL.pass rfl rfl rfl ?_) | (refine WL.step (ok_nilCheck rfl) rfl rfl rfl ?_))
  all_goals (refine Gg ?_)
  all_goals (first | (refine WL.pass rfl rfl rfl ?_) | (refine WL.ld rfl (by first | exact cell_blk hb rfl | assumption | exact cell_blk (by assumption) rfl) rfl rfl rfl ?_))
  all_goals (refine Gg ?_)
  all_goals (refine Go ?_)
  all_goals (refine Gs [(2, _)] ?_)
  all_goals (refine Gt ?_)
  all_goals (exact ⟨rfl, rfl⟩)
set_option maxHeartbeats 2000000 in
set_option maxRecDepth 100000 in
theorem sc_text (s r : List UInt8) (hs : Lib.indexByte (s ++ 0 :: r) 0 = s.length) (k : Sc h b v (s ++ 0 :: r)) (hm : (s ++ 0 :: r).length ≤ 1000000) : CallsH Tryz.prog 87 ⟨[.pointer (some ⟨b, 0, none⟩)]⟩ h fun u h' => ∃ v', u = St s ∧ Sc h' b v' r ∧ Ext (fun q => q = b) h h' := by
  have kg := fun (h' : Heap) (k : Sc h' b v (s ++ 0 :: r)) => sc_good k
  have kc := fun (h' : Heap) (k : Sc h' b v (s ++ 0 :: r)) => sc_cut k (s.length + 1) (by simp) hm
  have hb := k.blk
  have ki := indexByte_bys _ 0 k.rd (by simp; omega)
  rw [hs] at ki
  have e1 : (s ++ 0 :: r).drop (s.length + 1) = r := by rw [List.drop_append]; simp
  have e2 : (s ++ 0 :: r).take (s.length + 1) = s ++ [0] := by rw [List.take_append, List.take_of_length_le (by omega)]; simp
  rw [e1, e2] at kc
  have hms : s.length + 1 ≤ 1000000 := by simp at hm; omega
  refine calls [(0, _)] Tryz.func87 rfl Tryz.ntmps87 rfl ⟨rfl, trivial⟩ ?_
  all_goals (refine WC.sr ?_)
  all_goals (refine Go ?_)
  all_goals (refine WC.seq ?_)
  all_goals (refine WC.sr ?_)
  all_goals (refine Go ?_)
  all_goals (refine WL.call (vs := [_]) rfl (fun a w => Tryz.call91 a w) rfl (kg _ k) rfl rfl rfl ?_
             rintro _ hq ⟨rfl, hz⟩
             replace hz := hz.symm
             subst hz)
  all_goals (refine Go ?_)
  all_goals (refine goC 1 2 ?_ ?_ <;> first | exact ⟨⟩ | refine Hb.mk fun hb => ?_ | skip)
  all_goals (first | (fail_if_success refine goB 1 ?_) | (
  refine goB 1 ?_
  all_goals (refine WC.sr ?_)
  all_goals (refine Go ?_)
  all_goals (refine Gs [(2, _)] ?_)
  all_goals (refine Gt ?_)
  all_goals (exact ⟨_, rfl, k2, hx2⟩)
  skip))
  all_goals (first | (fail_if_success refine goB 2 ?_) | (
  refine goB 2 ?_
  all_goals (refine WC.skip ?_)
  skip))
  all_goals (refine Gn ?_)
  all_goals (refine Gs [(0, _)] ?_)
  all_goals (refine WC.sr ?_)
  all_goals (refine Go ?_)
  all_goals (refine WL.step (ok_nilCheck rfl) rfl rfl rfl ?_)
  all_goals (refine Go ?_)
  all_goals (refine WL.ld rfl (by first | exact cell_blk hb rfl | assumption | exact cell_blk (by assumption) rfl) rfl rfl rfl ?_)
  all_goals (refine WL.call (vs := [_, _]) rfl (fun a w => Tryz.call86 a w) rfl (ki) rfl rfl rfl ?_
             rintro _ hq ⟨rfl, hz⟩
             replace hz := hz.symm
             subst hz)
  all_goals (refine Go ?_)
  all_goals (refine Gs [(0, _), (3, _)] ?_)
  all_goals (refine WC.seq ?_)
  all_goals (refine WC.sr ?_)
  all_goals (refine Go ?_)
  all_goals (refine goC 3 4 ?_ ?_ <;> first | exact ⟨⟩ | refine Hb.mk fun hb => ?_ | skip)
  all_goals (first | (fail_if_success refine goB 4 ?_) | (
  refine goB 4 ?_
  all_goals (refine WC.skip ?_)
  skip))
  all_goals (refine Gn ?_)
  all_goals (refine WC.sr ?_)
  all_goals (refine Go ?_)
  all_goals (rw [show ((s.length : Int) + 1) = ((s.length + 1 : Nat) : Int) from rfl])
  all_goals (refine WL.call (vs := [_, _]) rfl (fun a w => Tryz.call130 a w) rfl (kc _ k) rfl rfl rfl ?_
             rintro _ h2 ⟨A2, c2, v2, rfl, r2, k2, hx2⟩
             have r3 := r2.take (k := s.length) (by omega)
             rw [show (bys (s ++ [0])).take (s.length * 1) = bys s by simp [bys]] at r3
             have hcap : s.length + 1 ≤ c2 := by obtain ⟨A1, c1, hv, hcap, _⟩ := id r2; simp only [Value.slice.injEq] at hv; obtain ⟨_, _, rfl⟩ := hv; exact hcap)
  all_goals (refine Go ?_)
  all_goals (refine Gs [(3, _), (4, _)] ?_)
  all_goals (refine WC.sr ?_)
  all_goals (refine Go ?_)
  all_goals (first | (refine WL.step (ok_slice_hN Tryz.underlying22 (fun w => Tryz.sizeOf5 w) rfl rfl (by omega)) rfl rfl rfl ?_) | (refine WL.step (ok_slice_h Tryz.underlying22 (fun w => Tryz.sizeOf5 w) rfl rfl (by omega)) rfl rfl rfl ?_))
  all_goals (refine WL.step (ok_convBS Tryz.underlying22 Tryz.underlying5 Tryz.underlying9 rfl r3) rfl rfl rfl ?_)
  all_goals (refine Go ?_)
  all_goals (refine Gs [(2, _)] ?_)
  all_goals (refine Gt ?_)
  all_goals (exact ⟨_, rfl, k2, hx2⟩)
end
end Go.Proofs.YtdjjpbbhcidaaaaGreatDoor


/-
  A ROW THAT LISTS VARIABLES, THE WORLD's SHAPE KEPT: what the lift of such a row asks. No program is named here.
-/
namespace Go.RK
open Go
variable {H : Type} {enc : TypeId × Value → H}

/-! ### a scope through which no goto goes -/
def scopeP (Q : Post) : Post
  | .goto _, _, _ => False
  | e, f, h => Q e f h
section
variable {P : Program} {n : Env} {Q : Post} {f : Fr} {h : Heap}
theorem WC.scope {c : Code} (hc : WC P n c (scopeP Q) f h) (hro : n.ro = Option.none := by rfl) : WC P n (.scope c) Q f h := fun a w ha hw => by
  obtain ⟨m, ds, ro⟩ := n
  obtain rfl : ro = Option.none := hro
  exact wpIn_wide.2 (wp_scope_straight (Go.wp_mono (wpIn_wide.1 (hc a w ha hw)) fun e _ _ ⟨hl, hs, g, hg, q⟩ => by
    cases e <;> first | exact ⟨hl, hs, g, hg, q⟩ | exact q.elim))
theorem scopeP_n (hq : Q .normal f h) : scopeP Q .normal f h := hq
theorem scopeP_x {i : Nat} (hq : Q (.exit i) f h) : scopeP Q (.exit i) f h := hq
theorem scopeP_r (hq : Q .ret f h) : scopeP Q .ret f h := hq
end
end Go.RK

/-
  A HELLO (layer 5), read by the code.
-/
namespace Go.Proofs.YtdjjpbbhcidaaaaGreatDoor
open Go Go.RK

abbrev restL : List UInt8 := [117, 115, 101, 114, 0, 117, 0, 0]
set_option maxHeartbeats 2000000 in
set_option maxRecDepth 100000 in
theorem sc_texts {h : Heap} {b : Nat} {v : Value} (k : Sc h b v restL) : CallsH Tryz.prog 83 ⟨[.pointer (some ⟨b, 0, none⟩)]⟩ h fun u h' => ∃ v', Own h' u 125 2 1 [St userL, St uL] ∧ Sc h' b v' [] ∧ Ext (fun q => q = b) h h' ∧ ∀ q, u.ownBlock = some q → h.size ≤ q := by
  have k1 := fun (h' : Heap) (k : Sc h' b v restL) => sc_text userL [117, 0, 0] (by decide) k (by decide)
  have k2 := fun (h' : Heap) (v : Value) (k : Sc h' b v [117, 0, 0]) => sc_text uL [0] (by decide) k (by decide)
  have k3 := fun (h' : Heap) (v : Value) (k : Sc h' b v [0]) => sc_text [] [] (by decide) k (by decide)
  have lb := lt_of_some k.blk
  refine calls [(0, _)] Tryz.func83 rfl Tryz.ntmps83 rfl ⟨rfl, trivial⟩ ?_
  all_goals (refine WC.sr ?_)
  all_goals (refine Go ?_)
  all_goals (refine WC.scope ?_)
  all_goals (refine WC.sr ?_)
  all_goals (refine Go ?_)
  all_goals (repeat' (with_reducible first | refine thenP_n ?_ | refine blockP_n ?_ | refine scopeP_n ?_))
  all_goals (refine WC.seq ?_)
  all_goals (refine WC.label ?_)
  all_goals (repeat' (with_reducible first | refine thenP_n ?_ | refine blockP_n ?_ | refine scopeP_n ?_))
  all_goals (refine WC.seq ?_)
  all_goals (refine WC.block ?_)
  -- loop 0: slots that turn [3], that stay [0]
  all_goals (refine WC.loopG (X := Nat × Value) (fun x => ([(3, x.2)] : Fr)) [(0, _)] (fun x h' => (x.1 = 0 ∧ x.2 = .slice none 0 0 ∧ h' = h) ∨ (x.1 = 1 ∧ ∃ v', Own h' x.2 125 2 1 [St userL, St uL] ∧ Sc h' b v' [0] ∧ Ext (fun q => q = b) h h' ∧ ∀ q, x.2.ownBlock = some q → h.size ≤ q)) (fun x => 1 - x.1) ((0, .slice none 0 0)) ⟨rfl, rfl, trivial⟩ (by exact .inl ⟨rfl, rfl, rfl⟩) ?_)
  all_goals (rintro ⟨j, w⟩ h1 hI
             dsimp only at hI
             rcases hI with ⟨rfl, rfl, rfl⟩ | ⟨rfl, v1, ho1, ks1, hx1, hf1⟩)
  all_goals (refine WC.sub [(3, _), (0, _)] ⟨rfl, rfl, trivial⟩ ?_)
  all_goals (dsimp only)
  all_goals (refine WC.block ?_)
  all_goals (refine WC.sr ?_)
  all_goals (refine Go ?_)
  all_goals (refine WL.call (vs := [_]) rfl (fun a w => Tryz.call87 a w) rfl ((by first | exact k1 _ k | exact k3 _ _ ks1)) rfl rfl rfl ?_
             rintro _ h2 ⟨v2, rfl, ks2, hx2⟩)
  all_goals (refine Go ?_)
  all_goals (repeat' (with_reducible first | refine thenP_n ?_ | refine blockP_n ?_ | refine scopeP_n ?_))
  all_goals (refine WC.seq ?_)
  all_goals (refine WC.sr ?_)
  all_goals (refine Go ?_)
  all_goals (repeat' (with_reducible first | refine thenP_n ?_ | refine blockP_n ?_ | refine scopeP_n ?_))
  all_goals (refine goC 1 2 ?_ ?_ <;> first | exact ⟨⟩ | refine Hb.mk fun hb => ?_ | skip)
  all_goals (first | (fail_if_success refine goB 1 ?_) | (
  refine goB 1 ?_
  all_goals (refine WC.exit ?_)
  all_goals (repeat' (with_reducible first | refine thenP_x ?_ | refine blockP_miss rfl ?_ | refine blockP_hit ?_ | refine blockP_n ?_ | refine thenP_n ?_ | refine scopeP_x ?_ | refine scopeP_n ?_))
  all_goals (refine Br.out (i := 1000) ?_)
  skip))
  all_goals (first | (fail_if_success refine goB 2 ?_) | (
  refine goB 2 ?_
  all_goals (refine WC.skip ?_)
  skip))
  all_goals (first | (refine Br.keep ?_) | (repeat' (with_reducible first | refine thenP_n ?_ | refine blockP_n ?_ | refine scopeP_n ?_)))
  all_goals (first | (refine Br.keep ?_) | (refine Gs [(0, _), (3, _), (4, _)] ?_))
  all_goals (first | (refine Br.keep ?_) | (refine WC.region ?_))
  all_goals (refine Go ?_)
  all_goals (first
               | (refine Br.keep ?_)
               | (refine WL.call (vs := [_]) rfl (fun a w => Tryz.call87 a w) rfl (k2 _ _ ks2) rfl rfl rfl ?_
                  rintro _ h3 ⟨v3, rfl, ks3, hx3⟩))
  all_goals (first | (refine Br.keep ?_) | (refine WL.step (ok_buildF (vs := [_, _]) (cs := [_, _]) (fun | [a0, a1] => [a0, a1] | _ => []) rfl rfl (by kernel_rfl)) rfl rfl rfl ?_))
  all_goals (first
               | (refine Br.keep ?_)
               | (refine WL.stepR (okE_buildSlice (vs := [_]) (cs := [_, _]) (fun | [.agg ⟨[a0, a1]⟩] => [a0, a1] | _ => []) Tryz.underlying28 rfl rfl (by kernel_rfl)) rfl rfl rfl ?_
                  rintro _ h4 ⟨b4, rfl, hg4, hb4, hx4⟩))
  all_goals (first
               | (refine Br.keep ?_)
               | (refine WL.stepR (ok_append (sz := 2) (bytes := 32) rfl Tryz.underlying28 (show Tryz.prog.info? 125 = some Tryz.t125 by kernel_rfl) rfl rfl rfl rfl (by decide) rfl rfl (Own.nil _ _ _) (rd_blk (len := 1) (sz := 2) (cs := [St userL, St uL]) hb4 rfl) (by simp [Value.oneCell']) (by simp only [maxLen]; omega) (by omega)) rfl rfl rfl ?_
                  rintro v5 h5 ⟨ho5, hx5, hl5⟩
                  have hx23 := hx2.trans hx3
                  have X4 := hx23.trans (hx4.mono fun _ _ e => e.elim)
                  have X5 := X4.trans' hx5 (fun q hq e => by cases e)
                  have ks4 := ks3.ext hx4 nos (fun _ _ => nos)
                  have ks5 := ks4.ext hx5 (fun e => by cases e) (fun q hq e => by cases e)
                  have hf5 : ∀ q, v5.ownBlock = some q → h1.size ≤ q := fresh_of hl5 (fun k hk => by cases hk) X4.size))
  all_goals (refine Go ?_)
  all_goals (first | (refine Br.keep ?_) | (repeat' (with_reducible first | refine thenP_n ?_ | refine blockP_n ?_ | refine scopeP_n ?_)))
  all_goals (first | (refine Br.keep ?_) | (exact ⟨(0 + 1, _), ⟨rfl, rfl, trivial⟩, (by exact .inr ⟨rfl, v3, ho5, ks5, X5, hf5⟩), (by first | omega | (dsimp only; omega) | simp)⟩))
  all_goals (try (refine Br.mk (i := 1000) ?_))
  all_goals (repeat' (with_reducible first | refine thenP_n ?_ | refine blockP_n ?_ | refine scopeP_n ?_))
  all_goals (refine Gs [(3, _)] ?_)
  all_goals (refine WC.sr ?_)
  all_goals (refine Go ?_)
  all_goals (repeat' (with_reducible first | refine thenP_n ?_ | refine blockP_n ?_ | refine scopeP_n ?_))
  all_goals (refine WC.ret ?_)
  all_goals (repeat' (with_reducible first | refine thenP_r ?_ | refine blockP_r ?_ | refine scopeP_r ?_))
  all_goals (refine retP_1 _ ⟨rfl, trivial⟩ ?_)
  all_goals (exact ⟨v2, ho1.ext hx2 (fun q hq e => by have := hf1 q hq; omega), ks2, hx1.trans hx2, hf1⟩)
set_option maxHeartbeats 2000000 in
set_option maxRecDepth 100000 in
theorem hello_read {h : Heap} {w : Value} (hr : Rd h w 1 12 (bys body5)) : CallsH Tryz.prog 51 ⟨[w]⟩ h fun u h' => ∃ p, u = .tuple ⟨[.agg ⟨[In 196608, In 0, In 0, p]⟩, In 0]⟩ ∧ Own h' p 125 2 1 [St userL, St uL] ∧ Ext No h h' ∧ ∀ q, p.ownBlock = some q → h.size ≤ q := by
  have kn := fun (h' : Heap) (b : Nat) (v : Value) (k : Sc h' b v body5) => sc_num k (by decide) (by decide)
  rw [show numB (body5.take 4) = 196608 by decide] at kn
  have kt := fun (h' : Heap) (b : Nat) (v : Value) (k : Sc h' b v restL) => sc_texts k
  have kd := fun (h' : Heap) (b : Nat) (v : Value) (k : Sc h' b v []) => sc_done k
  obtain ⟨A, c, rfl, _⟩ := id hr
  refine calls [(0, _)] Tryz.func51 rfl Tryz.ntmps51 rfl ⟨rfl, trivial⟩ ?_
  all_goals (refine WC.sr ?_)
  all_goals (refine WL.stepR (okE_alloc (fun w => Tryz.zeroValue69 w)) rfl rfl rfl ?_
             rintro _ h1 ⟨b1, rfl, hg1, hb1, hx1⟩)
  all_goals (refine Go ?_)
  all_goals (refine WC.seq ?_)
  all_goals (refine WC.sr ?_)
  all_goals (refine Go ?_)
  all_goals (refine goC 1 2 ?_ ?_ <;> first | exact ⟨⟩ | refine Hb.mk fun hb => ?_ | skip)
  all_goals (first | (fail_if_success refine goB 1 ?_) | (
  refine goB 1 ?_
  all_goals (refine WC.sr ?_)
  all_goals (refine WL.step (ok_buildF (vs := []) (cs := [_, _, _, _]) (fun | [] => [(.int .i64 0), (.int .i64 0), (.int .i64 0), (.slice none 0 0)] | _ => []) rfl rfl (by kernel_rfl)) rfl rfl rfl ?_)
  all_goals (refine WL.stepR0 (okE_storeW (fun w => Tryz.sizeOf69 w) rfl rfl rfl (by assumption) rfl (by simp [Value.oneCell'])) rfl rfl ?_
             rintro _ h1 ⟨hb1, hx1⟩)
  all_goals (refine Go ?_)
  all_goals (refine Gs [(2, _), (3, _)] ?_)
  all_goals (refine WC.ret ?_)
  all_goals (repeat' (with_reducible first | refine thenP_r ?_ | refine blockP_r ?_))
  all_goals (refine retP_2 _ _ ⟨⟨_, rfl, ld_blk (fun w => Tryz.isAgg69 w) (fun w => Tryz.sizeOf69 w) (by assumption) rfl⟩, rfl, trivial⟩ ?_)
  all_goals (exact ⟨_, rfl, ho7.ext hx8 (fun q hq e => own_ne ho7 hb17 (by decide) (e ▸ hq)), X7.trans' hx8 (fun q hq e => by omega), fun q hq => by have := hf6 q hq; omega⟩)
  skip))
  all_goals (first | (fail_if_success refine goB 2 ?_) | (
  refine goB 2 ?_
  all_goals (refine WC.skip ?_)
  skip))
  all_goals (refine Gn ?_)
  all_goals (refine Gs [(0, _), (2, _)] ?_)
  all_goals (refine WC.sr ?_)
  all_goals (refine Go ?_)
  all_goals (refine WL.call (vs := [_]) rfl (fun a w => Tryz.call55 a w) rfl (scan_new body5 (hr.ext0 hx1) (by decide)) rfl rfl rfl ?_
             rintro _ h2 ⟨b2, v2, rfl, k2, hx2, hg2, hf2⟩)
  all_goals (refine Go ?_)
  all_goals (refine WC.sr ?_)
  all_goals (refine Go ?_)
  all_goals (refine WL.call (vs := [_, _]) rfl (fun a w => Tryz.call82 a w) rfl (kn _ _ _ k2) rfl rfl rfl ?_
             rintro _ h3 ⟨v3, rfl, k3, hx3⟩
             have l1 := hx1.size
             have l2 := hx2.size
             have l3 := hx3.size
             have hb13 := hx3.obj (hx2.obj hb1 nos) (fun e => by have := lt_of_some hb1; omega))
  all_goals (refine WL.step (ok_buildF (vs := [_]) (cs := [_, _, _, _]) (fun | [a0] => [a0, (.int .i64 0), (.int .i64 0), (.slice none 0 0)] | _ => []) rfl rfl (by kernel_rfl)) rfl rfl rfl ?_)
  all_goals (refine WL.stepR (okE_alloc (fun w => Tryz.zeroValue69 w)) rfl rfl rfl ?_
             rintro _ h4 ⟨b4, rfl, hg4, hb4, hx4⟩)
  all_goals (refine WL.stepR0 (okE_storeW (fun w => Tryz.sizeOf69 w) rfl rfl rfl hb4 rfl (by simp [Value.oneCell'])) rfl rfl ?_
             rintro _ h5 ⟨hb5, hx5⟩
             have k3' : Sc h3 b2 v3 restL := k3
             have X3 : Ext No h h3 := (hx1.trans hx2).trans' hx3 (fun q hq e => by omega)
             have l4 := hx4.size
             have X5 := (X3.trans hx4).trans' hx5 (fun q hq e => by omega)
             have lb3 := lt_of_some k3.blk
             have k5 : Sc h5 b2 v3 restL := (k3'.ext hx4 nos (fun _ _ => nos)).ext hx5 (fun e => by omega) (fun q hq e => by have := k3'.rd.lt (by decide) hq; omega)
             have hb15 := hx5.obj (hx4.obj hb13 nos) (fun e => by have := lt_of_some hb13; omega))
  all_goals (refine Gn ?_)
  all_goals (refine Gs [(2, _), (4, _), (5, _)] ?_)
  all_goals (refine WC.seq ?_)
  all_goals (refine WC.sr ?_)
  all_goals (refine Go ?_)
  all_goals (refine WL.ld rfl (by first | exact cell_blk hb5 rfl | assumption | exact cell_blk (by assumption) rfl) rfl rfl rfl ?_)
  all_goals (refine Gn ?_)
  all_goals (refine WC.block ?_)
  all_goals (refine WC.sr ?_)
  all_goals (refine Go ?_)
  all_goals (refine goC 3 4 ?_ ?_ <;> first | exact ⟨⟩ | refine Hb.mk fun hb => ?_ | skip)
  all_goals (first | (fail_if_success refine goB 3 ?_) | (
  refine goB 3 ?_
  all_goals (refine WC.region ?_)
  all_goals (refine Go ?_)
  all_goals (refine WL.call (vs := [_]) rfl (fun a w => Tryz.call83 a w) rfl (kt _ _ _ k5) rfl rfl rfl ?_
             rintro w6 h6 ⟨v6, ho6, k6, hx6, hf6⟩
             obtain ⟨A6, c6, rfl, _⟩ := id ho6.slice
             have hb46 := hx6.obj hb5 (fun e => by omega)
             have hb16 := hx6.obj hb15 (fun e => by have := lt_of_some hb1; omega)
             have l5 := X5.size
             have l5' := hx5.size
             have X6 := X5.trans' hx6 (fun q hq e => by omega))
  all_goals (refine Go ?_)
  all_goals (refine WL.stepR0 (okE_store (fun w => Tryz.sizeOf28 w) rfl rfl hb46 (Nat.le_of_ble_eq_true rfl) rfl rfl) rfl rfl ?_
             rintro _ h7 ⟨hb7, hx7⟩
             have ho7 := ho6.ext hx7 (fun q hq e => own_ne ho6 hb46 (by decide) (e ▸ hq))
             have k7 : Sc h7 b2 v6 [] := ⟨hx7.obj k6.blk (fun e => by omega), Rd.ext' k6.rd hx7 (fun q hq => by simp at hq), k6.ne⟩
             have X7 := X6.trans' hx7 (fun q hq e => by omega)
             have hb17 := hx7.obj hb16 (fun e => by have := lt_of_some hb13; omega))
  all_goals (refine Gn ?_)
  skip))
  all_goals (first | (fail_if_success refine goB 4 ?_) | (
  refine goB 4 ?_
  all_goals (refine WC.sr ?_)
  all_goals (refine Go ?_)
  all_goals (refine Gs [(2, _), (4, _), (5, _), (16, _), (23, _)] ?_)
  all_goals (refine goC 5 6 ?_ ?_ <;> first | exact ⟨⟩ | refine Hb.mk fun hb => ?_ | skip)
  all_goals (first | (fail_if_success refine goB 6 ?_) | (
  refine goB 6 ?_
  all_goals (refine WC.sr ?_)
  all_goals (refine Go ?_)
  all_goals (refine goC 7 8 ?_ ?_ <;> first | exact ⟨⟩ | refine Hb.mk fun hb => ?_ | skip)
  all_goals (first | (fail_if_success refine goB 7 ?_) | (
  refine goB 7 ?_
  all_goals (refine WC.skip ?_)
  skip))
  all_goals (first | (fail_if_success refine goB 8 ?_) | (
  refine goB 8 ?_
  all_goals (refine WC.sr ?_)
  all_goals (refine WL.step (ok_buildF (vs := []) (cs := [_, _, _, _]) (fun | [] => [(.int .i64 0), (.int .i64 0), (.int .i64 0), (.slice none 0 0)] | _ => []) rfl rfl (by kernel_rfl)) rfl rfl rfl ?_)
  all_goals (refine WL.stepR0 (okE_storeW (fun w => Tryz.sizeOf69 w) rfl rfl rfl (by assumption) rfl (by simp [Value.oneCell'])) rfl rfl ?_
             rintro _ h1 ⟨hb1, hx1⟩)
  all_goals (refine Go ?_)
  all_goals (refine Gs [(2, _), (3, _)] ?_)
  all_goals (refine WC.ret ?_)
  all_goals (repeat' (with_reducible first | refine thenP_r ?_ | refine blockP_r ?_))
  all_goals (refine retP_2 _ _ ⟨⟨_, rfl, ld_blk (fun w => Tryz.isAgg69 w) (fun w => Tryz.sizeOf69 w) (by assumption) rfl⟩, rfl, trivial⟩ ?_)
  all_goals (exact ⟨_, rfl, ho7.ext hx8 (fun q hq e => own_ne ho7 hb17 (by decide) (e ▸ hq)), X7.trans' hx8 (fun q hq e => by omega), fun q hq => by have := hf6 q hq; omega⟩)
  skip))
  skip))
  skip))
  all_goals (refine Gn ?_)
  all_goals (refine WC.seq ?_)
  all_goals (refine WC.sr ?_)
  all_goals (refine Go ?_)
  all_goals (refine WL.call (vs := [_]) rfl (fun a w => Tryz.call57 a w) rfl (kd _ _ _ k7) rfl rfl rfl ?_
             rintro _ hq ⟨rfl, hz⟩
             replace hz := hz.symm
             subst hz)
  all_goals (refine Go ?_)
  all_goals (refine Gs [(2, _), (5, _), (35, _)] ?_)
  all_goals (refine goC 9 10 ?_ ?_ <;> first | exact ⟨⟩ | refine Hb.mk fun hb => ?_ | skip)
  all_goals (first | (fail_if_success refine goB 9 ?_) | (
  refine goB 9 ?_
  all_goals (refine WC.sr ?_)
  all_goals (refine WL.step (ok_buildF (vs := []) (cs := [_, _, _, _]) (fun | [] => [(.int .i64 0), (.int .i64 0), (.int .i64 0), (.slice none 0 0)] | _ => []) rfl rfl (by kernel_rfl)) rfl rfl rfl ?_)
  all_goals (refine WL.stepR0 (okE_storeW (fun w => Tryz.sizeOf69 w) rfl rfl rfl (by assumption) rfl (by simp [Value.oneCell'])) rfl rfl ?_
             rintro _ h1 ⟨hb1, hx1⟩)
  all_goals (refine Go ?_)
  all_goals (refine WC.ret ?_)
  all_goals (repeat' (with_reducible first | refine thenP_r ?_ | refine blockP_r ?_))
  all_goals (refine retP_2 _ _ ⟨⟨_, rfl, ld_blk (fun w => Tryz.isAgg69 w) (fun w => Tryz.sizeOf69 w) (by assumption) rfl⟩, rfl, trivial⟩ ?_)
  all_goals (exact ⟨_, rfl, ho7.ext hx8 (fun q hq e => own_ne ho7 hb17 (by decide) (e ▸ hq)), X7.trans' hx8 (fun q hq e => by omega), fun q hq => by have := hf6 q hq; omega⟩)
  skip))
  all_goals (first | (fail_if_success refine goB 10 ?_) | (
  refine goB 10 ?_
  all_goals (refine WC.skip ?_)
  skip))
  all_goals (refine Gn ?_)
  all_goals (refine WC.sr ?_)
  all_goals (refine WL.step (ok_loadN (fun w => Tryz.isAgg69 w) (fun w => Tryz.sizeOf69 w) rfl rfl (by exact At.of_block hb7)) rfl rfl rfl ?_)
  all_goals (refine WL.stepR0 (okE_storeW (fun w => Tryz.sizeOf69 w) rfl rfl rfl hb17 rfl (by simp [Value.oneCell'])) rfl rfl ?_
             rintro _ h8 ⟨hb8, hx8⟩)
  all_goals (refine Go ?_)
  all_goals (refine WC.ret ?_)
  all_goals (repeat' (with_reducible first | refine thenP_r ?_ | refine blockP_r ?_))
  all_goals (refine retP_2 _ _ ⟨⟨_, rfl, ld_blk (fun w => Tryz.isAgg69 w) (fun w => Tryz.sizeOf69 w) (by assumption) rfl⟩, rfl, trivial⟩ ?_)
  all_goals (exact ⟨_, rfl, ho7.ext hx8 (fun q hq e => own_ne ho7 hb17 (by decide) (e ▸ hq)), X7.trans' hx8 (fun q hq e => by omega), fun q hq => by have := hf6 q hq; omega⟩)
end Go.Proofs.YtdjjpbbhcidaaaaGreatDoor


/-
  A SERVER (layer 31), by the code: messages are said.
-/
namespace Go.Proofs.YtdjjpbbhcidaaaaGreatDoor
open Go Go.RK

def msgC (p : Int × Value) : List Value := [.int .u8 p.1, p.2]
def svC (w f s p i : Value) (bg ov : Bool) : List Value := [w, f, s, p, i, .bool bg, .bool ov]
def EncOf (k : Int) (g : Heap) (u : Value) (g' : Heap) : Prop := ∃ A n c, u = .tuple ⟨[.agg ⟨[.int .u8 k, .slice A n c]⟩, In 0]⟩ ∧ Ext No g g'
set_option maxHeartbeats 2000000 in
set_option maxRecDepth 100000 in
theorem say_v {h : Heap} {b : Nat} {f s p i v : Value} {bg ov : Bool} (L : List Bk) (hv : Rd h v 11 L.length (L.flatMap Bk.cells)) (hb : h[b]? = some (.cells ⟨svC (.slice none 0 0) f s p i bg ov⟩ 30 (0, 0))) (hm : L.length ≤ 1000) (hne : ∀ q, v.ownBlock = some q → q ≠ b)
    (hone : ∀ y ∈ L, ∀ v ∈ y.cells, v.oneCell' = true) (hke : ∀ y ∈ L, ∀ g : Heap, CallsH Tryz.prog 59 ⟨[.agg ⟨y.cells⟩]⟩ g (EncOf y.kind g)) :
    CallsH Tryz.prog 27 ⟨[.pointer (some ⟨b, 0, none⟩), v]⟩ h fun _ h' => ∃ (w : Value) (M : List (Int × Value)), M.map (·.1) = L.map Bk.kind ∧ h'[b]? = some (.cells ⟨svC w f s p i bg ov⟩ 30 (0, 0)) ∧ Own h' w 38 2 M.length (M.flatMap msgC) ∧ Ext (fun q => q = b) h h' ∧ (∀ q, w.ownBlock = some q → h.size ≤ q) ∧ ∀ x ∈ M, x.2.oneCell' = true := by
  unfold svC at *
  have lb := lt_of_some hb
  obtain ⟨A, c, rfl, _⟩ := id hv
  refine calls [(0, _), (1, _)] Tryz.func27 rfl Tryz.ntmps27 rfl ⟨rfl, rfl, trivial⟩ ?_
  all_goals (refine WC.sr ?_)
  all_goals (refine Go ?_)
  all_goals (refine WC.block ?_)
  -- loop 0: slots that turn [10], that stay [0, 8, 9]
  all_goals (refine WC.loopG (X := Nat × Value × List (Int × Value)) (fun x => ([(10, In (x.1 : Int))] : Fr)) [(0, _), (8, _), (9, _)] (fun x h' => x.1 ≤ L.length ∧ x.2.2.map (·.1) = (L.take x.1).map Bk.kind ∧ h'[b]? = some (.cells ⟨[x.2.1, f, s, p, i, .bool bg, .bool ov]⟩ 30 (0, 0)) ∧ Own h' x.2.1 38 2 x.2.2.length (x.2.2.flatMap msgC) ∧ Ext (fun q => q = b) h h' ∧ (∀ q, x.2.1.ownBlock = some q → h.size ≤ q) ∧ ∀ y ∈ x.2.2, y.2.oneCell' = true) (fun x => L.length - x.1) ((0, .slice none 0 0, [])) ⟨rfl, rfl, rfl, rfl, trivial⟩ (by exact ⟨Nat.zero_le _, rfl, hb, Own.nil _ _ _, .refl _ _, fun q hq => (by cases hq), fun _ h => (by cases h)⟩) ?_)
  all_goals (rintro ⟨j, w, M⟩ h1 ⟨hj, hM, hb1, ho1, hx1, hf1, hoc⟩
             dsimp only at hj hM hb1 ho1 hf1 hoc
             obtain ⟨A1, c1, rfl, _⟩ := id ho1.slice
             have hml : M.length = j := by have := congrArg List.length hM; simp at this; omega)
  all_goals (refine WC.sub [(10, _), (0, _), (8, _), (9, _)] ⟨rfl, rfl, rfl, rfl, trivial⟩ ?_)
  all_goals (dsimp only)
  all_goals (refine WC.sr ?_)
  all_goals (refine Go ?_)
  all_goals (refine WC.seq ?_)
  all_goals (refine goC 1 2 ?_ ?_ <;> first | exact ⟨⟩ | refine Hb.mk fun hb => ?_ | skip)
  all_goals (first | (fail_if_success refine goB 1 ?_) | (
  refine goB 1 ?_
  all_goals (refine WC.skip ?_)
  skip))
  all_goals (first | (fail_if_success refine goB 2 ?_) | (
  refine goB 2 ?_
  all_goals (refine WC.exit ?_)
  all_goals (repeat' (with_reducible first | refine thenP_x ?_ | refine blockP_miss rfl ?_ | refine blockP_hit ?_ | refine blockP_n ?_ | refine thenP_n ?_))
  all_goals (refine Br.out (i := 1000) ?_)
  skip))
  all_goals (refine Gn ?_)
  all_goals (first | (refine Br.keep ?_) | (refine WC.seq ?_))
  all_goals (first | (refine Br.keep ?_) | (refine WC.block ?_))
  all_goals (first | (refine Br.keep ?_) | (refine WC.sr ?_))
  all_goals (first
               | (refine Br.keep ?_)
               | (obtain ⟨y, hy⟩ : ∃ y, L[j]? = some y := ⟨_, List.getElem?_eq_getElem (by omega)⟩
                  obtain ⟨bL, oL, hA, hbL, hat⟩ := Rd.at_ (hv.ext hx1 (fun q hq e => hne q hq e)) (by omega)
                  subst hA
                  have hel := hat.elem (sz := 11) (fun _ => rfl) hy
                  have kee := hke y (List.mem_of_getElem? hy)
                  have hbl : h.size ≤ h1.size := hx1.size))
  all_goals (first | (refine Br.keep ?_) | (refine WL.step (ok_idxAddrA Tryz.underlying62 (fun w => Tryz.sizeOf92 w) rfl rfl rfl (by omega) (by first | rfl | assumption)) rfl rfl rfl ?_))
  all_goals (first | (refine Br.keep ?_) | (refine WL.step (ok_loadN (fun w => Tryz.isAgg92 w) (fun w => Tryz.sizeOf92 w) rfl rfl (by exact hel)) rfl rfl rfl ?_))
  all_goals (first
               | (refine Br.keep ?_)
               | (refine WL.stepR (okE_alloc (fun w => Tryz.zeroValue92 w)) rfl rfl rfl ?_
                  rintro _ h2 ⟨b5, rfl, hg5, hb5, hx2⟩))
  all_goals (first
               | (refine Br.keep ?_)
               | (refine WL.stepR0 (okE_storeW (fun w => Tryz.sizeOf92 w) rfl rfl rfl hb5 rfl (fun v hv => hone y (List.mem_of_getElem? hy) v hv)) rfl rfl ?_
                  rintro _ h3 ⟨hb53, hx3⟩
                  have X3 : Ext No h1 h3 := hx2.trans' hx3 (fun q hq e => by omega)))
  all_goals (refine Gn ?_)
  all_goals (first | (refine Br.keep ?_) | (refine WC.sr ?_))
  all_goals (first | (refine Br.keep ?_) | (refine WL.step (ok_loadN (fun w => Tryz.isAgg92 w) (fun w => Tryz.sizeOf92 w) rfl rfl (by exact At.of_block hb53)) rfl rfl rfl ?_))
  all_goals (first
               | (refine Br.keep ?_)
               | (refine WL.call (vs := [_]) rfl (fun a w => Tryz.call59 a w) rfl (kee _) rfl rfl rfl ?_
                  rintro _ h4 ⟨A4, n4, c4, rfl, hx4⟩))
  all_goals (refine Go ?_)
  all_goals (first
               | (refine Br.keep ?_)
               | (refine WL.stepR (okE_alloc (fun w => Tryz.zeroValue38 w)) rfl rfl rfl ?_
                  rintro _ h5 ⟨b6, rfl, hg6, hb6, hx5⟩))
  all_goals (first
               | (refine Br.keep ?_)
               | (refine WL.stepR0 (okE_storeW (fun w => Tryz.sizeOf38 w) rfl rfl rfl hb6 rfl (by simp [Value.oneCell'])) rfl rfl ?_
                  rintro _ h6 ⟨hb66, hx6⟩
                  have X6 : Ext No h1 h6 := ((X3.trans hx4).trans hx5).trans' hx6 (fun q hq e => by have := X3.size; have := hx4.size; omega)
                  have hb16 := X6.obj hb1 nos
                  have ho6 := ho1.ext X6 (fun _ _ => nos)
                  have lb1 := lt_of_some hb1
                  have g6 : h1.size ≤ b6 := by have := X3.size; have := hx4.size; omega
                  have hlt : ∀ q, (Value.slice A1 M.length c1).ownBlock = some q → q < h1.size := fun q hq => ho1.lt hq
                  have nW : (Value.slice A1 M.length c1).ownBlock ≠ some b := own_ne ho1 hb1 (by decide)
                  have nW6 : (Value.slice A1 M.length c1).ownBlock ≠ some b6 := fun e => by have := hlt _ e; omega))
  all_goals (refine Go ?_)
  all_goals (first | (refine Br.keep ?_) | (refine Gs [(0, _), (6, _), (7, _), (8, _), (9, _), (10, _)] ?_))
  all_goals (first | (refine Br.keep ?_) | (refine WC.sr ?_))
  all_goals (refine Go ?_)
  all_goals (first | (refine Br.keep ?_) | (refine goC 3 4 ?_ ?_ <;> first | exact ⟨⟩ | refine Hb.mk fun hb => ?_ | skip))
  all_goals (first | (fail_if_success refine goB 3 ?_) | (
  refine goB 3 ?_
  all_goals (refine WC.drawH (fun h' => Ext (fun q => (Value.slice A1 M.length c1).ownBlock = some q) h6 h') 10 11 rfl fol ?_)
  all_goals (refine WH.tk 0 rfl (fun hq hC => ok_move rfl) rfl rfl rfl ?_)
  all_goals (refine WH.tk 1 rfl (fun hq hC => ok_move rfl) rfl rfl rfl ?_)
  all_goals (refine WH.tk 2 rfl (fun hq hC => ok_nilCheck rfl) rfl rfl rfl ?_)
  all_goals (refine WH.tk 3 rfl (fun hq hC => ok_fieldAddr rfl Tryz.underlying30 rfl (fun w => Tryz.sizeOf25 w)) rfl rfl rfl ?_)
  all_goals (refine WH.tk 4 rfl (fun hq hC => ok_load (fun w => Tryz.isAgg25 w) rfl (by first | exact hC.cell (by first | exact cell_blk hb16 rfl | assumption | exact cell_blk (by assumption) rfl) (by first | exact nW | exact nW6))) rfl rfl rfl ?_)
  all_goals (refine WH.tk 5 rfl (fun hq hC => ok_loadN (fun w => Tryz.isAgg38 w) (fun w => Tryz.sizeOf38 w) rfl rfl (by exact (At.of_block hb66).ext hC nW6)) rfl rfl rfl ?_)
  all_goals (refine WH.one 6 (by kernel_rfl) ?_)
  all_goals (refine Comes1.run rfl (okE_buildSlice (vs := [_]) (cs := [_, _]) (fun | [.agg ⟨[a0, a1]⟩] => [a0, a1] | _ => []) Tryz.underlying25 rfl rfl (by kernel_rfl)) rfl rfl rfl ?_ (fun _ => by kernel_rfl)
             rintro _ h7 ⟨b7, rfl, hg7, hb7, hx7⟩
             have hC7 : Ext (fun q => (Value.slice A1 M.length c1).ownBlock = some q) h6 h7 := hx7.mono fun _ _ e => e.elim)
  all_goals (refine ⟨fun _ => hC7, ?_⟩)
  all_goals (refine WH.one 7 (by kernel_rfl) ?_)
  all_goals (refine Comes1.run rfl (ok_append (sz := 2) (bytes := 32) rfl Tryz.underlying25 (show Tryz.prog.info? 38 = some Tryz.t38 by kernel_rfl) rfl rfl rfl rfl (by decide) rfl rfl (ho6.ext hx7 (fun _ _ => nos)) (rd_blk (len := 1) (sz := 2) (cs := msgC (y.kind, .slice A4 n4 c4)) hb7 rfl) (by simp [msgC, Value.oneCell']) (by simp only [maxLen]; omega) (by omega)) rfl rfl rfl ?_ (fun _ => by kernel_rfl)
             rintro v8 h8 ⟨ho8, hx8, hl8⟩
             have hC8 := hC7.trans hx8)
  all_goals (refine ⟨fun _ => hC8, ?_⟩)
  all_goals (refine WH.one 8 (by kernel_rfl) ?_)
  all_goals (refine Comes1.run rfl (OkP.r (ok_nilCheck rfl)) rfl rfl rfl ?_ (fun _ => by kernel_rfl)
             rintro _ hz ⟨rfl, _⟩
             subst hz)
  all_goals (refine ⟨fun _ => by first | assumption | trivial, ?_⟩)
  all_goals (refine WH.one 9 (by kernel_rfl) ?_)
  all_goals (refine Comes1.run rfl (OkP.r (ok_fieldAddr rfl Tryz.underlying30 rfl (fun w => Tryz.sizeOf25 w))) rfl rfl rfl ?_ (fun _ => by kernel_rfl)
             rintro _ hz ⟨rfl, _⟩
             subst hz)
  all_goals (refine ⟨fun _ => by first | assumption | trivial, ?_⟩)
  all_goals (refine WH.one 10 (by kernel_rfl) ?_)
  all_goals (obtain ⟨A8, c8, rfl, _⟩ := id ho8.slice)
  all_goals (refine Comes1.run0 rfl (okE_store (fun w => Tryz.sizeOf25 w) rfl rfl (hC8.obj hb16 nW) (Nat.le_of_ble_eq_true rfl) rfl rfl) rfl rfl ?_ (fun _ => by kernel_rfl)
             rintro _ h9 ⟨hb9, hx9⟩
             have hr8 : Own h8 (Value.slice A8 (M.length + 1) c8) 38 2 (M ++ [(y.kind, Value.slice A4 n4 c4)]).length ((M ++ [(y.kind, Value.slice A4 n4 c4)]).flatMap msgC) := by rw [List.length_append, List.flatMap_append]; exact ho8
             have l7 := X6.size
             have l77 := hx7.size
             have hf8 : ∀ q, (Value.slice A8 (M.length + 1) c8).ownBlock = some q → h.size ≤ q := fresh_of hl8 hf1 (by omega)
             have X8 : Ext (fun q => q = b) h h8 := (hx1.trans (X6.mono fun _ _ e => e.elim)).trans' hC8 (fun q hq e => by have := hf1 q e; omega)
             have hr9 := hr8.ext hx9 (fun q hq e => own_ne hr8 (hC8.obj hb16 nW) (by decide) (e ▸ hq))
             have hM9 : (M ++ [(y.kind, Value.slice A4 n4 c4)]).map (·.1) = (L.take (j + 1)).map Bk.kind := by rw [List.map_append, hM, List.take_add_one, hy, List.map_append]; rfl)
  all_goals (refine ⟨fun e => (by cases e), ?_⟩)
  all_goals (refine WH.done (by kernel_rfl) ?_)
  skip))
  all_goals (first | (fail_if_success refine goB 4 ?_) | (
  refine goB 4 ?_
  all_goals (refine WC.skip ?_)
  skip))
  all_goals (refine Gn ?_)
  all_goals (first | (refine Br.keep ?_) | (refine Gs [(0, _), (8, _), (9, _), (10, _)] ?_))
  all_goals (first | (refine Br.keep ?_) | (refine WC.region ?_))
  all_goals (refine Go ?_)
  all_goals (first | (refine Br.keep ?_) | (exact ⟨(j + 1, _, M ++ [(y.kind, Value.slice A4 n4 c4)]), ⟨rfl, rfl, rfl, rfl, trivial⟩, (by exact ⟨by omega, hM9, hb9, hr9, X8.trans hx9, hf8, fun x hx => (List.mem_append.1 hx).elim (hoc x) (fun e => by rw [List.mem_singleton.1 e]; rfl)⟩), (by dsimp only; omega)⟩))
  all_goals (try (refine Br.mk (i := 1000) ?_))
  all_goals (refine Gn ?_)
  all_goals (refine retP_n [] trivial ?_)
  all_goals (exact ⟨_, M, by rw [hM, List.take_of_length_le (by omega)], hb1, ho1, hx1, hf1, hoc⟩)
end Go.Proofs.YtdjjpbbhcidaaaaGreatDoor


/-
  A SERVER (layer 31), by the code: the first message.
-/
namespace Go.Proofs.YtdjjpbbhcidaaaaGreatDoor
open Go Go.RK

abbrev greetL : List Bk := [gB 82 0 0 0, gB 75 0 1 7919, gB 90 73 0 0]
theorem enc_of {h : Heap} {k st n m : Int} {L : List UInt8} (hc : First3 k st n m L) : CallsH Tryz.prog 59 ⟨[.agg ⟨(gB k st n m).cells⟩]⟩ h (EncOf k h) := by
  refine (enc_g hc).mono fun u h' ⟨v', e, ho, hx, _⟩ => ?_
  obtain ⟨A, c, rfl, _⟩ := ho.slice
  exact ⟨A, _, c, e, hx⟩
theorem say_first {h : Heap} {b : Nat} {f s p i v : Value} {bg ov : Bool} (hv : Rd h v 11 3 greetC) (hb : h[b]? = some (.cells ⟨svC (.slice none 0 0) f s p i bg ov⟩ 30 (0, 0))) (hne : ∀ q, v.ownBlock = some q → q ≠ b) :
    CallsH Tryz.prog 27 ⟨[.pointer (some ⟨b, 0, none⟩), v]⟩ h fun _ h' => ∃ w v1 v2 v3, h'[b]? = some (.cells ⟨svC w f s p i bg ov⟩ 30 (0, 0)) ∧ Own h' w 38 2 3 [.int .u8 82, v1, .int .u8 75, v2, .int .u8 90, v3] ∧ Ext (fun q => q = b) h h' ∧ (∀ q, w.ownBlock = some q → h.size ≤ q) ∧ v1.oneCell' = true ∧ v2.oneCell' = true ∧ v3.oneCell' = true := by
  refine (say_v greetL (by simpa [greetC] using hv) hb (by decide) hne (by simp [gB, Bk.cells, Value.oneCell']) (fun y hy g => ?_)).mono fun u h' ⟨w, M, hM, hb', ho, hx, hf, hoc⟩ => ?_
  · simp only [List.mem_cons, List.not_mem_nil, or_false] at hy
    rcases hy with rfl | rfl | rfl
    · exact enc_of (.inl ⟨rfl, rfl, rfl, rfl, rfl⟩)
    · exact enc_of (.inr (.inl ⟨rfl, rfl, rfl, rfl, rfl⟩))
    · exact enc_of (.inr (.inr ⟨rfl, rfl, rfl, rfl, rfl⟩))
  · have hl : M.length = 3 := by have := congrArg List.length hM; simpa using this
    obtain ⟨⟨k1, v1⟩, ⟨k2, v2⟩, ⟨k3, v3⟩, rfl⟩ : ∃ a b c, M = [a, b, c] := by
      match M, hl with
      | [a, b, c], _ => exact ⟨_, _, _, rfl⟩
    simp [gB] at hM
    obtain ⟨rfl, rfl, rfl⟩ := hM
    exact ⟨w, v1, v2, v3, hb', ho, hx, hf, hoc (82, v1) (by simp), hoc (75, v2) (by simp), hoc (90, v3) (by simp)⟩
set_option maxHeartbeats 2000000 in
set_option maxRecDepth 100000 in
theorem first_v {h : Heap} {b fb : Nat} {s w v : Value} {l : List UInt8} {k : Int} (hb : h[b]? = some (.cells ⟨svC (.slice none 0 0) (.pointer (some ⟨fb, 0, none⟩)) s (.slice none 0 0) (In 0) false false⟩ 30 (0, 0))) (kf : Fw h fb false v l) (hw : Rd h w 1 12 (bys body5)) :
    CallsH Tryz.prog 25 ⟨[.pointer (some ⟨b, 0, none⟩), .agg ⟨[.int .u8 k, w]⟩]⟩ h fun _ h' => ∃ w v1 v2 v3, h'[b]? = some (.cells ⟨svC w (.pointer (some ⟨fb, 0, none⟩)) s (.slice none 0 0) (In 0) true false⟩ 30 (0, 0)) ∧ Own h' w 38 2 3 [.int .u8 82, v1, .int .u8 75, v2, .int .u8 90, v3] ∧ Fw h' fb true v l ∧ Ext (fun q => q = b ∨ q = fb) h h' ∧ (∀ q, w.ownBlock = some q → h.size ≤ q) ∧ v1.oneCell' = true ∧ v2.oneCell' = true ∧ v3.oneCell' = true := by
  have kb := fun (h' : Heap) => backs0 (h := h')
  have lb := lt_of_some hb
  have lf := lt_of_some kf.blk
  have nbf : b ≠ fb := fun e => by have := kf.blk; rw [← e, hb] at this; simp at this
  obtain ⟨A, c, rfl, _⟩ := id hw
  refine calls [(0, _), (1, _)] Tryz.func25 rfl Tryz.ntmps25 rfl ⟨rfl, rfl, trivial⟩ ?_
  all_goals (refine WC.sr ?_)
  all_goals (refine WL.stepR (okE_box rfl) rfl rfl rfl ?_
             rintro _ h1 ⟨b1, rfl, hg1, hb1, hx1⟩)
  all_goals (refine Gn ?_)
  all_goals (refine WC.sr ?_)
  all_goals (refine Go ?_)
  all_goals (refine WL.ld rfl (by first | exact cell_blk hb1 rfl | assumption | exact cell_blk (by assumption) rfl) rfl rfl rfl ?_)
  all_goals (refine WL.call (vs := [_]) rfl (fun a w => Tryz.call51 a w) rfl (hello_read (hw.ext0 hx1)) rfl rfl rfl ?_
             rintro _ h2 ⟨p2, rfl, ho2, hx2, hf2⟩
             obtain ⟨A2, c2, rfl, _⟩ := id ho2.slice)
  all_goals (refine Go ?_)
  all_goals (refine WL.stepR (okE_alloc (fun w => Tryz.zeroValue69 w)) rfl rfl rfl ?_
             rintro _ h3 ⟨b4, rfl, hg4, hb4, hx3⟩)
  all_goals (refine WL.stepR0 (okE_storeW (fun w => Tryz.sizeOf69 w) rfl rfl rfl hb4 rfl (by simp [Value.oneCell'])) rfl rfl ?_
             rintro _ h4 ⟨hb44, hx4⟩
             have X4 : Ext No h h4 := ((hx1.trans hx2).trans hx3).trans' hx4 (fun q hq e => by have := hx1.size; have := hx2.size; omega)
             have hbh4 := X4.obj hb nos
             have kf4 := kf.ext0 X4
             have l4 := X4.size)
  all_goals (refine Go ?_)
  all_goals (refine Gs [(0, _), (4, _), (5, _)] ?_)
  all_goals (refine WC.block ?_)
  all_goals (refine WC.seq ?_)
  all_goals (refine WC.sr ?_)
  all_goals (refine Go ?_)
  all_goals (refine goC 1 2 ?_ ?_ <;> first | exact ⟨⟩ | refine Hb.mk fun hb => ?_ | skip)
  all_goals (first | (fail_if_success refine goB 1 ?_) | (
  refine goB 1 ?_
  all_goals (refine WC.skip ?_)
  skip))
  all_goals (first | (fail_if_success refine goB 2 ?_) | (
  refine goB 2 ?_
  all_goals (refine WC.region ?_)
  all_goals (refine Go ?_)
  all_goals (refine WL.ld rfl (by first | exact cell_blk hb44 rfl | assumption | exact cell_blk (by assumption) rfl) rfl rfl rfl ?_)
  all_goals (refine Go ?_)
  skip))
  all_goals (refine Gn ?_)
  all_goals (refine goC 3 4 ?_ ?_ <;> first | exact ⟨⟩ | refine Hb.mk fun hb => ?_ | skip)
  all_goals (first | (fail_if_success refine goB 3 ?_) | (
  refine goB 3 ?_
  all_goals (refine WC.region ?_)
  all_goals (refine Go ?_)
  all_goals (refine WL.step (ok_nilCheck rfl) rfl rfl rfl ?_)
  all_goals (refine Go ?_)
  all_goals (refine WL.stepR0 (okE_store (fun w => Tryz.sizeOf4 w) rfl rfl (by assumption) (Nat.le_of_ble_eq_true rfl) rfl rfl) rfl rfl ?_
             rintro _ h1 ⟨hb1, hx1⟩)
  all_goals (refine Gn ?_)
  skip))
  all_goals (first | (fail_if_success refine goB 4 ?_) | (
  refine goB 4 ?_
  all_goals (refine WC.sr ?_)
  all_goals (refine Go ?_)
  all_goals (refine WL.ld rfl (by first | exact cell_blk hb44 rfl | assumption | exact cell_blk (by assumption) rfl) rfl rfl rfl ?_)
  all_goals (refine Go ?_)
  all_goals (refine Gs [(0, _), (21, _)] ?_)
  all_goals (refine goC 5 6 ?_ ?_ <;> first | exact ⟨⟩ | refine Hb.mk fun hb => ?_ | skip)
  all_goals (first | (fail_if_success refine goB 5 ?_) | (
  refine goB 5 ?_
  all_goals (refine WC.seq ?_)
  all_goals (refine WC.drawH (fun h' => ∃ w, h'[b]? = some (.cells ⟨svC w (.pointer (some ⟨fb, 0, none⟩)) s (.slice none 0 0) (In 0) false false⟩ 30 (0, 0))) 11 11 rfl fol ?_)
  all_goals (refine WH.tk 0 rfl (fun hq hC => ok_move rfl) rfl rfl rfl ?_ (hC := (by first | exact ⟨_, hbh4⟩ | assumption)))
  all_goals (refine WH.tk 1 rfl (fun hq hC => ok_move rfl) rfl rfl rfl ?_ (hC := (by first | exact ⟨_, hbh4⟩ | assumption)))
  all_goals (refine WH.tk 2 rfl (fun hq hC => ok_nilCheck rfl) rfl rfl rfl ?_ (hC := (by first | exact ⟨_, hbh4⟩ | assumption)))
  all_goals (refine WH.tk 3 rfl (fun hq hC => ok_fieldAddr rfl Tryz.underlying30 rfl (fun w => Tryz.sizeOf28 w)) rfl rfl rfl ?_ (hC := (by first | exact ⟨_, hbh4⟩ | assumption)))
  all_goals (refine WH.tk 4 rfl (fun hq hC => ok_load (fun w => Tryz.isAgg28 w) rfl ((by obtain ⟨w, e⟩ := hC; exact cell_blk e rfl))) rfl rfl rfl ?_ (hC := (by first | exact ⟨_, hbh4⟩ | assumption)))
  all_goals (refine WH.tk 5 rfl (fun hq hC => ok_move rfl) rfl rfl rfl ?_ (hC := (by first | exact ⟨_, hbh4⟩ | assumption)))
  all_goals (refine WH.tk 6 rfl (fun hq hC => ok_nilCheck rfl) rfl rfl rfl ?_ (hC := (by first | exact ⟨_, hbh4⟩ | assumption)))
  all_goals (refine WH.tk 7 rfl (fun hq hC => ok_fieldAddr rfl Tryz.underlying30 rfl (fun w => Tryz.sizeOf3 w)) rfl rfl rfl ?_ (hC := (by first | exact ⟨_, hbh4⟩ | assumption)))
  all_goals (refine WH.tk 8 rfl (fun hq hC => ok_load (fun w => Tryz.isAgg3 w) rfl ((by obtain ⟨w, e⟩ := hC; exact cell_blk e rfl))) rfl rfl rfl ?_ (hC := (by first | exact ⟨_, hbh4⟩ | assumption)))
  all_goals (refine WH.one 9 (by kernel_rfl) ?_)
  all_goals (refine Comes1.call (vs := [_, _]) rfl rfl (fun a w => Tryz.call52 a w) rfl (kb _) rfl rfl rfl ?_ (fun _ => by kernel_rfl)
             rintro v6 h6 ⟨ho6, hx6, hf6⟩
             have hb6 := hx6.obj hbh4 nos)
  all_goals (refine ⟨fun _ => ⟨_, hb6⟩, ?_⟩)
  all_goals (refine WH.one 10 (by kernel_rfl) ?_)
  all_goals (refine Comes1.call (vs := [_, _]) rfl rfl (fun a w => Tryz.call27 a w) rfl (say_first ho6.rd hb6 (fun q hq e => by have := hf6 q hq; omega)) rfl rfl rfl ?_ (fun _ => by kernel_rfl)
             rintro _ h7 ⟨w7, v1, v2, v3, hb7, ho7, hx7, hf7, hoc⟩
             have hC7 : ∃ w, h7[b]? = some (.cells ⟨svC w (.pointer (some ⟨fb, 0, none⟩)) s (.slice none 0 0) (In 0) false false⟩ 30 (0, 0)) := ⟨_, hb7⟩
             have X6 := X4.trans hx6
             have l6 := X6.size
             have kf7 := (kf.ext0 X6).ext hx7 (fun e => nbf e.symm) (fun q hq e => own_ne (kf.ext0 X6).own hb6 (by decide) (e ▸ hq))
             have nw7 : ∀ q, w7.ownBlock = some q → q ≠ fb := fun q hq e => by have := hf7 q hq; omega
             have X7 : Ext (fun q => q = b ∨ q = fb) h h7 := (X6.mono fun _ _ e => e.elim).trans (hx7.mono fun _ _ e => .inl e))
  all_goals (refine ⟨fun _ => hC7, ?_⟩)
  all_goals (refine WH.done (by kernel_rfl) ?_)
  all_goals (refine Gn ?_)
  all_goals (refine Gs [(0, _)] ?_)
  all_goals (refine WC.sr ?_)
  all_goals (refine Go ?_)
  all_goals (refine WL.step (ok_nilCheck rfl) rfl rfl rfl ?_)
  all_goals (refine Go ?_)
  all_goals (refine WL.ld rfl (by first | exact cell_blk hb7 rfl | assumption | exact cell_blk (by assumption) rfl) rfl rfl rfl ?_)
  all_goals (refine WL.call (vs := [_]) rfl (fun a w => Tryz.call53 a w) rfl (fw_begin kf7) rfl rfl rfl ?_
             rintro _ h8 ⟨rfl, kf8, hx8⟩
             have hb8 := hx8.obj hb7 nbf
             have ho8 := ho7.ext hx8 (fun q hq e => nw7 q hq e))
  all_goals (refine Gn ?_)
  all_goals (refine Gs [(0, _)] ?_)
  all_goals (refine WC.region ?_)
  all_goals (refine Go ?_)
  all_goals (refine WL.step (ok_nilCheck rfl) rfl rfl rfl ?_)
  all_goals (refine Go ?_)
  all_goals (refine WL.stepR0 (okE_store (fun w => Tryz.sizeOf4 w) rfl rfl hb8 (Nat.le_of_ble_eq_true rfl) rfl rfl) rfl rfl ?_
             rintro _ h9 ⟨hb9, hx9⟩
             have ho9 := ho8.ext hx9 (fun q hq e => own_ne ho8 hb8 (by decide) (e ▸ hq))
             have kf9 := kf8.ext hx9 (fun e => nbf e.symm) (fun q hq e => own_ne kf8.own hb8 (by decide) (e ▸ hq)))
  all_goals (refine Gn ?_)
  skip))
  all_goals (first | (fail_if_success refine goB 6 ?_) | (
  refine goB 6 ?_
  all_goals (refine WC.skip ?_)
  skip))
  skip))
  all_goals (refine Gn ?_)
  all_goals (refine retP_n [] trivial ?_)
  all_goals (exact ⟨_, _, _, _, hb9, ho9, kf9, (X7.trans (hx8.mono fun _ _ e => .inr e)).trans (hx9.mono fun _ _ e => .inl e), fun q hq => (by have := hf7 q hq; omega), hoc⟩)
end Go.Proofs.YtdjjpbbhcidaaaaGreatDoor


/-
  A SERVER (layer 31), by the code: what was said is taken.
-/
namespace Go.Proofs.YtdjjpbbhcidaaaaGreatDoor
open Go Go.RK

set_option maxHeartbeats 2000000 in
set_option maxRecDepth 100000 in
theorem delete_msg {h : Heap} {A : Option Addr} {n c : Nat} {xs : List Value} (ho : Own h (.slice A n c) 38 2 n xs) (hn : 0 < n) (hone : ∀ v ∈ xs, v.oneCell' = true) (hm : n ≤ 1000) :
    CallsH Tryz.prog 30 ⟨[.slice A n c, In 0, In 1]⟩ h fun u h' => Own h' u 38 2 (n - 1) (xs.drop 2) ∧ Ext (fun b => (Value.slice A n c).ownBlock = some b) h h' ∧ u.ownBlock = (Value.slice A n c).ownBlock := by
  obtain ⟨b, c', cs, hv, hb, hnc, hcm, hcl, hct⟩ := ho.block (by omega)
  simp only [Value.slice.injEq] at hv
  obtain ⟨rfl, _, rfl⟩ := hv
  have hcm' := hcm
  unfold maxLen at hcm
  have hxl : xs.length = n * 2 := ho.1
  have hrd := ho.rd.drop (l := 1) (by omega)
  refine calls [(0, _), (1, _), (2, _)] Tryz.func30 rfl Tryz.ntmps30 rfl ⟨rfl, rfl, rfl, trivial⟩ ?_
  all_goals (refine WC.sr ?_)
  all_goals (refine Go ?_)
  all_goals (refine WC.sr ?_)
  all_goals (refine Go ?_)
  all_goals (refine WL.step (ok_slice_lhm Tryz.underlying25 (fun w => Tryz.sizeOf38 w) rfl rfl rfl rfl (by omega)) rfl rfl rfl ?_)
  all_goals (refine Gn ?_)
  all_goals (refine Gs [(0, _), (1, _), (2, _)] ?_)
  all_goals (refine WC.seq ?_)
  all_goals (refine WC.sr ?_)
  all_goals (refine Go ?_)
  all_goals (refine goC 1 2 ?_ ?_ <;> first | exact ⟨⟩ | refine Hb.mk fun hb => ?_ | skip)
  all_goals (first | (fail_if_success refine goB 1 ?_) | (
  refine goB 1 ?_
  all_goals (refine WC.sr ?_)
  all_goals (refine Go ?_)
  all_goals (refine Gs [(6, _)] ?_)
  all_goals (refine Gt ?_)
  all_goals (rw [e6] at hl3
             refine ⟨?_, (hx2.trans hx3).mono (fun q _ e => by simp [e, Value.ownBlock]), rfl⟩
             simp only [Int.toNat_zero, Nat.zero_add] at ht3 ⊢
             exact Own.of_block (c := c) hb3 (by omega) hcm' (by rw [hl3]) (by rw [ht3 _ (by show _ ≤ (n - 1) * 2; omega), List.take_append_of_le_length (by omega), List.take_of_length_le (by omega)]))
  skip))
  all_goals (first | (fail_if_success refine goB 2 ?_) | (
  refine goB 2 ?_
  all_goals (refine WC.skip ?_)
  skip))
  all_goals (refine Gn ?_)
  all_goals (refine WC.sr ?_)
  all_goals (refine Go ?_)
  all_goals (refine Gs [(0, _), (1, _), (2, _), (7, _)] ?_)
  all_goals (refine WC.seq ?_)
  all_goals (refine WC.drawT 6 fol (by kernel_rfl) ?_)
  all_goals (show WS _ _ _ [_, _, _, _, _, _] _ _ _)
  all_goals (refine WS.step (ok_move rfl) rfl rfl rfl ?_)
  all_goals (refine WS.step (ok_move rfl) rfl rfl rfl ?_)
  all_goals (first | (refine WS.step (ok_slice_hN Tryz.underlying25 (fun w => Tryz.sizeOf38 w) rfl rfl (by omega)) rfl rfl rfl ?_) | (refine WS.step (ok_slice_h Tryz.underlying25 (fun w => Tryz.sizeOf38 w) rfl rfl (by omega)) rfl rfl rfl ?_))
  all_goals (refine WS.step (ok_move rfl) rfl rfl rfl ?_)
  all_goals (refine WS.step (ok_move rfl) rfl rfl rfl ?_)
  all_goals (first | (refine WS.step (ok_slice_lN Tryz.underlying25 (fun w => Tryz.sizeOf38 w) rfl rfl (by omega)) rfl rfl rfl ?_) | (refine WS.step (ok_slice_lS Tryz.underlying25 (fun w => Tryz.sizeOf38 w) rfl rfl (by omega)) rfl rfl rfl ?_) | (refine WS.step (ok_slice_l Tryz.underlying25 (fun w => Tryz.sizeOf38 w) rfl rfl (by omega)) rfl rfl rfl ?_))
  all_goals (refine WS.nil ?_)
  all_goals (show WL _ _ _ [_, _] _ _ _)
  all_goals (refine WL.stepR (okE_appendR (sz := 2) rfl Tryz.underlying25 (show Tryz.prog.info? 38 = some Tryz.t38 by kernel_rfl) rfl rfl rfl hb (by omega) hrd (fun v hv => hone v (List.mem_of_mem_drop hv)) (by omega)) rfl rfl rfl ?_
             rintro _ h2 ⟨rfl, hb2, hx2⟩)
  all_goals (simp only [Int.toNat_zero, List.take_zero, List.nil_append, Nat.zero_add, Nat.zero_mul, Nat.one_mul] at hb2
             have e5 : (List.drop 2 xs).length = (n - 1) * 2 := by rw [List.length_drop, hxl]; omega
             have e6 : (List.drop 2 xs ++ List.drop ((n - 1) * 2) cs).length = c * 2 := by rw [List.length_append, e5, List.length_drop, hcl]; omega)
  all_goals (refine WL.step (ok_assign rfl) rfl rfl rfl ?_)
  all_goals (refine WL.nil ?_)
  all_goals (refine Gn ?_)
  all_goals (refine Gs [(0, _), (7, _)] ?_)
  all_goals (refine WC.sr ?_)
  all_goals (refine Go ?_)
  all_goals (first | (refine WL.step (ok_slice_lhN Tryz.underlying25 (fun w => Tryz.sizeOf38 w) rfl rfl rfl (by omega)) rfl rfl rfl ?_) | (refine WL.step (ok_slice_lh Tryz.underlying25 (fun w => Tryz.sizeOf38 w) rfl rfl rfl (by omega)) rfl rfl rfl ?_))
  all_goals (refine WL.stepR0 (okE_clear rfl Tryz.underlying25 (fun w => Tryz.zeroValue38 w) rfl (by first | rfl | assumption | exact (if_neg (by omega)).trans (congrArg some (Addr.add_lit _ _ _))) (by omega) hb2 (by show 0 + _ * 2 + _ * 2 ≤ _; simp only [List.length_append, List.length_drop, hxl, hcl, Int.toNat_zero]; omega) (by simp [Value.cells, Value.oneCell'])) rfl rfl ?_
             rintro _ h3 ⟨cs3, hb3, hl3, ht3, hx3⟩)
  all_goals (refine Gn ?_)
  all_goals (refine Gs [(0, _)] ?_)
  all_goals (refine WC.sr ?_)
  all_goals (refine Go ?_)
  all_goals (refine Gt ?_)
  all_goals (rw [e6] at hl3
             refine ⟨?_, (hx2.trans hx3).mono (fun q _ e => by simp [e, Value.ownBlock]), rfl⟩
             simp only [Int.toNat_zero, Nat.zero_add] at ht3 ⊢
             exact Own.of_block (c := c) hb3 (by omega) hcm' (by rw [hl3]) (by rw [ht3 _ (by show _ ≤ (n - 1) * 2; omega), List.take_append_of_le_length (by omega), List.take_of_length_le (by omega)]))
end Go.Proofs.YtdjjpbbhcidaaaaGreatDoor


/-
  PORTAL (layer 28): lists that are copied: rows of their own.
-/
namespace Go.Proofs.YtdjjpbbhcidaaaaGreatDoor
open Go Go.RK

/-- A list whose cells have got bytes of their own up to number k. -/
structure RowI (h2 h : Heap) (b1 : Nat) (l : List Cel) (k : Nat) (out : List Cel) : Prop where
  le : k ≤ l.length
  len : out.length = k
  pl : out.map Cel.pl = (l.take k).map Cel.pl
  blk : ∃ spare, h[b1]? = some (.cells ⟨(out ++ l.drop k).flatMap Cel.cells ++ spare⟩ 211 (0, 0))
  own : ∀ q ∈ out, q.ok h ∧ ∀ b, q.v.ownBlock = some b → h2.size ≤ b
  ext : Ext (fun b => b = b1) h2 h
theorem RowI.done {h0 h2 h : Heap} {b1 c1 : Nat} {l out : List Cel} (r : RowI h2 h b1 l l.length out) (x2 : Ext No h0 h2) (hg : h0.size ≤ b1) (hlt : b1 < h2.size) (hn : l.length ≤ c1) (hc : c1 ≤ maxLen) (hl : l.length * 32 ≤ reachBytes) :
    ∃ l', Cels h (.slice (some ⟨b1, 0, none⟩) l.length c1) l' ∧ l'.map Cel.pl = l.map Cel.pl ∧ Ext No h0 h ∧ ∀ b, CelsF (.slice (some ⟨b1, 0, none⟩) l.length c1) l' b → h0.size ≤ b := by
  obtain ⟨spare, hb⟩ := r.blk
  rw [List.drop_length, List.append_nil] at hb
  have s2 := x2.size
  have e := r.len
  refine ⟨out, ?_, by rw [r.pl, List.take_length], x2.trans' r.ext fun b hb e => by omega, ?_⟩
  · rw [← e]
    exact ⟨⟨_, _, rfl, by omega, length_flat Cel.len out, fun _ => ⟨b1, 0, rfl, lt_of_some hb, (At.of_block hb).pre⟩⟩, ⟨by omega, _, _, rfl, hc⟩, fun q hq => (r.own q hq).1⟩
  · rintro b (⟨_, e⟩ | ⟨q, hq, _, e⟩)
    · simp only [Value.ownBlock, Option.some.injEq] at e; omega
    · have := (r.own q hq).2 b e; omega
structure TabI (h2 h : Heap) (b1 : Nat) (L : List Rw) (k : Nat) (out : List Rw) : Prop where
  le : k ≤ L.length
  len : out.length = k
  pl : out.map Rw.pl = (L.take k).map Rw.pl
  blk : ∃ spare, h[b1]? = some (.cells ⟨(out ++ L.drop k).map Rw.v ++ spare⟩ 32 (0, 0))
  own : ∀ r ∈ out, Cels h r.v r.l ∧ ∀ b, CelsF r.v r.l b → h2.size ≤ b
  ext : Ext (fun b => b = b1) h2 h
theorem TabI.done {h0 h2 h : Heap} {b1 c1 : Nat} {L out : List Rw} (r : TabI h2 h b1 L L.length out) (x2 : Ext No h0 h2) (hg : h0.size ≤ b1) (hlt : b1 < h2.size) (hn : L.length ≤ c1) (hc : c1 ≤ maxLen) (hl : L.length * 24 ≤ reachBytes) :
    ∃ L', Rws h (.slice (some ⟨b1, 0, none⟩) L.length c1) L' ∧ L'.map Rw.pl = L.map Rw.pl ∧ Ext No h0 h ∧ ∀ b, RwsF (.slice (some ⟨b1, 0, none⟩) L.length c1) L' b → h0.size ≤ b := by
  obtain ⟨spare, hb⟩ := r.blk
  rw [List.drop_length, List.append_nil] at hb
  have s2 := x2.size
  have e := r.len
  refine ⟨out, ?_, by rw [r.pl, List.take_length], x2.trans' r.ext fun b hb e => by omega, ?_⟩
  · rw [← e]
    exact ⟨⟨_, _, rfl, by omega, by simp, fun _ => ⟨b1, 0, rfl, lt_of_some hb, (At.of_block hb).pre⟩⟩, ⟨by omega, _, _, rfl, hc⟩, fun q hq => (r.own q hq).1⟩
  · rintro b (⟨_, e⟩ | ⟨q, hq, e⟩)
    · simp only [Value.ownBlock, Option.some.injEq] at e; omega
    · have := (r.own q hq).2 b e; omega
end Go.Proofs.YtdjjpbbhcidaaaaGreatDoor


/-
  PORTAL (layer 28): a set of portals: Put, Ran, Fetch; what the document compares.
-/
namespace Go.Proofs.YtdjjpbbhcidaaaaGreatDoor
open Go Go.RK

/-- A portal's data. -/
structure PD where
  text : List UInt8
  vo : Value
  oids : List Int
  vp : Value
  ps : List Cel
  vr : Value
  rs : List Rw
  ran : Bool
  over : Bool
def PD.cells (p : PD) : List Value := [St p.text, p.vo, p.vp, p.vr, .bool p.ran, .bool p.over]
structure PD.ok (h : Heap) (p : PD) : Prop where
  oids : Rd h p.vo 1 p.oids.length (ints p.oids)
  lo : p.oids.length * 8 ≤ reachBytes
  ps : Cels h p.vp p.ps
  rs : Rws h p.vr p.rs
def PD.F (p : PD) (b : Nat) : Prop := (0 < p.oids.length ∧ p.vo.ownBlock = some b) ∨ CelsF p.vp p.ps b ∨ RwsF p.vr p.rs b
def PD.pl (p : PD) := (p.text, p.oids, p.ps.map Cel.pl, p.rs.map Rw.pl, p.ran, p.over)
theorem PD.ok.ext {h h' : Heap} {S : Nat → Prop} {p : PD} (k : p.ok h) (a : Ext S h h') (hS : ∀ b, p.F b → ¬ S b) : p.ok h' :=
  ⟨k.oids.ext' a fun b h1 h2 => hS b (.inl ⟨h1, h2⟩), k.lo, k.ps.ext a fun b hb => hS b (.inr (.inl hb)), k.rs.ext a fun b hb => hS b (.inr (.inr hb))⟩
theorem PD.ok.lt {h : Heap} {p : PD} {b : Nat} (k : p.ok h) (hb : p.F b) : b < h.size := by
  rcases hb with ⟨h1, h2⟩ | hb | hb
  · exact k.oids.lt h1 h2
  · exact k.ps.lt hb
  · exact k.rs.lt hb
end Go.Proofs.YtdjjpbbhcidaaaaGreatDoor


/-
  PORTAL (layer 28): a set that holds one portal: New, Put, Ran, Fetch.
-/
namespace Go.Proofs.YtdjjpbbhcidaaaaGreatDoor
open Go Go.RK

set_option maxHeartbeats 2000000 in
set_option maxRecDepth 100000 in
theorem new_port {h : Heap} : CallsH Tryz.prog 117 ⟨[]⟩ h fun u h' => ∃ b m, u = .pointer (some ⟨b, 0, none⟩) ∧ h'[b]? = some (.cells ⟨[.map (some m)]⟩ 234 (0, 0)) ∧ Mp .string St h' m ([] : List (List UInt8 × Value)) ∧ h.size ≤ b ∧ h.size ≤ m ∧ Ext No h h' := by
  refine calls [] Tryz.func117 rfl Tryz.ntmps117 rfl trivial ?_
  all_goals (refine WC.sr ?_)
  all_goals (refine Go ?_)
  all_goals (refine WC.sr ?_)
  all_goals (refine WL.stepR okE_makeMap rfl rfl rfl ?_
             rintro _ h1 ⟨m1, rfl, hgm, hm1, hxm⟩)
  all_goals (refine WL.step (ok_buildF (vs := [_]) (cs := [_]) (fun | [a0] => [a0] | _ => []) rfl rfl (by kernel_rfl)) rfl rfl rfl ?_)
  all_goals (refine WL.stepR (okE_box rfl) rfl rfl rfl ?_
             rintro _ h2 ⟨b1, rfl, hg1, hb1, hx1⟩)
  all_goals (refine Go ?_)
  all_goals (refine Gt ?_)
  all_goals (exact ⟨_, _, rfl, hb1, ⟨_, _, hx1.obj hm1 id, MapKept.stamped_empty 0, rfl⟩, Nat.le_trans hxm.size hg1, hgm, hxm.trans hx1⟩)

/-- A set at block b, its map at m, its one portal of that name at p, with that data. -/
structure P1 (h : Heap) (b m p : Nat) (name : List UInt8) (d : PD) : Prop where
  set : h[b]? = some (.cells ⟨[.map (some m)]⟩ 234 (0, 0))
  map : Mp .string St h m [(name, .pointer (some ⟨p, 0, none⟩))]
  blk : h[p]? = some (.cells ⟨d.cells⟩ 249 (0, 0))
  ok : d.ok h
  apart : ∀ k, d.F k → k ≠ p
theorem P1.ne {h : Heap} {b m p : Nat} {name : List UInt8} {d : PD} (r : P1 h b m p name d) : b ≠ p ∧ m ≠ p := by
  constructor
  · rintro rfl
    have := r.set
    rw [r.blk] at this
    simp only [Option.some.injEq, Obj.cells.injEq] at this
    exact absurd this.2.1 (by decide)
  · rintro rfl
    obtain ⟨_, _, e, _⟩ := r.map
    rw [r.blk] at e
    cases e
theorem P1.ext {h h' : Heap} {b m p : Nat} {name : List UInt8} {d : PD} {S : Nat → Prop} (r : P1 h b m p name d) (a : Ext S h h') (h1 : ¬ S b) (h2 : ¬ S m) (h3 : ¬ S p) (h4 : ∀ k, d.F k → ¬ S k) : P1 h' b m p name d :=
  ⟨a.obj r.set h1, r.map.ext a h2, a.obj r.blk h3, r.ok.ext a h4, r.apart⟩
def PD0 : PD := ⟨[], .slice none 0 0, [], .slice none 0 0, [], .slice none 0 0, [], false, false⟩
end Go.Proofs.YtdjjpbbhcidaaaaGreatDoor


/-
  ROWS THAT ARE TURNED IN PLACE BY THE LIBRARY's SORT AND COMPACT. No program is named here.
-/
namespace Go.RK
open Go

section
variable {h : Heap}
/-- What the library's contracts ask of a row of one's own. -/
theorem Own.holds {α : Type} [Inhabited α] (enc : α → Value) {w : World} {g n cap : Nat} {e : TypeId} {l : List α} (ho : Own w.heap (.slice (some ⟨g, 0, none⟩) n cap) e 1 n (l.map enc)) : Go.Sort.Holds enc w g 0 l.toArray := by
  obtain ⟨hl, ⟨hv, _⟩ | ⟨g0, cap0, cur, hv, hg, hn, hc, hs, htk⟩⟩ := ho
  · cases hv
  · simp only [Value.slice.injEq, Option.some.injEq, Addr.mk.injEq] at hv
    obtain ⟨⟨rfl, _, _⟩, _, rfl⟩ := hv
    intro j hj
    have hj' : j < l.length := by simpa using hj
    refine ⟨?_, ?_⟩
    · rw [cell_eq, cell_of hg, Nat.zero_add]
      have e1 : (cur.toList.take (n * 1))[j]? = (l.map enc)[j]? := by rw [htk]
      have e2 : j < n * 1 := by
        have := congrArg List.length htk
        simp at this hl
        omega
      rw [List.getElem?_take, if_pos e2, List.getElem?_map, List.getElem?_eq_getElem hj'] at e1
      rw [← Array.getElem?_toList, e1]
      simp [hj']
    · unfold World.frozen?
      simp only [hg]
      simp
end
end Go.RK

/-
  PORTAL (layer 28): one portal among those of a set: found by its name.
-/
namespace Go.Proofs.YtdjjpbbhcidaaaaGreatDoor
open Go Go.RK

/-- A set at block b, its map at m, of entries es; its portal of that name at p, with that data. -/
structure Pe (h : Heap) (b m : Nat) (es : List (List UInt8 × Value)) (p : Nat) (name : List UInt8) (d : PD) : Prop where
  set : h[b]? = some (.cells ⟨[.map (some m)]⟩ 234 (0, 0))
  map : Mp .string St h m es
  look : alook es name = some (.pointer (some ⟨p, 0, none⟩))
  blk : h[p]? = some (.cells ⟨d.cells⟩ 249 (0, 0))
  ok : d.ok h
  apart : ∀ k, d.F k → k ≠ p
theorem Pe.ne {es : List (List UInt8 × Value)} {h : Heap} {b m p : Nat} {name : List UInt8} {d : PD} (r : Pe h b m es p name d) : b ≠ p ∧ m ≠ p := by
  constructor
  · rintro rfl
    have := r.set
    rw [r.blk] at this
    simp only [Option.some.injEq, Obj.cells.injEq] at this
    exact absurd this.2.1 (by decide)
  · rintro rfl
    obtain ⟨_, _, e, _⟩ := r.map
    rw [r.blk] at e
    cases e
end Go.Proofs.YtdjjpbbhcidaaaaGreatDoor


/-
  PORTAL (layer 28): a set of portals: Put, Get, Delete, Clear, Names.
-/
namespace Go.Proofs.YtdjjpbbhcidaaaaGreatDoor
open Go Go.RK

/-- A portal among those of both sets: its block, what the code has, what the document has. -/
structure It28 where
  p : Nat
  d : PD
  e : PD
def ptE (i : It28) : Value := .pointer (some ⟨i.p, 0, none⟩)
section
variable {h : Heap} {b m : Nat} {es : List (List UInt8 × Value)}
theorem Pe.ext0 {h' : Heap} {p : Nat} {name : List UInt8} {d : PD} (r : Pe h b m es p name d) (a : Ext No h h') : Pe h' b m es p name d :=
  ⟨a.obj r.set nos, r.map.ext a nos, r.look, a.obj r.blk nos, r.ok.ext a (fun _ _ => nos), r.apart⟩
end
end Go.Proofs.YtdjjpbbhcidaaaaGreatDoor


/-
  MESSAGES (layer 6), alone: Front.w without the entries, and what RwF tells of them.
-/
namespace Go.Proofs.YtdjjpbbhcidaaaaGreatDoor
open Go Go.RK

structure Fm where
  kind : Int
  what : Int
  name : List UInt8
  portal : List UInt8
  text : List UInt8
  vo : Value
  oids : List Int
  vf : Value
  formats : List Int
  vs : Value
  results : List Int
  vp : Value
  params : List Cel
  max : Int
def Fm.cells (b : Fm) : List Value := [.int .u8 b.kind, .int .u8 b.what, St b.name, St b.portal, St b.text, b.vo, b.vf, b.vs, b.vp, In b.max]
theorem Fm.len (b : Fm) : b.cells.length = 10 := rfl
structure Fm.ok (h : Heap) (b : Fm) : Prop where
  oids : Rd h b.vo 1 b.oids.length (ints b.oids) ∧ b.oids.length ≤ maxLen
  formats : Rd h b.vf 1 b.formats.length (ints b.formats) ∧ b.formats.length ≤ maxLen
  results : Rd h b.vs 1 b.results.length (ints b.results) ∧ b.results.length ≤ maxLen
  params : Cels h b.vp b.params
theorem Fm.ok.ext0 {h h' : Heap} {b : Fm} (k : b.ok h) (a : Ext No h h') : b.ok h' := ⟨⟨k.1.1.ext0 a, k.1.2⟩, ⟨k.2.1.ext0 a, k.2.2⟩, ⟨k.3.1.ext0 a, k.3.2⟩, k.4.ext0 a⟩
theorem Fm.ok.one {h : Heap} {e : Fm} (k : e.ok h) : ∀ v ∈ e.cells, v.oneCell' = true := by
  obtain ⟨A1, c1, e1, _⟩ := k.1.1
  obtain ⟨A2, c2, e2, _⟩ := k.2.1
  obtain ⟨A3, c3, e3, _⟩ := k.3.1
  obtain ⟨_, ⟨_, A4, c4, e4, _⟩, _⟩ := k.4
  simp [Fm.cells, Value.oneCell', e1, e2, e3, e4]
def Fm.pl (b : Fm) := (b.kind, b.what, b.name, b.portal, b.text, b.oids, b.formats, b.results, b.params.map Cel.pl, b.max)
def Fms (h : Heap) (v : Value) (L : List Fm) : Prop := Rd h v 10 L.length (L.flatMap Fm.cells) ∧ L.length ≤ maxLen ∧ ∀ e ∈ L, e.ok h
theorem Fms.ext0 {h h' : Heap} {v : Value} {L : List Fm} (k : Fms h v L) (a : Ext No h h') : Fms h' v L := ⟨k.1.ext0 a, k.2.1, fun r hr => (k.2.2 r hr).ext0 a⟩

end Go.Proofs.YtdjjpbbhcidaaaaGreatDoor


/-
  SESSIONS (layer 30): what a session holds; New; of one that no call made nothing is said.
-/
namespace Go.Proofs.YtdjjpbbhcidaaaaGreatDoor
open Go Go.RK

/-- A session at bs: its statements L, its portals P, its engine's refused texts R. -/
structure Se (h : Heap) (bs ms bp mp be me : Nat) (st : Int) (sk ov : Bool) (cnt : Int) (L P R : List (List UInt8 × Value)) : Prop where
  blk : h[bs]? = some (.cells ⟨[.map (some ms), .pointer (some ⟨bp, 0, none⟩), .pointer (some ⟨be, 0, none⟩), .int .u8 st, .bool sk, .bool ov]⟩ 109 (0, 0))
  stm : Mp .string St h ms L
  pb : h[bp]? = some (.cells ⟨[.map (some mp)]⟩ 234 (0, 0))
  pm : Mp .string St h mp P
  eb : h[be]? = some (.cells ⟨[.map (some me), In cnt]⟩ 133 (0, 0))
  em : Mp .string St h me R
  ne : ms ≠ mp ∧ ms ≠ me ∧ mp ≠ me
theorem Se.ext0 {h h' : Heap} {bs ms bp mp be me : Nat} {st : Int} {sk ov : Bool} {cnt : Int} {L P R : List (List UInt8 × Value)} (k : Se h bs ms bp mp be me st sk ov cnt L P R) (x : Ext No h h') : Se h' bs ms bp mp be me st sk ov cnt L P R :=
  ⟨x.obj k.blk nos, k.stm.ext x nos, x.obj k.pb nos, k.pm.ext x nos, x.obj k.eb nos, k.em.ext x nos, k.ne⟩
/-- Messages stay. -/
def Kf (h h' : Heap) : Prop := ∀ (q : Nat) (cs : Array Value), h[q]? = some (Obj.cells cs 34 (0, 0)) → h'[q]? = some (Obj.cells cs 34 (0, 0))
theorem Kf.trans {h h1 h2 : Heap} (a : Kf h h1) (b : Kf h1 h2) : Kf h h2 := fun q cs hq => b q cs (a q cs hq)
set_option maxHeartbeats 2000000 in
set_option maxRecDepth 100000 in
theorem new_eng {h : Heap} : CallsH Tryz.prog 33 ⟨[]⟩ h fun u h' => ∃ be me, u = .pointer (some ⟨be, 0, none⟩) ∧ h'[be]? = some (.cells ⟨[.map (some me), In 0]⟩ 133 (0, 0)) ∧ Mp .string St h' me ([] : List (List UInt8 × Value)) ∧ h.size ≤ be ∧ h.size ≤ me ∧ Ext No h h' := by
  refine calls [] Tryz.func33 rfl Tryz.ntmps33 rfl trivial ?_
  all_goals (refine WC.sr ?_)
  all_goals (refine Go ?_)
  all_goals (refine WC.sr ?_)
  all_goals (refine WL.stepR okE_makeMap rfl rfl rfl ?_
             rintro _ h1 ⟨b1, rfl, hg1, hb1, hx1⟩)
  all_goals (refine WL.step (ok_buildF (vs := [_]) (cs := [_, _]) (fun | [a0] => [a0, (.int .i64 0)] | _ => []) rfl rfl (by kernel_rfl)) rfl rfl rfl ?_)
  all_goals (refine WL.stepR (okE_box rfl) rfl rfl rfl ?_
             rintro _ h2 ⟨b2, rfl, hg2, hb2, hx2⟩)
  all_goals (refine Go ?_)
  all_goals (refine Gt ?_)
  all_goals (exact ⟨b2, b1, rfl, hb2, ⟨_, _, hx2.obj hb1 id, MapKept.stamped_empty 0, rfl⟩, by have := hx1.size; omega, hg1, hx1.trans hx2⟩)
set_option maxHeartbeats 2000000 in
set_option maxRecDepth 100000 in
/-- New: the engine may be none. -/
theorem new_sess {h : Heap} (e : Option Addr) : CallsH Tryz.prog 67 ⟨[.pointer e]⟩ h fun u h' => ∃ bs ms bp mp, u = .pointer (some ⟨bs, 0, none⟩) ∧ h'[bs]? = some (.cells ⟨[.map (some ms), .pointer (some ⟨bp, 0, none⟩), .pointer e, .int .u8 73, .bool false, .bool false]⟩ 109 (0, 0)) ∧ Mp .string St h' ms ([] : List (List UInt8 × Value)) ∧
    h'[bp]? = some (.cells ⟨[.map (some mp)]⟩ 234 (0, 0)) ∧ Mp .string St h' mp ([] : List (List UInt8 × Value)) ∧ h.size ≤ ms ∧ ms < mp ∧ h.size ≤ bp ∧ h.size ≤ bs ∧ Ext No h h' := by
  refine calls [(0, _)] Tryz.func67 rfl Tryz.ntmps67 rfl ⟨rfl, trivial⟩ ?_
  all_goals (refine WC.sr ?_)
  all_goals (refine Go ?_)
  all_goals (refine WC.sr ?_)
  all_goals (refine WL.stepR okE_makeMap rfl rfl rfl ?_
             rintro _ h1 ⟨b1, rfl, hg1, hb1, hx1⟩)
  all_goals (refine WL.call (vs := []) rfl (fun a w => Tryz.call117 a w) rfl (new_port) rfl rfl rfl ?_
             rintro _ h2 ⟨bp, mp, rfl, hbp, hmp, hgp, hgm, hx2⟩)
  all_goals (refine Go ?_)
  all_goals (refine WL.step (ok_buildF (vs := [_, _, _, _]) (cs := [_, _, _, _, _, _]) (fun | [a0, a1, a2, a3] => [a0, a1, a2, a3, (.bool false), (.bool false)] | _ => []) rfl rfl (by kernel_rfl)) rfl rfl rfl ?_)
  all_goals (refine WL.stepR (okE_box rfl) rfl rfl rfl ?_
             rintro _ h3 ⟨b3, rfl, hg3, hb3, hx3⟩)
  all_goals (have l1 := lt_of_some hb1)
  all_goals (refine Go ?_)
  all_goals (refine Gs [(2, _)] ?_)
  all_goals (refine Gt ?_)
  all_goals (exact ⟨b3, b1, bp, mp, rfl, hb3, ⟨_, _, (hx2.trans hx3).obj hb1 id, MapKept.stamped_empty 0, rfl⟩, hx3.obj hbp nos, hmp.ext hx3 nos, hg1, by omega, by have := hx1.size; omega, by have := hx1.size; have := hx2.size; omega, (hx1.trans hx2).trans hx3⟩)
section
variable {h : Heap} {b : Nat} {m p : Value} {e : Option Addr} {st : Int} {sk ov : Bool}
end
end Go.Proofs.YtdjjpbbhcidaaaaGreatDoor


/-
  A SERVER (layer 31), by the code: New, Feed, Take, Over, Session.
-/
namespace Go.Proofs.YtdjjpbbhcidaaaaGreatDoor
open Go Go.RK

set_option maxHeartbeats 2000000 in
set_option maxRecDepth 100000 in
theorem sv_ready {h : Heap} {b fb : Nat} {w s p i : Value} {bg ov : Bool} (hb : h[b]? = some (.cells ⟨svC w (.pointer (some ⟨fb, 0, none⟩)) s p i bg ov⟩ 30 (0, 0))) : CallsH Tryz.prog 22 ⟨[.pointer (some ⟨b, 0, none⟩)]⟩ h fun u h' => u = .bool true ∧ h' = h := by
  refine calls [(0, _)] Tryz.func22 rfl Tryz.ntmps22 rfl ⟨rfl, trivial⟩ ?_
  all_goals (refine WC.sr ?_)
  all_goals (refine Go ?_)
  all_goals (refine WC.sr ?_)
  all_goals (refine Go ?_)
  all_goals (refine WL.step (ok_neqPn Tryz.underlying23 rfl rfl) rfl rfl rfl ?_)
  all_goals (refine Go ?_)
  all_goals (refine goP 5 ?_ ?_ <;> first | exact ⟨⟩ | refine Hb.mk fun hb => ?_ | skip)
  all_goals (refine Gg ?_)
  all_goals (first | (refine WL.pass rfl rfl rfl ?_) | (refine WL.step (ok_nilCheck rfl) rfl rfl rfl ?_))
  all_goals (refine Gg ?_)
  all_goals (first | (refine WL.pass rfl rfl rfl ?_) | (refine WL.ld rfl (by first | exact cell_blk hb rfl | assumption | exact cell_blk (by assumption) rfl) rfl rfl rfl ?_))
  all_goals (first | (refine WL.pass rfl rfl rfl ?_) | (refine WL.step (ok_neqPn Tryz.underlying26 rfl rfl) rfl rfl rfl ?_))
  all_goals (refine Go ?_)
  all_goals (refine Gs [(2, _)] ?_)
  all_goals (refine Gt ?_)
  all_goals (exact ⟨rfl, rfl⟩)
/-- A server that no call made. -/
def NoSv (h : Heap) (p : Value) : Prop := p = .pointer none ∨ ∃ b, p = .pointer (some ⟨b, 0, none⟩) ∧ h[b]? = some (.cells ⟨svC (.slice none 0 0) (.pointer none) (.pointer none) (.slice none 0 0) (In 0) false false⟩ 30 (0, 0))
theorem NoSv.ext0 {h h' : Heap} {p : Value} (k : NoSv h p) (x : Ext No h h') : NoSv h' p := by
  rcases k with rfl | ⟨b, rfl, hb⟩
  · exact .inl rfl
  · exact .inr ⟨b, rfl, x.obj hb nos⟩
set_option maxHeartbeats 2000000 in
set_option maxRecDepth 100000 in
theorem no_ready {h : Heap} {p : Value} (k : NoSv h p) : CallsH Tryz.prog 22 ⟨[p]⟩ h fun u h' => u = .bool false ∧ h' = h := by
  rcases k with rfl | ⟨b, rfl, hb⟩
  all_goals
    refine calls [(0, _)] Tryz.func22 rfl Tryz.ntmps22 rfl ⟨rfl, trivial⟩ ?_
    all_goals (refine WC.sr ?_)
    all_goals (refine Go ?_)
    all_goals (refine WC.sr ?_)
    all_goals (refine Go ?_)
    all_goals (refine WL.step (ok_neqPn Tryz.underlying23 rfl rfl) rfl rfl rfl ?_)
    all_goals (refine Go ?_)
    all_goals (refine goP 5 ?_ ?_ <;> first | exact ⟨⟩ | refine Hb.mk fun hb => ?_ | skip)
    all_goals (refine Gg ?_)
    all_goals (first | (refine WL.pass rfl rfl rfl ?_) | (refine WL.step (ok_nilCheck rfl) rfl rfl rfl ?_))
    all_goals (refine Gg ?_)
    all_goals (first | (refine WL.pass rfl rfl rfl ?_) | (refine WL.ld rfl (by first | exact cell_blk hb rfl | assumption | exact cell_blk (by assumption) rfl) rfl rfl rfl ?_))
    all_goals (first | (refine WL.pass rfl rfl rfl ?_) | (refine WL.step (ok_neqPn Tryz.underlying26 rfl rfl) rfl rfl rfl ?_))
    all_goals (refine Go ?_)
    all_goals (refine Gs [(2, _)] ?_)
    all_goals (refine Gt ?_)
    all_goals (exact ⟨rfl, rfl⟩)
set_option maxHeartbeats 2000000 in
set_option maxRecDepth 100000 in
theorem no_over {h : Heap} {p : Value} (k : NoSv h p) : CallsH Tryz.prog 9 ⟨[p]⟩ h fun u h' => u = .bool false ∧ h' = h := by
  refine calls [(0, _)] Tryz.func9 rfl Tryz.ntmps9 rfl ⟨rfl, trivial⟩ ?_
  all_goals (refine WC.sr ?_)
  all_goals (refine Go ?_)
  all_goals (refine WC.sr ?_)
  all_goals (refine Go ?_)
  all_goals (refine WL.call (vs := [_]) rfl (fun a w => Tryz.call22 a w) rfl (no_ready k) rfl rfl rfl ?_
             rintro _ hq ⟨rfl, hz⟩
             replace hz := hz.symm
             subst hz)
  all_goals (refine Go ?_)
  all_goals (refine goP 5 ?_ ?_ <;> first | exact ⟨⟩ | refine Hb.mk fun hb => ?_ | skip)
  all_goals (refine Gg ?_)
  all_goals (first | (refine WL.pass rfl rfl rfl ?_) | (refine WL.step (ok_nilCheck rfl) rfl rfl rfl ?_))
  all_goals (refine Gg ?_)
  all_goals (first | (refine WL.pass rfl rfl rfl ?_) | (refine Ld ?_))
  all_goals (refine Go ?_)
  all_goals (refine Gs [(2, _)] ?_)
  all_goals (refine Gt ?_)
  all_goals (exact ⟨rfl, rfl⟩)
set_option maxHeartbeats 2000000 in
set_option maxRecDepth 100000 in
theorem no_session {h : Heap} {p : Value} (k : NoSv h p) : CallsH Tryz.prog 10 ⟨[p]⟩ h fun u h' => u = .pointer none ∧ h' = h := by
  refine calls [(0, _)] Tryz.func10 rfl Tryz.ntmps10 rfl ⟨rfl, trivial⟩ ?_
  all_goals (refine WC.sr ?_)
  all_goals (refine Go ?_)
  all_goals (refine WC.seq ?_)
  all_goals (refine WC.sr ?_)
  all_goals (refine Go ?_)
  all_goals (refine WL.call (vs := [_]) rfl (fun a w => Tryz.call22 a w) rfl (no_ready k) rfl rfl rfl ?_
             rintro _ hq ⟨rfl, hz⟩
             replace hz := hz.symm
             subst hz)
  all_goals (refine Go ?_)
  all_goals (refine goC 1 2 ?_ ?_ <;> first | exact ⟨⟩ | refine Hb.mk fun hb => ?_ | skip)
  all_goals (first | (fail_if_success refine goB 1 ?_) | (
  refine goB 1 ?_
  all_goals (refine WC.sr ?_)
  all_goals (refine Go ?_)
  all_goals (refine Gs [(2, _)] ?_)
  all_goals (refine Gt ?_)
  all_goals (exact ⟨rfl, rfl⟩)
  skip))
  all_goals (first | (fail_if_success refine goB 2 ?_) | (
  refine goB 2 ?_
  all_goals (refine WC.skip ?_)
  skip))
  all_goals (refine Gn ?_)
  all_goals (refine Gs [(0, _)] ?_)
  all_goals (refine WC.sr ?_)
  all_goals (refine Go ?_)
  all_goals (refine WL.step (ok_nilCheck rfl) rfl rfl rfl ?_)
  all_goals (refine Go ?_)
  all_goals (refine Ld ?_)
  all_goals (refine Go ?_)
  all_goals (refine Gs [(2, _)] ?_)
  all_goals (refine Gt ?_)
  all_goals (exact ⟨rfl, rfl⟩)
set_option maxHeartbeats 2000000 in
set_option maxRecDepth 100000 in
theorem no_feed {h : Heap} {p w : Value} (k : NoSv h p) : CallsH Tryz.prog 8 ⟨[p, w]⟩ h fun u h' => u = In 2 ∧ h' = h := by
  refine calls [(0, _), (1, _)] Tryz.func8 rfl Tryz.ntmps8 rfl ⟨rfl, rfl, trivial⟩ ?_
  all_goals (refine WC.sr ?_)
  all_goals (refine Go ?_)
  all_goals (refine WC.seq ?_)
  all_goals (refine WC.block ?_)
  all_goals (refine WC.sr ?_)
  all_goals (refine Go ?_)
  all_goals (refine WL.call (vs := [_]) rfl (fun a w => Tryz.call22 a w) rfl (no_ready k) rfl rfl rfl ?_
             rintro _ hq ⟨rfl, hz⟩
             replace hz := hz.symm
             subst hz)
  all_goals (refine Go ?_)
  all_goals (refine Gs [(0, _), (1, _), (5, _)] ?_)
  all_goals (refine goC 1 2 ?_ ?_ <;> first | exact ⟨⟩ | refine Hb.mk fun hb => ?_ | skip)
  all_goals (first | (fail_if_success refine goB 1 ?_) | (
  refine goB 1 ?_
  all_goals (refine WC.sr ?_)
  all_goals (refine Go ?_)
  all_goals (refine Gt ?_)
  all_goals (exact ⟨rfl, rfl⟩)
  skip))
  all_goals (first | (fail_if_success refine goB 2 ?_) | (
  refine goB 2 ?_
  all_goals (refine WC.sr ?_)
  all_goals (refine Go ?_)
  all_goals (refine WL.step (ok_nilCheck rfl) rfl rfl rfl ?_)
  all_goals (refine Go ?_)
  all_goals (refine Ld ?_)
  all_goals (refine Go ?_)
  all_goals (refine Gs [(0, _), (1, _), (9, _)] ?_)
  all_goals (refine goC 3 4 ?_ ?_ <;> first | exact ⟨⟩ | refine Hb.mk fun hb => ?_ | skip)
  all_goals (first | (fail_if_success refine goB 3 ?_) | (
  refine goB 3 ?_
  all_goals (refine WC.sr ?_)
  all_goals (refine Go ?_)
  all_goals (refine Gt ?_)
  all_goals (exact ⟨rfl, rfl⟩)
  skip))
  all_goals (first | (fail_if_success refine goB 4 ?_) | (
  refine goB 4 ?_
  all_goals (refine WC.skip ?_)
  skip))
  skip))
  all_goals (refine Gn ?_)
  all_goals (refine WC.sr ?_)
  all_goals (refine Go ?_)
  all_goals (refine WL.step (ok_nilCheck rfl) rfl rfl rfl ?_)
  all_goals (refine Go ?_)
  all_goals (refine Ld ?_)
  all_goals (refine Go ?_)
  all_goals (fail "no contract for call of (*remuda/frame.Framer).Feed at 5.5")
  all_goals (refine Go ?_)
  all_goals (refine Gs [(4, _)] ?_)
  all_goals (refine Gt ?_)
  all_goals (exact ⟨rfl, rfl⟩)
set_option maxHeartbeats 2000000 in
set_option maxRecDepth 100000 in
theorem no_take {h : Heap} {p : Value} (k : NoSv h p) : CallsH Tryz.prog 7 ⟨[p]⟩ h fun u h' => u = .tuple ⟨[.agg ⟨[.int .u8 0, .slice none 0 0]⟩, .bool false]⟩ ∧ Ext No h h' := by
  refine calls [(0, _)] Tryz.func7 rfl Tryz.ntmps7 rfl ⟨rfl, trivial⟩ ?_
  all_goals (refine WC.sr ?_)
  all_goals (refine WL.stepR (okE_alloc (fun w => Tryz.zeroValue38 w)) rfl rfl rfl ?_
             rintro _ h1 ⟨b1, rfl, hg1, hb1, hx1⟩)
  all_goals (refine Go ?_)
  all_goals (refine WC.seq ?_)
  all_goals (refine WC.sr ?_)
  all_goals (refine Go ?_)
  all_goals (refine WL.call (vs := [_]) rfl (fun a w => Tryz.call22 a w) rfl (no_ready (k.ext0 hx1)) rfl rfl rfl ?_
             rintro _ hq ⟨rfl, hz⟩
             replace hz := hz.symm
             subst hz)
  all_goals (refine Go ?_)
  all_goals (refine goP 8 ?_ ?_ <;> first | exact ⟨⟩ | refine Hb.mk fun hb => ?_ | skip)
  all_goals (refine Gg ?_)
  all_goals (first | (refine WL.pass rfl rfl rfl ?_) | (refine WL.step (ok_nilCheck rfl) rfl rfl rfl ?_))
  all_goals (refine Gg ?_)
  all_goals (first | (refine WL.pass rfl rfl rfl ?_) | (refine Ld ?_))
  all_goals (refine Gg ?_)
  all_goals (refine Go ?_)
  all_goals (refine Gs [(0, _), (2, _), (15, _)] ?_)
  all_goals (refine goC 1 2 ?_ ?_ <;> first | exact ⟨⟩ | refine Hb.mk fun hb => ?_ | skip)
  all_goals (first | (fail_if_success refine goB 1 ?_) | (
  refine goB 1 ?_
  all_goals (refine WC.sr ?_)
  all_goals (refine WL.step (ok_buildF (vs := []) (cs := [_, _]) (fun | [] => [(.int .u8 0), (.slice none 0 0)] | _ => []) rfl rfl (by kernel_rfl)) rfl rfl rfl ?_)
  all_goals (refine WL.stepR0 (okE_storeW (fun w => Tryz.sizeOf38 w) rfl rfl rfl hb1 rfl (by simp [Value.oneCell'])) rfl rfl ?_
             rintro _ h2 ⟨hb2, hx2⟩)
  all_goals (refine Go ?_)
  all_goals (refine WC.ret ?_)
  all_goals (repeat' (with_reducible first | refine thenP_r ?_ | refine blockP_r ?_))
  all_goals (refine retP_2 _ _ ⟨⟨_, rfl, ld_blk (fun w => Tryz.isAgg38 w) (fun w => Tryz.sizeOf38 w) (by assumption) rfl⟩, rfl, trivial⟩ ?_)
  all_goals (exact ⟨rfl, hx1.trans' hx2 (fun q hq e => by omega)⟩)
  skip))
  all_goals (first | (fail_if_success refine goB 2 ?_) | (
  refine goB 2 ?_
  all_goals (refine WC.skip ?_)
  skip))
  all_goals (refine Gn ?_)
  all_goals (refine WC.sr ?_)
  all_goals (refine Go ?_)
  all_goals (refine WL.step (ok_nilCheck rfl) rfl rfl rfl ?_)
  all_goals (refine Go ?_)
  all_goals (refine Ld ?_)
  all_goals (refine WL.step (ok_idxAddrA Tryz.underlying25 (fun w => Tryz.sizeOf38 w) rfl rfl rfl (by first | omega | (simp <;> omega)) (by first | rfl | assumption) (k := 0)) rfl rfl rfl ?_)
  all_goals (refine WL.step (ok_loadN (fun w => Tryz.isAgg38 w) (fun w => Tryz.sizeOf38 w) rfl rfl (by assumption)) rfl rfl rfl ?_)
  all_goals (refine WL.stepR (okE_alloc (fun w => Tryz.zeroValue38 w)) rfl rfl rfl ?_
             rintro _ h1 ⟨b1, rfl, hg1, hb1, hx1⟩)
  all_goals (refine WL.stepR0 (okE_storeW (fun w => Tryz.sizeOf38 w) rfl rfl rfl (by assumption) rfl (by simp [Value.oneCell'])) rfl rfl ?_
             rintro _ h1 ⟨hb1, hx1⟩)
  all_goals (refine Gn ?_)
  all_goals (refine Gs [(0, _), (2, _), (4, _)] ?_)
  all_goals (refine WC.sr ?_)
  all_goals (refine Go ?_)
  all_goals (refine WL.step (ok_nilCheck rfl) rfl rfl rfl ?_)
  all_goals (refine Go ?_)
  all_goals (refine Ld ?_)
  all_goals (fail "no contract for call of slices.Delete[remuda/serve.said,remuda/api.Msg] at 4.5")
  all_goals (refine WL.step (ok_nilCheck rfl) rfl rfl rfl ?_)
  all_goals (refine Go ?_)
  all_goals (refine WL.stepR0 (okE_store (fun w => Tryz.sizeOf25 w) rfl rfl (by assumption) (Nat.le_of_ble_eq_true rfl) rfl rfl) rfl rfl ?_
             rintro _ h1 ⟨hb1, hx1⟩)
  all_goals (refine Gn ?_)
  all_goals (refine Gs [(2, _), (4, _)] ?_)
  all_goals (refine WC.sr ?_)
  all_goals (refine WL.step (ok_loadN (fun w => Tryz.isAgg38 w) (fun w => Tryz.sizeOf38 w) rfl rfl (by assumption)) rfl rfl rfl ?_)
  all_goals (refine WL.stepR0 (okE_storeW (fun w => Tryz.sizeOf38 w) rfl rfl rfl (by assumption) rfl (by simp [Value.oneCell'])) rfl rfl ?_
             rintro _ h1 ⟨hb1, hx1⟩)
  all_goals (refine Go ?_)
  all_goals (refine WC.ret ?_)
  all_goals (repeat' (with_reducible first | refine thenP_r ?_ | refine blockP_r ?_))
  all_goals (refine retP_2 _ _ ⟨⟨_, rfl, ld_blk (fun w => Tryz.isAgg38 w) (fun w => Tryz.sizeOf38 w) (by assumption) rfl⟩, rfl, trivial⟩ ?_)
  all_goals (exact ⟨rfl, hx1.trans' hx2 (fun q hq e => by omega)⟩)
abbrev frZ : List Value := [.int .u8 0, .int .u8 0, St [], St [], St [], .slice none 0 0, .slice none 0 0, .slice none 0 0, .slice none 0 0, In 0]
set_option maxHeartbeats 2000000 in
set_option maxRecDepth 100000 in
theorem no_step {h : Heap} {p : Value} (k : NoSv h p) : CallsH Tryz.prog 6 ⟨[p]⟩ h fun u h' => u = .tuple ⟨[.agg ⟨frZ⟩, .bool false]⟩ ∧ Ext No h h' := by
  refine calls [(0, _)] Tryz.func6 rfl Tryz.ntmps6 rfl ⟨rfl, trivial⟩ ?_
  all_goals (refine WC.sr ?_)
  all_goals (refine WL.stepR (okE_alloc (fun w => Tryz.zeroValue34 w)) rfl rfl rfl ?_
             rintro _ h1 ⟨b1, rfl, hg1, hb1, hx1⟩)
  all_goals (refine Go ?_)
  all_goals (refine WC.seq ?_)
  all_goals (refine WC.sr ?_)
  all_goals (refine Go ?_)
  all_goals (refine WL.call (vs := [_]) rfl (fun a w => Tryz.call22 a w) rfl (no_ready (k.ext0 hx1)) rfl rfl rfl ?_
             rintro _ hq ⟨rfl, hz⟩
             replace hz := hz.symm
             subst hz)
  all_goals (refine Go ?_)
  all_goals (refine goP 11 ?_ ?_ <;> first | exact ⟨⟩ | refine Hb.mk fun hb => ?_ | skip)
  all_goals (refine Gg ?_)
  all_goals (first | (refine WL.pass rfl rfl rfl ?_) | (refine WL.step (ok_nilCheck rfl) rfl rfl rfl ?_))
  all_goals (refine Gg ?_)
  all_goals (first | (refine WL.pass rfl rfl rfl ?_) | (refine Ld ?_))
  all_goals (refine Go ?_)
  all_goals (refine Gs [(0, _), (2, _), (16, _)] ?_)
  all_goals (refine goC 1 2 ?_ ?_ <;> first | exact ⟨⟩ | refine Hb.mk fun hb => ?_ | skip)
  all_goals (first | (fail_if_success refine goB 1 ?_) | (
  refine goB 1 ?_
  all_goals (refine WC.sr ?_)
  all_goals (refine WL.step (ok_buildF (vs := []) (cs := [_, _, _, _, _, _, _, _, _, _]) (fun | [] => [(.int .u8 0), (.int .u8 0), (St []), (St []), (St []), (.slice none 0 0), (.slice none 0 0), (.slice none 0 0), (.slice none 0 0), (.int .i64 0)] | _ => []) rfl rfl (by kernel_rfl)) rfl rfl rfl ?_)
  all_goals (refine WL.stepR0 (okE_storeW (fun w => Tryz.sizeOf34 w) rfl rfl rfl hb1 rfl (by simp [Value.oneCell'])) rfl rfl ?_
             rintro _ h2 ⟨hb2, hx2⟩)
  all_goals (refine Go ?_)
  all_goals (refine WC.ret ?_)
  all_goals (repeat' (with_reducible first | refine thenP_r ?_ | refine blockP_r ?_))
  all_goals (refine retP_2 _ _ ⟨⟨_, rfl, ld_blk (fun w => Tryz.isAgg34 w) (fun w => Tryz.sizeOf34 w) (by assumption) rfl⟩, rfl, trivial⟩ ?_)
  all_goals (exact ⟨rfl, hx1.trans' hx2 (fun q hq e => by omega)⟩)
  skip))
  all_goals (first | (fail_if_success refine goB 2 ?_) | (
  refine goB 2 ?_
  all_goals (refine WC.skip ?_)
  skip))
  all_goals (refine Gn ?_)
  all_goals (refine WC.sr ?_)
  all_goals (refine Go ?_)
  all_goals (refine WL.step (ok_nilCheck rfl) rfl rfl rfl ?_)
  all_goals (refine Go ?_)
  all_goals (refine Ld ?_)
  all_goals (fail "no contract for call of (*remuda/frame.Framer).Next at 3.4")
  all_goals (refine Go ?_)
  all_goals (refine WL.stepR (okE_alloc (fun w => Tryz.zeroValue38 w)) rfl rfl rfl ?_
             rintro _ h1 ⟨b1, rfl, hg1, hb1, hx1⟩)
  all_goals (refine WL.stepR0 (okE_storeW (fun w => Tryz.sizeOf38 w) rfl rfl rfl (by assumption) rfl (by simp [Value.oneCell'])) rfl rfl ?_
             rintro _ h1 ⟨hb1, hx1⟩)
  all_goals (refine Go ?_)
  all_goals (refine Gs [(0, _), (2, _), (4, _), (5, _), (6, _)] ?_)
  all_goals (refine WC.seq ?_)
  all_goals (refine WC.block ?_)
  all_goals (refine WC.sr ?_)
  all_goals (refine Go ?_)
  all_goals (refine goC 3 4 ?_ ?_ <;> first | exact ⟨⟩ | refine Hb.mk fun hb => ?_ | skip)
  all_goals (first | (fail_if_success refine goB 4 ?_) | (
  refine goB 4 ?_
  all_goals (refine WC.sr ?_)
  all_goals (refine Go ?_)
  all_goals (refine Gs [(0, _), (2, _), (4, _), (34, _)] ?_)
  all_goals (refine goC 5 6 ?_ ?_ <;> first | exact ⟨⟩ | refine Hb.mk fun hb => ?_ | skip)
  all_goals (first | (fail_if_success refine goB 5 ?_) | (
  refine goB 5 ?_
  all_goals (refine WC.sr ?_)
  all_goals (refine WL.step (ok_buildF (vs := []) (cs := [_, _, _, _, _, _, _, _, _, _]) (fun | [] => [(.int .u8 0), (.int .u8 0), (St []), (St []), (St []), (.slice none 0 0), (.slice none 0 0), (.slice none 0 0), (.slice none 0 0), (.int .i64 0)] | _ => []) rfl rfl (by kernel_rfl)) rfl rfl rfl ?_)
  all_goals (refine WL.stepR0 (okE_storeW (fun w => Tryz.sizeOf34 w) rfl rfl rfl (by assumption) rfl (by simp [Value.oneCell'])) rfl rfl ?_
             rintro _ h1 ⟨hb1, hx1⟩)
  all_goals (refine Go ?_)
  all_goals (refine Gs [(2, _), (3, _)] ?_)
  all_goals (refine WC.ret ?_)
  all_goals (repeat' (with_reducible first | refine thenP_r ?_ | refine blockP_r ?_))
  all_goals (refine retP_2 _ _ ⟨⟨_, rfl, ld_blk (fun w => Tryz.isAgg34 w) (fun w => Tryz.sizeOf34 w) (by assumption) rfl⟩, rfl, trivial⟩ ?_)
  all_goals (exact ⟨rfl, hx1.trans' hx2 (fun q hq e => by omega)⟩)
  skip))
  all_goals (first | (fail_if_success refine goB 6 ?_) | (
  refine goB 6 ?_
  all_goals (refine WC.sr ?_)
  all_goals (refine Go ?_)
  all_goals (refine WL.step (ok_nilCheck rfl) rfl rfl rfl ?_)
  all_goals (refine Go ?_)
  all_goals (refine Ld ?_)
  all_goals (refine Go ?_)
  all_goals (refine Gs [(0, _), (2, _), (4, _), (38, _)] ?_)
  all_goals (refine goC 7 8 ?_ ?_ <;> first | exact ⟨⟩ | refine Hb.mk fun hb => ?_ | skip)
  all_goals (first | (fail_if_success refine goB 8 ?_) | (
  refine goB 8 ?_
  all_goals (refine WC.skip ?_)
  skip))
  skip))
  skip))
  all_goals (refine Gn ?_)
  all_goals (refine WC.sr ?_)
  all_goals (refine WL.step (ok_loadN (fun w => Tryz.isAgg38 w) (fun w => Tryz.sizeOf38 w) rfl rfl (by assumption)) rfl rfl rfl ?_)
  all_goals (fail "no contract for call of remuda/front.Decode at 11.1")
  all_goals (refine Go ?_)
  all_goals (refine WL.stepR (okE_alloc (fun w => Tryz.zeroValue34 w)) rfl rfl rfl ?_
             rintro _ h1 ⟨b1, rfl, hg1, hb1, hx1⟩)
  all_goals (refine WL.stepR0 (okE_storeW (fun w => Tryz.sizeOf34 w) rfl rfl rfl (by assumption) rfl (by simp [Value.oneCell'])) rfl rfl ?_
             rintro _ h1 ⟨hb1, hx1⟩)
  all_goals (refine Go ?_)
  all_goals (refine Gs [(0, _), (2, _), (6, _), (7, _)] ?_)
  all_goals (refine WC.seq ?_)
  all_goals (refine WC.sr ?_)
  all_goals (refine Go ?_)
  all_goals (refine goC 9 10 ?_ ?_ <;> first | exact ⟨⟩ | refine Hb.mk fun hb => ?_ | skip)
  all_goals (first | (fail_if_success refine goB 10 ?_) | (
  refine goB 10 ?_
  all_goals (refine WC.skip ?_)
  skip))
  all_goals (refine Gn ?_)
  all_goals (refine WC.seq ?_)
  all_goals (refine WC.drawE fol (by kernel_rfl) ?_)
  all_goals (refine WQ.stepE (ok_move rfl) rfl rfl rfl ?_)
  all_goals (refine WQ.stepE (ok_move rfl) rfl rfl rfl ?_)
  all_goals (refine WQ.stepE (ok_nilCheck rfl) rfl rfl rfl ?_)
  all_goals (refine WQ.stepE (ok_fieldAddr rfl Tryz.underlying30 rfl (fun w => Tryz.sizeOf27 w)) rfl rfl rfl ?_)
  all_goals (refine WQ.stepE (ok_load (fun w => Tryz.isAgg27 w) rfl (by first | assumption | exact cell_blk (by assumption) rfl)) rfl rfl rfl ?_)
  all_goals (refine WQ.stepE (ok_loadN (fun w => Tryz.isAgg34 w) (fun w => Tryz.sizeOf34 w) rfl rfl (by assumption)) rfl rfl rfl ?_)
  all_goals (fail "no contract for call of (*remuda/sess.Session).Do at 14.6")
  all_goals (fail "no contract for call of (*remuda/serve.Server).say at 14.7")
  all_goals (refine WQ.nil ?_)
  all_goals (refine Gn ?_)
  all_goals (refine Gs [(0, _), (2, _), (7, _)] ?_)
  all_goals (refine WC.sr ?_)
  all_goals (refine Go ?_)
  all_goals (refine WL.step (ok_nilCheck rfl) rfl rfl rfl ?_)
  all_goals (refine Go ?_)
  all_goals (refine Ld ?_)
  all_goals (fail "no contract for call of (*remuda/sess.Session).Over at 15.5")
  all_goals (refine WL.step (ok_nilCheck rfl) rfl rfl rfl ?_)
  all_goals (refine Go ?_)
  all_goals (refine WL.stepR0 (okE_store (fun w => Tryz.sizeOf4 w) rfl rfl (by assumption) (Nat.le_of_ble_eq_true rfl) rfl rfl) rfl rfl ?_
             rintro _ h1 ⟨hb1, hx1⟩)
  all_goals (refine Gn ?_)
  all_goals (refine Gs [(2, _), (7, _)] ?_)
  all_goals (refine WC.sr ?_)
  all_goals (refine WL.step (ok_loadN (fun w => Tryz.isAgg34 w) (fun w => Tryz.sizeOf34 w) rfl rfl (by assumption)) rfl rfl rfl ?_)
  all_goals (refine WL.stepR0 (okE_storeW (fun w => Tryz.sizeOf34 w) rfl rfl rfl (by assumption) rfl (by simp [Value.oneCell'])) rfl rfl ?_
             rintro _ h1 ⟨hb1, hx1⟩)
  all_goals (refine Go ?_)
  all_goals (refine WC.ret ?_)
  all_goals (repeat' (with_reducible first | refine thenP_r ?_ | refine blockP_r ?_))
  all_goals (refine retP_2 _ _ ⟨⟨_, rfl, ld_blk (fun w => Tryz.isAgg34 w) (fun w => Tryz.sizeOf34 w) (by assumption) rfl⟩, rfl, trivial⟩ ?_)
  all_goals (exact ⟨rfl, hx1.trans' hx2 (fun q hq e => by omega)⟩)
end Go.Proofs.YtdjjpbbhcidaaaaGreatDoor


/-
  A SERVER (layer 31), by the code: New, Feed, Take, Over.
-/
namespace Go.Proofs.YtdjjpbbhcidaaaaGreatDoor
open Go Go.RK

set_option maxHeartbeats 2000000 in
set_option maxRecDepth 100000 in
theorem clone_nilp {h : Heap} : CallsH Tryz.prog 68 ⟨[.slice none 0 0]⟩ h fun u h' => u = .slice none 0 0 ∧ h' = h := by
  refine calls [(0, _)] Tryz.func68 rfl Tryz.ntmps68 rfl ⟨rfl, trivial⟩ ?_
  all_goals (refine WC.sr ?_)
  all_goals (refine Go ?_)
  all_goals (refine WC.seq ?_)
  all_goals (refine WC.sr ?_)
  all_goals (refine Go ?_)
  all_goals (refine WL.step (ok_eqlSn Tryz.underlying28 rfl rfl) rfl rfl rfl ?_)
  all_goals (refine Gn ?_)
  all_goals (refine goC 1 2 ?_ ?_ <;> first | exact ⟨⟩ | refine Hb.mk fun hb => ?_ | skip)
  all_goals (first | (fail_if_success refine goB 1 ?_) | (
  refine goB 1 ?_
  all_goals (refine WC.sr ?_)
  all_goals (refine Go ?_)
  all_goals (refine Gt ?_)
  all_goals (exact ⟨rfl, rfl⟩)
  skip))
  all_goals (first | (fail_if_success refine goB 2 ?_) | (
  refine goB 2 ?_
  all_goals (refine WC.skip ?_)
  skip))
  all_goals (refine Gn ?_)
  all_goals (refine WC.sr ?_)
  all_goals (refine WL.stepR (okE_buildSlice (vs := []) (cs := []) (fun _ => []) Tryz.underlying28 rfl rfl (by kernel_rfl)) rfl rfl rfl ?_
             rintro _ h1 ⟨b1, rfl, hg1, hb1, hx1⟩)
  all_goals (refine Go ?_)
  all_goals (refine WL.stepR (ok_append (sz := 2) (bytes := 32) rfl Tryz.underlying28 (show Tryz.prog.info? 125 = some Tryz.t125 by kernel_rfl) rfl rfl rfl rfl (by decide) rfl rfl (by assumption) (by first | assumption | exact rd_blk (by assumption) rfl) (by simp [Value.oneCell']) (by simp only [maxLen]; omega) (by omega)) rfl rfl rfl ?_
             rintro v1 h1 ⟨ho1, hx1, hl1⟩)
  all_goals (refine Go ?_)
  all_goals (refine Gs [(2, _)] ?_)
  all_goals (refine Gt ?_)
  all_goals (exact ⟨rfl, rfl⟩)
set_option maxHeartbeats 2000000 in
set_option maxRecDepth 100000 in
theorem new_sv {h : Heap} {e : Option Addr} : CallsH Tryz.prog 32 ⟨[.pointer e, .slice none 0 0, In 0]⟩ h fun u h' => ∃ b fb s, u = .pointer (some ⟨b, 0, none⟩) ∧ h'[b]? = some (.cells ⟨svC (.slice none 0 0) (.pointer (some ⟨fb, 0, none⟩)) s (.slice none 0 0) (In 0) false false⟩ 30 (0, 0)) ∧ Fw h' fb false (.slice none 0 0) [] ∧ h.size ≤ b ∧ h.size ≤ fb ∧ Ext No h h' := by
  refine calls [(0, _), (1, _), (2, _)] Tryz.func32 rfl Tryz.ntmps32 rfl ⟨rfl, rfl, rfl, trivial⟩ ?_
  all_goals (refine WC.sr ?_)
  all_goals (refine Go ?_)
  all_goals (refine WC.sr ?_)
  all_goals (refine WL.call (vs := [_, _, _]) rfl (fun a w => Tryz.call66 a w) rfl (new_fw) rfl rfl rfl ?_
             rintro _ h1 ⟨fb, rfl, kf, hgf, hx1⟩)
  all_goals (refine Go ?_)
  all_goals (refine Gs [(0, _), (1, _), (2, _), (7, _), (8, _)] ?_)
  all_goals (refine WC.seq ?_)
  all_goals (refine WC.sr ?_)
  all_goals (refine Go ?_)
  all_goals (refine goC 1 2 ?_ ?_ <;> first | exact ⟨⟩ | refine Hb.mk fun hb => ?_ | skip)
  all_goals (first | (fail_if_success refine goB 1 ?_) | (
  refine goB 1 ?_
  all_goals (refine WC.sr ?_)
  all_goals (refine Go ?_)
  all_goals (refine Gs [(6, _)] ?_)
  all_goals (refine Gt ?_)
  all_goals (exact ⟨b, fb, _, rfl, hb3, (kf.ext0 hx2).ext0 hx3, by have := hx1.size; have := hx2.size; omega, hgf, (hx1.trans hx2).trans hx3⟩)
  skip))
  all_goals (first | (fail_if_success refine goB 2 ?_) | (
  refine goB 2 ?_
  all_goals (refine WC.skip ?_)
  skip))
  all_goals (refine Gn ?_)
  all_goals (refine WC.sr ?_)
  all_goals (refine Go ?_)
  all_goals (refine WL.call (vs := [_]) rfl (fun a w => Tryz.call67 a w) rfl (new_sess e) rfl rfl rfl ?_
             rintro _ h2 ⟨bs, ms, bp, mp, rfl, _, _, _, _, _, _, _, _, hx2⟩)
  all_goals (refine Go ?_)
  all_goals (refine WL.call (vs := [_]) rfl (fun a w => Tryz.call68 a w) rfl (clone_nilp) rfl rfl rfl ?_
             rintro _ hz ⟨rfl, _⟩
             subst hz)
  all_goals (refine Go ?_)
  all_goals (refine WL.step (ok_buildF (vs := [_, _, _, _]) (cs := [_, _, _, _, _, _, _]) (fun | [a1, a2, a3, a4] => [(.slice none 0 0), a1, a2, a3, a4, (.bool false), (.bool false)] | _ => []) rfl rfl (by kernel_rfl)) rfl rfl rfl ?_)
  all_goals (refine WL.stepR (okE_box rfl) rfl rfl rfl ?_
             rintro _ h3 ⟨b, rfl, hg3, hb3, hx3⟩)
  all_goals (refine Go ?_)
  all_goals (refine Gs [(6, _)] ?_)
  all_goals (refine Gt ?_)
  all_goals (exact ⟨b, fb, _, rfl, hb3, (kf.ext0 hx2).ext0 hx3, by have := hx1.size; have := hx2.size; omega, hgf, (hx1.trans hx2).trans hx3⟩)
set_option maxHeartbeats 2000000 in
set_option maxRecDepth 100000 in
theorem sv_over {h : Heap} {b fb : Nat} {w s p i : Value} {bg : Bool} (hb : h[b]? = some (.cells ⟨svC w (.pointer (some ⟨fb, 0, none⟩)) s p i bg false⟩ 30 (0, 0))) : CallsH Tryz.prog 9 ⟨[.pointer (some ⟨b, 0, none⟩)]⟩ h fun u h' => u = .bool false ∧ h' = h := by
  have kr := sv_ready hb
  refine calls [(0, _)] Tryz.func9 rfl Tryz.ntmps9 rfl ⟨rfl, trivial⟩ ?_
  all_goals (refine WC.sr ?_)
  all_goals (refine Go ?_)
  all_goals (refine WC.sr ?_)
  all_goals (refine Go ?_)
  all_goals (refine WL.call (vs := [_]) rfl (fun a w => Tryz.call22 a w) rfl (kr) rfl rfl rfl ?_
             rintro _ hq ⟨rfl, hz⟩
             replace hz := hz.symm
             subst hz)
  all_goals (refine Go ?_)
  all_goals (refine goP 5 ?_ ?_ <;> first | exact ⟨⟩ | refine Hb.mk fun hb => ?_ | skip)
  all_goals (refine Gg ?_)
  all_goals (first | (refine WL.pass rfl rfl rfl ?_) | (refine WL.step (ok_nilCheck rfl) rfl rfl rfl ?_))
  all_goals (refine Gg ?_)
  all_goals (first | (refine WL.pass rfl rfl rfl ?_) | (refine WL.ld rfl (by first | exact cell_blk hb rfl | assumption | exact cell_blk (by assumption) rfl) rfl rfl rfl ?_))
  all_goals (refine Go ?_)
  all_goals (refine Gs [(2, _)] ?_)
  all_goals (refine Gt ?_)
  all_goals (exact ⟨rfl, rfl⟩)
set_option maxHeartbeats 2000000 in
set_option maxRecDepth 100000 in
theorem sv_feed {h : Heap} {b fb : Nat} {w s p i v x : Value} {bg ty : Bool} {l m : List UInt8} (hb : h[b]? = some (.cells ⟨svC w (.pointer (some ⟨fb, 0, none⟩)) s p i bg false⟩ 30 (0, 0))) (kf : Fw h fb ty v l) (hr : Rd h x 1 m.length (bys m)) (hl : l.length + m.length ≤ 262144) :
    CallsH Tryz.prog 8 ⟨[.pointer (some ⟨b, 0, none⟩), x]⟩ h fun u h' => u = In 0 ∧ ∃ v', Fw h' fb ty v' (l ++ m) ∧ Ext (fun q => q = fb ∨ v.ownBlock = some q) h h' ∧ ∀ q, v'.ownBlock = some q → v.ownBlock = some q ∨ h.size ≤ q := by
  have kr := sv_ready hb
  obtain ⟨A, c, rfl, _⟩ := id hr
  refine calls [(0, _), (1, _)] Tryz.func8 rfl Tryz.ntmps8 rfl ⟨rfl, rfl, trivial⟩ ?_
  all_goals (refine WC.sr ?_)
  all_goals (refine Go ?_)
  all_goals (refine WC.seq ?_)
  all_goals (refine WC.block ?_)
  all_goals (refine WC.sr ?_)
  all_goals (refine Go ?_)
  all_goals (refine WL.call (vs := [_]) rfl (fun a w => Tryz.call22 a w) rfl (kr) rfl rfl rfl ?_
             rintro _ hq ⟨rfl, hz⟩
             replace hz := hz.symm
             subst hz)
  all_goals (refine Go ?_)
  all_goals (refine Gs [(0, _), (1, _), (5, _)] ?_)
  all_goals (refine goC 1 2 ?_ ?_ <;> first | exact ⟨⟩ | refine Hb.mk fun hb => ?_ | skip)
  all_goals (first | (fail_if_success refine goB 1 ?_) | (
  refine goB 1 ?_
  all_goals (refine WC.sr ?_)
  all_goals (refine Go ?_)
  all_goals (refine Gt ?_)
  all_goals (exact ⟨rfl, v2, kf2, hx2, hf2⟩)
  skip))
  all_goals (first | (fail_if_success refine goB 2 ?_) | (
  refine goB 2 ?_
  all_goals (refine WC.sr ?_)
  all_goals (refine Go ?_)
  all_goals (refine WL.step (ok_nilCheck rfl) rfl rfl rfl ?_)
  all_goals (refine Go ?_)
  all_goals (refine WL.ld rfl (by first | exact cell_blk hb rfl | assumption | exact cell_blk (by assumption) rfl) rfl rfl rfl ?_)
  all_goals (refine Go ?_)
  all_goals (refine Gs [(0, _), (1, _), (9, _)] ?_)
  all_goals (refine goC 3 4 ?_ ?_ <;> first | exact ⟨⟩ | refine Hb.mk fun hb => ?_ | skip)
  all_goals (first | (fail_if_success refine goB 3 ?_) | (
  refine goB 3 ?_
  all_goals (refine WC.sr ?_)
  all_goals (refine Go ?_)
  all_goals (refine Gt ?_)
  all_goals (exact ⟨rfl, v2, kf2, hx2, hf2⟩)
  skip))
  all_goals (first | (fail_if_success refine goB 4 ?_) | (
  refine goB 4 ?_
  all_goals (refine WC.skip ?_)
  skip))
  skip))
  all_goals (refine Gn ?_)
  all_goals (refine WC.sr ?_)
  all_goals (refine Go ?_)
  all_goals (refine WL.step (ok_nilCheck rfl) rfl rfl rfl ?_)
  all_goals (refine Go ?_)
  all_goals (refine WL.ld rfl (by first | exact cell_blk hb rfl | assumption | exact cell_blk (by assumption) rfl) rfl rfl rfl ?_)
  all_goals (refine Go ?_)
  all_goals (refine WL.call (vs := [_, _]) rfl (fun a w => Tryz.call31 a w) rfl (fw_feed kf m hr hl) rfl rfl rfl ?_
             rintro _ h2 ⟨rfl, v2, kf2, hx2, hf2⟩)
  all_goals (refine Go ?_)
  all_goals (refine Gs [(4, _)] ?_)
  all_goals (refine Gt ?_)
  all_goals (exact ⟨rfl, v2, kf2, hx2, hf2⟩)
set_option maxHeartbeats 2000000 in
set_option maxRecDepth 100000 in
theorem sv_take {h : Heap} {b fb n : Nat} {w s p i v : Value} {k : Int} {bg : Bool} {xs : List Value} (hb : h[b]? = some (.cells ⟨svC w (.pointer (some ⟨fb, 0, none⟩)) s p i bg false⟩ 30 (0, 0))) (ho : Own h w 38 2 (n + 1) (.int .u8 k :: v :: xs)) (hv : v.oneCell' = true) (hone : ∀ v ∈ xs, v.oneCell' = true) (hm : n ≤ 900) :
    CallsH Tryz.prog 7 ⟨[.pointer (some ⟨b, 0, none⟩)]⟩ h fun u h' => u = .tuple ⟨[.agg ⟨[.int .u8 k, v]⟩, .bool true]⟩ ∧ ∃ w', h'[b]? = some (.cells ⟨svC w' (.pointer (some ⟨fb, 0, none⟩)) s p i bg false⟩ 30 (0, 0)) ∧ Own h' w' 38 2 n xs ∧ Ext (fun q => q = b ∨ w.ownBlock = some q) h h' ∧ w'.ownBlock = w.ownBlock := by
  have kr := fun (g : Heap) (hb : g[b]? = some (.cells ⟨svC w (.pointer (some ⟨fb, 0, none⟩)) s p i bg false⟩ 30 (0, 0))) => sv_ready hb
  obtain ⟨A, c, rfl, _⟩ := id ho.slice
  have nW : (Value.slice A (n + 1) c).ownBlock ≠ some b := own_ne ho hb (by decide)
  have hlt : ∀ q, (Value.slice A (n + 1) c).ownBlock = some q → q < h.size := fun q hq => ho.lt hq
  have lb := lt_of_some hb
  have hone' : ∀ x ∈ .int .u8 k :: v :: xs, x.oneCell' = true := fun x hx => by
    simp only [List.mem_cons] at hx
    rcases hx with rfl | rfl | hx
    · rfl
    · exact hv
    · exact hone x hx
  refine calls [(0, _)] Tryz.func7 rfl Tryz.ntmps7 rfl ⟨rfl, trivial⟩ ?_
  all_goals (refine WC.sr ?_)
  all_goals (refine WL.stepR (okE_alloc (fun w => Tryz.zeroValue38 w)) rfl rfl rfl ?_
             rintro _ h1 ⟨b1, rfl, hg1, hb1, hx1⟩
             have hs1 := hx1.obj hb nos
             have ho1 := ho.ext hx1 (fun _ _ => nos))
  all_goals (refine Go ?_)
  all_goals (refine WC.seq ?_)
  all_goals (refine WC.sr ?_)
  all_goals (refine Go ?_)
  all_goals (refine WL.call (vs := [_]) rfl (fun a w => Tryz.call22 a w) rfl (kr _ hs1) rfl rfl rfl ?_
             rintro _ hq ⟨rfl, hz⟩
             replace hz := hz.symm
             subst hz)
  all_goals (refine Go ?_)
  all_goals (refine goP 8 ?_ ?_ <;> first | exact ⟨⟩ | refine Hb.mk fun hb => ?_ | skip)
  all_goals (refine Gg ?_)
  all_goals (first | (refine WL.pass rfl rfl rfl ?_) | (refine WL.step (ok_nilCheck rfl) rfl rfl rfl ?_))
  all_goals (refine Gg ?_)
  all_goals (first | (refine WL.pass rfl rfl rfl ?_) | (refine WL.ld rfl (by first | exact cell_blk hs1 rfl | assumption | exact cell_blk (by assumption) rfl) rfl rfl rfl ?_))
  all_goals (refine Gg ?_)
  all_goals (refine Go ?_)
  all_goals (refine Gs [(0, _), (2, _), (15, _)] ?_)
  all_goals (refine goC 1 2 ?_ ?_ <;> first | exact ⟨⟩ | refine Hb.mk fun hb => ?_ | skip)
  all_goals (first | (fail_if_success refine goB 1 ?_) | (
  refine goB 1 ?_
  all_goals (refine WC.sr ?_)
  all_goals (refine WL.step (ok_buildF (vs := []) (cs := [_, _]) (fun | [] => [(.int .u8 0), (.slice none 0 0)] | _ => []) rfl rfl (by kernel_rfl)) rfl rfl rfl ?_)
  all_goals (refine WL.stepR0 (okE_storeW (fun w => Tryz.sizeOf38 w) rfl rfl rfl (by assumption) rfl (by simp [Value.oneCell'])) rfl rfl ?_
             rintro _ h1 ⟨hb1, hx1⟩)
  all_goals (refine Go ?_)
  all_goals (refine WC.ret ?_)
  all_goals (repeat' (with_reducible first | refine thenP_r ?_ | refine blockP_r ?_))
  all_goals (refine retP_2 _ _ ⟨⟨_, rfl, ld_blk (fun w => Tryz.isAgg38 w) (fun w => Tryz.sizeOf38 w) (by assumption) rfl⟩, rfl, trivial⟩ ?_)
  all_goals (exact ⟨rfl, _, hx6.obj hb5 (fun e => by omega), ho5.ext hx6 (fun q hq e => by rw [hf4] at hq; have := hlt q hq; omega), X5.trans' hx6 (fun q hq e => by omega), hf4⟩)
  skip))
  all_goals (first | (fail_if_success refine goB 2 ?_) | (
  refine goB 2 ?_
  all_goals (refine WC.skip ?_)
  skip))
  all_goals (refine Gn ?_)
  all_goals (refine WC.sr ?_)
  all_goals (refine Go ?_)
  all_goals (refine WL.step (ok_nilCheck rfl) rfl rfl rfl ?_)
  all_goals (refine Go ?_)
  all_goals (refine WL.ld rfl (by first | exact cell_blk hs1 rfl | assumption | exact cell_blk (by assumption) rfl) rfl rfl rfl ?_)
  all_goals (obtain ⟨bb, o, rfl, _, hat⟩ := Rd.at_ ho1.rd (by omega))
  all_goals (refine WL.step (ok_idxAddrA Tryz.underlying25 (fun w => Tryz.sizeOf38 w) rfl rfl rfl (by first | omega | (simp <;> omega)) (by first | rfl | assumption) (k := 0)) rfl rfl rfl ?_)
  all_goals (refine WL.step (ok_loadN (fun w => Tryz.isAgg38 w) (fun w => Tryz.sizeOf38 w) rfl rfl (by exact At.pre (xs := [_, _]) (ys := _) (by simpa using hat))) rfl rfl rfl ?_)
  all_goals (refine WL.stepR (okE_alloc (fun w => Tryz.zeroValue38 w)) rfl rfl rfl ?_
             rintro _ h2 ⟨b2, rfl, hg2, hb2, hx2⟩)
  all_goals (refine WL.stepR0 (okE_storeW (fun w => Tryz.sizeOf38 w) rfl rfl rfl hb2 rfl (fun x hx => hone' x (by simp only [List.mem_cons, List.not_mem_nil, or_false] at hx ⊢; rcases hx with rfl | rfl <;> simp))) rfl rfl ?_
             rintro _ h3 ⟨hb3, hx3⟩
             have X3 : Ext No h h3 := (hx1.trans hx2).trans' hx3 (fun q hq e => by have := hx1.size; omega)
             have hs3 := X3.obj hb nos
             have ho3 := ho.ext X3 (fun _ _ => nos)
             have hb13 := hx3.obj (hx2.obj hb1 nos) (fun e => by have := lt_of_some hb1; omega))
  all_goals (refine Gn ?_)
  all_goals (refine Gs [(0, _), (2, _), (4, _)] ?_)
  all_goals (refine WC.sr ?_)
  all_goals (refine Go ?_)
  all_goals (refine WL.step (ok_nilCheck rfl) rfl rfl rfl ?_)
  all_goals (refine Go ?_)
  all_goals (refine Ld ?_)
  all_goals (refine WL.call (vs := [_, _, _]) rfl (fun a w => Tryz.call30 a w) rfl (delete_msg ho3 (by omega) hone' (by omega)) rfl rfl rfl ?_
             rintro v4 h4 ⟨ho4, hx4, hf4⟩
             obtain ⟨A4, c4, rfl, _⟩ := id ho4.slice
             have hs4 := hx4.obj hs3 nW
             have hb14 := hx4.obj hb13 (fun e => by have := hlt _ e; omega)
             have hb24 := hx4.obj hb3 (fun e => by have := hlt _ e; have := hx1.size; omega))
  all_goals (refine WL.step (ok_nilCheck rfl) rfl rfl rfl ?_)
  all_goals (refine Go ?_)
  all_goals (refine WL.stepR0 (okE_store (fun w => Tryz.sizeOf25 w) rfl rfl hs4 (Nat.le_of_ble_eq_true rfl) rfl rfl) rfl rfl ?_
             rintro _ h5 ⟨hb5, hx5⟩
             have X5 : Ext (fun q => q = b ∨ (Value.slice (some ⟨bb, o, none⟩) (n + 1) c).ownBlock = some q) h h5 := (X3.mono fun _ _ e => e.elim).trans ((hx4.mono fun _ _ e => .inr e).trans (hx5.mono fun _ _ e => .inl e))
             have ho5 := ho4.ext hx5 (fun q hq e => own_ne ho4 hs4 (by decide) (e ▸ hq))
             have hb15 := hx5.obj hb14 (fun e => by omega)
             have hb25 := hx5.obj hb24 (fun e => by have := hx1.size; omega))
  all_goals (refine Gn ?_)
  all_goals (refine Gs [(2, _), (4, _)] ?_)
  all_goals (refine WC.sr ?_)
  all_goals (refine WL.step (ok_loadN (fun w => Tryz.isAgg38 w) (fun w => Tryz.sizeOf38 w) rfl rfl (by exact At.of_block hb25)) rfl rfl rfl ?_)
  all_goals (refine WL.stepR0 (okE_storeW (fun w => Tryz.sizeOf38 w) rfl rfl rfl hb15 rfl (fun x hx => hone' x (by simp only [List.mem_cons, List.not_mem_nil, or_false] at hx ⊢; rcases hx with rfl | rfl <;> simp))) rfl rfl ?_
             rintro _ h6 ⟨hb6, hx6⟩)
  all_goals (refine Go ?_)
  all_goals (refine WC.ret ?_)
  all_goals (repeat' (with_reducible first | refine thenP_r ?_ | refine blockP_r ?_))
  all_goals (refine retP_2 _ _ ⟨⟨_, rfl, ld_blk (fun w => Tryz.isAgg38 w) (fun w => Tryz.sizeOf38 w) (by assumption) rfl⟩, rfl, trivial⟩ ?_)
  all_goals (exact ⟨rfl, _, hx6.obj hb5 (fun e => by omega), ho5.ext hx6 (fun q hq e => by rw [hf4] at hq; have := hlt q hq; omega), X5.trans' hx6 (fun q hq e => by omega), hf4⟩)
set_option maxHeartbeats 2000000 in
set_option maxRecDepth 100000 in
theorem sv_empty {h : Heap} {b fb c : Nat} {A : Option Addr} {s p i : Value} {bg : Bool} (hb : h[b]? = some (.cells ⟨svC (.slice A 0 c) (.pointer (some ⟨fb, 0, none⟩)) s p i bg false⟩ 30 (0, 0))) :
    CallsH Tryz.prog 7 ⟨[.pointer (some ⟨b, 0, none⟩)]⟩ h fun u h' => u = .tuple ⟨[.agg ⟨[.int .u8 0, .slice none 0 0]⟩, .bool false]⟩ ∧ Ext No h h' := by
  have kr := fun (g : Heap) (hb : g[b]? = some (.cells ⟨svC (.slice A 0 c) (.pointer (some ⟨fb, 0, none⟩)) s p i bg false⟩ 30 (0, 0))) => sv_ready hb
  refine calls [(0, _)] Tryz.func7 rfl Tryz.ntmps7 rfl ⟨rfl, trivial⟩ ?_
  all_goals (refine WC.sr ?_)
  all_goals (refine WL.stepR (okE_alloc (fun w => Tryz.zeroValue38 w)) rfl rfl rfl ?_
             rintro _ h1 ⟨b1, rfl, hg1, hb1, hx1⟩
             have hs1 := hx1.obj hb nos)
  all_goals (refine Go ?_)
  all_goals (refine WC.seq ?_)
  all_goals (refine WC.sr ?_)
  all_goals (refine Go ?_)
  all_goals (refine WL.call (vs := [_]) rfl (fun a w => Tryz.call22 a w) rfl (kr _ hs1) rfl rfl rfl ?_
             rintro _ hq ⟨rfl, hz⟩
             replace hz := hz.symm
             subst hz)
  all_goals (refine Go ?_)
  all_goals (refine goP 8 ?_ ?_ <;> first | exact ⟨⟩ | refine Hb.mk fun hb => ?_ | skip)
  all_goals (refine Gg ?_)
  all_goals (first | (refine WL.pass rfl rfl rfl ?_) | (refine WL.step (ok_nilCheck rfl) rfl rfl rfl ?_))
  all_goals (refine Gg ?_)
  all_goals (first | (refine WL.pass rfl rfl rfl ?_) | (refine WL.ld rfl (by first | exact cell_blk hs1 rfl | assumption | exact cell_blk (by assumption) rfl) rfl rfl rfl ?_))
  all_goals (refine Gg ?_)
  all_goals (refine Go ?_)
  all_goals (refine Gs [(0, _), (2, _), (15, _)] ?_)
  all_goals (refine goC 1 2 ?_ ?_ <;> first | exact ⟨⟩ | refine Hb.mk fun hb => ?_ | skip)
  all_goals (first | (fail_if_success refine goB 1 ?_) | (
  refine goB 1 ?_
  all_goals (refine WC.sr ?_)
  all_goals (refine WL.step (ok_buildF (vs := []) (cs := [_, _]) (fun | [] => [(.int .u8 0), (.slice none 0 0)] | _ => []) rfl rfl (by kernel_rfl)) rfl rfl rfl ?_)
  all_goals (refine WL.stepR0 (okE_storeW (fun w => Tryz.sizeOf38 w) rfl rfl rfl hb1 rfl (by simp [Value.oneCell'])) rfl rfl ?_
             rintro _ h2 ⟨hb2, hx2⟩)
  all_goals (refine Go ?_)
  all_goals (refine WC.ret ?_)
  all_goals (repeat' (with_reducible first | refine thenP_r ?_ | refine blockP_r ?_))
  all_goals (refine retP_2 _ _ ⟨⟨_, rfl, ld_blk (fun w => Tryz.isAgg38 w) (fun w => Tryz.sizeOf38 w) (by assumption) rfl⟩, rfl, trivial⟩ ?_)
  all_goals (exact ⟨rfl, hx1.trans' hx2 (fun q hq e => by omega)⟩)
  skip))
  all_goals (first | (fail_if_success refine goB 2 ?_) | (
  refine goB 2 ?_
  all_goals (refine WC.skip ?_)
  skip))
  all_goals (refine Gn ?_)
  all_goals (refine WC.sr ?_)
  all_goals (refine Go ?_)
  all_goals (refine WL.step (ok_nilCheck rfl) rfl rfl rfl ?_)
  all_goals (refine Go ?_)
  all_goals (refine Ld ?_)
  all_goals (refine WL.step (ok_idxAddrA Tryz.underlying25 (fun w => Tryz.sizeOf38 w) rfl rfl rfl (by first | omega | (simp <;> omega)) (by first | rfl | assumption) (k := 0)) rfl rfl rfl ?_)
  all_goals (refine WL.step (ok_loadN (fun w => Tryz.isAgg38 w) (fun w => Tryz.sizeOf38 w) rfl rfl (by assumption)) rfl rfl rfl ?_)
  all_goals (refine WL.stepR (okE_alloc (fun w => Tryz.zeroValue38 w)) rfl rfl rfl ?_
             rintro _ h1 ⟨b1, rfl, hg1, hb1, hx1⟩)
  all_goals (refine WL.stepR0 (okE_storeW (fun w => Tryz.sizeOf38 w) rfl rfl rfl (by assumption) rfl (by simp [Value.oneCell'])) rfl rfl ?_
             rintro _ h1 ⟨hb1, hx1⟩)
  all_goals (refine Gn ?_)
  all_goals (refine Gs [(0, _), (2, _), (4, _)] ?_)
  all_goals (refine WC.sr ?_)
  all_goals (refine Go ?_)
  all_goals (refine WL.step (ok_nilCheck rfl) rfl rfl rfl ?_)
  all_goals (refine Go ?_)
  all_goals (refine Ld ?_)
  all_goals (fail "no contract for call of slices.Delete[remuda/serve.said,remuda/api.Msg] at 4.5")
  all_goals (refine WL.step (ok_nilCheck rfl) rfl rfl rfl ?_)
  all_goals (refine Go ?_)
  all_goals (refine WL.stepR0 (okE_store (fun w => Tryz.sizeOf25 w) rfl rfl (by assumption) (Nat.le_of_ble_eq_true rfl) rfl rfl) rfl rfl ?_
             rintro _ h1 ⟨hb1, hx1⟩)
  all_goals (refine Gn ?_)
  all_goals (refine Gs [(2, _), (4, _)] ?_)
  all_goals (refine WC.sr ?_)
  all_goals (refine WL.step (ok_loadN (fun w => Tryz.isAgg38 w) (fun w => Tryz.sizeOf38 w) rfl rfl (by assumption)) rfl rfl rfl ?_)
  all_goals (refine WL.stepR0 (okE_storeW (fun w => Tryz.sizeOf38 w) rfl rfl rfl (by assumption) rfl (by simp [Value.oneCell'])) rfl rfl ?_
             rintro _ h1 ⟨hb1, hx1⟩)
  all_goals (refine Go ?_)
  all_goals (refine WC.ret ?_)
  all_goals (repeat' (with_reducible first | refine thenP_r ?_ | refine blockP_r ?_))
  all_goals (refine retP_2 _ _ ⟨⟨_, rfl, ld_blk (fun w => Tryz.isAgg38 w) (fun w => Tryz.sizeOf38 w) (by assumption) rfl⟩, rfl, trivial⟩ ?_)
  all_goals (exact ⟨rfl, hx1.trans' hx2 (fun q hq e => by omega)⟩)
end Go.Proofs.YtdjjpbbhcidaaaaGreatDoor


/-
  A SERVER (layer 31), by the code: the first Step; the law's awake.
-/
namespace Go.Proofs.YtdjjpbbhcidaaaaGreatDoor
open Go Go.RK

set_option maxHeartbeats 2000000 in
set_option maxRecDepth 100000 in
theorem sv_first {h : Heap} {b fb : Nat} {s v : Value} (hb : h[b]? = some (.cells ⟨svC (.slice none 0 0) (.pointer (some ⟨fb, 0, none⟩)) s (.slice none 0 0) (In 0) false false⟩ 30 (0, 0))) (kf : Fw h fb false v helloL) :
    CallsH Tryz.prog 6 ⟨[.pointer (some ⟨b, 0, none⟩)]⟩ h fun u h' => u = .tuple ⟨[.agg ⟨frZ⟩, .bool false]⟩ ∧ ∃ w v1 v2 v3 v', h'[b]? = some (.cells ⟨svC w (.pointer (some ⟨fb, 0, none⟩)) s (.slice none 0 0) (In 0) true false⟩ 30 (0, 0)) ∧ Own h' w 38 2 3 [.int .u8 82, v1, .int .u8 75, v2, .int .u8 90, v3] ∧ Fw h' fb true v' [] ∧ Ext (fun q => q = b ∨ q = fb ∨ v.ownBlock = some q) h h' ∧ (∀ q, w.ownBlock = some q → h.size ≤ q) ∧ v1.oneCell' = true ∧ v2.oneCell' = true ∧ v3.oneCell' = true := by
  have kr := fun (g : Heap) (hb : g[b]? = some (.cells ⟨svC (.slice none 0 0) (.pointer (some ⟨fb, 0, none⟩)) s (.slice none 0 0) (In 0) false false⟩ 30 (0, 0))) => sv_ready hb
  have kn := fun (g : Heap) (k : Fw g fb false v helloL) => fw_next k 0 16 rfl (by decide) (by decide) (by decide) (by decide)
  have lb := lt_of_some hb
  have lf := lt_of_some kf.blk
  have nbf : b ≠ fb := fun e => by have := kf.blk; rw [← e, hb] at this; simp at this
  have hlt : ∀ q, v.ownBlock = some q → q < h.size := fun q hq => kf.own.lt hq
  have nvb : v.ownBlock ≠ some b := own_ne kf.own hb (by decide)
  refine calls [(0, _)] Tryz.func6 rfl Tryz.ntmps6 rfl ⟨rfl, trivial⟩ ?_
  all_goals (refine WC.sr ?_)
  all_goals (refine WL.stepR (okE_alloc (fun w => Tryz.zeroValue34 w)) rfl rfl rfl ?_
             rintro _ h1 ⟨b1, rfl, hg1, hb1, hx1⟩
             have hs1 := hx1.obj hb nos
             have kf1 := kf.ext0 hx1)
  all_goals (refine Go ?_)
  all_goals (refine WC.seq ?_)
  all_goals (refine WC.sr ?_)
  all_goals (refine Go ?_)
  all_goals (refine WL.call (vs := [_]) rfl (fun a w => Tryz.call22 a w) rfl (kr _ hs1) rfl rfl rfl ?_
             rintro _ hq ⟨rfl, hz⟩
             replace hz := hz.symm
             subst hz)
  all_goals (refine Go ?_)
  all_goals (refine goP 11 ?_ ?_ <;> first | exact ⟨⟩ | refine Hb.mk fun hb => ?_ | skip)
  all_goals (refine Gg ?_)
  all_goals (first | (refine WL.pass rfl rfl rfl ?_) | (refine WL.step (ok_nilCheck rfl) rfl rfl rfl ?_))
  all_goals (refine Gg ?_)
  all_goals (first | (refine WL.pass rfl rfl rfl ?_) | (refine WL.ld rfl (by first | exact cell_blk hs1 rfl | assumption | exact cell_blk (by assumption) rfl) rfl rfl rfl ?_))
  all_goals (refine Go ?_)
  all_goals (refine Gs [(0, _), (2, _), (16, _)] ?_)
  all_goals (refine goC 1 2 ?_ ?_ <;> first | exact ⟨⟩ | refine Hb.mk fun hb => ?_ | skip)
  all_goals (first | (fail_if_success refine goB 1 ?_) | (
  refine goB 1 ?_
  all_goals (refine WC.sr ?_)
  all_goals (refine WL.step (ok_buildF (vs := []) (cs := [_, _, _, _, _, _, _, _, _, _]) (fun | [] => [(.int .u8 0), (.int .u8 0), (St []), (St []), (St []), (.slice none 0 0), (.slice none 0 0), (.slice none 0 0), (.slice none 0 0), (.int .i64 0)] | _ => []) rfl rfl (by kernel_rfl)) rfl rfl rfl ?_)
  all_goals (refine WL.stepR0 (okE_storeW (fun w => Tryz.sizeOf34 w) rfl rfl rfl (by assumption) rfl (by simp [Value.oneCell'])) rfl rfl ?_
             rintro _ h1 ⟨hb1, hx1⟩)
  all_goals (refine Go ?_)
  all_goals (refine WC.ret ?_)
  all_goals (repeat' (with_reducible first | refine thenP_r ?_ | refine blockP_r ?_))
  all_goals (refine retP_2 _ _ ⟨⟨_, rfl, ld_blk (fun w => Tryz.isAgg34 w) (fun w => Tryz.sizeOf34 w) (by assumption) rfl⟩, rfl, trivial⟩ ?_)
  all_goals (exact ⟨rfl, w5, v51, v52, v53, _, hx6.obj hs5 (fun e => by omega), ho5.ext hx6 (fun q hq e => own_ne ho5 hb15 (by decide) (e ▸ hq)), kf5.ext hx6 (fun e => by omega) (fun q hq e => own_ne kf5.own hb15 (by decide) (e ▸ hq)), X6, fun q hq => (by have := hf5 q hq; have := X4.size; omega), hoc⟩)
  skip))
  all_goals (first | (fail_if_success refine goB 2 ?_) | (
  refine goB 2 ?_
  all_goals (refine WC.skip ?_)
  skip))
  all_goals (refine Gn ?_)
  all_goals (refine WC.sr ?_)
  all_goals (refine Go ?_)
  all_goals (refine WL.step (ok_nilCheck rfl) rfl rfl rfl ?_)
  all_goals (refine Go ?_)
  all_goals (refine WL.ld rfl (by first | exact cell_blk hs1 rfl | assumption | exact cell_blk (by assumption) rfl) rfl rfl rfl ?_)
  all_goals (refine WL.call (vs := [_]) rfl (fun a w => Tryz.call23 a w) rfl (kn _ kf1) rfl rfl rfl ?_
             rintro _ h2 ⟨w2, v2, rfl, ho2, kf2, hx2, hf2, hv2⟩
             have ho2 : Own h2 w2 5 1 12 (bys body5) := ho2
             have kf2 : Fw h2 fb false v2 [] := kf2
             obtain ⟨A2, c2, rfl, _⟩ := id ho2.slice
             have hs2 := hx2.obj hs1 (fun e => e.elim nbf nvb)
             have hb12 := hx2.obj hb1 (fun e => by rcases e with e | e; omega; have := hlt _ e; omega))
  all_goals (refine Go ?_)
  all_goals (refine WL.stepR (okE_alloc (fun w => Tryz.zeroValue38 w)) rfl rfl rfl ?_
             rintro _ h3 ⟨b4, rfl, hg4, hb4, hx3⟩)
  all_goals (refine WL.stepR0 (okE_storeW (fun w => Tryz.sizeOf38 w) rfl rfl rfl hb4 rfl (by simp [Value.oneCell'])) rfl rfl ?_
             rintro _ h4 ⟨hb44, hx4⟩
             have X24 : Ext No h2 h4 := hx3.trans' hx4 (fun q hq e => by omega)
             have hs4 := X24.obj hs2 nos
             have kf4 := kf2.ext0 X24
             have ho4 := ho2.ext X24 (fun _ _ => nos)
             have hb14 := X24.obj hb12 nos
             have X4 : Ext (fun q => q = b ∨ q = fb ∨ v.ownBlock = some q) h h4 := (hx1.mono fun _ _ e => e.elim).trans ((hx2.mono fun _ _ e => .inr e).trans (X24.mono fun _ _ e => e.elim)))
  all_goals (refine Go ?_)
  all_goals (refine Gs [(0, _), (2, _), (4, _), (5, _), (6, _)] ?_)
  all_goals (refine WC.seq ?_)
  all_goals (refine WC.block ?_)
  all_goals (refine WC.sr ?_)
  all_goals (refine Go ?_)
  all_goals (refine goC 3 4 ?_ ?_ <;> first | exact ⟨⟩ | refine Hb.mk fun hb => ?_ | skip)
  all_goals (first | (fail_if_success refine goB 4 ?_) | (
  refine goB 4 ?_
  all_goals (refine WC.sr ?_)
  all_goals (refine Go ?_)
  all_goals (refine Gs [(0, _), (2, _), (4, _), (34, _)] ?_)
  all_goals (refine goC 5 6 ?_ ?_ <;> first | exact ⟨⟩ | refine Hb.mk fun hb => ?_ | skip)
  all_goals (first | (fail_if_success refine goB 5 ?_) | (
  refine goB 5 ?_
  all_goals (refine WC.sr ?_)
  all_goals (refine WL.step (ok_buildF (vs := []) (cs := [_, _, _, _, _, _, _, _, _, _]) (fun | [] => [(.int .u8 0), (.int .u8 0), (St []), (St []), (St []), (.slice none 0 0), (.slice none 0 0), (.slice none 0 0), (.slice none 0 0), (.int .i64 0)] | _ => []) rfl rfl (by kernel_rfl)) rfl rfl rfl ?_)
  all_goals (refine WL.stepR0 (okE_storeW (fun w => Tryz.sizeOf34 w) rfl rfl rfl (by assumption) rfl (by simp [Value.oneCell'])) rfl rfl ?_
             rintro _ h1 ⟨hb1, hx1⟩)
  all_goals (refine Go ?_)
  all_goals (refine Gs [(2, _), (3, _)] ?_)
  all_goals (refine WC.ret ?_)
  all_goals (repeat' (with_reducible first | refine thenP_r ?_ | refine blockP_r ?_))
  all_goals (refine retP_2 _ _ ⟨⟨_, rfl, ld_blk (fun w => Tryz.isAgg34 w) (fun w => Tryz.sizeOf34 w) (by assumption) rfl⟩, rfl, trivial⟩ ?_)
  all_goals (exact ⟨rfl, w5, v51, v52, v53, _, hx6.obj hs5 (fun e => by omega), ho5.ext hx6 (fun q hq e => own_ne ho5 hb15 (by decide) (e ▸ hq)), kf5.ext hx6 (fun e => by omega) (fun q hq e => own_ne kf5.own hb15 (by decide) (e ▸ hq)), X6, fun q hq => (by have := hf5 q hq; have := X4.size; omega), hoc⟩)
  skip))
  all_goals (first | (fail_if_success refine goB 6 ?_) | (
  refine goB 6 ?_
  all_goals (refine WC.sr ?_)
  all_goals (refine Go ?_)
  all_goals (refine WL.step (ok_nilCheck rfl) rfl rfl rfl ?_)
  all_goals (refine Go ?_)
  all_goals (refine WL.ld rfl (by first | exact cell_blk hs4 rfl | assumption | exact cell_blk (by assumption) rfl) rfl rfl rfl ?_)
  all_goals (refine Go ?_)
  all_goals (refine Gs [(0, _), (2, _), (4, _), (38, _)] ?_)
  all_goals (refine goC 7 8 ?_ ?_ <;> first | exact ⟨⟩ | refine Hb.mk fun hb => ?_ | skip)
  all_goals (first | (fail_if_success refine goB 7 ?_) | (
  refine goB 7 ?_
  all_goals (refine WC.sr ?_)
  all_goals (refine Go ?_)
  all_goals (refine WL.step (ok_loadN (fun w => Tryz.isAgg38 w) (fun w => Tryz.sizeOf38 w) rfl rfl (by exact At.of_block hb44)) rfl rfl rfl ?_)
  all_goals (refine WL.call (vs := [_, _]) rfl (fun a w => Tryz.call25 a w) rfl (first_v hs4 kf4 ho4.rd) rfl rfl rfl ?_
             rintro _ h5 ⟨w5, v51, v52, v53, hs5, ho5, kf5, hx5, hf5, hoc⟩
             have hb15 := hx5.obj hb14 (fun e => by have := hx1.size; omega))
  all_goals (refine Gn ?_)
  all_goals (refine Gs [(2, _)] ?_)
  all_goals (refine WC.sr ?_)
  all_goals (refine WL.step (ok_buildF (vs := []) (cs := [_, _, _, _, _, _, _, _, _, _]) (fun | [] => [(.int .u8 0), (.int .u8 0), (St []), (St []), (St []), (.slice none 0 0), (.slice none 0 0), (.slice none 0 0), (.slice none 0 0), (.int .i64 0)] | _ => []) rfl rfl (by kernel_rfl)) rfl rfl rfl ?_)
  all_goals (refine WL.stepR0 (okE_storeW (fun w => Tryz.sizeOf34 w) rfl rfl rfl hb15 rfl (by simp [Value.oneCell'])) rfl rfl ?_
             rintro _ h6 ⟨hb6, hx6⟩
             have X6 : Ext (fun q => q = b ∨ q = fb ∨ v.ownBlock = some q) h h6 := (X4.trans (hx5.mono fun _ _ e => e.elim .inl fun e => .inr (.inl e))).trans' hx6 (fun q hq e => by omega))
  all_goals (refine Go ?_)
  all_goals (refine WC.ret ?_)
  all_goals (repeat' (with_reducible first | refine thenP_r ?_ | refine blockP_r ?_))
  all_goals (refine retP_2 _ _ ⟨⟨_, rfl, ld_blk (fun w => Tryz.isAgg34 w) (fun w => Tryz.sizeOf34 w) (by assumption) rfl⟩, rfl, trivial⟩ ?_)
  all_goals (exact ⟨rfl, w5, v51, v52, v53, _, hx6.obj hs5 (fun e => by omega), ho5.ext hx6 (fun q hq e => own_ne ho5 hb15 (by decide) (e ▸ hq)), kf5.ext hx6 (fun e => by omega) (fun q hq e => own_ne kf5.own hb15 (by decide) (e ▸ hq)), X6, fun q hq => (by have := hf5 q hq; have := X4.size; omega), hoc⟩)
  skip))
  all_goals (first | (fail_if_success refine goB 8 ?_) | (
  refine goB 8 ?_
  all_goals (refine WC.skip ?_)
  skip))
  skip))
  skip))
  all_goals (refine Gn ?_)
  all_goals (refine WC.sr ?_)
  all_goals (refine WL.step (ok_loadN (fun w => Tryz.isAgg38 w) (fun w => Tryz.sizeOf38 w) rfl rfl (by assumption)) rfl rfl rfl ?_)
  all_goals (fail "no contract for call of remuda/front.Decode at 11.1")
  all_goals (refine Go ?_)
  all_goals (refine WL.stepR (okE_alloc (fun w => Tryz.zeroValue34 w)) rfl rfl rfl ?_
             rintro _ h1 ⟨b1, rfl, hg1, hb1, hx1⟩)
  all_goals (refine WL.stepR0 (okE_storeW (fun w => Tryz.sizeOf34 w) rfl rfl rfl (by assumption) rfl (by simp [Value.oneCell'])) rfl rfl ?_
             rintro _ h1 ⟨hb1, hx1⟩)
  all_goals (refine Go ?_)
  all_goals (refine Gs [(0, _), (2, _), (6, _), (7, _)] ?_)
  all_goals (refine WC.seq ?_)
  all_goals (refine WC.sr ?_)
  all_goals (refine Go ?_)
  all_goals (refine goC 9 10 ?_ ?_ <;> first | exact ⟨⟩ | refine Hb.mk fun hb => ?_ | skip)
  all_goals (first | (fail_if_success refine goB 10 ?_) | (
  refine goB 10 ?_
  all_goals (refine WC.skip ?_)
  skip))
  all_goals (refine Gn ?_)
  all_goals (refine WC.seq ?_)
  all_goals (refine WC.drawE fol (by kernel_rfl) ?_)
  all_goals (refine WQ.stepE (ok_move rfl) rfl rfl rfl ?_)
  all_goals (refine WQ.stepE (ok_move rfl) rfl rfl rfl ?_)
  all_goals (refine WQ.stepE (ok_nilCheck rfl) rfl rfl rfl ?_)
  all_goals (refine WQ.stepE (ok_fieldAddr rfl Tryz.underlying30 rfl (fun w => Tryz.sizeOf27 w)) rfl rfl rfl ?_)
  all_goals (refine WQ.stepE (ok_load (fun w => Tryz.isAgg27 w) rfl (by first | assumption | exact cell_blk (by assumption) rfl)) rfl rfl rfl ?_)
  all_goals (refine WQ.stepE (ok_loadN (fun w => Tryz.isAgg34 w) (fun w => Tryz.sizeOf34 w) rfl rfl (by assumption)) rfl rfl rfl ?_)
  all_goals (fail "no contract for call of (*remuda/sess.Session).Do at 14.6")
  all_goals (fail "no contract for call of (*remuda/serve.Server).say at 14.7")
  all_goals (refine WQ.nil ?_)
  all_goals (refine Gn ?_)
  all_goals (refine Gs [(0, _), (2, _), (7, _)] ?_)
  all_goals (refine WC.sr ?_)
  all_goals (refine Go ?_)
  all_goals (refine WL.step (ok_nilCheck rfl) rfl rfl rfl ?_)
  all_goals (refine Go ?_)
  all_goals (refine Ld ?_)
  all_goals (fail "no contract for call of (*remuda/sess.Session).Over at 15.5")
  all_goals (refine WL.step (ok_nilCheck rfl) rfl rfl rfl ?_)
  all_goals (refine Go ?_)
  all_goals (refine WL.stepR0 (okE_store (fun w => Tryz.sizeOf4 w) rfl rfl (by assumption) (Nat.le_of_ble_eq_true rfl) rfl rfl) rfl rfl ?_
             rintro _ h1 ⟨hb1, hx1⟩)
  all_goals (refine Gn ?_)
  all_goals (refine Gs [(2, _), (7, _)] ?_)
  all_goals (refine WC.sr ?_)
  all_goals (refine WL.step (ok_loadN (fun w => Tryz.isAgg34 w) (fun w => Tryz.sizeOf34 w) rfl rfl (by assumption)) rfl rfl rfl ?_)
  all_goals (refine WL.stepR0 (okE_storeW (fun w => Tryz.sizeOf34 w) rfl rfl rfl (by assumption) rfl (by simp [Value.oneCell'])) rfl rfl ?_
             rintro _ h1 ⟨hb1, hx1⟩)
  all_goals (refine Go ?_)
  all_goals (refine WC.ret ?_)
  all_goals (repeat' (with_reducible first | refine thenP_r ?_ | refine blockP_r ?_))
  all_goals (refine retP_2 _ _ ⟨⟨_, rfl, ld_blk (fun w => Tryz.isAgg34 w) (fun w => Tryz.sizeOf34 w) (by assumption) rfl⟩, rfl, trivial⟩ ?_)
  all_goals (exact ⟨rfl, w5, v51, v52, v53, _, hx6.obj hs5 (fun e => by omega), ho5.ext hx6 (fun q hq e => own_ne ho5 hb15 (by decide) (e ▸ hq)), kf5.ext hx6 (fun e => by omega) (fun q hq e => own_ne kf5.own hb15 (by decide) (e ▸ hq)), X6, fun q hq => (by have := hf5 q hq; have := X4.size; omega), hoc⟩)
theorem one2 {k : Int} {v : Value} {xs : List Value} (hv : v.oneCell' = true) (hx : ∀ x ∈ xs, x.oneCell' = true) : ∀ x ∈ Value.int .u8 k :: v :: xs, x.oneCell' = true := fun x h => by
  simp only [List.mem_cons] at h
  rcases h with rfl | rfl | h
  · rfl
  · exact hv
  · exact hx x h
theorem one0 : ∀ x ∈ ([] : List Value), x.oneCell' = true := fun _ h => by cases h
set_option maxHeartbeats 2000000 in
set_option maxRecDepth 100000 in
theorem awake31 {h : Heap} : CallsH Tryz.prog 11 ⟨[]⟩ h fun u h' => u = .bool true ∧ Ext No h h' := by
  refine calls [] Tryz.func11 rfl Tryz.ntmps11 rfl trivial ?_
  all_goals (refine WC.sr ?_)
  all_goals (refine Go ?_)
  all_goals (refine WC.sr ?_)
  all_goals (refine WL.call (vs := []) rfl (fun a w => Tryz.call33 a w) rfl (new_eng) rfl rfl rfl ?_
             rintro _ h1 ⟨be, me, rfl, _, _, _, _, hx1⟩)
  all_goals (refine WL.call (vs := [_, _, _]) rfl (fun a w => Tryz.call32 a w) rfl (new_sv) rfl rfl rfl ?_
             rintro _ h2 ⟨b, fb, s, rfl, hs2, kf2, hgb, hgf, hx2⟩
             have l1 := hx1.size
             have X2 := hx1.trans hx2
             have nbf : b ≠ fb := fun e => by have := kf2.blk; rw [← e, hs2] at this; simp at this)
  all_goals (refine Go ?_)
  all_goals (refine WC.seq ?_)
  all_goals (refine WC.sr ?_)
  all_goals (refine Go ?_)
  all_goals (refine WL.step (ok_eqlPn Tryz.underlying23 rfl rfl) rfl rfl rfl ?_)
  all_goals (refine Go ?_)
  all_goals (refine goP 14 ?_ ?_ <;> first | exact ⟨⟩ | refine Hb.mk fun hb => ?_ | skip)
  all_goals (refine Gg ?_)
  all_goals (first
               | (refine WL.pass rfl rfl rfl ?_)
               | (refine WL.call (vs := []) rfl (fun a w => Tryz.call34 a w) rfl (hello_doc) rfl rfl rfl ?_
                  rintro v3 h3 ⟨ho3, hx3, hf3⟩
                  have hs3 := hx3.obj hs2 nos
                  have X3 := X2.trans hx3
                  obtain ⟨A3, c3, rfl, _⟩ := id ho3.slice))
  all_goals (first
               | (refine WL.pass rfl rfl rfl ?_)
               | (refine WL.call (vs := [_, _]) rfl (fun a w => Tryz.call8 a w) rfl (sv_feed (m := helloL) hs3 (kf2.ext0 hx3) ho3.rd (by decide)) rfl rfl rfl ?_
                  rintro _ h4 ⟨rfl, v4, kf4, hx4, hf4⟩
                  have kf4 : Fw h4 fb false v4 helloL := kf4
                  have hs4 := hx4.obj hs3 (fun e => e.elim nbf (fun e => by cases e))
                  have l3 := X3.size
                  have X4 := X3.trans' hx4 (fun q hq e => e.elim (fun e => by omega) (fun e => by cases e))
                  have hv4 : ∀ q, v4.ownBlock = some q → h.size ≤ q := fun q hq => (hf4 q hq).elim (fun e => by cases e) (fun e => by omega)))
  all_goals (refine Gg ?_)
  all_goals (refine Go ?_)
  all_goals (refine Gs [(1, _), (19, _)] ?_)
  all_goals (refine goC 1 2 ?_ ?_ <;> first | exact ⟨⟩ | refine Hb.mk fun hb => ?_ | skip)
  all_goals (first | (fail_if_success refine goB 1 ?_) | (
  refine goB 1 ?_
  all_goals (refine WC.sr ?_)
  all_goals (refine Go ?_)
  all_goals (refine Gt ?_)
  all_goals (exact ⟨rfl, X17⟩)
  skip))
  all_goals (first | (fail_if_success refine goB 2 ?_) | (
  refine goB 2 ?_
  all_goals (refine WC.skip ?_)
  skip))
  all_goals (refine Gn ?_)
  all_goals (refine WC.sr ?_)
  all_goals (refine Go ?_)
  all_goals (refine WL.call (vs := [_]) rfl (fun a w => Tryz.call6 a w) rfl (sv_first hs4 kf4) rfl rfl rfl ?_
             rintro _ h5 ⟨rfl, w5, v1, v2, v3, v5, hs5, ho5, kf5, hx5, hf5, hc1, hc2, hc3⟩
             have l4 := X4.size
             have X5 := X4.trans' hx5 (fun q hq e => by rcases e with e | e | e; omega; omega; have := hv4 q e; omega))
  all_goals (refine Gn ?_)
  all_goals (refine WC.sr ?_)
  all_goals (refine Go ?_)
  all_goals (refine WL.call (vs := [_]) rfl (fun a w => Tryz.call7 a w) rfl (sv_take hs5 ho5 hc1 (one2 hc2 (one2 hc3 one0)) (by decide)) rfl rfl rfl ?_
             rintro _ h6 ⟨rfl, w6, hs6, ho6, hx6, hf6⟩
             have X6 := X5.trans' hx6 (fun q hq e => by rcases e with e | e; omega; have := hf5 q e; omega)
             have l5 := X5.size
             have hw6 : ∀ q, w6.ownBlock = some q → h.size ≤ q := fun q hq => by rw [hf6] at hq; have := hf5 q hq; omega)
  all_goals (refine Go ?_)
  all_goals (refine WL.stepR (okE_alloc (fun w => Tryz.zeroValue38 w)) rfl rfl rfl ?_
             rintro _ h7 ⟨b2, rfl, hg7, hb7, hx7⟩)
  all_goals (refine WL.stepR0 (okE_storeW (fun w => Tryz.sizeOf38 w) rfl rfl rfl hb7 rfl (one2 hc1 one0)) rfl rfl ?_
             rintro _ h8 ⟨hb8, hx8⟩
             have Y8 : Ext No h6 h8 := hx7.trans' hx8 (fun q hq e => by omega)
             have X8 := X6.trans Y8
             have hs8 := Y8.obj hs6 nos
             have ho8 := ho6.ext Y8 (fun _ _ => nos)
             have gb2 : h.size ≤ b2 := by have := X6.size; omega)
  all_goals (refine Go ?_)
  all_goals (refine Gs [(1, _), (2, _), (3, _)] ?_)
  all_goals (refine WC.sr ?_)
  all_goals (refine Go ?_)
  all_goals (refine WL.call (vs := [_]) rfl (fun a w => Tryz.call7 a w) rfl (sv_take hs8 ho8 hc2 (one2 hc3 one0) (by decide)) rfl rfl rfl ?_
             rintro _ h9 ⟨rfl, w9, hs9, ho9, hx9, hf9⟩
             have X9 := X8.trans' hx9 (fun q hq e => by rcases e with e | e; omega; have := hw6 q e; omega)
             have lb2 := lt_of_some hb8
             have lw6 : w6.ownBlock ≠ some b2 := fun e => by have := ho6.lt e; omega
             have nb2 : b2 ≠ b := fun e => by have := lt_of_some hs6; omega
             have hb9 := hx9.obj hb8 (fun e => e.elim nb2 lw6)
             have hw9 : ∀ q, w9.ownBlock = some q → h.size ≤ q := fun q hq => by rw [hf9] at hq; exact hw6 q hq)
  all_goals (refine Go ?_)
  all_goals (refine WL.stepR (okE_alloc (fun w => Tryz.zeroValue38 w)) rfl rfl rfl ?_
             rintro _ h10 ⟨b4, rfl, hg10, hb10, hx10⟩)
  all_goals (refine WL.stepR0 (okE_storeW (fun w => Tryz.sizeOf38 w) rfl rfl rfl hb10 rfl (one2 hc2 one0)) rfl rfl ?_
             rintro _ h11 ⟨hb11, hx11⟩
             have Y11 : Ext No h9 h11 := hx10.trans' hx11 (fun q hq e => by omega)
             have X11 := X9.trans Y11
             have hs11 := Y11.obj hs9 nos
             have ho11 := ho9.ext Y11 (fun _ _ => nos)
             have hb2x := Y11.obj hb9 nos)
  all_goals (refine Go ?_)
  all_goals (refine Gs [(1, _), (2, _), (3, _), (4, _), (5, _)] ?_)
  all_goals (refine WC.sr ?_)
  all_goals (refine Go ?_)
  all_goals (refine WL.call (vs := [_]) rfl (fun a w => Tryz.call7 a w) rfl (sv_take hs11 ho11 hc3 one0 (by decide)) rfl rfl rfl ?_
             rintro _ h12 ⟨rfl, w12, hs12, ho12, hx12, hf12⟩
             have X12 := X11.trans' hx12 (fun q hq e => by rcases e with e | e; omega; have := hw9 q e; omega)
             have nb4 : b4 ≠ b := fun e => by have := lt_of_some hs9; omega
             have hb12 := hx12.obj hb11 (fun e => e.elim nb4 (fun e => by have := ho9.lt e; omega))
             have hb2y := hx12.obj hb2x (fun e => e.elim nb2 (fun e => lw6 (hf9 ▸ e))))
  all_goals (refine Go ?_)
  all_goals (refine WL.stepR (okE_alloc (fun w => Tryz.zeroValue38 w)) rfl rfl rfl ?_
             rintro _ h13 ⟨b6, rfl, hg13, hb13, hx13⟩)
  all_goals (refine WL.stepR0 (okE_storeW (fun w => Tryz.sizeOf38 w) rfl rfl rfl hb13 rfl (one2 hc3 one0)) rfl rfl ?_
             rintro _ h14 ⟨hb14, hx14⟩
             have Y14 : Ext No h12 h14 := hx13.trans' hx14 (fun q hq e => by omega)
             have X14 := X12.trans Y14
             obtain ⟨A12, c12, rfl, _⟩ := id ho12.slice
             have hs14 := Y14.obj hs12 nos
             have hb4z := Y14.obj hb12 nos
             have hb2z := Y14.obj hb2y nos)
  all_goals (refine Go ?_)
  all_goals (refine Gs [(1, _), (2, _), (3, _), (4, _), (5, _), (6, _), (7, _)] ?_)
  all_goals (refine WC.sr ?_)
  all_goals (refine Go ?_)
  all_goals (refine WL.call (vs := [_]) rfl (fun a w => Tryz.call7 a w) rfl (sv_empty hs14) rfl rfl rfl ?_
             rintro _ h15 ⟨rfl, hx15⟩)
  all_goals (refine Go ?_)
  all_goals (refine WL.stepR (okE_alloc (fun w => Tryz.zeroValue38 w)) rfl rfl rfl ?_
             rintro _ h16 ⟨b8, rfl, hg16, hb16, hx16⟩)
  all_goals (refine WL.stepR0 (okE_storeW (fun w => Tryz.sizeOf38 w) rfl rfl rfl hb16 rfl (by simp [Value.oneCell'])) rfl rfl ?_
             rintro _ h17 ⟨hb17, hx17⟩
             have Y17 : Ext No h14 h17 := (hx15.trans hx16).trans' hx17 (fun q hq e => by have := hx15.size; omega)
             have X17 := X14.trans Y17
             have hs17 := Y17.obj hs14 nos
             have hb2w := Y17.obj hb2z nos
             have hb4w := Y17.obj hb4z nos
             have hb6w := Y17.obj hb14 nos)
  all_goals (refine Go ?_)
  all_goals (refine Gs [(1, _), (2, _), (3, _), (4, _), (5, _), (6, _), (7, _), (9, _)] ?_)
  all_goals (refine WC.sr ?_)
  all_goals (refine Go ?_)
  all_goals (refine goP 43 ?_ ?_ <;> first | exact ⟨⟩ | refine Hb.mk fun hb => ?_ | skip)
  all_goals (refine Gg ?_)
  all_goals (refine Go ?_)
  all_goals (refine goP 46 ?_ ?_ <;> first | exact ⟨⟩ | refine Hb.mk fun hb => ?_ | skip)
  all_goals (refine Gg ?_)
  all_goals (refine Go ?_)
  all_goals (refine goP 49 ?_ ?_ <;> first | exact ⟨⟩ | refine Hb.mk fun hb => ?_ | skip)
  all_goals (refine Gg ?_)
  all_goals (refine Go ?_)
  all_goals (refine goP 53 ?_ ?_ <;> first | exact ⟨⟩ | refine Hb.mk fun hb => ?_ | skip)
  all_goals (refine Gg ?_)
  all_goals (first | (refine WL.pass rfl rfl rfl ?_) | (refine WL.ld rfl (by first | exact cell_blk hb2w rfl | assumption | exact cell_blk (by assumption) rfl) rfl rfl rfl ?_))
  all_goals (refine Gg ?_)
  all_goals (refine Go ?_)
  all_goals (refine goP 58 ?_ ?_ <;> first | exact ⟨⟩ | refine Hb.mk fun hb => ?_ | skip)
  all_goals (refine Gg ?_)
  all_goals (first | (refine WL.pass rfl rfl rfl ?_) | (refine WL.ld rfl (by first | exact cell_blk hb4w rfl | assumption | exact cell_blk (by assumption) rfl) rfl rfl rfl ?_))
  all_goals (refine Gg ?_)
  all_goals (refine Go ?_)
  all_goals (refine goP 63 ?_ ?_ <;> first | exact ⟨⟩ | refine Hb.mk fun hb => ?_ | skip)
  all_goals (refine Gg ?_)
  all_goals (first | (refine WL.pass rfl rfl rfl ?_) | (refine WL.ld rfl (by first | exact cell_blk hb6w rfl | assumption | exact cell_blk (by assumption) rfl) rfl rfl rfl ?_))
  all_goals (refine Gg ?_)
  all_goals (refine Go ?_)
  all_goals (refine goP 68 ?_ ?_ <;> first | exact ⟨⟩ | refine Hb.mk fun hb => ?_ | skip)
  all_goals (refine Gg ?_)
  all_goals (first
               | (refine WL.pass rfl rfl rfl ?_)
               | (refine WL.call (vs := [_]) rfl (fun a w => Tryz.call9 a w) rfl (sv_over hs17) rfl rfl rfl ?_
                  rintro _ hq ⟨rfl, hz⟩
                  replace hz := hz.symm
                  subst hz))
  all_goals (refine Gg ?_)
  all_goals (refine Go ?_)
  all_goals (refine Gs [(0, _)] ?_)
  all_goals (refine Gt ?_)
  all_goals (exact ⟨rfl, X17⟩)
end Go.Proofs.YtdjjpbbhcidaaaaGreatDoor


/-
  SERVERS (layer 31): what the library's variables hold when a law is called.
-/
namespace Go.Proofs.YtdjjpbbhcidaaaaGreatDoor
open Go Go.RK

def laidP : List (String × DataW Unit) := Rows.serveNobodyRow.laid.filter fun x => x.2.handleName?.isNone
/-- A world in which the one handle is laid. -/
noncomputable def handWorld (os : Os) : World :=
  let w0 := World.holding Tryz.prog os ⟨#[], #[], []⟩
  { w0 with heap := w0.heap.modify 0 fun
      | .cells _ t frozen => .cells #[.iface 266 (.agg #[.pointer (some ⟨4, 112, none⟩)])] t frozen
      | o => o }
noncomputable def laidWorld (os : Os) : World := (handWorld os).layVars Tryz.prog laidP
theorem laidWorld_os (os : Os) : (laidWorld os).os = os := World.layVars_os _ _ _
theorem laidWorld_met (os : Os) (args : Array Value) : laidMetH Tryz.prog Rows.serveNobodyRow.laid ((laidWorld os).forCall (fun _ _ => 0) ⟨#[], args, []⟩).memory := by
  have e1 : (laidP.filter fun x => (laidP.map (·.1)).contains x.1) = laidP := List.filter_eq_self.2 fun x hx => List.contains_iff_mem.2 (List.mem_map.2 ⟨x, hx, rfl⟩)
  have e2 : (laidP.filter fun x => !(laidP.map (·.1)).contains x.1) = [] := List.filter_eq_nil_iff.2 fun x hx => by rw [List.contains_iff_mem.2 (List.mem_map.2 ⟨x, hx, rfl⟩)]; simp
  have h : laidMet Tryz.prog laidP (laidWorld os) := laidMet_layVars (w0 := handWorld os) (laidP.map (·.1)) [] (by rw [e1]; rfl) (by rw [e1]; kernel_rfl) (by rw [e1]; kernel_rfl) (by rw [e2]; exact LaidIn.none)
  exact laidMetH_of_parts (h.of_heap (by simp [World.memory, World.forCall, Input.heap])) (by kernel_rfl)
end Go.Proofs.YtdjjpbbhcidaaaaGreatDoor


