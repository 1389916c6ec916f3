/-
  SEVERAL TEXTS IN ONE: Wv3, Wv4, Frm, Back, BkChk, BkChk2, Hv9, Hv10, Hv11, Hv12, Port, Port2, Port3, K15, Port4, Port5, FmB, Sx, K27, Wv5, Wv6.
-/
import Derived.Test.YtdjjpbbhcidaaaaGreatDoorPMixPrefix2
import Derived.Sort.Grow
import Derived.WideLaws
/-
  CLIENTS (layer 12), by the code: what comes next.
-/
namespace Go.Proofs.YtdjjpbbhcidaaaaGreatDoor
open Go Go.RK

abbrev heZ : List Value := [In 0, In 0, In 0, .slice none 0 0]
abbrev frN : List Value := [.int .u8 0, .int .u8 0, St [], St [], St [], .slice none 0 0, .slice none 0 0, .slice none 0 0, .slice none 0 0, In 0]
def itC (k : Int) (he fr : List Value) : List Value := In k :: (he ++ fr ++ [St [], St []])
section
variable {h h' : Heap} {b cb fb : Nat} {v w : Value}
set_option maxHeartbeats 2000000 in
set_option maxRecDepth 100000 in
theorem cl_first {h : Heap} {k : Int} (hw : Rd h w 1 12 (bys body5)) : CallsH Tryz.prog 122 ⟨[.agg ⟨[.int .u8 k, w]⟩]⟩ h fun u h' => ∃ p, u = .agg ⟨itC 1 [In 196608, In 0, In 0, p] frN⟩ ∧ Ext No h h' ∧ ∃ A n c, p = .slice A n c := by
  have kh := fun (h' : Heap) (x : Ext No h h') => hello_read (hw.ext0 x)
  obtain ⟨A, c, rfl, _⟩ := id hw
  refine calls [(0, _)] Tryz.func122 rfl Tryz.ntmps122 rfl ⟨rfl, trivial⟩ ?_
  all_goals (refine WC.sr ?_)
  all_goals (refine WL.stepR (okE_box rfl) rfl rfl rfl ?_
             rintro _ h1 ⟨b1, rfl, hg1, hb1, hx1⟩)
  all_goals (refine WL.stepR (okE_alloc (fun w => Tryz.zeroValue71 w)) rfl rfl rfl ?_
             rintro _ h2 ⟨b2, rfl, hg2, hb2, hx2⟩
             have X2 := hx1.trans hx2)
  all_goals (refine Gn ?_)
  all_goals (refine WC.sr ?_)
  all_goals (refine Go ?_)
  all_goals (refine WL.ld rfl (by first | exact cell_blk (hx2.obj hb1 nos) rfl | assumption | exact cell_blk (by assumption) rfl) rfl rfl rfl ?_)
  all_goals (refine WL.call (vs := [_]) rfl (fun a w => Tryz.call51 a w) rfl (kh _ X2) rfl rfl rfl ?_
             rintro _ h3 ⟨p3, rfl, ho3, hx3, hf3⟩
             obtain ⟨A3, c3, rfl, _⟩ := id ho3.slice)
  all_goals (refine Go ?_)
  all_goals (refine WL.stepR (okE_alloc (fun w => Tryz.zeroValue69 w)) rfl rfl rfl ?_
             rintro _ h4 ⟨b3, rfl, hg4, hb4, hx4⟩)
  all_goals (refine WL.stepR0 (okE_storeW (fun w => Tryz.sizeOf69 w) rfl rfl rfl hb4 rfl (by simp [Value.oneCell'])) rfl rfl ?_
             rintro _ h5 ⟨hb5, hx5⟩
             have Y5 : Ext No h2 h5 := (hx3.trans hx4).trans' hx5 (fun q hq e => by have := hx3.size; omega)
             have hb25 := Y5.obj hb2 nos)
  all_goals (refine Go ?_)
  all_goals (refine Gs [(2, _), (3, _), (4, _)] ?_)
  all_goals (refine WC.seq ?_)
  all_goals (refine WC.sr ?_)
  all_goals (refine Go ?_)
  all_goals (refine goC 1 2 ?_ ?_ <;> first | exact ⟨⟩ | refine Hb.mk fun hb => ?_ | skip)
  all_goals (first | (fail_if_success refine goB 2 ?_) | (
  refine goB 2 ?_
  all_goals (refine WC.skip ?_)
  skip))
  all_goals (refine Gn ?_)
  all_goals (refine WC.sr ?_)
  all_goals (refine WL.step (ok_loadN (fun w => Tryz.isAgg69 w) (fun w => Tryz.sizeOf69 w) rfl rfl (by exact At.of_block hb5)) rfl rfl rfl ?_)
  all_goals (refine WL.step (ok_buildF (vs := [_, _]) (cs := [_, _, _, _, _, _, _, _, _, _, _, _, _, _, _, _, _]) (fun | [a0, .agg ⟨[a1, a2, a3, a4]⟩] => [a0, a1, a2, a3, a4, (.int .u8 0), (.int .u8 0), (St []), (St []), (St []), (.slice none 0 0), (.slice none 0 0), (.slice none 0 0), (.slice none 0 0), (.int .i64 0), (St []), (St [])] | _ => []) rfl rfl (by kernel_rfl)) rfl rfl rfl ?_)
  all_goals (refine WL.stepR0 (okE_storeW (fun w => Tryz.sizeOf71 w) rfl rfl rfl hb25 rfl (by simp [Value.oneCell'])) rfl rfl ?_
             rintro _ h6 ⟨hb6, hx6⟩)
  all_goals (refine Gn ?_)
  all_goals (refine Gs [(2, _)] ?_)
  all_goals (refine WC.ret ?_)
  all_goals (repeat' (with_reducible first | refine thenP_r ?_ | refine blockP_r ?_))
  all_goals (refine retP_1 _ ⟨⟨_, rfl, ld_blk (fun w => Tryz.isAgg71 w) (fun w => Tryz.sizeOf71 w) (by assumption) rfl⟩, trivial⟩ ?_)
  all_goals (exact ⟨_, rfl, (X2.trans Y5).trans' hx6 (fun q hq e => by have := hx1.size; omega), _, _, _, rfl⟩)
set_option maxHeartbeats 2000000 in
set_option maxRecDepth 100000 in
theorem cl_msg {h : Heap} (hw : Rd h w 1 0 (bys [])) : CallsH Tryz.prog 121 ⟨[.agg ⟨[.int .u8 83, w]⟩]⟩ h fun u h' => u = .agg ⟨itC 2 heZ syC⟩ ∧ Ext No h h' := by
  have kh := fun (h' : Heap) (x : Ext No h h') => decodeS (hw.ext0 x)
  obtain ⟨A, c, rfl, _⟩ := id hw
  refine calls [(0, _)] Tryz.func121 rfl Tryz.ntmps121 rfl ⟨rfl, trivial⟩ ?_
  all_goals (refine WC.sr ?_)
  all_goals (refine WL.stepR (okE_box rfl) rfl rfl rfl ?_
             rintro _ h1 ⟨b1, rfl, hg1, hb1, hx1⟩)
  all_goals (refine WL.stepR (okE_alloc (fun w => Tryz.zeroValue71 w)) rfl rfl rfl ?_
             rintro _ h2 ⟨b2, rfl, hg2, hb2, hx2⟩
             have X2 := hx1.trans hx2)
  all_goals (refine Gn ?_)
  all_goals (refine WC.sr ?_)
  all_goals (refine WL.step (ok_loadN (fun w => Tryz.isAgg38 w) (fun w => Tryz.sizeOf38 w) rfl rfl (by exact At.of_block (hx2.obj hb1 nos))) rfl rfl rfl ?_)
  all_goals (refine WL.call (vs := [_]) rfl (fun a w => Tryz.call26 a w) rfl (kh _ X2) rfl rfl rfl ?_
             rintro _ h3 ⟨rfl, hx3⟩)
  all_goals (refine Go ?_)
  all_goals (refine WL.stepR (okE_alloc (fun w => Tryz.zeroValue34 w)) rfl rfl rfl ?_
             rintro _ h4 ⟨b3, rfl, hg4, hb4, hx4⟩)
  all_goals (refine WL.stepR0 (okE_storeW (fun w => Tryz.sizeOf34 w) rfl rfl rfl hb4 rfl (by simp [Value.oneCell'])) rfl rfl ?_
             rintro _ h5 ⟨hb5, hx5⟩
             have Y5 : Ext No h2 h5 := (hx3.trans hx4).trans' hx5 (fun q hq e => by have := hx3.size; omega)
             have hb25 := Y5.obj hb2 nos)
  all_goals (refine Go ?_)
  all_goals (refine Gs [(2, _), (3, _), (4, _)] ?_)
  all_goals (refine WC.seq ?_)
  all_goals (refine WC.sr ?_)
  all_goals (refine Go ?_)
  all_goals (refine goC 1 2 ?_ ?_ <;> first | exact ⟨⟩ | refine Hb.mk fun hb => ?_ | skip)
  all_goals (first | (fail_if_success refine goB 2 ?_) | (
  refine goB 2 ?_
  all_goals (refine WC.skip ?_)
  skip))
  all_goals (refine Gn ?_)
  all_goals (refine WC.sr ?_)
  all_goals (refine WL.step (ok_loadN (fun w => Tryz.isAgg34 w) (fun w => Tryz.sizeOf34 w) rfl rfl (by exact At.of_block hb5)) rfl rfl rfl ?_)
  all_goals (refine WL.step (ok_buildF (vs := [_, _]) (cs := [_, _, _, _, _, _, _, _, _, _, _, _, _, _, _, _, _]) (fun | [a0, .agg ⟨[a5, a6, a7, a8, a9, a10, a11, a12, a13, a14]⟩] => [a0, (.int .i64 0), (.int .i64 0), (.int .i64 0), (.slice none 0 0), a5, a6, a7, a8, a9, a10, a11, a12, a13, a14, (St []), (St [])] | _ => []) rfl rfl (by kernel_rfl)) rfl rfl rfl ?_)
  all_goals (refine WL.stepR0 (okE_storeW (fun w => Tryz.sizeOf71 w) rfl rfl rfl hb25 rfl (by simp [Value.oneCell'])) rfl rfl ?_
             rintro _ h6 ⟨hb6, hx6⟩)
  all_goals (refine Gn ?_)
  all_goals (refine Gs [(2, _)] ?_)
  all_goals (refine WC.ret ?_)
  all_goals (repeat' (with_reducible first | refine thenP_r ?_ | refine blockP_r ?_))
  all_goals (refine retP_1 _ ⟨⟨_, rfl, ld_blk (fun w => Tryz.isAgg71 w) (fun w => Tryz.sizeOf71 w) (by assumption) rfl⟩, trivial⟩ ?_)
  all_goals (exact ⟨rfl, (X2.trans Y5).trans' hx6 (fun q hq e => by have := hx1.size; omega)⟩)
/-- A client at cb. -/
def ClB (h : Heap) (cb fb : Nat) (bg : Bool) : Prop := h[cb]? = some (.cells ⟨[.pointer (some ⟨fb, 0, none⟩), .bool bg]⟩ 138 (0, 0))
set_option maxHeartbeats 2000000 in
set_option maxRecDepth 100000 in
theorem cl_ready {bg : Bool} (hb : ClB h cb fb bg) : CallsH Tryz.prog 71 ⟨[.pointer (some ⟨cb, 0, none⟩)]⟩ h fun u h' => u = .bool true ∧ h' = h := by
  unfold ClB at hb
  refine calls [(0, _)] Tryz.func71 rfl Tryz.ntmps71 rfl ⟨rfl, trivial⟩ ?_
  all_goals (refine WC.sr ?_)
  all_goals (refine Go ?_)
  all_goals (refine WC.sr ?_)
  all_goals (refine Go ?_)
  all_goals (refine WL.step (ok_neqPn Tryz.underlying47 rfl rfl) rfl rfl rfl ?_)
  all_goals (refine Go ?_)
  all_goals (refine goP 5 ?_ ?_ <;> first | exact ⟨⟩ | refine Hb.mk fun hb => ?_ | skip)
  all_goals (refine Gg ?_)
  all_goals (first | (refine WL.pass rfl rfl rfl ?_) | (refine WL.step (ok_nilCheck rfl) rfl rfl rfl ?_))
  all_goals (refine Gg ?_)
  all_goals (first | (refine WL.pass rfl rfl rfl ?_) | (refine WL.ld rfl (by first | exact cell_blk hb rfl | assumption | exact cell_blk (by assumption) rfl) rfl rfl rfl ?_))
  all_goals (first | (refine WL.pass rfl rfl rfl ?_) | (refine WL.step (ok_neqPn Tryz.underlying26 rfl rfl) rfl rfl rfl ?_))
  all_goals (refine Go ?_)
  all_goals (refine Gs [(2, _)] ?_)
  all_goals (refine Gt ?_)
  all_goals (exact ⟨rfl, rfl⟩)
set_option maxHeartbeats 2000000 in
set_option maxRecDepth 100000 in
theorem cl_item1 (hb : ClB h cb fb false) {k : Int} (hw : Rd h w 1 12 (bys body5)) : CallsH Tryz.prog 72 ⟨[.pointer (some ⟨cb, 0, none⟩), .agg ⟨[.int .u8 k, w]⟩, .bool true, In 0]⟩ h fun u h' => ∃ p, u = .agg ⟨itC 1 [In 196608, In 0, In 0, p] frN⟩ ∧ Ext No h h' ∧ ∃ A n c, p = .slice A n c := by
  unfold ClB at hb
  have kf := fun (h' : Heap) (x : Ext No h h') => cl_first (k := k) (hw.ext0 x)
  obtain ⟨A, c, rfl, _⟩ := id hw
  refine calls [(0, _), (1, _), (2, _), (3, _)] Tryz.func72 rfl Tryz.ntmps72 rfl ⟨rfl, rfl, rfl, rfl, trivial⟩ ?_
  all_goals (refine WC.sr ?_)
  all_goals (refine WL.stepR (okE_box rfl) rfl rfl rfl ?_
             rintro _ h1 ⟨b1, rfl, hg1, hb1, hx1⟩)
  all_goals (refine WL.stepR (okE_alloc (fun w => Tryz.zeroValue71 w)) rfl rfl rfl ?_
             rintro _ h2 ⟨b2, rfl, hg2, hb2, hx2⟩
             have X2 := hx1.trans hx2)
  all_goals (refine Gn ?_)
  all_goals (refine WC.seq ?_)
  all_goals (refine WC.block ?_)
  all_goals (refine WC.sr ?_)
  all_goals (refine Go ?_)
  all_goals (refine goC 1 2 ?_ ?_ <;> first | exact ⟨⟩ | refine Hb.mk fun hb => ?_ | skip)
  all_goals (first | (fail_if_success refine goB 2 ?_) | (
  refine goB 2 ?_
  all_goals (refine WC.sr ?_)
  all_goals (refine Go ?_)
  all_goals (refine Gs [(0, _), (5, _), (8, _), (14, _)] ?_)
  all_goals (refine goC 3 4 ?_ ?_ <;> first | exact ⟨⟩ | refine Hb.mk fun hb => ?_ | skip)
  all_goals (first | (fail_if_success refine goB 3 ?_) | (
  refine goB 3 ?_
  all_goals (refine WC.sr ?_)
  all_goals (refine WL.step (ok_buildF (vs := []) (cs := [_, _, _, _, _, _, _, _, _, _, _, _, _, _, _, _, _]) (fun | [] => [(.int .i64 0), (.int .i64 0), (.int .i64 0), (.int .i64 0), (.slice none 0 0), (.int .u8 0), (.int .u8 0), (St []), (St []), (St []), (.slice none 0 0), (.slice none 0 0), (.slice none 0 0), (.slice none 0 0), (.int .i64 0), (St []), (St [])] | _ => []) rfl rfl (by kernel_rfl)) rfl rfl rfl ?_)
  all_goals (refine WL.stepR0 (okE_storeW (fun w => Tryz.sizeOf71 w) rfl rfl rfl (by assumption) rfl (by simp [Value.oneCell'])) rfl rfl ?_
             rintro _ h1 ⟨hb1, hx1⟩)
  all_goals (refine Gn ?_)
  all_goals (refine Gs [(8, _)] ?_)
  all_goals (refine WC.ret ?_)
  all_goals (repeat' (with_reducible first | refine thenP_r ?_ | refine blockP_r ?_))
  all_goals (refine retP_1 _ ⟨⟨_, rfl, ld_blk (fun w => Tryz.isAgg71 w) (fun w => Tryz.sizeOf71 w) (by assumption) rfl⟩, trivial⟩ ?_)
  all_goals (exact ⟨_, rfl, (X2.trans hx3).trans' hx4 (fun q hq e => by have := hx1.size; omega), _, _, _, rfl⟩)
  skip))
  all_goals (first | (fail_if_success refine goB 4 ?_) | (
  refine goB 4 ?_
  all_goals (refine WC.sr ?_)
  all_goals (refine Go ?_)
  all_goals (refine WL.step (ok_nilCheck rfl) rfl rfl rfl ?_)
  all_goals (refine Go ?_)
  all_goals (refine WL.ld rfl (by first | exact cell_blk (X2.obj hb nos) rfl | assumption | exact cell_blk (by assumption) rfl) rfl rfl rfl ?_)
  all_goals (refine Go ?_)
  all_goals (refine Gs [(5, _), (8, _), (18, _)] ?_)
  all_goals (refine goC 5 6 ?_ ?_ <;> first | exact ⟨⟩ | refine Hb.mk fun hb => ?_ | skip)
  all_goals (first | (fail_if_success refine goB 6 ?_) | (
  refine goB 6 ?_
  all_goals (refine WC.skip ?_)
  skip))
  skip))
  skip))
  all_goals (refine Gn ?_)
  all_goals (refine WC.sr ?_)
  all_goals (refine WL.step (ok_loadN (fun w => Tryz.isAgg38 w) (fun w => Tryz.sizeOf38 w) rfl rfl (by exact At.of_block (hx2.obj hb1 nos))) rfl rfl rfl ?_)
  all_goals (refine WL.call (vs := [_]) rfl (fun a w => Tryz.call122 a w) rfl (kf _ X2) rfl rfl rfl ?_
             rintro _ h3 ⟨p, rfl, hx3, A3, n3, c3, rfl⟩
             have hb23 := hx3.obj hb2 nos)
  all_goals (refine WL.stepR0 (okE_storeW (fun w => Tryz.sizeOf71 w) rfl rfl rfl hb23 rfl (by simp [itC, Value.oneCell'])) rfl rfl ?_
             rintro _ h4 ⟨hb4, hx4⟩)
  all_goals (refine Gn ?_)
  all_goals (refine Gs [(8, _)] ?_)
  all_goals (refine WC.ret ?_)
  all_goals (repeat' (with_reducible first | refine thenP_r ?_ | refine blockP_r ?_))
  all_goals (refine retP_1 _ ⟨⟨_, rfl, ld_blk (fun w => Tryz.isAgg71 w) (fun w => Tryz.sizeOf71 w) (by assumption) rfl⟩, trivial⟩ ?_)
  all_goals (exact ⟨_, rfl, (X2.trans hx3).trans' hx4 (fun q hq e => by have := hx1.size; omega), _, _, _, rfl⟩)
set_option maxHeartbeats 2000000 in
set_option maxRecDepth 100000 in
theorem cl_item2 (hb : ClB h cb fb true) (hw : Rd h w 1 0 (bys [])) : CallsH Tryz.prog 72 ⟨[.pointer (some ⟨cb, 0, none⟩), .agg ⟨[.int .u8 83, w]⟩, .bool true, In 0]⟩ h fun u h' => u = .agg ⟨itC 2 heZ syC⟩ ∧ Ext No h h' := by
  unfold ClB at hb
  have kf := fun (h' : Heap) (x : Ext No h h') => cl_msg (hw.ext0 x)
  obtain ⟨A, c, rfl, _⟩ := id hw
  refine calls [(0, _), (1, _), (2, _), (3, _)] Tryz.func72 rfl Tryz.ntmps72 rfl ⟨rfl, rfl, rfl, rfl, trivial⟩ ?_
  all_goals (refine WC.sr ?_)
  all_goals (refine WL.stepR (okE_box rfl) rfl rfl rfl ?_
             rintro _ h1 ⟨b1, rfl, hg1, hb1, hx1⟩)
  all_goals (refine WL.stepR (okE_alloc (fun w => Tryz.zeroValue71 w)) rfl rfl rfl ?_
             rintro _ h2 ⟨b2, rfl, hg2, hb2, hx2⟩
             have X2 := hx1.trans hx2)
  all_goals (refine Gn ?_)
  all_goals (refine WC.seq ?_)
  all_goals (refine WC.block ?_)
  all_goals (refine WC.sr ?_)
  all_goals (refine Go ?_)
  all_goals (refine goC 1 2 ?_ ?_ <;> first | exact ⟨⟩ | refine Hb.mk fun hb => ?_ | skip)
  all_goals (first | (fail_if_success refine goB 2 ?_) | (
  refine goB 2 ?_
  all_goals (refine WC.sr ?_)
  all_goals (refine Go ?_)
  all_goals (refine Gs [(0, _), (5, _), (8, _), (14, _)] ?_)
  all_goals (refine goC 3 4 ?_ ?_ <;> first | exact ⟨⟩ | refine Hb.mk fun hb => ?_ | skip)
  all_goals (first | (fail_if_success refine goB 3 ?_) | (
  refine goB 3 ?_
  all_goals (refine WC.sr ?_)
  all_goals (refine WL.step (ok_buildF (vs := []) (cs := [_, _, _, _, _, _, _, _, _, _, _, _, _, _, _, _, _]) (fun | [] => [(.int .i64 0), (.int .i64 0), (.int .i64 0), (.int .i64 0), (.slice none 0 0), (.int .u8 0), (.int .u8 0), (St []), (St []), (St []), (.slice none 0 0), (.slice none 0 0), (.slice none 0 0), (.slice none 0 0), (.int .i64 0), (St []), (St [])] | _ => []) rfl rfl (by kernel_rfl)) rfl rfl rfl ?_)
  all_goals (refine WL.stepR0 (okE_storeW (fun w => Tryz.sizeOf71 w) rfl rfl rfl (by assumption) rfl (by simp [Value.oneCell'])) rfl rfl ?_
             rintro _ h1 ⟨hb1, hx1⟩)
  all_goals (refine Gn ?_)
  all_goals (refine Gs [(8, _)] ?_)
  all_goals (refine WC.ret ?_)
  all_goals (repeat' (with_reducible first | refine thenP_r ?_ | refine blockP_r ?_))
  all_goals (refine retP_1 _ ⟨⟨_, rfl, ld_blk (fun w => Tryz.isAgg71 w) (fun w => Tryz.sizeOf71 w) (by assumption) rfl⟩, trivial⟩ ?_)
  all_goals (exact ⟨rfl, (X2.trans hx3).trans' hx4 (fun q hq e => by have := hx1.size; omega)⟩)
  skip))
  all_goals (first | (fail_if_success refine goB 4 ?_) | (
  refine goB 4 ?_
  all_goals (refine WC.sr ?_)
  all_goals (refine Go ?_)
  all_goals (refine WL.step (ok_nilCheck rfl) rfl rfl rfl ?_)
  all_goals (refine Go ?_)
  all_goals (refine WL.ld rfl (by first | exact cell_blk (X2.obj hb nos) rfl | assumption | exact cell_blk (by assumption) rfl) rfl rfl rfl ?_)
  all_goals (refine Go ?_)
  all_goals (refine Gs [(5, _), (8, _), (18, _)] ?_)
  all_goals (refine goC 5 6 ?_ ?_ <;> first | exact ⟨⟩ | refine Hb.mk fun hb => ?_ | skip)
  all_goals (first | (fail_if_success refine goB 5 ?_) | (
  refine goB 5 ?_
  all_goals (refine WC.sr ?_)
  all_goals (refine WL.step (ok_loadN (fun w => Tryz.isAgg38 w) (fun w => Tryz.sizeOf38 w) rfl rfl (by exact At.of_block (hx2.obj hb1 nos))) rfl rfl rfl ?_)
  all_goals (refine WL.call (vs := [_]) rfl (fun a w => Tryz.call121 a w) rfl (kf _ X2) rfl rfl rfl ?_
             rintro _ h3 ⟨rfl, hx3⟩
             have hb23 := hx3.obj hb2 nos)
  all_goals (refine WL.stepR0 (okE_storeW (fun w => Tryz.sizeOf71 w) rfl rfl rfl hb23 rfl (by simp [itC, Value.oneCell'])) rfl rfl ?_
             rintro _ h4 ⟨hb4, hx4⟩)
  all_goals (refine Gn ?_)
  all_goals (refine Gs [(8, _)] ?_)
  all_goals (refine WC.ret ?_)
  all_goals (repeat' (with_reducible first | refine thenP_r ?_ | refine blockP_r ?_))
  all_goals (refine retP_1 _ ⟨⟨_, rfl, ld_blk (fun w => Tryz.isAgg71 w) (fun w => Tryz.sizeOf71 w) (by assumption) rfl⟩, trivial⟩ ?_)
  all_goals (exact ⟨rfl, (X2.trans hx3).trans' hx4 (fun q hq e => by have := hx1.size; omega)⟩)
  skip))
  all_goals (first | (fail_if_success refine goB 6 ?_) | (
  refine goB 6 ?_
  all_goals (refine WC.skip ?_)
  skip))
  skip))
  skip))
  all_goals (refine Gn ?_)
  all_goals (refine WC.sr ?_)
  all_goals (refine WL.step (ok_loadN (fun w => Tryz.isAgg38 w) (fun w => Tryz.sizeOf38 w) rfl rfl (by assumption)) rfl rfl rfl ?_)
  all_goals (fail "no contract for call of remuda/client.first at 7.1")
  all_goals (refine WL.stepR0 (okE_storeW (fun w => Tryz.sizeOf71 w) rfl rfl rfl (by assumption) rfl (by simp [Value.oneCell'])) rfl rfl ?_
             rintro _ h1 ⟨hb1, hx1⟩)
  all_goals (refine Gn ?_)
  all_goals (refine Gs [(8, _)] ?_)
  all_goals (refine WC.ret ?_)
  all_goals (repeat' (with_reducible first | refine thenP_r ?_ | refine blockP_r ?_))
  all_goals (refine retP_1 _ ⟨⟨_, rfl, ld_blk (fun w => Tryz.isAgg71 w) (fun w => Tryz.sizeOf71 w) (by assumption) rfl⟩, trivial⟩ ?_)
  all_goals (exact ⟨rfl, (X2.trans hx3).trans' hx4 (fun q hq e => by have := hx1.size; omega)⟩)
end
end Go.Proofs.YtdjjpbbhcidaaaaGreatDoor


/-
  CLIENTS (layer 12), by the code: Peek, Take, Feed, Begin, New.
-/
namespace Go.Proofs.YtdjjpbbhcidaaaaGreatDoor
open Go Go.RK

abbrev sy5 : List UInt8 := [83, 0, 0, 0, 4]
abbrev feed21 : List UInt8 := helloL ++ sy5
section
variable {h h' : Heap} {b cb fb : Nat} {v w : Value}
theorem ClB.ne {bg ty : Bool} {l : List UInt8} (c : ClB h cb fb bg) (k : Fw h fb ty v l) : cb ≠ fb ∧ ∀ q, v.ownBlock = some q → q ≠ cb := by
  unfold ClB at c
  exact ⟨fun e => by have := k.blk; rw [← e, c] at this; simp at this, fun q hq e => own_ne k.own c (by decide) (e ▸ hq)⟩
set_option maxHeartbeats 2000000 in
set_option maxRecDepth 100000 in
theorem cl_peek1 (hb : ClB h cb fb false) (k : Fw h fb false v feed21) : CallsH Tryz.prog 37 ⟨[.pointer (some ⟨cb, 0, none⟩)]⟩ h fun u h' => (∃ p, u = .agg ⟨itC 1 [In 196608, In 0, In 0, p] frN⟩ ∧ ∃ A n c, p = .slice A n c) ∧ ClB h' cb fb false ∧ Fw h' fb false v feed21 ∧ Ext (fun q => q = fb) h h' := by
  have kr := fun (g : Heap) (hb : ClB g cb fb false) => cl_ready hb
  have kp := fun (g : Heap) (k : Fw g fb false v feed21) => fw_peek k 0 16 rfl (by decide) (by decide) (by decide) (by decide)
  have ki := fun (g : Heap) (hb : ClB g cb fb false) (w : Value) (hw : Rd g w 1 12 (bys body5)) => cl_item1 hb (k := 0) hw
  have nf := (hb.ne k).1
  refine calls [(0, _)] Tryz.func37 rfl Tryz.ntmps37 rfl ⟨rfl, trivial⟩ ?_
  all_goals (refine WC.sr ?_)
  all_goals (refine WL.stepR (okE_alloc (fun w => Tryz.zeroValue71 w)) rfl rfl rfl ?_
             rintro _ h1 ⟨b1, rfl, hg1, hb1, hx1⟩
             have c1 : ClB h1 cb fb false := hx1.obj hb nos
             have k1 := k.ext0 hx1)
  all_goals (refine Gn ?_)
  all_goals (refine WC.seq ?_)
  all_goals (refine WC.sr ?_)
  all_goals (refine Go ?_)
  all_goals (refine WL.call (vs := [_]) rfl (fun a w => Tryz.call71 a w) rfl (kr _ c1) rfl rfl rfl ?_
             rintro _ hq ⟨rfl, hz⟩
             replace hz := hz.symm
             subst hz)
  all_goals (refine Go ?_)
  all_goals (refine goC 1 2 ?_ ?_ <;> first | exact ⟨⟩ | refine Hb.mk fun hb => ?_ | skip)
  all_goals (first | (fail_if_success refine goB 1 ?_) | (
  refine goB 1 ?_
  all_goals (refine WC.sr ?_)
  all_goals (refine WL.step (ok_buildF (vs := []) (cs := [_, _, _, _, _, _, _, _, _, _, _, _, _, _, _, _, _]) (fun | [] => [(.int .i64 0), (.int .i64 0), (.int .i64 0), (.int .i64 0), (.slice none 0 0), (.int .u8 0), (.int .u8 0), (St []), (St []), (St []), (.slice none 0 0), (.slice none 0 0), (.slice none 0 0), (.slice none 0 0), (.int .i64 0), (St []), (St [])] | _ => []) rfl rfl (by kernel_rfl)) rfl rfl rfl ?_)
  all_goals (refine WL.stepR0 (okE_storeW (fun w => Tryz.sizeOf71 w) rfl rfl rfl (by assumption) rfl (by simp [Value.oneCell'])) rfl rfl ?_
             rintro _ h1 ⟨hb1, hx1⟩)
  all_goals (refine Gn ?_)
  all_goals (refine Gs [(2, _)] ?_)
  all_goals (refine WC.ret ?_)
  all_goals (repeat' (with_reducible first | refine thenP_r ?_ | refine blockP_r ?_))
  all_goals (refine retP_1 _ ⟨⟨_, rfl, ld_blk (fun w => Tryz.isAgg71 w) (fun w => Tryz.sizeOf71 w) (by assumption) rfl⟩, trivial⟩ ?_)
  all_goals (exact ⟨⟨_, rfl, _, _, _, rfl⟩, hx4.obj cl3 (fun e => by omega), k3.ext hx4 (fun e => by omega) (fun q hq e => own_ne k3.own hb13 (by decide) (e ▸ hq)), X4⟩)
  skip))
  all_goals (first | (fail_if_success refine goB 2 ?_) | (
  refine goB 2 ?_
  all_goals (refine WC.skip ?_)
  skip))
  all_goals (refine Gn ?_)
  all_goals (refine WC.sr ?_)
  all_goals (refine Go ?_)
  all_goals (refine WL.step (ok_nilCheck rfl) rfl rfl rfl ?_)
  all_goals (refine Go ?_)
  all_goals (refine WL.ld rfl (by first | exact cell_blk c1 rfl | assumption | exact cell_blk (by assumption) rfl) rfl rfl rfl ?_)
  all_goals (refine WL.call (vs := [_]) rfl (fun a w => Tryz.call47 a w) rfl (kp _ k1) rfl rfl rfl ?_
             rintro _ h2 ⟨w2, rfl, ho2, k2, hx2, hf2⟩
             have ho2 : Own h2 w2 5 1 12 (bys body5) := ho2
             obtain ⟨A2, c2, rfl, _⟩ := id ho2.slice
             have cl2 : ClB h2 cb fb false := hx2.obj c1 nf
             have hb12 := hx2.obj hb1 (fun e => by have := lt_of_some k.blk; omega))
  all_goals (refine Go ?_)
  all_goals (refine WL.call (vs := [_, _, _, _]) rfl (fun a w => Tryz.call72 a w) rfl (ki _ cl2 _ ho2.rd) rfl rfl rfl ?_
             rintro _ h3 ⟨p3, rfl, hx3, A3, n3, c3, rfl⟩
             have hb13 := hx3.obj hb12 nos
             have k3 := k2.ext0 hx3
             have cl3 : ClB h3 cb fb false := hx3.obj cl2 nos)
  all_goals (refine WL.stepR0 (okE_storeW (fun w => Tryz.sizeOf71 w) rfl rfl rfl hb13 rfl (by simp [itC, Value.oneCell'])) rfl rfl ?_
             rintro _ h4 ⟨hb4, hx4⟩
             have X4 : Ext (fun q => q = fb) h h4 := ((hx1.mono fun _ _ e => e.elim).trans (hx2.trans (hx3.mono fun _ _ e => e.elim))).trans' hx4 (fun q hq e => by omega)
             have l1 := lt_of_some hb
             have l2 := lt_of_some k.blk)
  all_goals (refine Gn ?_)
  all_goals (refine Gs [(2, _)] ?_)
  all_goals (refine WC.ret ?_)
  all_goals (repeat' (with_reducible first | refine thenP_r ?_ | refine blockP_r ?_))
  all_goals (refine retP_1 _ ⟨⟨_, rfl, ld_blk (fun w => Tryz.isAgg71 w) (fun w => Tryz.sizeOf71 w) (by assumption) rfl⟩, trivial⟩ ?_)
  all_goals (exact ⟨⟨_, rfl, _, _, _, rfl⟩, hx4.obj cl3 (fun e => by omega), k3.ext hx4 (fun e => by omega) (fun q hq e => own_ne k3.own hb13 (by decide) (e ▸ hq)), X4⟩)
set_option maxHeartbeats 2000000 in
set_option maxRecDepth 100000 in
theorem cl_take1 (hb : ClB h cb fb false) (k : Fw h fb false v feed21) : CallsH Tryz.prog 38 ⟨[.pointer (some ⟨cb, 0, none⟩)]⟩ h fun _ h' => ∃ v', ClB h' cb fb false ∧ Fw h' fb false v' sy5 ∧ Ext (fun q => q = fb ∨ v.ownBlock = some q) h h' ∧ v'.ownBlock = v.ownBlock := by
  have kr := fun (g : Heap) (hb : ClB g cb fb false) => cl_ready hb
  have kp := fun (g : Heap) (k : Fw g fb false v feed21) => fw_next k 0 16 rfl (by decide) (by decide) (by decide) (by decide)
  have ki := fun (g : Heap) (hb : ClB g cb fb false) (w : Value) (hw : Rd g w 1 12 (bys body5)) => cl_item1 hb (k := 0) hw
  obtain ⟨nf, nv⟩ := hb.ne k
  have hlt : ∀ q, v.ownBlock = some q → q < h.size := fun q hq => k.own.lt hq
  have l1 := lt_of_some hb
  have l2 := lt_of_some k.blk
  refine calls [(0, _)] Tryz.func38 rfl Tryz.ntmps38 rfl ⟨rfl, trivial⟩ ?_
  all_goals (refine WC.sr ?_)
  all_goals (refine WL.stepR (okE_alloc (fun w => Tryz.zeroValue71 w)) rfl rfl rfl ?_
             rintro _ h1 ⟨b1, rfl, hg1, hb1, hx1⟩
             have c1 : ClB h1 cb fb false := hx1.obj hb nos
             have k1 := k.ext0 hx1)
  all_goals (refine Gn ?_)
  all_goals (refine WC.seq ?_)
  all_goals (refine WC.sr ?_)
  all_goals (refine Go ?_)
  all_goals (refine WL.call (vs := [_]) rfl (fun a w => Tryz.call71 a w) rfl (kr _ c1) rfl rfl rfl ?_
             rintro _ hq ⟨rfl, hz⟩
             replace hz := hz.symm
             subst hz)
  all_goals (refine Go ?_)
  all_goals (refine goC 1 2 ?_ ?_ <;> first | exact ⟨⟩ | refine Hb.mk fun hb => ?_ | skip)
  all_goals (first | (fail_if_success refine goB 1 ?_) | (
  refine goB 1 ?_
  all_goals (refine WC.sr ?_)
  all_goals (refine WL.step (ok_buildF (vs := []) (cs := [_, _, _, _, _, _, _, _, _, _, _, _, _, _, _, _, _]) (fun | [] => [(.int .i64 0), (.int .i64 0), (.int .i64 0), (.int .i64 0), (.slice none 0 0), (.int .u8 0), (.int .u8 0), (St []), (St []), (St []), (.slice none 0 0), (.slice none 0 0), (.slice none 0 0), (.slice none 0 0), (.int .i64 0), (St []), (St [])] | _ => []) rfl rfl (by kernel_rfl)) rfl rfl rfl ?_)
  all_goals (refine WL.stepR0 (okE_storeW (fun w => Tryz.sizeOf71 w) rfl rfl rfl (by assumption) rfl (by simp [Value.oneCell'])) rfl rfl ?_
             rintro _ h1 ⟨hb1, hx1⟩)
  all_goals (refine Gn ?_)
  all_goals (refine Gs [(2, _)] ?_)
  all_goals (refine WC.ret ?_)
  all_goals (repeat' (with_reducible first | refine thenP_r ?_ | refine blockP_r ?_))
  all_goals (refine retP_1 _ ⟨⟨_, rfl, ld_blk (fun w => Tryz.isAgg71 w) (fun w => Tryz.sizeOf71 w) (by assumption) rfl⟩, trivial⟩ ?_)
  all_goals (exact ⟨v2, hx4.obj cl3 (fun e => by omega), k3.ext hx4 (fun e => by omega) (fun q hq e => own_ne k3.own hb13 (by decide) (e ▸ hq)), X4, hv2⟩)
  skip))
  all_goals (first | (fail_if_success refine goB 2 ?_) | (
  refine goB 2 ?_
  all_goals (refine WC.skip ?_)
  skip))
  all_goals (refine Gn ?_)
  all_goals (refine WC.sr ?_)
  all_goals (refine Go ?_)
  all_goals (refine WL.step (ok_nilCheck rfl) rfl rfl rfl ?_)
  all_goals (refine Go ?_)
  all_goals (refine WL.ld rfl (by first | exact cell_blk c1 rfl | assumption | exact cell_blk (by assumption) rfl) rfl rfl rfl ?_)
  all_goals (refine WL.call (vs := [_]) rfl (fun a w => Tryz.call23 a w) rfl (kp _ k1) rfl rfl rfl ?_
             rintro _ h2 ⟨w2, v2, rfl, ho2, k2, hx2, hf2, hv2⟩
             have ho2 : Own h2 w2 5 1 12 (bys body5) := ho2
             have k2 : Fw h2 fb false v2 sy5 := k2
             obtain ⟨A2, c2, rfl, _⟩ := id ho2.slice
             have cl2 : ClB h2 cb fb false := hx2.obj c1 (fun e => e.elim nf (fun e => nv _ e rfl))
             have hb12 := hx2.obj hb1 (fun e => by rcases e with e | e; omega; have := hlt _ e; omega))
  all_goals (refine Go ?_)
  all_goals (refine WL.call (vs := [_, _, _, _]) rfl (fun a w => Tryz.call72 a w) rfl (ki _ cl2 _ ho2.rd) rfl rfl rfl ?_
             rintro _ h3 ⟨p3, rfl, hx3, A3, n3, c3, rfl⟩
             have hb13 := hx3.obj hb12 nos
             have k3 := k2.ext0 hx3
             have cl3 : ClB h3 cb fb false := hx3.obj cl2 nos)
  all_goals (refine WL.stepR0 (okE_storeW (fun w => Tryz.sizeOf71 w) rfl rfl rfl hb13 rfl (by simp [itC, Value.oneCell'])) rfl rfl ?_
             rintro _ h4 ⟨hb4, hx4⟩
             have X4 : Ext (fun q => q = fb ∨ v.ownBlock = some q) h h4 := ((hx1.mono fun _ _ e => e.elim).trans (hx2.trans (hx3.mono fun _ _ e => e.elim))).trans' hx4 (fun q hq e => by omega))
  all_goals (refine Gn ?_)
  all_goals (refine Gs [(2, _)] ?_)
  all_goals (refine WC.ret ?_)
  all_goals (repeat' (with_reducible first | refine thenP_r ?_ | refine blockP_r ?_))
  all_goals (refine retP_1 _ ⟨⟨_, rfl, ld_blk (fun w => Tryz.isAgg71 w) (fun w => Tryz.sizeOf71 w) (by assumption) rfl⟩, trivial⟩ ?_)
  all_goals (exact ⟨v2, hx4.obj cl3 (fun e => by omega), k3.ext hx4 (fun e => by omega) (fun q hq e => own_ne k3.own hb13 (by decide) (e ▸ hq)), X4, hv2⟩)
set_option maxHeartbeats 2000000 in
set_option maxRecDepth 100000 in
theorem cl_peek2 (hb : ClB h cb fb true) (k : Fw h fb true v sy5) : CallsH Tryz.prog 37 ⟨[.pointer (some ⟨cb, 0, none⟩)]⟩ h fun u h' => u = .agg ⟨itC 2 heZ syC⟩ ∧ ClB h' cb fb true ∧ Fw h' fb true v sy5 ∧ Ext (fun q => q = fb) h h' := by
  have kr := fun (g : Heap) (hb : ClB g cb fb true) => cl_ready hb
  have kp := fun (g : Heap) (k : Fw g fb true v sy5) => fw_peek k 1 4 rfl (by decide) (by decide) (by decide) (by decide)
  have ki := fun (g : Heap) (hb : ClB g cb fb true) (w : Value) (hw : Rd g w 1 0 (bys [])) => cl_item2 hb hw
  have nf := (hb.ne k).1
  refine calls [(0, _)] Tryz.func37 rfl Tryz.ntmps37 rfl ⟨rfl, trivial⟩ ?_
  all_goals (refine WC.sr ?_)
  all_goals (refine WL.stepR (okE_alloc (fun w => Tryz.zeroValue71 w)) rfl rfl rfl ?_
             rintro _ h1 ⟨b1, rfl, hg1, hb1, hx1⟩
             have c1 : ClB h1 cb fb true := hx1.obj hb nos
             have k1 := k.ext0 hx1)
  all_goals (refine Gn ?_)
  all_goals (refine WC.seq ?_)
  all_goals (refine WC.sr ?_)
  all_goals (refine Go ?_)
  all_goals (refine WL.call (vs := [_]) rfl (fun a w => Tryz.call71 a w) rfl (kr _ c1) rfl rfl rfl ?_
             rintro _ hq ⟨rfl, hz⟩
             replace hz := hz.symm
             subst hz)
  all_goals (refine Go ?_)
  all_goals (refine goC 1 2 ?_ ?_ <;> first | exact ⟨⟩ | refine Hb.mk fun hb => ?_ | skip)
  all_goals (first | (fail_if_success refine goB 1 ?_) | (
  refine goB 1 ?_
  all_goals (refine WC.sr ?_)
  all_goals (refine WL.step (ok_buildF (vs := []) (cs := [_, _, _, _, _, _, _, _, _, _, _, _, _, _, _, _, _]) (fun | [] => [(.int .i64 0), (.int .i64 0), (.int .i64 0), (.int .i64 0), (.slice none 0 0), (.int .u8 0), (.int .u8 0), (St []), (St []), (St []), (.slice none 0 0), (.slice none 0 0), (.slice none 0 0), (.slice none 0 0), (.int .i64 0), (St []), (St [])] | _ => []) rfl rfl (by kernel_rfl)) rfl rfl rfl ?_)
  all_goals (refine WL.stepR0 (okE_storeW (fun w => Tryz.sizeOf71 w) rfl rfl rfl (by assumption) rfl (by simp [Value.oneCell'])) rfl rfl ?_
             rintro _ h1 ⟨hb1, hx1⟩)
  all_goals (refine Gn ?_)
  all_goals (refine Gs [(2, _)] ?_)
  all_goals (refine WC.ret ?_)
  all_goals (repeat' (with_reducible first | refine thenP_r ?_ | refine blockP_r ?_))
  all_goals (refine retP_1 _ ⟨⟨_, rfl, ld_blk (fun w => Tryz.isAgg71 w) (fun w => Tryz.sizeOf71 w) (by assumption) rfl⟩, trivial⟩ ?_)
  all_goals (exact ⟨rfl, hx4.obj cl3 (fun e => by omega), k3.ext hx4 (fun e => by omega) (fun q hq e => own_ne k3.own hb13 (by decide) (e ▸ hq)), X4⟩)
  skip))
  all_goals (first | (fail_if_success refine goB 2 ?_) | (
  refine goB 2 ?_
  all_goals (refine WC.skip ?_)
  skip))
  all_goals (refine Gn ?_)
  all_goals (refine WC.sr ?_)
  all_goals (refine Go ?_)
  all_goals (refine WL.step (ok_nilCheck rfl) rfl rfl rfl ?_)
  all_goals (refine Go ?_)
  all_goals (refine WL.ld rfl (by first | exact cell_blk c1 rfl | assumption | exact cell_blk (by assumption) rfl) rfl rfl rfl ?_)
  all_goals (refine WL.call (vs := [_]) rfl (fun a w => Tryz.call47 a w) rfl (kp _ k1) rfl rfl rfl ?_
             rintro _ h2 ⟨w2, rfl, ho2, k2, hx2, hf2⟩
             have ho2 : Own h2 w2 5 1 0 (bys []) := ho2
             obtain ⟨A2, c2, rfl, _⟩ := id ho2.slice
             have cl2 : ClB h2 cb fb true := hx2.obj c1 nf
             have hb12 := hx2.obj hb1 (fun e => by have := lt_of_some k.blk; omega))
  all_goals (refine Go ?_)
  all_goals (refine WL.call (vs := [_, _, _, _]) rfl (fun a w => Tryz.call72 a w) rfl (ki _ cl2 _ ho2.rd) rfl rfl rfl ?_
             rintro _ h3 ⟨rfl, hx3⟩
             have hb13 := hx3.obj hb12 nos
             have k3 := k2.ext0 hx3
             have cl3 : ClB h3 cb fb true := hx3.obj cl2 nos)
  all_goals (refine WL.stepR0 (okE_storeW (fun w => Tryz.sizeOf71 w) rfl rfl rfl hb13 rfl (by simp [itC, Value.oneCell'])) rfl rfl ?_
             rintro _ h4 ⟨hb4, hx4⟩
             have X4 : Ext (fun q => q = fb) h h4 := ((hx1.mono fun _ _ e => e.elim).trans (hx2.trans (hx3.mono fun _ _ e => e.elim))).trans' hx4 (fun q hq e => by omega)
             have l1 := lt_of_some hb
             have l2 := lt_of_some k.blk)
  all_goals (refine Gn ?_)
  all_goals (refine Gs [(2, _)] ?_)
  all_goals (refine WC.ret ?_)
  all_goals (repeat' (with_reducible first | refine thenP_r ?_ | refine blockP_r ?_))
  all_goals (refine retP_1 _ ⟨⟨_, rfl, ld_blk (fun w => Tryz.isAgg71 w) (fun w => Tryz.sizeOf71 w) (by assumption) rfl⟩, trivial⟩ ?_)
  all_goals (exact ⟨rfl, hx4.obj cl3 (fun e => by omega), k3.ext hx4 (fun e => by omega) (fun q hq e => own_ne k3.own hb13 (by decide) (e ▸ hq)), X4⟩)
set_option maxHeartbeats 2000000 in
set_option maxRecDepth 100000 in
theorem cl_take2 (hb : ClB h cb fb true) (k : Fw h fb true v sy5) : CallsH Tryz.prog 38 ⟨[.pointer (some ⟨cb, 0, none⟩)]⟩ h fun _ h' => ∃ v', ClB h' cb fb true ∧ Fw h' fb true v' [] ∧ Ext (fun q => q = fb ∨ v.ownBlock = some q) h h' ∧ v'.ownBlock = v.ownBlock := by
  have kr := fun (g : Heap) (hb : ClB g cb fb true) => cl_ready hb
  have kp := fun (g : Heap) (k : Fw g fb true v sy5) => fw_next k 1 4 rfl (by decide) (by decide) (by decide) (by decide)
  have ki := fun (g : Heap) (hb : ClB g cb fb true) (w : Value) (hw : Rd g w 1 0 (bys [])) => cl_item2 hb hw
  obtain ⟨nf, nv⟩ := hb.ne k
  have hlt : ∀ q, v.ownBlock = some q → q < h.size := fun q hq => k.own.lt hq
  have l1 := lt_of_some hb
  have l2 := lt_of_some k.blk
  refine calls [(0, _)] Tryz.func38 rfl Tryz.ntmps38 rfl ⟨rfl, trivial⟩ ?_
  all_goals (refine WC.sr ?_)
  all_goals (refine WL.stepR (okE_alloc (fun w => Tryz.zeroValue71 w)) rfl rfl rfl ?_
             rintro _ h1 ⟨b1, rfl, hg1, hb1, hx1⟩
             have c1 : ClB h1 cb fb true := hx1.obj hb nos
             have k1 := k.ext0 hx1)
  all_goals (refine Gn ?_)
  all_goals (refine WC.seq ?_)
  all_goals (refine WC.sr ?_)
  all_goals (refine Go ?_)
  all_goals (refine WL.call (vs := [_]) rfl (fun a w => Tryz.call71 a w) rfl (kr _ c1) rfl rfl rfl ?_
             rintro _ hq ⟨rfl, hz⟩
             replace hz := hz.symm
             subst hz)
  all_goals (refine Go ?_)
  all_goals (refine goC 1 2 ?_ ?_ <;> first | exact ⟨⟩ | refine Hb.mk fun hb => ?_ | skip)
  all_goals (first | (fail_if_success refine goB 1 ?_) | (
  refine goB 1 ?_
  all_goals (refine WC.sr ?_)
  all_goals (refine WL.step (ok_buildF (vs := []) (cs := [_, _, _, _, _, _, _, _, _, _, _, _, _, _, _, _, _]) (fun | [] => [(.int .i64 0), (.int .i64 0), (.int .i64 0), (.int .i64 0), (.slice none 0 0), (.int .u8 0), (.int .u8 0), (St []), (St []), (St []), (.slice none 0 0), (.slice none 0 0), (.slice none 0 0), (.slice none 0 0), (.int .i64 0), (St []), (St [])] | _ => []) rfl rfl (by kernel_rfl)) rfl rfl rfl ?_)
  all_goals (refine WL.stepR0 (okE_storeW (fun w => Tryz.sizeOf71 w) rfl rfl rfl (by assumption) rfl (by simp [Value.oneCell'])) rfl rfl ?_
             rintro _ h1 ⟨hb1, hx1⟩)
  all_goals (refine Gn ?_)
  all_goals (refine Gs [(2, _)] ?_)
  all_goals (refine WC.ret ?_)
  all_goals (repeat' (with_reducible first | refine thenP_r ?_ | refine blockP_r ?_))
  all_goals (refine retP_1 _ ⟨⟨_, rfl, ld_blk (fun w => Tryz.isAgg71 w) (fun w => Tryz.sizeOf71 w) (by assumption) rfl⟩, trivial⟩ ?_)
  all_goals (exact ⟨v2, hx4.obj cl3 (fun e => by omega), k3.ext hx4 (fun e => by omega) (fun q hq e => own_ne k3.own hb13 (by decide) (e ▸ hq)), X4, hv2⟩)
  skip))
  all_goals (first | (fail_if_success refine goB 2 ?_) | (
  refine goB 2 ?_
  all_goals (refine WC.skip ?_)
  skip))
  all_goals (refine Gn ?_)
  all_goals (refine WC.sr ?_)
  all_goals (refine Go ?_)
  all_goals (refine WL.step (ok_nilCheck rfl) rfl rfl rfl ?_)
  all_goals (refine Go ?_)
  all_goals (refine WL.ld rfl (by first | exact cell_blk c1 rfl | assumption | exact cell_blk (by assumption) rfl) rfl rfl rfl ?_)
  all_goals (refine WL.call (vs := [_]) rfl (fun a w => Tryz.call23 a w) rfl (kp _ k1) rfl rfl rfl ?_
             rintro _ h2 ⟨w2, v2, rfl, ho2, k2, hx2, hf2, hv2⟩
             have ho2 : Own h2 w2 5 1 0 (bys []) := ho2
             have k2 : Fw h2 fb true v2 [] := k2
             obtain ⟨A2, c2, rfl, _⟩ := id ho2.slice
             have cl2 : ClB h2 cb fb true := hx2.obj c1 (fun e => e.elim nf (fun e => nv _ e rfl))
             have hb12 := hx2.obj hb1 (fun e => by rcases e with e | e; omega; have := hlt _ e; omega))
  all_goals (refine Go ?_)
  all_goals (refine WL.call (vs := [_, _, _, _]) rfl (fun a w => Tryz.call72 a w) rfl (ki _ cl2 _ ho2.rd) rfl rfl rfl ?_
             rintro _ h3 ⟨rfl, hx3⟩
             have hb13 := hx3.obj hb12 nos
             have k3 := k2.ext0 hx3
             have cl3 : ClB h3 cb fb true := hx3.obj cl2 nos)
  all_goals (refine WL.stepR0 (okE_storeW (fun w => Tryz.sizeOf71 w) rfl rfl rfl hb13 rfl (by simp [itC, Value.oneCell'])) rfl rfl ?_
             rintro _ h4 ⟨hb4, hx4⟩
             have X4 : Ext (fun q => q = fb ∨ v.ownBlock = some q) h h4 := ((hx1.mono fun _ _ e => e.elim).trans (hx2.trans (hx3.mono fun _ _ e => e.elim))).trans' hx4 (fun q hq e => by omega))
  all_goals (refine Gn ?_)
  all_goals (refine Gs [(2, _)] ?_)
  all_goals (refine WC.ret ?_)
  all_goals (repeat' (with_reducible first | refine thenP_r ?_ | refine blockP_r ?_))
  all_goals (refine retP_1 _ ⟨⟨_, rfl, ld_blk (fun w => Tryz.isAgg71 w) (fun w => Tryz.sizeOf71 w) (by assumption) rfl⟩, trivial⟩ ?_)
  all_goals (exact ⟨v2, hx4.obj cl3 (fun e => by omega), k3.ext hx4 (fun e => by omega) (fun q hq e => own_ne k3.own hb13 (by decide) (e ▸ hq)), X4, hv2⟩)
set_option maxHeartbeats 2000000 in
set_option maxRecDepth 100000 in
theorem cl_feed {ty bg : Bool} {l m : List UInt8} (hb : ClB h cb fb bg) (kf : Fw h fb ty v l) (hr : Rd h w 1 m.length (bys m)) (hl : l.length + m.length ≤ 262144) :
    CallsH Tryz.prog 36 ⟨[.pointer (some ⟨cb, 0, none⟩), w]⟩ h fun u h' => u = In 0 ∧ ∃ v', Fw h' fb ty v' (l ++ m) ∧ Ext (fun q => q = fb ∨ v.ownBlock = some q) h h' ∧ ∀ q, v'.ownBlock = some q → v.ownBlock = some q ∨ h.size ≤ q := by
  have kr := cl_ready hb
  obtain ⟨A, c, rfl, _⟩ := id hr
  refine calls [(0, _), (1, _)] Tryz.func36 rfl Tryz.ntmps36 rfl ⟨rfl, rfl, trivial⟩ ?_
  all_goals (refine WC.sr ?_)
  all_goals (refine Go ?_)
  all_goals (refine WC.seq ?_)
  all_goals (refine WC.sr ?_)
  all_goals (refine Go ?_)
  all_goals (refine WL.call (vs := [_]) rfl (fun a w => Tryz.call71 a w) rfl (kr) rfl rfl rfl ?_
             rintro _ hq ⟨rfl, hz⟩
             replace hz := hz.symm
             subst hz)
  all_goals (refine Go ?_)
  all_goals (refine goC 1 2 ?_ ?_ <;> first | exact ⟨⟩ | refine Hb.mk fun hb => ?_ | skip)
  all_goals (first | (fail_if_success refine goB 1 ?_) | (
  refine goB 1 ?_
  all_goals (refine WC.sr ?_)
  all_goals (refine Go ?_)
  all_goals (refine Gs [(4, _)] ?_)
  all_goals (refine Gt ?_)
  all_goals (exact ⟨rfl, v2, kf2, hx2, hf2⟩)
  skip))
  all_goals (first | (fail_if_success refine goB 2 ?_) | (
  refine goB 2 ?_
  all_goals (refine WC.skip ?_)
  skip))
  all_goals (refine Gn ?_)
  all_goals (refine Gs [(0, _), (1, _)] ?_)
  all_goals (refine WC.sr ?_)
  all_goals (refine Go ?_)
  all_goals (refine WL.step (ok_nilCheck rfl) rfl rfl rfl ?_)
  all_goals (refine Go ?_)
  all_goals (refine WL.ld rfl (by first | exact cell_blk hb rfl | assumption | exact cell_blk (by assumption) rfl) rfl rfl rfl ?_)
  all_goals (refine Go ?_)
  all_goals (refine WL.call (vs := [_, _]) rfl (fun a w => Tryz.call31 a w) rfl (fw_feed kf m hr hl) rfl rfl rfl ?_
             rintro _ h2 ⟨rfl, v2, kf2, hx2, hf2⟩)
  all_goals (refine Go ?_)
  all_goals (refine Gs [(4, _)] ?_)
  all_goals (refine Gt ?_)
  all_goals (exact ⟨rfl, v2, kf2, hx2, hf2⟩)
set_option maxHeartbeats 2000000 in
set_option maxRecDepth 100000 in
theorem cl_begin {l : List UInt8} (hb : ClB h cb fb false) (kf : Fw h fb false v l) : CallsH Tryz.prog 74 ⟨[.pointer (some ⟨cb, 0, none⟩)]⟩ h fun _ h' => ClB h' cb fb true ∧ Fw h' fb true v l ∧ Ext (fun q => q = cb ∨ q = fb) h h' := by
  have kr := cl_ready hb
  obtain ⟨nf, nv⟩ := hb.ne kf
  refine calls [(0, _)] Tryz.func74 rfl Tryz.ntmps74 rfl ⟨rfl, trivial⟩ ?_
  all_goals (refine WC.sr ?_)
  all_goals (refine Go ?_)
  all_goals (refine WL.call (vs := [_]) rfl (fun a w => Tryz.call71 a w) rfl (kr) rfl rfl rfl ?_
             rintro _ hq ⟨rfl, hz⟩
             replace hz := hz.symm
             subst hz)
  all_goals (refine Gn ?_)
  all_goals (refine goC 1 2 ?_ ?_ <;> first | exact ⟨⟩ | refine Hb.mk fun hb => ?_ | skip)
  all_goals (first | (fail_if_success refine goB 1 ?_) | (
  refine goB 1 ?_
  all_goals (refine WC.sr ?_)
  all_goals (refine Go ?_)
  all_goals (refine WL.step (ok_nilCheck rfl) rfl rfl rfl ?_)
  all_goals (refine Go ?_)
  all_goals (refine WL.stepR0 (okE_store (fun w => Tryz.sizeOf4 w) rfl rfl hb (Nat.le_of_ble_eq_true rfl) rfl rfl) rfl rfl ?_
             rintro _ h1 ⟨hb1, hx1⟩
             have c1 : ClB h1 cb fb true := hb1
             have k1 := kf.ext hx1 (fun e => nf e.symm) nv)
  all_goals (refine Gn ?_)
  all_goals (refine Gs [(0, _)] ?_)
  all_goals (refine WC.region ?_)
  all_goals (refine Go ?_)
  all_goals (refine WL.step (ok_nilCheck rfl) rfl rfl rfl ?_)
  all_goals (refine Go ?_)
  all_goals (refine WL.ld rfl (by first | exact cell_blk hb1 rfl | assumption | exact cell_blk (by assumption) rfl) rfl rfl rfl ?_)
  all_goals (refine WL.call (vs := [_]) rfl (fun a w => Tryz.call53 a w) rfl (fw_begin k1) rfl rfl rfl ?_
             rintro _ h2 ⟨rfl, k2, hx2⟩)
  all_goals (refine Gn ?_)
  skip))
  all_goals (first | (fail_if_success refine goB 2 ?_) | (
  refine goB 2 ?_
  all_goals (refine WC.skip ?_)
  skip))
  all_goals (refine Gn ?_)
  all_goals (refine retP_n [] trivial ?_)
  all_goals (exact ⟨hx2.obj c1 nf, k2, (hx1.mono fun _ _ e => .inl e).trans (hx2.mono fun _ _ e => .inr e)⟩)
set_option maxHeartbeats 2000000 in
set_option maxRecDepth 100000 in
theorem cl_new : CallsH Tryz.prog 76 ⟨[In 65536, In 262144]⟩ h fun u h' => ∃ cb fb, u = .tuple ⟨[.pointer (some ⟨cb, 0, none⟩), In 0]⟩ ∧ ClB h' cb fb false ∧ Fw h' fb false (.slice none 0 0) [] ∧ h.size ≤ cb ∧ h.size ≤ fb ∧ Ext No h h' := by
  refine calls [(0, _), (1, _)] Tryz.func76 rfl Tryz.ntmps76 rfl ⟨rfl, rfl, trivial⟩ ?_
  all_goals (refine WC.sr ?_)
  all_goals (refine Go ?_)
  all_goals (refine WC.sr ?_)
  all_goals (refine Go ?_)
  all_goals (refine WL.call (vs := [_, _, _]) rfl (fun a w => Tryz.call66 a w) rfl (new_fw) rfl rfl rfl ?_
             rintro _ h1 ⟨fb, rfl, kf, hgf, hx1⟩)
  all_goals (refine Go ?_)
  all_goals (refine Gs [(6, _), (7, _)] ?_)
  all_goals (refine WC.seq ?_)
  all_goals (refine WC.sr ?_)
  all_goals (refine Go ?_)
  all_goals (refine goC 1 2 ?_ ?_ <;> first | exact ⟨⟩ | refine Hb.mk fun hb => ?_ | skip)
  all_goals (first | (fail_if_success refine goB 1 ?_) | (
  refine goB 1 ?_
  all_goals (refine WC.sr ?_)
  all_goals (refine Go ?_)
  all_goals (refine Gs [(4, _), (5, _)] ?_)
  all_goals (refine Gt ?_)
  all_goals (exact ⟨cb, fb, rfl, hb2, kf.ext0 hx2, by have := hx1.size; omega, hgf, hx1.trans hx2⟩)
  skip))
  all_goals (first | (fail_if_success refine goB 2 ?_) | (
  refine goB 2 ?_
  all_goals (refine WC.skip ?_)
  skip))
  all_goals (refine Gn ?_)
  all_goals (refine WC.sr ?_)
  all_goals (refine Go ?_)
  all_goals (refine WL.step (ok_buildF (vs := [_]) (cs := [_, _]) (fun | [a0] => [a0, (.bool false)] | _ => []) rfl rfl (by kernel_rfl)) rfl rfl rfl ?_)
  all_goals (refine WL.stepR (okE_box rfl) rfl rfl rfl ?_
             rintro _ h2 ⟨cb, rfl, hg2, hb2, hx2⟩)
  all_goals (refine Go ?_)
  all_goals (refine Gs [(4, _), (5, _)] ?_)
  all_goals (refine Gt ?_)
  all_goals (exact ⟨cb, fb, rfl, hb2, kf.ext0 hx2, by have := hx1.size; omega, hgf, hx1.trans hx2⟩)
end
end Go.Proofs.YtdjjpbbhcidaaaaGreatDoor


/-
  FRAMES (layer 4): a message's bytes, by the code and by the document.
-/
namespace Go.Proofs.YtdjjpbbhcidaaaaGreatDoor
open Go Go.RK

theorem byKf {k : Int} (h0 : 0 ≤ k) (h1 : k ≤ 255) : By (UInt8.ofNat k.toNat) = .int .u8 k := by
  show Value.int .u8 ((UInt8.ofNat k.toNat).toNat : Int) = .int .u8 k
  rw [UInt8.toNat_ofNat']
  congr 1
  omega
theorem rtFf {n : Int} (h : 0 ≤ n ∧ n ≤ 4294967295) : Rt n 4 := by
  unfold Rt
  rw [show (256 : Int) ^ 4 = 4294967296 from rfl]
  omega
/-- A message's bytes. -/
def frB (k : Int) (l : List UInt8) : List UInt8 := [UInt8.ofNat k.toNat] ++ be (4 + (l.length : Int)) 4 ++ l
theorem bys_app (l m : List UInt8) : bys (l ++ m) = bys l ++ bys m := List.map_append ..
theorem bys_one {k : Int} (hk : 0 ≤ k ∧ k ≤ 255) : bys [UInt8.ofNat k.toNat] = [.int .u8 k] := congrArg (fun z => [z]) (byKf hk.1 hk.2)
set_option maxHeartbeats 2000000 in
set_option maxRecDepth 100000 in
theorem frame_v {h : Heap} {v : Value} (k : Int) (hk : 0 < k ∧ k ≤ 255) (l : List UInt8) (hv : Rd h v 1 l.length (bys l)) (hl : l.length ≤ 1000000000) :
    CallsH Tryz.prog 75 ⟨[.agg ⟨[.int .u8 k, v]⟩]⟩ h fun u h' => Own h' u 5 1 (frB k l).length (bys (frB k l)) ∧ Ext No h h' := by
  obtain ⟨A, c, rfl, _⟩ := id hv
  refine calls [(0, _)] Tryz.func75 rfl Tryz.ntmps75 rfl ⟨rfl, trivial⟩ ?_
  all_goals (refine WC.sr ?_)
  all_goals (refine WL.stepR (okE_box rfl) rfl rfl rfl ?_
             rintro _ h1 ⟨b1, rfl, hg1, hb1, hx1⟩)
  all_goals (refine Go ?_)
  all_goals (refine WC.sr ?_)
  all_goals (refine Go ?_)
  all_goals (refine WC.seq ?_)
  all_goals (refine WC.sr ?_)
  all_goals (refine Go ?_)
  all_goals (refine Ld ?_)
  all_goals (refine Go ?_)
  all_goals (refine Gs [(1, _), (3, _), (6, _)] ?_)
  all_goals (refine goC 1 2 ?_ ?_ <;> first | exact ⟨⟩ | refine Hb.mk fun hb => ?_ | skip)
  all_goals (first | (fail_if_success refine goB 1 ?_) | (
  refine goB 1 ?_
  all_goals (refine WC.region ?_)
  all_goals (refine Go ?_)
  all_goals (refine Ld ?_)
  all_goals (refine WL.stepR (okE_buildSlice (vs := [_]) (cs := [_]) (fun | [a0] => [a0] | _ => []) Tryz.underlying22 rfl rfl (by kernel_rfl)) rfl rfl rfl ?_
             rintro _ h2 ⟨b2, rfl, hg2, hb2, hx2⟩)
  all_goals (have hb12 := hx2.obj hb1 nos
             have hX2 := hx1.trans hx2
             have hr2 : Rd h2 (.slice (some ⟨b2, 0, none⟩) 1 1) 1 ([UInt8.ofNat k.toNat] : List UInt8).length (bys [UInt8.ofNat k.toNat]) := by rw [bys_one (by omega)]; exact rd_blk hb2 rfl)
  all_goals (refine Go ?_)
  skip))
  all_goals (first | (fail_if_success refine goB 2 ?_) | (
  refine goB 2 ?_
  all_goals (refine WC.skip ?_)
  skip))
  all_goals (refine Gn ?_)
  all_goals (refine WC.seq ?_)
  all_goals (refine WC.drawH (fun h' => Ext No h2 h') 9 10 rfl fol ?_)
  all_goals (refine WH.tk 0 rfl (fun hq hC => ok_move rfl) rfl rfl rfl ?_)
  all_goals (refine WH.tk 1 rfl (fun hq hC => ok_fieldAddr rfl Tryz.underlying38 rfl (fun w => Tryz.sizeOf22 w)) rfl rfl rfl ?_)
  all_goals (refine WH.tk 2 rfl (fun hq hC => ok_load (fun w => Tryz.isAgg22 w) rfl (by first | exact hC.cell (by first | exact cell_blk hb12 rfl | assumption | exact cell_blk (by assumption) rfl) nos)) rfl rfl rfl ?_)
  all_goals (refine WH.tk 3 rfl (fun hq hC => ok_lenL rfl Tryz.underlying22 rfl) rfl rfl rfl ?_)
  all_goals (first | (refine WH.tk 4 rfl (fun hq hC => ok_addI rfl rfl (by omega)) rfl rfl rfl ?_) | (refine WH.tk 4 rfl (fun hq hC => ok_add rfl rfl) rfl rfl rfl ?_))
  all_goals (refine WH.tk 6 rfl (fun hq hC => ok_fieldAddr rfl Tryz.underlying38 rfl (fun w => Tryz.sizeOf22 w)) rfl rfl rfl ?_)
  all_goals (refine WH.tk 7 rfl (fun hq hC => ok_load (fun w => Tryz.isAgg22 w) rfl (by first | exact hC.cell (by first | exact cell_blk hb12 rfl | assumption | exact cell_blk (by assumption) rfl) nos)) rfl rfl rfl ?_)
  all_goals (refine WH.one 5 (by kernel_rfl) ?_)
  all_goals (refine Comes1.call (vs := [_, _, _]) rfl rfl (fun a w => Tryz.call123 a w) rfl (put_v [UInt8.ofNat k.toNat] (4 + (l.length : Int)) 4 (.inr (.inr rfl)) (rtFf ⟨by omega, by omega⟩) hr2 (by simp)) rfl rfl rfl ?_ (fun _ => by kernel_rfl)
             rintro v5 h5 ⟨ho5, hx5, hf5⟩)
  all_goals (refine ⟨fun _ => hx5, ?_⟩)
  all_goals (have hbl : ([UInt8.ofNat k.toNat] ++ be (4 + (l.length : Int)) 4).length = 5 := by simp [be_len])
  all_goals (refine WH.one 8 (by kernel_rfl) ?_)
  all_goals (refine Comes1.run rfl (ok_append (sz := 1) (bytes := 1) rfl Tryz.underlying22 (show Tryz.prog.info? 5 = some Tryz.t5 by kernel_rfl) rfl rfl rfl rfl (by decide) rfl rfl ho5 (hv.ext0 (hX2.trans hx5)) (by intro c hc; obtain ⟨b, _, rfl⟩ := List.mem_map.1 hc; rfl) (by simp only [maxLen]; omega) (by omega)) rfl rfl rfl ?_ (fun _ => by kernel_rfl)
             rintro v8 h8 ⟨ho8, hx8, hl8⟩)
  all_goals (refine ⟨fun _ => hx5.trans' hx8 (fun q hq e => by have := hf5 q e; omega), ?_⟩)
  all_goals (have hX8 := hx5.trans' hx8 (fun q hq e => by have := hf5 q e; omega))
  all_goals (refine WH.one 9 (by kernel_rfl) ?_)
  all_goals (refine Comes1.run rfl (OkP.r (ok_assign rfl)) rfl rfl rfl ?_ (fun _ => by kernel_rfl)
             rintro _ hz ⟨rfl, _⟩
             subst hz)
  all_goals (refine ⟨fun _ => hX8, ?_⟩)
  all_goals (refine WH.done (by kernel_rfl) ?_)
  all_goals (refine Gn ?_)
  all_goals (refine Gs [(2, _)] ?_)
  all_goals (refine Gt ?_)
  all_goals (exact ⟨by unfold frB; rw [List.length_append (bs := l), bys_app _ l]; exact ho8, hX2.trans hX8⟩)
end Go.Proofs.YtdjjpbbhcidaaaaGreatDoor


/-
  api.Back, and the document's compare of two of them.
-/
namespace Go.Proofs.YtdjjpbbhcidaaaaGreatDoor
open Go Go.RK

structure ColD where
  nm : List UInt8
  t : Int
  a : Int
  o : Int
  s : Int
  m : Int
  f : Int
deriving DecidableEq
def ColD.sca (c : ColD) : List Sca := [.s c.nm, .i .i64 c.t, .i .i64 c.a, .i .i64 c.o, .i .i64 c.s, .i .i64 c.m, .i .i64 c.f]
def ColD.cells (c : ColD) : List Value := [St c.nm, In c.t, In c.a, In c.o, In c.s, In c.m, In c.f]
theorem ColD.len (c : ColD) : c.cells.length = 7 := rfl
theorem ColD.inj (c d : ColD) : c.sca = d.sca ↔ c = d := by cases c; cases d; simp [ColD.sca]
structure FieldD where
  k : Int
  t : List UInt8
deriving DecidableEq
def FieldD.sca (c : FieldD) : List Sca := [.i .u8 c.k, .s c.t]
def FieldD.cells (c : FieldD) : List Value := [.int .u8 c.k, St c.t]
theorem FieldD.len (c : FieldD) : c.cells.length = 2 := rfl
theorem FieldD.inj (c d : FieldD) : c.sca = d.sca ↔ c = d := by cases c; cases d; simp [FieldD.sca]
structure Bk where
  kind : Int
  status : Int
  tag : List UInt8
  name : List UInt8
  value : List UInt8
  n : Int
  m : Int
  vo : Value
  oids : List Int
  vc : Value
  cols : List ColD
  vr : Value
  row : List Cel
  vf : Value
  fields : List FieldD
def Bk.cells (b : Bk) : List Value := [.int .u8 b.kind, .int .u8 b.status, St b.tag, St b.name, St b.value, In b.n, In b.m, b.vo, b.vc, b.vr, b.vf]
structure Bk.ok (h : Heap) (b : Bk) : Prop where
  oids : Rd h b.vo 1 b.oids.length (ints b.oids) ∧ b.oids.length ≤ maxLen
  cols : Rd h b.vc 7 b.cols.length (b.cols.flatMap ColD.cells) ∧ b.cols.length ≤ maxLen
  row : Cels h b.vr b.row
  fields : Rd h b.vf 2 b.fields.length (b.fields.flatMap FieldD.cells) ∧ b.fields.length ≤ maxLen
theorem Bk.ok.ext0 {h h' : Heap} {b : Bk} (k : b.ok h) (a : Ext No h h') : b.ok h' := ⟨⟨k.1.1.ext0 a, k.1.2⟩, ⟨k.2.1.ext0 a, k.2.2⟩, k.3.ext0 a, ⟨k.4.1.ext0 a, k.4.2⟩⟩
def Bk.pl (b : Bk) := (b.kind, b.status, b.tag, b.name, b.value, b.n, b.m, b.oids, b.cols, b.row.map Cel.pl, b.fields)

end Go.Proofs.YtdjjpbbhcidaaaaGreatDoor


/-
  back.Check, of messages that may be.
-/
namespace Go.Proofs.YtdjjpbbhcidaaaaGreatDoor
open Go Go.RK

/-- A bound. -/
structure BndD where
  n : Int
  lo : Int
  hi : Int
def BndD.cells (b : BndD) : List Value := [In b.n, In b.lo, In b.hi]
theorem BndD.len (b : BndD) : b.cells.length = 3 := rfl
def BndD.ok (b : BndD) : Prop := b.lo ≤ b.n ∧ b.n ≤ b.hi
set_option maxHeartbeats 2000000 in
set_option maxRecDepth 100000 in
theorem indexFunc_bnd {h : Heap} {v : Value} (l : List BndD) (p : BndD → Bool) {fk : Nat} {fs us : List Value} (hcf : ∀ (args : Array Value) (w : World), (callFunc fk args).run Tryz.prog w = .ok (.enter fk args) w) (hr : Rd h v 3 l.length (l.flatMap BndD.cells)) (hm : l.length ≤ maxLen)
    (hp : ∀ x ∈ l, ∀ h', Ext No h h' → CallsH Tryz.prog fk ⟨fs ++ [.agg ⟨BndD.cells x⟩] ++ us⟩ h' fun u h'' => u = .bool (p x) ∧ Ext No h' h'') :
    CallsH Tryz.prog 262 ⟨[v, .func (.func fk) ⟨fs⟩ ⟨us⟩]⟩ h fun u h' => u = In (idxP p l) ∧ Ext No h h' := by
  obtain ⟨A, c, rfl, _⟩ := id hr
  unfold maxLen at hm
  refine calls [(0, _), (1, _)] Tryz.func262 rfl Tryz.ntmps262 rfl ⟨rfl, rfl, trivial⟩ ?_
  all_goals (refine WC.sr ?_)
  all_goals (refine Go ?_)
  all_goals (refine WC.seq ?_)
  all_goals (refine WC.sr ?_)
  all_goals (refine Go ?_)
  all_goals (refine WC.block ?_)
  -- loop 0: slots that turn [8], that stay [0, 1, 7]
  all_goals (refine WC.loopG (X := Nat) (fun x => ([(8, In (x : Int))] : Fr)) [(0, _), (1, _), (7, _)] (fun k h' => Ext No h h' ∧ k ≤ l.length ∧ ∀ x ∈ l.take k, p x = false) (fun k => l.length - k) (0) ⟨rfl, rfl, rfl, rfl, trivial⟩ (by exact ⟨.refl _ _, Nat.zero_le _, by simp⟩) ?_)
  all_goals (rintro k h1 ⟨hx1, hk, hn⟩)
  all_goals (refine WC.sub [(8, _), (0, _), (1, _), (7, _)] ⟨rfl, rfl, rfl, rfl, trivial⟩ ?_)
  all_goals (refine WC.sr ?_)
  all_goals (refine Go ?_)
  all_goals (refine WC.seq ?_)
  all_goals (refine goC 1 2 ?_ ?_ <;> first | exact ⟨⟩ | refine Hb.mk fun hb => ?_ | skip)
  all_goals (first | (fail_if_success refine goB 1 ?_) | (
  refine goB 1 ?_
  all_goals (refine WC.skip ?_)
  skip))
  all_goals (first | (fail_if_success refine goB 2 ?_) | (
  refine goB 2 ?_
  all_goals (refine WC.exit ?_)
  all_goals (repeat' (with_reducible first | refine thenP_x ?_ | refine blockP_miss rfl ?_ | refine blockP_hit ?_ | refine blockP_n ?_ | refine thenP_n ?_))
  all_goals (refine Br.out (i := 1000) ?_)
  skip))
  all_goals (refine Gn ?_)
  all_goals (first | (refine Br.keep ?_) | (refine WC.seq ?_))
  all_goals (first | (refine Br.keep ?_) | (refine WC.block ?_))
  all_goals (first | (refine Br.keep ?_) | (refine WC.sr ?_))
  all_goals (refine Go ?_)
  all_goals (first | (refine Br.keep ?_) | (refine WC.sr ?_))
  all_goals (first | (refine Br.keep ?_) | (refine WL.step (ok_move rfl) rfl rfl rfl ?_))
  all_goals (first | (refine Br.keep ?_) | (refine WL.step (ok_move rfl) rfl rfl rfl ?_))
  all_goals (first
               | (refine Br.keep ?_)
               | (obtain ⟨b, o, hA, hbL, hat⟩ := Rd.at_ (hr.ext0 hx1) (by omega)
                  obtain ⟨y, hy⟩ : ∃ y, l[k]? = some y := ⟨_, List.getElem?_eq_getElem (by omega)⟩
                  have hc : At h1 b (o + k * 3) (BndD.cells y) := At.elem BndD.len hat hy))
  all_goals (first | (refine Br.keep ?_) | (refine WL.step (ok_move rfl) rfl rfl rfl ?_))
  all_goals (first | (refine Br.keep ?_) | (refine WL.step (ok_idxAddrA Tryz.underlying314 (fun w => Tryz.sizeOf287 w) rfl rfl rfl (by omega) (by first | rfl | assumption)) rfl rfl rfl ?_))
  all_goals (first | (refine Br.keep ?_) | (refine WL.step (ok_loadN (fun w => Tryz.isAgg287 w) (fun w => Tryz.sizeOf287 w) rfl rfl (by assumption)) rfl rfl rfl ?_))
  all_goals (first
               | (refine Br.keep ?_)
               | (refine WL.callT (vs := [_]) rfl rfl hcf rfl (hp y (List.mem_of_getElem? hy) h1 hx1) rfl rfl rfl ?_
                  rintro _ h2 ⟨rfl, hx2⟩))
  all_goals (first | (refine Br.keep ?_) | (cases hpy : p y))
  all_goals (refine Gn ?_)
  all_goals (first | (refine Br.keep ?_) | (refine Gs [(0, _), (1, _), (5, _), (7, _), (8, _), (16, _)] ?_))
  all_goals (first | (refine Br.keep ?_) | (refine goC 3 4 ?_ ?_ <;> first | exact ⟨⟩ | refine Hb.mk fun hb => ?_ | skip))
  all_goals (first | (fail_if_success refine goB 3 ?_) | (
  refine goB 3 ?_
  all_goals (refine WC.sr ?_)
  all_goals (refine Go ?_)
  all_goals (refine Gs [(4, _)] ?_)
  all_goals (refine Gt ?_)
  all_goals (first | exact ⟨by rw [idxP_no (by rw [List.take_of_length_le (by omega)] at hn; exact hn)], hx1⟩ | exact ⟨by rw [idxP_at hy hpy hn], hx1.trans hx2⟩)
  skip))
  all_goals (first | (fail_if_success refine goB 4 ?_) | (
  refine goB 4 ?_
  all_goals (refine WC.skip ?_)
  skip))
  all_goals (refine Gn ?_)
  all_goals (first | (refine Br.keep ?_) | (refine WC.region ?_))
  all_goals (refine Go ?_)
  all_goals (first | (refine Br.keep ?_) | (exact ⟨k + 1, ⟨rfl, rfl, rfl, rfl, trivial⟩, (by exact ⟨hx1.trans hx2, by omega, take_snoc_p hn hy hpy⟩), (by omega)⟩))
  all_goals (try (refine Br.mk (i := 1000) ?_))
  all_goals (refine Gn ?_)
  all_goals (refine Gs [] ?_)
  all_goals (refine WC.sr ?_)
  all_goals (refine Go ?_)
  all_goals (refine Gt ?_)
  all_goals (first | exact ⟨by rw [idxP_no (by rw [List.take_of_length_le (by omega)] at hn; exact hn)], hx1⟩ | exact ⟨by rw [idxP_at hy hpy hn], hx1.trans hx2⟩)

set_option maxHeartbeats 2000000 in
set_option maxRecDepth 100000 in
theorem indexFunc_col {h : Heap} {v : Value} (l : List ColD) (p : ColD → Bool) {fk : Nat} {fs us : List Value} (hcf : ∀ (args : Array Value) (w : World), (callFunc fk args).run Tryz.prog w = .ok (.enter fk args) w) (hr : Rd h v 7 l.length (l.flatMap ColD.cells)) (hm : l.length ≤ maxLen)
    (hp : ∀ x ∈ l, ∀ h', Ext No h h' → CallsH Tryz.prog fk ⟨fs ++ [.agg ⟨ColD.cells x⟩] ++ us⟩ h' fun u h'' => u = .bool (p x) ∧ Ext No h' h'') :
    CallsH Tryz.prog 231 ⟨[v, .func (.func fk) ⟨fs⟩ ⟨us⟩]⟩ h fun u h' => u = In (idxP p l) ∧ Ext No h h' := by
  obtain ⟨A, c, rfl, _⟩ := id hr
  unfold maxLen at hm
  refine calls [(0, _), (1, _)] Tryz.func231 rfl Tryz.ntmps231 rfl ⟨rfl, rfl, trivial⟩ ?_
  all_goals (refine WC.sr ?_)
  all_goals (refine Go ?_)
  all_goals (refine WC.seq ?_)
  all_goals (refine WC.sr ?_)
  all_goals (refine Go ?_)
  all_goals (refine WC.block ?_)
  -- loop 0: slots that turn [8], that stay [0, 1, 7]
  all_goals (refine WC.loopG (X := Nat) (fun x => ([(8, In (x : Int))] : Fr)) [(0, _), (1, _), (7, _)] (fun k h' => Ext No h h' ∧ k ≤ l.length ∧ ∀ x ∈ l.take k, p x = false) (fun k => l.length - k) (0) ⟨rfl, rfl, rfl, rfl, trivial⟩ (by exact ⟨.refl _ _, Nat.zero_le _, by simp⟩) ?_)
  all_goals (rintro k h1 ⟨hx1, hk, hn⟩)
  all_goals (refine WC.sub [(8, _), (0, _), (1, _), (7, _)] ⟨rfl, rfl, rfl, rfl, trivial⟩ ?_)
  all_goals (refine WC.sr ?_)
  all_goals (refine Go ?_)
  all_goals (refine WC.seq ?_)
  all_goals (refine goC 1 2 ?_ ?_ <;> first | exact ⟨⟩ | refine Hb.mk fun hb => ?_ | skip)
  all_goals (first | (fail_if_success refine goB 1 ?_) | (
  refine goB 1 ?_
  all_goals (refine WC.skip ?_)
  skip))
  all_goals (first | (fail_if_success refine goB 2 ?_) | (
  refine goB 2 ?_
  all_goals (refine WC.exit ?_)
  all_goals (repeat' (with_reducible first | refine thenP_x ?_ | refine blockP_miss rfl ?_ | refine blockP_hit ?_ | refine blockP_n ?_ | refine thenP_n ?_))
  all_goals (refine Br.out (i := 1000) ?_)
  skip))
  all_goals (refine Gn ?_)
  all_goals (first | (refine Br.keep ?_) | (refine WC.seq ?_))
  all_goals (first | (refine Br.keep ?_) | (refine WC.block ?_))
  all_goals (first | (refine Br.keep ?_) | (refine WC.sr ?_))
  all_goals (refine Go ?_)
  all_goals (first | (refine Br.keep ?_) | (refine WC.sr ?_))
  all_goals (first | (refine Br.keep ?_) | (refine WL.step (ok_move rfl) rfl rfl rfl ?_))
  all_goals (first | (refine Br.keep ?_) | (refine WL.step (ok_move rfl) rfl rfl rfl ?_))
  all_goals (first
               | (refine Br.keep ?_)
               | (obtain ⟨b, o, hA, hbL, hat⟩ := Rd.at_ (hr.ext0 hx1) (by omega)
                  obtain ⟨y, hy⟩ : ∃ y, l[k]? = some y := ⟨_, List.getElem?_eq_getElem (by omega)⟩
                  have hc : At h1 b (o + k * 7) (ColD.cells y) := At.elem ColD.len hat hy))
  all_goals (first | (refine Br.keep ?_) | (refine WL.step (ok_move rfl) rfl rfl rfl ?_))
  all_goals (first | (refine Br.keep ?_) | (refine WL.step (ok_idxAddrA Tryz.underlying90 (fun w => Tryz.sizeOf179 w) rfl rfl rfl (by omega) (by first | rfl | assumption)) rfl rfl rfl ?_))
  all_goals (first | (refine Br.keep ?_) | (refine WL.step (ok_loadN (fun w => Tryz.isAgg179 w) (fun w => Tryz.sizeOf179 w) rfl rfl (by assumption)) rfl rfl rfl ?_))
  all_goals (first
               | (refine Br.keep ?_)
               | (refine WL.callT (vs := [_]) rfl rfl hcf rfl (hp y (List.mem_of_getElem? hy) h1 hx1) rfl rfl rfl ?_
                  rintro _ h2 ⟨rfl, hx2⟩))
  all_goals (first | (refine Br.keep ?_) | (cases hpy : p y))
  all_goals (refine Gn ?_)
  all_goals (first | (refine Br.keep ?_) | (refine Gs [(0, _), (1, _), (5, _), (7, _), (8, _), (16, _)] ?_))
  all_goals (first | (refine Br.keep ?_) | (refine goC 3 4 ?_ ?_ <;> first | exact ⟨⟩ | refine Hb.mk fun hb => ?_ | skip))
  all_goals (first | (fail_if_success refine goB 3 ?_) | (
  refine goB 3 ?_
  all_goals (refine WC.sr ?_)
  all_goals (refine Go ?_)
  all_goals (refine Gs [(4, _)] ?_)
  all_goals (refine Gt ?_)
  all_goals (first | exact ⟨by rw [idxP_no (by rw [List.take_of_length_le (by omega)] at hn; exact hn)], hx1⟩ | exact ⟨by rw [idxP_at hy hpy hn], hx1.trans hx2⟩)
  skip))
  all_goals (first | (fail_if_success refine goB 4 ?_) | (
  refine goB 4 ?_
  all_goals (refine WC.skip ?_)
  skip))
  all_goals (refine Gn ?_)
  all_goals (first | (refine Br.keep ?_) | (refine WC.region ?_))
  all_goals (refine Go ?_)
  all_goals (first | (refine Br.keep ?_) | (exact ⟨k + 1, ⟨rfl, rfl, rfl, rfl, trivial⟩, (by exact ⟨hx1.trans hx2, by omega, take_snoc_p hn hy hpy⟩), (by omega)⟩))
  all_goals (try (refine Br.mk (i := 1000) ?_))
  all_goals (refine Gn ?_)
  all_goals (refine Gs [] ?_)
  all_goals (refine WC.sr ?_)
  all_goals (refine Go ?_)
  all_goals (refine Gt ?_)
  all_goals (first | exact ⟨by rw [idxP_no (by rw [List.take_of_length_le (by omega)] at hn; exact hn)], hx1⟩ | exact ⟨by rw [idxP_at hy hpy hn], hx1.trans hx2⟩)

set_option maxHeartbeats 2000000 in
set_option maxRecDepth 100000 in
theorem indexFunc_fld {h : Heap} {v : Value} (l : List FieldD) (p : FieldD → Bool) {fk : Nat} {fs us : List Value} (hcf : ∀ (args : Array Value) (w : World), (callFunc fk args).run Tryz.prog w = .ok (.enter fk args) w) (hr : Rd h v 2 l.length (l.flatMap FieldD.cells)) (hm : l.length ≤ maxLen)
    (hp : ∀ x ∈ l, ∀ h', Ext No h h' → CallsH Tryz.prog fk ⟨fs ++ [.agg ⟨FieldD.cells x⟩] ++ us⟩ h' fun u h'' => u = .bool (p x) ∧ Ext No h' h'') :
    CallsH Tryz.prog 234 ⟨[v, .func (.func fk) ⟨fs⟩ ⟨us⟩]⟩ h fun u h' => u = In (idxP p l) ∧ Ext No h h' := by
  obtain ⟨A, c, rfl, _⟩ := id hr
  unfold maxLen at hm
  refine calls [(0, _), (1, _)] Tryz.func234 rfl Tryz.ntmps234 rfl ⟨rfl, rfl, trivial⟩ ?_
  all_goals (refine WC.sr ?_)
  all_goals (refine Go ?_)
  all_goals (refine WC.seq ?_)
  all_goals (refine WC.sr ?_)
  all_goals (refine Go ?_)
  all_goals (refine WC.block ?_)
  -- loop 0: slots that turn [8], that stay [0, 1, 7]
  all_goals (refine WC.loopG (X := Nat) (fun x => ([(8, In (x : Int))] : Fr)) [(0, _), (1, _), (7, _)] (fun k h' => Ext No h h' ∧ k ≤ l.length ∧ ∀ x ∈ l.take k, p x = false) (fun k => l.length - k) (0) ⟨rfl, rfl, rfl, rfl, trivial⟩ (by exact ⟨.refl _ _, Nat.zero_le _, by simp⟩) ?_)
  all_goals (rintro k h1 ⟨hx1, hk, hn⟩)
  all_goals (refine WC.sub [(8, _), (0, _), (1, _), (7, _)] ⟨rfl, rfl, rfl, rfl, trivial⟩ ?_)
  all_goals (refine WC.sr ?_)
  all_goals (refine Go ?_)
  all_goals (refine WC.seq ?_)
  all_goals (refine goC 1 2 ?_ ?_ <;> first | exact ⟨⟩ | refine Hb.mk fun hb => ?_ | skip)
  all_goals (first | (fail_if_success refine goB 1 ?_) | (
  refine goB 1 ?_
  all_goals (refine WC.skip ?_)
  skip))
  all_goals (first | (fail_if_success refine goB 2 ?_) | (
  refine goB 2 ?_
  all_goals (refine WC.exit ?_)
  all_goals (repeat' (with_reducible first | refine thenP_x ?_ | refine blockP_miss rfl ?_ | refine blockP_hit ?_ | refine blockP_n ?_ | refine thenP_n ?_))
  all_goals (refine Br.out (i := 1000) ?_)
  skip))
  all_goals (refine Gn ?_)
  all_goals (first | (refine Br.keep ?_) | (refine WC.seq ?_))
  all_goals (first | (refine Br.keep ?_) | (refine WC.block ?_))
  all_goals (first | (refine Br.keep ?_) | (refine WC.sr ?_))
  all_goals (refine Go ?_)
  all_goals (first | (refine Br.keep ?_) | (refine WC.sr ?_))
  all_goals (first | (refine Br.keep ?_) | (refine WL.step (ok_move rfl) rfl rfl rfl ?_))
  all_goals (first | (refine Br.keep ?_) | (refine WL.step (ok_move rfl) rfl rfl rfl ?_))
  all_goals (first
               | (refine Br.keep ?_)
               | (obtain ⟨b, o, hA, hbL, hat⟩ := Rd.at_ (hr.ext0 hx1) (by omega)
                  obtain ⟨y, hy⟩ : ∃ y, l[k]? = some y := ⟨_, List.getElem?_eq_getElem (by omega)⟩
                  have hc : At h1 b (o + k * 2) (FieldD.cells y) := At.elem FieldD.len hat hy))
  all_goals (first | (refine Br.keep ?_) | (refine WL.step (ok_move rfl) rfl rfl rfl ?_))
  all_goals (first | (refine Br.keep ?_) | (refine WL.step (ok_idxAddrA Tryz.underlying88 (fun w => Tryz.sizeOf152 w) rfl rfl rfl (by omega) (by first | rfl | assumption)) rfl rfl rfl ?_))
  all_goals (first | (refine Br.keep ?_) | (refine WL.step (ok_loadN (fun w => Tryz.isAgg152 w) (fun w => Tryz.sizeOf152 w) rfl rfl (by assumption)) rfl rfl rfl ?_))
  all_goals (first
               | (refine Br.keep ?_)
               | (refine WL.callT (vs := [_]) rfl rfl hcf rfl (hp y (List.mem_of_getElem? hy) h1 hx1) rfl rfl rfl ?_
                  rintro _ h2 ⟨rfl, hx2⟩))
  all_goals (first | (refine Br.keep ?_) | (cases hpy : p y))
  all_goals (refine Gn ?_)
  all_goals (first | (refine Br.keep ?_) | (refine Gs [(0, _), (1, _), (5, _), (7, _), (8, _), (16, _)] ?_))
  all_goals (first | (refine Br.keep ?_) | (refine goC 3 4 ?_ ?_ <;> first | exact ⟨⟩ | refine Hb.mk fun hb => ?_ | skip))
  all_goals (first | (fail_if_success refine goB 3 ?_) | (
  refine goB 3 ?_
  all_goals (refine WC.sr ?_)
  all_goals (refine Go ?_)
  all_goals (refine Gs [(4, _)] ?_)
  all_goals (refine Gt ?_)
  all_goals (first | exact ⟨by rw [idxP_no (by rw [List.take_of_length_le (by omega)] at hn; exact hn)], hx1⟩ | exact ⟨by rw [idxP_at hy hpy hn], hx1.trans hx2⟩)
  skip))
  all_goals (first | (fail_if_success refine goB 4 ?_) | (
  refine goB 4 ?_
  all_goals (refine WC.skip ?_)
  skip))
  all_goals (refine Gn ?_)
  all_goals (first | (refine Br.keep ?_) | (refine WC.region ?_))
  all_goals (refine Go ?_)
  all_goals (first | (refine Br.keep ?_) | (exact ⟨k + 1, ⟨rfl, rfl, rfl, rfl, trivial⟩, (by exact ⟨hx1.trans hx2, by omega, take_snoc_p hn hy hpy⟩), (by omega)⟩))
  all_goals (try (refine Br.mk (i := 1000) ?_))
  all_goals (refine Gn ?_)
  all_goals (refine Gs [] ?_)
  all_goals (refine WC.sr ?_)
  all_goals (refine Go ?_)
  all_goals (refine Gt ?_)
  all_goals (first | exact ⟨by rw [idxP_no (by rw [List.take_of_length_le (by omega)] at hn; exact hn)], hx1⟩ | exact ⟨by rw [idxP_at hy hpy hn], hx1.trans hx2⟩)

set_option maxHeartbeats 2000000 in
set_option maxRecDepth 100000 in
theorem indexFunc_cel {h : Heap} {v : Value} (l : List Cel) (p : Cel → Bool) {fk : Nat} {fs us : List Value} (hcf : ∀ (args : Array Value) (w : World), (callFunc fk args).run Tryz.prog w = .ok (.enter fk args) w) (hr : Rd h v 2 l.length (l.flatMap Cel.cells)) (hm : l.length ≤ maxLen)
    (hp : ∀ x ∈ l, ∀ h', Ext No h h' → CallsH Tryz.prog fk ⟨fs ++ [.agg ⟨Cel.cells x⟩] ++ us⟩ h' fun u h'' => u = .bool (p x) ∧ Ext No h' h'') :
    CallsH Tryz.prog 190 ⟨[v, .func (.func fk) ⟨fs⟩ ⟨us⟩]⟩ h fun u h' => u = In (idxP p l) ∧ Ext No h h' := by
  obtain ⟨A, c, rfl, _⟩ := id hr
  unfold maxLen at hm
  refine calls [(0, _), (1, _)] Tryz.func190 rfl Tryz.ntmps190 rfl ⟨rfl, rfl, trivial⟩ ?_
  all_goals (refine WC.sr ?_)
  all_goals (refine Go ?_)
  all_goals (refine WC.seq ?_)
  all_goals (refine WC.sr ?_)
  all_goals (refine Go ?_)
  all_goals (refine WC.block ?_)
  -- loop 0: slots that turn [8], that stay [0, 1, 7]
  all_goals (refine WC.loopG (X := Nat) (fun x => ([(8, In (x : Int))] : Fr)) [(0, _), (1, _), (7, _)] (fun k h' => Ext No h h' ∧ k ≤ l.length ∧ ∀ x ∈ l.take k, p x = false) (fun k => l.length - k) (0) ⟨rfl, rfl, rfl, rfl, trivial⟩ (by exact ⟨.refl _ _, Nat.zero_le _, by simp⟩) ?_)
  all_goals (rintro k h1 ⟨hx1, hk, hn⟩)
  all_goals (refine WC.sub [(8, _), (0, _), (1, _), (7, _)] ⟨rfl, rfl, rfl, rfl, trivial⟩ ?_)
  all_goals (refine WC.sr ?_)
  all_goals (refine Go ?_)
  all_goals (refine WC.seq ?_)
  all_goals (refine goC 1 2 ?_ ?_ <;> first | exact ⟨⟩ | refine Hb.mk fun hb => ?_ | skip)
  all_goals (first | (fail_if_success refine goB 1 ?_) | (
  refine goB 1 ?_
  all_goals (refine WC.skip ?_)
  skip))
  all_goals (first | (fail_if_success refine goB 2 ?_) | (
  refine goB 2 ?_
  all_goals (refine WC.exit ?_)
  all_goals (repeat' (with_reducible first | refine thenP_x ?_ | refine blockP_miss rfl ?_ | refine blockP_hit ?_ | refine blockP_n ?_ | refine thenP_n ?_))
  all_goals (refine Br.out (i := 1000) ?_)
  skip))
  all_goals (refine Gn ?_)
  all_goals (first | (refine Br.keep ?_) | (refine WC.seq ?_))
  all_goals (first | (refine Br.keep ?_) | (refine WC.block ?_))
  all_goals (first | (refine Br.keep ?_) | (refine WC.sr ?_))
  all_goals (refine Go ?_)
  all_goals (first | (refine Br.keep ?_) | (refine WC.sr ?_))
  all_goals (first | (refine Br.keep ?_) | (refine WL.step (ok_move rfl) rfl rfl rfl ?_))
  all_goals (first | (refine Br.keep ?_) | (refine WL.step (ok_move rfl) rfl rfl rfl ?_))
  all_goals (first
               | (refine Br.keep ?_)
               | (obtain ⟨b, o, hA, hbL, hat⟩ := Rd.at_ (hr.ext0 hx1) (by omega)
                  obtain ⟨y, hy⟩ : ∃ y, l[k]? = some y := ⟨_, List.getElem?_eq_getElem (by omega)⟩
                  have hc : At h1 b (o + k * 2) (Cel.cells y) := At.elem Cel.len hat hy))
  all_goals (first | (refine Br.keep ?_) | (refine WL.step (ok_move rfl) rfl rfl rfl ?_))
  all_goals (first | (refine Br.keep ?_) | (refine WL.step (ok_idxAddrA Tryz.underlying32 (fun w => Tryz.sizeOf211 w) rfl rfl rfl (by omega) (by first | rfl | assumption)) rfl rfl rfl ?_))
  all_goals (first | (refine Br.keep ?_) | (refine WL.step (ok_loadN (fun w => Tryz.isAgg211 w) (fun w => Tryz.sizeOf211 w) rfl rfl (by assumption)) rfl rfl rfl ?_))
  all_goals (first
               | (refine Br.keep ?_)
               | (refine WL.callT (vs := [_]) rfl rfl hcf rfl (hp y (List.mem_of_getElem? hy) h1 hx1) rfl rfl rfl ?_
                  rintro _ h2 ⟨rfl, hx2⟩))
  all_goals (first | (refine Br.keep ?_) | (cases hpy : p y))
  all_goals (refine Gn ?_)
  all_goals (first | (refine Br.keep ?_) | (refine Gs [(0, _), (1, _), (5, _), (7, _), (8, _), (16, _)] ?_))
  all_goals (first | (refine Br.keep ?_) | (refine goC 3 4 ?_ ?_ <;> first | exact ⟨⟩ | refine Hb.mk fun hb => ?_ | skip))
  all_goals (first | (fail_if_success refine goB 3 ?_) | (
  refine goB 3 ?_
  all_goals (refine WC.sr ?_)
  all_goals (refine Go ?_)
  all_goals (refine Gs [(4, _)] ?_)
  all_goals (refine Gt ?_)
  all_goals (first | exact ⟨by rw [idxP_no (by rw [List.take_of_length_le (by omega)] at hn; exact hn)], hx1⟩ | exact ⟨by rw [idxP_at hy hpy hn], hx1.trans hx2⟩)
  skip))
  all_goals (first | (fail_if_success refine goB 4 ?_) | (
  refine goB 4 ?_
  all_goals (refine WC.skip ?_)
  skip))
  all_goals (refine Gn ?_)
  all_goals (first | (refine Br.keep ?_) | (refine WC.region ?_))
  all_goals (refine Go ?_)
  all_goals (first | (refine Br.keep ?_) | (exact ⟨k + 1, ⟨rfl, rfl, rfl, rfl, trivial⟩, (by exact ⟨hx1.trans hx2, by omega, take_snoc_p hn hy hpy⟩), (by omega)⟩))
  all_goals (try (refine Br.mk (i := 1000) ?_))
  all_goals (refine Gn ?_)
  all_goals (refine Gs [] ?_)
  all_goals (refine WC.sr ?_)
  all_goals (refine Go ?_)
  all_goals (refine Gt ?_)
  all_goals (first | exact ⟨by rw [idxP_no (by rw [List.take_of_length_le (by omega)] at hn; exact hn)], hx1⟩ | exact ⟨by rw [idxP_at hy hpy hn], hx1.trans hx2⟩)

set_option maxHeartbeats 2000000 in
set_option maxRecDepth 100000 in
theorem everyf_col {h : Heap} {b : Nat} {t : TypeId} (x : ColD) {fk : Nat} (hcf : ∀ (args : Array Value) (w : World), (callFunc fk args).run Tryz.prog w = .ok (.enter fk args) w) (hb : h[b]? = some (.cells ⟨[.func (.func fk) ⟨[]⟩ ⟨[]⟩]⟩ t (0, 0)))
    (hp : ∀ h', Ext No h h' → CallsH Tryz.prog fk ⟨[.agg ⟨ColD.cells x⟩]⟩ h' fun u h'' => u = .bool true ∧ Ext No h' h'') :
    CallsH Tryz.prog 194 ⟨[.agg ⟨ColD.cells x⟩, .pointer (some ⟨b, 0, none⟩)]⟩ h fun u h' => u = .bool false ∧ Ext No h h' := by
  refine calls [(0, _), (1, _)] Tryz.func194 rfl Tryz.ntmps194 rfl ⟨rfl, rfl, trivial⟩ ?_
  all_goals (refine WC.sr ?_)
  all_goals (refine WL.stepR (okE_box rfl) rfl rfl rfl ?_
             rintro _ h1 ⟨b1, rfl, hg1, hb1, hx1⟩)
  all_goals (refine Go ?_)
  all_goals (refine WC.sr ?_)
  all_goals (refine WL.ld rfl (by first | exact cell_blk (hx1.obj hb nos) rfl | assumption | exact cell_blk (by assumption) rfl) rfl rfl rfl ?_)
  all_goals (refine WL.step (ok_loadN (fun w => Tryz.isAgg179 w) (fun w => Tryz.sizeOf179 w) rfl rfl (by exact At.of_block hb1)) rfl rfl rfl ?_)
  all_goals (refine WL.callT (vs := [_]) rfl rfl hcf rfl (hp _ hx1) rfl rfl rfl ?_
             rintro _ h2 ⟨rfl, hx2⟩)
  all_goals (refine Go ?_)
  all_goals (refine Gs [(3, _)] ?_)
  all_goals (refine Gt ?_)
  all_goals (exact ⟨rfl, hx1.trans hx2⟩)
set_option maxHeartbeats 2000000 in
set_option maxRecDepth 100000 in
theorem every_col {h : Heap} {v : Value} (l : List ColD) (hr : Rd h v 7 l.length (l.flatMap ColD.cells)) (hl : l.length ≤ 65535) {fk : Nat} (hcf : ∀ (args : Array Value) (w : World), (callFunc fk args).run Tryz.prog w = .ok (.enter fk args) w)
    (hp : ∀ x ∈ l, ∀ h', Ext No h h' → CallsH Tryz.prog fk ⟨[.agg ⟨ColD.cells x⟩]⟩ h' fun u h'' => u = .bool true ∧ Ext No h' h'') :
    CallsH Tryz.prog 148 ⟨[v, .func (.func fk) ⟨[]⟩ ⟨[]⟩]⟩ h fun u h' => u = .bool true ∧ Ext No h h' := by
  have hcon : ∀ {h' : Heap} {b : Nat} {t : TypeId}, Ext No h h' → h'[b]? = some (.cells ⟨[.func (.func fk) ⟨[]⟩ ⟨[]⟩]⟩ t (0, 0)) → CallsH Tryz.prog 193 ⟨[v, .func (.func 194) ⟨[]⟩ ⟨[.pointer (some ⟨b, 0, none⟩)]⟩]⟩ h' fun u h'' => u = .bool false ∧ Ext No h' h'' := by
    intro h' b t hx hb
    refine calls [(0, _), (1, _)] Tryz.func193 rfl Tryz.ntmps193 rfl ⟨rfl, rfl, trivial⟩ ?_
    all_goals (refine WC.sr ?_)
    all_goals (refine Go ?_)
    all_goals (refine WC.sr ?_)
    all_goals (refine Go ?_)
    all_goals (refine WL.call (vs := [_, _]) rfl (fun a w => Tryz.call231 a w) rfl (indexFunc_col l (fun _ => false) (fun a w => Tryz.call194 a w) (fs := []) (us := [.pointer (some ⟨b, 0, none⟩)]) (hr.ext0 hx) (by unfold maxLen; omega) (fun x hxl h2 hx2 => everyf_col x hcf (hx2.obj hb nos) (fun h3 hx3 => hp x hxl h3 ((hx.trans hx2).trans hx3)))) rfl rfl rfl ?_
               rintro _ h1 ⟨rfl, hx1⟩)
    all_goals (rw [idxP_no (fun _ _ => rfl)])
    all_goals (refine Go ?_)
    all_goals (refine Gs [(4, _)] ?_)
    all_goals (refine Gt ?_)
    all_goals (exact ⟨rfl, hx1⟩)
  obtain ⟨A, c, rfl, _⟩ := id hr
  refine calls [(0, _), (1, _)] Tryz.func148 rfl Tryz.ntmps148 rfl ⟨rfl, rfl, trivial⟩ ?_
  all_goals (refine WC.sr ?_)
  all_goals (refine WL.stepR (okE_box rfl) rfl rfl rfl ?_
             rintro _ h1 ⟨b1, rfl, hg1, hb1, hx1⟩)
  all_goals (refine Go ?_)
  all_goals (refine WC.sr ?_)
  all_goals (refine Go ?_)
  all_goals (refine goP 8 ?_ ?_ <;> first | exact ⟨⟩ | refine Hb.mk fun hb => ?_ | skip)
  all_goals (refine Gg ?_)
  all_goals (first | (refine WL.pass rfl rfl rfl ?_) | (refine WL.step (ok_makeFunc (vs := []) (us := [_]) rfl rfl) rfl rfl rfl ?_))
  all_goals (first
               | (refine WL.pass rfl rfl rfl ?_)
               | (refine WL.call (vs := [_, _]) rfl (fun a w => Tryz.call193 a w) rfl (hcon hx1 hb1) rfl rfl rfl ?_
                  rintro _ h2 ⟨rfl, hx2⟩))
  all_goals (refine Gg ?_)
  all_goals (refine Go ?_)
  all_goals (refine Gs [(4, _)] ?_)
  all_goals (refine Gt ?_)
  all_goals (exact ⟨rfl, hx1.trans hx2⟩)

set_option maxHeartbeats 2000000 in
set_option maxRecDepth 100000 in
theorem everyf_fld {h : Heap} {b : Nat} {t : TypeId} (x : FieldD) {fk : Nat} (hcf : ∀ (args : Array Value) (w : World), (callFunc fk args).run Tryz.prog w = .ok (.enter fk args) w) (hb : h[b]? = some (.cells ⟨[.func (.func fk) ⟨[]⟩ ⟨[]⟩]⟩ t (0, 0)))
    (hp : ∀ h', Ext No h h' → CallsH Tryz.prog fk ⟨[.agg ⟨FieldD.cells x⟩]⟩ h' fun u h'' => u = .bool true ∧ Ext No h' h'') :
    CallsH Tryz.prog 197 ⟨[.agg ⟨FieldD.cells x⟩, .pointer (some ⟨b, 0, none⟩)]⟩ h fun u h' => u = .bool false ∧ Ext No h h' := by
  refine calls [(0, _), (1, _)] Tryz.func197 rfl Tryz.ntmps197 rfl ⟨rfl, rfl, trivial⟩ ?_
  all_goals (refine WC.sr ?_)
  all_goals (refine WL.stepR (okE_box rfl) rfl rfl rfl ?_
             rintro _ h1 ⟨b1, rfl, hg1, hb1, hx1⟩)
  all_goals (refine Go ?_)
  all_goals (refine WC.sr ?_)
  all_goals (refine WL.ld rfl (by first | exact cell_blk (hx1.obj hb nos) rfl | assumption | exact cell_blk (by assumption) rfl) rfl rfl rfl ?_)
  all_goals (refine WL.step (ok_loadN (fun w => Tryz.isAgg152 w) (fun w => Tryz.sizeOf152 w) rfl rfl (by exact At.of_block hb1)) rfl rfl rfl ?_)
  all_goals (refine WL.callT (vs := [_]) rfl rfl hcf rfl (hp _ hx1) rfl rfl rfl ?_
             rintro _ h2 ⟨rfl, hx2⟩)
  all_goals (refine Go ?_)
  all_goals (refine Gs [(3, _)] ?_)
  all_goals (refine Gt ?_)
  all_goals (exact ⟨rfl, hx1.trans hx2⟩)
set_option maxHeartbeats 2000000 in
set_option maxRecDepth 100000 in
theorem every_fld {h : Heap} {v : Value} (l : List FieldD) (hr : Rd h v 2 l.length (l.flatMap FieldD.cells)) (hl : l.length ≤ 65535) {fk : Nat} (hcf : ∀ (args : Array Value) (w : World), (callFunc fk args).run Tryz.prog w = .ok (.enter fk args) w)
    (hp : ∀ x ∈ l, ∀ h', Ext No h h' → CallsH Tryz.prog fk ⟨[.agg ⟨FieldD.cells x⟩]⟩ h' fun u h'' => u = .bool true ∧ Ext No h' h'') :
    CallsH Tryz.prog 150 ⟨[v, .func (.func fk) ⟨[]⟩ ⟨[]⟩]⟩ h fun u h' => u = .bool true ∧ Ext No h h' := by
  have hcon : ∀ {h' : Heap} {b : Nat} {t : TypeId}, Ext No h h' → h'[b]? = some (.cells ⟨[.func (.func fk) ⟨[]⟩ ⟨[]⟩]⟩ t (0, 0)) → CallsH Tryz.prog 196 ⟨[v, .func (.func 197) ⟨[]⟩ ⟨[.pointer (some ⟨b, 0, none⟩)]⟩]⟩ h' fun u h'' => u = .bool false ∧ Ext No h' h'' := by
    intro h' b t hx hb
    refine calls [(0, _), (1, _)] Tryz.func196 rfl Tryz.ntmps196 rfl ⟨rfl, rfl, trivial⟩ ?_
    all_goals (refine WC.sr ?_)
    all_goals (refine Go ?_)
    all_goals (refine WC.sr ?_)
    all_goals (refine Go ?_)
    all_goals (refine WL.call (vs := [_, _]) rfl (fun a w => Tryz.call234 a w) rfl (indexFunc_fld l (fun _ => false) (fun a w => Tryz.call197 a w) (fs := []) (us := [.pointer (some ⟨b, 0, none⟩)]) (hr.ext0 hx) (by unfold maxLen; omega) (fun x hxl h2 hx2 => everyf_fld x hcf (hx2.obj hb nos) (fun h3 hx3 => hp x hxl h3 ((hx.trans hx2).trans hx3)))) rfl rfl rfl ?_
               rintro _ h1 ⟨rfl, hx1⟩)
    all_goals (rw [idxP_no (fun _ _ => rfl)])
    all_goals (refine Go ?_)
    all_goals (refine Gs [(4, _)] ?_)
    all_goals (refine Gt ?_)
    all_goals (exact ⟨rfl, hx1⟩)
  obtain ⟨A, c, rfl, _⟩ := id hr
  refine calls [(0, _), (1, _)] Tryz.func150 rfl Tryz.ntmps150 rfl ⟨rfl, rfl, trivial⟩ ?_
  all_goals (refine WC.sr ?_)
  all_goals (refine WL.stepR (okE_box rfl) rfl rfl rfl ?_
             rintro _ h1 ⟨b1, rfl, hg1, hb1, hx1⟩)
  all_goals (refine Go ?_)
  all_goals (refine WC.sr ?_)
  all_goals (refine Go ?_)
  all_goals (refine goP 8 ?_ ?_ <;> first | exact ⟨⟩ | refine Hb.mk fun hb => ?_ | skip)
  all_goals (refine Gg ?_)
  all_goals (first | (refine WL.pass rfl rfl rfl ?_) | (refine WL.step (ok_makeFunc (vs := []) (us := [_]) rfl rfl) rfl rfl rfl ?_))
  all_goals (first
               | (refine WL.pass rfl rfl rfl ?_)
               | (refine WL.call (vs := [_, _]) rfl (fun a w => Tryz.call196 a w) rfl (hcon hx1 hb1) rfl rfl rfl ?_
                  rintro _ h2 ⟨rfl, hx2⟩))
  all_goals (refine Gg ?_)
  all_goals (refine Go ?_)
  all_goals (refine Gs [(4, _)] ?_)
  all_goals (refine Gt ?_)
  all_goals (exact ⟨rfl, hx1.trans hx2⟩)

set_option maxHeartbeats 2000000 in
set_option maxRecDepth 100000 in
theorem everyf_cel {h : Heap} {b : Nat} {t : TypeId} (x : Cel) {fk : Nat} (hcf : ∀ (args : Array Value) (w : World), (callFunc fk args).run Tryz.prog w = .ok (.enter fk args) w) (hb : h[b]? = some (.cells ⟨[.func (.func fk) ⟨[]⟩ ⟨[]⟩]⟩ t (0, 0)))
    (hp : ∀ h', Ext No h h' → CallsH Tryz.prog fk ⟨[.agg ⟨Cel.cells x⟩]⟩ h' fun u h'' => u = .bool true ∧ Ext No h' h'') :
    CallsH Tryz.prog 198 ⟨[.agg ⟨Cel.cells x⟩, .pointer (some ⟨b, 0, none⟩)]⟩ h fun u h' => u = .bool false ∧ Ext No h h' := by
  refine calls [(0, _), (1, _)] Tryz.func198 rfl Tryz.ntmps198 rfl ⟨rfl, rfl, trivial⟩ ?_
  all_goals (refine WC.sr ?_)
  all_goals (refine WL.stepR (okE_box rfl) rfl rfl rfl ?_
             rintro _ h1 ⟨b1, rfl, hg1, hb1, hx1⟩)
  all_goals (refine Go ?_)
  all_goals (refine WC.sr ?_)
  all_goals (refine WL.ld rfl (by first | exact cell_blk (hx1.obj hb nos) rfl | assumption | exact cell_blk (by assumption) rfl) rfl rfl rfl ?_)
  all_goals (refine WL.step (ok_loadN (fun w => Tryz.isAgg211 w) (fun w => Tryz.sizeOf211 w) rfl rfl (by exact At.of_block hb1)) rfl rfl rfl ?_)
  all_goals (refine WL.callT (vs := [_]) rfl rfl hcf rfl (hp _ hx1) rfl rfl rfl ?_
             rintro _ h2 ⟨rfl, hx2⟩)
  all_goals (refine Go ?_)
  all_goals (refine Gs [(3, _)] ?_)
  all_goals (refine Gt ?_)
  all_goals (exact ⟨rfl, hx1.trans hx2⟩)
set_option maxHeartbeats 2000000 in
set_option maxRecDepth 100000 in
theorem every_cel {h : Heap} {v : Value} (l : List Cel) (hr : Rd h v 2 l.length (l.flatMap Cel.cells)) (hl : l.length ≤ 65535) {fk : Nat} (hcf : ∀ (args : Array Value) (w : World), (callFunc fk args).run Tryz.prog w = .ok (.enter fk args) w)
    (hp : ∀ x ∈ l, ∀ h', Ext No h h' → CallsH Tryz.prog fk ⟨[.agg ⟨Cel.cells x⟩]⟩ h' fun u h'' => u = .bool true ∧ Ext No h' h'') :
    CallsH Tryz.prog 152 ⟨[v, .func (.func fk) ⟨[]⟩ ⟨[]⟩]⟩ h fun u h' => u = .bool true ∧ Ext No h h' := by
  have hcon : ∀ {h' : Heap} {b : Nat} {t : TypeId}, Ext No h h' → h'[b]? = some (.cells ⟨[.func (.func fk) ⟨[]⟩ ⟨[]⟩]⟩ t (0, 0)) → CallsH Tryz.prog 140 ⟨[v, .func (.func 198) ⟨[]⟩ ⟨[.pointer (some ⟨b, 0, none⟩)]⟩]⟩ h' fun u h'' => u = .bool false ∧ Ext No h' h'' := by
    intro h' b t hx hb
    refine calls [(0, _), (1, _)] Tryz.func140 rfl Tryz.ntmps140 rfl ⟨rfl, rfl, trivial⟩ ?_
    all_goals (refine WC.sr ?_)
    all_goals (refine Go ?_)
    all_goals (refine WC.sr ?_)
    all_goals (refine Go ?_)
    all_goals (refine WL.call (vs := [_, _]) rfl (fun a w => Tryz.call190 a w) rfl (indexFunc_cel l (fun _ => false) (fun a w => Tryz.call198 a w) (fs := []) (us := [.pointer (some ⟨b, 0, none⟩)]) (hr.ext0 hx) (by unfold maxLen; omega) (fun x hxl h2 hx2 => everyf_cel x hcf (hx2.obj hb nos) (fun h3 hx3 => hp x hxl h3 ((hx.trans hx2).trans hx3)))) rfl rfl rfl ?_
               rintro _ h1 ⟨rfl, hx1⟩)
    all_goals (rw [idxP_no (fun _ _ => rfl)])
    all_goals (refine Go ?_)
    all_goals (refine Gs [(4, _)] ?_)
    all_goals (refine Gt ?_)
    all_goals (exact ⟨rfl, hx1⟩)
  obtain ⟨A, c, rfl, _⟩ := id hr
  refine calls [(0, _), (1, _)] Tryz.func152 rfl Tryz.ntmps152 rfl ⟨rfl, rfl, trivial⟩ ?_
  all_goals (refine WC.sr ?_)
  all_goals (refine WL.stepR (okE_box rfl) rfl rfl rfl ?_
             rintro _ h1 ⟨b1, rfl, hg1, hb1, hx1⟩)
  all_goals (refine Go ?_)
  all_goals (refine WC.sr ?_)
  all_goals (refine Go ?_)
  all_goals (refine goP 8 ?_ ?_ <;> first | exact ⟨⟩ | refine Hb.mk fun hb => ?_ | skip)
  all_goals (refine Gg ?_)
  all_goals (first | (refine WL.pass rfl rfl rfl ?_) | (refine WL.step (ok_makeFunc (vs := []) (us := [_]) rfl rfl) rfl rfl rfl ?_))
  all_goals (first
               | (refine WL.pass rfl rfl rfl ?_)
               | (refine WL.call (vs := [_, _]) rfl (fun a w => Tryz.call140 a w) rfl (hcon hx1 hb1) rfl rfl rfl ?_
                  rintro _ h2 ⟨rfl, hx2⟩))
  all_goals (refine Gg ?_)
  all_goals (refine Go ?_)
  all_goals (refine Gs [(4, _)] ?_)
  all_goals (refine Gt ?_)
  all_goals (exact ⟨rfl, hx1.trans hx2⟩)

set_option maxHeartbeats 2000000 in
set_option maxRecDepth 100000 in
theorem equal_col {h : Heap} {v w : Value} (l : List ColD) (hr : Rd h v 7 l.length (l.flatMap ColD.cells)) (hs : Rd h w 7 l.length (l.flatMap ColD.cells)) (hm : l.length ≤ maxLen) :
    CallsH Tryz.prog 200 ⟨[v, w]⟩ h fun u h' => u = .bool true ∧ h' = h := by
  obtain ⟨A, c, rfl, _⟩ := id hr
  obtain ⟨B, d, rfl, _⟩ := id hs
  unfold maxLen at hm
  refine calls [(0, _), (1, _)] Tryz.func200 rfl Tryz.ntmps200 rfl ⟨rfl, rfl, trivial⟩ ?_
  all_goals (refine WC.sr ?_)
  all_goals (refine Go ?_)
  all_goals (refine WC.seq ?_)
  all_goals (refine WC.sr ?_)
  all_goals (refine Go ?_)
  all_goals (refine Gs [(0, _), (1, _), (10, _)] ?_)
  all_goals (refine goC 1 2 ?_ ?_ <;> first | exact ⟨⟩ | refine Hb.mk fun hb => ?_ | skip)
  all_goals (first | (fail_if_success refine goB 1 ?_) | (
  refine goB 1 ?_
  all_goals (refine WC.sr ?_)
  all_goals (refine Go ?_)
  all_goals (refine Gt ?_)
  all_goals (exact ⟨rfl, rfl⟩)
  skip))
  all_goals (first | (fail_if_success refine goB 2 ?_) | (
  refine goB 2 ?_
  all_goals (refine WC.skip ?_)
  skip))
  all_goals (refine Gn ?_)
  all_goals (refine WC.seq ?_)
  all_goals (refine WC.sr ?_)
  all_goals (refine Go ?_)
  all_goals (refine WC.block ?_)
  -- loop 0: slots that turn [13], that stay [0, 1, 12]
  all_goals (refine WC.loopG (X := Nat) (fun x => ([(13, In (x : Int))] : Fr)) [(0, _), (1, _), (12, _)] (fun k h' => h' = h ∧ k ≤ l.length) (fun k => l.length - k) (0) ⟨rfl, rfl, rfl, rfl, trivial⟩ (by exact ⟨rfl, Nat.zero_le _⟩) ?_)
  all_goals (rintro k h9 ⟨hz, hk⟩
             subst h9)
  all_goals (refine WC.sub [(13, _), (0, _), (1, _), (12, _)] ⟨rfl, rfl, rfl, rfl, trivial⟩ ?_)
  all_goals (refine WC.sr ?_)
  all_goals (refine Go ?_)
  all_goals (refine WC.seq ?_)
  all_goals (refine goC 3 4 ?_ ?_ <;> first | exact ⟨⟩ | refine Hb.mk fun hb => ?_ | skip)
  all_goals (first | (fail_if_success refine goB 3 ?_) | (
  refine goB 3 ?_
  all_goals (refine WC.skip ?_)
  skip))
  all_goals (first | (fail_if_success refine goB 4 ?_) | (
  refine goB 4 ?_
  all_goals (refine WC.exit ?_)
  all_goals (repeat' (with_reducible first | refine thenP_x ?_ | refine blockP_miss rfl ?_ | refine blockP_hit ?_ | refine blockP_n ?_ | refine thenP_n ?_))
  all_goals (refine Br.out (i := 1000) ?_)
  skip))
  all_goals (refine Gn ?_)
  all_goals (first | (refine Br.keep ?_) | (refine WC.seq ?_))
  all_goals (first | (refine Br.keep ?_) | (refine WC.block ?_))
  all_goals (first | (refine Br.keep ?_) | (refine WC.sr ?_))
  all_goals (first
               | (refine Br.keep ?_)
               | (obtain ⟨bL, oL, hA, hbL, hat⟩ := Rd.at_ hr (by omega)
                  obtain ⟨bM, oM, hB, hbM, hbt⟩ := Rd.at_ hs (by omega)
                  obtain ⟨y, hy⟩ : ∃ y, l[k]? = some y := ⟨_, List.getElem?_eq_getElem (by omega)⟩
                  have at1 : At h bL (oL + k * 7) (ColD.cells y) := At.elem ColD.len hat hy
                  have at2 : At h bM (oM + k * 7) (ColD.cells y) := At.elem ColD.len hbt hy))
  all_goals (first | (refine Br.keep ?_) | (refine WL.step (ok_move rfl) rfl rfl rfl ?_))
  all_goals (refine Go ?_)
  all_goals (first | (refine Br.keep ?_) | (refine WC.seq ?_))
  all_goals (first | (refine Br.keep ?_) | (refine WC.drawE fol (by kernel_rfl) ?_))
  all_goals (first | (refine Br.keep ?_) | (refine WQ.stepE (ok_move rfl) rfl rfl rfl ?_))
  all_goals (first | (refine Br.keep ?_) | (refine WQ.stepE (ok_move rfl) rfl rfl rfl ?_))
  all_goals (first | (refine Br.keep ?_) | (refine WQ.stepE (ok_idxAddrA Tryz.underlying90 (fun w => Tryz.sizeOf179 w) rfl rfl rfl (by omega) (by first | rfl | assumption)) rfl rfl rfl ?_))
  all_goals (first | (refine Br.keep ?_) | (refine WQ.stepE (ok_loadN (fun w => Tryz.isAgg179 w) (fun w => Tryz.sizeOf179 w) rfl rfl (by assumption)) rfl rfl rfl ?_))
  all_goals (first | (refine Br.keep ?_) | (refine WQ.stepE (ok_move rfl) rfl rfl rfl ?_))
  all_goals (first | (refine Br.keep ?_) | (refine WQ.stepE (ok_move rfl) rfl rfl rfl ?_))
  all_goals (first | (refine Br.keep ?_) | (refine WQ.stepE (ok_idxAddrA Tryz.underlying90 (fun w => Tryz.sizeOf179 w) rfl rfl rfl (by omega) (by first | rfl | assumption)) rfl rfl rfl ?_))
  all_goals (first | (refine Br.keep ?_) | (refine WQ.stepE (ok_loadN (fun w => Tryz.isAgg179 w) (fun w => Tryz.sizeOf179 w) rfl rfl (by assumption)) rfl rfl rfl ?_))
  all_goals (first | (refine Br.keep ?_) | (refine WQ.stepE (OkP.nbool_f rfl (ok_neqF (us := y.sca) (vs := y.sca) ([.s, .i .i64, .i .i64, .i .i64, .i .i64, .i .i64, .i .i64]) (by kernel_rfl) rfl rfl rfl rfl)) rfl rfl rfl ?_))
  all_goals (first | (refine Br.keep ?_) | (refine WQ.nil ?_))
  all_goals (refine Gn ?_)
  all_goals (first | (refine Br.keep ?_) | (refine Gs [(0, _), (1, _), (12, _), (13, _), (24, _)] ?_))
  all_goals (first | (refine Br.keep ?_) | (refine goC 5 6 ?_ ?_ <;> first | exact ⟨⟩ | refine Hb.mk fun hb => ?_ | skip))
  all_goals (first | (fail_if_success refine goB 5 ?_) | (
  refine goB 5 ?_
  all_goals (refine WC.sr ?_)
  all_goals (refine Go ?_)
  all_goals (refine Gs [(4, _)] ?_)
  all_goals (refine Gt ?_)
  all_goals (exact ⟨rfl, rfl⟩)
  skip))
  all_goals (first | (fail_if_success refine goB 6 ?_) | (
  refine goB 6 ?_
  all_goals (refine WC.skip ?_)
  skip))
  all_goals (refine Gn ?_)
  all_goals (first | (refine Br.keep ?_) | (refine WC.region ?_))
  all_goals (refine Go ?_)
  all_goals (first | (refine Br.keep ?_) | (exact ⟨k + 1, ⟨rfl, rfl, rfl, rfl, trivial⟩, (by exact ⟨rfl, by omega⟩), (by omega)⟩))
  all_goals (try (refine Br.mk (i := 1000) ?_))
  all_goals (refine Gn ?_)
  all_goals (refine Gs [] ?_)
  all_goals (refine WC.sr ?_)
  all_goals (refine Go ?_)
  all_goals (refine Gt ?_)
  all_goals (exact ⟨rfl, rfl⟩)

set_option maxHeartbeats 2000000 in
set_option maxRecDepth 100000 in
theorem equal_fld {h : Heap} {v w : Value} (l : List FieldD) (hr : Rd h v 2 l.length (l.flatMap FieldD.cells)) (hs : Rd h w 2 l.length (l.flatMap FieldD.cells)) (hm : l.length ≤ maxLen) :
    CallsH Tryz.prog 201 ⟨[v, w]⟩ h fun u h' => u = .bool true ∧ h' = h := by
  obtain ⟨A, c, rfl, _⟩ := id hr
  obtain ⟨B, d, rfl, _⟩ := id hs
  unfold maxLen at hm
  refine calls [(0, _), (1, _)] Tryz.func201 rfl Tryz.ntmps201 rfl ⟨rfl, rfl, trivial⟩ ?_
  all_goals (refine WC.sr ?_)
  all_goals (refine Go ?_)
  all_goals (refine WC.seq ?_)
  all_goals (refine WC.sr ?_)
  all_goals (refine Go ?_)
  all_goals (refine Gs [(0, _), (1, _), (10, _)] ?_)
  all_goals (refine goC 1 2 ?_ ?_ <;> first | exact ⟨⟩ | refine Hb.mk fun hb => ?_ | skip)
  all_goals (first | (fail_if_success refine goB 1 ?_) | (
  refine goB 1 ?_
  all_goals (refine WC.sr ?_)
  all_goals (refine Go ?_)
  all_goals (refine Gt ?_)
  all_goals (exact ⟨rfl, rfl⟩)
  skip))
  all_goals (first | (fail_if_success refine goB 2 ?_) | (
  refine goB 2 ?_
  all_goals (refine WC.skip ?_)
  skip))
  all_goals (refine Gn ?_)
  all_goals (refine WC.seq ?_)
  all_goals (refine WC.sr ?_)
  all_goals (refine Go ?_)
  all_goals (refine WC.block ?_)
  -- loop 0: slots that turn [13], that stay [0, 1, 12]
  all_goals (refine WC.loopG (X := Nat) (fun x => ([(13, In (x : Int))] : Fr)) [(0, _), (1, _), (12, _)] (fun k h' => h' = h ∧ k ≤ l.length) (fun k => l.length - k) (0) ⟨rfl, rfl, rfl, rfl, trivial⟩ (by exact ⟨rfl, Nat.zero_le _⟩) ?_)
  all_goals (rintro k h9 ⟨hz, hk⟩
             subst h9)
  all_goals (refine WC.sub [(13, _), (0, _), (1, _), (12, _)] ⟨rfl, rfl, rfl, rfl, trivial⟩ ?_)
  all_goals (refine WC.sr ?_)
  all_goals (refine Go ?_)
  all_goals (refine WC.seq ?_)
  all_goals (refine goC 3 4 ?_ ?_ <;> first | exact ⟨⟩ | refine Hb.mk fun hb => ?_ | skip)
  all_goals (first | (fail_if_success refine goB 3 ?_) | (
  refine goB 3 ?_
  all_goals (refine WC.skip ?_)
  skip))
  all_goals (first | (fail_if_success refine goB 4 ?_) | (
  refine goB 4 ?_
  all_goals (refine WC.exit ?_)
  all_goals (repeat' (with_reducible first | refine thenP_x ?_ | refine blockP_miss rfl ?_ | refine blockP_hit ?_ | refine blockP_n ?_ | refine thenP_n ?_))
  all_goals (refine Br.out (i := 1000) ?_)
  skip))
  all_goals (refine Gn ?_)
  all_goals (first | (refine Br.keep ?_) | (refine WC.seq ?_))
  all_goals (first | (refine Br.keep ?_) | (refine WC.block ?_))
  all_goals (first | (refine Br.keep ?_) | (refine WC.sr ?_))
  all_goals (first
               | (refine Br.keep ?_)
               | (obtain ⟨bL, oL, hA, hbL, hat⟩ := Rd.at_ hr (by omega)
                  obtain ⟨bM, oM, hB, hbM, hbt⟩ := Rd.at_ hs (by omega)
                  obtain ⟨y, hy⟩ : ∃ y, l[k]? = some y := ⟨_, List.getElem?_eq_getElem (by omega)⟩
                  have at1 : At h bL (oL + k * 2) (FieldD.cells y) := At.elem FieldD.len hat hy
                  have at2 : At h bM (oM + k * 2) (FieldD.cells y) := At.elem FieldD.len hbt hy))
  all_goals (first | (refine Br.keep ?_) | (refine WL.step (ok_move rfl) rfl rfl rfl ?_))
  all_goals (refine Go ?_)
  all_goals (first | (refine Br.keep ?_) | (refine WC.seq ?_))
  all_goals (first | (refine Br.keep ?_) | (refine WC.drawE fol (by kernel_rfl) ?_))
  all_goals (first | (refine Br.keep ?_) | (refine WQ.stepE (ok_move rfl) rfl rfl rfl ?_))
  all_goals (first | (refine Br.keep ?_) | (refine WQ.stepE (ok_move rfl) rfl rfl rfl ?_))
  all_goals (first | (refine Br.keep ?_) | (refine WQ.stepE (ok_idxAddrA Tryz.underlying88 (fun w => Tryz.sizeOf152 w) rfl rfl rfl (by omega) (by first | rfl | assumption)) rfl rfl rfl ?_))
  all_goals (first | (refine Br.keep ?_) | (refine WQ.stepE (ok_loadN (fun w => Tryz.isAgg152 w) (fun w => Tryz.sizeOf152 w) rfl rfl (by assumption)) rfl rfl rfl ?_))
  all_goals (first | (refine Br.keep ?_) | (refine WQ.stepE (ok_move rfl) rfl rfl rfl ?_))
  all_goals (first | (refine Br.keep ?_) | (refine WQ.stepE (ok_move rfl) rfl rfl rfl ?_))
  all_goals (first | (refine Br.keep ?_) | (refine WQ.stepE (ok_idxAddrA Tryz.underlying88 (fun w => Tryz.sizeOf152 w) rfl rfl rfl (by omega) (by first | rfl | assumption)) rfl rfl rfl ?_))
  all_goals (first | (refine Br.keep ?_) | (refine WQ.stepE (ok_loadN (fun w => Tryz.isAgg152 w) (fun w => Tryz.sizeOf152 w) rfl rfl (by assumption)) rfl rfl rfl ?_))
  all_goals (first | (refine Br.keep ?_) | (refine WQ.stepE (OkP.nbool_f rfl (ok_neqF (us := y.sca) (vs := y.sca) ([.i .u8, .s]) (by kernel_rfl) rfl rfl rfl rfl)) rfl rfl rfl ?_))
  all_goals (first | (refine Br.keep ?_) | (refine WQ.nil ?_))
  all_goals (refine Gn ?_)
  all_goals (first | (refine Br.keep ?_) | (refine Gs [(0, _), (1, _), (12, _), (13, _), (24, _)] ?_))
  all_goals (first | (refine Br.keep ?_) | (refine goC 5 6 ?_ ?_ <;> first | exact ⟨⟩ | refine Hb.mk fun hb => ?_ | skip))
  all_goals (first | (fail_if_success refine goB 5 ?_) | (
  refine goB 5 ?_
  all_goals (refine WC.sr ?_)
  all_goals (refine Go ?_)
  all_goals (refine Gs [(4, _)] ?_)
  all_goals (refine Gt ?_)
  all_goals (exact ⟨rfl, rfl⟩)
  skip))
  all_goals (first | (fail_if_success refine goB 6 ?_) | (
  refine goB 6 ?_
  all_goals (refine WC.skip ?_)
  skip))
  all_goals (refine Gn ?_)
  all_goals (first | (refine Br.keep ?_) | (refine WC.region ?_))
  all_goals (refine Go ?_)
  all_goals (first | (refine Br.keep ?_) | (exact ⟨k + 1, ⟨rfl, rfl, rfl, rfl, trivial⟩, (by exact ⟨rfl, by omega⟩), (by omega)⟩))
  all_goals (try (refine Br.mk (i := 1000) ?_))
  all_goals (refine Gn ?_)
  all_goals (refine Gs [] ?_)
  all_goals (refine WC.sr ?_)
  all_goals (refine Go ?_)
  all_goals (refine Gt ?_)
  all_goals (exact ⟨rfl, rfl⟩)

set_option maxHeartbeats 2000000 in
set_option maxRecDepth 100000 in
theorem allf_ok {h : Heap} (b : BndD) (hb : b.ok) : CallsH Tryz.prog 233 ⟨[.agg ⟨b.cells⟩]⟩ h fun u h' => u = .bool false ∧ Ext No h h' := by
  obtain ⟨n, lo, hi⟩ := b
  obtain ⟨h1, h2⟩ := hb
  simp only at h1 h2
  dsimp only [BndD.cells]
  refine calls [(0, _)] Tryz.func233 rfl Tryz.ntmps233 rfl ⟨rfl, trivial⟩ ?_
  all_goals (refine WC.sr ?_)
  all_goals (refine WL.stepR (okE_box rfl) rfl rfl rfl ?_
             rintro _ h3 ⟨b3, rfl, hg3, hb3, hx3⟩)
  all_goals (refine Go ?_)
  all_goals (refine WC.sr ?_)
  all_goals (refine Go ?_)
  all_goals (refine Ld ?_)
  all_goals (refine Go ?_)
  all_goals (refine Ld ?_)
  all_goals (refine Go ?_)
  all_goals (refine goP 8 ?_ ?_ <;> first | exact ⟨⟩ | refine Hb.mk fun hb => ?_ | skip)
  all_goals (refine Gg ?_)
  all_goals (first | (refine WL.pass rfl rfl rfl ?_) | (refine Ld ?_))
  all_goals (refine Gg ?_)
  all_goals (first | (refine WL.pass rfl rfl rfl ?_) | (refine Ld ?_))
  all_goals (refine Gg ?_)
  all_goals (refine Go ?_)
  all_goals (refine Gs [(2, _)] ?_)
  all_goals (refine Gt ?_)
  all_goals (exact ⟨rfl, hx3⟩)
set_option maxHeartbeats 2000000 in
set_option maxRecDepth 100000 in
theorem all_ok {h : Heap} {v : Value} (l : List BndD) (hr : Rd h v 3 l.length (l.flatMap BndD.cells)) (hm : l.length ≤ maxLen) (hl : ∀ b ∈ l, b.ok) : CallsH Tryz.prog 195 ⟨[v]⟩ h fun u h' => u = .bool true ∧ Ext No h h' := by
  have hcon : CallsH Tryz.prog 232 ⟨[v, .func (.func 233) ⟨[]⟩ ⟨[]⟩]⟩ h fun u h' => u = .bool false ∧ Ext No h h' := by
    refine calls [(0, _), (1, _)] Tryz.func232 rfl Tryz.ntmps232 rfl ⟨rfl, rfl, trivial⟩ ?_
    all_goals (refine WC.sr ?_)
    all_goals (refine Go ?_)
    all_goals (refine WC.sr ?_)
    all_goals (refine Go ?_)
    all_goals (refine WL.call (vs := [_, _]) rfl (fun a w => Tryz.call262 a w) rfl (indexFunc_bnd l (fun _ => false) (fun a w => Tryz.call233 a w) (fs := []) (us := []) hr hm (fun x hx h' hx' => allf_ok x (hl x hx))) rfl rfl rfl ?_
               rintro _ h1 ⟨rfl, hx1⟩)
    all_goals (rw [idxP_no (fun _ _ => rfl)])
    all_goals (refine Go ?_)
    all_goals (refine Gs [(4, _)] ?_)
    all_goals (refine Gt ?_)
    all_goals (exact ⟨rfl, hx1⟩)
  refine calls [(0, _)] Tryz.func195 rfl Tryz.ntmps195 rfl ⟨rfl, trivial⟩ ?_
  all_goals (refine WC.sr ?_)
  all_goals (refine Go ?_)
  all_goals (refine WC.sr ?_)
  all_goals (refine Go ?_)
  all_goals (refine WL.call (vs := [_, _]) rfl (fun a w => Tryz.call232 a w) rfl (hcon) rfl rfl rfl ?_
             rintro _ h1 ⟨rfl, hx1⟩)
  all_goals (refine Go ?_)
  all_goals (refine Gs [(2, _)] ?_)
  all_goals (refine Gt ?_)
  all_goals (exact ⟨rfl, hx1⟩)
/-- A column that may be. -/
def ColD.okB (c : ColD) : Prop := cleanB c.nm = true ∧ (0 ≤ c.t ∧ c.t ≤ 4294967295) ∧ (0 ≤ c.a ∧ c.a ≤ 65535) ∧ (0 ≤ c.o ∧ c.o ≤ 4294967295) ∧ (-32768 ≤ c.s ∧ c.s ≤ 32767) ∧ (-2147483648 ≤ c.m ∧ c.m ≤ 2147483647) ∧ (0 ≤ c.f ∧ c.f ≤ 65535)
set_option maxHeartbeats 2000000 in
set_option maxRecDepth 100000 in
theorem column_ok {h : Heap} (c : ColD) (hc : c.okB) : CallsH Tryz.prog 149 ⟨[.agg ⟨c.cells⟩]⟩ h fun u h' => u = .bool true ∧ Ext No h h' := by
  obtain ⟨nm, t, a, o, s, m, f⟩ := c
  obtain ⟨h1, h2, h3, h4, h5, h6, h7⟩ := hc
  simp only at h1 h2 h3 h4 h5 h6 h7
  dsimp only [ColD.cells]
  refine calls [(0, _)] Tryz.func149 rfl Tryz.ntmps149 rfl ⟨rfl, trivial⟩ ?_
  all_goals (refine WC.sr ?_)
  all_goals (refine WL.stepR (okE_box rfl) rfl rfl rfl ?_
             rintro _ g1 ⟨b1, rfl, hg1, hb1, hx1⟩)
  all_goals (refine Go ?_)
  all_goals (refine WC.sr ?_)
  all_goals (refine Go ?_)
  all_goals (refine Ld ?_)
  all_goals (refine WL.call (vs := [_]) rfl (fun a w => Tryz.call143 a w) rfl ((clean_any nm).as (congrArg Value.bool h1)) rfl rfl rfl ?_
             rintro _ hz ⟨rfl, _⟩
             subst hz)
  all_goals (refine Go ?_)
  all_goals (refine goP 6 ?_ ?_ <;> first | exact ⟨⟩ | refine Hb.mk fun hb => ?_ | skip)
  all_goals (refine Gg ?_)
  all_goals (first | (refine WL.pass rfl rfl rfl ?_) | (refine Ld ?_))
  all_goals (first | (refine WL.pass rfl rfl rfl ?_) | (refine WL.step (ok_buildF (vs := [_, _, _]) (cs := [_, _, _]) (fun | [a0, a1, a2] => [a0, a1, a2] | _ => []) rfl rfl (by kernel_rfl)) rfl rfl rfl ?_))
  all_goals (refine Gg ?_)
  all_goals (first | (refine WL.pass rfl rfl rfl ?_) | (refine Ld ?_))
  all_goals (first | (refine WL.pass rfl rfl rfl ?_) | (refine WL.step (ok_buildF (vs := [_, _, _]) (cs := [_, _, _]) (fun | [a0, a1, a2] => [a0, a1, a2] | _ => []) rfl rfl (by kernel_rfl)) rfl rfl rfl ?_))
  all_goals (refine Gg ?_)
  all_goals (first | (refine WL.pass rfl rfl rfl ?_) | (refine Ld ?_))
  all_goals (first | (refine WL.pass rfl rfl rfl ?_) | (refine WL.step (ok_buildF (vs := [_, _, _]) (cs := [_, _, _]) (fun | [a0, a1, a2] => [a0, a1, a2] | _ => []) rfl rfl (by kernel_rfl)) rfl rfl rfl ?_))
  all_goals (refine Gg ?_)
  all_goals (first | (refine WL.pass rfl rfl rfl ?_) | (refine Ld ?_))
  all_goals (first | (refine WL.pass rfl rfl rfl ?_) | (refine WL.step (ok_buildF (vs := [_, _, _]) (cs := [_, _, _]) (fun | [a0, a1, a2] => [a0, a1, a2] | _ => []) rfl rfl (by kernel_rfl)) rfl rfl rfl ?_))
  all_goals (refine Gg ?_)
  all_goals (first | (refine WL.pass rfl rfl rfl ?_) | (refine Ld ?_))
  all_goals (first | (refine WL.pass rfl rfl rfl ?_) | (refine WL.step (ok_buildF (vs := [_, _, _]) (cs := [_, _, _]) (fun | [a0, a1, a2] => [a0, a1, a2] | _ => []) rfl rfl (by kernel_rfl)) rfl rfl rfl ?_))
  all_goals (refine Gg ?_)
  all_goals (first | (refine WL.pass rfl rfl rfl ?_) | (refine Ld ?_))
  all_goals (first | (refine WL.pass rfl rfl rfl ?_) | (refine WL.step (ok_buildF (vs := [_, _, _]) (cs := [_, _, _]) (fun | [a0, a1, a2] => [a0, a1, a2] | _ => []) rfl rfl (by kernel_rfl)) rfl rfl rfl ?_))
  all_goals (first
               | (refine WL.pass rfl rfl rfl ?_)
               | (refine WL.stepR (okE_buildSlice (vs := [_, _, _, _, _, _]) (cs := [_, _, _, _, _, _, _, _, _, _, _, _, _, _, _, _, _, _]) (fun | [.agg ⟨[a0, a1, a2]⟩, .agg ⟨[a3, a4, a5]⟩, .agg ⟨[a6, a7, a8]⟩, .agg ⟨[a9, a10, a11]⟩, .agg ⟨[a12, a13, a14]⟩, .agg ⟨[a15, a16, a17]⟩] => [a0, a1, a2, a3, a4, a5, a6, a7, a8, a9, a10, a11, a12, a13, a14, a15, a16, a17] | _ => []) Tryz.underlying314 rfl rfl (by kernel_rfl)) rfl rfl rfl ?_
                  rintro _ g2 ⟨b2, rfl, hg2, hb2, hx2⟩))
  all_goals (first
               | (refine WL.pass rfl rfl rfl ?_)
               | (refine WL.call (vs := [_]) rfl (fun a w => Tryz.call195 a w) rfl (all_ok [⟨t, 0, 4294967295⟩, ⟨a, 0, 65535⟩, ⟨o, 0, 4294967295⟩, ⟨s, -32768, 32767⟩, ⟨m, -2147483648, 2147483647⟩, ⟨f, 0, 65535⟩] (rd_blk hb2 rfl) (by simp [maxLen]) (by intro b hb; simp only [List.mem_cons, List.not_mem_nil, or_false] at hb; rcases hb with rfl | rfl | rfl | rfl | rfl | rfl <;> assumption)) rfl rfl rfl ?_
                  rintro _ g3 ⟨rfl, hx3⟩))
  all_goals (refine Go ?_)
  all_goals (refine Gs [(2, _)] ?_)
  all_goals (refine Gt ?_)
  all_goals (exact ⟨rfl, (hx1.trans hx2).trans hx3⟩)
def FieldD.okB (c : FieldD) : Prop := c.k ≠ 0 ∧ cleanB c.t = true
set_option maxHeartbeats 2000000 in
set_option maxRecDepth 100000 in
theorem field_ok {h : Heap} (c : FieldD) (hc : c.okB) : CallsH Tryz.prog 151 ⟨[.agg ⟨c.cells⟩]⟩ h fun u h' => u = .bool true ∧ Ext No h h' := by
  obtain ⟨k, t⟩ := c
  obtain ⟨h1, h2⟩ := hc
  simp only at h1 h2
  dsimp only [FieldD.cells]
  refine calls [(0, _)] Tryz.func151 rfl Tryz.ntmps151 rfl ⟨rfl, trivial⟩ ?_
  all_goals (refine WC.sr ?_)
  all_goals (refine WL.stepR (okE_box rfl) rfl rfl rfl ?_
             rintro _ g1 ⟨b1, rfl, hg1, hb1, hx1⟩)
  all_goals (refine Go ?_)
  all_goals (refine WC.sr ?_)
  all_goals (refine Go ?_)
  all_goals (refine Ld ?_)
  all_goals (refine Go ?_)
  all_goals (refine goP 6 ?_ ?_ <;> first | exact ⟨⟩ | refine Hb.mk fun hb => ?_ | skip)
  all_goals (refine Gg ?_)
  all_goals (first | (refine WL.pass rfl rfl rfl ?_) | (refine Ld ?_))
  all_goals (first
               | (refine WL.pass rfl rfl rfl ?_)
               | (refine WL.call (vs := [_]) rfl (fun a w => Tryz.call143 a w) rfl ((clean_any t).as (congrArg Value.bool h2)) rfl rfl rfl ?_
                  rintro _ hz ⟨rfl, _⟩
                  subst hz))
  all_goals (refine Go ?_)
  all_goals (refine Gs [(2, _)] ?_)
  all_goals (refine Gt ?_)
  all_goals (exact ⟨rfl, hx1⟩)
def Cel.okB (c : Cel) : Prop := (c.null = true → c.bytes.length = 0) ∧ c.bytes.length ≤ 1048576
set_option maxHeartbeats 2000000 in
set_option maxRecDepth 100000 in
theorem cell_ok {h h0 : Heap} (c : Cel) (hk : c.ok h0) (hc : c.okB) : CallsH Tryz.prog 153 ⟨[.agg ⟨c.cells⟩]⟩ h fun u h' => u = .bool true ∧ Ext No h h' := by
  obtain ⟨nl, v, bs⟩ := c
  obtain ⟨h1, h2⟩ := hc
  simp only at h1 h2
  obtain ⟨A, cc, e, _⟩ := hk.1
  simp only at e
  subst e
  dsimp only [Cel.cells]
  cases nl
  all_goals try have h3 := h1 rfl
  all_goals
    refine calls [(0, _)] Tryz.func153 rfl Tryz.ntmps153 rfl ⟨rfl, trivial⟩ ?_
    all_goals (refine WC.sr ?_)
    all_goals (refine WL.stepR (okE_box rfl) rfl rfl rfl ?_
               rintro _ g1 ⟨b1, rfl, hg1, hb1, hx1⟩)
    all_goals (refine Go ?_)
    all_goals (refine WC.sr ?_)
    all_goals (refine Go ?_)
    all_goals (refine Ld ?_)
    all_goals (refine Go ?_)
    all_goals (refine goP 5 ?_ ?_ <;> first | exact ⟨⟩ | refine Hb.mk fun hb => ?_ | skip)
    all_goals (refine Gg ?_)
    all_goals (first | (refine WL.pass rfl rfl rfl ?_) | (refine Ld ?_))
    all_goals (refine Gg ?_)
    all_goals (refine Go ?_)
    all_goals (refine goP 12 ?_ ?_ <;> first | exact ⟨⟩ | refine Hb.mk fun hb => ?_ | skip)
    all_goals (refine Gg ?_)
    all_goals (first | (refine WL.pass rfl rfl rfl ?_) | (refine Ld ?_))
    all_goals (refine Gg ?_)
    all_goals (refine Go ?_)
    all_goals (refine Gs [(2, _)] ?_)
    all_goals (refine Gt ?_)
    all_goals (exact ⟨rfl, hx1⟩)
set_option maxHeartbeats 2000000 in
set_option maxRecDepth 100000 in
theorem oid_ok {h : Heap} (n : Int) (h0 : 0 ≤ n) (h1 : n ≤ 4294967295) : CallsH Tryz.prog 155 ⟨[In n]⟩ h fun u h' => u = .bool true ∧ h' = h := by
  refine calls [(0, _)] Tryz.func155 rfl Tryz.ntmps155 rfl ⟨rfl, trivial⟩ ?_
  all_goals (refine WC.sr ?_)
  all_goals (refine Go ?_)
  all_goals (refine WC.sr ?_)
  all_goals (refine Go ?_)
  all_goals (refine goP 5 ?_ ?_ <;> first | exact ⟨⟩ | refine Hb.mk fun hb => ?_ | skip)
  all_goals (refine Gg ?_)
  all_goals (refine Go ?_)
  all_goals (refine Gs [(2, _)] ?_)
  all_goals (refine Gt ?_)
  all_goals (exact ⟨rfl, rfl⟩)
set_option maxHeartbeats 2000000 in
set_option maxRecDepth 100000 in
theorem every_int {h : Heap} {v : Value} (l : List Int) (hr : Rd h v 1 l.length (ints l)) (hl : l.length ≤ 65535) (hp : ∀ n ∈ l, 0 ≤ n ∧ n ≤ 4294967295) :
    CallsH Tryz.prog 154 ⟨[v, .func (.func 155) ⟨[]⟩ ⟨[]⟩]⟩ h fun u h' => u = .bool true ∧ Ext No h h' := by
  have hf : ∀ {h : Heap} {b : Nat} {t : TypeId} (x : Int), x ∈ l → h[b]? = some (.cells ⟨[.func (.func 155) ⟨[]⟩ ⟨[]⟩]⟩ t (0, 0)) → CallsH Tryz.prog 199 ⟨[In x, .pointer (some ⟨b, 0, none⟩)]⟩ h fun u h' => u = .bool false ∧ h' = h := by
    intro h b t x hx hb
    refine calls [(0, _), (1, _)] Tryz.func199 rfl Tryz.ntmps199 rfl ⟨rfl, rfl, trivial⟩ ?_
    all_goals (refine WC.sr ?_)
    all_goals (refine Go ?_)
    all_goals (refine WC.sr ?_)
    all_goals (refine Ld ?_)
    all_goals (refine Go ?_)
    all_goals (refine WL.callT (vs := [_]) rfl rfl (fun a w => Tryz.call155 a w) rfl (oid_ok x (hp x hx).1 (hp x hx).2) rfl rfl rfl ?_
               rintro _ hz ⟨rfl, _⟩
               subst hz)
    all_goals (refine Go ?_)
    all_goals (refine Gs [(3, _)] ?_)
    all_goals (refine Gt ?_)
    all_goals (exact ⟨rfl, rfl⟩)
  obtain ⟨A, c, rfl, _⟩ := id hr
  have hcon : ∀ {h' : Heap} {b : Nat} {t : TypeId}, Ext No h h' → h'[b]? = some (.cells ⟨[.func (.func 155) ⟨[]⟩ ⟨[]⟩]⟩ t (0, 0)) → CallsH Tryz.prog 137 ⟨[.slice A l.length c, .func (.func 199) ⟨[]⟩ ⟨[.pointer (some ⟨b, 0, none⟩)]⟩]⟩ h' fun u h'' => u = .bool false ∧ h'' = h' := by
    intro h' b t hx hb
    refine calls [(0, _), (1, _)] Tryz.func137 rfl Tryz.ntmps137 rfl ⟨rfl, rfl, trivial⟩ ?_
    all_goals (refine WC.sr ?_)
    all_goals (refine Go ?_)
    all_goals (refine WC.sr ?_)
    all_goals (refine Go ?_)
    all_goals (refine WL.call (vs := [_, _]) rfl (fun a w => Tryz.call189 a w) rfl (indexFunc_int l (fun _ => false) (fun a w => Tryz.call199 a w) (fs := []) (us := [.pointer (some ⟨b, 0, none⟩)]) (hr.ext0 hx) (by unfold maxLen; omega) (fun x hxl => hf x hxl hb)) rfl rfl rfl ?_
               rintro _ hz ⟨rfl, _⟩
               subst hz)
    all_goals (rw [idxP_no (fun _ _ => rfl)])
    all_goals (refine Go ?_)
    all_goals (refine Gs [(4, _)] ?_)
    all_goals (refine Gt ?_)
    all_goals (exact ⟨rfl, rfl⟩)
  refine calls [(0, _), (1, _)] Tryz.func154 rfl Tryz.ntmps154 rfl ⟨rfl, rfl, trivial⟩ ?_
  all_goals (refine WC.sr ?_)
  all_goals (refine WL.stepR (okE_box rfl) rfl rfl rfl ?_
             rintro _ h1 ⟨b1, rfl, hg1, hb1, hx1⟩)
  all_goals (refine Go ?_)
  all_goals (refine WC.sr ?_)
  all_goals (refine Go ?_)
  all_goals (refine goP 8 ?_ ?_ <;> first | exact ⟨⟩ | refine Hb.mk fun hb => ?_ | skip)
  all_goals (refine Gg ?_)
  all_goals (first | (refine WL.pass rfl rfl rfl ?_) | (refine WL.step (ok_makeFunc (vs := []) (us := [_]) rfl rfl) rfl rfl rfl ?_))
  all_goals (first
               | (refine WL.pass rfl rfl rfl ?_)
               | (refine WL.call (vs := [_, _]) rfl (fun a w => Tryz.call137 a w) rfl (hcon hx1 hb1) rfl rfl rfl ?_
                  rintro _ hz ⟨rfl, _⟩
                  subst hz))
  all_goals (refine Gg ?_)
  all_goals (refine Go ?_)
  all_goals (refine Gs [(4, _)] ?_)
  all_goals (refine Gt ?_)
  all_goals (exact ⟨rfl, hx1⟩)
set_option maxHeartbeats 2000000 in
set_option maxRecDepth 100000 in
theorem bytes_equal {h : Heap} {v w : Value} (l m : List UInt8) (hr : Rd h v 1 l.length (bys l)) (hs : Rd h w 1 m.length (bys m)) :
    CallsH Tryz.prog 21 ⟨[v, w]⟩ h fun u h' => u = .bool (decide (l = m)) ∧ h' = h := by
  obtain ⟨A, c, rfl, _⟩ := id hr
  obtain ⟨B, d, rfl, _⟩ := id hs
  by_cases e : l = m
  all_goals
    refine calls [(0, _), (1, _)] Tryz.func21 rfl Tryz.ntmps21 rfl ⟨rfl, rfl, trivial⟩ ?_
    all_goals (refine WC.sr ?_)
    all_goals (refine Go ?_)
    all_goals (refine WC.sr ?_)
    all_goals (refine Go ?_)
    all_goals (refine WL.step (ok_convBS Tryz.underlying22 Tryz.underlying5 Tryz.underlying9 rfl hr) rfl rfl rfl ?_)
    all_goals (refine Go ?_)
    all_goals (refine WL.step (ok_convBS Tryz.underlying22 Tryz.underlying5 Tryz.underlying9 rfl hs) rfl rfl rfl ?_)
    all_goals (refine Go ?_)
    all_goals (refine Gs [(4, _)] ?_)
    all_goals (refine Gt ?_)
    all_goals (exact ⟨by simp [e], rfl⟩)
set_option maxHeartbeats 2000000 in
set_option maxRecDepth 100000 in
theorem alike_back {h : Heap} (a b : Cel) (ha : a.ok h) (hb : b.ok h) (e : a.pl = b.pl) :
    CallsH Tryz.prog 202 ⟨[.agg ⟨a.cells⟩, .agg ⟨b.cells⟩]⟩ h fun u h' => u = .bool true ∧ Ext No h h' := by
  obtain ⟨n1, v1, l1⟩ := a
  obtain ⟨n2, v2, l2⟩ := b
  simp only [Cel.pl, Prod.mk.injEq] at e
  obtain ⟨rfl, rfl⟩ := e
  obtain ⟨ha, _⟩ := ha
  obtain ⟨hb, _⟩ := hb
  simp only at ha hb
  obtain ⟨A, c, rfl, _⟩ := id ha
  obtain ⟨B, d, rfl, _⟩ := id hb
  dsimp only [Cel.cells]
  cases n1
  all_goals
    refine calls [(0, _), (1, _)] Tryz.func202 rfl Tryz.ntmps202 rfl ⟨rfl, rfl, trivial⟩ ?_
    all_goals (refine WC.sr ?_)
    all_goals (refine WL.stepR (okE_box rfl) rfl rfl rfl ?_
               rintro _ h1 ⟨b1, rfl, hg1, hb1, hx1⟩)
    all_goals (refine WL.stepR (okE_box rfl) rfl rfl rfl ?_
               rintro _ h2 ⟨b2, rfl, hg2, hb2, hx2⟩)
    all_goals (have hb1' := hx2.obj hb1 nos
               have hx := hx1.trans hx2)
    all_goals (refine Go ?_)
    all_goals (refine WC.sr ?_)
    all_goals (refine Go ?_)
    all_goals (refine Ld ?_)
    all_goals (refine Go ?_)
    all_goals (refine Ld ?_)
    all_goals (first | (refine WL.step (OkP.bool_t (by rfl) (ok_eqlB Tryz.underlying4 rfl rfl)) rfl rfl rfl ?_) | (refine WL.step (OkP.bool_f (by decide) (ok_eqlB Tryz.underlying4 rfl rfl)) rfl rfl rfl ?_) | (refine WL.step (ok_eqlB Tryz.underlying4 rfl rfl) rfl rfl rfl ?_))
    all_goals (refine Go ?_)
    all_goals (refine goP 10 ?_ ?_ <;> first | exact ⟨⟩ | refine Hb.mk fun hb => ?_ | skip)
    all_goals (refine Gg ?_)
    all_goals (first | (refine WL.pass rfl rfl rfl ?_) | (refine Ld ?_))
    all_goals (refine Gg ?_)
    all_goals (first | (refine WL.pass rfl rfl rfl ?_) | (refine Ld ?_))
    all_goals (first
                 | (refine WL.pass rfl rfl rfl ?_)
                 | (refine WL.call (vs := [_, _]) rfl (fun a w => Tryz.call21 a w) rfl ((bytes_equal l1 l1 (ha.ext0 hx) (hb.ext0 hx)).as (congrArg Value.bool (decide_eq_true rfl))) rfl rfl rfl ?_
                    rintro _ hz ⟨rfl, _⟩
                    subst hz))
    all_goals (refine Go ?_)
    all_goals (refine Gs [(4, _)] ?_)
    all_goals (refine Gt ?_)
    all_goals (exact ⟨rfl, hx⟩)
theorem pl_get {α β : Type} {F : α → β} {l m : List α} {k : Nat} {a b : α} (e : l.map F = m.map F) (ha : l[k]? = some a) (hb : m[k]? = some b) : F a = F b := by
  have := congrArg (·[k]?) e
  simpa [ha, hb] using this
set_option maxHeartbeats 2000000 in
set_option maxRecDepth 100000 in
theorem equalF_cel {h : Heap} {v w : Value} (l m : List Cel) (hl : Cels h v l) (hm : Cels h w m) (e : l.map Cel.pl = m.map Cel.pl) :
    CallsH Tryz.prog 145 ⟨[v, w, .func (.func 202) ⟨[]⟩ ⟨[]⟩]⟩ h fun u h' => u = .bool true ∧ Ext No h h' := by
  obtain ⟨hr, ⟨hlm, A, c, rfl, _⟩, ho⟩ := hl
  obtain ⟨hs, ⟨hmm, B, d, rfl, _⟩, hp⟩ := hm
  have hlen : m.length = l.length := by simpa using (congrArg List.length e).symm
  unfold reachBytes at hlm
  refine calls [(0, _), (1, _), (2, _)] Tryz.func145 rfl Tryz.ntmps145 rfl ⟨rfl, rfl, rfl, trivial⟩ ?_
  all_goals (refine WC.sr ?_)
  all_goals (refine Go ?_)
  all_goals (refine WC.seq ?_)
  all_goals (refine WC.sr ?_)
  all_goals (refine Go ?_)
  all_goals (refine Gs [(0, _), (1, _), (2, _), (14, _)] ?_)
  all_goals (refine goC 1 2 ?_ ?_ <;> first | exact ⟨⟩ | refine Hb.mk fun hb => ?_ | skip)
  all_goals (first | (fail_if_success refine goB 1 ?_) | (
  refine goB 1 ?_
  all_goals (refine WC.sr ?_)
  all_goals (refine Go ?_)
  all_goals (refine Gs [(6, _)] ?_)
  all_goals (refine Gt ?_)
  all_goals (exact ⟨rfl, hx1⟩)
  skip))
  all_goals (first | (fail_if_success refine goB 2 ?_) | (
  refine goB 2 ?_
  all_goals (refine WC.skip ?_)
  skip))
  all_goals (refine Gn ?_)
  all_goals (refine WC.seq ?_)
  all_goals (refine WC.sr ?_)
  all_goals (refine Go ?_)
  all_goals (refine WC.block ?_)
  -- loop 0: slots that turn [17], that stay [1, 2, 15, 16]
  all_goals (refine WC.loopG (X := Nat) (fun x => ([(17, In (x : Int))] : Fr)) [(1, _), (2, _), (15, _), (16, _)] (fun k h' => Ext No h h' ∧ k ≤ l.length) (fun k => l.length - k) (0) ⟨rfl, rfl, rfl, rfl, rfl, trivial⟩ (by exact ⟨.refl _ _, Nat.zero_le _⟩) ?_)
  all_goals (rintro k h1 ⟨hx1, hk⟩)
  all_goals (refine WC.sub [(17, _), (1, _), (2, _), (15, _), (16, _)] ⟨rfl, rfl, rfl, rfl, rfl, trivial⟩ ?_)
  all_goals (refine WC.sr ?_)
  all_goals (refine Go ?_)
  all_goals (refine WC.seq ?_)
  all_goals (refine goC 3 4 ?_ ?_ <;> first | exact ⟨⟩ | refine Hb.mk fun hb => ?_ | skip)
  all_goals (first | (fail_if_success refine goB 3 ?_) | (
  refine goB 3 ?_
  all_goals (refine WC.skip ?_)
  skip))
  all_goals (first | (fail_if_success refine goB 4 ?_) | (
  refine goB 4 ?_
  all_goals (refine WC.exit ?_)
  all_goals (repeat' (with_reducible first | refine thenP_x ?_ | refine blockP_miss rfl ?_ | refine blockP_hit ?_ | refine blockP_n ?_ | refine thenP_n ?_))
  all_goals (refine Br.out (i := 1000) ?_)
  skip))
  all_goals (refine Gn ?_)
  all_goals (first | (refine Br.keep ?_) | (refine WC.seq ?_))
  all_goals (first | (refine Br.keep ?_) | (refine WC.block ?_))
  all_goals (first | (refine Br.keep ?_) | (refine WC.sr ?_))
  all_goals (first
               | (refine Br.keep ?_)
               | (obtain ⟨bL, oL, hA, hbL, hat⟩ := Rd.at_ (hr.ext0 hx1) (by omega)
                  obtain ⟨bM, oM, hB, hbM, hbt⟩ := Rd.at_ (hs.ext0 hx1) (by omega)
                  obtain ⟨y, hy⟩ : ∃ y, l[k]? = some y := ⟨_, List.getElem?_eq_getElem (by omega)⟩
                  obtain ⟨z, hz⟩ : ∃ y, m[k]? = some y := ⟨_, List.getElem?_eq_getElem (by omega)⟩
                  have hyo := ho y (List.mem_of_getElem? hy)
                  have hzo := hp z (List.mem_of_getElem? hz)
                  have at1 : At h1 bL (oL + k * 2) y.cells := At.elem Cel.len hat hy
                  have at2 : At h1 bM (oM + k * 2) z.cells := At.elem Cel.len hbt hz
                  have one1 : ∀ v ∈ y.cells, v.oneCell' = true := by obtain ⟨A1, c1, e1, _⟩ := hyo.1; simp [Cel.cells, Value.oneCell', e1]
                  have one2 : ∀ v ∈ z.cells, v.oneCell' = true := by obtain ⟨A1, c1, e1, _⟩ := hzo.1; simp [Cel.cells, Value.oneCell', e1]))
  all_goals (first | (refine Br.keep ?_) | (refine WL.step (ok_move rfl) rfl rfl rfl ?_))
  all_goals (first | (refine Br.keep ?_) | (refine WL.step (ok_idxAddrA Tryz.underlying32 (fun w => Tryz.sizeOf211 w) rfl rfl rfl (by omega) (by first | rfl | assumption)) rfl rfl rfl ?_))
  all_goals (first | (refine Br.keep ?_) | (refine WL.step (ok_loadN (fun w => Tryz.isAgg211 w) (fun w => Tryz.sizeOf211 w) rfl rfl (by assumption)) rfl rfl rfl ?_))
  all_goals (first
               | (refine Br.keep ?_)
               | (refine WL.stepR (okE_alloc (fun w => Tryz.zeroValue211 w)) rfl rfl rfl ?_
                  rintro _ h2 ⟨b2, rfl, hg2, hb2, hx2⟩))
  all_goals (refine Go ?_)
  all_goals (first
               | (refine Br.keep ?_)
               | (refine WL.stepR0 (okE_storeW (fun w => Tryz.sizeOf211 w) rfl rfl rfl (by assumption) rfl one1) rfl rfl ?_
                  rintro _ h3 ⟨hb3, hx3⟩))
  all_goals (first | (refine Br.keep ?_) | (have hx13 : Ext No h1 h3 := hx2.trans' hx3 (fun q hq e => by omega)))
  all_goals (refine Gn ?_)
  all_goals (first | (refine Br.keep ?_) | (refine Gs [(1, _), (2, _), (7, _), (8, _), (15, _), (16, _), (17, _)] ?_))
  all_goals (first | (refine Br.keep ?_) | (refine WC.sr ?_))
  all_goals (refine Go ?_)
  all_goals (first | (refine Br.keep ?_) | (refine WL.step (ok_idxAddrA Tryz.underlying32 (fun w => Tryz.sizeOf211 w) rfl rfl rfl (by omega) (by first | rfl | assumption)) rfl rfl rfl ?_))
  all_goals (first | (refine Br.keep ?_) | (refine WL.step (ok_loadN (fun w => Tryz.isAgg211 w) (fun w => Tryz.sizeOf211 w) rfl rfl (by exact at2.ext hx13 nos)) rfl rfl rfl ?_))
  all_goals (first
               | (refine Br.keep ?_)
               | (refine WL.stepR (okE_alloc (fun w => Tryz.zeroValue211 w)) rfl rfl rfl ?_
                  rintro _ h4 ⟨b4, rfl, hg4, hb4, hx4⟩))
  all_goals (first
               | (refine Br.keep ?_)
               | (refine WL.stepR0 (okE_storeW (fun w => Tryz.sizeOf211 w) rfl rfl rfl (by assumption) rfl one2) rfl rfl ?_
                  rintro _ h5 ⟨hb5, hx5⟩))
  all_goals (first
               | (refine Br.keep ?_)
               | (have hx35 : Ext No h3 h5 := hx4.trans' hx5 (fun q hq e => by omega)
                  have hb3' := hx35.obj hb3 nos
                  have hX5 := hx1.trans (hx13.trans hx35)))
  all_goals (refine Gn ?_)
  all_goals (first | (refine Br.keep ?_) | (refine Gs [(1, _), (2, _), (8, _), (9, _), (15, _), (16, _), (17, _)] ?_))
  all_goals (first | (refine Br.keep ?_) | (refine WC.sr ?_))
  all_goals (refine Go ?_)
  all_goals (first | (refine Br.keep ?_) | (refine WL.step (ok_loadN (fun w => Tryz.isAgg211 w) (fun w => Tryz.sizeOf211 w) rfl rfl (by exact At.of_block hb3')) rfl rfl rfl ?_))
  all_goals (first | (refine Br.keep ?_) | (refine WL.step (ok_loadN (fun w => Tryz.isAgg211 w) (fun w => Tryz.sizeOf211 w) rfl rfl (by exact At.of_block hb5)) rfl rfl rfl ?_))
  all_goals (first
               | (refine Br.keep ?_)
               | (refine WL.callT (vs := [_, _]) rfl rfl (fun a w => Tryz.call202 a w) rfl (alike_back y z (hyo.ext0 hX5) (hzo.ext0 hX5) (pl_get e hy hz)) rfl rfl rfl ?_
                  rintro _ h6 ⟨rfl, hx6⟩))
  all_goals (refine Go ?_)
  all_goals (first | (refine Br.keep ?_) | (refine Gs [(1, _), (2, _), (15, _), (16, _), (17, _), (30, _)] ?_))
  all_goals (first | (refine Br.keep ?_) | (refine goC 5 6 ?_ ?_ <;> first | exact ⟨⟩ | refine Hb.mk fun hb => ?_ | skip))
  all_goals (first | (fail_if_success refine goB 5 ?_) | (
  refine goB 5 ?_
  all_goals (refine WC.sr ?_)
  all_goals (refine Go ?_)
  all_goals (refine Gs [(6, _)] ?_)
  all_goals (refine Gt ?_)
  all_goals (exact ⟨rfl, hx1⟩)
  skip))
  all_goals (first | (fail_if_success refine goB 6 ?_) | (
  refine goB 6 ?_
  all_goals (refine WC.skip ?_)
  skip))
  all_goals (refine Gn ?_)
  all_goals (first | (refine Br.keep ?_) | (refine WC.region ?_))
  all_goals (refine Go ?_)
  all_goals (first | (refine Br.keep ?_) | (exact ⟨k + 1, ⟨rfl, rfl, rfl, rfl, rfl, trivial⟩, (by exact ⟨hX5.trans hx6, by omega⟩), (by omega)⟩))
  all_goals (try (refine Br.mk (i := 1000) ?_))
  all_goals (refine Gn ?_)
  all_goals (refine Gs [] ?_)
  all_goals (refine WC.sr ?_)
  all_goals (refine Go ?_)
  all_goals (refine Gt ?_)
  all_goals (exact ⟨rfl, hx1⟩)
set_option maxHeartbeats 4000000 in
set_option maxRecDepth 100000 in
theorem same_back {h : Heap} (a b : Bk) (ha : a.ok h) (hb : b.ok h) (e : a.pl = b.pl) :
    CallsH Tryz.prog 157 ⟨[.agg ⟨a.cells⟩, .agg ⟨b.cells⟩]⟩ h fun u h' => u = .bool true ∧ Ext No h h' := by
  obtain ⟨k1, s1, t1, n1, v1, x1, y1, vo1, l1, vc1, c1, vr1, r1, vf1, f1⟩ := a
  obtain ⟨k2, s2, t2, n2, v2, x2, y2, vo2, l2, vc2, c2, vr2, r2, vf2, f2⟩ := b
  simp only [Bk.pl, Prod.mk.injEq] at e
  obtain ⟨rfl, rfl, rfl, rfl, rfl, rfl, rfl, rfl, rfl, er, rfl⟩ := e
  obtain ⟨⟨ao, hlo⟩, ⟨ac, hlc⟩, ar, af, hlf⟩ := ha
  obtain ⟨⟨bo, _⟩, ⟨bc, _⟩, br, bf, _⟩ := hb
  simp only at ao ac ar af bo bc br bf hlo hlc hlf
  obtain ⟨Ao, co, rfl, _⟩ := id ao
  obtain ⟨Bo, do_, rfl, _⟩ := id bo
  dsimp only [Bk.cells]
  refine calls [(0, _), (1, _)] Tryz.func157 rfl Tryz.ntmps157 rfl ⟨rfl, rfl, trivial⟩ ?_
  all_goals (refine WC.sr ?_)
  all_goals (refine WL.stepR (okE_box rfl) rfl rfl rfl ?_
             rintro _ h1 ⟨b1, rfl, hg1, hb1, hx1⟩)
  all_goals (refine WL.stepR (okE_box rfl) rfl rfl rfl ?_
             rintro _ h2 ⟨b2, rfl, hg2, hb2, hx2⟩)
  all_goals (have hb1' := hx2.obj hb1 nos
             have hx := hx1.trans hx2)
  all_goals (refine Go ?_)
  all_goals (refine WC.sr ?_)
  all_goals (refine Go ?_)
  all_goals (refine Ld ?_)
  all_goals (refine Go ?_)
  all_goals (refine Ld ?_)
  all_goals (refine Go ?_)
  all_goals (refine Ld ?_)
  all_goals (refine WL.step (ok_buildF (vs := [_, _, _]) (cs := [_, _, _]) (fun | [a0, a1, a2] => [a0, a1, a2] | _ => []) rfl rfl (by kernel_rfl)) rfl rfl rfl ?_)
  all_goals (refine Go ?_)
  all_goals (refine Ld ?_)
  all_goals (refine Go ?_)
  all_goals (refine Ld ?_)
  all_goals (refine Go ?_)
  all_goals (refine Ld ?_)
  all_goals (refine WL.step (ok_buildF (vs := [_, _, _]) (cs := [_, _, _]) (fun | [a0, a1, a2] => [a0, a1, a2] | _ => []) rfl rfl (by kernel_rfl)) rfl rfl rfl ?_)
  all_goals (refine WL.step (OkP.bool_t rfl (ok_eqlA (us := [t1, n1, v1]) (vs := [t1, n1, v1]) Tryz.underlying220 (show Tryz.prog.info? 9 = some Tryz.t9 by kernel_rfl) Tryz.underlying9 (by kernel_rfl) (by kernel_rfl) (by kernel_rfl) rfl rfl rfl rfl)) rfl rfl rfl ?_)
  all_goals (refine Go ?_)
  all_goals (refine Gs [(2, _), (3, _), (5, _)] ?_)
  all_goals (refine WC.sr ?_)
  all_goals (refine Go ?_)
  all_goals (refine Ld ?_)
  all_goals (refine Go ?_)
  all_goals (refine Ld ?_)
  all_goals (refine Go ?_)
  all_goals (refine goP 28 ?_ ?_ <;> first | exact ⟨⟩ | refine Hb.mk fun hb => ?_ | skip)
  all_goals (refine Gg ?_)
  all_goals (first | (refine WL.pass rfl rfl rfl ?_) | (refine Ld ?_))
  all_goals (refine Gg ?_)
  all_goals (first | (refine WL.pass rfl rfl rfl ?_) | (refine Ld ?_))
  all_goals (refine Gg ?_)
  all_goals (refine Go ?_)
  all_goals (refine goP 35 ?_ ?_ <;> first | exact ⟨⟩ | refine Hb.mk fun hb => ?_ | skip)
  all_goals (refine Gg ?_)
  all_goals (first | (refine WL.pass rfl rfl rfl ?_) | (refine Ld ?_))
  all_goals (refine Gg ?_)
  all_goals (first | (refine WL.pass rfl rfl rfl ?_) | (refine Ld ?_))
  all_goals (refine Gg ?_)
  all_goals (refine Go ?_)
  all_goals (refine goP 42 ?_ ?_ <;> first | exact ⟨⟩ | refine Hb.mk fun hb => ?_ | skip)
  all_goals (refine Gg ?_)
  all_goals (first | (refine WL.pass rfl rfl rfl ?_) | (refine Ld ?_))
  all_goals (refine Gg ?_)
  all_goals (first | (refine WL.pass rfl rfl rfl ?_) | (refine Ld ?_))
  all_goals (refine Gg ?_)
  all_goals (refine Go ?_)
  all_goals (refine Gs [(2, _), (3, _), (5, _), (6, _)] ?_)
  all_goals (refine WC.sr ?_)
  all_goals (refine Go ?_)
  all_goals (refine Ld ?_)
  all_goals (refine Go ?_)
  all_goals (refine Ld ?_)
  all_goals (refine WL.call (vs := [_, _]) rfl (fun a w => Tryz.call144 a w) rfl ((equal_int _ _ (ao.ext0 hx) (bo.ext0 hx) hlo).as (congrArg Value.bool (decide_eq_true rfl))) rfl rfl rfl ?_
             rintro _ hz ⟨rfl, _⟩
             subst hz)
  all_goals (refine Go ?_)
  all_goals (refine goP 54 ?_ ?_ <;> first | exact ⟨⟩ | refine Hb.mk fun hb => ?_ | skip)
  all_goals (refine Gg ?_)
  all_goals (first | (refine WL.pass rfl rfl rfl ?_) | (refine Ld ?_))
  all_goals (refine Gg ?_)
  all_goals (first | (refine WL.pass rfl rfl rfl ?_) | (refine Ld ?_))
  all_goals (first
               | (refine WL.pass rfl rfl rfl ?_)
               | (refine WL.call (vs := [_, _]) rfl (fun a w => Tryz.call200 a w) rfl (equal_col _ (ac.ext0 hx) (bc.ext0 hx) hlc) rfl rfl rfl ?_
                  rintro _ hz ⟨rfl, _⟩
                  subst hz))
  all_goals (refine Go ?_)
  all_goals (refine goP 61 ?_ ?_ <;> first | exact ⟨⟩ | refine Hb.mk fun hb => ?_ | skip)
  all_goals (refine Gg ?_)
  all_goals (first | (refine WL.pass rfl rfl rfl ?_) | (refine Ld ?_))
  all_goals (refine Gg ?_)
  all_goals (first | (refine WL.pass rfl rfl rfl ?_) | (refine Ld ?_))
  all_goals (first
               | (refine WL.pass rfl rfl rfl ?_)
               | (refine WL.call (vs := [_, _]) rfl (fun a w => Tryz.call201 a w) rfl (equal_fld _ (af.ext0 hx) (bf.ext0 hx) hlf) rfl rfl rfl ?_
                  rintro _ hz ⟨rfl, _⟩
                  subst hz))
  all_goals (refine Go ?_)
  all_goals (refine Gs [(2, _), (3, _), (5, _), (6, _), (7, _)] ?_)
  all_goals (refine WC.sr ?_)
  all_goals (refine Go ?_)
  all_goals (refine goP 69 ?_ ?_ <;> first | exact ⟨⟩ | refine Hb.mk fun hb => ?_ | skip)
  all_goals (refine Gg ?_)
  all_goals (refine Go ?_)
  all_goals (refine goP 72 ?_ ?_ <;> first | exact ⟨⟩ | refine Hb.mk fun hb => ?_ | skip)
  all_goals (refine Gg ?_)
  all_goals (refine Go ?_)
  all_goals (refine goP 75 ?_ ?_ <;> first | exact ⟨⟩ | refine Hb.mk fun hb => ?_ | skip)
  all_goals (refine Gg ?_)
  all_goals (first | (refine WL.pass rfl rfl rfl ?_) | (refine Ld ?_))
  all_goals (refine Gg ?_)
  all_goals (first | (refine WL.pass rfl rfl rfl ?_) | (refine Ld ?_))
  all_goals (first
               | (refine WL.pass rfl rfl rfl ?_)
               | (refine WL.call (vs := [_, _, _]) rfl (fun a w => Tryz.call145 a w) rfl (equalF_cel _ _ (ar.ext0 hx) (br.ext0 hx) er) rfl rfl rfl ?_
                  rintro _ h3 ⟨rfl, hx3⟩))
  all_goals (refine Go ?_)
  all_goals (refine Gs [(4, _)] ?_)
  all_goals (refine Gt ?_)
  all_goals (exact ⟨rfl, hx.trans hx3⟩)
end Go.Proofs.YtdjjpbbhcidaaaaGreatDoor


/-
  back.Check, of messages that may be: the fields of a kind; all of it.
-/
namespace Go.Proofs.YtdjjpbbhcidaaaaGreatDoor
open Go Go.RK

def zB (k : Int) : Bk := ⟨k, 0, [], [], [], 0, 0, .slice none 0 0, [], .slice none 0 0, [], .slice none 0 0, [], .slice none 0 0, []⟩
/-- A message with no fields but those that its body has. -/
def ofB (b : Bk) : Bk :=
  if b.kind = 83 then { zB b.kind with name := b.name, value := b.value }
  else if b.kind = 75 then { zB b.kind with n := b.n, m := b.m }
  else if b.kind = 90 then { zB b.kind with status := b.status }
  else if b.kind = 67 then { zB b.kind with tag := b.tag }
  else if b.kind = 68 then { zB b.kind with vr := b.vr, row := b.row }
  else if b.kind = 84 then { zB b.kind with vc := b.vc, cols := b.cols }
  else if b.kind = 116 then { zB b.kind with vo := b.vo, oids := b.oids }
  else if b.kind = 69 ∨ b.kind = 78 then { zB b.kind with vf := b.vf, fields := b.fields }
  else zB b.kind
theorem cels_no (h : Heap) : Cels h (.slice none 0 0) [] := ⟨Rd.nil _ _, ⟨by simp, _, _, rfl, by decide⟩, by simp⟩
theorem zB_ok (h : Heap) (k : Int) : (zB k).ok h := ⟨⟨Rd.nil _ _, by simp [zB]⟩, ⟨Rd.nil _ _, by simp [zB]⟩, cels_no h, ⟨Rd.nil _ _, by simp [zB]⟩⟩
theorem ofB_ok {h : Heap} {b : Bk} (k : b.ok h) : (ofB b).ok h := by
  obtain ⟨k1, k2, k3, k4⟩ := k
  obtain ⟨z1, z2, z3, z4⟩ := zB_ok h b.kind
  unfold ofB
  repeat' split
  all_goals first | exact ⟨z1, z2, z3, z4⟩ | exact ⟨z1, z2, k3, z4⟩ | exact ⟨z1, k2, z3, z4⟩ | exact ⟨k1, z2, z3, z4⟩ | exact ⟨z1, z2, z3, k4⟩
set_option maxHeartbeats 4000000 in
set_option maxRecDepth 100000 in
theorem of_back {h : Heap} (b : Bk) (hb : b.ok h) : CallsH Tryz.prog 158 ⟨[.agg ⟨b.cells⟩]⟩ h fun u h' => u = .agg ⟨(ofB b).cells⟩ ∧ Ext No h h' := by
  obtain ⟨k, st, t, n, v, x, y, vo, lo, vc, lc, vr, lr, vf, lf⟩ := b
  obtain ⟨⟨ho, _⟩, ⟨hc, _⟩, hr, hf, _⟩ := hb
  simp only at ho hc hr hf
  obtain ⟨A1, c1, rfl, _⟩ := id ho
  obtain ⟨A2, c2, rfl, _⟩ := id hc
  obtain ⟨_, ⟨_, A3, c3, rfl, _⟩, _⟩ := id hr
  obtain ⟨A4, c4, rfl, _⟩ := id hf
  dsimp only [Bk.cells]
  refine calls [(0, _)] Tryz.func158 rfl Tryz.ntmps158 rfl ⟨rfl, trivial⟩ ?_
  all_goals (refine WC.sr ?_)
  all_goals (refine WL.stepR (okE_box rfl) rfl rfl rfl ?_
             rintro _ h1 ⟨b1, rfl, hg1, hb1, hx1⟩)
  all_goals (refine WL.stepR (okE_alloc (fun w => Tryz.zeroValue92 w)) rfl rfl rfl ?_
             rintro _ h2 ⟨b2, rfl, hg2, hb2, hx2⟩)
  all_goals (have hb1a := hx2.obj hb1 nos)
  all_goals (refine Gn ?_)
  all_goals (refine WC.sr ?_)
  all_goals (refine Go ?_)
  all_goals (refine Ld ?_)
  all_goals (refine WL.step (ok_buildF (vs := [_]) (cs := [_, _, _, _, _, _, _, _, _, _, _]) (fun | [a0] => [a0, (.int .u8 0), (St []), (St []), (St []), (.int .i64 0), (.int .i64 0), (.slice none 0 0), (.slice none 0 0), (.slice none 0 0), (.slice none 0 0)] | _ => []) rfl rfl (by kernel_rfl)) rfl rfl rfl ?_)
  all_goals (refine WL.stepR (okE_alloc (fun w => Tryz.zeroValue92 w)) rfl rfl rfl ?_
             rintro _ h3 ⟨b3, rfl, hg3, hb3, hx3⟩)
  all_goals (have hb1b := hx3.obj hb1a nos
             have hb2b := hx3.obj hb2 nos
             have n13 : ¬ b1 = b3 := by have := lt_of_some hb1a; omega
             have n23 : ¬ b2 = b3 := by have := lt_of_some hb2; omega)
  all_goals (refine WL.stepR0 (okE_storeW (fun w => Tryz.sizeOf92 w) rfl rfl rfl (by assumption) rfl (by simp [Value.oneCell'])) rfl rfl ?_
             rintro _ h4 ⟨hb4, hx4⟩)
  all_goals (have hb1c := hx4.obj hb1b n13
             have hb2c := hx4.obj hb2b n23
             have hX4 : Ext No h h4 := ((hx1.trans hx2).trans hx3).trans' hx4 (fun q hq e => by have := hx1.size; have := hx2.size; omega))
  all_goals (refine Gn ?_)
  all_goals (refine Gs [(1, _), (2, _), (3, _)] ?_)
  all_goals (refine WC.seq ?_)
  all_goals (refine WC.sr ?_)
  all_goals (refine Go ?_)
  all_goals (refine Ld ?_)
  all_goals (refine Gn ?_)
  all_goals (refine WC.block ?_)
  all_goals (refine WC.sr ?_)
  all_goals (refine Go ?_)
  all_goals (refine goC 1 2 ?_ ?_ <;> first | exact ⟨⟩ | refine Hb.mk fun hb => ?_ | skip)
  all_goals (first | (fail_if_success refine goB 1 ?_) | (
  refine goB 1 ?_
  all_goals (refine WC.drawH (fun h' => Ext (fun q => q = b3) h4 h') 7 8 rfl fol ?_)
  all_goals (refine WH.tk 0 rfl (fun hq hC => ok_fieldAddr rfl Tryz.underlying92 rfl (fun w => Tryz.sizeOf9 w)) rfl rfl rfl ?_ (hC := (by first | exact Ext.refl _ _ | assumption | exact hx5.trans hx6)))
  all_goals (refine WH.tk 1 rfl (fun hq hC => ok_load (fun w => Tryz.isAgg9 w) rfl (by first | exact hC.cell (by first | exact cell_blk hb1c rfl | assumption | exact cell_blk (by assumption) rfl) n13)) rfl rfl rfl ?_ (hC := (by first | exact Ext.refl _ _ | assumption | exact hx5.trans hx6)))
  all_goals (refine WH.tk 2 rfl (fun hq hC => ok_fieldAddr rfl Tryz.underlying92 rfl (fun w => Tryz.sizeOf9 w)) rfl rfl rfl ?_ (hC := (by first | exact Ext.refl _ _ | assumption | exact hx5.trans hx6)))
  all_goals (refine WH.tk 3 rfl (fun hq hC => ok_load (fun w => Tryz.isAgg9 w) rfl (by first | exact hC.cell (by first | exact cell_blk hb1c rfl | assumption | exact cell_blk (by assumption) rfl) n13)) rfl rfl rfl ?_ (hC := (by first | exact Ext.refl _ _ | assumption | exact hx5.trans hx6)))
  all_goals (refine WH.tk 4 rfl (fun hq hC => ok_fieldAddr rfl Tryz.underlying92 rfl (fun w => Tryz.sizeOf9 w)) rfl rfl rfl ?_ (hC := (by first | exact Ext.refl _ _ | assumption | exact hx5.trans hx6)))
  all_goals (refine WH.one 5 (by kernel_rfl) ?_)
  all_goals (refine Comes1.run0 rfl (okE_store (fun w => Tryz.sizeOf9 w) rfl rfl (by assumption) (Nat.le_of_ble_eq_true rfl) rfl rfl) rfl rfl ?_ (fun _ => by kernel_rfl)
             rintro _ h5 ⟨hb5, hx5⟩)
  all_goals (refine ⟨fun _ => hx5, ?_⟩)
  all_goals (refine WH.tk 6 rfl (fun hq hC => ok_fieldAddr rfl Tryz.underlying92 rfl (fun w => Tryz.sizeOf9 w)) rfl rfl rfl ?_ (hC := (by first | exact Ext.refl _ _ | assumption | exact hx5.trans hx6)))
  all_goals (refine WH.one 7 (by kernel_rfl) ?_)
  all_goals (refine Comes1.run0 rfl (okE_store (fun w => Tryz.sizeOf9 w) rfl rfl (by assumption) (Nat.le_of_ble_eq_true rfl) rfl rfl) rfl rfl ?_ (fun _ => by kernel_rfl)
             rintro _ h6 ⟨hb6, hx6⟩)
  all_goals (refine ⟨fun _ => hx5.trans hx6, ?_⟩)
  all_goals (have hE := hx5.trans hx6
             have hb2z := hE.obj hb2c n23)
  all_goals (refine WH.done (by kernel_rfl) ?_)
  skip))
  all_goals (first | (fail_if_success refine goB 2 ?_) | (
  refine goB 2 ?_
  all_goals (refine WC.sr ?_)
  all_goals (refine Go ?_)
  all_goals (refine Gs [(1, _), (2, _), (3, _), (8, _), (17, _)] ?_)
  all_goals (refine goC 3 4 ?_ ?_ <;> first | exact ⟨⟩ | refine Hb.mk fun hb => ?_ | skip)
  all_goals (first | (fail_if_success refine goB 3 ?_) | (
  refine goB 3 ?_
  all_goals (refine WC.drawH (fun h' => Ext (fun q => q = b3) h4 h') 7 8 rfl fol ?_)
  all_goals (refine WH.tk 0 rfl (fun hq hC => ok_fieldAddr rfl Tryz.underlying92 rfl (fun w => Tryz.sizeOf3 w)) rfl rfl rfl ?_ (hC := (by first | exact Ext.refl _ _ | assumption | exact hx5.trans hx6)))
  all_goals (refine WH.tk 1 rfl (fun hq hC => ok_load (fun w => Tryz.isAgg3 w) rfl (by first | exact hC.cell (by first | exact cell_blk hb1c rfl | assumption | exact cell_blk (by assumption) rfl) n13)) rfl rfl rfl ?_ (hC := (by first | exact Ext.refl _ _ | assumption | exact hx5.trans hx6)))
  all_goals (refine WH.tk 2 rfl (fun hq hC => ok_fieldAddr rfl Tryz.underlying92 rfl (fun w => Tryz.sizeOf3 w)) rfl rfl rfl ?_ (hC := (by first | exact Ext.refl _ _ | assumption | exact hx5.trans hx6)))
  all_goals (refine WH.tk 3 rfl (fun hq hC => ok_load (fun w => Tryz.isAgg3 w) rfl (by first | exact hC.cell (by first | exact cell_blk hb1c rfl | assumption | exact cell_blk (by assumption) rfl) n13)) rfl rfl rfl ?_ (hC := (by first | exact Ext.refl _ _ | assumption | exact hx5.trans hx6)))
  all_goals (refine WH.tk 4 rfl (fun hq hC => ok_fieldAddr rfl Tryz.underlying92 rfl (fun w => Tryz.sizeOf3 w)) rfl rfl rfl ?_ (hC := (by first | exact Ext.refl _ _ | assumption | exact hx5.trans hx6)))
  all_goals (refine WH.one 5 (by kernel_rfl) ?_)
  all_goals (refine Comes1.run0 rfl (okE_store (fun w => Tryz.sizeOf3 w) rfl rfl (by assumption) (Nat.le_of_ble_eq_true rfl) rfl rfl) rfl rfl ?_ (fun _ => by kernel_rfl)
             rintro _ h5 ⟨hb5, hx5⟩)
  all_goals (refine ⟨fun _ => hx5, ?_⟩)
  all_goals (refine WH.tk 6 rfl (fun hq hC => ok_fieldAddr rfl Tryz.underlying92 rfl (fun w => Tryz.sizeOf3 w)) rfl rfl rfl ?_ (hC := (by first | exact Ext.refl _ _ | assumption | exact hx5.trans hx6)))
  all_goals (refine WH.one 7 (by kernel_rfl) ?_)
  all_goals (refine Comes1.run0 rfl (okE_store (fun w => Tryz.sizeOf3 w) rfl rfl (by assumption) (Nat.le_of_ble_eq_true rfl) rfl rfl) rfl rfl ?_ (fun _ => by kernel_rfl)
             rintro _ h6 ⟨hb6, hx6⟩)
  all_goals (refine ⟨fun _ => hx5.trans hx6, ?_⟩)
  all_goals (have hE := hx5.trans hx6
             have hb2z := hE.obj hb2c n23)
  all_goals (refine WH.done (by kernel_rfl) ?_)
  skip))
  all_goals (first | (fail_if_success refine goB 4 ?_) | (
  refine goB 4 ?_
  all_goals (refine WC.sr ?_)
  all_goals (refine Go ?_)
  all_goals (refine goC 5 6 ?_ ?_ <;> first | exact ⟨⟩ | refine Hb.mk fun hb => ?_ | skip)
  all_goals (first | (fail_if_success refine goB 5 ?_) | (
  refine goB 5 ?_
  all_goals (refine WC.region ?_)
  all_goals (refine Go ?_)
  all_goals (refine Ld ?_)
  all_goals (refine Go ?_)
  all_goals (refine WL.stepR0 (okE_store (fun w => Tryz.sizeOf5 w) rfl rfl (by assumption) (Nat.le_of_ble_eq_true rfl) rfl rfl) rfl rfl ?_
             rintro _ h5 ⟨hb5, hE⟩)
  all_goals (have hb2z := hE.obj hb2c n23)
  all_goals (refine Gn ?_)
  skip))
  all_goals (first | (fail_if_success refine goB 6 ?_) | (
  refine goB 6 ?_
  all_goals (refine WC.sr ?_)
  all_goals (refine Go ?_)
  all_goals (refine Gs [(1, _), (2, _), (3, _), (8, _), (30, _)] ?_)
  all_goals (refine goC 7 8 ?_ ?_ <;> first | exact ⟨⟩ | refine Hb.mk fun hb => ?_ | skip)
  all_goals (first | (fail_if_success refine goB 7 ?_) | (
  refine goB 7 ?_
  all_goals (refine WC.region ?_)
  all_goals (refine Go ?_)
  all_goals (refine Ld ?_)
  all_goals (refine Go ?_)
  all_goals (refine WL.stepR0 (okE_store (fun w => Tryz.sizeOf9 w) rfl rfl (by assumption) (Nat.le_of_ble_eq_true rfl) rfl rfl) rfl rfl ?_
             rintro _ h5 ⟨hb5, hE⟩)
  all_goals (have hb2z := hE.obj hb2c n23)
  all_goals (refine Gn ?_)
  skip))
  all_goals (first | (fail_if_success refine goB 8 ?_) | (
  refine goB 8 ?_
  all_goals (refine WC.sr ?_)
  all_goals (refine Go ?_)
  all_goals (refine goC 9 10 ?_ ?_ <;> first | exact ⟨⟩ | refine Hb.mk fun hb => ?_ | skip)
  all_goals (first | (fail_if_success refine goB 9 ?_) | (
  refine goB 9 ?_
  all_goals (refine WC.region ?_)
  all_goals (refine Go ?_)
  all_goals (refine Ld ?_)
  all_goals (refine Go ?_)
  all_goals (refine WL.stepR0 (okE_store (fun w => Tryz.sizeOf32 w) rfl rfl (by assumption) (Nat.le_of_ble_eq_true rfl) rfl rfl) rfl rfl ?_
             rintro _ h5 ⟨hb5, hE⟩)
  all_goals (have hb2z := hE.obj hb2c n23)
  all_goals (refine Gn ?_)
  skip))
  all_goals (first | (fail_if_success refine goB 10 ?_) | (
  refine goB 10 ?_
  all_goals (refine WC.sr ?_)
  all_goals (refine Go ?_)
  all_goals (refine Gs [(1, _), (2, _), (3, _), (8, _), (40, _)] ?_)
  all_goals (refine goC 11 12 ?_ ?_ <;> first | exact ⟨⟩ | refine Hb.mk fun hb => ?_ | skip)
  all_goals (first | (fail_if_success refine goB 11 ?_) | (
  refine goB 11 ?_
  all_goals (refine WC.region ?_)
  all_goals (refine Go ?_)
  all_goals (refine Ld ?_)
  all_goals (refine Go ?_)
  all_goals (refine WL.stepR0 (okE_store (fun w => Tryz.sizeOf90 w) rfl rfl (by assumption) (Nat.le_of_ble_eq_true rfl) rfl rfl) rfl rfl ?_
             rintro _ h5 ⟨hb5, hE⟩)
  all_goals (have hb2z := hE.obj hb2c n23)
  all_goals (refine Gn ?_)
  skip))
  all_goals (first | (fail_if_success refine goB 12 ?_) | (
  refine goB 12 ?_
  all_goals (refine WC.sr ?_)
  all_goals (refine Go ?_)
  all_goals (refine goC 13 14 ?_ ?_ <;> first | exact ⟨⟩ | refine Hb.mk fun hb => ?_ | skip)
  all_goals (first | (fail_if_success refine goB 13 ?_) | (
  refine goB 13 ?_
  all_goals (refine WC.region ?_)
  all_goals (refine Go ?_)
  all_goals (refine Ld ?_)
  all_goals (refine Go ?_)
  all_goals (refine WL.stepR0 (okE_store (fun w => Tryz.sizeOf31 w) rfl rfl (by assumption) (Nat.le_of_ble_eq_true rfl) rfl rfl) rfl rfl ?_
             rintro _ h5 ⟨hb5, hE⟩)
  all_goals (have hb2z := hE.obj hb2c n23)
  all_goals (refine Gn ?_)
  skip))
  all_goals (first | (fail_if_success refine goB 14 ?_) | (
  refine goB 14 ?_
  all_goals (refine WC.seq ?_)
  all_goals (refine WC.sr ?_)
  all_goals (refine Go ?_)
  all_goals (refine Gs [(1, _), (2, _), (3, _), (8, _), (50, _)] ?_)
  all_goals (refine goC 15 16 ?_ ?_ <;> first | exact ⟨⟩ | refine Hb.mk fun hb => ?_ | skip)
  all_goals (first | (fail_if_success refine goB 15 ?_) | (
  refine goB 15 ?_
  all_goals (refine WC.skip ?_)
  skip))
  all_goals (first | (fail_if_success refine goB 16 ?_) | (
  refine goB 16 ?_
  all_goals (refine WC.region ?_)
  all_goals (refine Go ?_)
  skip))
  all_goals (refine Gn ?_)
  all_goals (refine goC 17 18 ?_ ?_ <;> first | exact ⟨⟩ | refine Hb.mk fun hb => ?_ | skip)
  all_goals (first | (fail_if_success refine goB 17 ?_) | (
  refine goB 17 ?_
  all_goals (refine WC.region ?_)
  all_goals (refine Go ?_)
  all_goals (refine Ld ?_)
  all_goals (refine Go ?_)
  all_goals (refine WL.stepR0 (okE_store (fun w => Tryz.sizeOf88 w) rfl rfl (by assumption) (Nat.le_of_ble_eq_true rfl) rfl rfl) rfl rfl ?_
             rintro _ h5 ⟨hb5, hE⟩)
  all_goals (have hb2z := hE.obj hb2c n23)
  all_goals (refine Gn ?_)
  skip))
  all_goals (first | (fail_if_success refine goB 18 ?_) | (
  refine goB 18 ?_
  all_goals (refine WC.skip ?_)
  skip))
  skip))
  skip))
  skip))
  skip))
  skip))
  skip))
  skip))
  all_goals (refine Gn ?_)
  all_goals (refine WC.sr ?_)
  all_goals (refine WL.step (ok_loadN (fun w => Tryz.isAgg92 w) (fun w => Tryz.sizeOf92 w) rfl rfl (by exact (by first | exact At.of_block hb6 | exact At.of_block hb5 | exact At.of_block hb4))) rfl rfl rfl ?_)
  all_goals (refine WL.stepR0 (okE_storeW (fun w => Tryz.sizeOf92 w) rfl rfl rfl (by first | exact hb2z | exact hb2c) rfl (by simp [Value.oneCell'])) rfl rfl ?_
             rintro _ h9 ⟨hb9, hx9⟩)
  all_goals (refine Gn ?_)
  all_goals (refine Gs [(2, _)] ?_)
  all_goals (refine WC.ret ?_)
  all_goals (repeat' (with_reducible first | refine thenP_r ?_ | refine blockP_r ?_))
  all_goals (refine retP_1 _ ⟨⟨_, rfl, ld_blk (fun w => Tryz.isAgg92 w) (fun w => Tryz.sizeOf92 w) (by assumption) rfl⟩, trivial⟩ ?_)
  all_goals (have hs1 := hx1.size
             have hs2 := hx2.size
             refine ⟨?_, by first | exact (hX4.trans' hE (fun q hq e => by omega)).trans' hx9 (fun q hq e => by omega) | exact hX4.trans' hx9 (fun q hq e => by omega)⟩
             first
              | (exfalso; omega)
              | (simp only [ofB, if_pos, *]; rfl)
              | (simp [ofB, zB, Bk.cells, *]; done))
/-! ### Check -/
def kindsB : List UInt8 := [82, 83, 75, 90, 49, 50, 51, 110, 115, 73, 67, 68, 84, 116, 69, 78]
set_option maxHeartbeats 2000000 in
set_option maxRecDepth 100000 in
theorem known_back {h : Heap} (k : UInt8) (hk : kindsB.contains k = true) : CallsH Tryz.prog 147 ⟨[By k]⟩ h fun u h' => u = .bool true ∧ Ext No h h' := by
  have e1 := Lib.contains_iff_indexByte [82, 83, 75, 90, 49, 50, 51, 110, 115, 73, 67, 68, 84, 116, 69, 78] k
  rw [show ([82, 83, 75, 90, 49, 50, 51, 110, 115, 73, 67, 68, 84, 116, 69, 78] : List UInt8).contains k = true from hk] at e1
  refine calls [(0, _)] Tryz.func147 rfl Tryz.ntmps147 rfl ⟨rfl, trivial⟩ ?_
  all_goals (refine WC.sr ?_)
  all_goals (refine Go ?_)
  all_goals (refine WC.sr ?_)
  all_goals (refine WL.stepR (okE_buildSlice (vs := [_, _, _, _, _, _, _, _, _, _, _, _, _, _, _, _]) (cs := [_, _, _, _, _, _, _, _, _, _, _, _, _, _, _, _]) (fun | [a0, a1, a2, a3, a4, a5, a6, a7, a8, a9, a10, a11, a12, a13, a14, a15] => [a0, a1, a2, a3, a4, a5, a6, a7, a8, a9, a10, a11, a12, a13, a14, a15] | _ => []) Tryz.underlying22 rfl rfl (by kernel_rfl)) rfl rfl rfl ?_
             rintro _ h1 ⟨b1, rfl, hg1, hb1, hx1⟩)
  all_goals (refine WL.stepR (okE_convSS Tryz.underlying22 Tryz.underlying5 rfl (by assumption)) rfl rfl rfl ?_
             rintro _ h2 ⟨rfl, ⟨z2, hb2⟩, hx2⟩)
  all_goals (refine Go ?_)
  all_goals (refine WL.call (vs := [_, _]) rfl (fun a w => Tryz.call86 a w) rfl (indexByte_bys [82, 83, 75, 90, 49, 50, 51, 110, 115, 73, 67, 68, 84, 116, 69, 78] k (rd_blk hb2 rfl) (by simp)) rfl rfl rfl ?_
             rintro _ hz ⟨rfl, _⟩
             subst hz)
  all_goals (refine WL.step (OkP.bool_t (of_decide_eq_true e1.symm) (ok_geq rfl rfl)) rfl rfl rfl ?_)
  all_goals (refine Go ?_)
  all_goals (refine Gs [(2, _)] ?_)
  all_goals (refine Gt ?_)
  all_goals (exact ⟨rfl, hx1.trans' hx2 (fun q hq e => by omega)⟩)
def Bk.stOk (b : Bk) : Prop := b.kind ≠ 90 ∨ b.status = 73 ∨ b.status = 84 ∨ b.status = 69
set_option maxHeartbeats 2000000 in
set_option maxRecDepth 100000 in
theorem status_ok {h : Heap} (b : Bk) (hb : b.ok h) (hs : b.stOk) : CallsH Tryz.prog 156 ⟨[.agg ⟨b.cells⟩]⟩ h fun u h' => u = .bool true ∧ Ext No h h' := by
  obtain ⟨k, st, t, n, v, x, y, vo, lo, vc, lc, vr, lr, vf, lf⟩ := b
  simp only [Bk.stOk] at hs
  dsimp only [Bk.cells]
  by_cases hk : k = 90
  · subst hk
    simp only [ne_eq, not_true_eq_false, false_or] at hs
    rcases hs with rfl | rfl | rfl
    all_goals
      refine calls [(0, _)] Tryz.func156 rfl Tryz.ntmps156 rfl ⟨rfl, trivial⟩ ?_
      all_goals (refine WC.sr ?_)
      all_goals (refine WL.stepR (okE_box rfl) rfl rfl rfl ?_
                 rintro _ h1 ⟨b1, rfl, hg1, hb1, hx1⟩)
      all_goals (refine Go ?_)
      all_goals (refine WC.sr ?_)
      all_goals (refine Go ?_)
      all_goals (refine Ld ?_)
      all_goals (refine Go ?_)
      all_goals (refine goP 6 ?_ ?_ <;> first | exact ⟨⟩ | refine Hb.mk fun hb => ?_ | skip)
      all_goals (refine Gg ?_)
      all_goals (first | (refine WL.pass rfl rfl rfl ?_) | (refine Ld ?_))
      all_goals (refine Gg ?_)
      all_goals (refine Go ?_)
      all_goals (refine goP 11 ?_ ?_ <;> first | exact ⟨⟩ | refine Hb.mk fun hb => ?_ | skip)
      all_goals (refine Gg ?_)
      all_goals (first | (refine WL.pass rfl rfl rfl ?_) | (refine Ld ?_))
      all_goals (refine Gg ?_)
      all_goals (refine Go ?_)
      all_goals (refine goP 16 ?_ ?_ <;> first | exact ⟨⟩ | refine Hb.mk fun hb => ?_ | skip)
      all_goals (refine Gg ?_)
      all_goals (first | (refine WL.pass rfl rfl rfl ?_) | (refine Ld ?_))
      all_goals (refine Gg ?_)
      all_goals (refine Go ?_)
      all_goals (refine Gs [(2, _)] ?_)
      all_goals (refine Gt ?_)
      all_goals (exact ⟨rfl, hx1⟩)
  ·
    refine calls [(0, _)] Tryz.func156 rfl Tryz.ntmps156 rfl ⟨rfl, trivial⟩ ?_
    all_goals (refine WC.sr ?_)
    all_goals (refine WL.stepR (okE_box rfl) rfl rfl rfl ?_
               rintro _ h1 ⟨b1, rfl, hg1, hb1, hx1⟩)
    all_goals (refine Go ?_)
    all_goals (refine WC.sr ?_)
    all_goals (refine Go ?_)
    all_goals (refine Ld ?_)
    all_goals (refine Go ?_)
    all_goals (refine goP 6 ?_ ?_ <;> first | exact ⟨⟩ | refine Hb.mk fun hb => ?_ | skip)
    all_goals (refine Gg ?_)
    all_goals (first | (refine WL.pass rfl rfl rfl ?_) | (refine Ld ?_))
    all_goals (refine Gg ?_)
    all_goals (refine Go ?_)
    all_goals (refine goP 11 ?_ ?_ <;> first | exact ⟨⟩ | refine Hb.mk fun hb => ?_ | skip)
    all_goals (refine Gg ?_)
    all_goals (first | (refine WL.pass rfl rfl rfl ?_) | (refine Ld ?_))
    all_goals (refine Gg ?_)
    all_goals (refine Go ?_)
    all_goals (refine goP 16 ?_ ?_ <;> first | exact ⟨⟩ | refine Hb.mk fun hb => ?_ | skip)
    all_goals (refine Gg ?_)
    all_goals (first | (refine WL.pass rfl rfl rfl ?_) | (refine Ld ?_))
    all_goals (refine Gg ?_)
    all_goals (refine Go ?_)
    all_goals (refine Gs [(2, _)] ?_)
    all_goals (refine Gt ?_)
    all_goals (exact ⟨rfl, hx1⟩)
/-- A message that may be. -/
structure Bk.may (b : Bk) : Prop where
  kind : ∃ k : UInt8, Value.int .u8 b.kind = By k ∧ kindsB.contains k = true
  tag : cleanB b.tag = true
  name : cleanB b.name = true
  value : cleanB b.value = true
  cols : b.cols.length ≤ 65535 ∧ ∀ c ∈ b.cols, c.okB
  fields : b.fields.length ≤ 65535 ∧ ∀ f ∈ b.fields, f.okB
  row : b.row.length ≤ 65535 ∧ ∀ c ∈ b.row, c.okB
  oids : b.oids.length ≤ 65535 ∧ ∀ n ∈ b.oids, 0 ≤ n ∧ n ≤ 4294967295
  n : 0 ≤ b.n ∧ b.n ≤ 4294967295
  m : 0 ≤ b.m ∧ b.m ≤ 4294967295
  st : b.stOk
  own : (ofB b).pl = b.pl
set_option maxHeartbeats 4000000 in
set_option maxRecDepth 100000 in
theorem check_back {h : Heap} (b : Bk) (hb : b.ok h) (hm : b.may) : CallsH Tryz.prog 98 ⟨[.agg ⟨b.cells⟩]⟩ h fun u h' => u = In 0 ∧ Ext No h h' := by
  have hof := fun {h' : Heap} (hx : Ext No h h') => of_back (h := h') b (hb.ext0 hx)
  have hst := fun {h' : Heap} (hx : Ext No h h') => status_ok (h := h') b (hb.ext0 hx) hm.st
  have hsa := fun {h' : Heap} (hx : Ext No h h') => same_back (h := h') b (ofB b) (hb.ext0 hx) (ofB_ok (hb.ext0 hx)) hm.own.symm
  obtain ⟨⟨k8, hk8, hkc⟩, h1, h2, h3, h4, h5, h6, h7, h8, h9, _, _⟩ := hm
  generalize ofB b = ob at hof hsa
  obtain ⟨ho, hc, hr, hf⟩ := hb
  obtain ⟨k, st, t, n, v, x, y, vo, lo, vc, lc, vr, lr, vf, lf⟩ := b
  simp only at hk8 h1 h2 h3 h4 h5 h6 h7 h8 h9 ho hc hr hf
  dsimp only [Bk.cells] at hof hst hsa ⊢
  have hkn : ∀ {h : Heap}, CallsH Tryz.prog 147 ⟨[.int .u8 k]⟩ h fun u h' => u = .bool true ∧ Ext No h h' := by rw [hk8]; exact known_back k8 hkc
  refine calls [(0, _)] Tryz.func98 rfl Tryz.ntmps98 rfl ⟨rfl, trivial⟩ ?_
  all_goals (refine WC.sr ?_)
  all_goals (refine WL.stepR (okE_box rfl) rfl rfl rfl ?_
             rintro _ g1 ⟨b1, rfl, hg1, hb1, hx1⟩)
  all_goals (refine Go ?_)
  all_goals (refine WC.seq ?_)
  all_goals (refine WC.sr ?_)
  all_goals (refine Go ?_)
  all_goals (refine Ld ?_)
  all_goals (refine WL.call (vs := [_]) rfl (fun a w => Tryz.call147 a w) rfl (hkn) rfl rfl rfl ?_
             rintro _ g2 ⟨rfl, hx2⟩)
  all_goals (have hb2 := hx2.obj hb1 nos
             have hX2 := hx1.trans hx2)
  all_goals (refine Go ?_)
  all_goals (refine Gs [(1, _), (8, _)] ?_)
  all_goals (refine goC 1 2 ?_ ?_ <;> first | exact ⟨⟩ | refine Hb.mk fun hb => ?_ | skip)
  all_goals (first | (fail_if_success refine goB 1 ?_) | (
  refine goB 1 ?_
  all_goals (refine WC.sr ?_)
  all_goals (refine Go ?_)
  all_goals (refine Gt ?_)
  all_goals (exact ⟨rfl, hX8.trans hx9⟩)
  skip))
  all_goals (first | (fail_if_success refine goB 2 ?_) | (
  refine goB 2 ?_
  all_goals (refine WC.skip ?_)
  skip))
  all_goals (refine Gn ?_)
  all_goals (refine WC.sr ?_)
  all_goals (refine Go ?_)
  all_goals (refine Ld ?_)
  all_goals (refine WL.call (vs := [_]) rfl (fun a w => Tryz.call143 a w) rfl ((clean_any t).as (congrArg Value.bool h1)) rfl rfl rfl ?_
             rintro _ hz ⟨rfl, _⟩
             subst hz)
  all_goals (refine Go ?_)
  all_goals (refine goP 12 ?_ ?_ <;> first | exact ⟨⟩ | refine Hb.mk fun hb => ?_ | skip)
  all_goals (refine Gg ?_)
  all_goals (first | (refine WL.pass rfl rfl rfl ?_) | (refine Ld ?_))
  all_goals (first
               | (refine WL.pass rfl rfl rfl ?_)
               | (refine WL.call (vs := [_]) rfl (fun a w => Tryz.call143 a w) rfl ((clean_any n).as (congrArg Value.bool h2)) rfl rfl rfl ?_
                  rintro _ hz ⟨rfl, _⟩
                  subst hz))
  all_goals (refine Go ?_)
  all_goals (refine goP 17 ?_ ?_ <;> first | exact ⟨⟩ | refine Hb.mk fun hb => ?_ | skip)
  all_goals (refine Gg ?_)
  all_goals (first | (refine WL.pass rfl rfl rfl ?_) | (refine Ld ?_))
  all_goals (first
               | (refine WL.pass rfl rfl rfl ?_)
               | (refine WL.call (vs := [_]) rfl (fun a w => Tryz.call143 a w) rfl ((clean_any v).as (congrArg Value.bool h3)) rfl rfl rfl ?_
                  rintro _ hz ⟨rfl, _⟩
                  subst hz))
  all_goals (refine Go ?_)
  all_goals (refine Gs [(1, _), (3, _)] ?_)
  all_goals (refine WC.sr ?_)
  all_goals (refine Go ?_)
  all_goals (refine Ld ?_)
  all_goals (refine WL.call (vs := [_, _]) rfl (fun a w => Tryz.call148 a w) rfl (every_col lc (hc.1.ext0 hX2) h4.1 (fun a w => Tryz.call149 a w) (fun c hc _ _ => column_ok c (h4.2 c hc))) rfl rfl rfl ?_
             rintro _ g3 ⟨rfl, hx3⟩)
  all_goals (have hb3 := hx3.obj hb2 nos
             have hX3 := hX2.trans hx3)
  all_goals (refine Go ?_)
  all_goals (refine goP 25 ?_ ?_ <;> first | exact ⟨⟩ | refine Hb.mk fun hb => ?_ | skip)
  all_goals (refine Gg ?_)
  all_goals (first | (refine WL.pass rfl rfl rfl ?_) | (refine Ld ?_))
  all_goals (first
               | (refine WL.pass rfl rfl rfl ?_)
               | (refine WL.call (vs := [_, _]) rfl (fun a w => Tryz.call150 a w) rfl (every_fld lf (hf.1.ext0 hX3) h5.1 (fun a w => Tryz.call151 a w) (fun c hc _ _ => field_ok c (h5.2 c hc))) rfl rfl rfl ?_
                  rintro _ g4 ⟨rfl, hx4⟩))
  all_goals (have hb4 := hx4.obj hb3 nos
             have hX4 := hX3.trans hx4)
  all_goals (refine Go ?_)
  all_goals (refine goP 30 ?_ ?_ <;> first | exact ⟨⟩ | refine Hb.mk fun hb => ?_ | skip)
  all_goals (refine Gg ?_)
  all_goals (first | (refine WL.pass rfl rfl rfl ?_) | (refine Ld ?_))
  all_goals (first
               | (refine WL.pass rfl rfl rfl ?_)
               | (refine WL.call (vs := [_, _]) rfl (fun a w => Tryz.call152 a w) rfl (every_cel lr (hr.1.ext0 hX4) h6.1 (fun a w => Tryz.call153 a w) (fun c hc _ _ => cell_ok c (hr.2.2 c hc) (h6.2 c hc))) rfl rfl rfl ?_
                  rintro _ g5 ⟨rfl, hx5⟩))
  all_goals (have hb5 := hx5.obj hb4 nos
             have hX5 := hX4.trans hx5)
  all_goals (refine Go ?_)
  all_goals (refine goP 35 ?_ ?_ <;> first | exact ⟨⟩ | refine Hb.mk fun hb => ?_ | skip)
  all_goals (refine Gg ?_)
  all_goals (first | (refine WL.pass rfl rfl rfl ?_) | (refine Ld ?_))
  all_goals (first
               | (refine WL.pass rfl rfl rfl ?_)
               | (refine WL.call (vs := [_, _]) rfl (fun a w => Tryz.call154 a w) rfl (every_int lo (ho.1.ext0 hX5) h7.1 h7.2) rfl rfl rfl ?_
                  rintro _ g6 ⟨rfl, hx6⟩))
  all_goals (have hb6 := hx6.obj hb5 nos
             have hX6 := hX5.trans hx6)
  all_goals (refine Go ?_)
  all_goals (refine Gs [(1, _), (3, _), (4, _)] ?_)
  all_goals (refine WC.seq ?_)
  all_goals (refine WC.seq ?_)
  all_goals (refine WC.drawH (fun h' => h'[b1]? = some (.cells ⟨[.int .u8 k, .int .u8 st, St t, St n, St v, In x, In y, vo, vc, vr, vf]⟩ 92 (0, 0))) 30 30 rfl fol ?_)
  all_goals (refine WH.tk 0 rfl (fun hq hC => ok_move rfl) rfl rfl rfl ?_ (hC := (by first | exact hb6 | exact hb7 | exact hb8 | exact hb9)))
  all_goals (refine WH.tk 1 rfl (fun hq hC => ok_not rfl) rfl rfl rfl ?_ (hC := (by first | exact hb6 | exact hb7 | exact hb8 | exact hb9)))
  all_goals (refine WH.tk 2 rfl (fun hq hC => ok_move rfl) rfl rfl rfl ?_ (hC := (by first | exact hb6 | exact hb7 | exact hb8 | exact hb9)))
  all_goals (try ((fail_if_success (refine WH.part 42 (b := true) rfl (fun _ => ?_) (fun _ => ?_))); (fail_if_success (refine WH.part 42 (b := false) rfl (fun _ => ?_) (fun _ => ?_))); (refine WH.part 42 rfl (fun hb => ?_) (fun hb => ?_))))
  all_goals (first | (refine WH.ps 3 rfl rfl rfl rfl ?_ (hC := (by first | exact hb6 | exact hb7 | exact hb8 | exact hb9))) | (refine WH.tk 3 rfl (fun hq hC => ok_move rfl) rfl rfl rfl ?_ (hC := (by first | exact hb6 | exact hb7 | exact hb8 | exact hb9))))
  all_goals (first | (refine WH.ps 4 rfl rfl rfl rfl ?_ (hC := (by first | exact hb6 | exact hb7 | exact hb8 | exact hb9))) | (refine WH.tk 4 rfl (fun hq hC => ok_not rfl) rfl rfl rfl ?_ (hC := (by first | exact hb6 | exact hb7 | exact hb8 | exact hb9))))
  all_goals (first | (refine WH.tk 5 rfl (fun hq hC => ok_pick_t rfl rfl) rfl rfl rfl ?_ (hC := (by first | exact hb6 | exact hb7 | exact hb8 | exact hb9))) | (refine WH.tk 5 rfl (fun hq hC => ok_pick_f rfl rfl) rfl rfl rfl ?_ (hC := (by first | exact hb6 | exact hb7 | exact hb8 | exact hb9))))
  all_goals (refine WH.tk 6 rfl (fun hq hC => ok_move rfl) rfl rfl rfl ?_ (hC := (by first | exact hb6 | exact hb7 | exact hb8 | exact hb9)))
  all_goals (try ((fail_if_success (refine WH.part 46 (b := true) rfl (fun _ => ?_) (fun _ => ?_))); (fail_if_success (refine WH.part 46 (b := false) rfl (fun _ => ?_) (fun _ => ?_))); (refine WH.part 46 rfl (fun hb => ?_) (fun hb => ?_))))
  all_goals (first | (refine WH.ps 7 rfl rfl rfl rfl ?_ (hC := (by first | exact hb6 | exact hb7 | exact hb8 | exact hb9))) | (refine WH.tk 7 rfl (fun hq hC => ok_fieldAddr rfl Tryz.underlying92 rfl (fun w => Tryz.sizeOf3 w)) rfl rfl rfl ?_ (hC := (by first | exact hb6 | exact hb7 | exact hb8 | exact hb9))))
  all_goals (first | (refine WH.ps 8 rfl rfl rfl rfl ?_ (hC := (by first | exact hb6 | exact hb7 | exact hb8 | exact hb9))) | (refine WH.tk 8 rfl (fun hq hC => ok_load (fun w => Tryz.isAgg3 w) rfl (cell_blk hC rfl)) rfl rfl rfl ?_ (hC := (by first | exact hb6 | exact hb7 | exact hb8 | exact hb9))))
  all_goals (first
    | (refine WH.ps 9 rfl rfl rfl rfl ?_ (hC := (by first | exact hb6 | exact hb7 | exact hb8 | exact hb9)))
    | (all_goals (refine WH.one 9 (by kernel_rfl) ?_)
       all_goals (refine Comes1.call (vs := [_]) rfl rfl (fun a w => Tryz.call155 a w) rfl (oid_ok x h8.1 h8.2) rfl rfl rfl ?_ (fun _ => by kernel_rfl)
                  rintro _ hz ⟨rfl, _⟩
                  subst hz)
       all_goals (refine ⟨fun _ => by first | assumption | trivial, ?_⟩)
       skip))
  all_goals (first | (refine WH.ps 10 rfl rfl rfl rfl ?_ (hC := (by first | exact hb6 | exact hb7 | exact hb8 | exact hb9))) | (refine WH.tk 10 rfl (fun hq hC => ok_not rfl) rfl rfl rfl ?_ (hC := (by first | exact hb6 | exact hb7 | exact hb8 | exact hb9))))
  all_goals (first | (refine WH.tk 11 rfl (fun hq hC => ok_pick_t rfl rfl) rfl rfl rfl ?_ (hC := (by first | exact hb6 | exact hb7 | exact hb8 | exact hb9))) | (refine WH.tk 11 rfl (fun hq hC => ok_pick_f rfl rfl) rfl rfl rfl ?_ (hC := (by first | exact hb6 | exact hb7 | exact hb8 | exact hb9))))
  all_goals (refine WH.tk 12 rfl (fun hq hC => ok_move rfl) rfl rfl rfl ?_ (hC := (by first | exact hb6 | exact hb7 | exact hb8 | exact hb9)))
  all_goals (try ((fail_if_success (refine WH.part 52 (b := true) rfl (fun _ => ?_) (fun _ => ?_))); (fail_if_success (refine WH.part 52 (b := false) rfl (fun _ => ?_) (fun _ => ?_))); (refine WH.part 52 rfl (fun hb => ?_) (fun hb => ?_))))
  all_goals (first | (refine WH.ps 13 rfl rfl rfl rfl ?_ (hC := (by first | exact hb6 | exact hb7 | exact hb8 | exact hb9))) | (refine WH.tk 13 rfl (fun hq hC => ok_fieldAddr rfl Tryz.underlying92 rfl (fun w => Tryz.sizeOf3 w)) rfl rfl rfl ?_ (hC := (by first | exact hb6 | exact hb7 | exact hb8 | exact hb9))))
  all_goals (first | (refine WH.ps 14 rfl rfl rfl rfl ?_ (hC := (by first | exact hb6 | exact hb7 | exact hb8 | exact hb9))) | (refine WH.tk 14 rfl (fun hq hC => ok_load (fun w => Tryz.isAgg3 w) rfl (cell_blk hC rfl)) rfl rfl rfl ?_ (hC := (by first | exact hb6 | exact hb7 | exact hb8 | exact hb9))))
  all_goals (first
    | (refine WH.ps 15 rfl rfl rfl rfl ?_ (hC := (by first | exact hb6 | exact hb7 | exact hb8 | exact hb9)))
    | (all_goals (refine WH.one 15 (by kernel_rfl) ?_)
       all_goals (refine Comes1.call (vs := [_]) rfl rfl (fun a w => Tryz.call155 a w) rfl (oid_ok y h9.1 h9.2) rfl rfl rfl ?_ (fun _ => by kernel_rfl)
                  rintro _ hz ⟨rfl, _⟩
                  subst hz)
       all_goals (refine ⟨fun _ => by first | assumption | trivial, ?_⟩)
       skip))
  all_goals (first | (refine WH.ps 16 rfl rfl rfl rfl ?_ (hC := (by first | exact hb6 | exact hb7 | exact hb8 | exact hb9))) | (refine WH.tk 16 rfl (fun hq hC => ok_not rfl) rfl rfl rfl ?_ (hC := (by first | exact hb6 | exact hb7 | exact hb8 | exact hb9))))
  all_goals (first | (refine WH.tk 17 rfl (fun hq hC => ok_pick_t rfl rfl) rfl rfl rfl ?_ (hC := (by first | exact hb6 | exact hb7 | exact hb8 | exact hb9))) | (refine WH.tk 17 rfl (fun hq hC => ok_pick_f rfl rfl) rfl rfl rfl ?_ (hC := (by first | exact hb6 | exact hb7 | exact hb8 | exact hb9))))
  all_goals (refine WH.tk 18 rfl (fun hq hC => ok_move rfl) rfl rfl rfl ?_ (hC := (by first | exact hb6 | exact hb7 | exact hb8 | exact hb9)))
  all_goals (try ((fail_if_success (refine WH.part 58 (b := true) rfl (fun _ => ?_) (fun _ => ?_))); (fail_if_success (refine WH.part 58 (b := false) rfl (fun _ => ?_) (fun _ => ?_))); (refine WH.part 58 rfl (fun hb => ?_) (fun hb => ?_))))
  all_goals (first | (refine WH.ps 19 rfl rfl rfl rfl ?_ (hC := (by first | exact hb6 | exact hb7 | exact hb8 | exact hb9))) | (refine WH.tk 19 rfl (fun hq hC => ok_loadN (fun w => Tryz.isAgg92 w) (fun w => Tryz.sizeOf92 w) rfl rfl (by exact At.of_block hC)) rfl rfl rfl ?_ (hC := (by first | exact hb6 | exact hb7 | exact hb8 | exact hb9))))
  all_goals (first
    | (refine WH.ps 20 rfl rfl rfl rfl ?_ (hC := (by first | exact hb6 | exact hb7 | exact hb8 | exact hb9)))
    | (all_goals (refine WH.one 20 (by kernel_rfl) ?_)
       all_goals (refine Comes1.call (vs := [_]) rfl rfl (fun a w => Tryz.call156 a w) rfl (hst hX6) rfl rfl rfl ?_ (fun _ => by kernel_rfl)
                  rintro _ g7 ⟨rfl, hx7⟩)
       all_goals (refine ⟨fun _ => hx7.obj hb6 nos, ?_⟩)
       all_goals (have hb7 := hx7.obj hb6 nos
                  have hX7 := hX6.trans hx7)
       skip))
  all_goals (first | (refine WH.ps 21 rfl rfl rfl rfl ?_ (hC := (by first | exact hb6 | exact hb7 | exact hb8 | exact hb9))) | (refine WH.tk 21 rfl (fun hq hC => ok_not rfl) rfl rfl rfl ?_ (hC := (by first | exact hb6 | exact hb7 | exact hb8 | exact hb9))))
  all_goals (first | (refine WH.tk 22 rfl (fun hq hC => ok_pick_t rfl rfl) rfl rfl rfl ?_ (hC := (by first | exact hb6 | exact hb7 | exact hb8 | exact hb9))) | (refine WH.tk 22 rfl (fun hq hC => ok_pick_f rfl rfl) rfl rfl rfl ?_ (hC := (by first | exact hb6 | exact hb7 | exact hb8 | exact hb9))))
  all_goals (refine WH.tk 23 rfl (fun hq hC => ok_move rfl) rfl rfl rfl ?_ (hC := (by first | exact hb6 | exact hb7 | exact hb8 | exact hb9)))
  all_goals (try ((fail_if_success (refine WH.part 63 (b := true) rfl (fun _ => ?_) (fun _ => ?_))); (fail_if_success (refine WH.part 63 (b := false) rfl (fun _ => ?_) (fun _ => ?_))); (refine WH.part 63 rfl (fun hb => ?_) (fun hb => ?_))))
  all_goals (first | (refine WH.ps 24 rfl rfl rfl rfl ?_ (hC := (by first | exact hb6 | exact hb7 | exact hb8 | exact hb9))) | (refine WH.tk 24 rfl (fun hq hC => ok_loadN (fun w => Tryz.isAgg92 w) (fun w => Tryz.sizeOf92 w) rfl rfl (by exact At.of_block hC)) rfl rfl rfl ?_ (hC := (by first | exact hb6 | exact hb7 | exact hb8 | exact hb9))))
  all_goals (first | (refine WH.ps 25 rfl rfl rfl rfl ?_ (hC := (by first | exact hb6 | exact hb7 | exact hb8 | exact hb9))) | (refine WH.tk 25 rfl (fun hq hC => ok_loadN (fun w => Tryz.isAgg92 w) (fun w => Tryz.sizeOf92 w) rfl rfl (by exact At.of_block hC)) rfl rfl rfl ?_ (hC := (by first | exact hb6 | exact hb7 | exact hb8 | exact hb9))))
  all_goals (first
    | (refine WH.ps 26 rfl rfl rfl rfl ?_ (hC := (by first | exact hb6 | exact hb7 | exact hb8 | exact hb9)))
    | (all_goals (refine WH.one 26 (by kernel_rfl) ?_)
       all_goals (refine Comes1.call (vs := [_]) rfl rfl (fun a w => Tryz.call158 a w) rfl (hof hX7) rfl rfl rfl ?_ (fun _ => by kernel_rfl)
                  rintro _ g8 ⟨rfl, hx8⟩)
       all_goals (refine ⟨fun _ => hx8.obj hb7 nos, ?_⟩)
       all_goals (have hb8 := hx8.obj hb7 nos
                  have hX8 := hX7.trans hx8)
       skip))
  all_goals (first
    | (refine WH.ps 27 rfl rfl rfl rfl ?_ (hC := (by first | exact hb6 | exact hb7 | exact hb8 | exact hb9)))
    | (all_goals (refine WH.one 27 (by kernel_rfl) ?_)
       all_goals (refine Comes1.call (vs := [_, _]) rfl rfl (fun a w => Tryz.call157 a w) rfl (hsa hX8) rfl rfl rfl ?_ (fun _ => by kernel_rfl)
                  rintro _ g9 ⟨rfl, hx9⟩)
       all_goals (refine ⟨fun _ => hx9.obj hb8 nos, ?_⟩)
       all_goals (have hb9 := hx9.obj hb8 nos)
       skip))
  all_goals (first | (refine WH.ps 28 rfl rfl rfl rfl ?_ (hC := (by first | exact hb6 | exact hb7 | exact hb8 | exact hb9))) | (refine WH.tk 28 rfl (fun hq hC => ok_not rfl) rfl rfl rfl ?_ (hC := (by first | exact hb6 | exact hb7 | exact hb8 | exact hb9))))
  all_goals (first | (refine WH.tk 29 rfl (fun hq hC => ok_pick_t rfl rfl) rfl rfl rfl ?_ (hC := (by first | exact hb6 | exact hb7 | exact hb8 | exact hb9))) | (refine WH.tk 29 rfl (fun hq hC => ok_pick_f rfl rfl) rfl rfl rfl ?_ (hC := (by first | exact hb6 | exact hb7 | exact hb8 | exact hb9))))
  all_goals (refine WH.done (by kernel_rfl) ?_)
  all_goals (refine Gn ?_)
  all_goals (refine Gs [(69, _)] ?_)
  all_goals (refine goC 3 4 ?_ ?_ <;> first | exact ⟨⟩ | refine Hb.mk fun hb => ?_ | skip)
  all_goals (first | (fail_if_success refine goB 3 ?_) | (
  refine goB 3 ?_
  all_goals (refine WC.sr ?_)
  all_goals (refine Go ?_)
  all_goals (refine Gt ?_)
  all_goals (exact ⟨rfl, hX8.trans hx9⟩)
  skip))
  all_goals (first | (fail_if_success refine goB 4 ?_) | (
  refine goB 4 ?_
  all_goals (refine WC.skip ?_)
  skip))
  all_goals (refine Gn ?_)
  all_goals (refine WC.sr ?_)
  all_goals (refine Go ?_)
  all_goals (refine Gt ?_)
  all_goals (exact ⟨rfl, hX8.trans hx9⟩)
end Go.Proofs.YtdjjpbbhcidaaaaGreatDoor


/-
  WHAT IS SAID FIRST (layers 7, 11): the bytes of R, K, Z, as the code writes them.
-/
namespace Go.Proofs.YtdjjpbbhcidaaaaGreatDoor
open Go Go.RK

set_option maxHeartbeats 2000000 in
set_option maxRecDepth 100000 in
theorem wnum {h : Heap} {b : Nat} {v : Value} {l : List UInt8} (hb : h[b]? = some (.cells ⟨[v]⟩ 174 (0, 0))) (ho : Own h v 5 1 l.length (bys l)) (hl : l.length ≤ 1000) (n : Int) (hr : Rt n 4) :
    CallsH Tryz.prog 99 ⟨[.pointer (some ⟨b, 0, none⟩), In n, In 4]⟩ h fun _ h' => ∃ v', h'[b]? = some (.cells ⟨[v']⟩ 174 (0, 0)) ∧ Own h' v' 5 1 (l ++ be n 4).length (bys (l ++ be n 4)) ∧ Ext (fun q => q = b) h h' ∧ ∀ q, v'.ownBlock = some q → h.size ≤ q := by
  refine calls [(0, _), (1, _), (2, _)] Tryz.func99 rfl Tryz.ntmps99 rfl ⟨rfl, rfl, rfl, trivial⟩ ?_
  all_goals (refine WC.region ?_)
  all_goals (refine Go ?_)
  all_goals (refine WL.step (ok_nilCheck rfl) rfl rfl rfl ?_)
  all_goals (refine Go ?_)
  all_goals (refine WL.ld rfl (by first | exact cell_blk hb rfl | assumption | exact cell_blk (by assumption) rfl) rfl rfl rfl ?_)
  all_goals (refine Go ?_)
  all_goals (refine WL.call (vs := [_, _, _]) rfl (fun a w => Tryz.call123 a w) rfl (put_v l n 4 (.inr (.inr rfl)) hr ho.rd (by omega)) rfl rfl rfl ?_
             rintro v1 h1 ⟨ho1, hx1, hf1⟩
             have hb1 := hx1.obj hb nos
             obtain ⟨A1, c1, rfl, _⟩ := id ho1.slice)
  all_goals (refine WL.step (ok_nilCheck rfl) rfl rfl rfl ?_)
  all_goals (refine Go ?_)
  all_goals (refine WL.stepR0 (okE_store (fun w => Tryz.sizeOf22 w) rfl rfl hb1 (Nat.le_of_ble_eq_true rfl) rfl rfl) rfl rfl ?_
             rintro _ h2 ⟨hb2, hx2⟩)
  all_goals (refine Gn ?_)
  all_goals (refine retP_n [] trivial ?_)
  all_goals (exact ⟨_, hb2, ho1.ext hx2 (fun q hq e => own_ne ho1 hb1 (by decide) (e ▸ hq)), (hx1.mono fun _ _ e => e.elim).trans hx2, hf1⟩)
def gB (k st n m : Int) : Bk := ⟨k, st, [], [], [], n, m, .slice none 0 0, [], .slice none 0 0, [], .slice none 0 0, [], .slice none 0 0, []⟩
theorem gB_ok (k st n m : Int) (h : Heap) : (gB k st n m).ok h := ⟨⟨Rd.nil _ _, by simp [gB, maxLen]⟩, ⟨Rd.nil _ _, by simp [gB, maxLen]⟩, ⟨Rd.nil _ _, ⟨by simp [gB], _, _, rfl, by decide⟩, by simp [gB]⟩, ⟨Rd.nil _ _, by simp [gB, maxLen]⟩⟩
theorem gR_may : (gB 82 0 0 0).may := ⟨⟨82, rfl, by decide⟩, by decide, by decide, by decide, ⟨by simp [gB], by simp [gB]⟩, ⟨by simp [gB], by simp [gB]⟩, ⟨by simp [gB], by simp [gB]⟩, ⟨by simp [gB], by simp [gB]⟩, by decide, by decide, .inl (by decide), by simp [ofB, gB, zB]⟩
theorem gK_may : (gB 75 0 1 7919).may := ⟨⟨75, rfl, by decide⟩, by decide, by decide, by decide, ⟨by simp [gB], by simp [gB]⟩, ⟨by simp [gB], by simp [gB]⟩, ⟨by simp [gB], by simp [gB]⟩, ⟨by simp [gB], by simp [gB]⟩, by decide, by decide, .inl (by decide), by simp [ofB, gB, zB]⟩
theorem gZ_may : (gB 90 73 0 0).may := ⟨⟨90, rfl, by decide⟩, by decide, by decide, by decide, ⟨by simp [gB], by simp [gB]⟩, ⟨by simp [gB], by simp [gB]⟩, ⟨by simp [gB], by simp [gB]⟩, ⟨by simp [gB], by simp [gB]⟩, by decide, by decide, .inr (by decide), by simp [ofB, gB, zB]⟩
def First3 (k st n m : Int) (L : List UInt8) : Prop := (k = 82 ∧ st = 0 ∧ n = 0 ∧ m = 0 ∧ L = be 0 4) ∨ (k = 75 ∧ st = 0 ∧ n = 1 ∧ m = 7919 ∧ L = be 1 4 ++ be 7919 4) ∨ (k = 90 ∧ st = 73 ∧ n = 0 ∧ m = 0 ∧ L = [73])
set_option maxHeartbeats 2000000 in
set_option maxRecDepth 100000 in
theorem enc_g {h : Heap} {k st n m : Int} {L : List UInt8} (hc : First3 k st n m L) : CallsH Tryz.prog 59 ⟨[.agg ⟨(gB k st n m).cells⟩]⟩ h fun u h' => ∃ v', u = .tuple ⟨[.agg ⟨[.int .u8 k, v']⟩, In 0]⟩ ∧ Own h' v' 5 1 L.length (bys L) ∧ Ext No h h' ∧ ∀ q, v'.ownBlock = some q → h.size ≤ q := by
  have kc : ∀ h' : Heap, CallsH Tryz.prog 98 ⟨[.agg ⟨(gB k st n m).cells⟩]⟩ h' fun u h'' => u = In 0 ∧ Ext No h' h'' := fun h' => check_back _ (gB_ok _ _ _ _ _) (by rcases hc with ⟨rfl, rfl, rfl, rfl, _⟩ | ⟨rfl, rfl, rfl, rfl, _⟩ | ⟨rfl, rfl, rfl, rfl, _⟩; exact gR_may; exact gK_may; exact gZ_may)
  have kw := fun (h' : Heap) (b : Nat) (hb : h'[b]? = some (.cells ⟨[.slice none 0 0]⟩ 174 (0, 0))) (n : Int) (hr : Rt n 4) => wnum (l := []) hb (Own.nil _ _ _) (by decide) n hr
  have kw2 := fun (h' : Heap) (b : Nat) (v : Value) (hb : h'[b]? = some (.cells ⟨[v]⟩ 174 (0, 0))) (ho : Own h' v 5 1 (be 1 4).length (bys (be 1 4))) => wnum (l := be 1 4) hb ho (by rw [be_len]; omega) 7919 (by unfold Rt; decide)
  dsimp only [Bk.cells, gB, List.nil_append] at kc kw ⊢
  rcases hc with ⟨rfl, rfl, rfl, rfl, rfl⟩ | ⟨rfl, rfl, rfl, rfl, rfl⟩ | ⟨rfl, rfl, rfl, rfl, rfl⟩
  all_goals
    refine calls [(0, _)] Tryz.func59 rfl Tryz.ntmps59 rfl ⟨rfl, trivial⟩ ?_
    all_goals (refine WC.sr ?_)
    all_goals (refine WL.stepR (okE_box rfl) rfl rfl rfl ?_
               rintro _ h1 ⟨b1, rfl, hg1, hb1, hx1⟩)
    all_goals (refine WL.stepR (okE_alloc (fun w => Tryz.zeroValue38 w)) rfl rfl rfl ?_
               rintro _ h2 ⟨b2, rfl, hg2, hb2, hx2⟩)
    all_goals (have hX2 := hx1.trans hx2
               have hb12 := hx2.obj hb1 nos)
    all_goals (refine Go ?_)
    all_goals (refine WC.seq ?_)
    all_goals (refine WC.sr ?_)
    all_goals (refine WL.step (ok_loadN (fun w => Tryz.isAgg92 w) (fun w => Tryz.sizeOf92 w) rfl rfl (by exact At.of_block hb12)) rfl rfl rfl ?_)
    all_goals (refine WL.call (vs := [_]) rfl (fun a w => Tryz.call98 a w) rfl (kc _) rfl rfl rfl ?_
               rintro _ h3 ⟨rfl, hx3⟩)
    all_goals (have hb13 := hx3.obj hb12 nos
               have hb23 := hx3.obj hb2 nos
               have hX3 := hX2.trans hx3)
    all_goals (refine Go ?_)
    all_goals (refine Gs [(1, _), (2, _), (4, _)] ?_)
    all_goals (refine WC.sr ?_)
    all_goals (refine Go ?_)
    all_goals (refine goC 1 2 ?_ ?_ <;> first | exact ⟨⟩ | refine Hb.mk fun hb => ?_ | skip)
    all_goals (first | (fail_if_success refine goB 1 ?_) | (
    refine goB 1 ?_
    all_goals (refine WC.sr ?_)
    all_goals (refine WL.step (ok_buildF (vs := []) (cs := [_, _]) (fun | [] => [(.int .u8 0), (.slice none 0 0)] | _ => []) rfl rfl (by kernel_rfl)) rfl rfl rfl ?_)
    all_goals (refine Go ?_)
    all_goals (refine WL.stepR0 (okE_storeW (fun w => Tryz.sizeOf38 w) rfl rfl rfl (by assumption) rfl (by simp [Value.oneCell'])) rfl rfl ?_
               rintro _ h1 ⟨hb1, hx1⟩)
    all_goals (refine Go ?_)
    all_goals (refine Gs [(2, _), (3, _)] ?_)
    all_goals (refine WC.ret ?_)
    all_goals (repeat' (with_reducible first | refine thenP_r ?_ | refine blockP_r ?_))
    all_goals (refine retP_2 _ _ ⟨⟨_, rfl, ld_blk (fun w => Tryz.isAgg38 w) (fun w => Tryz.sizeOf38 w) hb8 rfl⟩, rfl, trivial⟩ ?_)
    all_goals (exact ⟨_, rfl, ho6.ext hx8 (fun q hq e => own_ne ho6 hb24 (by decide) (e ▸ hq)), X.trans' hx8 (fun q hq e => by omega), hf6⟩)
    skip))
    all_goals (first | (fail_if_success refine goB 2 ?_) | (
    refine goB 2 ?_
    all_goals (refine WC.skip ?_)
    skip))
    all_goals (refine Gn ?_)
    all_goals (refine WC.sr ?_)
    all_goals (refine WL.step (ok_buildF (vs := []) (cs := [_]) (fun | [] => [(.slice none 0 0)] | _ => []) rfl rfl (by kernel_rfl)) rfl rfl rfl ?_)
    all_goals (refine WL.stepR (okE_box rfl) rfl rfl rfl ?_
               rintro _ h4 ⟨b5, rfl, hg5, hb5, hx4⟩)
    all_goals (have hb14 := hx4.obj hb13 nos
               have hb24 := hx4.obj hb23 nos
               have hb5 : h4[b5]? = some (.cells ⟨[.slice none 0 0]⟩ 174 (0, 0)) := hb5
               have l1 := lt_of_some hb13
               have l2 := lt_of_some hb23
               have X := hX3.trans hx4
               have l0 := hx1.size
               clear hb1 hb12 hb13 hb2 hb23 hx1 hx2 hx3 hx4 hX2 hX3)
    all_goals (refine Go ?_)
    all_goals (refine Gs [(1, _), (2, _), (5, _)] ?_)
    all_goals (refine WC.seq ?_)
    all_goals (refine WC.sr ?_)
    all_goals (refine Go ?_)
    all_goals (refine WL.ld rfl (by first | exact cell_blk hb14 rfl | assumption | exact cell_blk (by assumption) rfl) rfl rfl rfl ?_)
    all_goals (refine Gn ?_)
    all_goals (refine WC.block ?_)
    all_goals (refine WC.sr ?_)
    all_goals (refine Go ?_)
    all_goals (refine goC 3 4 ?_ ?_ <;> first | exact ⟨⟩ | refine Hb.mk fun hb => ?_ | skip)
    all_goals (first | (fail_if_success refine goB 3 ?_) | (
    refine goB 3 ?_
    all_goals (refine WC.region ?_)
    all_goals (refine Go ?_)
    all_goals (refine WL.call (vs := [_, _, _]) rfl (fun a w => Tryz.call99 a w) rfl (kw _ _ hb5 0 (by unfold Rt; decide)) rfl rfl rfl ?_
               rintro _ h6 ⟨v6, hb56, ho6, hx6, hf6⟩
               obtain ⟨A6, c6, rfl, _⟩ := id ho6.slice
               replace hb14 := hx6.obj hb14 (fun e => by omega)
               replace hb24 := hx6.obj hb24 (fun e => by omega)
               have l4 := X.size
               have hf6 : ∀ q, (Value.slice A6 _ c6).ownBlock = some q → h.size ≤ q := fun q hq => by have := hf6 q hq; omega
               have X := X.trans' hx6 (fun q hq e => by omega))
    all_goals (refine Gn ?_)
    skip))
    all_goals (first | (fail_if_success refine goB 4 ?_) | (
    refine goB 4 ?_
    all_goals (refine WC.sr ?_)
    all_goals (refine Go ?_)
    all_goals (refine Gs [(1, _), (2, _), (5, _), (19, _), (24, _)] ?_)
    all_goals (refine goC 5 6 ?_ ?_ <;> first | exact ⟨⟩ | refine Hb.mk fun hb => ?_ | skip)
    all_goals (first | (fail_if_success refine goB 6 ?_) | (
    refine goB 6 ?_
    all_goals (refine WC.sr ?_)
    all_goals (refine Go ?_)
    all_goals (refine goC 7 8 ?_ ?_ <;> first | exact ⟨⟩ | refine Hb.mk fun hb => ?_ | skip)
    all_goals (first | (fail_if_success refine goB 7 ?_) | (
    refine goB 7 ?_
    all_goals (refine WC.sr ?_)
    all_goals (refine Go ?_)
    all_goals (refine WL.ld rfl (by first | exact cell_blk hb14 rfl | assumption | exact cell_blk (by assumption) rfl) rfl rfl rfl ?_)
    all_goals (refine WL.call (vs := [_, _, _]) rfl (fun a w => Tryz.call99 a w) rfl (kw _ _ hb5 1 (by unfold Rt; decide)) rfl rfl rfl ?_
               rintro _ h6 ⟨v6, hb56, ho6, hx6, hf6⟩
               replace hb14 := hx6.obj hb14 (fun e => by omega)
               replace hb24 := hx6.obj hb24 (fun e => by omega)
               have l4 := X.size
               have X := X.trans' hx6 (fun q hq e => by omega))
    all_goals (refine Gn ?_)
    all_goals (refine Gs [(1, _), (2, _), (5, _)] ?_)
    all_goals (refine WC.region ?_)
    all_goals (refine Go ?_)
    all_goals (refine WL.ld rfl (by first | exact cell_blk hb14 rfl | assumption | exact cell_blk (by assumption) rfl) rfl rfl rfl ?_)
    all_goals (refine WL.call (vs := [_, _, _]) rfl (fun a w => Tryz.call99 a w) rfl (kw2 _ _ _ hb56 ho6) rfl rfl rfl ?_
               rintro _ h6 ⟨v7, hb57, ho7, hx7, hf7⟩
               obtain ⟨A6, c6, rfl, _⟩ := id ho7.slice
               replace hb14 := hx7.obj hb14 (fun e => by omega)
               replace hb24 := hx7.obj hb24 (fun e => by omega)
               have l5 := X.size
               replace hf6 : ∀ q, (Value.slice A6 _ c6).ownBlock = some q → h.size ≤ q := fun q hq => by have := hf7 q hq; omega
               replace ho6 := ho7
               replace hb56 := hb57
               have X := X.trans' hx7 (fun q hq e => by omega))
    all_goals (refine Gn ?_)
    skip))
    all_goals (first | (fail_if_success refine goB 8 ?_) | (
    refine goB 8 ?_
    all_goals (refine WC.sr ?_)
    all_goals (refine Go ?_)
    all_goals (refine Gs [(1, _), (2, _), (5, _), (19, _), (44, _)] ?_)
    all_goals (refine goC 9 10 ?_ ?_ <;> first | exact ⟨⟩ | refine Hb.mk fun hb => ?_ | skip)
    all_goals (first | (fail_if_success refine goB 9 ?_) | (
    refine goB 9 ?_
    all_goals (refine WC.region ?_)
    all_goals (refine Go ?_)
    all_goals (refine WL.ld rfl (by first | exact cell_blk hb14 rfl | assumption | exact cell_blk (by assumption) rfl) rfl rfl rfl ?_)
    all_goals (refine WL.stepR (okE_buildSlice (vs := [_]) (cs := [_]) (fun | [a0] => [a0] | _ => []) Tryz.underlying22 rfl rfl (by kernel_rfl)) rfl rfl rfl ?_
               rintro _ h5 ⟨b6, rfl, hg6, hb6, hx5⟩
               have l5 := hx5.size
               have lb5 := lt_of_some hb5
               replace hb5 := hx5.obj hb5 nos)
    all_goals (refine WL.step (ok_nilCheck rfl) rfl rfl rfl ?_)
    all_goals (refine Go ?_)
    all_goals (refine WL.stepR0 (okE_store (fun w => Tryz.sizeOf22 w) rfl rfl hb5 (Nat.le_of_ble_eq_true rfl) rfl rfl) rfl rfl ?_
               rintro _ h6 ⟨hb56, hx6⟩
               replace hb14 := hx6.obj (hx5.obj hb14 nos) (fun e => by omega)
               replace hb24 := hx6.obj (hx5.obj hb24 nos) (fun e => by omega)
               have l4 := X.size
               have X := (X.trans hx5).trans' hx6 (fun q hq e => by omega)
               have hf6 : ∀ q, (Value.slice (some ⟨b6, 0, none⟩) 1 1).ownBlock = some q → h.size ≤ q := fun q hq => by simp only [Value.ownBlock, Option.some.injEq] at hq; omega
               have hb66 := hx6.obj hb6 (fun e => by omega)
               have ho6 : Own h6 (Value.slice (some ⟨b6, 0, none⟩) 1 1) 5 1 ([73] : List UInt8).length (bys [73]) := Own.of_block hb66 (by decide) (by decide) rfl rfl)
    all_goals (refine Gn ?_)
    skip))
    all_goals (first | (fail_if_success refine goB 10 ?_) | (
    refine goB 10 ?_
    all_goals (refine WC.sr ?_)
    all_goals (refine Go ?_)
    all_goals (refine goC 11 12 ?_ ?_ <;> first | exact ⟨⟩ | refine Hb.mk fun hb => ?_ | skip)
    all_goals (first | (fail_if_success refine goB 12 ?_) | (
    refine goB 12 ?_
    all_goals (refine WC.sr ?_)
    all_goals (refine Go ?_)
    all_goals (refine Gs [(1, _), (2, _), (5, _), (19, _), (58, _)] ?_)
    all_goals (refine goC 13 14 ?_ ?_ <;> first | exact ⟨⟩ | refine Hb.mk fun hb => ?_ | skip)
    all_goals (first | (fail_if_success refine goB 14 ?_) | (
    refine goB 14 ?_
    all_goals (refine WC.sr ?_)
    all_goals (refine Go ?_)
    all_goals (refine goC 15 16 ?_ ?_ <;> first | exact ⟨⟩ | refine Hb.mk fun hb => ?_ | skip)
    all_goals (first | (fail_if_success refine goB 16 ?_) | (
    refine goB 16 ?_
    all_goals (refine WC.sr ?_)
    all_goals (refine Go ?_)
    all_goals (refine Gs [(1, _), (2, _), (5, _), (19, _), (82, _)] ?_)
    all_goals (refine goC 19 20 ?_ ?_ <;> first | exact ⟨⟩ | refine Hb.mk fun hb => ?_ | skip)
    all_goals (first | (fail_if_success refine goB 20 ?_) | (
    refine goB 20 ?_
    all_goals (refine WC.seq ?_)
    all_goals (refine WC.sr ?_)
    all_goals (refine Go ?_)
    all_goals (refine goC 23 24 ?_ ?_ <;> first | exact ⟨⟩ | refine Hb.mk fun hb => ?_ | skip)
    all_goals (first | (fail_if_success refine goB 23 ?_) | (
    refine goB 23 ?_
    all_goals (refine WC.skip ?_)
    skip))
    all_goals (first | (fail_if_success refine goB 24 ?_) | (
    refine goB 24 ?_
    all_goals (refine WC.region ?_)
    all_goals (refine Go ?_)
    skip))
    all_goals (refine Gn ?_)
    all_goals (refine goC 25 26 ?_ ?_ <;> first | exact ⟨⟩ | refine Hb.mk fun hb => ?_ | skip)
    all_goals (first | (fail_if_success refine goB 26 ?_) | (
    refine goB 26 ?_
    all_goals (refine WC.skip ?_)
    skip))
    skip))
    skip))
    skip))
    skip))
    skip))
    skip))
    skip))
    skip))
    all_goals (refine Gn ?_)
    all_goals (refine WC.seq ?_)
    all_goals (refine WC.drawH (fun h' => Ext No h6 h') 7 9 rfl fol ?_)
    all_goals (refine WH.tk 0 rfl (fun hq hC => ok_fieldAddr rfl Tryz.underlying92 rfl (fun w => Tryz.sizeOf5 w)) rfl rfl rfl ?_)
    all_goals (refine WH.tk 1 rfl (fun hq hC => ok_load (fun w => Tryz.isAgg5 w) rfl (by first | exact hC.cell (by first | exact cell_blk hb14 rfl | assumption | exact cell_blk (by assumption) rfl) nos)) rfl rfl rfl ?_)
    all_goals (refine WH.tk 2 rfl (fun hq hC => ok_move rfl) rfl rfl rfl ?_)
    all_goals (refine WH.tk 3 rfl (fun hq hC => ok_nilCheck rfl) rfl rfl rfl ?_)
    all_goals (refine WH.tk 4 rfl (fun hq hC => ok_fieldAddr rfl Tryz.underlying174 rfl (fun w => Tryz.sizeOf22 w)) rfl rfl rfl ?_)
    all_goals (refine WH.tk 5 rfl (fun hq hC => ok_load (fun w => Tryz.isAgg22 w) rfl (by first | exact hC.cell (by first | exact cell_blk hb56 rfl | assumption | exact cell_blk (by assumption) rfl) nos)) rfl rfl rfl ?_)
    all_goals (refine WH.tk 6 rfl (fun hq hC => ok_buildF (vs := [_, _]) (cs := [_, _]) (fun | [a0, a1] => [a0, a1] | _ => []) rfl rfl (by kernel_rfl)) rfl rfl rfl ?_)
    all_goals (refine WH.one 7 (by kernel_rfl) ?_)
    all_goals (refine Comes1.run0 rfl (okE_storeW (fun w => Tryz.sizeOf38 w) rfl rfl rfl hb24 rfl (by simp [Value.oneCell'])) rfl rfl ?_ (fun _ => by kernel_rfl)
               rintro _ h8 ⟨hb8, hx8⟩)
    all_goals (refine ⟨fun e => (by cases e), ?_⟩)
    all_goals (refine WH.one 8 (by kernel_rfl) ?_)
    all_goals (refine Comes1.run rfl (OkP.r (ok_assign rfl)) rfl rfl rfl ?_ (fun _ => by kernel_rfl)
               rintro _ hz ⟨rfl, _⟩
               subst hz)
    all_goals (refine ⟨fun e => (by cases e), ?_⟩)
    all_goals (refine WH.done (by kernel_rfl) ?_)
    all_goals (refine Gn ?_)
    all_goals (refine Gs [(2, _), (3, _)] ?_)
    all_goals (refine WC.ret ?_)
    all_goals (repeat' (with_reducible first | refine thenP_r ?_ | refine blockP_r ?_))
    all_goals (refine retP_2 _ _ ⟨⟨_, rfl, ld_blk (fun w => Tryz.isAgg38 w) (fun w => Tryz.sizeOf38 w) hb8 rfl⟩, rfl, trivial⟩ ?_)
    all_goals (exact ⟨_, rfl, ho6.ext hx8 (fun q hq e => own_ne ho6 hb24 (by decide) (e ▸ hq)), X.trans' hx8 (fun q hq e => by omega), hf6⟩)
end Go.Proofs.YtdjjpbbhcidaaaaGreatDoor


/-
  WHAT IS SAID FIRST (layer 11): R, K, Z.
-/
namespace Go.Proofs.YtdjjpbbhcidaaaaGreatDoor
open Go Go.RK

set_option maxHeartbeats 2000000 in
set_option maxRecDepth 100000 in
theorem keys0 {h : Heap} : CallsH Tryz.prog 84 ⟨[In 0]⟩ h fun u h' => u = .tuple ⟨[In 1, In 7919]⟩ ∧ h' = h := by
  refine calls [(0, _)] Tryz.func84 rfl Tryz.ntmps84 rfl ⟨rfl, trivial⟩ ?_
  all_goals (refine WC.sr ?_)
  all_goals (refine Go ?_)
  all_goals (refine WC.sr ?_)
  all_goals (refine Go ?_)
  all_goals (refine WL.step (ok_max2 rfl rfl) rfl rfl rfl ?_)
  all_goals (refine WL.step (ok_min2 rfl rfl) rfl rfl rfl ?_)
  all_goals (refine Go ?_)
  all_goals (refine Gs [(4, _)] ?_)
  all_goals (refine WC.sr ?_)
  all_goals (refine Go ?_)
  all_goals (refine WL.step (ok_and rfl rfl) rfl rfl rfl ?_)
  all_goals (refine Go ?_)
  all_goals (first | (refine WL.step (ok_mulI rfl rfl (by omega)) rfl rfl rfl ?_) | (refine WL.step (ok_mul rfl rfl) rfl rfl rfl ?_))
  all_goals (refine WL.step (ok_and rfl rfl) rfl rfl rfl ?_)
  all_goals (refine Go ?_)
  all_goals (refine Gs [(2, _), (3, _)] ?_)
  all_goals (refine Gt ?_)
  all_goals (exact ⟨by rfl, rfl⟩)
set_option maxHeartbeats 2000000 in
set_option maxRecDepth 100000 in
theorem settings0 {h : Heap} : CallsH Tryz.prog 85 ⟨[.slice none 0 0]⟩ h fun u h' => u = .slice none 0 0 ∧ h' = h := by
  refine calls [(0, _)] Tryz.func85 rfl Tryz.ntmps85 rfl ⟨rfl, trivial⟩ ?_
  all_goals (refine WC.sr ?_)
  all_goals (refine Go ?_)
  all_goals (refine WC.sr ?_)
  all_goals (refine Go ?_)
  all_goals (refine WC.seq ?_)
  all_goals (refine WC.sr ?_)
  all_goals (refine Go ?_)
  all_goals (refine WC.block ?_)
  -- loop 0: slots that turn [3, 8], that stay [6, 7]
  all_goals (refine WC.loopG (X := Unit) (fun x => ([(8, In 0), (3, .slice none 0 0)] : Fr)) [(6, _), (7, _)] (fun _ h' => h' = h) (fun _ => 0) (()) ⟨rfl, rfl, rfl, rfl, trivial⟩ (by exact rfl) ?_)
  all_goals (rintro _ h1 hz
             subst hz)
  all_goals (refine WC.sub [(3, _), (8, _), (6, _), (7, _)] ⟨rfl, rfl, rfl, rfl, trivial⟩ ?_)
  all_goals (refine WC.sr ?_)
  all_goals (refine Go ?_)
  all_goals (refine WC.seq ?_)
  all_goals (refine goC 1 2 ?_ ?_ <;> first | exact ⟨⟩ | refine Hb.mk fun hb => ?_ | skip)
  all_goals (first | (fail_if_success refine goB 1 ?_) | (
  refine goB 1 ?_
  all_goals (refine WC.skip ?_)
  skip))
  all_goals (first | (fail_if_success refine goB 2 ?_) | (
  refine goB 2 ?_
  all_goals (refine WC.exit ?_)
  all_goals (repeat' (with_reducible first | refine thenP_x ?_ | refine blockP_miss rfl ?_ | refine blockP_hit ?_ | refine blockP_n ?_ | refine thenP_n ?_))
  all_goals (refine Br.out (i := 1000) ?_)
  skip))
  all_goals (refine Gn ?_)
  all_goals (first | (refine Br.keep ?_) | (refine WC.seq ?_))
  all_goals (first | (refine Br.keep ?_) | (refine WC.block ?_))
  all_goals (first | (refine Br.keep ?_) | (refine WC.sr ?_))
  all_goals (first | (refine Br.keep ?_) | (refine WL.step (ok_idxAddrA Tryz.underlying28 (fun w => Tryz.sizeOf125 w) rfl rfl rfl (by omega) (by first | rfl | assumption)) rfl rfl rfl ?_))
  all_goals (first | (refine Br.keep ?_) | (refine WL.step (ok_loadN (fun w => Tryz.isAgg125 w) (fun w => Tryz.sizeOf125 w) rfl rfl (by assumption)) rfl rfl rfl ?_))
  all_goals (first
               | (refine Br.keep ?_)
               | (refine WL.stepR (okE_alloc (fun w => Tryz.zeroValue125 w)) rfl rfl rfl ?_
                  rintro _ h1 ⟨b1, rfl, hg1, hb1, hx1⟩))
  all_goals (first
               | (refine Br.keep ?_)
               | (refine WL.stepR0 (okE_storeW (fun w => Tryz.sizeOf125 w) rfl rfl rfl (by assumption) rfl (by simp [Value.oneCell'])) rfl rfl ?_
                  rintro _ h1 ⟨hb1, hx1⟩))
  all_goals (refine Gn ?_)
  all_goals (first | (refine Br.keep ?_) | (refine WC.region ?_))
  all_goals (refine Go ?_)
  all_goals (first | (refine Br.keep ?_) | (refine Ld ?_))
  all_goals (refine Go ?_)
  all_goals (first | (refine Br.keep ?_) | (refine Ld ?_))
  all_goals (first | (refine Br.keep ?_) | (refine WL.step (ok_buildF (vs := [_, _, _]) (cs := [_, _, _, _, _, _, _, _, _, _, _]) (fun | [a0, a3, a4] => [a0, (.int .u8 0), (St []), a3, a4, (.int .i64 0), (.int .i64 0), (.slice none 0 0), (.slice none 0 0), (.slice none 0 0), (.slice none 0 0)] | _ => []) rfl rfl (by kernel_rfl)) rfl rfl rfl ?_))
  all_goals (first
               | (refine Br.keep ?_)
               | (refine WL.stepR (okE_buildSlice (vs := [_]) (cs := [_, _, _, _, _, _, _, _, _, _, _]) (fun | [.agg ⟨[a0, a1, a2, a3, a4, a5, a6, a7, a8, a9, a10]⟩] => [a0, a1, a2, a3, a4, a5, a6, a7, a8, a9, a10] | _ => []) Tryz.underlying62 rfl rfl (by kernel_rfl)) rfl rfl rfl ?_
                  rintro _ h1 ⟨b1, rfl, hg1, hb1, hx1⟩))
  all_goals (first
               | (refine Br.keep ?_)
               | (refine WL.stepR (ok_append (sz := 11) (bytes := 168) rfl Tryz.underlying62 (show Tryz.prog.info? 92 = some Tryz.t92 by kernel_rfl) rfl rfl rfl rfl (by decide) rfl rfl (by assumption) (by first | assumption | exact rd_blk (by assumption) rfl) (by simp [Value.oneCell']) (by simp only [maxLen]; omega) (by omega)) rfl rfl rfl ?_
                  rintro v1 h1 ⟨ho1, hx1, hl1⟩))
  all_goals (refine Go ?_)
  all_goals (first | (refine Br.keep ?_) | (refine Gs [(3, _), (6, _), (7, _), (8, _)] ?_))
  all_goals (first | (refine Br.keep ?_) | (refine WC.region ?_))
  all_goals (refine Go ?_)
  all_goals (first | (refine Br.keep ?_) | (exact ⟨None, ⟨rfl, rfl, rfl, rfl, trivial⟩, (by exact ⟨⟩), (by simp; omega)⟩))
  all_goals (try (refine Br.mk (i := 1000) ?_))
  all_goals (refine Gn ?_)
  all_goals (refine Gs [(3, _)] ?_)
  all_goals (refine WC.sr ?_)
  all_goals (refine Go ?_)
  all_goals (refine Gt ?_)
  all_goals (exact ⟨rfl, rfl⟩)
abbrev greetC : List Value := (gB 82 0 0 0).cells ++ (gB 75 0 1 7919).cells ++ (gB 90 73 0 0).cells
set_option maxHeartbeats 2000000 in
set_option maxRecDepth 100000 in
theorem backs0 {h : Heap} : CallsH Tryz.prog 52 ⟨[.slice none 0 0, In 0]⟩ h fun u h' => Own h' u 92 11 3 greetC ∧ Ext No h h' ∧ ∀ q, u.ownBlock = some q → h.size ≤ q := by
  refine calls [(0, _), (1, _)] Tryz.func52 rfl Tryz.ntmps52 rfl ⟨rfl, rfl, trivial⟩ ?_
  all_goals (refine WC.sr ?_)
  all_goals (refine Go ?_)
  all_goals (refine WC.sr ?_)
  all_goals (refine Go ?_)
  all_goals (refine WL.call (vs := [_]) rfl (fun a w => Tryz.call84 a w) rfl (keys0) rfl rfl rfl ?_
             rintro _ hz ⟨rfl, _⟩
             subst hz)
  all_goals (refine Go ?_)
  all_goals (refine Gs [(0, _), (5, _), (6, _)] ?_)
  all_goals (refine WC.sr ?_)
  all_goals (refine WL.step (ok_buildF (vs := [_]) (cs := [_, _, _, _, _, _, _, _, _, _, _]) (fun | [a0] => [a0, (.int .u8 0), (St []), (St []), (St []), (.int .i64 0), (.int .i64 0), (.slice none 0 0), (.slice none 0 0), (.slice none 0 0), (.slice none 0 0)] | _ => []) rfl rfl (by kernel_rfl)) rfl rfl rfl ?_)
  all_goals (refine WL.stepR (okE_buildSlice (vs := [_]) (cs := [_, _, _, _, _, _, _, _, _, _, _]) (fun | [.agg ⟨[a0, a1, a2, a3, a4, a5, a6, a7, a8, a9, a10]⟩] => [a0, a1, a2, a3, a4, a5, a6, a7, a8, a9, a10] | _ => []) Tryz.underlying62 rfl rfl (by kernel_rfl)) rfl rfl rfl ?_
             rintro _ h1 ⟨b1, rfl, hg1, hb1, hx1⟩)
  all_goals (refine Go ?_)
  all_goals (refine WL.call (vs := [_]) rfl (fun a w => Tryz.call85 a w) rfl (settings0) rfl rfl rfl ?_
             rintro _ hz ⟨rfl, _⟩
             subst hz)
  all_goals (refine WL.stepR (ok_append (sz := 11) (bytes := 168) rfl Tryz.underlying62 (show Tryz.prog.info? 92 = some Tryz.t92 by kernel_rfl) rfl rfl rfl rfl (by decide) rfl rfl (own_blk hb1 rfl (by simp [maxLen])) (Rd.nil _ _) (by simp [Value.oneCell']) (by simp only [maxLen]; omega) (by omega)) rfl rfl rfl ?_
             rintro v2 h2 ⟨ho2, hx2, hl2⟩
             have ho2 : Own h2 v2 92 11 1 (gB 82 0 0 0).cells := ho2
             have hf2 := fresh_of hl2 (fun k hk => by simp only [Value.ownBlock, Option.some.injEq] at hk; exact hk ▸ hg1) hx1.size
             have X2 : Ext No h h2 := hx1.trans' hx2 (fun q hq e => by simp only [Value.ownBlock, Option.some.injEq] at e; omega))
  all_goals (refine Go ?_)
  all_goals (refine Gs [(5, _), (6, _), (7, _)] ?_)
  all_goals (refine WC.sr ?_)
  all_goals (refine Go ?_)
  all_goals (refine WL.step (ok_buildF (vs := [_, _, _]) (cs := [_, _, _, _, _, _, _, _, _, _, _]) (fun | [a0, a5, a6] => [a0, (.int .u8 0), (St []), (St []), (St []), a5, a6, (.slice none 0 0), (.slice none 0 0), (.slice none 0 0), (.slice none 0 0)] | _ => []) rfl rfl (by kernel_rfl)) rfl rfl rfl ?_)
  all_goals (refine WL.step (ok_buildF (vs := [_, _]) (cs := [_, _, _, _, _, _, _, _, _, _, _]) (fun | [a0, a1] => [a0, a1, (St []), (St []), (St []), (.int .i64 0), (.int .i64 0), (.slice none 0 0), (.slice none 0 0), (.slice none 0 0), (.slice none 0 0)] | _ => []) rfl rfl (by kernel_rfl)) rfl rfl rfl ?_)
  all_goals (refine WL.stepR (okE_buildSlice (vs := [_, _]) (cs := [_, _, _, _, _, _, _, _, _, _, _, _, _, _, _, _, _, _, _, _, _, _]) (fun | [.agg ⟨[a0, a1, a2, a3, a4, a5, a6, a7, a8, a9, a10]⟩, .agg ⟨[a11, a12, a13, a14, a15, a16, a17, a18, a19, a20, a21]⟩] => [a0, a1, a2, a3, a4, a5, a6, a7, a8, a9, a10, a11, a12, a13, a14, a15, a16, a17, a18, a19, a20, a21] | _ => []) Tryz.underlying62 rfl rfl (by kernel_rfl)) rfl rfl rfl ?_
             rintro _ h3 ⟨b3, rfl, hg3, hb3, hx3⟩)
  all_goals (refine WL.stepR (ok_append (sz := 11) (bytes := 168) rfl Tryz.underlying62 (show Tryz.prog.info? 92 = some Tryz.t92 by kernel_rfl) rfl rfl rfl rfl (by decide) rfl rfl (ho2.ext hx3 (fun _ _ => nos)) (rd_blk (len := 2) (sz := 11) (cs := (gB 75 0 1 7919).cells ++ (gB 90 73 0 0).cells) hb3 rfl) (by simp [gB, Bk.cells, Value.oneCell']) (by simp only [maxLen]; omega) (by omega)) rfl rfl rfl ?_
             rintro v4 h4 ⟨ho4, hx4, hl4⟩
             have ho4 : Own h4 v4 92 11 3 greetC := ho4)
  all_goals (refine Go ?_)
  all_goals (refine Gs [(4, _)] ?_)
  all_goals (refine Gt ?_)
  all_goals (exact ⟨ho4, (X2.trans hx3).trans' hx4 (fun q hq e => by have := hf2 q e; omega), fresh_of hl4 hf2 (by have := X2.size; have := hx3.size; omega)⟩)
end Go.Proofs.YtdjjpbbhcidaaaaGreatDoor


/-
  A SERVER (layer 31), by the code: messages are said.
-/
namespace Go.Proofs.YtdjjpbbhcidaaaaGreatDoor
open Go Go.RK

def msgC (p : Int × Value) : List Value := [.int .u8 p.1, p.2]
def svC (w f s p i : Value) (bg ov : Bool) : List Value := [w, f, s, p, i, .bool bg, .bool ov]
def EncOf (k : Int) (g : Heap) (u : Value) (g' : Heap) : Prop := ∃ A n c, u = .tuple ⟨[.agg ⟨[.int .u8 k, .slice A n c]⟩, In 0]⟩ ∧ Ext No g g'
end Go.Proofs.YtdjjpbbhcidaaaaGreatDoor


/-
  A SERVER (layer 31), by the code: the first message.
-/
namespace Go.Proofs.YtdjjpbbhcidaaaaGreatDoor
open Go Go.RK

abbrev greetL : List Bk := [gB 82 0 0 0, gB 75 0 1 7919, gB 90 73 0 0]
end Go.Proofs.YtdjjpbbhcidaaaaGreatDoor


/-
  PORTAL (layer 28): lists that are copied: rows of their own.
-/
namespace Go.Proofs.YtdjjpbbhcidaaaaGreatDoor
open Go Go.RK

/-- A list whose cells have got bytes of their own up to number k. -/
structure RowI (h2 h : Heap) (b1 : Nat) (l : List Cel) (k : Nat) (out : List Cel) : Prop where
  le : k ≤ l.length
  len : out.length = k
  pl : out.map Cel.pl = (l.take k).map Cel.pl
  blk : ∃ spare, h[b1]? = some (.cells ⟨(out ++ l.drop k).flatMap Cel.cells ++ spare⟩ 211 (0, 0))
  own : ∀ q ∈ out, q.ok h ∧ ∀ b, q.v.ownBlock = some b → h2.size ≤ b
  ext : Ext (fun b => b = b1) h2 h
theorem RowI.done {h0 h2 h : Heap} {b1 c1 : Nat} {l out : List Cel} (r : RowI h2 h b1 l l.length out) (x2 : Ext No h0 h2) (hg : h0.size ≤ b1) (hlt : b1 < h2.size) (hn : l.length ≤ c1) (hc : c1 ≤ maxLen) (hl : l.length * 32 ≤ reachBytes) :
    ∃ l', Cels h (.slice (some ⟨b1, 0, none⟩) l.length c1) l' ∧ l'.map Cel.pl = l.map Cel.pl ∧ Ext No h0 h ∧ ∀ b, CelsF (.slice (some ⟨b1, 0, none⟩) l.length c1) l' b → h0.size ≤ b := by
  obtain ⟨spare, hb⟩ := r.blk
  rw [List.drop_length, List.append_nil] at hb
  have s2 := x2.size
  have e := r.len
  refine ⟨out, ?_, by rw [r.pl, List.take_length], x2.trans' r.ext fun b hb e => by omega, ?_⟩
  · rw [← e]
    exact ⟨⟨_, _, rfl, by omega, length_flat Cel.len out, fun _ => ⟨b1, 0, rfl, lt_of_some hb, (At.of_block hb).pre⟩⟩, ⟨by omega, _, _, rfl, hc⟩, fun q hq => (r.own q hq).1⟩
  · rintro b (⟨_, e⟩ | ⟨q, hq, _, e⟩)
    · simp only [Value.ownBlock, Option.some.injEq] at e; omega
    · have := (r.own q hq).2 b e; omega
structure TabI (h2 h : Heap) (b1 : Nat) (L : List Rw) (k : Nat) (out : List Rw) : Prop where
  le : k ≤ L.length
  len : out.length = k
  pl : out.map Rw.pl = (L.take k).map Rw.pl
  blk : ∃ spare, h[b1]? = some (.cells ⟨(out ++ L.drop k).map Rw.v ++ spare⟩ 32 (0, 0))
  own : ∀ r ∈ out, Cels h r.v r.l ∧ ∀ b, CelsF r.v r.l b → h2.size ≤ b
  ext : Ext (fun b => b = b1) h2 h
theorem TabI.done {h0 h2 h : Heap} {b1 c1 : Nat} {L out : List Rw} (r : TabI h2 h b1 L L.length out) (x2 : Ext No h0 h2) (hg : h0.size ≤ b1) (hlt : b1 < h2.size) (hn : L.length ≤ c1) (hc : c1 ≤ maxLen) (hl : L.length * 24 ≤ reachBytes) :
    ∃ L', Rws h (.slice (some ⟨b1, 0, none⟩) L.length c1) L' ∧ L'.map Rw.pl = L.map Rw.pl ∧ Ext No h0 h ∧ ∀ b, RwsF (.slice (some ⟨b1, 0, none⟩) L.length c1) L' b → h0.size ≤ b := by
  obtain ⟨spare, hb⟩ := r.blk
  rw [List.drop_length, List.append_nil] at hb
  have s2 := x2.size
  have e := r.len
  refine ⟨out, ?_, by rw [r.pl, List.take_length], x2.trans' r.ext fun b hb e => by omega, ?_⟩
  · rw [← e]
    exact ⟨⟨_, _, rfl, by omega, by simp, fun _ => ⟨b1, 0, rfl, lt_of_some hb, (At.of_block hb).pre⟩⟩, ⟨by omega, _, _, rfl, hc⟩, fun q hq => (r.own q hq).1⟩
  · rintro b (⟨_, e⟩ | ⟨q, hq, e⟩)
    · simp only [Value.ownBlock, Option.some.injEq] at e; omega
    · have := (r.own q hq).2 b e; omega
end Go.Proofs.YtdjjpbbhcidaaaaGreatDoor


/-
  PORTAL (layer 28): a set of portals: Put, Ran, Fetch; what the document compares.
-/
namespace Go.Proofs.YtdjjpbbhcidaaaaGreatDoor
open Go Go.RK

/-- A portal's data. -/
structure PD where
  text : List UInt8
  vo : Value
  oids : List Int
  vp : Value
  ps : List Cel
  vr : Value
  rs : List Rw
  ran : Bool
  over : Bool
def PD.cells (p : PD) : List Value := [St p.text, p.vo, p.vp, p.vr, .bool p.ran, .bool p.over]
structure PD.ok (h : Heap) (p : PD) : Prop where
  oids : Rd h p.vo 1 p.oids.length (ints p.oids)
  lo : p.oids.length * 8 ≤ reachBytes
  ps : Cels h p.vp p.ps
  rs : Rws h p.vr p.rs
def PD.F (p : PD) (b : Nat) : Prop := (0 < p.oids.length ∧ p.vo.ownBlock = some b) ∨ CelsF p.vp p.ps b ∨ RwsF p.vr p.rs b
def PD.pl (p : PD) := (p.text, p.oids, p.ps.map Cel.pl, p.rs.map Rw.pl, p.ran, p.over)
theorem PD.ok.ext {h h' : Heap} {S : Nat → Prop} {p : PD} (k : p.ok h) (a : Ext S h h') (hS : ∀ b, p.F b → ¬ S b) : p.ok h' :=
  ⟨k.oids.ext' a fun b h1 h2 => hS b (.inl ⟨h1, h2⟩), k.lo, k.ps.ext a fun b hb => hS b (.inr (.inl hb)), k.rs.ext a fun b hb => hS b (.inr (.inr hb))⟩
theorem PD.ok.lt {h : Heap} {p : PD} {b : Nat} (k : p.ok h) (hb : p.F b) : b < h.size := by
  rcases hb with ⟨h1, h2⟩ | hb | hb
  · exact k.oids.lt h1 h2
  · exact k.ps.lt hb
  · exact k.rs.lt hb
end Go.Proofs.YtdjjpbbhcidaaaaGreatDoor


/-
  PORTAL (layer 28): a set that holds one portal: New, Put, Ran, Fetch.
-/
namespace Go.Proofs.YtdjjpbbhcidaaaaGreatDoor
open Go Go.RK

set_option maxHeartbeats 2000000 in
set_option maxRecDepth 100000 in
theorem new_port {h : Heap} : CallsH Tryz.prog 117 ⟨[]⟩ h fun u h' => ∃ b m, u = .pointer (some ⟨b, 0, none⟩) ∧ h'[b]? = some (.cells ⟨[.map (some m)]⟩ 234 (0, 0)) ∧ Mp .string St h' m ([] : List (List UInt8 × Value)) ∧ h.size ≤ b ∧ h.size ≤ m ∧ Ext No h h' := by
  refine calls [] Tryz.func117 rfl Tryz.ntmps117 rfl trivial ?_
  all_goals (refine WC.sr ?_)
  all_goals (refine Go ?_)
  all_goals (refine WC.sr ?_)
  all_goals (refine WL.stepR okE_makeMap rfl rfl rfl ?_
             rintro _ h1 ⟨m1, rfl, hgm, hm1, hxm⟩)
  all_goals (refine WL.step (ok_buildF (vs := [_]) (cs := [_]) (fun | [a0] => [a0] | _ => []) rfl rfl (by kernel_rfl)) rfl rfl rfl ?_)
  all_goals (refine WL.stepR (okE_box rfl) rfl rfl rfl ?_
             rintro _ h2 ⟨b1, rfl, hg1, hb1, hx1⟩)
  all_goals (refine Go ?_)
  all_goals (refine Gt ?_)
  all_goals (exact ⟨_, _, rfl, hb1, ⟨_, _, hx1.obj hm1 id, MapKept.stamped_empty 0, rfl⟩, Nat.le_trans hxm.size hg1, hgm, hxm.trans hx1⟩)

/-- A set at block b, its map at m, its one portal of that name at p, with that data. -/
structure P1 (h : Heap) (b m p : Nat) (name : List UInt8) (d : PD) : Prop where
  set : h[b]? = some (.cells ⟨[.map (some m)]⟩ 234 (0, 0))
  map : Mp .string St h m [(name, .pointer (some ⟨p, 0, none⟩))]
  blk : h[p]? = some (.cells ⟨d.cells⟩ 249 (0, 0))
  ok : d.ok h
  apart : ∀ k, d.F k → k ≠ p
theorem P1.ne {h : Heap} {b m p : Nat} {name : List UInt8} {d : PD} (r : P1 h b m p name d) : b ≠ p ∧ m ≠ p := by
  constructor
  · rintro rfl
    have := r.set
    rw [r.blk] at this
    simp only [Option.some.injEq, Obj.cells.injEq] at this
    exact absurd this.2.1 (by decide)
  · rintro rfl
    obtain ⟨_, _, e, _⟩ := r.map
    rw [r.blk] at e
    cases e
theorem P1.ext {h h' : Heap} {b m p : Nat} {name : List UInt8} {d : PD} {S : Nat → Prop} (r : P1 h b m p name d) (a : Ext S h h') (h1 : ¬ S b) (h2 : ¬ S m) (h3 : ¬ S p) (h4 : ∀ k, d.F k → ¬ S k) : P1 h' b m p name d :=
  ⟨a.obj r.set h1, r.map.ext a h2, a.obj r.blk h3, r.ok.ext a h4, r.apart⟩
def PD0 : PD := ⟨[], .slice none 0 0, [], .slice none 0 0, [], .slice none 0 0, [], false, false⟩
end Go.Proofs.YtdjjpbbhcidaaaaGreatDoor


/-
  ROWS THAT ARE TURNED IN PLACE BY THE LIBRARY's SORT AND COMPACT. No program is named here.
-/
namespace Go.RK
open Go

section
variable {h : Heap}
/-- What the library's contracts ask of a row of one's own. -/
theorem Own.holds {α : Type} [Inhabited α] (enc : α → Value) {w : World} {g n cap : Nat} {e : TypeId} {l : List α} (ho : Own w.heap (.slice (some ⟨g, 0, none⟩) n cap) e 1 n (l.map enc)) : Go.Sort.Holds enc w g 0 l.toArray := by
  obtain ⟨hl, ⟨hv, _⟩ | ⟨g0, cap0, cur, hv, hg, hn, hc, hs, htk⟩⟩ := ho
  · cases hv
  · simp only [Value.slice.injEq, Option.some.injEq, Addr.mk.injEq] at hv
    obtain ⟨⟨rfl, _, _⟩, _, rfl⟩ := hv
    intro j hj
    have hj' : j < l.length := by simpa using hj
    refine ⟨?_, ?_⟩
    · rw [cell_eq, cell_of hg, Nat.zero_add]
      have e1 : (cur.toList.take (n * 1))[j]? = (l.map enc)[j]? := by rw [htk]
      have e2 : j < n * 1 := by
        have := congrArg List.length htk
        simp at this hl
        omega
      rw [List.getElem?_take, if_pos e2, List.getElem?_map, List.getElem?_eq_getElem hj'] at e1
      rw [← Array.getElem?_toList, e1]
      simp [hj']
    · unfold World.frozen?
      simp only [hg]
      simp
end
end Go.RK

/-
  PORTAL (layer 28): one portal among those of a set: found by its name.
-/
namespace Go.Proofs.YtdjjpbbhcidaaaaGreatDoor
open Go Go.RK

/-- A set at block b, its map at m, of entries es; its portal of that name at p, with that data. -/
structure Pe (h : Heap) (b m : Nat) (es : List (List UInt8 × Value)) (p : Nat) (name : List UInt8) (d : PD) : Prop where
  set : h[b]? = some (.cells ⟨[.map (some m)]⟩ 234 (0, 0))
  map : Mp .string St h m es
  look : alook es name = some (.pointer (some ⟨p, 0, none⟩))
  blk : h[p]? = some (.cells ⟨d.cells⟩ 249 (0, 0))
  ok : d.ok h
  apart : ∀ k, d.F k → k ≠ p
theorem Pe.ne {es : List (List UInt8 × Value)} {h : Heap} {b m p : Nat} {name : List UInt8} {d : PD} (r : Pe h b m es p name d) : b ≠ p ∧ m ≠ p := by
  constructor
  · rintro rfl
    have := r.set
    rw [r.blk] at this
    simp only [Option.some.injEq, Obj.cells.injEq] at this
    exact absurd this.2.1 (by decide)
  · rintro rfl
    obtain ⟨_, _, e, _⟩ := r.map
    rw [r.blk] at e
    cases e
end Go.Proofs.YtdjjpbbhcidaaaaGreatDoor


/-
  PORTAL (layer 28): a set of portals: Put, Get, Delete, Clear, Names.
-/
namespace Go.Proofs.YtdjjpbbhcidaaaaGreatDoor
open Go Go.RK

/-- A portal among those of both sets: its block, what the code has, what the document has. -/
structure It28 where
  p : Nat
  d : PD
  e : PD
def ptE (i : It28) : Value := .pointer (some ⟨i.p, 0, none⟩)
theorem okE_clearM {P : Program} {f : Fr} {h : Heap} {dd : Option Tmp} {ty : TypeId} {pos : String} {af : Array Edge} {g : Option (Nat × Bool)} {x : Operand} {t kt et : TypeId} {ts : Array TypeId} {κ : Type} {d : TypeDesc} {enc : κ → Value} {m : Nat} {es : List (κ × Value)} (hts : ts = #[t]) (hu : P.underlying t = some (.map kt et)) (hx : f.ev x = some (.map (some m))) (hm : Mp d enc h m es) :
    OkR P f ⟨dd, .call { callee := .builtin .clear, args := #[x], argTypes := ts }, ty, pos, af, g⟩ h (fun _ h' => Mp d enc h' m ([] : List (κ × Value)) ∧ Ext (fun b => b = m) h h') := fun ρ w ha hw => by
  subst hts
  subst hw
  obtain ⟨arr, clock, hb, hs, he⟩ := hm
  refine ⟨.tuple #[], { w with heap := w.heap.setIfInBounds m (.map #[] clock) }, ⟨rfl, rfl, rfl, Nat.le_refl _⟩, ⟨⟨_, _, set_new hb, MapKept.stamped_empty _, rfl⟩, .set _ _ _ rfl⟩, .inl ?_⟩
  simp [execOp, resolve, invoke, builtin, ha _ _ hx, Builtin.clear_, run_underlying hu, MapKept.run_getObj_map hb, MapKept.run_setObj_map _ hb]
section
variable {h : Heap} {b m : Nat} {es : List (List UInt8 × Value)}
theorem Pe.ext0 {h' : Heap} {p : Nat} {name : List UInt8} {d : PD} (r : Pe h b m es p name d) (a : Ext No h h') : Pe h' b m es p name d :=
  ⟨a.obj r.set nos, r.map.ext a nos, r.look, a.obj r.blk nos, r.ok.ext a (fun _ _ => nos), r.apart⟩
set_option maxHeartbeats 2000000 in
set_option maxRecDepth 100000 in
theorem clear_e (hb : h[b]? = some (.cells ⟨[.map (some m)]⟩ 234 (0, 0))) (hm : Mp .string St h m es) :
    CallsH Tryz.prog 104 ⟨[.pointer (some ⟨b, 0, none⟩)]⟩ h fun u h' => u = .tuple ⟨[]⟩ ∧ Mp .string St h' m ([] : List (List UInt8 × Value)) ∧ Ext (fun k => k = m) h h' := by
  refine calls [(0, _)] Tryz.func104 rfl Tryz.ntmps104 rfl ⟨rfl, trivial⟩ ?_
  all_goals (refine WC.sr ?_)
  all_goals (refine Go ?_)
  all_goals (refine WL.step (ok_neqPn Tryz.underlying107 rfl rfl) rfl rfl rfl ?_)
  all_goals (refine Gn ?_)
  all_goals (refine goC 1 2 ?_ ?_ <;> first | exact ⟨⟩ | refine Hb.mk fun hb => ?_ | skip)
  all_goals (first | (fail_if_success refine goB 1 ?_) | (
  refine goB 1 ?_
  all_goals (refine WC.region ?_)
  all_goals (refine Go ?_)
  all_goals (refine WL.step (ok_nilCheck rfl) rfl rfl rfl ?_)
  all_goals (refine Go ?_)
  all_goals (refine Ld ?_)
  all_goals (refine WL.stepR0 (okE_clearM rfl Tryz.underlying232 rfl hm) rfl rfl ?_
             rintro _ h1 ⟨hm1, hx1⟩)
  all_goals (refine Gn ?_)
  skip))
  all_goals (first | (fail_if_success refine goB 2 ?_) | (
  refine goB 2 ?_
  all_goals (refine WC.skip ?_)
  skip))
  all_goals (refine Gn ?_)
  all_goals (refine retP_n [] trivial ?_)
  all_goals (exact ⟨rfl, hm1, hx1⟩)
end
end Go.Proofs.YtdjjpbbhcidaaaaGreatDoor


/-
  MESSAGES (layer 6), alone: Front.w without the entries, and what RwF tells of them.
-/
namespace Go.Proofs.YtdjjpbbhcidaaaaGreatDoor
open Go Go.RK

structure Fm where
  kind : Int
  what : Int
  name : List UInt8
  portal : List UInt8
  text : List UInt8
  vo : Value
  oids : List Int
  vf : Value
  formats : List Int
  vs : Value
  results : List Int
  vp : Value
  params : List Cel
  max : Int
def Fm.cells (b : Fm) : List Value := [.int .u8 b.kind, .int .u8 b.what, St b.name, St b.portal, St b.text, b.vo, b.vf, b.vs, b.vp, In b.max]
theorem Fm.len (b : Fm) : b.cells.length = 10 := rfl
structure Fm.ok (h : Heap) (b : Fm) : Prop where
  oids : Rd h b.vo 1 b.oids.length (ints b.oids) ∧ b.oids.length ≤ maxLen
  formats : Rd h b.vf 1 b.formats.length (ints b.formats) ∧ b.formats.length ≤ maxLen
  results : Rd h b.vs 1 b.results.length (ints b.results) ∧ b.results.length ≤ maxLen
  params : Cels h b.vp b.params
theorem Fm.ok.ext0 {h h' : Heap} {b : Fm} (k : b.ok h) (a : Ext No h h') : b.ok h' := ⟨⟨k.1.1.ext0 a, k.1.2⟩, ⟨k.2.1.ext0 a, k.2.2⟩, ⟨k.3.1.ext0 a, k.3.2⟩, k.4.ext0 a⟩
theorem Fm.ok.one {h : Heap} {e : Fm} (k : e.ok h) : ∀ v ∈ e.cells, v.oneCell' = true := by
  obtain ⟨A1, c1, e1, _⟩ := k.1.1
  obtain ⟨A2, c2, e2, _⟩ := k.2.1
  obtain ⟨A3, c3, e3, _⟩ := k.3.1
  obtain ⟨_, ⟨_, A4, c4, e4, _⟩, _⟩ := k.4
  simp [Fm.cells, Value.oneCell', e1, e2, e3, e4]
def Fm.pl (b : Fm) := (b.kind, b.what, b.name, b.portal, b.text, b.oids, b.formats, b.results, b.params.map Cel.pl, b.max)
def Fms (h : Heap) (v : Value) (L : List Fm) : Prop := Rd h v 10 L.length (L.flatMap Fm.cells) ∧ L.length ≤ maxLen ∧ ∀ e ∈ L, e.ok h
theorem Fms.ext0 {h h' : Heap} {v : Value} {L : List Fm} (k : Fms h v L) (a : Ext No h h') : Fms h' v L := ⟨k.1.ext0 a, k.2.1, fun r hr => (k.2.2 r hr).ext0 a⟩

end Go.Proofs.YtdjjpbbhcidaaaaGreatDoor


/-
  SESSIONS (layer 30): what a session holds; New; of one that no call made nothing is said.
-/
namespace Go.Proofs.YtdjjpbbhcidaaaaGreatDoor
open Go Go.RK

/-- A session at bs: its statements L, its portals P, its engine's refused texts R. -/
structure Se (h : Heap) (bs ms bp mp be me : Nat) (st : Int) (sk ov : Bool) (cnt : Int) (L P R : List (List UInt8 × Value)) : Prop where
  blk : h[bs]? = some (.cells ⟨[.map (some ms), .pointer (some ⟨bp, 0, none⟩), .pointer (some ⟨be, 0, none⟩), .int .u8 st, .bool sk, .bool ov]⟩ 109 (0, 0))
  stm : Mp .string St h ms L
  pb : h[bp]? = some (.cells ⟨[.map (some mp)]⟩ 234 (0, 0))
  pm : Mp .string St h mp P
  eb : h[be]? = some (.cells ⟨[.map (some me), In cnt]⟩ 133 (0, 0))
  em : Mp .string St h me R
  ne : ms ≠ mp ∧ ms ≠ me ∧ mp ≠ me
theorem Se.ext0 {h h' : Heap} {bs ms bp mp be me : Nat} {st : Int} {sk ov : Bool} {cnt : Int} {L P R : List (List UInt8 × Value)} (k : Se h bs ms bp mp be me st sk ov cnt L P R) (x : Ext No h h') : Se h' bs ms bp mp be me st sk ov cnt L P R :=
  ⟨x.obj k.blk nos, k.stm.ext x nos, x.obj k.pb nos, k.pm.ext x nos, x.obj k.eb nos, k.em.ext x nos, k.ne⟩
/-- Messages stay. -/
def Kf (h h' : Heap) : Prop := ∀ (q : Nat) (cs : Array Value), h[q]? = some (Obj.cells cs 34 (0, 0)) → h'[q]? = some (Obj.cells cs 34 (0, 0))
theorem Kf.trans {h h1 h2 : Heap} (a : Kf h h1) (b : Kf h1 h2) : Kf h h2 := fun q cs hq => b q cs (a q cs hq)
set_option maxHeartbeats 2000000 in
set_option maxRecDepth 100000 in
theorem new_eng {h : Heap} : CallsH Tryz.prog 33 ⟨[]⟩ h fun u h' => ∃ be me, u = .pointer (some ⟨be, 0, none⟩) ∧ h'[be]? = some (.cells ⟨[.map (some me), In 0]⟩ 133 (0, 0)) ∧ Mp .string St h' me ([] : List (List UInt8 × Value)) ∧ h.size ≤ be ∧ h.size ≤ me ∧ Ext No h h' := by
  refine calls [] Tryz.func33 rfl Tryz.ntmps33 rfl trivial ?_
  all_goals (refine WC.sr ?_)
  all_goals (refine Go ?_)
  all_goals (refine WC.sr ?_)
  all_goals (refine WL.stepR okE_makeMap rfl rfl rfl ?_
             rintro _ h1 ⟨b1, rfl, hg1, hb1, hx1⟩)
  all_goals (refine WL.step (ok_buildF (vs := [_]) (cs := [_, _]) (fun | [a0] => [a0, (.int .i64 0)] | _ => []) rfl rfl (by kernel_rfl)) rfl rfl rfl ?_)
  all_goals (refine WL.stepR (okE_box rfl) rfl rfl rfl ?_
             rintro _ h2 ⟨b2, rfl, hg2, hb2, hx2⟩)
  all_goals (refine Go ?_)
  all_goals (refine Gt ?_)
  all_goals (exact ⟨b2, b1, rfl, hb2, ⟨_, _, hx2.obj hb1 id, MapKept.stamped_empty 0, rfl⟩, by have := hx1.size; omega, hg1, hx1.trans hx2⟩)
set_option maxHeartbeats 2000000 in
set_option maxRecDepth 100000 in
/-- New: the engine may be none. -/
theorem new_sess {h : Heap} (e : Option Addr) : CallsH Tryz.prog 67 ⟨[.pointer e]⟩ h fun u h' => ∃ bs ms bp mp, u = .pointer (some ⟨bs, 0, none⟩) ∧ h'[bs]? = some (.cells ⟨[.map (some ms), .pointer (some ⟨bp, 0, none⟩), .pointer e, .int .u8 73, .bool false, .bool false]⟩ 109 (0, 0)) ∧ Mp .string St h' ms ([] : List (List UInt8 × Value)) ∧
    h'[bp]? = some (.cells ⟨[.map (some mp)]⟩ 234 (0, 0)) ∧ Mp .string St h' mp ([] : List (List UInt8 × Value)) ∧ h.size ≤ ms ∧ ms < mp ∧ h.size ≤ bp ∧ h.size ≤ bs ∧ Ext No h h' := by
  refine calls [(0, _)] Tryz.func67 rfl Tryz.ntmps67 rfl ⟨rfl, trivial⟩ ?_
  all_goals (refine WC.sr ?_)
  all_goals (refine Go ?_)
  all_goals (refine WC.sr ?_)
  all_goals (refine WL.stepR okE_makeMap rfl rfl rfl ?_
             rintro _ h1 ⟨b1, rfl, hg1, hb1, hx1⟩)
  all_goals (refine WL.call (vs := []) rfl (fun a w => Tryz.call117 a w) rfl (new_port) rfl rfl rfl ?_
             rintro _ h2 ⟨bp, mp, rfl, hbp, hmp, hgp, hgm, hx2⟩)
  all_goals (refine Go ?_)
  all_goals (refine WL.step (ok_buildF (vs := [_, _, _, _]) (cs := [_, _, _, _, _, _]) (fun | [a0, a1, a2, a3] => [a0, a1, a2, a3, (.bool false), (.bool false)] | _ => []) rfl rfl (by kernel_rfl)) rfl rfl rfl ?_)
  all_goals (refine WL.stepR (okE_box rfl) rfl rfl rfl ?_
             rintro _ h3 ⟨b3, rfl, hg3, hb3, hx3⟩)
  all_goals (have l1 := lt_of_some hb1)
  all_goals (refine Go ?_)
  all_goals (refine Gs [(2, _)] ?_)
  all_goals (refine Gt ?_)
  all_goals (exact ⟨b3, b1, bp, mp, rfl, hb3, ⟨_, _, (hx2.trans hx3).obj hb1 id, MapKept.stamped_empty 0, rfl⟩, hx3.obj hbp nos, hmp.ext hx3 nos, hg1, by omega, by have := hx1.size; omega, by have := hx1.size; have := hx2.size; omega, (hx1.trans hx2).trans hx3⟩)
section
variable {h : Heap} {b : Nat} {m p : Value} {e : Option Addr} {st : Int} {sk ov : Bool}
set_option maxHeartbeats 2000000 in
set_option maxRecDepth 100000 in
theorem ready_yes {a : Addr} (hb : h[b]? = some (.cells ⟨[m, p, .pointer (some a), .int .u8 st, .bool sk, .bool ov]⟩ 109 (0, 0))) : CallsH Tryz.prog 60 ⟨[.pointer (some ⟨b, 0, none⟩)]⟩ h fun u h' => u = .bool (!ov) ∧ h' = h := by
  cases ov
  all_goals
    refine calls [(0, _)] Tryz.func60 rfl Tryz.ntmps60 rfl ⟨rfl, trivial⟩ ?_
    all_goals (refine WC.sr ?_)
    all_goals (refine Go ?_)
    all_goals (refine WC.sr ?_)
    all_goals (refine Go ?_)
    all_goals (refine WL.step (ok_neqPn Tryz.underlying27 rfl rfl) rfl rfl rfl ?_)
    all_goals (refine Go ?_)
    all_goals (refine goP 5 ?_ ?_ <;> first | exact ⟨⟩ | refine Hb.mk fun hb => ?_ | skip)
    all_goals (refine Gg ?_)
    all_goals (first | (refine WL.pass rfl rfl rfl ?_) | (refine WL.step (ok_nilCheck rfl) rfl rfl rfl ?_))
    all_goals (refine Gg ?_)
    all_goals (first | (refine WL.pass rfl rfl rfl ?_) | (refine Ld ?_))
    all_goals (first | (refine WL.pass rfl rfl rfl ?_) | (refine WL.step (ok_neqPn Tryz.underlying66 rfl rfl) rfl rfl rfl ?_))
    all_goals (refine Go ?_)
    all_goals (refine goP 12 ?_ ?_ <;> first | exact ⟨⟩ | refine Hb.mk fun hb => ?_ | skip)
    all_goals (refine Gg ?_)
    all_goals (first | (refine WL.pass rfl rfl rfl ?_) | (refine WL.step (ok_nilCheck rfl) rfl rfl rfl ?_))
    all_goals (refine Gg ?_)
    all_goals (first | (refine WL.pass rfl rfl rfl ?_) | (refine Ld ?_))
    all_goals (refine Gg ?_)
    all_goals (refine Go ?_)
    all_goals (refine Gs [(2, _)] ?_)
    all_goals (refine Gt ?_)
    all_goals (exact ⟨rfl, rfl⟩)
end
end Go.Proofs.YtdjjpbbhcidaaaaGreatDoor


/-
  VALUES OF INTERFACE TYPES: made, and held against nil. No program is named here.
-/
namespace Go.RK
open Go

section
variable {P : Program} {f : Fr} {h : Heap} {d : Option Tmp} {ty : TypeId} {pos : String} {af : Array Edge} {g : Option (Nat × Bool)}
theorem ok_mkIface {x : Operand} {t : TypeId} {v : Value} (hu : ∃ u, P.underlying t = some u ∧ ∀ ms, u ≠ .interface ms) (hx : f.ev x = some v) : OkP P f ⟨d, .makeInterface t x, ty, pos, af, g⟩ h (.iface t v) := fun ρ w ha _ => by
  obtain ⟨u, h1, h2⟩ := hu
  have key : (Instr.makeInterface t v).run P w = .ok (.iface t v) w := by
    simp only [Instr.makeInterface, Sem.run_bind, run_underlying h1, Result.andThen_ok]
    cases u <;> first | rfl | exact absurd rfl (h2 _)
  simp [execOp, ha _ _ hx, key]
end
end Go.RK

/-
  SESSIONS (layer 30), alone: a Sync where nothing goes on; the bytes of what is said.
-/
namespace Go.Proofs.YtdjjpbbhcidaaaaGreatDoor
open Go Go.RK

theorem mp_no {h : Heap} {m b : Nat} {L : List (List UInt8 × Value)} {cs : Array Value} {T : TypeId} {z : Nat × Nat} (hm : Mp .string St h m L) (hb : h[b]? = some (.cells cs T z)) : ¬ b = m := fun e => by
  subst e
  obtain ⟨_, _, e, _⟩ := hm
  rw [hb] at e
  cases e
/-- A session at bs that nobody has asked anything. -/
structure SeS (h : Heap) (bs bp mp : Nat) : Prop where
  blk : ∃ m e, h[bs]? = some (.cells ⟨[m, .pointer (some ⟨bp, 0, none⟩), .pointer (some e), .int .u8 73, .bool false, .bool false]⟩ 109 (0, 0))
  pb : h[bp]? = some (.cells ⟨[.map (some mp)]⟩ 234 (0, 0))
  pm : Mp .string St h mp ([] : List (List UInt8 × Value))
theorem SeS.ext {h h' : Heap} {bs bp mp : Nat} {S : Nat → Prop} (k : SeS h bs bp mp) (x : Ext S h h') (h1 : ¬ S bs) (h2 : ¬ S bp) (h3 : ¬ S mp) : SeS h' bs bp mp := by
  obtain ⟨⟨m, e, hb⟩, h4, h5⟩ := k
  exact ⟨⟨m, e, x.obj hb h1⟩, x.obj h4 h2, h5.ext x h3⟩
theorem SeS.ext0 {h h' : Heap} {bs bp mp : Nat} (k : SeS h bs bp mp) (x : Ext No h h') : SeS h' bs bp mp := k.ext x nos nos nos
section
variable {h h' : Heap} {bs bp mp : Nat}
set_option maxHeartbeats 2000000 in
set_option maxRecDepth 100000 in
theorem syncS (k : SeS h bs bp mp) : CallsH Tryz.prog 61 ⟨[.pointer (some ⟨bs, 0, none⟩)]⟩ h fun u h' => u = .agg ⟨(gB 90 73 0 0).cells⟩ ∧ SeS h' bs bp mp ∧ Ext (fun q => q = mp) h h' := by
  obtain ⟨⟨m, e, hb⟩, hpb, hpm⟩ := id k
  have n1 := mp_no hpm hb
  have n2 := mp_no hpm hpb
  refine calls [(0, _)] Tryz.func61 rfl Tryz.ntmps61 rfl ⟨rfl, trivial⟩ ?_
  all_goals (refine WC.sr ?_)
  all_goals (refine WL.stepR (okE_alloc (fun w => Tryz.zeroValue92 w)) rfl rfl rfl ?_
             rintro _ h1 ⟨b2, rfl, hg1, hb2, hx1⟩
             have hb1 := hx1.obj hb nos)
  all_goals (refine Gn ?_)
  all_goals (refine WC.seq ?_)
  all_goals (refine WC.sr ?_)
  all_goals (refine Go ?_)
  all_goals (refine WL.step (ok_nilCheck rfl) rfl rfl rfl ?_)
  all_goals (refine Go ?_)
  all_goals (refine WL.ld rfl (by first | exact cell_blk hb1 rfl | assumption | exact cell_blk (by assumption) rfl) rfl rfl rfl ?_)
  all_goals (refine Go ?_)
  all_goals (refine Gs [(0, _), (2, _), (7, _)] ?_)
  all_goals (refine goC 1 2 ?_ ?_ <;> first | exact ⟨⟩ | refine Hb.mk fun hb => ?_ | skip)
  all_goals (first | (fail_if_success refine goB 1 ?_) | (
  refine goB 1 ?_
  all_goals (refine WC.region ?_)
  all_goals (refine Go ?_)
  all_goals (refine WL.step (ok_nilCheck rfl) rfl rfl rfl ?_)
  all_goals (refine Go ?_)
  all_goals (refine WL.ld rfl (by first | exact cell_blk hb1 rfl | assumption | exact cell_blk (by assumption) rfl) rfl rfl rfl ?_)
  all_goals (refine WL.call (vs := [_]) rfl (fun a w => Tryz.call104 a w) rfl (clear_e (hx1.obj hpb nos) (hpm.ext hx1 nos)) rfl rfl rfl ?_
             rintro _ h2 ⟨rfl, hm2, hx2⟩
             have hb22 := hx2.obj hb1 n1
             have hb23 := hx2.obj hb2 (mp_no (hpm.ext hx1 nos) hb2))
  all_goals (refine Gn ?_)
  skip))
  all_goals (first | (fail_if_success refine goB 2 ?_) | (
  refine goB 2 ?_
  all_goals (refine WC.skip ?_)
  skip))
  all_goals (refine Gn ?_)
  all_goals (refine WC.sr ?_)
  all_goals (refine Go ?_)
  all_goals (refine WL.step (ok_nilCheck rfl) rfl rfl rfl ?_)
  all_goals (refine Go ?_)
  all_goals (refine WL.ld rfl (by first | exact cell_blk hb22 rfl | assumption | exact cell_blk (by assumption) rfl) rfl rfl rfl ?_)
  all_goals (refine WL.step (ok_buildF (vs := [_, _]) (cs := [_, _, _, _, _, _, _, _, _, _, _]) (fun | [a0, a1] => [a0, a1, (St []), (St []), (St []), (.int .i64 0), (.int .i64 0), (.slice none 0 0), (.slice none 0 0), (.slice none 0 0), (.slice none 0 0)] | _ => []) rfl rfl (by kernel_rfl)) rfl rfl rfl ?_)
  all_goals (refine WL.stepR0 (okE_storeW (fun w => Tryz.sizeOf92 w) rfl rfl rfl hb23 rfl (by simp [Value.oneCell'])) rfl rfl ?_
             rintro _ h3 ⟨hb3, hx3⟩
             have lb := lt_of_some hb
             have lp := lt_of_some hpb)
  all_goals (refine Gn ?_)
  all_goals (refine Gs [(2, _)] ?_)
  all_goals (refine WC.ret ?_)
  all_goals (repeat' (with_reducible first | refine thenP_r ?_ | refine blockP_r ?_))
  all_goals (refine retP_1 _ ⟨⟨_, rfl, ld_blk (fun w => Tryz.isAgg92 w) (fun w => Tryz.sizeOf92 w) hb3 rfl⟩, trivial⟩ ?_)
  all_goals (exact ⟨rfl, ⟨⟨m, e, hx3.obj hb22 (fun e => by omega)⟩, hx3.obj (hx2.obj (hx1.obj hpb nos) n2) (fun e => by omega), hm2.ext hx3 (fun e => mp_no hm2 hb23 e.symm)⟩, ((hx1.mono fun _ _ e => e.elim).trans hx2).trans' hx3 (fun q hq e => by omega)⟩)
theorem readyS (k : SeS h bs bp mp) : CallsH Tryz.prog 60 ⟨[.pointer (some ⟨bs, 0, none⟩)]⟩ h fun u h' => u = .bool true ∧ h' = h := by
  obtain ⟨⟨m, e, hb⟩, _, _⟩ := id k
  exact ready_yes hb
set_option maxHeartbeats 2000000 in
set_option maxRecDepth 100000 in
theorem doS (k : SeS h bs bp mp) : CallsH Tryz.prog 28 ⟨[.pointer (some ⟨bs, 0, none⟩), .agg ⟨syC⟩]⟩ h fun u h' => ∃ q, u = .slice (some ⟨q, 0, none⟩) 1 1 ∧ h'[q]? = some (.cells ⟨(gB 90 73 0 0).cells⟩ 92 (0, 0)) ∧ SeS h' bs bp mp ∧ Ext (fun q => q = bs ∨ q = mp) h h' ∧ h.size ≤ q := by
  have kr := fun (g : Heap) (k : SeS g bs bp mp) => readyS k
  have ks := fun (g : Heap) (k : SeS g bs bp mp) => syncS k
  obtain ⟨⟨m, e, hb⟩, hpb, hpm⟩ := id k
  have n1 := mp_no hpm hb
  have nbp : bp ≠ bs := fun e => by rw [e, hb] at hpb; simp at hpb
  dsimp only [Bk.cells, gB] at ks ⊢
  refine calls [(0, _), (1, _)] Tryz.func28 rfl Tryz.ntmps28 rfl ⟨rfl, rfl, trivial⟩ ?_
  all_goals (refine WC.sr ?_)
  all_goals (refine WL.stepR (okE_box rfl) rfl rfl rfl ?_
             rintro _ h1 ⟨b3, rfl, hg1, hb1, hx1⟩
             have hbs1 := hx1.obj hb nos)
  all_goals (refine Go ?_)
  all_goals (refine WC.seq ?_)
  all_goals (refine WC.sr ?_)
  all_goals (refine Go ?_)
  all_goals (refine WL.call (vs := [_]) rfl (fun a w => Tryz.call60 a w) rfl (kr _ (k.ext0 hx1)) rfl rfl rfl ?_
             rintro _ hq ⟨rfl, hz⟩
             replace hz := hz.symm
             subst hz)
  all_goals (refine Go ?_)
  all_goals (refine Gs [(0, _), (3, _), (10, _)] ?_)
  all_goals (refine goC 1 2 ?_ ?_ <;> first | exact ⟨⟩ | refine Hb.mk fun hb => ?_ | skip)
  all_goals (first | (fail_if_success refine goB 1 ?_) | (
  refine goB 1 ?_
  all_goals (refine WC.sr ?_)
  all_goals (refine Go ?_)
  all_goals (refine Gt ?_)
  all_goals (exact ⟨b4, rfl, hb4, k3.ext0 hx4, (((hx1.mono fun _ _ e => e.elim).trans (hx2.mono fun _ _ e => .inl e)).trans (hx3.mono fun _ _ e => .inr e)).trans (hx4.mono fun _ _ e => e.elim), by have := hx1.size; have := hx2.size; have := hx3.size; omega⟩)
  skip))
  all_goals (first | (fail_if_success refine goB 2 ?_) | (
  refine goB 2 ?_
  all_goals (refine WC.skip ?_)
  skip))
  all_goals (refine Gn ?_)
  all_goals (refine WC.seq ?_)
  all_goals (refine WC.block ?_)
  all_goals (refine WC.sr ?_)
  all_goals (refine Go ?_)
  all_goals (refine WL.ld rfl (by first | exact cell_blk hb1 rfl | assumption | exact cell_blk (by assumption) rfl) rfl rfl rfl ?_)
  all_goals (refine Go ?_)
  all_goals (refine Gs [(0, _), (3, _), (11, _)] ?_)
  all_goals (refine goC 3 4 ?_ ?_ <;> first | exact ⟨⟩ | refine Hb.mk fun hb => ?_ | skip)
  all_goals (first | (fail_if_success refine goB 3 ?_) | (
  refine goB 3 ?_
  all_goals (refine WC.sr ?_)
  all_goals (refine Go ?_)
  all_goals (refine WL.step (ok_nilCheck rfl) rfl rfl rfl ?_)
  all_goals (refine Go ?_)
  all_goals (refine WL.stepR0 (okE_store (fun w => Tryz.sizeOf4 w) rfl rfl (by assumption) (Nat.le_of_ble_eq_true rfl) rfl rfl) rfl rfl ?_
             rintro _ h1 ⟨hb1, hx1⟩)
  all_goals (refine Gn ?_)
  all_goals (refine Gs [] ?_)
  all_goals (refine WC.sr ?_)
  all_goals (refine Go ?_)
  all_goals (refine Gt ?_)
  all_goals (exact ⟨b4, rfl, hb4, k3.ext0 hx4, (((hx1.mono fun _ _ e => e.elim).trans (hx2.mono fun _ _ e => .inl e)).trans (hx3.mono fun _ _ e => .inr e)).trans (hx4.mono fun _ _ e => e.elim), by have := hx1.size; have := hx2.size; have := hx3.size; omega⟩)
  skip))
  all_goals (first | (fail_if_success refine goB 4 ?_) | (
  refine goB 4 ?_
  all_goals (refine WC.sr ?_)
  all_goals (refine Go ?_)
  all_goals (refine WL.ld rfl (by first | exact cell_blk hb1 rfl | assumption | exact cell_blk (by assumption) rfl) rfl rfl rfl ?_)
  all_goals (refine Go ?_)
  all_goals (refine Gs [(0, _), (3, _), (18, _)] ?_)
  all_goals (refine goC 5 6 ?_ ?_ <;> first | exact ⟨⟩ | refine Hb.mk fun hb => ?_ | skip)
  all_goals (first | (fail_if_success refine goB 5 ?_) | (
  refine goB 5 ?_
  all_goals (refine WC.sr ?_)
  all_goals (refine Go ?_)
  all_goals (refine WL.step (ok_nilCheck rfl) rfl rfl rfl ?_)
  all_goals (refine Go ?_)
  all_goals (refine WL.stepR0 (okE_store (fun w => Tryz.sizeOf4 w) rfl rfl hbs1 (Nat.le_of_ble_eq_true rfl) rfl rfl) rfl rfl ?_
             rintro _ h2 ⟨hb2, hx2⟩
             have k2 : SeS h2 bs bp mp := ⟨⟨m, e, hb2⟩, hx2.obj (hx1.obj hpb nos) nbp, (hpm.ext hx1 nos).ext hx2 (fun e => n1 e.symm)⟩)
  all_goals (refine Gn ?_)
  all_goals (refine Gs [(0, _)] ?_)
  all_goals (refine WC.sr ?_)
  all_goals (refine Go ?_)
  all_goals (refine WL.call (vs := [_]) rfl (fun a w => Tryz.call61 a w) rfl (ks _ k2) rfl rfl rfl ?_
             rintro _ h3 ⟨rfl, k3, hx3⟩)
  all_goals (refine WL.stepR (okE_buildSlice (vs := [_]) (cs := [_, _, _, _, _, _, _, _, _, _, _]) (fun | [.agg ⟨[a0, a1, a2, a3, a4, a5, a6, a7, a8, a9, a10]⟩] => [a0, a1, a2, a3, a4, a5, a6, a7, a8, a9, a10] | _ => []) Tryz.underlying62 rfl rfl (by kernel_rfl)) rfl rfl rfl ?_
             rintro _ h4 ⟨b4, rfl, hg4, hb4, hx4⟩)
  all_goals (refine Go ?_)
  all_goals (refine Gs [(4, _)] ?_)
  all_goals (refine Gt ?_)
  all_goals (exact ⟨b4, rfl, hb4, k3.ext0 hx4, (((hx1.mono fun _ _ e => e.elim).trans (hx2.mono fun _ _ e => .inl e)).trans (hx3.mono fun _ _ e => .inr e)).trans (hx4.mono fun _ _ e => e.elim), by have := hx1.size; have := hx2.size; have := hx3.size; omega⟩)
  skip))
  all_goals (first | (fail_if_success refine goB 6 ?_) | (
  refine goB 6 ?_
  all_goals (refine WC.sr ?_)
  all_goals (refine Go ?_)
  all_goals (refine WL.step (ok_nilCheck rfl) rfl rfl rfl ?_)
  all_goals (refine Go ?_)
  all_goals (refine Ld ?_)
  all_goals (refine Go ?_)
  all_goals (refine Gs [(0, _), (3, _), (28, _)] ?_)
  all_goals (refine goC 7 8 ?_ ?_ <;> first | exact ⟨⟩ | refine Hb.mk fun hb => ?_ | skip)
  all_goals (first | (fail_if_success refine goB 7 ?_) | (
  refine goB 7 ?_
  all_goals (refine WC.sr ?_)
  all_goals (refine Go ?_)
  all_goals (refine Gt ?_)
  all_goals (exact ⟨b4, rfl, hb4, k3.ext0 hx4, (((hx1.mono fun _ _ e => e.elim).trans (hx2.mono fun _ _ e => .inl e)).trans (hx3.mono fun _ _ e => .inr e)).trans (hx4.mono fun _ _ e => e.elim), by have := hx1.size; have := hx2.size; have := hx3.size; omega⟩)
  skip))
  all_goals (first | (fail_if_success refine goB 8 ?_) | (
  refine goB 8 ?_
  all_goals (refine WC.skip ?_)
  skip))
  skip))
  skip))
  all_goals (refine Gn ?_)
  all_goals (refine WC.sr ?_)
  all_goals (refine Go ?_)
  all_goals (refine WL.step (ok_loadN (fun w => Tryz.isAgg34 w) (fun w => Tryz.sizeOf34 w) rfl rfl (by assumption)) rfl rfl rfl ?_)
  all_goals (fail "no contract for call of (*remuda/sess.Session).deal at 11.2")
  all_goals (refine Go ?_)
  all_goals (refine Gs [(0, _), (3, _), (5, _), (6, _)] ?_)
  all_goals (refine WC.sr ?_)
  all_goals (refine WL.stepR (okE_alloc (fun w => Tryz.zeroValue116 w)) rfl rfl rfl ?_
             rintro _ h1 ⟨b1, rfl, hg1, hb1, hx1⟩)
  all_goals (refine Gn ?_)
  all_goals (refine WC.seq ?_)
  all_goals (refine WC.sr ?_)
  all_goals (refine Go ?_)
  all_goals (refine WL.step (ok_mkIface ⟨_, Tryz.underlying118, fun _ h => by cases h⟩ rfl) rfl rfl rfl ?_)
  all_goals (fail "no contract for call of errors.As at 13.2")
  all_goals (refine Gn ?_)
  all_goals (refine goC 9 10 ?_ ?_ <;> first | exact ⟨⟩ | refine Hb.mk fun hb => ?_ | skip)
  all_goals (first | (fail_if_success refine goB 10 ?_) | (
  refine goB 10 ?_
  all_goals (refine WC.skip ?_)
  skip))
  all_goals (refine Gn ?_)
  all_goals (refine WC.seq ?_)
  all_goals (refine WC.sr ?_)
  all_goals (refine Go ?_)
  all_goals (refine Ld ?_)
  all_goals (refine Go ?_)
  all_goals (refine Gs [(0, _), (5, _), (56, _)] ?_)
  all_goals (refine goC 11 12 ?_ ?_ <;> first | exact ⟨⟩ | refine Hb.mk fun hb => ?_ | skip)
  all_goals (first | (fail_if_success refine goB 12 ?_) | (
  refine goB 12 ?_
  all_goals (refine WC.skip ?_)
  skip))
  all_goals (refine Gn ?_)
  all_goals (refine WC.sr ?_)
  all_goals (refine Go ?_)
  all_goals (refine Gs [(4, _)] ?_)
  all_goals (refine Gt ?_)
  all_goals (exact ⟨b4, rfl, hb4, k3.ext0 hx4, (((hx1.mono fun _ _ e => e.elim).trans (hx2.mono fun _ _ e => .inl e)).trans (hx3.mono fun _ _ e => .inr e)).trans (hx4.mono fun _ _ e => e.elim), by have := hx1.size; have := hx2.size; have := hx3.size; omega⟩)
end
/-- Bytes of messages. -/
def EncB (k : Int) (E : List UInt8) (g : Heap) (u : Value) (g' : Heap) : Prop := ∃ v', u = .tuple ⟨[.agg ⟨[.int .u8 k, v']⟩, In 0]⟩ ∧ Own g' v' 5 1 E.length (bys E) ∧ Ext No g g'
set_option maxHeartbeats 2000000 in
set_option maxRecDepth 100000 in
theorem bytes_v {h : Heap} {v : Value} (L : List Bk) (E : Bk → List UInt8) (hv : Rd h v 11 L.length (L.flatMap Bk.cells)) (hm : L.length ≤ 100) (hE : ∀ y ∈ L, (E y).length ≤ 1000) (hk : ∀ y ∈ L, 0 < y.kind ∧ y.kind ≤ 255) (hone : ∀ y ∈ L, ∀ v ∈ y.cells, v.oneCell' = true)
    (hke : ∀ y ∈ L, ∀ g : Heap, CallsH Tryz.prog 59 ⟨[.agg ⟨y.cells⟩]⟩ g (EncB y.kind (E y) g)) :
    CallsH Tryz.prog 40 ⟨[v]⟩ h fun u h' => Own h' u 5 1 (L.flatMap fun y => frB y.kind (E y)).length (bys (L.flatMap fun y => frB y.kind (E y))) ∧ Ext No h h' ∧ ∀ k, u.ownBlock = some k → h.size ≤ k := by
  have hfl : ∀ y, (frB y.kind (E y)).length = 5 + (E y).length := fun y => by simp [frB, be_len]; omega
  have hlen : ∀ j, ((L.take j).flatMap fun y => frB y.kind (E y)).length ≤ L.length * 1005 := fun j => by
    have : ∀ l : List Bk, (∀ y ∈ l, y ∈ L) → (l.flatMap fun y => frB y.kind (E y)).length ≤ l.length * 1005 := fun l => by
      induction l with
      | nil => simp
      | cons a l ih => intro hl; rw [List.flatMap_cons, List.length_append, hfl, List.length_cons]; have := ih (fun y hy => hl y (by simp [hy])); have := hE a (hl a (by simp)); omega
    refine Nat.le_trans (this _ fun y hy => List.mem_of_mem_take hy) (Nat.mul_le_mul_right _ (by rw [List.length_take]; omega))
  obtain ⟨A, c, rfl, _⟩ := id hv
  refine calls [(0, _)] Tryz.func40 rfl Tryz.ntmps40 rfl ⟨rfl, trivial⟩ ?_
  all_goals (refine WC.sr ?_)
  all_goals (refine Go ?_)
  all_goals (refine WC.sr ?_)
  all_goals (refine Go ?_)
  all_goals (refine WC.seq ?_)
  all_goals (refine WC.sr ?_)
  all_goals (refine Go ?_)
  all_goals (refine WC.block ?_)
  -- loop 0: slots that turn [3, 10], that stay [8, 9]
  all_goals (refine WC.loopG (X := Nat × Value) (fun x => ([(10, In (x.1 : Int)), (3, x.2)] : Fr)) [(8, _), (9, _)] (fun y h' => y.1 ≤ L.length ∧ Ext No h h' ∧ Own h' y.2 5 1 ((L.take y.1).flatMap fun y => frB y.kind (E y)).length (bys ((L.take y.1).flatMap fun y => frB y.kind (E y))) ∧ ∀ k, y.2.ownBlock = some k → h.size ≤ k) (fun y => L.length - y.1) ((0, .slice none 0 0)) ⟨rfl, rfl, rfl, rfl, trivial⟩ (by exact ⟨Nat.zero_le _, .refl _ _, Own.nil _ _ _, fun q hq => by cases hq⟩) ?_)
  all_goals (rintro ⟨j, w⟩ h1 ⟨hj, hx1, ho1, hf1⟩
             dsimp only at hj ho1 hf1)
  all_goals (refine WC.sub [(3, _), (10, _), (8, _), (9, _)] ⟨rfl, rfl, rfl, rfl, trivial⟩ ?_)
  all_goals (dsimp only)
  all_goals (refine WC.sr ?_)
  all_goals (refine Go ?_)
  all_goals (refine WC.seq ?_)
  all_goals (refine goC 1 2 ?_ ?_ <;> first | exact ⟨⟩ | refine Hb.mk fun hb => ?_ | skip)
  all_goals (first | (fail_if_success refine goB 1 ?_) | (
  refine goB 1 ?_
  all_goals (refine WC.skip ?_)
  skip))
  all_goals (first | (fail_if_success refine goB 2 ?_) | (
  refine goB 2 ?_
  all_goals (refine WC.exit ?_)
  all_goals (repeat' (with_reducible first | refine thenP_x ?_ | refine blockP_miss rfl ?_ | refine blockP_hit ?_ | refine blockP_n ?_ | refine thenP_n ?_))
  all_goals (refine Br.out (i := 1000) ?_)
  skip))
  all_goals (refine Gn ?_)
  all_goals (first | (refine Br.keep ?_) | (refine WC.seq ?_))
  all_goals (first | (refine Br.keep ?_) | (refine WC.block ?_))
  all_goals (first | (refine Br.keep ?_) | (refine WC.sr ?_))
  all_goals (first
               | (refine Br.keep ?_)
               | (obtain ⟨y, hy⟩ : ∃ y, L[j]? = some y := ⟨_, List.getElem?_eq_getElem (by omega)⟩
                  have hmy := List.mem_of_getElem? hy
                  obtain ⟨bL, oL, hA, hbL, hat⟩ := Rd.at_ (hv.ext0 hx1) (by omega)
                  subst hA
                  have hel := hat.elem (sz := 11) (fun _ => rfl) hy
                  have kee := hke y hmy
                  have hlj := hlen j))
  all_goals (first | (refine Br.keep ?_) | (refine WL.step (ok_idxAddrA Tryz.underlying62 (fun w => Tryz.sizeOf92 w) rfl rfl rfl (by omega) (by first | rfl | assumption)) rfl rfl rfl ?_))
  all_goals (first | (refine Br.keep ?_) | (refine WL.step (ok_loadN (fun w => Tryz.isAgg92 w) (fun w => Tryz.sizeOf92 w) rfl rfl (by exact hel)) rfl rfl rfl ?_))
  all_goals (first
               | (refine Br.keep ?_)
               | (refine WL.stepR (okE_alloc (fun w => Tryz.zeroValue92 w)) rfl rfl rfl ?_
                  rintro _ h2 ⟨b5, rfl, hg5, hb5, hx2⟩))
  all_goals (first
               | (refine Br.keep ?_)
               | (refine WL.stepR0 (okE_storeW (fun w => Tryz.sizeOf92 w) rfl rfl rfl hb5 rfl (fun v hv => hone y hmy v hv)) rfl rfl ?_
                  rintro _ h3 ⟨hb53, hx3⟩
                  have X3 : Ext No h1 h3 := hx2.trans' hx3 (fun q hq e => by omega)))
  all_goals (refine Gn ?_)
  all_goals (first | (refine Br.keep ?_) | (refine WC.sr ?_))
  all_goals (first | (refine Br.keep ?_) | (refine WL.step (ok_loadN (fun w => Tryz.isAgg92 w) (fun w => Tryz.sizeOf92 w) rfl rfl (by exact At.of_block hb53)) rfl rfl rfl ?_))
  all_goals (first
               | (refine Br.keep ?_)
               | (refine WL.call (vs := [_]) rfl (fun a w => Tryz.call59 a w) rfl (kee _) rfl rfl rfl ?_
                  rintro _ h4 ⟨v4, rfl, ho4, hx4⟩
                  obtain ⟨A4, c4, rfl, _⟩ := id ho4.slice))
  all_goals (refine Go ?_)
  all_goals (first
               | (refine Br.keep ?_)
               | (refine WL.stepR (okE_alloc (fun w => Tryz.zeroValue38 w)) rfl rfl rfl ?_
                  rintro _ h5 ⟨b6, rfl, hg6, hb6, hx5⟩))
  all_goals (first
               | (refine Br.keep ?_)
               | (refine WL.stepR0 (okE_storeW (fun w => Tryz.sizeOf38 w) rfl rfl rfl hb6 rfl (by simp [Value.oneCell'])) rfl rfl ?_
                  rintro _ h6 ⟨hb66, hx6⟩
                  have hX46 : Ext No h4 h6 := hx5.trans' hx6 (fun q hq e => by omega)
                  have ho46 := ho4.ext hX46 (fun _ _ => nos)))
  all_goals (refine Go ?_)
  all_goals (first | (refine Br.keep ?_) | (refine Gs [(3, _), (6, _), (7, _), (8, _), (9, _), (10, _)] ?_))
  all_goals (first | (refine Br.keep ?_) | (refine WC.seq ?_))
  all_goals (first | (refine Br.keep ?_) | (refine WC.sr ?_))
  all_goals (refine Go ?_)
  all_goals (first | (refine Br.keep ?_) | (refine goC 3 4 ?_ ?_ <;> first | exact ⟨⟩ | refine Hb.mk fun hb => ?_ | skip))
  all_goals (first | (fail_if_success refine goB 3 ?_) | (
  refine goB 3 ?_
  all_goals (refine WC.exit ?_)
  all_goals (repeat' (with_reducible first | refine thenP_x ?_ | refine blockP_miss rfl ?_ | refine blockP_hit ?_ | refine blockP_n ?_ | refine thenP_n ?_))
  all_goals (refine Br.out (i := 1001) ?_)
  skip))
  all_goals (first | (fail_if_success refine goB 4 ?_) | (
  refine goB 4 ?_
  all_goals (refine WC.skip ?_)
  skip))
  all_goals (refine Gn ?_)
  all_goals (first | (refine Br.keep ?_) | (refine WC.region ?_))
  all_goals (refine Go ?_)
  all_goals (first | (refine Br.keep ?_) | (refine WL.step (ok_loadN (fun w => Tryz.isAgg38 w) (fun w => Tryz.sizeOf38 w) rfl rfl (by exact At.of_block hb66)) rfl rfl rfl ?_))
  all_goals (first
               | (refine Br.keep ?_)
               | (refine WL.call (vs := [_]) rfl (fun a w => Tryz.call75 a w) rfl (frame_v y.kind (hk y hmy) (E y) ho46.rd (by have := hE y hmy; omega)) rfl rfl rfl ?_
                  rintro v7 h7 ⟨ho7, hx7⟩
                  obtain ⟨A7, c7, rfl, _⟩ := id ho7.slice
                  have X7 : Ext No h1 h7 := ((X3.trans hx4).trans hX46).trans hx7
                  have hfy := hfl y
                  have hEy := hE y hmy))
  all_goals (first
               | (refine Br.keep ?_)
               | (refine WL.stepR (ok_append (sz := 1) (bytes := 1) rfl Tryz.underlying22 (show Tryz.prog.info? 5 = some Tryz.t5 by kernel_rfl) rfl rfl rfl rfl (by decide) rfl rfl (ho1.ext X7 (fun _ _ => nos)) ho7.rd (by intro c hc; obtain ⟨b, _, rfl⟩ := List.mem_map.1 hc; rfl) (by unfold maxLen; omega) (by omega)) rfl rfl rfl ?_
                  rintro v8 h8 ⟨ho8, hx8, hl8⟩
                  have X8 : Ext No h h8 := (hx1.trans X7).trans' hx8 (fun q hq e => by have := hf1 q e; omega)
                  have hr8 : Own h8 v8 5 1 ((L.take (j + 1)).flatMap fun y => frB y.kind (E y)).length (bys ((L.take (j + 1)).flatMap fun y => frB y.kind (E y))) := by rw [List.take_add_one, hy, List.flatMap_append, List.length_append, bys_app]; simpa using ho8))
  all_goals (refine Go ?_)
  all_goals (try (refine Br.mk (i := 1001) ?_))
  all_goals (refine Gn ?_)
  all_goals (first | (refine Br.keep ?_) | (refine Gs [(3, _), (8, _), (9, _), (10, _)] ?_))
  all_goals (first | (refine Br.keep ?_) | (refine WC.region ?_))
  all_goals (refine Go ?_)
  all_goals (first | (refine Br.keep ?_) | (exact ⟨(j + 1, _), ⟨rfl, rfl, rfl, rfl, trivial⟩, (by exact ⟨by omega, X8, hr8, fresh_of hl8 hf1 (by have := X7.size; have := hx1.size; omega)⟩), (by dsimp only; omega)⟩))
  all_goals (try (refine Br.mk (i := 1000) ?_))
  all_goals (refine Gn ?_)
  all_goals (refine Gs [(3, _)] ?_)
  all_goals (refine WC.sr ?_)
  all_goals (refine Go ?_)
  all_goals (refine Gt ?_)
  all_goals (rw [List.take_of_length_le (by omega)] at ho1
             exact ⟨ho1, hx1, hf1⟩)
end Go.Proofs.YtdjjpbbhcidaaaaGreatDoor


/-
  A CLIENT ALONE (layer 44), by the code: what it is made of.
-/
namespace Go.Proofs.YtdjjpbbhcidaaaaGreatDoor
open Go Go.RK

def encG (y : Bk) : List UInt8 := if y.kind = 82 then be 0 4 else if y.kind = 75 then be 1 4 ++ be 7919 4 else [73]
abbrev greet28 : List UInt8 := greetL.flatMap fun y => frB y.kind (encG y)
abbrev z6 : List UInt8 := frB 90 [73]
theorem encB_of {h : Heap} {k st n m : Int} {L : List UInt8} (hc : First3 k st n m L) : CallsH Tryz.prog 59 ⟨[.agg ⟨(gB k st n m).cells⟩]⟩ h (EncB k L h) :=
  (enc_g hc).mono fun _ _ ⟨v', e, ho, hx, _⟩ => ⟨v', e, ho, hx⟩
theorem encZ {h : Heap} : CallsH Tryz.prog 59 ⟨[.agg ⟨(gB 90 73 0 0).cells⟩]⟩ h (EncB 90 [73] h) := encB_of (.inr (.inr ⟨rfl, rfl, rfl, rfl, rfl⟩))
set_option maxHeartbeats 2000000 in
set_option maxRecDepth 100000 in
theorem greet_bytes {h : Heap} : CallsH Tryz.prog 73 ⟨[.slice none 0 0, In 0]⟩ h fun u h' => Own h' u 5 1 28 (bys greet28) ∧ Ext No h h' ∧ ∀ q, u.ownBlock = some q → h.size ≤ q := by
  have kb := fun (g : Heap) (v : Value) (hv : Rd g v 11 3 greetC) => bytes_v greetL encG (by simpa [greetC] using hv) (by decide) (by decide) (by decide) (by simp [gB, Bk.cells, Value.oneCell']) (fun y hy g => by
    simp only [List.mem_cons, List.not_mem_nil, or_false] at hy
    rcases hy with rfl | rfl | rfl
    · exact encB_of (.inl ⟨rfl, rfl, rfl, rfl, rfl⟩)
    · exact encB_of (.inr (.inl ⟨rfl, rfl, rfl, rfl, rfl⟩))
    · exact encB_of (.inr (.inr ⟨rfl, rfl, rfl, rfl, rfl⟩)))
  refine calls [(0, _), (1, _)] Tryz.func73 rfl Tryz.ntmps73 rfl ⟨rfl, rfl, trivial⟩ ?_
  all_goals (refine WC.sr ?_)
  all_goals (refine Go ?_)
  all_goals (refine WC.sr ?_)
  all_goals (refine Go ?_)
  all_goals (refine WL.call (vs := [_, _]) rfl (fun a w => Tryz.call52 a w) rfl (backs0) rfl rfl rfl ?_
             rintro v1 h1 ⟨ho1, hx1, hf1⟩
             obtain ⟨A1, c1, rfl, _⟩ := id ho1.slice)
  all_goals (refine WL.call (vs := [_]) rfl (fun a w => Tryz.call40 a w) rfl (kb _ _ ho1.rd) rfl rfl rfl ?_
             rintro v2 h2 ⟨ho2, hx2, hf2⟩)
  all_goals (refine Go ?_)
  all_goals (refine Gs [(4, _)] ?_)
  all_goals (refine Gt ?_)
  all_goals (exact ⟨ho2, hx1.trans hx2, fun q hq => by have := hf2 q hq; have := hx1.size; omega⟩)
theorem z_bytes {h : Heap} {q : Nat} (hq : h[q]? = some (.cells ⟨(gB 90 73 0 0).cells⟩ 92 (0, 0))) : CallsH Tryz.prog 40 ⟨[.slice (some ⟨q, 0, none⟩) 1 1]⟩ h fun u h' => Own h' u 5 1 6 (bys z6) ∧ Ext No h h' ∧ ∀ q, u.ownBlock = some q → h.size ≤ q := by
  exact bytes_v [gB 90 73 0 0] encG (by simpa using rd_blk (len := 1) (sz := 11) hq rfl) (by decide) (by decide) (by decide) (by simp [gB, Bk.cells, Value.oneCell']) (fun y hy g => by
    simp only [List.mem_cons, List.not_mem_nil, or_false] at hy
    subst hy
    exact encZ)
theorem own_kindV {h : Heap} {v : Value} {e : TypeId} {sz n b : Nat} {xs : List Value} (ho : Own h v e sz n xs) (hb : v.ownBlock = some b) : ∃ cs, h[b]? = some (.cells cs e (0, 0)) := by
  obtain ⟨_, ⟨rfl, _⟩ | ⟨g, cap, cur, rfl, hg, _⟩⟩ := ho
  · cases hb
  · simp only [Value.ownBlock, Option.some.injEq] at hb
    subst hb
    exact ⟨_, hg⟩
def soC (cb bs : Nat) (out : Value) (dn : Int) : List Value := [.pointer (some ⟨cb, 0, none⟩), .pointer (some ⟨bs, 0, none⟩), .slice none 0 0, In 0, out, In dn, .bool false]
theorem ty_ne {h : Heap} {a b : Nat} {c d : Array Value} {T U : TypeId} {y z : Nat × Nat} (ha : h[a]? = some (.cells c T y)) (hb : h[b]? = some (.cells d U z)) (hT : T ≠ U) : a ≠ b := fun e => by
  subst e
  rw [ha] at hb
  simp only [Option.some.injEq, Obj.cells.injEq] at hb
  exact hT hb.2.1
/-- A client alone; what it is made of is no block of N, and blocks of N stay as they were in g. -/
structure So (N : Nat → Prop) (g h : Heap) (b cb fb bs bp mp : Nat) (out : Value) (ob : List UInt8) (dn : Int) (bg : Bool) (v : Value) (l : List UInt8) : Prop where
  blk : h[b]? = some (.cells ⟨soC cb bs out dn⟩ 51 (0, 0))
  own : Own h out 5 1 ob.length (bys ob)
  cl : ClB h cb fb bg
  fw : Fw h fb bg v l
  se : SeS h bs bp mp
  nl : ∀ q, N q → q < g.size
  lo : ¬ N b ∧ ¬ N cb ∧ ¬ N fb ∧ ¬ N bs ∧ ¬ N mp
  lr : (∀ q, out.ownBlock = some q → ¬ N q) ∧ ∀ q, v.ownBlock = some q → ¬ N q
  ap : ∀ q, out.ownBlock = some q → v.ownBlock ≠ some q
  ext : Ext (fun q => ¬ N q) g h
section
variable {N N' : Nat → Prop} {g h h' : Heap} {b cb fb bs bp mp : Nat} {out out' v v' : Value} {ob ob' l l' : List UInt8} {dn dn' : Int} {bg bg' : Bool} {S : Nat → Prop}
theorem So.ext0 (k : So N g h b cb fb bs bp mp out ob dn bg v l) (x : Ext No h h') : So N g h' b cb fb bs bp mp out ob dn bg v l :=
  ⟨x.obj k.blk nos, k.own.ext x (fun _ _ => nos), x.obj k.cl nos, k.fw.ext0 x, k.se.ext0 x, k.nl, k.lo, k.lr, k.ap, k.ext.trans (x.mono fun _ _ e => e.elim)⟩
/-- The client's part turned. -/
theorem So.clT (k : So N g h b cb fb bs bp mp out ob dn bg v l) (c : ClB h' cb fb bg') (f : Fw h' fb bg' v' l') (x : Ext (fun q => q = cb ∨ q = fb ∨ v.ownBlock = some q) h h') (hv : ∀ q, v'.ownBlock = some q → v.ownBlock = some q ∨ h.size ≤ q) : So N g h' b cb fb bs bp mp out ob dn bg' v' l' := by
  obtain ⟨kb, ko, kc, kf, ks, nl, ⟨l1, l2, l3, l4, l5⟩, ⟨l6, l7⟩, ka, ke⟩ := k
  have kc' := kc
  unfold ClB at kc'
  have kfb := kf.blk
  obtain ⟨⟨m, e, s1⟩, s2, s3⟩ := id ks
  have nv : ∀ {q : Nat} {cs : Array Value} {T : TypeId}, T ≠ 5 → h[q]? = some (.cells cs T (0, 0)) → v.ownBlock ≠ some q := fun hT hq => own_ne kf.own hq hT
  have hs := ke.size
  have hvm : v.ownBlock ≠ some mp := fun e => by
    obtain ⟨_, z⟩ := own_kindV kf.own e
    exact mp_no s3 z rfl
  refine ⟨x.obj kb (fun e => ?_), ko.ext x (fun q hq e => ?_), c, f, ks.ext x (fun e => ?_) (fun e => ?_) (fun e => ?_), nl, ⟨l1, l2, l3, l4, l5⟩, ⟨l6, fun q hq => (hv q hq).elim (l7 q) (fun e hN => by have := nl q hN; omega)⟩, fun q hq e => ?_, ke.trans' x (fun q hq e => ?_)⟩
  · rcases e with e | e | e
    · exact ty_ne kb kc' (by decide) e
    · exact ty_ne kb kfb (by decide) e
    · exact nv (by decide) kb e
  · rcases e with e | e | e
    · exact own_ne ko kc' (by decide) (e ▸ hq)
    · exact own_ne ko kfb (by decide) (e ▸ hq)
    · exact ka q hq e
  · rcases e with e | e | e
    · exact ty_ne s1 kc' (by decide) e
    · exact ty_ne s1 kfb (by decide) e
    · exact nv (by decide) s1 e
  · rcases e with e | e | e
    · exact ty_ne s2 kc' (by decide) e
    · exact ty_ne s2 kfb (by decide) e
    · exact nv (by decide) s2 e
  · rcases e with e | e | e
    · exact mp_no s3 kc' e.symm
    · exact mp_no s3 kfb e.symm
    · exact hvm e
  · rcases hv q e with e | e
    · exact ka q hq e
    · have := ko.lt hq; omega
  · rcases e with e | e | e
    · exact e ▸ l2
    · exact e ▸ l3
    · exact l7 q e
/-- The session turned. -/
theorem So.seT (k : So N g h b cb fb bs bp mp out ob dn bg v l) (s : SeS h' bs bp mp) (x : Ext (fun q => q = bs ∨ q = mp) h h') : So N g h' b cb fb bs bp mp out ob dn bg v l := by
  obtain ⟨kb, ko, kc, kf, ks, nl, ⟨l1, l2, l3, l4, l5⟩, ⟨l6, l7⟩, ka, ke⟩ := k
  have kc' := kc
  unfold ClB at kc'
  obtain ⟨⟨m, e, s1⟩, s2, s3⟩ := id ks
  have hs := ke.size
  have no : ∀ {q : Nat} {cs : Array Value} {T : TypeId}, T ≠ 109 → h[q]? = some (.cells cs T (0, 0)) → ¬ (q = bs ∨ q = mp) := fun hT hq e => e.elim (fun e => ty_ne hq s1 hT e) (fun e => mp_no s3 hq e)
  have nr : ∀ {w : Value} {n : Nat} {xs : List Value}, Own h w 5 1 n xs → ∀ q, w.ownBlock = some q → ¬ (q = bs ∨ q = mp) := fun ho q hq => by
    obtain ⟨_, z⟩ := own_kindV ho hq
    exact no (by decide) z
  exact ⟨x.obj kb (no (by decide) kb), ko.ext x (nr ko), x.obj kc' (no (by decide) kc'), kf.ext x (no (by decide) kf.blk) (nr kf.own), s, nl, ⟨l1, l2, l3, l4, l5⟩, ⟨l6, l7⟩, ka, ke.trans' x (fun q hq e => by rcases e with e | e; exact e ▸ l4; exact e ▸ l5)⟩
/-- What is to go out turned. -/
theorem So.outT (k : So N g h b cb fb bs bp mp out ob dn bg v l) (hb : h'[b]? = some (.cells ⟨soC cb bs out' dn'⟩ 51 (0, 0))) (ho : Own h' out' 5 1 ob'.length (bys ob')) (x : Ext (fun q => q = b ∨ out.ownBlock = some q) h h') (hv : ∀ q, out'.ownBlock = some q → out.ownBlock = some q ∨ h.size ≤ q) : So N g h' b cb fb bs bp mp out' ob' dn' bg v l := by
  obtain ⟨kb, ko, kc, kf, ks, nl, ⟨l1, l2, l3, l4, l5⟩, ⟨l6, l7⟩, ka, ke⟩ := k
  have kc' := kc
  unfold ClB at kc'
  obtain ⟨⟨m, e, s1⟩, s2, s3⟩ := id ks
  have hs := ke.size
  have no : ∀ {q : Nat} {cs : Array Value} {T : TypeId}, T ≠ 51 → T ≠ 5 → h[q]? = some (.cells cs T (0, 0)) → ¬ (q = b ∨ out.ownBlock = some q) := fun hT hU hq e => e.elim (fun e => ty_ne hq kb hT e) (fun e => own_ne ko hq hU e)
  refine ⟨hb, ho, x.obj kc' (no (by decide) (by decide) kc'), kf.ext x (no (by decide) (by decide) kf.blk) (fun q hq e => ?_), ks.ext x (no (by decide) (by decide) s1) (no (by decide) (by decide) s2) (fun e => ?_), nl, ⟨l1, l2, l3, l4, l5⟩, ⟨fun q hq => (hv q hq).elim (l6 q) (fun e hN => by have := nl q hN; omega), l7⟩, fun q hq e => ?_, ke.trans' x (fun q hq e => ?_)⟩
  · rcases e with e | e
    · exact own_ne kf.own kb (by decide) (e ▸ hq)
    · exact ka q e hq
  · rcases e with e | e
    · exact mp_no s3 kb e.symm
    · obtain ⟨_, z⟩ := own_kindV ko e
      exact mp_no s3 z rfl
  · rcases hv q hq with z | z
    · exact ka q z e
    · have := kf.own.lt e; omega
  · rcases e with e | e
    · exact e ▸ l1
    · exact l6 q e
/-- Other blocks are told. -/
theorem So.re (k : So N g h b cb fb bs bp mp out ob dn bg v l) (nl : ∀ q, N' q → q < h.size) (hn : ∀ q, N' q → q = b ∨ q = cb ∨ q = fb ∨ q = bs ∨ q = mp ∨ out.ownBlock = some q ∨ v.ownBlock = some q → False) : So N' h h b cb fb bs bp mp out ob dn bg v l :=
  ⟨k.blk, k.own, k.cl, k.fw, k.se, nl, ⟨fun e => hn _ e (.inl rfl), fun e => hn _ e (.inr (.inl rfl)), fun e => hn _ e (.inr (.inr (.inl rfl))), fun e => hn _ e (.inr (.inr (.inr (.inl rfl)))), fun e => hn _ e (.inr (.inr (.inr (.inr (.inl rfl)))))⟩, ⟨fun q hq e => hn q e (.inr (.inr (.inr (.inr (.inr (.inl hq)))))), fun q hq e => hn q e (.inr (.inr (.inr (.inr (.inr (.inr hq))))))⟩, k.ap, .refl _ _⟩
theorem So.back (k : So N' h h' b cb fb bs bp mp out ob dn bg v l) (x : Ext (fun q => ¬ N q) g h) (nl : ∀ q, N q → q < g.size) (hn : ∀ q, N q → N' q) : So N g h' b cb fb bs bp mp out ob dn bg v l :=
  ⟨k.blk, k.own, k.cl, k.fw, k.se, nl, ⟨fun e => k.lo.1 (hn _ e), fun e => k.lo.2.1 (hn _ e), fun e => k.lo.2.2.1 (hn _ e), fun e => k.lo.2.2.2.1 (hn _ e), fun e => k.lo.2.2.2.2 (hn _ e)⟩, ⟨fun q hq e => k.lr.1 q hq (hn _ e), fun q hq e => k.lr.2 q hq (hn _ e)⟩, k.ap, x.trans (k.ext.mono fun _ _ e z => e (hn _ z))⟩
end
end Go.Proofs.YtdjjpbbhcidaaaaGreatDoor


