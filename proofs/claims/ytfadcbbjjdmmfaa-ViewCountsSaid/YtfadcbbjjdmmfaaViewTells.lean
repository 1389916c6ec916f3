/-
  ViewTells holds: how often any statement is referred to in any view, and whether two views are the same, is what the document says.
-/
import Derived.Test.YtfadcbbjjdmmfaaView9
import Derived.Test.YtfadcbbjjdmmfaaRows
namespace Go.Proofs.Ytfadcbbjjdmmfaa
open Go Go.RK

theorem opens_ints46 (w : World) : Opens Try.prog w 36 (fun p : Value × List Int => [p.1]) (fun p => Rd w.heap p.1 1 p.2.length (ints p.2) ∧ p.2.length ≤ maxLen) :=
  (opens_slice (sz := 1) (F := fun n : Int => [In n]) Try.underlying36 (by kernel_rfl) (by decide) (fun _ => rfl) (opens_int Try.underlying3)).map id (fun _ => rfl) fun p q => ⟨by have := q.1; rw [flat_one] at this; exact this, q.2.1⟩
theorem opens_nm (w : World) : Opens Try.prog w 86 nmC (fun _ => True) := by
  have h1 := opensF_cons (P := Try.prog) (w := w) (o := 1) (f := ⟨ "ID", 3, 1, false, "", "", 16⟩) rfl (opens_int Try.underlying3) (by kernel_rfl) (fun _ => rfl) opensF_nil
  have h2 := opensF_cons (P := Try.prog) (w := w) (o := 0) (f := ⟨ "Name", 9, 0, false, "", "", 0⟩) rfl (opens_string Try.underlying9) (by kernel_rfl) (fun _ => rfl) h1
  exact (opens_struct Try.underlying86 (by kernel_rfl) h2).map (fun p => ((p.1, p.2.1) : Nm)) (fun _ => rfl) (fun _ _ => trivial)
theorem opens_nms (w : World) : Opens Try.prog w 80 (fun p : Value × List Nm => [p.1]) (fun p => Rd w.heap p.1 2 p.2.length (p.2.flatMap nmC) ∧ p.2.length ≤ maxLen) :=
  (opens_slice Try.underlying80 (by kernel_rfl) (by decide) nmC_len (opens_nm w)).map id (fun _ => rfl) fun p q => ⟨q.1, q.2.1⟩
theorem opens_cn (w : World) : Opens Try.prog w 54 cnC (fun _ => True) := by
  have h1 := opensF_cons (P := Try.prog) (w := w) (o := 1) (f := ⟨ "Refs", 3, 1, false, "", "", 8⟩) rfl (opens_int Try.underlying3) (by kernel_rfl) (fun _ => rfl) opensF_nil
  have h2 := opensF_cons (P := Try.prog) (w := w) (o := 0) (f := ⟨ "ID", 3, 0, false, "", "", 0⟩) rfl (opens_int Try.underlying3) (by kernel_rfl) (fun _ => rfl) h1
  exact (opens_struct Try.underlying54 (by kernel_rfl) h2).map (fun p => ((p.1, p.2.1) : Cn)) (fun _ => rfl) (fun _ _ => trivial)
theorem opens_cns (w : World) : Opens Try.prog w 44 (fun p : Value × List Cn => [p.1]) (fun p => Rd w.heap p.1 2 p.2.length (p.2.flatMap cnC) ∧ p.2.length ≤ maxLen) :=
  (opens_slice Try.underlying44 (by kernel_rfl) (by decide) cnC_len (opens_cn w)).map id (fun _ => rfl) fun p q => ⟨q.1, q.2.1⟩
theorem opens_cv (w : World) : Opens Try.prog w 82 CV.cells (fun c => c.ok w.heap) := by
  have h1 := opensF_cons (P := Try.prog) (w := w) (o := 3) (f := ⟨ "Table", 80, 3, false, "", "", 24⟩) rfl (opens_nms w) (by kernel_rfl) (fun _ => rfl) opensF_nil
  have h2 := opensF_cons (P := Try.prog) (w := w) (o := 2) (f := ⟨ "Done", 3, 2, false, "", "", 16⟩) rfl (opens_int Try.underlying3) (by kernel_rfl) (fun _ => rfl) h1
  have h3 := opensF_cons (P := Try.prog) (w := w) (o := 1) (f := ⟨ "Server", 3, 1, false, "", "", 8⟩) rfl (opens_int Try.underlying3) (by kernel_rfl) (fun _ => rfl) h2
  have h4 := opensF_cons (P := Try.prog) (w := w) (o := 0) (f := ⟨ "Phase", 3, 0, false, "", "", 0⟩) rfl (opens_int Try.underlying3) (by kernel_rfl) (fun _ => rfl) h3
  exact (opens_struct Try.underlying82 (by kernel_rfl) h4).map (fun p => (⟨p.1, p.2.1, p.2.2.1, p.2.2.2.1.1, p.2.2.2.1.2⟩ : CV)) (fun _ => rfl) (fun p q => q.2.2.2.1)
theorem opens_cvs (w : World) : Opens Try.prog w 42 (fun p : Value × List CV => [p.1]) (fun p => Rd w.heap p.1 4 p.2.length (p.2.flatMap CV.cells) ∧ p.2.length ≤ maxLen ∧ ∀ c ∈ p.2, c.ok w.heap) :=
  (opens_slice Try.underlying42 (by kernel_rfl) (by decide) CV.len (opens_cv w)).map id (fun _ => rfl) fun p q => ⟨q.1, q.2.1, q.2.2.2.1⟩
theorem opens_sv (w : World) : Opens Try.prog w 84 SV.cells (fun c => c.ok w.heap) := by
  have h1 := opensF_cons (P := Try.prog) (w := w) (o := 5) (f := ⟨ "Pending", 36, 5, false, "", "", 56⟩) rfl (opens_ints46 w) (by kernel_rfl) (fun _ => rfl) opensF_nil
  have h2 := opensF_cons (P := Try.prog) (w := w) (o := 4) (f := ⟨ "Cache", 36, 4, false, "", "", 32⟩) rfl (opens_ints46 w) (by kernel_rfl) (fun _ => rfl) h1
  have h3 := opensF_cons (P := Try.prog) (w := w) (o := 3) (f := ⟨ "Status", 5, 3, false, "", "", 24⟩) rfl (opens_byte Try.underlying5) (by kernel_rfl) (fun _ => rfl) h2
  have h4 := opensF_cons (P := Try.prog) (w := w) (o := 2) (f := ⟨ "Queue", 3, 2, false, "", "", 16⟩) rfl (opens_int Try.underlying3) (by kernel_rfl) (fun _ => rfl) h3
  have h5 := opensF_cons (P := Try.prog) (w := w) (o := 1) (f := ⟨ "Holder", 3, 1, false, "", "", 8⟩) rfl (opens_int Try.underlying3) (by kernel_rfl) (fun _ => rfl) h4
  have h6 := opensF_cons (P := Try.prog) (w := w) (o := 0) (f := ⟨ "State", 3, 0, false, "", "", 0⟩) rfl (opens_int Try.underlying3) (by kernel_rfl) (fun _ => rfl) h5
  exact (opens_struct Try.underlying84 (by kernel_rfl) h6).map (fun p => (⟨p.1, p.2.1, p.2.2.1, p.2.2.2.1, p.2.2.2.2.1.1, p.2.2.2.2.1.2, p.2.2.2.2.2.1.1, p.2.2.2.2.2.1.2⟩ : SV)) (fun _ => rfl) (fun p q => ⟨q.2.2.2.2.1.1, q.2.2.2.2.1.2, q.2.2.2.2.2.1.1, q.2.2.2.2.2.1.2⟩)
theorem opens_svs (w : World) : Opens Try.prog w 43 (fun p : Value × List SV => [p.1]) (fun p => Rd w.heap p.1 6 p.2.length (p.2.flatMap SV.cells) ∧ p.2.length ≤ maxLen ∧ ∀ c ∈ p.2, c.ok w.heap) :=
  (opens_slice Try.underlying43 (by kernel_rfl) (by decide) SV.len (opens_sv w)).map id (fun _ => rfl) fun p q => ⟨q.1, q.2.1, q.2.2.2.1⟩
theorem opens_view (w : World) : Opens Try.prog w 46 VW.cells (fun V => V.ok w.heap) := by
  have h1 := opensF_cons (P := Try.prog) (w := w) (o := 3) (f := ⟨ "Waiting", 36, 3, false, "", "", 72⟩) rfl (opens_ints46 w) (by kernel_rfl) (fun _ => rfl) opensF_nil
  have h2 := opensF_cons (P := Try.prog) (w := w) (o := 2) (f := ⟨ "Registry", 44, 2, false, "", "", 48⟩) rfl (opens_cns w) (by kernel_rfl) (fun _ => rfl) h1
  have h3 := opensF_cons (P := Try.prog) (w := w) (o := 1) (f := ⟨ "Servers", 43, 1, false, "", "", 24⟩) rfl (opens_svs w) (by kernel_rfl) (fun _ => rfl) h2
  have h4 := opensF_cons (P := Try.prog) (w := w) (o := 0) (f := ⟨ "Clients", 42, 0, false, "", "", 0⟩) rfl (opens_cvs w) (by kernel_rfl) (fun _ => rfl) h3
  exact (opens_struct Try.underlying46 (by kernel_rfl) h4).map (fun p => (⟨p.1.1, p.1.2, p.2.1.1, p.2.1.2, p.2.2.1.1, p.2.2.1.2, p.2.2.2.1.1, p.2.2.2.1.2⟩ : VW)) (fun _ => rfl) (fun p q => ⟨q.1.1, q.1.2.1, q.1.2.2, q.2.1.1, q.2.1.2.1, q.2.1.2.2, q.2.2.1.1, q.2.2.1.2, q.2.2.2.1.1, q.2.2.2.1.2⟩)
set_option maxHeartbeats 2000000 in
set_option maxRecDepth 100000 in
theorem tells46 {h : Heap} (V X : VW) (n : Int) (ok : V.ok h) (ox : X.ok h) : CallsH Try.prog 6 ⟨[.agg ⟨V.cells⟩, .agg ⟨X.cells⟩, In n]⟩ h fun u h' => u = .bool true ∧ Ext No h h' := by
  obtain ⟨A1, c1, A2, c2, A3, c3, A4, c4, e1, e2, e3, e4⟩ := ok.slices
  obtain ⟨B1, d1, B2, d2, B3, d3, B4, d4, g1, g2, g3, g4⟩ := ox.slices
  have kfewV := fun h' (hx : Ext No h h') => few46 V (ok.ext0 hx)
  have kfewX := fun h' (hx : Ext No h h') => few46 X (ox.ext0 hx)
  have krv := fun f h' (hx : Ext No h h') => refs_v V (ok.ext0 hx) f n
  have kr4 := fun f h' (hx : Ext No h h') => refs46 V (ok.ext0 hx) f n
  have kcv := fun f h' (hx : Ext No h h') => counted_v V (ok.ext0 hx) f
  have kc4 := fun f h' (hx : Ext No h h') => counted46 V (ok.ext0 hx) f
  have ksv := fun f h' (hx : Ext No h h') => same_v V X (ok.ext0 hx) (ox.ext0 hx) f
  have ks4 := fun f h' (hx : Ext No h h') => same46 V X (ok.ext0 hx) (ox.ext0 hx) f
  have kss := fun f h' (hx : Ext No h h') => same_v V V (ok.ext0 hx) (ok.ext0 hx) f
  rw [sameB_self] at kss
  unfold VW.cells at kfewV kfewX krv kr4 kcv kc4 ksv ks4 kss ⊢
  rw [e1, e2, e3, e4] at kfewV krv kr4 kcv kc4 ksv ks4 kss ⊢
  rw [g1, g2, g3, g4] at kfewX ksv ks4 ⊢
  refine calls [(0, _), (1, _), (2, _)] Try.func6 rfl Try.ntmps6 rfl ⟨rfl, rfl, rfl, trivial⟩ ?_
  all_goals (refine WC.seq ?_)
  all_goals (refine WC.region ?_)
  all_goals (refine WL.stepR (okE_box rfl) rfl rfl rfl ?_
             rintro _ h1 ⟨b1, rfl, hg1, hb1, hx1⟩)
  all_goals (refine WL.stepR (okE_box rfl) rfl rfl rfl ?_
             rintro _ h2 ⟨b2, rfl, hg2, hb2, hx2⟩)
  all_goals (have hX2 := hx1.trans hx2
             have hb12 := hx2.obj hb1 nos
             clear hb1)
  all_goals (refine WL.step (ok_assign rfl) rfl rfl rfl ?_)
  all_goals (refine WL.nil ?_)
  all_goals (repeat' (with_reducible first | refine thenP_n ?_ | refine blockP_n ?_))
  all_goals (refine WC.seq ?_)
  all_goals (refine WC.seq ?_)
  all_goals (refine WC.region ?_)
  all_goals (refine WL.step (ok_loadN (fun w => Try.isAgg46 w) (fun w => Try.sizeOf46 w) rfl rfl (by exact At.of_block hb12)) rfl rfl rfl ?_)
  all_goals (refine WL.call (vs := [_]) rfl (fun a w => Try.call24 a w) rfl (kfewV _ hX2) rfl rfl rfl ?_
             rintro _ h3 ⟨⟨fv, rfl, hfv⟩, hx3⟩)
  all_goals (have hX3 := hX2.trans hx3
             have hb13 := hx3.obj hb12 nos
             have hb23 := hx3.obj hb2 nos
             cases fv)
  all_goals (refine WL.step (ok_not rfl) rfl rfl rfl ?_)
  all_goals (refine WL.step (ok_move rfl) rfl rfl rfl ?_)
  all_goals (try ((fail_if_success (refine WL.part 10 (b := true) rfl (fun _ => ?_) (fun _ => ?_))); (fail_if_success (refine WL.part 10 (b := false) rfl (fun _ => ?_) (fun _ => ?_))); (refine WL.part 10 rfl (fun hb => ?_) (fun hb => ?_) <;> (first | replace hb := of_decide_eq_true hb | replace hb := of_decide_eq_false hb | replace hb := of_decide_eq_false (nt hb) | replace hb := of_decide_eq_true (nf hb) | skip))))
  all_goals (first | (refine WL.pass rfl rfl rfl ?_) | (refine WL.step (ok_loadN (fun w => Try.isAgg46 w) (fun w => Try.sizeOf46 w) rfl rfl (by exact At.of_block hb23)) rfl rfl rfl ?_))
  all_goals (first
               | (refine WL.pass rfl rfl rfl ?_)
               | (refine WL.call (vs := [_]) rfl (fun a w => Try.call24 a w) rfl (kfewX _ hX3) rfl rfl rfl ?_
                  rintro _ h4 ⟨⟨fx, rfl, hfx⟩, hx4⟩))
  all_goals (first
              | (have hX4 := hX3.trans hx4; have hb14 := hx4.obj hb13 nos; have hb24 := hx4.obj hb23 nos; cases fx)
              | skip)
  all_goals (first | (refine WL.pass rfl rfl rfl ?_) | (refine WL.step (ok_not rfl) rfl rfl rfl ?_))
  all_goals (first | (refine WL.step (ok_pick_t rfl rfl) rfl rfl rfl ?_) | (refine WL.step (ok_pick_f rfl rfl) rfl rfl rfl ?_))
  all_goals (refine WL.nil ?_)
  all_goals (repeat' (with_reducible first | refine thenP_n ?_ | refine blockP_n ?_))
  all_goals (refine WC.sub [(2, _), (3, _), (4, _), (14, _)] ⟨rfl, rfl, rfl, rfl, trivial⟩ ?_)
  all_goals (first | refine WC.condB_t 1 rfl ?_ | refine WC.condB_f 2 rfl ?_ | (refine WC.condB 1 2 rfl (fun hb => ?_) (fun hb => ?_) <;> (first | replace hb := of_decide_eq_true hb | replace hb := of_decide_eq_false hb | replace hb := of_decide_eq_false (nt hb) | replace hb := of_decide_eq_true (nf hb) | skip)))
  all_goals (first
    | (fail_if_success (refine Br.mk (i := 1) ?_))
    | (refine Br.mk (i := 1) ?_
       all_goals (refine WC.seq ?_)
       all_goals (refine WC.region ?_)
       all_goals (refine WL.call (vs := []) rfl (fun a w => Try.call25 a w) rfl (awake46) rfl rfl rfl ?_
                  rintro _ h9 ⟨rfl, hx9⟩)
       all_goals (refine WL.step (ok_assign rfl) rfl rfl rfl ?_)
       all_goals (refine WL.nil ?_)
       all_goals (repeat' (with_reducible first | refine thenP_n ?_ | refine blockP_n ?_))
       all_goals (refine WC.sub [(6, _)] ⟨rfl, trivial⟩ ?_)
       all_goals (refine WC.ret ?_)
       all_goals (repeat' (with_reducible first | refine thenP_r ?_ | refine blockP_r ?_))
       all_goals (refine retP_1 _ ⟨rfl, trivial⟩ ?_)
       all_goals (first | exact ⟨rfl, (hX4.trans hY11).trans hx12⟩ | exact ⟨rfl, hX4.trans hx9⟩ | exact ⟨rfl, hX3.trans hx9⟩)
       skip))
  all_goals (first
    | (fail_if_success (refine Br.mk (i := 2) ?_))
    | (refine Br.mk (i := 2) ?_
       all_goals (refine WC.skip ?_)
       skip))
  all_goals (repeat' (with_reducible first | refine thenP_n ?_ | refine blockP_n ?_))
  all_goals (refine WC.seq ?_)
  all_goals (refine WC.drawH (fun h' => Ext No h4 h') 31 32 rfl fol ?_)
  all_goals (have f := hfv rfl)
  all_goals (refine WH.take 0 rfl (by kernel_rfl) (by kernel_rfl) (by kernel_rfl) (by kernel_rfl) rfl (by first | exact Ext.refl _ _ | assumption) (fun hq hC => ok_loadN (fun w => Try.isAgg46 w) (fun w => Try.sizeOf46 w) rfl rfl (by exact (At.of_block hb14).ext hC nos)) rfl rfl rfl ?_)
  all_goals (refine WH.take 1 rfl (by kernel_rfl) (by kernel_rfl) (by kernel_rfl) (by kernel_rfl) rfl (by first | exact Ext.refl _ _ | assumption) (fun hq hC => ok_move rfl) rfl rfl rfl ?_)
  all_goals (refine WH.take 3 rfl (by kernel_rfl) (by kernel_rfl) (by kernel_rfl) (by kernel_rfl) rfl (by first | exact Ext.refl _ _ | assumption) (fun hq hC => ok_loadN (fun w => Try.isAgg46 w) (fun w => Try.sizeOf46 w) rfl rfl (by exact (At.of_block hb14).ext hC nos)) rfl rfl rfl ?_)
  all_goals (refine WH.take 4 rfl (by kernel_rfl) (by kernel_rfl) (by kernel_rfl) (by kernel_rfl) rfl (by first | exact Ext.refl _ _ | assumption) (fun hq hC => ok_move rfl) rfl rfl rfl ?_)
  all_goals (refine WH.one 2 (by kernel_rfl) ?_)
  all_goals (refine Comes1.call (vs := [_, _]) rfl rfl (fun a w => Try.call26 a w) rfl (krv f _ hX4) rfl rfl rfl ?_ (fun _ => by kernel_rfl)
             rintro _ h5 ⟨rfl, hx5⟩)
  all_goals (refine ⟨fun _ => hx5, ?_⟩)
  all_goals (refine WH.one 5 (by kernel_rfl) ?_)
  all_goals (refine Comes1.call (vs := [_, _]) rfl rfl (fun a w => Try.call27 a w) rfl (kr4 f _ (hX4.trans hx5)) rfl rfl rfl ?_ (fun _ => by kernel_rfl)
             rintro _ h6 ⟨rfl, hx6⟩)
  all_goals (refine ⟨fun _ => hx5.trans hx6, ?_⟩)
  all_goals (have hY6 := hx5.trans hx6)
  all_goals (first | (refine WH.take 6 rfl (by kernel_rfl) (by kernel_rfl) (by kernel_rfl) (by kernel_rfl) rfl (by first | exact Ext.refl _ _ | assumption) (fun hq hC => OkP.bool_t (by omega) (ok_eql rfl rfl)) rfl rfl rfl ?_) | (refine WH.take 6 rfl (by kernel_rfl) (by kernel_rfl) (by kernel_rfl) (by kernel_rfl) rfl (by first | exact Ext.refl _ _ | assumption) (fun hq hC => OkP.bool_f (by omega) (ok_eql rfl rfl)) rfl rfl rfl ?_) | (refine WH.take 6 rfl (by kernel_rfl) (by kernel_rfl) (by kernel_rfl) (by kernel_rfl) rfl (by first | exact Ext.refl _ _ | assumption) (fun hq hC => ok_eql rfl rfl) rfl rfl rfl ?_))
  all_goals (refine WH.take 7 rfl (by kernel_rfl) (by kernel_rfl) (by kernel_rfl) (by kernel_rfl) rfl (by first | exact Ext.refl _ _ | assumption) (fun hq hC => ok_move rfl) rfl rfl rfl ?_)
  all_goals (try ((fail_if_success (refine WH.part 23 (b := true) rfl (fun _ => ?_) (fun _ => ?_))); (fail_if_success (refine WH.part 23 (b := false) rfl (fun _ => ?_) (fun _ => ?_))); (refine WH.part 23 rfl (fun hb => ?_) (fun hb => ?_))))
  all_goals (first | (refine WH.pass 8 rfl (by kernel_rfl) (by kernel_rfl) (by kernel_rfl) (by kernel_rfl) rfl (by first | exact Ext.refl _ _ | assumption) rfl rfl rfl ?_) | (refine WH.take 8 rfl (by kernel_rfl) (by kernel_rfl) (by kernel_rfl) (by kernel_rfl) rfl (by first | exact Ext.refl _ _ | assumption) (fun hq hC => ok_loadN (fun w => Try.isAgg46 w) (fun w => Try.sizeOf46 w) rfl rfl (by exact (At.of_block hb14).ext hC nos)) rfl rfl rfl ?_))
  all_goals (first | (refine WH.pass 10 rfl (by kernel_rfl) (by kernel_rfl) (by kernel_rfl) (by kernel_rfl) rfl (by first | exact Ext.refl _ _ | assumption) rfl rfl rfl ?_) | (refine WH.take 10 rfl (by kernel_rfl) (by kernel_rfl) (by kernel_rfl) (by kernel_rfl) rfl (by first | exact Ext.refl _ _ | assumption) (fun hq hC => ok_loadN (fun w => Try.isAgg46 w) (fun w => Try.sizeOf46 w) rfl rfl (by exact (At.of_block hb14).ext hC nos)) rfl rfl rfl ?_))
  all_goals (refine WH.one 9 (by kernel_rfl) ?_)
  all_goals (refine Comes1.call (vs := [_]) rfl rfl (fun a w => Try.call29 a w) rfl (kcv f _ (hX4.trans hY6)) rfl rfl rfl ?_ (fun _ => by kernel_rfl)
             rintro v7 h7 ⟨L7, hL7, hl7, ho7, hx7, hf7⟩)
  all_goals (refine ⟨fun _ => hY6.trans hx7, ?_⟩)
  all_goals (have hY7 := hY6.trans hx7)
  all_goals (refine WH.one 11 (by kernel_rfl) ?_)
  all_goals (refine Comes1.call (vs := [_]) rfl rfl (fun a w => Try.call30 a w) rfl (kc4 f _ (hX4.trans hY7)) rfl rfl rfl ?_ (fun _ => by kernel_rfl)
             rintro v8 h8 ⟨L8, hL8, hl8, ho8, hx8, hf8⟩)
  all_goals (refine ⟨fun _ => hY7.trans hx8, ?_⟩)
  all_goals (have hY8 := hY7.trans hx8
             obtain rfl := hL7.eq hL8)
  all_goals (refine WH.one 12 (by kernel_rfl) ?_)
  all_goals (refine Comes1.call (vs := [_, _]) rfl rfl (fun a w => Try.call28 a w) rfl ((counts46 L7 L7 (ho7.rd.ext0 hx8) ho8.rd (by omega)).as (congrArg Value.bool (decide_eq_true rfl))) rfl rfl rfl ?_ (fun _ => by kernel_rfl)
             rintro _ hz ⟨rfl, _⟩
             subst hz)
  all_goals (refine ⟨fun _ => hY8, ?_⟩)
  all_goals (first | (refine WH.take 13 rfl (by kernel_rfl) (by kernel_rfl) (by kernel_rfl) (by kernel_rfl) rfl (by first | exact Ext.refl _ _ | assumption) (fun hq hC => ok_pick_t rfl rfl) rfl rfl rfl ?_) | (refine WH.take 13 rfl (by kernel_rfl) (by kernel_rfl) (by kernel_rfl) (by kernel_rfl) rfl (by first | exact Ext.refl _ _ | assumption) (fun hq hC => ok_pick_f rfl rfl) rfl rfl rfl ?_))
  all_goals (refine WH.take 14 rfl (by kernel_rfl) (by kernel_rfl) (by kernel_rfl) (by kernel_rfl) rfl (by first | exact Ext.refl _ _ | assumption) (fun hq hC => ok_move rfl) rfl rfl rfl ?_)
  all_goals (try ((fail_if_success (refine WH.part 30 (b := true) rfl (fun _ => ?_) (fun _ => ?_))); (fail_if_success (refine WH.part 30 (b := false) rfl (fun _ => ?_) (fun _ => ?_))); (refine WH.part 30 rfl (fun hb => ?_) (fun hb => ?_))))
  all_goals (first | (refine WH.pass 15 rfl (by kernel_rfl) (by kernel_rfl) (by kernel_rfl) (by kernel_rfl) rfl (by first | exact Ext.refl _ _ | assumption) rfl rfl rfl ?_) | (refine WH.take 15 rfl (by kernel_rfl) (by kernel_rfl) (by kernel_rfl) (by kernel_rfl) rfl (by first | exact Ext.refl _ _ | assumption) (fun hq hC => ok_loadN (fun w => Try.isAgg46 w) (fun w => Try.sizeOf46 w) rfl rfl (by exact (At.of_block hb14).ext hC nos)) rfl rfl rfl ?_))
  all_goals (first | (refine WH.pass 16 rfl (by kernel_rfl) (by kernel_rfl) (by kernel_rfl) (by kernel_rfl) rfl (by first | exact Ext.refl _ _ | assumption) rfl rfl rfl ?_) | (refine WH.take 16 rfl (by kernel_rfl) (by kernel_rfl) (by kernel_rfl) (by kernel_rfl) rfl (by first | exact Ext.refl _ _ | assumption) (fun hq hC => ok_loadN (fun w => Try.isAgg46 w) (fun w => Try.sizeOf46 w) rfl rfl (by exact (At.of_block hb24).ext hC nos)) rfl rfl rfl ?_))
  all_goals (first | (refine WH.pass 18 rfl (by kernel_rfl) (by kernel_rfl) (by kernel_rfl) (by kernel_rfl) rfl (by first | exact Ext.refl _ _ | assumption) rfl rfl rfl ?_) | (refine WH.take 18 rfl (by kernel_rfl) (by kernel_rfl) (by kernel_rfl) (by kernel_rfl) rfl (by first | exact Ext.refl _ _ | assumption) (fun hq hC => ok_loadN (fun w => Try.isAgg46 w) (fun w => Try.sizeOf46 w) rfl rfl (by exact (At.of_block hb14).ext hC nos)) rfl rfl rfl ?_))
  all_goals (first | (refine WH.pass 19 rfl (by kernel_rfl) (by kernel_rfl) (by kernel_rfl) (by kernel_rfl) rfl (by first | exact Ext.refl _ _ | assumption) rfl rfl rfl ?_) | (refine WH.take 19 rfl (by kernel_rfl) (by kernel_rfl) (by kernel_rfl) (by kernel_rfl) rfl (by first | exact Ext.refl _ _ | assumption) (fun hq hC => ok_loadN (fun w => Try.isAgg46 w) (fun w => Try.sizeOf46 w) rfl rfl (by exact (At.of_block hb24).ext hC nos)) rfl rfl rfl ?_))
  all_goals (refine WH.one 17 (by kernel_rfl) ?_)
  all_goals (refine Comes1.call (vs := [_, _]) rfl rfl (fun a w => Try.call31 a w) rfl (ksv f _ (hX4.trans hY8)) rfl rfl rfl ?_ (fun _ => by kernel_rfl)
             rintro _ h9 ⟨rfl, hx9⟩)
  all_goals (refine ⟨fun _ => hY8.trans hx9, ?_⟩)
  all_goals (have hY9 := hY8.trans hx9)
  all_goals (refine WH.one 20 (by kernel_rfl) ?_)
  all_goals (refine Comes1.call (vs := [_, _]) rfl rfl (fun a w => Try.call32 a w) rfl (ks4 f _ (hX4.trans hY9)) rfl rfl rfl ?_ (fun _ => by kernel_rfl)
             rintro _ h10 ⟨rfl, hx10⟩)
  all_goals (refine ⟨fun _ => hY9.trans hx10, ?_⟩)
  all_goals (have hY10 := hY9.trans hx10)
  all_goals (first | (refine WH.pass 21 rfl (by kernel_rfl) (by kernel_rfl) (by kernel_rfl) (by kernel_rfl) rfl (by first | exact Ext.refl _ _ | assumption) rfl rfl rfl ?_) | (first | (refine WH.take 21 rfl (by kernel_rfl) (by kernel_rfl) (by kernel_rfl) (by kernel_rfl) rfl (by first | exact Ext.refl _ _ | assumption) (fun hq hC => OkP.bool_t (by rfl) (ok_eqlB Try.underlying4 rfl rfl)) rfl rfl rfl ?_) | (refine WH.take 21 rfl (by kernel_rfl) (by kernel_rfl) (by kernel_rfl) (by kernel_rfl) rfl (by first | exact Ext.refl _ _ | assumption) (fun hq hC => OkP.bool_f (by decide) (ok_eqlB Try.underlying4 rfl rfl)) rfl rfl rfl ?_) | (refine WH.take 21 rfl (by kernel_rfl) (by kernel_rfl) (by kernel_rfl) (by kernel_rfl) rfl (by first | exact Ext.refl _ _ | assumption) (fun hq hC => ok_eqlB Try.underlying4 rfl rfl) rfl rfl rfl ?_)))
  all_goals (first | (refine WH.take 22 rfl (by kernel_rfl) (by kernel_rfl) (by kernel_rfl) (by kernel_rfl) rfl (by first | exact Ext.refl _ _ | assumption) (fun hq hC => ok_pick_t rfl rfl) rfl rfl rfl ?_) | (refine WH.take 22 rfl (by kernel_rfl) (by kernel_rfl) (by kernel_rfl) (by kernel_rfl) rfl (by first | exact Ext.refl _ _ | assumption) (fun hq hC => ok_pick_f rfl rfl) rfl rfl rfl ?_))
  all_goals (refine WH.take 23 rfl (by kernel_rfl) (by kernel_rfl) (by kernel_rfl) (by kernel_rfl) rfl (by first | exact Ext.refl _ _ | assumption) (fun hq hC => ok_move rfl) rfl rfl rfl ?_)
  all_goals (try ((fail_if_success (refine WH.part 39 (b := true) rfl (fun _ => ?_) (fun _ => ?_))); (fail_if_success (refine WH.part 39 (b := false) rfl (fun _ => ?_) (fun _ => ?_))); (refine WH.part 39 rfl (fun hb => ?_) (fun hb => ?_))))
  all_goals (first | (refine WH.pass 24 rfl (by kernel_rfl) (by kernel_rfl) (by kernel_rfl) (by kernel_rfl) rfl (by first | exact Ext.refl _ _ | assumption) rfl rfl rfl ?_) | (refine WH.take 24 rfl (by kernel_rfl) (by kernel_rfl) (by kernel_rfl) (by kernel_rfl) rfl (by first | exact Ext.refl _ _ | assumption) (fun hq hC => ok_loadN (fun w => Try.isAgg46 w) (fun w => Try.sizeOf46 w) rfl rfl (by exact (At.of_block hb14).ext hC nos)) rfl rfl rfl ?_))
  all_goals (first | (refine WH.pass 25 rfl (by kernel_rfl) (by kernel_rfl) (by kernel_rfl) (by kernel_rfl) rfl (by first | exact Ext.refl _ _ | assumption) rfl rfl rfl ?_) | (refine WH.take 25 rfl (by kernel_rfl) (by kernel_rfl) (by kernel_rfl) (by kernel_rfl) rfl (by first | exact Ext.refl _ _ | assumption) (fun hq hC => ok_loadN (fun w => Try.isAgg46 w) (fun w => Try.sizeOf46 w) rfl rfl (by exact (At.of_block hb14).ext hC nos)) rfl rfl rfl ?_))
  all_goals (refine WH.one 26 (by kernel_rfl) ?_)
  all_goals (refine Comes1.call (vs := [_, _]) rfl rfl (fun a w => Try.call31 a w) rfl (kss f _ (hX4.trans hY10)) rfl rfl rfl ?_ (fun _ => by kernel_rfl)
             rintro _ h11 ⟨rfl, hx11⟩)
  all_goals (refine ⟨fun _ => hY10.trans hx11, ?_⟩)
  all_goals (have hY11 := hY10.trans hx11)
  all_goals (first | (refine WH.take 27 rfl (by kernel_rfl) (by kernel_rfl) (by kernel_rfl) (by kernel_rfl) rfl (by first | exact Ext.refl _ _ | assumption) (fun hq hC => ok_pick_t rfl rfl) rfl rfl rfl ?_) | (refine WH.take 27 rfl (by kernel_rfl) (by kernel_rfl) (by kernel_rfl) (by kernel_rfl) rfl (by first | exact Ext.refl _ _ | assumption) (fun hq hC => ok_pick_f rfl rfl) rfl rfl rfl ?_))
  all_goals (refine WH.take 28 rfl (by kernel_rfl) (by kernel_rfl) (by kernel_rfl) (by kernel_rfl) rfl (by first | exact Ext.refl _ _ | assumption) (fun hq hC => ok_move rfl) rfl rfl rfl ?_)
  all_goals (refine WH.one 29 (by kernel_rfl) ?_)
  all_goals (refine Comes1.call (vs := []) rfl rfl (fun a w => Try.call25 a w) rfl (awake46) rfl rfl rfl ?_ (fun _ => by kernel_rfl)
             rintro _ h12 ⟨rfl, hx12⟩)
  all_goals (refine ⟨fun _ => hY11.trans hx12, ?_⟩)
  all_goals (have hY12 := hY11.trans hx12)
  all_goals (first | (refine WH.take 30 rfl (by kernel_rfl) (by kernel_rfl) (by kernel_rfl) (by kernel_rfl) rfl (by first | exact Ext.refl _ _ | assumption) (fun hq hC => ok_pick_t rfl rfl) rfl rfl rfl ?_) | (refine WH.take 30 rfl (by kernel_rfl) (by kernel_rfl) (by kernel_rfl) (by kernel_rfl) rfl (by first | exact Ext.refl _ _ | assumption) (fun hq hC => ok_pick_f rfl rfl) rfl rfl rfl ?_))
  all_goals (refine WH.one 31 (by kernel_rfl) ?_)
  all_goals (refine Comes1.run rfl (OkP.r (ok_assign rfl)) rfl rfl rfl ?_ (fun _ => by kernel_rfl)
             rintro _ hz ⟨rfl, _⟩
             subst hz)
  all_goals (refine ⟨fun e => (by cases e), ?_⟩)
  all_goals (refine WH.done (by kernel_rfl) ?_)
  all_goals (repeat' (with_reducible first | refine thenP_n ?_ | refine blockP_n ?_))
  all_goals (refine WC.sub [(6, _)] ⟨rfl, trivial⟩ ?_)
  all_goals (refine WC.ret ?_)
  all_goals (repeat' (with_reducible first | refine thenP_r ?_ | refine blockP_r ?_))
  all_goals (refine retP_1 _ ⟨rfl, trivial⟩ ?_)
  all_goals (first | exact ⟨rfl, (hX4.trans hY11).trans hx12⟩ | exact ⟨rfl, hX4.trans hx9⟩ | exact ⟨rfl, hX3.trans hx9⟩)

namespace LViewTells
open Go.ChangeShapes Go.WideShapes Go.ChangeAt Go.RowKit
open Go.ChangeMaps (open_string shut_string)
theorem own : ownKnob Try.prog.godebug = none := by kernel_rfl
theorem laidOut : laidOutB Try.prog = true := by kernel_rfl
set_option maxRecDepth 100000 in
theorem lifted (os : Os) (started : os.Started) (H : Type) (enc : TypeId × Value → H) :
    ReturnsInHanded {} Try.checked os 6 .any (Rows.viewTellsSpec.pre6 enc Try.prog Try.f6 Rows.viewTellsRow.domain false) (Rows.viewTellsSpec.post enc Try.prog Try.f6 false true false false) := by
  refine returnsInHanded_of_change_sized (C := Try.checked) own started (by kernel_rfl) Try.func6
    (ChangeSpec.witness6 (enc := enc) (C := Try.checked) false ⟨#[], #[.agg #[(.slice none 0 0), (.slice none 0 0), (.slice none 0 0), (.slice none 0 0)], .agg #[(.slice none 0 0), (.slice none 0 0), (.slice none 0 0), (.slice none 0 0)], .int .i64 0], []⟩ 8 (by kernel_rfl) (by kernel_rfl) (by kernel_rfl) (by kernel_rfl)) ?_
  intro W base args ds gs before hval0 hW hcnd hsz0 _
  have hval : ∀ (j : Nat) t v, Try.f6.params[j]? = some t → args[j]? = some v → Value.okWide Try.prog W .any base t v := hval0
  have hsz := hsz0
  rw [Try.params6] at hsz
  clear hsz0
  have hW' := hW
  obtain ⟨p, q, hA0, hV, rfl, hfz, hnd⟩ := hW
  have hA : DataW.TrodAll enc Try.prog W 0 (fun _ => true) true Try.f6.params.toList args.toList ds p := hA0
  rw [Try.params6] at hA hval
  obtain ⟨v0, vs0, d0, ds0, p0, q0, hargs, rfl, rfl, h0, r0⟩ := trodAll_cons hA
  obtain ⟨v1, vs1, d1, ds1, p1, q1, rfl, rfl, rfl, h1, r1⟩ := trodAll_cons r0
  obtain ⟨v2, vs2, d2, ds2, p2, q2, rfl, rfl, rfl, h2, r2⟩ := trodAll_cons r1
  obtain ⟨rfl, rfl, rfl⟩ := trodAll_nil r2
  obtain rfl : args = #[v0, v1, v2] := by cases args; simp_all
  obtain ⟨rfl, rfl⟩ := trodVars_none hV
  have hz0 : ∀ n ∈ d0.weights Try.prog 46, n ≤ reachBytes := fun n hn => by simpa using List.all_eq_true.1 hsz n (DataW.weights_mem_each (j := 0) rfl rfl n hn)
  have k0 := h0
  have lt0 : ∀ x ∈ p0, x.block < W.heap.size := by obtain ⟨m, hm⟩ := k0; exact DataW.trod_lt m _ _ _ hm
  obtain ⟨cs0, rfl, hsz0⟩ := okWide_struct Try.underlying46 (hval 0 46 v0 rfl rfl)
  obtain ⟨fu0, hf0⟩ := h0
  obtain ⟨a0, e0, w0⟩ := opens_view W _ _ _ _ _ _ _ _ hf0 hz0
  obtain ⟨cs0⟩ := cs0
  obtain rfl := (show cs0 = _ from e0)
  have hz1 : ∀ n ∈ d1.weights Try.prog 46, n ≤ reachBytes := fun n hn => by simpa using List.all_eq_true.1 hsz n (DataW.weights_mem_each (j := 1) rfl rfl n hn)
  have k1 := h1
  have lt1 : ∀ x ∈ p1, x.block < W.heap.size := by obtain ⟨m, hm⟩ := k1; exact DataW.trod_lt m _ _ _ hm
  obtain ⟨cs1, rfl, hsz1⟩ := okWide_struct Try.underlying46 (hval 1 46 v1 rfl rfl)
  obtain ⟨fu1, hf1⟩ := h1
  obtain ⟨a1, e1, w1⟩ := opens_view W _ _ _ _ _ _ _ _ hf1 hz1
  obtain ⟨cs1⟩ := cs1
  obtain rfl := (show cs1 = _ from e1)
  have hz2 : ∀ n ∈ d2.weights Try.prog 3, n ≤ reachBytes := fun n hn => by simpa using List.all_eq_true.1 hsz n (DataW.weights_mem_each (j := 2) rfl rfl n hn)
  have k2 := h2
  have lt2 : ∀ x ∈ p2, x.block < W.heap.size := by obtain ⟨m, hm⟩ := k2; exact DataW.trod_lt m _ _ _ hm
  obtain ⟨a2, rfl, e2, _, w2⟩ := open_int Try.underlying3 (hval 2 3 v2 rfl rfl) h2
  clear hA0 hval0
  refine (law_calls (tells46 a0 a1 a2 w0 w1)).mono fun e W' ⟨he, bel⟩ => ?_
  subst he
  exact ⟨_, rfl, _, _, _, [], _, [], hW', trodAll_mk1 (shut_bool Try.underlying4 _), (trodAll_cons_mk (Below.trod laidOut (by kernel_rfl) (of_decide_eq_true (by kernel_rfl)) k0 bel lt0) (trodAll_cons_mk (Below.trod laidOut (by kernel_rfl) (of_decide_eq_true (by kernel_rfl)) k1 bel lt1) (trodAll_cons_mk (Below.trod laidOut (by kernel_rfl) (of_decide_eq_true (by kernel_rfl)) k2 bel lt2) trodAll_mk0))), rfl, bel.frame _, fun h => by cases h⟩
theorem over : Rows.viewTellsRow.holds Try.pinned (OpenSpec.ofChange Rows.viewTellsSpec) :=
  OpenClaim.holds_of_wide 6 Try.f6 rfl rfl rfl rfl rfl rfl rfl ⟨rfl, rfl, rfl, rfl, rfl⟩ rfl rfl rfl rfl rfl (by kernel_rfl) Try.func6 (by kernel_rfl)
    (of_decide_eq_true (by kernel_rfl)) (by unfold Func.isWrapper; first | (rw [if_pos (by decide +kernel)]; kernel_rfl) | (rw [if_neg (by decide +kernel)]; exact ⟨rfl, rfl⟩))
    (fun os started H enc _ => lifted os started H enc)
end LViewTells
theorem viewTells_proved : Rows.ViewTellsSaid := LViewTells.over
#print axioms viewTells_proved
end Go.Proofs.Ytfadcbbjjdmmfaa

