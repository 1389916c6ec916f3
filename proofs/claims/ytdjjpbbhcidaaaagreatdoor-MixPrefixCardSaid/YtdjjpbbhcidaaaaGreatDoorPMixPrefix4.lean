/-
  SEVERAL TEXTS IN ONE: Wv7, Wv8, Hv13, Hv14, Hv15, Wv9, Mv1, Mv2, Mv3, Mv4, SeM.
-/
import Derived.Test.YtdjjpbbhcidaaaaGreatDoorPMixPrefix3
import Derived.Test.YtdjjpbbhcidaaaaGreatDoorRows
import Derived.Lay
import Derived.LaidLaws
import Derived.LaidHandle
import Derived.Stop.Joined
/-
  A CLIENT ALONE (layer 44), by the code: the first message.
-/
namespace Go.Proofs.YtdjjpbbhcidaaaaGreatDoor
open Go Go.RK

section
variable {N : Nat → Prop} {g h h' : Heap} {b cb fb bs bp mp : Nat} {out out' v v' : Value} {ob ob' l l' : List UInt8} {dn dn' : Int} {bg bg' : Bool} {S : Nat → Prop}
set_option maxHeartbeats 2000000 in
set_option maxRecDepth 100000 in
theorem so_ready (k : So N g h b cb fb bs bp mp out ob dn bg v l) : CallsH Tryz.prog 35 ⟨[.pointer (some ⟨b, 0, none⟩)]⟩ h fun u h' => u = .bool true ∧ h' = h := by
  have hb := k.blk
  unfold soC at hb
  refine calls [(0, _)] Tryz.func35 rfl Tryz.ntmps35 rfl ⟨rfl, trivial⟩ ?_
  all_goals (refine WC.sr ?_)
  all_goals (refine Go ?_)
  all_goals (refine WC.sr ?_)
  all_goals (refine Go ?_)
  all_goals (refine WL.step (ok_neqPn Tryz.underlying46 rfl rfl) rfl rfl rfl ?_)
  all_goals (refine Go ?_)
  all_goals (refine goP 5 ?_ ?_ <;> first | exact ⟨⟩ | refine Hb.mk fun hb => ?_ | skip)
  all_goals (refine Gg ?_)
  all_goals (first | (refine WL.pass rfl rfl rfl ?_) | (refine WL.step (ok_nilCheck rfl) rfl rfl rfl ?_))
  all_goals (refine Gg ?_)
  all_goals (first | (refine WL.pass rfl rfl rfl ?_) | (refine WL.ld rfl (by first | exact cell_blk hb rfl | assumption | exact cell_blk (by assumption) rfl) rfl rfl rfl ?_))
  all_goals (first | (refine WL.pass rfl rfl rfl ?_) | (refine WL.step (ok_neqPn Tryz.underlying47 rfl rfl) rfl rfl rfl ?_))
  all_goals (refine Go ?_)
  all_goals (refine Gs [(2, _)] ?_)
  all_goals (refine Gt ?_)
  all_goals (exact ⟨rfl, rfl⟩)
set_option maxHeartbeats 2000000 in
set_option maxRecDepth 100000 in
theorem so_feed (k : So N g h b cb fb bs bp mp out ob dn bg v l) {w : Value} {m : List UInt8} (hr : Rd h w 1 m.length (bys m)) (hl : l.length + m.length ≤ 262144) :
    CallsH Tryz.prog 12 ⟨[.pointer (some ⟨b, 0, none⟩), w]⟩ h fun u h' => u = In 0 ∧ ∃ v', So N g h' b cb fb bs bp mp out ob dn bg v' (l ++ m) := by
  have kr := so_ready k
  have hb := k.blk
  unfold soC at hb
  obtain ⟨A, c, rfl, _⟩ := id hr
  refine calls [(0, _), (1, _)] Tryz.func12 rfl Tryz.ntmps12 rfl ⟨rfl, rfl, trivial⟩ ?_
  all_goals (refine WC.sr ?_)
  all_goals (refine Go ?_)
  all_goals (refine WC.seq ?_)
  all_goals (refine WC.sr ?_)
  all_goals (refine Go ?_)
  all_goals (refine WL.call (vs := [_]) rfl (fun a w => Tryz.call35 a w) rfl (kr) rfl rfl rfl ?_
             rintro _ hq ⟨rfl, hz⟩
             replace hz := hz.symm
             subst hz)
  all_goals (refine Go ?_)
  all_goals (refine goC 1 2 ?_ ?_ <;> first | exact ⟨⟩ | refine Hb.mk fun hb => ?_ | skip)
  all_goals (first | (fail_if_success refine goB 1 ?_) | (
  refine goB 1 ?_
  all_goals (refine WC.sr ?_)
  all_goals (refine Go ?_)
  all_goals (refine Gs [(4, _)] ?_)
  all_goals (refine Gt ?_)
  all_goals (exact ⟨rfl, v2, k.clT c2 kf2 (hx2.mono fun _ _ e => .inr e) hf2⟩)
  skip))
  all_goals (first | (fail_if_success refine goB 2 ?_) | (
  refine goB 2 ?_
  all_goals (refine WC.skip ?_)
  skip))
  all_goals (refine Gn ?_)
  all_goals (refine Gs [(0, _), (1, _)] ?_)
  all_goals (refine WC.sr ?_)
  all_goals (refine Go ?_)
  all_goals (refine WL.step (ok_nilCheck rfl) rfl rfl rfl ?_)
  all_goals (refine Go ?_)
  all_goals (refine WL.ld rfl (by first | exact cell_blk hb rfl | assumption | exact cell_blk (by assumption) rfl) rfl rfl rfl ?_)
  all_goals (refine Go ?_)
  all_goals (refine WL.call (vs := [_, _]) rfl (fun a w => Tryz.call36 a w) rfl (cl_feed k.cl k.fw hr hl) rfl rfl rfl ?_
             rintro _ h2 ⟨rfl, v2, kf2, hx2, hf2⟩
             obtain ⟨nf, nv⟩ := k.cl.ne k.fw
             have c2 : ClB h2 cb fb bg := hx2.obj k.cl (fun e => e.elim nf (fun e => nv _ e rfl)))
  all_goals (refine Go ?_)
  all_goals (refine Gs [(4, _)] ?_)
  all_goals (refine Gt ?_)
  all_goals (exact ⟨rfl, v2, k.clT c2 kf2 (hx2.mono fun _ _ e => .inr e) hf2⟩)
set_option maxHeartbeats 2000000 in
set_option maxRecDepth 100000 in
theorem so_first (k : So N g h b cb fb bs bp mp out ob dn false v l) (hlo : ob.length ≤ 1000) {p : Value} (hp : ∃ A n c, p = .slice A n c) :
    CallsH Tryz.prog 39 ⟨[.pointer (some ⟨b, 0, none⟩), .agg ⟨[In 196608, In 0, In 0, p]⟩]⟩ h fun _ h' => ∃ out', So N g h' b cb fb bs bp mp out' (ob ++ greet28) dn true v l := by
  have kg := fun h' => greet_bytes (h := h')
  obtain ⟨A, n, c, rfl⟩ := hp
  obtain ⟨Ao, co, rfl, _⟩ := id k.own.slice
  refine calls [(0, _), (1, _)] Tryz.func39 rfl Tryz.ntmps39 rfl ⟨rfl, rfl, trivial⟩ ?_
  all_goals (refine WC.sr ?_)
  all_goals (refine WL.stepR (okE_box rfl) rfl rfl rfl ?_
             rintro _ h1 ⟨b1, rfl, hg1, hb1, hx1⟩
             have k1 := k.ext0 hx1
             have hs1 := k1.blk
             unfold soC at hs1
             have nO : (Value.slice Ao ob.length co).ownBlock ≠ some b := own_ne k1.own hs1 (by decide))
  all_goals (refine Gn ?_)
  all_goals (refine WC.sr ?_)
  all_goals (refine Go ?_)
  all_goals (refine WL.ld rfl (by first | exact cell_blk hb1 rfl | assumption | exact cell_blk (by assumption) rfl) rfl rfl rfl ?_)
  all_goals (refine Gn ?_)
  all_goals (refine WC.block ?_)
  all_goals (refine WC.sr ?_)
  all_goals (refine Go ?_)
  all_goals (refine Gs [(0, _), (5, _), (29, _)] ?_)
  all_goals (refine goC 1 2 ?_ ?_ <;> first | exact ⟨⟩ | refine Hb.mk fun hb => ?_ | skip)
  all_goals (first | (fail_if_success refine goB 1 ?_) | (
  refine goB 1 ?_
  all_goals (refine WC.region ?_)
  all_goals (refine Go ?_)
  all_goals (refine WL.step (ok_nilCheck rfl) rfl rfl rfl ?_)
  all_goals (refine Go ?_)
  all_goals (refine WL.stepR0 (okE_store (fun w => Tryz.sizeOf4 w) rfl rfl (by assumption) (Nat.le_of_ble_eq_true rfl) rfl rfl) rfl rfl ?_
             rintro _ h1 ⟨hb1, hx1⟩)
  all_goals (refine Gn ?_)
  skip))
  all_goals (first | (fail_if_success refine goB 2 ?_) | (
  refine goB 2 ?_
  all_goals (refine WC.sr ?_)
  all_goals (refine Go ?_)
  all_goals (refine goC 3 4 ?_ ?_ <;> first | exact ⟨⟩ | refine Hb.mk fun hb => ?_ | skip)
  all_goals (first | (fail_if_success refine goB 3 ?_) | (
  refine goB 3 ?_
  all_goals (refine WC.region ?_)
  all_goals (refine Go ?_)
  all_goals (refine WL.step (ok_nilCheck rfl) rfl rfl rfl ?_)
  all_goals (refine Go ?_)
  all_goals (refine Ld ?_)
  all_goals (refine WL.stepR (okE_buildSlice (vs := [_]) (cs := [_]) (fun | [a0] => [a0] | _ => []) Tryz.underlying22 rfl rfl (by kernel_rfl)) rfl rfl rfl ?_
             rintro _ h1 ⟨b1, rfl, hg1, hb1, hx1⟩)
  all_goals (refine WL.stepR (ok_append (sz := 1) (bytes := 1) rfl Tryz.underlying22 (show Tryz.prog.info? 5 = some Tryz.t5 by kernel_rfl) rfl rfl rfl rfl (by decide) rfl rfl (by assumption) (by first | assumption | exact rd_blk (by assumption) rfl) (by simp [Value.oneCell']) (by simp only [maxLen]; omega) (by omega)) rfl rfl rfl ?_
             rintro v1 h1 ⟨ho1, hx1, hl1⟩)
  all_goals (refine WL.step (ok_nilCheck rfl) rfl rfl rfl ?_)
  all_goals (refine Go ?_)
  all_goals (refine WL.stepR0 (okE_store (fun w => Tryz.sizeOf22 w) rfl rfl (by assumption) (Nat.le_of_ble_eq_true rfl) rfl rfl) rfl rfl ?_
             rintro _ h1 ⟨hb1, hx1⟩)
  all_goals (refine Gn ?_)
  skip))
  all_goals (first | (fail_if_success refine goB 4 ?_) | (
  refine goB 4 ?_
  all_goals (refine WC.seq ?_)
  all_goals (refine WC.drawH (fun h' => Ext (fun q => (Value.slice Ao ob.length co).ownBlock = some q) h1 h') 17 18 rfl fol ?_)
  all_goals (refine WH.tk 0 rfl (fun hq hC => ok_move rfl) rfl rfl rfl ?_)
  all_goals (refine WH.tk 1 rfl (fun hq hC => ok_move rfl) rfl rfl rfl ?_)
  all_goals (refine WH.tk 2 rfl (fun hq hC => ok_nilCheck rfl) rfl rfl rfl ?_)
  all_goals (refine WH.tk 3 rfl (fun hq hC => ok_fieldAddr rfl Tryz.underlying51 rfl (fun w => Tryz.sizeOf22 w)) rfl rfl rfl ?_)
  all_goals (refine WH.tk 4 rfl (fun hq hC => ok_load (fun w => Tryz.isAgg22 w) rfl (by first | exact hC.cell (by first | exact cell_blk hs1 rfl | assumption | exact cell_blk (by assumption) rfl) nO)) rfl rfl rfl ?_)
  all_goals (refine WH.tk 5 rfl (fun hq hC => ok_move rfl) rfl rfl rfl ?_)
  all_goals (refine WH.tk 6 rfl (fun hq hC => ok_nilCheck rfl) rfl rfl rfl ?_)
  all_goals (refine WH.tk 7 rfl (fun hq hC => ok_fieldAddr rfl Tryz.underlying51 rfl (fun w => Tryz.sizeOf28 w)) rfl rfl rfl ?_)
  all_goals (refine WH.tk 8 rfl (fun hq hC => ok_load (fun w => Tryz.isAgg28 w) rfl (by first | exact hC.cell (by first | exact cell_blk hs1 rfl | assumption | exact cell_blk (by assumption) rfl) nO)) rfl rfl rfl ?_)
  all_goals (refine WH.tk 9 rfl (fun hq hC => ok_move rfl) rfl rfl rfl ?_)
  all_goals (refine WH.tk 10 rfl (fun hq hC => ok_nilCheck rfl) rfl rfl rfl ?_)
  all_goals (refine WH.tk 11 rfl (fun hq hC => ok_fieldAddr rfl Tryz.underlying51 rfl (fun w => Tryz.sizeOf3 w)) rfl rfl rfl ?_)
  all_goals (refine WH.tk 12 rfl (fun hq hC => ok_load (fun w => Tryz.isAgg3 w) rfl (by first | exact hC.cell (by first | exact cell_blk hs1 rfl | assumption | exact cell_blk (by assumption) rfl) nO)) rfl rfl rfl ?_)
  all_goals (refine WH.one 13 (by kernel_rfl) ?_)
  all_goals (refine Comes1.call (vs := [_, _]) rfl rfl (fun a w => Tryz.call73 a w) rfl (kg _) rfl rfl rfl ?_ (fun _ => by kernel_rfl)
             rintro v3 h3 ⟨ho3, hx3, hf3⟩
             have hC3 : Ext (fun q => (Value.slice Ao ob.length co).ownBlock = some q) h1 h3 := hx3.mono fun _ _ e => e.elim
             obtain ⟨A3, c3, rfl, _⟩ := id ho3.slice)
  all_goals (refine ⟨fun _ => hC3, ?_⟩)
  all_goals (refine WH.one 14 (by kernel_rfl) ?_)
  all_goals (refine Comes1.run rfl (ok_append (sz := 1) (bytes := 1) rfl Tryz.underlying22 (show Tryz.prog.info? 5 = some Tryz.t5 by kernel_rfl) rfl rfl rfl rfl (by decide) rfl rfl (k1.own.ext hx3 (fun _ _ => nos)) ho3.rd (by intro c hc; obtain ⟨b, _, rfl⟩ := List.mem_map.1 hc; rfl) (by simp [maxLen]; omega) (by omega)) rfl rfl rfl ?_ (fun _ => by kernel_rfl)
             rintro v4 h4 ⟨ho4, hx4, hl4⟩
             have hC4 := hC3.trans hx4
             have ho4 : Own h4 v4 5 1 (ob ++ greet28).length (bys (ob ++ greet28)) := by rw [List.length_append, bys_app]; exact ho4
             obtain ⟨A4, c4, rfl, _⟩ := id ho4.slice
             have hs4 := hC4.obj hs1 nO)
  all_goals (refine ⟨fun _ => hC4, ?_⟩)
  all_goals (refine WH.one 15 (by kernel_rfl) ?_)
  all_goals (refine Comes1.run rfl (OkP.r (ok_nilCheck rfl)) rfl rfl rfl ?_ (fun _ => by kernel_rfl)
             rintro _ hz ⟨rfl, _⟩
             subst hz)
  all_goals (refine ⟨fun _ => by first | assumption | trivial, ?_⟩)
  all_goals (refine WH.one 16 (by kernel_rfl) ?_)
  all_goals (refine Comes1.run rfl (OkP.r (ok_fieldAddr rfl Tryz.underlying51 rfl (fun w => Tryz.sizeOf22 w))) rfl rfl rfl ?_ (fun _ => by kernel_rfl)
             rintro _ hz ⟨rfl, _⟩
             subst hz)
  all_goals (refine ⟨fun _ => by first | assumption | trivial, ?_⟩)
  all_goals (refine WH.one 17 (by kernel_rfl) ?_)
  all_goals (refine Comes1.run0 rfl (okE_store (fun w => Tryz.sizeOf22 w) rfl rfl hs4 (Nat.le_of_ble_eq_true rfl) rfl rfl) rfl rfl ?_ (fun _ => by kernel_rfl)
             rintro _ h5 ⟨hs5, hx5⟩
             have hf4 : ∀ q, (Value.slice A4 (ob ++ greet28).length c4).ownBlock = some q → (Value.slice Ao ob.length co).ownBlock = some q ∨ h1.size ≤ q := kin_of hl4 hx3.size
             have k5 : So N g h5 b cb fb bs bp mp (Value.slice A4 (ob ++ greet28).length c4) (ob ++ greet28) dn false v l := k1.outT hs5 (ho4.ext hx5 (fun q hq e => own_ne ho4 hs4 (by decide) (e ▸ hq))) ((hC4.mono fun _ _ e => .inr e).trans (hx5.mono fun _ _ e => .inl e)) hf4)
  all_goals (refine ⟨fun e => (by cases e), ?_⟩)
  all_goals (refine WH.done (by kernel_rfl) ?_)
  all_goals (refine Gn ?_)
  all_goals (refine Gs [(0, _)] ?_)
  all_goals (refine WC.region ?_)
  all_goals (refine Go ?_)
  all_goals (refine WL.step (ok_nilCheck rfl) rfl rfl rfl ?_)
  all_goals (refine Go ?_)
  all_goals (refine WL.ld rfl (by first | exact cell_blk hs5 rfl | assumption | exact cell_blk (by assumption) rfl) rfl rfl rfl ?_)
  all_goals (refine WL.call (vs := [_]) rfl (fun a w => Tryz.call74 a w) rfl (cl_begin k5.cl k5.fw) rfl rfl rfl ?_
             rintro _ h6 ⟨c6, kf6, hx6⟩)
  all_goals (refine Gn ?_)
  skip))
  skip))
  all_goals (refine Gn ?_)
  all_goals (refine retP_n [] trivial ?_)
  all_goals (exact ⟨_, k5.clT c6 kf6 (hx6.mono fun _ _ e => e.elim .inl (fun e => .inr (.inl e))) (fun q hq => .inl hq)⟩)
end
end Go.Proofs.YtdjjpbbhcidaaaaGreatDoor


/-
  A CLIENT ALONE (layer 44), by the code: its Steps.
-/
namespace Go.Proofs.YtdjjpbbhcidaaaaGreatDoor
open Go Go.RK

section
variable {N : Nat → Prop} {g h h' : Heap} {b cb fb bs bp mp : Nat} {out out' v v' : Value} {ob ob' l l' : List UInt8} {dn dn' : Int} {bg bg' : Bool} {S : Nat → Prop}
theorem So.own1 {q : Nat} {cs : Array Value} {T : TypeId} (k : So N g h b cb fb bs bp mp out ob dn bg v l) (hq : h[q]? = some (.cells cs T (0, 0))) (h1 : T ≠ 51) (h2 : T ≠ 5) (h3 : T ≠ 138) (h4 : T ≠ 87) (h5 : T ≠ 109) : ¬ (q = b ∨ q = cb ∨ q = fb ∨ q = bs ∨ q = mp ∨ v.ownBlock = some q ∨ out.ownBlock = some q) := fun e => by
  have kc := k.cl
  unfold ClB at kc
  obtain ⟨⟨m, e1, s1⟩, s2, s3⟩ := k.se
  rcases e with e | e | e | e | e | e | e
  · exact ty_ne hq k.blk h1 e
  · exact ty_ne hq kc h3 e
  · exact ty_ne hq k.fw.blk h4 e
  · exact ty_ne hq s1 h5 e
  · exact mp_no s3 hq e
  · exact own_ne k.fw.own hq h2 e
  · exact own_ne k.own hq h2 e
set_option maxHeartbeats 2000000 in
set_option maxRecDepth 100000 in
theorem so_step1 (k : So N g h b cb fb bs bp mp out ob dn false v feed21) (hlo : ob.length ≤ 1000) : CallsH Tryz.prog 13 ⟨[.pointer (some ⟨b, 0, none⟩)]⟩ h fun u h' => u = .bool true ∧ ∃ out' v', So N g h' b cb fb bs bp mp out' (ob ++ greet28) dn true v' sy5 := by
  have kr := so_ready k
  have hb := k.blk
  unfold soC at hb
  refine calls [(0, _)] Tryz.func13 rfl Tryz.ntmps13 rfl ⟨rfl, trivial⟩ ?_
  all_goals (refine WC.sr ?_)
  all_goals (refine Go ?_)
  all_goals (refine WC.seq ?_)
  all_goals (refine WC.sr ?_)
  all_goals (refine Go ?_)
  all_goals (refine WL.call (vs := [_]) rfl (fun a w => Tryz.call35 a w) rfl (kr) rfl rfl rfl ?_
             rintro _ hq ⟨rfl, hz⟩
             replace hz := hz.symm
             subst hz)
  all_goals (refine Go ?_)
  all_goals (refine goP 7 ?_ ?_ <;> first | exact ⟨⟩ | refine Hb.mk fun hb => ?_ | skip)
  all_goals (refine Gg ?_)
  all_goals (first | (refine WL.pass rfl rfl rfl ?_) | (refine WL.step (ok_nilCheck rfl) rfl rfl rfl ?_))
  all_goals (refine Gg ?_)
  all_goals (first | (refine WL.pass rfl rfl rfl ?_) | (refine WL.ld rfl (by first | exact cell_blk hb rfl | assumption | exact cell_blk (by assumption) rfl) rfl rfl rfl ?_))
  all_goals (refine Go ?_)
  all_goals (refine Gs [(0, _), (12, _)] ?_)
  all_goals (refine goC 1 2 ?_ ?_ <;> first | exact ⟨⟩ | refine Hb.mk fun hb => ?_ | skip)
  all_goals (first | (fail_if_success refine goB 1 ?_) | (
  refine goB 1 ?_
  all_goals (refine WC.sr ?_)
  all_goals (refine Go ?_)
  all_goals (refine Gt ?_)
  all_goals (exact ⟨rfl, _, _, k6⟩)
  skip))
  all_goals (first | (fail_if_success refine goB 2 ?_) | (
  refine goB 2 ?_
  all_goals (refine WC.skip ?_)
  skip))
  all_goals (refine Gn ?_)
  all_goals (refine WC.sr ?_)
  all_goals (refine Go ?_)
  all_goals (refine WL.step (ok_nilCheck rfl) rfl rfl rfl ?_)
  all_goals (refine Go ?_)
  all_goals (refine WL.ld rfl (by first | exact cell_blk hb rfl | assumption | exact cell_blk (by assumption) rfl) rfl rfl rfl ?_)
  all_goals (refine WL.call (vs := [_]) rfl (fun a w => Tryz.call37 a w) rfl (cl_peek1 k.cl k.fw) rfl rfl rfl ?_
             rintro _ h2 ⟨⟨p, rfl, Ap, np, cp, rfl⟩, c2, kf2, hx2⟩
             have k2 : So N g h2 b cb fb bs bp mp out ob dn false v feed21 := k.clT c2 kf2 (hx2.mono fun _ _ e => .inr (.inl e)) (fun q hq => .inl hq))
  all_goals (refine WL.stepR (okE_alloc (fun w => Tryz.zeroValue71 w)) rfl rfl rfl ?_
             rintro _ h3 ⟨b3, rfl, hg3, hb3, hx3⟩)
  all_goals (refine WL.stepR0 (okE_storeW (fun w => Tryz.sizeOf71 w) rfl rfl rfl hb3 rfl (by simp [itC, Value.oneCell'])) rfl rfl ?_
             rintro _ h4 ⟨hb4, hx4⟩
             have k4 := k2.ext0 (hx3.trans' hx4 (fun q hq e => by omega))
             have hs4 := k4.blk
             unfold soC at hs4
             unfold itC at hb4)
  all_goals (refine Gn ?_)
  all_goals (refine Gs [(0, _), (3, _)] ?_)
  all_goals (refine WC.seq ?_)
  all_goals (refine WC.sr ?_)
  all_goals (refine Go ?_)
  all_goals (refine WL.ld rfl (by first | exact cell_blk hb4 rfl | assumption | exact cell_blk (by assumption) rfl) rfl rfl rfl ?_)
  all_goals (refine Gn ?_)
  all_goals (refine WC.block ?_)
  all_goals (refine WC.sr ?_)
  all_goals (refine Go ?_)
  all_goals (refine goC 3 4 ?_ ?_ <;> first | exact ⟨⟩ | refine Hb.mk fun hb => ?_ | skip)
  all_goals (first | (fail_if_success refine goB 3 ?_) | (
  refine goB 3 ?_
  all_goals (refine WC.sr ?_)
  all_goals (refine Go ?_)
  all_goals (refine WL.step (ok_nilCheck rfl) rfl rfl rfl ?_)
  all_goals (refine Go ?_)
  all_goals (refine WL.ld rfl (by first | exact cell_blk hs4 rfl | assumption | exact cell_blk (by assumption) rfl) rfl rfl rfl ?_)
  all_goals (refine WL.call (vs := [_]) rfl (fun a w => Tryz.call38 a w) rfl (cl_take1 k4.cl k4.fw) rfl rfl rfl ?_
             rintro _ h5 ⟨v5, c5, kf5, hx5, hv5⟩
             have k5 : So N g h5 b cb fb bs bp mp out ob dn false v5 sy5 := k4.clT c5 kf5 (hx5.mono fun _ _ e => .inr e) (fun q hq => .inl (hv5 ▸ hq))
             have hb45 := hx5.obj hb4 (fun e => k4.own1 hb4 (by decide) (by decide) (by decide) (by decide) (by decide) (by rcases e with e | e; exact .inr (.inr (.inl e)); exact .inr (.inr (.inr (.inr (.inr (.inl e))))))))
  all_goals (refine Gn ?_)
  all_goals (refine Gs [(0, _), (3, _)] ?_)
  all_goals (refine WC.region ?_)
  all_goals (refine Go ?_)
  all_goals (refine WL.step (ok_loadN (fun w => Tryz.isAgg69 w) (fun w => Tryz.sizeOf69 w) rfl rfl (by exact At.pre (xs := [_, _, _, _]) (ys := _) (At.tl (At.of_block hb45)))) rfl rfl rfl ?_)
  all_goals (refine WL.call (vs := [_, _]) rfl (fun a w => Tryz.call39 a w) rfl (so_first k5 hlo ⟨_, _, _, rfl⟩) rfl rfl rfl ?_
             rintro _ h6 ⟨out6, k6⟩)
  all_goals (refine Gn ?_)
  skip))
  all_goals (first | (fail_if_success refine goB 4 ?_) | (
  refine goB 4 ?_
  all_goals (refine WC.sr ?_)
  all_goals (refine Go ?_)
  all_goals (refine Gs [(0, _), (3, _), (33, _)] ?_)
  all_goals (refine goC 5 6 ?_ ?_ <;> first | exact ⟨⟩ | refine Hb.mk fun hb => ?_ | skip)
  all_goals (first | (fail_if_success refine goB 6 ?_) | (
  refine goB 6 ?_
  all_goals (refine WC.sr ?_)
  all_goals (refine Go ?_)
  all_goals (refine Gt ?_)
  all_goals (exact ⟨rfl, _, _, k6⟩)
  skip))
  skip))
  all_goals (refine Gn ?_)
  all_goals (refine WC.sr ?_)
  all_goals (refine Go ?_)
  all_goals (refine Gt ?_)
  all_goals (exact ⟨rfl, _, _, k6⟩)
set_option maxHeartbeats 2000000 in
set_option maxRecDepth 100000 in
theorem so_step2 (k : So N g h b cb fb bs bp mp out ob dn true v sy5) (hlo : ob.length ≤ 1000) (hdn : 0 ≤ dn ∧ dn ≤ 1000) : CallsH Tryz.prog 13 ⟨[.pointer (some ⟨b, 0, none⟩)]⟩ h fun u h' => u = .bool true ∧ ∃ out' v', So N g h' b cb fb bs bp mp out' (ob ++ z6) (dn + 1) true v' [] := by
  have kr := so_ready k
  have hb := k.blk
  unfold soC at hb
  refine calls [(0, _)] Tryz.func13 rfl Tryz.ntmps13 rfl ⟨rfl, trivial⟩ ?_
  all_goals (refine WC.sr ?_)
  all_goals (refine Go ?_)
  all_goals (refine WC.seq ?_)
  all_goals (refine WC.sr ?_)
  all_goals (refine Go ?_)
  all_goals (refine WL.call (vs := [_]) rfl (fun a w => Tryz.call35 a w) rfl (kr) rfl rfl rfl ?_
             rintro _ hq ⟨rfl, hz⟩
             replace hz := hz.symm
             subst hz)
  all_goals (refine Go ?_)
  all_goals (refine goP 7 ?_ ?_ <;> first | exact ⟨⟩ | refine Hb.mk fun hb => ?_ | skip)
  all_goals (refine Gg ?_)
  all_goals (first | (refine WL.pass rfl rfl rfl ?_) | (refine WL.step (ok_nilCheck rfl) rfl rfl rfl ?_))
  all_goals (refine Gg ?_)
  all_goals (first | (refine WL.pass rfl rfl rfl ?_) | (refine WL.ld rfl (by first | exact cell_blk hb rfl | assumption | exact cell_blk (by assumption) rfl) rfl rfl rfl ?_))
  all_goals (refine Go ?_)
  all_goals (refine Gs [(0, _), (12, _)] ?_)
  all_goals (refine goC 1 2 ?_ ?_ <;> first | exact ⟨⟩ | refine Hb.mk fun hb => ?_ | skip)
  all_goals (first | (fail_if_success refine goB 1 ?_) | (
  refine goB 1 ?_
  all_goals (refine WC.sr ?_)
  all_goals (refine Go ?_)
  all_goals (refine Gt ?_)
  all_goals (exact ⟨rfl, _, v5, k9.outT hs10 (k9.own.ext hx10 (fun q hq e => own_ne k9.own hs9 (by decide) (e ▸ hq))) (hx10.mono fun _ _ e => .inl e) (fun q hq => .inl hq)⟩)
  skip))
  all_goals (first | (fail_if_success refine goB 2 ?_) | (
  refine goB 2 ?_
  all_goals (refine WC.skip ?_)
  skip))
  all_goals (refine Gn ?_)
  all_goals (refine WC.sr ?_)
  all_goals (refine Go ?_)
  all_goals (refine WL.step (ok_nilCheck rfl) rfl rfl rfl ?_)
  all_goals (refine Go ?_)
  all_goals (refine WL.ld rfl (by first | exact cell_blk hb rfl | assumption | exact cell_blk (by assumption) rfl) rfl rfl rfl ?_)
  all_goals (refine WL.call (vs := [_]) rfl (fun a w => Tryz.call37 a w) rfl (cl_peek2 k.cl k.fw) rfl rfl rfl ?_
             rintro _ h2 ⟨rfl, c2, kf2, hx2⟩
             have k2 : So N g h2 b cb fb bs bp mp out ob dn true v sy5 := k.clT c2 kf2 (hx2.mono fun _ _ e => .inr (.inl e)) (fun q hq => .inl hq))
  all_goals (refine WL.stepR (okE_alloc (fun w => Tryz.zeroValue71 w)) rfl rfl rfl ?_
             rintro _ h3 ⟨b3, rfl, hg3, hb3, hx3⟩)
  all_goals (refine WL.stepR0 (okE_storeW (fun w => Tryz.sizeOf71 w) rfl rfl rfl hb3 rfl (by simp [itC, Value.oneCell'])) rfl rfl ?_
             rintro _ h4 ⟨hb4, hx4⟩
             have k4 := k2.ext0 (hx3.trans' hx4 (fun q hq e => by omega))
             have hs4 := k4.blk
             unfold soC at hs4
             unfold itC at hb4)
  all_goals (refine Gn ?_)
  all_goals (refine Gs [(0, _), (3, _)] ?_)
  all_goals (refine WC.seq ?_)
  all_goals (refine WC.sr ?_)
  all_goals (refine Go ?_)
  all_goals (refine WL.ld rfl (by first | exact cell_blk hb4 rfl | assumption | exact cell_blk (by assumption) rfl) rfl rfl rfl ?_)
  all_goals (refine Gn ?_)
  all_goals (refine WC.block ?_)
  all_goals (refine WC.sr ?_)
  all_goals (refine Go ?_)
  all_goals (refine goC 3 4 ?_ ?_ <;> first | exact ⟨⟩ | refine Hb.mk fun hb => ?_ | skip)
  all_goals (first | (fail_if_success refine goB 4 ?_) | (
  refine goB 4 ?_
  all_goals (refine WC.sr ?_)
  all_goals (refine Go ?_)
  all_goals (refine Gs [(0, _), (3, _), (33, _)] ?_)
  all_goals (refine goC 5 6 ?_ ?_ <;> first | exact ⟨⟩ | refine Hb.mk fun hb => ?_ | skip)
  all_goals (first | (fail_if_success refine goB 5 ?_) | (
  refine goB 5 ?_
  all_goals (refine WC.sr ?_)
  all_goals (refine Go ?_)
  all_goals (refine WL.step (ok_nilCheck rfl) rfl rfl rfl ?_)
  all_goals (refine Go ?_)
  all_goals (refine WL.ld rfl (by first | exact cell_blk hs4 rfl | assumption | exact cell_blk (by assumption) rfl) rfl rfl rfl ?_)
  all_goals (refine WL.call (vs := [_]) rfl (fun a w => Tryz.call38 a w) rfl (cl_take2 k4.cl k4.fw) rfl rfl rfl ?_
             rintro _ h5 ⟨v5, c5, kf5, hx5, hv5⟩
             have k5 : So N g h5 b cb fb bs bp mp out ob dn true v5 [] := k4.clT c5 kf5 (hx5.mono fun _ _ e => .inr e) (fun q hq => .inl (hv5 ▸ hq))
             have hb45 := hx5.obj hb4 (fun e => k4.own1 hb4 (by decide) (by decide) (by decide) (by decide) (by decide) (by rcases e with e | e; exact .inr (.inr (.inl e)); exact .inr (.inr (.inr (.inr (.inr (.inl e)))))))
             obtain ⟨Ao, co, rfl, _⟩ := id k5.own.slice
             have hs5 := k5.blk
             unfold soC at hs5
             have nb : ¬ (b = bs ∨ b = mp ∨ (Value.slice Ao ob.length co).ownBlock = some b) := fun e => by obtain ⟨⟨m, e1, s1⟩, s2, s3⟩ := k5.se; rcases e with e | e | e; exact ty_ne hs5 s1 (by decide) e; exact mp_no s3 hs5 e; exact own_ne k5.own hs5 (by decide) e
             have n3 : ¬ (b3 = bs ∨ b3 = mp ∨ (Value.slice Ao ob.length co).ownBlock = some b3) := fun e => k5.own1 hb45 (by decide) (by decide) (by decide) (by decide) (by decide) (by rcases e with e | e | e; exact .inr (.inr (.inr (.inl e))); exact .inr (.inr (.inr (.inr (.inl e)))); exact .inr (.inr (.inr (.inr (.inr (.inr e)))))))
  all_goals (refine Gn ?_)
  all_goals (refine Gs [(0, _), (3, _)] ?_)
  all_goals (refine WC.seq ?_)
  all_goals (refine WC.drawH (fun h' => Ext (fun q => q = bs ∨ q = mp ∨ (Value.slice Ao ob.length co).ownBlock = some q) h5 h') 17 18 rfl fol ?_)
  all_goals (refine WH.tk 0 rfl (fun hq hC => ok_move rfl) rfl rfl rfl ?_)
  all_goals (refine WH.tk 1 rfl (fun hq hC => ok_move rfl) rfl rfl rfl ?_)
  all_goals (refine WH.tk 2 rfl (fun hq hC => ok_nilCheck rfl) rfl rfl rfl ?_)
  all_goals (refine WH.tk 3 rfl (fun hq hC => ok_fieldAddr rfl Tryz.underlying51 rfl (fun w => Tryz.sizeOf22 w)) rfl rfl rfl ?_)
  all_goals (refine WH.tk 4 rfl (fun hq hC => ok_load (fun w => Tryz.isAgg22 w) rfl (by first | exact hC.cell (by first | exact cell_blk hs5 rfl | assumption | exact cell_blk (by assumption) rfl) (by first | exact nb | exact n3))) rfl rfl rfl ?_)
  all_goals (refine WH.tk 5 rfl (fun hq hC => ok_move rfl) rfl rfl rfl ?_)
  all_goals (refine WH.tk 6 rfl (fun hq hC => ok_nilCheck rfl) rfl rfl rfl ?_)
  all_goals (refine WH.tk 7 rfl (fun hq hC => ok_fieldAddr rfl Tryz.underlying51 rfl (fun w => Tryz.sizeOf49 w)) rfl rfl rfl ?_)
  all_goals (refine WH.tk 8 rfl (fun hq hC => ok_fieldAddr rfl Tryz.underlying49 rfl (fun w => Tryz.sizeOf27 w)) rfl rfl rfl ?_)
  all_goals (refine WH.tk 9 rfl (fun hq hC => ok_load (fun w => Tryz.isAgg27 w) rfl (by first | exact hC.cell (by first | exact cell_blk hs5 rfl | assumption | exact cell_blk (by assumption) rfl) (by first | exact nb | exact n3))) rfl rfl rfl ?_)
  all_goals (refine WH.tk 10 rfl (fun hq hC => ok_fieldAddr rfl Tryz.underlying71 rfl (fun w => Tryz.sizeOf34 w)) rfl rfl rfl ?_)
  all_goals (refine WH.tk 11 rfl (fun hq hC => ok_loadN (fun w => Tryz.isAgg34 w) (fun w => Tryz.sizeOf34 w) rfl rfl (by exact At.pre (xs := [_, _, _, _, _, _, _, _, _, _]) (ys := _) (At.tl (At.tl (At.tl (At.tl (At.tl ((At.of_block hb45).ext hC n3)))))))) rfl rfl rfl ?_)
  all_goals (refine WH.one 12 (by kernel_rfl) ?_)
  all_goals (refine Comes1.call (vs := [_, _]) rfl rfl (fun a w => Tryz.call28 a w) rfl (doS k5.se) rfl rfl rfl ?_ (fun _ => by kernel_rfl)
             rintro _ h6 ⟨qz, rfl, hz6, s6, hx6, hgz⟩
             have hC6 : Ext (fun q => q = bs ∨ q = mp ∨ (Value.slice Ao ob.length co).ownBlock = some q) h5 h6 := hx6.mono fun _ _ e => e.elim .inl (fun e => .inr (.inl e))
             have k6 := k5.seT s6 hx6)
  all_goals (refine ⟨fun _ => hC6, ?_⟩)
  all_goals (refine WH.one 13 (by kernel_rfl) ?_)
  all_goals (refine Comes1.call (vs := [_]) rfl rfl (fun a w => Tryz.call40 a w) rfl (z_bytes hz6) rfl rfl rfl ?_ (fun _ => by kernel_rfl)
             rintro v7 h7 ⟨ho7, hx7, hf7⟩
             have hC7 := hC6.trans (hx7.mono fun _ _ e => e.elim)
             have k7 := k6.ext0 hx7
             obtain ⟨A7, c7, rfl, _⟩ := id ho7.slice)
  all_goals (refine ⟨fun _ => hC7, ?_⟩)
  all_goals (refine WH.one 14 (by kernel_rfl) ?_)
  all_goals (refine Comes1.run rfl (ok_append (sz := 1) (bytes := 1) rfl Tryz.underlying22 (show Tryz.prog.info? 5 = some Tryz.t5 by kernel_rfl) rfl rfl rfl rfl (by decide) rfl rfl k7.own ho7.rd (by intro c hc; obtain ⟨b, _, rfl⟩ := List.mem_map.1 hc; rfl) (by simp [maxLen]; omega) (by omega)) rfl rfl rfl ?_ (fun _ => by kernel_rfl)
             rintro v8 h8 ⟨ho8, hx8, hl8⟩
             have hC8 := hC7.trans (hx8.mono fun _ _ e => .inr (.inr e))
             have ho8 : Own h8 v8 5 1 (ob ++ z6).length (bys (ob ++ z6)) := by rw [List.length_append, bys_app]; exact ho8
             obtain ⟨A8, c8, rfl, _⟩ := id ho8.slice
             have hs8 := hC8.obj hs5 nb)
  all_goals (refine ⟨fun _ => hC8, ?_⟩)
  all_goals (refine WH.one 15 (by kernel_rfl) ?_)
  all_goals (refine Comes1.run rfl (OkP.r (ok_nilCheck rfl)) rfl rfl rfl ?_ (fun _ => by kernel_rfl)
             rintro _ hz ⟨rfl, _⟩
             subst hz)
  all_goals (refine ⟨fun _ => by first | assumption | trivial, ?_⟩)
  all_goals (refine WH.one 16 (by kernel_rfl) ?_)
  all_goals (refine Comes1.run rfl (OkP.r (ok_fieldAddr rfl Tryz.underlying51 rfl (fun w => Tryz.sizeOf22 w))) rfl rfl rfl ?_ (fun _ => by kernel_rfl)
             rintro _ hz ⟨rfl, _⟩
             subst hz)
  all_goals (refine ⟨fun _ => by first | assumption | trivial, ?_⟩)
  all_goals (refine WH.one 17 (by kernel_rfl) ?_)
  all_goals (refine Comes1.run0 rfl (okE_store (fun w => Tryz.sizeOf22 w) rfl rfl hs8 (Nat.le_of_ble_eq_true rfl) rfl rfl) rfl rfl ?_ (fun _ => by kernel_rfl)
             rintro _ h9 ⟨hs9, hx9⟩
             have hf8 : ∀ q, (Value.slice A8 (ob ++ z6).length c8).ownBlock = some q → (Value.slice Ao ob.length co).ownBlock = some q ∨ h7.size ≤ q := kin_of hl8 (Nat.le_refl _)
             have k9 : So N g h9 b cb fb bs bp mp (Value.slice A8 (ob ++ z6).length c8) (ob ++ z6) dn true v5 [] := k7.outT hs9 (ho8.ext hx9 (fun q hq e => own_ne ho8 hs8 (by decide) (e ▸ hq))) ((hx8.mono fun _ _ e => .inr e).trans (hx9.mono fun _ _ e => .inl e)) hf8)
  all_goals (refine ⟨fun e => (by cases e), ?_⟩)
  all_goals (refine WH.done (by kernel_rfl) ?_)
  all_goals (refine Gn ?_)
  all_goals (refine Gs [(0, _)] ?_)
  all_goals (refine WC.region ?_)
  all_goals (refine Go ?_)
  all_goals (refine WL.step (ok_nilCheck rfl) rfl rfl rfl ?_)
  all_goals (refine Go ?_)
  all_goals (refine WL.ld rfl (by first | exact cell_blk hs9 rfl | assumption | exact cell_blk (by assumption) rfl) rfl rfl rfl ?_)
  all_goals (refine Go ?_)
  all_goals (refine WL.step (ok_nilCheck rfl) rfl rfl rfl ?_)
  all_goals (refine Go ?_)
  all_goals (refine WL.stepR0 (okE_store (fun w => Tryz.sizeOf3 w) rfl rfl hs9 (Nat.le_of_ble_eq_true rfl) rfl rfl) rfl rfl ?_
             rintro _ h10 ⟨hs10, hx10⟩)
  all_goals (refine Gn ?_)
  skip))
  all_goals (first | (fail_if_success refine goB 6 ?_) | (
  refine goB 6 ?_
  all_goals (refine WC.sr ?_)
  all_goals (refine Go ?_)
  all_goals (refine Gt ?_)
  all_goals (exact ⟨rfl, _, v5, k9.outT hs10 (k9.own.ext hx10 (fun q hq e => own_ne k9.own hs9 (by decide) (e ▸ hq))) (hx10.mono fun _ _ e => .inl e) (fun q hq => .inl hq)⟩)
  skip))
  skip))
  all_goals (refine Gn ?_)
  all_goals (refine WC.sr ?_)
  all_goals (refine Go ?_)
  all_goals (refine Gt ?_)
  all_goals (exact ⟨rfl, _, v5, k9.outT hs10 (k9.own.ext hx10 (fun q hq e => own_ne k9.own hs9 (by decide) (e ▸ hq))) (hx10.mono fun _ _ e => .inl e) (fun q hq => .inl hq)⟩)
end
end Go.Proofs.YtdjjpbbhcidaaaaGreatDoor


/-
  A SERVER (layer 31), by the code: what was said is taken.
-/
namespace Go.Proofs.YtdjjpbbhcidaaaaGreatDoor
open Go Go.RK

end Go.Proofs.YtdjjpbbhcidaaaaGreatDoor


/-
  A SERVER (layer 31), by the code: New, Feed, Take, Over, Session.
-/
namespace Go.Proofs.YtdjjpbbhcidaaaaGreatDoor
open Go Go.RK

/-- A server that no call made. -/
def NoSv (h : Heap) (p : Value) : Prop := p = .pointer none ∨ ∃ b, p = .pointer (some ⟨b, 0, none⟩) ∧ h[b]? = some (.cells ⟨svC (.slice none 0 0) (.pointer none) (.pointer none) (.slice none 0 0) (In 0) false false⟩ 30 (0, 0))
theorem NoSv.ext0 {h h' : Heap} {p : Value} (k : NoSv h p) (x : Ext No h h') : NoSv h' p := by
  rcases k with rfl | ⟨b, rfl, hb⟩
  · exact .inl rfl
  · exact .inr ⟨b, rfl, x.obj hb nos⟩
abbrev frZ : List Value := [.int .u8 0, .int .u8 0, St [], St [], St [], .slice none 0 0, .slice none 0 0, .slice none 0 0, .slice none 0 0, In 0]
end Go.Proofs.YtdjjpbbhcidaaaaGreatDoor


/-
  A SERVER (layer 31), by the code: New, Feed, Take, Over.
-/
namespace Go.Proofs.YtdjjpbbhcidaaaaGreatDoor
open Go Go.RK

set_option maxHeartbeats 2000000 in
set_option maxRecDepth 100000 in
theorem clone_nilp {h : Heap} : CallsH Tryz.prog 68 ⟨[.slice none 0 0]⟩ h fun u h' => u = .slice none 0 0 ∧ h' = h := by
  refine calls [(0, _)] Tryz.func68 rfl Tryz.ntmps68 rfl ⟨rfl, trivial⟩ ?_
  all_goals (refine WC.sr ?_)
  all_goals (refine Go ?_)
  all_goals (refine WC.seq ?_)
  all_goals (refine WC.sr ?_)
  all_goals (refine Go ?_)
  all_goals (refine WL.step (ok_eqlSn Tryz.underlying28 rfl rfl) rfl rfl rfl ?_)
  all_goals (refine Gn ?_)
  all_goals (refine goC 1 2 ?_ ?_ <;> first | exact ⟨⟩ | refine Hb.mk fun hb => ?_ | skip)
  all_goals (first | (fail_if_success refine goB 1 ?_) | (
  refine goB 1 ?_
  all_goals (refine WC.sr ?_)
  all_goals (refine Go ?_)
  all_goals (refine Gt ?_)
  all_goals (exact ⟨rfl, rfl⟩)
  skip))
  all_goals (first | (fail_if_success refine goB 2 ?_) | (
  refine goB 2 ?_
  all_goals (refine WC.skip ?_)
  skip))
  all_goals (refine Gn ?_)
  all_goals (refine WC.sr ?_)
  all_goals (refine WL.stepR (okE_buildSlice (vs := []) (cs := []) (fun _ => []) Tryz.underlying28 rfl rfl (by kernel_rfl)) rfl rfl rfl ?_
             rintro _ h1 ⟨b1, rfl, hg1, hb1, hx1⟩)
  all_goals (refine Go ?_)
  all_goals (refine WL.stepR (ok_append (sz := 2) (bytes := 32) rfl Tryz.underlying28 (show Tryz.prog.info? 125 = some Tryz.t125 by kernel_rfl) rfl rfl rfl rfl (by decide) rfl rfl (by assumption) (by first | assumption | exact rd_blk (by assumption) rfl) (by simp [Value.oneCell']) (by simp only [maxLen]; omega) (by omega)) rfl rfl rfl ?_
             rintro v1 h1 ⟨ho1, hx1, hl1⟩)
  all_goals (refine Go ?_)
  all_goals (refine Gs [(2, _)] ?_)
  all_goals (refine Gt ?_)
  all_goals (exact ⟨rfl, rfl⟩)
end Go.Proofs.YtdjjpbbhcidaaaaGreatDoor


/-
  A CLIENT ALONE (layer 44), by the code: New, Out, Done, Status; those that no call made; the law's awake.
-/
namespace Go.Proofs.YtdjjpbbhcidaaaaGreatDoor
open Go Go.RK

section
variable {N : Nat → Prop} {g h h' : Heap} {b cb fb bs bp mp : Nat} {out out' v v' : Value} {ob ob' l l' : List UInt8} {dn dn' : Int} {bg bg' : Bool} {S : Nat → Prop}
set_option maxHeartbeats 2000000 in
set_option maxRecDepth 100000 in
theorem so_new {a : Addr} : CallsH Tryz.prog 42 ⟨[.pointer (some a), .slice none 0 0, In 0]⟩ h fun u h' => ∃ b cb fb bs bp mp, u = .pointer (some ⟨b, 0, none⟩) ∧ So (fun q => q < h.size) h h' b cb fb bs bp mp (.slice none 0 0) [] 0 false (.slice none 0 0) [] := by
  refine calls [(0, _), (1, _), (2, _)] Tryz.func42 rfl Tryz.ntmps42 rfl ⟨rfl, rfl, rfl, trivial⟩ ?_
  all_goals (refine WC.sr ?_)
  all_goals (refine Go ?_)
  all_goals (refine WC.sr ?_)
  all_goals (refine WL.call (vs := [_, _]) rfl (fun a w => Tryz.call76 a w) rfl (cl_new) rfl rfl rfl ?_
             rintro _ h1 ⟨cb, fb, rfl, c1, kf1, hgc, hgf, hx1⟩)
  all_goals (refine Go ?_)
  all_goals (refine Gs [(0, _), (1, _), (2, _), (7, _), (8, _)] ?_)
  all_goals (refine WC.seq ?_)
  all_goals (refine WC.sr ?_)
  all_goals (refine Go ?_)
  all_goals (refine goC 1 2 ?_ ?_ <;> first | exact ⟨⟩ | refine Hb.mk fun hb => ?_ | skip)
  all_goals (first | (fail_if_success refine goB 1 ?_) | (
  refine goB 1 ?_
  all_goals (refine WC.sr ?_)
  all_goals (refine Go ?_)
  all_goals (refine Gs [(6, _)] ?_)
  all_goals (refine Gt ?_)
  all_goals (exact ⟨b, cb, fb, bs, bp, mp, rfl, hb3, Own.nil _ _ _, X23.obj c1 nos, kf1.ext0 X23, s2.ext0 hx3, fun _ e => e, ⟨by omega, by omega, by omega, by omega, by omega⟩, ⟨fun q hq => (by cases hq), fun q hq => (by cases hq)⟩, fun q hq => (by cases hq), (hx1.trans X23).mono fun _ _ e => e.elim⟩)
  skip))
  all_goals (first | (fail_if_success refine goB 2 ?_) | (
  refine goB 2 ?_
  all_goals (refine WC.skip ?_)
  skip))
  all_goals (refine Gn ?_)
  all_goals (refine WC.sr ?_)
  all_goals (refine Go ?_)
  all_goals (refine WL.call (vs := [_]) rfl (fun a w => Tryz.call67 a w) rfl (new_sess _) rfl rfl rfl ?_
             rintro _ h2 ⟨bs, ms, bp, mp, rfl, hbs, _, hbp, hmp, hgm, hlm, hgp, hgs, hx2⟩)
  all_goals (refine WL.step (ok_buildF (vs := [_, _]) (cs := [_, _]) (fun | [a0, a1] => [a0, a1] | _ => []) rfl rfl (by kernel_rfl)) rfl rfl rfl ?_)
  all_goals (refine Go ?_)
  all_goals (refine WL.call (vs := [_]) rfl (fun a w => Tryz.call68 a w) rfl (clone_nilp) rfl rfl rfl ?_
             rintro _ hz ⟨rfl, _⟩
             subst hz)
  all_goals (refine Go ?_)
  all_goals (refine WL.step (ok_buildF (vs := [_, _, _]) (cs := [_, _, _, _, _, _, _]) (fun | [.agg ⟨[a0, a1]⟩, a2, a3] => [a0, a1, a2, a3, (.slice none 0 0), (.int .i64 0), (.bool false)] | _ => []) rfl rfl (by kernel_rfl)) rfl rfl rfl ?_)
  all_goals (refine WL.stepR (okE_box rfl) rfl rfl rfl ?_
             rintro _ h3 ⟨b, rfl, hg3, hb3, hx3⟩
             have l1 := hx1.size
             have l2 := hx2.size
             have s2 : SeS h2 bs bp mp := ⟨⟨_, _, hbs⟩, hbp, hmp⟩
             have X23 := hx2.trans hx3)
  all_goals (refine Go ?_)
  all_goals (refine Gs [(6, _)] ?_)
  all_goals (refine Gt ?_)
  all_goals (exact ⟨b, cb, fb, bs, bp, mp, rfl, hb3, Own.nil _ _ _, X23.obj c1 nos, kf1.ext0 X23, s2.ext0 hx3, fun _ e => e, ⟨by omega, by omega, by omega, by omega, by omega⟩, ⟨fun q hq => (by cases hq), fun q hq => (by cases hq)⟩, fun q hq => (by cases hq), (hx1.trans X23).mono fun _ _ e => e.elim⟩)
set_option maxHeartbeats 2000000 in
set_option maxRecDepth 100000 in
theorem so_out (k : So N g h b cb fb bs bp mp out ob dn bg v l) (hlo : ob.length ≤ 1000) : CallsH Tryz.prog 15 ⟨[.pointer (some ⟨b, 0, none⟩)]⟩ h fun u h' => Own h' u 5 1 ob.length (bys ob) ∧ Ext No h h' ∧ ∀ q, u.ownBlock = some q → h.size ≤ q := by
  have kr := so_ready k
  have hb := k.blk
  unfold soC at hb
  obtain ⟨Ao, co, rfl, _⟩ := id k.own.slice
  refine calls [(0, _)] Tryz.func15 rfl Tryz.ntmps15 rfl ⟨rfl, trivial⟩ ?_
  all_goals (refine WC.sr ?_)
  all_goals (refine Go ?_)
  all_goals (refine WC.seq ?_)
  all_goals (refine WC.sr ?_)
  all_goals (refine Go ?_)
  all_goals (refine WL.call (vs := [_]) rfl (fun a w => Tryz.call35 a w) rfl (kr) rfl rfl rfl ?_
             rintro _ hq ⟨rfl, hz⟩
             replace hz := hz.symm
             subst hz)
  all_goals (refine Go ?_)
  all_goals (refine goC 1 2 ?_ ?_ <;> first | exact ⟨⟩ | refine Hb.mk fun hb => ?_ | skip)
  all_goals (first | (fail_if_success refine goB 1 ?_) | (
  refine goB 1 ?_
  all_goals (refine WC.sr ?_)
  all_goals (refine Go ?_)
  all_goals (refine Gs [(2, _)] ?_)
  all_goals (refine Gt ?_)
  all_goals (exact ⟨ho1, hx1, hf1⟩)
  skip))
  all_goals (first | (fail_if_success refine goB 2 ?_) | (
  refine goB 2 ?_
  all_goals (refine WC.skip ?_)
  skip))
  all_goals (refine Gn ?_)
  all_goals (refine Gs [(0, _)] ?_)
  all_goals (refine WC.sr ?_)
  all_goals (refine Go ?_)
  all_goals (refine WL.step (ok_nilCheck rfl) rfl rfl rfl ?_)
  all_goals (refine Go ?_)
  all_goals (refine WL.ld rfl (by first | exact cell_blk hb rfl | assumption | exact cell_blk (by assumption) rfl) rfl rfl rfl ?_)
  all_goals (refine WL.call (vs := [_]) rfl (fun a w => Tryz.call41 a w) rfl (clone_byt ob k.own.rd (by omega)) rfl rfl rfl ?_
             rintro v1 h1 ⟨ho1, hx1, hf1⟩)
  all_goals (refine Go ?_)
  all_goals (refine Gs [(2, _)] ?_)
  all_goals (refine Gt ?_)
  all_goals (exact ⟨ho1, hx1, hf1⟩)
set_option maxHeartbeats 2000000 in
set_option maxRecDepth 100000 in
theorem so_done (k : So N g h b cb fb bs bp mp out ob dn bg v l) : CallsH Tryz.prog 14 ⟨[.pointer (some ⟨b, 0, none⟩)]⟩ h fun u h' => u = In dn ∧ h' = h := by
  have kr := so_ready k
  have hb := k.blk
  unfold soC at hb
  refine calls [(0, _)] Tryz.func14 rfl Tryz.ntmps14 rfl ⟨rfl, trivial⟩ ?_
  all_goals (refine WC.sr ?_)
  all_goals (refine Go ?_)
  all_goals (refine WC.seq ?_)
  all_goals (refine WC.sr ?_)
  all_goals (refine Go ?_)
  all_goals (refine WL.call (vs := [_]) rfl (fun a w => Tryz.call35 a w) rfl (kr) rfl rfl rfl ?_
             rintro _ hq ⟨rfl, hz⟩
             replace hz := hz.symm
             subst hz)
  all_goals (refine Go ?_)
  all_goals (refine goC 1 2 ?_ ?_ <;> first | exact ⟨⟩ | refine Hb.mk fun hb => ?_ | skip)
  all_goals (first | (fail_if_success refine goB 1 ?_) | (
  refine goB 1 ?_
  all_goals (refine WC.sr ?_)
  all_goals (refine Go ?_)
  all_goals (refine Gs [(2, _)] ?_)
  all_goals (refine Gt ?_)
  all_goals (exact ⟨rfl, rfl⟩)
  skip))
  all_goals (first | (fail_if_success refine goB 2 ?_) | (
  refine goB 2 ?_
  all_goals (refine WC.skip ?_)
  skip))
  all_goals (refine Gn ?_)
  all_goals (refine Gs [(0, _)] ?_)
  all_goals (refine WC.sr ?_)
  all_goals (refine Go ?_)
  all_goals (refine WL.step (ok_nilCheck rfl) rfl rfl rfl ?_)
  all_goals (refine Go ?_)
  all_goals (refine WL.ld rfl (by first | exact cell_blk hb rfl | assumption | exact cell_blk (by assumption) rfl) rfl rfl rfl ?_)
  all_goals (refine Go ?_)
  all_goals (refine Gs [(2, _)] ?_)
  all_goals (refine Gt ?_)
  all_goals (exact ⟨rfl, rfl⟩)
/-- A client alone that no call made. -/
def NoSo (h : Heap) (p : Value) : Prop := p = .pointer none ∨ ∃ b, p = .pointer (some ⟨b, 0, none⟩) ∧ h[b]? = some (.cells ⟨[.pointer none, .pointer none, .slice none 0 0, In 0, .slice none 0 0, In 0, .bool false]⟩ 51 (0, 0))
end
end Go.Proofs.YtdjjpbbhcidaaaaGreatDoor


/-
  BYTES THAT BEGIN OTHERS (layer 45), by the code and by the document.
-/
namespace Go.Proofs.YtdjjpbbhcidaaaaGreatDoor
open Go Go.RK

section
variable {h : Heap} {v w : Value}
set_option maxHeartbeats 2000000 in
set_option maxRecDepth 100000 in
theorem eq_bytes (l m : List UInt8) (hr : Rd h v 1 l.length (bys l)) (hs : Rd h w 1 m.length (bys m)) : CallsH Tryz.prog 21 ⟨[v, w]⟩ h fun u h' => u = .bool (decide (l = m)) ∧ h' = h := by
  obtain ⟨A, c, rfl, _⟩ := id hr
  obtain ⟨B, d, rfl, _⟩ := id hs
  refine calls [(0, _), (1, _)] Tryz.func21 rfl Tryz.ntmps21 rfl ⟨rfl, rfl, trivial⟩ ?_
  all_goals (refine WC.sr ?_)
  all_goals (refine Go ?_)
  all_goals (refine WC.sr ?_)
  all_goals (refine Go ?_)
  all_goals (refine WL.step (ok_convBS Tryz.underlying22 Tryz.underlying5 Tryz.underlying9 rfl hr) rfl rfl rfl ?_)
  all_goals (refine Go ?_)
  all_goals (refine WL.step (ok_convBS Tryz.underlying22 Tryz.underlying5 Tryz.underlying9 rfl hs) rfl rfl rfl ?_)
  all_goals (refine WL.step (ok_eqlS rfl rfl) rfl rfl rfl ?_)
  all_goals (refine Go ?_)
  all_goals (refine Gs [(4, _)] ?_)
  all_goals (refine Gt ?_)
  all_goals (exact ⟨congrArg Value.bool (by first | rfl | simp), rfl⟩)
theorem pre_take {p l : List UInt8} : decide (l.take p.length = p) = decide (p <+: l) := by
  have : l.take p.length = p ↔ p <+: l := by rw [List.prefix_iff_eq_take]; exact ⟨Eq.symm, Eq.symm⟩
  simp [this]
theorem pre_long {p l : List UInt8} (hl : ¬ p.length ≤ l.length) : decide (p <+: l) = false := by
  rw [decide_eq_false_iff_not]
  exact fun e => hl e.length_le
set_option maxHeartbeats 2000000 in
set_option maxRecDepth 100000 in
theorem has_pre (l p : List UInt8) (hr : Rd h v 1 l.length (bys l)) (hs : Rd h w 1 p.length (bys p)) : CallsH Tryz.prog 46 ⟨[v, w]⟩ h fun u h' => u = .bool (decide (p <+: l)) ∧ h' = h := by
  obtain ⟨A, c, rfl, hcap, _⟩ := id hr
  obtain ⟨B, d, rfl, _⟩ := id hs
  by_cases hl : p.length ≤ l.length
  · have hrt : Rd h (.slice A p.length c) 1 (l.take p.length).length (bys (l.take p.length)) := by
      have := hr.take hl
      rw [show (bys l).take (p.length * 1) = bys (l.take p.length) by simp [bys]] at this
      rw [List.length_take, Nat.min_eq_left hl]
      exact this
    have ke := eq_bytes (l.take p.length) p hrt hs
    rw [pre_take] at ke
    refine calls [(0, _), (1, _)] Tryz.func46 rfl Tryz.ntmps46 rfl ⟨rfl, rfl, trivial⟩ ?_
    all_goals (refine WC.sr ?_)
    all_goals (refine Go ?_)
    all_goals (refine WC.sr ?_)
    all_goals (refine Go ?_)
    all_goals (refine goP 10 ?_ ?_ <;> first | exact ⟨⟩ | refine Hb.mk fun hb => ?_ | skip)
    all_goals (refine Gg ?_)
    all_goals (first | (refine WL.pass rfl rfl rfl ?_) | (first | (refine WL.step (ok_slice_hN Tryz.underlying22 (fun w => Tryz.sizeOf5 w) rfl rfl (by omega)) rfl rfl rfl ?_) | (refine WL.step (ok_slice_h Tryz.underlying22 (fun w => Tryz.sizeOf5 w) rfl rfl (by omega)) rfl rfl rfl ?_)))
    all_goals (refine Gg ?_)
    all_goals (first
                 | (refine WL.pass rfl rfl rfl ?_)
                 | (refine WL.call (vs := [_, _]) rfl (fun a w => Tryz.call21 a w) rfl (ke) rfl rfl rfl ?_
                    rintro _ hq ⟨rfl, hz⟩
                    replace hz := hz.symm
                    subst hz))
    all_goals (refine Go ?_)
    all_goals (refine Gs [(4, _)] ?_)
    all_goals (refine Gt ?_)
    all_goals (exact ⟨rfl, rfl⟩)
  · rw [pre_long hl]
    refine calls [(0, _), (1, _)] Tryz.func46 rfl Tryz.ntmps46 rfl ⟨rfl, rfl, trivial⟩ ?_
    all_goals (refine WC.sr ?_)
    all_goals (refine Go ?_)
    all_goals (refine WC.sr ?_)
    all_goals (refine Go ?_)
    all_goals (refine goP 10 ?_ ?_ <;> first | exact ⟨⟩ | refine Hb.mk fun hb => ?_ | skip)
    all_goals (refine Gg ?_)
    all_goals (first | (refine WL.pass rfl rfl rfl ?_) | (first | (refine WL.step (ok_slice_hN Tryz.underlying22 (fun w => Tryz.sizeOf5 w) rfl rfl (by omega)) rfl rfl rfl ?_) | (refine WL.step (ok_slice_h Tryz.underlying22 (fun w => Tryz.sizeOf5 w) rfl rfl (by omega)) rfl rfl rfl ?_)))
    all_goals (refine Gg ?_)
    all_goals (first | (refine WL.pass rfl rfl rfl ?_) | (fail "no contract for call of bytes.Equal at 1.11"))
    all_goals (refine Go ?_)
    all_goals (refine Gs [(4, _)] ?_)
    all_goals (refine Gt ?_)
    all_goals (exact ⟨rfl, rfl⟩)
set_option maxHeartbeats 2000000 in
set_option maxRecDepth 100000 in
theorem mix_pre (p l : List UInt8) (hs : Rd h w 1 p.length (bys p)) (hr : Rd h v 1 l.length (bys l)) : CallsH Tryz.prog 18 ⟨[w, v]⟩ h fun u h' => u = .bool (decide (p <+: l)) ∧ h' = h := by
  have kh := has_pre l p hr hs
  refine calls [(0, _), (1, _)] Tryz.func18 rfl Tryz.ntmps18 rfl ⟨rfl, rfl, trivial⟩ ?_
  all_goals (refine WC.sr ?_)
  all_goals (refine Go ?_)
  all_goals (refine WC.sr ?_)
  all_goals (refine Go ?_)
  all_goals (refine WL.call (vs := [_, _]) rfl (fun a w => Tryz.call46 a w) rfl (kh) rfl rfl rfl ?_
             rintro _ hq ⟨rfl, hz⟩
             replace hz := hz.symm
             subst hz)
  all_goals (refine Go ?_)
  all_goals (refine Gs [(4, _)] ?_)
  all_goals (refine Gt ?_)
  all_goals (exact ⟨rfl, rfl⟩)
set_option maxHeartbeats 2000000 in
set_option maxRecDepth 100000 in
theorem ref_pre (p l : List UInt8) (hs : Rd h w 1 p.length (bys p)) (hr : Rd h v 1 l.length (bys l)) : CallsH Tryz.prog 19 ⟨[w, v]⟩ h fun u h' => u = .bool (decide (p <+: l)) ∧ h' = h := by
  obtain ⟨A, c, rfl, hcap, _⟩ := id hr
  obtain ⟨B, d, rfl, _⟩ := id hs
  by_cases hl : p.length ≤ l.length
  · have hrt : Rd h (.slice A p.length c) 1 p.length (bys (l.take p.length)) := by
      have := hr.take hl
      rw [show (bys l).take (p.length * 1) = bys (l.take p.length) by simp [bys]] at this
      exact this
    rw [← pre_take]
    refine calls [(0, _), (1, _)] Tryz.func19 rfl Tryz.ntmps19 rfl ⟨rfl, rfl, trivial⟩ ?_
    all_goals (refine WC.sr ?_)
    all_goals (refine Go ?_)
    all_goals (refine WC.seq ?_)
    all_goals (refine WC.drawE fol (by kernel_rfl) ?_)
    all_goals (refine WQ.stepE (ok_move rfl) rfl rfl rfl ?_)
    all_goals (refine WQ.stepE (ok_lenL rfl Tryz.underlying22 rfl) rfl rfl rfl ?_)
    all_goals (refine WQ.stepE (ok_move rfl) rfl rfl rfl ?_)
    all_goals (refine WQ.stepE (ok_lenL rfl Tryz.underlying22 rfl) rfl rfl rfl ?_)
    all_goals (first | (refine WQ.stepE (OkP.bool_t (by omega) (ok_leq rfl rfl)) rfl rfl rfl ?_) | (refine WQ.stepE (OkP.bool_f (by omega) (ok_leq rfl rfl)) rfl rfl rfl ?_) | (refine WQ.stepE (ok_leq rfl rfl) rfl rfl rfl ?_))
    all_goals (refine WQ.stepE (ok_move rfl) rfl rfl rfl ?_)
    all_goals (try ((fail_if_success (refine WQ.part 10 (b := true) rfl (fun _ => ?_) (fun _ => ?_))); (fail_if_success (refine WQ.part 10 (b := false) rfl (fun _ => ?_) (fun _ => ?_))); (refine WQ.part 10 rfl (fun hb => ?_) (fun hb => ?_) <;> (first | replace hb := of_decide_eq_true hb | replace hb := of_decide_eq_false hb | replace hb := of_decide_eq_false (nt hb) | replace hb := of_decide_eq_true (nf hb) | skip))))
    all_goals (first | (refine WQ.pass rfl rfl rfl ?_) | (refine WQ.stepE (ok_move rfl) rfl rfl rfl ?_))
    all_goals (first | (refine WQ.pass rfl rfl rfl ?_) | (refine WQ.stepE (ok_move rfl) rfl rfl rfl ?_))
    all_goals (first | (refine WQ.pass rfl rfl rfl ?_) | (refine WQ.stepE (ok_lenL rfl Tryz.underlying22 rfl) rfl rfl rfl ?_))
    all_goals (first | (refine WQ.pass rfl rfl rfl ?_) | (first | (refine WQ.stepE (ok_slice_hN Tryz.underlying22 (fun w => Tryz.sizeOf5 w) rfl rfl (by omega)) rfl rfl rfl ?_) | (refine WQ.stepE (ok_slice_h Tryz.underlying22 (fun w => Tryz.sizeOf5 w) rfl rfl (by omega)) rfl rfl rfl ?_)))
    all_goals (first | (refine WQ.pass rfl rfl rfl ?_) | (refine WQ.stepE (ok_convBS Tryz.underlying22 Tryz.underlying5 Tryz.underlying9 rfl hrt) rfl rfl rfl ?_))
    all_goals (first | (refine WQ.pass rfl rfl rfl ?_) | (refine WQ.stepE (ok_move rfl) rfl rfl rfl ?_))
    all_goals (first | (refine WQ.pass rfl rfl rfl ?_) | (refine WQ.stepE (ok_convBS Tryz.underlying22 Tryz.underlying5 Tryz.underlying9 rfl hs) rfl rfl rfl ?_))
    all_goals (first | (refine WQ.pass rfl rfl rfl ?_) | (first | (refine WQ.stepE (OkP.bool_t (by first | rfl | assumption | decide) (ok_eqlS rfl rfl)) rfl rfl rfl ?_) | (refine WQ.stepE (OkP.bool_f (by first | assumption | decide) (ok_eqlS rfl rfl)) rfl rfl rfl ?_) | (refine WQ.stepE (ok_eqlS rfl rfl) rfl rfl rfl ?_)))
    all_goals (first | (refine WQ.stepE (ok_pick_t rfl rfl) rfl rfl rfl ?_) | (refine WQ.stepE (ok_pick_f rfl rfl) rfl rfl rfl ?_))
    all_goals (refine WQ.stepE (ok_assign rfl) rfl rfl rfl ?_)
    all_goals (refine WQ.nil ?_)
    all_goals (refine Gn ?_)
    all_goals (refine Gs [(4, _)] ?_)
    all_goals (refine Gt ?_)
    all_goals (exact ⟨congrArg Value.bool (by first | rfl | simp), rfl⟩)
  · rw [pre_long hl]
    refine calls [(0, _), (1, _)] Tryz.func19 rfl Tryz.ntmps19 rfl ⟨rfl, rfl, trivial⟩ ?_
    all_goals (refine WC.sr ?_)
    all_goals (refine Go ?_)
    all_goals (refine WC.seq ?_)
    all_goals (refine WC.drawE fol (by kernel_rfl) ?_)
    all_goals (refine WQ.stepE (ok_move rfl) rfl rfl rfl ?_)
    all_goals (refine WQ.stepE (ok_lenL rfl Tryz.underlying22 rfl) rfl rfl rfl ?_)
    all_goals (refine WQ.stepE (ok_move rfl) rfl rfl rfl ?_)
    all_goals (refine WQ.stepE (ok_lenL rfl Tryz.underlying22 rfl) rfl rfl rfl ?_)
    all_goals (first | (refine WQ.stepE (OkP.bool_t (by omega) (ok_leq rfl rfl)) rfl rfl rfl ?_) | (refine WQ.stepE (OkP.bool_f (by omega) (ok_leq rfl rfl)) rfl rfl rfl ?_) | (refine WQ.stepE (ok_leq rfl rfl) rfl rfl rfl ?_))
    all_goals (refine WQ.stepE (ok_move rfl) rfl rfl rfl ?_)
    all_goals (try ((fail_if_success (refine WQ.part 10 (b := true) rfl (fun _ => ?_) (fun _ => ?_))); (fail_if_success (refine WQ.part 10 (b := false) rfl (fun _ => ?_) (fun _ => ?_))); (refine WQ.part 10 rfl (fun hb => ?_) (fun hb => ?_) <;> (first | replace hb := of_decide_eq_true hb | replace hb := of_decide_eq_false hb | replace hb := of_decide_eq_false (nt hb) | replace hb := of_decide_eq_true (nf hb) | skip))))
    all_goals (first | (refine WQ.pass rfl rfl rfl ?_) | (refine WQ.stepE (ok_move rfl) rfl rfl rfl ?_))
    all_goals (first | (refine WQ.pass rfl rfl rfl ?_) | (refine WQ.stepE (ok_move rfl) rfl rfl rfl ?_))
    all_goals (first | (refine WQ.pass rfl rfl rfl ?_) | (refine WQ.stepE (ok_lenL rfl Tryz.underlying22 rfl) rfl rfl rfl ?_))
    all_goals (first | (refine WQ.pass rfl rfl rfl ?_) | (first | (refine WQ.stepE (ok_slice_hN Tryz.underlying22 (fun w => Tryz.sizeOf5 w) rfl rfl (by omega)) rfl rfl rfl ?_) | (refine WQ.stepE (ok_slice_h Tryz.underlying22 (fun w => Tryz.sizeOf5 w) rfl rfl (by omega)) rfl rfl rfl ?_)))
    all_goals (first | (refine WQ.pass rfl rfl rfl ?_) | (refine WQ.stepE (ok_convBS Tryz.underlying22 Tryz.underlying5 Tryz.underlying9 rfl (by assumption)) rfl rfl rfl ?_))
    all_goals (first | (refine WQ.pass rfl rfl rfl ?_) | (refine WQ.stepE (ok_move rfl) rfl rfl rfl ?_))
    all_goals (first | (refine WQ.pass rfl rfl rfl ?_) | (refine WQ.stepE (ok_convBS Tryz.underlying22 Tryz.underlying5 Tryz.underlying9 rfl (by assumption)) rfl rfl rfl ?_))
    all_goals (first | (refine WQ.pass rfl rfl rfl ?_) | (first | (refine WQ.stepE (OkP.bool_t (by first | rfl | assumption | decide) (ok_eqlS rfl rfl)) rfl rfl rfl ?_) | (refine WQ.stepE (OkP.bool_f (by first | assumption | decide) (ok_eqlS rfl rfl)) rfl rfl rfl ?_) | (refine WQ.stepE (ok_eqlS rfl rfl) rfl rfl rfl ?_)))
    all_goals (first | (refine WQ.stepE (ok_pick_t rfl rfl) rfl rfl rfl ?_) | (refine WQ.stepE (ok_pick_f rfl rfl) rfl rfl rfl ?_))
    all_goals (refine WQ.stepE (ok_assign rfl) rfl rfl rfl ?_)
    all_goals (refine WQ.nil ?_)
    all_goals (refine Gn ?_)
    all_goals (refine Gs [(4, _)] ?_)
    all_goals (refine Gt ?_)
    all_goals (exact ⟨rfl, rfl⟩)
set_option maxHeartbeats 2000000 in
set_option maxRecDepth 100000 in
theorem suf_no {A B : Option Addr} {n m c d : Nat} (hl : n < m) : CallsH Tryz.prog 188 ⟨[.slice A n c, .slice B m d]⟩ h fun u h' => u = .bool false ∧ h' = h := by
  refine calls [(0, _), (1, _)] Tryz.func188 rfl Tryz.ntmps188 rfl ⟨rfl, rfl, trivial⟩ ?_
  all_goals (refine WC.sr ?_)
  all_goals (refine Go ?_)
  all_goals (refine WC.sr ?_)
  all_goals (refine WL.step (ok_move rfl) rfl rfl rfl ?_)
  all_goals (refine WL.step (ok_lenL rfl Tryz.underlying22 rfl) rfl rfl rfl ?_)
  all_goals (refine WL.step (ok_move rfl) rfl rfl rfl ?_)
  all_goals (refine WL.step (ok_lenL rfl Tryz.underlying22 rfl) rfl rfl rfl ?_)
  all_goals (refine WL.step (OkP.bool_f (by omega) (ok_geq rfl rfl)) rfl rfl rfl ?_)
  all_goals (refine Go ?_)
  all_goals (refine goP 10 ?_ ?_ <;> first | exact ⟨⟩ | refine Hb.mk fun hb => ?_ | skip)
  all_goals (first | (refine WL.pass rfl rfl rfl ?_) | (refine WL.step (ok_move rfl) rfl rfl rfl ?_))
  all_goals (first | (refine WL.pass rfl rfl rfl ?_) | (refine WL.step (ok_move rfl) rfl rfl rfl ?_))
  all_goals (first | (refine WL.pass rfl rfl rfl ?_) | (refine WL.step (ok_lenL rfl Tryz.underlying22 rfl) rfl rfl rfl ?_))
  all_goals (first | (refine WL.pass rfl rfl rfl ?_) | (refine WL.step (ok_move rfl) rfl rfl rfl ?_))
  all_goals (first | (refine WL.pass rfl rfl rfl ?_) | (refine WL.step (ok_lenL rfl Tryz.underlying22 rfl) rfl rfl rfl ?_))
  all_goals (skip)
  all_goals (first | (refine WL.pass rfl rfl rfl ?_) | (first | (refine WL.step (ok_subI rfl rfl (by omega)) rfl rfl rfl ?_) | (refine WL.step (ok_sub rfl rfl) rfl rfl rfl ?_)))
  all_goals (first | (refine WL.pass rfl rfl rfl ?_) | (first | (refine WL.step (ok_slice_lN Tryz.underlying22 (fun w => Tryz.sizeOf5 w) rfl rfl (by omega)) rfl rfl rfl ?_) | (refine WL.step (ok_slice_lS Tryz.underlying22 (fun w => Tryz.sizeOf5 w) rfl rfl (by omega)) rfl rfl rfl ?_) | (refine WL.step (ok_slice_l Tryz.underlying22 (fun w => Tryz.sizeOf5 w) rfl rfl (by omega)) rfl rfl rfl ?_)))
  all_goals (skip)
  all_goals (first | (refine WL.pass rfl rfl rfl ?_) | (refine WL.step (ok_move rfl) rfl rfl rfl ?_))
  all_goals (first | (refine WL.pass rfl rfl rfl ?_) | (fail "no contract for call of bytes.Equal at 1.14"))
  all_goals (refine Go ?_)
  all_goals (refine Gs [(4, _)] ?_)
  all_goals (refine Gt ?_)
  all_goals (exact ⟨rfl, rfl⟩)
set_option maxHeartbeats 2000000 in
set_option maxRecDepth 100000 in
theorem suf_all (l : List UInt8) (hr : Rd h v 1 l.length (bys l)) (hs : Rd h w 1 l.length (bys l)) (hm : l.length ≤ 1000000) : CallsH Tryz.prog 188 ⟨[v, w]⟩ h fun u h' => u = .bool true ∧ h' = h := by
  obtain ⟨A, c, rfl, hcap, _⟩ := id hr
  obtain ⟨B, d, rfl, _⟩ := id hs
  have hr0 := hr.drop (l := 0) (Nat.zero_le _)
  have ke := eq_bytes l l (by simpa [bys] using hr0) hs
  rw [show decide (l = l) = true from decide_eq_true rfl] at ke
  refine calls [(0, _), (1, _)] Tryz.func188 rfl Tryz.ntmps188 rfl ⟨rfl, rfl, trivial⟩ ?_
  all_goals (refine WC.sr ?_)
  all_goals (refine Go ?_)
  all_goals (refine WC.sr ?_)
  all_goals (refine WL.step (ok_move rfl) rfl rfl rfl ?_)
  all_goals (refine WL.step (ok_lenL rfl Tryz.underlying22 rfl) rfl rfl rfl ?_)
  all_goals (refine WL.step (ok_move rfl) rfl rfl rfl ?_)
  all_goals (refine WL.step (ok_lenL rfl Tryz.underlying22 rfl) rfl rfl rfl ?_)
  all_goals (refine WL.step (OkP.bool_t (by omega) (ok_geq rfl rfl)) rfl rfl rfl ?_)
  all_goals (refine Go ?_)
  all_goals (refine goP 10 ?_ ?_ <;> first | exact ⟨⟩ | refine Hb.mk fun hb => ?_ | skip)
  all_goals (first | (refine WL.pass rfl rfl rfl ?_) | (refine WL.step (ok_move rfl) rfl rfl rfl ?_))
  all_goals (first | (refine WL.pass rfl rfl rfl ?_) | (refine WL.step (ok_move rfl) rfl rfl rfl ?_))
  all_goals (first | (refine WL.pass rfl rfl rfl ?_) | (refine WL.step (ok_lenL rfl Tryz.underlying22 rfl) rfl rfl rfl ?_))
  all_goals (first | (refine WL.pass rfl rfl rfl ?_) | (refine WL.step (ok_move rfl) rfl rfl rfl ?_))
  all_goals (first | (refine WL.pass rfl rfl rfl ?_) | (refine WL.step (ok_lenL rfl Tryz.underlying22 rfl) rfl rfl rfl ?_))
  all_goals (first | (refine WL.pass rfl rfl rfl ?_) | (first | (refine WL.step (ok_subI rfl rfl (by omega)) rfl rfl rfl ?_) | (refine WL.step (ok_sub rfl rfl) rfl rfl rfl ?_)))
  all_goals (rw [show (l.length : Int) - (l.length : Int) = ((0 : Nat) : Int) by omega])
  all_goals (first | (refine WL.pass rfl rfl rfl ?_) | (first | (refine WL.step (ok_slice_lN Tryz.underlying22 (fun w => Tryz.sizeOf5 w) rfl rfl (by omega)) rfl rfl rfl ?_) | (refine WL.step (ok_slice_lS Tryz.underlying22 (fun w => Tryz.sizeOf5 w) rfl rfl (by omega)) rfl rfl rfl ?_) | (refine WL.step (ok_slice_l Tryz.underlying22 (fun w => Tryz.sizeOf5 w) rfl rfl (by omega)) rfl rfl rfl ?_)))
  all_goals (refine Gg ?_)
  all_goals (first
               | (refine WL.pass rfl rfl rfl ?_)
               | (refine WL.call (vs := [_, _]) rfl (fun a w => Tryz.call21 a w) rfl (ke) rfl rfl rfl ?_
                  rintro _ hq ⟨rfl, hz⟩
                  replace hz := hz.symm
                  subst hz))
  all_goals (refine Go ?_)
  all_goals (refine Gs [(4, _)] ?_)
  all_goals (refine Gt ?_)
  all_goals (exact ⟨rfl, rfl⟩)
end
end Go.Proofs.YtdjjpbbhcidaaaaGreatDoor


/-
  MANY CLIENTS (layer 45), by the code: one client that sends a Sync.
-/
namespace Go.Proofs.YtdjjpbbhcidaaaaGreatDoor
open Go Go.RK

section
variable {N : Nat → Prop} {g h h' : Heap} {b cb fb bs bp mp : Nat} {out out' v v' : Value} {ob ob' l l' : List UInt8} {dn dn' : Int} {bg bg' : Bool} {S : Nat → Prop}
/-- One block more is told. -/
theorem So.add (k : So N g h b cb fb bs bp mp out ob dn bg v l) (x : Ext No h h') {r : Nat} (hr : h.size ≤ r) (hr' : r < h'.size) : So (fun q => N q ∨ q = r) h' h' b cb fb bs bp mp out ob dn bg v l := by
  have lb := lt_of_some k.blk
  have lc := lt_of_some (show h[cb]? = _ from k.cl)
  have lf := lt_of_some k.fw.blk
  obtain ⟨⟨m, e1, s1⟩, s2, s3⟩ := id k.se
  have ls := lt_of_some s1
  have lm : mp < h.size := by obtain ⟨_, _, e, _⟩ := s3; exact lt_of_some e
  have lo : ∀ q, out.ownBlock = some q → q < h.size := fun q hq => k.own.lt hq
  have lv : ∀ q, v.ownBlock = some q → q < h.size := fun q hq => k.fw.own.lt hq
  obtain ⟨n1, n2, n3, n4, n5⟩ := k.lo
  refine (k.ext0 x).re (fun q e => e.elim (fun e => by have := k.nl q e; have := k.ext.size; have := x.size; omega) (fun e => by omega)) (fun q hq e => ?_)
  rcases hq with hq | rfl
  · rcases e with rfl | rfl | rfl | rfl | rfl | e | e
    · exact n1 hq
    · exact n2 hq
    · exact n3 hq
    · exact n4 hq
    · exact n5 hq
    · exact k.lr.1 q e hq
    · exact k.lr.2 q e hq
  · rcases e with e | e | e | e | e | e | e
    · omega
    · omega
    · omega
    · omega
    · omega
    · have := lo _ e; omega
    · have := lv _ e; omega
theorem So.keep {q : Nat} {o : Obj} (k : So N g h b cb fb bs bp mp out ob dn bg v l) (hN : N q) (hq : g[q]? = some o) : h[q]? = some o := k.ext.obj hq (fun e => e hN)
set_option maxHeartbeats 2000000 in
set_option maxRecDepth 100000 in
theorem begin1 (k : So N g h b cb fb bs bp mp out [] 0 false v feed21) {f : Nat} {c : Nat} (hf : ∀ h', (∀ q o, N q → g[q]? = some o → h'[q]? = some o) → Rd h' (.slice (some ⟨f, 0, none⟩) 28 c) 1 28 (bys greet28)) : CallsH Tryz.prog 124 ⟨[.pointer (some ⟨b, 0, none⟩), .slice (some ⟨f, 0, none⟩) 28 c]⟩ h fun _ h' => ∃ out' v', So N g h' b cb fb bs bp mp out' greet28 0 true v' sy5 := by
  have k1 := fun (h : Heap) (out v : Value) (k : So N g h b cb fb bs bp mp out [] 0 false v feed21) => so_step1 k (by decide)
  have ko0 := fun (h : Heap) (out v : Value) (k : So N g h b cb fb bs bp mp out [] 0 false v feed21) => so_out k (by decide)
  have ko1 := fun (h : Heap) (out v : Value) (k : So N g h b cb fb bs bp mp out greet28 0 true v sy5) => so_out k (by decide)
  have kd1 := fun (h : Heap) (out v : Value) (k : So N g h b cb fb bs bp mp out greet28 0 true v sy5) => so_done k
  have ks := fun (h : Heap) (w : Value) (hw : Own h w 5 1 28 (bys greet28)) (hr : Rd h (.slice (some ⟨f, 0, none⟩) 28 c) 1 28 (bys greet28)) => suf_all greet28 hw.rd hr (by decide)
  refine calls [(0, _), (1, _)] Tryz.func124 rfl Tryz.ntmps124 rfl ⟨rfl, rfl, trivial⟩ ?_
  all_goals (refine WC.block ?_)
  -- loop 0: slots that turn [], that stay [0, 1]
  all_goals (refine WC.loopG (X := Nat) (fun x => ([] : Fr)) [(0, _), (1, _)] (fun x h' => (x = 0 ∧ h' = h) ∨ (x = 1 ∧ ∃ out' v', So N g h' b cb fb bs bp mp out' greet28 0 true v' sy5)) (fun x => 1 - x) (0) ⟨rfl, rfl, trivial⟩ (by exact .inl ⟨rfl, rfl⟩) ?_)
  all_goals (rintro j h1 (⟨rfl, rfl⟩ | ⟨rfl, o1, v1, k⟩))
  all_goals (refine WC.sub [(0, _), (1, _)] ⟨rfl, rfl, trivial⟩ ?_)
  all_goals (refine WC.seq ?_)
  all_goals (refine WC.sr ?_)
  all_goals (refine Go ?_)
  all_goals (refine WL.call (vs := [_]) rfl (fun a w => Tryz.call15 a w) rfl ((by first | exact ko0 _ _ _ k | exact ko1 _ _ _ k)) rfl rfl rfl ?_
             rintro w2 h2 ⟨ho2, hx2, hf2⟩
             obtain ⟨A2, c2, rfl, _⟩ := id ho2.slice
             replace k := k.ext0 hx2)
  all_goals (refine Go ?_)
  all_goals (refine WL.call (vs := [_, _]) rfl (fun a w => Tryz.call188 a w) rfl ((by first | exact suf_no (by decide) | exact ks _ _ ho2 (hf _ fun q o hN hq => k.keep hN hq))) rfl rfl rfl ?_
             rintro _ hq ⟨rfl, hz⟩
             replace hz := hz.symm
             subst hz)
  all_goals (refine Go ?_)
  all_goals (refine goP 9 ?_ ?_ <;> first | exact ⟨⟩ | refine Hb.mk fun hb => ?_ | skip)
  all_goals (refine Gg ?_)
  all_goals (first
               | (refine WL.pass rfl rfl rfl ?_)
               | (refine WL.call (vs := [_]) rfl (fun a w => Tryz.call13 a w) rfl (k1 _ _ _ k) rfl rfl rfl ?_
                  rintro _ h3 ⟨rfl, o3, v3, k3⟩
                  have k3 : So N g h3 b cb fb bs bp mp o3 greet28 0 true v3 sy5 := k3))
  all_goals (refine Go ?_)
  all_goals (refine Gs [(0, _), (1, _), (12, _)] ?_)
  all_goals (refine goC 1 2 ?_ ?_ <;> first | exact ⟨⟩ | refine Hb.mk fun hb => ?_ | skip)
  all_goals (first | (fail_if_success refine goB 1 ?_) | (
  refine goB 1 ?_
  all_goals (refine WC.skip ?_)
  skip))
  all_goals (first | (fail_if_success refine goB 2 ?_) | (
  refine goB 2 ?_
  all_goals (refine WC.exit ?_)
  all_goals (repeat' (with_reducible first | refine thenP_x ?_ | refine blockP_miss rfl ?_ | refine blockP_hit ?_ | refine blockP_n ?_ | refine thenP_n ?_))
  all_goals (refine Br.out (i := 1000) ?_)
  skip))
  all_goals (refine Gn ?_)
  all_goals (first | (refine Br.keep ?_) | (refine WC.block ?_))
  all_goals (first | (refine Br.keep ?_) | (refine WC.sr ?_))
  all_goals (refine Go ?_)
  all_goals (first
               | (refine Br.keep ?_)
               | (refine WL.call (vs := [_]) rfl (fun a w => Tryz.call14 a w) rfl (kd1 _ _ _ k3) rfl rfl rfl ?_
                  rintro _ hq ⟨rfl, hz⟩
                  replace hz := hz.symm
                  subst hz))
  all_goals (refine Go ?_)
  all_goals (first | (refine Br.keep ?_) | (refine goC 3 4 ?_ ?_ <;> first | exact ⟨⟩ | refine Hb.mk fun hb => ?_ | skip))
  all_goals (first | (fail_if_success refine goB 3 ?_) | (
  refine goB 3 ?_
  all_goals (refine Gt ?_)
  all_goals (exact ⟨_, _, k⟩)
  skip))
  all_goals (first | (fail_if_success refine goB 4 ?_) | (
  refine goB 4 ?_
  all_goals (refine WC.skip ?_)
  skip))
  all_goals (refine Gn ?_)
  all_goals (first | (refine Br.keep ?_) | (exact ⟨1, ⟨rfl, rfl, trivial⟩, (by exact .inr ⟨rfl, _, _, k3⟩), (by omega)⟩))
  all_goals (try (refine Br.mk (i := 1000) ?_))
  all_goals (refine Gn ?_)
  all_goals (refine retP_n [] trivial ?_)
  all_goals (exact ⟨_, _, k⟩)
set_option maxHeartbeats 2000000 in
set_option maxRecDepth 100000 in
theorem upto1 (k : So N g h b cb fb bs bp mp out greet28 0 true v sy5) : CallsH Tryz.prog 125 ⟨[.pointer (some ⟨b, 0, none⟩), In 1]⟩ h fun _ h' => ∃ out' v', So N g h' b cb fb bs bp mp out' (greet28 ++ z6) 1 true v' [] := by
  have k1 := fun (h : Heap) (out v : Value) (k : So N g h b cb fb bs bp mp out greet28 0 true v sy5) => so_step2 k (by decide) (by decide)
  have kd0 := fun (h : Heap) (out v : Value) (k : So N g h b cb fb bs bp mp out greet28 0 true v sy5) => so_done k
  have kd1 := fun (h : Heap) (out v : Value) (k : So N g h b cb fb bs bp mp out (greet28 ++ z6) 1 true v []) => so_done k
  refine calls [(0, _), (1, _)] Tryz.func125 rfl Tryz.ntmps125 rfl ⟨rfl, rfl, trivial⟩ ?_
  all_goals (refine WC.block ?_)
  -- loop 0: slots that turn [], that stay [0, 1]
  all_goals (refine WC.loopG (X := Nat) (fun x => ([] : Fr)) [(0, _), (1, _)] (fun x h' => (x = 0 ∧ h' = h) ∨ (x = 1 ∧ ∃ out' v', So N g h' b cb fb bs bp mp out' (greet28 ++ z6) 1 true v' [])) (fun x => 1 - x) (0) ⟨rfl, rfl, trivial⟩ (by exact .inl ⟨rfl, rfl⟩) ?_)
  all_goals (rintro j h1 (⟨rfl, rfl⟩ | ⟨rfl, o1, v1, k⟩))
  all_goals (refine WC.sub [(0, _), (1, _)] ⟨rfl, rfl, trivial⟩ ?_)
  all_goals (refine WC.seq ?_)
  all_goals (refine WC.sr ?_)
  all_goals (refine Go ?_)
  all_goals (refine WL.call (vs := [_]) rfl (fun a w => Tryz.call14 a w) rfl ((by first | exact kd0 _ _ _ k | exact kd1 _ _ _ k)) rfl rfl rfl ?_
             rintro _ hq ⟨rfl, hz⟩
             replace hz := hz.symm
             subst hz)
  all_goals (refine Go ?_)
  all_goals (refine goP 8 ?_ ?_ <;> first | exact ⟨⟩ | refine Hb.mk fun hb => ?_ | skip)
  all_goals (refine Gg ?_)
  all_goals (first
               | (refine WL.pass rfl rfl rfl ?_)
               | (refine WL.call (vs := [_]) rfl (fun a w => Tryz.call13 a w) rfl (k1 _ _ _ k) rfl rfl rfl ?_
                  rintro _ h3 ⟨rfl, o3, v3, k3⟩
                  have k3 : So N g h3 b cb fb bs bp mp o3 (greet28 ++ z6) 1 true v3 [] := k3))
  all_goals (refine Go ?_)
  all_goals (refine Gs [(0, _), (1, _), (11, _)] ?_)
  all_goals (refine goC 1 2 ?_ ?_ <;> first | exact ⟨⟩ | refine Hb.mk fun hb => ?_ | skip)
  all_goals (first | (fail_if_success refine goB 1 ?_) | (
  refine goB 1 ?_
  all_goals (refine WC.skip ?_)
  skip))
  all_goals (first | (fail_if_success refine goB 2 ?_) | (
  refine goB 2 ?_
  all_goals (refine WC.exit ?_)
  all_goals (repeat' (with_reducible first | refine thenP_x ?_ | refine blockP_miss rfl ?_ | refine blockP_hit ?_ | refine blockP_n ?_ | refine thenP_n ?_))
  all_goals (refine Br.out (i := 1000) ?_)
  skip))
  all_goals (refine Gn ?_)
  all_goals (first | (refine Br.keep ?_) | (refine WC.block ?_))
  all_goals (first | (refine Br.keep ?_) | (refine WC.skip ?_))
  all_goals (refine Gn ?_)
  all_goals (first | (refine Br.keep ?_) | (exact ⟨1, ⟨rfl, rfl, trivial⟩, (by exact .inr ⟨rfl, _, _, k3⟩), (by omega)⟩))
  all_goals (try (refine Br.mk (i := 1000) ?_))
  all_goals (refine Gn ?_)
  all_goals (refine retP_n [] trivial ?_)
  all_goals (exact ⟨_, _, k⟩)
set_option maxHeartbeats 2000000 in
set_option maxRecDepth 100000 in
theorem follow0 {A : Option Addr} {n c : Nat} : CallsH Tryz.prog 79 ⟨[.slice A n c, .slice none 0 0]⟩ h fun _ h' => h' = h := by
  refine calls [(0, _), (1, _)] Tryz.func79 rfl Tryz.ntmps79 rfl ⟨rfl, rfl, trivial⟩ ?_
  all_goals (refine WC.sr ?_)
  all_goals (refine Go ?_)
  all_goals (refine WC.block ?_)
  -- loop 0: slots that turn [8], that stay [0, 6, 7]
  all_goals (refine WC.loopG (X := Unit) (fun x => ([(8, In 0)] : Fr)) [(0, _), (6, _), (7, _)] (fun _ h' => h' = h) (fun _ => 0) (()) ⟨rfl, rfl, rfl, rfl, trivial⟩ (by exact rfl) ?_)
  all_goals (rintro _ h1 hz
             subst hz)
  all_goals (refine WC.sub [(8, _), (0, _), (6, _), (7, _)] ⟨rfl, rfl, rfl, rfl, trivial⟩ ?_)
  all_goals (refine WC.sr ?_)
  all_goals (refine Go ?_)
  all_goals (refine WC.seq ?_)
  all_goals (refine goC 1 2 ?_ ?_ <;> first | exact ⟨⟩ | refine Hb.mk fun hb => ?_ | skip)
  all_goals (first | (fail_if_success refine goB 1 ?_) | (
  refine goB 1 ?_
  all_goals (refine WC.skip ?_)
  skip))
  all_goals (first | (fail_if_success refine goB 2 ?_) | (
  refine goB 2 ?_
  all_goals (refine WC.exit ?_)
  all_goals (repeat' (with_reducible first | refine thenP_x ?_ | refine blockP_miss rfl ?_ | refine blockP_hit ?_ | refine blockP_n ?_ | refine thenP_n ?_))
  all_goals (refine Br.out (i := 1000) ?_)
  skip))
  all_goals (refine Gn ?_)
  all_goals (first | (refine Br.keep ?_) | (refine WC.seq ?_))
  all_goals (first | (refine Br.keep ?_) | (refine WC.block ?_))
  all_goals (first | (refine Br.keep ?_) | (refine WC.sr ?_))
  all_goals (first | (refine Br.keep ?_) | (refine WL.step (ok_idxAddrA Tryz.underlying82 (fun w => Tryz.sizeOf81 w) rfl rfl rfl (by omega) (by first | rfl | assumption)) rfl rfl rfl ?_))
  all_goals (first | (refine Br.keep ?_) | (refine WL.step (ok_loadN (fun w => Tryz.isAgg81 w) (fun w => Tryz.sizeOf81 w) rfl rfl (by assumption)) rfl rfl rfl ?_))
  all_goals (first
               | (refine Br.keep ?_)
               | (refine WL.stepR (okE_alloc (fun w => Tryz.zeroValue81 w)) rfl rfl rfl ?_
                  rintro _ h1 ⟨b1, rfl, hg1, hb1, hx1⟩))
  all_goals (first
               | (refine Br.keep ?_)
               | (refine WL.stepR0 (okE_storeW (fun w => Tryz.sizeOf81 w) rfl rfl rfl (by assumption) rfl (by simp [Value.oneCell'])) rfl rfl ?_
                  rintro _ h1 ⟨hb1, hx1⟩))
  all_goals (refine Gn ?_)
  all_goals (first | (refine Br.keep ?_) | (refine WC.seq ?_))
  all_goals (first | (refine Br.keep ?_) | (refine WC.sr ?_))
  all_goals (refine Go ?_)
  all_goals (first | (refine Br.keep ?_) | (refine Ld ?_))
  all_goals (refine Go ?_)
  all_goals (first | (refine Br.keep ?_) | (refine goP 15 ?_ ?_ <;> first | exact ⟨⟩ | refine Hb.mk fun hb => ?_ | skip))
  all_goals (refine Gg ?_)
  all_goals (first | (refine Br.keep ?_) | (first | (refine WL.pass rfl rfl rfl ?_) | (refine Ld ?_)))
  all_goals (refine Gg ?_)
  all_goals (refine Go ?_)
  all_goals (first | (refine Br.keep ?_) | (refine goP 22 ?_ ?_ <;> first | exact ⟨⟩ | refine Hb.mk fun hb => ?_ | skip))
  all_goals (refine Gg ?_)
  all_goals (first | (refine Br.keep ?_) | (first | (refine WL.pass rfl rfl rfl ?_) | (refine Ld ?_)))
  all_goals (refine Gg ?_)
  all_goals (refine Go ?_)
  all_goals (first | (refine Br.keep ?_) | (refine Gs [(0, _), (5, _), (6, _), (7, _), (8, _), (26, _)] ?_))
  all_goals (first | (refine Br.keep ?_) | (refine goC 3 4 ?_ ?_ <;> first | exact ⟨⟩ | refine Hb.mk fun hb => ?_ | skip))
  all_goals (first | (fail_if_success refine goB 3 ?_) | (
  refine goB 3 ?_
  all_goals (refine WC.exit ?_)
  all_goals (repeat' (with_reducible first | refine thenP_x ?_ | refine blockP_miss rfl ?_ | refine blockP_hit ?_ | refine blockP_n ?_ | refine thenP_n ?_))
  all_goals (refine Br.out (i := 1001) ?_)
  skip))
  all_goals (first | (fail_if_success refine goB 4 ?_) | (
  refine goB 4 ?_
  all_goals (refine WC.skip ?_)
  skip))
  all_goals (refine Gn ?_)
  all_goals (first | (refine Br.keep ?_) | (refine WC.drawE fol (by kernel_rfl) ?_))
  all_goals (first | (refine Br.keep ?_) | (refine WQ.stepE (ok_move rfl) rfl rfl rfl ?_))
  all_goals (first | (refine Br.keep ?_) | (refine WQ.stepE (ok_fieldAddr rfl Tryz.underlying81 rfl (fun w => Tryz.sizeOf3 w)) rfl rfl rfl ?_))
  all_goals (first | (refine Br.keep ?_) | (refine WQ.stepE (ok_load (fun w => Tryz.isAgg3 w) rfl (by first | assumption | exact cell_blk (by assumption) rfl)) rfl rfl rfl ?_))
  all_goals (first | (refine Br.keep ?_) | (refine WQ.stepE (ok_idxAddrA Tryz.underlying144 (fun w => Tryz.sizeOf46 w) rfl rfl rfl (by omega) (by first | rfl | assumption)) rfl rfl rfl ?_))
  all_goals (first | (refine Br.keep ?_) | (refine WQ.stepE (ok_load (fun w => Tryz.isAgg46 w) rfl (by first | assumption | exact cell_blk (by assumption) rfl)) rfl rfl rfl ?_))
  all_goals (first | (refine Br.keep ?_) | (refine WQ.stepE (ok_fieldAddr rfl Tryz.underlying81 rfl (fun w => Tryz.sizeOf3 w)) rfl rfl rfl ?_))
  all_goals (first | (refine Br.keep ?_) | (refine WQ.stepE (ok_load (fun w => Tryz.isAgg3 w) rfl (by first | assumption | exact cell_blk (by assumption) rfl)) rfl rfl rfl ?_))
  all_goals (first | (refine Br.keep ?_) | (first | (refine WQ.stepE (ok_addI rfl rfl (by omega)) rfl rfl rfl ?_) | (refine WQ.stepE (ok_add rfl rfl) rfl rfl rfl ?_)))
  all_goals (first | (refine Br.keep ?_) | (fail "no contract for call of remuda/mix.upto at 4.8"))
  all_goals (first | (refine Br.keep ?_) | (refine WQ.nil ?_))
  all_goals (refine Gn ?_)
  all_goals (try (refine Br.mk (i := 1001) ?_))
  all_goals (refine Gn ?_)
  all_goals (first | (refine Br.keep ?_) | (refine WC.region ?_))
  all_goals (refine Go ?_)
  all_goals (first | (refine Br.keep ?_) | (exact ⟨None, ⟨rfl, rfl, rfl, rfl, trivial⟩, (by exact ⟨⟩), (by simp; omega)⟩))
  all_goals (try (refine Br.mk (i := 1000) ?_))
  all_goals (refine Gn ?_)
  all_goals (refine retP_n [] trivial ?_)
  all_goals (exact rfl)
end
end Go.Proofs.YtdjjpbbhcidaaaaGreatDoor


/-
  MANY CLIENTS (layer 45), by the code: Outputs of one client; the law's awake.
-/
namespace Go.Proofs.YtdjjpbbhcidaaaaGreatDoor
open Go Go.RK

section
variable {N : Nat → Prop} {g h h' : Heap} {b cb fb bs bp mp : Nat} {out out' v v' : Value} {ob ob' l l' : List UInt8} {dn dn' : Int} {bg bg' : Bool} {S : Nat → Prop}
set_option maxHeartbeats 2000000 in
set_option maxRecDepth 100000 in
theorem order1 {r : Nat} (hr : h[r]? = some (.cells ⟨[In 1, In 2]⟩ 81 (0, 0))) : CallsH Tryz.prog 45 ⟨[.slice (some ⟨r, 0, none⟩) 1 1, In 1]⟩ h fun u h' => (∃ A c, u = .slice A 1 c) ∧ Ext No h h' := by
  refine calls [(0, _), (1, _)] Tryz.func45 rfl Tryz.ntmps45 rfl ⟨rfl, rfl, trivial⟩ ?_
  all_goals (refine WC.sr ?_)
  all_goals (refine Go ?_)
  all_goals (refine WC.sr ?_)
  all_goals (refine Go ?_)
  all_goals (refine WC.seq ?_)
  all_goals (refine WC.sr ?_)
  all_goals (refine Go ?_)
  all_goals (refine WC.block ?_)
  -- loop 0: slots that turn [5, 10], that stay [1, 8, 9]
  all_goals (refine WC.loopG (X := Nat × Value) (fun x => ([(10, In (x.1 : Int)), (5, x.2)] : Fr)) [(1, _), (8, _), (9, _)] (fun x h' => Ext No h h' ∧ ((x.1 = 0 ∧ x.2 = .slice none 0 0) ∨ (x.1 = 1 ∧ ∃ A c, x.2 = .slice A 1 c))) (fun x => 1 - x.1) ((0, .slice none 0 0)) ⟨rfl, rfl, rfl, rfl, rfl, trivial⟩ (by exact ⟨.refl _ _, .inl ⟨rfl, rfl⟩⟩) ?_)
  all_goals (rintro ⟨j, w⟩ h1 ⟨hx1, hI⟩
             dsimp only at hI)
  all_goals (refine WC.sub [(5, _), (10, _), (1, _), (8, _), (9, _)] ⟨rfl, rfl, rfl, rfl, rfl, trivial⟩ ?_)
  all_goals (dsimp only)
  all_goals (refine WC.sr ?_)
  all_goals (refine Go ?_)
  all_goals (refine WC.seq ?_)
  all_goals (refine goC 1 2 ?_ ?_ <;> first | exact ⟨⟩ | refine Hb.mk fun hb => ?_ | skip)
  all_goals (first | (fail_if_success refine goB 1 ?_) | (
  refine goB 1 ?_
  all_goals (refine WC.skip ?_)
  skip))
  all_goals (first | (fail_if_success refine goB 2 ?_) | (
  refine goB 2 ?_
  all_goals (refine WC.exit ?_)
  all_goals (repeat' (with_reducible first | refine thenP_x ?_ | refine blockP_miss rfl ?_ | refine blockP_hit ?_ | refine blockP_n ?_ | refine thenP_n ?_))
  all_goals (refine Br.out (i := 1000) ?_)
  skip))
  all_goals (refine Gn ?_)
  all_goals (first | (refine Br.keep ?_) | (refine WC.seq ?_))
  all_goals (first | (refine Br.keep ?_) | (refine WC.block ?_))
  all_goals (first | (refine Br.keep ?_) | (refine WC.sr ?_))
  all_goals (first | (refine Br.keep ?_) | (obtain ⟨rfl, rfl⟩ : j = 0 ∧ w = .slice none 0 0 := by rcases hI with h | ⟨h, _⟩; exact h; exfalso; omega))
  all_goals (first | (refine Br.keep ?_) | (refine WL.step (ok_idxAddrA Tryz.underlying82 (fun w => Tryz.sizeOf81 w) rfl rfl rfl (by omega) (by first | rfl | assumption)) rfl rfl rfl ?_))
  all_goals (first | (refine Br.keep ?_) | (refine WL.step (ok_loadN (fun w => Tryz.isAgg81 w) (fun w => Tryz.sizeOf81 w) rfl rfl (by exact At.of_block (hx1.obj hr nos))) rfl rfl rfl ?_))
  all_goals (first
               | (refine Br.keep ?_)
               | (refine WL.stepR (okE_alloc (fun w => Tryz.zeroValue81 w)) rfl rfl rfl ?_
                  rintro _ h2 ⟨b2, rfl, hg2, hb2, hx2⟩))
  all_goals (first
               | (refine Br.keep ?_)
               | (refine WL.stepR0 (okE_storeW (fun w => Tryz.sizeOf81 w) rfl rfl rfl hb2 rfl (by simp [Value.oneCell'])) rfl rfl ?_
                  rintro _ h3 ⟨hb3, hx3⟩
                  have X3 := hx1.trans (hx2.trans' hx3 (fun q hq e => by omega))))
  all_goals (refine Gn ?_)
  all_goals (first | (refine Br.keep ?_) | (refine WC.sr ?_))
  all_goals (refine Go ?_)
  all_goals (first | (refine Br.keep ?_) | (refine WL.ld rfl (by first | exact cell_blk hb3 rfl | assumption | exact cell_blk (by assumption) rfl) rfl rfl rfl ?_))
  all_goals (refine Go ?_)
  all_goals (first | (refine Br.keep ?_) | (refine Gs [(1, _), (5, _), (7, _), (8, _), (9, _), (10, _), (17, _)] ?_))
  all_goals (first | (refine Br.keep ?_) | (refine goC 3 4 ?_ ?_ <;> first | exact ⟨⟩ | refine Hb.mk fun hb => ?_ | skip))
  all_goals (first | (fail_if_success refine goB 3 ?_) | (
  refine goB 3 ?_
  all_goals (refine WC.region ?_)
  all_goals (refine Go ?_)
  all_goals (refine WL.ld rfl (by first | exact cell_blk hb3 rfl | assumption | exact cell_blk (by assumption) rfl) rfl rfl rfl ?_)
  all_goals (refine WL.stepR (okE_buildSlice (vs := [_]) (cs := [_]) (fun | [a0] => [a0] | _ => []) Tryz.underlying31 rfl rfl (by kernel_rfl)) rfl rfl rfl ?_
             rintro _ h4 ⟨b4, rfl, hg4, hb4, hx4⟩)
  all_goals (refine WL.stepR (ok_append (sz := 1) (bytes := 8) rfl Tryz.underlying31 (show Tryz.prog.info? 3 = some Tryz.t3 by kernel_rfl) rfl rfl rfl rfl (by decide) rfl rfl (Own.nil _ _ _) (rd_blk (len := 1) (sz := 1) hb4 rfl) (by simp [Value.oneCell']) (by simp only [maxLen]; omega) (by omega)) rfl rfl rfl ?_
             rintro v5 h5 ⟨ho5, hx5, hl5⟩
             obtain ⟨A5, c5, rfl, _⟩ := id ho5.slice)
  all_goals (refine Go ?_)
  skip))
  all_goals (first | (fail_if_success refine goB 4 ?_) | (
  refine goB 4 ?_
  all_goals (refine WC.skip ?_)
  skip))
  all_goals (refine Gn ?_)
  all_goals (first | (refine Br.keep ?_) | (refine WC.region ?_))
  all_goals (refine Go ?_)
  all_goals (first | (refine Br.keep ?_) | (exact ⟨(0 + 1, _), ⟨rfl, rfl, rfl, rfl, rfl, trivial⟩, (by exact ⟨(X3.trans hx4).trans (hx5.mono fun _ _ e => by cases e), .inr ⟨rfl, A5, c5, rfl⟩⟩), (by first | omega | (dsimp only; omega) | simp)⟩))
  all_goals (try (refine Br.mk (i := 1000) ?_))
  all_goals (refine Gn ?_)
  all_goals (refine Gs [(5, _)] ?_)
  all_goals (refine WC.sr ?_)
  all_goals (refine Go ?_)
  all_goals (refine Gt ?_)
  all_goals (rcases hI with ⟨h, _⟩ | ⟨_, A, c, rfl⟩
             · exfalso; omega
             · exact ⟨⟨A, c, rfl⟩, hx1⟩)
set_option maxHeartbeats 2000000 in
set_option maxRecDepth 100000 in
theorem start1 {r : Nat} {A : Option Addr} {c : Nat} (hr : h[r]? = some (.cells ⟨[.slice A 21 c]⟩ 22 (0, 0))) (ha : Rd h (.slice A 21 c) 1 21 (bys feed21)) :
    CallsH Tryz.prog 78 ⟨[.slice none 0 0, .slice (some ⟨r, 0, none⟩) 1 1]⟩ h fun u h' => ∃ b cb fb bs bp mp out v p c, u = .slice (some ⟨p, 0, none⟩) 1 c ∧ So (fun q => q < h.size ∨ q = p) h' h' b cb fb bs bp mp out greet28 0 true v sy5 ∧ Own h' u 46 1 1 [.pointer (some ⟨b, 0, none⟩)] ∧ Ext No h h' := by
  refine calls [(0, _), (1, _)] Tryz.func78 rfl Tryz.ntmps78 rfl ⟨rfl, rfl, trivial⟩ ?_
  all_goals (refine WC.sr ?_)
  all_goals (refine Go ?_)
  all_goals (refine WC.sr ?_)
  all_goals (refine WL.call (vs := []) rfl (fun a w => Tryz.call33 a w) rfl (new_eng) rfl rfl rfl ?_
             rintro _ h1 ⟨be, me, rfl, _, _, _, _, hx1⟩)
  all_goals (refine Go ?_)
  all_goals (refine WC.sr ?_)
  all_goals (refine Go ?_)
  all_goals (refine WC.seq ?_)
  all_goals (refine WC.sr ?_)
  all_goals (refine Go ?_)
  all_goals (refine WC.block ?_)
  -- loop 0: slots that turn [6, 13], that stay [0, 5, 11, 12]
  all_goals (refine WC.loopG (X := Nat × Value) (fun x => ([(13, In (x.1 : Int)), (6, x.2)] : Fr)) [(0, _), (5, _), (11, _), (12, _)] (fun x h' => (x.1 = 0 ∧ x.2 = .slice none 0 0 ∧ h' = h1) ∨ (x.1 = 1 ∧ ∃ b cb fb bs bp mp out v p c, x.2 = .slice (some ⟨p, 0, none⟩) 1 c ∧ So (fun q => q < h.size ∨ q = p) h' h' b cb fb bs bp mp out greet28 0 true v sy5 ∧ Own h' x.2 46 1 1 [.pointer (some ⟨b, 0, none⟩)] ∧ Ext No h h')) (fun x => 1 - x.1) ((0, .slice none 0 0)) ⟨rfl, rfl, rfl, rfl, rfl, rfl, trivial⟩ (by exact .inl ⟨rfl, rfl, rfl⟩) ?_)
  all_goals (rintro ⟨j, w⟩ h2 hI
             dsimp only at hI)
  all_goals (refine WC.sub [(6, _), (13, _), (0, _), (5, _), (11, _), (12, _)] ⟨rfl, rfl, rfl, rfl, rfl, rfl, trivial⟩ ?_)
  all_goals (dsimp only)
  all_goals (refine WC.sr ?_)
  all_goals (refine Go ?_)
  all_goals (refine WC.seq ?_)
  all_goals (refine goC 1 2 ?_ ?_ <;> first | exact ⟨⟩ | refine Hb.mk fun hb => ?_ | skip)
  all_goals (first | (fail_if_success refine goB 1 ?_) | (
  refine goB 1 ?_
  all_goals (refine WC.skip ?_)
  skip))
  all_goals (first | (fail_if_success refine goB 2 ?_) | (
  refine goB 2 ?_
  all_goals (refine WC.exit ?_)
  all_goals (repeat' (with_reducible first | refine thenP_x ?_ | refine blockP_miss rfl ?_ | refine blockP_hit ?_ | refine blockP_n ?_ | refine thenP_n ?_))
  all_goals (refine Br.out (i := 1000) ?_)
  skip))
  all_goals (refine Gn ?_)
  all_goals (first | (refine Br.keep ?_) | (refine WC.seq ?_))
  all_goals (first | (refine Br.keep ?_) | (refine WC.block ?_))
  all_goals (first | (refine Br.keep ?_) | (refine WC.sr ?_))
  all_goals (first | (refine Br.keep ?_) | (obtain ⟨rfl, rfl, rfl⟩ : j = 0 ∧ w = .slice none 0 0 ∧ h2 = h1 := by rcases hI with e | ⟨e, _⟩; exact e; exfalso; omega))
  all_goals (first | (refine Br.keep ?_) | (refine WL.step (ok_move rfl) rfl rfl rfl ?_))
  all_goals (first | (refine Br.keep ?_) | (refine WL.step (ok_idxAddrA Tryz.underlying77 (fun w => Tryz.sizeOf22 w) rfl rfl rfl (by omega) (by first | rfl | assumption)) rfl rfl rfl ?_))
  all_goals (first | (refine Br.keep ?_) | (refine WL.ld rfl (by first | exact cell_blk (hx1.obj hr nos) rfl | assumption | exact cell_blk (by assumption) rfl) rfl rfl rfl ?_))
  all_goals (refine Go ?_)
  all_goals (first | (refine Br.keep ?_) | (refine Gs [(0, _), (5, _), (6, _), (7, _), (8, _), (11, _), (12, _), (13, _)] ?_))
  all_goals (first | (refine Br.keep ?_) | (refine WC.sr ?_))
  all_goals (refine Go ?_)
  all_goals (first
               | (refine Br.keep ?_)
               | (refine WL.call (vs := [_, _, _]) rfl (fun a w => Tryz.call42 a w) rfl (so_new) rfl rfl rfl ?_
                  rintro _ h3 ⟨b, cb, fb, bs, bp, mp, rfl, k3⟩
                  have ha3 := (ha.ext0 hx1).ext0 (k3.ext.mono fun _ hq e => e hq)
                  have k3 : So (fun q => q < h.size) h h3 b cb fb bs bp mp (.slice none 0 0) [] 0 false (.slice none 0 0) [] := k3.back ((hx1.mono fun _ _ e => e.elim)) (fun _ e => e) (fun q e => by have := hx1.size; omega)))
  all_goals (refine Go ?_)
  all_goals (first | (refine Br.keep ?_) | (refine Gs [(0, _), (5, _), (6, _), (7, _), (8, _), (9, _), (11, _), (12, _), (13, _)] ?_))
  all_goals (first | (refine Br.keep ?_) | (refine WC.sr ?_))
  all_goals (refine Go ?_)
  all_goals (first
               | (refine Br.keep ?_)
               | (refine WL.call (vs := [_, _]) rfl (fun a w => Tryz.call12 a w) rfl (so_feed (m := feed21) k3 ha3 (by decide)) rfl rfl rfl ?_
                  rintro _ h4 ⟨rfl, v4, k4⟩
                  have k4 : So (fun q => q < h.size) h h4 b cb fb bs bp mp (.slice none 0 0) [] 0 false v4 feed21 := k4))
  all_goals (refine Gn ?_)
  all_goals (first | (refine Br.keep ?_) | (refine Gs [(0, _), (5, _), (6, _), (7, _), (9, _), (11, _), (12, _), (13, _)] ?_))
  all_goals (first | (refine Br.keep ?_) | (refine WC.sr ?_))
  all_goals (refine Go ?_)
  all_goals (first
               | (refine Br.keep ?_)
               | (refine WL.call (vs := [_, _]) rfl (fun a w => Tryz.call73 a w) rfl (greet_bytes) rfl rfl rfl ?_
                  rintro v5 h5 ⟨ho5, hx5, hf5⟩
                  obtain ⟨f5, c5, cs5, rfl, hb5, _⟩ := ho5.block (by decide)
                  have lf5 := lt_of_some hb5
                  have k5 := k4.add hx5 (hf5 f5 rfl) lf5))
  all_goals (first
               | (refine Br.keep ?_)
               | (refine WL.call (vs := [_, _]) rfl (fun a w => Tryz.call124 a w) rfl (begin1 k5 (fun h' hk => by obtain ⟨ol, oo⟩ := ho5; exact Own.rd ⟨ol, oo.imp id (fun ⟨g1, cap, cur, e, e2, e3⟩ => ⟨g1, cap, cur, e, (by simp only [Value.slice.injEq, Option.some.injEq, Addr.mk.injEq] at e; obtain ⟨⟨rfl, _⟩, _⟩ := e; exact hk _ _ (.inr rfl) e2), e3⟩)⟩)) rfl rfl rfl ?_
                  rintro _ h6 ⟨o6, v6, k6⟩
                  have k6 : So (fun q => q < h.size) h h6 b cb fb bs bp mp o6 greet28 0 true v6 sy5 := k6.back (k4.ext0 hx5).ext (fun _ e => e) (fun q e => .inl e)))
  all_goals (refine Gn ?_)
  all_goals (first | (refine Br.keep ?_) | (refine Gs [(0, _), (5, _), (6, _), (9, _), (11, _), (12, _), (13, _)] ?_))
  all_goals (first | (refine Br.keep ?_) | (refine WC.region ?_))
  all_goals (refine Go ?_)
  all_goals (first
               | (refine Br.keep ?_)
               | (refine WL.stepR (okE_buildSlice (vs := [_]) (cs := [_]) (fun | [a0] => [a0] | _ => []) Tryz.underlying144 rfl rfl (by kernel_rfl)) rfl rfl rfl ?_
                  rintro _ h7 ⟨b7, rfl, hg7, hb7, hx7⟩))
  all_goals (first
               | (refine Br.keep ?_)
               | (refine WL.stepR (ok_append (sz := 1) (bytes := 8) rfl Tryz.underlying144 (show Tryz.prog.info? 46 = some Tryz.t46 by kernel_rfl) rfl rfl rfl rfl (by decide) rfl rfl (Own.nil _ _ _) (rd_blk (len := 1) (sz := 1) hb7 rfl) (by simp [Value.oneCell']) (by simp only [maxLen]; omega) (by omega)) rfl rfl rfl ?_
                  rintro v8 h8 ⟨ho8, hx8, hl8⟩
                  have ho8 : Own h8 v8 46 1 1 [.pointer (some ⟨b, 0, none⟩)] := ho8
                  obtain ⟨p8, c8, cs8, rfl, hb8, _⟩ := ho8.block (by decide)
                  have X8 : Ext No h6 h8 := hx7.trans (hx8.mono fun _ _ e => by cases e)
                  have gp8 : h6.size ≤ p8 := by have := hx7.size; rcases hl8 with e | e; cases e; simp only [Value.ownBlock, Option.some.injEq] at e; omega
                  have k8 := k6.add X8 gp8 (lt_of_some hb8)))
  all_goals (refine Go ?_)
  all_goals (first | (refine Br.keep ?_) | (refine Gs [(0, _), (5, _), (6, _), (11, _), (12, _), (13, _)] ?_))
  all_goals (first | (refine Br.keep ?_) | (refine WC.region ?_))
  all_goals (refine Go ?_)
  all_goals (first | (refine Br.keep ?_) | (exact ⟨(0 + 1, _), ⟨rfl, rfl, rfl, rfl, rfl, rfl, trivial⟩, (by exact .inr ⟨rfl, b, cb, fb, bs, bp, mp, o6, v6, p8, c8, rfl, k8, ho8, (k6.ext.mono fun _ hq e => e hq).trans X8⟩), (by first | omega | (dsimp only; omega) | simp)⟩))
  all_goals (try (refine Br.mk (i := 1000) ?_))
  all_goals (refine Gn ?_)
  all_goals (refine Gs [(6, _)] ?_)
  all_goals (refine WC.sr ?_)
  all_goals (refine Go ?_)
  all_goals (refine Gt ?_)
  all_goals (rcases hI with ⟨h, _⟩ | ⟨_, hI⟩
             · exfalso; omega
             · exact hI)
end
end Go.Proofs.YtdjjpbbhcidaaaaGreatDoor


/-
  MANY CLIENTS (layer 45), by the code: Outputs of one client; the law's awake.
-/
namespace Go.Proofs.YtdjjpbbhcidaaaaGreatDoor
open Go Go.RK

section
variable {N : Nat → Prop} {g h h' : Heap} {b cb fb bs bp mp : Nat} {out out' v v' : Value} {ob ob' l l' : List UInt8} {dn dn' : Int} {bg bg' : Bool} {S : Nat → Prop}
set_option maxHeartbeats 2000000 in
set_option maxRecDepth 100000 in
theorem finish1 {p d c : Nat} (k : So N g h b cb fb bs bp mp out greet28 0 true v sy5) (hp : Rd h (.slice (some ⟨p, 0, none⟩) 1 c) 1 1 [.pointer (some ⟨b, 0, none⟩)]) (hd : h[d]? = some (.cells ⟨[In 1]⟩ 3 (0, 0))) :
    CallsH Tryz.prog 80 ⟨[.slice (some ⟨p, 0, none⟩) 1 c, .slice (some ⟨d, 0, none⟩) 1 1]⟩ h fun _ h' => ∃ out' v', So N g h' b cb fb bs bp mp out' (greet28 ++ z6) 1 true v' [] := by
  refine calls [(0, _), (1, _)] Tryz.func80 rfl Tryz.ntmps80 rfl ⟨rfl, rfl, trivial⟩ ?_
  all_goals (refine WC.sr ?_)
  all_goals (refine Go ?_)
  all_goals (refine WC.block ?_)
  -- loop 0: slots that turn [8], that stay [1, 6, 7]
  all_goals (refine WC.loopG (X := Nat) (fun x => ([(8, In (x : Int))] : Fr)) [(1, _), (6, _), (7, _)] (fun x h' => (x = 0 ∧ h' = h) ∨ (x = 1 ∧ ∃ out' v', So N g h' b cb fb bs bp mp out' (greet28 ++ z6) 1 true v' [])) (fun x => 1 - x) (0) ⟨rfl, rfl, rfl, rfl, trivial⟩ (by exact .inl ⟨rfl, rfl⟩) ?_)
  all_goals (rintro j h1 hI)
  all_goals (refine WC.sub [(8, _), (1, _), (6, _), (7, _)] ⟨rfl, rfl, rfl, rfl, trivial⟩ ?_)
  all_goals (refine WC.sr ?_)
  all_goals (refine Go ?_)
  all_goals (refine WC.seq ?_)
  all_goals (refine goC 1 2 ?_ ?_ <;> first | exact ⟨⟩ | refine Hb.mk fun hb => ?_ | skip)
  all_goals (first | (fail_if_success refine goB 1 ?_) | (
  refine goB 1 ?_
  all_goals (refine WC.skip ?_)
  skip))
  all_goals (first | (fail_if_success refine goB 2 ?_) | (
  refine goB 2 ?_
  all_goals (refine WC.exit ?_)
  all_goals (repeat' (with_reducible first | refine thenP_x ?_ | refine blockP_miss rfl ?_ | refine blockP_hit ?_ | refine blockP_n ?_ | refine thenP_n ?_))
  all_goals (refine Br.out (i := 1000) ?_)
  skip))
  all_goals (refine Gn ?_)
  all_goals (first | (refine Br.keep ?_) | (refine WC.seq ?_))
  all_goals (first | (refine Br.keep ?_) | (refine WC.block ?_))
  all_goals (first | (refine Br.keep ?_) | (refine WC.sr ?_))
  all_goals (first
               | (refine Br.keep ?_)
               | (obtain ⟨rfl, rfl⟩ : j = 0 ∧ h1 = h := by rcases hI with e | ⟨e, _⟩; exact e; exfalso; omega
                  obtain ⟨bb, o, e, _, hat⟩ := Rd.at_ hp (by omega)
                  simp only [Option.some.injEq, Addr.mk.injEq] at e
                  obtain ⟨rfl, rfl, _⟩ := e
                  have hat0 := hat.get (p := 0 + 0 * 1) 0 rfl (by omega)))
  all_goals (first | (refine Br.keep ?_) | (refine WL.step (ok_move rfl) rfl rfl rfl ?_))
  all_goals (first | (refine Br.keep ?_) | (refine WL.step (ok_idxAddrA Tryz.underlying144 (fun w => Tryz.sizeOf46 w) rfl rfl rfl (by omega) (by first | rfl | assumption)) rfl rfl rfl ?_))
  all_goals (first | (refine Br.keep ?_) | (refine WL.ld rfl (by first | exact hat0 | assumption | exact cell_blk (by assumption) rfl) rfl rfl rfl ?_))
  all_goals (refine Go ?_)
  all_goals (first | (refine Br.keep ?_) | (refine Gs [(1, _), (4, _), (5, _), (6, _), (7, _), (8, _)] ?_))
  all_goals (first | (refine Br.keep ?_) | (refine WC.sr ?_))
  all_goals (refine Go ?_)
  all_goals (first | (refine Br.keep ?_) | (refine goC 3 4 ?_ ?_ <;> first | exact ⟨⟩ | refine Hb.mk fun hb => ?_ | skip))
  all_goals (first | (fail_if_success refine goB 3 ?_) | (
  refine goB 3 ?_
  all_goals (refine WC.region ?_)
  all_goals (refine Go ?_)
  all_goals (refine WL.step (ok_idxAddrA Tryz.underlying31 (fun w => Tryz.sizeOf3 w) rfl rfl rfl (by omega) (by first | rfl | assumption)) rfl rfl rfl ?_)
  all_goals (refine WL.ld rfl (by first | exact cell_blk hd rfl | assumption | exact cell_blk (by assumption) rfl) rfl rfl rfl ?_)
  all_goals (refine WL.call (vs := [_, _]) rfl (fun a w => Tryz.call125 a w) rfl (upto1 k) rfl rfl rfl ?_
             rintro _ h2 ⟨o2, v2, k2⟩)
  all_goals (refine Gn ?_)
  skip))
  all_goals (first | (fail_if_success refine goB 4 ?_) | (
  refine goB 4 ?_
  all_goals (refine WC.skip ?_)
  skip))
  all_goals (refine Gn ?_)
  all_goals (first | (refine Br.keep ?_) | (refine Gs [(1, _), (6, _), (7, _), (8, _)] ?_))
  all_goals (first | (refine Br.keep ?_) | (refine WC.region ?_))
  all_goals (refine Go ?_)
  all_goals (first | (refine Br.keep ?_) | (exact ⟨0 + 1, ⟨rfl, rfl, rfl, rfl, trivial⟩, (by exact .inr ⟨rfl, o2, v2, k2⟩), (by omega)⟩))
  all_goals (try (refine Br.mk (i := 1000) ?_))
  all_goals (refine Gn ?_)
  all_goals (refine retP_n [] trivial ?_)
  all_goals (rcases hI with ⟨h, _⟩ | ⟨_, hI⟩
             · exfalso; omega
             · exact hI)
set_option maxHeartbeats 2000000 in
set_option maxRecDepth 100000 in
theorem outputs1 {r d : Nat} {A : Option Addr} {c : Nat} (hr : h[r]? = some (.cells ⟨[.slice A 21 c]⟩ 22 (0, 0))) (ha : Rd h (.slice A 21 c) 1 21 (bys feed21)) (hd : h[d]? = some (.cells ⟨[In 1]⟩ 3 (0, 0))) :
    CallsH Tryz.prog 44 ⟨[.slice none 0 0, .slice (some ⟨r, 0, none⟩) 1 1, .slice none 0 0, .slice (some ⟨d, 0, none⟩) 1 1]⟩ h fun u h' => (∃ B cB, Own h' u 22 1 1 [.slice B 34 cB]) ∧ Ext No h h' := by
  have ld := lt_of_some hd
  refine calls [(0, _), (1, _), (2, _), (3, _)] Tryz.func44 rfl Tryz.ntmps44 rfl ⟨rfl, rfl, rfl, rfl, trivial⟩ ?_
  all_goals (refine WC.sr ?_)
  all_goals (refine Go ?_)
  all_goals (refine WC.sr ?_)
  all_goals (refine Go ?_)
  all_goals (refine WL.call (vs := [_, _]) rfl (fun a w => Tryz.call78 a w) rfl (start1 hr ha) rfl rfl rfl ?_
             rintro _ h1 ⟨b, cb, fb, bs, bp, mp, o1, v1, p, cp, rfl, k1, ho1, hx1⟩)
  all_goals (refine Go ?_)
  all_goals (refine Gs [(2, _), (3, _), (9, _)] ?_)
  all_goals (refine WC.sr ?_)
  all_goals (refine Go ?_)
  all_goals (refine WL.call (vs := [_, _]) rfl (fun a w => Tryz.call79 a w) rfl (follow0) rfl rfl rfl ?_
             rintro _ h2 hz
             replace hz := hz.symm
             subst hz)
  all_goals (refine Gn ?_)
  all_goals (refine Gs [(3, _), (9, _)] ?_)
  all_goals (refine WC.sr ?_)
  all_goals (refine Go ?_)
  all_goals (refine WL.call (vs := [_, _]) rfl (fun a w => Tryz.call80 a w) rfl (finish1 k1 ho1.rd (hx1.obj hd nos)) rfl rfl rfl ?_
             rintro _ h3 ⟨o3, v3, k3⟩
             obtain ⟨p', c', cs, e, hbp, hr1, hr2, hr3, hr4⟩ := ho1.block (by decide)
             simp only [Value.slice.injEq, Option.some.injEq, Addr.mk.injEq] at e
             obtain ⟨⟨rfl, _⟩, _, rfl⟩ := e
             have hbp3 := k3.keep (.inr rfl) hbp
             have hrd : Rd h3 (.slice (some ⟨p, 0, none⟩) 1 cp) 1 1 [.pointer (some ⟨b, 0, none⟩)] := (Own.of_block hbp3 hr1 hr2 hr3 hr4).rd
             have X3 : Ext No h h3 := hx1.trans' k3.ext (fun q hq e => e (.inl hq)))
  all_goals (refine Gn ?_)
  all_goals (refine Gs [(9, _)] ?_)
  all_goals (refine WC.sr ?_)
  all_goals (refine Go ?_)
  all_goals (refine WC.seq ?_)
  all_goals (refine WC.sr ?_)
  all_goals (refine Go ?_)
  all_goals (refine WC.block ?_)
  -- loop 0: slots that turn [10, 24], that stay [22, 23]
  all_goals (refine WC.loopG (X := Nat × Value) (fun x => ([(24, In (x.1 : Int)), (10, x.2)] : Fr)) [(22, _), (23, _)] (fun x h' => (x.1 = 0 ∧ x.2 = .slice none 0 0 ∧ h' = h3) ∨ (x.1 = 1 ∧ (∃ B cB, Own h' x.2 22 1 1 [.slice B 34 cB]) ∧ Ext No h3 h')) (fun x => 1 - x.1) ((0, .slice none 0 0)) ⟨rfl, rfl, rfl, rfl, trivial⟩ (by exact .inl ⟨rfl, rfl, rfl⟩) ?_)
  all_goals (rintro ⟨j, w⟩ h4 hI
             dsimp only at hI)
  all_goals (refine WC.sub [(10, _), (24, _), (22, _), (23, _)] ⟨rfl, rfl, rfl, rfl, trivial⟩ ?_)
  all_goals (dsimp only)
  all_goals (refine WC.sr ?_)
  all_goals (refine Go ?_)
  all_goals (refine WC.seq ?_)
  all_goals (refine goC 1 2 ?_ ?_ <;> first | exact ⟨⟩ | refine Hb.mk fun hb => ?_ | skip)
  all_goals (first | (fail_if_success refine goB 1 ?_) | (
  refine goB 1 ?_
  all_goals (refine WC.skip ?_)
  skip))
  all_goals (first | (fail_if_success refine goB 2 ?_) | (
  refine goB 2 ?_
  all_goals (refine WC.exit ?_)
  all_goals (repeat' (with_reducible first | refine thenP_x ?_ | refine blockP_miss rfl ?_ | refine blockP_hit ?_ | refine blockP_n ?_ | refine thenP_n ?_))
  all_goals (refine Br.out (i := 1000) ?_)
  skip))
  all_goals (refine Gn ?_)
  all_goals (first | (refine Br.keep ?_) | (refine WC.seq ?_))
  all_goals (first | (refine Br.keep ?_) | (refine WC.block ?_))
  all_goals (first | (refine Br.keep ?_) | (refine WC.sr ?_))
  all_goals (first
               | (refine Br.keep ?_)
               | (obtain ⟨rfl, rfl, rfl⟩ : j = 0 ∧ w = .slice none 0 0 ∧ h4 = h3 := by rcases hI with e | ⟨e, _⟩; exact e; exfalso; omega
                  obtain ⟨bb, o, e, _, hat⟩ := Rd.at_ hrd (by omega)
                  simp only [Option.some.injEq, Addr.mk.injEq] at e
                  obtain ⟨rfl, rfl, _⟩ := e
                  have hat0 := hat.get (p := 0 + 0 * 1) 0 rfl (by omega)))
  all_goals (first | (refine Br.keep ?_) | (refine WL.step (ok_idxAddrA Tryz.underlying144 (fun w => Tryz.sizeOf46 w) rfl rfl rfl (by omega) (by first | rfl | assumption)) rfl rfl rfl ?_))
  all_goals (first | (refine Br.keep ?_) | (refine WL.ld rfl (by first | exact hat0 | assumption | exact cell_blk (by assumption) rfl) rfl rfl rfl ?_))
  all_goals (refine Go ?_)
  all_goals (first | (refine Br.keep ?_) | (refine WC.region ?_))
  all_goals (refine Go ?_)
  all_goals (first
               | (refine Br.keep ?_)
               | (refine WL.call (vs := [_]) rfl (fun a w => Tryz.call15 a w) rfl (so_out k3 (by decide)) rfl rfl rfl ?_
                  rintro v5 h5 ⟨ho5, hx5, hf5⟩
                  have ho5 : Own h5 v5 5 1 34 (bys (greet28 ++ z6)) := ho5
                  obtain ⟨A5, c5, rfl, _⟩ := id ho5.slice))
  all_goals (first
               | (refine Br.keep ?_)
               | (refine WL.stepR (okE_buildSlice (vs := [_]) (cs := [_]) (fun | [a0] => [a0] | _ => []) Tryz.underlying77 rfl rfl (by kernel_rfl)) rfl rfl rfl ?_
                  rintro _ h6 ⟨b6, rfl, hg6, hb6, hx6⟩))
  all_goals (first
               | (refine Br.keep ?_)
               | (refine WL.stepR (ok_append (sz := 1) (bytes := 24) rfl Tryz.underlying77 (show Tryz.prog.info? 22 = some Tryz.t22 by kernel_rfl) rfl rfl rfl rfl (by decide) rfl rfl (Own.nil _ _ _) (rd_blk (len := 1) (sz := 1) hb6 rfl) (by simp [Value.oneCell']) (by simp only [maxLen]; omega) (by omega)) rfl rfl rfl ?_
                  rintro v7 h7 ⟨ho7, hx7, hl7⟩
                  have ho7 : Own h7 v7 22 1 1 [.slice A5 34 c5] := ho7))
  all_goals (refine Go ?_)
  all_goals (first | (refine Br.keep ?_) | (refine Gs [(10, _), (22, _), (23, _), (24, _)] ?_))
  all_goals (first | (refine Br.keep ?_) | (refine WC.region ?_))
  all_goals (refine Go ?_)
  all_goals (first | (refine Br.keep ?_) | (exact ⟨(0 + 1, _), ⟨rfl, rfl, rfl, rfl, trivial⟩, (by exact .inr ⟨rfl, ⟨_, _, ho7⟩, (hx5.trans hx6).trans (hx7.mono fun _ _ e => by cases e)⟩), (by first | omega | (dsimp only; omega) | simp)⟩))
  all_goals (try (refine Br.mk (i := 1000) ?_))
  all_goals (refine Gn ?_)
  all_goals (refine Gs [(10, _)] ?_)
  all_goals (refine WC.sr ?_)
  all_goals (refine Go ?_)
  all_goals (refine Gt ?_)
  all_goals (rcases hI with ⟨h, _⟩ | ⟨_, hI, hx4⟩
             · exfalso; omega
             · exact ⟨hI, X3.trans hx4⟩)
set_option maxHeartbeats 2000000 in
set_option maxRecDepth 100000 in
theorem awake45 : CallsH Tryz.prog 17 ⟨[]⟩ h fun u h' => u = .bool true ∧ Ext No h h' := by
  have kp := fun (h : Heap) (b1 b2 : Nat) (h1 : h[b1]? = some (.cells ⟨[.int .u8 1]⟩ 5 (0, 0))) (h2 : h[b2]? = some (.cells ⟨[.int .u8 1, .int .u8 2]⟩ 5 (0, 0))) => mix_pre (h := h) [1] [1, 2] (rd_blk (len := 1) (sz := 1) h1 rfl) (rd_blk (len := 2) (sz := 1) h2 rfl)
  rw [show decide (([1] : List UInt8) <+: [1, 2]) = true by decide] at kp
  refine calls [] Tryz.func17 rfl Tryz.ntmps17 rfl trivial ?_
  all_goals (refine WC.sr ?_)
  all_goals (refine Go ?_)
  all_goals (refine WC.sr ?_)
  all_goals (refine WL.call (vs := []) rfl (fun a w => Tryz.call34 a w) rfl (hello_doc) rfl rfl rfl ?_
             rintro v1 h1 ⟨ho1, hx1, hf1⟩)
  all_goals (refine WL.stepR (okE_buildSlice (vs := [_, _, _, _, _]) (cs := [_, _, _, _, _]) (fun | [a0, a1, a2, a3, a4] => [a0, a1, a2, a3, a4] | _ => []) Tryz.underlying22 rfl rfl (by kernel_rfl)) rfl rfl rfl ?_
             rintro _ h2 ⟨b2, rfl, hg2, hb2, hx2⟩)
  all_goals (refine WL.stepR (ok_append (sz := 1) (bytes := 1) rfl Tryz.underlying22 (show Tryz.prog.info? 5 = some Tryz.t5 by kernel_rfl) rfl rfl rfl rfl (by decide) rfl rfl (ho1.ext hx2 (fun _ _ => nos)) (rd_blk (len := 5) (sz := 1) hb2 rfl) (by simp [Value.oneCell']) (by simp only [maxLen]; omega) (by omega)) rfl rfl rfl ?_
             rintro v3 h3 ⟨ho3, hx3, hl3⟩
             have ho3 : Own h3 v3 5 1 21 (bys feed21) := ho3
             have X3 : Ext No h h3 := (hx1.trans hx2).trans' hx3 (fun q hq e => by have := hf1 q e; omega)
             obtain ⟨A3, c3, rfl, _⟩ := id ho3.slice)
  all_goals (refine Go ?_)
  all_goals (refine Gs [(1, _)] ?_)
  all_goals (refine WC.sr ?_)
  all_goals (refine Go ?_)
  all_goals (refine WL.stepR (okE_buildSlice (vs := [_]) (cs := [_]) (fun | [a0] => [a0] | _ => []) Tryz.underlying77 rfl rfl (by kernel_rfl)) rfl rfl rfl ?_
             rintro _ h4 ⟨b4, rfl, hg4, hb4, hx4⟩)
  all_goals (refine WL.stepR (okE_buildSlice (vs := [_]) (cs := [_]) (fun | [a0] => [a0] | _ => []) Tryz.underlying31 rfl rfl (by kernel_rfl)) rfl rfl rfl ?_
             rintro _ h5 ⟨b5, rfl, hg5, hb5, hx5⟩)
  all_goals (refine WL.call (vs := [_, _, _, _]) rfl (fun a w => Tryz.call44 a w) rfl (outputs1 (hx5.obj hb4 nos) ((ho3.rd.ext0 hx4).ext0 hx5) hb5) rfl rfl rfl ?_
             rintro v6 h6 ⟨⟨B, cB, ho6⟩, hx6⟩
             have X6 := ((X3.trans hx4).trans hx5).trans hx6
             obtain ⟨p6, c6, cs6, rfl, hb6, hr1, hr2, hr3, hr4⟩ := ho6.block (by decide)
             obtain ⟨bb, o, e, _, hat⟩ := Rd.at_ ho6.rd (by omega)
             simp only [Option.some.injEq, Addr.mk.injEq] at e
             obtain ⟨rfl, rfl, _⟩ := e
             have hat0 := hat.get (p := 0 + 0 * 1) 0 rfl (by omega))
  all_goals (refine Go ?_)
  all_goals (refine Gs [(2, _)] ?_)
  all_goals (refine WC.sr ?_)
  all_goals (refine Go ?_)
  all_goals (refine goP 13 ?_ ?_ <;> first | exact ⟨⟩ | refine Hb.mk fun hb => ?_ | skip)
  all_goals (refine Gg ?_)
  all_goals (first | (refine WL.pass rfl rfl rfl ?_) | (refine WL.step (ok_idxAddrA Tryz.underlying77 (fun w => Tryz.sizeOf22 w) rfl rfl rfl (by first | omega | (simp <;> omega)) (by first | rfl | assumption) (k := 0)) rfl rfl rfl ?_))
  all_goals (first | (refine WL.pass rfl rfl rfl ?_) | (refine WL.ld rfl (by first | exact hat0 | assumption | exact cell_blk (by assumption) rfl) rfl rfl rfl ?_))
  all_goals (refine Gg ?_)
  all_goals (refine Go ?_)
  all_goals (refine goP 20 ?_ ?_ <;> first | exact ⟨⟩ | refine Hb.mk fun hb => ?_ | skip)
  all_goals (first
               | (refine WL.pass rfl rfl rfl ?_)
               | (refine WL.stepR (okE_buildSlice (vs := [_]) (cs := [_]) (fun | [a0] => [a0] | _ => []) Tryz.underlying22 rfl rfl (by kernel_rfl)) rfl rfl rfl ?_
                  rintro _ h7 ⟨b7, rfl, hg7, hb7, hx7⟩))
  all_goals (first
               | (refine WL.pass rfl rfl rfl ?_)
               | (refine WL.stepR (okE_buildSlice (vs := [_, _]) (cs := [_, _]) (fun | [a0, a1] => [a0, a1] | _ => []) Tryz.underlying22 rfl rfl (by kernel_rfl)) rfl rfl rfl ?_
                  rintro _ h8 ⟨b8, rfl, hg8, hb8, hx8⟩))
  all_goals (first
               | (refine WL.pass rfl rfl rfl ?_)
               | (refine WL.call (vs := [_, _]) rfl (fun a w => Tryz.call18 a w) rfl (kp _ _ _ (hx8.obj hb7 nos) hb8) rfl rfl rfl ?_
                  rintro _ hq ⟨rfl, hz⟩
                  replace hz := hz.symm
                  subst hz))
  all_goals (refine Go ?_)
  all_goals (refine goP 25 ?_ ?_ <;> first | exact ⟨⟩ | refine Hb.mk fun hb => ?_ | skip)
  all_goals (first | (refine WL.pass rfl rfl rfl ?_) | (refine WL.step (ok_buildF (vs := [_, _]) (cs := [_, _]) (fun | [a0, a1] => [a0, a1] | _ => []) rfl rfl (by kernel_rfl)) rfl rfl rfl ?_))
  all_goals (first
               | (refine WL.pass rfl rfl rfl ?_)
               | (refine WL.stepR (okE_buildSlice (vs := [_]) (cs := [_, _]) (fun | [.agg ⟨[a0, a1]⟩] => [a0, a1] | _ => []) Tryz.underlying82 rfl rfl (by kernel_rfl)) rfl rfl rfl ?_
                  rintro _ h9 ⟨b9, rfl, hg9, hb9, hx9⟩))
  all_goals (first
               | (refine WL.pass rfl rfl rfl ?_)
               | (refine WL.call (vs := [_, _]) rfl (fun a w => Tryz.call45 a w) rfl (order1 hb9) rfl rfl rfl ?_
                  rintro _ h10 ⟨⟨A10, c10, rfl⟩, hx10⟩))
  all_goals (refine Gg ?_)
  all_goals (refine Go ?_)
  all_goals (refine Gs [(0, _)] ?_)
  all_goals (refine Gt ?_)
  all_goals (exact ⟨rfl, (((X6.trans hx7).trans hx8).trans hx9).trans hx10⟩)
end
end Go.Proofs.YtdjjpbbhcidaaaaGreatDoor


/-
  MANY CLIENTS (layer 45): what the library's variables hold when a law is called.
-/
namespace Go.Proofs.YtdjjpbbhcidaaaaGreatDoor
open Go Go.RK

def laidP : List (String × DataW Unit) := Rows.mixPrefixRow.laid.filter fun x => x.2.handleName?.isNone
/-- A world in which the one handle is laid. -/
noncomputable def handWorld (os : Os) : World :=
  let w0 := World.holding Tryz.prog os ⟨#[], #[], []⟩
  { w0 with heap := w0.heap.modify 0 fun
      | .cells _ t frozen => .cells #[.iface 266 (.agg #[.pointer (some ⟨4, 112, none⟩)])] t frozen
      | o => o }
noncomputable def laidWorld (os : Os) : World := (handWorld os).layVars Tryz.prog laidP
theorem laidWorld_os (os : Os) : (laidWorld os).os = os := World.layVars_os _ _ _
theorem laidWorld_met (os : Os) (args : Array Value) : laidMetH Tryz.prog Rows.mixPrefixRow.laid ((laidWorld os).forCall (fun _ _ => 0) ⟨#[], args, []⟩).memory := by
  have e1 : (laidP.filter fun x => (laidP.map (·.1)).contains x.1) = laidP := List.filter_eq_self.2 fun x hx => List.contains_iff_mem.2 (List.mem_map.2 ⟨x, hx, rfl⟩)
  have e2 : (laidP.filter fun x => !(laidP.map (·.1)).contains x.1) = [] := List.filter_eq_nil_iff.2 fun x hx => by rw [List.contains_iff_mem.2 (List.mem_map.2 ⟨x, hx, rfl⟩)]; simp
  have h : laidMet Tryz.prog laidP (laidWorld os) := laidMet_layVars (w0 := handWorld os) (laidP.map (·.1)) [] (by rw [e1]; rfl) (by rw [e1]; kernel_rfl) (by rw [e1]; kernel_rfl) (by rw [e2]; exact LaidIn.none)
  exact laidMetH_of_parts (h.of_heap (by simp [World.memory, World.forCall, Input.heap])) (by kernel_rfl)
end Go.Proofs.YtdjjpbbhcidaaaaGreatDoor


