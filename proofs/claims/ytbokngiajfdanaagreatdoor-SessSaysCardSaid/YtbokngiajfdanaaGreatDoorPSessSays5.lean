/-
  SEVERAL TEXTS IN ONE: Dx12, Dx13, ColsR, Dx14, Dx15, K29, Dx9, Dx16, Dx17, Dx18, Dx19, Sx6, Sx7, As30, As31, As32, Dx20.
-/
import Derived.Test.YtbokngiajfdanaaGreatDoorPSessSays4
import Derived.WalkKit
import Derived.LaidEql
import Derived.Stop.Asserts
import Derived.RowKitTokens
/-
  SESSIONS (layer 30), by the code: a B.
-/
namespace Go.Proofs.YtbokngiajfdanaaGreatDoor
open Go Go.RK

section
variable {h h' : Heap} {A : Ad} {st : Int} {sk ov : Bool} {cnt : Int} {L : List (List UInt8 × StD)} {P : List (List UInt8 × ItD)}
theorem stmtP_none {n : List UInt8} (e : stmtP (spO st sk ov cnt L P) n = none) : ∃ q, getK L n = some q := by
  have e' : (match getK (plL L) n with | none => some (([50, 54, 48, 48, 48] : List UInt8), missL n) | some t => abortP t.1 st) = none := e
  rw [getL_pl] at e'
  rcases hg : getK L n with _ | q
  · rw [hg] at e'
    cases e'
  · exact ⟨q, rfl⟩
theorem portP_none {n : List UInt8} (e : portP (spO st sk ov cnt L P) n = none) : ∃ q, getK P n = some q := by
  have e' : (match getK (plP P) n with | none => some (([51, 52, 48, 48, 48] : List UInt8), saysL ([112, 111, 114, 116, 97, 108] : List UInt8) n ([100, 111, 101, 115, 32, 110, 111, 116, 32, 101, 120, 105, 115, 116] : List UInt8)) | some t => abortP t.1 st) = none := e
  rw [getP_pl] at e'
  rcases hg : getK P n with _ | q
  · rw [hg] at e'
    cases e'
  · exact ⟨q, rfl⟩
set_option maxHeartbeats 2000000 in
set_option maxRecDepth 100000 in
theorem bind_v (k : Ss h A st sk ov cnt L P) (lm : LimP (spO st sk ov cnt L P)) (f : Fm) (hf : f.ok h) (hF : ∀ q, f.F q → ¬ Mu A P q) (fl : FmLim f) : CallsH Tryz.prog 47 ⟨[.pointer (some ⟨A.bs, 0, none⟩), .agg ⟨f.cells⟩]⟩ h (Dealt h A P (bindP (spO st sk ov cnt L P) f.p)) := by
  have hok := hf.4
  obtain ⟨⟨e1, _⟩, ⟨e2, _⟩, ⟨e3, _⟩, e4, _⟩ := hf
  obtain ⟨fl1, fl2, fl3, fl4, fl5, _⟩ := fl
  obtain ⟨fk, w, n, p, t, vo, o, vf, fs, vs, rs, vp, ps, mx⟩ := f
  dsimp only at e1 e2 e3 e4 fl1 fl2 fl3 fl4 fl5 hok
  obtain ⟨A1, c1, rfl, _⟩ := e1
  obtain ⟨_, _, rfl, _⟩ := e2
  obtain ⟨_, _, rfl, _⟩ := e3
  obtain ⟨A4, c4, rfl, _⟩ := e4
  rcases he : stmtP (spO st sk ov cnt L P) n with _ | ⟨ea, ec⟩
  · obtain ⟨q, hq⟩ := stmtP_none he
    have hqL := k.sok _ (getK_mem hq)
    have hpe : bindP (spO st sk ov cnt L P) ⟨fk, w, n, p, t, o, ps.map Cel.pl, mx⟩ = if (ps.map Cel.pl).length ≠ q.oids.length then (spO st sk ov cnt L P, [], some (([48, 56, 80, 48, 49] : List UInt8), arityL ((ps.map Cel.pl).length : Int) n (q.oids.length : Int)))
      else if p ≠ [] ∧ (getK (plP P) p).isSome = true then (spO st sk ov cnt L P, [], some (([52, 50, 80, 48, 51] : List UInt8), saysL ([99, 117, 114, 115, 111, 114] : List UInt8) p ([97, 108, 114, 101, 97, 100, 121, 32, 101, 120, 105, 115, 116, 115] : List UInt8)))
      else ({ spO st sk ov cnt L P with P := putK (plP P) p (q.text, q.oids, ps.map Cel.pl, [], false, false) }, [{ kind := 50 }], none) := by
      have hgl : getK (spO st sk ov cnt L P).L n = some (q.text, q.oids) := by show getK (plL L) n = _; rw [getL_pl, hq]; rfl
      unfold bindP
      dsimp only
      rw [he, hgl]
      rfl
    rw [List.length_map, getP_pl] at hpe
    by_cases hlen : ps.length = q.oids.length
    · rw [if_neg (fun e => e hlen)] at hpe
      by_cases htw : p ≠ [] ∧ (getK P p).isSome = true
      · rw [if_pos (by simpa using htw)] at hpe
        obtain ⟨i, hi⟩ := Option.isSome_iff_exists.1 htw.2
        have kp := fun (g : Heap) (k : Ss g A st sk ov cnt L P) (d : PD) => put_tw p d k.se.pb k.se.pm (v := pcE i) (by rw [alook_encK, hi]; rfl) htw.1
        unfold PD.cells at kp
        dsimp only [Fm.cells, Fm.p]
        rw [hpe]
        refine calls [(0, _), (1, _)] Tryz.func47 rfl Tryz.ntmps47 rfl ⟨rfl, rfl, trivial⟩ ?_
        all_goals (refine WC.sr ?_; refine WL.stepR (okE_box rfl) rfl rfl rfl ?_; rintro _ h1 ⟨b3, rfl, hg1, hb1, hx1⟩; refine Go ?_; refine WC.sr ?_; refine Go ?_; refine WL.ld rfl (by first | exact cell_blk hb1 rfl | assumption | exact cell_blk (by assumption) rfl) rfl rfl rfl ?_)
        all_goals (refine WL.call (vs := [_, _]) rfl (fun a w => Tryz.call83 a w) rfl (stmt_v (k.ext0 hx1) lm n fl1) rfl rfl rfl ?_
                   rintro _ h2 ⟨⟨q', rfl, ⟨B, c, hvo⟩, hq'⟩, hx2⟩
                   rw [he] at hq' ⊢
                   dsimp only [erV]
                   obtain ⟨qt, qv, qo⟩ := q'
                   dsimp only at hvo
                   subst hvo
                   unfold stE)
        all_goals (refine Go ?_; refine WL.stepR (okE_alloc (fun w => Tryz.zeroValue135 w)) rfl rfl rfl ?_; rintro _ h3 ⟨b6, rfl, hg3, hb3, hx3⟩; refine WL.stepR0 (okE_storeW (fun w => Tryz.sizeOf135 w) rfl rfl rfl hb3 rfl (by simp [Value.oneCell'])) rfl rfl ?_; rintro _ h4 ⟨hb4, hx4⟩; have X14 : Ext No h1 h4 := hx2.trans (hx3.trans' hx4 (fun q hq e => by omega)); have X4 := hx1.trans X14; have hb14 := X14.obj hb1 nos; have k4 := k.ext0 X4; have hbs := k4.se.blk; have hqq := Option.some.inj (hq.symm.trans (hq' rfl)); subst hqq; dsimp only at hlen)
        all_goals (refine Go ?_; refine Gs [(0, _), (3, _), (6, _), (7, _)] ?_; refine WC.seq ?_; refine WC.sr ?_; refine Go ?_; refine WL.step (ok_neqIn (by kernel_rfl) rfl rfl) rfl rfl rfl ?_; refine Gn ?_; refine goC 1 2 ?_ TT.mk; refine goB 2 ?_; refine WC.skip ?_; refine Gn ?_; refine WC.seq ?_; refine WC.seq ?_; refine WC.drawE fol (by kernel_rfl) ?_; refine WQ.stepE (ok_fieldAddr rfl Tryz.underlying32 rfl (fun w => Tryz.sizeOf30 w)) rfl rfl rfl ?_; refine WQ.stepE (ok_load (fun w => Tryz.isAgg30 w) rfl (by first | exact cell_blk hb14 rfl | assumption | exact cell_blk (by assumption) rfl)) rfl rfl rfl ?_; refine WQ.stepE (ok_lenL rfl Tryz.underlying30 rfl) rfl rfl rfl ?_; refine WQ.stepE (ok_fieldAddr rfl Tryz.underlying135 rfl (fun w => Tryz.sizeOf29 w)) rfl rfl rfl ?_; refine WQ.stepE (ok_load (fun w => Tryz.isAgg29 w) rfl (by first | exact cell_blk hb4 rfl | assumption | exact cell_blk (by assumption) rfl)) rfl rfl rfl ?_; refine WQ.stepE (ok_lenL rfl Tryz.underlying29 rfl) rfl rfl rfl ?_; refine WQ.stepE (ok_assign rfl) rfl rfl rfl ?_; refine WQ.stepE (ok_assign rfl) rfl rfl rfl ?_; refine WQ.nil ?_; refine Gn ?_; refine Gs [(0, _), (3, _), (6, _), (8, _), (9, _)] ?_; refine WC.sr ?_; refine Go ?_; refine goC 3 4 ?_ TT.mk; refine goB 4 ?_; refine WC.skip ?_; refine Gn ?_; refine Gs [(0, _), (3, _), (6, _)] ?_; refine WC.seq ?_; refine WC.seq ?_; refine WC.drawT 10 fol (by kernel_rfl) ?_; show WS _ _ _ [_, _, _, _, _, _, _, _, _, _] _ _ _)
        all_goals (refine WS.step (ok_move rfl) rfl rfl rfl ?_; refine WS.step (ok_nilCheck rfl) rfl rfl rfl ?_; refine WS.step (ok_fieldAddr rfl Tryz.underlying54 rfl (fun w => Tryz.sizeOf51 w)) rfl rfl rfl ?_; refine WS.step (ok_load (fun w => Tryz.isAgg51 w) rfl (by first | exact cell_blk hbs rfl | assumption | exact cell_blk (by assumption) rfl)) rfl rfl rfl ?_; refine WS.step (ok_fieldAddr rfl Tryz.underlying32 rfl (fun w => Tryz.sizeOf9 w)) rfl rfl rfl ?_; refine WS.step (ok_load (fun w => Tryz.isAgg9 w) rfl (by first | exact cell_blk hb14 rfl | assumption | exact cell_blk (by assumption) rfl)) rfl rfl rfl ?_; refine WS.step (ok_loadN (fun w => Tryz.isAgg135 w) (fun w => Tryz.sizeOf135 w) rfl rfl (by exact At.of_block hb4)) rfl rfl rfl ?_; refine WS.step (ok_fieldAddr rfl Tryz.underlying32 rfl (fun w => Tryz.sizeOf30 w)) rfl rfl rfl ?_; refine WS.step (ok_load (fun w => Tryz.isAgg30 w) rfl (by first | exact cell_blk hb14 rfl | assumption | exact cell_blk (by assumption) rfl)) rfl rfl rfl ?_; refine WS.step (ok_buildF (vs := [_, _]) (cs := [_, _, _, _, _, _]) (fun | [.agg ⟨[a0, a1]⟩, a2] => [a0, a1, a2, (.slice none 0 0), (.bool false), (.bool false)] | _ => []) rfl rfl (by kernel_rfl)) rfl rfl rfl ?_; refine WS.nil ?_; show WL _ _ _ [_, _] _ _ _)
        all_goals (refine WL.call (vs := [_, _, _]) rfl (fun a w => Tryz.call85 a w) rfl (kp _ k4 ⟨qt, .slice B qo.length c, qo, .slice A4 ps.length c4, ps, .slice none 0 0, [], false, false⟩) rfl rfl rfl ?_; rintro _ h5 ⟨rfl, hx5⟩; refine WL.step (OkP.nbool_t (by omega) (ok_neq rfl rfl)) rfl rfl rfl ?_; refine WL.nil ?_; refine Gn ?_; refine Gs [(3, _), (46, _)] ?_; refine goC 5 6 ?_ TT.mk; refine goB 5 ?_; refine WC.sr ?_; refine Go ?_; refine WL.ld rfl (by first | exact cell_blk (hx5.obj hb14 nos) rfl | assumption | exact cell_blk (by assumption) rfl) rfl rfl rfl ?_; refine WL.call (vs := [_]) rfl (fun a w => Tryz.call86 a w) rfl (cursor_any p fl2) rfl rfl rfl ?_; rintro _ h6 ⟨rfl, hx6⟩; refine WL.call (vs := [_, _]) rfl (fun a w => Tryz.call79 a w) rfl (stop_v _ _) rfl rfl rfl ?_; rintro _ hq ⟨rfl, hz⟩; replace hz := hz.symm; subst hz; refine Go ?_; refine Gs [(4, _), (5, _)] ?_; refine Gt ?_; exact Dealt.err rfl (.of ((k4.ext0 hx5).ext0 hx6) (Tn.no ((X4.trans hx5).trans hx6))))
      · rw [if_neg (by simpa using htw)] at hpe
        have hn2 : p = [] ∨ alook (encK pcE P) p = none := by
          by_cases hp0 : p = []
          · exact .inl hp0
          · refine .inr ?_
            rw [alook_encK]
            rcases hg : getK P p with _ | i
            · rfl
            · exact absurd ⟨hp0, by rw [hg]; rfl⟩ htw
        have kp := fun (g : Heap) (k : Ss g A st sk ov cnt L P) (d : PD) (ok : d.ok g) => put_e p d k.se.pb k.se.pm ok hn2
        unfold PD.cells at kp
        dsimp only [Fm.cells, Fm.p]
        rw [hpe]
        refine calls [(0, _), (1, _)] Tryz.func47 rfl Tryz.ntmps47 rfl ⟨rfl, rfl, trivial⟩ ?_
        all_goals (refine WC.sr ?_; refine WL.stepR (okE_box rfl) rfl rfl rfl ?_; rintro _ h1 ⟨b3, rfl, hg1, hb1, hx1⟩; refine Go ?_; refine WC.sr ?_; refine Go ?_; refine WL.ld rfl (by first | exact cell_blk hb1 rfl | assumption | exact cell_blk (by assumption) rfl) rfl rfl rfl ?_)
        all_goals (refine WL.call (vs := [_, _]) rfl (fun a w => Tryz.call83 a w) rfl (stmt_v (k.ext0 hx1) lm n fl1) rfl rfl rfl ?_
                   rintro _ h2 ⟨⟨q', rfl, ⟨B, c, hvo⟩, hq'⟩, hx2⟩
                   rw [he] at hq' ⊢
                   dsimp only [erV]
                   obtain ⟨qt, qv, qo⟩ := q'
                   dsimp only at hvo
                   subst hvo
                   unfold stE)
        all_goals (refine Go ?_; refine WL.stepR (okE_alloc (fun w => Tryz.zeroValue135 w)) rfl rfl rfl ?_; rintro _ h3 ⟨b6, rfl, hg3, hb3, hx3⟩; refine WL.stepR0 (okE_storeW (fun w => Tryz.sizeOf135 w) rfl rfl rfl hb3 rfl (by simp [Value.oneCell'])) rfl rfl ?_; rintro _ h4 ⟨hb4, hx4⟩)
        all_goals (have X14 : Ext No h1 h4 := hx2.trans (hx3.trans' hx4 (fun q hq e => by omega))
                   have X4 := hx1.trans X14
                   have hb14 := X14.obj hb1 nos
                   have k4 := k.ext0 X4
                   have hbs := k4.se.blk
                   have hqq := Option.some.inj (hq.symm.trans (hq' rfl))
                   subst hqq
                   dsimp only at hlen hqL
                   have okp : PD.ok h4 ⟨qt, .slice B qo.length c, qo, .slice A4 ps.length c4, ps, .slice none 0 0, [], false, false⟩ := ⟨hqL.1.ext0 X4, by show qo.length * 8 ≤ reachBytes; unfold reachBytes; have := hqL.2.1; omega, hok.ext0 X4, Rd.nil _ _, ⟨by simp, _, _, rfl, by simp [maxLen]⟩, by simp⟩)
        all_goals (refine Go ?_; refine Gs [(0, _), (3, _), (6, _), (7, _)] ?_; refine WC.seq ?_; refine WC.sr ?_; refine Go ?_; refine WL.step (ok_neqIn (by kernel_rfl) rfl rfl) rfl rfl rfl ?_; refine Gn ?_; refine goC 1 2 ?_ TT.mk; refine goB 2 ?_; refine WC.skip ?_; refine Gn ?_; refine WC.seq ?_; refine WC.seq ?_; refine WC.drawE fol (by kernel_rfl) ?_; refine WQ.stepE (ok_fieldAddr rfl Tryz.underlying32 rfl (fun w => Tryz.sizeOf30 w)) rfl rfl rfl ?_; refine WQ.stepE (ok_load (fun w => Tryz.isAgg30 w) rfl (by first | exact cell_blk hb14 rfl | assumption | exact cell_blk (by assumption) rfl)) rfl rfl rfl ?_; refine WQ.stepE (ok_lenL rfl Tryz.underlying30 rfl) rfl rfl rfl ?_; refine WQ.stepE (ok_fieldAddr rfl Tryz.underlying135 rfl (fun w => Tryz.sizeOf29 w)) rfl rfl rfl ?_; refine WQ.stepE (ok_load (fun w => Tryz.isAgg29 w) rfl (by first | exact cell_blk hb4 rfl | assumption | exact cell_blk (by assumption) rfl)) rfl rfl rfl ?_; refine WQ.stepE (ok_lenL rfl Tryz.underlying29 rfl) rfl rfl rfl ?_; refine WQ.stepE (ok_assign rfl) rfl rfl rfl ?_; refine WQ.stepE (ok_assign rfl) rfl rfl rfl ?_; refine WQ.nil ?_; refine Gn ?_; refine Gs [(0, _), (3, _), (6, _), (8, _), (9, _)] ?_; refine WC.sr ?_; refine Go ?_; refine goC 3 4 ?_ TT.mk; refine goB 4 ?_; refine WC.skip ?_; refine Gn ?_; refine Gs [(0, _), (3, _), (6, _)] ?_; refine WC.seq ?_; refine WC.seq ?_; refine WC.drawT 10 fol (by kernel_rfl) ?_; show WS _ _ _ [_, _, _, _, _, _, _, _, _, _] _ _ _)
        all_goals (refine WS.step (ok_move rfl) rfl rfl rfl ?_; refine WS.step (ok_nilCheck rfl) rfl rfl rfl ?_; refine WS.step (ok_fieldAddr rfl Tryz.underlying54 rfl (fun w => Tryz.sizeOf51 w)) rfl rfl rfl ?_; refine WS.step (ok_load (fun w => Tryz.isAgg51 w) rfl (by first | exact cell_blk hbs rfl | assumption | exact cell_blk (by assumption) rfl)) rfl rfl rfl ?_; refine WS.step (ok_fieldAddr rfl Tryz.underlying32 rfl (fun w => Tryz.sizeOf9 w)) rfl rfl rfl ?_; refine WS.step (ok_load (fun w => Tryz.isAgg9 w) rfl (by first | exact cell_blk hb14 rfl | assumption | exact cell_blk (by assumption) rfl)) rfl rfl rfl ?_; refine WS.step (ok_loadN (fun w => Tryz.isAgg135 w) (fun w => Tryz.sizeOf135 w) rfl rfl (by exact At.of_block hb4)) rfl rfl rfl ?_; refine WS.step (ok_fieldAddr rfl Tryz.underlying32 rfl (fun w => Tryz.sizeOf30 w)) rfl rfl rfl ?_; refine WS.step (ok_load (fun w => Tryz.isAgg30 w) rfl (by first | exact cell_blk hb14 rfl | assumption | exact cell_blk (by assumption) rfl)) rfl rfl rfl ?_; refine WS.step (ok_buildF (vs := [_, _]) (cs := [_, _, _, _, _, _]) (fun | [.agg ⟨[a0, a1]⟩, a2] => [a0, a1, a2, (.slice none 0 0), (.bool false), (.bool false)] | _ => []) rfl rfl (by kernel_rfl)) rfl rfl rfl ?_; refine WS.nil ?_; show WL _ _ _ [_, _] _ _ _)
        all_goals (refine WL.call (vs := [_, _, _]) rfl (fun a w => Tryz.call85 a w) rfl (kp _ k4 _ okp) rfl rfl rfl ?_
                   rintro _ h5 ⟨rfl, p5, d5, hm5, hb5, ok5, pl5, hg5, hf5, hx5⟩
                   rw [show (Value.pointer (some ⟨p5, 0, none⟩)) = pcE ⟨p5, d5⟩ from rfl, aput_encK] at hm5
                   obtain ⟨k5, t5⟩ := k4.putP hx5 hm5 hb5 ok5 hg5 hf5
                   have T5 := (Tn.no (A := A) (P := P) X4).trans t5)
        all_goals (refine WL.step (OkP.nbool_f (by omega) (ok_neq rfl rfl)) rfl rfl rfl ?_; refine WL.nil ?_; refine Gn ?_; refine Gs [(3, _), (46, _)] ?_; refine goC 5 6 ?_ TT.mk; refine goB 6 ?_; refine WC.skip ?_; refine Gn ?_; refine WC.sr ?_; refine WL.call (vs := [_]) rfl (fun a w => Tryz.call82 a w) rfl (plain_v 50) rfl rfl rfl ?_; rintro _ h6 ⟨q6, rfl, hq6, hgq, hx6⟩; refine Go ?_; refine Gt ?_; exact ⟨_, [bk0 50 0 []], (fun e => absurd rfl e), rfl, .tag hq6 (by have := T5.1.size; omega), rfl, _, _, k5.ext0 hx6, rfl, (putP_pl _ _ _).trans (by rw [show (ItD.mk p5 d5).d.pl = d5.pl from rfl, pl5]; rfl), T5.trans (Tn.no (A := A) hx6)⟩)
    · rw [if_pos hlen] at hpe
      dsimp only [Fm.cells, Fm.p]
      rw [hpe]
      refine calls [(0, _), (1, _)] Tryz.func47 rfl Tryz.ntmps47 rfl ⟨rfl, rfl, trivial⟩ ?_
      all_goals (refine WC.sr ?_; refine WL.stepR (okE_box rfl) rfl rfl rfl ?_; rintro _ h1 ⟨b3, rfl, hg1, hb1, hx1⟩; refine Go ?_; refine WC.sr ?_; refine Go ?_; refine WL.ld rfl (by first | exact cell_blk hb1 rfl | assumption | exact cell_blk (by assumption) rfl) rfl rfl rfl ?_)
      all_goals (refine WL.call (vs := [_, _]) rfl (fun a w => Tryz.call83 a w) rfl (stmt_v (k.ext0 hx1) lm n fl1) rfl rfl rfl ?_
                 rintro _ h2 ⟨⟨q', rfl, ⟨B, c, hvo⟩, hq'⟩, hx2⟩
                 rw [he] at hq' ⊢
                 dsimp only [erV]
                 obtain ⟨qt, qv, qo⟩ := q'
                 dsimp only at hvo
                 subst hvo
                 unfold stE)
      all_goals (refine Go ?_; refine WL.stepR (okE_alloc (fun w => Tryz.zeroValue135 w)) rfl rfl rfl ?_; rintro _ h3 ⟨b6, rfl, hg3, hb3, hx3⟩; refine WL.stepR0 (okE_storeW (fun w => Tryz.sizeOf135 w) rfl rfl rfl hb3 rfl (by simp [Value.oneCell'])) rfl rfl ?_; rintro _ h4 ⟨hb4, hx4⟩)
      all_goals (have X14 : Ext No h1 h4 := hx2.trans (hx3.trans' hx4 (fun q hq e => by omega))
                 have X4 := hx1.trans X14
                 have hb14 := X14.obj hb1 nos
                 have k4 := k.ext0 X4
                 have hbs := k4.se.blk
                 have hqq := Option.some.inj (hq.symm.trans (hq' rfl))
                 subst hqq
                 dsimp only at hlen hqL
                 have hql := hqL.2.1)
      all_goals (refine Go ?_; refine Gs [(0, _), (3, _), (6, _), (7, _)] ?_; refine WC.seq ?_; refine WC.sr ?_; refine Go ?_; refine WL.step (ok_neqIn (by kernel_rfl) rfl rfl) rfl rfl rfl ?_; refine Gn ?_; refine goC 1 2 ?_ TT.mk; refine goB 2 ?_; refine WC.skip ?_; refine Gn ?_; refine WC.seq ?_; refine WC.seq ?_; refine WC.drawE fol (by kernel_rfl) ?_; refine WQ.stepE (ok_fieldAddr rfl Tryz.underlying32 rfl (fun w => Tryz.sizeOf30 w)) rfl rfl rfl ?_; refine WQ.stepE (ok_load (fun w => Tryz.isAgg30 w) rfl (by first | exact cell_blk hb14 rfl | assumption | exact cell_blk (by assumption) rfl)) rfl rfl rfl ?_; refine WQ.stepE (ok_lenL rfl Tryz.underlying30 rfl) rfl rfl rfl ?_; refine WQ.stepE (ok_fieldAddr rfl Tryz.underlying135 rfl (fun w => Tryz.sizeOf29 w)) rfl rfl rfl ?_; refine WQ.stepE (ok_load (fun w => Tryz.isAgg29 w) rfl (by first | exact cell_blk hb4 rfl | assumption | exact cell_blk (by assumption) rfl)) rfl rfl rfl ?_; refine WQ.stepE (ok_lenL rfl Tryz.underlying29 rfl) rfl rfl rfl ?_; refine WQ.stepE (ok_assign rfl) rfl rfl rfl ?_; refine WQ.stepE (ok_assign rfl) rfl rfl rfl ?_; refine WQ.nil ?_; refine Gn ?_; refine Gs [(0, _), (3, _), (6, _), (8, _), (9, _)] ?_; refine WC.sr ?_; refine Go ?_; refine goC 3 4 ?_ TT.mk; refine goB 3 ?_; refine WC.sr ?_; refine Go ?_; refine WL.ld rfl (by first | exact cell_blk hb14 rfl | assumption | exact cell_blk (by assumption) rfl) rfl rfl rfl ?_; refine Go ?_; refine WL.call (vs := [_, _, _]) rfl (fun a w => Tryz.call84 a w) rfl (arity_any (ps.length : Int) n (qo.length : Int) fl1 (by omega) (by omega)) rfl rfl rfl ?_; rintro _ h6 ⟨rfl, hx6⟩; refine WL.call (vs := [_, _]) rfl (fun a w => Tryz.call79 a w) rfl (stop_v _ _) rfl rfl rfl ?_; rintro _ hq ⟨rfl, hz⟩; replace hz := hz.symm; subst hz; refine Go ?_; refine Gs [(4, _), (5, _)] ?_; refine Gt ?_; exact Dealt.err rfl (.of (k4.ext0 hx6) (Tn.no (X4.trans hx6))))
  · have hpe : bindP (spO st sk ov cnt L P) ⟨fk, w, n, p, t, o, ps.map Cel.pl, mx⟩ = (spO st sk ov cnt L P, [], some (ea, ec)) := by
      unfold bindP
      dsimp only
      rw [he]
    dsimp only [Fm.cells, Fm.p]
    rw [hpe]
    refine calls [(0, _), (1, _)] Tryz.func47 rfl Tryz.ntmps47 rfl ⟨rfl, rfl, trivial⟩ ?_
    all_goals (refine WC.sr ?_; refine WL.stepR (okE_box rfl) rfl rfl rfl ?_; rintro _ h1 ⟨b3, rfl, hg1, hb1, hx1⟩; refine Go ?_; refine WC.sr ?_; refine Go ?_; refine WL.ld rfl (by first | exact cell_blk hb1 rfl | assumption | exact cell_blk (by assumption) rfl) rfl rfl rfl ?_)
    all_goals (refine WL.call (vs := [_, _]) rfl (fun a w => Tryz.call83 a w) rfl (stmt_v (k.ext0 hx1) lm n fl1) rfl rfl rfl ?_
               rintro _ h2 ⟨⟨q', rfl, ⟨B, c, hvo⟩, hq'⟩, hx2⟩
               rw [he] at hq' ⊢
               dsimp only [erV]
               obtain ⟨qt, qv, qo⟩ := q'
               dsimp only at hvo
               subst hvo
               unfold stE)
    all_goals (refine Go ?_; refine WL.stepR (okE_alloc (fun w => Tryz.zeroValue135 w)) rfl rfl rfl ?_; rintro _ h3 ⟨b6, rfl, hg3, hb3, hx3⟩; refine WL.stepR0 (okE_storeW (fun w => Tryz.sizeOf135 w) rfl rfl rfl hb3 rfl (by simp [Value.oneCell'])) rfl rfl ?_; rintro _ h4 ⟨hb4, hx4⟩; have X14 : Ext No h1 h4 := hx2.trans (hx3.trans' hx4 (fun q hq e => by omega)); have X4 := hx1.trans X14; have k4 := k.ext0 X4; refine Go ?_; refine Gs [(0, _), (3, _), (6, _), (7, _)] ?_; refine WC.seq ?_; refine WC.sr ?_; refine Go ?_; refine WL.step (ok_neqIh (by kernel_rfl) rfl rfl) rfl rfl rfl ?_; refine Gn ?_; refine goC 1 2 ?_ TT.mk; refine goB 1 ?_; refine WC.sr ?_; refine Go ?_; refine Gs [(4, _), (5, _)] ?_; refine Gt ?_; exact Dealt.err rfl (.of k4 (Tn.no X4)))
end
end Go.Proofs.YtbokngiajfdanaaGreatDoor


/-
  SESSIONS (layer 30), by the code: a D.
-/
namespace Go.Proofs.YtbokngiajfdanaaGreatDoor
open Go Go.RK

theorem colV_cells (l : List (List UInt8)) : l.flatMap colV = (l.map colP).flatMap ColD.cells := by
  rw [List.flatMap_map]
  rfl
set_option maxHeartbeats 2000000 in
set_option maxRecDepth 100000 in
/-- What tells of columns. -/
theorem descr_v {h : Heap} (n : Int) : CallsH Tryz.prog 97 ⟨[In n]⟩ h fun u h' => ∃ b : Bk, u = .agg ⟨b.cells⟩ ∧ b.ok h' ∧ b.p = descP n ∧ (∀ q, b.F q → h.size ≤ q) ∧ Ext No h h' := by
  refine calls [(0, _)] Tryz.func97 rfl Tryz.ntmps97 rfl ⟨rfl, trivial⟩ ?_
  all_goals (refine WC.sr ?_; refine WL.stepR (okE_alloc (fun w => Tryz.zeroValue42 w)) rfl rfl rfl ?_; rintro _ h1 ⟨b1, rfl, hg1, hb1, hx1⟩; refine Gn ?_; refine WC.sr ?_; refine Go ?_; refine WL.call (vs := [_]) rfl (fun a w => Tryz.call152 a w) rfl (cols_cols n) rfl rfl rfl ?_; rintro v2 h2 ⟨ho2, hx2, hf2⟩; obtain ⟨A2, c2, rfl, _⟩ := ho2.slice; refine WL.step (ok_buildF (vs := [_, _]) (cs := [_, _, _, _, _, _, _, _, _, _, _]) (fun | [a0, a8] => [a0, (.int .u8 0), (St []), (St []), (St []), (.int .i64 0), (.int .i64 0), (.slice none 0 0), a8, (.slice none 0 0), (.slice none 0 0)] | _ => []) rfl rfl (by kernel_rfl)) rfl rfl rfl ?_; refine WL.stepR0 (okE_storeW (fun w => Tryz.sizeOf42 w) rfl rfl rfl (hx2.obj hb1 nos) rfl (by simp [Value.oneCell'])) rfl rfl ?_; rintro _ h3 ⟨hb3, hx3⟩; refine Gn ?_; refine Gs [(2, _)] ?_; refine WC.ret ?_; repeat' (with_reducible first | refine thenP_r ?_ | refine blockP_r ?_))
  all_goals (refine retP_1 _ ⟨⟨_, rfl, ld_blk (fun w => Tryz.isAgg42 w) (fun w => Tryz.sizeOf42 w) hb3 rfl⟩, trivial⟩ ?_)
  all_goals (have hn := held_le n
             have hl : ((colsL (heldN n)).map colP).length = heldN n := by rw [List.length_map, colsL_len]
             have ho3 := ho2.ext hx3 (fun q hq e => by have := hf2 q hq; have := lt_of_some hb1; omega)
             rw [colV_cells] at ho3
             refine ⟨⟨84, 0, [], [], [], 0, 0, nS, [], .slice A2 (heldN n) c2, (colsL (heldN n)).map colP, nS, [], nS, []⟩, rfl, ⟨⟨Rd.nil _ _, by simp⟩, ⟨by rw [hl]; exact ho3.rd, by rw [hl]; unfold maxLen; omega⟩, cels_zero _ _, ⟨Rd.nil _ _, by simp⟩⟩, rfl, fun q hq => ?_, (hx1.trans hx2).trans' hx3 (fun q hq e => by omega)⟩
             rcases hq with ⟨e, _⟩ | ⟨_, e⟩ | e | ⟨e, _⟩
             · exact absurd e (Nat.lt_irrefl 0)
             · have := hf2 q e; have := hx1.size; omega
             · exact (celsF_nil rfl e).elim
             · exact absurd e (Nat.lt_irrefl 0))
set_option maxHeartbeats 2000000 in
set_option maxRecDepth 100000 in
theorem shape_v {h : Heap} (t : List UInt8) (A : Option Addr) (o : List Int) (c : Nat) (ht : t.length ≤ 100000) : CallsH Tryz.prog 87 ⟨[.agg ⟨[St t, .slice A o.length c]⟩]⟩ h fun u h' => ∃ b : Bk, u = .agg ⟨b.cells⟩ ∧ b.ok h' ∧ b.p = shapeP (t, o) ∧ (∀ q, b.F q → h.size ≤ q) ∧ Ext No h h' := by
  have kp := fun h' => sql_v (h := h') t (by omega)
  have kr := fun h' => rowsD_v (h := h') (verbP t)
  have kc := fun h' => columns_v (h := h') (verbP t) o.length
  unfold shapeP
  dsimp only
  unfold VeD.cells veC at kp kr kc
  cases hr : rowsB (verbP t)
  all_goals
    rw [hr] at kr
    refine calls [(0, _)] Tryz.func87 rfl Tryz.ntmps87 rfl ⟨rfl, trivial⟩ ?_
    all_goals (refine WC.sr ?_; refine WL.stepR (okE_box rfl) rfl rfl rfl ?_; rintro _ h1 ⟨b1, rfl, hg1, hb1, hx1⟩; refine WL.stepR (okE_alloc (fun w => Tryz.zeroValue42 w)) rfl rfl rfl ?_; rintro _ h2 ⟨b2, rfl, hg2, hb2, hx2⟩; have hb12 := hx2.obj hb1 nos; have l2 := lt_of_some hb2; refine Gn ?_; refine WC.sr ?_; refine Go ?_; refine WL.ld rfl (by first | exact cell_blk hb12 rfl | assumption | exact cell_blk (by assumption) rfl) rfl rfl rfl ?_; refine WL.call (vs := [_]) rfl (fun a w => Tryz.call89 a w) rfl (kp _) rfl rfl rfl ?_; rintro _ h3 ⟨rfl, hx3⟩; refine WL.stepR (okE_alloc (fun w => Tryz.zeroValue152 w)) rfl rfl rfl ?_; rintro _ h4 ⟨b4, rfl, hg4, hb4, hx4⟩; refine WL.stepR0 (okE_storeW (fun w => Tryz.sizeOf152 w) rfl rfl rfl hb4 rfl (by simp [Value.oneCell'])) rfl rfl ?_; rintro _ h5 ⟨hb5, hx5⟩; have X25 : Ext No h2 h5 := hx3.trans (hx4.trans' hx5 (fun q hq e => by omega)); refine Gn ?_; refine Gs [(1, _), (2, _), (3, _)] ?_; refine WC.seq ?_; refine WC.sr ?_; refine WL.step (ok_loadN (fun w => Tryz.isAgg152 w) (fun w => Tryz.sizeOf152 w) rfl rfl (by exact At.of_block hb5)) rfl rfl rfl ?_; refine WL.call (vs := [_]) rfl (fun a w => Tryz.call90 a w) rfl (kr _) rfl rfl rfl ?_; rintro _ h6 ⟨rfl, hx6⟩; have X26 := X25.trans hx6; have hb56 := hx6.obj hb5 nos; refine Go ?_; refine goC 1 2 ?_ TT.mk)
    all_goals (first | (fail_if_success refine goB 1 ?_) | (
    refine goB 1 ?_
    all_goals (refine WC.sr ?_; refine WL.step (ok_buildF (vs := [_]) (cs := [_, _, _, _, _, _, _, _, _, _, _]) (fun | [a0] => [a0, (.int .u8 0), (St []), (St []), (St []), (.int .i64 0), (.int .i64 0), (.slice none 0 0), (.slice none 0 0), (.slice none 0 0), (.slice none 0 0)] | _ => []) rfl rfl (by kernel_rfl)) rfl rfl rfl ?_; refine WL.stepR0 (okE_storeW (fun w => Tryz.sizeOf42 w) rfl rfl rfl (X26.obj hb2 nos) rfl (by simp [Value.oneCell'])) rfl rfl ?_; rintro _ h7 ⟨hb7, hx7⟩; refine Gn ?_; refine Gs [(2, _)] ?_; refine WC.ret ?_; repeat' (with_reducible first | refine thenP_r ?_ | refine blockP_r ?_))
    all_goals (refine retP_1 _ ⟨⟨_, rfl, ld_blk (fun w => Tryz.isAgg42 w) (fun w => Tryz.sizeOf42 w) (by first | exact hb7 | exact hb10) rfl⟩, trivial⟩ ?_)
    all_goals (first
                | exact ⟨bk0 110 0 [], rfl, bk0_ok _ _ _ _, rfl, fun q e => (bk0_F e).elim, ((hx1.trans hx2).trans X26).trans' hx7 (fun q hq e => by have := hx1.size; omega)⟩
                | exact ⟨b9, rfl, ok9.ext hx10 (fun q hq e => by have := f9 q hq; have := X26.size; have := hx8.size; omega), p9, fun q hq => by have := f9 q hq; have := X26.size; have := hx8.size; have := hx1.size; have := hx2.size; omega, ((hx1.trans hx2).trans X29).trans' hx10 (fun q hq e => by have := hx1.size; omega)⟩)
    skip))
    all_goals (refine goB 2 ?_; refine WC.skip ?_; refine Gn ?_; refine WC.sr ?_; refine WL.step (ok_loadN (fun w => Tryz.isAgg152 w) (fun w => Tryz.sizeOf152 w) rfl rfl (by exact At.of_block hb56)) rfl rfl rfl ?_; refine Go ?_; refine WL.ld rfl (by first | exact cell_blk (X26.obj hb12 nos) rfl | assumption | exact cell_blk (by assumption) rfl) rfl rfl rfl ?_; refine Go ?_; refine WL.call (vs := [_, _]) rfl (fun a w => Tryz.call98 a w) rfl (kc _) rfl rfl rfl ?_; rintro _ h8 ⟨rfl, hx8⟩; refine WL.call (vs := [_]) rfl (fun a w => Tryz.call97 a w) rfl (descr_v _) rfl rfl rfl ?_; rintro _ h9 ⟨b9, rfl, ok9, p9, f9, hx9⟩; have X29 := (X26.trans hx8).trans hx9; refine WL.stepR0 (okE_storeW (fun w => Tryz.sizeOf42 w) rfl rfl rfl (X29.obj hb2 nos) rfl ok9.one) rfl rfl ?_; rintro _ h10 ⟨hb10, hx10⟩; refine Gn ?_; refine Gs [(2, _)] ?_; refine WC.ret ?_; repeat' (with_reducible first | refine thenP_r ?_ | refine blockP_r ?_))
    all_goals (refine retP_1 _ ⟨⟨_, rfl, ld_blk (fun w => Tryz.isAgg42 w) (fun w => Tryz.sizeOf42 w) (by first | exact hb7 | exact hb10) rfl⟩, trivial⟩ ?_)
    all_goals (first
                | exact ⟨bk0 110 0 [], rfl, bk0_ok _ _ _ _, rfl, fun q e => (bk0_F e).elim, ((hx1.trans hx2).trans X26).trans' hx7 (fun q hq e => by have := hx1.size; omega)⟩
                | exact ⟨b9, rfl, ok9.ext hx10 (fun q hq e => by have := f9 q hq; have := X26.size; have := hx8.size; omega), p9, fun q hq => by have := f9 q hq; have := X26.size; have := hx8.size; have := hx1.size; have := hx2.size; omega, ((hx1.trans hx2).trans X29).trans' hx10 (fun q hq e => by have := hx1.size; omega)⟩)
section
variable {h h' : Heap} {A : Ad} {st : Int} {sk ov : Bool} {cnt : Int} {L : List (List UInt8 × StD)} {P : List (List UInt8 × ItD)}
/-- A reply in a box, as the only one. -/
theorem Outs.of {h0 h : Heap} {q : Nat} {b : Bk} (ok : b.ok h) (hF : ∀ q, b.F q → h0.size ≤ q) {h1 : Heap} (x : Ext No h h1) (hq : h1[q]? = some (.cells ⟨b.cells⟩ 42 (0, 0))) (hg : h.size ≤ q) (hs : h0.size ≤ h.size) : Outs h0 h1 (.slice (some ⟨q, 0, none⟩) 1 1) [b] := .one hq (ok.ext x fun _ _ => nos) (by omega) fun z hz => ⟨hF z hz, by have := ok.lt hz; omega⟩
theorem Outs.two {h0 h : Heap} {q : Nat} {b c : Bk} (hq : h[q]? = some (.cells ⟨b.cells ++ c.cells⟩ 42 (0, 0))) (okb : b.ok h) (okc : c.ok h) (hg : h0.size ≤ q) (fb : ∀ z, b.F z → h0.size ≤ z ∧ z < q) (fc : ∀ z, c.F z → h0.size ≤ z ∧ z < q) : Outs h0 h (.slice (some ⟨q, 0, none⟩) 2 2) [b, c] :=
  ⟨by simpa using own_blk hq (len := 2) rfl (by simp [maxLen]), by simpa using ⟨okb, okc⟩, fun z hz => by simp [Value.ownBlock] at hz; omega, fun x hx z hz => by rcases List.mem_cons.1 hx with rfl | hx; exact (fb z hz).1; obtain rfl := List.mem_singleton.1 hx; exact (fc z hz).1, fun x hx z hz e => by
    simp only [Value.ownBlock, Option.some.injEq] at e
    rcases List.mem_cons.1 hx with rfl | hx
    · have := (fb z hz).2; omega
    · obtain rfl := List.mem_singleton.1 hx
      have := (fc z hz).2; omega⟩
def bkT (v : Value) (o : List Int) : Bk := ⟨116, 0, [], [], [], 0, 0, v, o, nS, [], nS, [], nS, []⟩
theorem bkT_ok {h : Heap} {v : Value} {o : List Int} (hr : Rd h v 1 o.length (ints o)) (hl : o.length ≤ 20000) : (bkT v o).ok h := ⟨⟨hr, by show o.length ≤ maxLen; unfold maxLen; omega⟩, ⟨Rd.nil _ _, by simp [bkT]⟩, cels_zero _ _, ⟨Rd.nil _ _, by simp [bkT]⟩⟩
theorem bkT_F {v : Value} {o : List Int} {q : Nat} (hq : (bkT v o).F q) : v.ownBlock = some q := by
  rcases hq with ⟨_, e⟩ | ⟨e, _⟩ | e | ⟨e, _⟩
  · exact e
  · exact absurd e (Nat.lt_irrefl 0)
  · exact (celsF_nil rfl e).elim
  · exact absurd e (Nat.lt_irrefl 0)
set_option maxHeartbeats 2000000 in
set_option maxRecDepth 100000 in
theorem describe_v (k : Ss h A st sk ov cnt L P) (lm : LimP (spO st sk ov cnt L P)) (f : Fm) (hf : f.ok h) (fl : FmLim f) : CallsH Tryz.prog 48 ⟨[.pointer (some ⟨A.bs, 0, none⟩), .agg ⟨f.cells⟩]⟩ h (Dealt h A P (describeP (spO st sk ov cnt L P) f.p)) := by
  have hd1 := fun (e : f.what = 83) => show describeP (spO st sk ov cnt L P) f.p = _ from if_pos e
  have hd2 := fun (e : ¬ f.what = 83) => show describeP (spO st sk ov cnt L P) f.p = _ from if_neg e
  obtain ⟨⟨e1, _⟩, ⟨e2, _⟩, ⟨e3, _⟩, e4, _⟩ := hf
  obtain ⟨fl1, fl2, fl3, fl4, fl5, _⟩ := fl
  obtain ⟨fk, w, n, p, t, vo, o, vf, fs, vs, rs, vp, ps, mx⟩ := f
  dsimp only at e1 e2 e3 e4 fl1 fl2 fl3 fl4 fl5
  obtain ⟨A1, c1, rfl, _⟩ := e1
  obtain ⟨_, _, rfl, _⟩ := e2
  obtain ⟨_, _, rfl, _⟩ := e3
  obtain ⟨A4, c4, rfl, _⟩ := e4
  by_cases hw : w = 83
  · rw [hd1 hw]
    dsimp only [Fm.cells, Fm.p]
    rcases he : stmtP (spO st sk ov cnt L P) n with _ | ⟨ea, ec⟩
    · obtain ⟨q, hq⟩ := stmtP_none he
      have hqL := k.sok _ (getK_mem hq)
      have htl := lm.tl _ (getK_mem hq)
      have hgl : getK (spO st sk ov cnt L P).L n = some (q.text, q.oids) := by show getK (plL L) n = _; rw [getL_pl, hq]; rfl
      rw [hgl]
      dsimp only at htl hqL ⊢
      have hql := hqL.2.1
      refine calls [(0, _), (1, _)] Tryz.func48 rfl Tryz.ntmps48 rfl ⟨rfl, rfl, trivial⟩ ?_
      all_goals (refine WC.sr ?_; refine WL.stepR (okE_box rfl) rfl rfl rfl ?_; rintro _ h1 ⟨b3, rfl, hg1, hb1, hx1⟩; refine Go ?_; refine WC.seq ?_; refine WC.sr ?_; refine Go ?_; refine WL.ld rfl (by first | exact cell_blk hb1 rfl | assumption | exact cell_blk (by assumption) rfl) rfl rfl rfl ?_; refine Go ?_; refine Gs [(0, _), (3, _), (12, _)] ?_; refine goC 1 2 ?_ TT.mk; refine goB 1 ?_; refine WC.sr ?_; refine Go ?_; refine WL.ld rfl (by first | exact cell_blk hb1 rfl | assumption | exact cell_blk (by assumption) rfl) rfl rfl rfl ?_)
      all_goals (refine WL.call (vs := [_, _]) rfl (fun a w => Tryz.call83 a w) rfl (stmt_v (k.ext0 hx1) lm n fl1) rfl rfl rfl ?_
                 rintro _ h2 ⟨⟨q', rfl, ⟨B, c, hvo⟩, hq'⟩, hx2⟩
                 rw [he] at hq' ⊢
                 have hqq := Option.some.inj (hq.symm.trans (hq' rfl))
                 subst hqq
                 obtain ⟨qt, qv, qo⟩ := q
                 dsimp only [erV] at hvo hqL htl hql ⊢
                 subst hvo
                 unfold stE)
      all_goals (refine Go ?_; refine WL.stepR (okE_alloc (fun w => Tryz.zeroValue135 w)) rfl rfl rfl ?_; rintro _ h3 ⟨b6, rfl, hg3, hb3, hx3⟩; refine WL.stepR0 (okE_storeW (fun w => Tryz.sizeOf135 w) rfl rfl rfl hb3 rfl (by simp [Value.oneCell'])) rfl rfl ?_; rintro _ h4 ⟨hb4, hx4⟩; have X14 : Ext No h1 h4 := hx2.trans (hx3.trans' hx4 (fun q hq e => by omega)); have X4 := hx1.trans X14; have k4 := k.ext0 X4; have hr4 := hqL.1.ext0 X4; refine Go ?_; refine Gs [(6, _), (7, _)] ?_; refine WC.seq ?_; refine WC.sr ?_; refine Go ?_; refine WL.step (ok_neqIn (by kernel_rfl) rfl rfl) rfl rfl rfl ?_; refine Gn ?_; refine goC 3 4 ?_ TT.mk; refine goB 4 ?_; refine WC.skip ?_; refine Gn ?_; refine WC.seq ?_; refine WC.drawH (fun h' => Ext No h4 h') 9 9 rfl fol ?_; refine WH.tk 0 rfl (fun hq hC => ok_fieldAddr rfl Tryz.underlying135 rfl (fun w => Tryz.sizeOf29 w)) rfl rfl rfl ?_; refine WH.tk 1 rfl (fun hq hC => ok_load (fun w => Tryz.isAgg29 w) rfl (by first | exact hC.cell (by first | exact cell_blk hb4 rfl | assumption | exact cell_blk (by assumption) rfl) nos)) rfl rfl rfl ?_; refine WH.tk 4 rfl (fun hq hC => ok_loadN (fun w => Tryz.isAgg135 w) (fun w => Tryz.sizeOf135 w) rfl rfl (by exact (At.of_block hb4).ext hC nos)) rfl rfl rfl ?_; refine WH.one 2 (by kernel_rfl) ?_; refine Comes1.call (vs := [_]) rfl rfl (fun a w => Tryz.call81 a w) rfl (clone_ints qo (hr4) (by unfold reachBytes; omega)) rfl rfl rfl ?_ (fun _ => by kernel_rfl); rintro v5 h5 ⟨ho5, hx5, hf5⟩; obtain ⟨A5, c5, rfl, _⟩ := ho5.slice; refine ⟨fun _ => hx5, ?_⟩; refine WH.tk 3 rfl (fun hq hC => ok_buildF (vs := [_, _]) (cs := [_, _, _, _, _, _, _, _, _, _, _]) (fun | [a0, a7] => [a0, (.int .u8 0), (St []), (St []), (St []), (.int .i64 0), (.int .i64 0), a7, (.slice none 0 0), (.slice none 0 0), (.slice none 0 0)] | _ => []) rfl rfl (by kernel_rfl)) rfl rfl rfl ?_; refine WH.one 5 (by kernel_rfl) ?_; refine Comes1.call (vs := [_]) rfl rfl (fun a w => Tryz.call87 a w) rfl (shape_v qt B qo c htl) rfl rfl rfl ?_ (fun _ => by kernel_rfl); rintro _ h6 ⟨b6', rfl, ok6, p6, f6, hx6⟩; refine ⟨fun _ => hx5.trans hx6, ?_⟩; refine WH.one 6 (by kernel_rfl) ?_; refine Comes1.run rfl (okE_buildSlice (vs := [_, _]) (cs := [_, _, _, _, _, _, _, _, _, _, _, _, _, _, _, _, _, _, _, _, _, _]) (fun | [.agg ⟨[a0, a1, a2, a3, a4, a5, a6, a7, a8, a9, a10]⟩, .agg ⟨[a11, a12, a13, a14, a15, a16, a17, a18, a19, a20, a21]⟩] => [a0, a1, a2, a3, a4, a5, a6, a7, a8, a9, a10, a11, a12, a13, a14, a15, a16, a17, a18, a19, a20, a21] | _ => []) Tryz.underlying33 rfl rfl (by kernel_rfl)) rfl rfl rfl ?_ (fun _ => by kernel_rfl); rintro _ h7 ⟨b7, rfl, hg7, hb7, hx7⟩; refine ⟨fun _ => (hx5.trans hx6).trans hx7, ?_⟩; have hC7 : Ext No h4 h7 := (hx5.trans hx6).trans hx7; refine WH.tk 7 rfl (fun hq hC => ok_assign rfl) rfl rfl rfl ?_; refine WH.tk 8 rfl (fun hq hC => ok_assign rfl) rfl rfl rfl ?_; refine WH.done (by kernel_rfl) ?_; refine Gn ?_; refine Gs [(4, _), (5, _)] ?_; refine Gt ?_; have s4 := X4.size; have s5 := hx5.size; have s6 := hx6.size; have ho7 := (ho5.ext hx6 (fun _ _ => nos)).ext hx7 (fun _ _ => nos); exact ⟨_, [bkT (.slice A5 qo.length c5) qo, b6'], (fun e => absurd rfl e), rfl, .two hb7 (bkT_ok ho7.rd hql) (ok6.ext hx7 (fun _ _ => nos)) (by omega) (fun z hz => by have := hf5 z (bkT_F hz); have := ho5.lt (bkT_F hz); omega) (fun z hz => by have := f6 z hz; have := ok6.lt hz; omega), by rw [List.map_cons, List.map_singleton, p6]; rfl, .of (((k4.ext0 hx5).ext0 hx6).ext0 hx7) (Tn.no (((X4.trans hx5).trans hx6).trans hx7))⟩)
    · dsimp only
      refine calls [(0, _), (1, _)] Tryz.func48 rfl Tryz.ntmps48 rfl ⟨rfl, rfl, trivial⟩ ?_
      all_goals (refine WC.sr ?_; refine WL.stepR (okE_box rfl) rfl rfl rfl ?_; rintro _ h1 ⟨b3, rfl, hg1, hb1, hx1⟩; refine Go ?_; refine WC.seq ?_; refine WC.sr ?_; refine Go ?_; refine WL.ld rfl (by first | exact cell_blk hb1 rfl | assumption | exact cell_blk (by assumption) rfl) rfl rfl rfl ?_; refine Go ?_; refine Gs [(0, _), (3, _), (12, _)] ?_; refine goC 1 2 ?_ TT.mk; refine goB 1 ?_; refine WC.sr ?_; refine Go ?_; refine WL.ld rfl (by first | exact cell_blk hb1 rfl | assumption | exact cell_blk (by assumption) rfl) rfl rfl rfl ?_)
      all_goals (refine WL.call (vs := [_, _]) rfl (fun a w => Tryz.call83 a w) rfl (stmt_v (k.ext0 hx1) lm n fl1) rfl rfl rfl ?_
                 rintro _ h2 ⟨⟨q', rfl, ⟨B, c, hvo⟩, hq'⟩, hx2⟩
                 rw [he]
                 obtain ⟨qt, qv, qo⟩ := q'
                 dsimp only [erV] at hvo ⊢
                 subst hvo
                 unfold stE)
      all_goals (refine Go ?_; refine WL.stepR (okE_alloc (fun w => Tryz.zeroValue135 w)) rfl rfl rfl ?_; rintro _ h3 ⟨b6, rfl, hg3, hb3, hx3⟩; refine WL.stepR0 (okE_storeW (fun w => Tryz.sizeOf135 w) rfl rfl rfl hb3 rfl (by simp [Value.oneCell'])) rfl rfl ?_; rintro _ h4 ⟨hb4, hx4⟩; have X4 : Ext No h h4 := (hx1.trans hx2).trans (hx3.trans' hx4 (fun q hq e => by omega)); refine Go ?_; refine Gs [(6, _), (7, _)] ?_; refine WC.seq ?_; refine WC.sr ?_; refine Go ?_; refine WL.step (ok_neqIh (by kernel_rfl) rfl rfl) rfl rfl rfl ?_; refine Gn ?_; refine goC 3 4 ?_ TT.mk; refine goB 3 ?_; refine WC.sr ?_; refine Go ?_; refine Gs [(4, _), (5, _)] ?_; refine Gt ?_; exact Dealt.err rfl (.of (k.ext0 X4) (Tn.no X4)))
  · rw [hd2 hw]
    dsimp only [Fm.cells, Fm.p]
    rcases he : portP (spO st sk ov cnt L P) p with _ | ⟨ea, ec⟩
    · obtain ⟨i, hi⟩ := portP_none he
      have htl := lm.tp _ (getK_mem hi)
      have hgl : getK (spO st sk ov cnt L P).P p = some i.d.pl := by show getK (plP P) p = _; rw [getP_pl, hi]; rfl
      rw [hgl]
      dsimp only at htl ⊢
      refine calls [(0, _), (1, _)] Tryz.func48 rfl Tryz.ntmps48 rfl ⟨rfl, rfl, trivial⟩ ?_
      all_goals (refine WC.sr ?_; refine WL.stepR (okE_box rfl) rfl rfl rfl ?_; rintro _ h1 ⟨b3, rfl, hg1, hb1, hx1⟩; refine Go ?_; refine WC.seq ?_; refine WC.sr ?_; refine Go ?_; refine WL.ld rfl (by first | exact cell_blk hb1 rfl | assumption | exact cell_blk (by assumption) rfl) rfl rfl rfl ?_; refine Go ?_; refine Gs [(0, _), (3, _), (12, _)] ?_; refine goC 1 2 ?_ TT.mk; refine goB 2 ?_; refine WC.skip ?_; refine Gn ?_; refine WC.sr ?_; refine Go ?_; refine WL.ld rfl (by first | exact cell_blk hb1 rfl | assumption | exact cell_blk (by assumption) rfl) rfl rfl rfl ?_)
      all_goals (refine WL.call (vs := [_, _]) rfl (fun a w => Tryz.call88 a w) rfl (portal_v (k.ext0 hx1) lm p fl2) rfl rfl rfl ?_
                 rintro _ h2 ⟨⟨d2, rfl, ok2, f2, hq'⟩, hx2⟩
                 rw [he] at hq' ⊢
                 obtain ⟨i', hi', pl2⟩ := hq' rfl
                 have hii := Option.some.inj (hi.symm.trans hi')
                 subst hii
                 have hti : d2.text = i.d.text := congrArg (·.1) pl2
                 have hto : d2.oids = i.d.oids := congrArg (·.2.1) pl2
                 obtain ⟨text, vo, oids, vp, ps', vr, rs', ran, over⟩ := d2
                 dsimp only [erV] at hti hto ⊢
                 subst hti
                 subst hto)
      all_goals (refine Go ?_; refine WL.stepR (okE_alloc (fun w => Tryz.zeroValue147 w)) rfl rfl rfl ?_; rintro _ h3 ⟨b6, rfl, hg3, hb3, hx3⟩; refine WL.stepR0 (okE_storeW (fun w => Tryz.sizeOf147 w) rfl rfl rfl hb3 rfl (pd_one ok2)) rfl rfl ?_; rintro _ h4 ⟨hb4, hx4⟩)
      all_goals (have X14 : Ext No h1 h4 := hx2.trans (hx3.trans' hx4 (fun q hq e => by omega))
                 have X4 := hx1.trans X14
                 have k4 := k.ext0 X4
                 dsimp only [PD.cells] at hb4
                 obtain ⟨A6, c6, hvo, _⟩ := id ok2.oids
                 dsimp only at hvo
                 subst hvo)
      all_goals (refine Go ?_; refine Gs [(8, _), (9, _)] ?_; refine WC.seq ?_; refine WC.sr ?_; refine Go ?_; refine WL.step (ok_neqIn (by kernel_rfl) rfl rfl) rfl rfl rfl ?_; refine Gn ?_; refine goC 5 6 ?_ TT.mk; refine goB 6 ?_; refine WC.skip ?_; refine Gn ?_; refine WC.sr ?_; refine Go ?_; refine WL.step (ok_loadN (fun w => Tryz.isAgg135 w) (fun w => Tryz.sizeOf135 w) rfl rfl (by exact At.pre (xs := [_, _]) (ys := [_, _, _, _]) (At.of_block hb4))) rfl rfl rfl ?_; refine WL.call (vs := [_]) rfl (fun a w => Tryz.call87 a w) rfl (shape_v i.d.text A6 i.d.oids c6 htl.1) rfl rfl rfl ?_; rintro _ h6 ⟨b6', rfl, ok6, p6, f6, hx6⟩; refine WL.stepR (okE_buildSlice (vs := [_]) (cs := [_, _, _, _, _, _, _, _, _, _, _]) (fun | [.agg ⟨[a0, a1, a2, a3, a4, a5, a6, a7, a8, a9, a10]⟩] => [a0, a1, a2, a3, a4, a5, a6, a7, a8, a9, a10] | _ => []) Tryz.underlying33 rfl rfl (by kernel_rfl)) rfl rfl rfl ?_; rintro _ h7 ⟨b7, rfl, hg7, hb7, hx7⟩; refine Go ?_; refine Gs [(4, _), (5, _)] ?_; refine Gt ?_; have s4 := X4.size; have s6 := hx6.size; exact ⟨_, [b6'], (fun e => absurd rfl e), rfl, .of ok6 (fun q hq => by have := f6 q hq; omega) hx7 hb7 (by omega) (by omega), by rw [List.map_singleton, p6]; rfl, .of ((k4.ext0 hx6).ext0 hx7) (Tn.no ((X4.trans hx6).trans hx7))⟩)
    · dsimp only
      refine calls [(0, _), (1, _)] Tryz.func48 rfl Tryz.ntmps48 rfl ⟨rfl, rfl, trivial⟩ ?_
      all_goals (refine WC.sr ?_; refine WL.stepR (okE_box rfl) rfl rfl rfl ?_; rintro _ h1 ⟨b3, rfl, hg1, hb1, hx1⟩; refine Go ?_; refine WC.seq ?_; refine WC.sr ?_; refine Go ?_; refine WL.ld rfl (by first | exact cell_blk hb1 rfl | assumption | exact cell_blk (by assumption) rfl) rfl rfl rfl ?_; refine Go ?_; refine Gs [(0, _), (3, _), (12, _)] ?_; refine goC 1 2 ?_ TT.mk; refine goB 2 ?_; refine WC.skip ?_; refine Gn ?_; refine WC.sr ?_; refine Go ?_; refine WL.ld rfl (by first | exact cell_blk hb1 rfl | assumption | exact cell_blk (by assumption) rfl) rfl rfl rfl ?_)
      all_goals (refine WL.call (vs := [_, _]) rfl (fun a w => Tryz.call88 a w) rfl (portal_v (k.ext0 hx1) lm p fl2) rfl rfl rfl ?_
                 rintro _ h2 ⟨⟨d2, rfl, ok2, f2, hq'⟩, hx2⟩
                 rw [he]
                 dsimp only [erV])
      all_goals (refine Go ?_; refine WL.stepR (okE_alloc (fun w => Tryz.zeroValue147 w)) rfl rfl rfl ?_; rintro _ h3 ⟨b6, rfl, hg3, hb3, hx3⟩; refine WL.stepR0 (okE_storeW (fun w => Tryz.sizeOf147 w) rfl rfl rfl hb3 rfl (pd_one ok2)) rfl rfl ?_; rintro _ h4 ⟨hb4, hx4⟩; have X4 : Ext No h h4 := (hx1.trans hx2).trans (hx3.trans' hx4 (fun q hq e => by omega)); refine Go ?_; refine Gs [(8, _), (9, _)] ?_; refine WC.seq ?_; refine WC.sr ?_; refine Go ?_; refine WL.step (ok_neqIh (by kernel_rfl) rfl rfl) rfl rfl rfl ?_; refine Gn ?_; refine goC 5 6 ?_ TT.mk; refine goB 5 ?_; refine WC.sr ?_; refine Go ?_; refine Gs [(4, _), (5, _)] ?_; refine Gt ?_; exact Dealt.err rfl (.of (k.ext0 X4) (Tn.no X4)))
end
end Go.Proofs.YtbokngiajfdanaaGreatDoor


/-
  COLS (layer 10): a row that is told.
-/
namespace Go.Proofs.YtbokngiajfdanaaGreatDoor
open Go Go.RK

/-- A row that is told. -/
def rowB (v : Value) (l : List Cel) : Bk := ⟨68, 0, [], [], [], 0, 0, .slice none 0 0, [], .slice none 0 0, [], v, l, .slice none 0 0, []⟩
theorem rowB_ok {h : Heap} {v : Value} {l : List Cel} (c : Cels h v l) : (rowB v l).ok h := ⟨⟨Rd.nil _ _, by simp [rowB]⟩, ⟨Rd.nil _ _, by simp [rowB]⟩, c, ⟨Rd.nil _ _, by simp [rowB]⟩⟩
theorem row_step {h2 h3 h4 h5 h6 h7 : Heap} {b2 b4 k : Nat} {n1 : Bool} {v1 v6 : Value} {s1 : List UInt8} {l out : List Cel} {rest : List Value} {T0 : TypeId} (hlo : out.length = k) (hrl : rest.length = (l.length - k) * 2) (hk : k ≤ l.length)
    (hp : out.map Cel.pl = (l.take k).map Cel.pl) (hc1 : l[k]? = some ⟨n1, v1, s1⟩) (hb7 : h7[b2]? = some (.cells ⟨(out.flatMap Cel.cells ++ rest).take (0 + k * 2) ++ [.bool n1, v6] ++ (out.flatMap Cel.cells ++ rest).drop (0 + k * 2 + 2)⟩ T0 (0, 0)))
    (hq : ∀ q ∈ out, q.ok h3 ∧ ∀ b, q.v.ownBlock = some b → b2 < b) (hx3 : Ext (fun b => b = b2) h2 h3) (hx4 : Ext No h3 h4) (hx5 : Ext (fun b => b = b4) h4 h5) (hg4 : h3.size ≤ b4) (hx6 : Ext No h5 h6) (hx7 : Ext (fun b => b = b2) h6 h7)
    (ho6 : Own h6 v6 5 1 s1.length (bys s1)) (hl6 : v6.ownBlock = (Value.slice none 0 0).ownBlock ∨ v6.ownBlock = some h5.size) (hlt : b2 < h3.size) (hs : s1.length ≤ reachBytes) :
    k + 1 ≤ l.length ∧ (out ++ [(⟨n1, v6, s1⟩ : Cel)]).map Cel.pl = (l.take (k + 1)).map Cel.pl ∧ (∃ rest', h7[b2]? = some (.cells ⟨(out ++ [(⟨n1, v6, s1⟩ : Cel)]).flatMap Cel.cells ++ rest'⟩ T0 (0, 0)) ∧ rest'.length = (l.length - (k + 1)) * 2) ∧ (∀ q ∈ out ++ [(⟨n1, v6, s1⟩ : Cel)], q.ok h7 ∧ ∀ b, q.v.ownBlock = some b → b2 < b) ∧ Ext (fun b => b = b2) h2 h7 := by
  have hkl : k < l.length := (List.getElem?_eq_some_iff.1 hc1).1
  have hfl : (out.flatMap Cel.cells).length = k * 2 := by rw [length_flat Cel.len, hlo]
  have s4 := hx4.size
  have s5 := hx5.size
  have e1 : (out.flatMap Cel.cells ++ rest).take (0 + k * 2) = out.flatMap Cel.cells := by rw [Nat.zero_add, ← hfl, List.take_left']; rfl
  have e2 : (out.flatMap Cel.cells ++ rest).drop (0 + k * 2 + 2) = rest.drop 2 := by rw [Nat.zero_add, ← hfl, List.drop_append]; simp
  have fr : ∀ b, v6.ownBlock = some b → b2 < b := fun b e => by
    rcases hl6 with e6 | e6 <;> rw [e6] at e
    · cases e
    · simp at e; omega
  refine ⟨hkl, ?_, ⟨rest.drop 2, ?_, ?_⟩, fun q hm => ?_, ?_⟩
  · rw [List.map_append, hp, List.take_add_one, hc1, List.map_append]
    rfl
  · rw [e1, e2] at hb7
    rw [List.flatMap_append, List.flatMap_singleton]
    exact hb7
  · rw [List.length_drop, hrl]; omega
  · rcases List.mem_append.1 hm with hm | hm
    · obtain ⟨q1, q2⟩ := hq q hm
      refine ⟨⟨?_, q1.2⟩, q2⟩
      exact (((q1.1.ext0 hx4).ext' hx5 fun b h1 e eb => by have := q1.1.lt h1 e; omega).ext0 hx6).ext' hx7 fun b _ e eb => by have := q2 b e; omega
    · simp only [List.mem_singleton] at hm
      subst hm
      exact ⟨⟨ho6.rd.ext' hx7 fun b _ e eb => by have := fr b e; omega, hs⟩, fr⟩
  · exact (((hx3.trans' hx4 fun _ _ e => e.elim).trans' hx5 fun b hb e => by have := hx3.size; omega).trans' hx6 fun _ _ e => e.elim).trans hx7
theorem row_end {h3 h8 : Heap} {b1 b2 k : Nat} {l out : List Cel} {rest : List Value} {T0 : TypeId} (hlo : out.length = k) (hrl : rest.length = (l.length - k) * 2) (hk : k = l.length) (hb3 : h3[b2]? = some (.cells ⟨out.flatMap Cel.cells ++ rest⟩ T0 (0, 0))) (hx8 : Ext (fun b => b = b1) h3 h8)
    (hq : ∀ q ∈ out, q.ok h3 ∧ ∀ b, q.v.ownBlock = some b → b2 < b) (h12 : b1 < b2) (hl : l.length ≤ 1000000) : Cels h8 (.slice (some ⟨b2, 0, none⟩) l.length l.length) out := by
  have h0 : rest = [] := List.eq_nil_of_length_eq_zero (by rw [hrl, hk]; simp)
  rw [h0, List.append_nil] at hb3
  have hll : out.length = l.length := by omega
  rw [← hll]
  refine ⟨rd_blk (hx8.obj hb3 (fun e => by omega)) (length_flat Cel.len out), ⟨by unfold reachBytes; omega, _, _, rfl, by unfold maxLen; omega⟩, fun q hm => ?_⟩
  obtain ⟨q1, q2⟩ := hq q hm
  exact ⟨q1.1.ext' hx8 fun b _ e eb => by have := q2 b e; omega, q1.2⟩
set_option maxHeartbeats 2000000 in
set_option maxRecDepth 100000 in
theorem row_told {h : Heap} {v : Value} (l : List Cel) (hc : Cels h v l) (hl : l.length ≤ 1000000) : CallsH Tryz.prog 148 ⟨[v]⟩ h fun u h' => ∃ v' l', u = .agg ⟨(rowB v' l').cells⟩ ∧ Cels h' v' l' ∧ l'.map Cel.pl = l.map Cel.pl ∧ Ext No h h' ∧ ∀ b, CelsF v' l' b → h.size ≤ b := by
  obtain ⟨hr, ⟨_, A, c, rfl, _⟩, hok⟩ := hc
  refine calls [(0, _)] Tryz.func148 rfl Tryz.ntmps148 rfl ⟨rfl, trivial⟩ ?_
  all_goals (refine WC.sr ?_; refine WL.stepR (okE_alloc (fun w => Tryz.zeroValue42 w)) rfl rfl rfl ?_; rintro _ h1 ⟨b1, rfl, hg1, hb1, hx1⟩; refine Gn ?_; refine WC.sr ?_; refine Go ?_; refine WL.stepR (okE_makeSlice 32 2 Tryz.underlying30 (show Tryz.prog.info? 87 = some Tryz.t87 by kernel_rfl) rfl rfl rfl rfl rfl (by omega) (by unfold maxLen; omega)) rfl rfl rfl ?_; rintro _ h2 ⟨b2, zs, rfl, hg2, hb2, hzl, _, hx2⟩; have hlt1 := lt_of_some hb1; have hx12 := hx1.trans hx2; refine Go ?_; refine WC.seq ?_; refine WC.sr ?_; refine Go ?_; refine Gs [(2, _), (3, _), (9, _), (10, _), (11, _)] ?_; refine WC.block ?_)
  -- loop 0: slots that turn [11], that stay [2, 3, 9, 10]
  all_goals (refine WC.loopG (X := Nat × List Cel) (fun x => ([(11, In (x.1 : Int))] : Fr)) [(2, _), (3, _), (9, _), (10, _)] (fun x h' => x.1 ≤ l.length ∧ x.2.map Cel.pl = (l.take x.1).map Cel.pl ∧ (∃ rest, h'[b2]? = some (.cells ⟨x.2.flatMap Cel.cells ++ rest⟩ 87 (0, 0)) ∧ rest.length = (l.length - x.1) * 2) ∧ (∀ q ∈ x.2, q.ok h' ∧ ∀ b, q.v.ownBlock = some b → b2 < b) ∧ Ext (fun b => b = b2) h2 h') (fun x => l.length - x.1) ((0, [])) ⟨rfl, rfl, rfl, rfl, rfl, trivial⟩ (by exact ⟨Nat.zero_le _, rfl, ⟨zs, hb2, hzl⟩, by simp, .refl _ _⟩) ?_)
  all_goals (rintro ⟨k, out⟩ h3 ⟨hk, hp, ⟨rest, hb3, hrl⟩, hq, hx3⟩
             simp only at hk hp hb3 hrl hq
             have hlo : out.length = k := by simpa [Nat.min_eq_left hk] using congrArg List.length hp
             have E3 : Ext No h h3 := hx12.trans' hx3 (fun b hb e => by have := hx1.size; omega))
  all_goals (refine WC.sub [(11, _), (2, _), (3, _), (9, _), (10, _)] ⟨rfl, rfl, rfl, rfl, rfl, trivial⟩ ?_; dsimp only)
  all_goals (refine WC.sr ?_; refine Go ?_; refine WC.seq ?_; refine goC 1 2 (Hb.mk fun hb => ?_) (Hb.mk fun hb => ?_))
  all_goals (first | (fail_if_success refine goB 1 ?_) | (
  refine goB 1 ?_
  all_goals (refine WC.skip ?_)
  skip))
  all_goals (first | (fail_if_success refine goB 2 ?_) | (
  refine goB 2 ?_
  all_goals (refine WC.exit ?_; repeat' (with_reducible first | refine thenP_x ?_ | refine blockP_miss rfl ?_ | refine blockP_hit ?_ | refine blockP_n ?_ | refine thenP_n ?_))
  all_goals (refine Br.out (i := 1000) ?_)
  skip))
  all_goals (refine Gn ?_; first | (refine Br.keep ?_) | (refine WC.seq ?_))
  all_goals (first | (refine Br.keep ?_) | (refine WC.block ?_))
  all_goals (first | (refine Br.keep ?_) | (refine WC.seq ?_))
  all_goals (first
               | (refine Br.keep ?_)
               | (obtain ⟨bL, oL, hA, hbL, hat⟩ := Rd.at_ (hr.ext0 E3) (by omega)
                  obtain ⟨⟨n1, v1, s1⟩, hc1⟩ : ∃ y, l[k]? = some y := ⟨_, List.getElem?_eq_getElem (by omega)⟩
                  obtain ⟨ok1, hsl⟩ := hok _ (List.mem_of_getElem? hc1)
                  have at1 : At h3 bL (oL + k * 2) [.bool n1, v1] := At.elem Cel.len hat hc1
                  simp only at ok1 hsl
                  unfold reachBytes at hsl
                  obtain ⟨A1, k1, rfl, _⟩ := id ok1))
  all_goals (first | (refine Br.keep ?_) | (refine WC.region ?_))
  all_goals (refine Go ?_; first | (refine Br.keep ?_) | (refine WL.step (ok_idxAddrA Tryz.underlying30 (fun w => Tryz.sizeOf87 w) rfl rfl rfl (by omega) (by first | rfl | assumption)) rfl rfl rfl ?_))
  all_goals (first | (refine Br.keep ?_) | (refine WL.step (ok_loadN (fun w => Tryz.isAgg87 w) (fun w => Tryz.sizeOf87 w) rfl rfl (by assumption)) rfl rfl rfl ?_))
  all_goals (first
               | (refine Br.keep ?_)
               | (refine WL.stepR (okE_alloc (fun w => Tryz.zeroValue87 w)) rfl rfl rfl ?_
                  rintro _ h4 ⟨b4, rfl, hg4, hb4, hx4⟩))
  all_goals (refine Go ?_)
  all_goals (first
               | (refine Br.keep ?_)
               | (refine WL.stepR0 (okE_storeW (fun w => Tryz.sizeOf87 w) rfl rfl rfl (by assumption) rfl (by simp [Value.oneCell'])) rfl rfl ?_
                  rintro _ h5 ⟨hb5, hx5⟩))
  all_goals (first
               | (refine Br.keep ?_)
               | (have E5 : Ext No h h5 := (E3.trans hx4).trans' hx5 (fun b hb e => by have := E3.size; omega)
                  have hlt3 := lt_of_some hb3
                  have hb3' := (hx4.obj hb3 nos)
                  have hb3'' := hx5.obj hb3' (fun e => by omega)))
  all_goals (refine Gn ?_; first | (refine Br.keep ?_) | (refine Gs [(2, _), (3, _), (4, _), (5, _), (9, _), (10, _), (11, _)] ?_))
  all_goals (first | (refine Br.keep ?_) | (refine WC.drawH (fun h' => h'[b4]? = some (.cells ⟨[.bool n1, .slice A1 s1.length k1]⟩ 87 (0, 0))) 9 10 rfl fol ?_))
  all_goals (first | (refine Br.keep ?_) | (refine WH.tk 0 rfl (fun hq hC => ok_move rfl) rfl rfl rfl ?_))
  all_goals (first | (refine Br.keep ?_) | (refine WH.tk 1 rfl (fun hq hC => ok_move rfl) rfl rfl rfl ?_))
  all_goals (first | (refine Br.keep ?_) | (refine WH.tk 2 rfl (fun hq hC => ok_fieldAddr rfl Tryz.underlying87 rfl (fun w => Tryz.sizeOf4 w)) rfl rfl rfl ?_))
  all_goals (first | (refine Br.keep ?_) | (refine WH.tk 3 rfl (fun hq hC => ok_load (fun w => Tryz.isAgg4 w) rfl (cell_blk hC rfl)) rfl rfl rfl ?_))
  all_goals (first | (refine Br.keep ?_) | (refine WH.tk 4 rfl (fun hq hC => ok_fieldAddr rfl Tryz.underlying87 rfl (fun w => Tryz.sizeOf85 w)) rfl rfl rfl ?_))
  all_goals (first | (refine Br.keep ?_) | (refine WH.tk 5 rfl (fun hq hC => ok_load (fun w => Tryz.isAgg85 w) rfl (cell_blk hC rfl)) rfl rfl rfl ?_))
  all_goals (first | (refine Br.keep ?_) | (refine WH.one 6 (by kernel_rfl) ?_))
  all_goals (first
               | (refine Br.keep ?_)
               | (refine Comes1.run rfl (ok_append (sz := 1) (bytes := 1) rfl Tryz.underlying85 (show Tryz.prog.info? 5 = some Tryz.t5 by kernel_rfl) rfl rfl rfl rfl (by decide) rfl rfl (Own.nil _ _ _) (ok1.ext0 E5) (one_bys s1) (by simp only [maxLen]; omega) (by omega)) rfl rfl rfl ?_ (fun _ => by kernel_rfl)
                  rintro v6 h6 ⟨ho6, hx6, hl6⟩))
  all_goals (first | (refine Br.keep ?_) | (refine ⟨fun _ => hx6.obj hb5 (fun e => by cases e), ?_⟩))
  all_goals (first
               | (refine Br.keep ?_)
               | (have hb6 := hx6.obj hb5 (fun e => by cases e)
                  have hx6' : Ext No h5 h6 := hx6.mono (fun b _ e => by cases e)
                  have hbb := hx6.obj hb3'' (fun e => by cases e)
                  rw [Nat.zero_add, List.nil_append] at ho6
                  obtain ⟨A6, c6, rfl, _⟩ := ho6.slice))
  all_goals (first | (refine Br.keep ?_) | (refine WH.tk 7 rfl (fun hq hC => ok_buildF (vs := [_, _]) (cs := [_, _]) (fun | [a0, a1] => [a0, a1] | _ => []) rfl rfl (by kernel_rfl)) rfl rfl rfl ?_))
  all_goals (first | (refine Br.keep ?_) | (refine WH.tk 8 rfl (fun hq hC => ok_idxAddrA Tryz.underlying30 (fun w => Tryz.sizeOf87 w) rfl rfl rfl (by omega) (by first | rfl | assumption)) rfl rfl rfl ?_))
  all_goals (first | (refine Br.keep ?_) | (refine WH.one 9 (by kernel_rfl) ?_))
  all_goals (first
               | (refine Br.keep ?_)
               | (refine Comes1.run0 rfl (okE_storeN (k := 2) (fun w => Tryz.sizeOf87 w) rfl rfl rfl hbb (by simp [length_flat Cel.len, hlo, hrl]; omega) (by simp [Value.oneCell'])) rfl rfl ?_ (fun _ => by kernel_rfl)
                  rintro _ h7 ⟨hb7, hx7⟩))
  all_goals (first | (refine Br.keep ?_) | (refine ⟨fun e => (by cases e), ?_⟩))
  all_goals (first | (refine Br.keep ?_) | (refine WH.done (by kernel_rfl) ?_))
  all_goals (refine Gn ?_; first | (refine Br.keep ?_) | (refine Gs [(2, _), (3, _), (9, _), (10, _), (11, _)] ?_))
  all_goals (first | (refine Br.keep ?_) | (refine WC.region ?_))
  all_goals (refine Go ?_; first | (refine Br.keep ?_) | (exact ⟨(k + 1, out ++ [_]), ⟨rfl, rfl, rfl, rfl, rfl, trivial⟩, (by exact row_step hlo hrl hk hp hc1 hb7 hq hx3 hx4 hx5 hg4 hx6' hx7 ho6 hl6 hlt3 (by unfold reachBytes; omega)), (by simp; omega)⟩))
  all_goals (try (refine Br.mk (i := 1000) ?_))
  all_goals (refine Gn ?_; refine Gs [(2, _), (3, _)] ?_; refine WC.sr ?_; refine Go ?_; refine WL.step (ok_buildF (vs := [_, _]) (cs := [_, _, _, _, _, _, _, _, _, _, _]) (fun | [a0, a9] => [a0, (.int .u8 0), (St []), (St []), (St []), (.int .i64 0), (.int .i64 0), (.slice none 0 0), (.slice none 0 0), a9, (.slice none 0 0)] | _ => []) rfl rfl (by kernel_rfl)) rfl rfl rfl ?_; refine WL.stepR0 (okE_storeW (fun w => Tryz.sizeOf42 w) rfl rfl rfl (hx3.obj (hx2.obj hb1 nos) (fun e => by omega)) rfl (by simp [Value.oneCell'])) rfl rfl ?_; rintro _ h8 ⟨hb8, hx8⟩; refine Gn ?_; refine WC.ret ?_; repeat' (with_reducible first | refine thenP_r ?_ | refine blockP_r ?_))
  all_goals (refine retP_1 _ ⟨⟨_, rfl, ld_blk (fun w => Tryz.isAgg42 w) (fun w => Tryz.sizeOf42 w) (by assumption) rfl⟩, trivial⟩ ?_)
  all_goals (exact ⟨_, out, rfl, row_end hlo hrl (by omega) hb3 hx8 hq (by omega) (by omega), by rw [hp, List.take_of_length_le (by omega)], E3.trans' hx8 (fun b hb e => by omega), fun b hb => by
              have := hx1.size
              rcases hb with ⟨_, e⟩ | ⟨q, hq', _, e⟩
              · simp [Value.ownBlock] at e; omega
              · have := (hq q hq').2 b e; omega⟩)
end Go.Proofs.YtbokngiajfdanaaGreatDoor


/-
  SESSIONS (layer 30), by the code: rows that are told, and how that ends.
-/
namespace Go.Proofs.YtbokngiajfdanaaGreatDoor
open Go Go.RK

theorem rowB_F {v : Value} {l : List Cel} {q : Nat} (hq : (rowB v l).F q) : CelsF v l q := by
  rcases hq with ⟨e, _⟩ | ⟨e, _⟩ | e | ⟨e, _⟩
  · exact absurd e (Nat.lt_irrefl 0)
  · exact absurd e (Nat.lt_irrefl 0)
  · exact e
  · exact absurd e (Nat.lt_irrefl 0)
abbrev rowRep (r : List CelP) : BkP := { kind := 68, row := r }
set_option maxHeartbeats 2000000 in
set_option maxRecDepth 100000 in
theorem rowsS_v {h : Heap} {v : Value} (L : List Rw) (hL : Rws h v L) (more : Bool) (hm : L.length ≤ 100000) (hr : ∀ r ∈ L, r.l.length ≤ 1000000) : CallsH Tryz.prog 93 ⟨[v, .bool more]⟩ h fun u h' => ∃ B, Outs h h' u B ∧ B.map Bk.p = rowsRep (L.map Rw.pl) more ∧ Ext No h h' := by
  obtain ⟨hrd, ⟨_, A, c, rfl, _⟩, hok⟩ := hL
  cases more
  all_goals
    refine calls [(0, _), (1, _)] Tryz.func93 rfl Tryz.ntmps93 rfl ⟨rfl, rfl, trivial⟩ ?_
    all_goals (refine WC.sr ?_; refine Go ?_; refine WC.sr ?_; refine Go ?_; refine WC.seq ?_; refine WC.sr ?_; refine Go ?_; refine WC.block ?_)
    -- loop 0: slots that turn [5, 10], that stay [0, 1, 8, 9]
    all_goals (refine WC.loopG (X := Nat × Value × List Bk) (fun x => ([(10, In (x.1 : Int)), (5, x.2.1)] : Fr)) [(0, _), (1, _), (8, _), (9, _)] (fun x h' => x.1 ≤ L.length ∧ Outs h h' x.2.1 x.2.2 ∧ x.2.2.map Bk.p = (L.take x.1).map (fun r => rowRep r.pl) ∧ Ext No h h') (fun x => L.length - x.1) ((0, .slice none 0 0, [])) ⟨rfl, rfl, rfl, rfl, rfl, rfl, trivial⟩ (by exact ⟨Nat.zero_le _, Outs.nil _ _, rfl, .refl _ _⟩) ?_)
    all_goals (rintro ⟨k, v1, B⟩ h1 ⟨hk, ho, hp, hx⟩
               dsimp only at hk ho hp
               have hBl : B.length = k := by have := congrArg List.length hp; simpa [Nat.min_eq_left hk] using this
               have hoo := ho.own
               obtain ⟨A1, c1, rfl, _⟩ := hoo.slice)
    all_goals (refine WC.sub [(5, _), (10, _), (0, _), (1, _), (8, _), (9, _)] ⟨rfl, rfl, rfl, rfl, rfl, rfl, trivial⟩ ?_; dsimp only)
    all_goals (refine WC.sr ?_; refine Go ?_; refine WC.seq ?_; refine goC 1 2 (Hb.mk fun hb => ?_) (Hb.mk fun hb => ?_))
    all_goals (first | (fail_if_success refine goB 1 ?_) | (
    refine goB 1 ?_
    all_goals (refine WC.skip ?_)
    skip))
    all_goals (first | (fail_if_success refine goB 2 ?_) | (
    refine goB 2 ?_
    all_goals (refine WC.exit ?_; repeat' (with_reducible first | refine thenP_x ?_ | refine blockP_miss rfl ?_ | refine blockP_hit ?_ | refine blockP_n ?_ | refine thenP_n ?_))
    all_goals (refine Br.out (i := 1000) ?_)
    skip))
    all_goals (refine Gn ?_; first | (refine Br.keep ?_) | (refine WC.seq ?_))
    all_goals (first | (refine Br.keep ?_) | (refine WC.block ?_))
    all_goals (first | (refine Br.keep ?_) | (refine WC.sr ?_))
    all_goals (first
                 | (refine Br.keep ?_)
                 | (obtain ⟨bL, oL, hA, hbL, hat⟩ := Rd.at_ (hrd.ext0 hx) (by omega)
                    obtain ⟨⟨w1, l1⟩, hc1⟩ : ∃ y, L[k]? = some y := ⟨_, List.getElem?_eq_getElem (by omega)⟩
                    have at1 := hat.get (p := oL + k * 1) (v := w1) k (by rw [List.getElem?_map, hc1]; exact rfl) (by omega)
                    have hcl := hok _ (List.mem_of_getElem? hc1)
                    have hll := hr _ (List.mem_of_getElem? hc1)
                    dsimp only at hcl hll))
    all_goals (first | (refine Br.keep ?_) | (refine WL.step (ok_idxAddrA Tryz.underlying145 (fun w => Tryz.sizeOf30 w) rfl rfl rfl (by omega) (by first | rfl | assumption)) rfl rfl rfl ?_))
    all_goals (first | (refine Br.keep ?_) | (refine WL.ld rfl (by first | exact at1 | assumption | exact cell_blk (by assumption) rfl) rfl rfl rfl ?_))
    all_goals (refine Go ?_; first | (refine Br.keep ?_) | (refine WC.region ?_))
    all_goals (refine Go ?_)
    all_goals (first
                 | (refine Br.keep ?_)
                 | (refine WL.call (vs := [_]) rfl (fun a w => Tryz.call148 a w) rfl (row_told l1 (hcl.ext0 hx) hll) rfl rfl rfl ?_
                    rintro _ h2 ⟨v2, l2, rfl, hc2, hp2, hx2, hf2⟩
                    obtain ⟨_, ⟨_, A2, c2, rfl, _⟩, _⟩ := id hc2))
    all_goals (first
                 | (refine Br.keep ?_)
                 | (refine WL.stepR (okE_buildSlice (vs := [_]) (cs := [_, _, _, _, _, _, _, _, _, _, _]) (fun | [.agg ⟨[a0, a1, a2, a3, a4, a5, a6, a7, a8, a9, a10]⟩] => [a0, a1, a2, a3, a4, a5, a6, a7, a8, a9, a10] | _ => []) Tryz.underlying33 rfl rfl (by kernel_rfl)) rfl rfl rfl ?_
                    rintro _ h3 ⟨b3, rfl, hg3, hb3, hx3⟩))
    all_goals (first
                 | (refine Br.keep ?_)
                 | (have ok3 : (rowB (.slice A2 l2.length c2) l2).ok h3 := rowB_ok (hc2.ext0 hx3)
                    have s1 := hx.size
                    have s2 := hx2.size
                    have ho3 := (ho.ext0 hx2).ext0 hx3))
    all_goals (first
                 | (refine Br.keep ?_)
                 | (refine WL.stepR (ok_append (sz := 11) (bytes := 168) rfl Tryz.underlying33 (show Tryz.prog.info? 42 = some Tryz.t42 by kernel_rfl) rfl rfl rfl rfl (by decide) rfl rfl ho3.own (rd_blk hb3 (len := 1) rfl) ok3.one (by simp only [maxLen]; omega) (by omega)) rfl rfl rfl ?_
                    rintro v4 h4 ⟨ho4, hx4, hl4⟩))
    all_goals (refine Go ?_; first | (refine Br.keep ?_) | (refine Gs [(0, _), (1, _), (5, _), (8, _), (9, _), (10, _)] ?_))
    all_goals (first | (refine Br.keep ?_) | (refine WC.region ?_))
    all_goals (refine Go ?_; first | (refine Br.keep ?_) | (exact ⟨(k + 1, _, B ++ [_]), ⟨rfl, rfl, rfl, rfl, rfl, rfl, trivial⟩, (by exact ⟨by omega, ho3.snoc ok3 (fun z hz => by have := hf2 z (rowB_F hz); omega) (fun z hz e => by have := hf2 z (rowB_F hz); have := hoo.lt e; omega) (by have := hx3.size; omega) ho4 hx4 hl4, by rw [List.map_append, hp, List.take_add_one, hc1, List.map_append]; simp [Bk.p, rowB, Rw.pl, hp2], ((hx.trans hx2).trans hx3).trans' hx4 (fun q hq e => by have := ho.vf q e; omega)⟩), (by dsimp only; omega)⟩))
    all_goals (try (refine Br.mk (i := 1000) ?_))
    all_goals (refine Gn ?_; refine Gs [(0, _), (1, _), (5, _)] ?_; refine WC.seq ?_; refine WC.sr ?_; refine Go ?_; refine goC 3 4 ?_ TT.mk)
    all_goals (first | (fail_if_success refine goB 3 ?_) | (
    refine goB 3 ?_
    all_goals (refine WC.sr ?_; refine Go ?_; refine WL.step (ok_buildF (vs := [_]) (cs := [_, _, _, _, _, _, _, _, _, _, _]) (fun | [a0] => [a0, (.int .u8 0), (St []), (St []), (St []), (.int .i64 0), (.int .i64 0), (.slice none 0 0), (.slice none 0 0), (.slice none 0 0), (.slice none 0 0)] | _ => []) rfl rfl (by kernel_rfl)) rfl rfl rfl ?_; refine WL.stepR (okE_buildSlice (vs := [_]) (cs := [_, _, _, _, _, _, _, _, _, _, _]) (fun | [.agg ⟨[a0, a1, a2, a3, a4, a5, a6, a7, a8, a9, a10]⟩] => [a0, a1, a2, a3, a4, a5, a6, a7, a8, a9, a10] | _ => []) Tryz.underlying33 rfl rfl (by kernel_rfl)) rfl rfl rfl ?_; rintro _ h3 ⟨b3, rfl, hg3, hb3, hx3⟩; have ho3 := ho.ext0 hx3; refine WL.stepR (ok_append (sz := 11) (bytes := 168) rfl Tryz.underlying33 (show Tryz.prog.info? 42 = some Tryz.t42 by kernel_rfl) rfl rfl rfl rfl (by decide) rfl rfl ho3.own (rd_blk hb3 (len := 1) rfl) (bk0_ok h3 115 0 []).one (by simp only [maxLen]; omega) (by omega)) rfl rfl rfl ?_; rintro v4 h4 ⟨ho4, hx4, hl4⟩; have O4 := ho3.snoc (b := bk0 115 0 []) (bk0_ok _ _ _ _) (fun z hz => (bk0_F hz).elim) (fun z hz => (bk0_F hz).elim) (by have := hx.size; have := hx3.size; omega) ho4 hx4 hl4; refine Go ?_; refine Gs [(4, _)] ?_; refine Gt ?_)
    all_goals (obtain rfl : k = L.length := by omega
               rw [List.take_length] at hp
               refine ⟨_, O4, by rw [List.map_append, hp]; simp [rowsRep, Bk.p, bk0, Function.comp_def], ?_⟩
               first
                | exact (hx.trans hx3).trans' hx4 (fun q hq e => by have := ho.vf q e; omega)
                | exact ((hx.trans hx2).trans hx3).trans' hx4 (fun q hq e => by have := ho.vf q e; omega))
    skip))
    all_goals (refine goB 4 ?_; refine WC.skip ?_; refine Gn ?_; refine WC.sr ?_; refine Go ?_; refine WL.call (vs := [_]) rfl (fun a w => Tryz.call149 a w) rfl (tag_cols (L.length : Int) (by omega) (by omega)) rfl rfl rfl ?_; rintro _ h2 ⟨rfl, hx2⟩; refine WL.step (ok_buildF (vs := [_, _]) (cs := [_, _, _, _, _, _, _, _, _, _, _]) (fun | [a0, a2] => [a0, (.int .u8 0), a2, (St []), (St []), (.int .i64 0), (.int .i64 0), (.slice none 0 0), (.slice none 0 0), (.slice none 0 0), (.slice none 0 0)] | _ => []) rfl rfl (by kernel_rfl)) rfl rfl rfl ?_; refine WL.stepR (okE_buildSlice (vs := [_]) (cs := [_, _, _, _, _, _, _, _, _, _, _]) (fun | [.agg ⟨[a0, a1, a2, a3, a4, a5, a6, a7, a8, a9, a10]⟩] => [a0, a1, a2, a3, a4, a5, a6, a7, a8, a9, a10] | _ => []) Tryz.underlying33 rfl rfl (by kernel_rfl)) rfl rfl rfl ?_; rintro _ h3 ⟨b3, rfl, hg3, hb3, hx3⟩; have ho3 := (ho.ext0 hx2).ext0 hx3; refine WL.stepR (ok_append (sz := 11) (bytes := 168) rfl Tryz.underlying33 (show Tryz.prog.info? 42 = some Tryz.t42 by kernel_rfl) rfl rfl rfl rfl (by decide) rfl rfl ho3.own (rd_blk hb3 (len := 1) rfl) (bk0_ok h3 67 0 (tagP L.length)).one (by simp only [maxLen]; omega) (by omega)) rfl rfl rfl ?_; rintro v4 h4 ⟨ho4, hx4, hl4⟩; have O4 := ho3.snoc (b := bk0 67 0 (tagP L.length)) (bk0_ok _ _ _ _) (fun z hz => (bk0_F hz).elim) (fun z hz => (bk0_F hz).elim) (by have := hx.size; have := hx2.size; have := hx3.size; omega) ho4 hx4 hl4; refine Go ?_; refine Gs [(4, _)] ?_; refine Gt ?_)
    all_goals (obtain rfl : k = L.length := by omega
               rw [List.take_length] at hp
               refine ⟨_, O4, by rw [List.map_append, hp]; simp [rowsRep, Bk.p, bk0, Function.comp_def], ?_⟩
               first
                | exact (hx.trans hx3).trans' hx4 (fun q hq e => by have := ho.vf q e; omega)
                | exact ((hx.trans hx2).trans hx3).trans' hx4 (fun q hq e => by have := ho.vf q e; omega))
end Go.Proofs.YtbokngiajfdanaaGreatDoor


/-
  SESSIONS (layer 30), by the code: a verb that runs, a C, a Z, a fault.
-/
namespace Go.Proofs.YtbokngiajfdanaaGreatDoor
open Go Go.RK

section
variable {h h' : Heap} {A : Ad} {st : Int} {sk ov : Bool} {cnt : Int} {L : List (List UInt8 × StD)} {P : List (List UInt8 × ItD)}
theorem clear_v (k : Ss h A st sk ov cnt L P) : CallsH Tryz.prog 45 ⟨[.pointer (some ⟨A.bp, 0, none⟩)]⟩ h fun u h' => u = .tuple ⟨[]⟩ ∧ Ss h' A st sk ov cnt L [] ∧ Tn A P h h' [] ∧ Ext (fun q => q = A.mp) h h' :=
  (clear_e k.se.pb k.se.pm).mono fun u h' ⟨e, hm, hx⟩ => ⟨e, (k.turnP (P' := []) hx hm (fun q hq => nomatch hq)).1, (k.turnP (P' := []) hx hm (fun q hq => nomatch hq)).2, hx⟩
theorem turn_end {g : Heap} {q : Nat} {tag : List UInt8} {P' : List (List UInt8 × ItD)} {st' : Int} {s : SP} {h1 : Heap} (k1 : Ss h1 A st' sk ov cnt L P') (T1 : Tn A P h h1 P') (hx : Ext No h1 g) (hq : g[q]? = some (.cells ⟨bkC 67 0 tag⟩ 42 (0, 0))) (hg : h1.size ≤ q) (hs : s = spO st' sk ov cnt L P') (hP : ∀ q ∈ P', q ∈ P) :
    DealtS h A L P (s, [{ kind := 67, tag := tag }], none) (.tuple ⟨[.slice (some ⟨q, 0, none⟩) 1 1, erV none]⟩) g := by
  subst hs
  exact ⟨_, [bk0 67 0 tag], (fun e => absurd rfl e), rfl, .tag hq (by have := T1.1.size; omega), rfl, _, _, fun _ h => h, hP, k1.ext0 hx, rfl, rfl, T1.trans (Tn.no hx)⟩
set_option maxHeartbeats 2000000 in
set_option maxRecDepth 100000 in
theorem turn_v (k : Ss h A st sk ov cnt L P) (v : VeD) : CallsH Tryz.prog 95 ⟨[.pointer (some ⟨A.bs, 0, none⟩), .agg ⟨v.cells⟩]⟩ h (DealtS h A L P (turnP (spO st sk ov cnt L P) v)) := by
  have kn := fun h' => txnext_v (h := h') k.sto v
  have ke := fun h' => exitD_v (h := h') v
  have lb := lt_of_some k.se.blk
  unfold VeD.cells veC at *
  rcases (show v.k = 1 ∧ turnP (spO st sk ov cnt L P) v = (spO st sk ov cnt L P, [{ kind := 73 }], none) ∨ v.k ≠ 1 ∧ v.k = 8 ∧ turnP (spO st sk ov cnt L P) v = (spO st sk ov cnt L P, [], some (v.c, ([102, 97, 105, 108, 101, 100, 32, 111, 110, 32, 112, 117, 114, 112, 111, 115, 101] : List UInt8)))
      ∨ v.k ≠ 1 ∧ v.k ≠ 8 ∧ turnP (spO st sk ov cnt L P) v = (spO (nextP st v).1 sk ov cnt L (if exitB v = true then [] else P), [{ kind := 67, tag := (nextP st v).2 }], none) by
    unfold turnP
    by_cases e1 : v.k = 1
    · exact .inl ⟨e1, if_pos e1⟩
    · by_cases e2 : v.k = 8
      · exact .inr (.inl ⟨e1, e2, by rw [if_neg e1, if_pos e2]⟩)
      · refine .inr (.inr ⟨e1, e2, ?_⟩)
        rw [if_neg e1, if_neg e2]
        simp only [spO]
        cases exitB v <;> rfl) with ⟨e1, e⟩ | ⟨e1, e2, e⟩ | ⟨e1, e2, e⟩
  · rw [e]
    refine calls [(0, _), (1, _)] Tryz.func95 rfl Tryz.ntmps95 rfl ⟨rfl, rfl, trivial⟩ ?_
    all_goals (refine WC.sr ?_; refine WL.stepR (okE_box rfl) rfl rfl rfl ?_; rintro _ h1 ⟨b3, rfl, hg1, hb1, hx1⟩; refine Go ?_; refine WC.seq ?_; refine WC.sr ?_; refine Go ?_; refine WL.ld rfl (by first | exact cell_blk hb1 rfl | assumption | exact cell_blk (by assumption) rfl) rfl rfl rfl ?_; refine Gn ?_; refine Gs [(0, _), (3, _), (8, _)] ?_; refine WC.block ?_; refine WC.sr ?_; refine Go ?_; refine goC 1 2 ?_ TT.mk; refine goB 1 ?_; refine WC.sr ?_; refine WL.call (vs := [_]) rfl (fun a w => Tryz.call82 a w) rfl (plain_v 73) rfl rfl rfl ?_; rintro _ h6 ⟨q, rfl, hq6, hgq, hx6⟩; refine Go ?_; refine Gs [(4, _), (5, _)] ?_; refine Gt ?_; exact ⟨_, [bk0 73 0 []], (fun e => absurd rfl e), rfl, .tag hq6 (by have := hx1.size; omega), rfl, _, _, fun _ h => h, fun _ h => h, (k.ext0 hx1).ext0 hx6, rfl, rfl, Tn.no (hx1.trans hx6)⟩)
  · rw [e]
    refine calls [(0, _), (1, _)] Tryz.func95 rfl Tryz.ntmps95 rfl ⟨rfl, rfl, trivial⟩ ?_
    all_goals (refine WC.sr ?_; refine WL.stepR (okE_box rfl) rfl rfl rfl ?_; rintro _ h1 ⟨b3, rfl, hg1, hb1, hx1⟩; refine Go ?_; refine WC.seq ?_; refine WC.sr ?_; refine Go ?_; refine WL.ld rfl (by first | exact cell_blk hb1 rfl | assumption | exact cell_blk (by assumption) rfl) rfl rfl rfl ?_; refine Gn ?_; refine Gs [(0, _), (3, _), (8, _)] ?_; refine WC.block ?_; refine WC.sr ?_; refine Go ?_; refine goC 1 2 ?_ TT.mk; refine goB 2 ?_; refine WC.sr ?_; refine Go ?_; refine Gs [(0, _), (3, _), (12, _)] ?_; refine goC 3 4 ?_ TT.mk; refine goB 3 ?_; refine WC.sr ?_; refine Go ?_; refine WL.ld rfl (by first | exact cell_blk hb1 rfl | assumption | exact cell_blk (by assumption) rfl) rfl rfl rfl ?_; refine WL.call (vs := [_, _]) rfl (fun a w => Tryz.call79 a w) rfl (stop_v _ _) rfl rfl rfl ?_; rintro _ hq ⟨rfl, hz⟩; replace hz := hz.symm; subst hz; refine Go ?_; refine Gs [(4, _), (5, _)] ?_; refine Gt ?_; exact ⟨_, [], fun _ => rfl, rfl, Outs.nil _ _, rfl, _, _, fun _ h => h, fun _ h => h, k.ext0 hx1, rfl, rfl, Tn.no hx1⟩)
  · rw [e]
    clear e
    cases hex : exitB v
    all_goals
      rw [hex] at ke
      refine calls [(0, _), (1, _)] Tryz.func95 rfl Tryz.ntmps95 rfl ⟨rfl, rfl, trivial⟩ ?_
      all_goals (refine WC.sr ?_; refine WL.stepR (okE_box rfl) rfl rfl rfl ?_; rintro _ h1 ⟨b3, rfl, hg1, hb1, hx1⟩; have k1 := k.ext0 hx1; have hb := k1.se.blk; (have n3 : ¬ b3 = A.bs := by omega); refine Go ?_; refine WC.seq ?_; refine WC.sr ?_; refine Go ?_; refine WL.ld rfl (by first | exact cell_blk hb1 rfl | assumption | exact cell_blk (by assumption) rfl) rfl rfl rfl ?_; refine Gn ?_; refine Gs [(0, _), (3, _), (8, _)] ?_; refine WC.block ?_; refine WC.sr ?_; refine Go ?_; refine goC 1 2 ?_ TT.mk; refine goB 2 ?_; refine WC.sr ?_; refine Go ?_; refine Gs [(0, _), (3, _), (12, _)] ?_; refine goC 3 4 ?_ TT.mk; refine goB 4 ?_; refine WC.skip ?_; refine Gn ?_; refine WC.sr ?_; refine Go ?_; refine WC.seq ?_; refine WC.drawH (fun h' => Ext (fun q => q = A.bs) h1 h') 14 14 rfl fol ?_; refine WH.tk 0 rfl (fun hq hC => ok_move rfl) rfl rfl rfl ?_; refine WH.tk 1 rfl (fun hq hC => ok_move rfl) rfl rfl rfl ?_; refine WH.tk 2 rfl (fun hq hC => ok_nilCheck rfl) rfl rfl rfl ?_; refine WH.tk 3 rfl (fun hq hC => ok_fieldAddr rfl Tryz.underlying54 rfl (fun w => Tryz.sizeOf5 w)) rfl rfl rfl ?_; refine WH.tk 5 rfl (fun hq hC => ok_loadN (fun w => Tryz.isAgg152 w) (fun w => Tryz.sizeOf152 w) rfl rfl (by exact (At.of_block hb1).ext hC n3)) rfl rfl rfl ?_; refine WH.one 4 (by kernel_rfl) ?_; refine Comes1.run rfl (OkP.r (ok_load (fun w => Tryz.isAgg5 w) rfl (by first | exact cell_blk hb rfl | assumption | exact cell_blk (by assumption) rfl))) rfl rfl rfl ?_ (fun _ => by kernel_rfl); rintro _ hz ⟨rfl, _⟩; subst hz; refine ⟨fun _ => .refl _ _, ?_⟩; refine WH.one 6 (by kernel_rfl) ?_; refine Comes1.call (vs := [_, _]) rfl rfl (fun a w => Tryz.call150 a w) rfl (kn _) rfl rfl rfl ?_ (fun _ => by kernel_rfl); rintro _ h2 ⟨rfl, hx2⟩; refine ⟨fun _ => hx2.mono fun _ _ e => e.elim, ?_⟩; (have hC2 : Ext (fun q => q = A.bs) h1 h2 := hx2.mono fun _ _ e => e.elim); have hbs2 := hx2.obj hb nos; refine WH.tk 7 rfl (fun hq hC => ok_move rfl) rfl rfl rfl ?_; refine WH.tk 8 rfl (fun hq hC => ok_extract rfl rfl) rfl rfl rfl ?_; refine WH.tk 9 rfl (fun hq hC => ok_extract rfl rfl) rfl rfl rfl ?_; refine WH.tk 10 rfl (fun hq hC => ok_nilCheck rfl) rfl rfl rfl ?_; refine WH.tk 11 rfl (fun hq hC => ok_fieldAddr rfl Tryz.underlying54 rfl (fun w => Tryz.sizeOf5 w)) rfl rfl rfl ?_; refine WH.one 12 (by kernel_rfl) ?_; refine Comes1.run0 rfl (okE_store (fun w => Tryz.sizeOf5 w) rfl rfl hbs2 (Nat.le_of_ble_eq_true rfl) rfl rfl) rfl rfl ?_ (fun _ => by kernel_rfl); rintro _ h3 ⟨hb3, hx3⟩; refine ⟨fun _ => hC2.trans hx3, ?_⟩; have hC3 := hC2.trans hx3; obtain ⟨k3, t3⟩ := (k1.ext0 hx2).turnS hx3 hb3 (nextP_ok k.sto v); have T3 := (Tn.no (A := A) (P := P) (hx1.trans hx2)).trans t3; refine WH.tk 13 rfl (fun hq hC => ok_assign rfl) rfl rfl rfl ?_; refine WH.done (by kernel_rfl) ?_; refine Gn ?_; refine Gs [(0, _), (3, _), (6, _)] ?_; refine WC.seq ?_; refine WC.sr ?_; refine WL.step (ok_loadN (fun w => Tryz.isAgg152 w) (fun w => Tryz.sizeOf152 w) rfl rfl (by exact (At.of_block hb1).ext hC3 n3)) rfl rfl rfl ?_; refine WL.call (vs := [_]) rfl (fun a w => Tryz.call151 a w) rfl (ke _) rfl rfl rfl ?_; rintro _ h4 ⟨rfl, hx4⟩; have k4 := k3.ext0 hx4; have T4 := T3.trans (Tn.no (A := A) (P := P) hx4))
      all_goals (refine Gn ?_; refine goC 5 6 ?_ TT.mk)
      all_goals (first | (fail_if_success refine goB 5 ?_) | (
      refine goB 5 ?_
      all_goals (refine WC.region ?_; refine Go ?_; refine WL.step (ok_nilCheck rfl) rfl rfl rfl ?_; refine Go ?_; refine WL.ld rfl (by first | exact cell_blk k4.se.blk rfl | assumption | exact cell_blk (by assumption) rfl) rfl rfl rfl ?_; refine WL.call (vs := [_]) rfl (fun a w => Tryz.call45 a w) rfl (clear_v k4) rfl rfl rfl ?_; rintro _ h5 ⟨rfl, k5, t5, hx5⟩; have T5 := T4.trans t5; refine Gn ?_)
      skip))
      all_goals (first | (fail_if_success refine goB 6 ?_) | (
      refine goB 6 ?_
      all_goals (refine WC.skip ?_)
      skip))
      all_goals (refine Gn ?_; refine Gs [(6, _)] ?_; refine WC.sr ?_; refine Go ?_; refine WL.step (ok_buildF (vs := [_, _]) (cs := [_, _, _, _, _, _, _, _, _, _, _]) (fun | [a0, a2] => [a0, (.int .u8 0), a2, (St []), (St []), (.int .i64 0), (.int .i64 0), (.slice none 0 0), (.slice none 0 0), (.slice none 0 0), (.slice none 0 0)] | _ => []) rfl rfl (by kernel_rfl)) rfl rfl rfl ?_; refine WL.stepR (okE_buildSlice (vs := [_]) (cs := [_, _, _, _, _, _, _, _, _, _, _]) (fun | [.agg ⟨[a0, a1, a2, a3, a4, a5, a6, a7, a8, a9, a10]⟩] => [a0, a1, a2, a3, a4, a5, a6, a7, a8, a9, a10] | _ => []) Tryz.underlying33 rfl rfl (by kernel_rfl)) rfl rfl rfl ?_; rintro _ h6 ⟨b6, rfl, hg6, hb6, hx6⟩; refine Go ?_; refine Gs [(4, _), (5, _)] ?_; refine Gt ?_)
      all_goals (first
                  | exact turn_end k4 T4 hx6 hb6 hg6 rfl (fun _ h => h)
                  | exact turn_end k5 T5 hx6 hb6 hg6 rfl (fun _ h => nomatch h))
set_option maxHeartbeats 2000000 in
set_option maxRecDepth 100000 in
theorem shut_v (k : Ss h A st sk ov cnt L P) (f : Fm) (hf : f.ok h) : CallsH Tryz.prog 50 ⟨[.pointer (some ⟨A.bs, 0, none⟩), .agg ⟨f.cells⟩]⟩ h (Dealt h A P (shutP (spO st sk ov cnt L P) f.p)) := by
  have hd1 := fun (e : f.what = 83) => show shutP (spO st sk ov cnt L P) f.p = _ from if_pos e
  have hd2 := fun (e : ¬ f.what = 83) => show shutP (spO st sk ov cnt L P) f.p = _ from if_neg e
  obtain ⟨⟨e1, _⟩, ⟨e2, _⟩, ⟨e3, _⟩, e4, _⟩ := hf
  obtain ⟨fk, w, n, p, t, vo, o, vf, fs, vs, rs, vp, ps, mx⟩ := f
  dsimp only at e1 e2 e3 e4
  obtain ⟨A1, c1, rfl, _⟩ := e1
  obtain ⟨_, _, rfl, _⟩ := e2
  obtain ⟨_, _, rfl, _⟩ := e3
  obtain ⟨A4, c4, rfl, _⟩ := e4
  by_cases hw : w = 83
  · rw [hd1 hw]
    dsimp only [Fm.cells, Fm.p]
    refine calls [(0, _), (1, _)] Tryz.func50 rfl Tryz.ntmps50 rfl ⟨rfl, rfl, trivial⟩ ?_
    all_goals (refine WC.sr ?_; refine WL.stepR (okE_box rfl) rfl rfl rfl ?_; rintro _ h1 ⟨b3, rfl, hg1, hb1, hx1⟩; have k1 := k.ext0 hx1; have hb := k1.se.blk; have hms := k1.se.stm; refine Go ?_; refine WC.seq ?_; refine WC.sr ?_; refine Go ?_; refine WL.ld rfl (by first | exact cell_blk hb1 rfl | assumption | exact cell_blk (by assumption) rfl) rfl rfl rfl ?_; refine Go ?_; refine Gs [(0, _), (3, _), (8, _)] ?_; refine goC 1 2 ?_ TT.mk; refine goB 1 ?_; refine WC.drawT 6 fol (by kernel_rfl) ?_; show WS _ _ _ [_, _, _, _, _, _] _ _ _)
    all_goals (refine WS.step (ok_move rfl) rfl rfl rfl ?_; refine WS.step (ok_nilCheck rfl) rfl rfl rfl ?_; refine WS.step (ok_fieldAddr rfl Tryz.underlying54 rfl (fun w => Tryz.sizeOf50 w)) rfl rfl rfl ?_; refine WS.step (ok_load (fun w => Tryz.isAgg50 w) rfl (by first | exact cell_blk hb rfl | assumption | exact cell_blk (by assumption) rfl)) rfl rfl rfl ?_; refine WS.step (ok_fieldAddr rfl Tryz.underlying32 rfl (fun w => Tryz.sizeOf9 w)) rfl rfl rfl ?_; refine WS.step (ok_load (fun w => Tryz.isAgg9 w) rfl (by first | exact cell_blk hb1 rfl | assumption | exact cell_blk (by assumption) rfl)) rfl rfl rfl ?_; refine WS.nil ?_; show WL _ _ _ [_] _ _ _)
    all_goals (refine WL.stepR0 (ok_delete rfl keyS Tryz.underlying50 Tryz.underlying9 rfl rfl hms) rfl rfl ?_; rintro _ h2 ⟨hm2, hx2⟩)
    all_goals (rw [adel_encK] at hm2
               obtain ⟨k2, t2⟩ := k1.turnL hx2 hm2 (fun q hq => .inl (mem_delK hq).1)
               have T2 := (Tn.no (A := A) (P := P) hx1).trans t2)
    all_goals (refine WL.nil ?_; refine Gn ?_; refine WC.sr ?_; refine WL.call (vs := [_]) rfl (fun a w => Tryz.call82 a w) rfl (plain_v 51) rfl rfl rfl ?_; rintro _ h6 ⟨q, rfl, hq6, hgq, hx6⟩; refine Go ?_; refine Gs [(4, _), (5, _)] ?_; refine Gt ?_; exact ⟨_, [bk0 51 0 []], (fun e => absurd rfl e), rfl, .tag hq6 (by have := T2.1.size; omega), rfl, _, _, k2.ext0 hx6, delL_pl _ _, rfl, T2.trans (Tn.no hx6)⟩)
  · rw [hd2 hw]
    dsimp only [Fm.cells, Fm.p]
    rcases hg : getK P p with _ | i
    · have hlk : alook (encK pcE P) p = none := by rw [alook_encK, hg]; rfl
      have hde : delK P p = P := List.filter_eq_self.2 fun q hq => by simpa using getK_no hg q hq
      have kd := fun (g : Heap) (k : Ss g A st sk ov cnt L P) => del_no p k.se.pb k.se.pm hlk
      refine calls [(0, _), (1, _)] Tryz.func50 rfl Tryz.ntmps50 rfl ⟨rfl, rfl, trivial⟩ ?_
      all_goals (refine WC.sr ?_; refine WL.stepR (okE_box rfl) rfl rfl rfl ?_; rintro _ h1 ⟨b3, rfl, hg1, hb1, hx1⟩; have k1 := k.ext0 hx1; have hb := k1.se.blk; refine Go ?_; refine WC.seq ?_; refine WC.sr ?_; refine Go ?_; refine WL.ld rfl (by first | exact cell_blk hb1 rfl | assumption | exact cell_blk (by assumption) rfl) rfl rfl rfl ?_; refine Go ?_; refine Gs [(0, _), (3, _), (8, _)] ?_; refine goC 1 2 ?_ TT.mk; refine goB 2 ?_; refine WC.drawT 6 fol (by kernel_rfl) ?_; show WS _ _ _ [_, _, _, _, _, _] _ _ _)
      all_goals (refine WS.step (ok_move rfl) rfl rfl rfl ?_; refine WS.step (ok_nilCheck rfl) rfl rfl rfl ?_; refine WS.step (ok_fieldAddr rfl Tryz.underlying54 rfl (fun w => Tryz.sizeOf51 w)) rfl rfl rfl ?_; refine WS.step (ok_load (fun w => Tryz.isAgg51 w) rfl (by first | exact cell_blk hb rfl | assumption | exact cell_blk (by assumption) rfl)) rfl rfl rfl ?_; refine WS.step (ok_fieldAddr rfl Tryz.underlying32 rfl (fun w => Tryz.sizeOf9 w)) rfl rfl rfl ?_; refine WS.step (ok_load (fun w => Tryz.isAgg9 w) rfl (by first | exact cell_blk hb1 rfl | assumption | exact cell_blk (by assumption) rfl)) rfl rfl rfl ?_; refine WS.nil ?_; show WL _ _ _ [_] _ _ _)
      all_goals (refine WL.call (vs := [_, _]) rfl (fun a w => Tryz.call96 a w) rfl (kd _ k1) rfl rfl rfl ?_; rintro _ hq ⟨rfl, hz⟩; replace hz := hz.symm; subst hz; refine WL.nil ?_; refine Gn ?_; refine WC.sr ?_; refine WL.call (vs := [_]) rfl (fun a w => Tryz.call82 a w) rfl (plain_v 51) rfl rfl rfl ?_; rintro _ h6 ⟨q, rfl, hq6, hgq, hx6⟩; refine Go ?_; refine Gs [(4, _), (5, _)] ?_; refine Gt ?_; exact ⟨_, [bk0 51 0 []], (fun e => absurd rfl e), rfl, .tag hq6 (by have := hx1.size; omega), rfl, _, _, k1.ext0 hx6, rfl, (congrArg plP hde).symm.trans (delP_pl _ _), Tn.no (hx1.trans hx6)⟩)
    · have kd := fun (g : Heap) (k : Ss g A st sk ov cnt L P) => del_e (k.pe hg)
      refine calls [(0, _), (1, _)] Tryz.func50 rfl Tryz.ntmps50 rfl ⟨rfl, rfl, trivial⟩ ?_
      all_goals (refine WC.sr ?_; refine WL.stepR (okE_box rfl) rfl rfl rfl ?_; rintro _ h1 ⟨b3, rfl, hg1, hb1, hx1⟩; have k1 := k.ext0 hx1; have hb := k1.se.blk; refine Go ?_; refine WC.seq ?_; refine WC.sr ?_; refine Go ?_; refine WL.ld rfl (by first | exact cell_blk hb1 rfl | assumption | exact cell_blk (by assumption) rfl) rfl rfl rfl ?_; refine Go ?_; refine Gs [(0, _), (3, _), (8, _)] ?_; refine goC 1 2 ?_ TT.mk; refine goB 2 ?_; refine WC.drawT 6 fol (by kernel_rfl) ?_; show WS _ _ _ [_, _, _, _, _, _] _ _ _)
      all_goals (refine WS.step (ok_move rfl) rfl rfl rfl ?_; refine WS.step (ok_nilCheck rfl) rfl rfl rfl ?_; refine WS.step (ok_fieldAddr rfl Tryz.underlying54 rfl (fun w => Tryz.sizeOf51 w)) rfl rfl rfl ?_; refine WS.step (ok_load (fun w => Tryz.isAgg51 w) rfl (by first | exact cell_blk hb rfl | assumption | exact cell_blk (by assumption) rfl)) rfl rfl rfl ?_; refine WS.step (ok_fieldAddr rfl Tryz.underlying32 rfl (fun w => Tryz.sizeOf9 w)) rfl rfl rfl ?_; refine WS.step (ok_load (fun w => Tryz.isAgg9 w) rfl (by first | exact cell_blk hb1 rfl | assumption | exact cell_blk (by assumption) rfl)) rfl rfl rfl ?_; refine WS.nil ?_; show WL _ _ _ [_] _ _ _)
      all_goals (refine WL.call (vs := [_, _]) rfl (fun a w => Tryz.call96 a w) rfl (kd _ k1) rfl rfl rfl ?_
                 rintro _ h2 ⟨rfl, hm2, hx2⟩
                 rw [adel_encK] at hm2
                 obtain ⟨k2, t2⟩ := k1.turnP hx2 hm2 (fun q hq => (mem_delK hq).1)
                 have T2 := (Tn.no (A := A) (P := P) hx1).trans t2)
      all_goals (refine WL.nil ?_; refine Gn ?_; refine WC.sr ?_; refine WL.call (vs := [_]) rfl (fun a w => Tryz.call82 a w) rfl (plain_v 51) rfl rfl rfl ?_; rintro _ h6 ⟨q, rfl, hq6, hgq, hx6⟩; refine Go ?_; refine Gs [(4, _), (5, _)] ?_; refine Gt ?_; exact ⟨_, [bk0 51 0 []], (fun e => absurd rfl e), rfl, .tag hq6 (by have := T2.1.size; omega), rfl, _, _, k2.ext0 hx6, rfl, delP_pl _ _, T2.trans (Tn.no hx6)⟩)
set_option maxHeartbeats 2000000 in
set_option maxRecDepth 100000 in
/-- A Z: what is told, and the session behind it. -/
theorem syncD_v' (k : Ss h A st sk ov cnt L P) : CallsH Tryz.prog 22 ⟨[.pointer (some ⟨A.bs, 0, none⟩)]⟩ h fun u h' => u = .agg ⟨bkC 90 st []⟩ ∧ Ss h' A st sk ov cnt L (if st = 73 then [] else P) ∧ Tn A P h h' (if st = 73 then [] else P) ∧ Ext (fun q => q = A.mp) h h' := by
  have hb := k.se.blk
  by_cases e : st = 73
  · rw [if_pos e]
    refine calls [(0, _)] Tryz.func22 rfl Tryz.ntmps22 rfl ⟨rfl, trivial⟩ ?_
    all_goals (refine WC.sr ?_; refine WL.stepR (okE_alloc (fun w => Tryz.zeroValue42 w)) rfl rfl rfl ?_; rintro _ h1 ⟨b2, rfl, hg1, hb2, hx1⟩; have k1 := k.ext0 hx1; have l2 := lt_of_some hb2; refine Gn ?_; refine WC.seq ?_; refine WC.sr ?_; refine Go ?_; refine WL.step (ok_nilCheck rfl) rfl rfl rfl ?_; refine Go ?_; refine WL.ld rfl (by first | exact cell_blk k1.se.blk rfl | assumption | exact cell_blk (by assumption) rfl) rfl rfl rfl ?_; refine Go ?_; refine Gs [(0, _), (2, _), (7, _)] ?_; refine goC 1 2 ?_ TT.mk; refine goB 1 ?_; refine WC.region ?_; refine Go ?_; refine WL.step (ok_nilCheck rfl) rfl rfl rfl ?_; refine Go ?_; refine WL.ld rfl (by first | exact cell_blk k1.se.blk rfl | assumption | exact cell_blk (by assumption) rfl) rfl rfl rfl ?_; refine WL.call (vs := [_]) rfl (fun a w => Tryz.call45 a w) rfl (clear_v k1) rfl rfl rfl ?_; rintro _ h2 ⟨rfl, k2, t2, hx2⟩; have hb22 := t2.1.obj hb2 (k1.not hb2 (by decide) (by decide) (by decide)); refine Gn ?_; refine Gn ?_; refine WC.sr ?_; refine Go ?_; refine WL.step (ok_nilCheck rfl) rfl rfl rfl ?_; refine Go ?_; refine WL.ld rfl (by first | exact cell_blk k2.se.blk rfl | assumption | exact cell_blk (by assumption) rfl) rfl rfl rfl ?_; refine WL.step (ok_buildF (vs := [_, _]) (cs := [_, _, _, _, _, _, _, _, _, _, _]) (fun | [a0, a1] => [a0, a1, (St []), (St []), (St []), (.int .i64 0), (.int .i64 0), (.slice none 0 0), (.slice none 0 0), (.slice none 0 0), (.slice none 0 0)] | _ => []) rfl rfl (by kernel_rfl)) rfl rfl rfl ?_; refine WL.stepR0 (okE_storeW (fun w => Tryz.sizeOf42 w) rfl rfl rfl hb22 rfl (by simp [Value.oneCell'])) rfl rfl ?_; rintro _ h3 ⟨hb3, hx3⟩; refine Gn ?_; refine Gs [(2, _)] ?_; refine WC.ret ?_; repeat' (with_reducible first | refine thenP_r ?_ | refine blockP_r ?_))
    all_goals (refine retP_1 _ ⟨⟨_, rfl, ld_blk (fun w => Tryz.isAgg42 w) (fun w => Tryz.sizeOf42 w) hb3 rfl⟩, trivial⟩ ?_; have X3 : Ext (fun q => q = A.mp) h h3 := ((hx1.mono fun _ _ e => e.elim).trans hx2).trans' hx3 (fun q hq e => by omega); have kk := k.turnP (P' := []) X3 (k2.se.pm.ext hx3 (fun e => mpNo k2.se.pm hb22 e.symm)) (fun q hq => nomatch hq); exact ⟨rfl, kk.1, kk.2, X3⟩)
  · rw [if_neg e]
    refine calls [(0, _)] Tryz.func22 rfl Tryz.ntmps22 rfl ⟨rfl, trivial⟩ ?_
    all_goals (refine WC.sr ?_; refine WL.stepR (okE_alloc (fun w => Tryz.zeroValue42 w)) rfl rfl rfl ?_; rintro _ h1 ⟨b2, rfl, hg1, hb2, hx1⟩; have k1 := k.ext0 hx1; refine Gn ?_; refine WC.seq ?_; refine WC.sr ?_; refine Go ?_; refine WL.step (ok_nilCheck rfl) rfl rfl rfl ?_; refine Go ?_; refine WL.ld rfl (by first | exact cell_blk k1.se.blk rfl | assumption | exact cell_blk (by assumption) rfl) rfl rfl rfl ?_; refine Go ?_; refine Gs [(0, _), (2, _), (7, _)] ?_; refine goC 1 2 ?_ TT.mk; refine goB 2 ?_; refine WC.skip ?_; refine Gn ?_; refine WC.sr ?_; refine Go ?_; refine WL.step (ok_nilCheck rfl) rfl rfl rfl ?_; refine Go ?_; refine WL.ld rfl (by first | exact cell_blk k1.se.blk rfl | assumption | exact cell_blk (by assumption) rfl) rfl rfl rfl ?_; refine WL.step (ok_buildF (vs := [_, _]) (cs := [_, _, _, _, _, _, _, _, _, _, _]) (fun | [a0, a1] => [a0, a1, (St []), (St []), (St []), (.int .i64 0), (.int .i64 0), (.slice none 0 0), (.slice none 0 0), (.slice none 0 0), (.slice none 0 0)] | _ => []) rfl rfl (by kernel_rfl)) rfl rfl rfl ?_; refine WL.stepR0 (okE_storeW (fun w => Tryz.sizeOf42 w) rfl rfl rfl hb2 rfl (by simp [Value.oneCell'])) rfl rfl ?_; rintro _ h3 ⟨hb3, hx3⟩; refine Gn ?_; refine Gs [(2, _)] ?_; refine WC.ret ?_; repeat' (with_reducible first | refine thenP_r ?_ | refine blockP_r ?_))
    all_goals (refine retP_1 _ ⟨⟨_, rfl, ld_blk (fun w => Tryz.isAgg42 w) (fun w => Tryz.sizeOf42 w) hb3 rfl⟩, trivial⟩ ?_; have X3 : Ext No h h3 := hx1.trans' hx3 (fun q hq e => by omega); exact ⟨rfl, k.ext0 X3, Tn.no X3, X3.mono fun _ _ e => e.elim⟩)
theorem syncD_v (k : Ss h A st sk ov cnt L P) : CallsH Tryz.prog 22 ⟨[.pointer (some ⟨A.bs, 0, none⟩)]⟩ h fun u h' => u = .agg ⟨bkC 90 st []⟩ ∧ Sv h A P h' (syncP (spO st sk ov cnt L P)).1 ∧ Ext (fun q => q = A.mp) h h' :=
  (syncD_v' k).mono fun u h' ⟨e, kk, tt, x⟩ => ⟨e, ⟨L, _, kk, rfl, by by_cases e : st = 73 <;> simp [syncP, spO, e, plP], tt⟩, x⟩
end
end Go.Proofs.YtbokngiajfdanaaGreatDoor


/-
  A NUMBER THAT IS ADDED TO AS ONE (sync/atomic.AddInt64). No program is named here.
-/
namespace Go.RK
open Go
section
variable {P : Program} {f : Fr} {h : Heap} {d : Option Tmp} {ty : TypeId} {pos : String} {af : Array Edge} {g : Option (Nat × Bool)}
theorem okE_extern2 {k : FuncId} {x y : Operand} {a b : Value} {ts : Array TypeId} {R : Value → Heap → Prop} (hc : ∀ w : World, w.heap = h → ∃ u w', Same w w' ∧ R u w'.heap ∧ (callFunc k #[a, b]).run P w = .ok (.value u) w') (hx : f.ev x = some a) (hy : f.ev y = some b) :
    OkR P f ⟨d, .call { callee := .value (.func k), args := #[x, y], argTypes := ts }, ty, pos, af, g⟩ h R :=
  fun ρ w ha hw => by
    have e : ρ (.func k) = .func (.func k) #[] #[] := ha _ _ rfl
    obtain ⟨u, w', hs, hR, hr⟩ := hc w hw
    exact ⟨u, w', hs, hR, .inl (by simp [execOp, resolve, Deferred.ofValue, invoke, e, ha _ _ hx, ha _ _ hy, hr])⟩
theorem run_addI64 {w : World} {b o : Nat} {cs : List Value} {e : TypeId} {n m : Int} (hb : w.heap[b]? = some (.cells ⟨cs⟩ e (0, 0))) (ho : cs[o]? = some (In n)) (h0 : -9223372036854775808 ≤ n + m) (h1 : n + m ≤ 9223372036854775807) :
    ∃ w', (Extern.Atomic.update (Op.intArith .add) .i64 true #[.pointer (some ⟨b, o, Option.none⟩), In m]).run P w = .ok (In (n + m)) w' ∧ Same w w' ∧ w'.heap = w.heap.setIfInBounds b (.cells ⟨cs.set o (In (n + m))⟩ e (0, 0)) := by
  have hlt : o < cs.length := (List.getElem?_eq_some_iff.1 ho).1
  obtain ⟨w', hr, hs, hh⟩ := run_store_block (P := P) (v := In (n + m)) hb (o := o) (by simpa using hlt) rfl
  have hc : w.cell? ⟨b, o, Option.none⟩ = some (In n) := by
    simp only [World.cell?, hb]
    simpa using ho
  have hr2 : (store ⟨b, o, Option.none⟩ (In (n + m)) .atomic).run P w = .ok () w' := by
    rw [run_store P w _ _ _ rfl] at hr ⊢
    simp only [hc] at hr ⊢
    exact hr
  refine ⟨w', ?_, hs, by rw [hh]; simp⟩
  have hl : (load ⟨b, o, Option.none⟩ .atomic).run P w = .ok (In n) w := by
    unfold load
    simp [Sem.run, hc]
  have hw : IntKind.i64.wrap (n + m) = n + m := by
    simp [IntKind.wrap, IntKind.bits, IntKind.signed]
    omega
  have hrd : (Extern.Atomic.read (.int .i64) ⟨b, o, Option.none⟩).run P w = .ok (In n) w := by
    simp only [Extern.Atomic.read, Sem.run_bind, hl, Result.andThen]
    rfl
  have hu : Extern.Atomic.update (Op.intArith .add) .i64 true #[.pointer (some ⟨b, o, Option.none⟩), In m] = (do
    let a ← asAddr (.pointer (some ⟨b, o, Option.none⟩))
    let old ← Extern.Atomic.read (.int .i64) a
    let new ← Op.intArith .add .i64 (← asInt old) (← asInt (In m))
    store a new .atomic
    pure new) := rfl
  rw [hu]
  have hi : ∀ (q : Int) (w : World), (asIntOf (In q)).run P w = .ok (IntKind.i64, q) w := fun _ _ => rfl
  simp [asAddr, asInt, hi, hrd, Op.intArith, hr2, hw, Result.andThen]
end
end Go.RK

/-
  SESSIONS (layer 27): what the engine tells, and how often it was asked.
-/
namespace Go.Proofs.YtbokngiajfdanaaGreatDoor
open Go Go.RK

set_option maxHeartbeats 2000000 in
set_option maxRecDepth 100000 in
theorem own_eng {h : Heap} {v : Value} (l : List Cel) (hc : Cels h v l) :
    CallsH Tryz.prog 146 ⟨[v]⟩ h fun u h' => ∃ l', Cels h' u l' ∧ l'.map Cel.pl = l.map Cel.pl ∧ Ext No h h' ∧ ∀ b, CelsF u l' b → h.size ≤ b := by
  obtain ⟨hr, ⟨hlm, A, c, rfl, hcap⟩, hok⟩ := hc
  have hlm' := hlm
  unfold reachBytes at hlm'
  have h1 := one_cels hok
  by_cases h0 : l = []
  · subst h0
    refine calls [(0, _)] Tryz.func146 rfl Tryz.ntmps146 rfl ⟨rfl, trivial⟩ ?_
    all_goals (refine WC.sr ?_; refine Go ?_; refine WC.sr ?_; refine Go ?_; refine WL.call (vs := [_]) rfl (fun a w => Tryz.call192 a w) rfl (clone_cells hr h1 hlm) rfl rfl rfl ?_; rintro v2 h2 ⟨ho2, hx2, hf2⟩; obtain ⟨A2, c2, rfl, hc2⟩ := ho2.cap'; refine Go ?_; refine Gs [(3, _)] ?_; refine WC.seq ?_; refine WC.sr ?_; refine Go ?_; refine WC.block ?_)
    -- loop 0: slots that turn [9], that stay [3, 8]
    all_goals (refine WC.loopG (X := Unit) (fun x => ([(9, In (0 : Int))] : Fr)) [(3, _), (8, _)] (fun _ h' => h' = h2) (fun _ => 0) (()) ⟨rfl, rfl, rfl, trivial⟩ (by exact rfl) ?_; rintro _ h9 hz; subst h9; refine WC.sub [(9, _), (3, _), (8, _)] ⟨rfl, rfl, rfl, trivial⟩ ?_; refine WC.sr ?_; refine Go ?_; refine WC.seq ?_; refine goC 1 2 ?_ TT.mk; refine goB 2 ?_; refine WC.exit ?_; repeat' (with_reducible first | refine thenP_x ?_ | refine blockP_miss rfl ?_ | refine blockP_hit ?_ | refine blockP_n ?_ | refine thenP_n ?_))
    all_goals (refine Br.out (i := 1000) ?_; refine Gn ?_; refine Br.keep ?_; refine Br.keep ?_; refine Br.keep ?_; refine Go ?_; refine Br.keep ?_; refine Go ?_; refine Br.keep ?_; refine Go ?_; refine Br.keep ?_; refine Br.keep ?_; refine Br.keep ?_; refine Go ?_; refine Br.keep ?_; refine Gn ?_; refine Br.keep ?_; refine Br.keep ?_; refine Go ?_; refine Br.keep ?_; try (refine Br.mk (i := 1000) ?_))
    all_goals (refine Gn ?_; refine WC.sr ?_; refine Go ?_; refine Gs [(2, _)] ?_; refine Gt ?_; exact ⟨[], ⟨ho2.rd, ⟨by simp, _, _, rfl, hc2⟩, by simp⟩, rfl, hx2, by rintro b (⟨e, _⟩ | ⟨_, e, _⟩); (simp at e); (simp at e)⟩)
  · have hpos : 0 < l.length := List.length_pos_iff.2 h0
    refine calls [(0, _)] Tryz.func146 rfl Tryz.ntmps146 rfl ⟨rfl, trivial⟩ ?_
    all_goals (refine WC.sr ?_; refine Go ?_; refine WC.sr ?_; refine Go ?_; refine WL.call (vs := [_]) rfl (fun a w => Tryz.call192 a w) rfl (clone_cells hr h1 hlm) rfl rfl rfl ?_; rintro v2 h2 ⟨ho2, hx2, hf2⟩; obtain ⟨b1, c1, cs, rfl, hb1, hnc, hcm, hcl, hct⟩ := ho2.block hpos; have hlt1 := lt_of_some hb1; have hg1 := hf2 b1 rfl; have hi0 : RowI h2 h2 b1 l 0 [] := ⟨Nat.zero_le _, rfl, rfl, ⟨cs.drop (l.length * 2), by rw [List.nil_append, List.drop_zero, ← hct, List.take_append_drop]; exact hb1⟩, by simp, .refl _ _⟩; refine Go ?_; refine Gs [(3, _)] ?_; refine WC.seq ?_; refine WC.sr ?_; refine Go ?_; refine WC.block ?_)
    -- loop 0: slots that turn [9], that stay [3, 8]
    all_goals (refine WC.loopG (X := Nat × List Cel) (fun x => ([(9, In (x.1 : Int))] : Fr)) [(3, _), (8, _)] (fun x h' => RowI h2 h' b1 l x.1 x.2) (fun x => l.length - x.1) ((0, [])) ⟨rfl, rfl, rfl, trivial⟩ (by exact hi0) ?_)
    all_goals (rintro ⟨k, out⟩ h3 ri
               simp only at ri
               have hk := ri.le)
    all_goals (refine WC.sub [(9, _), (3, _), (8, _)] ⟨rfl, rfl, rfl, trivial⟩ ?_; dsimp only)
    all_goals (refine WC.sr ?_; refine Go ?_; refine WC.seq ?_; refine goC 1 2 (Hb.mk fun hb => ?_) (Hb.mk fun hb => ?_))
    all_goals (first | (fail_if_success refine goB 1 ?_) | (
    refine goB 1 ?_
    all_goals (refine WC.skip ?_)
    skip))
    all_goals (first | (fail_if_success refine goB 2 ?_) | (
    refine goB 2 ?_
    all_goals (refine WC.exit ?_; repeat' (with_reducible first | refine thenP_x ?_ | refine blockP_miss rfl ?_ | refine blockP_hit ?_ | refine blockP_n ?_ | refine thenP_n ?_))
    all_goals (refine Br.out (i := 1000) ?_)
    skip))
    all_goals (refine Gn ?_; first | (refine Br.keep ?_) | (refine WC.seq ?_))
    all_goals (first | (refine Br.keep ?_) | (refine WC.block ?_))
    all_goals (first | (refine Br.keep ?_) | (refine WC.sr ?_))
    all_goals (refine Go ?_)
    all_goals (first
                 | (refine Br.keep ?_)
                 | (obtain ⟨⟨n1, v1, s1⟩, hc1⟩ : ∃ y, l[k]? = some y := ⟨_, List.getElem?_eq_getElem (by omega)⟩
                    have hx23 := ri.ext
                    obtain ⟨spare, hblk⟩ := ri.blk
                    obtain ⟨ok1, hsl⟩ := hok _ (List.mem_of_getElem? hc1)
                    simp only at ok1 hsl
                    obtain ⟨A1, k1, rfl, _⟩ := id ok1
                    have E3 : Ext No h h3 := hx2.trans' hx23 (fun b hb e => by omega)
                    have atb : At h3 b1 (0 + k * 2) [.bool n1, .slice A1 s1.length k1] := At.elem (xs := out ++ l.drop k) Cel.len ((At.of_block hblk).pre) (get_mid hc1 ri.len)))
    all_goals (first | (refine Br.keep ?_) | (refine WC.region ?_))
    all_goals (refine Go ?_; first | (refine Br.keep ?_) | (refine WL.step (ok_idxAddrA Tryz.underlying30 (fun w => Tryz.sizeOf87 w) rfl rfl rfl (by omega) (by first | rfl | assumption)) rfl rfl rfl ?_))
    all_goals (refine Go ?_; first | (refine Br.keep ?_) | (refine WL.ld rfl (by first | exact atb.get 1 rfl rfl | assumption | exact cell_blk (by assumption) rfl) rfl rfl rfl ?_))
    all_goals (first
                 | (refine Br.keep ?_)
                 | (refine WL.call (vs := [_]) rfl (fun a w => Tryz.call193 a w) rfl (clone_bytes s1 (ok1.ext0 E3) hsl) rfl rfl rfl ?_
                    rintro v6 h6 ⟨ho6, hx6, hf6⟩))
    all_goals (first | (refine Br.keep ?_) | (obtain ⟨A6, c6, rfl, _⟩ := ho6.slice))
    all_goals (first | (refine Br.keep ?_) | (refine WL.step (ok_idxAddrA Tryz.underlying30 (fun w => Tryz.sizeOf87 w) rfl rfl rfl (by omega) (by first | rfl | assumption)) rfl rfl rfl ?_))
    all_goals (refine Go ?_)
    all_goals (first
                 | (refine Br.keep ?_)
                 | (refine WL.stepR0 (okE_store (fun w => Tryz.sizeOf85 w) rfl rfl (hx6.obj hblk nos) (by simp [length_flat Cel.len, ri.len]; omega) rfl rfl) rfl rfl ?_
                    rintro _ h7 ⟨hb7, hx7⟩))
    all_goals (refine Gn ?_; first | (refine Br.keep ?_) | (refine Gs [(3, _), (8, _), (9, _)] ?_))
    all_goals (first | (refine Br.keep ?_) | (refine WC.region ?_))
    all_goals (refine Go ?_; first | (refine Br.keep ?_) | (exact ⟨(k + 1, out ++ [_]), ⟨rfl, rfl, rfl, trivial⟩, (by exact ri.next hc1 hx6 ho6 hf6 (fun sp e => by rw [hx6.obj hblk nos] at e; simp only [Option.some.injEq, Obj.cells.injEq, Array.mk.injEq] at e; obtain rfl := List.append_cancel_left e.1; rfl) hb7 hx7 hlt1 hsl), (by simp; omega)⟩))
    all_goals (try (refine Br.mk (i := 1000) ?_))
    all_goals (refine Gn ?_; refine WC.sr ?_; refine Go ?_; refine Gs [(2, _)] ?_; refine Gt ?_; (obtain rfl : k = l.length := by omega); exact ri.done hx2 hg1 hlt1 hnc hcm hlm)
theorem addI64 {h : Heap} {b o : Nat} {cs : List Value} {e : TypeId} {n m : Int} (hb : h[b]? = some (.cells ⟨cs⟩ e (0, 0))) (ho : cs[o]? = some (In n)) (h0 : -9223372036854775808 ≤ n + m) (h1 : n + m ≤ 9223372036854775807) (w : World) (hw : w.heap = h) :
    ∃ u w', Same w w' ∧ (u = In (n + m) ∧ w'.heap[b]? = some (.cells ⟨cs.set o (In (n + m))⟩ e (0, 0)) ∧ Ext (fun q => q = b) h w'.heap) ∧ (callFunc 213 #[.pointer (some ⟨b, o, none⟩), In m]).run Tryz.prog w = .ok (.value u) w' := by
  subst hw
  obtain ⟨w', hr, hs, hh⟩ := run_addI64 (P := Tryz.prog) hb ho h0 h1
  refine ⟨_, w', hs, ⟨rfl, by rw [hh]; exact set_new hb, by rw [hh]; exact .set _ _ _ rfl⟩, ?_⟩
  rw [run_callFunc_extern (P := Tryz.prog) (fn := Tryz.f213) (e := Extern.Atomic.update (Op.intArith .add) .i64 true) (by kernel_rfl) (by kernel_rfl) rfl (by kernel_rfl) (by kernel_rfl)]
  simp [hr]
set_option maxHeartbeats 2000000 in
set_option maxRecDepth 100000 in
theorem add_v {h : Heap} {b o : Nat} {cs : List Value} {e : TypeId} {n m : Int} (hb : h[b]? = some (.cells ⟨cs⟩ e (0, 0))) (ho : cs[o]? = some (In n)) (h0 : -9223372036854775808 ≤ n + m) (h1 : n + m ≤ 9223372036854775807) :
    CallsH Tryz.prog 194 ⟨[.pointer (some ⟨b, o, none⟩), In m]⟩ h fun u h' => u = In (n + m) ∧ h'[b]? = some (.cells ⟨cs.set o (In (n + m))⟩ e (0, 0)) ∧ Ext (fun q => q = b) h h' := by
  refine calls [(0, _), (1, _)] Tryz.func194 rfl Tryz.ntmps194 rfl ⟨rfl, rfl, trivial⟩ ?_
  all_goals (refine WC.sr ?_; refine Go ?_; refine WC.sr ?_; refine Go ?_; refine WL.step (ok_nilCheck rfl) rfl rfl rfl ?_; refine Go ?_; refine WL.stepR (okE_extern2 (R := fun u h' => u = In (n + m) ∧ h'[b]? = some (.cells ⟨cs.set o (In (n + m))⟩ e (0, 0)) ∧ Ext (fun q => q = b) h h') (addI64 hb ho h0 h1) rfl rfl) rfl rfl rfl ?_; rintro _ g1 ⟨rfl, hb1, hx1⟩; refine Go ?_; refine Gs [(4, _)] ?_; refine Gt ?_; exact ⟨rfl, hb1, hx1⟩)
set_option maxHeartbeats 2000000 in
set_option maxRecDepth 100000 in
theorem next_eng {h : Heap} {be me : Nat} {cnt : Int} (hb : h[be]? = some (.cells ⟨[.map (some me), In cnt]⟩ 62 (0, 0))) (hc : 0 ≤ cnt ∧ cnt ≤ 1000000) :
    CallsH Tryz.prog 147 ⟨[.pointer (some ⟨be, 0, none⟩)]⟩ h fun u h' => u = In (cnt + 1) ∧ h'[be]? = some (.cells ⟨[.map (some me), In (cnt + 1)]⟩ 62 (0, 0)) ∧ Ext (fun q => q = be) h h' := by
  refine calls [(0, _)] Tryz.func147 rfl Tryz.ntmps147 rfl ⟨rfl, trivial⟩ ?_
  all_goals (refine WC.sr ?_; refine Go ?_; refine WC.seq ?_; refine WC.sr ?_; refine Go ?_; refine WL.call (vs := [_]) rfl (fun a w => Tryz.call144 a w) rfl (eng_ready hb) rfl rfl rfl ?_; rintro _ hz ⟨rfl, _⟩; subst hz; refine Go ?_; refine goC 1 2 ?_ TT.mk; refine goB 2 ?_; refine WC.skip ?_; refine Gn ?_; refine Gs [(0, _)] ?_; refine WC.sr ?_; refine Go ?_; refine WL.step (ok_nilCheck rfl) rfl rfl rfl ?_; refine Go ?_; refine WL.call (vs := [_, _]) rfl (fun a w => Tryz.call194 a w) rfl (add_v hb (o := 1) (n := cnt) (m := 1) rfl (by omega) (by omega)) rfl rfl rfl ?_; rintro _ h1 ⟨rfl, hb1, hx1⟩; refine Go ?_; refine Gs [(2, _)] ?_; refine Gt ?_; exact ⟨rfl, hb1, hx1⟩)
set_option maxHeartbeats 2000000 in
set_option maxRecDepth 100000 in
/-- What the engine tells. -/
theorem rows_eng {h : Heap} {be me : Nat} {cnt : Int} (hb : h[be]? = some (.cells ⟨[.map (some me), In cnt]⟩ 62 (0, 0))) (hc : 0 ≤ cnt ∧ cnt ≤ 1000000) (v : VeD) {vp : Value} (ps : List Cel) (hp : Cels h vp ps) :
    CallsH Tryz.prog 92 ⟨[.pointer (some ⟨be, 0, none⟩), .agg ⟨v.cells⟩, vp]⟩ h fun u h' => ∃ LL, Rws h' u LL ∧ LL.map Rw.pl = (engP v (ps.map Cel.pl) cnt).1 ∧ (∀ q, RwsF u LL q → h.size ≤ q) ∧ h'[be]? = some (.cells ⟨[.map (some me), In (engP v (ps.map Cel.pl) cnt).2]⟩ 62 (0, 0)) ∧ Ext (fun q => q = be) h h' := by
  have hlt := lt_of_some hb
  obtain ⟨_, ⟨_, A, c, rfl, _⟩, _⟩ := id hp
  unfold VeD.cells veC
  have hdl := deci_len (cnt + 1) (by omega)
  rcases (show v.k = 5 ∧ engP v (ps.map Cel.pl) cnt = (rowsP (heldN v.n), cnt) ∨ v.k = 6 ∧ engP v (ps.map Cel.pl) cnt = ([ps.map Cel.pl], cnt) ∨ v.k = 7 ∧ engP v (ps.map Cel.pl) cnt = ([[(false, deci (cnt + 1))]], cnt + 1) ∨ v.k ≠ 5 ∧ v.k ≠ 6 ∧ v.k ≠ 7 ∧ engP v (ps.map Cel.pl) cnt = ([], cnt) by
    unfold engP
    by_cases e1 : v.k = 5
    · exact .inl ⟨e1, if_pos e1⟩
    · by_cases e2 : v.k = 6
      · exact .inr (.inl ⟨e2, by rw [if_neg e1, if_pos e2]⟩)
      · by_cases e3 : v.k = 7
        · exact .inr (.inr (.inl ⟨e3, by rw [if_neg e1, if_neg e2, if_pos e3]⟩))
        · exact .inr (.inr (.inr ⟨e1, e2, e3, by rw [if_neg e1, if_neg e2, if_neg e3]⟩))) with ⟨e1, e⟩ | ⟨e1, e⟩ | ⟨e1, e⟩ | ⟨e1, e2, e3, e⟩
  all_goals
    rw [e]
    dsimp only
    refine calls [(0, _), (1, _), (2, _)] Tryz.func92 rfl Tryz.ntmps92 rfl ⟨rfl, rfl, rfl, trivial⟩ ?_
    all_goals (refine WC.sr ?_; refine WL.stepR (okE_box rfl) rfl rfl rfl ?_; rintro _ h1 ⟨b1, rfl, hg1, hb1, hx1⟩; have hbe := hx1.obj hb nos; (have n1 : be ≠ b1 := by omega); refine Go ?_; refine WC.seq ?_; refine WC.sr ?_; refine Go ?_; refine WL.call (vs := [_]) rfl (fun a w => Tryz.call144 a w) rfl (eng_ready hbe) rfl rfl rfl ?_; rintro _ hz ⟨rfl, _⟩; subst hz; refine Go ?_; refine Gs [(0, _), (2, _), (4, _), (9, _)] ?_; refine goC 1 2 ?_ TT.mk; refine goB 2 ?_; refine WC.skip ?_; refine Gn ?_; refine WC.seq ?_; refine WC.sr ?_; refine Go ?_; refine Ld ?_; refine Gn ?_; refine WC.block ?_; refine WC.sr ?_; refine Go ?_; refine goC 3 4 ?_ TT.mk)
    all_goals (first | (fail_if_success refine goB 3 ?_) | (
    refine goB 3 ?_
    all_goals (refine WC.sr ?_; refine Go ?_; refine Ld ?_; refine WL.call (vs := [_]) rfl (fun a w => Tryz.call145 a w) rfl (rows_cols v.n) rfl rfl rfl ?_; rintro u2 h2 ⟨L2, r2, p2, hx2, f2⟩; have X2 := hx1.trans hx2; refine Go ?_; refine Gs [(6, _)] ?_; refine Gt ?_)
    all_goals (first
                | exact ⟨L2, r2, p2, fun q hq => by have := f2 q hq; have := hx1.size; omega, X2.obj hb nos, X2.mono fun _ _ e => e.elim⟩
                | exact ⟨[⟨_, l2⟩], ⟨rd_blk hb3 rfl, ⟨by simp [reachBytes], _, _, rfl, by simp [maxLen]⟩, by simpa using r2.ext0 hx3⟩, by simp [Rw.pl, p2], fun q hq => by
                    rcases hq with ⟨_, e⟩ | ⟨r, hr, e⟩
                    · simp [Value.ownBlock] at e; have := hx1.size; have := hx2.size; omega
                    · simp at hr; subst hr; have := f2 q e; have := hx1.size; omega, X3.obj hb nos, X3.mono fun _ _ e => e.elim⟩
                | exact ⟨[⟨_, [⟨false, .slice (some ⟨b4, 0, none⟩) (deci (cnt + 1)).length c4, deci (cnt + 1)⟩]⟩], ⟨rd_blk hb6 rfl, ⟨by simp [reachBytes], _, _, rfl, by simp [maxLen]⟩, by simpa using cels_one (hr4.ext0 (hx5.trans hx6)) (by omega) (hx6.obj hb5 nos)⟩, rfl, fun q hq => by
                    have := hx1.size; have := hx2.size; have := hx3.size; have := hx4.size; have := hx5.size
                    rcases hq with ⟨_, e⟩ | ⟨r, hr, e⟩
                    · simp [Value.ownBlock] at e; omega
                    · simp at hr; subst hr
                      rcases e with ⟨_, e⟩ | ⟨r, hr, _, e⟩
                      · simp [Value.ownBlock] at e; omega
                      · simp at hr; subst hr; simp [Value.ownBlock] at e; omega, X26.obj hb2 nos, (hx1.mono fun _ _ e => e.elim).trans (hx2.trans (X26.mono fun _ _ e => e.elim))⟩
                | exact ⟨[], ⟨Rd.nil _ _, ⟨by simp, _, _, rfl, by simp [maxLen]⟩, by simp⟩, rfl, fun q hq => (rwsF_nil rfl hq).elim, hbe, hx1.mono fun _ _ e => e.elim⟩)
    skip))
    all_goals (refine goB 4 ?_; refine WC.sr ?_; refine Go ?_; refine Gs [(0, _), (2, _), (11, _), (17, _)] ?_; refine goC 5 6 ?_ TT.mk)
    all_goals (first | (fail_if_success refine goB 5 ?_) | (
    refine goB 5 ?_
    all_goals (refine WC.sr ?_; refine Go ?_; refine WL.call (vs := [_]) rfl (fun a w => Tryz.call146 a w) rfl (own_eng ps (hp.ext0 hx1)) rfl rfl rfl ?_; rintro u2 h2 ⟨l2, r2, p2, hx2, f2⟩; obtain ⟨A2, c2, rfl⟩ : ∃ A c, u2 = .slice A l2.length c := (by obtain ⟨_, ⟨_, A, c, e, _⟩, _⟩ := r2; exact ⟨A, c, e⟩); refine WL.stepR (okE_buildSlice (vs := [_]) (cs := [_]) (fun | [a0] => [a0] | _ => []) Tryz.underlying145 rfl rfl (by kernel_rfl)) rfl rfl rfl ?_; rintro _ h3 ⟨b3, rfl, hg3, hb3, hx3⟩; have X3 := (hx1.trans hx2).trans hx3; refine Go ?_; refine Gs [(6, _)] ?_; refine Gt ?_)
    all_goals (first
                | exact ⟨L2, r2, p2, fun q hq => by have := f2 q hq; have := hx1.size; omega, X2.obj hb nos, X2.mono fun _ _ e => e.elim⟩
                | exact ⟨[⟨_, l2⟩], ⟨rd_blk hb3 rfl, ⟨by simp [reachBytes], _, _, rfl, by simp [maxLen]⟩, by simpa using r2.ext0 hx3⟩, by simp [Rw.pl, p2], fun q hq => by
                    rcases hq with ⟨_, e⟩ | ⟨r, hr, e⟩
                    · simp [Value.ownBlock] at e; have := hx1.size; have := hx2.size; omega
                    · simp at hr; subst hr; have := f2 q e; have := hx1.size; omega, X3.obj hb nos, X3.mono fun _ _ e => e.elim⟩
                | exact ⟨[⟨_, [⟨false, .slice (some ⟨b4, 0, none⟩) (deci (cnt + 1)).length c4, deci (cnt + 1)⟩]⟩], ⟨rd_blk hb6 rfl, ⟨by simp [reachBytes], _, _, rfl, by simp [maxLen]⟩, by simpa using cels_one (hr4.ext0 (hx5.trans hx6)) (by omega) (hx6.obj hb5 nos)⟩, rfl, fun q hq => by
                    have := hx1.size; have := hx2.size; have := hx3.size; have := hx4.size; have := hx5.size
                    rcases hq with ⟨_, e⟩ | ⟨r, hr, e⟩
                    · simp [Value.ownBlock] at e; omega
                    · simp at hr; subst hr
                      rcases e with ⟨_, e⟩ | ⟨r, hr, _, e⟩
                      · simp [Value.ownBlock] at e; omega
                      · simp at hr; subst hr; simp [Value.ownBlock] at e; omega, X26.obj hb2 nos, (hx1.mono fun _ _ e => e.elim).trans (hx2.trans (X26.mono fun _ _ e => e.elim))⟩
                | exact ⟨[], ⟨Rd.nil _ _, ⟨by simp, _, _, rfl, by simp [maxLen]⟩, by simp⟩, rfl, fun q hq => (rwsF_nil rfl hq).elim, hbe, hx1.mono fun _ _ e => e.elim⟩)
    skip))
    all_goals (refine goB 6 ?_; refine WC.sr ?_; refine Go ?_; refine Gs [(0, _), (22, _)] ?_; refine goC 7 8 ?_ TT.mk)
    all_goals (first | (fail_if_success refine goB 7 ?_) | (
    refine goB 7 ?_
    all_goals (refine WC.sr ?_; refine Go ?_; refine WL.call (vs := [_]) rfl (fun a w => Tryz.call147 a w) rfl (next_eng hbe hc) rfl rfl rfl ?_; rintro _ h2 ⟨rfl, hb2, hx2⟩; refine WL.call (vs := [_]) rfl (fun a w => Tryz.call132 a w) rfl (text_any (cnt + 1) (by omega) (by omega)) rfl rfl rfl ?_; rintro _ h3 ⟨rfl, hx3⟩; refine WL.stepR (okE_convSB Tryz.underlying9 Tryz.underlying85 Tryz.underlying5 rfl) rfl rfl rfl ?_; rintro _ h4 ⟨b4, c4, rfl, hg4, hr4, hx4⟩; refine WL.step (ok_buildF (vs := [_]) (cs := [_, _]) (fun | [a1] => [(.bool false), a1] | _ => []) rfl rfl (by kernel_rfl)) rfl rfl rfl ?_; refine WL.stepR (okE_buildSlice (vs := [_]) (cs := [_, _]) (fun | [.agg ⟨[a0, a1]⟩] => [a0, a1] | _ => []) Tryz.underlying30 rfl rfl (by kernel_rfl)) rfl rfl rfl ?_; rintro _ h5 ⟨b5, rfl, hg5, hb5, hx5⟩; refine WL.stepR (okE_buildSlice (vs := [_]) (cs := [_]) (fun | [a0] => [a0] | _ => []) Tryz.underlying145 rfl rfl (by kernel_rfl)) rfl rfl rfl ?_; rintro _ h6 ⟨b6, rfl, hg6, hb6, hx6⟩; have X26 := ((hx3.trans hx4).trans hx5).trans hx6; refine Go ?_; refine Gs [(6, _)] ?_; refine Gt ?_)
    all_goals (first
                | exact ⟨L2, r2, p2, fun q hq => by have := f2 q hq; have := hx1.size; omega, X2.obj hb nos, X2.mono fun _ _ e => e.elim⟩
                | exact ⟨[⟨_, l2⟩], ⟨rd_blk hb3 rfl, ⟨by simp [reachBytes], _, _, rfl, by simp [maxLen]⟩, by simpa using r2.ext0 hx3⟩, by simp [Rw.pl, p2], fun q hq => by
                    rcases hq with ⟨_, e⟩ | ⟨r, hr, e⟩
                    · simp [Value.ownBlock] at e; have := hx1.size; have := hx2.size; omega
                    · simp at hr; subst hr; have := f2 q e; have := hx1.size; omega, X3.obj hb nos, X3.mono fun _ _ e => e.elim⟩
                | exact ⟨[⟨_, [⟨false, .slice (some ⟨b4, 0, none⟩) (deci (cnt + 1)).length c4, deci (cnt + 1)⟩]⟩], ⟨rd_blk hb6 rfl, ⟨by simp [reachBytes], _, _, rfl, by simp [maxLen]⟩, by simpa using cels_one (hr4.ext0 (hx5.trans hx6)) (by omega) (hx6.obj hb5 nos)⟩, rfl, fun q hq => by
                    have := hx1.size; have := hx2.size; have := hx3.size; have := hx4.size; have := hx5.size
                    rcases hq with ⟨_, e⟩ | ⟨r, hr, e⟩
                    · simp [Value.ownBlock] at e; omega
                    · simp at hr; subst hr
                      rcases e with ⟨_, e⟩ | ⟨r, hr, _, e⟩
                      · simp [Value.ownBlock] at e; omega
                      · simp at hr; subst hr; simp [Value.ownBlock] at e; omega, X26.obj hb2 nos, (hx1.mono fun _ _ e => e.elim).trans (hx2.trans (X26.mono fun _ _ e => e.elim))⟩
                | exact ⟨[], ⟨Rd.nil _ _, ⟨by simp, _, _, rfl, by simp [maxLen]⟩, by simp⟩, rfl, fun q hq => (rwsF_nil rfl hq).elim, hbe, hx1.mono fun _ _ e => e.elim⟩)
    skip))
    all_goals (refine goB 8 ?_; refine WC.skip ?_; refine Gn ?_; refine WC.sr ?_; refine Go ?_; refine Gt ?_)
    all_goals (first
                | exact ⟨L2, r2, p2, fun q hq => by have := f2 q hq; have := hx1.size; omega, X2.obj hb nos, X2.mono fun _ _ e => e.elim⟩
                | exact ⟨[⟨_, l2⟩], ⟨rd_blk hb3 rfl, ⟨by simp [reachBytes], _, _, rfl, by simp [maxLen]⟩, by simpa using r2.ext0 hx3⟩, by simp [Rw.pl, p2], fun q hq => by
                    rcases hq with ⟨_, e⟩ | ⟨r, hr, e⟩
                    · simp [Value.ownBlock] at e; have := hx1.size; have := hx2.size; omega
                    · simp at hr; subst hr; have := f2 q e; have := hx1.size; omega, X3.obj hb nos, X3.mono fun _ _ e => e.elim⟩
                | exact ⟨[⟨_, [⟨false, .slice (some ⟨b4, 0, none⟩) (deci (cnt + 1)).length c4, deci (cnt + 1)⟩]⟩], ⟨rd_blk hb6 rfl, ⟨by simp [reachBytes], _, _, rfl, by simp [maxLen]⟩, by simpa using cels_one (hr4.ext0 (hx5.trans hx6)) (by omega) (hx6.obj hb5 nos)⟩, rfl, fun q hq => by
                    have := hx1.size; have := hx2.size; have := hx3.size; have := hx4.size; have := hx5.size
                    rcases hq with ⟨_, e⟩ | ⟨r, hr, e⟩
                    · simp [Value.ownBlock] at e; omega
                    · simp at hr; subst hr
                      rcases e with ⟨_, e⟩ | ⟨r, hr, _, e⟩
                      · simp [Value.ownBlock] at e; omega
                      · simp at hr; subst hr; simp [Value.ownBlock] at e; omega, X26.obj hb2 nos, (hx1.mono fun _ _ e => e.elim).trans (hx2.trans (X26.mono fun _ _ e => e.elim))⟩
                | exact ⟨[], ⟨Rd.nil _ _, ⟨by simp, _, _, rfl, by simp [maxLen]⟩, by simp⟩, rfl, fun q hq => (rwsF_nil rfl hq).elim, hbe, hx1.mono fun _ _ e => e.elim⟩)
end Go.Proofs.YtbokngiajfdanaaGreatDoor


/-
  SESSIONS (layer 30), by the code: an E.
-/
namespace Go.Proofs.YtbokngiajfdanaaGreatDoor
open Go Go.RK

section
variable {h h' : Heap} {A : Ad} {st : Int} {sk ov : Bool} {cnt : Int} {L : List (List UInt8 × StD)} {P : List (List UInt8 × ItD)}
/-- The engine turned. -/
theorem Ss.turnE (k : Ss h A st sk ov cnt L P) {cnt' : Int} (x : Ext (fun z => z = A.be) h h') (hb : h'[A.be]? = some (.cells ⟨[.map (some A.me), In cnt']⟩ 62 (0, 0))) (hc : 0 ≤ cnt' ∧ cnt' ≤ 1000000) : Ss h' A st sk ov cnt' L P ∧ Tn A P h h' P := by
  have e := k.se
  refine ⟨⟨⟨x.obj e.blk (cells_ne e.blk e.eb (by decide)), e.stm.ext x (fun z => mpNo e.stm e.eb z.symm), x.obj e.pb (cells_ne e.pb e.eb (by decide)), e.pm.ext x (fun z => mpNo e.pm e.eb z.symm), hb, e.em.ext x (fun z => mpNo e.em e.eb z.symm), e.ne⟩,
    fun q hq => ⟨(k.sok q hq).1.ext' x (fun z h0 hz e => (k.sok q hq).2.2 z h0 hz (.inr (.inr (.inr (.inl e))))), (k.sok q hq).2⟩,
    fun q hq => ⟨x.obj (k.pok q hq).1 (cells_ne (k.pok q hq).1 e.eb (by decide)), (k.pok q hq).2.1.ext x (fun z hz e => (k.pok q hq).2.2 z hz (.inr (.inr (.inr (.inl e))))), (k.pok q hq).2.2⟩, k.dis, k.sto, hc⟩, Tn.same x (fun q e => .inr (.inr (.inr (.inl e))))⟩
/-- Ran: a portal that didn't run yet. -/
theorem ran_v (k : Ss h A st sk ov cnt L P) {n : List UInt8} {i : ItD} (hi : getK P n = some i) {v : Value} (R : List Rw) (hd : i.d.ran = false) (hR : Rws h v R) : CallsH Tryz.prog 91 ⟨[.pointer (some ⟨A.bp, 0, none⟩), St n, v]⟩ h fun u h' => u = .bool true ∧ ∃ P' i', Ss h' A st sk ov cnt L P' ∧ plP P' = putK (plP P) n (i.d.text, i.d.oids, i.d.ps.map Cel.pl, R.map Rw.pl, true, i.d.over) ∧ getK P' n = some i' ∧ i'.d.pl = (i.d.text, i.d.oids, i.d.ps.map Cel.pl, R.map Rw.pl, true, i.d.over) ∧ Tn A P h h' P' ∧ Ext (fun q => q = i.p) h h' := by
  refine (ran_e (k.pe hi) R hd hR).mono fun u h' ⟨e, v', R', pe', hp', hf', hx⟩ => ⟨e, ?_⟩
  have kk := k.updP hi hx pe'.blk pe'.ok (fun z hz => by
    rcases hz with hz | hz | hz
    · exact .inl (.inl hz)
    · exact .inl (.inr (.inl hz))
    · exact .inr (hf' z hz))
  have hpl : PD.pl { i.d with vr := v', rs := R', ran := true } = (i.d.text, i.d.oids, i.d.ps.map Cel.pl, R.map Rw.pl, true, i.d.over) := by simp only [PD.pl, hp']
  have hnd : (P.map (·.1)).Nodup := by
    have := Mp.nodup keyS k.se.pm
    rwa [encK_keys] at this
  exact ⟨_, _, kk.1, by rw [putP_pl]; exact congrArg _ hpl, by rw [getK_put hnd, if_pos rfl], hpl, kk.2, hx⟩
/-- Fetch of a portal that ran. -/
theorem fetch_v (k : Ss h A st sk ov cnt L P) {n : List UInt8} {i : ItD} (hi : getK P n = some i) (most : Int) (hd : i.d.ran = true) : CallsH Tryz.prog 94 ⟨[.pointer (some ⟨A.bp, 0, none⟩), St n, In most]⟩ h fun u h' =>
    ∃ v R P', u = .tuple ⟨[v, .bool (!(fetP (i.d.rs.map Rw.pl) i.d.over most).2.2)]⟩ ∧ Rws h' v R ∧ R.map Rw.pl = (fetP (i.d.rs.map Rw.pl) i.d.over most).1 ∧ Ss h' A st sk ov cnt L P' ∧ plP P' = putK (plP P) n (i.d.text, i.d.oids, i.d.ps.map Cel.pl, (fetP (i.d.rs.map Rw.pl) i.d.over most).2.1, true, (fetP (i.d.rs.map Rw.pl) i.d.over most).2.2) ∧ Tn A P h h' P' ∧ Ext (fun q => q = i.p) h h' := by
  have hnd : (P.map (·.1)).Nodup := by
    have := Mp.nodup keyS k.se.pm
    rwa [encK_keys] at this
  have hput : ∀ d : PD, d.pl = i.d.pl → putK (plP P) n d.pl = plP P := fun d e => by
    rw [e]
    have hg : getK (plP P) n = some i.d.pl := by rw [getP_pl, hi]; rfl
    unfold putK
    rw [if_pos (by rw [hg]; rfl)]
    have hnd' : ((plP P).map (·.1)).Nodup := by
      rw [show (plP P).map (·.1) = P.map (·.1) by simp [plP]]
      exact hnd
    refine (List.map_congr_left fun q hq => ?_).trans (List.map_id' _)
    by_cases hqn : q.1 = n
    · rw [if_pos hqn]
      have := getK_of hnd' (show (q.1, q.2) ∈ plP P from hq)
      rw [hqn, hg] at this
      rw [Option.some.inj this, ← hqn]
    · rw [if_neg hqn]
  by_cases hov : i.d.over = true
  · refine (fetch_overE (k.pe hi) most hd hov).mono fun u h' ⟨e, e2⟩ => ?_
    subst e2
    have ef : fetP (i.d.rs.map Rw.pl) i.d.over most = ([], i.d.rs.map Rw.pl, true) := by unfold fetP; rw [if_pos hov]
    rw [ef]
    refine ⟨_, [], P, e, ⟨Rd.nil _ _, ⟨by simp, _, _, rfl, by simp [maxLen]⟩, by simp⟩, rfl, k, ?_, Tn.no (.refl _ _), .refl _ _⟩
    have := hput i.d rfl
    simp only [PD.pl, hd, hov] at this
    exact this.symm
  · have hov' : i.d.over = false := by simpa using hov
    have key : ∀ m : Nat, m ≤ i.d.rs.length → fetP (i.d.rs.map Rw.pl) i.d.over most = ((i.d.rs.map Rw.pl).take m, (i.d.rs.map Rw.pl).drop m, decide (((i.d.rs.map Rw.pl).drop m).length = 0)) →
        CallsH Tryz.prog 94 ⟨[.pointer (some ⟨A.bp, 0, none⟩), St n, In most]⟩ h (fun u h' => ∃ vo vr', u = .tuple ⟨[vo, .bool (!decide (((i.d.rs.length - m : Nat) : Int) = 0))]⟩ ∧ Rws h' vo (i.d.rs.take m) ∧ Pe h' A.bp A.mp (encK pcE P) i.p n { i.d with vr := vr', rs := i.d.rs.drop m, over := decide (((i.d.rs.length - m : Nat) : Int) = 0) } ∧ (∀ k, RwsF vo (i.d.rs.take m) k → RwsF i.d.vr i.d.rs k) ∧ (∀ k, RwsF vr' (i.d.rs.drop m) k → RwsF i.d.vr i.d.rs k) ∧ Ext (fun k => k = i.p) h h') →
        CallsH Tryz.prog 94 ⟨[.pointer (some ⟨A.bp, 0, none⟩), St n, In most]⟩ h fun u h' => ∃ v R P', u = .tuple ⟨[v, .bool (!(fetP (i.d.rs.map Rw.pl) i.d.over most).2.2)]⟩ ∧ Rws h' v R ∧ R.map Rw.pl = (fetP (i.d.rs.map Rw.pl) i.d.over most).1 ∧ Ss h' A st sk ov cnt L P' ∧ plP P' = putK (plP P) n (i.d.text, i.d.oids, i.d.ps.map Cel.pl, (fetP (i.d.rs.map Rw.pl) i.d.over most).2.1, true, (fetP (i.d.rs.map Rw.pl) i.d.over most).2.2) ∧ Tn A P h h' P' ∧ Ext (fun q => q = i.p) h h' := fun m hm ef hc => by
      have ed : decide (((i.d.rs.length - m : Nat) : Int) = 0) = decide (((i.d.rs.map Rw.pl).drop m).length = 0) := by
        rw [List.length_drop, List.length_map]
        exact decide_eq_decide.2 ⟨fun e => by omega, fun e => by omega⟩
      rw [ef]
      refine hc.mono fun u h' ⟨vo, vr', e, hr, pe', _, hf, hx⟩ => ?_
      rw [ed] at e pe'
      have kk := k.updP hi hx pe'.blk pe'.ok (fun z hz => by
        rcases hz with hz | hz | hz
        · exact .inl (.inl hz)
        · exact .inl (.inr (.inl hz))
        · exact .inl (.inr (.inr (hf z hz))))
      refine ⟨vo, _, _, e, hr, List.map_take .., kk.1, ?_, kk.2, hx⟩
      rw [putP_pl]
      refine congrArg _ ?_
      simp only [PD.pl, hd, List.map_drop]
    by_cases hmo : 0 < most
    · have ef : fetP (i.d.rs.map Rw.pl) i.d.over most = ((i.d.rs.map Rw.pl).take (min i.d.rs.length most.toNat), (i.d.rs.map Rw.pl).drop (min i.d.rs.length most.toNat), decide (((i.d.rs.map Rw.pl).drop (min i.d.rs.length most.toNat)).length = 0)) := by
        unfold fetP
        rw [if_neg hov]
        simp only [if_pos hmo, List.length_map]
      exact key _ (Nat.min_le_left _ _) ef (fetch_someE (n := min i.d.rs.length most.toNat) (k.pe hi) most hmo (by omega) hd hov')
    · have ef : fetP (i.d.rs.map Rw.pl) i.d.over most = ((i.d.rs.map Rw.pl).take i.d.rs.length, (i.d.rs.map Rw.pl).drop i.d.rs.length, decide (((i.d.rs.map Rw.pl).drop i.d.rs.length).length = 0)) := by
        unfold fetP
        rw [if_neg hov]
        simp only [if_neg hmo, List.length_map]
      exact key _ (Nat.le_refl _) ef (fetch_allE (k.pe hi) most hmo hd hov')
end
end Go.Proofs.YtbokngiajfdanaaGreatDoor


/-
  SESSIONS (layer 30), by the code: an E of rows.
-/
namespace Go.Proofs.YtbokngiajfdanaaGreatDoor
open Go Go.RK

theorem putK_some {κ α : Type} [DecidableEq κ] {E : List (κ × α)} {n : κ} (v : α) (hs : (getK E n).isSome = true) : putK E n v = E.map (fun p => if p.1 = n then (n, v) else p) := if_pos hs
theorem putK_none {κ α : Type} [DecidableEq κ] {E : List (κ × α)} {n : κ} (v : α) (hs : getK E n = none) : putK E n v = E ++ [(n, v)] := if_neg (by rw [hs]; simp)
theorem putK_putK {κ α : Type} [DecidableEq κ] (E : List (κ × α)) (n : κ) (v w : α) : putK (putK E n v) n w = putK E n w := by
  have hs : (getK (putK E n v) n).isSome = true := by
    rw [getK_keys, putK_keys]
    split
    · assumption
    · simp
  rw [putK_some w hs]
  rcases hg : getK E n with _ | u
  · rw [putK_none v hg, putK_none w hg, List.map_append]
    congr 1
    · refine (List.map_congr_left fun q hq => ?_).trans (List.map_id' _)
      rw [if_neg (getK_no hg q hq)]
    · simp
  · have hs2 : (getK E n).isSome = true := by rw [hg]; rfl
    rw [putK_some v hs2, putK_some w hs2, List.map_map]
    refine List.map_congr_left fun q hq => ?_
    simp only [Function.comp]
    by_cases e : q.1 = n
    · rw [if_pos e, if_pos rfl, if_pos e]
    · rw [if_neg e, if_neg e]
def RsLim (rs : List (List CelP)) : Prop := rs.length ≤ 100000 ∧ ∀ r ∈ rs, r.length ≤ 100000
theorem engP_lim (v : VeD) {ps : List CelP} (c : Int) (h : ps.length ≤ 100000) : RsLim (engP v ps c).1 := by
  unfold engP
  split
  · have := held_le v.n
    refine ⟨by rw [rowsP_len]; omega, fun r hr => ?_⟩
    obtain ⟨i, _, rfl⟩ := List.mem_map.1 hr
    simp [rowP]
  · split
    · exact ⟨by simp, by simpa using h⟩
    · split
      · exact ⟨by simp, by simp⟩
      · exact ⟨by simp, by simp⟩
theorem fetP_lim {rs : List (List CelP)} (ov : Bool) (m : Int) (h : RsLim rs) : RsLim (fetP rs ov m).1 := by
  unfold fetP
  split
  · exact ⟨by simp, by simp⟩
  · exact ⟨by dsimp only; rw [List.length_take]; have := h.1; omega, fun r hr => h.2 r (List.mem_of_mem_take hr)⟩
theorem rs_of {R : List Rw} {rs : List (List CelP)} (e : R.map Rw.pl = rs) (h : RsLim rs) : R.length ≤ 100000 ∧ ∀ r ∈ R, r.l.length ≤ 1000000 := by
  subst e
  refine ⟨by simpa using h.1, fun r hr => ?_⟩
  have := h.2 _ (List.mem_map.2 ⟨r, hr, rfl⟩)
  simp only [Rw.pl, List.length_map] at this
  omega
section
variable {h h' : Heap} {A : Ad} {st : Int} {sk ov : Bool} {cnt : Int} {L : List (List UInt8 × StD)} {P : List (List UInt8 × ItD)}
/-- Rows are fetched and told. -/
theorem execR_end {g2 g3 : Heap} {v : Value} {cnt' : Int} {P' : List (List UInt8 × ItD)} {B : List Bk} {r : SayP} (k2 : Ss g2 A st sk ov cnt' L P') (T2 : Tn A P h g2 P') (O : Outs g2 g3 v B) (hx : Ext No g2 g3) (hp : B.map Bk.p = r.2.1) (he : r.2.2 = none)
    (h1 : r.1.st = st) (h2 : r.1.sk = sk) (h3 : r.1.ov = ov) (h4 : r.1.cnt = cnt') (h5 : r.1.L = plL L) (h6 : r.1.P = plP P') : Dealt h A P r (.tuple ⟨[v, erV none]⟩) g3 := by
  obtain ⟨⟨st1, sk1, ov1, cnt1, L1, P1⟩, B1, e1⟩ := r
  dsimp only at *
  subst he h1 h2 h3 h4 h5 h6
  exact ⟨v, B, (fun e => absurd rfl e), rfl, O.mono T2.1.size, hp, L, P', k2.ext0 hx, rfl, rfl, T2.trans (Tn.no hx)⟩
set_option maxHeartbeats 2000000 in
set_option maxRecDepth 100000 in
theorem executeR_v (k : Ss h A st sk ov cnt L P) (lm : LimP (spO st sk ov cnt L P)) (f : Fm) (hf : f.ok h) (fl : FmLim f) {i : ItD} (he : portP (spO st sk ov cnt L P) f.portal = none) (hi : getK P f.portal = some i) (hr : rowsB (verbP i.d.text) = true) :
    CallsH Tryz.prog 49 ⟨[.pointer (some ⟨A.bs, 0, none⟩), .agg ⟨f.cells⟩]⟩ h (Dealt h A P (executeP (spO st sk ov cnt L P) f.p)) := by
  have hgl : getK (spO st sk ov cnt L P).P f.portal = some i.d.pl := by show getK (plP P) f.portal = _; rw [getP_pl, hi]; rfl
  have htl := lm.tp _ (getK_mem hi)
  have hcl : cnt < 1000000 := lm.c
  have hco := k.cok
  obtain ⟨⟨e1, _⟩, ⟨e2, _⟩, ⟨e3, _⟩, e4, _⟩ := hf
  obtain ⟨fl1, fl2, fl3, fl4, fl5, _⟩ := fl
  obtain ⟨fk, w, n, p, t, vo, o, vf, fs, vs, rs, vp, ps, mx⟩ := f
  dsimp only at e1 e2 e3 e4 fl1 fl2 fl3 fl4 fl5 he hi hgl htl
  obtain ⟨A1, c1, rfl, _⟩ := e1
  obtain ⟨_, _, rfl, _⟩ := e2
  obtain ⟨_, _, rfl, _⟩ := e3
  obtain ⟨A4, c4, rfl, _⟩ := e4
  dsimp only [Fm.cells, Fm.p]
  have hpe : executeP (spO st sk ov cnt L P) ⟨fk, w, n, p, t, o, ps.map Cel.pl, mx⟩ =
      ({ spO st sk ov cnt L P with cnt := (if i.d.ran = true then (i.d.rs.map Rw.pl, cnt) else engP (verbP i.d.text) (i.d.ps.map Cel.pl) cnt).2, P := putK (plP P) p (i.d.text, i.d.oids, i.d.ps.map Cel.pl, (fetP (if i.d.ran = true then (i.d.rs.map Rw.pl, cnt) else engP (verbP i.d.text) (i.d.ps.map Cel.pl) cnt).1 i.d.over mx).2.1, true, (fetP (if i.d.ran = true then (i.d.rs.map Rw.pl, cnt) else engP (verbP i.d.text) (i.d.ps.map Cel.pl) cnt).1 i.d.over mx).2.2) },
        rowsRep (fetP (if i.d.ran = true then (i.d.rs.map Rw.pl, cnt) else engP (verbP i.d.text) (i.d.ps.map Cel.pl) cnt).1 i.d.over mx).1 (!(fetP (if i.d.ran = true then (i.d.rs.map Rw.pl, cnt) else engP (verbP i.d.text) (i.d.ps.map Cel.pl) cnt).1 i.d.over mx).2.2), none) := by
    unfold executeP
    dsimp only
    rw [he, hgl]
    unfold PD.pl
    dsimp only
    rw [if_pos hr]
    rfl
  rw [hpe]
  clear hpe
  have kp := fun h' => sql_v (h := h') i.d.text (by omega)
  have kr := fun h' => rowsD_v (h := h') (verbP i.d.text)
  have ke := fun (g : Heap) (cn : Int) (hb : g[A.be]? = some (.cells ⟨[.map (some A.me), In cn]⟩ 62 (0, 0))) (hc : 0 ≤ cn ∧ cn ≤ 1000000) (vp : Value) (ps : List Cel) (hp : Cels g vp ps) => rows_eng hb hc (verbP i.d.text) ps hp
  rw [hr] at kr
  unfold VeD.cells veC at kp kr ke
  cases hran : i.d.ran
  · rw [if_neg (by decide)]
    refine calls [(0, _), (1, _)] Tryz.func49 rfl Tryz.ntmps49 rfl ⟨rfl, rfl, trivial⟩ ?_
    all_goals (refine WC.sr ?_; refine WL.stepR (okE_box rfl) rfl rfl rfl ?_; rintro _ h1 ⟨b3, rfl, hg1, hb1, hx1⟩; refine Go ?_; refine WC.sr ?_; refine Go ?_; refine WL.ld rfl (by first | exact cell_blk hb1 rfl | assumption | exact cell_blk (by assumption) rfl) rfl rfl rfl ?_)
    all_goals (refine WL.call (vs := [_, _]) rfl (fun a w => Tryz.call88 a w) rfl (portal_v (k.ext0 hx1) lm p fl2) rfl rfl rfl ?_
               rintro _ h2 ⟨⟨d2, rfl, ok2, f2, hq'⟩, hx2⟩
               rw [he] at hq' ⊢
               dsimp only [erV])
    all_goals (refine Go ?_; refine WL.stepR (okE_alloc (fun w => Tryz.zeroValue147 w)) rfl rfl rfl ?_; rintro _ h3 ⟨b6, rfl, hg3, hb3, hx3⟩; refine WL.stepR0 (okE_storeW (fun w => Tryz.sizeOf147 w) rfl rfl rfl hb3 rfl (pd_one ok2)) rfl rfl ?_; rintro _ h4 ⟨hb4, hx4⟩)
    all_goals (have X14 : Ext No h1 h4 := hx2.trans (hx3.trans' hx4 (fun q hq e => by omega))
               have X4 := hx1.trans X14
               have hb14 := X14.obj hb1 nos
               obtain ⟨i', hi', pl2⟩ := hq' rfl
               have hii := Option.some.inj (hi.symm.trans hi')
               subst hii
               have ok4 := ok2.ext (hx3.trans' (S := No) hx4 (fun q hq e => by omega)) (fun _ _ => nos)
               have hti : d2.text = i.d.text := congrArg (·.1) pl2
               have htp : d2.ps.map Cel.pl = i.d.ps.map Cel.pl := congrArg (·.2.2.1) pl2
               have htr : d2.ran = i.d.ran := congrArg (·.2.2.2.2.1) pl2
               obtain ⟨text, vo, oids, vp2, ps2, vr, rs2, ran2, over2⟩ := d2
               dsimp only at hti htp htr
               subst hti
               subst htr
               dsimp only [PD.cells] at hb4
               obtain ⟨A6, c6, hvo, _⟩ := id ok4.oids
               have okp := ok4.ps
               obtain ⟨_, ⟨_, A7, c7, hvp, _⟩, _⟩ := id ok4.ps
               obtain ⟨_, ⟨_, A8, c8, hvr, _⟩, _⟩ := id ok4.rs
               dsimp only at hvo hvp hvr okp
               subst hvo
               subst hvp
               subst hvr)
    all_goals (refine Go ?_; refine Gs [(0, _), (3, _), (6, _), (7, _)] ?_; refine WC.seq ?_; refine WC.sr ?_; refine Go ?_; refine WL.step (ok_neqIn (by kernel_rfl) rfl rfl) rfl rfl rfl ?_; refine Gn ?_; refine goC 1 2 ?_ TT.mk; refine goB 2 ?_; refine WC.skip ?_; refine Gn ?_; refine WC.sr ?_; refine Go ?_; refine WL.ld rfl (by first | exact cell_blk hb4 rfl | assumption | exact cell_blk (by assumption) rfl) rfl rfl rfl ?_; refine WL.call (vs := [_]) rfl (fun a w => Tryz.call89 a w) rfl (kp _) rfl rfl rfl ?_; rintro _ h5 ⟨rfl, hx5⟩; refine WL.stepR (okE_alloc (fun w => Tryz.zeroValue152 w)) rfl rfl rfl ?_; rintro _ h6 ⟨b8, rfl, hg6, hb6, hx6⟩; refine WL.stepR0 (okE_storeW (fun w => Tryz.sizeOf152 w) rfl rfl rfl hb6 rfl (by simp [Value.oneCell'])) rfl rfl ?_; rintro _ h7 ⟨hb7, hx7⟩; have X47 : Ext No h4 h7 := hx5.trans (hx6.trans' hx7 (fun q hq e => by omega)); refine Gn ?_; refine Gs [(0, _), (3, _), (6, _), (8, _)] ?_; refine WC.seq ?_; refine WC.sr ?_; refine WL.step (ok_loadN (fun w => Tryz.isAgg152 w) (fun w => Tryz.sizeOf152 w) rfl rfl (by exact At.of_block hb7)) rfl rfl rfl ?_; refine WL.call (vs := [_]) rfl (fun a w => Tryz.call90 a w) rfl (kr _) rfl rfl rfl ?_; rintro _ h8 ⟨rfl, hx8⟩; have X48 := X47.trans hx8; have X8 := X4.trans X48; have hb48 := X48.obj hb4 nos; have hb78 := hx8.obj hb7 nos; have hb18 := X48.obj hb14 nos; have okp8 := okp.ext0 X48; have k8 := k.ext0 X8; refine Gn ?_; refine goC 3 4 ?_ TT.mk; refine goB 3 ?_; refine WC.seq ?_; refine WC.sr ?_; refine Go ?_; refine WL.ld rfl (by first | exact cell_blk hb48 rfl | assumption | exact cell_blk (by assumption) rfl) rfl rfl rfl ?_)
    all_goals (rw [hran]
               have hip8 := (k8.pok _ (getK_mem hi)).1
               have n1 : ¬ (A.bs = A.be ∨ A.bs = i.p) := fun e => e.elim (cells_ne k8.se.blk k8.se.eb (by decide)) (cells_ne k8.se.blk hip8 (by decide))
               have n2 : ¬ (b3 = A.be ∨ b3 = i.p) := fun e => e.elim (cells_ne hb18 k8.se.eb (by decide)) (cells_ne hb18 hip8 (by decide))
               have n3 : ¬ (b6 = A.be ∨ b6 = i.p) := fun e => e.elim (cells_ne hb48 k8.se.eb (by decide)) (fun e => by have := hx2.size; have : i.p < h.size := lt_of_some ((k.pok _ (getK_mem hi)).1); have := hx1.size; omega)
               have n4 : ¬ (b8 = A.be ∨ b8 = i.p) := fun e => e.elim (cells_ne hb78 k8.se.eb (by decide)) (cells_ne hb78 hip8 (by decide)))
    all_goals (refine WL.step (ok_not rfl) rfl rfl rfl ?_; refine Gn ?_; refine Gs [(0, _), (3, _), (6, _), (8, _), (28, _)] ?_; refine goC 5 6 ?_ TT.mk; refine goB 5 ?_; refine WC.drawH (fun h' => Ext (fun q => q = A.be ∨ q = i.p) h8 h') 15 15 rfl fol ?_; refine WH.tk 0 rfl (fun hq hC => ok_move rfl) rfl rfl rfl ?_; refine WH.tk 1 rfl (fun hq hC => ok_nilCheck rfl) rfl rfl rfl ?_; refine WH.tk 2 rfl (fun hq hC => ok_fieldAddr rfl Tryz.underlying54 rfl (fun w => Tryz.sizeOf51 w)) rfl rfl rfl ?_; refine WH.tk 3 rfl (fun hq hC => ok_load (fun w => Tryz.isAgg51 w) rfl (by first | exact hC.cell (by first | exact cell_blk k8.se.blk rfl | assumption | exact cell_blk (by assumption) rfl) (by first | exact n1 | exact n2 | exact n3))) rfl rfl rfl ?_; refine WH.tk 4 rfl (fun hq hC => ok_fieldAddr rfl Tryz.underlying32 rfl (fun w => Tryz.sizeOf9 w)) rfl rfl rfl ?_; refine WH.tk 5 rfl (fun hq hC => ok_load (fun w => Tryz.isAgg9 w) rfl (by first | exact hC.cell (by first | exact cell_blk hb18 rfl | assumption | exact cell_blk (by assumption) rfl) (by first | exact n1 | exact n2 | exact n3))) rfl rfl rfl ?_; refine WH.tk 6 rfl (fun hq hC => ok_move rfl) rfl rfl rfl ?_; refine WH.tk 7 rfl (fun hq hC => ok_nilCheck rfl) rfl rfl rfl ?_; refine WH.tk 8 rfl (fun hq hC => ok_fieldAddr rfl Tryz.underlying54 rfl (fun w => Tryz.sizeOf27 w)) rfl rfl rfl ?_; refine WH.tk 9 rfl (fun hq hC => ok_load (fun w => Tryz.isAgg27 w) rfl (by first | exact hC.cell (by first | exact cell_blk k8.se.blk rfl | assumption | exact cell_blk (by assumption) rfl) (by first | exact n1 | exact n2 | exact n3))) rfl rfl rfl ?_; refine WH.tk 10 rfl (fun hq hC => ok_loadN (fun w => Tryz.isAgg152 w) (fun w => Tryz.sizeOf152 w) rfl rfl (by exact (At.of_block hb78).ext hC n4)) rfl rfl rfl ?_; refine WH.tk 11 rfl (fun hq hC => ok_fieldAddr rfl Tryz.underlying147 rfl (fun w => Tryz.sizeOf30 w)) rfl rfl rfl ?_; refine WH.tk 12 rfl (fun hq hC => ok_load (fun w => Tryz.isAgg30 w) rfl (by first | exact hC.cell (by first | exact cell_blk hb48 rfl | assumption | exact cell_blk (by assumption) rfl) (by first | exact n1 | exact n2 | exact n3))) rfl rfl rfl ?_; refine WH.one 13 (by kernel_rfl) ?_)
    all_goals (refine Comes1.call (vs := [_, _, _]) rfl rfl (fun a w => Tryz.call92 a w) rfl (ke _ _ k8.se.eb hco _ _ okp8) rfl rfl rfl ?_ (fun _ => by kernel_rfl)
               rintro uR h9 ⟨LL, rL, pL, fL, hb9, hx9⟩
               rw [htp] at pL hb9
               obtain ⟨k9, t9⟩ := k8.turnE hx9 hb9 (by unfold engP; split <;> (try split) <;> (try split) <;> dsimp only <;> omega)
               have T9 := (Tn.no (A := A) (P := P) X8).trans t9)
    all_goals (refine ⟨fun _ => hx9.mono fun _ _ e => .inl e, ?_⟩; refine WH.one 14 (by kernel_rfl) ?_; refine Comes1.call (vs := [_, _, _]) rfl rfl (fun a w => Tryz.call91 a w) rfl (ran_v k9 hi LL hran rL) rfl rfl rfl ?_ (fun _ => by kernel_rfl); rintro _ h10 ⟨rfl, P10, i10, k10, pp10, hi10, pl10, t10, hx10⟩; have T10 := T9.trans t10; have hbx := (t9.trans t10).1.obj hb18 (k8.not hb18 (by decide) (by decide) (by decide)); have hr10 : i10.d.ran = true := congrArg (·.2.2.2.2.1) pl10; have ho10 : i10.d.over = i.d.over := congrArg (·.2.2.2.2.2) pl10; have hrs10 : i10.d.rs.map Rw.pl = LL.map Rw.pl := congrArg (·.2.2.2.1) pl10; have htt : (i10.d.text, i10.d.oids, i10.d.ps.map Cel.pl) = (i.d.text, i.d.oids, i.d.ps.map Cel.pl) := congrArg (fun q => (q.1, q.2.1, q.2.2.1)) pl10; have hip10 := (k10.pok _ (getK_mem hi10)).1; have m1 : ¬ A.bs = i10.p := cells_ne k10.se.blk hip10 (by decide); have m2 : ¬ b3 = i10.p := cells_ne hbx hip10 (by decide); refine ⟨fun _ => (hx9.mono fun _ _ e => .inl e).trans (hx10.mono fun _ _ e => .inr e), ?_⟩; refine WH.done (by kernel_rfl) ?_; refine Gn ?_; refine WC.seq ?_; refine WC.drawH (fun h' => Ext (fun q => q = i10.p) h10 h') 14 14 rfl fol ?_; refine WH.tk 0 rfl (fun hq hC => ok_move rfl) rfl rfl rfl ?_; refine WH.tk 1 rfl (fun hq hC => ok_nilCheck rfl) rfl rfl rfl ?_; refine WH.tk 2 rfl (fun hq hC => ok_fieldAddr rfl Tryz.underlying54 rfl (fun w => Tryz.sizeOf51 w)) rfl rfl rfl ?_; refine WH.tk 3 rfl (fun hq hC => ok_load (fun w => Tryz.isAgg51 w) rfl (by first | exact hC.cell (by first | exact cell_blk k10.se.blk rfl | assumption | exact cell_blk (by assumption) rfl) (by first | exact m1 | exact m2))) rfl rfl rfl ?_; refine WH.tk 4 rfl (fun hq hC => ok_fieldAddr rfl Tryz.underlying32 rfl (fun w => Tryz.sizeOf9 w)) rfl rfl rfl ?_; refine WH.tk 5 rfl (fun hq hC => ok_load (fun w => Tryz.isAgg9 w) rfl (by first | exact hC.cell (by first | exact cell_blk hbx rfl | assumption | exact cell_blk (by assumption) rfl) (by first | exact m1 | exact m2))) rfl rfl rfl ?_; refine WH.tk 6 rfl (fun hq hC => ok_fieldAddr rfl Tryz.underlying32 rfl (fun w => Tryz.sizeOf3 w)) rfl rfl rfl ?_; refine WH.tk 7 rfl (fun hq hC => ok_load (fun w => Tryz.isAgg3 w) rfl (by first | exact hC.cell (by first | exact cell_blk hbx rfl | assumption | exact cell_blk (by assumption) rfl) (by first | exact m1 | exact m2))) rfl rfl rfl ?_; refine WH.one 8 (by kernel_rfl) ?_)
    all_goals (refine Comes1.call (vs := [_, _, _]) rfl rfl (fun a w => Tryz.call94 a w) rfl (fetch_v k10 hi10 mx hr10) rfl rfl rfl ?_ (fun _ => by kernel_rfl)
               rintro _ h11 ⟨v11, R11, P11, rfl, r11, p11, k11, pp11, t11, hx11⟩
               rw [hrs10, pL, ho10] at p11
               have hlim := rs_of p11 (fetP_lim _ _ (engP_lim _ _ htl.2.2.1)))
    all_goals (refine ⟨fun _ => hx11, ?_⟩; refine WH.tk 9 rfl (fun hq hC => ok_extract rfl rfl) rfl rfl rfl ?_; refine WH.tk 10 rfl (fun hq hC => ok_extract rfl rfl) rfl rfl rfl ?_; refine WH.one 11 (by kernel_rfl) ?_; refine Comes1.call (vs := [_, _]) rfl rfl (fun a w => Tryz.call93 a w) rfl (rowsS_v R11 r11 _ hlim.1 hlim.2) rfl rfl rfl ?_ (fun _ => by kernel_rfl); rintro v12 h12 ⟨B, O12, pB, hx12⟩; refine ⟨fun _ => hx11.trans (hx12.mono fun _ _ e => e.elim), ?_⟩; have hC12 := hx11.trans (hx12.mono (S' := fun q => q = i10.p) fun _ _ e => e.elim); refine WH.tk 12 rfl (fun hq hC => ok_assign rfl) rfl rfl rfl ?_; refine WH.tk 13 rfl (fun hq hC => ok_assign rfl) rfl rfl rfl ?_; refine WH.done (by kernel_rfl) ?_; refine Gn ?_; refine Gs [(4, _), (5, _)] ?_; refine Gt ?_)
    all_goals (refine execR_end k11 (T10.trans t11) O12 hx12 (by rw [pB, p11, hrs10, pL, ho10]) rfl rfl rfl rfl rfl rfl ?_
               rw [pp11, pp10, hrs10, pL, ho10]
               simp only [Prod.mk.injEq] at htt
               rw [htt.1, htt.2.1, htt.2.2, putK_putK])
  · rw [if_pos rfl]
    refine calls [(0, _), (1, _)] Tryz.func49 rfl Tryz.ntmps49 rfl ⟨rfl, rfl, trivial⟩ ?_
    all_goals (refine WC.sr ?_; refine WL.stepR (okE_box rfl) rfl rfl rfl ?_; rintro _ h1 ⟨b3, rfl, hg1, hb1, hx1⟩; refine Go ?_; refine WC.sr ?_; refine Go ?_; refine WL.ld rfl (by first | exact cell_blk hb1 rfl | assumption | exact cell_blk (by assumption) rfl) rfl rfl rfl ?_)
    all_goals (refine WL.call (vs := [_, _]) rfl (fun a w => Tryz.call88 a w) rfl (portal_v (k.ext0 hx1) lm p fl2) rfl rfl rfl ?_
               rintro _ h2 ⟨⟨d2, rfl, ok2, f2, hq'⟩, hx2⟩
               rw [he] at hq' ⊢
               dsimp only [erV])
    all_goals (refine Go ?_; refine WL.stepR (okE_alloc (fun w => Tryz.zeroValue147 w)) rfl rfl rfl ?_; rintro _ h3 ⟨b6, rfl, hg3, hb3, hx3⟩; refine WL.stepR0 (okE_storeW (fun w => Tryz.sizeOf147 w) rfl rfl rfl hb3 rfl (pd_one ok2)) rfl rfl ?_; rintro _ h4 ⟨hb4, hx4⟩)
    all_goals (have X14 : Ext No h1 h4 := hx2.trans (hx3.trans' hx4 (fun q hq e => by omega))
               have X4 := hx1.trans X14
               have hb14 := X14.obj hb1 nos
               obtain ⟨i', hi', pl2⟩ := hq' rfl
               have hii := Option.some.inj (hi.symm.trans hi')
               subst hii
               have ok4 := ok2.ext (hx3.trans' (S := No) hx4 (fun q hq e => by omega)) (fun _ _ => nos)
               have hti : d2.text = i.d.text := congrArg (·.1) pl2
               have htp : d2.ps.map Cel.pl = i.d.ps.map Cel.pl := congrArg (·.2.2.1) pl2
               have htr : d2.ran = i.d.ran := congrArg (·.2.2.2.2.1) pl2
               obtain ⟨text, vo, oids, vp2, ps2, vr, rs2, ran2, over2⟩ := d2
               dsimp only at hti htp htr
               subst hti
               subst htr
               dsimp only [PD.cells] at hb4
               obtain ⟨A6, c6, hvo, _⟩ := id ok4.oids
               have okp := ok4.ps
               obtain ⟨_, ⟨_, A7, c7, hvp, _⟩, _⟩ := id ok4.ps
               obtain ⟨_, ⟨_, A8, c8, hvr, _⟩, _⟩ := id ok4.rs
               dsimp only at hvo hvp hvr okp
               subst hvo
               subst hvp
               subst hvr)
    all_goals (refine Go ?_; refine Gs [(0, _), (3, _), (6, _), (7, _)] ?_; refine WC.seq ?_; refine WC.sr ?_; refine Go ?_; refine WL.step (ok_neqIn (by kernel_rfl) rfl rfl) rfl rfl rfl ?_; refine Gn ?_; refine goC 1 2 ?_ TT.mk; refine goB 2 ?_; refine WC.skip ?_; refine Gn ?_; refine WC.sr ?_; refine Go ?_; refine WL.ld rfl (by first | exact cell_blk hb4 rfl | assumption | exact cell_blk (by assumption) rfl) rfl rfl rfl ?_; refine WL.call (vs := [_]) rfl (fun a w => Tryz.call89 a w) rfl (kp _) rfl rfl rfl ?_; rintro _ h5 ⟨rfl, hx5⟩; refine WL.stepR (okE_alloc (fun w => Tryz.zeroValue152 w)) rfl rfl rfl ?_; rintro _ h6 ⟨b8, rfl, hg6, hb6, hx6⟩; refine WL.stepR0 (okE_storeW (fun w => Tryz.sizeOf152 w) rfl rfl rfl hb6 rfl (by simp [Value.oneCell'])) rfl rfl ?_; rintro _ h7 ⟨hb7, hx7⟩; have X47 : Ext No h4 h7 := hx5.trans (hx6.trans' hx7 (fun q hq e => by omega)); refine Gn ?_; refine Gs [(0, _), (3, _), (6, _), (8, _)] ?_; refine WC.seq ?_; refine WC.sr ?_; refine WL.step (ok_loadN (fun w => Tryz.isAgg152 w) (fun w => Tryz.sizeOf152 w) rfl rfl (by exact At.of_block hb7)) rfl rfl rfl ?_; refine WL.call (vs := [_]) rfl (fun a w => Tryz.call90 a w) rfl (kr _) rfl rfl rfl ?_; rintro _ h8 ⟨rfl, hx8⟩; have X48 := X47.trans hx8; have X8 := X4.trans X48; have hb48 := X48.obj hb4 nos; have hb78 := hx8.obj hb7 nos; have hb18 := X48.obj hb14 nos; have okp8 := okp.ext0 X48; have k8 := k.ext0 X8; refine Gn ?_; refine goC 3 4 ?_ TT.mk; refine goB 3 ?_; refine WC.seq ?_; refine WC.sr ?_; refine Go ?_; refine WL.ld rfl (by first | exact cell_blk hb48 rfl | assumption | exact cell_blk (by assumption) rfl) rfl rfl rfl ?_)
    all_goals (rw [hran]
               have hip8 := (k8.pok _ (getK_mem hi)).1
               have m1 : ¬ A.bs = i.p := cells_ne k8.se.blk hip8 (by decide)
               have m2 : ¬ b3 = i.p := cells_ne hb18 hip8 (by decide))
    all_goals (refine WL.step (ok_not rfl) rfl rfl rfl ?_; refine Gn ?_; refine Gs [(0, _), (3, _), (6, _), (8, _), (28, _)] ?_; refine goC 5 6 ?_ TT.mk; refine goB 6 ?_; refine WC.skip ?_; refine Gn ?_; refine WC.seq ?_; refine WC.drawH (fun h' => Ext (fun q => q = i.p) h8 h') 14 14 rfl fol ?_; refine WH.tk 0 rfl (fun hq hC => ok_move rfl) rfl rfl rfl ?_; refine WH.tk 1 rfl (fun hq hC => ok_nilCheck rfl) rfl rfl rfl ?_; refine WH.tk 2 rfl (fun hq hC => ok_fieldAddr rfl Tryz.underlying54 rfl (fun w => Tryz.sizeOf51 w)) rfl rfl rfl ?_; refine WH.tk 3 rfl (fun hq hC => ok_load (fun w => Tryz.isAgg51 w) rfl (by first | exact hC.cell (by first | exact cell_blk k8.se.blk rfl | assumption | exact cell_blk (by assumption) rfl) (by first | exact m1 | exact m2))) rfl rfl rfl ?_; refine WH.tk 4 rfl (fun hq hC => ok_fieldAddr rfl Tryz.underlying32 rfl (fun w => Tryz.sizeOf9 w)) rfl rfl rfl ?_; refine WH.tk 5 rfl (fun hq hC => ok_load (fun w => Tryz.isAgg9 w) rfl (by first | exact hC.cell (by first | exact cell_blk hb18 rfl | assumption | exact cell_blk (by assumption) rfl) (by first | exact m1 | exact m2))) rfl rfl rfl ?_; refine WH.tk 6 rfl (fun hq hC => ok_fieldAddr rfl Tryz.underlying32 rfl (fun w => Tryz.sizeOf3 w)) rfl rfl rfl ?_; refine WH.tk 7 rfl (fun hq hC => ok_load (fun w => Tryz.isAgg3 w) rfl (by first | exact hC.cell (by first | exact cell_blk hb18 rfl | assumption | exact cell_blk (by assumption) rfl) (by first | exact m1 | exact m2))) rfl rfl rfl ?_; refine WH.one 8 (by kernel_rfl) ?_; refine Comes1.call (vs := [_, _, _]) rfl rfl (fun a w => Tryz.call94 a w) rfl (fetch_v k8 hi mx hran) rfl rfl rfl ?_ (fun _ => by kernel_rfl); rintro _ h11 ⟨v11, R11, P11, rfl, r11, p11, k11, pp11, t11, hx11⟩; have hlim := rs_of p11 (fetP_lim _ _ ⟨htl.2.2.2.1, htl.2.2.2.2⟩); refine ⟨fun _ => hx11, ?_⟩; refine WH.tk 9 rfl (fun hq hC => ok_extract rfl rfl) rfl rfl rfl ?_; refine WH.tk 10 rfl (fun hq hC => ok_extract rfl rfl) rfl rfl rfl ?_; refine WH.one 11 (by kernel_rfl) ?_; refine Comes1.call (vs := [_, _]) rfl rfl (fun a w => Tryz.call93 a w) rfl (rowsS_v R11 r11 _ hlim.1 hlim.2) rfl rfl rfl ?_ (fun _ => by kernel_rfl); rintro v12 h12 ⟨B, O12, pB, hx12⟩; refine ⟨fun _ => hx11.trans (hx12.mono fun _ _ e => e.elim), ?_⟩; have hC12 := hx11.trans (hx12.mono (S' := fun q => q = i.p) fun _ _ e => e.elim); refine WH.tk 12 rfl (fun hq hC => ok_assign rfl) rfl rfl rfl ?_; refine WH.tk 13 rfl (fun hq hC => ok_assign rfl) rfl rfl rfl ?_; refine WH.done (by kernel_rfl) ?_; refine Gn ?_; refine Gs [(4, _), (5, _)] ?_; refine Gt ?_; refine execR_end k11 ((Tn.no X8).trans t11) O12 hx12 (by rw [pB, p11]) rfl rfl rfl rfl rfl rfl ?_; rw [pp11])
end
end Go.Proofs.YtbokngiajfdanaaGreatDoor


/-
  SESSIONS (layer 30), by the code: an E of a verb without rows; a Q.
-/
namespace Go.Proofs.YtbokngiajfdanaaGreatDoor
open Go Go.RK

section
variable {h h' : Heap} {A : Ad} {st : Int} {sk ov : Bool} {cnt : Int} {L : List (List UInt8 × StD)} {P : List (List UInt8 × ItD)}
set_option maxHeartbeats 2000000 in
set_option maxRecDepth 100000 in
theorem ran_none {b m : Nat} {es : List (List UInt8 × Value)} {v : Value} (name : List UInt8) (hb : h[b]? = some (.cells ⟨[.map (some m)]⟩ 98 (0, 0))) (hm : Mp .string St h m es) (hv : alook es name = none) :
    CallsH Tryz.prog 91 ⟨[.pointer (some ⟨b, 0, none⟩), St name, v]⟩ h fun u h' => u = .bool false ∧ h' = h := by
  refine calls [(0, _), (1, _), (2, _)] Tryz.func91 rfl Tryz.ntmps91 rfl ⟨rfl, rfl, rfl, trivial⟩ ?_
  all_goals (refine WC.sr ?_; refine Go ?_; refine WC.sr ?_; refine Go ?_; refine WL.call (vs := [_, _]) rfl (fun a w => Tryz.call142 a w) rfl (of_none name hb hm hv) rfl rfl rfl ?_; rintro _ hz ⟨rfl, _⟩; subst hz; refine Go ?_; refine Gs [(2, _), (7, _), (8, _)] ?_; refine WC.seq ?_; refine WC.sr ?_; refine Go ?_; refine goP 17 ?_ TT.mk; refine Gg ?_; refine WL.pass rfl rfl rfl ?_; refine Gg ?_; refine WL.pass rfl rfl rfl ?_; refine Go ?_; refine Gs [(2, _), (7, _), (22, _)] ?_; refine goC 1 2 ?_ TT.mk; refine goB 1 ?_; refine WC.sr ?_; refine Go ?_; refine Gt ?_; exact ⟨rfl, rfl⟩)
/-- What a portal has, once it ran without rows. -/
def ranP (P : List (List UInt8 × PdP)) (n : List UInt8) : List (List UInt8 × PdP) := match getK P n with
  | some (t, o, ps, _, ran, ov) => if ran = true then P else putK P n (t, o, ps, [], true, ov)
  | none => P
theorem ran_any (k : Ss h A st sk ov cnt L P) (n : List UInt8) : CallsH Tryz.prog 91 ⟨[.pointer (some ⟨A.bp, 0, none⟩), St n, nS]⟩ h fun _ h' => ∃ P', Ss h' A st sk ov cnt L P' ∧ plP P' = ranP (plP P) n ∧ Tn A P h h' P' ∧ Ext (fun q => ∃ cs, h[q]? = some (.cells cs 147 (0, 0))) h h' := by
  unfold ranP
  rw [getP_pl]
  rcases hg : getK P n with _ | i
  · refine (ran_none n k.se.pb k.se.pm (by rw [alook_encK, hg]; rfl)).mono fun u h' ⟨_, e⟩ => ?_
    subst e
    exact ⟨P, k, rfl, Tn.no (.refl _ _), .refl _ _⟩
  · rcases hr : i.d.ran
    · refine (ran_v k hg [] hr ⟨Rd.nil _ _, ⟨by simp, _, _, rfl, by simp [maxLen]⟩, by simp⟩).mono fun u h' ⟨_, P', i', k', e, _, _, t, x⟩ => ?_
      exact ⟨P', k', by rw [e]; simp only [Option.map_some, PD.pl, hr]; rfl, t, x.mono fun q _ e => ⟨_, e ▸ (k.pok _ (getK_mem hg)).1⟩⟩
    · refine (ran_eno (k.pe hg) hr).mono fun u h' ⟨_, e⟩ => ?_
      subst e
      exact ⟨P, k, by simp only [Option.map_some, PD.pl, hr, if_true], Tn.no (.refl _ _), .refl _ _⟩
theorem turnP_none {s s1 : SP} {v : VeD} {out : List BkP} (e : turnP s v = (s1, out, none)) : s1.P = (if exitB v = true then [] else s.P) ∧ ∀ x ∈ out, x.oids = [] ∧ x.cols = [] ∧ x.row = [] ∧ x.fields = [] := by
  unfold turnP at e
  by_cases e1 : v.k = 1
  · rw [if_pos e1] at e
    simp only [Prod.mk.injEq] at e
    obtain ⟨rfl, rfl, _⟩ := e
    exact ⟨by rw [if_neg (by simp [exitB, e1])], by simp⟩
  · by_cases e2 : v.k = 8
    · rw [if_neg e1, if_pos e2] at e
      simp at e
    · rw [if_neg e1, if_neg e2] at e
      simp only [Prod.mk.injEq] at e
      obtain ⟨rfl, rfl, _⟩ := e
      exact ⟨rfl, by simp⟩
theorem noF_of {B : List Bk} {out : List BkP} (e : B.map Bk.p = out) (h : ∀ x ∈ out, x.oids = [] ∧ x.cols = [] ∧ x.row = [] ∧ x.fields = []) : ∀ b ∈ B, ∀ q, ¬ b.F q := fun b hb q => by
  obtain ⟨h1, h2, h3, h4⟩ := h b.p (e ▸ List.mem_map.2 ⟨b, hb, rfl⟩)
  exact Bk.noF h1 h2 (List.map_eq_nil_iff.1 h3) h4 q
set_option maxHeartbeats 2000000 in
set_option maxRecDepth 100000 in
theorem executeT_v (k : Ss h A st sk ov cnt L P) (lm : LimP (spO st sk ov cnt L P)) (f : Fm) (hf : f.ok h) (fl : FmLim f) {i : ItD} (he : portP (spO st sk ov cnt L P) f.portal = none) (hi : getK P f.portal = some i) (hr : rowsB (verbP i.d.text) = false) :
    CallsH Tryz.prog 49 ⟨[.pointer (some ⟨A.bs, 0, none⟩), .agg ⟨f.cells⟩]⟩ h (Dealt h A P (executeP (spO st sk ov cnt L P) f.p)) := by
  have hgl : getK (spO st sk ov cnt L P).P f.portal = some i.d.pl := by show getK (plP P) f.portal = _; rw [getP_pl, hi]; rfl
  have htl := lm.tp _ (getK_mem hi)
  obtain ⟨⟨e1, _⟩, ⟨e2, _⟩, ⟨e3, _⟩, e4, _⟩ := hf
  obtain ⟨fl1, fl2, fl3, fl4, fl5, _⟩ := fl
  obtain ⟨fk, w, n, p, t, vo, o, vf, fs, vs, rs, vp, ps, mx⟩ := f
  dsimp only at e1 e2 e3 e4 fl1 fl2 fl3 fl4 fl5 he hi hgl htl
  obtain ⟨A1, c1, rfl, _⟩ := e1
  obtain ⟨_, _, rfl, _⟩ := e2
  obtain ⟨_, _, rfl, _⟩ := e3
  obtain ⟨A4, c4, rfl, _⟩ := e4
  dsimp only [Fm.cells, Fm.p]
  have hpe : executeP (spO st sk ov cnt L P) ⟨fk, w, n, p, t, o, ps.map Cel.pl, mx⟩ = if i.d.ran = true ∧ (verbP i.d.text).k ≠ 1 then (spO st sk ov cnt L P, [], some (([53, 53, 48, 48, 48] : List UInt8), ([112, 111, 114, 116, 97, 108, 32, 99, 97, 110, 110, 111, 116, 32, 98, 101, 32, 114, 117, 110] : List UInt8)))
      else match turnP (spO st sk ov cnt L P) (verbP i.d.text) with
        | (s1, out, none) => ({ s1 with P := if exitB (verbP i.d.text) = true ∨ i.d.ran = true then s1.P else putK s1.P p (i.d.text, i.d.oids, i.d.ps.map Cel.pl, [], true, i.d.over) }, out, none)
        | r => r := by
    unfold executeP
    dsimp only
    rw [he, hgl]
    unfold PD.pl
    dsimp only
    rw [if_neg (by rw [hr]; decide)]
    rfl
  rw [hpe]
  clear hpe
  have kp := fun h' => sql_v (h := h') i.d.text (by omega)
  have kr := fun h' => rowsD_v (h := h') (verbP i.d.text)
  have kt := fun (g : Heap) (k : Ss g A st sk ov cnt L P) => (turn_v k (verbP i.d.text)).mono fun _ _ d => d.toD
  rw [hr] at kr
  by_cases hc : i.d.ran = true ∧ (verbP i.d.text).k ≠ 1
  · rw [if_pos hc]
    obtain ⟨hran, hk1⟩ := hc
    unfold VeD.cells veC at kp kr kt
    refine calls [(0, _), (1, _)] Tryz.func49 rfl Tryz.ntmps49 rfl ⟨rfl, rfl, trivial⟩ ?_
    all_goals (refine WC.sr ?_; refine WL.stepR (okE_box rfl) rfl rfl rfl ?_; rintro _ h1 ⟨b3, rfl, hg1, hb1, hx1⟩; refine Go ?_; refine WC.sr ?_; refine Go ?_; refine WL.ld rfl (by first | exact cell_blk hb1 rfl | assumption | exact cell_blk (by assumption) rfl) rfl rfl rfl ?_)
    all_goals (refine WL.call (vs := [_, _]) rfl (fun a w => Tryz.call88 a w) rfl (portal_v (k.ext0 hx1) lm p fl2) rfl rfl rfl ?_
               rintro _ h2 ⟨⟨d2, rfl, ok2, f2, hq'⟩, hx2⟩
               rw [he] at hq' ⊢
               dsimp only [erV])
    all_goals (refine Go ?_; refine WL.stepR (okE_alloc (fun w => Tryz.zeroValue147 w)) rfl rfl rfl ?_; rintro _ h3 ⟨b6, rfl, hg3, hb3, hx3⟩; refine WL.stepR0 (okE_storeW (fun w => Tryz.sizeOf147 w) rfl rfl rfl hb3 rfl (pd_one ok2)) rfl rfl ?_; rintro _ h4 ⟨hb4, hx4⟩)
    all_goals (have X14 : Ext No h1 h4 := hx2.trans (hx3.trans' hx4 (fun q hq e => by omega))
               have X4 := hx1.trans X14
               have hb14 := X14.obj hb1 nos
               obtain ⟨i', hi', pl2⟩ := hq' rfl
               have hii := Option.some.inj (hi.symm.trans hi')
               subst hii
               have ok4 := ok2.ext (hx3.trans' (S := No) hx4 (fun q hq e => by omega)) (fun _ _ => nos)
               have hti : d2.text = i.d.text := congrArg (·.1) pl2
               have htp : d2.ps.map Cel.pl = i.d.ps.map Cel.pl := congrArg (·.2.2.1) pl2
               have htr : d2.ran = i.d.ran := congrArg (·.2.2.2.2.1) pl2
               obtain ⟨text, vo, oids, vp2, ps2, vr, rs2, ran2, over2⟩ := d2
               dsimp only at hti htp htr
               subst hti
               subst htr
               dsimp only [PD.cells] at hb4
               obtain ⟨A6, c6, hvo, _⟩ := id ok4.oids
               have okp := ok4.ps
               obtain ⟨_, ⟨_, A7, c7, hvp, _⟩, _⟩ := id ok4.ps
               obtain ⟨_, ⟨_, A8, c8, hvr, _⟩, _⟩ := id ok4.rs
               dsimp only at hvo hvp hvr okp
               subst hvo
               subst hvp
               subst hvr)
    all_goals (refine Go ?_; refine Gs [(0, _), (3, _), (6, _), (7, _)] ?_; refine WC.seq ?_; refine WC.sr ?_; refine Go ?_; refine WL.step (ok_neqIn (by kernel_rfl) rfl rfl) rfl rfl rfl ?_; refine Gn ?_; refine goC 1 2 ?_ TT.mk; refine goB 2 ?_; refine WC.skip ?_; refine Gn ?_; refine WC.sr ?_; refine Go ?_; refine WL.ld rfl (by first | exact cell_blk hb4 rfl | assumption | exact cell_blk (by assumption) rfl) rfl rfl rfl ?_; refine WL.call (vs := [_]) rfl (fun a w => Tryz.call89 a w) rfl (kp _) rfl rfl rfl ?_; rintro _ h5 ⟨rfl, hx5⟩; refine WL.stepR (okE_alloc (fun w => Tryz.zeroValue152 w)) rfl rfl rfl ?_; rintro _ h6 ⟨b8, rfl, hg6, hb6, hx6⟩; refine WL.stepR0 (okE_storeW (fun w => Tryz.sizeOf152 w) rfl rfl rfl hb6 rfl (by simp [Value.oneCell'])) rfl rfl ?_; rintro _ h7 ⟨hb7, hx7⟩; have X47 : Ext No h4 h7 := hx5.trans (hx6.trans' hx7 (fun q hq e => by omega)); refine Gn ?_; refine Gs [(0, _), (3, _), (6, _), (8, _)] ?_; refine WC.seq ?_; refine WC.sr ?_; refine WL.step (ok_loadN (fun w => Tryz.isAgg152 w) (fun w => Tryz.sizeOf152 w) rfl rfl (by exact At.of_block hb7)) rfl rfl rfl ?_; refine WL.call (vs := [_]) rfl (fun a w => Tryz.call90 a w) rfl (kr _) rfl rfl rfl ?_; rintro _ h8 ⟨rfl, hx8⟩; have X48 := X47.trans hx8; have X8 := X4.trans X48; have hb48 := X48.obj hb4 nos; have hb78 := hx8.obj hb7 nos; have hb18 := X48.obj hb14 nos; have okp8 := okp.ext0 X48; have k8 := k.ext0 X8; refine Gn ?_; refine goC 3 4 ?_ TT.mk; refine goB 4 ?_; refine WC.skip ?_; refine Gn ?_; refine WC.seq ?_; refine WC.sr ?_; refine Go ?_; refine WL.ld rfl (by first | exact cell_blk hb48 rfl | assumption | exact cell_blk (by assumption) rfl) rfl rfl rfl ?_; rw [hran])
    all_goals (refine WL.step (ok_move rfl) rfl rfl rfl ?_; refine goP 58 ?_ TT.mk; refine Gg ?_; refine WL.ld rfl (by first | exact cell_blk hb78 rfl | assumption | exact cell_blk (by assumption) rfl) rfl rfl rfl ?_; refine Gg ?_; refine Go ?_; refine Gs [(0, _), (3, _), (8, _), (62, _)] ?_; refine goC 7 8 ?_ TT.mk; refine goB 7 ?_; refine WC.sr ?_; refine WL.call (vs := [_, _]) rfl (fun a w => Tryz.call79 a w) rfl (stop_v _ _) rfl rfl rfl ?_; rintro _ hq ⟨rfl, hz⟩; replace hz := hz.symm; subst hz; refine Go ?_; refine Gs [(4, _), (5, _)] ?_; refine Gt ?_; exact Dealt.err rfl (.of k8 (Tn.no X8)))
  · rw [if_neg hc]
    rcases hT : turnP (spO st sk ov cnt L P) (verbP i.d.text) with ⟨s1, out, _ | ⟨ea, ec⟩⟩
    · have hTn := turnP_none hT
      dsimp only
      rw [hT] at kt
      have hfin : ranP s1.P p = if exitB (verbP i.d.text) = true ∨ i.d.ran = true then s1.P else putK s1.P p (i.d.text, i.d.oids, i.d.ps.map Cel.pl, [], true, i.d.over) := by
        rw [hTn.1]
        unfold ranP
        cases hex : exitB (verbP i.d.text)
        · rw [if_neg (by decide), show getK (spO st sk ov cnt L P).P p = _ from hgl]
          cases hran : i.d.ran <;> simp [PD.pl, hran]
        · rw [if_pos rfl, if_pos (.inl rfl)]
          rfl
      rw [← hfin]
      unfold VeD.cells veC at kp kr kt
      rcases (show i.d.ran = true ∧ (verbP i.d.text).k = 1 ∨ i.d.ran = false by
        cases h1 : i.d.ran
        · exact .inr rfl
        · exact .inl ⟨rfl, Classical.not_not.1 fun e => hc ⟨h1, e⟩⟩) with ⟨hran, hk1⟩ | hran
      all_goals
        refine calls [(0, _), (1, _)] Tryz.func49 rfl Tryz.ntmps49 rfl ⟨rfl, rfl, trivial⟩ ?_
        all_goals (refine WC.sr ?_; refine WL.stepR (okE_box rfl) rfl rfl rfl ?_; rintro _ h1 ⟨b3, rfl, hg1, hb1, hx1⟩; refine Go ?_; refine WC.sr ?_; refine Go ?_; refine WL.ld rfl (by first | exact cell_blk hb1 rfl | assumption | exact cell_blk (by assumption) rfl) rfl rfl rfl ?_)
        all_goals (refine WL.call (vs := [_, _]) rfl (fun a w => Tryz.call88 a w) rfl (portal_v (k.ext0 hx1) lm p fl2) rfl rfl rfl ?_
                   rintro _ h2 ⟨⟨d2, rfl, ok2, f2, hq'⟩, hx2⟩
                   rw [he] at hq' ⊢
                   dsimp only [erV])
        all_goals (refine Go ?_; refine WL.stepR (okE_alloc (fun w => Tryz.zeroValue147 w)) rfl rfl rfl ?_; rintro _ h3 ⟨b6, rfl, hg3, hb3, hx3⟩; refine WL.stepR0 (okE_storeW (fun w => Tryz.sizeOf147 w) rfl rfl rfl hb3 rfl (pd_one ok2)) rfl rfl ?_; rintro _ h4 ⟨hb4, hx4⟩)
        all_goals (have X14 : Ext No h1 h4 := hx2.trans (hx3.trans' hx4 (fun q hq e => by omega))
                   have X4 := hx1.trans X14
                   have hb14 := X14.obj hb1 nos
                   obtain ⟨i', hi', pl2⟩ := hq' rfl
                   have hii := Option.some.inj (hi.symm.trans hi')
                   subst hii
                   have ok4 := ok2.ext (hx3.trans' (S := No) hx4 (fun q hq e => by omega)) (fun _ _ => nos)
                   have hti : d2.text = i.d.text := congrArg (·.1) pl2
                   have htp : d2.ps.map Cel.pl = i.d.ps.map Cel.pl := congrArg (·.2.2.1) pl2
                   have htr : d2.ran = i.d.ran := congrArg (·.2.2.2.2.1) pl2
                   obtain ⟨text, vo, oids, vp2, ps2, vr, rs2, ran2, over2⟩ := d2
                   dsimp only at hti htp htr
                   subst hti
                   subst htr
                   dsimp only [PD.cells] at hb4
                   obtain ⟨A6, c6, hvo, _⟩ := id ok4.oids
                   have okp := ok4.ps
                   obtain ⟨_, ⟨_, A7, c7, hvp, _⟩, _⟩ := id ok4.ps
                   obtain ⟨_, ⟨_, A8, c8, hvr, _⟩, _⟩ := id ok4.rs
                   dsimp only at hvo hvp hvr okp
                   subst hvo
                   subst hvp
                   subst hvr)
        all_goals (refine Go ?_; refine Gs [(0, _), (3, _), (6, _), (7, _)] ?_; refine WC.seq ?_; refine WC.sr ?_; refine Go ?_; refine WL.step (ok_neqIn (by kernel_rfl) rfl rfl) rfl rfl rfl ?_; refine Gn ?_; refine goC 1 2 ?_ TT.mk; refine goB 2 ?_; refine WC.skip ?_; refine Gn ?_; refine WC.sr ?_; refine Go ?_; refine WL.ld rfl (by first | exact cell_blk hb4 rfl | assumption | exact cell_blk (by assumption) rfl) rfl rfl rfl ?_; refine WL.call (vs := [_]) rfl (fun a w => Tryz.call89 a w) rfl (kp _) rfl rfl rfl ?_; rintro _ h5 ⟨rfl, hx5⟩; refine WL.stepR (okE_alloc (fun w => Tryz.zeroValue152 w)) rfl rfl rfl ?_; rintro _ h6 ⟨b8, rfl, hg6, hb6, hx6⟩; refine WL.stepR0 (okE_storeW (fun w => Tryz.sizeOf152 w) rfl rfl rfl hb6 rfl (by simp [Value.oneCell'])) rfl rfl ?_; rintro _ h7 ⟨hb7, hx7⟩; have X47 : Ext No h4 h7 := hx5.trans (hx6.trans' hx7 (fun q hq e => by omega)); refine Gn ?_; refine Gs [(0, _), (3, _), (6, _), (8, _)] ?_; refine WC.seq ?_; refine WC.sr ?_; refine WL.step (ok_loadN (fun w => Tryz.isAgg152 w) (fun w => Tryz.sizeOf152 w) rfl rfl (by exact At.of_block hb7)) rfl rfl rfl ?_; refine WL.call (vs := [_]) rfl (fun a w => Tryz.call90 a w) rfl (kr _) rfl rfl rfl ?_; rintro _ h8 ⟨rfl, hx8⟩; have X48 := X47.trans hx8; have X8 := X4.trans X48; have hb48 := X48.obj hb4 nos; have hb78 := hx8.obj hb7 nos; have hb18 := X48.obj hb14 nos; have okp8 := okp.ext0 X48; have k8 := k.ext0 X8; refine Gn ?_; refine goC 3 4 ?_ TT.mk; refine goB 4 ?_; refine WC.skip ?_; refine Gn ?_; refine WC.seq ?_; refine WC.sr ?_; refine Go ?_; refine WL.ld rfl (by first | exact cell_blk hb48 rfl | assumption | exact cell_blk (by assumption) rfl) rfl rfl rfl ?_; rw [hran])
        all_goals (refine WL.step (ok_move rfl) rfl rfl rfl ?_; refine goP 58 ?_ TT.mk; refine Gg ?_; first | (refine WL.pass rfl rfl rfl ?_) | (refine WL.ld rfl (by first | exact cell_blk hb78 rfl | assumption | exact cell_blk (by assumption) rfl) rfl rfl rfl ?_))
        all_goals (refine Gg ?_; refine Go ?_; refine Gs [(0, _), (3, _), (8, _), (62, _)] ?_; refine goC 7 8 ?_ TT.mk; refine goB 8 ?_; refine WC.skip ?_; refine Gn ?_; refine WC.sr ?_; refine Go ?_; refine WL.step (ok_loadN (fun w => Tryz.isAgg152 w) (fun w => Tryz.sizeOf152 w) rfl rfl (by exact At.of_block hb78)) rfl rfl rfl ?_)
        all_goals (refine WL.call (vs := [_, _]) rfl (fun a w => Tryz.call95 a w) rfl (kt _ k8) rfl rfl rfl ?_
                   rintro _ h9 ⟨v9, B9, c9, rfl, O9, pB9, L9, P9, k9, eL9, eP9, t9⟩
                   dsimp only [erV] at pB9 ⊢
                   have T9 := (Tn.no (A := A) (P := P) X8).trans t9
                   have hb19 := t9.1.obj hb18 (k8.not hb18 (by decide) (by decide) (by decide)))
        all_goals (refine Go ?_; refine Gs [(0, _), (3, _), (7, _), (9, _)] ?_; refine WC.seq ?_; refine WC.sr ?_; refine Go ?_; refine WL.step (ok_eqlIn (by kernel_rfl) rfl rfl) rfl rfl rfl ?_; refine Gn ?_; refine goC 9 10 ?_ TT.mk; refine goB 9 ?_; refine WC.drawT 6 fol (by kernel_rfl) ?_; show WS _ _ _ [_, _, _, _, _, _] _ _ _)
        all_goals (refine WS.step (ok_move rfl) rfl rfl rfl ?_; refine WS.step (ok_nilCheck rfl) rfl rfl rfl ?_; refine WS.step (ok_fieldAddr rfl Tryz.underlying54 rfl (fun w => Tryz.sizeOf51 w)) rfl rfl rfl ?_; refine WS.step (ok_load (fun w => Tryz.isAgg51 w) rfl (by first | exact cell_blk k9.se.blk rfl | assumption | exact cell_blk (by assumption) rfl)) rfl rfl rfl ?_; refine WS.step (ok_fieldAddr rfl Tryz.underlying32 rfl (fun w => Tryz.sizeOf9 w)) rfl rfl rfl ?_; refine WS.step (ok_load (fun w => Tryz.isAgg9 w) rfl (by first | exact cell_blk hb19 rfl | assumption | exact cell_blk (by assumption) rfl)) rfl rfl rfl ?_; refine WS.nil ?_; show WL _ _ _ [_] _ _ _)
        all_goals (refine WL.call (vs := [_, _, _]) rfl (fun a w => Tryz.call91 a w) rfl (ran_any k9 p) rfl rfl rfl ?_; rintro _ h10 ⟨P10, k10, eP10, t10, hx10⟩; have O10 := O9.ext' hx10 (fun q hq ⟨cs, e⟩ => by obtain ⟨_, z⟩ := own_kind O9.own hq; rw [e] at z; simp at z) (fun b hb q e => absurd e (noF_of pB9 hTn.2 b hb q)); refine WL.nil ?_; refine Gn ?_; refine Gs [(7, _), (9, _)] ?_; refine WC.sr ?_; refine Go ?_; refine Gs [(4, _), (5, _)] ?_; refine Gt ?_; exact ⟨v9, B9, c9, rfl, O10.mono X8.size, pB9, L9, P10, k10, eL9, by rw [eP10, eP9], T9.trans t10⟩)
    · dsimp only
      rw [hT] at kt
      unfold VeD.cells veC at kp kr kt
      rcases (show i.d.ran = true ∧ (verbP i.d.text).k = 1 ∨ i.d.ran = false by
        cases h1 : i.d.ran
        · exact .inr rfl
        · exact .inl ⟨rfl, Classical.not_not.1 fun e => hc ⟨h1, e⟩⟩) with ⟨hran, hk1⟩ | hran
      all_goals
        refine calls [(0, _), (1, _)] Tryz.func49 rfl Tryz.ntmps49 rfl ⟨rfl, rfl, trivial⟩ ?_
        all_goals (refine WC.sr ?_; refine WL.stepR (okE_box rfl) rfl rfl rfl ?_; rintro _ h1 ⟨b3, rfl, hg1, hb1, hx1⟩; refine Go ?_; refine WC.sr ?_; refine Go ?_; refine WL.ld rfl (by first | exact cell_blk hb1 rfl | assumption | exact cell_blk (by assumption) rfl) rfl rfl rfl ?_)
        all_goals (refine WL.call (vs := [_, _]) rfl (fun a w => Tryz.call88 a w) rfl (portal_v (k.ext0 hx1) lm p fl2) rfl rfl rfl ?_
                   rintro _ h2 ⟨⟨d2, rfl, ok2, f2, hq'⟩, hx2⟩
                   rw [he] at hq' ⊢
                   dsimp only [erV])
        all_goals (refine Go ?_; refine WL.stepR (okE_alloc (fun w => Tryz.zeroValue147 w)) rfl rfl rfl ?_; rintro _ h3 ⟨b6, rfl, hg3, hb3, hx3⟩; refine WL.stepR0 (okE_storeW (fun w => Tryz.sizeOf147 w) rfl rfl rfl hb3 rfl (pd_one ok2)) rfl rfl ?_; rintro _ h4 ⟨hb4, hx4⟩)
        all_goals (have X14 : Ext No h1 h4 := hx2.trans (hx3.trans' hx4 (fun q hq e => by omega))
                   have X4 := hx1.trans X14
                   have hb14 := X14.obj hb1 nos
                   obtain ⟨i', hi', pl2⟩ := hq' rfl
                   have hii := Option.some.inj (hi.symm.trans hi')
                   subst hii
                   have ok4 := ok2.ext (hx3.trans' (S := No) hx4 (fun q hq e => by omega)) (fun _ _ => nos)
                   have hti : d2.text = i.d.text := congrArg (·.1) pl2
                   have htp : d2.ps.map Cel.pl = i.d.ps.map Cel.pl := congrArg (·.2.2.1) pl2
                   have htr : d2.ran = i.d.ran := congrArg (·.2.2.2.2.1) pl2
                   obtain ⟨text, vo, oids, vp2, ps2, vr, rs2, ran2, over2⟩ := d2
                   dsimp only at hti htp htr
                   subst hti
                   subst htr
                   dsimp only [PD.cells] at hb4
                   obtain ⟨A6, c6, hvo, _⟩ := id ok4.oids
                   have okp := ok4.ps
                   obtain ⟨_, ⟨_, A7, c7, hvp, _⟩, _⟩ := id ok4.ps
                   obtain ⟨_, ⟨_, A8, c8, hvr, _⟩, _⟩ := id ok4.rs
                   dsimp only at hvo hvp hvr okp
                   subst hvo
                   subst hvp
                   subst hvr)
        all_goals (refine Go ?_; refine Gs [(0, _), (3, _), (6, _), (7, _)] ?_; refine WC.seq ?_; refine WC.sr ?_; refine Go ?_; refine WL.step (ok_neqIn (by kernel_rfl) rfl rfl) rfl rfl rfl ?_; refine Gn ?_; refine goC 1 2 ?_ TT.mk; refine goB 2 ?_; refine WC.skip ?_; refine Gn ?_; refine WC.sr ?_; refine Go ?_; refine WL.ld rfl (by first | exact cell_blk hb4 rfl | assumption | exact cell_blk (by assumption) rfl) rfl rfl rfl ?_; refine WL.call (vs := [_]) rfl (fun a w => Tryz.call89 a w) rfl (kp _) rfl rfl rfl ?_; rintro _ h5 ⟨rfl, hx5⟩; refine WL.stepR (okE_alloc (fun w => Tryz.zeroValue152 w)) rfl rfl rfl ?_; rintro _ h6 ⟨b8, rfl, hg6, hb6, hx6⟩; refine WL.stepR0 (okE_storeW (fun w => Tryz.sizeOf152 w) rfl rfl rfl hb6 rfl (by simp [Value.oneCell'])) rfl rfl ?_; rintro _ h7 ⟨hb7, hx7⟩; have X47 : Ext No h4 h7 := hx5.trans (hx6.trans' hx7 (fun q hq e => by omega)); refine Gn ?_; refine Gs [(0, _), (3, _), (6, _), (8, _)] ?_; refine WC.seq ?_; refine WC.sr ?_; refine WL.step (ok_loadN (fun w => Tryz.isAgg152 w) (fun w => Tryz.sizeOf152 w) rfl rfl (by exact At.of_block hb7)) rfl rfl rfl ?_; refine WL.call (vs := [_]) rfl (fun a w => Tryz.call90 a w) rfl (kr _) rfl rfl rfl ?_; rintro _ h8 ⟨rfl, hx8⟩; have X48 := X47.trans hx8; have X8 := X4.trans X48; have hb48 := X48.obj hb4 nos; have hb78 := hx8.obj hb7 nos; have hb18 := X48.obj hb14 nos; have okp8 := okp.ext0 X48; have k8 := k.ext0 X8; refine Gn ?_; refine goC 3 4 ?_ TT.mk; refine goB 4 ?_; refine WC.skip ?_; refine Gn ?_; refine WC.seq ?_; refine WC.sr ?_; refine Go ?_; refine WL.ld rfl (by first | exact cell_blk hb48 rfl | assumption | exact cell_blk (by assumption) rfl) rfl rfl rfl ?_; rw [hran])
        all_goals (refine WL.step (ok_move rfl) rfl rfl rfl ?_; refine goP 58 ?_ TT.mk; refine Gg ?_; first | (refine WL.pass rfl rfl rfl ?_) | (refine WL.ld rfl (by first | exact cell_blk hb78 rfl | assumption | exact cell_blk (by assumption) rfl) rfl rfl rfl ?_))
        all_goals (refine Gg ?_; refine Go ?_; refine Gs [(0, _), (3, _), (8, _), (62, _)] ?_; refine goC 7 8 ?_ TT.mk; refine goB 8 ?_; refine WC.skip ?_; refine Gn ?_; refine WC.sr ?_; refine Go ?_; refine WL.step (ok_loadN (fun w => Tryz.isAgg152 w) (fun w => Tryz.sizeOf152 w) rfl rfl (by exact At.of_block hb78)) rfl rfl rfl ?_; refine WL.call (vs := [_, _]) rfl (fun a w => Tryz.call95 a w) rfl (kt _ k8) rfl rfl rfl ?_; rintro _ h9 ⟨v9, B9, c9, rfl, O9, pB9, L9, P9, k9, eL9, eP9, t9⟩; dsimp only [erV] at pB9 ⊢)
        all_goals (refine Go ?_; refine Gs [(0, _), (3, _), (7, _), (9, _)] ?_; refine WC.seq ?_; refine WC.sr ?_; refine Go ?_; refine WL.step (ok_eqlIh (by kernel_rfl) rfl rfl) rfl rfl rfl ?_; refine Gn ?_; refine goC 9 10 ?_ TT.mk; refine goB 10 ?_; refine WC.skip ?_; refine Gn ?_; refine Gs [(7, _), (9, _)] ?_; refine WC.sr ?_; refine Go ?_; refine Gs [(4, _), (5, _)] ?_; refine Gt ?_; exact ⟨v9, B9, c9, rfl, O9.mono X8.size, pB9, L9, P9, k9, eL9, eP9, (Tn.no (A := A) (P := P) X8).trans t9⟩)
set_option maxHeartbeats 2000000 in
set_option maxRecDepth 100000 in
theorem execute_v (k : Ss h A st sk ov cnt L P) (lm : LimP (spO st sk ov cnt L P)) (f : Fm) (hf : f.ok h) (fl : FmLim f) :
    CallsH Tryz.prog 49 ⟨[.pointer (some ⟨A.bs, 0, none⟩), .agg ⟨f.cells⟩]⟩ h (Dealt h A P (executeP (spO st sk ov cnt L P) f.p)) := by
  rcases he : portP (spO st sk ov cnt L P) f.portal with _ | ⟨ea, ec⟩
  · obtain ⟨i, hi⟩ := portP_none he
    cases hr : rowsB (verbP i.d.text)
    · exact executeT_v k lm f hf fl he hi hr
    · exact executeR_v k lm f hf fl he hi hr
  · have hpe : executeP (spO st sk ov cnt L P) f.p = (spO st sk ov cnt L P, [], some (ea, ec)) := by
      unfold executeP
      rw [show portP (spO st sk ov cnt L P) f.p.portal = _ from he]
    rw [hpe]
    obtain ⟨⟨e1, _⟩, ⟨e2, _⟩, ⟨e3, _⟩, e4, _⟩ := hf
    obtain ⟨fl1, fl2, fl3, fl4, fl5, _⟩ := fl
    obtain ⟨fk, w, n, p, t, vo, o, vf, fs, vs, rs, vp, ps, mx⟩ := f
    dsimp only at e1 e2 e3 e4 fl1 fl2 fl3 fl4 fl5 he
    obtain ⟨A1, c1, rfl, _⟩ := e1
    obtain ⟨_, _, rfl, _⟩ := e2
    obtain ⟨_, _, rfl, _⟩ := e3
    obtain ⟨A4, c4, rfl, _⟩ := e4
    dsimp only [Fm.cells]
    refine calls [(0, _), (1, _)] Tryz.func49 rfl Tryz.ntmps49 rfl ⟨rfl, rfl, trivial⟩ ?_
    all_goals (refine WC.sr ?_; refine WL.stepR (okE_box rfl) rfl rfl rfl ?_; rintro _ h1 ⟨b3, rfl, hg1, hb1, hx1⟩; refine Go ?_; refine WC.sr ?_; refine Go ?_; refine WL.ld rfl (by first | exact cell_blk hb1 rfl | assumption | exact cell_blk (by assumption) rfl) rfl rfl rfl ?_)
    all_goals (refine WL.call (vs := [_, _]) rfl (fun a w => Tryz.call88 a w) rfl (portal_v (k.ext0 hx1) lm p fl2) rfl rfl rfl ?_
               rintro _ h2 ⟨⟨d2, rfl, ok2, f2, hq'⟩, hx2⟩
               rw [he] at hq' ⊢
               dsimp only [erV])
    all_goals (refine Go ?_; refine WL.stepR (okE_alloc (fun w => Tryz.zeroValue147 w)) rfl rfl rfl ?_; rintro _ h3 ⟨b6, rfl, hg3, hb3, hx3⟩; refine WL.stepR0 (okE_storeW (fun w => Tryz.sizeOf147 w) rfl rfl rfl hb3 rfl (pd_one ok2)) rfl rfl ?_; rintro _ h4 ⟨hb4, hx4⟩; have X4 : Ext No h h4 := (hx1.trans hx2).trans (hx3.trans' hx4 (fun q hq e => by omega)); refine Go ?_; refine Gs [(0, _), (3, _), (6, _), (7, _)] ?_; refine WC.seq ?_; refine WC.sr ?_; refine Go ?_; refine WL.step (ok_neqIh (by kernel_rfl) rfl rfl) rfl rfl rfl ?_; refine Gn ?_; refine goC 1 2 ?_ TT.mk; refine goB 1 ?_; refine WC.sr ?_; refine Go ?_; refine Gs [(4, _), (5, _)] ?_; refine Gt ?_; exact Dealt.err rfl (.of (k.ext0 X4) (Tn.no X4)))
end
end Go.Proofs.YtbokngiajfdanaaGreatDoor


/-
  SESSIONS (layer 30), by the code: a Q.
-/
namespace Go.Proofs.YtbokngiajfdanaaGreatDoor
open Go Go.RK

section
variable {h h' : Heap} {A : Ad} {st : Int} {sk ov : Bool} {cnt : Int} {L : List (List UInt8 × StD)} {P : List (List UInt8 × ItD)}
theorem del_any (k : Ss h A st sk ov cnt L P) (n : List UInt8) : CallsH Tryz.prog 96 ⟨[.pointer (some ⟨A.bp, 0, none⟩), St n]⟩ h fun _ h' => ∃ P', (∀ q ∈ P', q ∈ P) ∧ Ss h' A st sk ov cnt L P' ∧ plP P' = delK (plP P) n ∧ Tn A P h h' P' := by
  rcases hg : getK P n with _ | i
  · refine (del_no n k.se.pb k.se.pm (by rw [alook_encK, hg]; rfl)).mono fun u h' ⟨_, e⟩ => ?_
    subst e
    have hde : delK P n = P := List.filter_eq_self.2 fun q hq => by simpa using getK_no hg q hq
    exact ⟨P, fun _ h => h, k, (congrArg plP hde).symm.trans (delP_pl _ _), Tn.no (.refl _ _)⟩
  · refine (del_e (k.pe hg)).mono fun u h' ⟨_, hm, hx⟩ => ?_
    rw [adel_encK] at hm
    have kk := k.turnP hx hm (fun q hq => (mem_delK hq).1)
    exact ⟨_, fun q hq => (mem_delK hq).1, kk.1, delP_pl _ _, kk.2⟩
theorem DealtS.trans {L1 : List (List UInt8 × StD)} {P1 : List (List UInt8 × ItD)} {h1 : Heap} {r : SayP} {u : Value} (t : Tn A P h h1 P1) (hL : ∀ q ∈ L1, q ∈ L) (hP : ∀ q ∈ P1, q ∈ P) (d : DealtS h1 A L1 P1 r u h') : DealtS h A L P r u h' := by
  obtain ⟨v, B, c, e, O, p, L2, P2, s1, s2, k, e1, e2, t2⟩ := d
  exact ⟨v, B, c, e, O.mono t.1.size, p, L2, P2, fun q hq => hL q (s1 q hq), fun q hq => hP q (s2 q hq), k, e1, e2, t.trans t2⟩
set_option maxHeartbeats 2000000 in
set_option maxRecDepth 100000 in
theorem query_v (k : Ss h A st sk ov cnt L P) (lm : LimP (spO st sk ov cnt L P)) (f : Fm) (hf : f.ok h) (fl : FmLim f) : CallsH Tryz.prog 51 ⟨[.pointer (some ⟨A.bs, 0, none⟩), .agg ⟨f.cells⟩]⟩ h (DealtS h A L P (queryP (spO st sk ov cnt L P) f.p)) := by
  have hcl : cnt < 1000000 := lm.c
  have hco := k.cok
  obtain ⟨⟨e1, _⟩, ⟨e2, _⟩, ⟨e3, _⟩, e4, _⟩ := hf
  obtain ⟨fl1, fl2, fl3, fl4, fl5, _⟩ := fl
  obtain ⟨fk, w, n, p, t, vo, o, vf, fs, vs, rs, vp, ps, mx⟩ := f
  dsimp only at e1 e2 e3 e4 fl1 fl2 fl3 fl4 fl5
  obtain ⟨A1, c1, rfl, _⟩ := e1
  obtain ⟨_, _, rfl, _⟩ := e2
  obtain ⟨_, _, rfl, _⟩ := e3
  obtain ⟨A4, c4, rfl, _⟩ := e4
  dsimp only [Fm.cells, Fm.p]
  have hpe : queryP (spO st sk ov cnt L P) ⟨fk, w, n, p, t, o, ps.map Cel.pl, mx⟩ = match refP t st with
      | some e => (⟨st, sk, ov, cnt, delK (plL L) [], delK (plP P) []⟩, [], some e)
      | none => if rowsB (verbP t) = true then (⟨st, sk, ov, (engP (verbP t) [] cnt).2, delK (plL L) [], delK (plP P) []⟩, descP (colN (verbP t) 0) :: rowsRep (engP (verbP t) [] cnt).1 false, none)
        else turnP ⟨st, sk, ov, cnt, delK (plL L) [], delK (plP P) []⟩ (verbP t) := rfl
  rw [hpe]
  clear hpe
  have kp := fun h' => sql_v (h := h') t (by omega)
  have kr := fun h' => rowsD_v (h := h') (verbP t)
  have kc := fun h' => columns_v (h := h') (verbP t) 0
  have kt := fun (g : Heap) (L : List (List UInt8 × StD)) (P : List (List UInt8 × ItD)) (k : Ss g A st sk ov cnt L P) => turn_v k (verbP t)
  have ke := fun (g : Heap) (cn : Int) (hb : g[A.be]? = some (.cells ⟨[.map (some A.me), In cn]⟩ 62 (0, 0))) (hc : 0 ≤ cn ∧ cn ≤ 1000000) => rows_eng hb hc (verbP t) (vp := nS) [] ⟨Rd.nil _ _, ⟨by simp, _, _, rfl, by simp [maxLen]⟩, by simp⟩
  have kre := fun (g : Heap) (L : List (List UInt8 × StD)) (P : List (List UInt8 × ItD)) (k : Ss g A st sk ov cnt L P) => refused_v k t (by omega)
  unfold VeD.cells veC at kp kr kc kt ke
  simp only [List.map_nil] at ke
  rcases hr : refP t st with _ | ⟨ra, rb⟩
  · rw [hr] at kre
    dsimp only
    cases hw : rowsB (verbP t)
    · rw [hw] at kr
      rw [if_neg (by decide)]
      refine calls [(0, _), (1, _)] Tryz.func51 rfl Tryz.ntmps51 rfl ⟨rfl, rfl, trivial⟩ ?_
      all_goals (refine WC.sr ?_; refine WL.stepR (okE_box rfl) rfl rfl rfl ?_; rintro _ h1 ⟨b3, rfl, hg1, hb1, hx1⟩; have k1 := k.ext0 hx1; refine Go ?_; refine WC.sr ?_; refine Go ?_; refine WL.step (ok_nilCheck rfl) rfl rfl rfl ?_; refine Go ?_; refine WL.ld rfl (by first | exact cell_blk k1.se.blk rfl | assumption | exact cell_blk (by assumption) rfl) rfl rfl rfl ?_; refine WL.stepR0 (ok_delete rfl keyS Tryz.underlying50 Tryz.underlying9 rfl rfl k1.se.stm) rfl rfl ?_; rintro _ h2 ⟨hm2, hx2⟩)
      all_goals (rw [adel_encK] at hm2
                 obtain ⟨k2, t2⟩ := k1.turnL hx2 hm2 (fun q hq => .inl (mem_delK hq).1)
                 have hb2 := t2.1.obj hb1 (k1.not hb1 (by decide) (by decide) (by decide)))
      all_goals (refine Gn ?_; refine Gs [(0, _), (3, _)] ?_; refine WC.sr ?_; refine Go ?_; refine WL.step (ok_nilCheck rfl) rfl rfl rfl ?_; refine Go ?_; refine WL.ld rfl (by first | exact cell_blk k2.se.blk rfl | assumption | exact cell_blk (by assumption) rfl) rfl rfl rfl ?_; refine WL.call (vs := [_, _]) rfl (fun a w => Tryz.call96 a w) rfl (del_any k2 []) rfl rfl rfl ?_; rintro _ h4 ⟨P4, sP4, k4, eP4, t4⟩; have hb4 := t4.1.obj hb2 (k2.not hb2 (by decide) (by decide) (by decide)); have T4 := ((Tn.no (A := A) (P := P) hx1).trans t2).trans t4; refine Gn ?_; refine Gs [(0, _), (3, _)] ?_; refine WC.seq ?_; refine WC.sr ?_; refine Go ?_; refine WL.ld rfl (by first | exact cell_blk hb4 rfl | assumption | exact cell_blk (by assumption) rfl) rfl rfl rfl ?_)
      all_goals (refine WL.call (vs := [_, _]) rfl (fun a w => Tryz.call78 a w) rfl (kre _ _ _ k4) rfl rfl rfl ?_
                 rintro _ h5 ⟨rfl, hx5⟩
                 dsimp only [erV]
                 have k5 := k4.ext0 hx5
                 have hb5 := hx5.obj hb4 nos
                 have T5 := T4.trans (Tn.no hx5))
      all_goals (refine Go ?_; refine Gs [(0, _), (3, _), (6, _)] ?_; refine WC.sr ?_; refine Go ?_; refine WL.step (ok_neqIn (by kernel_rfl) rfl rfl) rfl rfl rfl ?_; refine Gn ?_; refine goC 1 2 ?_ TT.mk; refine goB 2 ?_; refine WC.skip ?_; refine Gn ?_; refine WC.sr ?_; refine Go ?_; refine WL.ld rfl (by first | exact cell_blk hb5 rfl | assumption | exact cell_blk (by assumption) rfl) rfl rfl rfl ?_; refine WL.call (vs := [_]) rfl (fun a w => Tryz.call89 a w) rfl (kp _) rfl rfl rfl ?_; rintro _ h6 ⟨rfl, hx6⟩; refine WL.stepR (okE_alloc (fun w => Tryz.zeroValue152 w)) rfl rfl rfl ?_; rintro _ h7 ⟨b7, rfl, hg7, hb7, hx7⟩; refine WL.stepR0 (okE_storeW (fun w => Tryz.sizeOf152 w) rfl rfl rfl hb7 rfl (by simp [Value.oneCell'])) rfl rfl ?_; rintro _ h8 ⟨hb8, hx8⟩; have X58 : Ext No h5 h8 := hx6.trans (hx7.trans' hx8 (fun q hq e => by omega)); refine Gn ?_; refine Gs [(0, _), (7, _)] ?_; refine WC.seq ?_; refine WC.sr ?_; refine WL.step (ok_loadN (fun w => Tryz.isAgg152 w) (fun w => Tryz.sizeOf152 w) rfl rfl (by exact At.of_block hb8)) rfl rfl rfl ?_; refine WL.call (vs := [_]) rfl (fun a w => Tryz.call90 a w) rfl (kr _) rfl rfl rfl ?_; rintro _ h9 ⟨rfl, hx9⟩; have hb9 := hx9.obj hb8 nos; have k9 := k5.ext0 (X58.trans hx9); have T9 := T5.trans (Tn.no (X58.trans hx9)); refine Go ?_; refine goC 3 4 ?_ TT.mk; refine goB 3 ?_; refine WC.sr ?_; refine Go ?_; refine WL.step (ok_loadN (fun w => Tryz.isAgg152 w) (fun w => Tryz.sizeOf152 w) rfl rfl (by exact At.of_block hb9)) rfl rfl rfl ?_; refine WL.call (vs := [_, _]) rfl (fun a w => Tryz.call95 a w) rfl (kt _ _ _ k9) rfl rfl rfl ?_; rintro _ h11 ⟨v11, B11, c11, rfl, d11⟩; refine Go ?_; refine Gs [(4, _), (5, _)] ?_; refine Gt ?_)
      all_goals (have hs : spO st sk ov cnt (delK L []) P4 = ⟨st, sk, ov, cnt, delK (plL L) [], delK (plP P) []⟩ := by simp only [spO, delL_pl, eP4]
                 rw [← hs]
                 exact DealtS.trans T9 (fun q hq => (mem_delK hq).1) sP4 ⟨v11, B11, c11, rfl, d11⟩)
    · rw [hw] at kr
      rw [if_pos rfl]
      refine calls [(0, _), (1, _)] Tryz.func51 rfl Tryz.ntmps51 rfl ⟨rfl, rfl, trivial⟩ ?_
      all_goals (refine WC.sr ?_; refine WL.stepR (okE_box rfl) rfl rfl rfl ?_; rintro _ h1 ⟨b3, rfl, hg1, hb1, hx1⟩; have k1 := k.ext0 hx1; refine Go ?_; refine WC.sr ?_; refine Go ?_; refine WL.step (ok_nilCheck rfl) rfl rfl rfl ?_; refine Go ?_; refine WL.ld rfl (by first | exact cell_blk k1.se.blk rfl | assumption | exact cell_blk (by assumption) rfl) rfl rfl rfl ?_; refine WL.stepR0 (ok_delete rfl keyS Tryz.underlying50 Tryz.underlying9 rfl rfl k1.se.stm) rfl rfl ?_; rintro _ h2 ⟨hm2, hx2⟩)
      all_goals (rw [adel_encK] at hm2
                 obtain ⟨k2, t2⟩ := k1.turnL hx2 hm2 (fun q hq => .inl (mem_delK hq).1)
                 have hb2 := t2.1.obj hb1 (k1.not hb1 (by decide) (by decide) (by decide)))
      all_goals (refine Gn ?_; refine Gs [(0, _), (3, _)] ?_; refine WC.sr ?_; refine Go ?_; refine WL.step (ok_nilCheck rfl) rfl rfl rfl ?_; refine Go ?_; refine WL.ld rfl (by first | exact cell_blk k2.se.blk rfl | assumption | exact cell_blk (by assumption) rfl) rfl rfl rfl ?_; refine WL.call (vs := [_, _]) rfl (fun a w => Tryz.call96 a w) rfl (del_any k2 []) rfl rfl rfl ?_; rintro _ h4 ⟨P4, sP4, k4, eP4, t4⟩; have hb4 := t4.1.obj hb2 (k2.not hb2 (by decide) (by decide) (by decide)); have T4 := ((Tn.no (A := A) (P := P) hx1).trans t2).trans t4; refine Gn ?_; refine Gs [(0, _), (3, _)] ?_; refine WC.seq ?_; refine WC.sr ?_; refine Go ?_; refine WL.ld rfl (by first | exact cell_blk hb4 rfl | assumption | exact cell_blk (by assumption) rfl) rfl rfl rfl ?_)
      all_goals (refine WL.call (vs := [_, _]) rfl (fun a w => Tryz.call78 a w) rfl (kre _ _ _ k4) rfl rfl rfl ?_
                 rintro _ h5 ⟨rfl, hx5⟩
                 dsimp only [erV]
                 have k5 := k4.ext0 hx5
                 have hb5 := hx5.obj hb4 nos
                 have T5 := T4.trans (Tn.no hx5))
      all_goals (refine Go ?_; refine Gs [(0, _), (3, _), (6, _)] ?_; refine WC.sr ?_; refine Go ?_; refine WL.step (ok_neqIn (by kernel_rfl) rfl rfl) rfl rfl rfl ?_; refine Gn ?_; refine goC 1 2 ?_ TT.mk; refine goB 2 ?_; refine WC.skip ?_; refine Gn ?_; refine WC.sr ?_; refine Go ?_; refine WL.ld rfl (by first | exact cell_blk hb5 rfl | assumption | exact cell_blk (by assumption) rfl) rfl rfl rfl ?_; refine WL.call (vs := [_]) rfl (fun a w => Tryz.call89 a w) rfl (kp _) rfl rfl rfl ?_; rintro _ h6 ⟨rfl, hx6⟩; refine WL.stepR (okE_alloc (fun w => Tryz.zeroValue152 w)) rfl rfl rfl ?_; rintro _ h7 ⟨b7, rfl, hg7, hb7, hx7⟩; refine WL.stepR0 (okE_storeW (fun w => Tryz.sizeOf152 w) rfl rfl rfl hb7 rfl (by simp [Value.oneCell'])) rfl rfl ?_; rintro _ h8 ⟨hb8, hx8⟩; have X58 : Ext No h5 h8 := hx6.trans (hx7.trans' hx8 (fun q hq e => by omega)); refine Gn ?_; refine Gs [(0, _), (7, _)] ?_; refine WC.seq ?_; refine WC.sr ?_; refine WL.step (ok_loadN (fun w => Tryz.isAgg152 w) (fun w => Tryz.sizeOf152 w) rfl rfl (by exact At.of_block hb8)) rfl rfl rfl ?_; refine WL.call (vs := [_]) rfl (fun a w => Tryz.call90 a w) rfl (kr _) rfl rfl rfl ?_; rintro _ h9 ⟨rfl, hx9⟩; have hb9 := hx9.obj hb8 nos; have k9 := k5.ext0 (X58.trans hx9); have T9 := T5.trans (Tn.no (X58.trans hx9)); refine Go ?_; refine goC 3 4 ?_ TT.mk; refine goB 4 ?_; refine WC.skip ?_; refine Gn ?_; refine WC.sr ?_; refine WL.step (ok_loadN (fun w => Tryz.isAgg152 w) (fun w => Tryz.sizeOf152 w) rfl rfl (by exact At.of_block hb9)) rfl rfl rfl ?_; refine WL.call (vs := [_, _]) rfl (fun a w => Tryz.call98 a w) rfl (kc _) rfl rfl rfl ?_; rintro _ h10 ⟨rfl, hx10⟩; refine WL.call (vs := [_]) rfl (fun a w => Tryz.call97 a w) rfl (descr_v _) rfl rfl rfl ?_; rintro _ h11 ⟨b11, rfl, ok11, p11, f11, hx11⟩; refine WL.stepR (okE_buildSlice (vs := [_]) (cs := [_, _, _, _, _, _, _, _, _, _, _]) (fun | [.agg ⟨[a0, a1, a2, a3, a4, a5, a6, a7, a8, a9, a10]⟩] => [a0, a1, a2, a3, a4, a5, a6, a7, a8, a9, a10] | _ => []) Tryz.underlying33 rfl rfl (by kernel_rfl)) rfl rfl rfl ?_; rintro _ h12 ⟨b12, rfl, hg12, hb12, hx12⟩; have X912 := (hx10.trans hx11).trans hx12; have k12 := k9.ext0 X912; have s10 := hx10.size; have s11 := hx11.size; have O12 : Outs h9 h12 (.slice (some ⟨b12, 0, none⟩) 1 1) [b11] := .of ok11 (fun q hq => by have := f11 q hq; omega) hx12 hb12 hg12 (by omega); have hb912 := X912.obj hb9 nos; have T12 := T9.trans (Tn.no X912); (have n1 : ¬ (A.bs = A.be ∨ A.bs = b12) := fun e => e.elim (cells_ne k12.se.blk k12.se.eb (by decide)) (cells_ne k12.se.blk hb12 (by decide))); (have n2 : ¬ (b7 = A.be ∨ b7 = b12) := fun e => e.elim (cells_ne hb912 k12.se.eb (by decide)) (cells_ne hb912 hb12 (by decide))); have n3 : ¬ b12 = A.be := cells_ne hb12 k12.se.eb (by decide); refine Go ?_; refine Gs [(0, _), (7, _), (8, _)] ?_; refine WC.seq ?_; refine WC.drawH (fun h' => Ext (fun q => q = A.be ∨ q = b12) h12 h') 11 11 rfl fol ?_; refine WH.tk 0 rfl (fun hq hC => ok_move rfl) rfl rfl rfl ?_; refine WH.tk 1 rfl (fun hq hC => ok_move rfl) rfl rfl rfl ?_; refine WH.tk 2 rfl (fun hq hC => ok_nilCheck rfl) rfl rfl rfl ?_; refine WH.tk 3 rfl (fun hq hC => ok_fieldAddr rfl Tryz.underlying54 rfl (fun w => Tryz.sizeOf27 w)) rfl rfl rfl ?_)
      all_goals (refine WH.tk 4 rfl (fun hq hC => ok_load (fun w => Tryz.isAgg27 w) rfl (by first | exact hC.cell (by first | exact cell_blk k12.se.blk rfl | assumption | exact cell_blk (by assumption) rfl) n1)) rfl rfl rfl ?_; refine WH.tk 5 rfl (fun hq hC => ok_loadN (fun w => Tryz.isAgg152 w) (fun w => Tryz.sizeOf152 w) rfl rfl (by exact (At.of_block hb912).ext hC n2)) rfl rfl rfl ?_; refine WH.one 6 (by kernel_rfl) ?_; refine Comes1.call (vs := [_, _, _]) rfl rfl (fun a w => Tryz.call92 a w) rfl (ke _ _ k12.se.eb hco) rfl rfl rfl ?_ (fun _ => by kernel_rfl); rintro uR h13 ⟨LL, rL, pL, fL, hb13, hx13⟩; obtain ⟨k13, t13⟩ := k12.turnE hx13 hb13 (by unfold engP; split <;> (try split) <;> (try split) <;> dsimp only <;> omega); have hlim := rs_of pL (engP_lim _ _ (by simp)); have O13 := O12.ext' hx13 (fun q hq e => by simp only [Value.ownBlock, Option.some.injEq] at hq; omega) (fun b hb q hq e => by have := O12.bf b hb q hq; have := lt_of_some k9.se.eb; omega); refine ⟨fun _ => hx13.mono fun _ _ e => .inl e, ?_⟩; refine WH.one 7 (by kernel_rfl) ?_; refine Comes1.call (vs := [_, _]) rfl rfl (fun a w => Tryz.call93 a w) rfl (rowsS_v LL rL false hlim.1 hlim.2) rfl rfl rfl ?_ (fun _ => by kernel_rfl); rintro v14 h14 ⟨B14, O14, pB14, hx14⟩; obtain ⟨A14, c14, rfl, _⟩ := O14.own.slice; have hC14 : Ext (fun q => q = A.be ∨ q = b12) h12 h14 := (hx13.mono fun _ _ e => .inl e).trans (hx14.mono fun _ _ e => e.elim); have O13' := O13.ext0 hx14; refine ⟨fun _ => hC14, ?_⟩; refine WH.one 8 (by kernel_rfl) ?_; refine Comes1.run rfl (ok_append (sz := 11) (bytes := 168) rfl Tryz.underlying33 (show Tryz.prog.info? 42 = some Tryz.t42 by kernel_rfl) rfl rfl rfl rfl (by decide) rfl rfl O13'.own O14.own.rd (fun v hv => by obtain ⟨b, hb, hv⟩ := List.mem_flatMap.1 hv; exact (O14.ok b hb).one v hv) (by have := O14.own.len; have := congrArg List.length pB14; simp [rowsRep] at this; simp only [maxLen, List.length_singleton]; omega) (by have := congrArg List.length pB14; simp [rowsRep] at this; simp only [List.length_singleton]; omega)) rfl rfl rfl ?_ (fun _ => by kernel_rfl); rintro v15 h15 ⟨ho15, hx15, hl15⟩; refine ⟨fun _ => hC14.trans (hx15.mono fun q _ e => .inr (by simpa [Value.ownBlock] using e.symm)), ?_⟩; have hC15 : Ext (fun q => q = A.be ∨ q = b12) h12 h15 := hC14.trans (hx15.mono fun q _ e => .inr (by simpa [Value.ownBlock] using e.symm)); refine WH.tk 9 rfl (fun hq hC => ok_assign rfl) rfl rfl rfl ?_; refine WH.tk 10 rfl (fun hq hC => ok_assign rfl) rfl rfl rfl ?_; refine WH.done (by kernel_rfl) ?_; refine Gn ?_; refine Gs [(4, _), (5, _)] ?_; refine Gt ?_; have X9 : Ext (fun q => q = A.be) h9 h15 := (X912.mono (S' := fun q => q = A.be) fun _ _ e => e.elim).trans' hC15 (fun q hq e => e.elim id (fun e => by omega)); have hb15 := hx15.obj (hx14.obj hb13 nos) (fun e => n3 (by simpa [Value.ownBlock] using e)); obtain ⟨k15, t15⟩ := k9.turnE X9 hb15 k13.cok; have s12 := hx12.size; have s13 := hx13.size; have O15 := O13'.append (O14.mono (h0 := h9) (by omega)) (fun c hc z hz e => by simp only [Value.ownBlock, Option.some.injEq] at e; have := O14.bf c hc z hz; have := lt_of_some hb12; omega) (by have := hx14.size; omega) ho15 hx15 hl15; exact ⟨_, _, (fun e => absurd rfl e), rfl, O15.mono T9.1.size, by rw [List.map_append, pB14, pL, List.map_singleton, p11]; rfl, _, _, fun q hq => (mem_delK hq).1, sP4, k15, delL_pl _ _, eP4, T9.trans t15⟩)
  · rw [hr] at kre
    dsimp only
    refine calls [(0, _), (1, _)] Tryz.func51 rfl Tryz.ntmps51 rfl ⟨rfl, rfl, trivial⟩ ?_
    all_goals (refine WC.sr ?_; refine WL.stepR (okE_box rfl) rfl rfl rfl ?_; rintro _ h1 ⟨b3, rfl, hg1, hb1, hx1⟩; have k1 := k.ext0 hx1; refine Go ?_; refine WC.sr ?_; refine Go ?_; refine WL.step (ok_nilCheck rfl) rfl rfl rfl ?_; refine Go ?_; refine WL.ld rfl (by first | exact cell_blk k1.se.blk rfl | assumption | exact cell_blk (by assumption) rfl) rfl rfl rfl ?_; refine WL.stepR0 (ok_delete rfl keyS Tryz.underlying50 Tryz.underlying9 rfl rfl k1.se.stm) rfl rfl ?_; rintro _ h2 ⟨hm2, hx2⟩)
    all_goals (rw [adel_encK] at hm2
               obtain ⟨k2, t2⟩ := k1.turnL hx2 hm2 (fun q hq => .inl (mem_delK hq).1)
               have hb2 := t2.1.obj hb1 (k1.not hb1 (by decide) (by decide) (by decide)))
    all_goals (refine Gn ?_; refine Gs [(0, _), (3, _)] ?_; refine WC.sr ?_; refine Go ?_; refine WL.step (ok_nilCheck rfl) rfl rfl rfl ?_; refine Go ?_; refine WL.ld rfl (by first | exact cell_blk k2.se.blk rfl | assumption | exact cell_blk (by assumption) rfl) rfl rfl rfl ?_; refine WL.call (vs := [_, _]) rfl (fun a w => Tryz.call96 a w) rfl (del_any k2 []) rfl rfl rfl ?_; rintro _ h4 ⟨P4, sP4, k4, eP4, t4⟩; have hb4 := t4.1.obj hb2 (k2.not hb2 (by decide) (by decide) (by decide)); have T4 := ((Tn.no (A := A) (P := P) hx1).trans t2).trans t4; refine Gn ?_; refine Gs [(0, _), (3, _)] ?_; refine WC.seq ?_; refine WC.sr ?_; refine Go ?_; refine WL.ld rfl (by first | exact cell_blk hb4 rfl | assumption | exact cell_blk (by assumption) rfl) rfl rfl rfl ?_)
    all_goals (refine WL.call (vs := [_, _]) rfl (fun a w => Tryz.call78 a w) rfl (kre _ _ _ k4) rfl rfl rfl ?_
               rintro _ h5 ⟨rfl, hx5⟩
               dsimp only [erV]
               have k5 := k4.ext0 hx5
               have hb5 := hx5.obj hb4 nos
               have T5 := T4.trans (Tn.no hx5))
    all_goals (refine Go ?_; refine Gs [(0, _), (3, _), (6, _)] ?_; refine WC.sr ?_; refine Go ?_; refine WL.step (ok_neqIh (by kernel_rfl) rfl rfl) rfl rfl rfl ?_; refine Gn ?_; refine goC 1 2 ?_ TT.mk; refine goB 1 ?_; refine WC.sr ?_; refine Go ?_; refine Gs [(4, _), (5, _)] ?_; refine Gt ?_)
    all_goals (have hs : spO st sk ov cnt (delK L []) P4 = ⟨st, sk, ov, cnt, delK (plL L) [], delK (plP P) []⟩ := by simp only [spO, delL_pl, eP4]
               rw [← hs]
               exact ⟨_, [], fun _ => rfl, rfl, Outs.nil _ _, rfl, _, _, fun q hq => (mem_delK hq).1, sP4, k5, rfl, rfl, T5⟩)
end
end Go.Proofs.YtbokngiajfdanaaGreatDoor


/-
  SESSIONS (layer 30): what is said of a message that is in its place; the law's awake.
-/
namespace Go.Proofs.YtbokngiajfdanaaGreatDoor
open Go Go.RK

section
variable {h h' : Heap} {bs ms bp mp be me : Nat} {st st' : Int} {sk ov : Bool} {cnt : Int} {L P P' R : List (List UInt8 × Value)} {S : Nat → Prop}
set_option maxHeartbeats 2000000 in
set_option maxRecDepth 100000 in
theorem as_none {h : Heap} (t : Value) : CallsH Tryz.prog 24 ⟨[.nilIface, t]⟩ h fun u h' => u = .bool false ∧ h' = h := by
  refine calls [(0, _), (1, _)] Tryz.func24 rfl Tryz.ntmps24 rfl ⟨rfl, rfl, trivial⟩ ?_
  all_goals (refine WC.sr ?_; refine Go ?_; refine WC.seq ?_; refine WC.sr ?_; refine Go ?_; refine WL.step (ok_eqlIn (by kernel_rfl) rfl rfl) rfl rfl rfl ?_; refine Gn ?_; refine goC 1 2 ?_ TT.mk; refine goB 1 ?_; refine WC.sr ?_; refine Go ?_; refine Gs [(4, _)] ?_; refine Gt ?_; exact ⟨rfl, rfl⟩)
set_option maxHeartbeats 2000000 in
set_option maxRecDepth 100000 in
theorem sync_v (hst : st ≠ 73) (k : Se h bs ms bp mp be me st sk ov cnt L P R) : CallsH Tryz.prog 22 ⟨[.pointer (some ⟨bs, 0, none⟩)]⟩ h fun u h' => u = .agg ⟨bkC 90 st []⟩ ∧ Ext No h h' := by
  have hb := k.blk
  refine calls [(0, _)] Tryz.func22 rfl Tryz.ntmps22 rfl ⟨rfl, trivial⟩ ?_
  all_goals (refine WC.sr ?_; refine WL.stepR (okE_alloc (fun w => Tryz.zeroValue42 w)) rfl rfl rfl ?_; rintro _ h1 ⟨b2, rfl, hg1, hb2, hx1⟩; refine Gn ?_; refine WC.seq ?_; refine WC.sr ?_; refine Go ?_; refine WL.step (ok_nilCheck rfl) rfl rfl rfl ?_; refine Go ?_; refine WL.ld rfl (by first | exact cell_blk (hx1.obj hb nos) rfl | assumption | exact cell_blk (by assumption) rfl) rfl rfl rfl ?_; refine Go ?_; refine Gs [(0, _), (2, _), (7, _)] ?_; refine goC 1 2 ?_ TT.mk; refine goB 2 ?_; refine WC.skip ?_; refine Gn ?_; refine WC.sr ?_; refine Go ?_; refine WL.step (ok_nilCheck rfl) rfl rfl rfl ?_; refine Go ?_; refine WL.ld rfl (by first | exact cell_blk (hx1.obj hb nos) rfl | assumption | exact cell_blk (by assumption) rfl) rfl rfl rfl ?_; refine WL.step (ok_buildF (vs := [_, _]) (cs := [_, _, _, _, _, _, _, _, _, _, _]) (fun | [a0, a1] => [a0, a1, (St []), (St []), (St []), (.int .i64 0), (.int .i64 0), (.slice none 0 0), (.slice none 0 0), (.slice none 0 0), (.slice none 0 0)] | _ => []) rfl rfl (by kernel_rfl)) rfl rfl rfl ?_; refine WL.stepR0 (okE_storeW (fun w => Tryz.sizeOf42 w) rfl rfl rfl hb2 rfl (by simp [Value.oneCell'])) rfl rfl ?_; rintro _ h3 ⟨hb3, hx3⟩; refine Gn ?_; refine Gs [(2, _)] ?_; refine WC.ret ?_; repeat' (with_reducible first | refine thenP_r ?_ | refine blockP_r ?_))
  all_goals (refine retP_1 _ ⟨⟨_, rfl, ld_blk (fun w => Tryz.isAgg42 w) (fun w => Tryz.sizeOf42 w) hb3 rfl⟩, trivial⟩ ?_; exact ⟨rfl, hx1.trans' hx3 (fun q hq e => by omega)⟩)
set_option maxHeartbeats 2000000 in
set_option maxRecDepth 100000 in
/-- A Z. -/
theorem do_sync (hst : st ≠ 73) (k : Se h bs ms bp mp be me st sk false cnt L P R) : CallsH Tryz.prog 9 ⟨[.pointer (some ⟨bs, 0, none⟩), .agg ⟨[.int .u8 83, .int .u8 0, St [], St [], St [], nS, nS, nS, nS, In 0]⟩]⟩ h fun u h' =>
    ∃ q, u = .slice (some ⟨q, 0, none⟩) 1 1 ∧ h'[q]? = some (.cells ⟨bkC 90 st []⟩ 42 (0, 0)) ∧ Se h' bs ms bp mp be me st false false cnt L P R ∧ Ext (fun q => q = bs) h h' := by
  have kr := fun (g : Heap) (k : Se g bs ms bp mp be me st sk false cnt L P R) => ready_yes k.blk
  have ks := fun (g : Heap) (k : Se g bs ms bp mp be me st false false cnt L P R) => sync_v hst k
  unfold bkC at *
  refine calls [(0, _), (1, _)] Tryz.func9 rfl Tryz.ntmps9 rfl ⟨rfl, rfl, trivial⟩ ?_
  all_goals (refine WC.sr ?_; refine WL.stepR (okE_box rfl) rfl rfl rfl ?_; rintro _ h1 ⟨b3, rfl, hg1, hb1, hx1⟩; have k1 := k.ext0 hx1; have hb := k1.blk; have lb := lt_of_some k.blk; (have n3 : ¬ b3 = bs := by omega); refine Go ?_; refine WC.seq ?_; refine WC.sr ?_; refine Go ?_; refine WL.call (vs := [_]) rfl (fun a w => Tryz.call21 a w) rfl (kr _ k1) rfl rfl rfl ?_; rintro _ hz ⟨rfl, _⟩; subst hz; refine Go ?_; refine Gs [(0, _), (3, _), (10, _)] ?_; refine goC 1 2 ?_ TT.mk; refine goB 2 ?_; refine WC.skip ?_; refine Gn ?_; refine WC.seq ?_; refine WC.block ?_; refine WC.sr ?_; refine Go ?_; refine WL.ld rfl (by first | exact cell_blk hb1 rfl | assumption | exact cell_blk (by assumption) rfl) rfl rfl rfl ?_; refine Go ?_; refine Gs [(0, _), (3, _), (11, _)] ?_; refine goC 3 4 ?_ TT.mk; refine goB 4 ?_; refine WC.sr ?_; refine Go ?_; refine WL.ld rfl (by first | exact cell_blk hb1 rfl | assumption | exact cell_blk (by assumption) rfl) rfl rfl rfl ?_; refine Go ?_; refine Gs [(0, _), (3, _), (18, _)] ?_; refine goC 5 6 ?_ TT.mk; refine goB 5 ?_; refine WC.sr ?_; refine Go ?_; refine WL.step (ok_nilCheck rfl) rfl rfl rfl ?_; refine Go ?_; refine WL.stepR0 (okE_store (fun w => Tryz.sizeOf4 w) rfl rfl hb (Nat.le_of_ble_eq_true rfl) rfl rfl) rfl rfl ?_; rintro _ h2 ⟨hb2, hx2⟩; have k2 := k1.turnS hx2 hb2; refine Gn ?_; refine Gs [(0, _)] ?_; refine WC.sr ?_; refine Go ?_; refine WL.call (vs := [_]) rfl (fun a w => Tryz.call22 a w) rfl (ks _ k2) rfl rfl rfl ?_; rintro _ h3 ⟨rfl, hx3⟩; refine WL.stepR (okE_buildSlice (vs := [_]) (cs := [_, _, _, _, _, _, _, _, _, _, _]) (fun | [.agg ⟨[a0, a1, a2, a3, a4, a5, a6, a7, a8, a9, a10]⟩] => [a0, a1, a2, a3, a4, a5, a6, a7, a8, a9, a10] | _ => []) Tryz.underlying33 rfl rfl (by kernel_rfl)) rfl rfl rfl ?_; rintro _ h4 ⟨b4, rfl, hg4, hb4, hx4⟩; refine Go ?_; refine Gs [(4, _)] ?_; refine Gt ?_; exact ⟨b4, rfl, hb4, (k2.ext0 hx3).ext0 hx4, (((hx1.mono fun _ _ e => e.elim).trans hx2).trans (hx3.mono fun _ _ e => e.elim)).trans (hx4.mono fun _ _ e => e.elim)⟩)
/-- What deal gives where nothing is wrong. -/
def Fine (h : Heap) (S : Nat → Prop) (Φ : Value → Heap → Prop) (u : Value) (h' : Heap) : Prop := ∃ A n c, u = .tuple ⟨[.slice A n c, .nilIface]⟩ ∧ Φ (.slice A n c) h' ∧ Kf h h' ∧ Ext S h h'
set_option maxHeartbeats 2000000 in
set_option maxRecDepth 100000 in
theorem deal_ok {u : Value} {f : Fm} {Φ : Value → Heap → Prop} (hf : f.ok h) (hk : (f.kind = 80 ∧ ∀ g, Ext No h g → CallsH Tryz.prog 46 ⟨[u, .agg ⟨f.cells⟩]⟩ g (Fine g S Φ)) ∨ (f.kind = 66 ∧ ∀ g, Ext No h g → CallsH Tryz.prog 47 ⟨[u, .agg ⟨f.cells⟩]⟩ g (Fine g S Φ)) ∨ (f.kind = 69 ∧ ∀ g, Ext No h g → CallsH Tryz.prog 49 ⟨[u, .agg ⟨f.cells⟩]⟩ g (Fine g S Φ))) :
    CallsH Tryz.prog 23 ⟨[u, .agg ⟨f.cells⟩]⟩ h (Fine h S Φ) := by
  obtain ⟨⟨e1, _⟩, ⟨e2, _⟩, ⟨e3, _⟩, e4, _⟩ := hf
  obtain ⟨fk, w, n, p, t, vo, o, vf, fs, vs, rs, vp, ps, mx⟩ := f
  dsimp only at e1 e2 e3 e4 hk
  obtain ⟨_, _, rfl, _⟩ := e1
  obtain ⟨_, _, rfl, _⟩ := e2
  obtain ⟨_, _, rfl, _⟩ := e3
  obtain ⟨_, _, rfl, _⟩ := e4
  dsimp only [Fm.cells] at hk ⊢
  rcases hk with ⟨rfl, kp⟩ | ⟨rfl, kp⟩ | ⟨rfl, kp⟩
  all_goals
    refine calls [(0, _), (1, _)] Tryz.func23 rfl Tryz.ntmps23 rfl ⟨rfl, rfl, trivial⟩ ?_
    all_goals (refine WC.sr ?_; refine WL.stepR (okE_box rfl) rfl rfl rfl ?_; rintro _ h1 ⟨b3, rfl, hg1, hb1, hx1⟩; refine Go ?_; refine WC.seq ?_; refine WC.sr ?_; refine Go ?_; refine WL.ld rfl (by first | exact cell_blk hb1 rfl | assumption | exact cell_blk (by assumption) rfl) rfl rfl rfl ?_; refine Gn ?_; refine Gs [(0, _), (3, _), (7, _)] ?_; refine WC.block ?_; refine WC.sr ?_; refine Go ?_; refine goC 1 2 ?_ TT.mk)
    all_goals (first | (fail_if_success refine goB 1 ?_) | (
    refine goB 1 ?_
    all_goals (refine WC.sr ?_; refine Go ?_; refine WL.step (ok_loadN (fun w => Tryz.isAgg32 w) (fun w => Tryz.sizeOf32 w) rfl rfl (by exact At.of_block hb1)) rfl rfl rfl ?_; refine WL.call (vs := [_, _]) rfl (fun a w => Tryz.call46 a w) rfl (kp _ hx1) rfl rfl rfl ?_; rintro _ h2 ⟨A, m, c, rfl, hΦ, hK, hE⟩; refine Go ?_; refine Gs [(4, _), (5, _)] ?_; refine Gt ?_; exact ⟨A, m, c, rfl, hΦ, (kf_no hx1).trans hK, (hx1.mono fun _ _ e => e.elim).trans hE⟩)
    skip))
    all_goals (refine goB 2 ?_; refine WC.sr ?_; refine Go ?_; refine goC 3 4 ?_ TT.mk)
    all_goals (first | (fail_if_success refine goB 3 ?_) | (
    refine goB 3 ?_
    all_goals (refine WC.sr ?_; refine Go ?_; refine WL.step (ok_loadN (fun w => Tryz.isAgg32 w) (fun w => Tryz.sizeOf32 w) rfl rfl (by exact At.of_block hb1)) rfl rfl rfl ?_; refine WL.call (vs := [_, _]) rfl (fun a w => Tryz.call47 a w) rfl (kp _ hx1) rfl rfl rfl ?_; rintro _ h2 ⟨A, m, c, rfl, hΦ, hK, hE⟩; refine Go ?_; refine Gs [(4, _), (5, _)] ?_; refine Gt ?_; exact ⟨A, m, c, rfl, hΦ, (kf_no hx1).trans hK, (hx1.mono fun _ _ e => e.elim).trans hE⟩)
    skip))
    all_goals (refine goB 4 ?_; refine WC.sr ?_; refine Go ?_; refine Gs [(0, _), (3, _), (7, _), (22, _)] ?_; refine goC 5 6 ?_ TT.mk; refine goB 6 ?_; refine WC.sr ?_; refine Go ?_; refine goC 7 8 ?_ TT.mk; refine goB 7 ?_; refine WC.sr ?_; refine Go ?_; refine WL.step (ok_loadN (fun w => Tryz.isAgg32 w) (fun w => Tryz.sizeOf32 w) rfl rfl (by exact At.of_block hb1)) rfl rfl rfl ?_; refine WL.call (vs := [_, _]) rfl (fun a w => Tryz.call49 a w) rfl (kp _ hx1) rfl rfl rfl ?_; rintro _ h2 ⟨A, m, c, rfl, hΦ, hK, hE⟩; refine Go ?_; refine Gs [(4, _), (5, _)] ?_; refine Gt ?_; exact ⟨A, m, c, rfl, hΦ, (kf_no hx1).trans hK, (hx1.mono fun _ _ e => e.elim).trans hE⟩)
set_option maxHeartbeats 2000000 in
set_option maxRecDepth 100000 in
theorem do_ok {f : Fm} {Φ : Value → Heap → Prop} (hf : f.ok h) (hk : f.kind ≠ 88 ∧ f.kind ≠ 83 ∧ f.kind ≠ 81) (k : Se h bs ms bp mp be me st false false cnt L P R) (hΦ : ∀ v g g', Φ v g → Ext No g g' → Φ v g')
    (kd : ∀ g, Ext No h g → CallsH Tryz.prog 23 ⟨[.pointer (some ⟨bs, 0, none⟩), .agg ⟨f.cells⟩]⟩ g (Fine g S Φ)) :
    CallsH Tryz.prog 9 ⟨[.pointer (some ⟨bs, 0, none⟩), .agg ⟨f.cells⟩]⟩ h fun u h' => Φ u h' ∧ Ext S h h' := by
  have kr := fun (g : Heap) (k : Se g bs ms bp mp be me st false false cnt L P R) => ready_yes k.blk
  obtain ⟨⟨e1, _⟩, ⟨e2, _⟩, ⟨e3, _⟩, e4, _⟩ := hf
  obtain ⟨fk, w, n, p, t, vo, o, vf, fs, vs, rs, vp, ps, mx⟩ := f
  dsimp only at e1 e2 e3 e4 hk
  obtain ⟨_, _, rfl, _⟩ := e1
  obtain ⟨_, _, rfl, _⟩ := e2
  obtain ⟨_, _, rfl, _⟩ := e3
  obtain ⟨_, _, rfl, _⟩ := e4
  obtain ⟨k1, k2, k3⟩ := hk
  dsimp only [Fm.cells] at kd ⊢
  refine calls [(0, _), (1, _)] Tryz.func9 rfl Tryz.ntmps9 rfl ⟨rfl, rfl, trivial⟩ ?_
  all_goals (refine WC.sr ?_; refine WL.stepR (okE_box rfl) rfl rfl rfl ?_; rintro _ h1 ⟨b3, rfl, hg1, hb1, hx1⟩; have kk := k.ext0 hx1; have hb := kk.blk; refine Go ?_; refine WC.seq ?_; refine WC.sr ?_; refine Go ?_; refine WL.call (vs := [_]) rfl (fun a w => Tryz.call21 a w) rfl (kr _ kk) rfl rfl rfl ?_; rintro _ hz ⟨rfl, _⟩; subst hz; refine Go ?_; refine Gs [(0, _), (3, _), (10, _)] ?_; refine goC 1 2 ?_ TT.mk; refine goB 2 ?_; refine WC.skip ?_; refine Gn ?_; refine WC.seq ?_; refine WC.block ?_; refine WC.sr ?_; refine Go ?_; refine WL.ld rfl (by first | exact cell_blk hb1 rfl | assumption | exact cell_blk (by assumption) rfl) rfl rfl rfl ?_; refine Go ?_; refine Gs [(0, _), (3, _), (11, _)] ?_; refine goC 3 4 ?_ TT.mk; refine goB 4 ?_; refine WC.sr ?_; refine Go ?_; refine WL.ld rfl (by first | exact cell_blk hb1 rfl | assumption | exact cell_blk (by assumption) rfl) rfl rfl rfl ?_; refine Go ?_; refine Gs [(0, _), (3, _), (18, _)] ?_; refine goC 5 6 ?_ TT.mk; refine goB 6 ?_; refine WC.sr ?_; refine Go ?_; refine WL.step (ok_nilCheck rfl) rfl rfl rfl ?_; refine Go ?_; refine WL.ld rfl (by first | exact cell_blk hb rfl | assumption | exact cell_blk (by assumption) rfl) rfl rfl rfl ?_; refine Go ?_; refine Gs [(0, _), (3, _), (28, _)] ?_; refine goC 7 8 ?_ TT.mk; refine goB 8 ?_; refine WC.skip ?_; refine Gn ?_; refine WC.sr ?_; refine Go ?_; refine WL.step (ok_loadN (fun w => Tryz.isAgg32 w) (fun w => Tryz.sizeOf32 w) rfl rfl (by exact At.of_block hb1)) rfl rfl rfl ?_; refine WL.call (vs := [_, _]) rfl (fun a w => Tryz.call23 a w) rfl (kd _ hx1) rfl rfl rfl ?_; rintro _ h2 ⟨A, m, c, rfl, hphi, hK, hE⟩; have hb2 := hK _ _ hb1; refine Go ?_; refine Gs [(0, _), (3, _), (5, _), (6, _)] ?_; refine WC.sr ?_; refine WL.stepR (okE_alloc (fun w => Tryz.zeroValue69 w)) rfl rfl rfl ?_; rintro _ h3 ⟨b7, rfl, hg3, hb3, hx3⟩; refine Gn ?_; refine WC.seq ?_; refine WC.sr ?_; refine Go ?_; refine WL.step (ok_mkIface ⟨_, Tryz.underlying71, fun _ h => by cases h⟩ rfl) rfl rfl rfl ?_; refine WL.call (vs := [_, _]) rfl (fun a w => Tryz.call24 a w) rfl (as_none _) rfl rfl rfl ?_; rintro _ hz ⟨rfl, _⟩; subst hz; refine Gn ?_; refine goC 9 10 ?_ TT.mk; refine goB 10 ?_; refine WC.skip ?_; refine Gn ?_; refine WC.seq ?_; refine WC.sr ?_; refine Go ?_; refine WL.ld rfl (by first | exact cell_blk (hx3.obj hb2 nos) rfl | assumption | exact cell_blk (by assumption) rfl) rfl rfl rfl ?_; refine Go ?_; refine Gs [(0, _), (5, _), (56, _)] ?_; refine goC 11 12 ?_ TT.mk; refine goB 12 ?_; refine WC.skip ?_; refine Gn ?_; refine WC.sr ?_; refine Go ?_; refine Gs [(4, _)] ?_; refine Gt ?_; first | exact ⟨hΦ _ _ _ hphi hx3, ((hx1.mono fun _ _ e => e.elim).trans hE).trans (hx3.mono fun _ _ e => e.elim)⟩ | (exfalso; first | omega | simp_all))
end
end Go.Proofs.YtbokngiajfdanaaGreatDoor


/-
  SESSIONS (layer 30): the law's awake.
-/
namespace Go.Proofs.YtbokngiajfdanaaGreatDoor
open Go Go.RK

theorem get_str {l : List (List UInt8)} {k : Nat} {y : List UInt8} (hk : l[k]? = some y) : (l.map St)[k]? = some (St y) := by simp [hk]
set_option maxHeartbeats 2000000 in
set_option maxRecDepth 100000 in
theorem equal_str {h : Heap} {v w : Value} (l m : List (List UInt8)) (hr : Rd h v 1 l.length (l.map St)) (hs : Rd h w 1 m.length (m.map St)) (hm : l.length ≤ 1000000) (hmm : m.length ≤ 1000000) :
    CallsH Tryz.prog 14 ⟨[v, w]⟩ h fun u h' => u = .bool (decide (l = m)) ∧ h' = h := by
  obtain ⟨A, c, rfl, _⟩ := id hr
  obtain ⟨B, d, rfl, _⟩ := id hs
  refine calls [(0, _), (1, _)] Tryz.func14 rfl Tryz.ntmps14 rfl ⟨rfl, rfl, trivial⟩ ?_
  all_goals (refine WC.sr ?_; refine Go ?_; refine WC.seq ?_; refine WC.sr ?_; refine Go ?_; refine Gs [(0, _), (1, _), (10, _)] ?_; refine goC 1 2 (Hb.mk fun hb => ?_) (Hb.mk fun hb => ?_))
  all_goals (first | (fail_if_success refine goB 1 ?_) | (
  refine goB 1 ?_
  all_goals (refine WC.sr ?_; refine Go ?_; refine Gt ?_)
  all_goals (first
              | exact ⟨by rw [decide_eq_false (fun e => by subst e; omega)], rfl⟩
              | exact ⟨by rw [decide_eq_false (fun e => hyz (by subst e; rw [hy] at hz; exact Option.some.inj hz))], rfl⟩
              | exact ⟨by rw [decide_eq_true (by rw [List.take_of_length_le (by omega), List.take_of_length_le (by omega)] at hn; exact hn)], rfl⟩)
  skip))
  all_goals (refine goB 2 ?_; refine WC.skip ?_; refine Gn ?_; refine WC.seq ?_; refine WC.sr ?_; refine Go ?_; refine WC.block ?_)
  -- loop 0: slots that turn [13], that stay [0, 1, 12]
  all_goals (refine WC.loopG (X := Nat) (fun x => ([(13, In (x : Int))] : Fr)) [(0, _), (1, _), (12, _)] (fun k h' => h' = h ∧ k ≤ l.length ∧ l.length = m.length ∧ l.take k = m.take k) (fun k => l.length - k) (0) ⟨rfl, rfl, rfl, rfl, trivial⟩ (by exact ⟨rfl, Nat.zero_le _, by omega, by simp⟩) ?_; rintro k h1 ⟨hz, hk, hlm, hn⟩; subst hz; refine WC.sub [(13, _), (0, _), (1, _), (12, _)] ⟨rfl, rfl, rfl, rfl, trivial⟩ ?_; refine WC.sr ?_; refine Go ?_; refine WC.seq ?_; refine goC 3 4 (Hb.mk fun hb => ?_) (Hb.mk fun hb => ?_))
  all_goals (first | (fail_if_success refine goB 3 ?_) | (
  refine goB 3 ?_
  all_goals (refine WC.skip ?_)
  skip))
  all_goals (first | (fail_if_success refine goB 4 ?_) | (
  refine goB 4 ?_
  all_goals (refine WC.exit ?_; repeat' (with_reducible first | refine thenP_x ?_ | refine blockP_miss rfl ?_ | refine blockP_hit ?_ | refine blockP_n ?_ | refine thenP_n ?_))
  all_goals (refine Br.out (i := 1000) ?_)
  skip))
  all_goals (refine Gn ?_; first | (refine Br.keep ?_) | (refine WC.seq ?_))
  all_goals (first | (refine Br.keep ?_) | (refine WC.block ?_))
  all_goals (first | (refine Br.keep ?_) | (refine WC.sr ?_))
  all_goals (first
               | (refine Br.keep ?_)
               | (obtain ⟨bL, oL, hA, hbL, hat⟩ := Rd.at_ hr (by omega)
                  obtain ⟨bM, oM, hB, hbM, hbt⟩ := Rd.at_ hs (by omega)
                  obtain ⟨y, hy⟩ : ∃ y, l[k]? = some y := ⟨_, List.getElem?_eq_getElem (by omega)⟩
                  obtain ⟨z, hz⟩ : ∃ z, m[k]? = some z := ⟨_, List.getElem?_eq_getElem (by omega)⟩
                  have hc1 := hat.get (p := oL + k * 1) k (get_str hy) (by omega)
                  have hc2 := hbt.get (p := oM + k * 1) k (get_str hz) (by omega)
                  by_cases hyz : y = z))
  all_goals (first | (refine Br.keep ?_) | (refine WL.step (ok_move rfl) rfl rfl rfl ?_))
  all_goals (refine Go ?_; first | (refine Br.keep ?_) | (refine WC.seq ?_))
  all_goals (first | (refine Br.keep ?_) | (refine WC.drawE fol (by kernel_rfl) ?_))
  all_goals (first | (refine Br.keep ?_) | (refine WQ.stepE (ok_move rfl) rfl rfl rfl ?_))
  all_goals (first | (refine Br.keep ?_) | (refine WQ.stepE (ok_move rfl) rfl rfl rfl ?_))
  all_goals (first | (refine Br.keep ?_) | (refine WQ.stepE (ok_idxAddrA Tryz.underlying35 (fun w => Tryz.sizeOf9 w) rfl rfl rfl (by omega) (by first | rfl | assumption)) rfl rfl rfl ?_))
  all_goals (first | (refine Br.keep ?_) | (refine WQ.stepE (ok_load (fun w => Tryz.isAgg9 w) rfl (by first | exact hc1 | assumption | exact cell_blk (by assumption) rfl)) rfl rfl rfl ?_))
  all_goals (first | (refine Br.keep ?_) | (refine WQ.stepE (ok_move rfl) rfl rfl rfl ?_))
  all_goals (first | (refine Br.keep ?_) | (refine WQ.stepE (ok_move rfl) rfl rfl rfl ?_))
  all_goals (first | (refine Br.keep ?_) | (refine WQ.stepE (ok_idxAddrA Tryz.underlying35 (fun w => Tryz.sizeOf9 w) rfl rfl rfl (by omega) (by first | rfl | assumption)) rfl rfl rfl ?_))
  all_goals (first | (refine Br.keep ?_) | (refine WQ.stepE (ok_load (fun w => Tryz.isAgg9 w) rfl (by first | exact hc2 | assumption | exact cell_blk (by assumption) rfl)) rfl rfl rfl ?_))
  all_goals (first | (refine Br.keep ?_) | (first | (refine WQ.stepE (OkP.nbool_f (by first | rfl | assumption | decide) (ok_neqS rfl rfl)) rfl rfl rfl ?_) | (refine WQ.stepE (OkP.nbool_t (by first | assumption | decide) (ok_neqS rfl rfl)) rfl rfl rfl ?_)))
  all_goals (first | (refine Br.keep ?_) | (refine WQ.nil ?_))
  all_goals (refine Gn ?_; first | (refine Br.keep ?_) | (refine Gs [(0, _), (1, _), (12, _), (13, _), (24, _)] ?_))
  all_goals (first | (refine Br.keep ?_) | (refine goC 5 6 ?_ TT.mk))
  all_goals (first | (fail_if_success refine goB 5 ?_) | (
  refine goB 5 ?_
  all_goals (refine WC.sr ?_; refine Go ?_; refine Gs [(4, _)] ?_; refine Gt ?_)
  all_goals (first
              | exact ⟨by rw [decide_eq_false (fun e => by subst e; omega)], rfl⟩
              | exact ⟨by rw [decide_eq_false (fun e => hyz (by subst e; rw [hy] at hz; exact Option.some.inj hz))], rfl⟩
              | exact ⟨by rw [decide_eq_true (by rw [List.take_of_length_le (by omega), List.take_of_length_le (by omega)] at hn; exact hn)], rfl⟩)
  skip))
  all_goals (first | (fail_if_success refine goB 6 ?_) | (
  refine goB 6 ?_
  all_goals (refine WC.skip ?_)
  skip))
  all_goals (refine Gn ?_; first | (refine Br.keep ?_) | (refine WC.region ?_))
  all_goals (refine Go ?_; first | (refine Br.keep ?_) | (exact ⟨k + 1, ⟨rfl, rfl, rfl, rfl, trivial⟩, (by exact ⟨rfl, by omega, hlm, by rw [List.take_add_one, List.take_add_one, hn, hy, hz, hyz]⟩), (by omega)⟩))
  all_goals (try (refine Br.mk (i := 1000) ?_))
  all_goals (refine Gn ?_; refine Gs [] ?_; refine WC.sr ?_; refine Go ?_; refine Gt ?_)
  all_goals (first
              | exact ⟨by rw [decide_eq_false (fun e => by subst e; omega)], rfl⟩
              | exact ⟨by rw [decide_eq_false (fun e => hyz (by subst e; rw [hy] at hz; exact Option.some.inj hz))], rfl⟩
              | exact ⟨by rw [decide_eq_true (by rw [List.take_of_length_le (by omega), List.take_of_length_le (by omega)] at hn; exact hn)], rfl⟩)
def fmP : Fm := ⟨80, 0, ([97] : List UInt8), [], beginL, .slice none 0 0, [], .slice none 0 0, [], .slice none 0 0, [], .slice none 0 0, [], 0⟩
def fmB : Fm := ⟨66, 0, ([97] : List UInt8), [], [], .slice none 0 0, [], .slice none 0 0, [], .slice none 0 0, [], .slice none 0 0, [], 0⟩
def fmE : Fm := ⟨69, 0, [], [], [], .slice none 0 0, [], .slice none 0 0, [], .slice none 0 0, [], .slice none 0 0, [], 0⟩
theorem fm0_ok {k w : Int} {n p t : List UInt8} {mx : Int} (h : Heap) : (⟨k, w, n, p, t, .slice none 0 0, [], .slice none 0 0, [], .slice none 0 0, [], .slice none 0 0, [], mx⟩ : Fm).ok h := ⟨⟨Rd.nil _ _, by simp [maxLen]⟩, ⟨Rd.nil _ _, by simp [maxLen]⟩, ⟨Rd.nil _ _, by simp [maxLen]⟩, cels_zero h _⟩
section
variable {h h' : Heap} {bs ms bp mp be me : Nat} {st st' : Int} {sk ov : Bool} {cnt : Int} {L P P' R : List (List UInt8 × Value)} {S : Nat → Prop}
abbrev L1 : List (List UInt8 × Value) := [(([97] : List UInt8), .agg ⟨[St beginL, nS]⟩)]
theorem do_P (k : Se h bs ms bp mp be me 73 false false cnt [] P []) : CallsH Tryz.prog 9 ⟨[.pointer (some ⟨bs, 0, none⟩), .agg ⟨fmP.cells⟩]⟩ h fun _ h' => Se h' bs ms bp mp be me 73 false false cnt L1 P [] ∧ Ext (fun q => q = ms) h h' :=
  do_ok (Φ := fun _ g => Se g bs ms bp mp be me 73 false false cnt L1 P []) (fm0_ok h) (by decide) k (fun _ _ _ s x => s.ext0 x) fun g x => deal_ok (fm0_ok g) (.inl ⟨rfl, fun g' y => (parse_s (by decide) ((k.ext0 x).ext0 y)).mono fun u h' ⟨A, m, c, e, s, kf⟩ => ⟨A, m, c, e, s, kf⟩⟩)
theorem do_B (k : Se h bs ms bp mp be me 73 false false cnt L1 [] R) : CallsH Tryz.prog 9 ⟨[.pointer (some ⟨bs, 0, none⟩), .agg ⟨fmB.cells⟩]⟩ h fun _ h' => (∃ p d, Se h' bs ms bp mp be me 73 false false cnt L1 [([], .pointer (some ⟨p, 0, none⟩))] R ∧ h'[p]? = some (.cells ⟨PD.cells d⟩ 147 (0, 0)) ∧ d.ok h' ∧ d.pl = pB ∧ (∀ q, d.F q → q ≠ p) ∧ h.size ≤ p) ∧ Ext (fun q => q = mp) h h' :=
  do_ok (Φ := fun _ g => ∃ p d, Se g bs ms bp mp be me 73 false false cnt L1 [([], .pointer (some ⟨p, 0, none⟩))] R ∧ g[p]? = some (.cells ⟨PD.cells d⟩ 147 (0, 0)) ∧ d.ok g ∧ d.pl = pB ∧ (∀ q, d.F q → q ≠ p) ∧ h.size ≤ p) (fm0_ok h) (by decide) k
    (fun _ _ _ ⟨p, d, s, a, b, c, e⟩ x => ⟨p, d, s.ext0 x, x.obj a nos, b.ext x (fun _ _ => nos), c, e⟩) fun g x => deal_ok (fm0_ok g) (.inr (.inl ⟨rfl, fun g' y => (bind_s (by decide) rfl ((k.ext0 x).ext0 y)).mono fun u h' ⟨A, m, c, p, d, e, s, a, b, c1, f, kf, z, l⟩ => ⟨A, m, c, e, ⟨p, d, s, a, b, c1, f, by have := x.size; have := y.size; omega⟩, kf, z⟩⟩))
theorem do_E {p : Nat} {d : PD} (k : Se h bs ms bp mp be me 73 false false cnt L [([], .pointer (some ⟨p, 0, none⟩))] R) (hp : h[p]? = some (.cells ⟨PD.cells d⟩ 147 (0, 0))) (ok : d.ok h) (pl : d.pl = pB) (ap : ∀ q, d.F q → q ≠ p) :
    CallsH Tryz.prog 9 ⟨[.pointer (some ⟨bs, 0, none⟩), .agg ⟨fmE.cells⟩]⟩ h fun u h' => (∃ q, u = .slice (some ⟨q, 0, none⟩) 1 1 ∧ h'[q]? = some (.cells ⟨bkC 67 0 ([66, 69, 71, 73, 78] : List UInt8)⟩ 42 (0, 0)) ∧ Se h' bs ms bp mp be me 84 false false cnt L [([], .pointer (some ⟨p, 0, none⟩))] R) ∧ Ext (fun q => q = bs ∨ q = p) h h' :=
  do_ok (Φ := fun u g => ∃ q, u = .slice (some ⟨q, 0, none⟩) 1 1 ∧ g[q]? = some (.cells ⟨bkC 67 0 ([66, 69, 71, 73, 78] : List UInt8)⟩ 42 (0, 0)) ∧ Se g bs ms bp mp be me 84 false false cnt L [([], .pointer (some ⟨p, 0, none⟩))] R) (fm0_ok h) (by decide) k
    (fun _ _ _ ⟨q, e, a, s⟩ x => ⟨q, e, x.obj a nos, s.ext0 x⟩) fun g x => deal_ok (fm0_ok g) (.inr (.inr ⟨rfl, fun g' y => (execute_s ((k.ext0 x).ext0 y) (y.obj (x.obj hp nos) nos) ((ok.ext x (fun _ _ => nos)).ext y (fun _ _ => nos)) pl ap).mono fun u h' ⟨q, e, a, s, kf, z⟩ => ⟨_, _, _, e, ⟨q, rfl, a, s⟩, kf, z⟩⟩))
end
set_option maxHeartbeats 4000000 in
set_option maxRecDepth 100000 in
theorem awake30 {h : Heap} : CallsH Tryz.prog 6 ⟨[]⟩ h fun u h' => u = .bool true ∧ Ext No h h' := by
  have kP := fun (g : Heap) (bs ms bp mp be me : Nat) (k : Se g bs ms bp mp be me 73 false false 0 [] [] []) => do_P k
  have kB := fun (g : Heap) (bs ms bp mp be me : Nat) (k : Se g bs ms bp mp be me 73 false false 0 L1 [] []) => do_B k
  have kE := fun (g : Heap) (bs ms bp mp be me p : Nat) (d : PD) (k : Se g bs ms bp mp be me 73 false false 0 L1 [([], .pointer (some ⟨p, 0, none⟩))] []) (hp : g[p]? = some (.cells ⟨PD.cells d⟩ 147 (0, 0))) => do_E k hp
  dsimp only [Fm.cells, fmP, fmB, fmE] at kP kB kE
  refine calls [] Tryz.func6 rfl Tryz.ntmps6 rfl trivial ?_
  all_goals (refine WC.sr ?_; refine Go ?_; refine WC.sr ?_; refine WL.call (vs := []) rfl (fun a w => Tryz.call8 a w) rfl (new_eng) rfl rfl rfl ?_; rintro _ h1 ⟨be, me, rfl, hbe, hme, hge, hgm, hx1⟩; refine WL.call (vs := [_]) rfl (fun a w => Tryz.call7 a w) rfl (new_sess (some ⟨be, 0, none⟩)) rfl rfl rfl ?_; rintro _ h2 ⟨bs, ms, bp, mp, rfl, hbs, hms, hbp, hmp, l1, l2, l3, l4, hx2⟩; have lme := hme.lt; have K2 : Se h2 bs ms bp mp be me 73 false false 0 [] [] [] := ⟨hbs, hms, hbp, hmp, hx2.obj hbe nos, hme.ext hx2 nos, by omega, by omega, by omega⟩; have X2 := hx1.trans hx2; have s1 := hx1.size; refine Go ?_; refine WC.seq ?_; refine WC.sr ?_; refine Go ?_; refine WL.step (ok_eqlPn Tryz.underlying25 rfl rfl) rfl rfl rfl ?_; refine Gn ?_; refine Gs [(1, _), (7, _)] ?_; refine goC 1 2 ?_ TT.mk; refine goB 2 ?_; refine WC.skip ?_; refine Gn ?_; refine WC.sr ?_; refine Go ?_; refine WL.step (ok_buildF (vs := [_, _, _]) (cs := [_, _, _, _, _, _, _, _, _, _]) (fun | [a0, a2, a4] => [a0, (.int .u8 0), a2, (St []), a4, (.slice none 0 0), (.slice none 0 0), (.slice none 0 0), (.slice none 0 0), (.int .i64 0)] | _ => []) rfl rfl (by kernel_rfl)) rfl rfl rfl ?_; refine WL.call (vs := [_, _]) rfl (fun a w => Tryz.call9 a w) rfl (kP _ _ _ _ _ _ _ K2) rfl rfl rfl ?_; rintro _ h3 ⟨K3, x3⟩; have X3 : Ext No h h3 := X2.trans' x3 (fun q hq e => by omega); refine Gn ?_; refine Gs [(1, _)] ?_; refine WC.sr ?_; refine Go ?_; refine WL.step (ok_buildF (vs := [_, _]) (cs := [_, _, _, _, _, _, _, _, _, _]) (fun | [a0, a2] => [a0, (.int .u8 0), a2, (St []), (St []), (.slice none 0 0), (.slice none 0 0), (.slice none 0 0), (.slice none 0 0), (.int .i64 0)] | _ => []) rfl rfl (by kernel_rfl)) rfl rfl rfl ?_; refine WL.call (vs := [_, _]) rfl (fun a w => Tryz.call9 a w) rfl (kB _ _ _ _ _ _ _ K3) rfl rfl rfl ?_; rintro _ h4 ⟨⟨p, d, K4, hp4, ok4, pl4, ap4, lp⟩, x4⟩; have X4 : Ext No h h4 := X3.trans' x4 (fun q hq e => by omega); have s3 := X3.size; refine Gn ?_; refine WC.sr ?_; refine Go ?_; refine WL.step (ok_buildF (vs := [_]) (cs := [_, _, _, _, _, _, _, _, _, _]) (fun | [a0] => [a0, (.int .u8 0), (St []), (St []), (St []), (.slice none 0 0), (.slice none 0 0), (.slice none 0 0), (.slice none 0 0), (.int .i64 0)] | _ => []) rfl rfl (by kernel_rfl)) rfl rfl rfl ?_; refine WL.call (vs := [_, _]) rfl (fun a w => Tryz.call9 a w) rfl (kE _ _ _ _ _ _ _ _ _ K4 hp4 ok4 pl4 ap4) rfl rfl rfl ?_; rintro _ h5 ⟨⟨q5, rfl, hq5, K5⟩, x5⟩; have X5 : Ext No h h5 := X4.trans' x5 (fun q hq e => by omega); refine Go ?_; refine Gs [(1, _), (2, _)] ?_; refine WC.sr ?_; refine Go ?_; refine WL.step (ok_buildF (vs := [_]) (cs := [_, _, _, _, _, _, _, _, _, _]) (fun | [a0] => [a0, (.int .u8 0), (St []), (St []), (St []), (.slice none 0 0), (.slice none 0 0), (.slice none 0 0), (.slice none 0 0), (.int .i64 0)] | _ => []) rfl rfl (by kernel_rfl)) rfl rfl rfl ?_; refine WL.call (vs := [_, _]) rfl (fun a w => Tryz.call9 a w) rfl (do_sync (by decide) K5) rfl rfl rfl ?_; rintro _ h6 ⟨q6, rfl, hq6, K6, x6⟩)
  all_goals (have X6 : Ext No h h6 := X5.trans' x6 (fun q hq e => by omega)
             have hq56 := x6.obj hq5 (fun e => by
              subst e
              rw [K5.blk] at hq5
              simp only [Option.some.injEq, Obj.cells.injEq] at hq5
              exact absurd hq5.2.1 (by decide))
             unfold bkC at hq56 hq6)
  all_goals (refine Go ?_; refine WC.sr ?_; refine Go ?_; refine goP 23 ?_ TT.mk; refine Gg ?_; refine WL.step (ok_idxAddrA Tryz.underlying33 (fun w => Tryz.sizeOf42 w) rfl rfl rfl (by first | omega | (simp <;> omega)) (by first | rfl | assumption) (k := 0)) rfl rfl rfl ?_; refine Gg ?_; refine WL.ld rfl (by first | exact cell_blk hq56 rfl | assumption | exact cell_blk (by assumption) rfl) rfl rfl rfl ?_; refine Gg ?_; refine Go ?_; refine goP 30 ?_ TT.mk; refine Gg ?_; refine Go ?_; refine goP 35 ?_ TT.mk; refine Gg ?_; refine WL.step (ok_idxAddrA Tryz.underlying33 (fun w => Tryz.sizeOf42 w) rfl rfl rfl (by first | omega | (simp <;> omega)) (by first | rfl | assumption) (k := 0)) rfl rfl rfl ?_; refine Gg ?_; refine WL.ld rfl (by first | exact cell_blk hq6 rfl | assumption | exact cell_blk (by assumption) rfl) rfl rfl rfl ?_; refine Gg ?_; refine Go ?_; refine goP 42 ?_ TT.mk; refine Gg ?_; refine WL.call (vs := [_]) rfl (fun a w => Tryz.call13 a w) rfl (status_v K6.blk) rfl rfl rfl ?_; rintro _ hz ⟨rfl, _⟩; subst hz; refine Gg ?_; refine Go ?_; refine goP 47 ?_ TT.mk; refine Gg ?_; refine WL.call (vs := [_]) rfl (fun a w => Tryz.call12 a w) rfl (names_v K6.blk K6.stm (by decide)) rfl rfl rfl ?_; rintro v7 h7 ⟨N, hN, ho7, hx7⟩; obtain rfl : N = [([97] : List UInt8)] := List.perm_singleton.1 hN; rw [show srtS [([97] : List UInt8)] = [([97] : List UInt8)] by simp [srtS]] at ho7)
  all_goals (refine WL.stepR (okE_buildSlice (vs := [_]) (cs := [_]) (fun | [a0] => [a0] | _ => []) Tryz.underlying35 rfl rfl (by kernel_rfl)) rfl rfl rfl ?_; rintro _ h8 ⟨b8, rfl, hg8, hb8, hx8⟩; refine WL.call (vs := [_, _]) rfl (fun a w => Tryz.call14 a w) rfl (equal_str [([97] : List UInt8)] [([97] : List UInt8)] (ho7.rd.ext0 hx8) (rd_blk hb8 rfl) (by decide) (by decide)) rfl rfl rfl ?_; rintro _ hz ⟨rfl, e9⟩; subst e9; refine Go ?_; refine Gs [(0, _)] ?_; refine Gt ?_; exact ⟨rfl, (X6.trans hx7).trans hx8⟩)
end Go.Proofs.YtbokngiajfdanaaGreatDoor


/-
  SESSIONS (layer 30): errors.As at a target of type *wrong, turned from the kit's worked text (ToyasAs) to this seat's types.
-/
namespace Go.Proofs.YtbokngiajfdanaaGreatDoor
open Go Go.RowKit Go.Extern.Stop Go.Stop Go.Extern
open Go.RK (St In)

theorem Rf.valueOf27 (t : Addr) (w : World) : (ReflectliteValue.unpack (.iface 71 (.pointer (some t)))).run Tryz.prog w
    = .ok (.agg #[.pointer (some ⟨4, 71, none⟩), .pointer (some ⟨w.heap.size, 0, none⟩), .int .u64 150]) (w.alloc (.cells #[.pointer (some t)] 71)) := by kernel_rfl
theorem Rf.type27 (a : Addr) (w : World) : (ReflectliteValue.methodAny (ReflectliteValue.valueError "reflectlite.Value.Type" 0) (fun t _ _ _ => ReflectliteType.toType t) #[.agg #[.pointer (some ⟨4, 71, none⟩), .pointer (some a), .int .u64 150]]).run Tryz.prog w
    = .ok (.iface 164 (.agg #[.pointer (some ⟨4, 71, none⟩)])) w := by kernel_rfl
theorem Rf.methodKind (h : Value) (w : World) : (Go.method 419 164 (.agg #[h]) "Kind").run Tryz.prog w = .ok (239, h) w := by kernel_rfl
theorem Rf.kind27 (w : World) : ((ReflectliteType.abiMethod fun t => (fun a : Nat => Value.int IntKind.u8 (a : Int)) <$> Rtype.kind t) #[.pointer (some ⟨4, 71, none⟩)]).run Tryz.prog w = .ok (.int .u8 22) w := by kernel_rfl
theorem Rf.kind25 (w : World) : ((ReflectliteType.abiMethod fun t => (fun a : Nat => Value.int IntKind.u8 (a : Int)) <$> Rtype.kind t) #[.pointer (some ⟨4, 69, none⟩)]).run Tryz.prog w = .ok (.int .u8 25) w := by kernel_rfl

theorem rlm (z : Sem Value) (f : TypeId → Addr → Nat → Nat → Sem Value) (v : Value) :
    ReflectliteValue.method z f #[v] = (do match ← ReflectliteValue.parts v with | none => z | some (t, a, fl) => f t a fl (fl % 32)) := rfl
theorem Rf.parts27 (a : Addr) (w : World) : (ReflectliteValue.parts (.agg #[.pointer (some ⟨4, 71, none⟩), .pointer (some a), .int .u64 150])).run Tryz.prog w = .ok (some (71, a, 150)) w := by kernel_rfl
theorem Rf.isNil27 (a p : Addr) (W : World) (ha : W.cell? a = some (.pointer (some p))) :
    (ReflectliteValue.method (ReflectliteValue.valueError "reflectlite.Value.IsNil" 0) ReflectliteValue.isNil #[.agg #[.pointer (some ⟨4, 71, none⟩), .pointer (some a), .int .u64 150]]).run Tryz.prog W = .ok (.bool false) W := by
  rw [rlm]
  simp only [Sem.run_bind, Rf.parts27, Result.andThen]
  simp [ReflectliteValue.isNil, loadVar, isAgg, underlying, Tryz.underlying71, ha, Result.andThen]

theorem Rf.methodElem (h : Value) (w : World) : (Go.method 419 164 (.agg #[h]) "Elem").run Tryz.prog w = .ok (250, .agg #[h]) w := by kernel_rfl
theorem Rf.methodImplements (h : Value) (w : World) : (Go.method 419 164 (.agg #[h]) "Implements").run Tryz.prog w = .ok (251, .agg #[h]) w := by kernel_rfl
theorem Rf.methodAssignableTo (h : Value) (w : World) : (Go.method 419 164 (.agg #[h]) "AssignableTo").run Tryz.prog w = .ok (248, .agg #[h]) w := by kernel_rfl
theorem Rf.elem27 (w : World) : (ReflectliteType.method ReflectliteType.elem #[.agg #[.pointer (some ⟨4, 71, none⟩)]]).run Tryz.prog w = .ok (.iface 164 (.agg #[.pointer (some ⟨4, 69, none⟩)])) w := by kernel_rfl
theorem Rf.implements25 (w : World) : (ReflectliteType.relation "Implements" ReflectliteType.implements_ #[.agg #[.pointer (some ⟨4, 69, none⟩)], .iface 164 (.agg #[.pointer (some ⟨4, 65, none⟩)])]).run Tryz.prog w = .ok (.bool true) w := by kernel_rfl
theorem Rf.typeOf25 (v : Value) (w : World) : (ReflectliteType.typeOf #[.iface 69 v]).run Tryz.prog w = .ok (.iface 164 (.agg #[.pointer (some ⟨4, 69, none⟩)])) w := by kernel_rfl
theorem Rf.assignable25 (w : World) : (ReflectliteType.relation "AssignableTo" ReflectliteType.assignableTo #[.agg #[.pointer (some ⟨4, 69, none⟩)], .iface 164 (.agg #[.pointer (some ⟨4, 69, none⟩)])]).run Tryz.prog w = .ok (.bool true) w := by kernel_rfl
theorem Rf.valueOf25 (a c : List UInt8) (w : World) : (ReflectliteValue.unpack (.iface 69 (.agg #[St a, St c]))).run Tryz.prog w
    = .ok (.agg #[.pointer (some ⟨4, 69, none⟩), .pointer (some ⟨w.heap.size, 0, none⟩), .int .u64 153]) (w.alloc (.cells #[St a, St c] 69)) := by kernel_rfl

theorem Rf.elemOf27 (w : World) : (Rtype.elem? 71).run Tryz.prog w = .ok (some 69) w := by kernel_rfl
theorem Rf.mk25 (p : Addr) (w : World) : (ReflectliteValue.mk 69 p ReflectliteValue.flagAddr).run Tryz.prog w = .ok (.agg #[.pointer (some ⟨4, 69, none⟩), .pointer (some p), .int .u64 409]) w := by kernel_rfl
theorem Rf.elemV27 (a p : Addr) (W : World) (ha : W.cell? a = some (.pointer (some p))) :
    (ReflectliteValue.method (ReflectliteValue.valueError "reflectlite.Value.Elem" 0) ReflectliteValue.elem #[.agg #[.pointer (some ⟨4, 71, none⟩), .pointer (some a), .int .u64 150]]).run Tryz.prog W
      = .ok (.agg #[.pointer (some ⟨4, 69, none⟩), .pointer (some p), .int .u64 409]) W := by
  rw [rlm]
  simp only [Sem.run_bind, Rf.parts27, Result.andThen]
  simp [ReflectliteValue.elem, loadVar, isAgg, underlying, Tryz.underlying71, ha, Result.andThen, Rf.elemOf27, Rf.mk25]
theorem rls (v x : Value) : ReflectliteValue.set #[v, x] = (do
    let (some (dst, a, fl), some (src, b, _)) := (← ReflectliteValue.parts v, ← ReflectliteValue.parts x)
      | unsupported (.noEntry "extern/(internal/reflectlite.Value).Set.zeroValue")
    if fl / ReflectliteValue.flagAddr % 2 == 0 then unsupported (.noEntry "extern/(internal/reflectlite.Value).Set.unaddressable")
    let val ← loadVar src b
    if ← Rtype.directlyAssignable dst src then storeVar dst a val
    else if ← Rtype.implements dst src then
      if (← Rtype.kind src) == 20 then
        match val with
        | .nilIface => unsupported (.noEntry "extern/reflectlite: a nil value of one interface type handed on as a value of another")
        | _ => storeVar dst a val
      else storeVar dst a (.iface src val)
    else panicString ("reflectlite.Set: value of type " ++ (← Rtype.spelt src) ++ " is not assignable to type " ++ (← Rtype.spelt dst))
    pure (.tuple #[])) := rfl
theorem Rf.parts25a (a : Addr) (w : World) : (ReflectliteValue.parts (.agg #[.pointer (some ⟨4, 69, none⟩), .pointer (some a), .int .u64 409])).run Tryz.prog w = .ok (some (69, a, 409)) w := by kernel_rfl
theorem Rf.parts25 (a : Addr) (w : World) : (ReflectliteValue.parts (.agg #[.pointer (some ⟨4, 69, none⟩), .pointer (some a), .int .u64 153])).run Tryz.prog w = .ok (some (69, a, 153)) w := by kernel_rfl
theorem Rf.direct25 (w : World) : (Rtype.directlyAssignable 69 69).run Tryz.prog w = .ok true w := by kernel_rfl
end Go.Proofs.YtbokngiajfdanaaGreatDoor


/-
  SESSIONS (layer 30): errors.As at a target of type *wrong: it is set.
-/
namespace Go.Proofs.YtbokngiajfdanaaGreatDoor
open Go Go.RowKit Go.Extern.Stop Go.Stop Go.Extern
open Go.RK (St In)

theorem push_old (h : Array Obj) (o : Obj) {k : Nat} (hk : k < h.size) : (h.push o)[k]? = h[k]? := by simp [Array.getElem?_push, Nat.ne_of_lt hk]
theorem Rf.set25 (a c : List UInt8) (bt b : Nat) (o1 o2 : Value) (W : World) (hb : W.heap[b]? = some (.cells ⟨[St a, St c]⟩ 69 (0, 0))) (ht : W.heap[bt]? = some (.cells ⟨[o1, o2]⟩ 69 (0, 0))) :
    ∃ w', (ReflectliteValue.set #[.agg #[.pointer (some ⟨4, 69, none⟩), .pointer (some ⟨bt, 0, none⟩), .int .u64 409], .agg #[.pointer (some ⟨4, 69, none⟩), .pointer (some ⟨b, 0, none⟩), .int .u64 153]]).run Tryz.prog W
      = .ok (.tuple #[]) w' ∧ Go.RK.Same W w' ∧ w'.heap = W.heap.setIfInBounds bt (.cells ⟨[St a, St c]⟩ 69 (0, 0)) := by
  have i1 := Tryz.isAgg69 W
  have s1 := Tryz.sizeOf69 W
  have l1 : (loadCells ⟨b, 0, none⟩ 2).run Tryz.prog W = .ok #[St a, St c] W := run_loadCells_list W _ [St a, St c] fun j v hj => by rw [Addr.add_lit]; exact Go.RK.At.of_block hb j v hj
  obtain ⟨w', hr, hs, hh⟩ := Go.RK.run_storeCells_block (P := Tryz.prog) bt 69 [St a, St c] 0 0 [o1, o2] W ht (by simp) (by simp [Value.oneCell'])
  refine ⟨w', ?_, hs, by rw [hh]; simp⟩
  rw [rls]
  simp only [Sem.run_bind, Rf.parts25a, Rf.parts25, Result.andThen]
  simp [ReflectliteValue.flagAddr, loadVar, i1, s1, l1, Result.andThen, Rf.direct25, storeVar, Value.cells, hr]

set_option maxHeartbeats 4000000 in
theorem as_hit (a c : List UInt8) (bt : Nat) (o1 o2 : Value) (w : World) (hg : w.cell? ⟨0, 0, none⟩ = some (.iface 164 (.agg #[.pointer (some ⟨4, 65, none⟩)]))) (ht0 : w.heap[bt]? = some (.cells ⟨[o1, o2]⟩ 69 (0, 0))) :
    Calls Tryz.prog 24 #[.iface 69 (.agg #[St a, St c]), .iface 71 (.pointer (some ⟨bt, 0, none⟩))] w fun ev w' => ev = .returned (.bool true) ∧ Go.RK.Same ((((w.alloc (.cells #[.pointer (some ⟨bt, 0, none⟩)] 71)).alloc (.cells #[.pointer (some ⟨4, 71, none⟩), .pointer (some ⟨w.heap.size, 0, none⟩), .int .u64 150] 102)).alloc (.cells #[.pointer (some ⟨4, 71, none⟩), .pointer (some ⟨w.heap.size, 0, none⟩), .int .u64 150] 102)).alloc (.cells #[St a, St c] 69)) w' ∧ w'.heap = ((((w.alloc (.cells #[.pointer (some ⟨bt, 0, none⟩)] 71)).alloc (.cells #[.pointer (some ⟨4, 71, none⟩), .pointer (some ⟨w.heap.size, 0, none⟩), .int .u64 150] 102)).alloc (.cells #[.pointer (some ⟨4, 71, none⟩), .pointer (some ⟨w.heap.size, 0, none⟩), .int .u64 150] 102)).alloc (.cells #[St a, St c] 69)).heap.setIfInBounds bt (.cells ⟨[St a, St c]⟩ 69 (0, 0)) := by
  have h6 := @run_callFunc_extern Tryz.prog 52 _ (fun args => ReflectliteValue.unpack (args.getD 0 (.tuple #[]))) Tryz.func52 (by kernel_rfl) (by kernel_rfl) (by kernel_rfl) (by kernel_rfl)
  have h7 := @run_callFunc_extern Tryz.prog 53 _ (ReflectliteValue.methodAny (ReflectliteValue.valueError "reflectlite.Value.Type" 0) (fun t _ _ _ => ReflectliteType.toType t)) Tryz.func53 (by kernel_rfl) (by kernel_rfl) (by kernel_rfl) (by kernel_rfl)
  have h8 := @run_callFunc_extern Tryz.prog 54 _ (ReflectliteValue.method (ReflectliteValue.valueError "reflectlite.Value.IsNil" 0) ReflectliteValue.isNil) Tryz.func54 (by kernel_rfl) (by kernel_rfl) (by kernel_rfl) (by kernel_rfl)
  have h27 := @run_callFunc_extern Tryz.prog 239 _ (ReflectliteType.abiMethod fun t => do pure (.int .u8 (← Rtype.kind t))) Tryz.func239 (by kernel_rfl) (by kernel_rfl) (by kernel_rfl) (by kernel_rfl)
  have h37 := @run_callFunc_extern Tryz.prog 250 _ (ReflectliteType.method ReflectliteType.elem) Tryz.func250 (by kernel_rfl) (by kernel_rfl) (by kernel_rfl) (by kernel_rfl)
  have h38 := @run_callFunc_extern Tryz.prog 251 _ (ReflectliteType.relation "Implements" ReflectliteType.implements_) Tryz.func251 (by kernel_rfl) (by kernel_rfl) (by kernel_rfl) (by kernel_rfl)
  have h10 := @run_callFunc_extern Tryz.prog 99 _ ReflectliteType.typeOf Tryz.func99 (by kernel_rfl) (by kernel_rfl) (by kernel_rfl) (by kernel_rfl)
  have h35 := @run_callFunc_extern Tryz.prog 248 _ (ReflectliteType.relation "AssignableTo" ReflectliteType.assignableTo) Tryz.func248 (by kernel_rfl) (by kernel_rfl) (by kernel_rfl) (by kernel_rfl)
  have h11 := @run_callFunc_extern Tryz.prog 100 _ (ReflectliteValue.method (ReflectliteValue.valueError "reflectlite.Value.Elem" 0) ReflectliteValue.elem) Tryz.func100 (by kernel_rfl) (by kernel_rfl) (by kernel_rfl) (by kernel_rfl)
  have h12 := @run_callFunc_extern Tryz.prog 101 _ ReflectliteValue.set Tryz.func101 (by kernel_rfl) (by kernel_rfl) (by kernel_rfl) (by kernel_rfl)
  have tO := Rf.typeOf25
  have mA := Rf.methodAssignableTo
  have a25 := Rf.assignable25
  have v25 := Rf.valueOf25
  have f6 := Rf.valueOf27
  have f7 := Rf.type27
  have mK := Rf.methodKind
  have mE := Rf.methodElem
  have mI := Rf.methodImplements
  have k27 := Rf.kind27
  have k25 := Rf.kind25
  have e27 := Rf.elem27
  have i25 := Rf.implements25
  have n8 := Rf.isNil27 ⟨w.heap.size, 0, none⟩ ⟨bt, 0, none⟩ ((w.alloc (.cells #[.pointer (some ⟨bt, 0, none⟩)] 71)).alloc (.cells #[.pointer (some ⟨4, 71, none⟩), .pointer (some ⟨w.heap.size, 0, none⟩), .int .u64 150] 102)) (by simp)
  have hlt : 0 < w.heap.size := by
    rcases Nat.eq_zero_or_pos w.heap.size with h0 | h
    · simp [World.cell?, h0] at hg
    · exact h
  have hg2 : ((w.alloc (.cells #[.pointer (some ⟨bt, 0, none⟩)] 71)).alloc (.cells #[.pointer (some ⟨4, 71, none⟩), .pointer (some ⟨w.heap.size, 0, none⟩), .int .u64 150] 102)).cell? ⟨0, 0, none⟩ = some (.iface 164 (.agg #[.pointer (some ⟨4, 65, none⟩)])) := by
    rw [World.cell?_alloc_lt _ _ ⟨0, 0, none⟩ (by simp), World.cell?_alloc_lt _ _ ⟨0, 0, none⟩ hlt]; exact hg
  have htl : bt < w.heap.size := Go.RK.lt_of_some ht0
  have el := Rf.elemV27 ⟨w.heap.size, 0, none⟩ ⟨bt, 0, none⟩ (((w.alloc (.cells #[.pointer (some ⟨bt, 0, none⟩)] 71)).alloc (.cells #[.pointer (some ⟨4, 71, none⟩), .pointer (some ⟨w.heap.size, 0, none⟩), .int .u64 150] 102)).alloc (.cells #[.pointer (some ⟨4, 71, none⟩), .pointer (some ⟨w.heap.size, 0, none⟩), .int .u64 150] 102)) (by rw [World.cell?_alloc_lt _ _ ⟨w.heap.size, 0, none⟩ (by simp; omega)]; simp)
  obtain ⟨w', st, hsm, hhp⟩ := Rf.set25 a c bt (w.heap.size + 1 + 1 + 1) o1 o2 ((((w.alloc (.cells #[.pointer (some ⟨bt, 0, none⟩)] 71)).alloc (.cells #[.pointer (some ⟨4, 71, none⟩), .pointer (some ⟨w.heap.size, 0, none⟩), .int .u64 150] 102)).alloc (.cells #[.pointer (some ⟨4, 71, none⟩), .pointer (some ⟨w.heap.size, 0, none⟩), .int .u64 150] 102)).alloc (.cells #[St a, St c] 69))
    (by simp only [World.alloc]; rw [Array.getElem?_push, if_pos (by simp)])
    (by simp only [World.alloc]; rw [push_old _ _ (by simp; omega), push_old _ _ (by simp; omega), push_old _ _ (by simp; omega), push_old _ _ htl]; exact ht0)
  go_enter Tryz.func24, Tryz.ntmps24
  go_wp2
  refine wp_loop_rounds 1 ?_
  rw [rounds_succ]
  go_wp2
  go_ret
  exact ⟨rfl, hsm, hhp⟩
end Go.Proofs.YtbokngiajfdanaaGreatDoor


/-
  SESSIONS (layer 30): errors.As at a target of type *wrong, by heaps; what the laid variable gives.
-/
namespace Go.Proofs.YtbokngiajfdanaaGreatDoor
open Go Go.RK

/-- What the library's one handle holds. -/
def Er (h : Heap) : Prop := At h 0 0 [.iface 164 (.agg #[.pointer (some ⟨4, 65, none⟩)])]
theorem Er.ext0 {h h' : Heap} (e : Er h) (a : Ext No h h') : Er h' := At.ext e a nos
theorem Er.ext {h h' : Heap} {S : Nat → Prop} (e : Er h) (a : Ext S h h') (hS : ¬ S 0) : Er h' := At.ext e a hS
theorem errAs_hit {h : Heap} {bt : Nat} {o1 o2 : Value} (a c : List UInt8) (er : Er h) (hb : h[bt]? = some (.cells ⟨[o1, o2]⟩ 69 (0, 0))) :
    CallsH Tryz.prog 24 ⟨[.iface 69 (.agg ⟨[St a, St c]⟩), .iface 71 (.pointer (some ⟨bt, 0, none⟩))]⟩ h fun u h' => u = .bool true ∧ h'[bt]? = some (.cells ⟨[St a, St c]⟩ 69 (0, 0)) ∧ Ext (fun q => q = bt) h h' := fun w hw => by
  subst hw
  have hlt := lt_of_some hb
  refine (as_hit a c bt o1 o2 w (er 0 _ rfl) hb).mono fun e w' ⟨he, hsm, hhp⟩ => ?_
  refine ⟨⟨hsm.tape, hsm.os, hsm.output, hsm.drawn⟩, _, he, rfl, ?_, ?_, ?_⟩
  · rw [hhp]
    simp only [World.alloc, Array.getElem?_setIfInBounds, ↓reduceIte]
    rw [if_pos (by simp; omega)]
  · rw [hhp]
    simp only [World.alloc, Array.size_setIfInBounds, Array.size_push]
    omega
  · intro b hbl hS
    rw [hhp]
    simp only [World.alloc, Array.getElem?_setIfInBounds]
    rw [if_neg (fun e => hS e.symm), push_old _ _ (by simp; omega), push_old _ _ (by simp; omega), push_old _ _ (by simp; omega), push_old _ _ hbl]
theorem er_et : Tryz.prog.globalNamed "errors.errorType" = some 0 := by kernel_rfl
theorem er_rt : (Tryz.prog.cutTypes.find? (·.1 == "internal/reflectlite.rtype")).map (·.2) = some 164 := by kernel_rfl
theorem er_one : ((List.range 319).filter fun t => Tryz.prog.rowNamed t [101, 114, 114, 111, 114]) = [65] := by kernel_rfl
theorem er_size : Tryz.prog.types.size = 319 := by kernel_rfl
end Go.Proofs.YtbokngiajfdanaaGreatDoor


/-
  SESSIONS (layer 30), by the code: what is said of any message.
-/
namespace Go.Proofs.YtbokngiajfdanaaGreatDoor
open Go Go.RK

section
variable {h h' : Heap} {A : Ad} {st : Int} {sk ov : Bool} {cnt : Int} {L : List (List UInt8 × StD)} {P : List (List UInt8 × ItD)}
/-- The session itself and its portals turned. -/
theorem Ss.turnSP (k : Ss h A st sk ov cnt L P) {st' : Int} {sk' ov' : Bool} {P' : List (List UInt8 × ItD)} (x : Ext (fun z => z = A.bs ∨ z = A.mp) h h') (hb : h'[A.bs]? = some (.cells ⟨[.map (some A.ms), .pointer (some ⟨A.bp, 0, none⟩), .pointer (some ⟨A.be, 0, none⟩), .int .u8 st', .bool sk', .bool ov']⟩ 54 (0, 0))) (hm : Mp .string St h' A.mp (encK pcE P')) (hP : ∀ q ∈ P', q ∈ P) (hs : StOk st') : Ss h' A st' sk' ov' cnt L P' ∧ Tn A P h h' P' := by
  have hlt := lt_of_some k.se.blk
  have x1 := Ext.set (S := fun z => z = A.bs) h A.bs (.cells ⟨[.map (some A.ms), .pointer (some ⟨A.bp, 0, none⟩), .pointer (some ⟨A.be, 0, none⟩), .int .u8 st', .bool sk', .bool ov']⟩ 54 (0, 0)) rfl
  obtain ⟨k1, t1⟩ := k.turnS x1 (set_new k.se.blk) hs
  have x2 : Ext (fun z => z = A.mp) (h.setIfInBounds A.bs (.cells ⟨[.map (some A.ms), .pointer (some ⟨A.bp, 0, none⟩), .pointer (some ⟨A.be, 0, none⟩), .int .u8 st', .bool sk', .bool ov']⟩ 54 (0, 0))) h' := by
    refine ⟨by rw [Array.size_setIfInBounds]; exact x.size, fun z hz hn => ?_⟩
    rw [Array.size_setIfInBounds] at hz
    by_cases e : z = A.bs
    · subst e
      rw [hb, set_new k.se.blk]
    · rw [Array.getElem?_setIfInBounds_ne (fun y => e y.symm)]
      exact x.keep z hz (fun y => y.elim e hn)
  obtain ⟨k2, t2⟩ := k1.turnP x2 hm hP
  exact ⟨k2, t1.trans t2⟩
theorem err_ok {h : Heap} {v : Value} {c t : List UInt8} (hr : Rd h v 2 4 ((fl4 ([69, 82, 82, 79, 82] : List UInt8) c t).flatMap FieldD.cells)) : Bk.ok h ⟨69, 0, [], [], [], 0, 0, nS, [], nS, [], nS, [], v, fl4 ([69, 82, 82, 79, 82] : List UInt8) c t⟩ := ⟨⟨Rd.nil _ _, by simp⟩, ⟨Rd.nil _ _, by simp⟩, cels_zero _ _, ⟨hr, by simp [fl4, maxLen]⟩⟩
theorem err_F {v : Value} {c t : List UInt8} {q : Nat} (hq : Bk.F ⟨69, 0, [], [], [], 0, 0, nS, [], nS, [], nS, [], v, fl4 ([69, 82, 82, 79, 82] : List UInt8) c t⟩ q) : v.ownBlock = some q := by
  rcases hq with ⟨e, _⟩ | ⟨e, _⟩ | e | ⟨_, e⟩
  · exact absurd e (Nat.lt_irrefl 0)
  · exact absurd e (Nat.lt_irrefl 0)
  · exact (celsF_nil rfl e).elim
  · exact e
set_option maxHeartbeats 2000000 in
set_option maxRecDepth 100000 in
theorem failed_v (k : Ss h A st sk ov cnt L P) (c t : List UInt8) : CallsH Tryz.prog 25 ⟨[.pointer (some ⟨A.bs, 0, none⟩), .agg ⟨[St c, St t]⟩]⟩ h fun u h' => (∃ b : Bk, u = .agg ⟨b.cells⟩ ∧ b.ok h' ∧ b.p = errP c t ∧ ∀ z, b.F z → h.size ≤ z) ∧
    (∃ P', (∀ q ∈ P', q ∈ P) ∧ Ss h' A (failP st) sk ov cnt L P' ∧ plP P' = (if failP st = 69 then [] else plP P) ∧ Tn A P h h' P') ∧ Ext (fun q => q = A.bs ∨ q = A.mp) h h' := by
  have hso := failP_ok k.sto
  have kf := fun h' => txfail_v (h := h') k.sto
  have lb := lt_of_some k.se.blk
  by_cases e : failP st = 69
  · rw [if_pos e]
    rw [e] at kf ⊢
    refine calls [(0, _), (1, _)] Tryz.func25 rfl Tryz.ntmps25 rfl ⟨rfl, rfl, trivial⟩ ?_
    all_goals (refine WC.sr ?_; refine WL.stepR (okE_box rfl) rfl rfl rfl ?_; rintro _ h1 ⟨b3, rfl, hg1, hb1, hx1⟩; refine WL.stepR (okE_alloc (fun w => Tryz.zeroValue42 w)) rfl rfl rfl ?_; rintro _ h2 ⟨b4, rfl, hg2, hb2, hx2⟩; have k2 := (k.ext0 hx1).ext0 hx2; have hb12 := hx2.obj hb1 nos; have s1 := hx1.size; refine Gn ?_; refine WC.sr ?_; refine Go ?_; refine WL.step (ok_nilCheck rfl) rfl rfl rfl ?_; refine Go ?_; refine WL.ld rfl (by first | exact cell_blk k2.se.blk rfl | assumption | exact cell_blk (by assumption) rfl) rfl rfl rfl ?_; refine WL.call (vs := [_]) rfl (fun a w => Tryz.call56 a w) rfl (kf _) rfl rfl rfl ?_; rintro _ hz ⟨rfl, _⟩; subst hz; refine WL.step (ok_nilCheck rfl) rfl rfl rfl ?_; refine Go ?_; refine WL.stepR0 (okE_store (fun w => Tryz.sizeOf5 w) rfl rfl k2.se.blk (Nat.le_of_ble_eq_true rfl) rfl rfl) rfl rfl ?_; rintro _ h3 ⟨hb3, hx3⟩; obtain ⟨k3, t3⟩ := k2.turnS hx3 hb3 (by first | exact e ▸ hso | exact hso); have hb33 := hx3.obj hb12 (fun e => cells_ne hb12 k2.se.blk (by decide) e); have hb43 := hx3.obj hb2 (fun e => cells_ne hb2 k2.se.blk (by decide) e); have X03 : Ext (fun q => q = A.bs) h h3 := ((hx1.trans hx2).mono fun _ _ e => e.elim).trans hx3; refine Gn ?_; refine Gs [(0, _), (3, _), (4, _)] ?_; refine WC.seq ?_; refine WC.sr ?_; refine Go ?_; refine WL.step (ok_nilCheck rfl) rfl rfl rfl ?_; refine Go ?_; refine WL.ld rfl (by first | exact cell_blk k3.se.blk rfl | assumption | exact cell_blk (by assumption) rfl) rfl rfl rfl ?_; refine Go ?_; refine Gs [(0, _), (3, _), (4, _), (17, _)] ?_; refine goC 1 2 ?_ TT.mk; refine goB 1 ?_; refine WC.region ?_; refine Go ?_; refine WL.step (ok_nilCheck rfl) rfl rfl rfl ?_; refine Go ?_; refine WL.ld rfl (by first | exact cell_blk k3.se.blk rfl | assumption | exact cell_blk (by assumption) rfl) rfl rfl rfl ?_; refine WL.call (vs := [_]) rfl (fun a w => Tryz.call45 a w) rfl (clear_v k3) rfl rfl rfl ?_; rintro _ h4 ⟨rfl, k4, t4, hx4⟩; have hb34 := hx4.obj hb33 (fun e => mpNo k3.se.pm hb33 e); have hb44 := hx4.obj hb43 (fun e => mpNo k3.se.pm hb43 e); have X04 : Ext (fun q => q = A.bs ∨ q = A.mp) h h4 := (X03.mono fun _ _ e => .inl e).trans (hx4.mono fun _ _ e => .inr e); refine Gn ?_; refine Gn ?_; refine WC.sr ?_; refine Go ?_; refine WL.ld rfl (by first | exact cell_blk hb34 rfl | assumption | exact cell_blk (by assumption) rfl) rfl rfl rfl ?_; refine Go ?_; refine WL.ld rfl (by first | exact cell_blk hb34 rfl | assumption | exact cell_blk (by assumption) rfl) rfl rfl rfl ?_; refine WL.call (vs := [_, _]) rfl (fun a w => Tryz.call57 a w) rfl (error_f c t) rfl rfl rfl ?_; rintro _ h5 ⟨v5, rfl, ho5, hx5, hf5⟩; obtain ⟨A5, c5, rfl, _⟩ := ho5.slice; refine WL.stepR0 (okE_storeW (fun w => Tryz.sizeOf42 w) rfl rfl rfl (hx5.obj hb44 nos) rfl (by simp [eB, Value.oneCell'])) rfl rfl ?_; rintro _ h6 ⟨hb6, hx6⟩; have X06 := (X04.trans (hx5.mono fun _ _ e => e.elim)).trans' hx6 (fun q hq e => by omega); have kk := k.turnSP (P' := []) X06 (hx6.obj (hx5.obj k4.se.blk nos) (cells_ne k4.se.blk hb44 (by decide))) ((k4.se.pm.ext hx5 nos).ext hx6 (fun e => mpNo k4.se.pm hb44 e.symm)) (fun q hq => nomatch hq) (e ▸ hso); refine Gn ?_)
    all_goals (refine Gs [(4, _)] ?_; refine WC.ret ?_; repeat' (with_reducible first | refine thenP_r ?_ | refine blockP_r ?_))
    all_goals (refine retP_1 _ ⟨⟨_, rfl, ld_blk (fun w => Tryz.isAgg42 w) (fun w => Tryz.sizeOf42 w) hb6 rfl⟩, trivial⟩ ?_; exact ⟨⟨⟨69, 0, [], [], [], 0, 0, nS, [], nS, [], nS, [], .slice A5 4 c5, fl4 ([69, 82, 82, 79, 82] : List UInt8) c t⟩, rfl, err_ok (ho5.ext hx6 (fun q hq z => by have := hf5 q hq; have := lt_of_some hb44; omega)).rd, rfl, fun z hz => by have := hf5 z (err_F hz); have := X04.size; omega⟩, ⟨[], (fun q hq => nomatch hq), kk.1, rfl, kk.2⟩, X06⟩)
  · rw [if_neg e]
    refine calls [(0, _), (1, _)] Tryz.func25 rfl Tryz.ntmps25 rfl ⟨rfl, rfl, trivial⟩ ?_
    all_goals (refine WC.sr ?_; refine WL.stepR (okE_box rfl) rfl rfl rfl ?_; rintro _ h1 ⟨b3, rfl, hg1, hb1, hx1⟩; refine WL.stepR (okE_alloc (fun w => Tryz.zeroValue42 w)) rfl rfl rfl ?_; rintro _ h2 ⟨b4, rfl, hg2, hb2, hx2⟩; have k2 := (k.ext0 hx1).ext0 hx2; have hb12 := hx2.obj hb1 nos; have s1 := hx1.size; refine Gn ?_; refine WC.sr ?_; refine Go ?_; refine WL.step (ok_nilCheck rfl) rfl rfl rfl ?_; refine Go ?_; refine WL.ld rfl (by first | exact cell_blk k2.se.blk rfl | assumption | exact cell_blk (by assumption) rfl) rfl rfl rfl ?_; refine WL.call (vs := [_]) rfl (fun a w => Tryz.call56 a w) rfl (kf _) rfl rfl rfl ?_; rintro _ hz ⟨rfl, _⟩; subst hz; refine WL.step (ok_nilCheck rfl) rfl rfl rfl ?_; refine Go ?_; refine WL.stepR0 (okE_store (fun w => Tryz.sizeOf5 w) rfl rfl k2.se.blk (Nat.le_of_ble_eq_true rfl) rfl rfl) rfl rfl ?_; rintro _ h3 ⟨hb3, hx3⟩; obtain ⟨k3, t3⟩ := k2.turnS hx3 hb3 (by first | exact e ▸ hso | exact hso); have hb33 := hx3.obj hb12 (fun e => cells_ne hb12 k2.se.blk (by decide) e); have hb43 := hx3.obj hb2 (fun e => cells_ne hb2 k2.se.blk (by decide) e); have X03 : Ext (fun q => q = A.bs) h h3 := ((hx1.trans hx2).mono fun _ _ e => e.elim).trans hx3; refine Gn ?_; refine Gs [(0, _), (3, _), (4, _)] ?_; refine WC.seq ?_; refine WC.sr ?_; refine Go ?_; refine WL.step (ok_nilCheck rfl) rfl rfl rfl ?_; refine Go ?_; refine WL.ld rfl (by first | exact cell_blk k3.se.blk rfl | assumption | exact cell_blk (by assumption) rfl) rfl rfl rfl ?_; have hb34 := hb33; have hb44 := hb43; have k4 := k3; (have X04 : Ext (fun q => q = A.bs ∨ q = A.mp) h h3 := X03.mono fun _ _ e => .inl e); refine Go ?_; refine Gs [(0, _), (3, _), (4, _), (17, _)] ?_; refine goC 1 2 ?_ TT.mk; refine goB 2 ?_; refine WC.skip ?_; refine Gn ?_; refine WC.sr ?_; refine Go ?_; refine WL.ld rfl (by first | exact cell_blk hb34 rfl | assumption | exact cell_blk (by assumption) rfl) rfl rfl rfl ?_; refine Go ?_; refine WL.ld rfl (by first | exact cell_blk hb34 rfl | assumption | exact cell_blk (by assumption) rfl) rfl rfl rfl ?_; refine WL.call (vs := [_, _]) rfl (fun a w => Tryz.call57 a w) rfl (error_f c t) rfl rfl rfl ?_; rintro _ h5 ⟨v5, rfl, ho5, hx5, hf5⟩; obtain ⟨A5, c5, rfl, _⟩ := ho5.slice; refine WL.stepR0 (okE_storeW (fun w => Tryz.sizeOf42 w) rfl rfl rfl (hx5.obj hb44 nos) rfl (by simp [eB, Value.oneCell'])) rfl rfl ?_; rintro _ h6 ⟨hb6, hx6⟩; have X06 := (X04.trans (hx5.mono fun _ _ e => e.elim)).trans' hx6 (fun q hq e => by omega); have kk := k.turnSP X06 (hx6.obj (hx5.obj k4.se.blk nos) (cells_ne k4.se.blk hb44 (by decide))) ((k4.se.pm.ext hx5 nos).ext hx6 (fun e => mpNo k4.se.pm hb44 e.symm)) (fun q hq => hq) hso; refine Gn ?_; refine Gs [(4, _)] ?_; refine WC.ret ?_; repeat' (with_reducible first | refine thenP_r ?_ | refine blockP_r ?_))
    all_goals (refine retP_1 _ ⟨⟨_, rfl, ld_blk (fun w => Tryz.isAgg42 w) (fun w => Tryz.sizeOf42 w) hb6 rfl⟩, trivial⟩ ?_; exact ⟨⟨⟨69, 0, [], [], [], 0, 0, nS, [], nS, [], nS, [], .slice A5 4 c5, fl4 ([69, 82, 82, 79, 82] : List UInt8) c t⟩, rfl, err_ok (ho5.ext hx6 (fun q hq z => by have := hf5 q hq; have := lt_of_some hb44; omega)).rd, rfl, fun z hz => by have := hf5 z (err_F hz); have := X04.size; omega⟩, ⟨_, (fun q hq => hq), kk.1, rfl, kk.2⟩, X06⟩)
end
end Go.Proofs.YtbokngiajfdanaaGreatDoor


